/- Lemmas. No conditions. -/
import Derived.Test.YtidacnalcdhckaaGreatDoorLqE1
import Derived.Test.YtidacnalcdhckaaGreatDoorWq40
set_option maxRecDepth 100000
set_option maxHeartbeats 4000000
namespace Go.Proofs.YtidacnalcdhckaaGreatDoor
open Go Go.RowKit Tryz
variable {qP:Prop}

theorem Zdb2cbe0b5(h:qP:=by
 exact ⟨_,he,γ,H4A _ γ hx,fun _ _ _ h=>h,A4',c4',D4',e4',rfl,hab.mono fun _ _ _=>trivial⟩):qP:=h
theorem Zd34b36d49(h:qP:=by
 intro vals γ w' ρ hR hN hp hρ zs zg;have hxx:=hR.o.ext0 (fun _ _ _ h=>h.elim);have HXW:=Hd hxx;clear hxx;refine Qr ?_;refine (Hk w').mono ?_;rintro e1 w3 ⟨he,hx⟩;exact ⟨_,he,γ,H4A _ γ hx,fun _ _ _ h=>h,none,0,none,0,rfl,AbM.nil ⟨rfl,rfl⟩⟩):qP:=h
theorem PX(h:qP:=by
 rintro e1 w3 ⟨A4',c4',D4',e4',he,hab,hx⟩;exact Zdb2cbe0b5):qP:=h
theorem qaA(l0:List Int)(l1:List Int)(l2:List Int)(a0:OA)(d0:Nat)(a1:OA)(d1:Nat)(a2:OA)(d2:Nat)(w:World)(S:NP)(ht:Txa w)(h0:IntsL w S a0 l0)(k0:l0.length≤d0)(h1:IntsL w S a1 l1)(k1:l1.length≤d1)(h2:IntsL w S a2 l2)(k2:l2.length≤d2) :
  Cl 6 #[.slice a0 l0.length d0,.slice a1 l1.length d1,.slice a2 l2.length d2] w (Ae w true):=by
 obtain ⟨HT,H0,K0,H1,K1,H2,K2⟩:=Hd7 ht h0 k0 h1 k1 h2 k2;clear ht h0 k0 h1 k1 h2 k2
 go_enter func6,ntmps6
 go_wp2_with fail
 refine (BXA w HT.o).mono ?_;rintro ee w1 ⟨rfl,hx⟩;have HX1:=Hd hx;clear hx
 go_wp2_with fail
 refine (Xx l0 a0 d0 w1 S (H0.o.keep (HX1.o.kept _)) K0.o).mono ?_;rintro ee w2 ⟨aa,hz,A8,c8,D8,e8,rfl,hab,hx⟩;obtain ⟨HZ8,HX2,HE2,HA8⟩:=Hd4 hz (HX1.o.trans hx) hx (hab.mono (T:=(fun _=>True)) fun _ _ _=>trivial);clear hz hab hx
 go_wp2_with fail
 refine (Xx l1 a1 d1 w2 S (H1.o.keep (HX2.o.kept _)) K1.o).mono ?_;rintro ee w3 ⟨ab,hz,A9,c9,D9,e9,rfl,hab,hx⟩;obtain ⟨HZ9,HX3,HE3,HA9⟩:=Hd4 hz (HX2.o.trans hx) hx (hab.mono (T:=(fun _=>True)) fun _ _ _=>trivial);clear hz hab hx
 replace HA8:=Hd (HA8.o.keep (HE3.o.kept _))
 clear HE2 HE3 HX2;rename_i K1 hK1 K2 hK2;refine hK2 _ _ ?_;refine Ag rfl rfl ?_;obtain ⟨g8,hg8⟩:=eqx w3.heap.size;rw [←hg8];have hb8:=GK hg8;refine Ag rfl rfl ?_;generalize hw4:w3.alloc _=w4 at hb8⊢;obtain ⟨g9,hg9⟩:=eqx w4.heap.size;rw [←hg9];have hb9:=GK hg9;have hb8':=hb8.keep ((((Ext.refl w4).alloc (.cells Az 39))).kept _);refine AM rfl 39 _ _ rfl g8 (Ap aa A8 c8 D8 e8) rfl rfl 39 _ hb8' AH rfl AD ?_;intro w5 hb8n ho8;have hne:g8≠g9:=(by have:=hb8.lt;omega);have hb9':=hb9.keep (ho8.kept fun b _ e e'=>hne (e'.symm.trans e));refine AM rfl 39 _ _ rfl g9 (Ap ab A9 c9 D9 e9) rfl rfl 39 _ hb9' AH rfl AD ?_;intro w6 hb9n ho9;refine hK1 _ _ ?_;have hx4:Ext w3 w4:=(by rw [←hw4];exact (Ext.refl _).alloc _);have hxs:Ext w3 w6:=((hx4.alloc _).only ho8 (by rw [hg8];exact Al)).only ho9 (by rw [hg9];exact hx4.size);obtain ⟨HX6,HB8,HB9⟩:=Hd3 (HX3.o.trans hxs) (hb8n.keep (ho9.kept fun b _ e e'=>hne (e.symm.trans e'))) hb9n
 replace HA8:=Hd (HA8.o.keep (hxs.kept _))
 replace HA9:=Hd (HA9.o.keep (hxs.kept _))
 clear hb8 hb8' hb8n hb9 hb9' hb9n ho8 ho9 hne hg8 hg9 hw4 hx4 hxs hK1 hK2 HX3
 go_frame
 go_upto_region 3 with fail
 go_wp2_with fail
 refine (Ni l2 a2 d2 w6 S (H2.o.keep (HX6.o.kept _))).mono ?_;rintro ee w7 ⟨x,hrx,B10,b10,C10,k10,rfl,hcp,hrv,hx⟩;obtain ⟨HR10,HX7,HC10,HV10⟩:=Hd4 hrx (HX6.o.trans hx) hcp.1 (hrv.mono (T:=(fun _=>True)) fun _ _ _=>trivial)
 replace HA8:=Hd (HA8.o.keep (hx.kept _))
 replace HA9:=Hd (HA9.o.keep (hx.kept _))
 replace HB8:=Hd (HB8.o.keep (hx.kept _))
 replace HB9:=Hd (HB9.o.keep (hx.kept _))
 clear hx hrx hcp hrv
 go_upto_region 4 with fail
 obtain ⟨g10,hg⟩:=eqx w7.heap.size;rw [←hg];obtain ⟨w8,hw⟩:=eqx (w7.alloc (.cells (Vp x B10 b10 C10 k10) 29));rw [←hw];have hx:Ext w7 w8:=(by rw [hw];exact (Ext.refl _).alloc _);have HB10:=Hd (show Blk w8 g10 29 (Vp x B10 b10 C10 k10) by rw [hw,hg];exact Blk.new _ _ _);have HX8:=Hd (HX7.o.trans hx)
 replace HA8:=Hd (HA8.o.keep (hx.kept _))
 replace HA9:=Hd (HA9.o.keep (hx.kept _))
 replace HB8:=Hd (HB8.o.keep (hx.kept _))
 replace HB9:=Hd (HB9.o.keep (hx.kept _))
 replace HV10:=Hd (HV10.o.keep (hx.kept _))
 clear hx hw hg HX6 HX7;refine wp_region_lit ?_;refine AJ rfl 39 _ rfl g8 rfl HB8.o AS AH ?_
 go_wp2_with fail
 refine (EG aa A8 D8 c8 e8 w8 (fun _=>True) HA8.o.2.2.1 HA8.o.2.2.2 (HZ8.o.mono AB)).mono ?_;rintro ee wt ⟨A11,c11,D11,e11,rfl,hab,hxt⟩;have HZ11:=Hd HZ8.o.can;obtain ⟨ca,hca⟩:=eqx (AX aa);rw [←hca] at hab HZ11⊢;have HCA:=Hd hca;clear hca;rename_i K1 hK1 K2 hK2;refine hK2 _ _ ?_;refine Ag rfl rfl ?_;obtain ⟨g11,hg⟩:=eqx wt.heap.size;rw [←hg];refine AM rfl 39 _ _ rfl g11 (Ap ca A11 c11 D11 e11) rfl rfl 39 _ (GK hg) AH rfl AD ?_;intro w9 hb ho;refine hK1 _ _ ?_;have hxo:Ext wt w9:=(exaa wt).only ho Ez;have hx89:=hxt.trans hxo;obtain ⟨HX9,HB11,HA11⟩:=Hd3 (HX8.o.trans hx89) hb ((hab.mono (T:=(fun _=>True)) fun _ _ _=>trivial).keep (hxo.kept _))
 replace HB8:=Hd (HB8.o.keep (hx89.kept _))
 replace HB9:=Hd (HB9.o.keep (hx89.kept _))
 replace HB10:=Hd (HB10.o.keep (hx89.kept _))
 replace HA8:=Hd (HA8.o.keep (hx89.kept _))
 replace HA9:=Hd (HA9.o.keep (hx89.kept _))
 replace HV10:=Hd (HV10.o.keep (hx89.kept _))
 clear hK1 hK2 hb ho hxo hxt hx89 hab hg HX8
 go_frame
 go_upto_region 5 with fail
 obtain ⟨HJS,HMS,HJN,HME⟩:=Hd4 (show Fk aa aa=ca by rw [HCA.o];exact qal aa) (show Gq aa aa=ca by rw [HCA.o];exact qaF aa) (show Fk aa noneA=ca by rw [HCA.o];exact qat aa) (show Lq (Gq aa noneA)=true from qaE aa);refine Qa (fun _ _=>False) [] ?_;refine Qy HB8 AS AH ?_;refine Qy HB8 AS AH ?_;refine Qs (FP fun v γ w'=>SvA (ca) v w') (H1A ?_) ?_ ?_
 ·exact Bn
 ·intro vals γ w' ρ hR hN hp hρ zs zg;have hxx:=hR.o.ext0 (fun _ _ _ h=>h.elim);have HXW:=Hd hxx;clear hxx;refine Qr ?_;refine (Hn (aa) (aa) A8 D8 A8 D8 c8 e8 c8 e8 w' (fun _=>True) (HA8.o.keep (HXW.o.kept _)).2.2.1 (HA8.o.keep (HXW.o.kept _)).2.2.2 (HA8.o.keep (HXW.o.kept _)).2.2.1 (HA8.o.keep (HXW.o.kept _)).2.2.2 (HT.o.ext (HX9.o.trans HXW.o)).tens (HZ8.o.mono AB) (HZ8.o.mono AB)).mono ?_;rintro e1 w3 ⟨A4',c4',D4',e4',he,hab,hx⟩;rw [HJS.o] at he hab;exact Zdb2cbe0b5
 refine Qy HB11 AS AH ?_;refine Qg (.bool true) ?_ ?_
 ·intro vals γ w' ρ hR hN hp hρ zs zg;obtain ⟨A2,c2,D2,e2,hv2,hab2⟩:=hp.o 2 AB;have e23:=(hρ.o 23).trans hv2;have hxx:=hR.o.ext0 (fun _ _ _ h=>h.elim);have HXW:=Hd hxx;clear hxx;refine Qr ?_;refine (DRA (ca) A2 D2 A11 D11 c2 e2 c11 e11 w' (fun _=>True) (fun _=>True) hab2.2.2.1 hab2.2.2.2 (HA11.o.keep (HXW.o.kept _)).2.2.1 (HA11.o.keep (HXW.o.kept _)).2.2.2).mono ?_;exact DR
 iterate 2 refine Qp ?_
 refine Qy HB8 AS AH ?_;refine Qy HB8 AS AH ?_;refine Qs (FP fun v γ w'=>SvA (ca) v w') (H1A ?_) ?_ ?_
 ·exact Bn
 ·intro vals γ w' ρ hR hN hp hρ zs zg;have hxx:=hR.o.ext0 (fun _ _ _ h=>h.elim);have HXW:=Hd hxx;clear hxx;refine Qr ?_;refine (KH (aa) (aa) A8 D8 A8 D8 c8 e8 c8 e8 w' (fun _=>True) (HA8.o.keep (HXW.o.kept _)).2.2.1 (HA8.o.keep (HXW.o.kept _)).2.2.2 (HA8.o.keep (HXW.o.kept _)).2.2.1 (HA8.o.keep (HXW.o.kept _)).2.2.2 (HT.o.ext (HX9.o.trans HXW.o)).tens (HZ8.o.mono AB) (HZ8.o.mono AB)).mono ?_;rintro e1 w3 ⟨A4',c4',D4',e4',he,hab,hx⟩;rw [HMS.o] at he hab;exact Zdb2cbe0b5
 refine Qy HB11 AS AH ?_;refine Qg (.bool true) ?_ ?_
 ·intro vals γ w' ρ hR hN hp hρ zs zg;obtain ⟨A9,c9,D9,e9,hv9,hab9⟩:=hp.o 9 AB;have e30:=(hρ.o 30).trans hv9;have hxx:=hR.o.ext0 (fun _ _ _ h=>h.elim);have HXW:=Hd hxx;clear hxx;refine Qr ?_;refine (DRA (ca) A9 D9 A11 D11 c9 e9 c11 e11 w' (fun _=>True) (fun _=>True) hab9.2.2.1 hab9.2.2.2 (HA11.o.keep (HXW.o.kept _)).2.2.1 (HA11.o.keep (HXW.o.kept _)).2.2.2).mono ?_;exact DR
 iterate 3 refine Qp ?_
 refine Qy HB8 AS AH ?_;refine Qs (FP fun v γ w'=>SvA (noneA) v w') (H1A ?_) ?_ ?_
 ·exact Bn
 ·exact Zd34b36d49
 refine Qs (FP fun v γ w'=>SvA (ca) v w') (H1A ?_) ?_ ?_
 ·exact Bn
 ·intro vals γ w' ρ hR hN hp hρ zs zg;obtain ⟨A16,c16,D16,e16,hv16,hab16⟩:=hp.o 16 AB;have e37:=(hρ.o 37).trans hv16;have hxx:=hR.o.ext0 (fun _ _ _ h=>h.elim);have HXW:=Hd hxx;clear hxx;refine Qr ?_;refine (Hn (aa) (noneA) A8 D8 A16 D16 c8 e8 c16 e16 w' (fun _=>True) (HA8.o.keep (HXW.o.kept _)).2.2.1 (HA8.o.keep (HXW.o.kept _)).2.2.2 hab16.2.2.1 hab16.2.2.2 (HT.o.ext (HX9.o.trans HXW.o)).tens (HZ8.o.mono AB) ((ISA 0).mono AB)).mono ?_;rintro e1 w3 ⟨A4',c4',D4',e4',he,hab,hx⟩;rw [HJN.o] at he hab;exact Zdb2cbe0b5
 refine Qy HB11 AS AH ?_;refine Qg (.bool true) ?_ ?_
 ·intro vals γ w' ρ hR hN hp hρ zs zg;obtain ⟨A17,c17,D17,e17,hv17,hab17⟩:=hp.o 17 AB;have e38:=(hρ.o 38).trans hv17;have hxx:=hR.o.ext0 (fun _ _ _ h=>h.elim);have HXW:=Hd hxx;clear hxx;refine Qr ?_;refine (DRA (ca) A17 D17 A11 D11 c17 e17 c11 e11 w' (fun _=>True) (fun _=>True) hab17.2.2.1 hab17.2.2.2 (HA11.o.keep (HXW.o.kept _)).2.2.1 (HA11.o.keep (HXW.o.kept _)).2.2.2).mono ?_;exact DR
 iterate 3 refine Qp ?_
 refine Qy HB8 AS AH ?_;refine Qs (FP fun v γ w'=>SvA (noneA) v w') (H1A ?_) ?_ ?_
 ·exact Bn
 ·exact Zd34b36d49
 refine Qs (FP fun v γ w'=>SvA (Gq (aa) (noneA)) v w') (H1A ?_) ?_ ?_
 ·exact Bn
 ·intro vals γ w' ρ hR hN hp hρ zs zg;obtain ⟨A24,c24,D24,e24,hv24,hab24⟩:=hp.o 24 AB;have e45:=(hρ.o 45).trans hv24;have hxx:=hR.o.ext0 (fun _ _ _ h=>h.elim);have HXW:=Hd hxx;clear hxx;refine Qr ?_;refine (KH (aa) (noneA) A8 D8 A24 D24 c8 e8 c24 e24 w' (fun _=>True) (HA8.o.keep (HXW.o.kept _)).2.2.1 (HA8.o.keep (HXW.o.kept _)).2.2.2 hab24.2.2.1 hab24.2.2.2 (HT.o.ext (HX9.o.trans HXW.o)).tens (HZ8.o.mono AB) ((ISA 0).mono AB)).mono ?_;exact PX
 refine Qg (.bool true) ?_ ?_
 ·intro vals γ w' ρ hR hN hp hρ zs zg;obtain ⟨A25,c25,D25,e25,hv25,hab25⟩:=hp.o 25 AB;have e46:=(hρ.o 46).trans hv25;have hxx:=hR.o.ext0 (fun _ _ _ h=>h.elim);have HXW:=Hd hxx;clear hxx;refine Qr ?_;refine (Jc (Gq (aa) (noneA)) A25 D25 c25 e25 w' (fun _=>True) hab25.2.2.1 hab25.2.2.2 (HT.o.ext (HX9.o.trans HXW.o)).tens ((AbN.meet HZ8.o (ISA 0)).mono AB)).mono ?_;rintro e1 w3 ⟨he,hx⟩;rw [HME.o] at he;exact DP
 iterate 2 refine Qp ?_
 intro vals γ w10 hR hG;refine Qx ?_;have HE10:=Hd (show Ext w9 w10 from hR.ext0 (fun _ _ _ h=>h.elim));clear hR hG;have HX10:=Hd (HX9.o.trans HE10.o)
 replace HB8:=Hd (HB8.o.keep (HE10.o.kept _))
 replace HB9:=Hd (HB9.o.keep (HE10.o.kept _))
 replace HB10:=Hd (HB10.o.keep (HE10.o.kept _))
 replace HB11:=Hd (HB11.o.keep (HE10.o.kept _))
 replace HA8:=Hd (HA8.o.keep (HE10.o.kept _))
 replace HA9:=Hd (HA9.o.keep (HE10.o.kept _))
 replace HA11:=Hd (HA11.o.keep (HE10.o.kept _))
 replace HV10:=Hd (HV10.o.keep (HE10.o.kept _))
 clear HX9 HE10;obtain ⟨p,hp⟩:=eqx (AW (Fk aa ab) x);obtain ⟨q,hq⟩:=eqx (AW (Gq aa ab) x);obtain ⟨r,hr⟩:=eqx (AW aa x);obtain ⟨HP,HQ,HR⟩:=Hd3 hp.symm hq.symm hr.symm;obtain ⟨HP2,HQ2,HR2⟩:=Hd3 (show AW (Fk ab aa) x=p by rw [qas,HP.o]) (show AW (Gq ab aa) x=q by rw [←HQ.o,V8,V8,Bool.and_comm]) (show AW ca x=r by rw [HCA.o,CL,HR.o]);clear hp hq hr
 go_upto_region 7 with fail
 refine Qa (fun _ _=>False) [] ?_
 iterate 2 refine Qp ?_
 refine Qy HB8 AS AH ?_;refine Qy HB9 AS AH ?_;refine Qs (FP fun v γ w'=>SvA (Fk (aa) (ab)) v w') (H1A ?_) ?_ ?_
 ·exact Bn
 ·intro vals γ w' ρ hR hN hp hρ zs zg;have hxx:=hR.o.ext0 (fun _ _ _ h=>h.elim);have HXW:=Hd hxx;clear hxx;refine Qr ?_;refine (Hn (aa) (ab) A8 D8 A9 D9 c8 e8 c9 e9 w' (fun _=>True) (HA8.o.keep (HXW.o.kept _)).2.2.1 (HA8.o.keep (HXW.o.kept _)).2.2.2 (HA9.o.keep (HXW.o.kept _)).2.2.1 (HA9.o.keep (HXW.o.kept _)).2.2.2 (HT.o.ext (HX10.o.trans HXW.o)).tens (HZ8.o.mono AB) (HZ9.o.mono AB)).mono ?_;exact PX
 refine Qy HB10 Iq GA ?_;refine Qg (.bool p) ?_ ?_
 ·intro vals γ w' ρ hR hN hp hρ zs zg;obtain ⟨A4,c4,D4,e4,hv4,hab4⟩:=hp.o 4 AB;have e54:=(hρ.o 54).trans hv4;have hxx:=hR.o.ext0 (fun _ _ _ h=>h.elim);have HXW:=Hd hxx;clear hxx;refine Qr ?_;refine (B3 1 (Fk (aa) (ab)) x A4 D4 B10 C10 c4 e4 b10 k10 w' (fun _=>True) (fun _=>True) hab4.2.2.1 hab4.2.2.2 (HV10.o.keep (HXW.o.kept _)) HC10.o (HT.o.ext (HX10.o.trans HXW.o)).tens ((AbN.join HZ8.o HZ9.o).mono AB)).mono ?_;rintro e1 w3 ⟨he,hx⟩;rw [HP.o] at he;exact DP
 refine Qy HB9 AS AH ?_;refine Qy HB8 AS AH ?_;refine Qs (FP fun v γ w'=>SvA (Fk (ab) (aa)) v w') (H1A ?_) ?_ ?_
 ·exact Bn
 ·intro vals γ w' ρ hR hN hp hρ zs zg;have hxx:=hR.o.ext0 (fun _ _ _ h=>h.elim);have HXW:=Hd hxx;clear hxx;refine Qr ?_;refine (Hn (ab) (aa) A9 D9 A8 D8 c9 e9 c8 e8 w' (fun _=>True) (HA9.o.keep (HXW.o.kept _)).2.2.1 (HA9.o.keep (HXW.o.kept _)).2.2.2 (HA8.o.keep (HXW.o.kept _)).2.2.1 (HA8.o.keep (HXW.o.kept _)).2.2.2 (HT.o.ext (HX10.o.trans HXW.o)).tens (HZ9.o.mono AB) (HZ8.o.mono AB)).mono ?_;exact PX
 refine Qy HB10 Iq GA ?_;refine Qg (.bool p) ?_ ?_
 ·intro vals γ w' ρ hR hN hp hρ zs zg;obtain ⟨A9,c9,D9,e9,hv9,hab9⟩:=hp.o 9 AB;have e59:=(hρ.o 59).trans hv9;have hxx:=hR.o.ext0 (fun _ _ _ h=>h.elim);have HXW:=Hd hxx;clear hxx;refine Qr ?_;refine (B3 1 (Fk (ab) (aa)) x A9 D9 B10 C10 c9 e9 b10 k10 w' (fun _=>True) (fun _=>True) hab9.2.2.1 hab9.2.2.2 (HV10.o.keep (HXW.o.kept _)) HC10.o (HT.o.ext (HX10.o.trans HXW.o)).tens ((AbN.join HZ9.o HZ8.o).mono AB)).mono ?_;rintro e1 w3 ⟨he,hx⟩;rw [HP2.o] at he;exact DP
 iterate 3 refine Qp ?_
 refine Qy HB8 AS AH ?_;refine Qy HB9 AS AH ?_;refine Qs (FP fun v γ w'=>SvA (Gq (aa) (ab)) v w') (H1A ?_) ?_ ?_
 ·exact Bn
 ·intro vals γ w' ρ hR hN hp hρ zs zg;have hxx:=hR.o.ext0 (fun _ _ _ h=>h.elim);have HXW:=Hd hxx;clear hxx;refine Qr ?_;refine (KH (aa) (ab) A8 D8 A9 D9 c8 e8 c9 e9 w' (fun _=>True) (HA8.o.keep (HXW.o.kept _)).2.2.1 (HA8.o.keep (HXW.o.kept _)).2.2.2 (HA9.o.keep (HXW.o.kept _)).2.2.1 (HA9.o.keep (HXW.o.kept _)).2.2.2 (HT.o.ext (HX10.o.trans HXW.o)).tens (HZ8.o.mono AB) (HZ9.o.mono AB)).mono ?_;exact PX
 refine Qy HB10 Iq GA ?_;refine Qg (.bool q) ?_ ?_
 ·intro vals γ w' ρ hR hN hp hρ zs zg;obtain ⟨A17,c17,D17,e17,hv17,hab17⟩:=hp.o 17 AB;have e67:=(hρ.o 67).trans hv17;have hxx:=hR.o.ext0 (fun _ _ _ h=>h.elim);have HXW:=Hd hxx;clear hxx;refine Qr ?_;refine (B3 1 (Gq (aa) (ab)) x A17 D17 B10 C10 c17 e17 b10 k10 w' (fun _=>True) (fun _=>True) hab17.2.2.1 hab17.2.2.2 (HV10.o.keep (HXW.o.kept _)) HC10.o (HT.o.ext (HX10.o.trans HXW.o)).tens ((AbN.meet HZ8.o HZ9.o).mono AB)).mono ?_;rintro e1 w3 ⟨he,hx⟩;rw [HQ.o] at he;exact DP
 refine Qy HB9 AS AH ?_;refine Qy HB8 AS AH ?_;refine Qs (FP fun v γ w'=>SvA (Gq (ab) (aa)) v w') (H1A ?_) ?_ ?_
 ·exact Bn
 ·intro vals γ w' ρ hR hN hp hρ zs zg;have hxx:=hR.o.ext0 (fun _ _ _ h=>h.elim);have HXW:=Hd hxx;clear hxx;refine Qr ?_;refine (KH (ab) (aa) A9 D9 A8 D8 c9 e9 c8 e8 w' (fun _=>True) (HA9.o.keep (HXW.o.kept _)).2.2.1 (HA9.o.keep (HXW.o.kept _)).2.2.2 (HA8.o.keep (HXW.o.kept _)).2.2.1 (HA8.o.keep (HXW.o.kept _)).2.2.2 (HT.o.ext (HX10.o.trans HXW.o)).tens (HZ9.o.mono AB) (HZ8.o.mono AB)).mono ?_;exact PX
 refine Qy HB10 Iq GA ?_;refine Qg (.bool q) ?_ ?_
 ·intro vals γ w' ρ hR hN hp hρ zs zg;obtain ⟨A22,c22,D22,e22,hv22,hab22⟩:=hp.o 22 AB;have e72:=(hρ.o 72).trans hv22;have hxx:=hR.o.ext0 (fun _ _ _ h=>h.elim);have HXW:=Hd hxx;clear hxx;refine Qr ?_;refine (B3 1 (Gq (ab) (aa)) x A22 D22 B10 C10 c22 e22 b10 k10 w' (fun _=>True) (fun _=>True) hab22.2.2.1 hab22.2.2.2 (HV10.o.keep (HXW.o.kept _)) HC10.o (HT.o.ext (HX10.o.trans HXW.o)).tens ((AbN.meet HZ9.o HZ8.o).mono AB)).mono ?_;rintro e1 w3 ⟨he,hx⟩;rw [HQ2.o] at he;exact DP
 iterate 3 refine Qp ?_
 refine Qy HB8 AS AH ?_;refine Qy HB10 Iq GA ?_;refine Qg (.bool r) ?_ ?_
 ·intro vals γ w' ρ hR hN hp hρ zs zg;have hxx:=hR.o.ext0 (fun _ _ _ h=>h.elim);have HXW:=Hd hxx;clear hxx;refine Qr ?_;refine (B3 1 (aa) x A8 D8 B10 C10 c8 e8 b10 k10 w' (fun _=>True) (fun _=>True) (HA8.o.keep (HXW.o.kept _)).2.2.1 (HA8.o.keep (HXW.o.kept _)).2.2.2 (HV10.o.keep (HXW.o.kept _)) HC10.o (HT.o.ext (HX10.o.trans HXW.o)).tens (HZ8.o.mono AB)).mono ?_;rintro e1 w3 ⟨he,hx⟩;rw [HR.o] at he;exact DP
 refine Qy HB11 AS AH ?_;refine Qy HB10 Iq GA ?_;refine Qg (.bool r) ?_ ?_
 ·intro vals γ w' ρ hR hN hp hρ zs zg;have hxx:=hR.o.ext0 (fun _ _ _ h=>h.elim);have HXW:=Hd hxx;clear hxx;refine Qr ?_;refine (B3 1 (ca) x A11 D11 B10 C10 c11 e11 b10 k10 w' (fun _=>True) (fun _=>True) (HA11.o.keep (HXW.o.kept _)).2.2.1 (HA11.o.keep (HXW.o.kept _)).2.2.2 (HV10.o.keep (HXW.o.kept _)) HC10.o (HT.o.ext (HX10.o.trans HXW.o)).tens (HZ11.o.mono AB)).mono ?_;rintro e1 w3 ⟨he,hx⟩;rw [HR2.o] at he;exact DP
 iterate 3 refine Qp ?_
 intro vals γ w11 hR hG;refine Qx ?_;have HE11:=Hd (show Ext w10 w11 from hR.ext0 (fun _ _ _ h=>h.elim));clear hR hG;go_wp2;go_ret;exact ⟨rfl,HX10.o.trans HE11.o⟩
end Go.Proofs.YtidacnalcdhckaaGreatDoor
