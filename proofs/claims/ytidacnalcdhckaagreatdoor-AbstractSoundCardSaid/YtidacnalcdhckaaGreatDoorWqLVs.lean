/- Lemmas. No conditions. -/
import Derived.Test.YtidacnalcdhckaaGreatDoorWq40
import Derived.Test.YtidacnalcdhckaaGreatDoorWq41
import Derived.Test.YtidacnalcdhckaaGreatDoorWq42
set_option maxRecDepth 100000
set_option maxHeartbeats 4000000
namespace Go.Proofs.YtidacnalcdhckaaGreatDoor
open Go Go.RowKit Tryz
variable {qP:Prop}

theorem MN(h:qP:=by
 go_wp2;go_ret;exact ⟨rfl,HX12.o⟩):qP:=h
theorem Q7(h:qP:=by
 refine Qt ?_;refine AZ rfl (.bool true) (w':=w11) (by simp [execOp,go_sem]) ?_;refine Qt ?_;refine AZ rfl (.bool true) (w':=w11) (by simp [execOp,go_sem]) ?_;refine Qt ?_;refine Ej rfl ?_;refine Qt ?_;refine AZ rfl (.bool true) (w':=w11) (by simp [execOp,go_sem]) ?_;refine Qt ?_;refine AZ rfl (.bool true) (w':=w11) (by simp [execOp,go_sem]) ?_;refine Qt ?_;refine AZ rfl (.bool true) (w':=w11) (by simp [execOp,go_sem]) ?_;refine Qt ?_;refine Be rfl 39 _ rfl g8 rfl (HB8.o.keep (HE11.o.kept _)) AS AH ?_
 go_wp2_with fail
 refine (Jc (aa) A8 D8 c8 e8 w11 (fun _=>True) (HA8.o.keep (HE11.o.kept _)).2.2.1 (HA8.o.keep (HE11.o.kept _)).2.2.2 (HT.o.ext HX11.o).tens (HZ8.o.mono (by decide))).mono ?_;rintro ee w12 ⟨he,hx⟩;rw [HEM.o] at he;subst he;have HX12:=Hd (HX11.o.trans hx);clear hx;cases em
 ·exact MN
 ·exact MN):qP:=h
theorem BoA(h:qP:=by
 refine AZ rfl (.bool true) (w':=w11) (by simp [execOp,go_sem]) ?_;refine Qt ?_;refine AZ rfl (.bool true) (w':=w11) (by simp [execOp,go_sem]) ?_;refine Qt ?_;refine Ej rfl ?_;refine Qt ?_;refine Ej rfl ?_;exact Q7):qP:=h
theorem AXA(h:qP:=by
 refine AZ rfl (.bool false) (w':=w11) (by simp [execOp,go_sem]) ?_;refine Qt ?_;refine AZ rfl (.bool false) (w':=w11) (by simp [execOp,go_sem]) ?_;refine Qt ?_;refine AZ rfl (.bool false) (w':=w11) (by simp [execOp,go_sem]) ?_;refine Qt ?_;refine AZ rfl (.bool true) (w':=w11) (by simp [execOp,go_sem]) ?_;exact Q7):qP:=h
theorem UW(h:qP:=by
 intro vals γ w10 hR hG;refine Qx ?_;have HE10:=Hd (show Ext w9 w10 from hR.ext0 (fun _ _ _ h=>h.elim));clear hR hG;have HX10:=Hd (HX9.o.trans HE10.o)
 go_upto_region 7 with fail
 refine wp_region_lit ?_;refine AZ rfl (.bool true) (w':=w10) (by simp [execOp,go_sem]) ?_;refine Qt ?_;refine AZ rfl (.bool true) (w':=w10) (by simp [execOp,go_sem]) ?_;refine Qt ?_;refine Be rfl 39 _ rfl g8 rfl (HB8.o.keep (HE10.o.kept _)) AS AH ?_;refine Be rfl 39 _ rfl g9 rfl (HB9.o.keep (HE10.o.kept _)) AS AH ?_
 go_wp2_with fail
 refine (Fs (aa) (ab) A8 D8 A9 D9 c8 e8 c9 e9 w10 (fun _=>True) (HA8.o.keep (HE10.o.kept _)).2.2.1 (HA8.o.keep (HE10.o.kept _)).2.2.2 (HA9.o.keep (HE10.o.kept _)).2.2.1 (HA9.o.keep (HE10.o.kept _)).2.2.2 (HT.o.ext HX10.o).tens (HZ8.o.mono (by decide)) (HZ9.o.mono (by decide))).mono ?_;rintro ee w11 ⟨he,hx⟩;rw [HW.o] at he;subst he;have HX11:=Hd (HX10.o.trans hx);have HE11:=Hd (HE10.o.trans hx);clear hx;rename_i K1 hK1 K2 hK2;refine hK2 _ _ ?_;clear hK2;cases wn
 ·exact BoA
 ·exact AXA):qP:=h
theorem PX(h:qP:=by
 rintro e1 w3 ⟨A4',c4',D4',e4',he,hab,hx⟩;exact ⟨_,he,γ,H4A _ γ hx,fun _ _ _ h=>h,A4',c4',D4',e4',rfl,hab.mono fun _ _ _=>trivial⟩):qP:=h
theorem IM(h:qP:=by
 intro vals γ w' ρ hR hN hp hρ zs zg;have hxx:=hR.o.ext0 (fun _ _ _ h=>h.elim);have HXW:=Hd hxx;clear hxx;refine Qr ?_;refine (KH (aa) (ab) A8 D8 A9 D9 c8 e8 c9 e9 w' (fun _=>True) (HA8.o.keep (HXW.o.kept _)).2.2.1 (HA8.o.keep (HXW.o.kept _)).2.2.2 (HA9.o.keep (HXW.o.kept _)).2.2.1 (HA9.o.keep (HXW.o.kept _)).2.2.2 (HT.o.ext (HX9.o.trans HXW.o)).tens (HZ8.o.mono (by decide)) (HZ9.o.mono (by decide))).mono ?_;exact PX):qP:=h
theorem Ik(h:qP:=by
 intro vals γ w' ρ hR hN hp hρ zs zg;obtain ⟨A2,c2,D2,e2,hv2,hab2⟩:=hp.o 2 (by decide);have e28:=(hρ.o 28).trans hv2;have hxx:=hR.o.ext0 (fun _ _ _ h=>h.elim);have HXW:=Hd hxx;clear hxx;refine Qr ?_;refine (B3 1 (Gq (aa) (ab)) x A2 D2 B10 C10 c2 e2 b10 k10 w' (fun _=>True) (fun _=>True) hab2.2.2.1 hab2.2.2.2 (HV10.o.keep (HXW.o.kept _)) HC10.o (HT.o.ext (HX9.o.trans HXW.o)).tens ((AbN.meet HZ8.o HZ9.o).mono (by decide))).mono ?_;rintro e1 w3 ⟨he,hx⟩;rw [HM.o] at he;exact DP):qP:=h
theorem Le(h:qP:=by
 intro vals γ w' ρ hR hN hp hρ zs zg;have hxx:=hR.o.ext0 (fun _ _ _ h=>h.elim);have HXW:=Hd hxx;clear hxx;refine Qr ?_;refine (Hn (aa) (ab) A8 D8 A9 D9 c8 e8 c9 e9 w' (fun _=>True) (HA8.o.keep (HXW.o.kept _)).2.2.1 (HA8.o.keep (HXW.o.kept _)).2.2.2 (HA9.o.keep (HXW.o.kept _)).2.2.1 (HA9.o.keep (HXW.o.kept _)).2.2.2 (HT.o.ext (HX9.o.trans HXW.o)).tens (HZ8.o.mono (by decide)) (HZ9.o.mono (by decide))).mono ?_;exact PX):qP:=h
theorem Kb(h:qP:=by
 intro vals γ w' ρ hR hN hp hρ zs zg;obtain ⟨A18,c18,D18,e18,hv18,hab18⟩:=hp.o 18 (by decide);have e44:=(hρ.o 44).trans hv18;have hxx:=hR.o.ext0 (fun _ _ _ h=>h.elim);have HXW:=Hd hxx;clear hxx;refine Qr ?_;refine (B3 1 (Fk (aa) (ab)) x A18 D18 B10 C10 c18 e18 b10 k10 w' (fun _=>True) (fun _=>True) hab18.2.2.1 hab18.2.2.2 (HV10.o.keep (HXW.o.kept _)) HC10.o (HT.o.ext (HX9.o.trans HXW.o)).tens ((AbN.join HZ8.o HZ9.o).mono (by decide))).mono ?_;rintro e1 w3 ⟨he,hx⟩;rw [HJ1.o] at he;exact DP):qP:=h
theorem ATA(h:qP:=by
 exact absurd (HEI.o rfl) (by decide)):qP:=h
theorem S8(h:qP:=by
 refine Qt ?_;refine AZ rfl (.bool true) (w':=w11) (by simp [execOp,go_sem]) ?_;refine Qt ?_;refine AZ rfl (.bool true) (w':=w11) (by simp [execOp,go_sem]) ?_;refine Qt ?_;refine AZ rfl (.bool true) (w':=w11) (by simp [execOp,go_sem]) ?_;refine Qt ?_;refine Be rfl 39 _ rfl g8 rfl (HB8.o.keep (HE11.o.kept _)) AS AH ?_
 go_wp2_with fail
 refine (Jc (aa) A8 D8 c8 e8 w11 (fun _=>True) (HA8.o.keep (HE11.o.kept _)).2.2.1 (HA8.o.keep (HE11.o.kept _)).2.2.2 (HT.o.ext HX11.o).tens (HZ8.o.mono (by decide))).mono ?_;rintro ee w12 ⟨he,hx⟩;rw [HEM.o] at he;subst he;have HX12:=Hd (HX11.o.trans hx);clear hx;cases em
 ·exact MN
 ·exact ATA):qP:=h
theorem O1(h:qP:=by
 refine AZ rfl (.bool true) (w':=w11) (by simp [execOp,go_sem]) ?_;refine Qt ?_;refine AZ rfl (.bool true) (w':=w11) (by simp [execOp,go_sem]) ?_;refine Qt ?_;refine Ej rfl ?_;refine Qt ?_;refine Ej rfl ?_;refine Qt ?_;refine AZ rfl (.bool true) (w':=w11) (by simp [execOp,go_sem]) ?_;refine Qt ?_;refine AZ rfl (.bool true) (w':=w11) (by simp [execOp,go_sem]) ?_;refine Qt ?_;refine Ej rfl ?_;exact S8):qP:=h
theorem CeA(l0:List Int)(l1:List Int)(l2:List Int)(a0:OA)(d0:Nat)(a1:OA)(d1:Nat)(a2:OA)(d2:Nat)(w:World)(S:NP)(ht:Txa w)(h0:IntsL w S a0 l0)(k0:l0.length≤d0)(h1:IntsL w S a1 l1)(k1:l1.length≤d1)(h2:IntsL w S a2 l2)(k2:l2.length≤d2) :
  Cl 8 #[.slice a0 l0.length d0,.slice a1 l1.length d1,.slice a2 l2.length d2] w (Ae w true):=by
 obtain ⟨HT,H0,K0,H1,K1,H2,K2⟩:=Hd7 ht h0 k0 h1 k1 h2 k2;clear ht h0 k0 h1 k1 h2 k2
 go_enter func8,ntmps8
 go_wp2_with fail
 refine (BXA w HT.o).mono ?_;rintro ee w1 ⟨rfl,hx⟩;have HX1:=Hd hx;clear hx
 go_wp2_with fail
 refine (Xx l0 a0 d0 w1 S (H0.o.keep (HX1.o.kept _)) K0.o).mono ?_;rintro ee w2 ⟨aa,hz,A8,c8,D8,e8,rfl,hab,hx⟩;obtain ⟨HZ8,HX2,HE2,HA8⟩:=Hd4 hz (HX1.o.trans hx) hx (hab.mono (T:=(fun _=>True)) fun _ _ _=>trivial);clear hz hab hx
 go_wp2_with fail
 refine (Xx l1 a1 d1 w2 S (H1.o.keep (HX2.o.kept _)) K1.o).mono ?_;rintro ee w3 ⟨ab,hz,A9,c9,D9,e9,rfl,hab,hx⟩;obtain ⟨HZ9,HX3,HE3,HA9⟩:=Hd4 hz (HX2.o.trans hx) hx (hab.mono (T:=(fun _=>True)) fun _ _ _=>trivial);clear hz hab hx
 replace HA8:=Hd (HA8.o.keep (HE3.o.kept _))
 clear HE2 HE3 HX2;rename_i K1 hK1 K2 hK2;refine hK2 _ _ ?_;refine Ag rfl rfl ?_;obtain ⟨g8,hg8⟩:=eqx w3.heap.size;rw [←hg8];have hb8:=GK hg8;refine Ag rfl rfl ?_;generalize hw4:w3.alloc _=w4 at hb8⊢;obtain ⟨g9,hg9⟩:=eqx w4.heap.size;rw [←hg9];have hb9:=GK hg9;have hb8':=hb8.keep ((((Ext.refl w4).alloc (.cells Az 39))).kept _);refine AM rfl 39 _ _ rfl g8 (Ap aa A8 c8 D8 e8) rfl rfl 39 _ hb8' AH rfl AD ?_;intro w5 hb8n ho8;have hne:g8≠g9:=(by have:=hb8.lt;omega);have hb9':=hb9.keep (ho8.kept fun b _ e e'=>hne (e'.symm.trans e));refine AM rfl 39 _ _ rfl g9 (Ap ab A9 c9 D9 e9) rfl rfl 39 _ hb9' AH rfl AD ?_;intro w6 hb9n ho9;refine hK1 _ _ ?_;have hx4:Ext w3 w4:=(by rw [←hw4];exact (Ext.refl _).alloc _);have hxs:Ext w3 w6:=((hx4.alloc _).only ho8 (by rw [hg8];exact Al)).only ho9 (by rw [hg9];exact hx4.size);obtain ⟨HX6,HB8,HB9⟩:=Hd3 (HX3.o.trans hxs) (hb8n.keep (ho9.kept fun b _ e e'=>hne (e.symm.trans e'))) hb9n
 replace HA8:=Hd (HA8.o.keep (hxs.kept _))
 replace HA9:=Hd (HA9.o.keep (hxs.kept _))
 clear hb8 hb8' hb8n hb9 hb9' hb9n ho8 ho9 hne hg8 hg9 hw4 hx4 hxs hK1 hK2 HX3
 go_frame
 go_upto_region 3 with fail
 go_wp2_with fail
 refine (Ni l2 a2 d2 w6 S (H2.o.keep (HX6.o.kept _))).mono ?_;rintro ee w7 ⟨x,hrx,B10,b10,C10,k10,rfl,hcp,hrv,hx⟩;obtain ⟨HR10,HX7,HC10,HV10⟩:=Hd4 hrx (HX6.o.trans hx) hcp.1 (hrv.mono (T:=(fun _=>True)) fun _ _ _=>trivial)
 replace HA8:=Hd (HA8.o.keep (hx.kept _))
 replace HA9:=Hd (HA9.o.keep (hx.kept _))
 replace HB8:=Hd (HB8.o.keep (hx.kept _))
 replace HB9:=Hd (HB9.o.keep (hx.kept _))
 clear hx hrx hcp hrv
 go_upto_region 4 with fail
 obtain ⟨g10,hg⟩:=eqx w7.heap.size;rw [←hg];obtain ⟨w8,hw⟩:=eqx (w7.alloc (.cells (Vp x B10 b10 C10 k10) 29));rw [←hw];have hx:Ext w7 w8:=(by rw [hw];exact (Ext.refl _).alloc _);have HB10:=Hd (show Blk w8 g10 29 (Vp x B10 b10 C10 k10) by rw [hw,hg];exact Blk.new _ _ _);have HX8:=Hd (HX7.o.trans hx)
 replace HA8:=Hd (HA8.o.keep (hx.kept _))
 replace HA9:=Hd (HA9.o.keep (hx.kept _))
 replace HB8:=Hd (HB8.o.keep (hx.kept _))
 replace HB9:=Hd (HB9.o.keep (hx.kept _))
 replace HV10:=Hd (HV10.o.keep (hx.kept _))
 clear hx hw hg HX6 HX7;obtain ⟨p,hp⟩:=eqx (AW aa x);obtain ⟨q,hq⟩:=eqx (AW ab x);obtain ⟨wn,hwn⟩:=eqx (KA aa ab);obtain ⟨em,hem⟩:=eqx (Lq aa);obtain ⟨HP,HQ,HW,HEM⟩:=Hd4 hp.symm hq.symm hwn.symm hem.symm;obtain ⟨HM,HJ,HWI,HEI⟩:=Hd4 (show AW (Gq aa ab) x=(p&&q) by rw [V8,HP.o,HQ.o]) (show (p||q)=true→AW (Fk aa ab) x=true from fun h=>Vw (by rw [HP.o,HQ.o];simpa using h)) (show wn=true→p=true→q=true from fun h1 h2=>by rw [←HQ.o];exact OQ (by rw [HW.o];exact h1) (by rw [HP.o];exact h2)) (show em=true→p=false from fun h=>by rw [←HP.o];exact UC (by rw [HEM.o];exact h) x);clear hp hq hwn hem;refine Qa (fun _ _=>False) [] ?_;refine Qy HB8 AS AH ?_;refine Qy HB10 Iq GA ?_;refine Qg (.bool p) ?_ ?_
 ·intro vals γ w' ρ hR hN hp hρ zs zg;have hxx:=hR.o.ext0 (fun _ _ _ h=>h.elim);have HXW:=Hd hxx;clear hxx;refine Qr ?_;refine (B3 1 (aa) x A8 D8 B10 C10 c8 e8 b10 k10 w' (fun _=>True) (fun _=>True) (HA8.o.keep (HXW.o.kept _)).2.2.1 (HA8.o.keep (HXW.o.kept _)).2.2.2 (HV10.o.keep (HXW.o.kept _)) HC10.o (HT.o.ext (HX8.o.trans HXW.o)).tens (HZ8.o.mono AB)).mono ?_;rintro e1 w3 ⟨he,hx⟩;rw [HP.o] at he;exact DP
 refine Qy HB9 AS AH ?_;refine Qy HB10 Iq GA ?_;refine Qg (.bool q) ?_ ?_
 ·intro vals γ w' ρ hR hN hp hρ zs zg;have hxx:=hR.o.ext0 (fun _ _ _ h=>h.elim);have HXW:=Hd hxx;clear hxx;refine Qr ?_;refine (B3 1 (ab) x A9 D9 B10 C10 c9 e9 b10 k10 w' (fun _=>True) (fun _=>True) (HA9.o.keep (HXW.o.kept _)).2.2.1 (HA9.o.keep (HXW.o.kept _)).2.2.2 (HV10.o.keep (HXW.o.kept _)) HC10.o (HT.o.ext (HX8.o.trans HXW.o)).tens (HZ9.o.mono AB)).mono ?_;rintro e1 w3 ⟨he,hx⟩;rw [HQ.o] at he;exact DP
 iterate 2 refine Qp ?_
 intro vals γ w9 hR hG;refine Qx ?_;have HE9:=Hd (show Ext w8 w9 from hR.ext0 (fun _ _ _ h=>h.elim));clear hR hG;have HX9:=Hd (HX8.o.trans HE9.o)
 replace HB8:=Hd (HB8.o.keep (HE9.o.kept _))
 replace HB9:=Hd (HB9.o.keep (HE9.o.kept _))
 replace HB10:=Hd (HB10.o.keep (HE9.o.kept _))
 replace HA8:=Hd (HA8.o.keep (HE9.o.kept _))
 replace HA9:=Hd (HA9.o.keep (HE9.o.kept _))
 replace HV10:=Hd (HV10.o.keep (HE9.o.kept _))
 clear HX8 HE9;cases p<;>cases q
 ·go_upto_region 5 with fail
  refine Qa (fun _ _=>False) [] ?_;refine Qy HB8 AS AH ?_;refine Qy HB9 AS AH ?_;refine Qs (FP fun v γ w'=>SvA (Gq (aa) (ab)) v w') (H1A ?_) ?_ ?_
  ·exact Bn
  ·exact IM
  refine Qy HB10 Iq GA ?_;refine Qg (.bool false) ?_ ?_
  ·exact Ik
  iterate 2 refine Qp ?_
  refine Qn ?_
  iterate 8 refine Qp ?_
  iterate 6 refine Qn ?_
  iterate 2 refine Qp ?_
  exact UW
 ·have HJ1:=Hd (HJ.o rfl)
  go_upto_region 5 with fail
  refine Qa (fun _ _=>False) [] ?_;refine Qy HB8 AS AH ?_;refine Qy HB9 AS AH ?_;refine Qs (FP fun v γ w'=>SvA (Gq (aa) (ab)) v w') (H1A ?_) ?_ ?_
  ·exact Bn
  ·exact IM
  refine Qy HB10 Iq GA ?_;refine Qg (.bool false) ?_ ?_
  ·exact Ik
  iterate 2 refine Qp ?_
  refine Qn ?_
  iterate 8 refine Qp ?_
  refine Qy HB8 AS AH ?_;refine Qy HB9 AS AH ?_;refine Qs (FP fun v γ w'=>SvA (Fk (aa) (ab)) v w') (H1A ?_) ?_ ?_
  ·exact Bn
  ·exact Le
  refine Qy HB10 Iq GA ?_;refine Qg (.bool true) ?_ ?_
  ·exact Kb
  iterate 3 refine Qp ?_
  exact UW
 ·have HJ1:=Hd (HJ.o rfl)
  go_upto_region 5 with fail
  refine Qa (fun _ _=>False) [] ?_;refine Qy HB8 AS AH ?_;refine Qy HB9 AS AH ?_;refine Qs (FP fun v γ w'=>SvA (Gq (aa) (ab)) v w') (H1A ?_) ?_ ?_
  ·exact Bn
  ·exact IM
  refine Qy HB10 Iq GA ?_;refine Qg (.bool false) ?_ ?_
  ·exact Ik
  iterate 8 refine Qp ?_
  refine Qn ?_
  iterate 2 refine Qp ?_
  refine Qy HB8 AS AH ?_;refine Qy HB9 AS AH ?_;refine Qs (FP fun v γ w'=>SvA (Fk (aa) (ab)) v w') (H1A ?_) ?_ ?_
  ·exact Bn
  ·exact Le
  refine Qy HB10 Iq GA ?_;refine Qg (.bool true) ?_ ?_
  ·exact Kb
  iterate 3 refine Qp ?_
  intro vals γ w10 hR hG;refine Qx ?_;have HE10:=Hd (show Ext w9 w10 from hR.ext0 (fun _ _ _ h=>h.elim));clear hR hG;have HX10:=Hd (HX9.o.trans HE10.o)
  go_upto_region 7 with fail
  refine wp_region_lit ?_;refine AZ rfl (.bool true) (w':=w10) AY ?_;refine Qt ?_;refine AZ rfl (.bool true) (w':=w10) AY ?_;refine Qt ?_;refine Be rfl 39 _ rfl g8 rfl (HB8.o.keep (HE10.o.kept _)) AS AH ?_;refine Be rfl 39 _ rfl g9 rfl (HB9.o.keep (HE10.o.kept _)) AS AH ?_
  go_wp2_with fail
  refine (Fs (aa) (ab) A8 D8 A9 D9 c8 e8 c9 e9 w10 (fun _=>True) (HA8.o.keep (HE10.o.kept _)).2.2.1 (HA8.o.keep (HE10.o.kept _)).2.2.2 (HA9.o.keep (HE10.o.kept _)).2.2.1 (HA9.o.keep (HE10.o.kept _)).2.2.2 (HT.o.ext HX10.o).tens (HZ8.o.mono AB) (HZ9.o.mono AB)).mono ?_;rintro ee w11 ⟨he,hx⟩;rw [HW.o] at he;subst he;have HX11:=Hd (HX10.o.trans hx);have HE11:=Hd (HE10.o.trans hx);clear hx;rename_i K1 hK1 K2 hK2;refine hK2 _ _ ?_;clear hK2;cases wn
  ·exact O1
  ·exact (by have h:=HWI.o;simp at h)
 ·have HJ1:=Hd (HJ.o rfl)
  go_upto_region 5 with fail
  refine Qa (fun _ _=>False) [] ?_;refine Qy HB8 AS AH ?_;refine Qy HB9 AS AH ?_;refine Qs (FP fun v γ w'=>SvA (Gq (aa) (ab)) v w') (H1A ?_) ?_ ?_
  ·exact Bn
  ·exact IM
  refine Qy HB10 Iq GA ?_;refine Qg (.bool true) ?_ ?_
  ·exact Ik
  iterate 8 refine Qp ?_
  refine Qn ?_
  iterate 2 refine Qp ?_
  refine Qy HB8 AS AH ?_;refine Qy HB9 AS AH ?_;refine Qs (FP fun v γ w'=>SvA (Fk (aa) (ab)) v w') (H1A ?_) ?_ ?_
  ·exact Bn
  ·exact Le
  refine Qy HB10 Iq GA ?_;refine Qg (.bool true) ?_ ?_
  ·exact Kb
  iterate 3 refine Qp ?_
  intro vals γ w10 hR hG;refine Qx ?_;have HE10:=Hd (show Ext w9 w10 from hR.ext0 (fun _ _ _ h=>h.elim));clear hR hG;have HX10:=Hd (HX9.o.trans HE10.o)
  go_upto_region 7 with fail
  refine wp_region_lit ?_;refine AZ rfl (.bool true) (w':=w10) AY ?_;refine Qt ?_;refine AZ rfl (.bool true) (w':=w10) AY ?_;refine Qt ?_;refine Be rfl 39 _ rfl g8 rfl (HB8.o.keep (HE10.o.kept _)) AS AH ?_;refine Be rfl 39 _ rfl g9 rfl (HB9.o.keep (HE10.o.kept _)) AS AH ?_
  go_wp2_with fail
  refine (Fs (aa) (ab) A8 D8 A9 D9 c8 e8 c9 e9 w10 (fun _=>True) (HA8.o.keep (HE10.o.kept _)).2.2.1 (HA8.o.keep (HE10.o.kept _)).2.2.2 (HA9.o.keep (HE10.o.kept _)).2.2.1 (HA9.o.keep (HE10.o.kept _)).2.2.2 (HT.o.ext HX10.o).tens (HZ8.o.mono AB) (HZ9.o.mono AB)).mono ?_;rintro ee w11 ⟨he,hx⟩;rw [HW.o] at he;subst he;have HX11:=Hd (HX10.o.trans hx);have HE11:=Hd (HE10.o.trans hx);clear hx;rename_i K1 hK1 K2 hK2;refine hK2 _ _ ?_;clear hK2;cases wn
  ·exact O1
  ·refine AZ rfl (.bool false) (w':=w11) AY ?_;refine Qt ?_;refine AZ rfl (.bool false) (w':=w11) AY ?_;refine Qt ?_;refine AZ rfl (.bool true) (w':=w11) AY ?_;refine Qt ?_;refine AZ rfl (.bool false) (w':=w11) AY ?_;refine Qt ?_;refine AZ rfl (.bool false) (w':=w11) AY ?_;refine Qt ?_;refine AZ rfl (.bool false) (w':=w11) AY ?_;refine Qt ?_;refine AZ rfl (.bool true) (w':=w11) AY ?_;exact S8
end Go.Proofs.YtidacnalcdhckaaGreatDoor
