/- Lemmas. No conditions. -/
import Derived.Test.YtaccjdppmmoepaaGreatDoorXq28
set_option maxRecDepth 100000
set_option maxHeartbeats 4000000
namespace Go.Proofs.YtaccjdppmmoepaaGreatDoor
open Go Go.RowKit Tryz
variable {qP:Prop}

theorem Wa(h:qP:=by
 rintro e1 w3 ⟨he,hx⟩;rw [HCA.o] at he;exact DP):qP:=h
theorem QI(h:qP:=by
 intro V F J L hR hN hp hρ zs zg;have hxx:=hR.o.ext0 (λ_ _ _ h=>h.elim);have HXW:=Hd hxx;clear hxx;refine Qr ?_;refine (BX 1 (aa) z A8 D8 Bz Cz c8 e8 bz kz J (λ_=>True) (λ_=>True) (HA8.o.keep (HXW.o.kept _)).2.2.1 (HA8.o.keep (HXW.o.kept _)).2.2.2 (HVZ2.o.keep (HXW.o.kept _)) HCZ.o (HT.o.ext (HXB.o.trans HXW.o)).tens (HZ8.o.mono (by decide))).mono ?_;exact Wa):qP:=h
theorem P7(h:qP:=by
 intro V F J L hR hN hp hρ zs zg;have hxx:=hR.o.ext0 (λ_ _ _ h=>h.elim);have HXW:=Hd hxx;clear hxx;refine Qr ?_;refine (ZI 1 (aa) z A8 D8 Bz Cz c8 e8 bz kz J (λ_=>True) (λ_=>True) (HA8.o.keep (HXW.o.kept _)).2.2.1 (HA8.o.keep (HXW.o.kept _)).2.2.2 (HVZ2.o.keep (HXW.o.kept _)) (HZ8.o.mono (by decide))).mono ?_;exact Wa):qP:=h
theorem Pv(h:qP:=by
 intro V F J L hR hN hp hρ zs zg;have hxx:=hR.o.ext0 (λ_ _ _ h=>h.elim);have HXW:=Hd hxx;clear hxx;refine Qr ?_;refine (BX 1 (fl) z A11 D11 Bz Cz c11 e11 bz kz J (λ_=>True) (λ_=>True) (HA11.o.keep (HXW.o.kept _)).2.2.1 (HA11.o.keep (HXW.o.kept _)).2.2.2 (HVZ2.o.keep (HXW.o.kept _)) HCZ.o (HT.o.ext (HXB.o.trans HXW.o)).tens (HZ11.o.mono (by decide))).mono ?_;rintro e1 w3 ⟨he,hx⟩;rw [HCF.o] at he;exact DP):qP:=h
theorem SJ(h:qP:=by
 intro V F J L hR hN hp hρ zs zg;have hxx:=hR.o.ext0 (λ_ _ _ h=>h.elim);have HXW:=Hd hxx;clear hxx;refine Qr ?_;refine (C8A 1 z Bz Cz bz kz J (λ_=>True) (HVZ2.o.keep (HXW.o.kept _))).mono ?_;rintro e1 w3 ⟨he,hx⟩;rw [HP.o] at he;exact DP):qP:=h
theorem UP(h:qP:=by
 have m3:=hxx.cell M3.o;clear hxx;exact Qk):qP:=h
theorem W6(h:qP:=by
 have hxx:=hR.o.ext0 (λ_ _ _ h=>h.elim);have m0:=hxx.cell M0.o;exact UP):qP:=h
theorem R7(h:qP:=by
 refine Qy HB17 Iq GA ?_;refine Qg (.bool true) ?_ ?_
 ·exact SJ
 iterate 2 refine Qp ?_
 refine Qm (λV F J L hR hN hp hρ zs zg=>by
  exact W6) ?_
 refine Qp ?_;refine Qm (λV F J L hR hN hp hρ zs zg=>by
  exact W6) ?_
 refine Qm (λV F J L hR hN hp hρ zs zg=>by
  refine Qr ?_;rw [HKQ.o];exact ⟨rfl,rfl⟩) ?_
 iterate 3 refine Qp ?_
 intro V F wc hR hG;refine Qx ?_;have HEC:=Hd (show Ext wb wc from hR.ext0 (λ_ _ _ h=>h.elim));clear hR hG
 go_wp2_with fail
 go_roundw
 case rel=>exact ⟨m+1,by omega,by go_num,HEB.o.trans HEC.o⟩
 case measure=>simp [intOf];omega):qP:=h
theorem TX(h:qP:=by
 rintro e1 w3 ⟨he,hx⟩;rw [HEM.o] at he;exact DP):qP:=h
theorem UL(h:qP:=by
 rintro e1 w3 ⟨he,hx⟩;exact ⟨_,he,F,H4A _ F hx,λ_ _ _ h=>h,none,0,none,0,rfl,AbM.nil ⟨rfl,rfl⟩⟩):qP:=h
theorem Yv(l0:List Int)(l1:List Int)(q0 q1 q2 q3:Int)(a0:OA)(d0:Nat)(a1:OA)(d1:Nat)(w:World)(S:NP)(ht:Txa w)(h0:IntsL w S a0 l0)(k0:l0.length<=d0)(h1:IntsL w S a1 l1)(k1:l1.length<=d1) :
  Cl 3 #[.slice a0 l0.length d0,.slice a1 l1.length d1,.agg #[.I q0,.I q1,.I q2,.I q3]] w (Ae w true):=by
 obtain ⟨HT,H0,K0,H1,K1⟩:=Hd5 ht h0 k0 h1 k1;clear ht h0 k0 h1 k1
 go_enter func3,ntmps3
 go_upto_region 1 with fail
 obtain ⟨gq,hg⟩:=eqx w.heap.size;rw [<-hg];obtain ⟨w0,hw⟩:=eqx (w.alloc (.cells #[.I q0,.I q1,.I q2,.I q3] 23));rw [<-hw];have hx0:Ext w w0:=(by rw [hw];exact (Ext.refl _).alloc _);have d8:Blk w0 gq 23 #[.I q0,.I q1,.I q2,.I q3]:=(by rw [hw,hg];exact Blk.new _ _ _);clear hw hg
 go_wp2_with fail
 refine (BXA w0 (HT.o.ext hx0)).mono ?_;rintro ee w1 ⟨rfl,hx⟩;have HX1:=Hd (hx0.trans hx);have Y:=Hd (d8.keep (hx.kept _));clear hx hx0 d8
 go_wp2_with fail
 refine (BwA l0 a0 d0 w1 S (H0.o.keep (HX1.o.kept _)) K0.o).mono ?_;rintro ee w2 ⟨aa,hz,A8,c8,D8,e8,rfl,hab,hx⟩;have HZ8:=Hd hz;rename_i K1 hK1 K2 hK2;refine hK2 _ _ ?_;refine Ag rfl rfl ?_;obtain ⟨g8,hg⟩:=eqx w2.heap.size;rw [<-hg];refine AM rfl 36 _ _ rfl g8 (Ap aa A8 c8 D8 e8) rfl rfl 36 _ (GK hg) AH rfl AD ?_;intro w3 hb ho;refine hK1 _ _ ?_;have b0:Ext w2 w3:=(exaa w2).only ho Ez;have a9:=hx.trans b0;obtain ⟨HX3,U,HA8,O⟩:=Hd4 (HX1.o.trans a9) hb ((hab.mono (T:=(λ_=>True)) λ_ _ _=>trivial).keep (b0.kept _)) (Y.o.keep (a9.kept _));clear Y;have Y:=O;clear O hK1 hK2 hb ho b0 a9 hx hab hg hz HX1
 go_frame
 go_upto_region 3 with fail
 go_wp2_with fail
 refine (Ni l1 a1 d1 w3 S (H1.o.keep (HX3.o.kept _))).mono ?_;rintro ee w4 ⟨x,f7,B9,b9,C9,k9,rfl,hcp,hrv,hx⟩;have f3:=Hd f7;have HC9:=Hd hcp.1
 go_upto_region 4 with fail
 obtain ⟨g9,hg⟩:=eqx w4.heap.size;rw [<-hg];obtain ⟨w5,hw⟩:=eqx (w4.alloc (.cells (Vp x B9 b9 C9 k9) 40));rw [<-hw];have hx1:Ext w4 w5:=(by rw [hw];exact (Ext.refl _).alloc _);have hx2:=hx.trans hx1;obtain ⟨b4,b3,HX5,O⟩:=Hd4 ((hrv.mono (T:=(λ_=>True)) λ_ _ _=>trivial).keep (hx1.kept _)) (show Blk w5 g9 40 (Vp x B9 b9 C9 k9) by rw [hw,hg];exact Blk.new _ _ _) (HX3.o.trans hx2) (U.o.keep (hx2.kept _));clear U;have U:=O;clear O;have O:=Hd (HA8.o.keep (hx2.kept _));clear HA8;have HA8:=O;clear O;have O:=Hd (Y.o.keep (hx2.kept _));clear Y;have Y:=O;clear O hx hx1 hx2 hw hg f7 hcp hrv HX3;obtain ⟨q0',q1',q2'⟩:=Y.o.qs3;refine wp_region_lit ?_;refine AJ rfl 40 _ rfl g9 rfl b3.o Iq GA ?_
 go_wp2_with fail
 refine (Ou x B9 C9 b9 k9 q0 q1 q2 w5 (λ_=>True) b4.o f3.o).mono ?_;clear q0' q1' q2';rintro ee w6 ⟨y,f6,f4,f5,f2,rfl,hcp,hrv,hx⟩
 go_upto_region 5 with fail
 obtain ⟨d9,hg⟩:=eqx w6.heap.size;rw [<-hg];obtain ⟨w7,hw⟩:=eqx (w6.alloc (.cells (Vp y f6 f4 f5 f2) 40));rw [<-hw];have hx1:Ext w6 w7:=(by rw [hw];exact (Ext.refl _).alloc _);have hx2:=hx.trans hx1;obtain ⟨b5,HB10,HC10,HX7,O⟩:=Hd5 ((hrv.mono (T:=(λ_=>True)) λ_ _ _=>trivial).keep (hx1.kept _)) (show Blk w7 d9 40 (Vp y f6 f4 f5 f2) by rw [hw,hg];exact Blk.new _ _ _) hcp.1 (HX5.o.trans hx2) (U.o.keep (hx2.kept _));clear U;have U:=O;clear O;have O:=Hd (b3.o.keep (hx2.kept _));clear b3;have b3:=O;clear O;have O:=Hd (HA8.o.keep (hx2.kept _));clear HA8;have HA8:=O;clear O;have O:=Hd (b4.o.keep (hx2.kept _));clear b4;have b4:=O;clear O;have O:=Hd (Y.o.keep (hx2.kept _));clear Y;have Y:=O;clear O hx hx1 hx2 hw hg hcp hrv HX5 f3;obtain ⟨fl,hfl⟩:=eqx (Cs q3);obtain ⟨HFL,HZ11,HFC⟩:=Hd3 hfl.symm (show AbN 1000 fl by rw [hfl];exact DvA q3) (show ∀ v,AW fl v=(BC v&&decide (v.kind=q3)) from λv=>by rw [hfl];exact Xx q3 v);clear hfl;have q3':=Y.o.q3
 go_wp2_with fail
 refine (KP q3 w7 (HT.o.ext HX7.o).tens).mono ?_;clear q3';rintro ee w8 ⟨A11,c11,D11,e11,he,hab,hx⟩;rw [HFL.o] at he hab;subst he;rename_i K1 hK1 K2 hK2;refine hK2 _ _ ?_;refine Ag rfl rfl ?_;obtain ⟨g11,hg⟩:=eqx w8.heap.size;rw [<-hg];refine AM rfl 36 _ _ rfl g11 (Ap fl A11 c11 D11 e11) rfl rfl 36 _ (GK hg) AH rfl AD ?_;intro w9 hb ho;refine hK1 _ _ ?_;have b0:Ext w8 w9:=(exaa w8).only ho Ez;have a9:=hx.trans b0;obtain ⟨HX9,Z,HA11,O⟩:=Hd4 (HX7.o.trans a9) hb ((hab.mono (T:=(λ_=>True)) λ_ _ _=>trivial).keep (b0.kept _)) (U.o.keep (a9.kept _));clear U;have U:=O;clear O;have O:=Hd (b3.o.keep (a9.kept _));clear b3;have b3:=O;clear O;have O:=Hd (HB10.o.keep (a9.kept _));clear HB10;have HB10:=O;clear O;have O:=Hd (HA8.o.keep (a9.kept _));clear HA8;have HA8:=O;clear O;have O:=Hd (b4.o.keep (a9.kept _));clear b4;have b4:=O;clear O;have O:=Hd (b5.o.keep (a9.kept _));clear b5;have b5:=O;clear O;have O:=Hd (Y.o.keep (a9.kept _));clear Y;have Y:=O;clear O hK1 hK2 hb ho b0 a9 hx hab hg HX7
 go_frame
 go_upto_region 6 with fail
 refine wp_region_lit ?_;refine AJ rfl 40 _ rfl g9 rfl b3.o Iq GA ?_;refine AJ rfl 40 _ rfl d9 rfl HB10.o Iq GA ?_;go_wp2;obtain ⟨gv,hg⟩:=eqx w9.heap.size;rw [<-hg];generalize hw:w9.alloc _=w10;have HAV:=Hd (show ArrV w10 gv [x,y] by rw [<-hw,hg];exact MU b4.o HC9.o b5.o HC10.o);have hx:Ext w9 w10:=(by rw [<-hw];exact (Ext.refl _).alloc _);have HX10:=Hd (HX9.o.trans hx);have O:=Hd (U.o.keep (hx.kept _));clear U;have U:=O;clear O;have O:=Hd (Z.o.keep (hx.kept _));clear Z;have Z:=O;clear O;have O:=Hd (HA8.o.keep (hx.kept _));clear HA8;have HA8:=O;clear O;have O:=Hd (HA11.o.keep (hx.kept _));clear HA11;have HA11:=O;clear O;have O:=Hd (Y.o.keep (hx.kept _));clear Y;have Y:=O;clear O hw hg hx HX9 b3 HB10 b4 b5
 go_loopw [35] (λi wr=>∃ m:Nat,m<=2/\i=.I m/\Ext w10 wr) (λi _=>2-(intOf i).toNat)
 case atStart=>exact ⟨0,AA,rfl,Ext.refl _⟩
 case round =>
  obtain ⟨m,hm,rfl,hext⟩:=hrel;obtain ⟨b7,rfl⟩:=eqx wr;have b6:=Hd hext;have HX11:=Hd (HX10.o.trans hext);clear hext;by_cases hlm:m<2
  ·obtain ⟨z,hz⟩:∃ z,[x,y][m]?=some z:=⟨[x,y][m]'hlm,List.getElem?_eq_getElem _⟩;obtain ⟨Bz,bz,Cz,kz,f8,hgl,f1,f0⟩:=HAV.o.ext b6.o m z hz;obtain ⟨d7,f9,HCZ⟩:=Hd3 f8 f0 f1;clear f8 f0 f1 hz hgl;have hq2:(m:Int)<2:=AA
   go_upto_region 8 with fail
   refine wp_region_lit ?_;refine AZ rfl (.pointer (some ⟨gv,m*7,none⟩)) (J:=b7) (by simp [execOp,go_sem,hq2]) ?_;refine Qt ?_;refine Kb rfl 40 _ rfl gv (m*7) rfl d7.o Iq GA ?_;refine Qt ?_;refine XZ rfl rfl ?_;obtain ⟨g17,hg⟩:=eqx b7.heap.size;rw [<-hg];refine AM rfl 40 _ _ rfl g17 (Vp z Bz bz Cz kz) rfl rfl 40 _ (GuA hg) GA rfl AD ?_;intro wb hb ho
   go_upto_region 9 with fail
   have b0:Ext b7 wb:=(exaa b7).only ho Ez;have HXB:=Hd (HX11.o.trans b0);have a8:=b6.o.trans b0;obtain ⟨HEB,HB17,HVZ2,O⟩:=Hd4 a8 hb (f9.o.keep (b0.kept _)) (U.o.keep (a8.kept _));clear U;have U:=O;clear O;have O:=Hd (Z.o.keep (a8.kept _));clear Z;have Z:=O;clear O;have O:=Hd (HA8.o.keep (a8.kept _));clear HA8;have HA8:=O;clear O;have O:=Hd (HA11.o.keep (a8.kept _));clear HA11;have HA11:=O;clear O;have O:=Hd (Y.o.keep (a8.kept _));clear Y;have Y:=O;clear O;have hb0:=hb.q0;have M0:=Hd hb0;have M3:=Hd (Y.o.q3);clear hb hb0 ho b0 a8 hg f9 d7 HX11 b6;obtain ⟨ca,hca⟩:=eqx (AW aa z);have HCA:=Hd hca.symm;obtain ⟨p,hp⟩:=eqx (BC z);have HP:=Hd hp.symm;obtain ⟨kq,d6⟩:=eqx (z.kind==q3);have HKQ:=Hd d6.symm;have d5:=Hd (show AW fl z=(p&&kq) by rw [HFC.o,hp,d6];rfl);clear hca hp d6;cases p
   ·have HCF:=Hd (show AW fl z=false by rw [d5.o];rfl);refine Qa (λ_ _=>False) [] ?_;refine Qy U AS AH ?_;refine Qy HB17 Iq GA ?_;refine Qg (.bool ca) ?_ ?_
    ·exact QI
    refine Qy U AS AH ?_;refine Qy HB17 Iq GA ?_;refine Qg (.bool ca) ?_ ?_
    ·exact P7
    iterate 2 refine Qp ?_
    refine Qy Z AS AH ?_;refine Qy HB17 Iq GA ?_;refine Qg (.bool false) ?_ ?_
    ·exact Pv
    refine Qy HB17 Iq GA ?_;refine Qg (.bool false) ?_ ?_
    ·exact SJ
    refine Qp ?_
    iterate 5 refine Qn ?_
    iterate 3 refine Qp ?_
    intro V F wc hR hG;refine Qx ?_;have HEC:=Hd (show Ext wb wc from hR.ext0 (λ_ _ _ h=>h.elim));clear hR hG
    go_wp2_with fail
    go_roundw
    case rel=>exact ⟨m+1,AA,AE,HEB.o.trans HEC.o⟩
    case measure=>simp [intOf];omega
   ·cases kq
    ·have HCF:=Hd (show AW fl z=false from d5.o);refine Qa (λ_ _=>False) [] ?_;refine Qy U AS AH ?_;refine Qy HB17 Iq GA ?_;refine Qg (.bool ca) ?_ ?_
     ·exact QI
     refine Qy U AS AH ?_;refine Qy HB17 Iq GA ?_;refine Qg (.bool ca) ?_ ?_
     ·exact P7
     iterate 2 refine Qp ?_
     refine Qy Z AS AH ?_;refine Qy HB17 Iq GA ?_;refine Qg (.bool false) ?_ ?_
     ·exact Pv
     exact R7
    ·have HCF:=Hd (show AW fl z=true from d5.o);refine Qa (λ_ _=>False) [] ?_;refine Qy U AS AH ?_;refine Qy HB17 Iq GA ?_;refine Qg (.bool ca) ?_ ?_
     ·exact QI
     refine Qy U AS AH ?_;refine Qy HB17 Iq GA ?_;refine Qg (.bool ca) ?_ ?_
     ·exact P7
     iterate 2 refine Qp ?_
     refine Qy Z AS AH ?_;refine Qy HB17 Iq GA ?_;refine Qg (.bool true) ?_ ?_
     ·exact Pv
     exact R7
  ·obtain rfl:m=2:=AA;obtain ⟨em,hem⟩:=eqx (Lq aa);have HEM:=Hd hem.symm;have a8:=b6.o;have O:=Hd (U.o.keep (a8.kept _));clear U;have U:=O;clear O;have O:=Hd (Z.o.keep (a8.kept _));clear Z;have Z:=O;clear O;have O:=Hd (HA8.o.keep (a8.kept _));clear HA8;have HA8:=O;clear O;have O:=Hd (HA11.o.keep (a8.kept _));clear HA11;have HA11:=O;clear O;have O:=Hd (Y.o.keep (a8.kept _));clear Y;have Y:=O;clear O;have M3:=Hd (Y.o.q3);clear hem a8
   go_upto_region 12 with fail
   refine Qa (λ_ _=>False) [] ?_
   iterate 2 refine Qp ?_
   refine Qy U AS AH ?_;refine Qg (.bool em) ?_ ?_
   ·intro V F J L hR hN hp hρ zs zg;have hxx:=hR.o.ext0 (λ_ _ _ h=>h.elim);have HXW:=Hd hxx;clear hxx;refine Qr ?_;refine (Jc (aa) A8 D8 c8 e8 J (λ_=>True) (HA8.o.keep (HXW.o.kept _)).2.2.1 (HA8.o.keep (HXW.o.kept _)).2.2.2 (HT.o.ext (HX11.o.trans HXW.o)).tens (HZ8.o.mono AB)).mono ?_;exact TX
   refine Qy U AS AH ?_;refine Qg (.bool em) ?_ ?_
   ·intro V F J L hR hN hp hρ zs zg;have hxx:=hR.o.ext0 (λ_ _ _ h=>h.elim);have HXW:=Hd hxx;clear hxx;refine Qr ?_;refine (BkA (aa) A8 D8 c8 e8 J (λ_=>True) (HA8.o.keep (HXW.o.kept _)).2.2.1 (HA8.o.keep (HXW.o.kept _)).2.2.2 (HZ8.o.mono AB)).mono ?_;exact TX
   iterate 3 refine Qp ?_
   refine Qy Z AS AH ?_;refine Qp ?_;refine Qm (λV F J L hR hN hp hρ zs zg=>by
    have hxx:=hR.o.ext0 (λ_ _ _ h=>h.elim);exact UP) ?_
   refine Qs (FP λv F J=>SvA (fl) v J) (H1A ?_) ?_ ?_
   ·exact Bn
   ·intro V F J L hR hN hp hρ zs zg;have hxx:=hR.o.ext0 (λ_ _ _ h=>h.elim);have HXW:=Hd hxx;clear hxx;refine Qr ?_;refine (CxA q3 J).mono ?_;rintro e1 w3 ⟨A4',c4',D4',e4',he,hab,hx⟩;rw [HFL.o] at he hab;exact ⟨_,he,F,H4A _ F hx,λ_ _ _ h=>h,A4',c4',D4',e4',rfl,hab.mono λ_ _ _=>trivial⟩
   refine Qg (.bool true) ?_ ?_
   ·intro V F J L hR hN hp hρ zs zg;obtain ⟨A12,c12,D12,e12,hv12,d3⟩:=hp.o 12 AB;have e74:=(hρ.o 74).trans hv12;have hxx:=hR.o.ext0 (λ_ _ _ h=>h.elim);have HXW:=Hd hxx;clear hxx;refine Qr ?_;refine (DRA (fl) A11 D11 A12 D12 c11 e11 c12 e12 J (λ_=>True) (λ_=>True) (HA11.o.keep (HXW.o.kept _)).2.2.1 (HA11.o.keep (HXW.o.kept _)).2.2.2 d3.2.2.1 d3.2.2.2).mono ?_;exact DR
   iterate 2 refine Qp ?_
   refine Qs (FP λv F J=>SvA (noneA) v J) (H1A ?_) ?_ ?_
   ·exact Bn
   ·intro V F J L hR hN hp hρ zs zg;have hxx:=hR.o.ext0 (λ_ _ _ h=>h.elim);have HXW:=Hd hxx;clear hxx;refine Qr ?_;refine (Hk J).mono ?_;exact UL
   refine Qs (FP λv F J=>SvA (noneA) v J) (H1A ?_) ?_ ?_
   ·exact Bn
   ·intro V F J L hR hN hp hρ zs zg;have hxx:=hR.o.ext0 (λ_ _ _ h=>h.elim);have HXW:=Hd hxx;clear hxx;refine Qr ?_;refine (QV J).mono ?_;exact UL
   refine Qg (.bool true) ?_ ?_
   ·intro V F J L hR hN hp hρ zs zg;obtain ⟨A16,c16,D16,e16,hv16,d4⟩:=hp.o 16 AB;have e78:=(hρ.o 78).trans hv16;obtain ⟨A17,c17,D17,e17,hv17,b8⟩:=hp.o 17 AB;have e79:=(hρ.o 79).trans hv17;have hxx:=hR.o.ext0 (λ_ _ _ h=>h.elim);have HXW:=Hd hxx;clear hxx;refine Qr ?_;refine (DRA (noneA) A16 D16 A17 D17 c16 e16 c17 e17 J (λ_=>True) (λ_=>True) d4.2.2.1 d4.2.2.2 b8.2.2.1 b8.2.2.2).mono ?_;exact DR
   iterate 2 refine Qp ?_
   intro V F wd hR hG;refine Qx ?_;have HED:=Hd (show Ext b7 wd from hR.ext0 (λ_ _ _ h=>h.elim));clear hR hG;go_wp2;go_ret;exact ⟨rfl,HX11.o.trans HED.o⟩
