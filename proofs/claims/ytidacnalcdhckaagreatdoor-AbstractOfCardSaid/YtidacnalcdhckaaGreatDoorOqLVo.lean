/- Lemmas. No conditions. -/
import Derived.Test.YtidacnalcdhckaaGreatDoorOq40
import Derived.Test.YtidacnalcdhckaaGreatDoorOq43
set_option maxRecDepth 100000
set_option maxHeartbeats 4000000
namespace Go.Proofs.YtidacnalcdhckaaGreatDoor
open Go Go.RowKit Tryz
variable {qP:Prop}

theorem Ix(h:qP:=by
 iterate 3 refine Qp ?_
 intro vals γ wc hR hG;refine Qx ?_;have HEC:=Hd (show Ext wb wc from hR.ext0 (fun _ _ _ h=>h.elim));clear hR hG
 go_wp2_with fail
 go_roundw
 case rel=>exact ⟨m+1,by omega,by go_num,HEB.o.trans HEC.o⟩
 case measure=>simp [intOf];omega):qP:=h
theorem KA(h:qP:=by
 intro vals γ w' ρ hR hN hp hρ zs zg;have hxx:=hR.o.ext0 (fun _ _ _ h=>h.elim);have HXW:=Hd hxx;clear hxx;refine Qr ?_;refine (DKA 1 z Bz Cz bz kz w' (fun _=>True) (HVZ2.o.keep (HXW.o.kept _)) HCZ.o).mono ?_;rintro e1 w3 ⟨A4',c4',D4',e4',he,hab,hx⟩;rw [HO.o] at he hab;exact ⟨_,he,γ,H4A _ γ hx,fun _ _ _ h=>h,A4',c4',D4',e4',rfl,hab.mono fun _ _ _=>trivial⟩):qP:=h
theorem G8(h:qP:=by
 intro vals γ w' ρ hR hN hp hρ zs zg;obtain ⟨A2,c2,D2,e2,hv2,hab2⟩:=hp.o 2 (by decide);have e32:=(hρ.o 32).trans hv2;have hxx:=hR.o.ext0 (fun _ _ _ h=>h.elim);have HXW:=Hd hxx;clear hxx;refine Qr ?_;refine (DRA (o) A10 D10 A2 D2 c10 e10 c2 e2 w' (fun _=>True) (fun _=>True) (HA10.o.keep (HXW.o.kept _)).2.2.1 (HA10.o.keep (HXW.o.kept _)).2.2.2 hab2.2.2.1 hab2.2.2.2).mono ?_;exact DR):qP:=h
theorem JK(h:qP:=by
 intro vals γ w' ρ hR hN hp hρ zs zg;have hxx:=hR.o.ext0 (fun _ _ _ h=>h.elim);have HXW:=Hd hxx;clear hxx;refine Qr ?_;refine (BX 1 (o) z A10 D10 Bz Cz c10 e10 bz kz w' (fun _=>True) (fun _=>True) (HA10.o.keep (HXW.o.kept _)).2.2.1 (HA10.o.keep (HXW.o.kept _)).2.2.2 (HVZ2.o.keep (HXW.o.kept _)) HCZ.o (HT.o.ext (HXB.o.trans HXW.o)).tens (HZ10.o.mono (by decide))).mono ?_;rintro e1 w3 ⟨he,hx⟩;rw [HCO.o] at he;exact DP):qP:=h
theorem Gy(h:qP:=by
 intro vals γ w' ρ hR hN hp hρ zs zg;have hxx:=hR.o.ext0 (fun _ _ _ h=>h.elim);have HXW:=Hd hxx;clear hxx;refine Qr ?_;refine (Jc (o) A10 D10 c10 e10 w' (fun _=>True) (HA10.o.keep (HXW.o.kept _)).2.2.1 (HA10.o.keep (HXW.o.kept _)).2.2.2 (HT.o.ext (HXB.o.trans HXW.o)).tens (HZ10.o.mono (by decide))).mono ?_;rintro e1 w3 ⟨he,hx⟩;rw [HEQ.o] at he;exact DP):qP:=h
theorem PM(l0:List Int)(q0 q1 q2:Int)(a0:OA)(d0:Nat)(w:World)(S:NP)(ht:Txa w)(h0:IntsL w S a0 l0)(k0:l0.length≤d0) :
  Cl 4 #[.slice a0 l0.length d0,.agg #[.I q0,.I q1,.I q2]] w (Ae w true):=by
 obtain ⟨HT,H0,K0⟩:=Hd3 ht h0 k0;clear ht h0 k0
 go_enter func4,ntmps4
 go_upto_region 1 with fail
 obtain ⟨gq,hg⟩:=eqx w.heap.size;rw [←hg];obtain ⟨w0,hw⟩:=eqx (w.alloc (.cells #[.I q0,.I q1,.I q2] 50));rw [←hw];have hx0:Ext w w0:=(by rw [hw];exact (Ext.refl _).alloc _);have hbq:Blk w0 gq 50 #[.I q0,.I q1,.I q2]:=(by rw [hw,hg];exact Blk.new _ _ _);clear hw hg
 go_wp2_with fail
 refine (BXA w0 (HT.o.ext hx0)).mono ?_;rintro ee w1 ⟨rfl,hx⟩;have HX1:=Hd (hx0.trans hx);have HBQ:=Hd (hbq.keep (hx.kept _));clear hx hx0 hbq
 go_wp2_with fail
 refine (Ni l0 a0 d0 w1 S (H0.o.keep (HX1.o.kept _))).mono ?_;rintro ee w2 ⟨x,hrx,B8,b8,C8,k8,rfl,hcp,hrv,hx⟩;obtain ⟨HR8,HX2,HE2,HC8,HV8⟩:=Hd5 hrx (HX1.o.trans hx) hx hcp.1 (hrv.mono (T:=(fun _=>True)) fun _ _ _=>trivial);clear hx hrx hcp hrv
 go_upto_region 3 with fail
 obtain ⟨g8,hg⟩:=eqx w2.heap.size;rw [←hg];obtain ⟨w3,hw⟩:=eqx (w2.alloc (.cells (Vp x B8 b8 C8 k8) 29));rw [←hw];have hx:Ext w2 w3:=(by rw [hw];exact (Ext.refl _).alloc _);obtain ⟨HB8,HX3,HE3,HAN⟩:=Hd4 (show Blk w3 g8 29 (Vp x B8 b8 C8 k8) by rw [hw,hg];exact Blk.new _ _ _) (HX2.o.trans hx) (HE2.o.trans hx) (HV8.o.keep (hx.kept _));clear HV8;have HV8:=HAN;clear HAN hx hw hg HX1 HX2;refine wp_region_lit ?_;refine AJ rfl 29 _ rfl g8 rfl HB8.o Iq GA ?_;refine AJ rfl 50 _ rfl gq rfl (HBQ.o.keep (HE3.o.kept _)) P5 PZ ?_
 go_wp2_with fail
 refine (Ou x B8 C8 b8 k8 q0 q1 q2 w3 (fun _=>True) HV8.o HR8.o).mono ?_;rintro ee w4 ⟨y,A9,c9,D9,e9,rfl,hcp,hrv,hx⟩
 go_upto_region 4 with fail
 obtain ⟨g9,hg⟩:=eqx w4.heap.size;rw [←hg];obtain ⟨w5,hw⟩:=eqx (w4.alloc (.cells (Vp y A9 c9 D9 e9) 29));rw [←hw];have hx2:Ext w3 w5:=(by rw [hw];exact hx.alloc _);have hx3:Ext w4 w5:=(by rw [hw];exact (Ext.refl _).alloc _);obtain ⟨HB9,HV9,HC9,HX5,HAN⟩:=Hd5 (show Blk w5 g9 29 (Vp y A9 c9 D9 e9) by rw [hw,hg];exact Blk.new _ _ _) ((hrv.mono (T:=(fun _=>True)) fun _ _ _=>trivial).keep (hx3.kept _)) hcp.1 (HX3.o.trans hx2) (HB8.o.keep (hx2.kept _));clear HB8;have HB8:=HAN;clear HAN;have HAN:=Hd (HV8.o.keep (hx2.kept _));clear HV8;have HV8:=HAN;clear HAN hx hx2 hx3 hw hg hcp hrv HX3 HE3 HBQ;refine wp_region_lit ?_;refine AJ rfl 29 _ rfl g8 rfl HB8.o Iq GA ?_;refine AJ rfl 29 _ rfl g9 rfl HB9.o Iq GA ?_;go_wp2;obtain ⟨gv,hg⟩:=eqx w5.heap.size;rw [←hg];generalize hw:w5.alloc _=w6;have HAV:=Hd (show ArrV w6 gv [x,y] by rw [←hw,hg];exact MU HV8.o HC8.o HV9.o HC9.o);have HX6:=Hd (show Ext w w6 by rw [←hw];exact HX5.o.alloc _);clear hw hg HX5 HB8 HB9 HV8 HV9 HR8
 go_loopw [22] (fun i wr=>∃ m:Nat,m≤2∧i=.I m∧Ext w6 wr) (fun i _=>2-(intOf i).toNat)
 case atStart=>exact ⟨0,AA,rfl,Ext.refl _⟩
 case round =>
  obtain ⟨m,hm,rfl,hext⟩:=hrel;obtain ⟨w7,rfl⟩:=eqx wr;have HE7:=Hd hext;have HX7:=Hd (HX6.o.trans hext);clear hext;by_cases hlm:m<2
  ·obtain ⟨z,hz⟩:∃ z,[x,y][m]?=some z:=⟨[x,y][m]'hlm,List.getElem?_eq_getElem _⟩;obtain ⟨Bz,bz,Cz,kz,hra,hgl,hcz,hvz⟩:=HAV.o.ext HE7.o m z hz;obtain ⟨HRA,HVZ,HCZ⟩:=Hd3 hra hvz hcz;clear hra hvz hcz hz hgl;have hq2:(m:Int)<2:=AA
   go_upto_region 6 with fail
   refine wp_region_lit ?_;refine AZ rfl (.pointer (some ⟨gv,m*7,none⟩)) (w':=w7) (by simp [execOp,go_sem,hq2]) ?_;refine Qt ?_;refine Kb rfl 29 _ rfl gv (m*7) rfl HRA.o Iq GA ?_;refine Qt ?_;refine KD rfl rfl ?_;obtain ⟨g17,hg⟩:=eqx w7.heap.size;rw [←hg];refine AM rfl 29 _ _ rfl g17 (Vp z Bz bz Cz kz) rfl rfl 29 _ (P2 hg) GA rfl AD ?_;intro w8 hb ho
   go_upto_region 7 with fail
   have hxo:Ext w7 w8:=(exaa w7).only ho Ez;obtain ⟨HX8,HE8,HB17,HVZ2⟩:=Hd4 (HX7.o.trans hxo) (HE7.o.trans hxo) hb (HVZ.o.keep (hxo.kept _));clear hb ho hxo hg HVZ HRA HX7 HE7;obtain ⟨o,hof⟩:=eqx (ofA z);have HO:=Hd hof.symm;have HZ10:=Hd (show AbN 300 o by rw [hof];exact Mx z);obtain ⟨p,hp⟩:=eqx (BC z);obtain ⟨HP,HCO,HEO⟩:=Hd3 hp.symm (show AW o z=p by rw [hof,hp];exact Ke z) (show Lq o = !p by rw [hof,hp];exact Ld z);clear hof hp;refine wp_region_lit ?_;refine AJ rfl 29 _ rfl g17 rfl HB17.o Iq GA ?_;refine Qt ?_
   go_wp2_with fail
   refine (Am 1 z Bz Cz bz kz w8 (fun _=>True) HVZ2.o HCZ.o (HT.o.ext HX8.o).tens).mono ?_;rintro ee w9 ⟨A10,c10,D10,e10,he,hab,hxt⟩;rw [HO.o] at he hab;subst he;rename_i K1 hK1 K2 hK2;refine hK2 _ _ ?_;refine Ag rfl rfl ?_;obtain ⟨g10,hg⟩:=eqx w9.heap.size;rw [←hg];refine AM rfl 39 _ _ rfl g10 (Ap o A10 c10 D10 e10) rfl rfl 39 _ (GK hg) AH rfl AD ?_;intro wa hb ho;refine hK1 _ _ ?_;have hxo:Ext w9 wa:=(exaa w9).only ho Ez;have hxn:=hxt.trans hxo;obtain ⟨HXA,HEA,HB10,HA10,HAN⟩:=Hd5 (HX8.o.trans hxn) (HE8.o.trans hxn) hb ((hab.mono (T:=(fun _=>True)) fun _ _ _=>trivial).keep (hxo.kept _)) (HB17.o.keep (hxn.kept _));clear HB17;have HB17:=HAN;clear HAN;have HVZ:=Hd (HVZ2.o.keep (hxn.kept _));clear hK1 hK2 hb ho hxo hxt hxn hab hg HX8 HE8 HVZ2
   go_frame
   go_upto_region 8 with fail
   refine wp_region_lit ?_;refine AJ rfl 29 _ rfl g17 rfl HB17.o Iq GA ?_;refine Qt ?_
   go_wp2_with fail
   refine (C8A 1 z Bz Cz bz kz wa (fun _=>True) HVZ.o).mono ?_;rintro ee wb ⟨he,hx⟩;rw [HP.o] at he;subst he
   go_upto_region 9 with fail
   obtain ⟨HXB,HEB,HAN⟩:=Hd3 (HXA.o.trans hx) (HEA.o.trans hx) (HB17.o.keep (hx.kept _));clear HB17;have HB17:=HAN;clear HAN;have HAN:=Hd (HB10.o.keep (hx.kept _));clear HB10;have HB10:=HAN;clear HAN;have HAN:=Hd (HA10.o.keep (hx.kept _));clear HA10;have HA10:=HAN;clear HAN;have HVZ2:=Hd (HVZ.o.keep (hx.kept _));clear hx HVZ HXA HEA;cases p
   ·have HEQ:=Hd (show Lq o=true from HEO.o);clear HEO HP;refine Qa (fun _ _=>False) [] ?_;refine Qy HB10 AS AH ?_;refine Qy HB17 Iq GA ?_;refine Qs (FP fun v γ w'=>SvA (o) v w') (H1A ?_) ?_ ?_
    ·exact Bn
    ·exact KA
    refine Qg (.bool true) ?_ ?_
    ·exact G8
    iterate 2 refine Qp ?_
    refine Qy HB10 AS AH ?_;refine Qy HB17 Iq GA ?_;refine Qg (.bool false) ?_ ?_
    ·exact JK
    iterate 4 refine Qp ?_
    refine Qy HB10 AS AH ?_;refine Qg (.bool true) ?_ ?_
    ·exact Gy
    exact Ix
   ·have HEQ:=Hd (show Lq o=false from HEO.o);clear HEO HP;refine Qa (fun _ _=>False) [] ?_;refine Qy HB10 AS AH ?_;refine Qy HB17 Iq GA ?_;refine Qs (FP fun v γ w'=>SvA (o) v w') (H1A ?_) ?_ ?_
    ·exact Bn
    ·exact KA
    refine Qg (.bool true) ?_ ?_
    ·exact G8
    iterate 2 refine Qp ?_
    refine Qy HB10 AS AH ?_;refine Qy HB17 Iq GA ?_;refine Qg (.bool true) ?_ ?_
    ·exact JK
    iterate 4 refine Qp ?_
    refine Qy HB10 AS AH ?_;refine Qg (.bool false) ?_ ?_
    ·exact Gy
    exact Ix
  ·obtain rfl:m=2:=AA
   go_wp2_with fail
   go_ret;exact ⟨rfl,HX7.o⟩
end Go.Proofs.YtidacnalcdhckaaGreatDoor
