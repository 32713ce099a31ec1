/- Lemmas. No conditions. -/
import Derived.Test.YtidacnalcdhckaaGreatDoorOq24
set_option maxRecDepth 100000
set_option maxHeartbeats 4000000
namespace Go.Proofs.YtidacnalcdhckaaGreatDoor
open Go Go.RowKit Tryz
variable {qP:Prop}

theorem YT(s:BA):ShN 200 (ofS s):=by
 unfold ofS;split
 ·rename_i h;have:s.size≤200:=by
   unfold Ca at h;simp at h;exact h.1
  exact ⟨this,this⟩
 ·exact IGA _
theorem Jm{v:Val}(hr:BC v=true)(hk:v.kind=5):v.cols.length≤8:=by
 unfold BC at hr;rw [if_pos hk,Bool.and_eq_true] at hr;have h:=hr.1;unfold BK at h;simp only [Bool.and_eq_true,decide_eq_true_eq] at h;exact h.1.1.1
theorem FpA{v:Val}(hr:BC v=true):AbN 300 (CO v):=by
 have ht:ShN 200 (CO v).tx:=by
  show ShN 200 (if v.kind=1 then ofS v.s else H3A);split
  ·exact YT _
  ·exact IGA _
 refine ⟨Nat.le_trans ht.1 AB,Nat.le_trans ht.2 AB,?_,?_,?_⟩
 ·show (if v.kind=5 then v.cols else []).length≤300;split
  ·rename_i hk;have:=Jm hr hk;omega
  ·exact AN
 ·show (if v.kind=5 then Co v.cols v.rows else []).length≤300;split
  ·rename_i hk;exact (Ju _ _ (Jm hr hk)).1
  ·exact AN
 ·show ∀ d∈(if v.kind=5 then Co v.cols v.rows else []),d.frm.length≤300;split
  ·rename_i hk;intro d hd;have:=(Ju _ _ (Jm hr hk)).2 d hd;omega
  ·intro d hd;cases hd
theorem Mx(v:Val):AbN 300 (ofA v):=by
 unfold ofA;split
 ·rename_i h;exact (FpA h).can
 ·exact ISA _
theorem DXA{v:Val}(hk:v.kind=0):AX (CO v) = { noneA with errs:=true }:=by
 have hb:(CO v).kinds=1:=by
  show NO v.kind=1;rw [hk];rfl
 have h1:pT (CO v)=false:=(by unfold pT;rw [hb];rfl);have h2:pN (CO v)=false:=(by unfold pN;rw [hb];rfl);have h3:pD (CO v)=false:=(by unfold pD;rw [hb];rfl);have h4:pB (CO v)=false:=(by unfold pB;rw [hb];rfl);have h5:pR (CO v)=false:=(by unfold pR;rw [hb];rfl);have he:(CO v).errs=true:=(by show decide (v.kind=0)=true;rw [hk];rfl);unfold AX;rw [h1,h2,h3,h4,h5,he];rfl
theorem UU(h:qP:=by
 rw [HF.o];exact ⟨_,_,_,_,rfl,AbM.nil ⟨rfl,rfl⟩,HXF.o⟩):qP:=h
theorem P9(h:qP:=by
 have HBF:=Hd hbf;clear hbf hof
 go_wp2_with fail
 refine bodyPost_ret (Bv results19 rfl (Eq HBF.o AS AH)) rfl ?_;exact UU):qP:=h
theorem Oe(h:qP:=by
 have hbb:=HR6.o.set 0 (.I p2);rw [←hwb] at hbb;rw [HR0.o]
 simpa using hbb):qP:=h
theorem AiA(h:qP:=by
 have h:=((show AbM w6 (fun b=>(T b∧b<w.heap.size)∨g3<b) r0 none 0 none 0 from AbM.nil (by rw [HRR.o];exact ⟨rfl,rfl⟩))).keep hkb;rw [HR0.o];exact h):qP:=h
theorem IV(h:qP:=by
 clear p0;have p0:=(HB1.o.keep (HX6.o.kept _)).q0;have r0c:=HR6.o.q0;have rf:=HR6.o.frozen;have rl:=HR6.o.lt
 go_wp2_with fail
 refine (HBI.o _).mono ?_;rintro e9 w9 ⟨rfl,rfl⟩
 go_upto_region 21 with fail
 obtain ⟨wb,hwb⟩:=eqx (w6.setCell ⟨g3,0,none⟩ (.I p2));rw [←hwb];have HXB:=Hd (show Ext w1 wb by rw [hwb];exact HX6.o.set2 (Bl HG3.o) _);have hrb:Blk wb g3 39 (Ap raw none 0 none 0):=by
  exact Oe
 have HRB:=Hd hrb;have hkb:Kept (fun b=>(T b∧b<w.heap.size)∨g3<b) w6 wb:=(by rw [hwb];exact (Kept.refl _ _).set2 (fun h=>by have:=HG3.o;have:=HXW.o.size;rcases h with h | h;(have:=h.2;omega);omega));have HAB:=Hd (show AbM wb (fun b=>(T b∧b<w.heap.size)∨g3<b) raw none 0 none 0 from by
  exact AiA)
 clear hwb hrb hkb p0 r0c rf rl;have HCN:=Hd (As raw none none 0 0 wb _ HAB.o.2.2.1 HAB.o.2.2.2 (HT.o.ext (HXW.o.trans HXB.o)) HNR.o);refine wp_region_lit ?_;refine AJ rfl 39 _ rfl g3 rfl HRB.o AS AH ?_
 go_wp2_with fail
 refine HCN.o.mono ?_;rintro e5 w5 ⟨A5,c5,D5,e5,rfl,hab5,hx5⟩;have HX5:=Hd (HXB.o.trans hx5);have HAB5:=Hd hab5;have hb25:=HB2.o.keep (HX5.o.kept _);rename_i K1 hK1 K2 hK2;refine hK2 _ _ ?_;refine AM rfl 39 _ _ rfl g2 (Ap (AX raw) A5 c5 D5 e5) rfl rfl 39 _ hb25 AH rfl (by kernel_rfl) ?_;intro wf hbf hof;refine hK1 _ _ ?_;obtain ⟨HXF,HBF,HABF⟩:=Hd3 ((HXW.o.trans HX5.o).only hof (by have:=HG2.o;omega)) hbf hab5;have hkf:=hof.kept (S:=fun b=>(T b∧b<w.heap.size)∨g3<b) (fun b _ hb e=>by have:=HG2.o;have:=HG3.o;have:=HB2.o.lt;rcases hb with h|h;(have:=h.2;omega);omega);have HKF:=Hd hkf;clear hK1 hK2 hbf hb25 hx5 hab5 hof hkf
 go_wp2_with fail
 refine bodyPost_ret (Bv results19 rfl (Eq HBF.o AS AH)) rfl ?_;rw [HOF.o,←HRAW.o];exact ⟨A5,c5,D5,e5,rfl,((HABF.o.mono (T:=fun b=>(T b∧b<w.heap.size)∨g3<b) fun b _ hb=>by rcases hb with h | h;exact h;exact .inr (by have:=HRB.o.lt;omega)).keep HKF.o).mono fun b _ hb=>hb.imp And.left fun h=>by have:=HG3.o;have:=HXW.o.size;omega,HXF.o⟩):qP:=h
theorem B4(h:qP:=by
 rw [←hw6] at hbb;rw [HRR.o]
 simpa using hbb):qP:=h
theorem VH(h:qP:=by
 clear hw6 rf rl p4 r12;exact IV):qP:=h
theorem Ic(h:qP:=by rw [hw0,hg1];exact (Blk.new _ _ _).keep ((exaa _).kept _)):qP:=h
theorem Lf(h:qP:=by have:=HG3.o;have:=HXW.o.size;have:=h.2;omega):qP:=h
theorem Am(q:Nat)(x:Val)(B C:OA)(cb cc:Nat)(w:World)(T:NP)(hx:RV w T q x B C)(hcap:x.cols.length≤cb)(ht:Tens w) :
  Cl 19 #[(Vq x B cb C cc)] w (Eh w T (ofA x)):=by
 obtain ⟨w0,hw0⟩:=eqx ((w.alloc (.cells (Vp x B cb C cc) 29)).alloc (.cells Az 39));obtain ⟨g1,hg1⟩:=eqx w.heap.size;obtain ⟨g2,hg2⟩:=eqx (w.heap.size+1);have hx0:Ext w w0:=Bh;have hb1:Blk w0 g1 29 (Vp x B cb C cc):=Ic;have hb2:Blk w0 g2 39 Az:=(by rw [hw0,hg2];exact H6A _ _ _ _);obtain ⟨HW0,HG1,HG2,HX0,HB10,HB20,HV,HT⟩:=Hd8 hw0 hg1 hg2 hx0 hb1 hb2 (hx.mono (T:=fun b=>T b∧b<w.heap.size) fun i hi hs=>⟨hs,hi⟩) ht;have hss:=hx.size;have hcp:=hcap;clear hw0 hg1 hg2 hx0 hb1 hb2 hx ht hcap
 go_enter func19,ntmps19
 go_upto_region 1 with fail
 rw [←HW0.o,←HG2.o,←HG1.o]
 go_wp2_with fail
 refine (Hk _).mono ?_;rintro e1 w1 ⟨rfl,hx1⟩;rename_i K1 hK1 K2 hK2;refine hK2 _ _ ?_;refine Ag rfl rfl ?_;obtain ⟨g3,hg3⟩:=eqx w1.heap.size;rw [←hg3];refine AM rfl 39 _ _ rfl g3 (Ap noneA none 0 none 0) rfl rfl 39 _ (GK hg3) AH rfl AD ?_;intro w2 hb3 ho2;have hx2:Ext w1 w2:=(exaa w1).only ho2 GI;obtain ⟨HXW,HB1,HB2,HX2,HR2,HG3⟩:=Hd6 (HX0.o.trans hx1) (HB10.o.keep (hx1.kept _)) (HB20.o.keep (hx1.kept _)) hx2 hb3 hg3;have HV2:=Hd ((HV.o.keep (HXW.o.kept _)).keep (hx2.kept _));have HRT:=Hd (Nx q x B C cb cc w2 _ HV2.o hcp);refine hK1 _ _ ?_;clear hK1 hK2 hb3 ho2 hx1 hx2 hg3;have hba:=HB1.o.keep (HX2.o.kept _);obtain ⟨p0,p1,p2,p3,p4,p5,p6⟩:=hba.qs7;clear hba
 go_wp2_with fail
 cases hr:BC x
 ·have HF:=Hd (show ofA x=noneA by unfold ofA;rw [hr];rfl);rw [hr] at HRT;clear hr;refine HRT.o.mono ?_;rintro e3 w3 ⟨rfl,hx3⟩;have HX3:=Hd (HX2.o.trans hx3);have HR3:=Hd (HR2.o.keep (hx3.kept _));clear hx3 p0 p1 p2 p3 p4 p5 p6
  go_upto_region 3 with fail
  refine wp_region_lit ?_;refine AJ rfl 39 _ rfl g3 rfl HR3.o AS AH ?_;refine AM rfl 39 _ _ rfl g2 (Ap noneA none 0 none 0) rfl rfl 39 _ (HB2.o.keep (HX3.o.kept _)) AH rfl AD ?_;intro wf hbf hof;refine wpList_nil ?_;have HXF:=Hd ((HXW.o.trans HX3.o).only hof Bq);exact P9
 have HR:=Hd hr;rw [hr] at HRT;have HOF:=Hd (show ofA x=AX (CO x) by unfold ofA;rw [hr];rfl);have HNR:=Hd ((FpA hr).mono (m:=1000000) AB);clear hr;refine HRT.o.mono ?_;rintro e3 w3 ⟨rfl,hx3⟩;obtain ⟨HX3,HR3,HV3⟩:=Hd3 (HX2.o.trans hx3) (HR2.o.keep (hx3.kept _)) (HV2.o.keep (hx3.kept _));clear hx3 p0 p1 p2 p3 p4 p5 p6;have hba:=HB1.o.keep (HX3.o.kept _);have p0:=hba.q0;have rf:=HR3.o.frozen;have rl:=HR3.o.lt;obtain ⟨raw,hraw⟩:=eqx (CO x);rw [←hraw] at HNR;have HRAW:=Hd hraw;clear hraw
 rcases Dh HR.o with hk|hk|hk|hk|hk|hk
 ·have HF:=Hd (show ofA x = { noneA with errs:=true } by rw [HOF.o];exact DXA hk);have r17:w3.cell? ⟨g3,17,none⟩=some (.bool noneA.errs):=HR3.o.q17;clear hba
  go_upto_region 7 with fail
  obtain ⟨w4,hw4⟩:=eqx (w3.setCell ⟨g3,17,none⟩ (.bool true));rw [←hw4];have HX4:=Hd (show Ext w1 w4 by rw [hw4];exact HX3.o.set2 (Bl HG3.o) _);have HR4:=Hd (show Blk w4 g3 39 #[.I noneA.kinds,.I noneA.tx.least,.I noneA.tx.most,.I noneA.tx.cls,.string noneA.tx.b,.string noneA.tx.e,.I noneA.nu.ln,.I noneA.nu.ls,.I noneA.nu.hn,.I noneA.nu.hs,.I noneA.dl,.I noneA.dh,.I noneA.bo,.I noneA.rl,.I noneA.rh,.slice none noneA.cols.length 0,.slice none noneA.deps.length 0,.bool true] by rw [hw4];simpa using HR3.o.set 17 (.bool true));clear hw4 r17 p0 rf rl;refine wp_region_lit ?_;refine AJ rfl 39 _ rfl g3 rfl HR4.o AS AH ?_;refine AM rfl 39 _ _ rfl g2 #[.I noneA.kinds,.I noneA.tx.least,.I noneA.tx.most,.I noneA.tx.cls,.string noneA.tx.b,.string noneA.tx.e,.I noneA.nu.ln,.I noneA.nu.ls,.I noneA.nu.hn,.I noneA.nu.hs,.I noneA.dl,.I noneA.dh,.I noneA.bo,.I noneA.rl,.I noneA.rh,.slice none noneA.cols.length 0,.slice none noneA.deps.length 0,.bool true] rfl rfl 39 _ (HB2.o.keep (HX4.o.kept _)) AH rfl AD ?_;intro wf hbf hof;refine wpList_nil ?_;have HXF:=Hd ((HXW.o.trans HX4.o).only hof Bq);exact P9
 ·obtain ⟨p2,hp2⟩:∃ z:Int,z=((2^1:Nat):Int):=⟨_,rfl⟩;have HBI:=Hd (show ∀ w',Cl 48 #[.I 1] w' (Bk w' p2) from fun w'=>by rw [hp2];exact At 1 AA w');obtain ⟨r0,hr0⟩:∃ z:Abs,z = { noneA with tx:=ofS x.s }:=⟨_,rfl⟩;obtain ⟨HR0,HRR,HK⟩:=Hd3 (show raw = { r0 with kinds:=p2 } by rw [HRAW.o,hr0,hp2];unfold CO noneA;simp [hk,NO]) hr0 hk;clear hp2 hr0;have p1:=hba.q1;clear hba rf rl
  go_wp2_with fail
  refine (DZA x.s hss _).mono ?_;rintro e4 w4 ⟨rfl,hx4⟩;have HX4:=Hd (HX3.o.trans hx4);have HR4:=Hd (HR3.o.keep (hx4.kept _));clear hx4;have rf:=HR4.o.frozen;have rl:=HR4.o.lt;have r1:=HR4.o.q1;have r2:=HR4.o.q2;have r3:=HR4.o.q3;have r4:=HR4.o.q4;have r5:=HR4.o.q5
  go_upto_region 20 with fail
  obtain ⟨w6,hw6⟩:=eqx ((((((w4.setCell ⟨g3,1,none⟩ (.I (ofS x.s).least)).setCell ⟨g3,2,none⟩ (.I (ofS x.s).most)).setCell ⟨g3,3,none⟩ (.I (ofS x.s).cls)).setCell ⟨g3,4,none⟩ (.string (ofS x.s).b)).setCell ⟨g3,5,none⟩ (.string (ofS x.s).e)));rw [←hw6];have HX6:=Hd (show Ext w1 w6 by rw [hw6];exact (((((HX4.o.set2 (Bl HG3.o) _).set2 (Bl HG3.o) _).set2 (Bl HG3.o) _).set2 (Bl HG3.o) _).set2 (Bl HG3.o) _));have HR6:=Hd (show Blk w6 g3 39 (Ap r0 none 0 none 0) by
   have hbb:=(((((HR4.o.set 1 (.I (ofS x.s).least)).set 2 (.I (ofS x.s).most)).set 3 (.I (ofS x.s).cls)).set 4 (.string (ofS x.s).b)).set 5 (.string (ofS x.s).e));exact B4)
  clear hw6 rf rl p1 r1 r2 r3 r4 r5;exact IV
 ·obtain ⟨p2,hp2⟩:∃ z:Int,z=((2^2:Nat):Int):=⟨_,rfl⟩;have HBI:=Hd (show ∀ w',Cl 48 #[.I 2] w' (Bk w' p2) from fun w'=>by rw [hp2];exact At 2 AA w');obtain ⟨r0,hr0⟩:∃ z:Abs,z = { noneA with nu:=⟨x.dn,x.ds,x.dn,x.ds⟩ }:=⟨_,rfl⟩;obtain ⟨HR0,HRR,HK⟩:=Hd3 (show raw = { r0 with kinds:=p2 } by rw [HRAW.o,hr0,hp2];unfold CO noneA;simp [hk,NO]) hr0 hk;clear hp2 hr0;have p2:=hba.q2;have p3:=hba.q3;clear hba;have r6:=HR3.o.q6;have r7:=HR3.o.q7;have r8:=HR3.o.q8;have r9:=HR3.o.q9
  go_upto_region 20 with fail
  obtain ⟨w6,hw6⟩:=eqx (((((w3.setCell ⟨g3,6,none⟩ (.I x.dn)).setCell ⟨g3,7,none⟩ (.I x.ds)).setCell ⟨g3,8,none⟩ (.I x.dn)).setCell ⟨g3,9,none⟩ (.I x.ds)));rw [←hw6];have HX6:=Hd (show Ext w1 w6 by rw [hw6];exact ((((HX3.o.set2 (Bl HG3.o) _).set2 (Bl HG3.o) _).set2 (Bl HG3.o) _).set2 (Bl HG3.o) _));have HR6:=Hd (show Blk w6 g3 39 (Ap r0 none 0 none 0) by
   have hbb:=((((HR3.o.set 6 (.I x.dn)).set 7 (.I x.ds)).set 8 (.I x.dn)).set 9 (.I x.ds));exact B4)
  clear hw6 rf rl p2 p3 r6 r7 r8 r9;exact IV
 ·obtain ⟨p2,hp2⟩:∃ z:Int,z=((2^3:Nat):Int):=⟨_,rfl⟩;have HBI:=Hd (show ∀ w',Cl 48 #[.I 3] w' (Bk w' p2) from fun w'=>by rw [hp2];exact At 3 AA w');obtain ⟨r0,hr0⟩:∃ z:Abs,z = { noneA with dl:=x.n,dh:=x.n }:=⟨_,rfl⟩;obtain ⟨HR0,HRR,HK⟩:=Hd3 (show raw = { r0 with kinds:=p2 } by rw [HRAW.o,hr0,hp2];unfold CO noneA;simp [hk,NO]) hr0 hk;clear hp2 hr0;have p4:=hba.q4;clear hba;have r10:=HR3.o.q10;have r11:=HR3.o.q11
  go_upto_region 20 with fail
  obtain ⟨w6,hw6⟩:=eqx (((w3.setCell ⟨g3,10,none⟩ (.I x.n)).setCell ⟨g3,11,none⟩ (.I x.n)));rw [←hw6];have HX6:=Hd (show Ext w1 w6 by rw [hw6];exact ((HX3.o.set2 (Bl HG3.o) _).set2 (Bl HG3.o) _));have HR6:=Hd (show Blk w6 g3 39 (Ap r0 none 0 none 0) by
   have hbb:=((HR3.o.set 10 (.I x.n)).set 11 (.I x.n));exact B4)
  clear hw6 rf rl p4 r10 r11;exact IV
 ·have hbn:=Gx HR.o hk
  rcases hbn with h4|h4
  ·have hw1:IntKind.i64.wrap 1=1:=rfl;obtain ⟨p2,hp2⟩:∃ z:Int,z=((2^4:Nat):Int):=⟨_,rfl⟩;have HBI:=Hd (show ∀ w',Cl 48 #[.I 4] w' (Bk w' p2) from fun w'=>by rw [hp2];exact At 4 AA w');obtain ⟨r0,hr0⟩:∃ z:Abs,z = { noneA with bo:=1 }:=⟨_,rfl⟩;obtain ⟨HR0,HRR,HK⟩:=Hd3 (show raw = { r0 with kinds:=p2 } by rw [HRAW.o,hr0,hp2];unfold CO noneA;simp [hk,NO,h4]) hr0 hk;clear hp2 hr0;have p4:=hba.q4;clear hba;have r12:=HR3.o.q12
   go_upto_region 20 with fail
   obtain ⟨w6,hw6⟩:=eqx (w3.setCell ⟨g3,12,none⟩ (.I 1));rw [←hw6];have HX6:=Hd (show Ext w1 w6 by rw [hw6];exact (HX3.o.set2 (Bl HG3.o) _));have HR6:=Hd (show Blk w6 g3 39 (Ap r0 none 0 none 0) by
    have hbb:=(HR3.o.set 12 (.I 1));exact B4)
   exact VH
  ·have hw1:IntKind.i64.wrap 2=2:=rfl;obtain ⟨p2,hp2⟩:∃ z:Int,z=((2^4:Nat):Int):=⟨_,rfl⟩;have HBI:=Hd (show ∀ w',Cl 48 #[.I 4] w' (Bk w' p2) from fun w'=>by rw [hp2];exact At 4 AA w');obtain ⟨r0,hr0⟩:∃ z:Abs,z = { noneA with bo:=2 }:=⟨_,rfl⟩;obtain ⟨HR0,HRR,HK⟩:=Hd3 (show raw = { r0 with kinds:=p2 } by rw [HRAW.o,hr0,hp2];unfold CO noneA;simp [hk,NO,h4]) hr0 hk;clear hp2 hr0;have p4:=hba.q4;clear hba;have r12:=HR3.o.q12
   go_upto_region 20 with fail
   obtain ⟨w6,hw6⟩:=eqx (w3.setCell ⟨g3,12,none⟩ (.I 2));rw [←hw6];have HX6:=Hd (show Ext w1 w6 by rw [hw6];exact (HX3.o.set2 (Bl HG3.o) _));have HR6:=Hd (show Blk w6 g3 39 (Ap r0 none 0 none 0) by
    have hbb:=(HR3.o.set 12 (.I 2));exact B4)
   exact VH
 ·obtain ⟨p2,hp2⟩:∃ z:Int,z=((2^5:Nat):Int):=⟨_,rfl⟩;have HBI:=Hd (show ∀ w',Cl 48 #[.I 5] w' (Bk w' p2) from fun w'=>by rw [hp2];exact At 5 AA w');obtain ⟨r0,hr0⟩:∃ z:Abs,z = { noneA with rl:=x.rows.length,rh:=x.rows.length,cols:=x.cols,deps:=Co x.cols x.rows }:=⟨_,rfl⟩;obtain ⟨HR0,HRR,HK⟩:=Hd3 (show raw = { r0 with kinds:=p2 } by rw [HRAW.o,hr0,hp2];unfold CO noneA;simp [hk,NO]) hr0 hk;clear hp2 hr0;have hc8:=Jm HR.o hk;have p5:=hba.q5;have p6:=hba.q6;clear hba;have r13:=HR3.o.q13;have r14:=HR3.o.q14;have r15:w3.cell? ⟨g3,15,none⟩=some (.slice none noneA.cols.length 0):=HR3.o.q15
  go_upto_region 19 with fail
  obtain ⟨w4,hw4⟩:=eqx ((((w3.setCell ⟨g3,13,none⟩ (.I (x.rows.length:Int))).setCell ⟨g3,14,none⟩ (.I (x.rows.length:Int))).setCell ⟨g3,15,none⟩ (.slice B x.cols.length cb)));rw [←hw4];have HX4:=Hd (show Ext w1 w4 by rw [hw4];exact (((HX3.o.set2 (Bl HG3.o) _).set2 (Bl HG3.o) _).set2 (Bl HG3.o) _));have HR4:=Hd (show Blk w4 g3 39 #[.I noneA.kinds,.I noneA.tx.least,.I noneA.tx.most,.I noneA.tx.cls,.string noneA.tx.b,.string noneA.tx.e,.I noneA.nu.ln,.I noneA.nu.ls,.I noneA.nu.hn,.I noneA.nu.hs,.I noneA.dl,.I noneA.dh,.I noneA.bo,.I (x.rows.length:Int),.I (x.rows.length:Int),.slice B x.cols.length cb,.slice none noneA.deps.length 0,.bool noneA.errs] by
   have hbb:=(((HR3.o.set 13 (.I (x.rows.length:Int))).set 14 (.I (x.rows.length:Int))).set 15 (.slice B x.cols.length cb));rw [←hw4] at hbb
   simpa using hbb)
  have hkv:Kept (fun b=>T b∧b<w.heap.size) w3 w4:=(by rw [hw4];exact (((Kept.refl _ _).set2 (fun h=>Lf)).set2 (fun h=>Lf)).set2 (fun h=>Lf));have HV4:=Hd (HV3.o.keep hkv);clear hw4 hkv r13 r14 r15 rf rl p0 p5 p6;have hba:=HB1.o.keep (HX4.o.kept _);have p5:=hba.q5;have p6:=hba.q6;clear hba;have HKY:=Hd (AVA q x.cols x.rows B C cb cc w4 _ _ HV4.o.strs HV4.o.rows_ AA)
  go_wp2_with fail
  refine HKY.o.mono ?_;rintro e5 w5 ⟨D5,e5',rfl,hcd,hrd,hx5⟩;obtain ⟨HX5,HR5,HV5⟩:=Hd3 (HX4.o.trans hx5) (HR4.o.keep (hx5.kept _)) (HV4.o.keep (hx5.kept _));have hg3l:=HR4.o.lt;have HD5:=Hd (hrd.mono (T:=fun b=>g3<b) fun b _ (hb:w4.heap.size≤b)=>AA);have HCD:=Hd hcd;clear hx5 hrd hcd hg3l p5 p6;have rf:=HR5.o.frozen;have rl:=HR5.o.lt;have r16:w5.cell? ⟨g3,16,none⟩=some (.slice none noneA.deps.length 0):=HR5.o.q16
  go_upto_region 20 with fail
  obtain ⟨w6,hw6⟩:=eqx (w5.setCell ⟨g3,16,none⟩ (.slice D5 (Co x.cols x.rows).length e5'));rw [←hw6];have HX6:=Hd (show Ext w1 w6 by rw [hw6];exact HX5.o.set2 (Bl HG3.o) _);have HR6:=Hd (show Blk w6 g3 39 (Ap r0 B cb D5 e5') by
   have hbb:=HR5.o.set 16 (.slice D5 (Co x.cols x.rows).length e5');exact B4)
  have hk6:Kept (fun b=>(T b∧b<w.heap.size)∨g3<b) w5 w6:=(by rw [hw6];exact (Kept.refl _ _).set2 (fun h=>by have:=HG3.o;have:=HXW.o.size;rcases h with h | h;(have:=h.2;omega);omega));have HAB6:=Hd (show AbM w6 (fun b=>(T b∧b<w.heap.size)∨g3<b) r0 B cb D5 e5' by
   rw [HRR.o];exact ⟨hcp,HCD.o,(HV5.o.strs.keep (hk6.mono fun b _ h=>.inl h)).mono fun b _ h=>.inl h,(HD5.o.keep (hk6.mono fun b _ h=>.inr h)).mono fun b _ h=>.inr h⟩)
  clear hw6 hk6 r16 rf rl;have p0:=(HB1.o.keep (HX6.o.kept _)).q0;have r0c:=HR6.o.q0;have rf:=HR6.o.frozen;have rl:=HR6.o.lt
  go_wp2_with fail
  refine (HBI.o _).mono ?_;rintro e9 w9 ⟨rfl,rfl⟩
  go_upto_region 21 with fail
  obtain ⟨wb,hwb⟩:=eqx (w6.setCell ⟨g3,0,none⟩ (.I p2));rw [←hwb];have HXB:=Hd (show Ext w1 wb by rw [hwb];exact HX6.o.set2 (Bl HG3.o) _);have hrb:Blk wb g3 39 (Ap raw B cb D5 e5'):=by
   exact Oe
  have HRB:=Hd hrb;have hkb:Kept (fun b=>(T b∧b<w.heap.size)∨g3<b) w6 wb:=(by rw [hwb];exact (Kept.refl _ _).set2 (fun h=>by have:=HG3.o;have:=HXW.o.size;rcases h with h | h;(have:=h.2;omega);omega));have HAB:=Hd (show AbM wb (fun b=>(T b∧b<w.heap.size)∨g3<b) raw B cb D5 e5' from by
   have h:=(HAB6.o).keep hkb;rw [HR0.o];exact h)
  clear hwb hrb hkb p0 r0c rf rl;have HCN:=Hd (As raw B D5 cb e5' wb _ HAB.o.2.2.1 HAB.o.2.2.2 (HT.o.ext (HXW.o.trans HXB.o)) HNR.o);refine wp_region_lit ?_;refine AJ rfl 39 _ rfl g3 rfl HRB.o AS AH ?_
  go_wp2_with fail
  refine HCN.o.mono ?_;rintro e8 w8 ⟨A5,c5,D7,e7,rfl,hab5,hx5⟩;have HX5:=Hd (HXB.o.trans hx5);have HAB5:=Hd hab5;have hb25:=HB2.o.keep (HX5.o.kept _);rename_i K1 hK1 K2 hK2;refine hK2 _ _ ?_;refine AM rfl 39 _ _ rfl g2 (Ap (AX raw) A5 c5 D7 e7) rfl rfl 39 _ hb25 AH rfl AD ?_;intro wf hbf hof;refine hK1 _ _ ?_;obtain ⟨HXF,HBF,HABF⟩:=Hd3 ((HXW.o.trans HX5.o).only hof Bq) hbf hab5;have hkf:=hof.kept (S:=fun b=>(T b∧b<w.heap.size)∨g3<b) (fun b _ hb e=>by have:=HG2.o;have:=HG3.o;have:=HB2.o.lt;rcases hb with h|h;(have:=h.2;omega);omega);have HKF:=Hd hkf;clear hK1 hK2 hbf hb25 hx5 hab5 hof hkf
  go_wp2_with fail
  refine bodyPost_ret (Bv results19 rfl (Eq HBF.o AS AH)) rfl ?_;rw [HOF.o,←HRAW.o];exact ⟨A5,c5,D7,e7,rfl,((HABF.o.mono (T:=fun b=>(T b∧b<w.heap.size)∨g3<b) fun b _ hb=>by rcases hb with h|h;exact h;exact .inr (by have:=HRB.o.lt;omega)).keep HKF.o).mono fun b _ hb=>hb.imp And.left fun h=>by have:=HG3.o;have:=HXW.o.size;omega,HXF.o⟩

theorem DO{x y:Abs}(hk:x.kinds=y.kinds)(he:x.errs=y.errs)(h1:bt x.kinds 1=true→x.tx=y.tx)(h2:bt x.kinds 2=true→x.nu=y.nu)(h3:bt x.kinds 3=true→x.dl=y.dl∧x.dh=y.dh)(h4:bt x.kinds 4=true→x.bo=y.bo)
  (h5:bt x.kinds 5=true→x.rl=y.rl∧x.rh=y.rh∧x.cols=y.cols∧x.deps=y.deps):AX x=AX y:=by
 have e1:pT x=pT y∧(pT x=true→x.tx=y.tx):=by
  unfold pT;rw [←hk];cases hb:bt x.kinds 1
  ·simp
  ·rw [h1 hb];simp
 have e2:pN x=pN y∧(pN x=true→x.nu=y.nu):=by
  unfold pN;rw [←hk];cases hb:bt x.kinds 2
  ·simp
  ·rw [h2 hb];simp
 have e3:pD x=pD y∧(pD x=true→Cy x=Cy y):=by
  unfold pD;rw [←hk];cases hb:bt x.kinds 3
  ·simp
  ·have hd:Cy x=Cy y:=(by unfold Cy;rw [(h3 hb).1,(h3 hb).2]);rw [hd];exact ⟨rfl,fun _=>rfl⟩
 have e4:pB x=pB y∧(pB x=true→boI x=boI y):=by
  unfold pB;rw [←hk];cases hb:bt x.kinds 4
  ·simp
  ·have hb4:boI x=boI y:=(by unfold boI;rw [h4 hb]);rw [hb4];exact ⟨rfl,fun _=>rfl⟩
 have e5:pR x=pR y∧(pR x=true→DF x=DF y∧x.cols=y.cols∧x.deps=y.deps):=by
  unfold pR;rw [←hk];cases hb:bt x.kinds 5
  ·simp
  ·obtain ⟨a1,a2,a3,a4⟩:=h5 hb;have hr:DF x=DF y:=(by unfold DF;rw [a1,a2]);rw [hr,a3,a4];exact ⟨rfl,fun _=>⟨rfl,rfl,rfl⟩⟩
 have f:∀ {α:Type} (p:Bool) (u v z:α),(p=true→u=v)→(if p=true then u else z)=(if p=true then v else z):=by
  intro α p u v z h;cases p
  ·rfl
  ·rw [h rfl]
 have g1:=f (pT x) (BW x.tx x.tx) (BW y.tx y.tx) H3A (fun h=>by rw [e1.2 h]);have g2:=f (pN x) (Cc x.nu x.nu) (Cc y.nu y.nu) IBA (fun h=>by rw [e2.2 h]);have g3:=f (pD x) (Cy x).1 (Cy y).1 1 (fun h=>by rw [e3.2 h]);have g4:=f (pD x) (Cy x).2 (Cy y).2 0 (fun h=>by rw [e3.2 h]);have g5:=f (pB x) (boI x) (boI y) 0 (fun h=>e4.2 h);have g6:=f (pR x) (DF x).1 (DF y).1 1 (fun h=>by rw [(e5.2 h).1]);have g7:=f (pR x) (DF x).2 (DF y).2 0 (fun h=>by rw [(e5.2 h).1]);have g8:=f (pR x) (An (ddp x.cols)) (An (ddp y.cols)) [] (fun h=>by rw [(e5.2 h).2.1]);have g9:=f (pR x) (ddp x.deps) (ddp y.deps) [] (fun h=>by rw [(e5.2 h).2.2]);unfold AX;rw [←e1.1,←e2.1,←e3.1,←e4.1,←e5.1,he,g1,g2,g3,g4,g5,g6,g7,g8,g9]
theorem Qj(h:qP:=by
 clear hK1 hK2 hbf hb25 hx5 hab5 hof hkf
 go_wp2_with fail
 refine bodyPost_ret (Bv results23 rfl (Eq HBF.o AS AH)) rfl ?_;rw [HRE.o];exact ⟨A5,c5,D5,e5,rfl,HABF.o.mono fun b _ hb=>.inr (by have:=HG3.o;have:=HXW.o.size;omega),HXF.o⟩):qP:=h
theorem FB(h:qP:=by
 have HAB:=Hd (show AbM w6 (fun b=>False) r0 none 0 none 0 from AbM.nil HRN.o.1);have HCN:=Hd (As r0 none none 0 0 w6 _ HAB.o.2.2.1 HAB.o.2.2.2 (HT.o.ext (HXW.o.trans HX6.o)) HRN.o.2);refine wp_region_lit ?_;refine AJ rfl 39 _ rfl g3 rfl HR6.o AS AH ?_
 go_wp2_with fail
 refine HCN.o.mono ?_;rintro e5 w5 ⟨A5,c5,D5,e5,rfl,hab5,hx5⟩;have HX5:=Hd (HX6.o.trans hx5);have hb25:=HB2.o.keep (HX5.o.kept _);rename_i K1 hK1 K2 hK2;refine hK2 _ _ ?_;refine AM rfl 39 _ _ rfl g2 (Ap (AX r0) A5 c5 D5 e5) rfl rfl 39 _ hb25 AH rfl (by kernel_rfl) ?_;intro wf hbf hof;refine hK1 _ _ ?_;have HXF:=Hd ((HXW.o.trans HX5.o).only hof (by have:=HG2.o;omega));have HBF:=Hd hbf;have hkf:=hof.kept (S:=fun b=>g3<b) (fun b _ hb e=>by have:=HG3.o;have:=HB2.o.lt;omega);have HABF:=Hd ((hab5.mono (T:=fun b=>g3<b) fun b _ hb=>by have:=HR6.o.lt;rcases hb with h | h;exact h.elim;omega).keep hkf);exact Qj):qP:=h
theorem Bo(h:qP:=by simp [IF,NO,noneA]):qP:=h
theorem AR(h:qP:=by exfalso;revert h;simp [IF,NO];try decide):qP:=h
theorem FQ(h:qP:=by simp [IF,noneA]):qP:=h
theorem FZ(h:qP:=by exfalso;revert h;simp [IF,HK15.o];try decide):qP:=h
theorem KP(k:Int)(w:World)(ht:Tens w):Cl 23 #[.I k] w (Eh w (fun _=>False) (Cs k)):=by
 obtain ⟨w0,hw0⟩:=eqx (w.alloc (.cells Az 39));obtain ⟨g2,hg2⟩:=eqx w.heap.size;have hx0:Ext w w0:=BS;have hb2:Blk w0 g2 39 Az:=(by rw [hw0,hg2];exact Blk.new _ _ _);obtain ⟨HW0,HG2,HX0,HB20,HT⟩:=Hd5 hw0 hg2 hx0 hb2 ht;clear hw0 hg2 hx0 hb2 ht
 go_enter func23,ntmps23
 go_upto_region 1 with fail
 rw [←HW0.o,←HG2.o]
 go_wp2_with fail
 refine (Hk _).mono ?_;rintro e1 w1 ⟨rfl,hx1⟩;rename_i K1 hK1 K2 hK2;refine hK2 _ _ ?_;refine Ag rfl rfl ?_;obtain ⟨g3,hg3⟩:=eqx w1.heap.size;rw [←hg3];refine AM rfl 39 _ _ rfl g3 (Ap noneA none 0 none 0) rfl rfl 39 _ (GK hg3) AH rfl AD ?_;intro w2 hb3 ho2;have hx2:Ext w1 w2:=(exaa w1).only ho2 GI;obtain ⟨HXW,HB2,HX2,HR2,HG3⟩:=Hd5 (HX0.o.trans hx1) (HB20.o.keep (hx1.kept _)) hx2 hb3 hg3;refine hK1 _ _ ?_;clear hK1 hK2 hb3 ho2 hx1 hx2 hg3;have rf:=HR2.o.frozen;have rl:=HR2.o.lt;by_cases hk:k=0
 case pos =>
  subst hk;obtain ⟨r0,hr0⟩:∃ z:Abs,z = { noneA with errs:=true }:=⟨_,rfl⟩;obtain ⟨HRE,HRN,HRR⟩:=Hd3 (show Cs 0=AX r0 by rw [hr0];unfold Cs;exact DO Bo Bo (fun h=>AR) (fun h=>AR) (fun h=>AR) (fun h=>AR) (fun h=>AR)) (show (r0.cols=[]∧r0.deps=[])∧AbN 1000000 r0 by rw [hr0];exact ⟨⟨rfl,rfl⟩,AB,AB,AN,AN,fun d hd=>BQ⟩) hr0;clear hr0;have cc17:w2.cell? ⟨g3,17,none⟩=some (.bool noneA.errs):=HR2.o.q17
  go_upto_region 15 with fail
  obtain ⟨w6,hw6⟩:=eqx (w2.setCell ⟨g3,17,none⟩ (.bool true));rw [←hw6];have HX6:=Hd (show Ext w1 w6 by rw [hw6];exact (HX2.o.set2 (Bl HG3.o) _));have HR6:=Hd (show Blk w6 g3 39 (Ap r0 none 0 none 0) by
   have hbb:=(HR2.o.set 17 (.bool true));exact B4)
  clear hw6 rf rl cc17;exact FB
 by_cases hk:k=1
 case pos =>
  subst hk;obtain ⟨r0,hr0⟩:∃ z:Abs,z = { noneA with kinds:=2,tx:=Sh.full }:=⟨_,rfl⟩;obtain ⟨HRE,HRN,HRR⟩:=Hd3 (show Cs 1=AX r0 by rw [hr0];unfold Cs;exact DO Bo Bo (fun _=>FQ) (fun h=>AR) (fun h=>AR) (fun h=>AR) (fun h=>AR)) (show (r0.cols=[]∧r0.deps=[])∧AbN 1000000 r0 by rw [hr0];exact ⟨⟨rfl,rfl⟩,AB,AB,AN,AN,fun d hd=>BQ⟩) hr0;clear hr0 rf rl
  go_wp2_with fail
  refine ((show ∀ w',Cl 48 #[.I 1] w' (Bk w' 2) from fun w'=>At 1 AA w') _).mono ?_;rintro ee ww ⟨rfl,rfl⟩
  go_wp2_with fail
  refine (AQA _).mono ?_;rintro ee w3 ⟨rfl,hxn⟩;have HX3:=Hd (HX2.o.trans hxn);have HR3:=Hd (HR2.o.keep (hxn.kept _));clear hxn;have rf:=HR3.o.frozen;have rl:=HR3.o.lt;have cc0:w3.cell? ⟨g3,0,none⟩=some (.I noneA.kinds):=HR3.o.q0;have cc1:w3.cell? ⟨g3,1,none⟩=some (.I noneA.tx.least):=HR3.o.q1;have cc2:w3.cell? ⟨g3,2,none⟩=some (.I noneA.tx.most):=HR3.o.q2;have cc3:w3.cell? ⟨g3,3,none⟩=some (.I noneA.tx.cls):=HR3.o.q3;have cc4:w3.cell? ⟨g3,4,none⟩=some (.string noneA.tx.b):=HR3.o.q4;have cc5:w3.cell? ⟨g3,5,none⟩=some (.string noneA.tx.e):=HR3.o.q5
  go_upto_region 15 with fail
  obtain ⟨w6,hw6⟩:=eqx (((((((w3.setCell ⟨g3,0,none⟩ (.I 2)).setCell ⟨g3,1,none⟩ (.I Sh.full.least)).setCell ⟨g3,2,none⟩ (.I Sh.full.most)).setCell ⟨g3,3,none⟩ (.I Sh.full.cls)).setCell ⟨g3,4,none⟩ (.string Sh.full.b)).setCell ⟨g3,5,none⟩ (.string Sh.full.e)));rw [←hw6];have HX6:=Hd (show Ext w1 w6 by rw [hw6];exact ((((((HX3.o.set2 (Bl HG3.o) _).set2 (Bl HG3.o) _).set2 (Bl HG3.o) _).set2 (Bl HG3.o) _).set2 (Bl HG3.o) _).set2 (Bl HG3.o) _));have HR6:=Hd (show Blk w6 g3 39 (Ap r0 none 0 none 0) by
   have hbb:=((((((HR3.o.set 0 (.I 2)).set 1 (.I Sh.full.least)).set 2 (.I Sh.full.most)).set 3 (.I Sh.full.cls)).set 4 (.string Sh.full.b)).set 5 (.string Sh.full.e));exact B4)
  clear hw6 rf rl cc0 cc1 cc2 cc3 cc4 cc5;exact FB
 by_cases hk:k=2
 case pos =>
  subst hk;obtain ⟨r0,hr0⟩:∃ z:Abs,z = { noneA with kinds:=4,nu:=Rg.full }:=⟨_,rfl⟩;obtain ⟨HRE,HRN,HRR⟩:=Hd3 (show Cs 2=AX r0 by rw [hr0];unfold Cs;exact DO Bo Bo (fun h=>AR) (fun _=>FQ) (fun h=>AR) (fun h=>AR) (fun h=>AR)) (show (r0.cols=[]∧r0.deps=[])∧AbN 1000000 r0 by rw [hr0];exact ⟨⟨rfl,rfl⟩,AB,AB,AN,AN,fun d hd=>BQ⟩) hr0;clear hr0 rf rl
  go_wp2_with fail
  refine ((show ∀ w',Cl 48 #[.I 2] w' (Bk w' 4) from fun w'=>At 2 AA w') _).mono ?_;rintro ee ww ⟨rfl,rfl⟩
  go_wp2_with fail
  refine (Vg _).mono ?_;rintro ee w3 ⟨rfl,hxn⟩;have HX3:=Hd (HX2.o.trans hxn);have HR3:=Hd (HR2.o.keep (hxn.kept _));clear hxn;have rf:=HR3.o.frozen;have rl:=HR3.o.lt;have cc0:w3.cell? ⟨g3,0,none⟩=some (.I noneA.kinds):=HR3.o.q0;have cc6:w3.cell? ⟨g3,6,none⟩=some (.I noneA.nu.ln):=HR3.o.q6;have cc7:w3.cell? ⟨g3,7,none⟩=some (.I noneA.nu.ls):=HR3.o.q7;have cc8:w3.cell? ⟨g3,8,none⟩=some (.I noneA.nu.hn):=HR3.o.q8;have cc9:w3.cell? ⟨g3,9,none⟩=some (.I noneA.nu.hs):=HR3.o.q9
  go_upto_region 15 with fail
  obtain ⟨w6,hw6⟩:=eqx ((((((w3.setCell ⟨g3,0,none⟩ (.I 4)).setCell ⟨g3,6,none⟩ (.I Rg.full.ln)).setCell ⟨g3,7,none⟩ (.I Rg.full.ls)).setCell ⟨g3,8,none⟩ (.I Rg.full.hn)).setCell ⟨g3,9,none⟩ (.I Rg.full.hs)));rw [←hw6];have HX6:=Hd (show Ext w1 w6 by rw [hw6];exact (((((HX3.o.set2 (Bl HG3.o) _).set2 (Bl HG3.o) _).set2 (Bl HG3.o) _).set2 (Bl HG3.o) _).set2 (Bl HG3.o) _));have HR6:=Hd (show Blk w6 g3 39 (Ap r0 none 0 none 0) by
   have hbb:=(((((HR3.o.set 0 (.I 4)).set 6 (.I Rg.full.ln)).set 7 (.I Rg.full.ls)).set 8 (.I Rg.full.hn)).set 9 (.I Rg.full.hs));exact B4)
  clear hw6 rf rl cc0 cc6 cc7 cc8 cc9;exact FB
 by_cases hk:k=3
 case pos =>
  subst hk;obtain ⟨r0,hr0⟩:∃ z:Abs,z = { noneA with kinds:=8,dl:=0,dh:=3652058 }:=⟨_,rfl⟩;obtain ⟨HRE,HRN,HRR⟩:=Hd3 (show Cs 3=AX r0 by rw [hr0];unfold Cs;exact DO Bo Bo (fun h=>AR) (fun h=>AR) (fun _=>FQ) (fun h=>AR) (fun h=>AR)) (show (r0.cols=[]∧r0.deps=[])∧AbN 1000000 r0 by rw [hr0];exact ⟨⟨rfl,rfl⟩,AB,AB,AN,AN,fun d hd=>BQ⟩) hr0;clear hr0 rf rl
  go_wp2_with fail
  refine ((show ∀ w',Cl 48 #[.I 3] w' (Bk w' 8) from fun w'=>At 3 AA w') _).mono ?_;rintro ee ww ⟨rfl,rfl⟩
  go_wp2_with fail
  refine (Ho _).mono ?_;rintro ee w3 ⟨rfl,hxn⟩;have HX3:=Hd (HX2.o.trans hxn);have HR3:=Hd (HR2.o.keep (hxn.kept _));clear hxn;have rf:=HR3.o.frozen;have rl:=HR3.o.lt;have cc0:w3.cell? ⟨g3,0,none⟩=some (.I noneA.kinds):=HR3.o.q0;have cc10:w3.cell? ⟨g3,10,none⟩=some (.I noneA.dl):=HR3.o.q10;have cc11:w3.cell? ⟨g3,11,none⟩=some (.I noneA.dh):=HR3.o.q11
  go_upto_region 15 with fail
  obtain ⟨w6,hw6⟩:=eqx ((((w3.setCell ⟨g3,0,none⟩ (.I 8)).setCell ⟨g3,10,none⟩ (.I 0)).setCell ⟨g3,11,none⟩ (.I 3652058)));rw [←hw6];have HX6:=Hd (show Ext w1 w6 by rw [hw6];exact (((HX3.o.set2 (Bl HG3.o) _).set2 (Bl HG3.o) _).set2 (Bl HG3.o) _));have HR6:=Hd (show Blk w6 g3 39 (Ap r0 none 0 none 0) by
   have hbb:=(((HR3.o.set 0 (.I 8)).set 10 (.I 0)).set 11 (.I 3652058));exact B4)
  clear hw6 rf rl cc0 cc10 cc11;exact FB
 by_cases hk:k=4
 case pos =>
  subst hk;obtain ⟨r0,hr0⟩:∃ z:Abs,z = { noneA with kinds:=16,bo:=3 }:=⟨_,rfl⟩;obtain ⟨HRE,HRN,HRR⟩:=Hd3 (show Cs 4=AX r0 by rw [hr0];unfold Cs;exact DO Bo Bo (fun h=>AR) (fun h=>AR) (fun h=>AR) (fun _=>FQ) (fun h=>AR)) (show (r0.cols=[]∧r0.deps=[])∧AbN 1000000 r0 by rw [hr0];exact ⟨⟨rfl,rfl⟩,AB,AB,AN,AN,fun d hd=>BQ⟩) hr0;clear hr0 rf rl
  go_wp2_with fail
  refine ((show ∀ w',Cl 48 #[.I 4] w' (Bk w' 16) from fun w'=>At 4 AA w') _).mono ?_;rintro ee ww ⟨rfl,rfl⟩;have rf:=HR2.o.frozen;have rl:=HR2.o.lt;have cc0:w2.cell? ⟨g3,0,none⟩=some (.I noneA.kinds):=HR2.o.q0;have cc12:w2.cell? ⟨g3,12,none⟩=some (.I noneA.bo):=HR2.o.q12
  go_upto_region 15 with fail
  obtain ⟨w6,hw6⟩:=eqx (((w2.setCell ⟨g3,0,none⟩ (.I 16)).setCell ⟨g3,12,none⟩ (.I 3)));rw [←hw6];have HX6:=Hd (show Ext w1 w6 by rw [hw6];exact ((HX2.o.set2 (Bl HG3.o) _).set2 (Bl HG3.o) _));have HR6:=Hd (show Blk w6 g3 39 (Ap r0 none 0 none 0) by
   have hbb:=((HR2.o.set 0 (.I 16)).set 12 (.I 3));exact B4)
  clear hw6 rf rl cc0 cc12;exact FB
 by_cases hk:k=5
 case pos =>
  subst hk;obtain ⟨r0,hr0⟩:∃ z:Abs,z = { noneA with kinds:=32,rl:=0,rh:=100 }:=⟨_,rfl⟩;obtain ⟨HRE,HRN,HRR⟩:=Hd3 (show Cs 5=AX r0 by rw [hr0];unfold Cs;exact DO Bo Bo (fun h=>AR) (fun h=>AR) (fun h=>AR) (fun h=>AR) (fun _=>FQ)) (show (r0.cols=[]∧r0.deps=[])∧AbN 1000000 r0 by rw [hr0];exact ⟨⟨rfl,rfl⟩,AB,AB,AN,AN,fun d hd=>BQ⟩) hr0;clear hr0 rf rl
  go_wp2_with fail
  refine ((show ∀ w',Cl 48 #[.I 5] w' (Bk w' 32) from fun w'=>At 5 AA w') _).mono ?_;rintro ee ww ⟨rfl,rfl⟩
  go_wp2_with fail
  refine (Ga _).mono ?_;rintro ee w3 ⟨rfl,hxn⟩;have HX3:=Hd (HX2.o.trans hxn);have HR3:=Hd (HR2.o.keep (hxn.kept _));clear hxn;have rf:=HR3.o.frozen;have rl:=HR3.o.lt;have cc0:w3.cell? ⟨g3,0,none⟩=some (.I noneA.kinds):=HR3.o.q0;have cc13:w3.cell? ⟨g3,13,none⟩=some (.I noneA.rl):=HR3.o.q13;have cc14:w3.cell? ⟨g3,14,none⟩=some (.I noneA.rh):=HR3.o.q14
  go_upto_region 15 with fail
  obtain ⟨w6,hw6⟩:=eqx ((((w3.setCell ⟨g3,0,none⟩ (.I 32)).setCell ⟨g3,13,none⟩ (.I 0)).setCell ⟨g3,14,none⟩ (.I 100)));rw [←hw6];have HX6:=Hd (show Ext w1 w6 by rw [hw6];exact (((HX3.o.set2 (Bl HG3.o) _).set2 (Bl HG3.o) _).set2 (Bl HG3.o) _));have HR6:=Hd (show Blk w6 g3 39 (Ap r0 none 0 none 0) by
   have hbb:=(((HR3.o.set 0 (.I 32)).set 13 (.I 0)).set 14 (.I 100));exact B4)
  clear hw6 rf rl cc0 cc13 cc14;exact FB
 have HK15:=Hd (show ¬(1≤k∧k≤5) by omega);have HK0:=Hd (show ¬k=0 by assumption);have HRE:=Hd (show Cs k=AX noneA by unfold Cs;exact DO (by simp [IF,noneA,HK15.o]) (by simp [IF,noneA,HK0.o]) (fun h=>FZ) (fun h=>FZ) (fun h=>FZ) (fun h=>FZ) (fun h=>FZ));have HRN:=Hd (show (noneA.cols=[]∧noneA.deps=[])∧AbN 1000000 noneA from ⟨⟨rfl,rfl⟩,ISA _⟩);clear rf rl
 go_upto_region 15 with fail
 have HAB:=Hd (show AbM w2 (fun b=>False) noneA none 0 none 0 from AbM.nil HRN.o.1);have HCN:=Hd (As noneA none none 0 0 w2 _ HAB.o.2.2.1 HAB.o.2.2.2 (HT.o.ext (HXW.o.trans HX2.o)) HRN.o.2);refine wp_region_lit ?_;refine AJ rfl 39 _ rfl g3 rfl HR2.o AS AH ?_
 go_wp2_with fail
 refine HCN.o.mono ?_;rintro e5 w5 ⟨A5,c5,D5,e5,rfl,hab5,hx5⟩;have HX5:=Hd (HX2.o.trans hx5);have hb25:=HB2.o.keep (HX5.o.kept _);rename_i K1 hK1 K2 hK2;refine hK2 _ _ ?_;refine AM rfl 39 _ _ rfl g2 (Ap (AX noneA) A5 c5 D5 e5) rfl rfl 39 _ hb25 AH rfl AD ?_;intro wf hbf hof;refine hK1 _ _ ?_;have HXF:=Hd ((HXW.o.trans HX5.o).only hof Bq);have HBF:=Hd hbf;have hkf:=hof.kept (S:=fun b=>g3<b) (fun b _ hb e=>by have:=HG3.o;have:=HB2.o.lt;omega);have HABF:=Hd ((hab5.mono (T:=fun b=>g3<b) fun b _ hb=>by have:=HR2.o.lt;rcases hb with h|h;exact h.elim;omega).keep hkf);exact Qj
end Go.Proofs.YtidacnalcdhckaaGreatDoor
