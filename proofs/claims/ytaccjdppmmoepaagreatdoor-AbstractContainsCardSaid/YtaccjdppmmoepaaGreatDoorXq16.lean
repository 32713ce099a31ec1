/- Lemmas. No conditions. -/
import Derived.Test.YtaccjdppmmoepaaGreatDoorXq15
set_option maxRecDepth 100000
set_option maxHeartbeats 4000000
namespace Go.Proofs.YtaccjdppmmoepaaGreatDoor
open Go Go.RowKit Tryz
variable {qP:Prop}{a i:Nat}{out:List BA}{s:BA}

theorem DO{x y:Abs}(hk:x.kinds=y.kinds)(he:x.errs=y.errs)(h1:bt x.kinds 1=true->x.tx=y.tx)(h2:bt x.kinds 2=true->x.nu=y.nu)(h3:bt x.kinds 3=true->x.dl=y.dl/\x.dh=y.dh)(h4:bt x.kinds 4=true->x.bo=y.bo)
  (h5:bt x.kinds 5=true->x.rl=y.rl/\x.rh=y.rh/\x.cols=y.cols/\x.deps=y.deps):AX x=AX y:=by
 have e1:pT x=pT y/\(pT x=true->x.tx=y.tx):=by
  unfold pT;rw [<-hk];cases hb:bt x.kinds 1
  ·simp
  ·rw [h1 hb];simp
 have e2:pN x=pN y/\(pN x=true->x.nu=y.nu):=by
  unfold pN;rw [<-hk];cases hb:bt x.kinds 2
  ·simp
  ·rw [h2 hb];simp
 have e3:pD x=pD y/\(pD x=true->Cy x=Cy y):=by
  unfold pD;rw [<-hk];cases hb:bt x.kinds 3
  ·simp
  ·have hd:Cy x=Cy y:=(by unfold Cy;rw [(h3 hb).1,(h3 hb).2]);rw [hd];exact ⟨rfl,λ_=>rfl⟩
 have e4:pB x=pB y/\(pB x=true->boI x=boI y):=by
  unfold pB;rw [<-hk];cases hb:bt x.kinds 4
  ·simp
  ·have hb4:boI x=boI y:=(by unfold boI;rw [h4 hb]);rw [hb4];exact ⟨rfl,λ_=>rfl⟩
 have e5:pR x=pR y/\(pR x=true->DF x=DF y/\x.cols=y.cols/\x.deps=y.deps):=by
  unfold pR;rw [<-hk];cases hb:bt x.kinds 5
  ·simp
  ·obtain ⟨a1,a2,a3,a4⟩:=h5 hb;have hr:DF x=DF y:=(by unfold DF;rw [a1,a2]);rw [hr,a3,a4];exact ⟨rfl,λ_=>⟨rfl,rfl,rfl⟩⟩
 have f:∀ {α:Type} (p:Bool) (u v z:α),(p=true->u=v)->(if p=true then u else z)=(if p=true then v else z):=by
  intro α p u v z h;cases p
  ·rfl
  ·rw [h rfl]
 have g1:=f (pT x) (BW x.tx x.tx) (BW y.tx y.tx) H3A (λh=>by rw [e1.2 h]);have g2:=f (pN x) (Cc x.nu x.nu) (Cc y.nu y.nu) IBA (λh=>by rw [e2.2 h]);have g3:=f (pD x) (Cy x).1 (Cy y).1 1 (λh=>by rw [e3.2 h]);have Y:=f (pD x) (Cy x).2 (Cy y).2 0 (λh=>by rw [e3.2 h]);have g5:=f (pB x) (boI x) (boI y) 0 (λh=>e4.2 h);have U:=f (pR x) (DF x).1 (DF y).1 1 (λh=>by rw [(e5.2 h).1]);have g7:=f (pR x) (DF x).2 (DF y).2 0 (λh=>by rw [(e5.2 h).1]);have O:=f (pR x) (An (ddp x.cols)) (An (ddp y.cols)) [] (λh=>by rw [(e5.2 h).2.1]);have g9:=f (pR x) (ddp x.deps) (ddp y.deps) [] (λh=>by rw [(e5.2 h).2.2]);unfold AX;rw [<-e1.1,<-e2.1,<-e3.1,<-e4.1,<-e5.1,he,g1,g2,g3,Y,g5,U,g7,O,g9]
theorem TS(h:qP:=by
 clear hK1 hK2 hbf hb25 hx5 hab5 hof hkf
 go_wp2_with fail
 refine bodyPost_ret (Bv results8 rfl (Eq HBF.o AS AH)) rfl ?_;rw [HRE.o];exact ⟨A5,c5,D5,e5,rfl,HABF.o.mono λb _ hb=>.inr (by have:=HG3.o;have:=HXW.o.size;omega),HXF.o⟩):qP:=h
theorem FB(h:qP:=by
 have HAB:=Hd (show AbM w6 (λb=>False) r0 none 0 none 0 from AbM.nil HRN.o.1);have HCN:=Hd (As r0 none none 0 0 w6 _ HAB.o.2.2.1 HAB.o.2.2.2 (HT.o.ext (HXW.o.trans HX6.o)) HRN.o.2);refine wp_region_lit ?_;refine AJ rfl 36 _ rfl g3 rfl HR6.o AS AH ?_
 go_wp2_with fail
 refine HCN.o.mono ?_;rintro e5 w5 ⟨A5,c5,D5,e5,rfl,hab5,hx5⟩;have HX5:=Hd (HX6.o.trans hx5);have hb25:=HB2.o.keep (HX5.o.kept _);rename_i K1 hK1 K2 hK2;refine hK2 _ _ ?_;refine AM rfl 36 _ _ rfl g2 (Ap (AX r0) A5 c5 D5 e5) rfl rfl 36 _ hb25 AH rfl (by kernel_rfl) ?_;intro wf hbf hof;refine hK1 _ _ ?_;have HXF:=Hd ((HXW.o.trans HX5.o).only hof (by have:=HG2.o;omega));have HBF:=Hd hbf;have hkf:=hof.kept (S:=λb=>g3<b) (λb _ hb e=>by have:=HG3.o;have:=HB2.o.lt;omega);have HABF:=Hd ((hab5.mono (T:=λb=>g3<b) λb _ hb=>by have:=HR6.o.lt;rcases hb with h | h;exact h.elim;omega).keep hkf);exact TS):qP:=h
theorem Bo(h:qP:=by simp [IF,NO,noneA]):qP:=h
theorem AR(h:qP:=by exfalso;revert h;simp [IF,NO];try decide):qP:=h
theorem FQ(h:qP:=by simp [IF,noneA]):qP:=h
theorem FZ(h:qP:=by exfalso;revert h;simp [IF,HK15.o];try decide):qP:=h
theorem KP(k:Int)(w:World)(ht:Tens w):Cl 8 #[.I k] w (Eh w (λ_=>False) (Cs k)):=by
 obtain ⟨w0,hw0⟩:=eqx (w.alloc (.cells Az 36));obtain ⟨g2,hg2⟩:=eqx w.heap.size;have hx0:Ext w w0:=BS;have hb2:Blk w0 g2 36 Az:=(by rw [hw0,hg2];exact Blk.new _ _ _);obtain ⟨d3,HG2,HX0,HB20,HT⟩:=Hd5 hw0 hg2 hx0 hb2 ht;clear hw0 hg2 hx0 hb2 ht
 go_enter func8,ntmps8
 go_upto_region 1 with fail
 rw [<-d3.o,<-HG2.o]
 go_wp2_with fail
 refine (Hk _).mono ?_;rintro e1 w1 ⟨rfl,hx1⟩;rename_i K1 hK1 K2 hK2;refine hK2 _ _ ?_;refine Ag rfl rfl ?_;obtain ⟨g3,hg3⟩:=eqx w1.heap.size;rw [<-hg3];refine AM rfl 36 _ _ rfl g3 (Ap noneA none 0 none 0) rfl rfl 36 _ (GK hg3) AH rfl AD ?_;intro w2 a8 a9;have hx2:Ext w1 w2:=(exaa w1).only a9 GI;obtain ⟨HXW,HB2,HX2,HR2,HG3⟩:=Hd5 (HX0.o.trans hx1) (HB20.o.keep (hx1.kept _)) hx2 a8 hg3;refine hK1 _ _ ?_;clear hK1 hK2 a8 a9 hx1 hx2 hg3;have rf:=HR2.o.frozen;have rl:=HR2.o.lt;by_cases hk:k=0
 case pos =>
  subst hk;obtain ⟨r0,U⟩:∃ z:Abs,z = { noneA with errs:=true }:=⟨_,rfl⟩;obtain ⟨HRE,HRN,HRR⟩:=Hd3 (show Cs 0=AX r0 by rw [U];unfold Cs;exact DO Bo Bo (λh=>AR) (λh=>AR) (λh=>AR) (λh=>AR) (λh=>AR)) (show (r0.cols=[]/\r0.deps=[])/\AbN 1000000 r0 by rw [U];exact ⟨⟨rfl,rfl⟩,AB,AB,AN,AN,λd hd=>BQ⟩) U;clear U;have b6:w2.cell? ⟨g3,17,none⟩=some (.bool noneA.errs):=HR2.o.q17
  go_upto_region 15 with fail
  obtain ⟨w6,hw6⟩:=eqx (w2.setCell ⟨g3,17,none⟩ (.bool true));rw [<-hw6];have HX6:=Hd (show Ext w1 w6 by rw [hw6];exact (HX2.o.set2 (Bl HG3.o) _));have HR6:=Hd (show Blk w6 g3 36 (Ap r0 none 0 none 0) by
   have hbb:=(HR2.o.set 17 (.bool true));exact B4)
  clear hw6 rf rl b6;exact FB
 by_cases hk:k=1
 case pos =>
  subst hk;obtain ⟨r0,U⟩:∃ z:Abs,z = { noneA with kinds:=2,tx:=Sh.full }:=⟨_,rfl⟩;obtain ⟨HRE,HRN,HRR⟩:=Hd3 (show Cs 1=AX r0 by rw [U];unfold Cs;exact DO Bo Bo (λ_=>FQ) (λh=>AR) (λh=>AR) (λh=>AR) (λh=>AR)) (show (r0.cols=[]/\r0.deps=[])/\AbN 1000000 r0 by rw [U];exact ⟨⟨rfl,rfl⟩,AB,AB,AN,AN,λd hd=>BQ⟩) U;clear U rf rl
  go_wp2_with fail
  refine ((show ∀ J,Cl 32 #[.I 1] J (Bk J 2) from λJ=>At 1 AA J) _).mono ?_;rintro ee Z ⟨rfl,rfl⟩
  go_wp2_with fail
  refine (AQA _).mono ?_;rintro ee w3 ⟨rfl,Y⟩;have HX3:=Hd (HX2.o.trans Y);have O:=Hd (HR2.o.keep (Y.kept _));clear Y;have rf:=O.o.frozen;have rl:=O.o.lt;have cc0:w3.cell? ⟨g3,0,none⟩=some (.I noneA.kinds):=O.o.q0;have d7:w3.cell? ⟨g3,1,none⟩=some (.I noneA.tx.least):=O.o.q1;have d4:w3.cell? ⟨g3,2,none⟩=some (.I noneA.tx.most):=O.o.q2;have d5:w3.cell? ⟨g3,3,none⟩=some (.I noneA.tx.cls):=O.o.q3;have b9:w3.cell? ⟨g3,4,none⟩=some (.string noneA.tx.b):=O.o.q4;have f0:w3.cell? ⟨g3,5,none⟩=some (.string noneA.tx.e):=O.o.q5
  go_upto_region 15 with fail
  obtain ⟨w6,hw6⟩:=eqx (((((((w3.setCell ⟨g3,0,none⟩ (.I 2)).setCell ⟨g3,1,none⟩ (.I Sh.full.least)).setCell ⟨g3,2,none⟩ (.I Sh.full.most)).setCell ⟨g3,3,none⟩ (.I Sh.full.cls)).setCell ⟨g3,4,none⟩ (.string Sh.full.b)).setCell ⟨g3,5,none⟩ (.string Sh.full.e)));rw [<-hw6];have HX6:=Hd (show Ext w1 w6 by rw [hw6];exact ((((((HX3.o.set2 (Bl HG3.o) _).set2 (Bl HG3.o) _).set2 (Bl HG3.o) _).set2 (Bl HG3.o) _).set2 (Bl HG3.o) _).set2 (Bl HG3.o) _));have HR6:=Hd (show Blk w6 g3 36 (Ap r0 none 0 none 0) by
   have hbb:=((((((O.o.set 0 (.I 2)).set 1 (.I Sh.full.least)).set 2 (.I Sh.full.most)).set 3 (.I Sh.full.cls)).set 4 (.string Sh.full.b)).set 5 (.string Sh.full.e));exact B4)
  clear hw6 rf rl cc0 d7 d4 d5 b9 f0;exact FB
 by_cases hk:k=2
 case pos =>
  subst hk;obtain ⟨r0,U⟩:∃ z:Abs,z = { noneA with kinds:=4,nu:=Rg.full }:=⟨_,rfl⟩;obtain ⟨HRE,HRN,HRR⟩:=Hd3 (show Cs 2=AX r0 by rw [U];unfold Cs;exact DO Bo Bo (λh=>AR) (λ_=>FQ) (λh=>AR) (λh=>AR) (λh=>AR)) (show (r0.cols=[]/\r0.deps=[])/\AbN 1000000 r0 by rw [U];exact ⟨⟨rfl,rfl⟩,AB,AB,AN,AN,λd hd=>BQ⟩) U;clear U rf rl
  go_wp2_with fail
  refine ((show ∀ J,Cl 32 #[.I 2] J (Bk J 4) from λJ=>At 2 AA J) _).mono ?_;rintro ee Z ⟨rfl,rfl⟩
  go_wp2_with fail
  refine (Vg _).mono ?_;rintro ee w3 ⟨rfl,Y⟩;have HX3:=Hd (HX2.o.trans Y);have O:=Hd (HR2.o.keep (Y.kept _));clear Y;have rf:=O.o.frozen;have rl:=O.o.lt;have cc0:w3.cell? ⟨g3,0,none⟩=some (.I noneA.kinds):=O.o.q0;have d8:w3.cell? ⟨g3,6,none⟩=some (.I noneA.nu.ln):=O.o.q6;have b8:w3.cell? ⟨g3,7,none⟩=some (.I noneA.nu.ls):=O.o.q7;have d6:w3.cell? ⟨g3,8,none⟩=some (.I noneA.nu.hn):=O.o.q8;have d9:w3.cell? ⟨g3,9,none⟩=some (.I noneA.nu.hs):=O.o.q9
  go_upto_region 15 with fail
  obtain ⟨w6,hw6⟩:=eqx ((((((w3.setCell ⟨g3,0,none⟩ (.I 4)).setCell ⟨g3,6,none⟩ (.I Rg.full.ln)).setCell ⟨g3,7,none⟩ (.I Rg.full.ls)).setCell ⟨g3,8,none⟩ (.I Rg.full.hn)).setCell ⟨g3,9,none⟩ (.I Rg.full.hs)));rw [<-hw6];have HX6:=Hd (show Ext w1 w6 by rw [hw6];exact (((((HX3.o.set2 (Bl HG3.o) _).set2 (Bl HG3.o) _).set2 (Bl HG3.o) _).set2 (Bl HG3.o) _).set2 (Bl HG3.o) _));have HR6:=Hd (show Blk w6 g3 36 (Ap r0 none 0 none 0) by
   have hbb:=(((((O.o.set 0 (.I 4)).set 6 (.I Rg.full.ln)).set 7 (.I Rg.full.ls)).set 8 (.I Rg.full.hn)).set 9 (.I Rg.full.hs));exact B4)
  clear hw6 rf rl cc0 d8 b8 d6 d9;exact FB
 by_cases hk:k=3
 case pos =>
  subst hk;obtain ⟨r0,U⟩:∃ z:Abs,z = { noneA with kinds:=8,dl:=0,dh:=3652058 }:=⟨_,rfl⟩;obtain ⟨HRE,HRN,HRR⟩:=Hd3 (show Cs 3=AX r0 by rw [U];unfold Cs;exact DO Bo Bo (λh=>AR) (λh=>AR) (λ_=>FQ) (λh=>AR) (λh=>AR)) (show (r0.cols=[]/\r0.deps=[])/\AbN 1000000 r0 by rw [U];exact ⟨⟨rfl,rfl⟩,AB,AB,AN,AN,λd hd=>BQ⟩) U;clear U rf rl
  go_wp2_with fail
  refine ((show ∀ J,Cl 32 #[.I 3] J (Bk J 8) from λJ=>At 3 AA J) _).mono ?_;rintro ee Z ⟨rfl,rfl⟩
  go_wp2_with fail
  refine (Ho _).mono ?_;rintro ee w3 ⟨rfl,Y⟩;have HX3:=Hd (HX2.o.trans Y);have O:=Hd (HR2.o.keep (Y.kept _));clear Y;have rf:=O.o.frozen;have rl:=O.o.lt;have cc0:w3.cell? ⟨g3,0,none⟩=some (.I noneA.kinds):=O.o.q0;have b4:w3.cell? ⟨g3,10,none⟩=some (.I noneA.dl):=O.o.q10;have b3:w3.cell? ⟨g3,11,none⟩=some (.I noneA.dh):=O.o.q11
  go_upto_region 15 with fail
  obtain ⟨w6,hw6⟩:=eqx ((((w3.setCell ⟨g3,0,none⟩ (.I 8)).setCell ⟨g3,10,none⟩ (.I 0)).setCell ⟨g3,11,none⟩ (.I 3652058)));rw [<-hw6];have HX6:=Hd (show Ext w1 w6 by rw [hw6];exact (((HX3.o.set2 (Bl HG3.o) _).set2 (Bl HG3.o) _).set2 (Bl HG3.o) _));have HR6:=Hd (show Blk w6 g3 36 (Ap r0 none 0 none 0) by
   have hbb:=(((O.o.set 0 (.I 8)).set 10 (.I 0)).set 11 (.I 3652058));exact B4)
  clear hw6 rf rl cc0 b4 b3;exact FB
 by_cases hk:k=4
 case pos =>
  subst hk;obtain ⟨r0,U⟩:∃ z:Abs,z = { noneA with kinds:=16,bo:=3 }:=⟨_,rfl⟩;obtain ⟨HRE,HRN,HRR⟩:=Hd3 (show Cs 4=AX r0 by rw [U];unfold Cs;exact DO Bo Bo (λh=>AR) (λh=>AR) (λh=>AR) (λ_=>FQ) (λh=>AR)) (show (r0.cols=[]/\r0.deps=[])/\AbN 1000000 r0 by rw [U];exact ⟨⟨rfl,rfl⟩,AB,AB,AN,AN,λd hd=>BQ⟩) U;clear U rf rl
  go_wp2_with fail
  refine ((show ∀ J,Cl 32 #[.I 4] J (Bk J 16) from λJ=>At 4 AA J) _).mono ?_;rintro ee Z ⟨rfl,rfl⟩;have rf:=HR2.o.frozen;have rl:=HR2.o.lt;have cc0:w2.cell? ⟨g3,0,none⟩=some (.I noneA.kinds):=HR2.o.q0;have b5:w2.cell? ⟨g3,12,none⟩=some (.I noneA.bo):=HR2.o.q12
  go_upto_region 15 with fail
  obtain ⟨w6,hw6⟩:=eqx (((w2.setCell ⟨g3,0,none⟩ (.I 16)).setCell ⟨g3,12,none⟩ (.I 3)));rw [<-hw6];have HX6:=Hd (show Ext w1 w6 by rw [hw6];exact ((HX2.o.set2 (Bl HG3.o) _).set2 (Bl HG3.o) _));have HR6:=Hd (show Blk w6 g3 36 (Ap r0 none 0 none 0) by
   have hbb:=((HR2.o.set 0 (.I 16)).set 12 (.I 3));exact B4)
  clear hw6 rf rl cc0 b5;exact FB
 by_cases hk:k=5
 case pos =>
  subst hk;obtain ⟨r0,U⟩:∃ z:Abs,z = { noneA with kinds:=32,rl:=0,rh:=100 }:=⟨_,rfl⟩;obtain ⟨HRE,HRN,HRR⟩:=Hd3 (show Cs 5=AX r0 by rw [U];unfold Cs;exact DO Bo Bo (λh=>AR) (λh=>AR) (λh=>AR) (λh=>AR) (λ_=>FQ)) (show (r0.cols=[]/\r0.deps=[])/\AbN 1000000 r0 by rw [U];exact ⟨⟨rfl,rfl⟩,AB,AB,AN,AN,λd hd=>BQ⟩) U;clear U rf rl
  go_wp2_with fail
  refine ((show ∀ J,Cl 32 #[.I 5] J (Bk J 32) from λJ=>At 5 AA J) _).mono ?_;rintro ee Z ⟨rfl,rfl⟩
  go_wp2_with fail
  refine (Ga _).mono ?_;rintro ee w3 ⟨rfl,Y⟩;have HX3:=Hd (HX2.o.trans Y);have O:=Hd (HR2.o.keep (Y.kept _));clear Y;have rf:=O.o.frozen;have rl:=O.o.lt;have cc0:w3.cell? ⟨g3,0,none⟩=some (.I noneA.kinds):=O.o.q0;have b7:w3.cell? ⟨g3,13,none⟩=some (.I noneA.rl):=O.o.q13;have b0:w3.cell? ⟨g3,14,none⟩=some (.I noneA.rh):=O.o.q14
  go_upto_region 15 with fail
  obtain ⟨w6,hw6⟩:=eqx ((((w3.setCell ⟨g3,0,none⟩ (.I 32)).setCell ⟨g3,13,none⟩ (.I 0)).setCell ⟨g3,14,none⟩ (.I 100)));rw [<-hw6];have HX6:=Hd (show Ext w1 w6 by rw [hw6];exact (((HX3.o.set2 (Bl HG3.o) _).set2 (Bl HG3.o) _).set2 (Bl HG3.o) _));have HR6:=Hd (show Blk w6 g3 36 (Ap r0 none 0 none 0) by
   have hbb:=(((O.o.set 0 (.I 32)).set 13 (.I 0)).set 14 (.I 100));exact B4)
  clear hw6 rf rl cc0 b7 b0;exact FB
 have HK15:=Hd (show ¬(1<=k/\k<=5) by omega);have HK0:=Hd (show ¬k=0 by assumption);have HRE:=Hd (show Cs k=AX noneA by unfold Cs;exact DO (by simp [IF,noneA,HK15.o]) (by simp [IF,noneA,HK0.o]) (λh=>FZ) (λh=>FZ) (λh=>FZ) (λh=>FZ) (λh=>FZ));have HRN:=Hd (show (noneA.cols=[]/\noneA.deps=[])/\AbN 1000000 noneA from ⟨⟨rfl,rfl⟩,ISA _⟩);clear rf rl
 go_upto_region 15 with fail
 have HAB:=Hd (show AbM w2 (λb=>False) noneA none 0 none 0 from AbM.nil HRN.o.1);have HCN:=Hd (As noneA none none 0 0 w2 _ HAB.o.2.2.1 HAB.o.2.2.2 (HT.o.ext (HXW.o.trans HX2.o)) HRN.o.2);refine wp_region_lit ?_;refine AJ rfl 36 _ rfl g3 rfl HR2.o AS AH ?_
 go_wp2_with fail
 refine HCN.o.mono ?_;rintro e5 w5 ⟨A5,c5,D5,e5,rfl,hab5,hx5⟩;have HX5:=Hd (HX2.o.trans hx5);have hb25:=HB2.o.keep (HX5.o.kept _);rename_i K1 hK1 K2 hK2;refine hK2 _ _ ?_;refine AM rfl 36 _ _ rfl g2 (Ap (AX noneA) A5 c5 D5 e5) rfl rfl 36 _ hb25 AH rfl AD ?_;intro wf hbf hof;refine hK1 _ _ ?_;have HXF:=Hd ((HXW.o.trans HX5.o).only hof Bq);have HBF:=Hd hbf;have hkf:=hof.kept (S:=λb=>g3<b) (λb _ hb e=>by have:=HG3.o;have:=HB2.o.lt;omega);have HABF:=Hd ((hab5.mono (T:=λb=>g3<b) λb _ hb=>by have:=HR2.o.lt;rcases hb with h|h;exact h.elim;omega).keep hkf);exact TS

def G6A(w:World)(l:List BA)(e:Ending)(J:World):Prop:=∃ A' c',e=.returned (.slice A' l.length c')/\OwnSs J w.heap.size A' c' l/\Ext w J
theorem Vt(A:OA)(c:Nat)(l:List BA)(w:World)(S:NP)(h:Strs w S A l) :
  Cl 145 #[.slice A l.length c] w (G6A w l):=by
 have hn:=h.2.1
 rcases A with _|a
 ·have hl:l=[]:=by
   exact UT
  subst hl;have O:=λw:World=>Lib.run_eql_slice_nil w 33 9 none 0 c 0 0 underlying33;simp only [List.length_nil] at O|-
  go_enter func145,ntmps145
  go_wp2;go_ret;exact ⟨none,0,rfl,⟨Own.nil _ _ _ _,AC⟩,Ext.refl _⟩
 ·have O:=λw:World=>Lib.run_eql_slice_nil w 33 9 (some a) l.length c 0 0 underlying33
  go_enter func145,ntmps145
  go_wp2_with (at_builtin;refine AL rfl (.tmp 5) (.tmp 6) rfl tiS rfl ((World.ownsRow_made w #[] 0 (Al) Bd rfl)) rfl (h.1.keep (Kept.alloc _ _ _)) AC AP AA AB AC ?_;intro A' c' w1 hown hg hat)
  go_ret;simp only [Nat.zero_add,List.nil_append] at hown;exact ⟨A',c',rfl,⟨hown,h.2.2⟩,(exaa w).grown hg (λk hk=>by simp [ob] at hk;omega)⟩
def Fy(a:Abs)(k:Nat):List BA:=(a.deps.take k).foldl (λr d=>r++d.frm++[d.tov]) a.cols
theorem Pc(a:Abs)(k:Nat)(hk:k<a.deps.length):Fy a (k+1)=Fy a k++a.deps[k].frm++[a.deps[k].tov]:=by
 unfold Fy;rw [List.take_succ_eq_append_getElem hk,List.foldl_append];rfl
theorem Nh{n:Nat}{a:Abs}(h:AbN n a):∀ k,k<=a.deps.length->(Fy a k).length<=n+k*(n+1)
 |0,_=>by simpa [Fy] using h.2.2.1
 |k+1,hk=>by
  have ih:=Nh h k AA;have hd:=h.2.2.2.2 _ (List.getElem_mem (show k<a.deps.length by omega));rw [Pc a k AA,List.length_append,List.length_append,List.length_singleton,Nat.add_mul,Nat.one_mul];omega
theorem DBA(a:Abs)(x:BA):∀ k,x∈Fy a k↔x∈a.cols\/∃ d∈a.deps.take k,x∈d.frm\/d.tov=x:=by
 intro k;unfold Fy;generalize a.deps.take k=l;refine Hb (P:=λl=>x∈l.foldl (λr d=>r++d.frm++[d.tov]) a.cols↔x∈a.cols\/∃ d∈l,x∈d.frm\/d.tov=x) AC (λl d ih => ?_) l;rw [List.foldl_append];show x∈(l.foldl (λr (d:Dep)=>r++d.frm++[d.tov]) a.cols)++d.frm++[d.tov]↔_;rw [List.mem_append,List.mem_append,ih,List.mem_singleton];constructor
 ·rintro (((h|⟨e,he,h⟩)|h)|h)
  all_goals first|exact .inl h|exact .inr ⟨e,De,h⟩|exact .inr ⟨d,AC,.inl h⟩|exact .inr ⟨d,AC,.inr h.symm⟩
 ·rintro (h|⟨e,he,h⟩)
  ·exact .inl (.inl (.inl h))
  ·rcases List.mem_append.1 he with he|he
   ·exact .inl (.inl (.inr ⟨e,he,h⟩))
   ·rw [List.mem_singleton.1 he] at h
    rcases h with h|h
    ·exact .inl (.inr h)
    ·exact .inr h.symm
theorem C7A(a:Abs)(x:BA):Aw (Fy a a.deps.length) x=Eu a x:=by
 rw [Bool.eq_iff_iff,Ao,DBA,List.take_length];unfold Eu;rw [Bool.or_eq_true,Ao,List.any_eq_true];refine or_congr Iff.rfl (exists_congr λd=>and_congr Iff.rfl ?_);rw [Bool.or_eq_true,Ao,decide_eq_true_eq]
theorem YX(l:List Dep)(a:Abs)(k:Nat)(hk:k<l.length):DK (l.take (k+1)) a=if V6 a l[k]=true then DK (l.take k) a++[l[k]] else DK (l.take k) a:=by
 unfold DK;rw [List.take_succ_eq_append_getElem hk,List.filter_append];cases hf:V6 a l[k]<;>simp [hf]
def HsA(base:Nat)(ws:World)(A':OA)(l:List BA)(n:Nat)(F:Gz)(J:World)(v:Value):Prop:=∃ (A4:OA) (c4:Nat),v=.slice A4 n c4/\F 1003=true/\(F 1007=false->OwnSs J base A4 c4 l/\∀ b,ob A4=some b->ob A'=some b\/ws.heap.size<=b)
def GcA(base:Nat)(l:List BA)(n:Nat)(F:Gz)(J:World)(v:Value):Prop:=∃ (A5:OA) (c5:Nat),v=.slice A5 n c5/\F 1003=true/\F 1007=true/\OwnSs J base A5 c5 l
theorem T0(h:qP:=by
 have m0:=Kept.cell hkk Z0.o Q0.o;have m1:=Kept.cell hkk Z0.o Q1.o;clear hkk;exact Qk):qP:=h
theorem Pz(h:qP:=by
 have hkk:=hR.o.kept0 (S:=λb=>b<ws.heap.size/\ob A'≠some b) (λb hbl hb m hm=>by rcases hm with ⟨_,h⟩ | ⟨_,h | h⟩;exact absurd h hb.2;exact absurd h hb.2;(have:=hb.1;omega));exact T0):qP:=h
theorem Lx(h:qP:=by
 cases h6:F 1007 with
 |false=>rfl
 | true=>rw [rr.done _ h6] at hk;cases hk):qP:=h
theorem G7(h:qP:=by
 intro V F J L hR hN hp hρ zs zg;have HR:=hR;refine Qr ?_;exact ⟨F,H4A _ F (exaa _),λ_ _ _ h=>h,_,rfl,HR.o.size,λ_=>Blk.new _ _ _⟩):qP:=h
theorem Rw(h:qP:=by
 rintro v F wx γ' wy rr ⟨A5,c5,h1,h03,h07,ho⟩;exact ⟨A5,c5,h1,rr.done _ h03,rr.done _ h07,⟨Own.keep ho.1 (rr.keptS λb _ _ m hm=>by rcases hm with ⟨rfl,h⟩ | ⟨rfl,h⟩;(rw [h03,rr.done _ h03]);(rw [h07,rr.done _ h07])),ho.2⟩⟩):qP:=h
theorem Tx(h:qP:=by
 go_wp2
 go_roundg (gk-1)
 case rel=>exact ⟨k+1,A8,c8,by omega,by go_num,by rw [HS.o],HXS.o,by rw [HS.o];exact HOWS.o⟩
 all_goals omega):qP:=h
theorem EZ(l:List Dep)(a:Abs)(B A D:OA)(cl c e:Nat)(w:World)(S T:NP)(hL:RDeps w T B l)(hA:Strs w S A a.cols)(hD:RDeps w S D a.deps)(hz:AbN 50000 a)(hl:l.length<=1000000)(hlf:∀ d∈l,d.frm.length<=50000) :
  Cl 71 #[.slice B l.length cl,(Aq a A c D e)] w (Jt w T (DK l a)):=by
 obtain ⟨w0,hw0⟩:=eqx (w.alloc (.cells (Ap a A c D e) 36));obtain ⟨g3,hg3⟩:=eqx w.heap.size;have hx0:Ext w w0:=BS;have hb3:Blk w0 g3 36 (Ap a A c D e):=(by rw [hw0,hg3];exact Blk.new _ _ _);have a9:w0.heap.size=w.heap.size+1:=(by rw [hw0];simp);obtain ⟨HW0,HG3,HS0,HX0,HB3,HL,HA,HD⟩:=Hd8 hw0 hg3 a9 hx0 hb3 (hL.mono (T:=λb=>T b/\b<w.heap.size) λi hi hs=>⟨hs,hi⟩) (hA.mono (T:=λb=>b<w.heap.size) λi hi _=>hi) (hD.mono (T:=λb=>b<w.heap.size) λi hi _=>hi);have HZ:=Hd hz;have HLF:=Hd hlf;have hal:=hz.2.2.1;have hdl:=hz.2.2.2.1;have HCL:=Hd (Vt A c a.cols w0 _ (HA.o.keep (hx0.kept _)));have q15:w0.cell? ⟨g3,15,none⟩=some (.slice A a.cols.length c):=hb3.q15;clear hw0 hg3 a9 hx0 hb3 hL hA hD hz hlf
 go_enter func71,ntmps71
 go_wp2
 go_step3
 rw [<-HW0.o,<-HG3.o]
 go_wp2_with fail
 refine HCL.o.mono ?_;rintro e1 w1 ⟨A1,c1,rfl,hown1,hx1⟩;have HO1:=Hd hown1;have HX1:=Hd hx1;have q16:w1.cell? ⟨g3,16,none⟩=some (.slice D a.deps.length e):=(HB3.o.keep (hx1.kept _)).q16;clear q15 hown1 hx1;go_wp2
 go_loopw [19,5] (λi v wr=>∃ (k:Nat) (A':OA) (c':Nat),k<=a.deps.length/\i=.I k/\v=.slice A' (Fy a k).length c'/\Ext w0 wr/\OwnSs wr w0.heap.size A' c' (Fy a k)) (λi _ _=>a.deps.length-(intOf i).toNat)
 case atStart=>exact ⟨0,A1,c1,AN,rfl,rfl,HX1.o,HO1.o⟩
 case round =>
  clear q16;obtain ⟨k,A',c',hk,rfl,rfl,hext,hown⟩:=hrel;have HE:=Hd hext;have HO0:=Hd hown;by_cases hlt:k<a.deps.length
  ·obtain ⟨b1,o1,B1,cB,he,z1,q0,q1,f1,f2,f3⟩:=((HD.o.keep (HX0.o.kept _)).keep (hext.kept _)).at_ hlt;have hb1:b1<w.heap.size:=by
    obtain ⟨_,xs,hr,hxl,_⟩:=HD.o
    rcases hr with rfl|⟨b,o,hA,hS,_⟩
    ·simp at hxl;omega
    ·rw [he] at hA;injection hA with hA;injection hA with hA;rw [hA];exact hS
   subst he;obtain ⟨d,hd⟩:=eqx (a.deps[k]);have b0:=Nh HZ.o k hk;have b3:=Pc a k hlt;have hfl:=HZ.o.2.2.2.2 _ (List.getElem_mem hlt);rw [<-hd] at q0 q1 f1 f2 f3 b3 hfl;obtain ⟨kn,hknn⟩:=eqx (Fy a k);rw [<-hknn] at b0 b3 hown|-;obtain ⟨ws,hws⟩:=eqx (wr.alloc (.cells #[.slice B1 d.frm.length cB,.string d.tov] 64));obtain ⟨gv,Z⟩:=eqx wr.heap.size;have O:Ext wr ws:=(by rw [hws];exact (Ext.refl wr).alloc _);have U:Blk ws gv 64 #[.slice B1 d.frm.length cB,.string d.tov]:=(by rw [hws,Z];exact Blk.new _ _ _);have Q0:=Hd (U.q0);have Q1:=Hd (U.q1);have hszr:=hext.size;have hszs:=O.size;obtain ⟨a8,HAL,Z0,HXS⟩:=Hd4 (hown.ext O) (show ∀ b,ob A'=some b->b<ws.heap.size from λb hb=>((hown.ext O).1.blk hb).2) (show gv<ws.heap.size/\ob A'≠some gv from ⟨U.lt,λe=>by have:=(hown.1.blk e).2;omega⟩) (hext.trans O);have a9:=HS0.o;obtain ⟨HWS,HFR,HNB,HTO,HXR⟩:=Hd5 (show w0.heap.size<=ws.heap.size by omega) ((f3.keep (O.kept _)).mono (T:=λb=>b<ws.heap.size/\ob A'≠some b) λb hb hh=>⟨hb,λe=>by have:=(hown.1.blk e).1;omega⟩) (show kn.length+d.frm.length+1<=10000000000 by have:k*(50000+1)<=50000*(50000+1):=Nat.mul_le_mul AA (Al);omega) f2 O;obtain ⟨kn1,hk1⟩:=eqx (kn++d.frm);obtain ⟨kn2,hk2⟩:=eqx (kn1++[d.tov]);rw [<-hk1,<-hk2] at b3;obtain ⟨HKS,HK1,HK2⟩:=Hd3 b3 hk1 hk2;clear hext hown O U hszr hszs a9 b3 hk1 hk2 b0 hd hknn f1 f2 f3 hb1 hfl HO0;have HWW:=Hd hws;have HGV:=Hd Z;clear hws Z
   go_upto_region 5 with fail
   rw [<-HWW.o,<-HGV.o];clear q0 q1;refine Qa (λm b=>(m=1003/\ob A'=some b)\/(m=1007/\(ob A'=some b\/ws.heap.size<=b))) [(0,[1003]),(2,[1003]),(3,[1003,1007]),(6,[1007]),(7,[1007])] ?_
   iterate 2 refine Qp ?_
   refine Qm (λV F J L hR hN hp hρ zs zg=>by
    exact Pz) ?_
   refine Chain.step (FP λv F J=>HsA w0.heap.size ws A' kn1 (kn.length+d.frm.length) F J v) AG (H1A ?_) ?_ ?_
   ·rintro v F wx γ' wy rr ⟨A4,c4,h1,h03,h4⟩;refine ⟨A4,c4,h1,rr.done _ h03,λhk => ?_⟩;have hk0:F 1007=false:=by
     exact Lx
    obtain ⟨ho,hat⟩:=h4 hk0;exact ⟨⟨Own.keep ho.1 (rr.keptS λb _ e m hm=>by rcases hm with ⟨rfl,h⟩|⟨rfl,h⟩;(rw [h03,rr.done _ h03]);(rw [hk,hk0])),ho.2⟩,hat⟩
   ·intro V F J L hR hN hp hρ hc hf hg;refine ⟨rfl,?_⟩;have e23:L (.tmp 23)=_:=(hρ 23).trans (hp 0 AB);have e25:L (.tmp 25)=_:=(hρ 25).trans (hp 2 AB);have hk0:=hN.key (k:=1003) AB;have hk7:=hN.key (k:=1007) AB;have ho:=Own.keep a8.o.1 (hR.kept0 (S:=λb=>ob A'=some b) λb _ e m hm=>by rcases hm with ⟨rfl,h⟩|⟨rfl,h⟩;exact hk0;exact hk7);have hrd:=HFR.o.1.keep (hR.kept0 (S:=λb=>b<ws.heap.size/\ob A'≠some b) (λb hbl hb m hm=>by rcases hm with ⟨_,h⟩|⟨_,h|h⟩;exact absurd h hb.2;exact absurd h hb.2;(have:=hb.1;omega)));have hsz:=hR.size;have e0:ws.drew.heap.size=ws.heap.size:=rfl;have hnb:=HNB.o;have hws:=HWS.o;refine Cw (.tmp 23) (.tmp 25) rfl tiS e23 ho e25 hrd (by rw [List.length_map,Nat.mul_one]) (λu hu=>Es _ u hu) AA AB AA ?_;intro A4 c4 w4 hown4 hg4 hat4;refine ⟨F.put 1003,H2A hk0 hg4.os hg4.tape hg4.output hg4.size (λb hb hm=>hg4.block b hb λe=>hm (.inl ⟨rfl,e.symm⟩)),LK.done AB,A4,c4,rfl,AU,λ_=>⟨⟨by rw [HK1.o,List.length_append,List.map_append];exact hown4,λs hs => ?_⟩,?_⟩⟩
    ·rw [HK1.o] at hs
     rcases List.mem_append.1 hs with hs|hs
     ·exact a8.o.2 s hs
     ·exact HFR.o.2.2 s hs
    ·intro b hb
     rcases hat4 with h|h
     ·exact .inl (by rw [<-h];exact hb)
     ·rw [hb] at h;injection h with h;exact .inr AA
   refine Qp ?_;refine Qm (λV F J L hR hN hp hρ zs zg=>by
    exact Pz) ?_
   refine Qs (FP λv F J=>∃ g:Nat,v=.slice (some ⟨g,0,none⟩) 1 1/\ws.heap.size<=g/\(F 1007=false->Blk J g 9 #[.string d.tov])) (H1A ?_) ?_ ?_
   ·rintro v F wx γ' wy rr ⟨g,h1,h2,h3⟩;refine ⟨g,h1,h2,λhk => ?_⟩;have hk0:F 1007=false:=by
     exact Lx
    exact (h3 hk0).keep (rr.keptS (S:=λb=>b=g) λb _ e m hm=>by rcases hm with ⟨rfl,h⟩|⟨rfl,h⟩;(have:=HAL.o b h;omega);(rw [hk,hk0]))
   ·exact G7
   refine Chain.step (FP λv F J=>GcA w0.heap.size kn2 (kn.length+d.frm.length+1) F J v) AG (H1A ?_) ?_ ?_
   ·exact Rw
   ·intro V F J L hR hN hp hρ hc hf hg;refine ⟨rfl,?_⟩;obtain ⟨A4,c4,hv4,h03,h4⟩:=hp 3 AB;have e26:=(hρ 26).trans hv4;obtain ⟨g,hv6,hg,hb⟩:=hp 6 AB;have e29:=(hρ 29).trans hv6;have hk0:=hN.key (k:=1007) AB;have hbg:=hb hk0;obtain ⟨ho4,hat4⟩:=h4 hk0;have hsz:=hR.size;have e0:ws.drew.heap.size=ws.heap.size:=rfl;have hnb:=HNB.o;have hws:=HWS.o;have Y:=ho4.1;rw [HK1.o,List.length_append] at Y;refine Cw (.tmp 26) (.tmp 29) rfl tiS e26 Y e29 (Blk.rd hbg) rfl AP AA AB AA ?_;intro A5 c5 w5 hown5 hg5 hat5;refine ⟨F.put 1007,H2A hk0 hg5.os hg5.tape hg5.output hg5.size (λb hb hm=>hg5.block b hb λe=>hm (.inr ⟨rfl,hat4 b e.symm⟩)),LK.done AB,A5,c5,rfl,by simp [Gz.put,h03],AU,⟨?_,λs hs => ?_⟩⟩
    ·rw [HK2.o,HK1.o,List.length_append,List.length_append,List.map_append];exact hown5
    ·rw [HK2.o] at hs
     rcases List.mem_append.1 hs with hs|hs
     ·exact ho4.2 s hs
     ·rw [List.mem_singleton.1 hs];exact HTO.o
   refine Qs (FP λv F J=>GcA w0.heap.size kn2 (kn.length+d.frm.length+1) F J v) (H1A ?_) ?_ ?_
   ·exact Rw
   ·intro V F J L hR hN hp hρ zs zg;obtain ⟨A5,c5,hv5,h03,h07,Y⟩:=hp.o 7 AB;have e30:=(hρ.o 30).trans hv5;obtain ⟨HO,H03,H07⟩:=Hd3 Y h03 h07;clear hv5 Y h03 h07;refine Qr ?_;exact ⟨F,LZ.refl _ _ _,λ_ _ _ h=>h,A5,c5,rfl,H03.o,H07.o,HO.o⟩
   intro V F w9 hR hG;obtain ⟨A5,c5,v8,-,-,Y⟩:=hG 8 AB;have HXM:=Hd (show Ext w0 w9 from Au HXS.o (hR.buts (S:=λb=>w0.heap.size<=b) (λm b hbl hm _=>by have:=HWS.o;rcases hm with ⟨_,h⟩|⟨_,h|h⟩;(have:=(a8.o.1.blk h).1;omega);(have:=(a8.o.1.blk h).1;omega);omega)) (λb hb=>hb));have HO5:=Hd Y;refine Qx ?_;simp only [v8];clear hR hG v8 Y;go_wp2;go_roundw
   case rel =>
    refine ⟨k+1,A5,c5,AA,AE,by rw [HKS.o,HK2.o,HK1.o,List.length_append,List.length_append];rfl,HXM.o,?_⟩;rw [HKS.o];exact HO5.o
   case measure=>simp [intOf];omega
  ·obtain rfl:k=a.deps.length:=AA;obtain ⟨kn,b0⟩:=eqx (Fy a a.deps.length);have hkl:=Nh HZ.o a.deps.length (Al);rw [<-b0] at hown hkl|-;have HO:=Hd hown;have hocc:∀ x,Aw kn x=Eu a x:=λx=>by rw [b0];exact C7A a x
   have HOCC:=Hd hocc;have hkl2:kn.length<=4294967296:=(by have:a.deps.length*(50000+1)<=50000*(50000+1):=Nat.mul_le_mul AA (Al);omega);have a8:=Hd (hown.strs (T:=λ_=>True) hkl2 λ_ _=>trivial);obtain ⟨wp,rfl⟩:∃ wp:World,wp=wr:=⟨_,rfl⟩;clear hext hown HO0 b0 hkl hkl2 hocc;go_wp2
   go_step3
   go_wp2
   go_loopg [34,8] l.length (λgk i v wr=>∃ (k:Nat) (A8:OA) (c8:Nat),gk+k=l.length/\i=.I k/\v=.slice A8 (DK (l.take k) a).length c8/\Ext wp wr/\OwnDs wr wp.heap.size (λb=>T b/\b<w.heap.size) A8 c8 (DK (l.take k) a))
   case atStart=>exact ⟨0,none,0,AA,rfl,rfl,Ext.refl _,OwnDs.nil _ _ _⟩
   case round =>
    obtain ⟨k,A8,c8,hgk,rfl,rfl,hext,hown⟩:=hrel;have HE2:=Hd hext;have HO8:=Hd hown;by_cases hlt:k<l.length
    ·obtain ⟨b1,o1,B1,cB,he,z1,q0,q1,f1,f2,f3⟩:=((HL.o.keep (HX0.o.kept _)).keep ((HE.o.trans hext).kept _)).at_ hlt;subst he;obtain ⟨d,hd⟩:=eqx (l[k]);have hfl:=HLF.o _ (List.getElem_mem hlt);have hft:=YX l a k hlt;rw [<-hd] at q0 q1 f1 f2 f3 hfl hft;obtain ⟨fs,hfs⟩:=eqx (DK (l.take k) a);rw [<-hfs] at hft hown|-;have hfsl:fs.length<=l.length:=(by rw [hfs];unfold DK;exact Nat.le_trans (List.length_filter_le _ _) BP);obtain ⟨ws,hws⟩:=eqx (wr.alloc (.cells #[.slice B1 d.frm.length cB,.string d.tov] 64));obtain ⟨gv,Z⟩:=eqx wr.heap.size;have O:Ext wr ws:=(by rw [hws];exact (Ext.refl wr).alloc _);have U:Blk ws gv 64 #[.slice B1 d.frm.length cB,.string d.tov]:=(by rw [hws,Z];exact Blk.new _ _ _);obtain ⟨r0,r1⟩:=U.qs2;obtain ⟨HBV,HFT,HXS,HF3,HF1,HTO,HOWS,HCT⟩:=Hd8 U hft (hext.trans O) (f3.keep (O.kept _)) f1 f2 (hown.ext O) (JK A' c' kn d.tov ws _ (a8.o.keep ((hext.trans O).kept _)));rw [HOCC.o] at HCT;have hbvs:=HBV.o.lt;have q16:ws.cell? ⟨g3,16,none⟩=some (.slice D a.deps.length e):=(HB3.o.keep ((HE.o.trans (hext.trans O)).kept _)).q16;obtain ⟨HWW,HGV,HFD⟩:=Hd3 hws Z (show V6 a d=(Eu a d.tov&&d.frm.all (Eu a)&&JX a.deps d.frm d.tov) from rfl);have hdfl:d.frm.length<=4294967296:=AA;clear hws Z hext hown O U hd hft hfs HO8 HE2 f1 f2 f3
     go_upto_region 11 with fail
     rw [<-HWW.o,<-HGV.o];clear q0 q1
     go_wp2_with fail
     refine HCT.o.mono ?_;rintro e3 w3 ⟨rfl,rfl⟩;cases ho1:Eu a d.tov
     ·have HS:=Hd (show DK (l.take (k+1)) a=fs by rw [HFT.o,HFD.o,ho1];simp);clear ho1;exact Tx
     ·have HO1:=Hd ho1;clear ho1;go_wp2;have HKS:=Hd (a8.o.keep (HXS.o.kept _));have HDS:=Hd ((HD.o.keep (HX0.o.kept _)).keep ((HE.o.trans HXS.o).kept _));have hdfs:=hfl
      go_loopw [46] (λi wi=>∃ j:Nat,j<=d.frm.length/\i=.I j/\ws=wi/\∀ m (h:m<d.frm.length),m<j->Eu a d.frm[m]=true) (λi _=>d.frm.length-(intOf i).toNat)
      case atStart=>exact ⟨0,AN,rfl,rfl,AK⟩
      case round =>
       obtain ⟨j,hj,rfl,rfl,hall⟩:=hrel;have HAJ:=Hd hall;clear hall;by_cases hjl:j<d.frm.length
       ·obtain ⟨b2,o2,he2,z2,c2⟩:=HF3.o.at_ hjl;subst he2;have HCF:=Hd (JK A' c' kn d.frm[j] ws _ HKS.o);rw [HOCC.o] at HCF
        go_wp2_with fail
        refine HCF.o.mono ?_;rintro e4 w4 ⟨rfl,rfl⟩;cases hoj:Eu a d.frm[j]
        ·have HS:=Hd (show DK (l.take (k+1)) a=fs by rw [HFT.o,HFD.o,CX d.frm (Eu a) j hjl hoj];simp);clear hoj;exact Tx
        ·have HOJ:=Hd hoj;clear hoj;go_wp2;go_roundw
         case rel =>
          refine ⟨j+1,AA,AE,by first|rfl|trivial,λm h hm => ?_⟩;by_cases hmj:m=j
          ·subst hmj;exact HOJ.o
          ·exact HAJ.o m h AA
         case measure=>simp [intOf];omega
       ·have HALL:=Hd (show d.frm.all (Eu a)=true from CH d.frm (Eu a) λm h=>HAJ.o m h AA);have HIM:=Hd (Vy a.deps d.frm d.tov D B1 e cB ws _ _ HDS.o HF3.o AA);obtain ⟨im,him⟩:=eqx (JX a.deps d.frm d.tov);rw [<-him] at HIM;have HFB:=Hd (show DK (l.take (k+1)) a=if im=true then fs++[d] else fs by rw [HFT.o,HFD.o,HO1.o,HALL.o,him];simp);clear him
        go_wp2_with fail
        refine HIM.o.mono ?_;rintro e4 w4 ⟨rfl,hx4⟩;have HX4:=Hd (HXS.o.trans hx4);have HOW4:=Hd (HOWS.o.ext hx4);have s0:=hx4.cell r0;have s1:=hx4.cell r1;have HF4:=Hd (HF3.o.keep (hx4.kept _));clear r0 r1 q16 hx4;cases im
        ·have HS:=Hd (show DK (l.take (k+1)) a=fs by rw [HFB.o,if_neg AC]);go_wp2
         go_roundg (gk-1)
         case rel=>exact ⟨k+1,A8,c8,AA,AE,by rw [HS.o],HX4.o,by rw [HS.o];exact HOW4.o⟩
         all_goals omega
        ·have HS:=Hd (show DK (l.take (k+1)) a=fs++[d] by rw [HFB.o,if_pos rfl]);obtain ⟨hs9,hhs9,ho9,hv9⟩:=(HOW4.o.ext ((Ext.refl _).alloc (.cells #[.slice B1 d.frm.length cB,.string d.tov] 64))).add;obtain ⟨HOWN,HV,HHS⟩:=Hd3 ho9 hv9 hhs9;have hsz4:=HX4.o.size;have hsze:=HE.o.size;have a9:=HS0.o;clear ho9 hv9 hhs9
         go_wp2_with (at_builtin;go_must (refine AL rfl (.tmp 59) (.tmp 61) rfl tiD rfl HOWN.o rfl (Blk.rd (Blk.new _ _ _)) rfl AP AA AB AI ?_);intro A9 c9 w9 hown9 hg9 hat9)
         go_roundg (gk-1)
         case rel =>
          refine ⟨k+1,A9,c9,AA,AE,by rw [HS.o,List.length_append];rfl,Ext.grown (HX4.o.alloc _) hg9 (λb hb=>Ii),?_⟩;rw [HS.o];refine OwnDs.push HHS.o HV.o hown9 hg9 hat9 HF1.o HTO.o ((HF4.o.keep (Kept.alloc _ _ _)).mono λi _ hi=>⟨λe => ?_,hi⟩);have:=(HOW4.o.blk e).1;have:=hi.2;omega
         all_goals omega
    ·obtain rfl:k=l.length:=AA;have HT:=Hd (show l.take l.length=l from List.take_length);have ho:=HO8.o;rw [HT.o] at ho;have HC:=Hd (show (DK l a).length<=c8 by obtain ⟨hs,_,h1,_⟩:=ho.add;exact h1.cap);have HOF:=Hd ho;have a9:=HS0.o;have HB0:=Hd (show w.heap.size<=wp.heap.size by have:=HE.o.size;omega);clear hext hown ho a9;go_wp2
     try rw [Exit.noGoto_ret]
     go_ret;exact ⟨A8,c8,EM,HC.o,(HOF.o.lower HB0.o).mono λb _ h=>h.1,(HX0.o.trans HE.o).trans HE2.o⟩

def HcA(ws:World)(d:Dep)(F:Gz)(J:World)(v:Value):Prop:=∃ (A4:OA) (c4:Nat),v=.slice A4 d.frm.length c4/\F 1007=true/\OwnSs J ws.heap.size A4 c4 d.frm
def GoA(ws:World)(d:Dep)(F:Gz)(J:World)(v:Value):Prop:=∃ (A4:OA) (c4:Nat),v=.agg #[.slice A4 d.frm.length c4,.string d.tov]/\F 1007=true/\OwnSs J ws.heap.size A4 c4 d.frm
def GsA(ws:World)(d:Dep)(F:Gz)(J:World)(v:Value):Prop:=∃ (g:Nat) (A4:OA) (c4:Nat),v=.slice (some ⟨g,0,none⟩) 1 1/\F 1007=true/\ws.heap.size<=g/\Blk J g 64 #[.slice A4 d.frm.length c4,.string d.tov]/\OwnSs J ws.heap.size A4 c4 d.frm/\ob A4≠some g
def FlA(base:Nat)(l:List Dep)(no:Nat)(F:Gz)(J:World)(v:Value):Prop:=∃ (A5:OA) (c5:Nat),v=.slice A5 (no+1) c5/\F 1007=true/\F 1015=true/\OwnDs J base (λb=>base<=b) A5 c5 l
theorem Q8(h:qP:=by
 refine (h3 hk0).keep (rr.keptS (S:=λb=>b=g) λb _ e m hm => ?_);have hlo:ws.heap.size<=b:=(by rw [e];exact h2)
 rcases hm with ⟨rfl,h⟩ | ⟨rfl,h⟩;(rw [hk,hk0]);(have:=(HAL.o b h).2;omega)):qP:=h
theorem QY(h:qP:=by
 have hkk:=hR.o.kept0 (S:=λb=>b<ws.heap.size/\ob A'≠some b) (λb hbl (hb:b<ws.heap.size/\ob A'≠some b) m hm=>by rcases hm with ⟨_,h⟩ | ⟨_,h⟩;(have:=hb.1;omega);exact absurd h hb.2);exact T0):qP:=h
theorem JC(h:qP:=by
 rintro v F wx γ' wy rr ⟨A4,c4,h1,h07,ho⟩;have kn:Kept (λb=>ws.heap.size<=b) wx wy:=rr.keptS λb _ (e:ws.heap.size<=b) m hm=>by rcases hm with ⟨rfl,h⟩|⟨rfl,h⟩;(rw [h07,rr.done _ h07]);(have:=(HAL.o b h).2;omega)
 exact ⟨A4,c4,h1,rr.done _ h07,⟨Own.keep ho.1 (kn.mono λb _ e=>(Own.blk ho.1 e).1),ho.2⟩⟩):qP:=h
theorem Kk(h:qP:=by
 have HO:=Hd ho4;have HD:=Hd hd4;clear hv4 ho4 hd4;refine Qr ?_;exact ⟨F,LZ.refl _ _ _,λ_ _ _ h=>h,A4,c4,rfl,HD.o,HO.o⟩):qP:=h
theorem PU(h:qP:=by
 rintro v F wx γ' wy rr ⟨g,A4,c4,h1,h07,hg,hb,ho,hne⟩;have kn:Kept (λb=>ws.heap.size<=b) wx wy:=rr.keptS λb _ (e:ws.heap.size<=b) m hm=>by rcases hm with ⟨rfl,h⟩|⟨rfl,h⟩;(rw [h07,rr.done _ h07]);(have:=(HAL.o b h).2;omega)
 exact ⟨g,A4,c4,h1,rr.done _ h07,hg,hb.keep (kn.mono λb _ e=>by rw [e];exact hg),⟨Own.keep ho.1 (kn.mono λb _ e=>(Own.blk ho.1 e).1),ho.2⟩,hne⟩):qP:=h
theorem R6(h:qP:=by
 exact ⟨F,H4A _ F hx1,λ_ _ _ h=>h,J.heap.size,A4,c4,rfl,HD.o,HR.o.size,Blk.new _ _ _,HO.o.ext hx1,λe=>by have:=(HO.o.1.blk e).2;omega⟩):qP:=h
theorem Iv(h:qP:=by
 rintro v F wx γ' wy rr ⟨A5,c5,h1,h07,h15,ho⟩;exact ⟨A5,c5,h1,rr.done _ h07,rr.done _ h15,ho.keep (rr.keptS λb _ _ m hm=>by rcases hm with ⟨rfl,h⟩ | ⟨rfl,h⟩;(rw [h07,rr.done _ h07]);(rw [h15,rr.done _ h15]))⟩):qP:=h
theorem On(h:qP:=by
 obtain ⟨HOD,H07,H15⟩:=Hd3 hod5 h07 h15;clear hv5 hod5 h07 h15;refine Qr ?_;exact ⟨F,LZ.refl _ _ _,λ_ _ _ h=>h,A5,c5,rfl,H07.o,H15.o,HOD.o⟩):qP:=h
theorem FJ(h:qP:=by rcases hm with ⟨_,h⟩|⟨_,h⟩;(have:=hb.1;omega);exact absurd h hb.2):qP:=h
theorem DjA(l:List Dep)(A:OA)(c:Nat)(w:World)(S:NP)(h:RDeps w S A l)(hl:l.length<=1000000) :
  Cl 114 #[.slice A l.length c] w (DTA w (ddp l)):=by
 have H:=Hd (h.mono (T:=λb=>b<w.heap.size) λi hi _=>hi);clear h
 go_enter func114,ntmps114
 go_wp2
 go_loopw [4,3] (λi v wr=>∃ (k:Nat) (A':OA) (c':Nat),k<=l.length/\i=.I k/\v=.slice A' (ddp (l.take k)).length c'/\Ext w wr/\OwnDs wr w.heap.size (λb=>w.heap.size<=b) A' c' (ddp (l.take k))) (λi _ _=>l.length-(intOf i).toNat)
 case atStart=>exact ⟨0,none,0,AN,rfl,rfl,Ext.refl _,OwnDs.nil _ _ _⟩
 case round =>
  obtain ⟨k,A',c',hk,rfl,rfl,hext,hown⟩:=hrel;have HE:=Hd hext;have HO0:=Hd hown;by_cases hlt:k<l.length
  ·obtain ⟨b1,o1,B1,cB,rfl,z1,q0,q1,f1,f2,f3⟩:=(H.o.keep (hext.kept _)).at_ hlt;obtain ⟨d,hd⟩:=eqx (l[k]);have Y:=O6 l k hlt;have hln:=F4 (l.take k);rw [List.length_take] at hln;rw [<-hd] at q0 q1 f1 f2 f3 Y;obtain ⟨ds,hds⟩:=eqx (ddp (l.take k));rw [<-hds] at Y hln hown|-;obtain ⟨HNX,HO,HQ0,HQ1,b0,HF1,HTO⟩:=Hd7 Y hown q0 q1 f3 f1 f2;have hdk:ds.length<=k:=AA;clear hext hown Y hd hds f3 q0 q1 f1 f2 HO0 hln;obtain ⟨wp,rfl⟩:∃ wp:World,wp=wr:=⟨_,rfl⟩;go_wp2
   go_loopw [6,5] (λi tw wj=>∃ j:Nat,j<=ds.length/\i=.I j/\tw=.bool (decide (d∈ds.take j))/\Ext wp wj) (λi _ _=>ds.length-(intOf i).toNat)
   case atStart=>exact ⟨0,AN,rfl,rfl,Ext.refl _⟩
   case round =>
    obtain ⟨j,hj,rfl,rfl,O⟩:=hrel;have a8:=Hd O;by_cases hjl:j<ds.length
    ·obtain ⟨xs,U,ho,hv⟩:=(HO.o.ext O).add;obtain ⟨gd,rfl⟩:=ho.some_ AA;obtain ⟨B0,e0,h3,h4,h5,h6,h7⟩:=hv j ds[j] (List.getElem?_eq_getElem hjl);obtain ⟨Q0,Q1,Q2,Q3⟩:=Hd4 (ho.cell_ h3) (ho.cell_ h4) (O.cell HQ0.o) (O.cell HQ1.o);obtain ⟨tw,Z⟩:=eqx (decide (d∈ds.take j));obtain ⟨sd,a9⟩:=eqx (decide (ds[j]=d));have HSD:=Hd (show ∀ J,Ext wr J->Cl 52 #[.agg #[.slice B0 ds[j].frm.length e0,.string ds[j].tov],.agg #[.slice B1 d.frm.length cB,.string d.tov]] J (Ae J sd) from λJ hw'=>by
      rw [a9];exact N5 ds[j] d B0 B1 e0 cB J _ _ (h7.keep (hw'.kept _)) ((b0.o.keep (O.kept _)).keep (hw'.kept _)))
     have HTW:=Hd (show decide (d∈ds.take (j+1))=(tw||sd) by
      rw [Z,a9,Bool.eq_iff_iff,Bool.or_eq_true,decide_eq_true_eq,decide_eq_true_eq,decide_eq_true_eq,List.take_succ_eq_append_getElem hjl,List.mem_append,List.mem_singleton];exact or_congr Iff.rfl eq_comm)
     rw [<-Z];clear ho hv U h3 h4 h5 h6 h7 Z a9 O
     go_upto_region 9 with fail
     refine Qa (λ_ _=>False) [] ?_
     iterate 8 refine Qp ?_
     refine Qd (λJ HXW=>HSD.o J HXW.o) ?_;refine Qp ?_;intro V F w9 hR hG;refine Qx ?_;have HXN:=Hd (show Ext wr w9 from hR.ext0 (λ_ _ _ h=>h.elim));clear hR hG;cases tw
     all_goals
      cases sd
      all_goals
       go_wp2;go_roundw
       case rel=>exact ⟨j+1,AA,AE,by rw [HTW.o];rfl,a8.o.trans HXN.o⟩
       case measure=>simp [intOf];omega
    ·have hjo:j=ds.length:=AA;subst hjo;rw [List.take_length];cases hm:decide (d∈ds)
     ·have HI:=Hd (HNX.o.trans (if_neg (of_decide_eq_false hm)));clear hm;obtain ⟨ws,hws⟩:=eqx wr;have hb1:b1<w.heap.size:=by
       obtain ⟨_,xs,hr,U,_⟩:=H.o
       rcases hr with rfl|⟨b,o,hA,hS,_⟩
       ·simp at U;omega
       ·injection hA with hA;injection hA with hA;rw [hA];exact hS
      have hszr:=HE.o.size;have hszj:=O.size;obtain ⟨HAL,HXS,HWS⟩:=Hd3 (show ∀ b,ob A'=some b->w.heap.size<=b/\b<ws.heap.size from λb hb=>by have:=HO.o.blk hb;rw [hws];omega) (show Ext w ws by rw [hws];exact HE.o.trans O) (show w.heap.size<=ws.heap.size by rw [hws];omega);have HFR:=Hd (show Strs ws (λb=>b<ws.heap.size/\ob A'≠some b) B1 d.frm by
       rw [hws];exact (b0.o.keep (O.kept _)).mono λb hb hh=>⟨hb,λe=>by have:=(HO.o.blk e).1;omega⟩)
      obtain ⟨HFB,Z0,Q0,Q1,HOS,HNB⟩:=Hd6 b0.o.2.1 (show b1<ws.heap.size/\ob A'≠some b1 from ⟨by rw [hws];omega,λe=>by have:=(HO.o.blk e).1;omega⟩) (show ws.cell? ⟨b1,o1+k*2,none⟩=some (.slice B1 d.frm.length cB) by rw [hws];exact O.cell HQ0.o) (show ws.cell? ⟨b1,o1+k*2+1,none⟩=some (.string d.tov) by rw [hws];exact O.cell HQ1.o) (show OwnDs ws w.heap.size (λb=>w.heap.size<=b) A' c' ds by rw [hws];exact HO.o.ext O) hdk;rw [<-hws];clear HO hws hb1 hszr hszj O;have HO:=HOS
      go_upto_region 12 with fail
      refine Qa (λm b=>(m=1007/\ws.heap.size<=b)\/(m=1015/\ob A'=some b)) [(1,[1007]),(6,[1007]),(7,[1007,1015]),(0,[1015]),(14,[1015]),(15,[1015])] ?_;refine Qp ?_;refine Qs (FP λv F J=>∃ g:Nat,v=.slice (some ⟨g,0,none⟩) 0 0/\ws.heap.size<=g/\(F 1007=false->Blk J g 9 #[])) (H1A ?_) ?_ ?_
      ·rintro v F wx γ' wy rr ⟨g,h1,h2,h3⟩;refine ⟨g,h1,h2,λhk => ?_⟩;have hk0:F 1007=false:=by
        exact Lx
       exact Q8
      ·exact G7
      iterate 4 refine Qp ?_
      refine Qm (λV F J L hR hN hp hρ zs zg=>by
       exact QY) ?_
      refine Chain.step (FP λv F J=>HcA ws d F J v) AG (H1A ?_) ?_ ?_
      ·exact JC
      ·intro V F J L hR hN hp hρ hc hf hg;refine ⟨rfl,?_⟩;obtain ⟨g,hv1,hg,hb⟩:=hp 1 AB;have e36:=(hρ 36).trans hv1;have e41:L (.tmp 41)=_:=(hρ 41).trans (hp 6 AB);have hk0:=hN.key (k:=1007) AB;have hbg:=hb hk0;have ho:Own J ws.heap.size 9 1 (some ⟨g,0,none⟩) 0 0 []:=IUA (xs:=[]) hbg hg;have hrd:=HFR.o.1.keep (hR.kept0 (S:=λb=>b<ws.heap.size/\ob A'≠some b) (λb hbl (hb:b<ws.heap.size/\ob A'≠some b) m hm=>FJ));have hsz:=hR.size;have e0:ws.drew.heap.size=ws.heap.size:=rfl;refine Cw (.tmp 36) (.tmp 41) rfl tiS e36 ho e41 hrd (by rw [List.length_map,Nat.mul_one]) (λu hu=>Es _ u hu) (by have:=HFB.o;omega) AB AA ?_;intro A4 c4 w4 hown4 hg4 hat4;rw [Nat.zero_add] at hown4;refine ⟨F.put 1007,H2A hk0 hg4.os hg4.tape hg4.output hg4.size (λb hb hm=>hg4.block b hb λe=>hm (.inl ⟨rfl,by simp [ob] at e;omega⟩)),LK.done AB,A4,c4,?_,AU,?_,HFR.o.2.2⟩
       ·show Value.slice A4 (0+d.frm.length) c4=.slice A4 d.frm.length c4;rw [Nat.zero_add]
       ·simpa using hown4
      iterate 4 refine Qp ?_
      refine Qm (λV F J L hR hN hp hρ zs zg=>by
       exact QY) ?_
      refine Qs (FP λv F J=>GoA ws d F J v) (H1A ?_) ?_ ?_
      ·exact JC
      ·intro V F J L hR hN hp hρ zs zg;obtain ⟨A4,c4,hv4,hd4,ho4⟩:=hp.o 7 AB;have e42:=(hρ.o 42).trans hv4;exact Kk
      refine Qs (FP λv F J=>GsA ws d F J v) (H1A ?_) ?_ ?_
      ·exact PU
      ·intro V F J L hR hN hp hρ zs zg;obtain ⟨A4,c4,hv4,hd4,ho4⟩:=hp.o 13 AB;have e48:=(hρ.o 48).trans hv4;have HO:=Hd ho4;have HD:=Hd hd4;have HR:=hR;clear hv4 ho4 hd4;refine Qr ?_;have hx1:=(Ext.refl J).alloc (.cells #[.slice A4 d.frm.length c4,.string d.tov] 64);exact R6
      refine Chain.step (FP λv F J=>FlA w.heap.size (ds++[d]) ds.length F J v) AG (H1A ?_) ?_ ?_
      ·exact Iv
      ·intro V F J L hR hN hp hρ hc hf hg;refine ⟨rfl,?_⟩;have e35:L (.tmp 35)=_:=(hρ 35).trans (hp 0 AB);obtain ⟨g,A4,c4,hv14,hd14,hg14,hb14,ho4,hne⟩:=hp 14 AB;have e49:=(hρ 49).trans hv14;have hk0:=hN.key (k:=1015) AB;have hod:=HO.o.keep (hR.kept0 (S:=λb=>ob A'=some b\/w.heap.size<=b) λb hbl _ m hm=>by rcases hm with ⟨rfl,h⟩|⟨rfl,h⟩;(have e0:ws.drew.heap.size=ws.heap.size:=rfl;omega);exact hk0);obtain ⟨xs,U,ho,hv⟩:=hod.add;have hsz:=hR.size;have e0:ws.drew.heap.size=ws.heap.size:=rfl;have hws:=HWS.o;refine Cw (.tmp 35) (.tmp 49) rfl tiD e35 ho e49 (Blk.rd hb14) rfl AP (by have:=HNB.o;omega) AB AA ?_;intro A5 c5 w5 hown5 hg5 hat5;refine ⟨F.put 1015,H2A hk0 hg5.os hg5.tape hg5.output hg5.size (λb hb hm=>hg5.block b hb λe=>hm (.inr ⟨rfl,e.symm⟩)),LK.done AB,A5,c5,rfl,by simp [Gz.put,hd14],AU,?_⟩;refine OwnDs.push U hv hown5 hg5 hat5 (Own.cap ho4.1) HTO.o ((ho4.strs HFB.o λb hb=>hb).mono λb _ hb=>⟨λe => ?_,?_⟩)
       ·have h1:=(ho4.1.blk hb).1;have h2:=(HAL.o b e).2;omega
       ·have h1:=(ho4.1.blk hb).1;omega
      refine Qs (FP λv F J=>FlA w.heap.size (ds++[d]) ds.length F J v) (H1A ?_) ?_ ?_
      ·exact Iv
      ·intro V F J L hR hN hp hρ zs zg;obtain ⟨A5,c5,hv5,h07,h15,hod5⟩:=hp.o 15 AB;have e50:=(hρ.o 50).trans hv5;exact On
      intro V F w9 hR hG;obtain ⟨A5,c5,v16,-,-,hod5⟩:=hG 16 AB;have HXN:=Hd (show Ext w w9 from Au HXS.o (hR.buts (S:=λb=>w.heap.size<=b) (λm b hbl hm _=>by rcases hm with ⟨_,h⟩|⟨_,h⟩;(have:=HWS.o;omega);exact (HAL.o b h).1)) (λb hb=>hb));have HOD5:=Hd hod5;refine Qx ?_;simp only [v16];clear hR hG v16 hod5;go_wp2;go_roundw
      case rel=>exact ⟨k+1,A5,c5,AA,AE,by rw [HI.o,List.length_append];rfl,HXN.o,by rw [HI.o];exact HOD5.o⟩
      case measure=>simp [intOf];omega
     ·have HI:=Hd (HNX.o.trans (if_pos (of_decide_eq_true hm)));clear hm O;go_wp2;go_roundw
      case rel=>exact ⟨k+1,A',c',AA,AE,by rw [HI.o],HE.o.trans a8.o,by rw [HI.o];exact HO.o.ext a8.o⟩
      case measure=>simp [intOf];omega
  ·obtain rfl:k=l.length:=AA;have HT:=Hd (show l.take l.length=l from List.take_length);have ho:=HO0.o;rw [HT.o] at ho;have HC:=Hd (show (ddp l).length<=c' by obtain ⟨hs,_,h1,_⟩:=ho.add;exact h1.cap);have hdl:=F4 l;have HRD:=Hd (ho.rdeps (T:=BO w) AA (λb hb=>(ho.blk hb).1) (λb hb=>hb));clear hext hown ho hdl;go_wp2;go_ret;exact ⟨A',c',EM,HC.o,HRD.o,HE.o⟩

def nmS(l:List BA):List BA:=l.foldl (λr s=>EW s r) []
theorem NC(l:List BA)(s:BA):nmS (l++[s])=EW s (nmS l):=by
 unfold nmS;rw [List.foldl_append];rfl
theorem Y2(l:List BA):SS (nmS l):=by
 refine Hb (P:=λl=>SS (nmS l)) (by simp [nmS,SS]) (λl x ih => ?_) l;rw [NC];exact ih.ins x
theorem EkA(l:List BA):∀ y,y∈nmS l↔y∈l:=by
 refine Hb (P:=λl=>∀ y,y∈nmS l↔y∈l) (by simp [nmS]) (λl x ih y => ?_) l;rw [NC,Cv,ih,List.mem_append,List.mem_singleton,or_comm]
theorem GQA(l:List BA):nmS l=An (ddp l):=by
 rw [<-(Y2 l).sort];refine VK ((List.perm_ext_iff_of_nodup (Y2 l).nodup (KB l)).2 λy => ?_);rw [EkA,IT]
theorem FGA(l:List BA):(nmS l).length<=l.length:=by
 refine Hb (P:=λl=>(nmS l).length<=l.length) (by simp [nmS]) (λl x ih => ?_) l;rw [NC];have:∀ m:List BA,(EW x m).length<=m.length+1:=by
  intro m
  induction m with
  |nil=>simp [EW]
  |cons y m ihm =>
   unfold EW;split
   ·simpa using ihm
   ·split<;>simp
 have:=this (nmS l);simp;omega
structure AtN(out:List BA)(s:BA)(i a:Nat):Prop where
 le:a<=i
 last:a=0\/∃ h:a-1<out.length,Fm out[a-1] s=true
 all:∀ j (h:j<out.length),j<i->Fm out[j] s=true->j<a
theorem AtN.zero(out:List BA)(s:BA):AtN out s 0 0:=⟨Al,.inl rfl,λj _ h _=>AA⟩
theorem AtN.yes(_h:AtN out s i a)(hi:i<out.length)(hl:Fm out[i] s=true):AtN out s (i+1) (i+1) :=
 ⟨Al,.inr ⟨Bp,GJ⟩,λj _ hj _=>hj⟩
theorem AtN.no(h:AtN out s i a)(hi:i<out.length)(hl:Fm out[i] s=false):AtN out s (i+1) a :=
 ⟨by have:=h.le;omega,h.last,λj hj hlt he=>by
  by_cases e:j=i
  ·subst e;rw [hl] at he;cases he
  ·exact h.all j hj AA he⟩
theorem AtN.ins(h:AtN out s out.length a)(hs:SS out):EW s out=if Aw out s=true then out else out.take a++s::out.drop a:=by
 have hp:∀ j (hj:j<out.length),j<a->Fm out[j] s=true:=by
  intro j hj Y
  rcases h.last with h0|⟨h1,h2⟩
  ·omega
  ·by_cases e:j=a-1
   ·subst e;exact h2
   ·rw [GE] at h2|-;exact List.lt_trans (List.pairwise_iff_getElem.1 hs j (a-1) hj h1 AA) h2
 by_cases hal:a<out.length
 ·have hn:Fm out[a] s=false:=by
   rw [Bool.eq_false_iff];intro he;have:=h.all a hal hal he;omega
  rw [Nf hal hp hn];by_cases hm:out[a]=s
  ·rw [if_pos hm,if_pos ((Ao _ _).2 (hm ▸ List.getElem_mem hal))]
  ·rw [if_neg hm,if_neg];intro hmem;obtain ⟨j,hj,he⟩:=List.mem_iff_getElem.1 ((Ao _ _).1 hmem)
   rcases Nat.lt_trichotomy j a with hlt|rfl|O
   ·have:=(GE _ _).1 (hp j hj hlt);rw [he] at this;exact List.lt_irrefl _ this
   ·exact hm he
   ·have h1:=List.pairwise_iff_getElem.1 hs a j hal hj O;rw [he] at h1;have:=(GE _ _).2 h1;rw [hn] at this;cases this
 ·have U:a=out.length:=(by have:=h.le;omega);subst U;rw [YD hp,if_neg]
  ·simp
  ·intro hmem;obtain ⟨j,hj,he⟩:=List.mem_iff_getElem.1 ((Ao _ _).1 hmem);have:=(GE _ _).1 (hp j hj hj);rw [he] at this;exact List.lt_irrefl _ this

def HeA(ws:World)(out:List BA)(no a:Nat)(v:Value):Prop:=∃ (B:OA) (c2:Nat),v=.slice B (no-a) c2/\Rd ws (λb=>b<ws.heap.size) B ((out.map Value.string).drop a)
theorem Ib(h:qP:=by
 cases h6:F 1008 with
 |false=>rfl
 | true=>rw [rr.done _ h6] at hk;cases hk):qP:=h
theorem Tp(h:qP:=by
 rintro v F w1 γ' w2 rr ⟨A4,c4,h1,h2,h3⟩;exact ⟨A4,c4,h1,rr.done _ h2,Own.keep h3 (rr.keptS λb _ e m hm=>by rw [hm.1,h2,rr.done _ h2])⟩):qP:=h
theorem Zp(h:qP:=by
 exact (HXS9.o.trans HX6.o).grown hg7 (λb hb=>by have:=(HO6.o.blk hb).1;have:=HXS9.o.size;omega)):qP:=h
theorem BjA(h:qP:=by
 refine Strs.of_own hown7 (by have:=HXS9.o.size;omega) (by rw [HI.o];simp) (by rw [HI.o,HIN.o.symm,hll];omega) λy hy => ?_;rw [HI.o,HIN.o.symm] at hy
 rcases (Cv s y out).1 hy with rfl|hy
 ·exact hss
 ·exact HH.o.2.2 y hy):qP:=h
theorem R4(h:qP:=by
 refine ⟨k+1,A7,c7,by omega,by go_num,by rw [HI.o,HIN.o.symm,hll]<;>rfl,?_,by rw [HI.o,HIN.o.symm,hll];exact hown7.ok,?_⟩
 ·exact Zp
 ·exact BjA):qP:=h
theorem JO(h:qP:=by first|(simp;done)|(simp [HNO.o];done)|(simp [HNO.o];omega)):qP:=h
theorem E0(h:qP:=by first|omega|(simp;done)|(simp;omega)):qP:=h
theorem CjA(l:List BA)(A:OA)(c:Nat)(w:World)(S:NP)(h:Strs w S A l)(hl:l.length<=1000000) :
  Cl 112 #[.slice A l.length c] w (Wq w.heap.size w (nmS l)):=by
 have hn:=h.2.1;have H:=Hd h;clear h
 go_enter func112,ntmps112
 go_wp2
 go_loopw [4,3] (λi v wr=>∃ (k:Nat) (A':OA) (c':Nat),k<=l.length/\i=.I k/\v=.slice A' (nmS (l.take k)).length c'/\Ext w wr/\Y4 A' (nmS (l.take k)).length c'/\Strs wr (λb=>w.heap.size<=b) A' (nmS (l.take k))) (λi _ _=>l.length-(intOf i).toNat)
 case atStart=>exact ⟨0,none,0,AN,rfl,rfl,Ext.refl _,.inl ⟨rfl,rfl,rfl⟩,⟨.inl rfl,by simp [nmS],by simp [nmS]⟩⟩
 case round =>
  obtain ⟨k,A',c',hk,rfl,rfl,hext,b4,hst⟩:=hrel;obtain ⟨HE,U,HH⟩:=Hd3 hext b4 hst;by_cases hlt:k<l.length
  ·obtain ⟨s,hs⟩:=eqx (l[k]);have hss:s.size<=4294967296:=(by rw [hs];exact H.o.sz hlt);have b8:nmS (l.take (k+1))=EW s (nmS (l.take k)):=(by rw [List.take_succ_eq_append_getElem hlt,NC,hs]);have hsz:(nmS (l.take k)).length<=k:=(by have:=FGA (l.take k);rw [List.length_take] at this;omega);have b3:=Y2 (l.take k);obtain ⟨b0,o0,rfl,z0,c0⟩:=(H.o.keep (hext.kept S)).at_ hlt;rw [<-hs] at c0;obtain ⟨out,b6⟩:=eqx (nmS (l.take k));rw [<-b6] at b8 hsz b3 U HH|-;obtain ⟨HNX,HSO,HS,C0⟩:=Hd4 b8 b3 hs c0;clear hext b4 hst b8 b3 b6 hs;go_wp2
   go_loopw [7,6,5] (λi tw at_ ws=>∃ j a n:Nat,j<=out.length/\i=.I j/\tw=.bool (Aw (out.take j) s)/\at_=.I a/\ws=wr.drewN n/\AtN out s j a) (λi _ _ _=>out.length-(intOf i).toNat)
   case atStart=>exact ⟨0,0,0,AN,rfl,by simp [Aw,Bt],rfl,rfl,AtN.zero _ _⟩
   case round =>
    obtain ⟨j,a,n,hj,rfl,rfl,rfl,rfl,hat⟩:=hrel;have Y:=Hd hat;clear hat;by_cases hjl:j<out.length
    ·obtain ⟨b2,o2,he2,z2,c2⟩:=HH.o.at_ hjl;have hax:Y.o.le=Y.o.le:=rfl;subst he2;obtain ⟨tw,a8⟩:=eqx (Aw (out.take j) s);rw [<-a8];obtain ⟨HTW,HMS,HBE⟩:=Hd3 a8 (WL (l:=out) (v:=s) hjl) (Bj out[j] s);clear a8 hax;cases hls:Fm out[j] s
     ·have HNO:=Hd (Y.o.no hjl hls);have ht1:Op.bytesLess out[j].toList s.toList=false:=hls;clear hls;cases tw
      all_goals
       go_wp2
       go_quiet (fail)
       go_wp2
       go_quiet (fail)
       go_wp2;go_roundw
       case rel =>
        refine ⟨j+1,a,_,AA,AE,?_,rfl,rfl,HNO.o⟩;rw [HMS.o];have h1:=HTW.o;have h2:=HBE.o;simp_all
       case measure=>simp [intOf];omega
     ·have HYE:=Hd (Y.o.yes hjl hls);have ht1:Op.bytesLess out[j].toList s.toList=true:=hls;clear hls;cases tw
      all_goals
       go_wp2
       go_quiet (fail)
       go_wp2
       go_quiet (fail)
       go_wp2;go_roundw
       case rel =>
        refine ⟨j+1,j+1,_,AA,AE,?_,AE,rfl,HYE.o⟩;rw [HMS.o];have h1:=HTW.o;have h2:=HBE.o;simp_all
       case measure=>simp [intOf];omega
    ·have hjo:j=out.length:=AA;subst hjo;have O:=Y.o.ins HSO.o;rw [List.take_length];cases hm:Aw out s
     ·rw [hm,if_neg AC] at O;have HI:=Hd (HNX.o.trans O);have HIN:=Hd O;have hal:=Y.o.le;clear O
      go_upto_region 14 with fail
      obtain ⟨ws,hws⟩:=eqx (wr.drewN n);rw [<-hws];have HXS:=Hd (show Ext w ws by rw [hws];exact HE.o.drewN n);have hh2:Strs ws (λb=>w.heap.size<=b) A' out:=(by rw [hws];exact HH.o.keep (Kept.drewN _ _ _));have C1:=Hd (show ws.cell? ⟨b0,o0+k,none⟩=some (.string s) by rw [hws];exact C0.o);have Z1:=Hd (show b0<ws.heap.size by rw [hws];exact z0);clear HH hws C0 c0;have HH:=Hd hh2;clear hh2;obtain ⟨no,hno⟩:=eqx out.length;rw [<-hno] at U hal hsz|-;have HNO:=Hd hno.symm;clear hno hj hjl hm;refine Qa (λm b=>m=1008/\ws.heap.size<=b) [(4,[1008]),(7,[1008]),(8,[1008])] ?_
      iterate 3 refine Qp ?_
      refine Qm (λV F J L hR hN hp hρ zs zg=>by
       have hkk:=hR.o.kept0 (S:=λb=>b<ws.heap.size) (λb _ (hb:b<ws.heap.size) m hm=>Ge);have m0:=Kept.cell hkk Z1.o C1.o;clear hkk;exact Qk) ?_
      refine Qs (FP λv F J=>∃ g:Nat,v=.slice (some ⟨g,0,none⟩) 1 1/\ws.heap.size<=g/\(F 1008=false->Blk J g 9 #[.string s])) (H1A ?_) ?_ ?_
      ·rintro v F w1 γ' w2 rr ⟨g,h1,h2,h3⟩;refine ⟨g,h1,h2,λhk => ?_⟩;have hk0:F 1008=false:=by
        exact Ib
       exact (h3 hk0).keep (rr.keptS (S:=λb=>b=g) λb _ e m hm=>by rw [hm.1,hk,hk0])
      ·exact G7
      iterate 2 refine Qp ?_
      refine Chain.step (FP λv F J=>HeA ws out no a v) AG (H1A ?_) ?_ ?_
      ·intro v F w1 γ' w2 r h;exact h
      ·intro V F J L hR hN hp hρ hc hf hg;refine ⟨rfl,?_⟩;have e51:L (.tmp 51)=_:=(hρ 51).trans (hp 5 AB);have e52:L (.tmp 52)=_:=(hρ 52).trans (hp 6 AB);have HR:=Hd hR;clear hR hN hp hρ
       rcases U.o with ⟨rfl,h0,rfl⟩|⟨b1,o1,rfl,hcap⟩
       ·have b5:a=0:=AA;subst b5;subst h0;go_light;go_simp;exact ⟨F,LZ.refl _ _ _,λ_ _ _ h=>h,_,_,rfl,.inl (by rw [List.drop_zero];exact List.eq_nil_of_length_eq_zero (by rw [List.length_map];exact HNO.o))⟩
       ·by_cases hcc:a<c'
        ·go_light;go_simp;exact ⟨F,LZ.refl _ _ _,λ_ _ _ h=>h,_,_,rfl,by rw [if_neg AA];exact Rd.drop (HH.o.1.mono λb hb _=>hb) a⟩
        ·have hac:a=c':=AA;obtain rfl:no=c':=AA;obtain rfl:no=a:=AA;go_light;go_simp;refine ⟨F,LZ.refl _ _ _,λ_ _ _ h=>h,some ⟨b1,o1,none⟩,0,by rw [Nat.sub_self];rfl,.inl (List.drop_eq_nil_of_le ?_)⟩;rw [List.length_map,HNO.o];omega
      refine Chain.step (FP λv F J=>∃ (A4:OA) (c4:Nat),v=.slice A4 (1+(no-a)) c4/\F 1008=true/\Own J ws.heap.size 9 1 A4 (1+(no-a)) c4 ([.string s]++(out.map Value.string).drop a)) AG (H1A ?_) ?_ ?_
      ·exact Tp
      ·intro V F J L hR hN hp hρ hc hf hg;refine ⟨rfl,?_⟩;obtain ⟨g,hv4,hg,hb⟩:=hp 4 AB;have e50:=(hρ 50).trans hv4;obtain ⟨B7,c7,hv7,hrd⟩:=hp 7 AB;have e53:=(hρ 53).trans hv7;have hk0:=hN.key (k:=1008) AB;have hbg:=hb hk0;have ho:Own J ws.heap.size 9 1 (some ⟨g,0,none⟩) 1 1 [.string s]:=IIA (n:=1) (sz:=1) hbg rfl Bd hg;have hrk:=hrd.keep (hR.kept0 (S:=λb=>b<ws.heap.size) (λb _ (hb:b<ws.heap.size) m hm=>Ge));have hsz:=hR.size;have e0:ws.drew.heap.size=ws.heap.size:=rfl;refine Cw (.tmp 50) (.tmp 53) rfl tiS e50 ho e53 hrk (by rw [List.length_drop,List.length_map,HNO.o,Nat.mul_one]) (λu hu=>Es out u (List.mem_of_mem_drop hu)) AA AB AA ?_;intro A4 c4 w4 hown4 hg4 hat4;exact ⟨F.put 1008,H2A hk0 hg4.os hg4.tape hg4.output hg4.size (λb hb hm=>hg4.block b hb λe=>hm ⟨rfl,by simp [ob] at e;omega⟩),LK.done AB,A4,c4,rfl,AU,hown4⟩
      refine Qs (FP λv F J=>∃ (A4:OA) (c4:Nat),v=.slice A4 (1+(no-a)) c4/\F 1008=true/\Own J ws.heap.size 9 1 A4 (1+(no-a)) c4 ([.string s]++(out.map Value.string).drop a)) (H1A ?_) ?_ ?_
      ·exact Tp
      ·intro V F J L hR hN hp hρ zs zg;obtain ⟨A4,c4,hv4,hd4,ho4⟩:=hp.o 8 AB;have e54:=(hρ.o 54).trans hv4;exact Kk
      intro V F w9 hR hG;obtain ⟨A4,c4,v9,-,hown4⟩:=hG 9 AB;have HX9:=Hd (show Ext ws w9 from hR.ext0 (λm b hb hm=>Ge));have HO9:=Hd hown4;refine Qx ?_;simp only [v9];clear hR hG v9 hown4;have hsz9:=HX9.o.size;have Z:=Hd (show Own (w9.alloc (.cells #[] 9)) w9.heap.size 9 1 (some ⟨w9.heap.size,0,none⟩) 0 0 [] from World.ownsRow_made w9 #[] 0 (Al) Bd rfl);have HR5:=Hd (((HH.o.1.keep (HX9.o.kept _)).keep (Kept.alloc _ _ (.cells #[] 9))).take a);have b7:∀ u∈[Value.string s]++(out.map Value.string).drop a,u.oneCell'=true:=λu hu=>by
       rcases List.mem_append.1 hu with hu|hu
       ·simp at hu;subst hu;rfl
       ·exact Es out u (List.mem_of_mem_drop hu)
      have b9:=Hd b7;clear b7;have HXS9:=Hd (HXS.o.trans HX9.o);have tok:True:=trivial
      rcases U.o with ⟨rfl,h0,rfl⟩|⟨b1,o1,rfl,hcap⟩
      ·have b5:a=0:=AA;subst b5;subst h0
       go_wp2_with (first|(at_builtin;have _t:=tok;go_must (refine AL rfl (.tmp 55) (.tmp 58) rfl tiS rfl Z.o rfl HR5.o JO (λu hu=>Es out u (List.mem_of_mem_take hu)) AA AB E0 ?_);intro A6 c6 w6 hown6 hg6 hat6;simp only [Nat.zero_add,List.nil_append] at hown6;have HO6:=Hd hown6;have HX6:=Hd (Ext.grown (exaa w9) hg6 (λb hb=>(Z.o.blk hb).1));have a9:=Hd ((HO9.o.rd.mono (T:=λb=>b<w9.heap.size) λb hb _=>hb).keep (HX6.o.kept _));have hsz6:=HX6.o.size;clear hown6 hg6 hat6 tok)|(at_builtin;go_must (refine AL rfl (.tmp 59) (.tmp 60) rfl tiS rfl HO6.o rfl a9.o JO b9.o AA AB E0 ?_);intro A7 c7 w7 hown7 hg7 hat7))
       go_roundw
       case rel =>
        have hll:(EW s out).length=0+(1+(0-0)):=(by rw [HIN.o,List.length_append,List.length_take,List.length_cons,List.length_drop,HNO.o];omega);exact R4
       case measure=>simp [intOf];omega
      ·have hkc:a<=c':=AA
       go_wp2_with (first|(at_builtin;have _t:=tok;go_must (refine AL rfl (.tmp 55) (.tmp 58) rfl tiS rfl Z.o rfl HR5.o JO (λu hu=>Es out u (List.mem_of_mem_take hu)) AA AB E0 ?_);intro A6 c6 w6 hown6 hg6 hat6;simp only [Nat.zero_add,List.nil_append] at hown6;have HO6:=Hd hown6;have HX6:=Hd (Ext.grown (exaa w9) hg6 (λb hb=>(Z.o.blk hb).1));have a9:=Hd ((HO9.o.rd.mono (T:=λb=>b<w9.heap.size) λb hb _=>hb).keep (HX6.o.kept _));have hsz6:=HX6.o.size;clear hown6 hg6 hat6 tok)|(at_builtin;go_must (refine AL rfl (.tmp 59) (.tmp 60) rfl tiS rfl HO6.o rfl a9.o JO b9.o AA AB E0 ?_);intro A7 c7 w7 hown7 hg7 hat7))
       go_roundw
       case rel =>
        have hll:(EW s out).length=a+(1+(no-a)):=(by rw [HIN.o,List.length_append,List.length_take,List.length_cons,List.length_drop,HNO.o];omega);exact R4
       case measure=>simp [intOf];omega
     ·rw [hm,if_pos rfl] at O;have HI:=Hd (HNX.o.trans O);clear O hm;go_wp2;go_roundw
      case rel =>
       refine ⟨k+1,A',c',AA,AE,by rw [HI.o],HE.o.drewN _,by rw [HI.o];exact U.o,by rw [HI.o];exact HH.o.keep (Kept.drewN _ _ _)⟩
      case measure=>simp [intOf];omega
  ·have hkl:k=l.length:=AA;subst hkl;have HT:=Hd (show l.take l.length=l from List.take_length);rw [HT.o] at U HH;clear hext b4 hst;go_wp2;go_ret;exact ⟨A',c',EM,U.o,HH.o,HE.o⟩
