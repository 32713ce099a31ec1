/- Lemmas. No conditions. -/
import Derived.Test.YtaccjdppmmoepaaGreatDoorXq19
import Derived.Deep.DeepCutAuto
set_option maxRecDepth 100000
set_option maxHeartbeats 4000000
namespace Go.Proofs.YtaccjdppmmoepaaGreatDoor
open Go Go.RowKit Tryz
variable {qP:Prop}

theorem E7(h:qP:=by
 go_wp2
 go_meet
 case rel=>exact ⟨by simp [HPT.o,hle],HXZ.o⟩):qP:=h
theorem Gu(h:qP:=by rw [IntKind.wrap_i64,hy];omega):qP:=h
theorem EG(a:Abs)(A D:OA)(c e:Nat)(w:World)(S:NP)(hA:Strs w S A a.cols)(hD:RDeps w S D a.deps)(hz:AbN 1000000 a) :
  Cl 50 #[(Aq a A c D e)] w (Eh w S (AX a)):=by
 obtain ⟨hz1,hz2,hz3,hz4,-⟩:=hz;obtain ⟨wa,f4⟩:=eqx ((w.alloc (.cells (Ap a A c D e) 36)).alloc (.cells Az 36));obtain ⟨g1,hg1⟩:=eqx w.heap.size;obtain ⟨g2,hg2⟩:=eqx (w.heap.size+1);have hxa:Ext w wa:=(by rw [f4];exact (exaa w).alloc _);have hb1:Blk wa g1 36 (Ap a A c D e):=(by rw [f4,hg1];exact (Blk.new _ _ _).keep ((exaa _).kept _));have hb2:Blk wa g2 36 Az:=(by rw [f4,hg2];exact H6A _ _ _ _);obtain ⟨HWA,HG1,HG2,HXA,k7,HB2A,HA,HD⟩:=Hd8 f4 hg1 hg2 hxa hb1 hb2 (hA.mono (T:=λb=>b<w.heap.size) λi hi _=>hi) (hD.mono (T:=λb=>b<w.heap.size) λi hi _=>hi);clear f4 hg1 hg2 hxa hb1 hb2 hA hD
 go_enter func50,ntmps50
 go_upto_region 1 with fail
 rw [<-HWA.o,<-HG2.o,<-HG1.o]
 go_wp2_with fail
 refine (QV _).mono ?_;rintro e1 w1 ⟨rfl,hx1⟩;rename_i K1 hK1 K2 hK2;refine hK2 _ _ ?_;refine Ag rfl rfl ?_;obtain ⟨g3,hg3⟩:=eqx w1.heap.size;rw [<-hg3];refine AM rfl 36 _ _ rfl g3 (Ap noneA none 0 none 0) rfl rfl 36 _ (show Blk (w1.alloc (.cells Az 36)) g3 36 Az by rw [hg3];exact Blk.new _ _ _) AH rfl AD ?_;intro w2 f3 ho2;have hx2:Ext w1 w2:=(exaa w1).only ho2 GI;have HX1:=Hd (HXA.o.trans hx1);have hk2:=hx1.trans hx2;have q17:w2.cell? ⟨g1,17,none⟩=some (.bool a.errs):=(k7.o.keep (hk2.kept _)).q17;have r17:w2.cell? ⟨g3,17,none⟩=some (.bool noneA.errs):=f3.q17;have rf:=f3.frozen;have rl:=f3.lt;obtain ⟨HB3,HX2,HG3,Y,HB21⟩:=Hd5 f3 hx2 hg3 (k7.o.keep (hx1.kept _)) (HB2A.o.keep (hx1.kept _));refine hK1 _ _ ?_;clear hK1 hK2 f3 ho2 hx1 hx2 hk2 hg3
 go_upto_region 3 with fail
 obtain ⟨w3,m7⟩:=eqx (w2.setCell ⟨g3,17,none⟩ (.bool a.errs));rw [<-m7];have HX3:=Hd (show Ext w1 w3 by rw [m7];exact HX2.o.set2 (Bl HG3.o) _);obtain ⟨s1,hs1⟩:=eqx (DL a 1);have HS1:=Hd hs1;have HR3:=Hd (show Blk w3 g3 36 (Ap s1 none 0 none 0) by
  rw [m7,hs1,B6A,YU];have hbb:=HB3.o.set 17 (.bool a.errs)
  simpa using hbb)
 clear m7 q17 r17 rf rl hs1 HB3 HX2;obtain ⟨bt1,g8⟩:=eqx (bt a.kinds 1);obtain ⟨em1,j3⟩:=eqx (Bw a 1);obtain ⟨pb1,l9⟩:=eqx (bt1&&em1);have HHA1:=Hd (show ∀ J,Cl 42 #[(Aq a A c D e),.I 1] J (Ae J bt1) from λJ=>by rw [g8];exact IC a A D c e 1 AA J);have HPB1:=Hd l9;obtain ⟨s2,hs2⟩:=eqx (DL a 2);obtain ⟨HS2,HCS1,HEM1⟩:=Hd3 hs2 (show s2=if pb1=true then { Dp a 1 s1 with kinds:=s1.kinds+2 } else s1 by rw [hs2,HS1.o,l9,g8,j3];exact Hr a 1 AA AA) (show ∀ J,Cl 109 #[(Sq a.tx)] J (Ae J (!em1)) from λJ=>by rw [j3,show Bw a 1 = !AT a.tx from rfl,Bool.not_not];exact Nq a.tx hz1 hz2 J);obtain ⟨j1,hj1⟩:=eqx (BW a.tx a.tx);have HJ1:=Hd (show ∀ J,Cl 80 #[(Sq a.tx),(Sq a.tx)] J (G0 J j1) from λJ=>by rw [hj1];exact YJ a.tx a.tx hz1 hz2 hz1 hz2 J);have HJJ1:=Hd hj1;clear hj1 hs2 g8 j3 l9;have O:=Y.o.keep (HX3.o.kept _);have q1:=O.q1;have q2:=O.q2;have q3:=O.q3;have q4:=O.q4;have q5:=O.q5;clear O
 go_wp2_with fail
 refine (HEM1.o _).mono ?_;rintro ee w4 ⟨rfl,a8⟩;have HX4:=Hd (HX3.o.trans a8);have HR4:=Hd (HR3.o.keep (a8.kept _));clear a8 q1 q2 q3 q4 q5
 go_upto_region 4 with fail
 go_cut [24] (λv wx=>v=.bool pb1/\Ext w4 wx)
 case first =>
  refine wp_region_lit ?_;refine AJ rfl 36 _ rfl g1 rfl (Y.o.keep (HX4.o.kept _)) AS AH ?_
  go_wp2_with fail
  refine (HHA1.o _).mono ?_;rintro ee wz ⟨rfl,Z⟩;have HXZ:=Hd Z;clear Z;cases bt1
  all_goals
   go_wp2
   go_meet
   case rel=>exact ⟨by rw [HPB1.o];rfl,HXZ.o⟩
 case rest =>
 obtain ⟨w5,rfl⟩:=eqx wc;obtain ⟨rfl,hx5⟩:=hcut;have HX5:=Hd (HX4.o.trans hx5);have HR5:=Hd (HR4.o.keep (hx5.kept _))
 go_upto_if 24 with fail
 go_cut [] (λwx=>Blk wx g3 36 (Ap s2 none 0 none 0)/\Ext w1 wx)
 case first =>
  cases pb1
  ·have HF:=Hd (show s2=s1 by rw [HCS1.o,if_neg AC])
   go_wp2_with fail
   go_meet
   case rel =>
    rw [HF.o];exact ⟨HR5.o,HX5.o⟩
  ·have HF:=Hd (show s2 = { Dp a 1 s1 with kinds:=s1.kinds+2 } by rw [HCS1.o,if_pos rfl]);have a9:=IA a 1;rw [<-HS1.o] at a9;obtain ⟨y,hy⟩:=eqx (s1.kinds+2);have m6:IntKind.i64.wrap (s1.kinds+2)=y:=Gu;have HY:=Hd hy;clear a9 hy;have r0:=HR5.o.q0;have rf:=HR5.o.frozen;have rl:=HR5.o.lt
   go_upto_region 6 with fail
   obtain ⟨wb,hwb⟩:=eqx (w5.setCell ⟨g3,0,none⟩ (.I y));rw [<-hwb];obtain ⟨HXB,HRB,d7⟩:=Hd3 (show Ext w1 wb by rw [hwb];exact HX5.o.set2 (Bl HG3.o) _) (show Blk wb g3 36 #[.I y,.I s1.tx.least,.I s1.tx.most,.I s1.tx.cls,.string s1.tx.b,.string s1.tx.e,.I s1.nu.ln,.I s1.nu.ls,.I s1.nu.hn,.I s1.nu.hs,.I s1.dl,.I s1.dh,.I s1.bo,.I s1.rl,.I s1.rh,.slice none s1.cols.length 0,.slice none s1.deps.length 0,.bool s1.errs] by rw [hwb];simpa using HR5.o.set 0 (.I y)) hwb;clear hwb r0 rf rl;have O:=Y.o.keep (HXB.o.kept _);have q1:=O.q1;have q2:=O.q2;have q3:=O.q3;have q4:=O.q4;have q5:=O.q5;clear O
   go_wp2_with fail
   refine (HJ1.o _).mono ?_;rintro ee wj ⟨rfl,b0⟩;have f2:=Hd (HXB.o.trans b0);have HRJ:=Hd (HRB.o.keep (b0.kept _));clear b0 q1 q2 q3 q4 q5;have rf:=HRJ.o.frozen;have rl:=HRJ.o.lt;have r1:=HRJ.o.q1;have r2:=HRJ.o.q2;have r3:=HRJ.o.q3;have r4:=HRJ.o.q4;have r5:=HRJ.o.q5
   go_wp2_with fail
   go_meet
   case rel =>
    refine ⟨?_,?_⟩
    ·have hbb:=(((((HRJ.o.set 1 (.I j1.least)).set 2 (.I j1.most)).set 3 (.I j1.cls)).set 4 (.string j1.b)).set 5 (.string j1.e));rw [HF.o,<-HY.o]
     simpa [Dp,<-HJJ1.o] using hbb
    ·iterate 5 with_reducible refine Ext.set2 ?_ (Bl HG3.o) _
     with_reducible exact f2.o
 case rest =>
 obtain ⟨w6,rfl⟩:=eqx wc;obtain ⟨hr6,hx6⟩:=hcut;have HX6:=Hd hx6;have HR6:=Hd hr6;clear hr6 hx6 HR5 HX5;obtain ⟨bt2,i5⟩:=eqx (bt a.kinds 2);obtain ⟨em2,l3⟩:=eqx (Bw a 2);obtain ⟨pb2,g4⟩:=eqx (bt2&&em2);have HHA2:=Hd (show ∀ J,Cl 42 #[(Aq a A c D e),.I 2] J (Ae J bt2) from λJ=>by rw [i5];exact IC a A D c e 2 AA J);have HPB2:=Hd g4;obtain ⟨s3,hs3⟩:=eqx (DL a 3);obtain ⟨HS3,HCS2,HEM2⟩:=Hd3 hs3 (show s3=if pb2=true then { Dp a 2 s2 with kinds:=s2.kinds+4 } else s2 by rw [hs3,HS2.o,g4,i5,l3];exact Hr a 2 AA AA) (show ∀ J,Cl 110 #[(Rq a.nu)] J (Ae J (!em2)) from λJ=>by rw [l3,show Bw a 2 = !BF a.nu from rfl,Bool.not_not];exact NX a.nu J);obtain ⟨j2,hj2⟩:=eqx (Cc a.nu a.nu);have HJ2:=Hd (show ∀ J,Cl 81 #[(Rq a.nu),(Rq a.nu)] J (Em J j2) from λJ=>by rw [hj2];exact Yf a.nu a.nu J);have HJJ2:=Hd hj2;clear hj2 hs3 i5 l3 g4;have O:=Y.o.keep (HX6.o.kept _);have q6:=O.q6;have q7:=O.q7;have q8:=O.q8;have q9:=O.q9;clear O
 go_wp2_with fail
 refine (HEM2.o _).mono ?_;rintro ee w7 ⟨rfl,a8⟩;have HX7:=Hd (HX6.o.trans a8);have HR7:=Hd (HR6.o.keep (a8.kept _));clear a8 q6 q7 q8 q9
 go_upto_region 8 with fail
 go_cut [43] (λv wx=>v=.bool pb2/\Ext w7 wx)
 case first =>
  refine wp_region_lit ?_;refine AJ rfl 36 _ rfl g1 rfl (Y.o.keep (HX7.o.kept _)) AS AH ?_
  go_wp2_with fail
  refine (HHA2.o _).mono ?_;rintro ee wz ⟨rfl,Z⟩;have HXZ:=Hd Z;clear Z;cases bt2
  all_goals
   go_wp2
   go_meet
   case rel=>exact ⟨by rw [HPB2.o];rfl,HXZ.o⟩
 case rest =>
 obtain ⟨w8,rfl⟩:=eqx wc;obtain ⟨rfl,hx8⟩:=hcut;have HX8:=Hd (HX7.o.trans hx8);have d8:=Hd (HR7.o.keep (hx8.kept _))
 go_upto_if 43 with fail
 go_cut [] (λwx=>Blk wx g3 36 (Ap s3 none 0 none 0)/\Ext w1 wx)
 case first =>
  cases pb2
  ·have HF:=Hd (show s3=s2 by rw [HCS2.o,if_neg AC])
   go_wp2_with fail
   go_meet
   case rel =>
    rw [HF.o];exact ⟨d8.o,HX8.o⟩
  ·have HF:=Hd (show s3 = { Dp a 2 s2 with kinds:=s2.kinds+4 } by rw [HCS2.o,if_pos rfl]);have a9:=IA a 2;rw [<-HS2.o] at a9;obtain ⟨y,hy⟩:=eqx (s2.kinds+4);have m6:IntKind.i64.wrap (s2.kinds+4)=y:=Gu;have HY:=Hd hy;clear a9 hy;have r0:=d8.o.q0;have rf:=d8.o.frozen;have rl:=d8.o.lt
   go_upto_region 10 with fail
   obtain ⟨wb,hwb⟩:=eqx (w8.setCell ⟨g3,0,none⟩ (.I y));rw [<-hwb];obtain ⟨HXB,HRB,d7⟩:=Hd3 (show Ext w1 wb by rw [hwb];exact HX8.o.set2 (Bl HG3.o) _) (show Blk wb g3 36 #[.I y,.I s2.tx.least,.I s2.tx.most,.I s2.tx.cls,.string s2.tx.b,.string s2.tx.e,.I s2.nu.ln,.I s2.nu.ls,.I s2.nu.hn,.I s2.nu.hs,.I s2.dl,.I s2.dh,.I s2.bo,.I s2.rl,.I s2.rh,.slice none s2.cols.length 0,.slice none s2.deps.length 0,.bool s2.errs] by rw [hwb];simpa using d8.o.set 0 (.I y)) hwb;clear hwb r0 rf rl;have O:=Y.o.keep (HXB.o.kept _);have q6:=O.q6;have q7:=O.q7;have q8:=O.q8;have q9:=O.q9;clear O
   go_wp2_with fail
   refine (HJ2.o _).mono ?_;rintro ee wj ⟨rfl,b0⟩;have f2:=Hd (HXB.o.trans b0);have HRJ:=Hd (HRB.o.keep (b0.kept _));clear b0 q6 q7 q8 q9;have rf:=HRJ.o.frozen;have rl:=HRJ.o.lt;have r6:=HRJ.o.q6;have r7:=HRJ.o.q7;have r8:=HRJ.o.q8;have r9:=HRJ.o.q9
   go_wp2_with fail
   go_meet
   case rel =>
    refine ⟨?_,?_⟩
    ·have hbb:=((((HRJ.o.set 6 (.I j2.ln)).set 7 (.I j2.ls)).set 8 (.I j2.hn)).set 9 (.I j2.hs));rw [HF.o,<-HY.o]
     simpa [Dp,<-HJJ2.o] using hbb
    ·iterate 4 with_reducible refine Ext.set2 ?_ (Bl HG3.o) _
     with_reducible exact f2.o
 case rest =>
 obtain ⟨w9,rfl⟩:=eqx wc;obtain ⟨hr9,hx9⟩:=hcut;have HX9:=Hd hx9;have HR9:=Hd hr9;clear hr9 hx9 d8 HX8;obtain ⟨bt3,j0⟩:=eqx (bt a.kinds 3);obtain ⟨em3,k0⟩:=eqx (Bw a 3);obtain ⟨f1,i7⟩:=eqx (bt3&&em3);have HHA3:=Hd (show ∀ J,Cl 42 #[(Aq a A c D e),.I 3] J (Ae J bt3) from λJ=>by rw [j0];exact IC a A D c e 3 AA J);have j5:=Hd i7;obtain ⟨s4,hs4⟩:=eqx (DL a 4);obtain ⟨HS4,HCS3,HEV3⟩:=Hd3 hs4 (show s4=if f1=true then { Dp a 3 s3 with kinds:=s3.kinds+8 } else s3 by rw [hs4,HS3.o,i7,j0,k0];exact Hr a 3 AA AA) k0;clear hs4 j0 k0 i7;obtain ⟨d5,l8⟩:=eqx ((Cy a).1);obtain ⟨d4,i3⟩:=eqx ((Cy a).2);obtain ⟨HMS3,HLO3,HHI3⟩:=Hd3 (show ∀ J,Cl 111 #[.agg #[.I a.dl,.I a.dh],.agg #[.I 0,.I 3652058]] J (Cd J (d5,d4)) from λJ=>by rw [show (d5,d4)=CZ (a.dl,a.dh) (0,3652058) by rw [l8,i3];rfl];exact Ms _ _ _ _ J) l8 i3;clear l8 i3;have O:=Y.o.keep (HX9.o.kept _);have q10:=O.q10;have q11:=O.q11;clear O
 go_wp2_with fail
 refine (HMS3.o _).mono ?_;rintro ee wp ⟨rfl,a8⟩;have f6:=Hd (HX9.o.trans a8);have f7:=Hd (HR9.o.keep (a8.kept _));clear a8 q10 q11
 go_upto_region 12 with fail
 obtain ⟨w10,b3⟩:=eqx (wp.alloc (.cells #[.I d5,.I d4] 32));obtain ⟨g6,b7⟩:=eqx wp.heap.size;rw [<-b3,<-b7];have f8:=f6.o.size;have hlp:=f7.o.lt;obtain ⟨HX10,HR10,HBV3,HNV3,HGV3⟩:=Hd5 (show Ext w1 w10 by rw [b3];exact f6.o.alloc _) (show Blk w10 g3 36 (Ap s3 none 0 none 0) by rw [b3];exact f7.o.keep (Kept.alloc _ _ _)) (show Blk w10 g6 32 #[.I d5,.I d4] by rw [b3,b7];exact Blk.new _ _ _) (show ¬g3=g6 by omega) (show w1.heap.size<=g6 by rw [b7];exact f8);clear b3 b7 f8 hlp
 go_upto_region 12 with fail
 go_cut [66] (λv wx=>v=.bool f1/\Ext w10 wx)
 case first =>
  refine wp_region_lit ?_;refine AJ rfl 36 _ rfl g1 rfl (Y.o.keep (HX10.o.kept _)) AS AH ?_
  go_wp2_with fail
  refine (HHA3.o _).mono ?_;rintro ee wz ⟨rfl,Z⟩;have HXZ:=Hd Z;have b5:=HBV3.o.keep (Z.kept _);obtain ⟨v0,v1⟩:=b5.qs2;clear b5;have HE:=Hd (show em3=decide (d5<=d4) by rw [HEV3.o,HLO3.o,HHI3.o];rfl);clear Z;cases bt3
  ·go_wp2
   go_meet
   case rel=>exact ⟨by rw [j5.o];rfl,HXZ.o⟩
  ·by_cases hle:d5<=d4
   ·have HPT:=Hd (show f1=true by rw [j5.o,HE.o,decide_eq_true hle];rfl);exact E7
   ·have HPT:=Hd (show f1=false by rw [j5.o,HE.o,decide_eq_false hle];rfl);exact E7
 case rest =>
 obtain ⟨w11,rfl⟩:=eqx wc;obtain ⟨rfl,i2⟩:=hcut;obtain ⟨HX11,d3,HBW3⟩:=Hd3 (HX10.o.trans i2) (HR10.o.keep (i2.kept _)) (HBV3.o.keep (i2.kept _))
 go_upto_if 66 with fail
 go_cut [] (λwx=>Blk wx g3 36 (Ap s4 none 0 none 0)/\Ext w1 wx)
 case first =>
  cases f1
  ·have HF:=Hd (show s4=s3 by rw [HCS3.o,if_neg AC])
   go_wp2_with fail
   go_meet
   case rel =>
    rw [HF.o];exact ⟨d3.o,HX11.o⟩
  ·have HF:=Hd (show s4 = { Dp a 3 s3 with kinds:=s3.kinds+8 } by rw [HCS3.o,if_pos rfl]);have a9:=IA a 3;rw [<-HS3.o] at a9;obtain ⟨y,hy⟩:=eqx (s3.kinds+8);have m6:IntKind.i64.wrap (s3.kinds+8)=y:=Gu;have HY:=Hd hy;clear a9 hy;have r0:=d3.o.q0;have rf:=d3.o.frozen;have rl:=d3.o.lt
   go_upto_region 14 with fail
   obtain ⟨wb,hwb⟩:=eqx (w11.setCell ⟨g3,0,none⟩ (.I y));rw [<-hwb];obtain ⟨HXB,HRB,d7⟩:=Hd3 (show Ext w1 wb by rw [hwb];exact HX11.o.set2 (Bl HG3.o) _) (show Blk wb g3 36 #[.I y,.I s3.tx.least,.I s3.tx.most,.I s3.tx.cls,.string s3.tx.b,.string s3.tx.e,.I s3.nu.ln,.I s3.nu.ls,.I s3.nu.hn,.I s3.nu.hs,.I s3.dl,.I s3.dh,.I s3.bo,.I s3.rl,.I s3.rh,.slice none s3.cols.length 0,.slice none s3.deps.length 0,.bool s3.errs] by rw [hwb];simpa using d3.o.set 0 (.I y)) hwb;clear hwb r0 rf rl;have b5:Blk wb g6 32 #[.I d5,.I d4]:=(by rw [d7.o];exact HBW3.o.keep (Kept.set2 (Kept.refl _ _) HNV3.o));obtain ⟨v0,v1⟩:=b5.qs2;clear b5;have rf:=HRB.o.frozen;have rl:=HRB.o.lt;have r10:=HRB.o.q10;have r11:=HRB.o.q11
   go_wp2_with fail
   go_meet
   case rel =>
    refine ⟨?_,?_⟩
    ·have hbb:=((HRB.o.set 10 (.I d5)).set 11 (.I d4));rw [HF.o,<-HY.o]
     simpa [Dp,<-HLO3.o,<-HHI3.o] using hbb
    ·iterate 2 with_reducible refine Ext.set2 ?_ (Bl HG3.o) _
     with_reducible exact HXB.o
 case rest =>
 obtain ⟨w12,rfl⟩:=eqx wc;obtain ⟨hr12,hx12⟩:=hcut;have l7:=Hd hx12;have HR12:=Hd hr12;clear hr12 hx12 d3 HX11;obtain ⟨bt4,l4⟩:=eqx (bt a.kinds 4);obtain ⟨em4,k6⟩:=eqx (Bw a 4);obtain ⟨g0,i8⟩:=eqx (bt4&&em4);have HHA4:=Hd (show ∀ J,Cl 42 #[(Aq a A c D e),.I 4] J (Ae J bt4) from λJ=>by rw [l4];exact IC a A D c e 4 AA J);have i9:=Hd i8;obtain ⟨U,hs5⟩:=eqx (DL a 5);obtain ⟨HS5,HCS4,HEV4⟩:=Hd3 hs5 (show U=if g0=true then { Dp a 4 s4 with kinds:=s4.kinds+16 } else s4 by rw [hs5,HS4.o,i8,l4,k6];exact Hr a 4 AA AA) k6;clear hs5 l4 k6 i8;obtain ⟨j4,hj4⟩:=eqx (boI a);have HJ4:=Hd hj4;have hjj:bits .and .i64 a.bo 3=j4:=hj4.symm;clear hj4
 go_upto_region 15 with fail
 go_cut [80] (λv wx=>v=.bool g0/\Ext w12 wx)
 case first =>
  refine wp_region_lit ?_;refine AJ rfl 36 _ rfl g1 rfl (Y.o.keep (l7.o.kept _)) AS AH ?_
  go_wp2_with fail
  refine (HHA4.o _).mono ?_;rintro ee wz ⟨rfl,Z⟩;have HXZ:=Hd Z;have O:=Y.o.keep ((l7.o.trans Z).kept _);have q12:=O.q12;clear O;have HE:=Hd (show em4=decide (j4≠0) by rw [HEV4.o,HJ4.o];rfl);clear Z;cases bt4
  ·go_wp2
   go_meet
   case rel=>exact ⟨by rw [i9.o];rfl,HXZ.o⟩
  ·by_cases hle:j4=0
   ·have HPT:=Hd (show g0=false by rw [i9.o,HE.o,hle];rfl);have hjn:(j4 != 0)=false:=(by rw [hle];rfl);exact E7
   ·have HPT:=Hd (show g0=true by rw [i9.o,HE.o,decide_eq_true hle];rfl);have hjn:(j4 != 0)=true:=(by simpa using hle);exact E7
 case rest =>
 obtain ⟨w13,rfl⟩:=eqx wc;obtain ⟨rfl,hx13⟩:=hcut;have l6:=Hd (l7.o.trans hx13);have b8:=Hd (HR12.o.keep (hx13.kept _))
 go_upto_if 80 with fail
 go_cut [] (λwx=>Blk wx g3 36 (Ap U none 0 none 0)/\Ext w1 wx)
 case first =>
  cases g0
  ·have HF:=Hd (show U=s4 by rw [HCS4.o,if_neg AC])
   go_wp2_with fail
   go_meet
   case rel =>
    rw [HF.o];exact ⟨b8.o,l6.o⟩
  ·have HF:=Hd (show U = { Dp a 4 s4 with kinds:=s4.kinds+16 } by rw [HCS4.o,if_pos rfl]);have a9:=IA a 4;rw [<-HS4.o] at a9;obtain ⟨y,hy⟩:=eqx (s4.kinds+16);have m6:IntKind.i64.wrap (s4.kinds+16)=y:=Gu;have HY:=Hd hy;clear a9 hy;have r0:=b8.o.q0;have rf:=b8.o.frozen;have rl:=b8.o.lt
   go_upto_region 17 with fail
   obtain ⟨wb,hwb⟩:=eqx (w13.setCell ⟨g3,0,none⟩ (.I y));rw [<-hwb];obtain ⟨HXB,HRB,d7⟩:=Hd3 (show Ext w1 wb by rw [hwb];exact l6.o.set2 (Bl HG3.o) _) (show Blk wb g3 36 #[.I y,.I s4.tx.least,.I s4.tx.most,.I s4.tx.cls,.string s4.tx.b,.string s4.tx.e,.I s4.nu.ln,.I s4.nu.ls,.I s4.nu.hn,.I s4.nu.hs,.I s4.dl,.I s4.dh,.I s4.bo,.I s4.rl,.I s4.rh,.slice none s4.cols.length 0,.slice none s4.deps.length 0,.bool s4.errs] by rw [hwb];simpa using b8.o.set 0 (.I y)) hwb;clear hwb r0 rf rl;have O:=Y.o.keep (HXB.o.kept _);have q12:=O.q12;clear O;have rf:=HRB.o.frozen;have rl:=HRB.o.lt;have r12:=HRB.o.q12
   go_wp2_with fail
   go_meet
   case rel =>
    refine ⟨?_,?_⟩
    ·have hbb:=(HRB.o.set 12 (.I j4));rw [HF.o,<-HY.o]
     simpa [Dp,<-HJ4.o] using hbb
    ·iterate 1 with_reducible refine Ext.set2 ?_ (Bl HG3.o) _
     with_reducible exact HXB.o
 case rest =>
 obtain ⟨w14,rfl⟩:=eqx wc;obtain ⟨hr14,hx14⟩:=hcut;have HX14:=Hd hx14;have HR14:=Hd hr14;clear hr14 hx14 b8 l6 hjj;clear HWA k7 HB2A;obtain ⟨bt5,j6⟩:=eqx (bt a.kinds 5);have HHA5:=Hd (show ∀ J,Cl 42 #[(Aq a A c D e),.I 5] J (Ae J bt5) from λJ=>by rw [j6];exact IC a A D c e 5 AA J);have HBT5:=Hd j6;obtain ⟨cs,hcs⟩:=eqx (An (ddp a.cols));obtain ⟨ds,m2⟩:=eqx (ddp a.deps);have hcl:cs.length<=1000000:=(by have:=F4 a.cols;rw [hcs];simp [An];omega);have hdl:ds.length<=1000000:=(by have:=F4 a.deps;rw [m2];omega);have hall:∀ p:BA->Bool,cs.all p=(ddp a.cols).all p:=λp=>by
  rw [Bool.eq_iff_iff,List.all_eq_true,List.all_eq_true,hcs];exact ⟨λh x hx=>h x (Ek.2 hx),λh x hx=>h x (Ek.1 hx)⟩
 have hcl2:(ddp a.cols).length=cs.length:=(by rw [hcs];simp [An]);obtain ⟨HNM,HDE,HCS,HDS,HALL⟩:=Hd5 (show ∀ J,Ext w J->Cl 112 #[.slice A a.cols.length c] J (Wq J.heap.size J cs) from λJ hw'=>by rw [hcs,<-GQA];exact CjA a.cols A c J _ (HA.o.keep (hw'.kept _)) hz3) (show ∀ J,Ext w J->Cl 114 #[.slice D a.deps.length e] J (DTA J ds) from λJ hw'=>by rw [m2];exact DjA a.deps D e J _ (HD.o.keep (hw'.kept _)) hz4) hcs m2 (And.intro (hall Ba) hcl2);clear hcs m2 hall hcl2 j6;obtain ⟨b6,i4⟩:=eqx ((DF a).1);obtain ⟨b4,j7⟩:=eqx ((DF a).2);obtain ⟨HMS5,HLO5,HHI5⟩:=Hd3 (show ∀ J,Cl 111 #[.agg #[.I a.rl,.I a.rh],.agg #[.I 0,.I 100]] J (Cd J (b6,b4)) from λJ=>by rw [show (b6,b4)=CZ (a.rl,a.rh) (0,100) by rw [i4,j7];rfl];exact Ms _ _ _ _ J) i4 j7;clear i4 j7;have O:=Y.o.keep (HX14.o.kept _);have q13:=O.q13;have q14:=O.q14;clear O
 go_wp2_with fail
 refine (HMS5.o _).mono ?_;rintro ee wp ⟨rfl,a8⟩;have f6:=Hd (HX14.o.trans a8);have f7:=Hd (HR14.o.keep (a8.kept _));clear a8 q13 q14
 go_upto_region 19 with fail
 obtain ⟨m4,b3⟩:=eqx (wp.alloc (.cells #[.I b6,.I b4] 32));obtain ⟨g7,b7⟩:=eqx wp.heap.size;rw [<-b3,<-b7];have f8:=f6.o.size;have hlp:=f7.o.lt;obtain ⟨j9,HR15,HBV5,HNV5,HGV5⟩:=Hd5 (show Ext w1 m4 by rw [b3];exact f6.o.alloc _) (show Blk m4 g3 36 (Ap U none 0 none 0) by rw [b3];exact f7.o.keep (Kept.alloc _ _ _)) (show Blk m4 g7 32 #[.I b6,.I b4] by rw [b3,b7];exact Blk.new _ _ _) (show ¬g3=g7 by omega) (show w1.heap.size<=g7 by rw [b7];exact f8);clear b3 b7 f8 hlp;have O:=Y.o.keep (j9.o.kept _);have q15:m4.cell? ⟨g1,15,none⟩=some (.slice A a.cols.length c):=O.q15;clear O
 go_wp2_with fail
 refine (HNM.o _ (HX1.o.trans j9.o)).mono ?_;rintro ee w16 ⟨A2,c2,rfl,hok,hst,d9⟩;obtain ⟨HX16,HR16,HBW5,HOK⟩:=Hd4 (j9.o.trans d9) (HR15.o.keep (d9.kept _)) (HBV5.o.keep (d9.kept _)) hok;have hg3l:=HR15.o.lt;have HST:=Hd (hst.mono (T:=λb=>g3<b) λb _ hb=>AA);clear q15 d9 hok hst hg3l
 go_upto_block 0 with fail
 go_cut [9] (λv wx=>v=.bool (decide (cs.length<=8)&&cs.all Ba)/\w16=wx)
 case first =>
  have hcn:(cs.length:Int)<=8↔cs.length<=8:=AA;have HCN:=Hd hcn;clear hcn;go_wp2
  go_loop [10,9] (λi v=>∃ k:Nat,k<=cs.length/\i=.I k/\v=.bool (decide ((cs.length:Int)<=8)&&(cs.take k).all Ba)) (λi _=>cs.length-(intOf i).toNat)
  case atStart=>exact ⟨0,AN,rfl,AC⟩
  case round =>
   obtain ⟨k,hk,rfl,rfl⟩:=hrel;by_cases hlt:k<cs.length
   ·obtain ⟨b1,o1,rfl,z1,c1⟩:=HST.o.at_ hlt;have HNA:=Hd (λJ=>YP cs[k] (HST.o.sz hlt) J);obtain ⟨nk,hnk⟩:=eqx (Ba cs[k]);rw [<-hnk] at HNA;obtain ⟨pf,hpf⟩:=eqx ((decide ((cs.length:Int)<=8)&&(cs.take k).all Ba));have HNX:=Hd (show (decide ((cs.length:Int)<=8)&&(cs.take (k+1)).all Ba)=(pf&&nk) by rw [hpf,hnk,List.take_succ_eq_append_getElem hlt,List.all_append,Bool.and_assoc];simp);rw [<-hpf];clear hnk hpf
    go_wp2_with fail
    refine (HNA.o _).mono ?_;rintro ee wz ⟨rfl,rfl⟩;cases pf
    all_goals
     go_wp2
     go_round
     case rel=>exact ⟨k+1,AA,AE,by rw [HNX.o];rfl⟩
     case measure=>simp [intOf];omega
   ·obtain rfl:k=cs.length:=AA;go_wp2
    go_meet
    case rel=>exact ⟨by rw [decide_eq_decide.2 HCN.o],rfl⟩
 case rest =>
 obtain ⟨rfl,rfl⟩:=hcut;obtain ⟨fi,m5⟩:=eqx (decide (cs.length<=8)&&cs.all Ba);rw [<-m5];have HFI:=Hd m5;obtain ⟨em5,l5⟩:=eqx (decide (b6<=b4)&&fi);obtain ⟨f0,i6⟩:=eqx (bt5&&em5);have hpp:Bw a 5=em5:=by
  rw [l5,m5,HLO5.o,HHI5.o,HALL.o.1,<-HALL.o.2,<-Bool.and_assoc];rfl
 have j8:=Hd i6;have HEM5:=Hd l5;obtain ⟨s6,hs6⟩:=eqx (DL a 6);have HS6:=Hd hs6;have HCS5:=Hd (show s6=if f0=true then { Dp a 5 U with kinds:=U.kinds+32 } else U by rw [hs6,HS5.o,i6,HBT5.o,<-hpp];exact Hr a 5 AA AA);clear m5 l5 i6 hs6 hpp
 go_upto_region 26 with fail
 go_cut [125] (λv wx=>v=.bool f0/\Ext w16 wx)
 case first =>
  refine wp_region_lit ?_;refine AJ rfl 36 _ rfl g1 rfl (Y.o.keep (HX16.o.kept _)) AS AH ?_
  go_wp2_with fail
  refine (HHA5.o _).mono ?_;rintro ee wz ⟨rfl,Z⟩;have HXZ:=Hd Z;have b5:=HBW5.o.keep (Z.kept _);obtain ⟨v0,v1⟩:=b5.qs2;clear b5 Z;cases bt5
  ·go_wp2
   go_meet
   case rel=>exact ⟨by rw [j8.o];rfl,HXZ.o⟩
  ·by_cases hle:b6<=b4
   ·have HPT:=Hd (show f0=fi by rw [j8.o,HEM5.o,decide_eq_true hle];rfl);cases fi
    all_goals
     go_wp2
     go_meet
     case rel=>exact ⟨by simp [HPT.o],HXZ.o⟩
   ·have HPT:=Hd (show f0=false by rw [j8.o,HEM5.o,decide_eq_false hle];rfl);exact E7
 case rest =>
 obtain ⟨w17,rfl⟩:=eqx wc;obtain ⟨rfl,d6⟩:=hcut;obtain ⟨l0,b9,HBX5,HST17⟩:=Hd4 (HX16.o.trans d6) (HR16.o.keep (d6.kept _)) (HBW5.o.keep (d6.kept _)) (HST.o.keep (d6.kept _));clear d6
 go_upto_if 125 with fail
 go_cut [] (λwx=>∃ (A':OA) (c':Nat) (D':OA) (e':Nat),Blk wx g3 36 (Ap s6 A' c' D' e')/\AbM wx (λb=>g3<b) s6 A' c' D' e'/\Ext w1 wx)
 case first =>
  cases f0
  ·have HF:=Hd (show s6=U by rw [HCS5.o,if_neg AC])
   go_wp2_with fail
   go_meet
   case rel =>
    rw [HF.o];exact ⟨none,0,none,0,b9.o,AbM.nil (by rw [HS5.o];exact Ws a AA),l0.o⟩
  ·have HF:=Hd (show s6 = { Dp a 5 U with kinds:=U.kinds+32 } by rw [HCS5.o,if_pos rfl]);have a9:=IA a 5;rw [<-HS5.o] at a9;obtain ⟨y,hy⟩:=eqx (U.kinds+32);have m6:IntKind.i64.wrap (U.kinds+32)=y:=Gu;have HY:=Hd hy;clear a9 hy;have r0:=b9.o.q0;have rf:=b9.o.frozen;have rl:=b9.o.lt
   go_upto_region 28 with fail
   obtain ⟨wb,hwb⟩:=eqx (w17.setCell ⟨g3,0,none⟩ (.I y));rw [<-hwb];obtain ⟨HXB,HRB,d7⟩:=Hd3 (show Ext w1 wb by rw [hwb];exact l0.o.set2 (Bl HG3.o) _) (show Blk wb g3 36 #[.I y,.I U.tx.least,.I U.tx.most,.I U.tx.cls,.string U.tx.b,.string U.tx.e,.I U.nu.ln,.I U.nu.ls,.I U.nu.hn,.I U.nu.hs,.I U.dl,.I U.dh,.I U.bo,.I U.rl,.I U.rh,.slice none U.cols.length 0,.slice none U.deps.length 0,.bool U.errs] by rw [hwb];simpa using b9.o.set 0 (.I y)) hwb;clear hwb r0 rf rl;have b5:Blk wb g7 32 #[.I b6,.I b4]:=(by rw [d7.o];exact HBX5.o.keep (Kept.set2 (Kept.refl _ _) HNV5.o));obtain ⟨v0,v1⟩:=b5.qs2;clear b5;have rf:=HRB.o.frozen;have rl:=HRB.o.lt;have r13:=HRB.o.q13;have r14:=HRB.o.q14;have r15:=HRB.o.q15
   go_upto_region 30 with fail
   obtain ⟨wd,f5⟩:=eqx (((wb.setCell ⟨g3,13,none⟩ (.I b6)).setCell ⟨g3,14,none⟩ (.I b4)).setCell ⟨g3,15,none⟩ (.slice A2 cs.length c2));rw [<-f5];obtain ⟨HXD,HRD,HSTD⟩:=Hd3 (show Ext w1 wd by rw [f5];exact ((HXB.o.set2 (Bl HG3.o) _).set2 (Bl HG3.o) _).set2 (Bl HG3.o) _) (show Blk wd g3 36 #[.I y,.I U.tx.least,.I U.tx.most,.I U.tx.cls,.string U.tx.b,.string U.tx.e,.I U.nu.ln,.I U.nu.ls,.I U.nu.hn,.I U.nu.hs,.I U.dl,.I U.dh,.I U.bo,.I b6,.I b4,.slice A2 cs.length c2,.slice none U.deps.length 0,.bool U.errs] by rw [f5];simpa using ((HRB.o.set 13 (.I b6)).set 14 (.I b4)).set 15 (.slice A2 cs.length c2)) (show Strs wd (λb=>g3<b) A2 cs by rw [f5,d7.o];exact HST17.o.keep ((((Kept.refl _ _).set2 (Nat.lt_irrefl g3)).set2 (Nat.lt_irrefl g3)).set2 (Nat.lt_irrefl g3) |>.set2 (Nat.lt_irrefl g3)));clear f5 r13 r14 r15 rf rl v0 v1;have O:=Y.o.keep (HXD.o.kept _);have q16:wd.cell? ⟨g1,16,none⟩=some (.slice D a.deps.length e):=O.q16;clear O
   go_wp2_with fail
   refine (HDE.o _ (HX1.o.trans HXD.o)).mono ?_;rintro ee wj ⟨D2,e2,rfl,hcd,hrd,b0⟩;obtain ⟨f2,HRJ,HSTJ⟩:=Hd3 (HXD.o.trans b0) (HRD.o.keep (b0.kept _)) (HSTD.o.keep (b0.kept _));have hg3l:=HRD.o.lt;have HDJ:=Hd (hrd.mono (T:=λb=>g3<b) λb _ (hb:wd.heap.size<=b)=>AA);have HCD:=Hd hcd;clear b0 hrd hcd hg3l q16;have rf:=HRJ.o.frozen;have rl:=HRJ.o.lt;have r16:wj.cell? ⟨g3,16,none⟩=some (.slice none U.deps.length 0):=HRJ.o.q16
   go_wp2_with fail
   go_meet
   case rel =>
    have f9:Dp a 5 U = { U with rl:=b6,rh:=b4,cols:=cs,deps:=ds }:=(by rw [HLO5.o,HHI5.o,HCS.o,HDS.o];rfl);have hcc:cs.length<=c2:=by
     rcases HOK.o with ⟨_,h,_⟩|⟨_,_,_,h⟩
     ·omega
     ·exact h
    have hk:=(Kept.refl (λb=>g3<b) wj).set2 (g:=g3) (i:=16) (u:=.slice D2 ds.length e2) (Nat.lt_irrefl g3);refine ⟨A2,c2,D2,e2,?_,⟨?_,?_,?_,?_⟩,f2.o.set2 (Bl HG3.o) _⟩
    ·have hbb:=HRJ.o.set 16 (.slice D2 ds.length e2);rw [HF.o,<-HY.o,f9]
     simpa using hbb
    ·rw [HF.o,f9];exact hcc
    ·rw [HF.o,f9];exact HCD.o
    ·rw [HF.o,f9];exact HSTJ.o.keep hk
    ·rw [HF.o,f9];exact HDJ.o.keep hk
 case rest =>
 obtain ⟨w18,rfl⟩:=eqx wc;obtain ⟨A',c',D',e',hr18,hab,hx18⟩:=hcut;obtain ⟨HAB,HX18,HR18⟩:=Hd3 hab hx18 hr18;clear hab hr18 hx18 b9 l0;have HSF:=Hd (show s6=AX a by rw [HS6.o,B1A]);have HB2R:=Hd (HB21.o.keep (HX18.o.kept _))
 go_upto_region 31 with fail
 refine wp_region_lit ?_;refine AJ rfl 36 _ rfl g3 rfl HR18.o AS AH ?_;refine AM rfl 36 _ _ rfl g2 (Ap s6 A' c' D' e') rfl rfl 36 _ HB2R.o AH rfl AD ?_;intro w9 hb9 ho9;refine wpList_nil ?_;have hg2l:=HB21.o.lt;obtain ⟨HX9,HAB9,HB9⟩:=Hd3 ((HX1.o.trans HX18.o).only ho9 Bq) (HAB.o.keep (ho9.kept (S:=λb=>g3<b) λb _ hb e=>by have:=HG2.o;have:=HG3.o;omega)) hb9;clear hb9 ho9 hg2l;go_wp2;refine bodyPost_ret (Bv results50 rfl (Eq HB9.o AS AH)) rfl ?_;rw [<-HSF.o];exact ⟨A',c',D',e',rfl,HAB9.o.mono λb _ hb=>.inr (by have:=HG3.o;have:=HX1.o.size;omega),HX9.o⟩

theorem PM(h:qP:=by
 go_wp2
 go_round
 case rel=>exact ⟨k+1,by omega,by go_num,by rw [HN.o];rfl⟩
 case measure=>simp [intOf];omega):qP:=h
theorem BEA(a:Abs)(x:BA)(A D:OA)(c e:Nat)(w:World)(S:NP)(hA:Strs w S A a.cols)(hD:RDeps w S D a.deps) :
  Cl 158 #[(Aq a A c D e),.string x] w (Ae w (Eu a x)):=by
 obtain ⟨w0,hw0⟩:=eqx (w.alloc (.cells (Ap a A c D e) 36));obtain ⟨g2,hg2⟩:=eqx w.heap.size;have hx0:Ext w w0:=BS;have hb2:Blk w0 g2 36 (Ap a A c D e):=(by rw [hw0,hg2];exact Blk.new _ _ _);have q15:w0.cell? ⟨g2,15,none⟩=some (.slice A a.cols.length c):=hb2.q15;have q16:w0.cell? ⟨g2,16,none⟩=some (.slice D a.deps.length e):=hb2.q16;obtain ⟨a8,HG2,HX0,HD⟩:=Hd4 hw0 hg2 hx0 (hD.keep (hx0.kept _));have hdl:=hD.1;have Y:=Hd (Y5 A c a.cols x w0 S (hA.keep (hx0.kept _)));obtain ⟨U,O⟩:=eqx (Aw a.cols x);rw [<-O] at Y;have Z:=Hd (show Eu a x=(U||a.deps.any λd=>Aw d.frm x||decide (d.tov=x)) by rw [O];rfl);clear hw0 hg2 hx0 hb2 hA hD O
 go_enter func158,ntmps158
 go_upto_region 1 with fail
 rw [<-a8.o,<-HG2.o]
 go_wp2_with fail
 refine Y.o.mono ?_;rintro e1 w1 ⟨rfl,rfl⟩;go_wp2
 go_loop [6,5] (λi v=>∃ k:Nat,k<=a.deps.length/\i=.I k/\v=.bool (U||(a.deps.take k).any λd=>Aw d.frm x||decide (d.tov=x))) (λi _=>a.deps.length-(intOf i).toNat)
 case atStart=>exact ⟨0,AN,rfl,AC⟩
 case round =>
  obtain ⟨k,hk,rfl,rfl⟩:=hrel;by_cases hlt:k<a.deps.length
  ·obtain ⟨b1,o1,B1,e1,rfl,z1,c1,c2,f1,f2,f3⟩:=HD.o.at_ hlt;have HIN:=Hd (Y5 B1 e1 a.deps[k].frm x w0 S f3);obtain ⟨m,hm⟩:=eqx (Aw a.deps[k].frm x);obtain ⟨t,ht⟩:=eqx (decide (a.deps[k].tov=x));obtain ⟨f,hf⟩:=eqx (U||(a.deps.take k).any λd=>Aw d.frm x||decide (d.tov=x));have HN:=Hd (show (U||(a.deps.take (k+1)).any λd=>Aw d.frm x||decide (d.tov=x))=(f||(m||t)) by
    rw [hf,hm,ht,List.take_succ_eq_append_getElem hlt,List.any_append,Bool.or_assoc];simp)
   have hbe:(a.deps[k].tov.toList==x.toList)=t:=(by rw [Bj,ht]);rw [<-hm] at HIN;rw [<-hf];clear hm ht hf f1 f2 f3
   go_wp2_with fail
   refine HIN.o.mono ?_;rintro e2 w2 ⟨rfl,rfl⟩;cases f
   ·cases m
    ·exact PM
    ·exact PM
   ·exact PM
  ·obtain rfl:k=a.deps.length:=AA;have HF:=Hd (show Eu a x=(U||(a.deps.take a.deps.length).any λd=>Aw d.frm x||decide (d.tov=x)) by rw [Z.o,List.take_length]);go_wp2;go_ret;exact ⟨by rw [HF.o];simp,HX0.o⟩

theorem RQ(l:List Dep)(a:Abs)(B A D:OA)(cl c e:Nat)(w:World)(S T:NP)(hL:RDeps w T B l)(hA:Strs w S A a.cols)(hD:RDeps w S D a.deps)(hz:AbN 50000 a)(hl:l.length<=1000000)(hlf:∀ d∈l,d.frm.length<=50000) :
  Cl 83 #[.slice B l.length cl,(Aq a A c D e)] w (Jt w T (DK l a)):=by
 obtain ⟨w0,hw0⟩:=eqx (w.alloc (.cells (Ap a A c D e) 36));obtain ⟨g3,hg3⟩:=eqx w.heap.size;have hx0:Ext w w0:=BS;have f0:Blk w0 g3 36 (Ap a A c D e):=(by rw [hw0,hg3];exact Blk.new _ _ _);obtain ⟨HW0,HG3,HX0,HB3,HL,HA,HD,HZ⟩:=Hd8 hw0 hg3 hx0 f0 (hL.mono (T:=λb=>T b/\b<w.heap.size) λi hi hs=>⟨hs,hi⟩) (hA.keep (hx0.kept _)) (hD.keep (hx0.kept _)) hz;have HLF:=Hd hlf;have hdl:=hz.2.2.2.1;clear hw0 hg3 hx0 f0 hL hA hD hz hlf
 go_enter func83,ntmps83
 go_wp2;rw [<-HW0.o,<-HG3.o]
 go_loopw [6,5] (λi v wr=>∃ (k:Nat) (A8:OA) (c8:Nat),k<=l.length/\i=.I k/\v=.slice A8 (DK (l.take k) a).length c8/\Ext w0 wr/\OwnDs wr w0.heap.size (λb=>T b/\b<w.heap.size) A8 c8 (DK (l.take k) a)) (λi _ _=>l.length-(intOf i).toNat)
 case atStart=>exact ⟨0,none,0,AN,rfl,rfl,Ext.refl _,OwnDs.nil _ _ _⟩
 case round =>
  obtain ⟨k,A8,c8,hk,rfl,rfl,hext,hown⟩:=hrel;have HE:=Hd hext;have HO8:=Hd hown;by_cases hlt:k<l.length
  ·obtain ⟨b1,o1,B1,cB,he,z1,q0,q1,f1,f2,f3⟩:=((HL.o.keep (HX0.o.kept _)).keep (hext.kept _)).at_ hlt;subst he;obtain ⟨d,hd⟩:=eqx (l[k]);have hfl:=HLF.o _ (List.getElem_mem hlt);have b3:=YX l a k hlt;rw [<-hd] at q0 q1 f1 f2 f3 hfl b3;obtain ⟨fs,d8⟩:=eqx (DK (l.take k) a);rw [<-d8] at b3 hown|-;have hfsl:fs.length<=l.length:=(by rw [d8];unfold DK;exact Nat.le_trans (List.length_filter_le _ _) BP);obtain ⟨wp,rfl⟩:∃ wp:World,wp=wr:=⟨_,rfl⟩;obtain ⟨f6,HOW,HF1,HTO,d4,b9,f5⟩:=Hd7 b3 hown f1 f2 f3 q0 q1;obtain ⟨U,b5⟩:=eqx (JX a.deps d.frm d.tov);obtain ⟨Z,d5⟩:=eqx (Eu a d.tov);obtain ⟨HFD,HIM,d6⟩:=Hd3 (show V6 a d=(Z&&d.frm.all (Eu a)&&U) by rw [b5,d5];rfl) (show ∀ J,Ext wp J->Cl 157 #[.slice D a.deps.length e,.agg #[.slice B1 d.frm.length cB,.string d.tov]] J (Ae J U) from λJ hw'=>by rw [b5];exact ZL a.deps d.frm d.tov D B1 e cB J _ _ (HD.o.keep ((HE.o.trans hw').kept _)) (d4.o.keep (hw'.kept _)) AA) (show ∀ (y:BA) (J:World),Ext wp J->Cl 158 #[(Aq a A c D e),.string y] J (Ae J (Eu a y)) from λy J hw'=>BEA a y A D c e J _ (HA.o.keep ((HE.o.trans hw').kept _)) (HD.o.keep ((HE.o.trans hw').kept _)));have HOT:=Hd (show ∀ J,Ext wp J->Cl 158 #[(Aq a A c D e),.string d.tov] J (Ae J Z) from λJ hw'=>by rw [d5];exact d6.o d.tov J hw');have a8:=Hd (HB3.o.keep (hext.kept _));have KD:=Hd (show wp.cell? ⟨g3,16,none⟩=some (.slice D a.deps.length e) from a8.o.q16);clear hext hown b3 hd d8 b5 d5 HO8 f1 f2 f3 q0 q1
   go_upto_region 5 with fail
   refine Qa (λ_ _=>False) [] ?_
   iterate 6 refine Qp ?_
   refine Qd (λJ HXW=>HIM.o J HXW.o) ?_;refine Qp ?_;intro V F w9 hR hG;refine Qx ?_;have HXN:=Hd (show Ext wp w9 from hR.ext0 (λ_ _ _ h=>h.elim));clear hR hG;obtain ⟨wq,b8⟩:=eqx w9;rw [<-b8];have Y:=Hd (show Ext wp wq by rw [b8];exact HXN.o);obtain ⟨b0,P0,P1,b4⟩:=Hd4 (a8.o.keep (Y.o.kept _)) (Y.o.cell b9.o) (Y.o.cell f5.o) (λJ (hw':Ext wq J)=>HOT.o J (Y.o.trans hw'));clear b8 HXN
   go_upto_region 6 with fail
   refine Qa (λ_ _=>False) [] ?_;refine Qy b0 AS AH ?_
   iterate 5 refine Qp ?_
   refine Qd (λJ HXW=>b4.o J HXW.o) ?_;refine Qp ?_;intro V F w9 hR hG;refine Qx ?_;have HXN:=Hd (show Ext wq w9 from hR.ext0 (λ_ _ _ h=>h.elim));clear hR hG;obtain ⟨wz,b7⟩:=eqx w9;rw [<-b7];have HXZ:=Hd (show Ext wp wz by rw [b7];exact Y.o.trans HXN.o);clear b7 HXN b0 P0 P1 b4
   go_upto_region 7 with fail
   go_cut [7] (λv wx=>v=.bool (U&&Z)/\wz=wx)
   case first =>
    cases U
    all_goals
     go_wp2_with fail
     go_meet
     case rel=>exact ⟨rfl,rfl⟩
   case rest =>
   obtain ⟨rfl,rfl⟩:=hcut;have HQZ0:=Hd (HXZ.o.cell b9.o);have q0:=HXZ.o.cell b9.o;have HB3Z:=Hd (a8.o.keep (HXZ.o.kept _));go_wp2
   go_loopw [9,7] (λi v wi=>∃ j:Nat,j<=d.frm.length/\i=.I j/\v=.bool ((U&&Z)&&(d.frm.take j).all (Eu a))/\Ext wz wi) (λi _ _=>d.frm.length-(intOf i).toNat)
   case atStart=>exact ⟨0,AN,rfl,AC,Ext.refl _⟩
   case round =>
    clear q0;obtain ⟨j,hj,rfl,rfl,O⟩:=hrel;have f7:=Hd O;have q0:=O.cell HQZ0.o;by_cases hjl:j<d.frm.length
    ·obtain ⟨b2,o2,he2,z2,c2⟩:=(d4.o.keep ((HXZ.o.trans O).kept _)).at_ hjl;subst he2;obtain ⟨P0,P2,b0⟩:=Hd3 q0 c2 (HB3Z.o.keep (O.kept _));obtain ⟨oj,hoj⟩:=eqx (Eu a d.frm[j]);obtain ⟨pf,d7⟩:=eqx ((U&&Z)&&(d.frm.take j).all (Eu a));have HN:=Hd (show ((U&&Z)&&(d.frm.take (j+1)).all (Eu a))=(pf&&oj) by
      rw [d7,hoj,List.take_succ_eq_append_getElem hjl,List.all_append,<-Bool.and_assoc];simp)
     have HOJ:=Hd (show ∀ J,Ext wr J->Cl 158 #[(Aq a A c D e),.string d.frm[j]] J (Ae J oj) from λJ hw'=>by rw [hoj];exact d6.o d.frm[j] J ((HXZ.o.trans f7.o).trans hw'));rw [<-d7];clear hoj d7 O
     go_upto_region 11 with fail
     clear q0 c2;refine Qa (λ_ _=>False) [] ?_;refine Qy b0 AS AH ?_
     iterate 8 refine Qp ?_
     refine Qd (λJ HXW=>HOJ.o J HXW.o) ?_;refine Qp ?_;intro V F w9 hR hG;refine Qx ?_;have HXN:=Hd (show Ext wr w9 from hR.ext0 (λ_ _ _ h=>h.elim));clear hR hG;cases pf
     all_goals
      go_wp2;go_roundw
      case rel=>exact ⟨j+1,AA,AE,by rw [HN.o];rfl,f7.o.trans HXN.o⟩
      case measure=>simp [intOf];omega
    ·have hjd:j=d.frm.length:=AA;subst hjd;obtain ⟨fo,d3⟩:=eqx ((U&&Z)&&(d.frm.take d.frm.length).all (Eu a));have f8:=Hd (show V6 a d=fo by rw [HFD.o,d3,List.take_length];cases U<;>cases Z<;>simp);rw [<-d3];have HXW:=Hd (HXZ.o.trans O);have q1:=HXW.o.cell f5.o;have a9:=Hd (HOW.o.ext HXW.o);have HF3I:=Hd (d4.o.keep (HXW.o.kept _));clear d3 O;cases fo
     ·have HS:=Hd (show DK (l.take (k+1)) a=fs by rw [f6.o,f8.o];simp);go_wp2;go_roundw
      case rel=>exact ⟨k+1,A8,c8,AA,AE,by rw [HS.o],HE.o.trans HXW.o,by rw [HS.o];exact a9.o⟩
      case measure=>simp [intOf];omega
     ·have HS:=Hd (show DK (l.take (k+1)) a=fs++[d] by rw [f6.o,f8.o];simp);obtain ⟨hs9,b6,d9,f4⟩:=(a9.o.ext ((Ext.refl _).alloc (.cells #[.slice B1 d.frm.length cB,.string d.tov] 64))).add;obtain ⟨HOWN,HV,HHS⟩:=Hd3 d9 f4 b6;have hszw:=HXW.o.size;have hsze:=HE.o.size;clear d9 f4 b6
      go_wp2_with (at_builtin;go_must (refine AL rfl (.tmp 60) (.tmp 65) rfl tiD rfl HOWN.o rfl (Blk.rd (Blk.new _ _ _)) rfl AP AA AB AI ?_);intro A9 c9 w9 hown9 f9 g0)
      go_roundw
      case rel =>
       refine ⟨k+1,A9,c9,AA,AE,by rw [HS.o,List.length_append];rfl,Ext.grown ((HE.o.trans HXW.o).alloc _) f9 (λb hb=>(HOWN.o.blk hb).1),?_⟩;rw [HS.o];refine OwnDs.push HHS.o HV.o hown9 f9 g0 HF1.o HTO.o ((HF3I.o.keep (Kept.alloc _ _ _)).mono λi _ hi=>⟨λe => ?_,hi⟩);have:=(a9.o.blk e).1;have:=hi.2;have:=HX0.o.size;omega
      case measure=>simp [intOf];omega
  ·have hkl:k=l.length:=AA;subst hkl;have HT:=Hd (show l.take l.length=l from List.take_length);have ho:=HO8.o;rw [HT.o] at ho;have HC:=Hd (show (DK l a).length<=c8 by obtain ⟨hs,_,h1,_⟩:=ho.add;exact h1.cap);have HOF:=Hd ho;clear hext hown ho;go_wp2;go_ret;exact ⟨A8,c8,EM,HC.o,(HOF.o.lower HX0.o.size).mono λb _ h=>h.1,HX0.o.trans HE.o⟩
