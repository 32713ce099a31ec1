/- Lemmas. No conditions. -/
import Derived.Test.YtidacnalcdhckaaGreatDoorOq31
import Derived.Deep.DeepCutAuto
set_option maxRecDepth 100000
set_option maxHeartbeats 4000000
namespace Go.Proofs.YtidacnalcdhckaaGreatDoor
open Go Go.RowKit Tryz
variable {qP:Prop}

theorem E7(h:qP:=by
 go_wp2
 go_meet
 case rel=>exact ⟨by simp [HPT.o,hle],HXZ.o⟩):qP:=h
theorem Gu(h:qP:=by rw [IntKind.wrap_i64,hy];omega):qP:=h
theorem EG(a:Abs)(A D:OA)(c e:Nat)(w:World)(S:NP)(hA:Strs w S A a.cols)(hD:RDeps w S D a.deps)(hz:AbN 1000000 a) :
  Cl 29 #[(Aq a A c D e)] w (Eh w S (AX a)):=by
 obtain ⟨hz1,hz2,hz3,hz4,-⟩:=hz;obtain ⟨wa,hwa⟩:=eqx ((w.alloc (.cells (Ap a A c D e) 39)).alloc (.cells Az 39));obtain ⟨g1,hg1⟩:=eqx w.heap.size;obtain ⟨g2,hg2⟩:=eqx (w.heap.size+1);have hxa:Ext w wa:=(by rw [hwa];exact (exaa w).alloc _);have hb1:Blk wa g1 39 (Ap a A c D e):=(by rw [hwa,hg1];exact (Blk.new _ _ _).keep ((exaa _).kept _));have hb2:Blk wa g2 39 Az:=(by rw [hwa,hg2];exact H6A _ _ _ _);obtain ⟨HWA,HG1,HG2,HXA,HB1A,HB2A,HA,HD⟩:=Hd8 hwa hg1 hg2 hxa hb1 hb2 (hA.mono (T:=fun b=>b<w.heap.size) fun i hi _=>hi) (hD.mono (T:=fun b=>b<w.heap.size) fun i hi _=>hi);clear hwa hg1 hg2 hxa hb1 hb2 hA hD
 go_enter func29,ntmps29
 go_upto_region 1 with fail
 rw [←HWA.o,←HG2.o,←HG1.o]
 go_wp2_with fail
 refine (QV _).mono ?_;rintro e1 w1 ⟨rfl,hx1⟩;rename_i K1 hK1 K2 hK2;refine hK2 _ _ ?_;refine Ag rfl rfl ?_;obtain ⟨g3,hg3⟩:=eqx w1.heap.size;rw [←hg3];refine AM rfl 39 _ _ rfl g3 (Ap noneA none 0 none 0) rfl rfl 39 _ (show Blk (w1.alloc (.cells Az 39)) g3 39 Az by rw [hg3];exact Blk.new _ _ _) AH rfl AD ?_;intro w2 hb3 ho2;have hx2:Ext w1 w2:=(exaa w1).only ho2 GI;have HX1:=Hd (HXA.o.trans hx1);have hk2:=hx1.trans hx2;have q17:w2.cell? ⟨g1,17,none⟩=some (.bool a.errs):=(HB1A.o.keep (hk2.kept _)).q17;have r17:w2.cell? ⟨g3,17,none⟩=some (.bool noneA.errs):=hb3.q17;have rf:=hb3.frozen;have rl:=hb3.lt;obtain ⟨HB3,HX2,HG3,HB11,HB21⟩:=Hd5 hb3 hx2 hg3 (HB1A.o.keep (hx1.kept _)) (HB2A.o.keep (hx1.kept _));refine hK1 _ _ ?_;clear hK1 hK2 hb3 ho2 hx1 hx2 hk2 hg3
 go_upto_region 3 with fail
 obtain ⟨w3,hw3⟩:=eqx (w2.setCell ⟨g3,17,none⟩ (.bool a.errs));rw [←hw3];have HX3:=Hd (show Ext w1 w3 by rw [hw3];exact HX2.o.set2 (Bl HG3.o) _);obtain ⟨s1,hs1⟩:=eqx (DL a 1);have HS1:=Hd hs1;have HR3:=Hd (show Blk w3 g3 39 (Ap s1 none 0 none 0) by
  rw [hw3,hs1,B6A,YU];have hbb:=HB3.o.set 17 (.bool a.errs)
  simpa using hbb)
 clear hw3 q17 r17 rf rl hs1 HB3 HX2;obtain ⟨bt1,hbt1⟩:=eqx (bt a.kinds 1);obtain ⟨em1,hem1⟩:=eqx (Bw a 1);obtain ⟨pb1,hpb1⟩:=eqx (bt1&&em1);have HHA1:=Hd (show ∀ w',Cl 44 #[(Aq a A c D e),.I 1] w' (Ae w' bt1) from fun w'=>by rw [hbt1];exact IC a A D c e 1 AA w');have HPB1:=Hd hpb1;obtain ⟨s2,hs2⟩:=eqx (DL a 2);obtain ⟨HS2,HCS1,HEM1⟩:=Hd3 hs2 (show s2=if pb1=true then { Dp a 1 s1 with kinds:=s1.kinds+2 } else s1 by rw [hs2,HS1.o,hpb1,hbt1,hem1];exact Hr a 1 AA AA) (show ∀ w',Cl 75 #[(Sq a.tx)] w' (Ae w' (!em1)) from fun w'=>by rw [hem1,show Bw a 1 = !AT a.tx from rfl,Bool.not_not];exact Nq a.tx hz1 hz2 w');obtain ⟨j1,hj1⟩:=eqx (BW a.tx a.tx);have HJ1:=Hd (show ∀ w',Cl 41 #[(Sq a.tx),(Sq a.tx)] w' (G0 w' j1) from fun w'=>by rw [hj1];exact YJ a.tx a.tx hz1 hz2 hz1 hz2 w');have HJJ1:=Hd hj1;clear hj1 hs2 hbt1 hem1 hpb1;have hba:=HB11.o.keep (HX3.o.kept _);have q1:=hba.q1;have q2:=hba.q2;have q3:=hba.q3;have q4:=hba.q4;have q5:=hba.q5;clear hba
 go_wp2_with fail
 refine (HEM1.o _).mono ?_;rintro ee w4 ⟨rfl,hxn⟩;have HX4:=Hd (HX3.o.trans hxn);have HR4:=Hd (HR3.o.keep (hxn.kept _));clear hxn q1 q2 q3 q4 q5
 go_upto_region 4 with fail
 go_cut [24] (fun v wx=>v=.bool pb1∧Ext w4 wx)
 case first =>
  refine wp_region_lit ?_;refine AJ rfl 39 _ rfl g1 rfl (HB11.o.keep (HX4.o.kept _)) AS AH ?_
  go_wp2_with fail
  refine (HHA1.o _).mono ?_;rintro ee wz ⟨rfl,hxz⟩;have HXZ:=Hd hxz;clear hxz;cases bt1
  all_goals
   go_wp2
   go_meet
   case rel=>exact ⟨by rw [HPB1.o];rfl,HXZ.o⟩
 case rest =>
 obtain ⟨w5,rfl⟩:=eqx wc;obtain ⟨rfl,hx5⟩:=hcut;have HX5:=Hd (HX4.o.trans hx5);have HR5:=Hd (HR4.o.keep (hx5.kept _))
 go_upto_if 24 with fail
 go_cut [] (fun wx=>Blk wx g3 39 (Ap s2 none 0 none 0)∧Ext w1 wx)
 case first =>
  cases pb1
  ·have HF:=Hd (show s2=s1 by rw [HCS1.o,if_neg AC])
   go_wp2_with fail
   go_meet
   case rel =>
    rw [HF.o];exact ⟨HR5.o,HX5.o⟩
  ·have HF:=Hd (show s2 = { Dp a 1 s1 with kinds:=s1.kinds+2 } by rw [HCS1.o,if_pos rfl]);have hck:=IA a 1;rw [←HS1.o] at hck;obtain ⟨y,hy⟩:=eqx (s1.kinds+2);have hwr:IntKind.i64.wrap (s1.kinds+2)=y:=Gu;have HY:=Hd hy;clear hck hy;have r0:=HR5.o.q0;have rf:=HR5.o.frozen;have rl:=HR5.o.lt
   go_upto_region 6 with fail
   obtain ⟨wb,hwb⟩:=eqx (w5.setCell ⟨g3,0,none⟩ (.I y));rw [←hwb];obtain ⟨HXB,HRB,HWB⟩:=Hd3 (show Ext w1 wb by rw [hwb];exact HX5.o.set2 (Bl HG3.o) _) (show Blk wb g3 39 #[.I y,.I s1.tx.least,.I s1.tx.most,.I s1.tx.cls,.string s1.tx.b,.string s1.tx.e,.I s1.nu.ln,.I s1.nu.ls,.I s1.nu.hn,.I s1.nu.hs,.I s1.dl,.I s1.dh,.I s1.bo,.I s1.rl,.I s1.rh,.slice none s1.cols.length 0,.slice none s1.deps.length 0,.bool s1.errs] by rw [hwb];simpa using HR5.o.set 0 (.I y)) hwb;clear hwb r0 rf rl;have hba:=HB11.o.keep (HXB.o.kept _);have q1:=hba.q1;have q2:=hba.q2;have q3:=hba.q3;have q4:=hba.q4;have q5:=hba.q5;clear hba
   go_wp2_with fail
   refine (HJ1.o _).mono ?_;rintro ee wj ⟨rfl,hxj⟩;have HXJ:=Hd (HXB.o.trans hxj);have HRJ:=Hd (HRB.o.keep (hxj.kept _));clear hxj q1 q2 q3 q4 q5;have rf:=HRJ.o.frozen;have rl:=HRJ.o.lt;have r1:=HRJ.o.q1;have r2:=HRJ.o.q2;have r3:=HRJ.o.q3;have r4:=HRJ.o.q4;have r5:=HRJ.o.q5
   go_wp2_with fail
   go_meet
   case rel =>
    refine ⟨?_,?_⟩
    ·have hbb:=(((((HRJ.o.set 1 (.I j1.least)).set 2 (.I j1.most)).set 3 (.I j1.cls)).set 4 (.string j1.b)).set 5 (.string j1.e));rw [HF.o,←HY.o]
     simpa [Dp,←HJJ1.o] using hbb
    ·iterate 5 with_reducible refine Ext.set2 ?_ (Bl HG3.o) _
     with_reducible exact HXJ.o
 case rest =>
 obtain ⟨w6,rfl⟩:=eqx wc;obtain ⟨hr6,hx6⟩:=hcut;have HX6:=Hd hx6;have HR6:=Hd hr6;clear hr6 hx6 HR5 HX5;obtain ⟨bt2,hbt2⟩:=eqx (bt a.kinds 2);obtain ⟨em2,hem2⟩:=eqx (Bw a 2);obtain ⟨pb2,hpb2⟩:=eqx (bt2&&em2);have HHA2:=Hd (show ∀ w',Cl 44 #[(Aq a A c D e),.I 2] w' (Ae w' bt2) from fun w'=>by rw [hbt2];exact IC a A D c e 2 AA w');have HPB2:=Hd hpb2;obtain ⟨s3,hs3⟩:=eqx (DL a 3);obtain ⟨HS3,HCS2,HEM2⟩:=Hd3 hs3 (show s3=if pb2=true then { Dp a 2 s2 with kinds:=s2.kinds+4 } else s2 by rw [hs3,HS2.o,hpb2,hbt2,hem2];exact Hr a 2 AA AA) (show ∀ w',Cl 76 #[(Rq a.nu)] w' (Ae w' (!em2)) from fun w'=>by rw [hem2,show Bw a 2 = !BF a.nu from rfl,Bool.not_not];exact NX a.nu w');obtain ⟨j2,hj2⟩:=eqx (Cc a.nu a.nu);have HJ2:=Hd (show ∀ w',Cl 42 #[(Rq a.nu),(Rq a.nu)] w' (Em w' j2) from fun w'=>by rw [hj2];exact Yf a.nu a.nu w');have HJJ2:=Hd hj2;clear hj2 hs3 hbt2 hem2 hpb2;have hba:=HB11.o.keep (HX6.o.kept _);have q6:=hba.q6;have q7:=hba.q7;have q8:=hba.q8;have q9:=hba.q9;clear hba
 go_wp2_with fail
 refine (HEM2.o _).mono ?_;rintro ee w7 ⟨rfl,hxn⟩;have HX7:=Hd (HX6.o.trans hxn);have HR7:=Hd (HR6.o.keep (hxn.kept _));clear hxn q6 q7 q8 q9
 go_upto_region 8 with fail
 go_cut [43] (fun v wx=>v=.bool pb2∧Ext w7 wx)
 case first =>
  refine wp_region_lit ?_;refine AJ rfl 39 _ rfl g1 rfl (HB11.o.keep (HX7.o.kept _)) AS AH ?_
  go_wp2_with fail
  refine (HHA2.o _).mono ?_;rintro ee wz ⟨rfl,hxz⟩;have HXZ:=Hd hxz;clear hxz;cases bt2
  all_goals
   go_wp2
   go_meet
   case rel=>exact ⟨by rw [HPB2.o];rfl,HXZ.o⟩
 case rest =>
 obtain ⟨w8,rfl⟩:=eqx wc;obtain ⟨rfl,hx8⟩:=hcut;have HX8:=Hd (HX7.o.trans hx8);have HR8:=Hd (HR7.o.keep (hx8.kept _))
 go_upto_if 43 with fail
 go_cut [] (fun wx=>Blk wx g3 39 (Ap s3 none 0 none 0)∧Ext w1 wx)
 case first =>
  cases pb2
  ·have HF:=Hd (show s3=s2 by rw [HCS2.o,if_neg AC])
   go_wp2_with fail
   go_meet
   case rel =>
    rw [HF.o];exact ⟨HR8.o,HX8.o⟩
  ·have HF:=Hd (show s3 = { Dp a 2 s2 with kinds:=s2.kinds+4 } by rw [HCS2.o,if_pos rfl]);have hck:=IA a 2;rw [←HS2.o] at hck;obtain ⟨y,hy⟩:=eqx (s2.kinds+4);have hwr:IntKind.i64.wrap (s2.kinds+4)=y:=Gu;have HY:=Hd hy;clear hck hy;have r0:=HR8.o.q0;have rf:=HR8.o.frozen;have rl:=HR8.o.lt
   go_upto_region 10 with fail
   obtain ⟨wb,hwb⟩:=eqx (w8.setCell ⟨g3,0,none⟩ (.I y));rw [←hwb];obtain ⟨HXB,HRB,HWB⟩:=Hd3 (show Ext w1 wb by rw [hwb];exact HX8.o.set2 (Bl HG3.o) _) (show Blk wb g3 39 #[.I y,.I s2.tx.least,.I s2.tx.most,.I s2.tx.cls,.string s2.tx.b,.string s2.tx.e,.I s2.nu.ln,.I s2.nu.ls,.I s2.nu.hn,.I s2.nu.hs,.I s2.dl,.I s2.dh,.I s2.bo,.I s2.rl,.I s2.rh,.slice none s2.cols.length 0,.slice none s2.deps.length 0,.bool s2.errs] by rw [hwb];simpa using HR8.o.set 0 (.I y)) hwb;clear hwb r0 rf rl;have hba:=HB11.o.keep (HXB.o.kept _);have q6:=hba.q6;have q7:=hba.q7;have q8:=hba.q8;have q9:=hba.q9;clear hba
   go_wp2_with fail
   refine (HJ2.o _).mono ?_;rintro ee wj ⟨rfl,hxj⟩;have HXJ:=Hd (HXB.o.trans hxj);have HRJ:=Hd (HRB.o.keep (hxj.kept _));clear hxj q6 q7 q8 q9;have rf:=HRJ.o.frozen;have rl:=HRJ.o.lt;have r6:=HRJ.o.q6;have r7:=HRJ.o.q7;have r8:=HRJ.o.q8;have r9:=HRJ.o.q9
   go_wp2_with fail
   go_meet
   case rel =>
    refine ⟨?_,?_⟩
    ·have hbb:=((((HRJ.o.set 6 (.I j2.ln)).set 7 (.I j2.ls)).set 8 (.I j2.hn)).set 9 (.I j2.hs));rw [HF.o,←HY.o]
     simpa [Dp,←HJJ2.o] using hbb
    ·iterate 4 with_reducible refine Ext.set2 ?_ (Bl HG3.o) _
     with_reducible exact HXJ.o
 case rest =>
 obtain ⟨w9,rfl⟩:=eqx wc;obtain ⟨hr9,hx9⟩:=hcut;have HX9:=Hd hx9;have HR9:=Hd hr9;clear hr9 hx9 HR8 HX8;obtain ⟨bt3,hbt3⟩:=eqx (bt a.kinds 3);obtain ⟨em3,hem3⟩:=eqx (Bw a 3);obtain ⟨pb3,hpb3⟩:=eqx (bt3&&em3);have HHA3:=Hd (show ∀ w',Cl 44 #[(Aq a A c D e),.I 3] w' (Ae w' bt3) from fun w'=>by rw [hbt3];exact IC a A D c e 3 AA w');have HPB3:=Hd hpb3;obtain ⟨s4,hs4⟩:=eqx (DL a 4);obtain ⟨HS4,HCS3,HEV3⟩:=Hd3 hs4 (show s4=if pb3=true then { Dp a 3 s3 with kinds:=s3.kinds+8 } else s3 by rw [hs4,HS3.o,hpb3,hbt3,hem3];exact Hr a 3 AA AA) hem3;clear hs4 hbt3 hem3 hpb3;obtain ⟨lo3,hlo3⟩:=eqx ((Cy a).1);obtain ⟨hi3,hhi3⟩:=eqx ((Cy a).2);obtain ⟨HMS3,HLO3,HHI3⟩:=Hd3 (show ∀ w',Cl 77 #[.agg #[.I a.dl,.I a.dh],.agg #[.I 0,.I 3652058]] w' (Cd w' (lo3,hi3)) from fun w'=>by rw [show (lo3,hi3)=CZ (a.dl,a.dh) (0,3652058) by rw [hlo3,hhi3];rfl];exact Ms _ _ _ _ w') hlo3 hhi3;clear hlo3 hhi3;have hba:=HB11.o.keep (HX9.o.kept _);have q10:=hba.q10;have q11:=hba.q11;clear hba
 go_wp2_with fail
 refine (HMS3.o _).mono ?_;rintro ee wp ⟨rfl,hxn⟩;have HXP:=Hd (HX9.o.trans hxn);have HRP:=Hd (HR9.o.keep (hxn.kept _));clear hxn q10 q11
 go_upto_region 12 with fail
 obtain ⟨w10,hwn⟩:=eqx (wp.alloc (.cells #[.I lo3,.I hi3] 36));obtain ⟨g6,hgv⟩:=eqx wp.heap.size;rw [←hwn,←hgv];have hsp:=HXP.o.size;have hlp:=HRP.o.lt;obtain ⟨HX10,HR10,HBV3,HNV3,HGV3⟩:=Hd5 (show Ext w1 w10 by rw [hwn];exact HXP.o.alloc _) (show Blk w10 g3 39 (Ap s3 none 0 none 0) by rw [hwn];exact HRP.o.keep (Kept.alloc _ _ _)) (show Blk w10 g6 36 #[.I lo3,.I hi3] by rw [hwn,hgv];exact Blk.new _ _ _) (show ¬g3=g6 by omega) (show w1.heap.size≤g6 by rw [hgv];exact hsp);clear hwn hgv hsp hlp
 go_upto_region 12 with fail
 go_cut [66] (fun v wx=>v=.bool pb3∧Ext w10 wx)
 case first =>
  refine wp_region_lit ?_;refine AJ rfl 39 _ rfl g1 rfl (HB11.o.keep (HX10.o.kept _)) AS AH ?_
  go_wp2_with fail
  refine (HHA3.o _).mono ?_;rintro ee wz ⟨rfl,hxz⟩;have HXZ:=Hd hxz;have hbv:=HBV3.o.keep (hxz.kept _);obtain ⟨v0,v1⟩:=hbv.qs2;clear hbv;have HE:=Hd (show em3=decide (lo3≤hi3) by rw [HEV3.o,HLO3.o,HHI3.o];rfl);clear hxz;cases bt3
  ·go_wp2
   go_meet
   case rel=>exact ⟨by rw [HPB3.o];rfl,HXZ.o⟩
  ·by_cases hle:lo3≤hi3
   ·have HPT:=Hd (show pb3=true by rw [HPB3.o,HE.o,decide_eq_true hle];rfl);exact E7
   ·have HPT:=Hd (show pb3=false by rw [HPB3.o,HE.o,decide_eq_false hle];rfl);exact E7
 case rest =>
 obtain ⟨w11,rfl⟩:=eqx wc;obtain ⟨rfl,hx11⟩:=hcut;obtain ⟨HX11,HR11,HBW3⟩:=Hd3 (HX10.o.trans hx11) (HR10.o.keep (hx11.kept _)) (HBV3.o.keep (hx11.kept _))
 go_upto_if 66 with fail
 go_cut [] (fun wx=>Blk wx g3 39 (Ap s4 none 0 none 0)∧Ext w1 wx)
 case first =>
  cases pb3
  ·have HF:=Hd (show s4=s3 by rw [HCS3.o,if_neg AC])
   go_wp2_with fail
   go_meet
   case rel =>
    rw [HF.o];exact ⟨HR11.o,HX11.o⟩
  ·have HF:=Hd (show s4 = { Dp a 3 s3 with kinds:=s3.kinds+8 } by rw [HCS3.o,if_pos rfl]);have hck:=IA a 3;rw [←HS3.o] at hck;obtain ⟨y,hy⟩:=eqx (s3.kinds+8);have hwr:IntKind.i64.wrap (s3.kinds+8)=y:=Gu;have HY:=Hd hy;clear hck hy;have r0:=HR11.o.q0;have rf:=HR11.o.frozen;have rl:=HR11.o.lt
   go_upto_region 14 with fail
   obtain ⟨wb,hwb⟩:=eqx (w11.setCell ⟨g3,0,none⟩ (.I y));rw [←hwb];obtain ⟨HXB,HRB,HWB⟩:=Hd3 (show Ext w1 wb by rw [hwb];exact HX11.o.set2 (Bl HG3.o) _) (show Blk wb g3 39 #[.I y,.I s3.tx.least,.I s3.tx.most,.I s3.tx.cls,.string s3.tx.b,.string s3.tx.e,.I s3.nu.ln,.I s3.nu.ls,.I s3.nu.hn,.I s3.nu.hs,.I s3.dl,.I s3.dh,.I s3.bo,.I s3.rl,.I s3.rh,.slice none s3.cols.length 0,.slice none s3.deps.length 0,.bool s3.errs] by rw [hwb];simpa using HR11.o.set 0 (.I y)) hwb;clear hwb r0 rf rl;have hbv:Blk wb g6 36 #[.I lo3,.I hi3]:=(by rw [HWB.o];exact HBW3.o.keep (Kept.set2 (Kept.refl _ _) HNV3.o));obtain ⟨v0,v1⟩:=hbv.qs2;clear hbv;have rf:=HRB.o.frozen;have rl:=HRB.o.lt;have r10:=HRB.o.q10;have r11:=HRB.o.q11
   go_wp2_with fail
   go_meet
   case rel =>
    refine ⟨?_,?_⟩
    ·have hbb:=((HRB.o.set 10 (.I lo3)).set 11 (.I hi3));rw [HF.o,←HY.o]
     simpa [Dp,←HLO3.o,←HHI3.o] using hbb
    ·iterate 2 with_reducible refine Ext.set2 ?_ (Bl HG3.o) _
     with_reducible exact HXB.o
 case rest =>
 obtain ⟨w12,rfl⟩:=eqx wc;obtain ⟨hr12,hx12⟩:=hcut;have HX12:=Hd hx12;have HR12:=Hd hr12;clear hr12 hx12 HR11 HX11;obtain ⟨bt4,hbt4⟩:=eqx (bt a.kinds 4);obtain ⟨em4,hem4⟩:=eqx (Bw a 4);obtain ⟨pb4,hpb4⟩:=eqx (bt4&&em4);have HHA4:=Hd (show ∀ w',Cl 44 #[(Aq a A c D e),.I 4] w' (Ae w' bt4) from fun w'=>by rw [hbt4];exact IC a A D c e 4 AA w');have HPB4:=Hd hpb4;obtain ⟨s5,hs5⟩:=eqx (DL a 5);obtain ⟨HS5,HCS4,HEV4⟩:=Hd3 hs5 (show s5=if pb4=true then { Dp a 4 s4 with kinds:=s4.kinds+16 } else s4 by rw [hs5,HS4.o,hpb4,hbt4,hem4];exact Hr a 4 AA AA) hem4;clear hs5 hbt4 hem4 hpb4;obtain ⟨j4,hj4⟩:=eqx (boI a);have HJ4:=Hd hj4;have hjj:bits .and .i64 a.bo 3=j4:=hj4.symm;clear hj4
 go_upto_region 15 with fail
 go_cut [80] (fun v wx=>v=.bool pb4∧Ext w12 wx)
 case first =>
  refine wp_region_lit ?_;refine AJ rfl 39 _ rfl g1 rfl (HB11.o.keep (HX12.o.kept _)) AS AH ?_
  go_wp2_with fail
  refine (HHA4.o _).mono ?_;rintro ee wz ⟨rfl,hxz⟩;have HXZ:=Hd hxz;have hba:=HB11.o.keep ((HX12.o.trans hxz).kept _);have q12:=hba.q12;clear hba;have HE:=Hd (show em4=decide (j4≠0) by rw [HEV4.o,HJ4.o];rfl);clear hxz;cases bt4
  ·go_wp2
   go_meet
   case rel=>exact ⟨by rw [HPB4.o];rfl,HXZ.o⟩
  ·by_cases hle:j4=0
   ·have HPT:=Hd (show pb4=false by rw [HPB4.o,HE.o,hle];rfl);have hjn:(j4 != 0)=false:=(by rw [hle];rfl);exact E7
   ·have HPT:=Hd (show pb4=true by rw [HPB4.o,HE.o,decide_eq_true hle];rfl);have hjn:(j4 != 0)=true:=(by simpa using hle);exact E7
 case rest =>
 obtain ⟨w13,rfl⟩:=eqx wc;obtain ⟨rfl,hx13⟩:=hcut;have HX13:=Hd (HX12.o.trans hx13);have HR13:=Hd (HR12.o.keep (hx13.kept _))
 go_upto_if 80 with fail
 go_cut [] (fun wx=>Blk wx g3 39 (Ap s5 none 0 none 0)∧Ext w1 wx)
 case first =>
  cases pb4
  ·have HF:=Hd (show s5=s4 by rw [HCS4.o,if_neg AC])
   go_wp2_with fail
   go_meet
   case rel =>
    rw [HF.o];exact ⟨HR13.o,HX13.o⟩
  ·have HF:=Hd (show s5 = { Dp a 4 s4 with kinds:=s4.kinds+16 } by rw [HCS4.o,if_pos rfl]);have hck:=IA a 4;rw [←HS4.o] at hck;obtain ⟨y,hy⟩:=eqx (s4.kinds+16);have hwr:IntKind.i64.wrap (s4.kinds+16)=y:=Gu;have HY:=Hd hy;clear hck hy;have r0:=HR13.o.q0;have rf:=HR13.o.frozen;have rl:=HR13.o.lt
   go_upto_region 17 with fail
   obtain ⟨wb,hwb⟩:=eqx (w13.setCell ⟨g3,0,none⟩ (.I y));rw [←hwb];obtain ⟨HXB,HRB,HWB⟩:=Hd3 (show Ext w1 wb by rw [hwb];exact HX13.o.set2 (Bl HG3.o) _) (show Blk wb g3 39 #[.I y,.I s4.tx.least,.I s4.tx.most,.I s4.tx.cls,.string s4.tx.b,.string s4.tx.e,.I s4.nu.ln,.I s4.nu.ls,.I s4.nu.hn,.I s4.nu.hs,.I s4.dl,.I s4.dh,.I s4.bo,.I s4.rl,.I s4.rh,.slice none s4.cols.length 0,.slice none s4.deps.length 0,.bool s4.errs] by rw [hwb];simpa using HR13.o.set 0 (.I y)) hwb;clear hwb r0 rf rl;have hba:=HB11.o.keep (HXB.o.kept _);have q12:=hba.q12;clear hba;have rf:=HRB.o.frozen;have rl:=HRB.o.lt;have r12:=HRB.o.q12
   go_wp2_with fail
   go_meet
   case rel =>
    refine ⟨?_,?_⟩
    ·have hbb:=(HRB.o.set 12 (.I j4));rw [HF.o,←HY.o]
     simpa [Dp,←HJ4.o] using hbb
    ·iterate 1 with_reducible refine Ext.set2 ?_ (Bl HG3.o) _
     with_reducible exact HXB.o
 case rest =>
 obtain ⟨w14,rfl⟩:=eqx wc;obtain ⟨hr14,hx14⟩:=hcut;have HX14:=Hd hx14;have HR14:=Hd hr14;clear hr14 hx14 HR13 HX13 hjj;clear HWA HB1A HB2A;obtain ⟨bt5,hbt5⟩:=eqx (bt a.kinds 5);have HHA5:=Hd (show ∀ w',Cl 44 #[(Aq a A c D e),.I 5] w' (Ae w' bt5) from fun w'=>by rw [hbt5];exact IC a A D c e 5 AA w');have HBT5:=Hd hbt5;obtain ⟨cs,hcs⟩:=eqx (An (ddp a.cols));obtain ⟨ds,hds⟩:=eqx (ddp a.deps);have hcl:cs.length≤1000000:=(by have:=F4 a.cols;rw [hcs];simp [An];omega);have hdl:ds.length≤1000000:=(by have:=F4 a.deps;rw [hds];omega);have hall:∀ p:BA→Bool,cs.all p=(ddp a.cols).all p:=fun p=>by
  rw [Bool.eq_iff_iff,List.all_eq_true,List.all_eq_true,hcs];exact ⟨fun h x hx=>h x (Ek.2 hx),fun h x hx=>h x (Ek.1 hx)⟩
 have hcl2:(ddp a.cols).length=cs.length:=(by rw [hcs];simp [An]);obtain ⟨HNM,HDE,HCS,HDS,HALL⟩:=Hd5 (show ∀ w',Ext w w'→Cl 78 #[.slice A a.cols.length c] w' (Wq w'.heap.size w' cs) from fun w' hw'=>by rw [hcs,←GQA];exact CjA a.cols A c w' _ (HA.o.keep (hw'.kept _)) hz3) (show ∀ w',Ext w w'→Cl 80 #[.slice D a.deps.length e] w' (DTA w' ds) from fun w' hw'=>by rw [hds];exact DjA a.deps D e w' _ (HD.o.keep (hw'.kept _)) hz4) hcs hds (And.intro (hall Ba) hcl2);clear hcs hds hall hcl2 hbt5;obtain ⟨lo5,hlo5⟩:=eqx ((DF a).1);obtain ⟨hi5,hhi5⟩:=eqx ((DF a).2);obtain ⟨HMS5,HLO5,HHI5⟩:=Hd3 (show ∀ w',Cl 77 #[.agg #[.I a.rl,.I a.rh],.agg #[.I 0,.I 100]] w' (Cd w' (lo5,hi5)) from fun w'=>by rw [show (lo5,hi5)=CZ (a.rl,a.rh) (0,100) by rw [hlo5,hhi5];rfl];exact Ms _ _ _ _ w') hlo5 hhi5;clear hlo5 hhi5;have hba:=HB11.o.keep (HX14.o.kept _);have q13:=hba.q13;have q14:=hba.q14;clear hba
 go_wp2_with fail
 refine (HMS5.o _).mono ?_;rintro ee wp ⟨rfl,hxn⟩;have HXP:=Hd (HX14.o.trans hxn);have HRP:=Hd (HR14.o.keep (hxn.kept _));clear hxn q13 q14
 go_upto_region 19 with fail
 obtain ⟨w15,hwn⟩:=eqx (wp.alloc (.cells #[.I lo5,.I hi5] 36));obtain ⟨g7,hgv⟩:=eqx wp.heap.size;rw [←hwn,←hgv];have hsp:=HXP.o.size;have hlp:=HRP.o.lt;obtain ⟨HX15,HR15,HBV5,HNV5,HGV5⟩:=Hd5 (show Ext w1 w15 by rw [hwn];exact HXP.o.alloc _) (show Blk w15 g3 39 (Ap s5 none 0 none 0) by rw [hwn];exact HRP.o.keep (Kept.alloc _ _ _)) (show Blk w15 g7 36 #[.I lo5,.I hi5] by rw [hwn,hgv];exact Blk.new _ _ _) (show ¬g3=g7 by omega) (show w1.heap.size≤g7 by rw [hgv];exact hsp);clear hwn hgv hsp hlp;have hba:=HB11.o.keep (HX15.o.kept _);have q15:w15.cell? ⟨g1,15,none⟩=some (.slice A a.cols.length c):=hba.q15;clear hba
 go_wp2_with fail
 refine (HNM.o _ (HX1.o.trans HX15.o)).mono ?_;rintro ee w16 ⟨A2,c2,rfl,hok,hst,hx16⟩;obtain ⟨HX16,HR16,HBW5,HOK⟩:=Hd4 (HX15.o.trans hx16) (HR15.o.keep (hx16.kept _)) (HBV5.o.keep (hx16.kept _)) hok;have hg3l:=HR15.o.lt;have HST:=Hd (hst.mono (T:=fun b=>g3<b) fun b _ hb=>AA);clear q15 hx16 hok hst hg3l
 go_upto_block 0 with fail
 go_cut [9] (fun v wx=>v=.bool (decide (cs.length≤8)&&cs.all Ba)∧w16=wx)
 case first =>
  have hcn:(cs.length:Int)≤8↔cs.length≤8:=AA;have HCN:=Hd hcn;clear hcn;go_wp2
  go_loop [10,9] (fun i v=>∃ k:Nat,k≤cs.length∧i=.I k∧v=.bool (decide ((cs.length:Int)≤8)&&(cs.take k).all Ba)) (fun i _=>cs.length-(intOf i).toNat)
  case atStart=>exact ⟨0,AN,rfl,AC⟩
  case round =>
   obtain ⟨k,hk,rfl,rfl⟩:=hrel;by_cases hlt:k<cs.length
   ·obtain ⟨b1,o1,rfl,z1,c1⟩:=HST.o.at_ hlt;have HNA:=Hd (fun w'=>YP cs[k] (HST.o.sz hlt) w');obtain ⟨nk,hnk⟩:=eqx (Ba cs[k]);rw [←hnk] at HNA;obtain ⟨pf,hpf⟩:=eqx ((decide ((cs.length:Int)≤8)&&(cs.take k).all Ba));have HNX:=Hd (show (decide ((cs.length:Int)≤8)&&(cs.take (k+1)).all Ba)=(pf&&nk) by rw [hpf,hnk,List.take_succ_eq_append_getElem hlt,List.all_append,Bool.and_assoc];simp);rw [←hpf];clear hnk hpf
    go_wp2_with fail
    refine (HNA.o _).mono ?_;rintro ee wz ⟨rfl,rfl⟩;cases pf
    all_goals
     go_wp2
     go_round
     case rel=>exact ⟨k+1,AA,AE,by rw [HNX.o];rfl⟩
     case measure=>simp [intOf];omega
   ·obtain rfl:k=cs.length:=AA;go_wp2
    go_meet
    case rel=>exact ⟨by rw [decide_eq_decide.2 HCN.o],rfl⟩
 case rest =>
 obtain ⟨rfl,rfl⟩:=hcut;obtain ⟨fi,hfi⟩:=eqx (decide (cs.length≤8)&&cs.all Ba);rw [←hfi];have HFI:=Hd hfi;obtain ⟨em5,hem5⟩:=eqx (decide (lo5≤hi5)&&fi);obtain ⟨pb5,hpb5⟩:=eqx (bt5&&em5);have hpp:Bw a 5=em5:=by
  rw [hem5,hfi,HLO5.o,HHI5.o,HALL.o.1,←HALL.o.2,←Bool.and_assoc];rfl
 have HPB5:=Hd hpb5;have HEM5:=Hd hem5;obtain ⟨s6,hs6⟩:=eqx (DL a 6);have HS6:=Hd hs6;have HCS5:=Hd (show s6=if pb5=true then { Dp a 5 s5 with kinds:=s5.kinds+32 } else s5 by rw [hs6,HS5.o,hpb5,HBT5.o,←hpp];exact Hr a 5 AA AA);clear hfi hem5 hpb5 hs6 hpp
 go_upto_region 26 with fail
 go_cut [125] (fun v wx=>v=.bool pb5∧Ext w16 wx)
 case first =>
  refine wp_region_lit ?_;refine AJ rfl 39 _ rfl g1 rfl (HB11.o.keep (HX16.o.kept _)) AS AH ?_
  go_wp2_with fail
  refine (HHA5.o _).mono ?_;rintro ee wz ⟨rfl,hxz⟩;have HXZ:=Hd hxz;have hbv:=HBW5.o.keep (hxz.kept _);obtain ⟨v0,v1⟩:=hbv.qs2;clear hbv hxz;cases bt5
  ·go_wp2
   go_meet
   case rel=>exact ⟨by rw [HPB5.o];rfl,HXZ.o⟩
  ·by_cases hle:lo5≤hi5
   ·have HPT:=Hd (show pb5=fi by rw [HPB5.o,HEM5.o,decide_eq_true hle];rfl);cases fi
    all_goals
     go_wp2
     go_meet
     case rel=>exact ⟨by simp [HPT.o],HXZ.o⟩
   ·have HPT:=Hd (show pb5=false by rw [HPB5.o,HEM5.o,decide_eq_false hle];rfl);exact E7
 case rest =>
 obtain ⟨w17,rfl⟩:=eqx wc;obtain ⟨rfl,hx17⟩:=hcut;obtain ⟨HX17,HR17,HBX5,HST17⟩:=Hd4 (HX16.o.trans hx17) (HR16.o.keep (hx17.kept _)) (HBW5.o.keep (hx17.kept _)) (HST.o.keep (hx17.kept _));clear hx17
 go_upto_if 125 with fail
 go_cut [] (fun wx=>∃ (A':OA) (c':Nat) (D':OA) (e':Nat),Blk wx g3 39 (Ap s6 A' c' D' e')∧AbM wx (fun b=>g3<b) s6 A' c' D' e'∧Ext w1 wx)
 case first =>
  cases pb5
  ·have HF:=Hd (show s6=s5 by rw [HCS5.o,if_neg AC])
   go_wp2_with fail
   go_meet
   case rel =>
    rw [HF.o];exact ⟨none,0,none,0,HR17.o,AbM.nil (by rw [HS5.o];exact Ws a AA),HX17.o⟩
  ·have HF:=Hd (show s6 = { Dp a 5 s5 with kinds:=s5.kinds+32 } by rw [HCS5.o,if_pos rfl]);have hck:=IA a 5;rw [←HS5.o] at hck;obtain ⟨y,hy⟩:=eqx (s5.kinds+32);have hwr:IntKind.i64.wrap (s5.kinds+32)=y:=Gu;have HY:=Hd hy;clear hck hy;have r0:=HR17.o.q0;have rf:=HR17.o.frozen;have rl:=HR17.o.lt
   go_upto_region 28 with fail
   obtain ⟨wb,hwb⟩:=eqx (w17.setCell ⟨g3,0,none⟩ (.I y));rw [←hwb];obtain ⟨HXB,HRB,HWB⟩:=Hd3 (show Ext w1 wb by rw [hwb];exact HX17.o.set2 (Bl HG3.o) _) (show Blk wb g3 39 #[.I y,.I s5.tx.least,.I s5.tx.most,.I s5.tx.cls,.string s5.tx.b,.string s5.tx.e,.I s5.nu.ln,.I s5.nu.ls,.I s5.nu.hn,.I s5.nu.hs,.I s5.dl,.I s5.dh,.I s5.bo,.I s5.rl,.I s5.rh,.slice none s5.cols.length 0,.slice none s5.deps.length 0,.bool s5.errs] by rw [hwb];simpa using HR17.o.set 0 (.I y)) hwb;clear hwb r0 rf rl;have hbv:Blk wb g7 36 #[.I lo5,.I hi5]:=(by rw [HWB.o];exact HBX5.o.keep (Kept.set2 (Kept.refl _ _) HNV5.o));obtain ⟨v0,v1⟩:=hbv.qs2;clear hbv;have rf:=HRB.o.frozen;have rl:=HRB.o.lt;have r13:=HRB.o.q13;have r14:=HRB.o.q14;have r15:=HRB.o.q15
   go_upto_region 30 with fail
   obtain ⟨wd,hwd⟩:=eqx (((wb.setCell ⟨g3,13,none⟩ (.I lo5)).setCell ⟨g3,14,none⟩ (.I hi5)).setCell ⟨g3,15,none⟩ (.slice A2 cs.length c2));rw [←hwd];obtain ⟨HXD,HRD,HSTD⟩:=Hd3 (show Ext w1 wd by rw [hwd];exact ((HXB.o.set2 (Bl HG3.o) _).set2 (Bl HG3.o) _).set2 (Bl HG3.o) _) (show Blk wd g3 39 #[.I y,.I s5.tx.least,.I s5.tx.most,.I s5.tx.cls,.string s5.tx.b,.string s5.tx.e,.I s5.nu.ln,.I s5.nu.ls,.I s5.nu.hn,.I s5.nu.hs,.I s5.dl,.I s5.dh,.I s5.bo,.I lo5,.I hi5,.slice A2 cs.length c2,.slice none s5.deps.length 0,.bool s5.errs] by rw [hwd];simpa using ((HRB.o.set 13 (.I lo5)).set 14 (.I hi5)).set 15 (.slice A2 cs.length c2)) (show Strs wd (fun b=>g3<b) A2 cs by rw [hwd,HWB.o];exact HST17.o.keep ((((Kept.refl _ _).set2 (Nat.lt_irrefl g3)).set2 (Nat.lt_irrefl g3)).set2 (Nat.lt_irrefl g3) |>.set2 (Nat.lt_irrefl g3)));clear hwd r13 r14 r15 rf rl v0 v1;have hba:=HB11.o.keep (HXD.o.kept _);have q16:wd.cell? ⟨g1,16,none⟩=some (.slice D a.deps.length e):=hba.q16;clear hba
   go_wp2_with fail
   refine (HDE.o _ (HX1.o.trans HXD.o)).mono ?_;rintro ee wj ⟨D2,e2,rfl,hcd,hrd,hxj⟩;obtain ⟨HXJ,HRJ,HSTJ⟩:=Hd3 (HXD.o.trans hxj) (HRD.o.keep (hxj.kept _)) (HSTD.o.keep (hxj.kept _));have hg3l:=HRD.o.lt;have HDJ:=Hd (hrd.mono (T:=fun b=>g3<b) fun b _ (hb:wd.heap.size≤b)=>AA);have HCD:=Hd hcd;clear hxj hrd hcd hg3l q16;have rf:=HRJ.o.frozen;have rl:=HRJ.o.lt;have r16:wj.cell? ⟨g3,16,none⟩=some (.slice none s5.deps.length 0):=HRJ.o.q16
   go_wp2_with fail
   go_meet
   case rel =>
    have hp5:Dp a 5 s5 = { s5 with rl:=lo5,rh:=hi5,cols:=cs,deps:=ds }:=(by rw [HLO5.o,HHI5.o,HCS.o,HDS.o];rfl);have hcc:cs.length≤c2:=by
     rcases HOK.o with ⟨_,h,_⟩|⟨_,_,_,h⟩
     ·omega
     ·exact h
    have hk:=(Kept.refl (fun b=>g3<b) wj).set2 (g:=g3) (i:=16) (u:=.slice D2 ds.length e2) (Nat.lt_irrefl g3);refine ⟨A2,c2,D2,e2,?_,⟨?_,?_,?_,?_⟩,HXJ.o.set2 (Bl HG3.o) _⟩
    ·have hbb:=HRJ.o.set 16 (.slice D2 ds.length e2);rw [HF.o,←HY.o,hp5]
     simpa using hbb
    ·rw [HF.o,hp5];exact hcc
    ·rw [HF.o,hp5];exact HCD.o
    ·rw [HF.o,hp5];exact HSTJ.o.keep hk
    ·rw [HF.o,hp5];exact HDJ.o.keep hk
 case rest =>
 obtain ⟨w18,rfl⟩:=eqx wc;obtain ⟨A',c',D',e',hr18,hab,hx18⟩:=hcut;obtain ⟨HAB,HX18,HR18⟩:=Hd3 hab hx18 hr18;clear hab hr18 hx18 HR17 HX17;have HSF:=Hd (show s6=AX a by rw [HS6.o,B1A]);have HB2R:=Hd (HB21.o.keep (HX18.o.kept _))
 go_upto_region 31 with fail
 refine wp_region_lit ?_;refine AJ rfl 39 _ rfl g3 rfl HR18.o AS AH ?_;refine AM rfl 39 _ _ rfl g2 (Ap s6 A' c' D' e') rfl rfl 39 _ HB2R.o AH rfl AD ?_;intro w9 hb9 ho9;refine wpList_nil ?_;have hg2l:=HB21.o.lt;obtain ⟨HX9,HAB9,HB9⟩:=Hd3 ((HX1.o.trans HX18.o).only ho9 Bq) (HAB.o.keep (ho9.kept (S:=fun b=>g3<b) fun b _ hb e=>by have:=HG2.o;have:=HG3.o;omega)) hb9;clear hb9 ho9 hg2l;go_wp2;refine bodyPost_ret (Bv results29 rfl (Eq HB9.o AS AH)) rfl ?_;rw [←HSF.o];exact ⟨A',c',D',e',rfl,HAB9.o.mono fun b _ hb=>.inr (by have:=HG3.o;have:=HX1.o.size;omega),HX9.o⟩


end Go.Proofs.YtidacnalcdhckaaGreatDoor
