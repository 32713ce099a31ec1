/- The program's table.Sum. Conditions: the arguments read as data, the table of tens is there. -/
import Derived.Test.YthmckfloppblcaaGreatDoorBj13
import Derived.Deep.DeepCutAuto
import Derived.Deep.RegionHeld3
set_option maxRecDepth 100000
set_option maxHeartbeats 2000000
namespace Go.Proofs.YthmckfloppblcaaGreatDoor
open Go Go.RowKit

def numW (n s:Int):Val:=⟨2,⟨#[]⟩,n,s,0,[],[]⟩
def sumRows (c:Nat) (ln ls:Int):List (List Val)→Int→Int→Val × Int
 | [],n,s=>(numW n s,0)
 | r :: rs,n,s =>
  if (r.getD c Val.zero).kind≠2 then (Val.zero,14)
  else if (addS n s (r.getD c Val.zero).dn (r.getD c Val.zero).ds).2=false then (Val.zero,3)
  else if cmpI (mu (addS n s (r.getD c Val.zero).dn (r.getD c Val.zero).ds).1.1 (addS n s (r.getD c Val.zero).dn (r.getD c Val.zero).ds).1.2) (mu ln ls)<0 then (Val.zero,20)
  else sumRows c ln ls rs (addS n s (r.getD c Val.zero).dn (r.getD c Val.zero).ds).1.1 (addS n s (r.getD c Val.zero).dn (r.getD c Val.zero).ds).1.2
def sumS (x:Val) (col:ByteArray) (ln ls:Int):Val × Int :=
 if (decide (x.kind=5) && rightB x)=false then (Val.zero,14) else if idxS x.cols col<0 then (Val.zero,13) else sumRows (idxS x.cols col).toNat ln ls x.rows 0 0

theorem keep4 {w w':World} {p0 p1 p2 p3:Addr} {v0 v1 v2 v3:Value} (h:Ext w w') (h0:w.cell? p0=some v0) (h1:w.cell? p1=some v1) (h2:w.cell? p2=some v2) (h3:w.cell? p3=some v3) :
  w'.cell? p0=some v0∧w'.cell? p1=some v1∧w'.cell? p2=some v2∧w'.cell? p3=some v3:=⟨h.cell h0,h.cell h1,h.cell h2,h.cell h3⟩
theorem table_Sum (q:Nat) (x:Val) (col:ByteArray) (ln ls:Int) (A B:Option Addr) (c e:Nat) (w:World) (S:Nat→Prop) (h:RV w S q x A B) (hcap:x.cols.length≤c) (ht:Tens w) :
  Calls Tryz.prog 24 #[(.agg #[.int .i64 x.kind,.string x.s,.int .i64 x.dn,.int .i64 x.ds,.int .i64 x.n,.slice A x.cols.length c,.slice B x.rows.length e]),.string col,.agg #[.int .i64 ln,.int .i64 ls]] w (RetVE w (Fresh w) q (sumS x col ln ls)):=by
 have H:=Hd h;have HT:=Hd ht;have hcl:=h.strs.2.1;have hrl:=h.rows_.len;clear h ht
 go_enter Tryz.func24,Tryz.ntmps24
 go_wp2_with fail
 refine (table_isTable q x A B c e _ S (H.o.keep (((((Ext.refl w).alloc _).alloc _).alloc _).kept _)) hcap).mono ?_;rintro e1 w1 ⟨rfl,hx1⟩;have HX1:=Hd ((((Ext.refl w).alloc _).alloc _).alloc _ |>.trans hx1);have hz0:=hx1.size;simp at hz0;have hz1:w.heap.size<w1.heap.size:=(by omega);have hz2:w.heap.size+1<w1.heap.size:=(by omega);have hz3:w.heap.size+1+1<w1.heap.size:=(by omega);obtain ⟨hc1,hf1⟩:=bcell hx1;simp at hc1 hf1;cases hR:(decide (x.kind=5) && rightB x)
 ·have HF:=Hd (show sumS x col ln ls=(Val.zero,14) by unfold sumS; rw [hR,if_pos rfl]);clear hR hx1;go_wp2;rw [HF.o];refine bodyPost_ret (v:=.tuple #[(.agg #[.int .i64 Val.zero.kind,.string Val.zero.s,.int .i64 Val.zero.dn,.int .i64 Val.zero.ds,.int .i64 Val.zero.n,.slice none Val.zero.cols.length 0,.slice none Val.zero.rows.length 0]),.int .i64 14]) (by simp [results,Tryz.results24,go_sem,hc1,Val.zero]) rfl ⟨none,0,none,0,rfl,⟨Nat.le_refl _,Nat.le_refl _⟩,RV.zero,?_⟩
  iterate 7 with_reducible refine Ext.set2 ?_ (by omega) _
  with_reducible exact HX1.o
 have HR:=Hd hR;have g1:w1.cell? ⟨w.heap.size,5,none⟩=some (.slice A x.cols.length c):=(by rw [hc1 _ _ (by omega)]; simp [go_sem]);have g2:w1.cell? ⟨w.heap.size,6,none⟩=some (.slice B x.rows.length e):=(by rw [hc1 _ _ (by omega)]; simp [go_sem]);have bL:Blk w1 (w.heap.size+1) 27 #[.int .i64 ln,.int .i64 ls]:=by
  have:=((Blk.new (w.alloc (.cells #[.int .i64 x.kind,.string x.s,.int .i64 x.dn,.int .i64 x.ds,.int .i64 x.n,.slice A x.cols.length c,.slice B x.rows.length e] 31)) 27 #[.int .i64 ln,.int .i64 ls]).keep (Kept.alloc _ _ _)).keep (hx1.kept _)
  simpa using this
 have bR:Blk w1 (w.heap.size+1+1) 31 #[.int .i64 Val.zero.kind,.string Val.zero.s,.int .i64 Val.zero.dn,.int .i64 Val.zero.ds,.int .i64 Val.zero.n,.slice none Val.zero.cols.length 0,.slice none Val.zero.rows.length 0]:=by
  have:=(Blk.new ((w.alloc (.cells #[.int .i64 x.kind,.string x.s,.int .i64 x.dn,.int .i64 x.ds,.int .i64 x.n,.slice A x.cols.length c,.slice B x.rows.length e] 31)).alloc (.cells #[.int .i64 ln,.int .i64 ls] 27)) 31 #[.int .i64 Val.zero.kind,.string Val.zero.s,.int .i64 Val.zero.dn,.int .i64 Val.zero.ds,.int .i64 Val.zero.n,.slice none Val.zero.cols.length 0,.slice none Val.zero.rows.length 0]).keep (hx1.kept _)
  simpa using this
 have HBL:=Hd bL;have HBR:=Hd bR;have HV:=Hd (H.o.keep (HX1.o.kept S));clear hx1 hc1 hf1 bL bR hR;by_cases hk:0≤idxS x.cols col
 case neg =>
  have HF:=Hd (show sumS x col ln ls=(Val.zero,13) by
   unfold sumS;rw [HR.o,if_neg (by simp),if_pos (by omega)])
  have r0:=HBR.o.cell (i:=0) rfl;have r1:=HBR.o.cell (i:=1) rfl;have r2:=HBR.o.cell (i:=2) rfl;have r3:=HBR.o.cell (i:=3) rfl;have r4:=HBR.o.cell (i:=4) rfl;have r5:=HBR.o.cell (i:=5) rfl;have r6:=HBR.o.cell (i:=6) rfl;have rf:=HBR.o.frozen
  go_wp2_with (go_at_call 32; refine (slices_Index _ _ _ _ _ S HV.o.strs).mono ?_; rintro e w' ⟨rfl,rfl⟩)
  rw [HF.o];refine bodyPost_ret (v:=.tuple #[(.agg #[.int .i64 Val.zero.kind,.string Val.zero.s,.int .i64 Val.zero.dn,.int .i64 Val.zero.ds,.int .i64 Val.zero.n,.slice none Val.zero.cols.length 0,.slice none Val.zero.rows.length 0]),.int .i64 13]) (by simp [results,Tryz.results24,go_sem,r0,r1,r2,r3,r4,r5,r6,Val.zero]) rfl ⟨none,0,none,0,rfl,⟨Nat.le_refl _,Nat.le_refl _⟩,RV.zero,?_⟩
  iterate 7 with_reducible refine Ext.set2 ?_ (by omega) _
  with_reducible exact HX1.o
 obtain ⟨k,hk1,hk2,-⟩:=idxS_at hk;have HK:=Hd hk1;have HF:=Hd (show sumS x col ln ls=sumRows k ln ls x.rows 0 0 by
  unfold sumS;rw [HR.o,if_neg (by simp),if_neg (by omega),hk1];simp)
 clear hk hk1
 go_wp2_with (go_at_call 32; refine (slices_Index _ _ _ _ _ S HV.o.strs).mono ?_; rintro e w' ⟨rfl,rfl⟩; rw [HK.o])
 have HST:=Hd (Blk.new w1 27 #[.int .i64 0,.int .i64 0])
 go_loopw [28] (fun i wr=>∃ (m:Nat) (n s:Int),m≤x.rows.length∧i=.int .i64 m∧Ext w1 wr∧Blk wr w1.heap.size 27 #[.int .i64 n,.int .i64 s]∧sumRows k ln ls (x.rows.drop m) n s=sumRows k ln ls x.rows 0 0) (fun i _=>x.rows.length-(intOf i).toNat)
 case atStart=>exact ⟨0,0,0,Nat.zero_le _,rfl,(Ext.refl _).alloc _,HST.o,rfl⟩
 case round =>
  clear HST g1 g2;obtain ⟨m,n,s,hm,rfl,hext,hbs,hfr⟩:=hrel;have HFR:=Hd hfr;have HE:=Hd hext;have HBS:=Hd hbs;have hbz:=hbs.lt;clear hfr hbs;by_cases hlt:m<x.rows.length
  ·obtain ⟨b1,o1,A2,c2,rfl,z1,p0,hcr,hrow⟩:=(HV.o.rows_.keep (hext.kept S)).at_ hlt;have hkr:k<x.rows[m].length:=by
    have h9:=HR.o;simp only [Bool.and_eq_true,decide_eq_true_eq] at h9;have h8:=h9.2;unfold rightB at h8;rw [if_pos h9.1,Bool.and_eq_true] at h8;have:=tableR_row h8.1 hlt;omega
   obtain ⟨b2,o2,A5,c5,B5,e5,rfl,z2,⟨q0,q1,q2,q3,q4,q5,q6⟩,-,-⟩:=hrow.at_ hkr;have hrl2:=hrow.len;have HDR:=Hd (show x.rows.drop m=x.rows[m] :: x.rows.drop (m+1) from List.drop_eq_getElem_cons hlt);have HGD:=Hd (show (x.rows[m].getD k Val.zero)=x.rows[m][k] from getD_of _ _ _ hkr);clear hrow hext;by_cases hk0:x.rows[m][k].kind=2
   case neg =>
    have hk0':(x.rows[m][k].kind==2)=false:=(by simp [hk0]);have HK1:=Hd (show sumRows k ln ls x.rows 0 0=(Val.zero,14) by rw [← HFR.o,HDR.o,sumRows,HGD.o,if_pos hk0]);clear hk0;have hbr:=HBR.o.keep (HE.o.kept _);have r0:=hbr.cell (i:=0) rfl;have r1:=hbr.cell (i:=1) rfl;have r2:=hbr.cell (i:=2) rfl;have r3:=hbr.cell (i:=3) rfl;have r4:=hbr.cell (i:=4) rfl;have r5:=hbr.cell (i:=5) rfl;have r6:=hbr.cell (i:=6) rfl;have rf:=hbr.frozen;have hz5:=hbr.lt;clear hbr;go_wp2;rw [HF.o,HK1.o];refine bodyPost_ret (v:=.tuple #[(.agg #[.int .i64 Val.zero.kind,.string Val.zero.s,.int .i64 Val.zero.dn,.int .i64 Val.zero.ds,.int .i64 Val.zero.n,.slice none Val.zero.cols.length 0,.slice none Val.zero.rows.length 0]),.int .i64 14]) (by simp [results,Tryz.results24,go_sem,r0,r1,r2,r3,r4,r5,r6,Val.zero]) rfl ⟨none,0,none,0,rfl,⟨Nat.le_refl _,Nat.le_refl _⟩,RV.zero,?_⟩
    iterate 7 with_reducible refine Ext.set2 ?_ (by omega) _
    exact HX1.o.trans HE.o
   have hk0':(x.rows[m][k].kind==2)=true:=(by simp [hk0]);have HK0:=Hd hk0;have s0:=HBS.o.cell (i:=0) rfl;have s1:=HBS.o.cell (i:=1) rfl;clear hk0;obtain ⟨⟨⟨n2,s2⟩,ok⟩,hr2⟩:∃ r,r=addS n s x.rows[m][k].dn x.rows[m][k].ds:=⟨_,rfl⟩;have HR2:=Hd hr2;clear hr2;have HTW:=Hd ((HT.o.ext HX1.o).ext HE.o);have hall:∀ o,(wr.alloc o).cell? ⟨w1.heap.size,0,none⟩=some (.int .i64 n)∧(wr.alloc o).cell? ⟨w1.heap.size,1,none⟩=some (.int .i64 s):=fun o=>⟨((Ext.refl wr).alloc o).cell s0,((Ext.refl wr).alloc o).cell s1⟩
   go_upto_region 12 with fail
   go_cut [12,13,28] from 28 to 58 (fun p b i wx=>∃ g,p=.pointer (some ⟨g,0,none⟩)∧b=.bool ok∧i=.int .i64 m∧Ext wr wx∧wr.heap.size≤g∧Blk wx g 27 #[.int .i64 n2,.int .i64 s2])
   case first =>
    go_region_held3 (fun w'=>w'.cell? ⟨w1.heap.size,0,none⟩=some (.int .i64 n)∧w'.cell? ⟨w1.heap.size,1,none⟩=some (.int .i64 s)∧w'.cell? ⟨b2,o2+k*7+2,none⟩=some (.int .i64 x.rows[m][k].dn)∧w'.cell? ⟨b2,o2+k*7+3,none⟩=some (.int .i64 x.rows[m][k].ds)) (first | exact keep4 (Ext.refl _) s0 s1 q2 q3 | exact keep4 (Ext.refl _).drew s0 s1 q2 q3 | exact keep4 ((Ext.refl _).alloc _).drew s0 s1 q2 q3 | exact keep4 hy3 s0 s1 q2 q3 | exact keep4 (hy3.alloc _) s0 s1 q2 q3 | exact keep4 (Ext.set2 (Ext.set2 hy3 (Nat.le_refl _) _) (Nat.le_refl _) _) s0 s1 q2 q3) (first | (go_at_call 58; refine (decimal_Add n s x.rows[m][k].dn x.rows[m][k].ds _ ?_).mono ?_; (first | exact HTW.o.ext (Ext.refl _).drew | exact HTW.o.ext ((Ext.refl _).alloc _).drew); rintro e1 w3 ⟨rfl,hx3⟩; rw [← HR2.o]; (first | (have hy3:Ext wr w3:=((Ext.refl wr).drew).trans hx3) | (have hy3:Ext wr w3:=((Ext.refl wr).alloc _).drew.trans hx3; have hb3:=((Blk.new wr 27 #[.int .i64 0,.int .i64 0]).keep (Kept.drew _ _)).keep (hx3.kept _); have f0:=hb3.cell (i:=0) rfl; have f1:=hb3.cell (i:=1) rfl; have ff:=hb3.frozen; have fz:=hb3.lt))))
    all_goals go_wp2_with fail
    all_goals go_meet
    ·exact ⟨w3.heap.size,rfl,rfl,rfl,hy3.alloc _,hy3.size,Blk.new _ _ _⟩
    ·refine ⟨wr.heap.size,rfl,rfl,rfl,Ext.set2 (Ext.set2 hy3 (Nat.le_refl _) _) (Nat.le_refl _) _,Nat.le_refl _,?_⟩;have:=(hb3.set 0 (.int .i64 n2)).set 1 (.int .i64 s2)
     simpa using this
   case rest =>
    obtain ⟨g,rfl,rfl,rfl,hxc,hg,hbc⟩:=hcut;clear s0 s1 q0 q1 q2 q3 q4 q5 q6 p0 hk0';have HSR:=Hd (show sumRows k ln ls x.rows 0 0=if (addS n s x.rows[m][k].dn x.rows[m][k].ds).2=false then (Val.zero,3)
      else if cmpI (mu (addS n s x.rows[m][k].dn x.rows[m][k].ds).1.1 (addS n s x.rows[m][k].dn x.rows[m][k].ds).1.2) (mu ln ls)<0 then (Val.zero,20)
      else sumRows k ln ls (x.rows.drop (m+1)) (addS n s x.rows[m][k].dn x.rows[m][k].ds).1.1 (addS n s x.rows[m][k].dn x.rows[m][k].ds).1.2 by
     rw [← HFR.o,HDR.o,sumRows,HGD.o,if_neg (by rw [HK0.o]; simp)])
    rw [← HR2.o] at HSR;have HX3:=Hd (HE.o.trans hxc);have hsz3:=hxc.size;have HBS3:=Hd (HBS.o.keep (hxc.kept _));have HNB:=Hd hbc;have n0:=hbc.cell (i:=0) rfl;have n1:=hbc.cell (i:=1) rfl;have hnz:=hbc.lt;clear hxc hbc;cases ok
    ·have HK1:=Hd (show sumRows k ln ls x.rows 0 0=(Val.zero,3) by rw [HSR.o,if_pos rfl]);have hbr:=HBR.o.keep (HX3.o.kept _);have r0:=hbr.cell (i:=0) rfl;have r1:=hbr.cell (i:=1) rfl;have r2:=hbr.cell (i:=2) rfl;have r3:=hbr.cell (i:=3) rfl;have r4:=hbr.cell (i:=4) rfl;have r5:=hbr.cell (i:=5) rfl;have r6:=hbr.cell (i:=6) rfl;have rf:=hbr.frozen;have hz5:=hbr.lt;clear hbr;go_wp2;rw [HF.o,HK1.o];refine bodyPost_ret (v:=.tuple #[(.agg #[.int .i64 Val.zero.kind,.string Val.zero.s,.int .i64 Val.zero.dn,.int .i64 Val.zero.ds,.int .i64 Val.zero.n,.slice none Val.zero.cols.length 0,.slice none Val.zero.rows.length 0]),.int .i64 3]) (by simp [results,Tryz.results24,go_sem,r0,r1,r2,r3,r4,r5,r6,Val.zero]) rfl ⟨none,0,none,0,rfl,⟨Nat.le_refl _,Nat.le_refl _⟩,RV.mk (Nat.zero_le _) Strs.nil Rows.nil,?_⟩
     iterate 7 with_reducible refine Ext.set2 ?_ (by omega) _
     exact HX1.o.trans HX3.o
    ·have hbl:=HBL.o.keep (HX3.o.kept _);have l0:=hbl.cell (i:=0) rfl;have l1:=hbl.cell (i:=1) rfl;have hlz:=hbl.lt;clear hbl
     go_wp2_with fail
     refine (decimal_Cmp n2 s2 ln ls _ ((HT.o.ext HX1.o).ext HX3.o)).mono ?_;rintro e1 w4 ⟨rfl,hx4⟩;have HX4:=Hd (HX3.o.trans hx4);have HX4':=Hd hx4;clear n0 n1 hnz;have hnb:=HNB.o.keep (hx4.kept _);have n0:=hnb.cell (i:=0) rfl;have n1:=hnb.cell (i:=1) rfl;have hnz:=hnb.lt;clear hx4 l0 l1 hlz hnb;by_cases hcm:cmpI (mu n2 s2) (mu ln ls)<0
     ·have HK1:=Hd (show sumRows k ln ls x.rows 0 0=(Val.zero,20) by rw [HSR.o,if_neg (by simp),if_pos hcm]);generalize cmpI (mu n2 s2) (mu ln ls)=cv at *;have hbr:=HBR.o.keep (HX4.o.kept _);have r0:=hbr.cell (i:=0) rfl;have r1:=hbr.cell (i:=1) rfl;have r2:=hbr.cell (i:=2) rfl;have r3:=hbr.cell (i:=3) rfl;have r4:=hbr.cell (i:=4) rfl;have r5:=hbr.cell (i:=5) rfl;have r6:=hbr.cell (i:=6) rfl;have rf:=hbr.frozen;have hz5:=hbr.lt;clear hbr;go_wp2;rw [HF.o,HK1.o];refine bodyPost_ret (v:=.tuple #[(.agg #[.int .i64 Val.zero.kind,.string Val.zero.s,.int .i64 Val.zero.dn,.int .i64 Val.zero.ds,.int .i64 Val.zero.n,.slice none Val.zero.cols.length 0,.slice none Val.zero.rows.length 0]),.int .i64 20]) (by simp [results,Tryz.results24,go_sem,r0,r1,r2,r3,r4,r5,r6,Val.zero]) rfl ⟨none,0,none,0,rfl,⟨Nat.le_refl _,Nat.le_refl _⟩,RV.mk (Nat.zero_le _) Strs.nil Rows.nil,?_⟩
      iterate 7 with_reducible refine Ext.set2 ?_ (by omega) _
      exact HX1.o.trans HX4.o
     ·have HK1:=Hd (show sumRows k ln ls (x.rows.drop (m+1)) n2 s2=sumRows k ln ls x.rows 0 0 by rw [HSR.o,if_neg (by simp),if_neg hcm]);generalize cmpI (mu n2 s2) (mu ln ls)=cv at *;have HBS4:=Hd (HBS3.o.keep (HX4'.out.kept _));have hsz4:=HX4'.out.size;have s0:=HBS4.o.cell (i:=0) rfl;have s1:=HBS4.o.cell (i:=1) rfl;have sf:=HBS4.o.frozen;have sz:=HBS4.o.lt;go_wp2;go_roundw
      case rel =>
       refine ⟨m+1,n2,s2,by omega,by go_num,?_,?_,HK1.o⟩
       ·iterate 2 with_reducible refine Ext.set2 ?_ (by omega) _
        exact HX4.o
       ·have:=(HBS4.o.set 0 (.int .i64 n2)).set 1 (.int .i64 s2)
        simpa using this
      case measure=>simp [intOf]; omega
  ·have HK1:=Hd (show sumRows k ln ls x.rows 0 0=(numW n s,0) by rw [← HFR.o,List.drop_eq_nil_of_le (by omega)]; rfl);have s0:=HBS.o.cell (i:=0) rfl;have s1:=HBS.o.cell (i:=1) rfl;have sf:=HBS.o.frozen;clear hext;have hbr:=HBR.o.keep (HE.o.kept _);have r0:=hbr.cell (i:=0) rfl;have r1:=hbr.cell (i:=1) rfl;have r2:=hbr.cell (i:=2) rfl;have r3:=hbr.cell (i:=3) rfl;have r4:=hbr.cell (i:=4) rfl;have r5:=hbr.cell (i:=5) rfl;have r6:=hbr.cell (i:=6) rfl;have rf:=hbr.frozen;have hz5:=hbr.lt;clear hbr;go_wp2;rw [HF.o,HK1.o];refine bodyPost_ret (v:=.tuple #[.agg #[.int .i64 2,.string ⟨#[]⟩,.int .i64 n,.int .i64 s,.int .i64 0,.slice none 0 0,.slice none 0 0],.int .i64 0]) (by simp [results,Tryz.results24,go_sem,r0,r1,r2,r3,r4,r5,r6,Val.zero]) rfl ⟨none,0,none,0,rfl,⟨Nat.le_refl _,Nat.le_refl _⟩,RV.mk (Nat.zero_le _) Strs.nil Rows.nil,?_⟩
   iterate 7 with_reducible refine Ext.set2 ?_ (by omega) _
   exact HX1.o.trans HE.o

theorem quietB {P:Program} {f:FuncId} {args:Array Value} {w:World} {n:Nat} {v:Bool} (h:Calls P f args (w.drewN n) (QuietB (w.drewN n) v)) :
  Calls P f args (w.drewN n) fun e w''=>e=.returned (.bool v)∧∃ m,w''=w.drewN m:=h.mono fun _ _ ⟨he,m,hm⟩=>⟨he,n+m,by rw [hm,World.drewN_drewN]⟩
def textV (s:ByteArray):Val:=⟨1,s,0,0,0,[],[]⟩
def RetV0 (w:World) (x:Val) (e:Ending) (w':World):Prop:=e=.returned (.agg #[.int .i64 x.kind,.string x.s,.int .i64 x.dn,.int .i64 x.ds,.int .i64 x.n,.slice none x.cols.length 0,.slice none x.rows.length 0])∧Ext w w'
theorem law_text (s:ByteArray) (w:World):Calls Tryz.prog 20 #[.string s] w (RetV0 w (textV s)):=by
 go_enter Tryz.func20,Tryz.ntmps20
 go_wp2;refine bodyPost_ret (v:=.agg #[.int .i64 1,.string s,.int .i64 0,.int .i64 0,.int .i64 0,.slice none 0 0,.slice none 0 0]) (by simp [results,Tryz.results20,go_sem]) rfl ⟨rfl,?_⟩;exact (Ext.refl w).alloc _
theorem law_number (n:Int) (w:World):Calls Tryz.prog 23 #[.int .i64 n] w (RetV0 w (numW n 0)):=by
 go_enter Tryz.func23,Tryz.ntmps23
 go_wp2;refine bodyPost_ret (v:=.agg #[.int .i64 2,.string ⟨#[]⟩,.int .i64 n,.int .i64 0,.int .i64 0,.slice none 0 0,.slice none 0 0]) (by simp [results,Tryz.results23,go_sem]) rfl ⟨rfl,?_⟩;exact (Ext.refl w).alloc _
theorem r06_StringsSame (A B:Option Addr) (c d:Nat) (x:List ByteArray) (w:World) (S T:Nat→Prop) (hx:Strs w S A x) (hy:Strs w T B x) :
  Calls Tryz.prog 17 #[.slice A x.length c,.slice B x.length d] w (QuietB w true):=by
 have:=r06_Strings A B c d x x w S T hx hy
 simpa using this
theorem r09_Deps (l:List Dep) (A B:Option Addr) (ca cb:Nat) (w:World) (S T:Nat→Prop) (hA:RDeps w S A l) (hB:RDeps w T B l) :
  Calls Tryz.prog 27 #[.slice A l.length ca,.slice B l.length cb] w (QuietB w true):=by
 have hl:=hA.1;have HA:=Hd hA;have HB:=Hd hB;clear hA hB
 go_enter Tryz.func27,Tryz.ntmps27
 go_wp2
 go_loopw [5] (fun i wr=>∃ k:Nat,k≤l.length∧i=.int .i64 k∧(∃ n,wr=w.drewN n)) (fun i _=>l.length-(intOf i).toNat)
 case atStart=>exact ⟨0,Nat.zero_le _,rfl,⟨0,rfl⟩⟩
 case round =>
  obtain ⟨k,hk,rfl,⟨n,hwr⟩⟩:=hrel;have HWR:=Hd hwr;have HKA:=Hd (HA.o.keep (show Kept S w wr by rw [hwr]; exact Kept.drewN _ _ _));have HKB:=Hd (HB.o.keep (show Kept T w wr by rw [hwr]; exact Kept.drewN _ _ _));clear hwr;by_cases hlt:k<l.length
  ·obtain ⟨b1,o1,B1,c1,rfl,z1,p1,p2,p3,p4,p5⟩:=HKA.o.at_ hlt;obtain ⟨b2,o2,B2,c2,rfl,z2,q1,q2,q3,q4,q5⟩:=HKB.o.at_ hlt;have H1:=Hd p5;have H2:=Hd q5;have hne:(l[k].to.toList==l[k].to.toList)=true:=(by simp);clear p5 q5;go_wp2
   go_quiet ((go_at_call 17; exact quietB (r06_StringsSame B1 B2 c1 c2 _ _ S T (H1.o.keep (Kept.drewN _ _ _)) (H2.o.keep (Kept.drewN _ _ _)))))
   go_wp2;go_roundw
   case rel=>exact ⟨k+1,by omega,by go_num,⟨_,by rw [HWR.o]; exact World.drewN_drewN _ _ _⟩⟩
   case measure=>simp [intOf]; omega
  ·go_wp2;go_ret;exact ⟨rfl,n,HWR.o⟩

def sCity:ByteArray:=⟨#[99,105,116,121]⟩
def sZip:ByteArray:=⟨#[122,105,112]⟩
def sCountry:ByteArray:=⟨#[99,111,117,110,116,114,121]⟩
def rowC (ys:List Val):Array Value:=(ys.flatMap fun y=>vcells y none 0 none 0).toArray
def citiesT:Look:=⟨⟨#[116]⟩,[sCity,sZip,sCountry],[[textV ⟨#[82,111,109,101]⟩,numW 1 0,textV ⟨#[105,116]⟩],[textV ⟨#[79,115,108,111]⟩,numW 2 0,textV ⟨#[110,111]⟩],[textV ⟨#[66,101,114,103,101,110]⟩,numW 3 0,textV ⟨#[110,111]⟩]]⟩
theorem flat_text (s:ByteArray) (h:s.size≤4294967296):flatV (textV s):=⟨rfl,rfl,h⟩
theorem flat_num (n s:Int):flatV (numW n s):=⟨rfl,rfl,by show (0:Nat)≤4294967296; omega⟩

theorem row3 (a b:ByteArray) (n:Int) (ha:a.size≤4294967296) (hb:b.size≤4294967296) {w:World} {g t:Nat} (h:Blk w g t (rowC [textV a,numW n 0,textV b])):Row w (fun b=>b=g) 1 (some ⟨g,0,none⟩) [textV a,numW n 0,textV b]:=by
 refine Row.flat h rfl (fun y hy => ?_) (by omega) (by simp);simp only [List.mem_cons,List.not_mem_nil,or_false] at hy
 rcases hy with rfl | rfl | rfl
 ·exact flat_text _ ha
 ·exact flat_num _ _
 ·exact flat_text _ hb
theorem cities_mem {v:World} {k1 a b:Nat} {S:Nat→Prop} (B1:Blk v k1 9 #[.string sCity,.string sZip,.string sCountry]) (C1:Blk v a 31 (rowC [textV ⟨#[82,111,109,101]⟩,numW 1 0,textV ⟨#[105,116]⟩])) (C2:Blk v b 31 (rowC [textV ⟨#[79,115,108,111]⟩,numW 2 0,textV ⟨#[110,111]⟩]))
  (h1:S k1) (h2:S a) (h3:S b) (h4:S v.heap.size) (h5:S (v.heap.size+1)) :
  RL ((v.alloc (.cells (rowC [textV ⟨#[66,101,114,103,101,110]⟩,numW 3 0,textV ⟨#[110,111]⟩]) 31)).alloc (.cells #[.slice (some ⟨a,0,none⟩) 3 3,.slice (some ⟨b,0,none⟩) 3 3,.slice (some ⟨v.heap.size,0,none⟩) 3 3] 50)) S 1 citiesT (some ⟨k1,0,none⟩) (some ⟨v.heap.size+1,0,none⟩):=by
 have x:Ext v ((v.alloc (.cells (rowC [textV ⟨#[66,101,114,103,101,110]⟩,numW 3 0,textV ⟨#[110,111]⟩]) 31)).alloc (.cells #[.slice (some ⟨a,0,none⟩) 3 3,.slice (some ⟨b,0,none⟩) 3 3,.slice (some ⟨v.heap.size,0,none⟩) 3 3] 50)):=((Ext.refl v).alloc _).alloc _;have C3:=(Blk.new v 31 (rowC [textV ⟨#[66,101,114,103,101,110]⟩,numW 3 0,textV ⟨#[110,111]⟩])).keep (Kept.alloc _ _ (.cells #[.slice (some ⟨a,0,none⟩) 3 3,.slice (some ⟨b,0,none⟩) 3 3,.slice (some ⟨v.heap.size,0,none⟩) 3 3] 50));have D:=Blk.new (v.alloc (.cells (rowC [textV ⟨#[66,101,114,103,101,110]⟩,numW 3 0,textV ⟨#[110,111]⟩]) 31)) 50 #[.slice (some ⟨a,0,none⟩) 3 3,.slice (some ⟨b,0,none⟩) 3 3,.slice (some ⟨v.heap.size,0,none⟩) 3 3];rw [show (v.alloc (.cells (rowC [textV ⟨#[66,101,114,103,101,110]⟩,numW 3 0,textV ⟨#[110,111]⟩]) 31)).heap.size=v.heap.size+1 by simp] at D;refine ⟨by decide,(Strs.of_blk (B1.keep (x.kept _)) rfl (by decide) (by decide)).mono (fun i _ hi=>hi ▸ h1),Rows.build D rfl h5 (by decide) ?_⟩;intro i r hi
 match i,hi with
 | 0,hi=>cases hi; exact ⟨_,3,rfl,Nat.le_refl _,(row3 _ _ _ (by decide) (by decide) (C1.keep (x.kept _))).mono (fun i _ hi=>hi ▸ h2)⟩
 | 1,hi=>cases hi; exact ⟨_,3,rfl,Nat.le_refl _,(row3 _ _ _ (by decide) (by decide) (C2.keep (x.kept _))).mono (fun i _ hi=>hi ▸ h3)⟩
 | 2,hi=>cases hi; exact ⟨_,3,rfl,Nat.le_refl _,(row3 _ _ _ (by decide) (by decide) C3).mono (fun i _ hi=>hi ▸ h4)⟩
 | n+3,hi=>simp [citiesT] at hi

theorem law_cities (w:World):Calls Tryz.prog 18 #[] w (RetL w citiesT):=by
 go_enter Tryz.func18,Tryz.ntmps18
 go_wp2_with fail
 refine (law_text _ _).mono ?_;rintro e1 w1 ⟨rfl,hx1⟩;have HX1:=Hd hx1;have hs1:=hx1.size;clear hx1
 go_wp2_with fail
 refine (law_number _ _).mono ?_;rintro e2 w2 ⟨rfl,hx2⟩;have HX2:=Hd hx2;have hs2:=hx2.size;clear hx2
 go_wp2_with fail
 refine (law_text _ _).mono ?_;rintro e3 w3 ⟨rfl,hx3⟩;have HX3:=Hd hx3;have hs3:=hx3.size;clear hx3
 go_wp2_with fail
 refine (law_text _ _).mono ?_;rintro e4 w4 ⟨rfl,hx4⟩;have HX4:=Hd hx4;have hs4:=hx4.size;clear hx4
 go_wp2_with fail
 refine (law_number _ _).mono ?_;rintro e5 w5 ⟨rfl,hx5⟩;have HX5:=Hd hx5;have hs5:=hx5.size;clear hx5
 go_wp2_with fail
 refine (law_text _ _).mono ?_;rintro e6 w6 ⟨rfl,hx6⟩;have HX6:=Hd hx6;have hs6:=hx6.size;clear hx6
 go_wp2_with fail
 refine (law_text _ _).mono ?_;rintro e7 w7 ⟨rfl,hx7⟩;have HX7:=Hd hx7;have hs7:=hx7.size;clear hx7
 go_wp2_with fail
 refine (law_number _ _).mono ?_;rintro e8 w8 ⟨rfl,hx8⟩;have HX8:=Hd hx8;have hs8:=hx8.size;clear hx8
 go_wp2_with fail
 refine (law_text _ _).mono ?_;rintro e9 w9 ⟨rfl,hx9⟩;have HX9:=Hd hx9;have hs9:=hx9.size;clear hx9;have x0:Ext w w1:=((Ext.refl w).alloc _).alloc _ |>.trans HX1.o;have x14:Ext w1 w4:=HX2.o.trans (HX3.o.trans (((Ext.refl _).alloc _).trans HX4.o));have x47:Ext w4 w7:=HX5.o.trans (HX6.o.trans (((Ext.refl _).alloc _).trans HX7.o));have x79:Ext w7 w9:=HX8.o.trans HX9.o;have b0:Blk w9 w.heap.size 36 #[.string ⟨#[]⟩,.slice none 0 0,.slice none 0 0]:=((((Blk.new w 36 #[.string ⟨#[]⟩,.slice none 0 0,.slice none 0 0]).keep (Kept.alloc _ _ _)).keep (HX1.o.kept _)).keep ((x14.trans (x47.trans x79)).kept _));have b1:Blk w9 (w.heap.size+1) 9 #[.string sCity,.string sZip,.string sCountry]:=by
  have:=((Blk.new (w.alloc (.cells #[.string ⟨#[]⟩,.slice none 0 0,.slice none 0 0] 36)) 9 #[.string sCity,.string sZip,.string sCountry]).keep (HX1.o.kept _)).keep ((x14.trans (x47.trans x79)).kept _)
  simpa using this
 have c1:Blk w9 w3.heap.size 31 (rowC [textV ⟨#[82,111,109,101]⟩,numW 1 0,textV ⟨#[105,116]⟩]):=((Blk.new w3 31 (rowC [textV ⟨#[82,111,109,101]⟩,numW 1 0,textV ⟨#[105,116]⟩])).keep (HX4.o.kept _)).keep ((x47.trans x79).kept _);have c2:Blk w9 w6.heap.size 31 (rowC [textV ⟨#[79,115,108,111]⟩,numW 2 0,textV ⟨#[110,111]⟩]):=((Blk.new w6 31 (rowC [textV ⟨#[79,115,108,111]⟩,numW 2 0,textV ⟨#[110,111]⟩])).keep (HX7.o.kept _)).keep (x79.kept _);have hz1:w.heap.size+1<w1.heap.size:=(by have:=hs1; simp at this; omega);have hz4:=x14.size;have hz7:=x47.size;have hz9:=x79.size;have hz3:w1.heap.size≤w3.heap.size:=(by omega);have hz36:w3.heap.size<w6.heap.size:=(by have:=hs4; simp at this; omega);have hz69:w6.heap.size<w9.heap.size:=(by have:=hs7; simp at this; omega);have HX:=Hd (x0.trans (x14.trans (x47.trans x79)));have HB1:=Hd b1;have HC1:=Hd c1;have HC2:=Hd c2;have HB0:=Hd b0;have r0:=b0.cell (i:=0) rfl;have r1:=b0.cell (i:=1) rfl;have r2:=b0.cell (i:=2) rfl;have rf:=b0.frozen;have rz:=b0.lt;clear hs1 hs2 hs3 hs4 hs5 hs6 hs7 hs8 hs9 x0 x14 x47 x79 b0 b1 c1 c2 HX1 HX2 HX3 HX4 HX5 HX6 HX7 HX8 HX9 hz4 hz7 hz9;go_wp2;refine bodyPost_ret (v:=.agg #[.string ⟨#[116]⟩,.slice (some ⟨w.heap.size+1,0,none⟩) 3 3,.slice (some ⟨w9.heap.size+1,0,none⟩) 3 3]) (by simp [results,Tryz.results18,go_sem,r0,r1,r2,rz]) rfl ⟨_,3,_,3,rfl,⟨Nat.le_refl _,Nat.le_refl _⟩,?_,?_⟩
 ·obtain ⟨v,hv⟩:∃ v,v=((w9.setCell ⟨w.heap.size,0,none⟩ (Value.string ⟨#[116]⟩)).setCell ⟨w.heap.size,1,none⟩ (Value.slice (some ⟨w.heap.size+1,0,none⟩) 3 3)).setCell ⟨w.heap.size,2,none⟩ (Value.slice (some ⟨w9.heap.size+1,0,none⟩) 3 3):=⟨_,rfl⟩;have hsz:v.heap.size=w9.heap.size:=(by rw [hv]; simp [World.setCell]);have hk:Kept (fun b=>w.heap.size<b) w9 v:=by
   rw [hv]
   iterate 3 with_reducible refine Kept.set2 ?_ (by simp)
   exact Kept.refl _ _
  have hm:=cities_mem (S:=Fresh w) (HB1.o.keep (hk.mono fun i _ hi=>by subst hi; omega)) (HC1.o.keep (hk.mono fun i _ hi=>by subst hi; omega)) (HC2.o.keep (hk.mono fun i _ hi=>by subst hi; omega)) (by unfold Fresh; omega) (by unfold Fresh; omega) (by unfold Fresh; omega) (by unfold Fresh; omega) (by unfold Fresh; omega);rw [hsz,hv] at hm;exact hm
 ·refine Ext.alloc (Ext.alloc ?_ _) _
  iterate 3 with_reducible refine Ext.set2 ?_ (by omega) _
  exact HX.o

def sOslo:ByteArray:=⟨#[79,115,108,111]⟩
def sParis:ByteArray:=⟨#[80,97,114,105,115]⟩
def sNo:ByteArray:=⟨#[110,111]⟩
def sA:ByteArray:=⟨#[97]⟩
def sB:ByteArray:=⟨#[98]⟩
def sC:ByteArray:=⟨#[99]⟩
def sN:ByteArray:=⟨#[110]⟩
def wantD:List Dep:=[⟨[sCity],sZip⟩,⟨[sCity],sCountry⟩,⟨[sZip],sCity⟩,⟨[sZip],sCountry⟩]
def abD:List Dep:=[⟨[sA],sB⟩,⟨[sB],sC⟩]
def nV:Val:=⟨5,⟨#[]⟩,0,0,0,[sN],[[numW 3 0],[numW (-5) 0],[numW 4 0]]⟩
set_option maxRecDepth 100000
theorem san_right:lookR citiesT=true:=by kernel_rfl
theorem san_find1:findS citiesT sCity (textV sOslo) sCountry=(textV sNo,0):=by kernel_rfl
theorem san_find2:findS citiesT sCity (textV sParis) sCountry=(Val.zero,18):=by kernel_rfl
theorem san_keys:keysS citiesT.cols citiesT.rows=wantD:=by kernel_rfl
theorem san_sum1:sumS nV sN (-2) 0=(numW 2 0,0):=by kernel_rfl
theorem san_sum2:sumS nV sN 0 0=(Val.zero,20):=by kernel_rfl
theorem san_hold1:holdsS citiesT.cols citiesT.rows [sCountry] sZip=false:=by kernel_rfl
theorem san_hold2:holdsS citiesT.cols citiesT.rows [sCity] sCountry=true:=by kernel_rfl

theorem sortS_perm {k k':List ByteArray} (h:k.Perm k'):sortS k=sortS k':=by
 unfold sortS;rw [sort_perm (h.map _)]
theorem IsClosure.mem {l:List Dep} {frm ks ks':List ByteArray} (h:IsClosure l frm ks) (h':IsClosure l frm ks') (x:ByteArray):x∈ks↔x∈ks' :=
 ⟨fun hx=>h.least (·∈ks') h'.base h'.closed x hx,fun hx=>h'.least (·∈ks) h.base h.closed x hx⟩
theorem IsClosure.one {l:List Dep} {frm ks ks':List ByteArray} (h:IsClosure l frm ks) (h':IsClosure l frm ks'):sortS ks=sortS ks' :=
 sortS_perm ((List.perm_ext_iff_of_nodup h.nodup h'.nodup).2 (h.mem h'))
theorem san_clos0:IsClosure abD [sA] [sA,sB,sC]:=by
 refine ⟨by decide,by simp,?_,?_⟩
 ·intro d hd _;simp only [abD,List.mem_cons,List.not_mem_nil,or_false] at hd
  rcases hd with rfl | rfl <;> simp
 ·intro T h1 h2 x hx;have ha:T sA:=h1 sA (by simp);have hb:T sB:=h2 ⟨[sA],sB⟩ (by simp [abD]) (by simpa using ha);have hc:T sC:=h2 ⟨[sB],sC⟩ (by simp [abD]) (by simpa using hb);simp only [List.mem_cons,List.not_mem_nil,or_false] at hx
  rcases hx with rfl | rfl | rfl
  ·exact ha
  ·exact hb
  ·exact hc
theorem san_sort:sortS [sA,sB,sC]=[sA,sB,sC]:=by
 unfold sortS sA sB sC;have h1:([97]:List UInt8)≤[98]:=(by decide);have h2:([97]:List UInt8)≤[99]:=(by decide);have h3:([98]:List UInt8)≤[99]:=(by decide);simp [List.mergeSort,List.MergeSort.Internal.splitInTwo,h1,h2,h3]
theorem san_clos {ks:List ByteArray} (h:IsClosure abD [sA] ks):sortS ks=[sA,sB,sC]:=(h.one san_clos0).trans san_sort

theorem RDeps.build {w:World} {S:Nat→Prop} {g t:Nat} {cs:Array Value} {l:List Dep} (h:Blk w g t cs) (hs:cs.size=l.length*2) (hg:S g) (hl:l.length≤4294967296)
  (hr:∀ (i:Nat) (d:Dep),l[i]?=some d→∃ (B:Option Addr) (c:Nat),cs[i*2]?=some (.slice B d.frm.length c)∧cs[i*2+1]?=some (.string d.to)∧d.frm.length≤c∧d.to.size≤4294967296∧Strs w S B d.frm):RDeps w S (some ⟨g,0,none⟩) l:=by
 refine ⟨hl,cs.toList,h.rd.mono (fun i _ hi=>hi ▸ hg),by simpa using hs,fun i d hd => ?_⟩;obtain ⟨B,c,h1,h2,h3⟩:=hr i d hd;exact ⟨B,c,by simpa using h1,by simpa using h2,h3⟩
theorem Strs.one {w:World} {S:Nat→Prop} {g t:Nat} {s:ByteArray} (h:Blk w g t #[.string s]) (hs:s.size≤4294967296) (hg:S g):Strs w S (some ⟨g,0,none⟩) [s] :=
 (Strs.of_blk h rfl (by simp) (by intro x hx; simp at hx; subst hx; exact hs)).mono fun _ _ hi=>hi ▸ hg
theorem blk_at (w:World) (t:Nat) (cs:Array Value) {n:Nat} (hn:w.heap.size=n):Blk (w.alloc (.cells cs t)) n t cs:=hn ▸ Blk.new w t cs
def w5a (v:World):World:=((((v.alloc (.cells #[.string sCity] 9)).alloc (.cells #[.string sCity] 9)).alloc (.cells #[.string sZip] 9)).alloc (.cells #[.string sZip] 9)).alloc
 (.cells #[.slice (some ⟨v.heap.size,0,none⟩) 1 1,.string sZip,.slice (some ⟨v.heap.size+1,0,none⟩) 1 1,.string sCountry,.slice (some ⟨v.heap.size+1+1,0,none⟩) 1 1,.string sCity,.slice (some ⟨v.heap.size+1+1+1,0,none⟩) 1 1,.string sCountry] 59)
theorem w5a_ext (v:World):Ext v (w5a v):=(((((Ext.refl v).alloc _).alloc _).alloc _).alloc _).alloc _
theorem w5a_mem (v:World):RDeps (w5a v) (fun b=>v.heap.size≤b) (some ⟨v.heap.size+1+1+1+1,0,none⟩) wantD:=by
 have b1:Blk (w5a v) v.heap.size 9 #[.string sCity]:=((((Blk.new v 9 #[.string sCity]).keep (Kept.alloc _ _ _)).keep (Kept.alloc _ _ _)).keep (Kept.alloc _ _ _)).keep (Kept.alloc _ _ _);have b2:Blk (w5a v) (v.heap.size+1) 9 #[.string sCity]:=(((blk_at _ 9 #[.string sCity] (by simp)).keep (Kept.alloc _ _ _)).keep (Kept.alloc _ _ _)).keep (Kept.alloc _ _ _);have b3:Blk (w5a v) (v.heap.size+1+1) 9 #[.string sZip]:=((blk_at _ 9 #[.string sZip] (by simp)).keep (Kept.alloc _ _ _)).keep (Kept.alloc _ _ _);have b4:Blk (w5a v) (v.heap.size+1+1+1) 9 #[.string sZip]:=(blk_at _ 9 #[.string sZip] (by simp)).keep (Kept.alloc _ _ _);have b5:=blk_at ((((v.alloc (.cells #[.string sCity] 9)).alloc (.cells #[.string sCity] 9)).alloc (.cells #[.string sZip] 9)).alloc (.cells #[.string sZip] 9)) 59 #[.slice (some ⟨v.heap.size,0,none⟩) 1 1,.string sZip,.slice (some ⟨v.heap.size+1,0,none⟩) 1 1,.string sCountry,.slice (some ⟨v.heap.size+1+1,0,none⟩) 1 1,.string sCity,.slice (some ⟨v.heap.size+1+1+1,0,none⟩) 1 1,.string sCountry] (n:=v.heap.size+1+1+1+1) (by simp);refine RDeps.build (show Blk (w5a v) _ _ _ from b5) rfl (by omega) (by decide) ?_;intro i d hi
 match i,hi with
 | 0,hi=>cases hi; exact ⟨_,1,rfl,rfl,Nat.le_refl _,by decide,Strs.one b1 (by decide) (by omega)⟩
 | 1,hi=>cases hi; exact ⟨_,1,rfl,rfl,Nat.le_refl _,by decide,Strs.one b2 (by decide) (by omega)⟩
 | 2,hi=>cases hi; exact ⟨_,1,rfl,rfl,Nat.le_refl _,by decide,Strs.one b3 (by decide) (by omega)⟩
 | 3,hi=>cases hi; exact ⟨_,1,rfl,rfl,Nat.le_refl _,by decide,Strs.one b4 (by decide) (by omega)⟩
 | n+4,hi=>simp [wantD] at hi
def w6a (v:World):World:=(((v.alloc (.cells #[.string sA] 9)).alloc (.cells #[.string sB] 9)).alloc (.cells #[.slice (some ⟨v.heap.size,0,none⟩) 1 1,.string sB,.slice (some ⟨v.heap.size+1,0,none⟩) 1 1,.string sC] 59)).alloc (.cells #[.string sA] 9)
theorem w6a_ext (v:World):Ext v (w6a v):=((((Ext.refl v).alloc _).alloc _).alloc _).alloc _
theorem w6a_mem (v:World):RDeps (w6a v) (fun b=>v.heap.size≤b) (some ⟨v.heap.size+1+1,0,none⟩) abD∧Strs (w6a v) (fun b=>v.heap.size≤b) (some ⟨v.heap.size+1+1+1,0,none⟩) [sA]:=by
 have b1:Blk (w6a v) v.heap.size 9 #[.string sA]:=(((Blk.new v 9 #[.string sA]).keep (Kept.alloc _ _ _)).keep (Kept.alloc _ _ _)).keep (Kept.alloc _ _ _);have b2:Blk (w6a v) (v.heap.size+1) 9 #[.string sB]:=((blk_at _ 9 #[.string sB] (by simp)).keep (Kept.alloc _ _ _)).keep (Kept.alloc _ _ _);have b3:Blk (w6a v) (v.heap.size+1+1) 59 #[.slice (some ⟨v.heap.size,0,none⟩) 1 1,.string sB,.slice (some ⟨v.heap.size+1,0,none⟩) 1 1,.string sC]:=(blk_at _ 59 _ (by simp)).keep (Kept.alloc _ _ _);have b4:Blk (w6a v) (v.heap.size+1+1+1) 9 #[.string sA]:=blk_at _ 9 #[.string sA] (by simp);refine ⟨RDeps.build b3 rfl (by omega) (by decide) ?_,Strs.one b4 (by decide) (by omega)⟩;intro i d hi
 match i,hi with
 | 0,hi=>cases hi; exact ⟨_,1,rfl,rfl,Nat.le_refl _,by decide,Strs.one b1 (by decide) (by omega)⟩
 | 1,hi=>cases hi; exact ⟨_,1,rfl,rfl,Nat.le_refl _,by decide,Strs.one b2 (by decide) (by omega)⟩
 | n+2,hi=>simp [abD] at hi
theorem RV.flat {w:World} {S:Nat→Prop} {d:Nat} {y:Val} {A B:Option Addr} (h:flatV y):RV w S d y A B:=RV.mk h.2.2 (by rw [h.1]; exact Strs.nil) (by rw [h.2.1]; exact Rows.nil)
def noV:Val:=textV sNo
theorem rown (n:Int) {w:World} {g t:Nat} {S:Nat→Prop} (h:Blk w g t (rowC [numW n 0])) (hg:S g):Row w S 1 (some ⟨g,0,none⟩) [numW n 0]:=by
 refine (Row.flat h rfl (fun y hy => ?_) (by omega) (by simp)).mono fun _ _ hi=>hi ▸ hg;simp only [List.mem_cons,List.not_mem_nil,or_false] at hy;subst hy;exact flat_num _ _
theorem nV_mem {v:World} {k a b:Nat} {S:Nat→Prop} (B1:Blk v k 9 #[.string sN]) (C1:Blk v a 31 (rowC [numW 3 0])) (C2:Blk v b 31 (rowC [numW (-5) 0]))
  (h1:S k) (h2:S a) (h3:S b) (h4:S v.heap.size) (h5:S (v.heap.size+1)) :
  RV ((v.alloc (.cells (rowC [numW 4 0]) 31)).alloc (.cells #[.slice (some ⟨a,0,none⟩) 1 1,.slice (some ⟨b,0,none⟩) 1 1,.slice (some ⟨v.heap.size,0,none⟩) 1 1] 50)) S 1 nV (some ⟨k,0,none⟩) (some ⟨v.heap.size+1,0,none⟩):=by
 have x:Ext v ((v.alloc (.cells (rowC [numW 4 0]) 31)).alloc (.cells #[.slice (some ⟨a,0,none⟩) 1 1,.slice (some ⟨b,0,none⟩) 1 1,.slice (some ⟨v.heap.size,0,none⟩) 1 1] 50)):=((Ext.refl v).alloc _).alloc _;have C3:=(Blk.new v 31 (rowC [numW 4 0])).keep (Kept.alloc _ _ (.cells #[.slice (some ⟨a,0,none⟩) 1 1,.slice (some ⟨b,0,none⟩) 1 1,.slice (some ⟨v.heap.size,0,none⟩) 1 1] 50));have D:=blk_at (v.alloc (.cells (rowC [numW 4 0]) 31)) 50 #[.slice (some ⟨a,0,none⟩) 1 1,.slice (some ⟨b,0,none⟩) 1 1,.slice (some ⟨v.heap.size,0,none⟩) 1 1] (n:=v.heap.size+1) (by simp);refine RV.mk (by decide) (Strs.one (B1.keep (x.kept _)) (by decide) h1) (Rows.build D rfl h5 (by decide) ?_);intro i r hi
 match i,hi with
 | 0,hi=>cases hi; exact ⟨_,1,rfl,Nat.le_refl _,rown _ (C1.keep (x.kept _)) h2⟩
 | 1,hi=>cases hi; exact ⟨_,1,rfl,Nat.le_refl _,rown _ (C2.keep (x.kept _)) h3⟩
 | 2,hi=>cases hi; exact ⟨_,1,rfl,Nat.le_refl _,rown _ C3 h4⟩
 | n+3,hi=>simp [nV] at hi

def twoV:Val:=numW 2 0
def gFind (A:Option Addr) (c:Nat) (B:Option Addr) (e:Nat) (key:ByteArray) (res:Val) (code:Int):Nat→List Value→Gh→World→Prop
 | 0,[v],_,_=>v=(.agg #[.string citiesT.name,.slice A citiesT.cols.length c,.slice B citiesT.rows.length e])
 | 1,[v],_,_=>∃ x,x=textV key∧v=(.agg #[.int .i64 x.kind,.string x.s,.int .i64 x.dn,.int .i64 x.ds,.int .i64 x.n,.slice none x.cols.length 0,.slice none x.rows.length 0])
 | 2,[v],_,_=>∃ Av cv Bv ev,v=.tuple #[(.agg #[.int .i64 res.kind,.string res.s,.int .i64 res.dn,.int .i64 res.ds,.int .i64 res.n,.slice Av res.cols.length cv,.slice Bv res.rows.length ev]),.int .i64 code]
 | 3,[v],_,_=>∃ Av cv Bv ev,v=.tuple #[(.agg #[.int .i64 res.kind,.string res.s,.int .i64 res.dn,.int .i64 res.ds,.int .i64 res.n,.slice Av res.cols.length cv,.slice Bv res.rows.length ev]),.int .i64 code]
 | 4,[v],_,_=>∃ Av cv Bv ev,v=(.agg #[.int .i64 res.kind,.string res.s,.int .i64 res.dn,.int .i64 res.ds,.int .i64 res.n,.slice Av res.cols.length cv,.slice Bv res.rows.length ev])
 | 5,[v],_,_=>v=.int .i64 code
 | 6,[v],γ,w=>VarAt 6 31 7 v γ w
 | 7,[p,_],γ,w=>∃ Av cv Bv ev,VarIs 31 p #[.int .i64 res.kind,.string res.s,.int .i64 res.dn,.int .i64 res.ds,.int .i64 res.n,.slice Av res.cols.length cv,.slice Bv res.rows.length ev] γ w
 | 8,[v],_,_=>v=.int .i64 code
 | _,_,_,_=>True
def dFind:Nat→List Nat | 7=>[6,7] | i=>[i]
theorem gFind_st (A:Option Addr) (c:Nat) (B:Option Addr) (e:Nat) (key:ByteArray) (res:Val) (code:Int):∀ i l γ w γ' w',LR γ w γ' w'→gFind A c B e key res code i l γ w→gFind A c B e key res code i l γ' w':=by
 intro i l γ w γ' w' r h;unfold gFind at h ⊢;split at h <;> first | exact h | exact VarAt.lr r h | (obtain ⟨a,b,c,d,h⟩:=h; exact ⟨a,b,c,d,VarIs.lr r h⟩)

def vSan (A:Option Addr) (c:Nat) (B:Option Addr) (e:Nat) (Av:Option Addr) (cv:Nat) (Bv:Option Addr) (ev:Nat) (Ak:Option Addr) (ck:Nat) (w5:World) (A7:Option Addr) (c7:Nat) (As:Option Addr) (cs:Nat) (Bs:Option Addr) (es:Nat):Nat→Value
 | 0=>(.agg #[.string citiesT.name,.slice A citiesT.cols.length c,.slice B citiesT.rows.length e])
 | 1=>.bool true
 | 2=>.bool true
 | 3=>.int .i64 0
 | 4=>.bool true
 | 5=>.bool true
 | 6=>.bool true
 | 7=>(.agg #[.int .i64 noV.kind,.string noV.s,.int .i64 noV.dn,.int .i64 noV.ds,.int .i64 noV.n,.slice Av noV.cols.length cv,.slice Bv noV.rows.length ev])
 | 8=>(.agg #[.int .i64 noV.kind,.string noV.s,.int .i64 noV.dn,.int .i64 noV.ds,.int .i64 noV.n,.slice none noV.cols.length 0,.slice none noV.rows.length 0])
 | 9=>.bool true
 | 10=>.bool true
 | 11=>.bool true
 | 12=>.int .i64 18
 | 13=>.bool true
 | 14=>.bool true
 | 15=>.bool true
 | 16=>.slice Ak wantD.length ck
 | 17=>.slice (some ⟨w5.heap.size+1+1+1+1,0,none⟩) 4 4
 | 18=>.bool true
 | 19=>.bool true
 | 20=>.bool true
 | 21=>.bool true
 | 22=>.bool true
 | 23=>.bool true
 | 24=>.slice A7 3 c7
 | 26=>.bool true
 | 27=>.bool true
 | 28=>.bool true
 | 29=>.int .i64 0
 | 30=>.bool true
 | 31=>.bool true
 | 32=>.bool true
 | 33=>(.agg #[.int .i64 twoV.kind,.string twoV.s,.int .i64 twoV.dn,.int .i64 twoV.ds,.int .i64 twoV.n,.slice As twoV.cols.length cs,.slice Bs twoV.rows.length es])
 | 34=>(.agg #[.int .i64 twoV.kind,.string twoV.s,.int .i64 twoV.dn,.int .i64 twoV.ds,.int .i64 twoV.n,.slice none twoV.cols.length 0,.slice none twoV.rows.length 0])
 | 35=>.bool true
 | 36=>.bool true
 | 37=>.bool true
 | 38=>.int .i64 20
 | 39=>.bool true
 | 40=>.bool true
 | 41=>.bool true
 | _=>undef
def gSan (A:Option Addr) (c:Nat) (B:Option Addr) (e:Nat) (Av:Option Addr) (cv:Nat) (Bv:Option Addr) (ev:Nat) (Ak:Option Addr) (ck:Nat) (w5:World) (A7:Option Addr) (c7:Nat) (As:Option Addr) (cs:Nat) (Bs:Option Addr) (es:Nat) (i:Nat) (l:List Value) (γ:Gh) (w:World):Prop:=match l with
 | [v]=>if i=25 then ∃ g,v=.slice (some ⟨g,0,none⟩) 3 3∧Strs w (Free γ) (some ⟨g,0,none⟩) [sA,sB,sC] else v=vSan A c B e Av cv Bv ev Ak ck w5 A7 c7 As cs Bs es i
 | _=>True
theorem gSan_st (A:Option Addr) (c:Nat) (B:Option Addr) (e:Nat) (Av:Option Addr) (cv:Nat) (Bv:Option Addr) (ev:Nat) (Ak:Option Addr) (ck:Nat) (w5:World) (A7:Option Addr) (c7:Nat) (As:Option Addr) (cs:Nat) (Bs:Option Addr) (es:Nat):∀ i l γ w γ' w',LR γ w γ' w'→gSan A c B e Av cv Bv ev Ak ck w5 A7 c7 As cs Bs es i l γ w→gSan A c B e Av cv Bv ev Ak ck w5 A7 c7 As cs Bs es i l γ' w':=by
 intro i l γ w γ' w' r h
 match l,h with
 | [v],h =>
  unfold gSan at h ⊢;by_cases hi:i=25
  ·simp only [if_pos hi] at h ⊢;obtain ⟨g,h1,h2⟩:=h;exact ⟨g,h1,r.strs h2⟩
  ·simp only [if_neg hi] at h ⊢;exact h
 | [],_=>trivial
 | _ :: _ :: _,_=>trivial
def dSan:Nat→List Nat:=fun i=>[i]
theorem law_sanity (w:World) (ht:Tens w):Calls Tryz.prog 5 #[] w (RetB w true):=by
 have HT:=Hd ht;clear ht
 go_enter Tryz.func5,Tryz.ntmps5
 go_wp2_with fail
 refine (law_cities _).mono ?_;rintro e1 w1 ⟨A,c,B,e,rfl,⟨hcp1,hcp2⟩,hrl,hx1⟩;have HCP1:=Hd hcp1;have HRL:=Hd (hrl.keep (Kept.alloc _ _ (.cells #[.string citiesT.name,.slice A citiesT.cols.length c,.slice B citiesT.rows.length e] 36)));have HX2:=Hd (hx1.alloc (.cells #[.string citiesT.name,.slice A citiesT.cols.length c,.slice B citiesT.rows.length e] 36));have HBT:=Hd (Blk.new w1 36 #[.string citiesT.name,.slice A citiesT.cols.length c,.slice B citiesT.rows.length e]);clear hrl hx1 hcp1 hcp2
 go_upto_region 2 with fail
 obtain ⟨w2,hw2⟩:∃ w2,w2=w1.alloc (.cells #[.string citiesT.name,.slice A citiesT.cols.length c,.slice B citiesT.rows.length e] 36):=⟨_,rfl⟩;rw [← hw2] at HRL HX2 HBT;rw [← hw2];clear hw2;have t0:=HBT.o.cell (i:=0) rfl;have t1:=HBT.o.cell (i:=1) rfl;have t2:=HBT.o.cell (i:=2) rfl;clear HBT
 go_upto_region 2 with fail
 go_cut [2,3] from 15 to 127 (fun p b wx=>∃ g Av cv Bv ev,p=.pointer (some ⟨g,0,none⟩)∧b=.int .i64 0∧Ext w2 wx∧Blk wx g 31 #[.int .i64 noV.kind,.string noV.s,.int .i64 noV.dn,.int .i64 noV.ds,.int .i64 noV.n,.slice Av noV.cols.length cv,.slice Bv noV.rows.length ev])
 case first =>
  refine wp_region_lin_lit (by kernel_rfl) dFind (by kernel_rfl) LR LR.refl LR.trans (LN (al1 7 6)) (gFind A c B e sOslo noV 0) (gFind_st _ _ _ _ _ _ _) gh0 (LN.zero _) ⟨?_,?_,?_,?_,?_,?_,?_,?_,?_,trivial⟩ ?_
  ·refine LinStep.yes fun vals γ w' ρ hR hN hp hρ hc hf hg=>⟨rfl,?_⟩;have hx:=hR.drew_ext;have c0:=hx.cell t0;have c1:=hx.cell t1;have c2:=hx.cell t2;have e1:ρ (.tmp 1)=.pointer (some ⟨w1.heap.size,0,none⟩):=hρ 1;clear hR hN hp hρ t0 t1 t2 hx;go_light;go_simp;exact ⟨γ,LR.refl _ _,fun _ _ _ h=>h,rfl⟩
  ·refine LinStep.yes fun vals γ w' ρ hR hN hp hρ hc hf hg=>⟨rfl,?_⟩;clear hR hN hp hρ t0 t1 t2;go_light;go_simp;exact (law_text _ _).mono fun e' w3 ⟨he,hx⟩=>⟨_,he,γ,LR.of_ext γ hx,fun _ _ _ h=>h,_,rfl,rfl⟩
  ·refine LinStep.yes fun vals γ w' ρ hR hN hp hρ hc hf hg=>⟨rfl,?_⟩;have e17:ρ (.tmp 17)=_:=(hρ 17).trans (hp 0 (by decide));obtain ⟨x,hx1,g1⟩:=hp 1 (by decide);have e18:ρ (.tmp 18)=_:=(hρ 18).trans g1;have HR:=Hd hR;subst hx1;clear hR hN hp hρ t0 t1 t2 g1;go_light;go_simp;refine (table_Find 1 citiesT sCity (textV sOslo) sCountry A B none none c e 0 0 _ (Fresh w) (Fresh w) (HRL.o.keep (HR.o.drew_ext.kept _)) HCP1.o (RV.flat (flat_text _ (by decide)))).mono ?_;rintro e1 w4 ⟨Av,cv,Bv,ev,he,-,-,hx4⟩;rw [san_find1] at he;exact ⟨_,he,γ,LR.of_ext γ hx4,fun _ _ _ h=>h,Av,cv,Bv,ev,rfl⟩
  ·refine LinStep.yes fun vals γ w' ρ hR hN hp hρ hc hf hg=>⟨rfl,?_⟩;obtain ⟨Av,cv,Bv,ev,g⟩:=hp 2 (by decide);have e19:ρ (.tmp 19)=_:=(hρ 19).trans g;clear hR hN hp hρ t0 t1 t2 g;go_light;go_simp;exact ⟨γ,LR.refl _ _,fun _ _ _ h=>h,Av,cv,Bv,ev,rfl⟩
  ·refine LinStep.yes fun vals γ w' ρ hR hN hp hρ hc hf hg=>⟨rfl,?_⟩;obtain ⟨Av,cv,Bv,ev,g⟩:=hp 3 (by decide);have e19:ρ (.tmp 16)=_:=(hρ 16).trans g;clear hR hN hp hρ t0 t1 t2 g;go_light;go_simp;exact ⟨γ,LR.refl _ _,fun _ _ _ h=>h,Av,cv,Bv,ev,rfl⟩
  ·refine LinStep.yes fun vals γ w' ρ hR hN hp hρ hc hf hg=>⟨rfl,?_⟩;obtain ⟨Av,cv,Bv,ev,g⟩:=hp 3 (by decide);have e19:ρ (.tmp 16)=_:=(hρ 16).trans g;clear hR hN hp hρ t0 t1 t2 g;go_light;go_simp;exact ⟨γ,LR.refl _ _,fun _ _ _ h=>h,rfl⟩
  ·refine LinStep.yes fun vals γ w' ρ hR hN hp hρ hc hf hg=>⟨rfl,?_⟩;have HB:=Hd hR.inb0;have HN:=Hd hN;clear hR hN hp hρ t0 t1 t2;go_light;go_simp;exact ⟨γ.put 6 (some w'.heap.size),LR.new (HN.o.2 ⟨7,rfl⟩) _ _,LN.made,VarAt.new HB.o rfl⟩
  ·refine LinStep.yes fun vals γ w' ρ hR hN hp hρ hc hf hg=>⟨rfl,?_⟩;obtain ⟨Av,cv,Bv,ev,g4⟩:=hp 4 (by decide);have e20:ρ (.tmp 20)=_:=(hρ 20).trans g4;obtain ⟨g,hv,hcs,hk,hst⟩:=VarAt.store7 (hp 6 (by decide)) (s:=7) (al:=al1 7 6) rfl hN;have e2:ρ (.tmp 2)=_:=(hρ 2).trans hv;obtain ⟨⟨x0,x1,x2,x3,x4,x5,x6,k0,k1,k2,k3,k4,k5,k6⟩,kf,kz⟩:=blk7 hcs;have HST:=Hd hst;have HK:=Hd hk;clear hR hN hp hρ t0 t1 t2 g4 hv hst hcs hk;go_light;go_simp;exact ⟨γ.put 6 none,(HST.o _ _ _ _ _ _ _).1,LN.stored al1_inj rfl HK.o,Av,cv,Bv,ev,(HST.o _ _ _ _ _ _ _).2⟩
  ·refine LinStep.yes fun vals γ w' ρ hR hN hp hρ hc hf hg=>⟨rfl,?_⟩;have e21:ρ (.tmp 21)=_:=(hρ 21).trans (hp 5 (by decide));clear hR hN hp hρ t0 t1 t2;go_light;go_simp;exact ⟨γ,LR.refl _ _,fun _ _ _ h=>h,rfl⟩
  ·intro vals γ w' hR hG;obtain ⟨Av,cv,Bv,ev,g,hv,hb,-⟩:=hG 7 (by decide);have h8:vals 8=.int .i64 0:=hG 8 (by decide);have HX:=Hd hR.drew_ext;have HB:=Hd hb;clear hR hG hb;simp only [lexFrame,Act.put,List.setIfInBounds_toArray,List.set_cons_succ,List.set_cons_zero,Nat.zero_add,Nat.reduceAdd,hv,h8];generalize vals 0=u0,vals 1=u1,vals 2=u2,vals 3=u3,vals 4=u4,vals 5=u5;clear hv h8
   go_wp2_with fail
   go_meet
   case rel=>exact ⟨g,Av,cv,Bv,ev,rfl,rfl,HX.o,HB.o⟩
 case rest =>
 obtain ⟨g1,Av,cv,Bv,ev,rfl,rfl,hx3,hb3⟩:=hcut;obtain ⟨w3,rfl⟩:∃ w3,w3=wc:=⟨_,rfl⟩;have s0:=hx3.cell t0;have s1:=hx3.cell t1;have s2:=hx3.cell t2;have hz3:=hx3.size;have HX3:=Hd (HX2.o.trans hx3);have HB3:=Hd hb3;have HRL3:=Hd (HRL.o.keep (hx3.kept _));clear hx3 hb3 HX2 HRL t0 t1 t2;have HRL:=HRL3;have t0:=s0;have t1:=s1;have t2:=s2;clear HRL3 s0 s1 s2
 go_upto_region 3 with fail
 go_cut [4,5] from 15 to 127 (fun p b wx=>∃ g Av cv Bv ev,p=.pointer (some ⟨g,0,none⟩)∧b=.int .i64 18∧Ext w3 wx∧Blk wx g 31 #[.int .i64 Val.zero.kind,.string Val.zero.s,.int .i64 Val.zero.dn,.int .i64 Val.zero.ds,.int .i64 Val.zero.n,.slice Av Val.zero.cols.length cv,.slice Bv Val.zero.rows.length ev])
 case first =>
  refine wp_region_lin_lit (by kernel_rfl) dFind (by kernel_rfl) LR LR.refl LR.trans (LN (al1 7 6)) (gFind A c B e sParis Val.zero 18) (gFind_st _ _ _ _ _ _ _) gh0 (LN.zero _) ⟨?_,?_,?_,?_,?_,?_,?_,?_,?_,trivial⟩ ?_
  ·refine LinStep.yes fun vals γ w' ρ hR hN hp hρ hc hf hg=>⟨rfl,?_⟩;have hx:=hR.drew_ext;have c0:=hx.cell t0;have c1:=hx.cell t1;have c2:=hx.cell t2;have e1:ρ (.tmp 1)=.pointer (some ⟨w1.heap.size,0,none⟩):=hρ 1;clear hR hN hp hρ t0 t1 t2 hx;go_light;go_simp;exact ⟨γ,LR.refl _ _,fun _ _ _ h=>h,rfl⟩
  ·refine LinStep.yes fun vals γ w' ρ hR hN hp hρ hc hf hg=>⟨rfl,?_⟩;clear hR hN hp hρ t0 t1 t2;go_light;go_simp;exact (law_text _ _).mono fun e' w3 ⟨he,hx⟩=>⟨_,he,γ,LR.of_ext γ hx,fun _ _ _ h=>h,_,rfl,rfl⟩
  ·refine LinStep.yes fun vals γ w' ρ hR hN hp hρ hc hf hg=>⟨rfl,?_⟩;have e17:ρ (.tmp 23)=_:=(hρ 23).trans (hp 0 (by decide));obtain ⟨x,hx1,g1⟩:=hp 1 (by decide);have e18:ρ (.tmp 24)=_:=(hρ 24).trans g1;have HR:=Hd hR;subst hx1;clear hR hN hp hρ t0 t1 t2 g1;go_light;go_simp;refine (table_Find 1 citiesT sCity (textV sParis) sCountry A B none none c e 0 0 _ (Fresh w) (Fresh w) (HRL.o.keep (HR.o.drew_ext.kept _)) HCP1.o (RV.flat (flat_text _ (by decide)))).mono ?_;rintro e1 w4 ⟨Av,cv,Bv,ev,he,-,-,hx4⟩;rw [san_find2] at he;exact ⟨_,he,γ,LR.of_ext γ hx4,fun _ _ _ h=>h,Av,cv,Bv,ev,rfl⟩
  ·refine LinStep.yes fun vals γ w' ρ hR hN hp hρ hc hf hg=>⟨rfl,?_⟩;obtain ⟨Av,cv,Bv,ev,g⟩:=hp 2 (by decide);have e19:ρ (.tmp 25)=_:=(hρ 25).trans g;clear hR hN hp hρ t0 t1 t2 g;go_light;go_simp;exact ⟨γ,LR.refl _ _,fun _ _ _ h=>h,Av,cv,Bv,ev,rfl⟩
  ·refine LinStep.yes fun vals γ w' ρ hR hN hp hρ hc hf hg=>⟨rfl,?_⟩;obtain ⟨Av,cv,Bv,ev,g⟩:=hp 3 (by decide);have e19:ρ (.tmp 22)=_:=(hρ 22).trans g;clear hR hN hp hρ t0 t1 t2 g;go_light;go_simp;exact ⟨γ,LR.refl _ _,fun _ _ _ h=>h,Av,cv,Bv,ev,rfl⟩
  ·refine LinStep.yes fun vals γ w' ρ hR hN hp hρ hc hf hg=>⟨rfl,?_⟩;obtain ⟨Av,cv,Bv,ev,g⟩:=hp 3 (by decide);have e19:ρ (.tmp 22)=_:=(hρ 22).trans g;clear hR hN hp hρ t0 t1 t2 g;go_light;go_simp;exact ⟨γ,LR.refl _ _,fun _ _ _ h=>h,rfl⟩
  ·refine LinStep.yes fun vals γ w' ρ hR hN hp hρ hc hf hg=>⟨rfl,?_⟩;have HB:=Hd hR.inb0;have HN:=Hd hN;clear hR hN hp hρ t0 t1 t2;go_light;go_simp;exact ⟨γ.put 6 (some w'.heap.size),LR.new (HN.o.2 ⟨7,rfl⟩) _ _,LN.made,VarAt.new HB.o rfl⟩
  ·refine LinStep.yes fun vals γ w' ρ hR hN hp hρ hc hf hg=>⟨rfl,?_⟩;obtain ⟨Av,cv,Bv,ev,g4⟩:=hp 4 (by decide);have e20:ρ (.tmp 26)=_:=(hρ 26).trans g4;obtain ⟨g,hv,hcs,hk,hst⟩:=VarAt.store7 (hp 6 (by decide)) (s:=7) (al:=al1 7 6) rfl hN;have e2:ρ (.tmp 4)=_:=(hρ 4).trans hv;obtain ⟨⟨x0,x1,x2,x3,x4,x5,x6,k0,k1,k2,k3,k4,k5,k6⟩,kf,kz⟩:=blk7 hcs;have HST:=Hd hst;have HK:=Hd hk;clear hR hN hp hρ t0 t1 t2 g4 hv hst hcs hk;go_light;go_simp;exact ⟨γ.put 6 none,(HST.o _ _ _ _ _ _ _).1,LN.stored al1_inj rfl HK.o,Av,cv,Bv,ev,(HST.o _ _ _ _ _ _ _).2⟩
  ·refine LinStep.yes fun vals γ w' ρ hR hN hp hρ hc hf hg=>⟨rfl,?_⟩;have e21:ρ (.tmp 27)=_:=(hρ 27).trans (hp 5 (by decide));clear hR hN hp hρ t0 t1 t2;go_light;go_simp;exact ⟨γ,LR.refl _ _,fun _ _ _ h=>h,rfl⟩
  ·intro vals γ w' hR hG;obtain ⟨Av,cv,Bv,ev,g,hv,hb,-⟩:=hG 7 (by decide);have h8:vals 8=.int .i64 18:=hG 8 (by decide);have HX:=Hd hR.drew_ext;have HB:=Hd hb;clear hR hG hb;simp only [lexFrame,Act.put,List.setIfInBounds_toArray,List.set_cons_succ,List.set_cons_zero,Nat.zero_add,Nat.reduceAdd,hv,h8];generalize vals 0=u0,vals 1=u1,vals 2=u2,vals 3=u3,vals 4=u4,vals 5=u5;clear hv h8
   go_wp2_with fail
   go_meet
   case rel=>exact ⟨g,Av,cv,Bv,ev,rfl,rfl,HX.o,HB.o⟩
 case rest =>
 obtain ⟨g2,Av2,cv2,Bv2,ev2,rfl,rfl,hx4,hb4⟩:=hcut;obtain ⟨w4,rfl⟩:∃ w4,w4=wc:=⟨_,rfl⟩;have s0:=hx4.cell t0;have s1:=hx4.cell t1;have s2:=hx4.cell t2;have HX4:=Hd (HX3.o.trans hx4);have HB1:=Hd (HB3.o.keep (hx4.kept _));have HRL4:=Hd (HRL.o.keep (hx4.kept _));clear hx4 hb4 HX3 HB3 HRL t0 t1 t2
 go_wp2_with fail
 refine (table_Keys 1 citiesT.cols citiesT.rows A B c e _ (Fresh w) (Fresh w) HRL4.o.2.1 HRL4.o.2.2 (by decide)).mono ?_;rintro e5 w5 ⟨Ak,ck,he,hck,hrk,hx5⟩;rw [san_keys] at he hrk;subst he;have t0:=hx5.cell s0;have t1:=hx5.cell s1;have t2:=hx5.cell s2;have HX5:=Hd (HX4.o.trans hx5);have HB2:=Hd (HB1.o.keep (hx5.kept _));have HRL5:=Hd (HRL4.o.keep (hx5.kept _));have HRK:=Hd hrk;clear hx5 hrk hck HX4 HB1 HRL4 s0 s1 s2
 go_upto_region 6 with fail
 obtain ⟨w6,hw6⟩:∃ w6,w6=w5a w5:=⟨_,rfl⟩;have hx6:=w5a_ext w5;have hd6:=w5a_mem w5;rw [← hw6] at hx6 hd6;unfold w5a sCity sZip sCountry at hw6;rw [← hw6];clear hw6;have s0:=hx6.cell t0;have s1:=hx6.cell t1;have s2:=hx6.cell t2;have HX6:=Hd (HX5.o.trans hx6);have HB3:=Hd (HB2.o.keep (hx6.kept _));have HRL6:=Hd (HRL5.o.keep (hx6.kept _));have HRK6:=Hd (HRK.o.keep (hx6.kept _));have HRD6:=Hd hd6;clear hx6 hd6 HX5 HB2 HRL5 HRK t0 t1 t2
 go_wp2_with fail
 refine (table_Closure abD [sA] _ _ 2 1 _ _ _ (w6a_mem w6).1 (w6a_mem w6).2 (by decide)).mono ?_;rintro e7 w7 ⟨ks,hks,A7,c7,he,hc7,hs7,hx7'⟩;rw [san_clos hks] at he hs7;subst he;have hx7:=(w6a_ext w6).trans hx7';have t0:=hx7.cell s0;have t1:=hx7.cell s1;have t2:=hx7.cell s2;have HX7:=Hd (HX6.o.trans hx7);have HB4:=Hd (HB3.o.keep (hx7.kept _));have HRL7:=Hd (HRL6.o.keep (hx7.kept _));have HRK7:=Hd (HRK6.o.keep (hx7.kept _));have HRD7:=Hd (HRD6.o.keep (hx7.kept _));have HS7:=Hd hs7;clear hx7 hx7' hks ks hc7 hs7 HX6 HB3 HRL6 HRK6 HRD6 s0 s1 s2
 go_wp2_with fail
 refine (law_number _ _).mono ?_;rintro e8 w8 ⟨rfl,hx8⟩;have HX8:=Hd hx8;have hs8:=hx8.size;clear hx8
 go_wp2_with fail
 refine (law_number _ _).mono ?_;rintro e9 w9 ⟨rfl,hx9⟩;have HX9:=Hd hx9;have hs9:=hx9.size;clear hx9
 go_wp2_with fail
 refine (law_number _ _).mono ?_;rintro e10 w10 ⟨rfl,hx10⟩;have HX10:=Hd hx10;have hs10:=hx10.size;clear hx10
 go_upto_region 8 with fail
 obtain ⟨w11,hw11⟩:∃ w11,w11=((w10.alloc (.cells #[.int .i64 (numW 4 0).kind,.string (numW 4 0).s,.int .i64 (numW 4 0).dn,.int .i64 (numW 4 0).ds,.int .i64 (numW 4 0).n,.slice none (numW 4 0).cols.length 0,.slice none (numW 4 0).rows.length 0] 31)).alloc (.cells #[.slice (some ⟨w8.heap.size,0,none⟩) 1 1,.slice (some ⟨w9.heap.size,0,none⟩) 1 1,.slice (some ⟨w10.heap.size,0,none⟩) 1 1] 50)).alloc
  (.cells #[.int .i64 5,.string ⟨#[]⟩,.int .i64 0,.int .i64 0,.int .i64 0,.slice (some ⟨w7.heap.size,0,none⟩) 1 1,.slice (some ⟨w10.heap.size+1,0,none⟩) 3 3] 31):=⟨_,rfl⟩
 have x10:Ext w7 w10:=(((Ext.refl w7).alloc _).trans HX8.o).trans ((((Ext.refl _).alloc _).trans HX9.o).trans (((Ext.refl _).alloc _).trans HX10.o));have hb11:Blk w11 (w10.heap.size+1+1) 31 #[.int .i64 5,.string ⟨#[]⟩,.int .i64 0,.int .i64 0,.int .i64 0,.slice (some ⟨w7.heap.size,0,none⟩) 1 1,.slice (some ⟨w10.heap.size+1,0,none⟩) 3 3]:=(by rw [hw11]; exact blk_at _ _ _ (by simp));have hm11:RV w11 (fun _=>True) 1 nV (some ⟨w7.heap.size,0,none⟩) (some ⟨w10.heap.size+1,0,none⟩):=by
  rw [hw11];exact (nV_mem (S:=fun _=>True) (v:=w10) ((((Blk.new w7 9 #[.string sN]).keep (HX8.o.kept _)).keep ((((Ext.refl _).alloc _).trans HX9.o).kept _)).keep ((((Ext.refl _).alloc _).trans HX10.o).kept _))
   (((Blk.new w8 31 (rowC [numW 3 0])).keep (HX9.o.kept _)).keep ((((Ext.refl _).alloc _).trans HX10.o).kept _)) ((Blk.new w9 31 (rowC [numW (-5) 0])).keep (HX10.o.kept _)) trivial trivial trivial trivial trivial).keep (Kept.alloc _ _ _)
 have hx11:Ext w7 w11:=(by rw [hw11]; exact ((x10.alloc _).alloc _).alloc _);rw [← hw11];clear hw11 x10 HX8 HX9 HX10 hs8 hs9 hs10;have s0:=hx11.cell t0;have s1:=hx11.cell t1;have s2:=hx11.cell t2;have HX11:=Hd (HX7.o.trans hx11);have HB5:=Hd (HB4.o.keep (hx11.kept _));have HRL11:=Hd (HRL7.o.keep (hx11.kept _));have HRK11:=Hd (HRK7.o.keep (hx11.kept _));have HRD11:=Hd (HRD7.o.keep (hx11.kept _));have HS11:=Hd (HS7.o.keep (hx11.kept _));have HN11:=Hd hm11;have HNB:=Hd hb11;have n0:=hb11.cell (i:=0) rfl;have n1:=hb11.cell (i:=1) rfl;have n2:=hb11.cell (i:=2) rfl;have n3:=hb11.cell (i:=3) rfl;have n4:=hb11.cell (i:=4) rfl;have n5:=hb11.cell (i:=5) rfl;have n6:=hb11.cell (i:=6) rfl;clear hx11 hb11 hm11 HX7 HB4 HRL7 HRK7 HRD7 HS7 t0 t1 t2
 go_wp2_with fail
 refine (table_Sum 1 nV sN (-2) 0 _ _ 1 3 _ (fun _=>True) HN11.o (by decide) (HT.o.ext HX11.o)).mono ?_;rintro e12 w12 ⟨As,cs,Bs,es,he,-,-,hx12⟩;rw [san_sum1] at he;have he2:e12=.returned (.tuple #[(.agg #[.int .i64 twoV.kind,.string twoV.s,.int .i64 twoV.dn,.int .i64 twoV.ds,.int .i64 twoV.n,.slice As twoV.cols.length cs,.slice Bs twoV.rows.length es]),.int .i64 0]):=he;clear he;subst he2;clear HNB;have HX12:=Hd (HX11.o.trans hx12);have c120:=hx12.cell s0;have c121:=hx12.cell s1;have c122:=hx12.cell s2;have K120:=Hd (HB5.o.keep (hx12.kept _));have K121:=Hd (HRL11.o.keep (hx12.kept _));have K122:=Hd (HRK11.o.keep (hx12.kept _));have K123:=Hd (HRD11.o.keep (hx12.kept _));have K124:=Hd (HS11.o.keep (hx12.kept _));have K125:=Hd (HN11.o.keep (hx12.kept _));have n120:=hx12.cell n0;have n121:=hx12.cell n1;have n122:=hx12.cell n2;have n123:=hx12.cell n3;have n124:=hx12.cell n4;have n125:=hx12.cell n5;have n126:=hx12.cell n6;clear hx12 HX11 HB5 HRL11 HRK11 HRD11 HS11 HN11 s0 s1 s2 n0 n1 n2 n3 n4 n5 n6
 go_upto_region 9 with fail
 obtain ⟨w13,hw13⟩:∃ w13,w13=w12.alloc (.cells #[.int .i64 twoV.kind,.string twoV.s,.int .i64 twoV.dn,.int .i64 twoV.ds,.int .i64 twoV.n,.slice As twoV.cols.length cs,.slice Bs twoV.rows.length es] 31):=⟨_,rfl⟩;have hx13:Ext w12 w13:=(by rw [hw13]; exact (Ext.refl _).alloc _);have HB13:=Hd (show Blk w13 w12.heap.size 31 #[.int .i64 twoV.kind,.string twoV.s,.int .i64 twoV.dn,.int .i64 twoV.ds,.int .i64 twoV.n,.slice As twoV.cols.length cs,.slice Bs twoV.rows.length es] by rw [hw13]; exact Blk.new _ _ _);rw [← hw13];clear hw13;have HX13:=Hd (HX12.o.trans hx13);have c130:=hx13.cell c120;have c131:=hx13.cell c121;have c132:=hx13.cell c122;have K130:=Hd (K120.o.keep (hx13.kept _));have K131:=Hd (K121.o.keep (hx13.kept _));have K132:=Hd (K122.o.keep (hx13.kept _));have K133:=Hd (K123.o.keep (hx13.kept _));have K134:=Hd (K124.o.keep (hx13.kept _));have K135:=Hd (K125.o.keep (hx13.kept _));have n130:=hx13.cell n120;have n131:=hx13.cell n121;have n132:=hx13.cell n122;have n133:=hx13.cell n123;have n134:=hx13.cell n124;have n135:=hx13.cell n125;have n136:=hx13.cell n126;clear hx13 HX12 K120 K121 K122 K123 K124 K125 c120 c121 c122 n120 n121 n122 n123 n124 n125 n126
 go_wp2_with fail
 refine (table_Sum 1 nV sN 0 0 _ _ 1 3 _ (fun _=>True) K135.o (by decide) (HT.o.ext HX13.o)).mono ?_;rintro e14 w14 ⟨As',cs',Bs',es',he,-,-,hx14⟩;rw [san_sum2] at he;have he2:e14=.returned (.tuple #[(.agg #[.int .i64 Val.zero.kind,.string Val.zero.s,.int .i64 Val.zero.dn,.int .i64 Val.zero.ds,.int .i64 Val.zero.n,.slice As' Val.zero.cols.length cs',.slice Bs' Val.zero.rows.length es']),.int .i64 20]):=he;clear he;subst he2;have HB14:=Hd (HB13.o.keep (hx14.kept _));clear HB13;have HX14:=Hd (HX13.o.trans hx14);have c140:=hx14.cell c130;have c141:=hx14.cell c131;have c142:=hx14.cell c132;have K140:=Hd (K130.o.keep (hx14.kept _));have K141:=Hd (K131.o.keep (hx14.kept _));have K142:=Hd (K132.o.keep (hx14.kept _));have K143:=Hd (K133.o.keep (hx14.kept _));have K144:=Hd (K134.o.keep (hx14.kept _));have K145:=Hd (K135.o.keep (hx14.kept _));have n140:=hx14.cell n130;have n141:=hx14.cell n131;have n142:=hx14.cell n132;have n143:=hx14.cell n133;have n144:=hx14.cell n134;have n145:=hx14.cell n135;have n146:=hx14.cell n136;clear hx14 HX13 K130 K131 K132 K133 K134 K135 c130 c131 c132 n130 n131 n132 n133 n134 n135 n136 n140 n141 n142 n143 n144 n145 n146
 go_upto_region 10 with fail
 obtain ⟨w15,hw15⟩:∃ w15,w15=w14.alloc (.cells #[.int .i64 Val.zero.kind,.string Val.zero.s,.int .i64 Val.zero.dn,.int .i64 Val.zero.ds,.int .i64 Val.zero.n,.slice As' Val.zero.cols.length cs',.slice Bs' Val.zero.rows.length es'] 31):=⟨_,rfl⟩;have hx15:Ext w14 w15:=(by rw [hw15]; exact (Ext.refl _).alloc _);rw [← hw15];clear hw15;have HB15:=Hd (HB14.o.keep (hx15.kept _));clear HB14;have HX15:=Hd (HX14.o.trans hx15);have c150:=hx15.cell c140;have c151:=hx15.cell c141;have c152:=hx15.cell c142;have K150:=Hd (K140.o.keep (hx15.kept _));have K151:=Hd (K141.o.keep (hx15.kept _));have K152:=Hd (K142.o.keep (hx15.kept _));have K153:=Hd (K143.o.keep (hx15.kept _));have K154:=Hd (K144.o.keep (hx15.kept _));have K155:=Hd (K145.o.keep (hx15.kept _));clear hx15 HX14 K140 K141 K142 K143 K144 K145 c140 c141 c142
 go_wp2_with fail
 refine (table_Holds 1 citiesT.cols citiesT.rows [sCountry] sZip A B _ c e 1 _ (Fresh w) (Fresh w) (fun _=>True) (K151.o.2.1.keep (Kept.alloc _ _ _)) (K151.o.2.2.keep (Kept.alloc _ _ _)) (Strs.one (Blk.new w15 9 #[.string sCountry]) (by decide) trivial)).mono ?_;rintro e16 w16 ⟨he,hx16'⟩;rw [san_hold1] at he;subst he;have hx16:=((Ext.refl w15).alloc _).trans hx16';clear hx16';have HB16:=Hd (HB15.o.keep (hx16.kept _));clear HB15;have HX16:=Hd (HX15.o.trans hx16);have c160:=hx16.cell c150;have c161:=hx16.cell c151;have c162:=hx16.cell c152;have K160:=Hd (K150.o.keep (hx16.kept _));have K161:=Hd (K151.o.keep (hx16.kept _));have K162:=Hd (K152.o.keep (hx16.kept _));have K163:=Hd (K153.o.keep (hx16.kept _));have K164:=Hd (K154.o.keep (hx16.kept _));have K165:=Hd (K155.o.keep (hx16.kept _));clear hx16 HX15 K150 K151 K152 K153 K154 K155 c150 c151 c152
 go_wp2_with fail
 refine (table_Holds 1 citiesT.cols citiesT.rows [sCity] sCountry A B _ c e 1 _ (Fresh w) (Fresh w) (fun _=>True) (K161.o.2.1.keep (Kept.alloc _ _ _)) (K161.o.2.2.keep (Kept.alloc _ _ _)) (Strs.one (Blk.new w16 9 #[.string sCity]) (by decide) trivial)).mono ?_;rintro e17 w17 ⟨he,hx17'⟩;rw [san_hold2] at he;subst he;have hx17:=((Ext.refl w16).alloc _).trans hx17';clear hx17';have HB17:=Hd (HB16.o.keep (hx17.kept _));clear HB16;have HX17:=Hd (HX16.o.trans hx17);have c170:=hx17.cell c160;have c171:=hx17.cell c161;have c172:=hx17.cell c162;have K170:=Hd (K160.o.keep (hx17.kept _));have K171:=Hd (K161.o.keep (hx17.kept _));have K172:=Hd (K162.o.keep (hx17.kept _));have K173:=Hd (K163.o.keep (hx17.kept _));have K174:=Hd (K164.o.keep (hx17.kept _));have K175:=Hd (K165.o.keep (hx17.kept _));clear hx17 HX16 K160 K161 K162 K163 K164 K165 c160 c161 c162
 go_upto_region 11 with fail
 refine wp_region_lin_lit (by kernel_rfl) dSan (by kernel_rfl) LR LR.refl LR.trans (LN al0) (gSan A c B e Av cv Bv ev Ak ck w5 A7 c7 As cs Bs es) (gSan_st _ _ _ _ _ _ _ _ _ _ _ _ _ _ _ _ _) gh0 (LN.zero _) ⟨?_,?_,?_,?_,?_,?_,?_,?_,?_,?_,?_,?_,?_,?_,?_,?_,?_,?_,?_,?_,?_,?_,?_,?_,?_,?_,?_,?_,?_,?_,?_,?_,?_,?_,?_,?_,?_,?_,?_,?_,?_,?_,trivial⟩ ?_
 ·refine LinStep.yes fun vals γ w' ρ hR hN hp hρ hc hf hg=>⟨rfl,?_⟩;have hx:=hR.drew_ext;have c0:=hx.cell c170;have c1:=hx.cell c171;have c2:=hx.cell c172;have e1:ρ (.tmp 1)=.pointer (some ⟨w1.heap.size,0,none⟩):=hρ 1;clear hx;have HR:=Hd hR;clear hR hN hp hρ c170 c171 c172;go_light;go_simp;exact ⟨γ,LR.refl _ _,fun _ _ _ h=>h,rfl⟩
 ·refine LinStep.yes fun vals γ w' ρ hR hN hp hρ hc hf hg=>⟨rfl,?_⟩;have e87:ρ (.tmp 87)=(.agg #[.string citiesT.name,.slice A citiesT.cols.length c,.slice B citiesT.rows.length e]):=(hρ 87).trans (hp 0 (by decide));have HR:=Hd hR;clear hR hN hp hρ c170 c171 c172;go_light;go_simp;refine (table_Right 1 citiesT A B c e _ (Fresh w) (K171.o.keep (HR.o.drew_ext.kept _)) HCP1.o).mono ?_;rintro e' w3 ⟨he,hx⟩;rw [san_right] at he;exact ⟨_,he,γ,LR.of_ext γ hx,fun _ _ _ h=>h,rfl⟩
 ·refine LinStep.yes fun vals γ w' ρ hR hN hp hρ hc hf hg=>⟨rfl,?_⟩;have e88:ρ (.tmp 88)=.bool true:=(hρ 88).trans (hp 1 (by decide));have HR:=Hd hR;clear hR hN hp hρ c170 c171 c172;go_light;go_simp;exact ⟨γ,LR.refl _ _,fun _ _ _ h=>h,rfl⟩
 ·refine LinStep.yes fun vals γ w' ρ hR hN hp hρ hc hf hg=>⟨by show (boolOf (vals 2)==some true)=true; rw [show vals 2=.bool true from hp 2 (by decide)]; rfl,?_⟩;have e3:ρ (.tmp 3)=.int .i64 0:=hρ 3;have HR:=Hd hR;clear hR hN hp hρ c170 c171 c172;go_light;go_simp;exact ⟨γ,LR.refl _ _,fun _ _ _ h=>h,rfl⟩
 ·refine LinStep.yes fun vals γ w' ρ hR hN hp hρ hc hf hg=>⟨by show (boolOf (vals 2)==some true)=true; rw [show vals 2=.bool true from hp 2 (by decide)]; rfl,?_⟩;have e90:ρ (.tmp 90)=.int .i64 0:=(hρ 90).trans (hp 3 (by decide));have HR:=Hd hR;clear hR hN hp hρ c170 c171 c172;go_light;go_simp;exact ⟨γ,LR.refl _ _,fun _ _ _ h=>h,rfl⟩
 ·refine LinStep.yes fun vals γ w' ρ hR hN hp hρ hc hf hg=>⟨rfl,?_⟩;have e89:ρ (.tmp 89)=.bool true:=(hρ 89).trans (hp 2 (by decide));have e91:ρ (.tmp 91)=.bool true:=(hρ 91).trans (hp 4 (by decide));have HR:=Hd hR;clear hR hN hp hρ c170 c171 c172;go_light;go_simp;exact ⟨γ,LR.refl _ _,fun _ _ _ h=>h,rfl⟩
 ·refine LinStep.yes fun vals γ w' ρ hR hN hp hρ hc hf hg=>⟨rfl,?_⟩;have e92:ρ (.tmp 92)=.bool true:=(hρ 92).trans (hp 5 (by decide));have HR:=Hd hR;clear hR hN hp hρ c170 c171 c172;go_light;go_simp;exact ⟨γ,LR.refl _ _,fun _ _ _ h=>h,rfl⟩
 ·refine LinStep.yes fun vals γ w' ρ hR hN hp hρ hc hf hg=>⟨by show (boolOf (vals 6)==some true)=true; rw [show vals 6=.bool true from hp 6 (by decide)]; rfl,?_⟩;have e2:ρ (.tmp 2)=.pointer (some ⟨g1,0,none⟩):=hρ 2;have hb:=(K170.o).keep (hR.drew_ext.kept _);have k0:=hb.cell (i:=0) rfl;have k1:=hb.cell (i:=1) rfl;have k2:=hb.cell (i:=2) rfl;have k3:=hb.cell (i:=3) rfl;have k4:=hb.cell (i:=4) rfl;have k5:=hb.cell (i:=5) rfl;have k6:=hb.cell (i:=6) rfl;clear hb;have HR:=Hd hR;clear hR hN hp hρ c170 c171 c172;go_light;go_simp;exact ⟨γ,LR.refl _ _,fun _ _ _ h=>h,rfl⟩
 ·refine LinStep.yes fun vals γ w' ρ hR hN hp hρ hc hf hg=>⟨by show (boolOf (vals 6)==some true)=true; rw [show vals 6=.bool true from hp 6 (by decide)]; rfl,?_⟩;have HR:=Hd hR;clear hR hN hp hρ c170 c171 c172;go_light;go_simp;exact (law_text _ _).mono fun e' w3 ⟨he,hx⟩=>⟨_,he,γ,LR.of_ext γ hx,fun _ _ _ h=>h,rfl⟩
 ·refine LinStep.yes fun vals γ w' ρ hR hN hp hρ hc hf hg=>⟨by show (boolOf (vals 6)==some true)=true; rw [show vals 6=.bool true from hp 6 (by decide)]; rfl,?_⟩;have e94:ρ (.tmp 94)=(.agg #[.int .i64 noV.kind,.string noV.s,.int .i64 noV.dn,.int .i64 noV.ds,.int .i64 noV.n,.slice Av noV.cols.length cv,.slice Bv noV.rows.length ev]):=(hρ 94).trans (hp 7 (by decide));have e95:ρ (.tmp 95)=(.agg #[.int .i64 noV.kind,.string noV.s,.int .i64 noV.dn,.int .i64 noV.ds,.int .i64 noV.n,.slice none noV.cols.length 0,.slice none noV.rows.length 0]):=(hρ 95).trans (hp 8 (by decide));have HR:=Hd hR;clear hR hN hp hρ c170 c171 c172;go_light;go_simp;refine (r06_Equal 1 noV noV Av Bv none none cv ev 0 0 _ (Fresh w) (Fresh w) (RV.flat (flat_text _ (by decide))) (RV.flat (flat_text _ (by decide)))).mono ?_;rintro e' w3 ⟨he,hx⟩;rw [decide_eq_true rfl] at he;exact ⟨_,he,γ,LR.of_ext γ hx,fun _ _ _ h=>h,rfl⟩
 ·refine LinStep.yes fun vals γ w' ρ hR hN hp hρ hc hf hg=>⟨rfl,?_⟩;have e93:ρ (.tmp 93)=.bool true:=(hρ 93).trans (hp 6 (by decide));have e96:ρ (.tmp 96)=.bool true:=(hρ 96).trans (hp 9 (by decide));have HR:=Hd hR;clear hR hN hp hρ c170 c171 c172;go_light;go_simp;exact ⟨γ,LR.refl _ _,fun _ _ _ h=>h,rfl⟩
 ·refine LinStep.yes fun vals γ w' ρ hR hN hp hρ hc hf hg=>⟨rfl,?_⟩;have e97:ρ (.tmp 97)=.bool true:=(hρ 97).trans (hp 10 (by decide));have HR:=Hd hR;clear hR hN hp hρ c170 c171 c172;go_light;go_simp;exact ⟨γ,LR.refl _ _,fun _ _ _ h=>h,rfl⟩
 ·refine LinStep.yes fun vals γ w' ρ hR hN hp hρ hc hf hg=>⟨by show (boolOf (vals 11)==some true)=true; rw [show vals 11=.bool true from hp 11 (by decide)]; rfl,?_⟩;have e5:ρ (.tmp 5)=.int .i64 18:=hρ 5;have HR:=Hd hR;clear hR hN hp hρ c170 c171 c172;go_light;go_simp;exact ⟨γ,LR.refl _ _,fun _ _ _ h=>h,rfl⟩
 ·refine LinStep.yes fun vals γ w' ρ hR hN hp hρ hc hf hg=>⟨by show (boolOf (vals 11)==some true)=true; rw [show vals 11=.bool true from hp 11 (by decide)]; rfl,?_⟩;have e99:ρ (.tmp 99)=.int .i64 18:=(hρ 99).trans (hp 12 (by decide));have HR:=Hd hR;clear hR hN hp hρ c170 c171 c172;go_light;go_simp;exact ⟨γ,LR.refl _ _,fun _ _ _ h=>h,rfl⟩
 ·refine LinStep.yes fun vals γ w' ρ hR hN hp hρ hc hf hg=>⟨rfl,?_⟩;have e98:ρ (.tmp 98)=.bool true:=(hρ 98).trans (hp 11 (by decide));have e100:ρ (.tmp 100)=.bool true:=(hρ 100).trans (hp 13 (by decide));have HR:=Hd hR;clear hR hN hp hρ c170 c171 c172;go_light;go_simp;exact ⟨γ,LR.refl _ _,fun _ _ _ h=>h,rfl⟩
 ·refine LinStep.yes fun vals γ w' ρ hR hN hp hρ hc hf hg=>⟨rfl,?_⟩;have e101:ρ (.tmp 101)=.bool true:=(hρ 101).trans (hp 14 (by decide));have HR:=Hd hR;clear hR hN hp hρ c170 c171 c172;go_light;go_simp;exact ⟨γ,LR.refl _ _,fun _ _ _ h=>h,rfl⟩
 ·refine LinStep.yes fun vals γ w' ρ hR hN hp hρ hc hf hg=>⟨by show (boolOf (vals 15)==some true)=true; rw [show vals 15=.bool true from hp 15 (by decide)]; rfl,?_⟩;have e6:ρ (.tmp 6)=.slice Ak wantD.length ck:=hρ 6;have HR:=Hd hR;clear hR hN hp hρ c170 c171 c172;go_light;go_simp;exact ⟨γ,LR.refl _ _,fun _ _ _ h=>h,rfl⟩
 ·refine LinStep.yes fun vals γ w' ρ hR hN hp hρ hc hf hg=>⟨by show (boolOf (vals 15)==some true)=true; rw [show vals 15=.bool true from hp 15 (by decide)]; rfl,?_⟩;have e7:ρ (.tmp 7)=.slice (some ⟨w5.heap.size+1+1+1+1,0,none⟩) 4 4:=hρ 7;have HR:=Hd hR;clear hR hN hp hρ c170 c171 c172;go_light;go_simp;exact ⟨γ,LR.refl _ _,fun _ _ _ h=>h,rfl⟩
 ·refine LinStep.yes fun vals γ w' ρ hR hN hp hρ hc hf hg=>⟨by show (boolOf (vals 15)==some true)=true; rw [show vals 15=.bool true from hp 15 (by decide)]; rfl,?_⟩;have e103:ρ (.tmp 103)=.slice Ak wantD.length ck:=(hρ 103).trans (hp 16 (by decide));have e104:ρ (.tmp 104)=.slice (some ⟨w5.heap.size+1+1+1+1,0,none⟩) 4 4:=(hρ 104).trans (hp 17 (by decide));have HR:=Hd hR;clear hR hN hp hρ c170 c171 c172;go_light;go_simp;refine (r09_Deps wantD Ak _ ck 4 _ _ _ (K172.o.keep (HR.o.drew_ext.kept _)) (K173.o.keep (HR.o.drew_ext.kept _))).mono ?_;rintro e' w3 ⟨he,n,rfl⟩;exact ⟨_,he,γ,LR.of_ext γ ((Ext.refl _).drewN n),fun _ _ _ h=>h,rfl⟩
 ·refine LinStep.yes fun vals γ w' ρ hR hN hp hρ hc hf hg=>⟨rfl,?_⟩;have e102:ρ (.tmp 102)=.bool true:=(hρ 102).trans (hp 15 (by decide));have e105:ρ (.tmp 105)=.bool true:=(hρ 105).trans (hp 18 (by decide));have HR:=Hd hR;clear hR hN hp hρ c170 c171 c172;go_light;go_simp;exact ⟨γ,LR.refl _ _,fun _ _ _ h=>h,rfl⟩
 ·refine LinStep.yes fun vals γ w' ρ hR hN hp hρ hc hf hg=>⟨rfl,?_⟩;have e106:ρ (.tmp 106)=.bool true:=(hρ 106).trans (hp 19 (by decide));have HR:=Hd hR;clear hR hN hp hρ c170 c171 c172;go_light;go_simp;exact ⟨γ,LR.refl _ _,fun _ _ _ h=>h,rfl⟩
 ·refine LinStep.yes fun vals γ w' ρ hR hN hp hρ hc hf hg=>⟨by show (boolOf (vals 20)==some true)=true; rw [show vals 20=.bool true from hp 20 (by decide)]; rfl,?_⟩;have e14:ρ (.tmp 14)=.bool true:=hρ 14;have HR:=Hd hR;clear hR hN hp hρ c170 c171 c172;go_light;go_simp;exact ⟨γ,LR.refl _ _,fun _ _ _ h=>h,rfl⟩
 ·refine LinStep.yes fun vals γ w' ρ hR hN hp hρ hc hf hg=>⟨rfl,?_⟩;have e107:ρ (.tmp 107)=.bool true:=(hρ 107).trans (hp 20 (by decide));have e108:ρ (.tmp 108)=.bool true:=(hρ 108).trans (hp 21 (by decide));have HR:=Hd hR;clear hR hN hp hρ c170 c171 c172;go_light;go_simp;exact ⟨γ,LR.refl _ _,fun _ _ _ h=>h,rfl⟩
 ·refine LinStep.yes fun vals γ w' ρ hR hN hp hρ hc hf hg=>⟨rfl,?_⟩;have e109:ρ (.tmp 109)=.bool true:=(hρ 109).trans (hp 22 (by decide));have HR:=Hd hR;clear hR hN hp hρ c170 c171 c172;go_light;go_simp;exact ⟨γ,LR.refl _ _,fun _ _ _ h=>h,rfl⟩
 ·refine LinStep.yes fun vals γ w' ρ hR hN hp hρ hc hf hg=>⟨by show (boolOf (vals 23)==some true)=true; rw [show vals 23=.bool true from hp 23 (by decide)]; rfl,?_⟩;have e8:ρ (.tmp 8)=.slice A7 3 c7:=hρ 8;have HR:=Hd hR;clear hR hN hp hρ c170 c171 c172;go_light;go_simp;exact ⟨γ,LR.refl _ _,fun _ _ _ h=>h,rfl⟩
 ·refine LinStep.yes fun vals γ w' ρ hR hN hp hρ hc hf hg=>⟨by show (boolOf (vals 23)==some true)=true; rw [show vals 23=.bool true from hp 23 (by decide)]; rfl,?_⟩;have HR:=Hd hR;clear hR hN hp hρ c170 c171 c172;go_light;go_simp;refine ⟨γ,LR.of_ext γ ((Ext.refl _).alloc _),fun _ _ _ h=>h,_,rfl,?_⟩;refine (Strs.of_blk (Blk.new w' 9 #[.string sA,.string sB,.string sC]) rfl (by decide) (by decide)).mono fun b _ hb => ?_;rintro ⟨k,hk⟩;have:=HR.o.inb0 k b hk;omega
 ·refine LinStep.yes fun vals γ w' ρ hR hN hp hρ hc hf hg=>⟨by show (boolOf (vals 23)==some true)=true; rw [show vals 23=.bool true from hp 23 (by decide)]; rfl,?_⟩;have e111:ρ (.tmp 111)=.slice A7 3 c7:=(hρ 111).trans (hp 24 (by decide));obtain ⟨gb,hv25,hs25⟩:=hp 25 (by decide);have e112:ρ (.tmp 112)=_:=(hρ 112).trans hv25;have HS25:=Hd hs25;clear hv25 hs25;have HR:=Hd hR;clear hR hN hp hρ c170 c171 c172;go_light;go_simp;refine (r06_StringsSame A7 _ c7 3 [sA,sB,sC] _ _ _ (K174.o.keep (HR.o.drew_ext.kept _)) HS25.o).mono ?_;rintro e' w3 ⟨he,n,rfl⟩;exact ⟨_,he,γ,LR.of_ext γ ((Ext.refl _).drewN n),fun _ _ _ h=>h,rfl⟩
 ·refine LinStep.yes fun vals γ w' ρ hR hN hp hρ hc hf hg=>⟨rfl,?_⟩;have e110:ρ (.tmp 110)=.bool true:=(hρ 110).trans (hp 23 (by decide));have e113:ρ (.tmp 113)=.bool true:=(hρ 113).trans (hp 26 (by decide));have HR:=Hd hR;clear hR hN hp hρ c170 c171 c172;go_light;go_simp;exact ⟨γ,LR.refl _ _,fun _ _ _ h=>h,rfl⟩
 ·refine LinStep.yes fun vals γ w' ρ hR hN hp hρ hc hf hg=>⟨rfl,?_⟩;have e114:ρ (.tmp 114)=.bool true:=(hρ 114).trans (hp 27 (by decide));have HR:=Hd hR;clear hR hN hp hρ c170 c171 c172;go_light;go_simp;exact ⟨γ,LR.refl _ _,fun _ _ _ h=>h,rfl⟩
 ·refine LinStep.yes fun vals γ w' ρ hR hN hp hρ hc hf hg=>⟨by show (boolOf (vals 28)==some true)=true; rw [show vals 28=.bool true from hp 28 (by decide)]; rfl,?_⟩;have e11:ρ (.tmp 11)=.int .i64 0:=hρ 11;have HR:=Hd hR;clear hR hN hp hρ c170 c171 c172;go_light;go_simp;exact ⟨γ,LR.refl _ _,fun _ _ _ h=>h,rfl⟩
 ·refine LinStep.yes fun vals γ w' ρ hR hN hp hρ hc hf hg=>⟨by show (boolOf (vals 28)==some true)=true; rw [show vals 28=.bool true from hp 28 (by decide)]; rfl,?_⟩;have e116:ρ (.tmp 116)=.int .i64 0:=(hρ 116).trans (hp 29 (by decide));have HR:=Hd hR;clear hR hN hp hρ c170 c171 c172;go_light;go_simp;exact ⟨γ,LR.refl _ _,fun _ _ _ h=>h,rfl⟩
 ·refine LinStep.yes fun vals γ w' ρ hR hN hp hρ hc hf hg=>⟨rfl,?_⟩;have e115:ρ (.tmp 115)=.bool true:=(hρ 115).trans (hp 28 (by decide));have e117:ρ (.tmp 117)=.bool true:=(hρ 117).trans (hp 30 (by decide));have HR:=Hd hR;clear hR hN hp hρ c170 c171 c172;go_light;go_simp;exact ⟨γ,LR.refl _ _,fun _ _ _ h=>h,rfl⟩
 ·refine LinStep.yes fun vals γ w' ρ hR hN hp hρ hc hf hg=>⟨rfl,?_⟩;have e118:ρ (.tmp 118)=.bool true:=(hρ 118).trans (hp 31 (by decide));have HR:=Hd hR;clear hR hN hp hρ c170 c171 c172;go_light;go_simp;exact ⟨γ,LR.refl _ _,fun _ _ _ h=>h,rfl⟩
 ·refine LinStep.yes fun vals γ w' ρ hR hN hp hρ hc hf hg=>⟨by show (boolOf (vals 32)==some true)=true; rw [show vals 32=.bool true from hp 32 (by decide)]; rfl,?_⟩;have e10:ρ (.tmp 10)=.pointer (some ⟨w12.heap.size,0,none⟩):=hρ 10;have hb:=(HB17.o).keep (hR.drew_ext.kept _);have k0:=hb.cell (i:=0) rfl;have k1:=hb.cell (i:=1) rfl;have k2:=hb.cell (i:=2) rfl;have k3:=hb.cell (i:=3) rfl;have k4:=hb.cell (i:=4) rfl;have k5:=hb.cell (i:=5) rfl;have k6:=hb.cell (i:=6) rfl;clear hb;have HR:=Hd hR;clear hR hN hp hρ c170 c171 c172;go_light;go_simp;exact ⟨γ,LR.refl _ _,fun _ _ _ h=>h,rfl⟩
 ·refine LinStep.yes fun vals γ w' ρ hR hN hp hρ hc hf hg=>⟨by show (boolOf (vals 32)==some true)=true; rw [show vals 32=.bool true from hp 32 (by decide)]; rfl,?_⟩;have HR:=Hd hR;clear hR hN hp hρ c170 c171 c172;go_light;go_simp;exact (law_number _ _).mono fun e' w3 ⟨he,hx⟩=>⟨_,he,γ,LR.of_ext γ hx,fun _ _ _ h=>h,rfl⟩
 ·refine LinStep.yes fun vals γ w' ρ hR hN hp hρ hc hf hg=>⟨by show (boolOf (vals 32)==some true)=true; rw [show vals 32=.bool true from hp 32 (by decide)]; rfl,?_⟩;have e120:ρ (.tmp 120)=(.agg #[.int .i64 twoV.kind,.string twoV.s,.int .i64 twoV.dn,.int .i64 twoV.ds,.int .i64 twoV.n,.slice As twoV.cols.length cs,.slice Bs twoV.rows.length es]):=(hρ 120).trans (hp 33 (by decide));have e121:ρ (.tmp 121)=(.agg #[.int .i64 twoV.kind,.string twoV.s,.int .i64 twoV.dn,.int .i64 twoV.ds,.int .i64 twoV.n,.slice none twoV.cols.length 0,.slice none twoV.rows.length 0]):=(hρ 121).trans (hp 34 (by decide));have HR:=Hd hR;clear hR hN hp hρ c170 c171 c172;go_light;go_simp;refine (r06_Equal 1 twoV twoV As Bs none none cs es 0 0 _ (Fresh w) (Fresh w) (RV.flat (flat_num _ _)) (RV.flat (flat_num _ _))).mono ?_;rintro e' w3 ⟨he,hx⟩;rw [decide_eq_true rfl] at he;exact ⟨_,he,γ,LR.of_ext γ hx,fun _ _ _ h=>h,rfl⟩
 ·refine LinStep.yes fun vals γ w' ρ hR hN hp hρ hc hf hg=>⟨rfl,?_⟩;have e119:ρ (.tmp 119)=.bool true:=(hρ 119).trans (hp 32 (by decide));have e122:ρ (.tmp 122)=.bool true:=(hρ 122).trans (hp 35 (by decide));have HR:=Hd hR;clear hR hN hp hρ c170 c171 c172;go_light;go_simp;exact ⟨γ,LR.refl _ _,fun _ _ _ h=>h,rfl⟩
 ·refine LinStep.yes fun vals γ w' ρ hR hN hp hρ hc hf hg=>⟨rfl,?_⟩;have e123:ρ (.tmp 123)=.bool true:=(hρ 123).trans (hp 36 (by decide));have HR:=Hd hR;clear hR hN hp hρ c170 c171 c172;go_light;go_simp;exact ⟨γ,LR.refl _ _,fun _ _ _ h=>h,rfl⟩
 ·refine LinStep.yes fun vals γ w' ρ hR hN hp hρ hc hf hg=>⟨by show (boolOf (vals 37)==some true)=true; rw [show vals 37=.bool true from hp 37 (by decide)]; rfl,?_⟩;have e13:ρ (.tmp 13)=.int .i64 20:=hρ 13;have HR:=Hd hR;clear hR hN hp hρ c170 c171 c172;go_light;go_simp;exact ⟨γ,LR.refl _ _,fun _ _ _ h=>h,rfl⟩
 ·refine LinStep.yes fun vals γ w' ρ hR hN hp hρ hc hf hg=>⟨by show (boolOf (vals 37)==some true)=true; rw [show vals 37=.bool true from hp 37 (by decide)]; rfl,?_⟩;have e125:ρ (.tmp 125)=.int .i64 20:=(hρ 125).trans (hp 38 (by decide));have HR:=Hd hR;clear hR hN hp hρ c170 c171 c172;go_light;go_simp;exact ⟨γ,LR.refl _ _,fun _ _ _ h=>h,rfl⟩
 ·refine LinStep.yes fun vals γ w' ρ hR hN hp hρ hc hf hg=>⟨rfl,?_⟩;have e124:ρ (.tmp 124)=.bool true:=(hρ 124).trans (hp 37 (by decide));have e126:ρ (.tmp 126)=.bool true:=(hρ 126).trans (hp 39 (by decide));have HR:=Hd hR;clear hR hN hp hρ c170 c171 c172;go_light;go_simp;exact ⟨γ,LR.refl _ _,fun _ _ _ h=>h,rfl⟩
 ·refine LinStep.yes fun vals γ w' ρ hR hN hp hρ hc hf hg=>⟨rfl,?_⟩;have e127:ρ (.tmp 127)=.bool true:=(hρ 127).trans (hp 40 (by decide));have HR:=Hd hR;clear hR hN hp hρ c170 c171 c172;go_light;go_simp;exact ⟨γ,LR.refl _ _,fun _ _ _ h=>h,rfl⟩
 ·intro vals γ w' hR hG;have h41:vals 41=.bool true:=hG 41 (by decide);have HX:=Hd (HX17.o.trans hR.drew_ext);clear hR hG;simp only [lexFrame,Act.put,List.setIfInBounds_toArray,List.set_cons_succ,List.set_cons_zero,Nat.zero_add,Nat.reduceAdd,h41];clear h41;go_wp2;go_ret;exact ⟨rfl,HX.o⟩

theorem blkAt (w:World) (t:Nat) (cs:Array Value) {n:Nat} (hn:w.heap.size=n):Blk (w.alloc (.cells cs t)) n t cs:=hn ▸ Blk.new w t cs
def sSince:ByteArray:=⟨#[115,105,110,99,101]⟩
def sX:ByteArray:=⟨#[120]⟩
def names5:Array Value:=#[.string sCity,.string sZip,.string sCountry,.string sSince,.string sX]
structure DC (w:World) (A:Option Addr) (n c:Nat) (s:ByteArray) (A':Option Addr) (c':Nat) (fs:List ByteArray) (wr:World):Prop where
 ext:Ext w wr
 gr:Blk wr w.heap.size 59 #[.slice none 0 0,.string ⟨#[]⟩]
 num:∃ K,NumIs wr (w.heap.size+1) A n c K
 gn:Blk wr (w.heap.size+1+1) 9 names5
 gd:Blk wr (w.heap.size+3) 59 #[.slice A' fs.length c',.string s]
 own:OwnSs wr (w.heap.size+4) A' c' fs
theorem DC.more {w wr wr':World} {A A':Option Addr} {n c c':Nat} {s:ByteArray} {fs:List ByteArray} (h:DC w A n c s A' c' fs wr) (hx:Ext wr wr'):DC w A n c s A' c' fs wr':=by
 obtain ⟨K,hK⟩:=h.num;exact ⟨h.ext.trans hx,h.gr.keep (hx.kept _),⟨K,hK.keep (hx.kept _)⟩,h.gn.keep (hx.kept _),h.gd.keep (hx.kept _),h.own.ext hx⟩
theorem DC.next {w wr wr':World} {A A':Option Addr} {n c c':Nat} {s:ByteArray} {fs:List ByteArray} (h:DC w A n c s A' c' fs wr) (ho:Only (w.heap.size+1) wr wr') {K:Nat} (hK:NumIs wr' (w.heap.size+1) A n c K):DC w A n c s A' c' fs wr' :=
 ⟨h.ext.only ho (by omega),h.gr.keep (ho.kept fun b _ e=>by omega),⟨K,hK⟩,h.gn.keep (ho.kept fun b _ e=>by omega),h.gd.keep (ho.kept fun b _ e=>by omega),ho.own h.own.1 (by omega),h.own.2⟩
structure DA (w:World) (A:Option Addr) (n c:Nat) (s:ByteArray) (A':Option Addr) (c':Nat) (fs:List ByteArray) (wr:World):Prop where
 ext:Ext w wr
 gr:Blk wr w.heap.size 59 #[.slice none 0 0,.string ⟨#[]⟩]
 num:∃ K,NumIs wr (w.heap.size+1) A n c K
 gn:Blk wr (w.heap.size+1+1) 9 names5
 gd:∃ x,Blk wr (w.heap.size+3) 59 #[x,.string s]
 own:OwnSs wr (w.heap.size+4) A' c' fs
theorem DC.app {w wr wr':World} {A A' A4:Option Addr} {n c c' c4:Nat} {s t:ByteArray} {fs:List ByteArray} (h:DC w A n c s A' c' fs wr) (hg:wr.grownBy wr' (ob A')) (ho:Own wr' (w.heap.size+4) 9 1 A4 (fs.length+1) c4 (fs.map Value.string++[.string t])) (ht:t.size≤4294967296):DA w A n c s A4 c4 (fs++[t]) wr':=by
 obtain ⟨K,hK⟩:=h.num;have hk:∀ g,g<w.heap.size+4→Kept (fun b=>b=g) wr wr':=fun g hg'=>Kept.of_grown hg fun b hb _ e=>by
  subst hb;have:=(h.own.1.blk e.symm).1;omega
 refine ⟨Ext.grown h.ext hg fun b hb=>by have:=(h.own.1.blk hb).1; omega,h.gr.keep (hk _ (by omega)),⟨K,hK.keep (hk _ (by omega))⟩,h.gn.keep (hk _ (by omega)),⟨_,h.gd.keep (hk _ (by omega))⟩,?_,?_⟩
 ·simpa using ho
 ·intro x hx
  rcases List.mem_append.1 hx with hx | hx
  ·exact h.own.2 x hx
  ·simp at hx; subst hx; exact ht
theorem DA.store {w wr:World} {A A':Option Addr} {n c c':Nat} {s:ByteArray} {fs:List ByteArray} (h:DA w A n c s A' c' fs wr):DC w A n c s A' c' fs (wr.setCell ⟨w.heap.size+3,0,none⟩ (.slice A' fs.length c')):=by
 obtain ⟨K,hK⟩:=h.num;obtain ⟨x,hx⟩:=h.gd;have ho:=(Only.refl (w.heap.size+3) wr).set 0 (.slice A' fs.length c');exact ⟨h.ext.only ho (by omega),h.gr.keep (ho.kept fun b _ e=>by omega),⟨K,hK.keep (ho.kept fun b _ e=>by omega)⟩,h.gn.keep (ho.kept fun b _ e=>by omega),hx.set 0 _,ho.own h.own.1 (by omega),h.own.2⟩
end Go.Proofs.YthmckfloppblcaaGreatDoor
