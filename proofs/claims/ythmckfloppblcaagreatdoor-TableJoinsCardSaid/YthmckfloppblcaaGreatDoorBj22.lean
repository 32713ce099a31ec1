/- The reference's Join. Conditions: the arguments read as data. -/
import Derived.Test.YthmckfloppblcaaGreatDoorBj21
set_option maxRecDepth 100000
set_option maxHeartbeats 4000000
namespace Go.Proofs.YthmckfloppblcaaGreatDoor
open Go Go.RowKit

def plcU (l1 l2:List (List Val)) (i j p n:Nat):List Nat:=(List.range n).filter fun q=>isB (cellAt l2 j q) (cellAt l1 i p)
def prsU (l1 l2:List (List Val)) (i j p:Nat):List (Nat × Nat):=(List.range p).flatMap fun p=>(plcU l1 l2 i j p l2.length).map fun q=>(p,q)
def joinR (a b:Val) (col:ByteArray):Val × Int :=
 if isTabB a=false∨isTabB b=false then (Val.zero,14)
 else if idxS a.cols col<0∨idxS b.cols col<0 then (Val.zero,13)
 else if joinClash a.cols b.cols col=true then (Val.zero,13)
 else if 8<(joinCols a.cols b.cols col).length∨100<(prsU a.rows b.rows (idxS a.cols col).toNat (idxS b.cols col).toNat a.rows.length).length then (Val.zero,2)
 else (tabV (joinCols a.cols b.cols col) (joinRows a.rows b.rows (idxS b.cols col).toNat (prsU a.rows b.rows (idxS a.cols col).toNat (idxS b.cols col).toNat a.rows.length)),0)
def JrF (O:World→Prop) (n γ:Nat) (w':World):Prop:=n≤γ∧(γ=n→O w')
theorem isTab_nodup {t:Val} (h:isTabB t=true) {k:Nat} (hk:k<t.cols.length):memS (t.cols.take k) t.cols[k]=false:=by
 simp only [isTabB,Bool.and_eq_true,decide_eq_true_eq] at h;have h2:=h.2;unfold rightB at h2;rw [if_pos h.1,Bool.and_eq_true] at h2;have h3:=h2.1;simp only [tableR,Bool.and_eq_true,decide_eq_true_eq] at h3;have h4:=List.all_eq_true.1 h3.1.2 k (List.mem_range.2 hk);unfold colOK at h4;have h5:=h4;simp [hk] at h5;exact h5.2
theorem col_iff {t:Val} (h:isTabB t=true) {col:ByteArray} {j k:Nat} (hj:j<t.cols.length) (hjc:t.cols[j]=col) (hk:k<t.cols.length):t.cols[k]=col↔k=j:=by
 constructor
 ·intro hc
  rcases Nat.lt_trichotomy k j with hlt | he | hgt
  ·exfalso;have h1:=isTab_nodup h hj;have h2:memS (t.cols.take j) t.cols[j]=true:=by
    rw [memS_iff,hjc,← hc];exact List.mem_take_iff_getElem.2 ⟨k,by omega,rfl⟩
   rw [h1] at h2;cases h2
  ·exact he
  ·exfalso;have h1:=isTab_nodup h hk;have h2:memS (t.cols.take k) t.cols[k]=true:=by
    rw [memS_iff,hc,← hjc];exact List.mem_take_iff_getElem.2 ⟨j,by omega,rfl⟩
   rw [h1] at h2;cases h2
 ·rintro rfl;exact hjc
theorem plcU_succ (l1 l2:List (List Val)) (i j p n:Nat):plcU l1 l2 i j p (n+1)=plcU l1 l2 i j p n++if isB (cellAt l2 j n) (cellAt l1 i p)=true then [n] else []:=by
 unfold plcU;rw [List.range_succ,List.filter_append];congr 1;rw [List.filter_cons];rfl
theorem prsU_succ (l1 l2:List (List Val)) (i j p:Nat):prsU l1 l2 i j (p+1)=prsU l1 l2 i j p++(plcU l1 l2 i j p l2.length).map fun q=>(p,q):=by
 unfold prsU;rw [List.range_succ,List.flatMap_append];simp
theorem prsU_len (l1 l2:List (List Val)) (i j p:Nat):(prsU l1 l2 i j p).length≤p*l2.length:=by
 induction p with
 | zero=>simp [prsU]
 | succ p ih =>
  rw [prsU_succ,List.length_append,List.length_map,Nat.succ_mul];have h:=List.length_filter_le (fun q=>isB (cellAt l2 j q) (cellAt l1 i p)) (List.range l2.length);rw [List.length_range] at h;unfold plcU;omega
theorem plcU_len (l1 l2:List (List Val)) (i j p n:Nat):(plcU l1 l2 i j p n).length≤n:=by
 have h:=List.length_filter_le (fun q=>isB (cellAt l2 j q) (cellAt l1 i p)) (List.range n);rwa [List.length_range] at h
theorem joinRows_app {l1 l2:List (List Val)} {j:Nat} {ps:List (Nat × Nat)} {p q:Nat} (hp:p<l1.length) (hq:q<l2.length):joinRows l1 l2 j (ps++[(p,q)])=joinRows l1 l2 j ps++[joinRow l1[p] l2[q] j]:=by
 unfold joinRows;rw [List.map_append];simp [List.getD_eq_getElem?_getD,hp,hq]
theorem isTab_rows {t:Val} (h:isTabB t=true):t.rows.length≤100:=by
 simp only [isTabB,Bool.and_eq_true,decide_eq_true_eq] at h;have h2:=h.2;unfold rightB at h2;rw [if_pos h.1,Bool.and_eq_true] at h2;have h3:=h2.1;simp only [tableR,Bool.and_eq_true,decide_eq_true_eq] at h3;omega
def rowsU (l1 l2:List (List Val)) (i j p q:Nat):List (List Val):=joinRows l1 l2 j (prsU l1 l2 i j p++(plcU l1 l2 i j p q).map fun q=>(p,q))
theorem rowsU_zero (l1 l2:List (List Val)) (i j p:Nat):rowsU l1 l2 i j p 0=joinRows l1 l2 j (prsU l1 l2 i j p):=by
 unfold rowsU plcU;simp
theorem rowsU_end (l1 l2:List (List Val)) (i j p:Nat):rowsU l1 l2 i j p l2.length=joinRows l1 l2 j (prsU l1 l2 i j (p+1)):=by
 unfold rowsU;rw [prsU_succ]
theorem rowsU_no {l1 l2:List (List Val)} {i j p q:Nat} (h:isB (cellAt l2 j q) (cellAt l1 i p)=false):rowsU l1 l2 i j p (q+1)=rowsU l1 l2 i j p q:=by
 unfold rowsU;rw [plcU_succ,h];simp
theorem rowsU_yes {l1 l2:List (List Val)} {i j p q:Nat} (hp:p<l1.length) (hq:q<l2.length) (h:isB (cellAt l2 j q) (cellAt l1 i p)=true):rowsU l1 l2 i j p (q+1)=rowsU l1 l2 i j p q++[joinRow l1[p] l2[q] j]:=by
 unfold rowsU;rw [plcU_succ,h,if_pos rfl,List.map_append,← List.append_assoc];exact joinRows_app hp hq
theorem rowsU_len (l1 l2:List (List Val)) (i j p q:Nat):(rowsU l1 l2 i j p q).length≤p*l2.length+q:=by
 unfold rowsU joinRows;rw [List.length_map,List.length_append,List.length_map];have h1:=prsU_len l1 l2 i j p;have h2:=plcU_len l1 l2 i j p q;omega
theorem cellAt_at {l:List (List Val)} {j k:Nat} (hk:k<l.length) (hj:j<l[k].length):cellAt l j k=l[k][j]:=by
 unfold cellAt;rw [getD_of l k [] hk,getD_of l[k] j Val.zero hj]
def JrV (B:Nat) (Y:Nat→Prop) (n d:Nat) (l:List Val) (v:Value) (γ:Nat) (w':World):Prop:=∃ (A3:Option Addr) (c3:Nat),v=.slice A3 l.length c3∧n≤γ∧(γ=n→OwnVs w' B Y d A3 c3 l)
def JrW (B:Nat) (Y:Nat→Prop) (d:Nat) (x yt:List Val) (v1 v:Value) (γ:Nat) (w':World):Prop:=∃ (A3:Option Addr) (c3:Nat) (A4:Option Addr) (c4:Nat),v1=.slice A3 x.length c3∧v=.slice A4 yt.length c4∧3≤γ∧(γ=3→OwnVs w' B Y d A3 c3 x∧OwnVs w' B Y d A4 c4 yt)
def JrB (X:Nat→Prop) (Ar:Option Addr) (go n d:Nat) (r:List Val) (v:Value) (γ:Nat) (w':World):Prop:=∃ (g:Nat) (A3:Option Addr) (c3:Nat),v=.slice (some ⟨g,0,none⟩) 1 1∧n≤γ∧(γ=n→Blk w' g 50 #[.slice A3 r.length c3]∧Row w' (fun b=>ob Ar≠some b∧X b∧b≠go) d A3 r∧r.length≤c3)
def JrO (O:Option Addr→Nat→World→Prop) (m n:Nat) (v:Value) (γ:Nat) (w':World):Prop:=∃ (A4:Option Addr) (c4:Nat),v=.slice A4 n c4∧m≤γ∧(γ=m→O A4 c4 w')
theorem r09_Join (d:Nat) (a b:Val) (col:ByteArray) (A B A' B':Option Addr) (c e c' e':Nat) (w:World) (S T:Nat→Prop) (ha:RV w S d a A B) (hb:RV w T d b A' B') :
  Calls Tryz.prog 12 #[(.agg #[.int .i64 a.kind,.string a.s,.int .i64 a.dn,.int .i64 a.ds,.int .i64 a.n,.slice A a.cols.length c,.slice B a.rows.length e]),(.agg #[.int .i64 b.kind,.string b.s,.int .i64 b.dn,.int .i64 b.ds,.int .i64 b.n,.slice A' b.cols.length c',.slice B' b.rows.length e']),.string col] w (RetVE w (fun _=>True) d (joinR a b col)):=by
 have H:=Hd (ha.mono (T:=fun b=>b<w.heap.size) fun i hi _=>hi);have HV:=Hd (hb.mono (T:=fun b=>b<w.heap.size) fun i hi _=>hi);have hral:=ha.rows_.len;have hrbl:=hb.rows_.len;clear ha hb;obtain ⟨W0,hW0⟩:∃ W0,W0=((w.alloc (.cells #[.int .i64 a.kind,.string a.s,.int .i64 a.dn,.int .i64 a.ds,.int .i64 a.n,.slice A a.cols.length c,.slice B a.rows.length e] 31)).alloc (.cells #[.int .i64 b.kind,.string b.s,.int .i64 b.dn,.int .i64 b.ds,.int .i64 b.n,.slice A' b.cols.length c',.slice B' b.rows.length e'] 31)).alloc (.cells #[.int .i64 0,.string ⟨#[]⟩,.int .i64 0,.int .i64 0,.int .i64 0,.slice none 0 0,.slice none 0 0] 31):=⟨_,rfl⟩;have HW0:=Hd hW0;have HX0:=Hd (show Ext w W0 by rw [hW0]; exact (((Ext.refl w).alloc _).alloc _).alloc _);have HB0:=Hd (show Blk W0 w.heap.size 31 #[.int .i64 a.kind,.string a.s,.int .i64 a.dn,.int .i64 a.ds,.int .i64 a.n,.slice A a.cols.length c,.slice B a.rows.length e] by rw [hW0]; exact (Blk.newAt rfl).keep (((Ext.refl _).alloc _).alloc _ |>.kept _));have HB1:=Hd (show Blk W0 (w.heap.size+1) 31 #[.int .i64 b.kind,.string b.s,.int .i64 b.dn,.int .i64 b.ds,.int .i64 b.n,.slice A' b.cols.length c',.slice B' b.rows.length e'] by rw [hW0]; exact (Blk.newAt (by simp)).keep ((Ext.refl _).alloc _ |>.kept _));have HB2:=Hd (show Blk W0 (w.heap.size+1+1) 31 #[.int .i64 0,.string ⟨#[]⟩,.int .i64 0,.int .i64 0,.int .i64 0,.slice none 0 0,.slice none 0 0] by rw [hW0]; exact Blk.newAt (by simp));have HS0:=Hd (show W0.heap.size=w.heap.size+3 by rw [hW0]; simp);clear hW0
 go_enter Tryz.func12,Tryz.ntmps12
 go_wp2_with fail
 rw [← HW0.o];refine (r09_IsTable d a A B c e W0 _ (H.o.keep (HX0.o.kept _))).mono ?_;rintro e1 w1 ⟨rfl,hx1⟩;have HX1:=Hd (HX0.o.trans hx1);have HB01:=Hd (HB0.o.keep (hx1.kept _));have HB11:=Hd (HB1.o.keep (hx1.kept _));have HB21:=Hd (HB2.o.keep (hx1.kept _));have hz1:w.heap.size+3≤w1.heap.size:=(by have:=hx1.size; have:=HS0.o; omega);have b0:=HB11.o.cell (i:=0) rfl;have b1:=HB11.o.cell (i:=1) rfl;have b2:=HB11.o.cell (i:=2) rfl;have b3:=HB11.o.cell (i:=3) rfl;have b4:=HB11.o.cell (i:=4) rfl;have b5:=HB11.o.cell (i:=5) rfl;have b6:=HB11.o.cell (i:=6) rfl;have kb:=HB11.o.lt;clear hx1 HB0 HB1 HB2 HW0 HX0 HS0
 go_wp2_with fail
 refine (r09_IsTable d b A' B' c' e' w1 _ (HV.o.keep (HX1.o.kept _))).mono ?_;rintro e1 w2 ⟨rfl,hx2⟩;have HX2:=Hd (HX1.o.trans hx2);have HB02:=Hd (HB01.o.keep (hx2.kept _));have HB12:=Hd (HB11.o.keep (hx2.kept _));have HB22:=Hd (HB21.o.keep (hx2.kept _));have hz2:w.heap.size+3≤w2.heap.size:=Nat.le_trans hz1 hx2.size;clear hx2 HX1 HB01 HB11 HB21 kb b0 b1 b2 b3 b4 b5 b6 hz1;cases hTa:isTabB a
 ·have HF:=Hd (show joinR a b col=(Val.zero,14) by simp [joinR,hTa]);clear hTa;have r0:=HB22.o.cell (i:=0) rfl;have r1:=HB22.o.cell (i:=1) rfl;have r2:=HB22.o.cell (i:=2) rfl;have r3:=HB22.o.cell (i:=3) rfl;have r4:=HB22.o.cell (i:=4) rfl;have r5:=HB22.o.cell (i:=5) rfl;have r6:=HB22.o.cell (i:=6) rfl;have rf:=HB22.o.frozen;have rz:=HB22.o.lt;go_wp2;rw [HF.o];refine bodyPost_ret (v:=.tuple #[(.agg #[.int .i64 Val.zero.kind,.string Val.zero.s,.int .i64 Val.zero.dn,.int .i64 Val.zero.ds,.int .i64 Val.zero.n,.slice none Val.zero.cols.length 0,.slice none Val.zero.rows.length 0]),.int .i64 14]) (by simp [results,Tryz.results12,go_sem,r0,r1,r2,r3,r4,r5,r6,Val.zero]) rfl ⟨none,0,none,0,rfl,⟨Nat.le_refl _,Nat.le_refl _⟩,RV.zero,?_⟩
  iterate 7 with_reducible refine Ext.set2 ?_ (by omega) _
  with_reducible exact HX2.o
 cases hTb:isTabB b
 ·have HF:=Hd (show joinR a b col=(Val.zero,14) by simp [joinR,hTb]);clear hTb hTa;have r0:=HB22.o.cell (i:=0) rfl;have r1:=HB22.o.cell (i:=1) rfl;have r2:=HB22.o.cell (i:=2) rfl;have r3:=HB22.o.cell (i:=3) rfl;have r4:=HB22.o.cell (i:=4) rfl;have r5:=HB22.o.cell (i:=5) rfl;have r6:=HB22.o.cell (i:=6) rfl;have rf:=HB22.o.frozen;have rz:=HB22.o.lt;go_wp2;rw [HF.o];refine bodyPost_ret (v:=.tuple #[(.agg #[.int .i64 Val.zero.kind,.string Val.zero.s,.int .i64 Val.zero.dn,.int .i64 Val.zero.ds,.int .i64 Val.zero.n,.slice none Val.zero.cols.length 0,.slice none Val.zero.rows.length 0]),.int .i64 14]) (by simp [results,Tryz.results12,go_sem,r0,r1,r2,r3,r4,r5,r6,Val.zero]) rfl ⟨none,0,none,0,rfl,⟨Nat.le_refl _,Nat.le_refl _⟩,RV.zero,?_⟩
  iterate 7 with_reducible refine Ext.set2 ?_ (by omega) _
  with_reducible exact HX2.o
 have HTa:=Hd hTa;have HTb:=Hd hTb;clear hTa hTb;have k5:=HB02.o.cell (i:=5) rfl;have kz:=HB02.o.lt;have m5:=HB12.o.cell (i:=5) rfl;have mz:=HB12.o.lt
 go_wp2_with fail
 refine (r09_index A c a.cols col _ _ (H.o.strs.keep (HX2.o.kept _))).mono ?_;rintro e2 w3 ⟨rfl,rfl⟩
 go_wp2_with fail
 refine (r09_index A' c' b.cols col _ _ (HV.o.strs.keep (HX2.o.kept _))).mono ?_;rintro e2 w3 ⟨rfl,rfl⟩;by_cases hia:idxS a.cols col<0
 ·have HF:=Hd (show joinR a b col=(Val.zero,13) by simp [joinR,HTa.o,HTb.o,hia]);have r0:=HB22.o.cell (i:=0) rfl;have r1:=HB22.o.cell (i:=1) rfl;have r2:=HB22.o.cell (i:=2) rfl;have r3:=HB22.o.cell (i:=3) rfl;have r4:=HB22.o.cell (i:=4) rfl;have r5:=HB22.o.cell (i:=5) rfl;have r6:=HB22.o.cell (i:=6) rfl;have rf:=HB22.o.frozen;have rz:=HB22.o.lt;go_wp2;rw [HF.o];refine bodyPost_ret (v:=.tuple #[(.agg #[.int .i64 Val.zero.kind,.string Val.zero.s,.int .i64 Val.zero.dn,.int .i64 Val.zero.ds,.int .i64 Val.zero.n,.slice none Val.zero.cols.length 0,.slice none Val.zero.rows.length 0]),.int .i64 13]) (by simp [results,Tryz.results12,go_sem,r0,r1,r2,r3,r4,r5,r6,Val.zero]) rfl ⟨none,0,none,0,rfl,⟨Nat.le_refl _,Nat.le_refl _⟩,RV.zero,?_⟩
  iterate 7 with_reducible refine Ext.set2 ?_ (by omega) _
  with_reducible exact HX2.o
 by_cases hib:idxS b.cols col<0
 ·have HF:=Hd (show joinR a b col=(Val.zero,13) by simp [joinR,HTa.o,HTb.o,hib]);have r0:=HB22.o.cell (i:=0) rfl;have r1:=HB22.o.cell (i:=1) rfl;have r2:=HB22.o.cell (i:=2) rfl;have r3:=HB22.o.cell (i:=3) rfl;have r4:=HB22.o.cell (i:=4) rfl;have r5:=HB22.o.cell (i:=5) rfl;have r6:=HB22.o.cell (i:=6) rfl;have rf:=HB22.o.frozen;have rz:=HB22.o.lt;go_wp2;rw [HF.o];refine bodyPost_ret (v:=.tuple #[(.agg #[.int .i64 Val.zero.kind,.string Val.zero.s,.int .i64 Val.zero.dn,.int .i64 Val.zero.ds,.int .i64 Val.zero.n,.slice none Val.zero.cols.length 0,.slice none Val.zero.rows.length 0]),.int .i64 13]) (by simp [results,Tryz.results12,go_sem,r0,r1,r2,r3,r4,r5,r6,Val.zero]) rfl ⟨none,0,none,0,rfl,⟨Nat.le_refl _,Nat.le_refl _⟩,RV.zero,?_⟩
  iterate 7 with_reducible refine Ext.set2 ?_ (by omega) _
  with_reducible exact HX2.o
 obtain ⟨i,hi,hil,-⟩:=idxS_at (show 0≤idxS a.cols col by omega);obtain ⟨j,hj,hjl,hjc,-⟩:=idxS_at (show 0≤idxS b.cols col by omega);have HFJ:=Hd (show joinR a b col=if joinClash a.cols b.cols col=true then (Val.zero,13) else if 8<(joinCols a.cols b.cols col).length∨100<(prsU a.rows b.rows i j a.rows.length).length then (Val.zero,2) else (tabV (joinCols a.cols b.cols col) (joinRows a.rows b.rows j (prsU a.rows b.rows i j a.rows.length)),0) by
  unfold joinR;rw [if_neg (by simp [HTa.o,HTb.o]),if_neg (by omega),hi,hj];rfl)
 rw [hi,hj];have hi0:¬ ((i:Int)<0):=(by omega);have hj0:¬ ((j:Int)<0):=(by omega);have HJC0:=Hd hjc;clear hia hib hi hj hjc;have hsa:=H.o.strs.keep (HX2.o.kept _);have HSA:=Hd hsa;have hsal:=hsa.2.1;clear hsa
 go_wp2_with (at_builtin; refine wpList_app rfl (.tmp 43) (.tmp 45) rfl tiS rfl ((World.ownsRow_made w2 #[] 0 (Nat.le_refl _) (by unfold maxLen; omega) rfl)) rfl (HSA.o.1.keep (Kept.alloc _ _ _)) (by simp) (by simp [Value.oneCell']) (by omega) (by decide) (by simp) ?_; intro Ac0 cc0 w4 hown hg hat)
 simp only [Nat.zero_add,List.nil_append] at hown;have hx4:Ext w2 w4:=((Ext.refl w2).alloc _).grown hg (fun k hk=>by simp [ob] at hk; omega);obtain ⟨w5,hw5⟩:∃ w5,w5=w4.alloc (.cells #[.int .i64 5,.string ⟨#[]⟩,.int .i64 0,.int .i64 0,.int .i64 0,.slice Ac0 a.cols.length cc0,.slice none 0 0] 31):=⟨_,rfl⟩;have hx45:Ext w4 w5:=(by rw [hw5]; exact (Ext.refl _).alloc _);obtain ⟨go,hgo⟩:∃ go,go=w4.heap.size:=⟨_,rfl⟩;obtain ⟨lo,hlo⟩:∃ lo,lo=w2.heap.size:=⟨_,rfl⟩;have hz34:=hx4.size;have HJC:=Hd (show JC w lo go Ac0 cc0 (a.cols++(b.cols.take 0).filter fun n=>decide (n≠col)) w5 from by
  simp only [List.take_zero,List.filter_nil,List.append_nil];exact ⟨(HX2.o.trans hx4).trans hx45,⟨by omega,by omega,by rw [hw5,hgo]; simp⟩,by rw [hw5,hgo]; exact Blk.new _ _ _,by rw [hlo]; exact ⟨hown.ext hx45,HSA.o.2.2⟩,fun e=>by have:=(hown.blk e).2; omega⟩)
 have hx25:=hx4.trans hx45;have HB0:=Hd (HB02.o.keep (hx25.kept _));have HB1:=Hd (HB12.o.keep (hx25.kept _));have HB2:=Hd (HB22.o.keep (hx25.kept _));have HX5:=Hd (HX2.o.trans hx25);have hlz:w.heap.size+3≤lo∧lo≤go:=(by omega);rw [← hw5,← hgo];clear hown hg hat hx4 hx45 hx25 hw5 hgo hlo HX2 HB02 HB12 HB22 k5 kz m5 mz hz2 hz34 HSA hsal;have hla:a.cols.length≤8:=isTab_cols HTa.o;have hlb:b.cols.length≤8:=isTab_cols HTb.o;go_wp2
 go_loopw [13] (fun v13 wr=>∃ (k:Nat) (Ac:Option Addr) (cc:Nat),k≤b.cols.length∧v13=.int .i64 (k:Int)∧JC w lo go Ac cc (a.cols++(b.cols.take k).filter fun n=>decide (n≠col)) wr∧Kept (fun b=>b<lo) w5 wr∧joinClash a.cols (b.cols.take k) col=false) (fun v13 _=>b.cols.length-(intOf v13).toNat)
 case atStart=>exact ⟨0,Ac0,cc0,Nat.zero_le _,rfl,HJC.o,Kept.refl _ _,rfl⟩
 case round =>
  clear HJC;obtain ⟨k,Ac,cc,hk,rfl,hjc,hkp,hcl⟩:=hrel;have HJC:=Hd hjc;have HKP:=Hd hkp;have HCL:=Hd hcl;have HB0k:=Hd (HB0.o.keep (hkp.mono fun b _ e=>by omega));have HB1k:=Hd (HB1.o.keep (hkp.mono fun b _ e=>by omega));have HB2k:=Hd (HB2.o.keep (hkp.mono fun b _ e=>by omega));clear hjc hkp hcl;have k1:=HB1k.o.cell (i:=5) rfl;have k1z:=HB1k.o.lt;by_cases hlt:k<b.cols.length
  ·obtain ⟨s,hs⟩:∃ s,s=b.cols[k]:=⟨_,rfl⟩;have hci:=col_iff HTb.o hjl HJC0.o hlt;rw [← hs] at hci;have HS1:=Hd (colsK_succ b.cols col hlt);have HS2:=Hd (clashK_succ a.cols b.cols col hlt);rw [← hs] at HS1 HS2;have HSE:=Hd hs;have hsz:=HV.o.strs.sz hlt;rw [← hs] at hsz;have HSZ:=Hd hsz;obtain ⟨bs,os,hA',hbs,hcs⟩:=HV.o.strs.at_ hlt;rw [← hs] at hcs;have hcs:=HJC.o.ext.cell hcs;clear hs hsz;by_cases hkj:k=j
   ·have HSC:=Hd (hci.2 hkj);have hq:((k:Int)==(j:Int))=true:=(by simp [hkj]);clear hkj hci hcs hbs hA';go_wp2;go_roundw
    case rel=>exact ⟨k+1,Ac,cc,by omega,by go_num,by rw [HS1.o,if_pos HSC.o,List.append_nil]; exact HJC.o,HKP.o,by rw [HS2.o,HCL.o]; simp [HSC.o]⟩
    case measure=>simp [intOf]; omega
   ·have HSC:=Hd (show s≠col from fun h=>hkj (hci.1 h));have hq:((k:Int)==(j:Int))=false:=(by simp; omega);clear hkj hci;subst hA';have CA5:=Hd (HB0k.o.cell (i:=5) rfl);have CB5:=Hd (HB1k.o.cell (i:=5) rfl);have CS:=Hd hcs;have HIX:=Hd (show ∀ w',Ext wr w'→Calls Tryz.prog 38 #[.slice A a.cols.length c,.string s] w' (RetI w' (idxS a.cols s)) from fun w' hx=>(r09_index A c a.cols s w' _ (H.o.strs.keep ((HJC.o.ext.trans hx).kept _))).mono fun e w3 h=>⟨h.1,by rw [← h.2]; exact Ext.refl _⟩);have HBSL:=Hd (show bs<lo by omega);have i0:(0:Int)≤(k:Int):=(by omega);have i1:(k:Int)<(b.cols.length:Int):=(by omega);clear hcs hbs;by_cases hge:0≤idxS a.cols s
    ·have HF:=Hd (show joinR a b col=(Val.zero,13) by rw [HFJ.o,if_pos (clash_of a.cols b.cols col hlt (by rw [← HSE.o]; exact HSC.o) (by rw [← HSE.o]; exact decide_eq_true hge))])
     go_upto_region 14 with fail
     refine wp_region_chain (by kernel_rfl) (fun i=>[i]) (by kernel_rfl) (LZ (fun _ _=>False)) (LZ.refl _) (LZ.trans _) (LK []) gz0 (LK.zero _) ?_;apply Chain.pure (LZ.refl _) (by rfl)
     ·intro vals γ w' ρ hR hN hp hρ hc hf hg;refine ⟨rfl,?_⟩;have e3:=hρ 3;(conv at e3=>rhs; whnf);clear hR hN hp hρ;go_light;go_simp;exact ⟨rfl,rfl⟩
     ·rfl
     apply Chain.pure (LZ.refl _) (by rfl)
     ·intro vals γ w' ρ hR hN hp hρ hc hf hg;refine ⟨rfl,?_⟩;have e58:ρ (.tmp 58)=_:=(hρ 58).trans (hp 0 (by decide));have hxx:=hR.ext0 (fun _ _ _ h=>h.elim);have k3:=hxx.cell CA5.o;have k4:=hxx.cell CB5.o;have k6:=hxx.cell CS.o;clear hxx hR hN hp hρ;go_light;go_simp;exact ⟨rfl,rfl⟩
     ·rfl
     apply Chain.pure (LZ.refl _) (by rfl)
     ·intro vals γ w' ρ hR hN hp hρ hc hf hg;refine ⟨rfl,?_⟩;have e4:=hρ 4;(conv at e4=>rhs; whnf);clear hR hN hp hρ;go_light;go_simp;exact ⟨rfl,rfl⟩
     ·rfl
     apply Chain.pure (LZ.refl _) (by rfl)
     ·intro vals γ w' ρ hR hN hp hρ hc hf hg;refine ⟨rfl,?_⟩;have e60:ρ (.tmp 60)=_:=(hρ 60).trans (hp 2 (by decide));have hxx:=hR.ext0 (fun _ _ _ h=>h.elim);have k3:=hxx.cell CA5.o;have k4:=hxx.cell CB5.o;have k6:=hxx.cell CS.o;clear hxx hR hN hp hρ;go_light;go_simp;exact ⟨rfl,rfl⟩
     ·rfl
     apply Chain.pure (LZ.refl _) (by rfl)
     ·intro vals γ w' ρ hR hN hp hρ hc hf hg;refine ⟨rfl,?_⟩;have e13:=hρ 13;(conv at e13=>rhs; whnf);clear hR hN hp hρ;go_light;go_simp;exact ⟨rfl,rfl⟩
     ·rfl
     apply Chain.pure (LZ.refl _) (by rfl)
     ·intro vals γ w' ρ hR hN hp hρ hc hf hg;refine ⟨rfl,?_⟩;have e61:ρ (.tmp 61)=_:=(hρ 61).trans (hp 3 (by decide));have e62:ρ (.tmp 62)=_:=(hρ 62).trans (hp 4 (by decide));clear hR hN hp hρ;go_light;go_simp;exact ⟨rfl,rfl⟩
     ·rfl
     apply Chain.pure (LZ.refl _) (by rfl)
     ·intro vals γ w' ρ hR hN hp hρ hc hf hg;refine ⟨rfl,?_⟩;have e63:ρ (.tmp 63)=_:=(hρ 63).trans (hp 5 (by decide));have hxx:=hR.ext0 (fun _ _ _ h=>h.elim);have k3:=hxx.cell CA5.o;have k4:=hxx.cell CB5.o;have k6:=hxx.cell CS.o;clear hxx hR hN hp hρ;go_light;go_simp;exact ⟨rfl,rfl⟩
     ·rfl
     refine Chain.step (FP fun v γ w'=>v=.int .i64 (idxS a.cols s)) (by rfl) (FP.stab ?_) ?_ ?_
     ·intro v γ w1 γ' w2 r h;exact h
     ·intro vals γ w' ρ hR hN hp hρ hc hf hg;refine ⟨rfl,?_⟩;have e59:ρ (.tmp 59)=_:=(hρ 59).trans (hp 1 (by decide));have e64:ρ (.tmp 64)=_:=(hρ 64).trans (hp 6 (by decide));have HR:=Hd hR;have HXW:=Hd (hR.ext0 (fun _ _ _ h=>h.elim));clear hR hN hp hρ;go_light;go_simp;refine (HIX.o w' HXW.o).mono ?_;rintro e1 w3 ⟨he,hx⟩;exact ⟨_,he,γ,LZ.of_ext _ γ hx,fun _ _ _ h=>h,rfl⟩
     apply Chain.pure (LZ.refl _) (by rfl)
     ·intro vals γ w' ρ hR hN hp hρ hc hf hg;refine ⟨rfl,?_⟩;have e65:ρ (.tmp 65)=_:=(hρ 65).trans (hp 7 (by decide));clear hR hN hp hρ;go_light;go_simp;exact ⟨rfl,rfl⟩
     ·rfl
     intro vals γ w9 hR hG;have v0:vals 0=_:=hG 0 (by decide);have v1:vals 1=_:=hG 1 (by decide);have v2:vals 2=_:=hG 2 (by decide);have v3:vals 3=_:=hG 3 (by decide);have v4:vals 4=_:=hG 4 (by decide);have v5:vals 5=_:=hG 5 (by decide);have v6:vals 6=_:=hG 6 (by decide);have v7:vals 7=_:=hG 7 (by decide);have v8:vals 8=_:=hG 8 (by decide);simp only [lexFrame,Act.put,List.setIfInBounds_toArray,List.set_cons_succ,List.set_cons_zero,Nat.zero_add,Nat.reduceAdd,v0,v1,v2,v3,v4,v5,v6,v7,v8];clear v0 v1 v2 v3 v4 v5 v6 v7 v8;have HXN:=Hd (show Ext wr w9 from hR.ext0 (fun _ _ _ h=>h.elim));clear hR hG;have HB29:=Hd (HB2k.o.keep (HXN.o.kept _));have HX9:=Hd (HJC.o.ext.trans HXN.o);have hw9:=HX9.o.size;have r0:=HB29.o.cell (i:=0) rfl;have r1:=HB29.o.cell (i:=1) rfl;have r2:=HB29.o.cell (i:=2) rfl;have r3:=HB29.o.cell (i:=3) rfl;have r4:=HB29.o.cell (i:=4) rfl;have r5:=HB29.o.cell (i:=5) rfl;have r6:=HB29.o.cell (i:=6) rfl;have rf:=HB29.o.frozen;have rz:=HB29.o.lt;go_wp2;rw [HF.o];refine bodyPost_ret (v:=.tuple #[(.agg #[.int .i64 Val.zero.kind,.string Val.zero.s,.int .i64 Val.zero.dn,.int .i64 Val.zero.ds,.int .i64 Val.zero.n,.slice none Val.zero.cols.length 0,.slice none Val.zero.rows.length 0]),.int .i64 13]) (by simp [results,Tryz.results12,go_sem,r0,r1,r2,r3,r4,r5,r6,Val.zero]) rfl ⟨none,0,none,0,rfl,⟨Nat.le_refl _,Nat.le_refl _⟩,RV.zero,?_⟩
     iterate 7 with_reducible refine Ext.set2 ?_ (by omega) _
     with_reducible exact HX9.o
    ·go_upto_region 14 with fail
     refine wp_region_chain (by kernel_rfl) (fun i=>[i]) (by kernel_rfl) (LZ (fun _ _=>False)) (LZ.refl _) (LZ.trans _) (LK []) gz0 (LK.zero _) ?_;apply Chain.pure (LZ.refl _) (by rfl)
     ·intro vals γ w' ρ hR hN hp hρ hc hf hg;refine ⟨rfl,?_⟩;have e3:=hρ 3;(conv at e3=>rhs; whnf);clear hR hN hp hρ;go_light;go_simp;exact ⟨rfl,rfl⟩
     ·rfl
     apply Chain.pure (LZ.refl _) (by rfl)
     ·intro vals γ w' ρ hR hN hp hρ hc hf hg;refine ⟨rfl,?_⟩;have e58:ρ (.tmp 58)=_:=(hρ 58).trans (hp 0 (by decide));have hxx:=hR.ext0 (fun _ _ _ h=>h.elim);have k3:=hxx.cell CA5.o;have k4:=hxx.cell CB5.o;have k6:=hxx.cell CS.o;clear hxx hR hN hp hρ;go_light;go_simp;exact ⟨rfl,rfl⟩
     ·rfl
     apply Chain.pure (LZ.refl _) (by rfl)
     ·intro vals γ w' ρ hR hN hp hρ hc hf hg;refine ⟨rfl,?_⟩;have e4:=hρ 4;(conv at e4=>rhs; whnf);clear hR hN hp hρ;go_light;go_simp;exact ⟨rfl,rfl⟩
     ·rfl
     apply Chain.pure (LZ.refl _) (by rfl)
     ·intro vals γ w' ρ hR hN hp hρ hc hf hg;refine ⟨rfl,?_⟩;have e60:ρ (.tmp 60)=_:=(hρ 60).trans (hp 2 (by decide));have hxx:=hR.ext0 (fun _ _ _ h=>h.elim);have k3:=hxx.cell CA5.o;have k4:=hxx.cell CB5.o;have k6:=hxx.cell CS.o;clear hxx hR hN hp hρ;go_light;go_simp;exact ⟨rfl,rfl⟩
     ·rfl
     apply Chain.pure (LZ.refl _) (by rfl)
     ·intro vals γ w' ρ hR hN hp hρ hc hf hg;refine ⟨rfl,?_⟩;have e13:=hρ 13;(conv at e13=>rhs; whnf);clear hR hN hp hρ;go_light;go_simp;exact ⟨rfl,rfl⟩
     ·rfl
     apply Chain.pure (LZ.refl _) (by rfl)
     ·intro vals γ w' ρ hR hN hp hρ hc hf hg;refine ⟨rfl,?_⟩;have e61:ρ (.tmp 61)=_:=(hρ 61).trans (hp 3 (by decide));have e62:ρ (.tmp 62)=_:=(hρ 62).trans (hp 4 (by decide));clear hR hN hp hρ;go_light;go_simp;exact ⟨rfl,rfl⟩
     ·rfl
     apply Chain.pure (LZ.refl _) (by rfl)
     ·intro vals γ w' ρ hR hN hp hρ hc hf hg;refine ⟨rfl,?_⟩;have e63:ρ (.tmp 63)=_:=(hρ 63).trans (hp 5 (by decide));have hxx:=hR.ext0 (fun _ _ _ h=>h.elim);have k3:=hxx.cell CA5.o;have k4:=hxx.cell CB5.o;have k6:=hxx.cell CS.o;clear hxx hR hN hp hρ;go_light;go_simp;exact ⟨rfl,rfl⟩
     ·rfl
     refine Chain.step (FP fun v γ w'=>v=.int .i64 (idxS a.cols s)) (by rfl) (FP.stab ?_) ?_ ?_
     ·intro v γ w1 γ' w2 r h;exact h
     ·intro vals γ w' ρ hR hN hp hρ hc hf hg;refine ⟨rfl,?_⟩;have e59:ρ (.tmp 59)=_:=(hρ 59).trans (hp 1 (by decide));have e64:ρ (.tmp 64)=_:=(hρ 64).trans (hp 6 (by decide));have HR:=Hd hR;have HXW:=Hd (hR.ext0 (fun _ _ _ h=>h.elim));clear hR hN hp hρ;go_light;go_simp;refine (HIX.o w' HXW.o).mono ?_;rintro e1 w3 ⟨he,hx⟩;exact ⟨_,he,γ,LZ.of_ext _ γ hx,fun _ _ _ h=>h,rfl⟩
     apply Chain.pure (LZ.refl _) (by rfl)
     ·intro vals γ w' ρ hR hN hp hρ hc hf hg;refine ⟨rfl,?_⟩;have e65:ρ (.tmp 65)=_:=(hρ 65).trans (hp 7 (by decide));clear hR hN hp hρ;go_light;go_simp;exact ⟨rfl,rfl⟩
     ·rfl
     intro vals γ w9 hR hG;have v0:vals 0=_:=hG 0 (by decide);have v1:vals 1=_:=hG 1 (by decide);have v2:vals 2=_:=hG 2 (by decide);have v3:vals 3=_:=hG 3 (by decide);have v4:vals 4=_:=hG 4 (by decide);have v5:vals 5=_:=hG 5 (by decide);have v6:vals 6=_:=hG 6 (by decide);have v7:vals 7=_:=hG 7 (by decide);have v8:vals 8=_:=hG 8 (by decide);simp only [lexFrame,Act.put,List.setIfInBounds_toArray,List.set_cons_succ,List.set_cons_zero,Nat.zero_add,Nat.reduceAdd,v0,v1,v2,v3,v4,v5,v6,v7,v8];clear v0 v1 v2 v3 v4 v5 v6 v7 v8;have HXN:=Hd (show Ext wr w9 from hR.ext0 (fun _ _ _ h=>h.elim));clear hR hG;obtain ⟨wn,hwn⟩:∃ z:World,z=w9:=⟨_,rfl⟩;rw [← hwn] at HXN ⊢;clear hwn CA5 HIX k1 k1z;obtain ⟨cs,ecs⟩:∃ cs,cs=a.cols++(b.cols.take k).filter fun n=>decide (n≠col):=⟨_,rfl⟩;rw [← ecs] at HJC;have hcl:cs.length≤16:=by
      rw [ecs,List.length_append];have h1:=List.length_filter_le (fun n=>decide (n≠col)) (b.cols.take k);rw [List.length_take] at h1;omega
     have HCS:=Hd ecs;have HMM:=Hd (show memS a.cols s=false from decide_eq_false hge);have HJC:=Hd (HJC.o.more HXN.o);have HB1k:=Hd (HB1k.o.keep (HXN.o.kept _));have CS:=Hd (HXN.o.cell CS.o);clear ecs hge
     go_upto_region 16 with fail
     refine wp_region_chain (by kernel_rfl) (fun i=>[i]) (by kernel_rfl) (SR (fun γ w'=>γ≤3∧(γ≤1→Ext wn w')∧ButS (fun b=>ob Ac=some b∨b=go) wn w')) (SR.refl _) (SR.trans _) (SN [100,2,100,100,100,100,100,1,2,100,3]) 0 (SN.zero (by decide)) ?_;apply Chain.pure (SR.refl _) (by rfl)
     ·intro vals γ w' ρ hR hN hp hρ hc hf hg;refine ⟨rfl,?_⟩;have e12:=hρ 12;(conv at e12=>rhs; whnf);clear hR hN hp hρ;go_light;go_simp;exact ⟨rfl,rfl⟩
     ·rfl
     apply Chain.pure (SR.refl _) (by rfl)
     ·intro vals γ w' ρ hR hN hp hρ hc hf hg;refine ⟨rfl,?_⟩;have e68:ρ (.tmp 68)=_:=(hρ 68).trans (hp 0 (by decide));have hi:=hR.inv ⟨by omega,fun _=>(Ext.refl _).drew,ButS.of_ext (Ext.refl _).drew⟩;have hh:=(HJC.o.more (hi.2.1 (by have h:γ<2:=hN; omega))).o;have k5:=hh.cell (i:=5) rfl;clear hi hh hR hN hp hρ;go_light;go_simp;exact ⟨rfl,rfl⟩
     ·rfl
     apply Chain.pure (SR.refl _) (by rfl)
     ·intro vals γ w' ρ hR hN hp hρ hc hf hg;refine ⟨rfl,?_⟩;have e4:=hρ 4;(conv at e4=>rhs; whnf);clear hR hN hp hρ;go_light;go_simp;exact ⟨rfl,rfl⟩
     ·rfl
     apply Chain.pure (SR.refl _) (by rfl)
     ·intro vals γ w' ρ hR hN hp hρ hc hf hg;refine ⟨rfl,?_⟩;have e70:ρ (.tmp 70)=_:=(hρ 70).trans (hp 2 (by decide));have hi:=hR.inv ⟨by omega,fun _=>(Ext.refl _).drew,ButS.of_ext (Ext.refl _).drew⟩;have k5:=(hi.2.2.blk HB1k.o (fun h=>by rcases h with h | h; have:=(HJC.o.own.1.blk h).1; omega; omega)).cell (i:=5) rfl;clear hi hR hN hp hρ;go_light;go_simp;exact ⟨rfl,rfl⟩
     ·rfl
     apply Chain.pure (SR.refl _) (by rfl)
     ·intro vals γ w' ρ hR hN hp hρ hc hf hg;refine ⟨rfl,?_⟩;have e13:=hρ 13;(conv at e13=>rhs; whnf);clear hR hN hp hρ;go_light;go_simp;exact ⟨rfl,rfl⟩
     ·rfl
     apply Chain.pure (SR.refl _) (by rfl)
     ·intro vals γ w' ρ hR hN hp hρ hc hf hg;refine ⟨rfl,?_⟩;have e71:ρ (.tmp 71)=_:=(hρ 71).trans (hp 3 (by decide));have e72:ρ (.tmp 72)=_:=(hρ 72).trans (hp 4 (by decide));clear hR hN hp hρ;go_light;go_simp;exact ⟨rfl,rfl⟩
     ·rfl
     apply Chain.pure (SR.refl _) (by rfl)
     ·intro vals γ w' ρ hR hN hp hρ hc hf hg;refine ⟨rfl,?_⟩;have e73:ρ (.tmp 73)=_:=(hρ 73).trans (hp 5 (by decide));have hi:=hR.inv ⟨by omega,fun _=>(Ext.refl _).drew,ButS.of_ext (Ext.refl _).drew⟩;have k6:=hi.2.2.cell (p:=⟨bs,os+k,none⟩) (fun h=>by have h2:=HBSL.o; rcases h with h | h; have h3:=(HJC.o.own.1.blk (k:=bs) h).1; omega; have h3:bs=go:=h; omega) CS.o;clear hi hR hN hp hρ;go_light;go_simp;exact ⟨rfl,rfl⟩
     ·rfl
     refine Chain.step (FP fun v γ w'=>∃ g:Nat,v=.slice (some ⟨g,0,none⟩) 1 1∧1≤γ∧(γ=1→Blk w' g 9 #[.string s])) (by rfl) (FP.stab ?_) ?_ ?_
     ·rintro v γ w1 γ' w2 r ⟨x0,h1,h3,h4⟩;have hle:=r.le;exact ⟨x0,h1,by omega,fun e=>by rw [r.eq (by omega)]; exact h4 (by omega)⟩
     ·intro vals γ w' ρ hR hN hp hρ hc hf hg;refine ⟨rfl,?_⟩;have e74:ρ (.tmp 74)=_:=(hρ 74).trans (hp 6 (by decide));have hi:=hR.inv ⟨by omega,fun _=>(Ext.refl _).drew,ButS.of_ext (Ext.refl _).drew⟩;have e74:ρ (.tmp 74)=_:=(hρ 74).trans (hp 6 (by decide));have h0:γ=0:=(by have h:γ<1:=hN; omega);subst h0;have HX:=Hd (hi.2.1 (by omega));clear hR hN hp hρ hi;go_light;go_simp;have hx1:Ext w' (w'.alloc (.cells #[.string s] 9)):=(Ext.refl _).alloc _;exact ⟨1,SR.up (by omega) ⟨by omega,fun _=>HX.o.trans hx1,ButS.of_ext (HX.o.trans hx1)⟩,SN.up (by omega) (by decide) rfl,_,rfl,by omega,fun _=>Blk.new _ _ _⟩
     refine Chain.step (FP fun v γ w'=>∃ (A4:Option Addr) (c4:Nat),v=.slice A4 (cs.length+1) c4∧2≤γ∧(γ=2→Blk w' go 31 #[.int .i64 5,.string ⟨#[]⟩,.int .i64 0,.int .i64 0,.int .i64 0,.slice Ac cs.length cc,.slice none 0 0]∧JC w lo go A4 c4 (cs++[s]) (w'.setCell ⟨go,5,none⟩ (.slice A4 (cs.length+1) c4)))) (by rfl) (FP.stab ?_) ?_ ?_
     ·rintro v γ w1 γ' w2 r ⟨x0,x1,h1,h3,h4⟩;have hle:=r.le;exact ⟨x0,x1,h1,by omega,fun e=>by rw [r.eq (by omega)]; exact h4 (by omega)⟩
     ·intro vals γ w' ρ hR hN hp hρ hc hf hg;refine ⟨rfl,?_⟩;have e69:ρ (.tmp 69)=_:=(hρ 69).trans (hp 1 (by decide));have hi:=hR.inv ⟨by omega,fun _=>(Ext.refl _).drew,ButS.of_ext (Ext.refl _).drew⟩;obtain ⟨g',hv7,hr7,hb7⟩:=hp 7 (by decide);have e69:ρ (.tmp 69)=_:=(hρ 69).trans (hp 1 (by decide));have e75:=(hρ 75).trans hv7;have h0:γ=1:=(by have h:γ<2:=hN; omega);subst h0;have hx:=hi.2.1 (by omega);have hjc:=HJC.o.more hx;have hz:=hjc.golo;refine lin_app (.tmp 69) (.tmp 75) rfl tiS e69 hjc.own.1 e75 (hb7 rfl).rd rfl (by simp [Value.oneCell']) (by omega) (by decide) (by omega) ?_;intro A4 c4 w4 hown4 hg4 hat4;have hj4:=hjc.app HSZ.o hown4 hg4 hat4;exact ⟨2,SR.up (by omega) ⟨by omega,fun h=>absurd h (by omega),hi.2.2.grown hg4 fun k hk=>.inl (.inl hk)⟩,SN.up (by omega) (by decide) rfl,A4,c4,rfl,by omega,fun _=>hj4⟩
     apply Chain.pure (SR.refl _) (by rfl)
     ·intro vals γ w' ρ hR hN hp hρ hc hf hg;refine ⟨rfl,?_⟩;have e12:=hρ 12;(conv at e12=>rhs; whnf);clear hR hN hp hρ;go_light;go_simp;exact ⟨rfl,rfl⟩
     ·rfl
     refine Chain.step (FP fun v γ w'=>JrF (fun w'=>∃ (A4:Option Addr) (c4:Nat),JC w lo go A4 c4 (cs++[s]) w') 3 γ w') (by rfl) (FP.stab ?_) ?_ ?_
     ·rintro v γ w1 γ' w2 r ⟨h3,h4⟩;have hle:=r.le;exact ⟨by omega,fun e=>by rw [r.eq (by omega)]; exact h4 (by omega)⟩
     ·intro vals γ w' ρ hR hN hp hρ hc hf hg;refine ⟨rfl,?_⟩;have e77:ρ (.tmp 77)=_:=(hρ 77).trans (hp 9 (by decide));have hi:=hR.inv ⟨by omega,fun _=>(Ext.refl _).drew,ButS.of_ext (Ext.refl _).drew⟩;obtain ⟨A4,c4,hv8,hr8,hj8⟩:=hp 8 (by decide);have e76:=(hρ 76).trans hv8;have e77:ρ (.tmp 77)=_:=(hρ 77).trans (hp 9 (by decide));have h0:γ=2:=(by have h:γ<3:=hN; omega);subst h0;have HJ:=Hd (hj8 rfl);have HBS:=Hd hi.2.2;have k0:=HJ.o.1.cell (i:=5) rfl;have kf:=HJ.o.1.frozen 5;have kz:=HJ.o.1.lt;clear hR hN hp hρ hi hv8 hj8;go_light;go_simp;have hF:JrF (fun w'=>∃ (A4:Option Addr) (c4:Nat),JC w lo go A4 c4 (cs++[s]) w') 3 3 (w'.setCell ⟨go,5,none⟩ (.slice A4 (cs.length+1) c4)):=⟨by omega,fun _=>⟨A4,c4,HJ.o.2⟩⟩;exact ⟨3,SR.up (by omega) ⟨by omega,fun h=>absurd h (by omega),HBS.o.set (.inl (.inr rfl))⟩,SN.up (by omega) (by decide) rfl,hF⟩
     intro vals γ w9 hR hG;have v0:vals 0=_:=hG 0 (by decide);have v1:vals 1=_:=hG 1 (by decide);have v2:vals 2=_:=hG 2 (by decide);have v3:vals 3=_:=hG 3 (by decide);have v4:vals 4=_:=hG 4 (by decide);have v5:vals 5=_:=hG 5 (by decide);have v6:vals 6=_:=hG 6 (by decide);have v9:vals 9=_:=hG 9 (by decide);have hi10:=hR.inv ⟨by omega,fun _=>(Ext.refl _).drew,ButS.of_ext (Ext.refl _).drew⟩;obtain ⟨hr10,ho10⟩:=hG 10 (by decide);obtain ⟨A4,c4,hj4⟩:=ho10 (by have:=hi10.1; omega);have hbs:=hi10.2.2;simp only [lexFrame,Act.put,List.setIfInBounds_toArray,List.set_cons_succ,List.set_cons_zero,Nat.zero_add,Nat.reduceAdd,v0,v1,v2,v3,v4,v5,v6,v9];generalize vals 7=z7,vals 8=z8;have HJ4:=Hd hj4;have HBS:=Hd hbs;clear hR hG hi10 hr10 ho10 hj4 hbs v0 v1 v2 v3 v4 v5 v6 v9;go_wp2;go_roundw
     case rel =>
      refine ⟨k+1,A4,c4,by omega,by go_num,?_,(HKP.o.trans (HXN.o.kept _)).trans (HBS.o.kept fun b _ hb h=>by rcases h with h | h; have:=(HJC.o.own.1.blk h).1; omega; omega),by rw [HS2.o,HCL.o,HMM.o,Bool.and_false]; rfl⟩;rw [HS1.o,if_neg HSC.o,← List.append_assoc,← HCS.o];exact HJ4.o
     case measure=>simp [intOf]; omega
  ·have hke:k=b.cols.length:=(by omega);subst hke;obtain ⟨cs,ecs⟩:∃ cs,cs=joinCols a.cols b.cols col:=⟨_,rfl⟩;have HJC2:=Hd (show JC w lo go Ac cc cs wr from by
    rw [ecs];have h:=HJC.o;rw [List.take_of_length_le (Nat.le_refl _)] at h;exact h)
   have HCL2:=Hd (show joinClash a.cols b.cols col=false from by
    have h:=HCL.o;rwa [List.take_of_length_le (Nat.le_refl _)] at h)
   have HCS:=Hd ecs;have HFK:=Hd (show joinR a b col=if 8<cs.length∨100<(prsU a.rows b.rows i j a.rows.length).length then (Val.zero,2) else (tabV cs (joinRows a.rows b.rows j (prsU a.rows b.rows i j a.rows.length)),0) by
    rw [HFJ.o,HCL2.o,if_neg (by simp),← HCS.o])
   have hcl:cs.length≤16:=by
    rw [ecs];unfold joinCols;rw [List.length_append];have:=List.length_filter_le (fun n=>decide (n≠col)) b.cols;omega
   have hgz:=HJC2.o.golo;obtain ⟨X,hX⟩:∃ X:Nat→Prop,X=fun b=>b<w.heap.size∨w.heap.size+3≤b:=⟨_,rfl⟩;have HM0:=Hd (show OutT w wr wr.heap.size X d go Ac cc cs none 0 (joinRows a.rows b.rows j (prsU a.rows b.rows i j 0)) wr from
    ⟨HJC2.o.ext,Kept.refl _ _,⟨by omega,by omega,Nat.le_refl _⟩,HJC2.o.o,HJC2.o.own.strs (by omega) fun b hb=>⟨by simp [ob],by rw [hX]; have:=(HJC2.o.own.1.blk hb).1; exact .inr (by omega),fun e=>HJC2.o.sep (by rw [← e]; exact hb)⟩,OwnRs.nil _ _ _ _⟩)
   have HCC:=Hd (show cs.length≤cc from HJC2.o.own.1.cap);have HXE:=Hd hX;have hr1:a.rows.length≤100:=isTab_rows HTa.o;have hr2:b.rows.length≤100:=isTab_rows HTb.o;have hq1:¬ ((b.cols.length:Int)<(b.cols.length:Int)):=(by omega);clear HJC HCL HCL2 ecs HFJ hX HJC2 HB0 HB1 HB2 HKP HX5;go_wp2;clear k1 k1z hq1 hlt;obtain ⟨wk,rfl⟩:∃ wk:World,wk=wr:=⟨_,rfl⟩
   go_loopw [14,15,16] (fun v14 _v15 _v16 w6=>∃ (p:Nat) (Ar:Option Addr) (cr:Nat),p≤a.rows.length∧v14=.int .i64 (p:Int)∧OutT w wk wk.heap.size X d go Ac cc cs Ar cr (joinRows a.rows b.rows j (prsU a.rows b.rows i j p)) w6) (fun v14 _ _ _=>a.rows.length-(intOf v14).toNat)
   case atStart=>exact ⟨0,none,0,Nat.zero_le _,rfl,HM0.o⟩
   case round =>
    clear HM0;obtain ⟨p,Ar,cr,hp,rfl,hot⟩:=hrel;have HOT:=Hd hot;have HKA:=Hd (hot.kept.mono (T:=fun b=>b<w.heap.size+3) fun b _ hb=>⟨by omega,by omega⟩);have HB0p:=Hd (HB0k.o.keep (HKA.o.mono fun b _ e=>by omega));have HB2p:=Hd (HB2k.o.keep (HKA.o.mono fun b _ e=>by omega));have k6:=HB0p.o.cell (i:=6) rfl;have k6z:=HB0p.o.lt;clear hot;by_cases hlp:p<a.rows.length
    ·obtain ⟨ba,oa,Cx,ex,hBa,hba,hca,-,hrowa⟩:=H.o.rows_.at_ hlp;obtain ⟨x,hx⟩:∃ x,x=a.rows[p]:=⟨_,rfl⟩;have hxe:x.length=a.cols.length:=(by rw [hx]; exact isTab_row HTa.o hlp);have hxl:i<x.length:=(by omega);rw [← hx] at hca hrowa;obtain ⟨b3,o3,Au,cu,Bu,eu,hCx,-,⟨u0,u1,u2,u3,u4,u5,u6⟩,-,huv⟩:=hrowa.at_ hxl;obtain ⟨u,hu⟩:∃ u,u=x[i]:=⟨_,rfl⟩;rw [← hu] at u0 u1 u2 u3 u4 u5 u6 huv;subst hBa hCx;have HUE:=Hd (show cellAt a.rows i p=u by subst hu hx; exact cellAt_at hlp hxl);have HXA:=Hd hx;have hxl8:x.length≤8:=(by omega);have CA:=Hd hca;have HRA:=Hd hrowa;have U0:=Hd u0;have U1:=Hd u1;have U2:=Hd u2;have U3:=Hd u3;have U4:=Hd u4;have U5:=Hd u5;have U6:=Hd u6;have HUV:=Hd (huv.up (d':=d) (by omega));clear hca hrowa u0 u1 u2 u3 u4 u5 u6 huv hu hx hxe;have p0:(0:Int)≤(p:Int):=(by omega);have p1:(p:Int)<(a.rows.length:Int):=(by omega);have i0:(0:Int)≤(i:Int):=(by omega);have i1:(i:Int)<(x.length:Int):=(by omega);go_wp2;clear k6 k6z;obtain ⟨w6,rfl⟩:∃ w6:World,w6=wr:=⟨_,rfl⟩
     go_loopw [15,16] (fun v15 _v16 w7=>∃ (q:Nat) (Ar:Option Addr) (cr:Nat),q≤b.rows.length∧v15=.int .i64 (q:Int)∧OutT w wk wk.heap.size X d go Ac cc cs Ar cr (rowsU a.rows b.rows i j p q) w7) (fun v15 _ _=>b.rows.length-(intOf v15).toNat)
     case atStart=>exact ⟨0,Ar,cr,Nat.zero_le _,rfl,by rw [rowsU_zero]; exact HOT.o⟩
     case round =>
      clear HOT HKA HB0p HB2p;obtain ⟨q,Ar,cr,hq,rfl,hot⟩:=hrel;obtain ⟨w7,rfl⟩:∃ w7:World,w7=wr:=⟨_,rfl⟩;have HOM:=Hd hot;have HKB:=Hd (hot.kept.mono (T:=fun b=>b<w.heap.size+3) fun b _ hb=>⟨by omega,by omega⟩);have HB0q:=Hd (HB0k.o.keep (HKB.o.mono fun b _ e=>by omega));have HB1q:=Hd (HB1k.o.keep (HKB.o.mono fun b _ e=>by omega));have m6:=HB1q.o.cell (i:=6) rfl;have m6z:=HB1q.o.lt;clear hot;by_cases hlq:q<b.rows.length
      ·obtain ⟨bb,oq,Cy,ey,hBb,hbb,hcb,hyec,hrowb⟩:=HV.o.rows_.at_ hlq;obtain ⟨y,hy⟩:∃ y,y=b.rows[q]:=⟨_,rfl⟩;have hye:y.length=b.cols.length:=(by rw [hy]; exact isTab_row HTb.o hlq);have hyl:j<y.length:=(by omega);rw [← hy] at hcb hrowb hyec;obtain ⟨b4,o4,Az,cz,Bz,ez,hCy,-,⟨z0,z1,z2,z3,z4,z5,z6⟩,-,hzv⟩:=hrowb.at_ hyl;obtain ⟨z,hz⟩:∃ z,z=y[j]:=⟨_,rfl⟩;rw [← hz] at z0 z1 z2 z3 z4 z5 z6 hzv;subst hBb hCy;have HZE:=Hd (show cellAt b.rows j q=z by subst hz hy; exact cellAt_at hlq hyl);have HYA:=Hd hy;have hyl8:y.length≤8:=(by omega);have CB:=Hd hcb;have HRB:=Hd hrowb;have HYE:=Hd hyec;have Z0:=Hd z0;have Z1:=Hd z1;have Z2:=Hd z2;have Z3:=Hd z3;have Z4:=Hd z4;have Z5:=Hd z5;have Z6:=Hd z6;have HZV:=Hd (hzv.up (d':=d) (by omega));clear hcb hrowb hyec z0 z1 z2 z3 z4 z5 z6 hzv hz hy hye;obtain ⟨fb,hfb⟩:∃ fb,fb=isB z u:=⟨_,rfl⟩;have HIS:=Hd (show ∀ w',Ext w7 w'→Calls Tryz.prog 39 #[(.agg #[.int .i64 z.kind,.string z.s,.int .i64 z.dn,.int .i64 z.ds,.int .i64 z.n,.slice Az z.cols.length cz,.slice Bz z.rows.length ez]),(.agg #[.int .i64 u.kind,.string u.s,.int .i64 u.dn,.int .i64 u.ds,.int .i64 u.n,.slice Au u.cols.length cu,.slice Bu u.rows.length eu])] w' (fun e w3=>e=.returned (.bool fb)∧Ext w' w3) from fun w' hx=>by
        rw [hfb];exact (r09_is d z u Az Bz Au Bu cz ez cu eu w' _ _ (HZV.o.keep ((HOM.o.ext.trans hx).kept _)) (HUV.o.keep ((HOM.o.ext.trans hx).kept _))).mono fun e w3 h=>⟨h.1,h.2⟩)
       have HFC:=Hd (show isB (cellAt b.rows j q) (cellAt a.rows i p)=fb by rw [HZE.o,HUE.o,hfb]);have q0:(0:Int)≤(q:Int):=(by omega);have q1:(q:Int)<(b.rows.length:Int):=(by omega);have j0:(0:Int)≤(j:Int):=(by omega);have j1:(j:Int)<(y.length:Int):=(by omega);clear hfb
       go_upto_region 23 with fail
       refine wp_region_chain (by kernel_rfl) (fun i=>[i]) (by kernel_rfl) (LZ (fun _ _=>False)) (LZ.refl _) (LZ.trans _) (LK []) gz0 (LK.zero _) ?_;apply Chain.pure (LZ.refl _) (by rfl)
       ·intro vals γ w' ρ hR hN hp hρ hc hf hg;refine ⟨rfl,?_⟩;have e4:=hρ 4;(conv at e4=>rhs; whnf);clear hR hN hp hρ;go_light;go_simp;exact ⟨rfl,rfl⟩
       ·rfl
       apply Chain.pure (LZ.refl _) (by rfl)
       ·intro vals γ w' ρ hR hN hp hρ hc hf hg;refine ⟨rfl,?_⟩;have e92:ρ (.tmp 92)=_:=(hρ 92).trans (hp 0 (by decide));have hxx:=hR.ext0 (fun _ _ _ h=>h.elim);have k6:=(HB1q.o.keep (hxx.kept _)).cell (i:=6) rfl;clear hxx hR hN hp hρ;go_light;go_simp;exact ⟨rfl,rfl⟩
       ·rfl
       apply Chain.pure (LZ.refl _) (by rfl)
       ·intro vals γ w' ρ hR hN hp hρ hc hf hg;refine ⟨rfl,?_⟩;have e15:=hρ 15;(conv at e15=>rhs; whnf);clear hR hN hp hρ;go_light;go_simp;exact ⟨rfl,rfl⟩
       ·rfl
       apply Chain.pure (LZ.refl _) (by rfl)
       ·intro vals γ w' ρ hR hN hp hρ hc hf hg;refine ⟨rfl,?_⟩;have e93:ρ (.tmp 93)=_:=(hρ 93).trans (hp 1 (by decide));have e94:ρ (.tmp 94)=_:=(hρ 94).trans (hp 2 (by decide));clear hR hN hp hρ;go_light;go_simp;exact ⟨rfl,rfl⟩
       ·rfl
       apply Chain.pure (LZ.refl _) (by rfl)
       ·intro vals γ w' ρ hR hN hp hρ hc hf hg;refine ⟨rfl,?_⟩;have e95:ρ (.tmp 95)=_:=(hρ 95).trans (hp 3 (by decide));have hxx:=hR.ext0 (fun _ _ _ h=>h.elim);have k6:=(HOM.o.ext.trans hxx).cell CB.o;clear hxx hR hN hp hρ;go_light;go_simp;exact ⟨rfl,rfl⟩
       ·rfl
       apply Chain.pure (LZ.refl _) (by rfl)
       ·intro vals γ w' ρ hR hN hp hρ hc hf hg;refine ⟨rfl,?_⟩;have e11:=hρ 11;(conv at e11=>rhs; whnf);clear hR hN hp hρ;go_light;go_simp;exact ⟨rfl,rfl⟩
       ·rfl
       apply Chain.pure (LZ.refl _) (by rfl)
       ·intro vals γ w' ρ hR hN hp hρ hc hf hg;refine ⟨rfl,?_⟩;have e96:ρ (.tmp 96)=_:=(hρ 96).trans (hp 4 (by decide));have e97:ρ (.tmp 97)=_:=(hρ 97).trans (hp 5 (by decide));clear hR hN hp hρ;go_light;go_simp;exact ⟨rfl,rfl⟩
       ·rfl
       apply Chain.pure (LZ.refl _) (by rfl)
       ·intro vals γ w' ρ hR hN hp hρ hc hf hg;refine ⟨rfl,?_⟩;have e98:ρ (.tmp 98)=_:=(hρ 98).trans (hp 6 (by decide));have hxx:=hR.ext0 (fun _ _ _ h=>h.elim);have f0:=(HOM.o.ext.trans hxx).cell Z0.o;have f1:=(HOM.o.ext.trans hxx).cell Z1.o;have f2:=(HOM.o.ext.trans hxx).cell Z2.o;have f3:=(HOM.o.ext.trans hxx).cell Z3.o;have f4:=(HOM.o.ext.trans hxx).cell Z4.o;have f5:=(HOM.o.ext.trans hxx).cell Z5.o;have f6:=(HOM.o.ext.trans hxx).cell Z6.o;clear hxx hR hN hp hρ;go_light;go_simp;exact ⟨rfl,rfl⟩
       ·rfl
       apply Chain.pure (LZ.refl _) (by rfl)
       ·intro vals γ w' ρ hR hN hp hρ hc hf hg;refine ⟨rfl,?_⟩;have e3:=hρ 3;(conv at e3=>rhs; whnf);clear hR hN hp hρ;go_light;go_simp;exact ⟨rfl,rfl⟩
       ·rfl
       apply Chain.pure (LZ.refl _) (by rfl)
       ·intro vals γ w' ρ hR hN hp hρ hc hf hg;refine ⟨rfl,?_⟩;have e100:ρ (.tmp 100)=_:=(hρ 100).trans (hp 8 (by decide));have hxx:=hR.ext0 (fun _ _ _ h=>h.elim);have k6:=(HB0q.o.keep (hxx.kept _)).cell (i:=6) rfl;clear hxx hR hN hp hρ;go_light;go_simp;exact ⟨rfl,rfl⟩
       ·rfl
       apply Chain.pure (LZ.refl _) (by rfl)
       ·intro vals γ w' ρ hR hN hp hρ hc hf hg;refine ⟨rfl,?_⟩;have e14:=hρ 14;(conv at e14=>rhs; whnf);clear hR hN hp hρ;go_light;go_simp;exact ⟨rfl,rfl⟩
       ·rfl
       apply Chain.pure (LZ.refl _) (by rfl)
       ·intro vals γ w' ρ hR hN hp hρ hc hf hg;refine ⟨rfl,?_⟩;have e101:ρ (.tmp 101)=_:=(hρ 101).trans (hp 9 (by decide));have e102:ρ (.tmp 102)=_:=(hρ 102).trans (hp 10 (by decide));clear hR hN hp hρ;go_light;go_simp;exact ⟨rfl,rfl⟩
       ·rfl
       apply Chain.pure (LZ.refl _) (by rfl)
       ·intro vals γ w' ρ hR hN hp hρ hc hf hg;refine ⟨rfl,?_⟩;have e103:ρ (.tmp 103)=_:=(hρ 103).trans (hp 11 (by decide));have hxx:=hR.ext0 (fun _ _ _ h=>h.elim);have k6:=(HOM.o.ext.trans hxx).cell CA.o;clear hxx hR hN hp hρ;go_light;go_simp;exact ⟨rfl,rfl⟩
       ·rfl
       apply Chain.pure (LZ.refl _) (by rfl)
       ·intro vals γ w' ρ hR hN hp hρ hc hf hg;refine ⟨rfl,?_⟩;have e10:=hρ 10;(conv at e10=>rhs; whnf);clear hR hN hp hρ;go_light;go_simp;exact ⟨rfl,rfl⟩
       ·rfl
       apply Chain.pure (LZ.refl _) (by rfl)
       ·intro vals γ w' ρ hR hN hp hρ hc hf hg;refine ⟨rfl,?_⟩;have e104:ρ (.tmp 104)=_:=(hρ 104).trans (hp 12 (by decide));have e105:ρ (.tmp 105)=_:=(hρ 105).trans (hp 13 (by decide));clear hR hN hp hρ;go_light;go_simp;exact ⟨rfl,rfl⟩
       ·rfl
       apply Chain.pure (LZ.refl _) (by rfl)
       ·intro vals γ w' ρ hR hN hp hρ hc hf hg;refine ⟨rfl,?_⟩;have e106:ρ (.tmp 106)=_:=(hρ 106).trans (hp 14 (by decide));have hxx:=hR.ext0 (fun _ _ _ h=>h.elim);have f0:=(HOM.o.ext.trans hxx).cell U0.o;have f1:=(HOM.o.ext.trans hxx).cell U1.o;have f2:=(HOM.o.ext.trans hxx).cell U2.o;have f3:=(HOM.o.ext.trans hxx).cell U3.o;have f4:=(HOM.o.ext.trans hxx).cell U4.o;have f5:=(HOM.o.ext.trans hxx).cell U5.o;have f6:=(HOM.o.ext.trans hxx).cell U6.o;clear hxx hR hN hp hρ;go_light;go_simp;exact ⟨rfl,rfl⟩
       ·rfl
       refine Chain.step (FP fun v γ w'=>v=.bool fb) (by rfl) (FP.stab ?_) ?_ ?_
       ·intro v γ w1 γ' w2 r h;exact h
       ·intro vals γ w' ρ hR hN hp hρ hc hf hg;refine ⟨rfl,?_⟩;have e99:ρ (.tmp 99)=_:=(hρ 99).trans (hp 7 (by decide));have e107:ρ (.tmp 107)=_:=(hρ 107).trans (hp 15 (by decide));have HR:=Hd hR;have HXW:=Hd (hR.ext0 (fun _ _ _ h=>h.elim));clear hR hN hp hρ;go_light;go_simp;refine (HIS.o w' HXW.o).mono ?_;rintro e1 w3 ⟨he,hx⟩;exact ⟨_,he,γ,LZ.of_ext _ γ hx,fun _ _ _ h=>h,rfl⟩
       apply Chain.pure (LZ.refl _) (by rfl)
       ·intro vals γ w' ρ hR hN hp hρ hc hf hg;refine ⟨rfl,?_⟩;have e108:ρ (.tmp 108)=_:=(hρ 108).trans (hp 16 (by decide));clear hR hN hp hρ;go_light;go_simp;exact ⟨rfl,rfl⟩
       ·rfl
       intro vals γ w9 hR hG;have v0:vals 0=_:=hG 0 (by decide);have v1:vals 1=_:=hG 1 (by decide);have v2:vals 2=_:=hG 2 (by decide);have v3:vals 3=_:=hG 3 (by decide);have v4:vals 4=_:=hG 4 (by decide);have v5:vals 5=_:=hG 5 (by decide);have v6:vals 6=_:=hG 6 (by decide);have v7:vals 7=_:=hG 7 (by decide);have v8:vals 8=_:=hG 8 (by decide);have v9:vals 9=_:=hG 9 (by decide);have v10:vals 10=_:=hG 10 (by decide);have v11:vals 11=_:=hG 11 (by decide);have v12:vals 12=_:=hG 12 (by decide);have v13:vals 13=_:=hG 13 (by decide);have v14:vals 14=_:=hG 14 (by decide);have v15:vals 15=_:=hG 15 (by decide);have v16:vals 16=_:=hG 16 (by decide);have v17:vals 17=_:=hG 17 (by decide);simp only [lexFrame,Act.put,List.setIfInBounds_toArray,List.set_cons_succ,List.set_cons_zero,Nat.zero_add,Nat.reduceAdd,v0,v1,v2,v3,v4,v5,v6,v7,v8,v9,v10,v11,v12,v13,v14,v15,v16,v17];clear v0 v1 v2 v3 v4 v5 v6 v7 v8 v9 v10 v11 v12 v13 v14 v15 v16 v17;have HXN:=Hd (show Ext w7 w9 from hR.ext0 (fun _ _ _ h=>h.elim));clear hR hG;obtain ⟨wm,hwm⟩:∃ x:World,x=w9:=⟨_,rfl⟩;rw [← hwm] at HXN ⊢;have HB0q:=Hd (HB0q.o.keep (HXN.o.kept _));have HB1q:=Hd (HB1q.o.keep (HXN.o.kept _));have HOM:=Hd (HOM.o.more HXN.o);clear hwm m6 m6z HIS U0 U1 U2 U3 U4 U5 U6 Z0 Z1 Z2 Z3 Z4 Z5 Z6 HUV HZV HUE HZE HKB HXN;cases fb
       ·go_wp2;go_roundw
        case rel=>exact ⟨q+1,Ar,cr,by omega,by go_num,by rw [rowsU_no HFC.o]; exact HOM.o⟩
        case measure=>simp [intOf]; omega
       ·obtain ⟨rows,hrows⟩:∃ rows,rows=rowsU a.rows b.rows i j p q:=⟨_,rfl⟩;rw [← hrows] at HOM;have hrl:rows.length≤20000:=by
         rw [hrows];have h1:=rowsU_len a.rows b.rows i j p q;have h2:=Nat.mul_le_mul (show p≤100 by omega) hr2;omega
        have HRS:=Hd hrows;obtain ⟨yt,hyt⟩:∃ yt,yt=withoutS y j:=⟨_,rfl⟩;have hytl:yt.length≤8:=by
         rw [hyt];simp [withoutS];omega
        obtain ⟨r,hr⟩:∃ r,r=([]++x)++yt:=⟨_,rfl⟩;have HRJ:=Hd (show r=joinRow a.rows[p] b.rows[q] j by rw [hr,hyt,← HXA.o,← HYA.o,List.nil_append]; unfold joinRow withoutS; rw [List.append_assoc]);have hrr:r.length≤16:=(by rw [hr,List.length_append,List.nil_append]; omega);have HRE:=Hd hr;have hwm:=HOM.o.ext.size;have hwg:wk.heap.size≤wm.heap.size:=HOM.o.golo.2.2;have HRO:=Hd (show ∀ t:Nat,ob Ar=some t→wk.heap.size≤t∧t<wm.heap.size from fun t ht=>HOM.o.rows.blk ht);have CAm:=Hd (HOM.o.ext.cell CA.o);have CBm:=Hd (HOM.o.ext.cell CB.o);have HRX:=Hd (show ∀ w',Ext wm w'→Row w' (fun b=>b<w.heap.size) d (some ⟨b3,o3,none⟩) x from fun w' h=>HRA.o.keep ((HOM.o.ext.trans h).kept _));have HCW:=Hd (show ∀ w',Ext wm w'→Calls Tryz.prog 40 #[.slice (some ⟨b4,o4,none⟩) y.length ey,.int .i64 (j:Int)] w' (RetWo w' (fun b=>b<w.heap.size) d yt) from fun w' h=>by
         rw [hyt];exact r09_without d y j _ ey w' _ (HRB.o.keep ((HOM.o.ext.trans h).kept _)) HYE.o hyl)
        clear hr hyt hrows
        go_upto_region 25 with fail
        refine wp_region_chain (by kernel_rfl) (fun | 15=>[8,15] | i=>[i]) (by kernel_rfl) (SR (fun γ w'=>γ≤7∧(γ≤5→Ext wm w')∧ButS (fun b=>ob Ar=some b∨b=go) wm w')) (SR.refl _) (SR.trans _) (SN [100,6,1,100,100,100,100,100,2,100,100,100,100,100,100,3,4,5,6,100,7]) 0 (SN.zero (by decide)) ?_;apply Chain.pure (SR.refl _) (by rfl)
        ·intro vals γ w' ρ hR hN hp hρ hc hf hg;refine ⟨rfl,?_⟩;have e12:=hρ 12;(conv at e12=>rhs; whnf);clear hR hN hp hρ;go_light;go_simp;exact ⟨rfl,rfl⟩
        ·rfl
        apply Chain.pure (SR.refl _) (by rfl)
        ·intro vals γ w' ρ hR hN hp hρ hc hf hg;refine ⟨rfl,?_⟩;have e110:ρ (.tmp 110)=_:=(hρ 110).trans (hp 0 (by decide));have hi:=hR.inv ⟨by omega,fun _=>(Ext.refl _).drew,ButS.of_ext (Ext.refl _).drew⟩;have hh:=(HOM.o.more (hi.2.1 (by have h:γ<6:=hN; omega))).o;have k6:=hh.cell (i:=6) rfl;clear hi hh hR hN hp hρ;go_light;go_simp;exact ⟨rfl,rfl⟩
        ·rfl
        refine Chain.step (FP fun v γ w'=>JrV wm.heap.size (fun b=>b<w.heap.size) 1 d [] v γ w') (by rfl) (FP.stab ?_) ?_ ?_
        ·rintro v γ w1 γ' w2 r ⟨x0,x1,h1,h3,h4⟩;have hle:=r.le;exact ⟨x0,x1,h1,by omega,fun e=>by rw [r.eq (by omega)]; exact h4 (by omega)⟩
        ·intro vals γ w' ρ hR hN hp hρ hc hf hg;refine ⟨rfl,?_⟩;have hi:=hR.inv ⟨by omega,fun _=>(Ext.refl _).drew,ButS.of_ext (Ext.refl _).drew⟩;have h0:γ=0:=(by have h:γ<1:=hN; omega);subst h0;have HX:=Hd (hi.2.1 (by omega));clear hR hN hp hρ hi;go_light;go_simp;have hx1:Ext w' (w'.alloc (.cells #[] 31)):=(Ext.refl _).alloc _;have hF:JrV wm.heap.size (fun b=>b<w.heap.size) 1 d [] (.slice (some ⟨w'.heap.size,0,none⟩) 0 0) 1 (w'.alloc (.cells #[] 31)):=⟨_,_,rfl,by omega,fun _=>⟨[],Own.lower (show Own (w'.alloc (.cells #[] 31)) w'.heap.size 31 7 (some ⟨w'.heap.size,0,none⟩) 0 0 [] from World.ownsRow_made w' #[] 0 (Nat.le_refl _) (by unfold maxLen; omega) rfl) HX.o.size,VL.nil _⟩⟩;exact ⟨1,SR.up (by omega) ⟨by omega,fun _=>HX.o.trans hx1,ButS.of_ext (HX.o.trans hx1)⟩,SN.up (by omega) (by decide) rfl,hF⟩
        apply Chain.pure (SR.refl _) (by rfl)
        ·intro vals γ w' ρ hR hN hp hρ hc hf hg;refine ⟨rfl,?_⟩;have e3:=hρ 3;(conv at e3=>rhs; whnf);clear hR hN hp hρ;go_light;go_simp;exact ⟨rfl,rfl⟩
        ·rfl
        apply Chain.pure (SR.refl _) (by rfl)
        ·intro vals γ w' ρ hR hN hp hρ hc hf hg;refine ⟨rfl,?_⟩;have e113:ρ (.tmp 113)=_:=(hρ 113).trans (hp 3 (by decide));have hi:=hR.inv ⟨by omega,fun _=>(Ext.refl _).drew,ButS.of_ext (Ext.refl _).drew⟩;have k5:=(hi.2.2.blk HB0q.o (fun h=>by have h1:=HRO.o; rcases h with h | h; exact absurd (h1 _ h) (by omega); omega)).cell (i:=6) rfl;clear hi hR hN hp hρ;go_light;go_simp;exact ⟨rfl,rfl⟩
        ·rfl
        apply Chain.pure (SR.refl _) (by rfl)
        ·intro vals γ w' ρ hR hN hp hρ hc hf hg;refine ⟨rfl,?_⟩;have e14:=hρ 14;(conv at e14=>rhs; whnf);clear hR hN hp hρ;go_light;go_simp;exact ⟨rfl,rfl⟩
        ·rfl
        apply Chain.pure (SR.refl _) (by rfl)
        ·intro vals γ w' ρ hR hN hp hρ hc hf hg;refine ⟨rfl,?_⟩;have e114:ρ (.tmp 114)=_:=(hρ 114).trans (hp 4 (by decide));have e115:ρ (.tmp 115)=_:=(hρ 115).trans (hp 5 (by decide));clear hR hN hp hρ;go_light;go_simp;exact ⟨rfl,rfl⟩
        ·rfl
        apply Chain.pure (SR.refl _) (by rfl)
        ·intro vals γ w' ρ hR hN hp hρ hc hf hg;refine ⟨rfl,?_⟩;have e116:ρ (.tmp 116)=_:=(hρ 116).trans (hp 6 (by decide));have hi:=hR.inv ⟨by omega,fun _=>(Ext.refl _).drew,ButS.of_ext (Ext.refl _).drew⟩;have k7:=hi.2.2.cell (p:=⟨ba,oa+p,none⟩) (fun h=>by have h1:=HRO.o; rcases h with h | h; exact absurd (h1 ba h) (by omega); have h2:ba=go:=h; omega) CAm.o;clear hi hR hN hp hρ;go_light;go_simp;exact ⟨rfl,rfl⟩
        ·rfl
        refine Chain.step (FP fun v γ w'=>JrV wm.heap.size (fun b=>b<w.heap.size) 2 d ([]++x) v γ w') (by rfl) (FP.stab ?_) ?_ ?_
        ·rintro v γ w1 γ' w2 r ⟨x0,x1,h1,h3,h4⟩;have hle:=r.le;exact ⟨x0,x1,h1,by omega,fun e=>by rw [r.eq (by omega)]; exact h4 (by omega)⟩
        ·intro vals γ w' ρ hR hN hp hρ hc hf hg;refine ⟨rfl,?_⟩;have e117:ρ (.tmp 117)=_:=(hρ 117).trans (hp 7 (by decide));have hi:=hR.inv ⟨by omega,fun _=>(Ext.refl _).drew,ButS.of_ext (Ext.refl _).drew⟩;obtain ⟨A3,c3,hv,hr1,ho1⟩:=hp 2 (by decide);have e112:=(hρ 112).trans hv;have e117:ρ (.tmp 117)=_:=(hρ 117).trans (hp 7 (by decide));have h0:γ=1:=(by have h:γ<2:=hN; omega);subst h0;obtain ⟨xs,how,hvl⟩:=ho1 rfl;have hxm:=hi.2.1 (by omega);obtain ⟨hl4,ys,hrd,hvl2⟩:=HRX.o w' hxm;have hsz:=hxm.size;refine lin_app (.tmp 112) (.tmp 117) rfl tiV e112 how e117 hrd (m:=x.length) hvl2.1 (VL.one hvl2) (by simp; omega) (by decide) hsz ?_;intro A5 c5 w4 hown4 hg4 hat4;have hvl3:VL (CV w' (fun b=>b<w.heap.size) d) ys x:=hvl2;have hva:=OwnVs.app hvl (hvl3.imp fun _ _ hh=>hh.mono fun b _ hb=>⟨fun e=>by have:=(how.blk e).1; omega,hb⟩) hown4 hg4 hat4;have hx1:Ext wm w4:=hxm.grown hg4 fun k hk=>(how.blk hk).1;exact ⟨2,SR.up (by omega) ⟨by omega,fun _=>hx1,ButS.of_ext (hx1)⟩,SN.up (by omega) (by decide) rfl,A5,c5,(by show Value.slice A5 (_+_) c5=_; simp only [List.length_append]),by omega,fun _=>hva⟩
        apply Chain.pure (SR.refl _) (by rfl)
        ·intro vals γ w' ρ hR hN hp hρ hc hf hg;refine ⟨rfl,?_⟩;have e4:=hρ 4;(conv at e4=>rhs; whnf);clear hR hN hp hρ;go_light;go_simp;exact ⟨rfl,rfl⟩
        ·rfl
        apply Chain.pure (SR.refl _) (by rfl)
        ·intro vals γ w' ρ hR hN hp hρ hc hf hg;refine ⟨rfl,?_⟩;have e119:ρ (.tmp 119)=_:=(hρ 119).trans (hp 9 (by decide));have hi:=hR.inv ⟨by omega,fun _=>(Ext.refl _).drew,ButS.of_ext (Ext.refl _).drew⟩;have k5:=(hi.2.2.blk HB1q.o (fun h=>by have h1:=HRO.o; rcases h with h | h; exact absurd (h1 _ h) (by omega); omega)).cell (i:=6) rfl;clear hi hR hN hp hρ;go_light;go_simp;exact ⟨rfl,rfl⟩
        ·rfl
        apply Chain.pure (SR.refl _) (by rfl)
        ·intro vals γ w' ρ hR hN hp hρ hc hf hg;refine ⟨rfl,?_⟩;have e15:=hρ 15;(conv at e15=>rhs; whnf);clear hR hN hp hρ;go_light;go_simp;exact ⟨rfl,rfl⟩
        ·rfl
        apply Chain.pure (SR.refl _) (by rfl)
        ·intro vals γ w' ρ hR hN hp hρ hc hf hg;refine ⟨rfl,?_⟩;have e120:ρ (.tmp 120)=_:=(hρ 120).trans (hp 10 (by decide));have e121:ρ (.tmp 121)=_:=(hρ 121).trans (hp 11 (by decide));clear hR hN hp hρ;go_light;go_simp;exact ⟨rfl,rfl⟩
        ·rfl
        apply Chain.pure (SR.refl _) (by rfl)
        ·intro vals γ w' ρ hR hN hp hρ hc hf hg;refine ⟨rfl,?_⟩;have e122:ρ (.tmp 122)=_:=(hρ 122).trans (hp 12 (by decide));have hi:=hR.inv ⟨by omega,fun _=>(Ext.refl _).drew,ButS.of_ext (Ext.refl _).drew⟩;have k7:=hi.2.2.cell (p:=⟨bb,oq+q,none⟩) (fun h=>by have h1:=HRO.o; rcases h with h | h; exact absurd (h1 bb h) (by omega); have h2:bb=go:=h; omega) CBm.o;clear hi hR hN hp hρ;go_light;go_simp;exact ⟨rfl,rfl⟩
        ·rfl
        apply Chain.pure (SR.refl _) (by rfl)
        ·intro vals γ w' ρ hR hN hp hρ hc hf hg;refine ⟨rfl,?_⟩;have e11:=hρ 11;(conv at e11=>rhs; whnf);clear hR hN hp hρ;go_light;go_simp;exact ⟨rfl,rfl⟩
        ·rfl
        refine Chain.step (fun vl γ w'=>match vl with | [v1,v]=>JrW wm.heap.size (fun b=>b<w.heap.size) d ([]++x) yt v1 v γ w' | _=>True) (by rfl) ?_ ?_ ?_
        ·intro l γ w1 γ' w2 r h
         match l,h with
         | [],_=>trivial
         | [_],_=>trivial
         | [_,_],h=>exact (by
          obtain ⟨x0,x1,x2,x3,h1,h2,h3,h4⟩:=h;have hle:=r.le;exact ⟨x0,x1,x2,x3,h1,h2,by omega,fun e=>by rw [r.eq (by omega)]; exact h4 (by omega)⟩)
         | _ :: _ :: _ :: _,_=>trivial
        ·intro vals γ w' ρ hR hN hp hρ hc hf hg;refine ⟨rfl,?_⟩;have hi:=hR.inv ⟨by omega,fun _=>(Ext.refl _).drew,ButS.of_ext (Ext.refl _).drew⟩;have e123:ρ (.tmp 123)=_:=(hρ 123).trans (hp 13 (by decide));have e124:ρ (.tmp 124)=_:=(hρ 124).trans (hp 14 (by decide));obtain ⟨A3,c3,hv1,hr1,ho1⟩:=hp 8 (by decide);have h0:γ=2:=(by have h:γ<3:=hN; omega);subst h0;have HX:=Hd (hi.2.1 (by omega));have HO1:=Hd (ho1 rfl);clear hR hN hp hρ hi ho1;go_light;go_simp;refine (HCW.o w' HX.o).mono ?_;rintro e' w3 ⟨A4,c4,he,ho4,hx4⟩;have hsz:=HX.o.size;exact ⟨_,he,3,SR.up (by omega) ⟨by omega,fun _=>HX.o.trans hx4,ButS.of_ext (HX.o.trans hx4)⟩,SN.up (by omega) (by decide) rfl,A3,c3,A4,c4,hv1,rfl,by omega,fun _=>⟨HO1.o.ext hx4,(ho4.lower hsz).mono fun b _ hb=>hb.2⟩⟩
        refine Chain.step (FP fun v γ w'=>JrV wm.heap.size (fun b=>b<w.heap.size) 4 d r v γ w') (by rfl) (FP.stab ?_) ?_ ?_
        ·rintro v γ w1 γ' w2 r ⟨x0,x1,h1,h3,h4⟩;have hle:=r.le;exact ⟨x0,x1,h1,by omega,fun e=>by rw [r.eq (by omega)]; exact h4 (by omega)⟩
        ·intro vals γ w' ρ hR hN hp hρ hc hf hg;refine ⟨rfl,?_⟩;have hi:=hR.inv ⟨by omega,fun _=>(Ext.refl _).drew,ButS.of_ext (Ext.refl _).drew⟩;obtain ⟨A3,c3,A4,c4,hv1,hv5,hr5,ho5⟩:=hp 15 (by decide);have e118:=(hρ 118).trans hv1;have e125:=(hρ 125).trans hv5;have h0:γ=3:=(by have h:γ<4:=hN; omega);subst h0;obtain ⟨ho1,ho2⟩:=ho5 rfl;obtain ⟨xs,how,hvl⟩:=ho1;obtain ⟨ys,how2,hvl2⟩:=ho2;have hxm:=hi.2.1 (by omega);have hsz:=hxm.size;refine lin_app (.tmp 118) (.tmp 125) rfl tiV e118 how e125 how2.rd (m:=yt.length) hvl2.1 (VL.one hvl2) (by simp; omega) (by decide) hsz ?_;intro A5 c5 w4 hown4 hg4 hat4;have hva:=OwnVs.app hvl (hvl2.imp fun _ _ hh=>hh.mono fun b _ hb=>⟨fun e=>by have h1:=(how.blk e).1; have h2:b<w.heap.size:=hb.2; omega,hb.2⟩) hown4 hg4 hat4;rw [← HRE.o] at hva;have hx1:Ext wm w4:=hxm.grown hg4 fun k hk=>(how.blk hk).1;exact ⟨4,SR.up (by omega) ⟨by omega,fun _=>hx1,ButS.of_ext (hx1)⟩,SN.up (by omega) (by decide) rfl,A5,c5,(by show Value.slice A5 (_+_) c5=_; rw [HRE.o]; simp only [List.length_append]),by omega,fun _=>hva⟩
        refine Chain.step (FP fun v γ w'=>JrB X Ar go 5 d r v γ w') (by rfl) (FP.stab ?_) ?_ ?_
        ·rintro v γ w1 γ' w2 r ⟨x0,x1,x2,h1,h3,h4⟩;have hle:=r.le;exact ⟨x0,x1,x2,h1,by omega,fun e=>by rw [r.eq (by omega)]; exact h4 (by omega)⟩
        ·intro vals γ w' ρ hR hN hp hρ hc hf hg;refine ⟨rfl,?_⟩;have hi:=hR.inv ⟨by omega,fun _=>(Ext.refl _).drew,ButS.of_ext (Ext.refl _).drew⟩;obtain ⟨A3,c3,hv16,hr16,ho16⟩:=hp 16 (by decide);have e126:=(hρ 126).trans hv16;have h0:γ=4:=(by have h:γ<5:=hN; omega);subst h0;have hxm:=hi.2.1 (by omega);have HXM:=Hd hxm;have ho:=ho16 rfl;obtain ⟨xs6,how6,hvl6⟩:=ho16 rfl;have hro:=HRO.o;have HRW:=Hd (show Row w' (fun b=>ob Ar≠some b∧X b∧b≠go) d A3 r∧r.length≤c3 from ⟨(ho.row (T:=fun b=>b<w.heap.size∨wm.heap.size≤b) (by omega) (fun b hb=>.inr (ho.blk hb).1) (fun b hb=>.inl hb)).mono fun b _ hb=>⟨fun e=>by have:=hro _ e; rcases hb with hb | hb <;> omega,by rw [HXE.o]; rcases hb with hb | hb; exact .inl hb; exact .inr (by omega),by rcases hb with hb | hb <;> omega⟩,how6.cap⟩);clear hR hN hp hρ hi hv16 ho16 ho how6 hvl6 hxm hro;go_light;go_simp;have hx1:Ext w' (w'.alloc (.cells #[.slice A3 r.length c3] 50)):=(Ext.refl _).alloc _;have hF:JrB X Ar go 5 d r (.slice (some ⟨w'.heap.size,0,none⟩) 1 1) 5 (w'.alloc (.cells #[.slice A3 r.length c3] 50)):=⟨_,A3,c3,rfl,by omega,fun _=>⟨Blk.new _ _ _,HRW.o.1.keep (hx1.kept _),HRW.o.2⟩⟩;exact ⟨5,SR.up (by omega) ⟨by omega,fun _=>HXM.o.trans hx1,ButS.of_ext (HXM.o.trans hx1)⟩,SN.up (by omega) (by decide) rfl,hF⟩
        refine Chain.step (FP fun v γ w'=>JrO (fun A4 c4 w'=>OutTA w wk wk.heap.size X d go Ac cc cs A4 c4 (rows++[r]) w') 6 (rows.length+1) v γ w') (by rfl) (FP.stab ?_) ?_ ?_
        ·rintro v γ w1 γ' w2 r ⟨x0,x1,h1,h3,h4⟩;have hle:=r.le;exact ⟨x0,x1,h1,by omega,fun e=>by rw [r.eq (by omega)]; exact h4 (by omega)⟩
        ·intro vals γ w' ρ hR hN hp hρ hc hf hg;refine ⟨rfl,?_⟩;have e111:ρ (.tmp 111)=_:=(hρ 111).trans (hp 1 (by decide));have hi:=hR.inv ⟨by omega,fun _=>(Ext.refl _).drew,ButS.of_ext (Ext.refl _).drew⟩;obtain ⟨g9',A3,c3,hv9,hr9,hbk⟩:=hp 17 (by decide);have e127:=(hρ 127).trans hv9;have e111:ρ (.tmp 111)=_:=(hρ 111).trans (hp 1 (by decide));have h0:γ=5:=(by have h:γ<6:=hN; omega);subst h0;obtain ⟨hbk1,hbk2,hbk3⟩:=hbk rfl;have hxm:=hi.2.1 (by omega);have hot:=HOM.o.more hxm;obtain ⟨hs,ho1,hv1⟩:=hot.rows;refine lin_app (.tmp 111) (.tmp 127) rfl tiR e111 ho1 e127 hbk1.rd rfl (by simp [Value.oneCell']) (by omega) (by decide) hot.golo.2.2 ?_;intro A4 c4 w4 hown4 hg4 hat4;have hota:=hot.app ho1 hv1 hbk3 hbk2 hown4 hg4 hat4;exact ⟨6,SR.up (by omega) ⟨by omega,fun h=>absurd h (by omega),hi.2.2.grown hg4 fun k hk=>.inl (.inl hk)⟩,SN.up (by omega) (by decide) rfl,A4,c4,rfl,by omega,fun _=>hota⟩
        apply Chain.pure (SR.refl _) (by rfl)
        ·intro vals γ w' ρ hR hN hp hρ hc hf hg;refine ⟨rfl,?_⟩;have e12:=hρ 12;(conv at e12=>rhs; whnf);clear hR hN hp hρ;go_light;go_simp;exact ⟨rfl,rfl⟩
        ·rfl
        refine Chain.step (FP fun v γ w'=>JrF (fun w'=>∃ (A4:Option Addr) (c4:Nat),OutT w wk wk.heap.size X d go Ac cc cs A4 c4 (rows++[r]) w') 7 γ w') (by rfl) (FP.stab ?_) ?_ ?_
        ·rintro v γ w1 γ' w2 r ⟨h3,h4⟩;have hle:=r.le;exact ⟨by omega,fun e=>by rw [r.eq (by omega)]; exact h4 (by omega)⟩
        ·intro vals γ w' ρ hR hN hp hρ hc hf hg;refine ⟨rfl,?_⟩;have e129:ρ (.tmp 129)=_:=(hρ 129).trans (hp 19 (by decide));have hi:=hR.inv ⟨by omega,fun _=>(Ext.refl _).drew,ButS.of_ext (Ext.refl _).drew⟩;obtain ⟨A4,c4,g10,hr10,hda⟩:=hp 18 (by decide);have e128:=(hρ 128).trans g10;have e129:ρ (.tmp 129)=_:=(hρ 129).trans (hp 19 (by decide));have h0:γ=6:=(by have h:γ<7:=hN; omega);subst h0;have HA:=Hd (hda rfl);have HBS:=Hd hi.2.2;obtain ⟨yy,hy⟩:=(hda rfl).o;have k0:=hy.cell (i:=6) rfl;have kf:=hy.frozen;have kz:=hy.lt;clear hR hN hp hρ hi g10 hda hy;go_light;go_simp;have hs:=HA.o.store;rw [List.length_append,List.length_singleton] at hs;have hF:JrF (fun w'=>∃ (A4:Option Addr) (c4:Nat),OutT w wk wk.heap.size X d go Ac cc cs A4 c4 (rows++[r]) w') 7 7 (w'.setCell ⟨go,6,none⟩ (.slice A4 (rows.length+1) c4)):=⟨by omega,fun _=>⟨A4,c4,hs⟩⟩;exact ⟨7,SR.up (by omega) ⟨by omega,fun h=>absurd h (by omega),HBS.o.set (.inl (.inr rfl))⟩,SN.up (by omega) (by decide) rfl,hF⟩
        intro vals γ w9 hR hG;have v0:vals 0=_:=hG 0 (by decide);have v1:vals 1=_:=hG 1 (by decide);have v3:vals 3=_:=hG 3 (by decide);have v4:vals 4=_:=hG 4 (by decide);have v5:vals 5=_:=hG 5 (by decide);have v6:vals 6=_:=hG 6 (by decide);have v7:vals 7=_:=hG 7 (by decide);have v9:vals 9=_:=hG 9 (by decide);have v10:vals 10=_:=hG 10 (by decide);have v11:vals 11=_:=hG 11 (by decide);have v12:vals 12=_:=hG 12 (by decide);have v13:vals 13=_:=hG 13 (by decide);have v14:vals 14=_:=hG 14 (by decide);have v19:vals 19=_:=hG 19 (by decide);have hi20:=hR.inv ⟨by omega,fun _=>(Ext.refl _).drew,ButS.of_ext (Ext.refl _).drew⟩;obtain ⟨hr20,ho20⟩:=hG 20 (by decide);obtain ⟨A9,c9,ho9⟩:=ho20 (by have:=hi20.1; omega);simp only [lexFrame,Act.put,List.setIfInBounds_toArray,List.set_cons_succ,List.set_cons_zero,Nat.zero_add,Nat.reduceAdd,v0,v1,v3,v4,v5,v6,v7,v9,v10,v11,v12,v13,v14,v19];generalize vals 2=y2,vals 8=y8,vals 15=y15,vals 16=y16,vals 17=y17,vals 18=y18;have HO9:=Hd ho9;clear hR hG hi20 hr20 ho20 ho9 v0 v1 v3 v4 v5 v6 v7 v9 v10 v11 v12 v13 v14 v19;go_wp2;go_roundw
        case rel=>exact ⟨q+1,A9,c9,by omega,by go_num,by rw [rowsU_yes hlp hlq HFC.o,← HRS.o,← HRJ.o]; exact HO9.o⟩
        case measure=>simp [intOf]; omega
      ·have hqe:q=b.rows.length:=(by omega);subst hqe;have hq1:¬ ((b.rows.length:Int)<(b.rows.length:Int)):=(by omega);go_wp2;go_roundw
       case rel=>exact ⟨p+1,Ar,cr,by omega,by go_num,by rw [← rowsU_end]; exact HOM.o⟩
       case measure=>simp [intOf]; omega
    ·have hpe:p=a.rows.length:=(by omega);subst hpe;have hp1:¬ ((a.rows.length:Int)<(a.rows.length:Int)):=(by omega);obtain ⟨rows,hrows⟩:∃ rows,rows=joinRows a.rows b.rows j (prsU a.rows b.rows i j a.rows.length):=⟨_,rfl⟩;rw [← hrows] at HOT;have hrn:rows.length=(prsU a.rows b.rows i j a.rows.length).length:=(by rw [hrows]; simp [joinRows]);have HFR:=Hd (show joinR a b col=if 8<cs.length∨100<rows.length then (Val.zero,2) else (tabV cs rows,0) by rw [HFK.o,hrn,hrows]);clear hrows hrn HFK;have t0:=HOT.o.o.cell (i:=0) rfl;have t1:=HOT.o.o.cell (i:=1) rfl;have t2:=HOT.o.o.cell (i:=2) rfl;have t3:=HOT.o.o.cell (i:=3) rfl;have t4:=HOT.o.o.cell (i:=4) rfl;have t5:=HOT.o.o.cell (i:=5) rfl;have t6:=HOT.o.o.cell (i:=6) rfl;have tz:=HOT.o.o.lt;have hwz:=HOT.o.golo;have r0:=HB2p.o.cell (i:=0) rfl;have r1:=HB2p.o.cell (i:=1) rfl;have r2:=HB2p.o.cell (i:=2) rfl;have r3:=HB2p.o.cell (i:=3) rfl;have r4:=HB2p.o.cell (i:=4) rfl;have r5:=HB2p.o.cell (i:=5) rfl;have r6:=HB2p.o.cell (i:=6) rfl;have rf:=HB2p.o.frozen;have rz:=HB2p.o.lt;by_cases h8:8<cs.length
     ·have h8i:(8:Int)<(cs.length:Int):=(by omega);have HF:=Hd (show joinR a b col=(Val.zero,2) by rw [HFR.o,if_pos (.inl h8)]);go_wp2;rw [HF.o];refine bodyPost_ret (v:=.tuple #[(.agg #[.int .i64 Val.zero.kind,.string Val.zero.s,.int .i64 Val.zero.dn,.int .i64 Val.zero.ds,.int .i64 Val.zero.n,.slice none Val.zero.cols.length 0,.slice none Val.zero.rows.length 0]),.int .i64 2]) (by simp [results,Tryz.results12,go_sem,r0,r1,r2,r3,r4,r5,r6,Val.zero]) rfl ⟨none,0,none,0,rfl,⟨Nat.le_refl _,Nat.le_refl _⟩,RV.zero,?_⟩
      iterate 7 with_reducible refine Ext.set2 ?_ (by omega) _
      with_reducible exact HOT.o.ext
     have h8i:¬ ((8:Int)<(cs.length:Int)):=(by omega);by_cases h100:100<rows.length
     ·have h100i:(100:Int)<(rows.length:Int):=(by omega);have HF:=Hd (show joinR a b col=(Val.zero,2) by rw [HFR.o,if_pos (.inr h100)]);go_wp2;rw [HF.o];refine bodyPost_ret (v:=.tuple #[(.agg #[.int .i64 Val.zero.kind,.string Val.zero.s,.int .i64 Val.zero.dn,.int .i64 Val.zero.ds,.int .i64 Val.zero.n,.slice none Val.zero.cols.length 0,.slice none Val.zero.rows.length 0]),.int .i64 2]) (by simp [results,Tryz.results12,go_sem,r0,r1,r2,r3,r4,r5,r6,Val.zero]) rfl ⟨none,0,none,0,rfl,⟨Nat.le_refl _,Nat.le_refl _⟩,RV.zero,?_⟩
      iterate 7 with_reducible refine Ext.set2 ?_ (by omega) _
      with_reducible exact HOT.o.ext
     have h100i:¬ ((100:Int)<(rows.length:Int)):=(by omega);have HF:=Hd (show joinR a b col=(tabV cs rows,0) by rw [HFR.o,if_neg (by omega)]);go_wp2;rw [HF.o];refine bodyPost_ret (v:=.tuple #[.agg #[.int .i64 5,.string ⟨#[]⟩,.int .i64 0,.int .i64 0,.int .i64 0,.slice Ac cs.length cc,.slice Ar rows.length cr],.int .i64 0]) (by simp [results,Tryz.results12,go_sem,r0,r1,r2,r3,r4,r5,r6,tabV]) rfl ⟨Ac,cc,Ar,cr,rfl,⟨HCC.o,?_⟩,?_,?_⟩
     ·obtain ⟨hs,how,-⟩:=HOT.o.rows;exact how.cap
     ·refine (RV.keep (HOT.o.val (T:=fun b=>b≠w.heap.size+1+1) (by omega) (fun b hb=>by omega) (fun b hb=>by rw [HXE.o] at hb; rcases hb with hb | hb <;> omega)) ?_).mono fun b _ _=>trivial
      iterate 7 with_reducible refine Kept.set2 ?_ (fun h=>absurd rfl h)
      with_reducible exact Kept.refl _ _
     ·iterate 7 with_reducible refine Ext.set2 ?_ (by omega) _
      with_reducible exact HOT.o.ext
end Go.Proofs.YthmckfloppblcaaGreatDoor
