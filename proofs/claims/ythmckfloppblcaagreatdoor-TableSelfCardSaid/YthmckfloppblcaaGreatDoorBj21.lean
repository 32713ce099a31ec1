/- The program's table.Join. Conditions: the arguments read as data; the cells that are joined have texts; at most 100 pairs. -/
import Derived.Test.YthmckfloppblcaaGreatDoorBj20
set_option maxRecDepth 100000
set_option maxHeartbeats 4000000
namespace Go.Proofs.YthmckfloppblcaaGreatDoor
open Go Go.RowKit Go.Shelf
attribute [local go_sem] Oper.semAt_some

theorem Own.blkB {w:World} {base e sz n c g:Nat} {A:Option Addr} {xs:List Value} (h:Own w base e sz A n c xs) (hA:ob A=some g):∃ cur,Blk w g e cur:=by
 rcases h.2 with ⟨hv,_⟩ | ⟨g',cap,cur,hv,hb,hh,_⟩
 ·injection hv with hv;subst hv;cases hA
 ·injection hv with hv;subst hv;injection hA with hA;subst hA;exact ⟨cur,hh⟩
theorem Row.takeJ {w:World} {S:Nat→Prop} {d:Nat} {A:Option Addr} {l:List Val} (h:Row w S d A l) (k:Nat):Row w S d A (l.take k):=by
 obtain ⟨h0,xs,h1,h2,h3⟩:=h;refine ⟨by rw [List.length_take]; omega,xs.take (k*7),h1.take _,by rw [List.length_take,List.length_take,h2]; omega,fun j y hj => ?_⟩;rw [List.getElem?_take] at hj;split at hj
 ·rename_i hk;have h4:=h3 j y hj;rw [List.drop_take,List.take_take,show min 7 (k*7-j*7)=7 by omega];exact h4
 ·cases hj
theorem Row.dropJ {w:World} {S:Nat→Prop} {d:Nat} {A:Option Addr} {b o n:Nat} {l:List Val} (h:Row w S d (some ⟨b,o,none⟩) l) (hA:n<l.length→A=some ⟨b,o+n*7,none⟩):Row w S d A (l.drop n):=by
 obtain ⟨h0,xs,h1,h2,h3⟩:=h;refine ⟨by rw [List.length_drop]; omega,xs.drop (n*7),?_,by rw [List.length_drop,List.length_drop,h2]; omega,fun j y hj => ?_⟩
 ·by_cases hn:n<l.length
  ·rw [hA hn]
   rcases h1 with h1 | ⟨b',o',e1,hS,hb,hc⟩
   ·rw [h1]; exact .inl (by simp)
   ·injection e1 with e1;injection e1 with e1 e2;subst e1 e2;exact .inr ⟨b,o+n*7,rfl,hS,hb,fun j u hj=>by
     rw [List.getElem?_drop] at hj;have:=hc (n*7+j) u hj;rwa [← Nat.add_assoc] at this⟩
  ·exact .inl (List.drop_eq_nil_of_le (by omega))
 ·rw [List.getElem?_drop] at hj;have:=h3 (n+j) y hj;rw [List.drop_drop,show n*7+j*7=(n+j)*7 by omega];exact this
def JnF5 (Wm:World) (d:Nat) (x yt:List Val) (v1 v:Value) (γ:Nat) (w':World):Prop:=∃ (A3:Option Addr) (c3:Nat) (A4:Option Addr) (c4:Nat),v1=.slice A3 x.length c3∧v=.slice A4 yt.length c4∧2≤γ∧(γ=2→OwnVs w' Wm.heap.size (fun b=>Wm.heap.size≤b) d A3 c3 x∧Row w' (fun b=>ob A3≠some b∧Wm.heap.size≤b) d A4 yt)
def JnF6 (Wm:World) (d:Nat) (l:List Val) (v:Value) (γ:Nat) (w':World):Prop:=∃ (A3:Option Addr) (c3:Nat),v=.slice A3 l.length c3∧3≤γ∧(γ=3→OwnVs w' Wm.heap.size (fun b=>Wm.heap.size≤b) d A3 c3 l)
def JnG7 (Wm:World) (A5:Option Addr) (d:Nat) (l:List Val) (v:Value) (γ:Nat) (w':World):Prop:=∃ (A3:Option Addr) (c3:Nat),v=.slice A3 l.length c3∧1≤γ∧(γ=1→Row w' (fun b=>ob A5≠some b∧Wm.heap.size≤b) d A3 l)
def JnG8 (X:Nat→Prop) (Ar:Option Addr) (go d:Nat) (r:List Val) (v:Value) (γ:Nat) (w':World):Prop:=∃ (A3:Option Addr) (c3:Nat),v=.slice A3 r.length c3∧2≤γ∧(γ=2→Row w' (fun b=>ob Ar≠some b∧X b∧b≠go) d A3 r∧r.length≤c3)
def JnG9 (X:Nat→Prop) (Ar:Option Addr) (go d:Nat) (r:List Val) (v:Value) (γ:Nat) (w':World):Prop:=∃ (g:Nat) (A3:Option Addr) (c3:Nat),v=.slice (some ⟨g,0,none⟩) 1 1∧3≤γ∧(γ=3→Blk w' g 50 #[.slice A3 r.length c3]∧Row w' (fun b=>ob Ar≠some b∧X b∧b≠go) d A3 r∧r.length≤c3)
def JnG10 (O:Option Addr→Nat→World→Prop) (n:Nat) (v:Value) (γ:Nat) (w':World):Prop:=∃ (A4:Option Addr) (c4:Nat),v=.slice A4 n c4∧4≤γ∧(γ=4→O A4 c4 w')
def JnG12 (O:World→Prop) (γ:Nat) (w':World):Prop:=5≤γ∧(γ=5→O w')
theorem isTab_cols {t:Val} (h:isTabB t=true):t.cols.length≤8:=by
 simp only [isTabB,Bool.and_eq_true,decide_eq_true_eq] at h;have h2:=h.2;unfold rightB at h2;rw [if_pos h.1,Bool.and_eq_true] at h2;have h3:=h2.1;simp only [tableR,Bool.and_eq_true,decide_eq_true_eq] at h3;omega
theorem bodyM_ret {F:Fence} {n:Nat} {P:Program} {fn:Func} {R:Ending→World→Prop} {tm:Array Value} {w:World} {v:Value} (hr:(results fn tm).run P w=.ok v w) (hR:R (.returned v) w):bodyPostM F n P fn R .ret { tmps:=tm,defers:=[] } w:=⟨v,hr,hR⟩
theorem colsK_succ (bc:List ByteArray) (col:ByteArray) {k:Nat} (h:k<bc.length):(bc.take (k+1)).filter (fun n=>decide (n≠col))=(bc.take k).filter (fun n=>decide (n≠col))++if bc[k]=col then [] else [bc[k]]:=by
 rw [List.take_succ_eq_append_getElem h,List.filter_append];congr 1;by_cases hc:bc[k]=col <;> simp [hc]
theorem clashK_succ (ac bc:List ByteArray) (col:ByteArray) {k:Nat} (h:k<bc.length):joinClash ac (bc.take (k+1)) col=(joinClash ac (bc.take k) col || (decide (bc[k]≠col) && memS ac bc[k])):=by
 unfold joinClash;rw [List.take_succ_eq_append_getElem h,List.any_append];simp
theorem clash_of (ac bc:List ByteArray) (col:ByteArray) {k:Nat} (h:k<bc.length) (h1:bc[k]≠col) (h2:memS ac bc[k]=true):joinClash ac bc col=true:=by
 unfold joinClash;rw [List.any_eq_true];exact ⟨bc[k],List.getElem_mem h,by simp [h1,h2]⟩
theorem table_Join (d:Nat) (a b:Val) (col:ByteArray) (A B A' B':Option Addr) (c e c' e':Nat) (w:World) (S T:Nat→Prop) (ha:RV w S d a A B) (hca:a.cols.length≤c) (hb:RV w T d b A' B') (hcb:b.cols.length≤c') (hT:TxM w)
  (hX:∀ i j:Nat,isTabB a=true→isTabB b=true→i<a.cols.length→j<b.cols.length→(∀ r∈a.rows,TxOk (r.getD i Val.zero))∧(∀ r∈b.rows,(r.getD j Val.zero).kind≠0→TxOk (r.getD j Val.zero))∧(prsF a.rows b.rows i j a.rows.length).length≤100) :
  Calls Tryz.prog 11 #[(.agg #[.int .i64 a.kind,.string a.s,.int .i64 a.dn,.int .i64 a.ds,.int .i64 a.n,.slice A a.cols.length c,.slice B a.rows.length e]),(.agg #[.int .i64 b.kind,.string b.s,.int .i64 b.dn,.int .i64 b.ds,.int .i64 b.n,.slice A' b.cols.length c',.slice B' b.rows.length e']),.string col] w (RetVE w (Fresh w) d (joinT a b col)):=by
 have H:=Hd (ha.mono (T:=fun b=>b<w.heap.size) fun i hi _=>hi);have HV:=Hd (hb.mono (T:=fun b=>b<w.heap.size) fun i hi _=>hi);have hral:=ha.rows_.len;have hrbl:=hb.rows_.len;have HT:=Hd hT;have HXX:=Hd hX;clear ha hb hT hX;obtain ⟨W0,hW0⟩:∃ W0,W0=(((w.alloc (.cells #[.int .i64 a.kind,.string a.s,.int .i64 a.dn,.int .i64 a.ds,.int .i64 a.n,.slice A a.cols.length c,.slice B a.rows.length e] 31)).alloc (.cells #[.int .i64 b.kind,.string b.s,.int .i64 b.dn,.int .i64 b.ds,.int .i64 b.n,.slice A' b.cols.length c',.slice B' b.rows.length e'] 31)).alloc (.cells #[.int .i64 0,.string ⟨#[]⟩,.int .i64 0,.int .i64 0,.int .i64 0,.slice none 0 0,.slice none 0 0] 31)).alloc (.cells #[.int .i64 0] 42):=⟨_,rfl⟩;have HW0:=Hd hW0;have HX0:=Hd (show Ext w W0 by rw [hW0]; exact ((((Ext.refl w).alloc _).alloc _).alloc _).alloc _);have HB0:=Hd (show Blk W0 w.heap.size 31 #[.int .i64 a.kind,.string a.s,.int .i64 a.dn,.int .i64 a.ds,.int .i64 a.n,.slice A a.cols.length c,.slice B a.rows.length e] by rw [hW0]; exact (Blk.newAt rfl).keep ((((Ext.refl _).alloc _).alloc _).alloc _ |>.kept _));have HB1:=Hd (show Blk W0 (w.heap.size+1) 31 #[.int .i64 b.kind,.string b.s,.int .i64 b.dn,.int .i64 b.ds,.int .i64 b.n,.slice A' b.cols.length c',.slice B' b.rows.length e'] by rw [hW0]; exact (Blk.newAt (by simp)).keep (((Ext.refl _).alloc _).alloc _ |>.kept _));have HB2:=Hd (show Blk W0 (w.heap.size+1+1) 31 #[.int .i64 0,.string ⟨#[]⟩,.int .i64 0,.int .i64 0,.int .i64 0,.slice none 0 0,.slice none 0 0] by rw [hW0]; exact (Blk.newAt (by simp)).keep ((Ext.refl _).alloc _ |>.kept _));have HB3:=Hd (show Blk W0 (w.heap.size+1+1+1) 42 #[.int .i64 0] by rw [hW0]; exact Blk.newAt (by simp));have HS0:=Hd (show W0.heap.size=w.heap.size+4 by rw [hW0]; simp);clear hW0;have HFB:=Hd (show W0.heap.size=w.heap.size+4 from HS0.o);refine (callsIn_wide (n:=4)).1 ?_;refine callsIn_of_wp_marks Tryz.func11 rfl trivial ?_ rfl;simp only [Tryz.ntmps11,List.size_toArray,List.length_cons,List.length_nil,Nat.reduceAdd,Nat.reduceSub,Array.replicate_succ,Array.replicate_zero,List.push_toArray,List.append_toArray,List.nil_append,List.cons_append]
 gi_wp2
 rw [← HW0.o];refine ⟨trivial,(callsIn_wide.2 (table_isTable d a A B c e W0 _ (H.o.keep (HX0.o.kept _)) hca)).mono ?_⟩;rintro e1 w1 ⟨rfl,hx1⟩;have HX1:=Hd (HX0.o.trans hx1);have HB01:=Hd (HB0.o.keep (hx1.kept _));have HB11:=Hd (HB1.o.keep (hx1.kept _));have HB21:=Hd (HB2.o.keep (hx1.kept _));have HB31:=Hd (HB3.o.keep (hx1.kept _));have hz1:w.heap.size+4≤w1.heap.size:=(by have:=hx1.size; have:=HS0.o; omega);clear hx1 HB0 HB1 HB2 HB3 HW0 HX0 HS0;rw [show (decide (a.kind=5) && rightB a)=isTabB a from rfl];cases hTa:isTabB a
 ·have HF:=Hd (show joinT a b col=(Val.zero,14) by simp [joinT,hTa]);clear hTa;have r0:=HB21.o.cell (i:=0) rfl;have r1:=HB21.o.cell (i:=1) rfl;have r2:=HB21.o.cell (i:=2) rfl;have r3:=HB21.o.cell (i:=3) rfl;have r4:=HB21.o.cell (i:=4) rfl;have r5:=HB21.o.cell (i:=5) rfl;have r6:=HB21.o.cell (i:=6) rfl;have rf:=HB21.o.frozen;have rz:=HB21.o.lt;have s0:=HB31.o.cell (i:=0) rfl;have sf:=HB31.o.frozen;have sz:=HB31.o.lt
  gi_wp2
  refine ⟨trivial,?_⟩
  gi_wp2
  rw [HF.o];refine bodyM_ret (v:=.tuple #[(.agg #[.int .i64 Val.zero.kind,.string Val.zero.s,.int .i64 Val.zero.dn,.int .i64 Val.zero.ds,.int .i64 Val.zero.n,.slice none Val.zero.cols.length 0,.slice none Val.zero.rows.length 0]),.int .i64 14]) (by simp [results,Tryz.results11,go_sem,r0,r1,r2,r3,r4,r5,r6,Val.zero,s0]) ⟨none,0,none,0,rfl,⟨Nat.le_refl _,Nat.le_refl _⟩,RV.zero,?_⟩
  iterate 8 with_reducible refine Ext.set2 ?_ (by omega) _
  with_reducible exact HX1.o
 have HTa:=Hd hTa;clear hTa;have kb:=HB11.o.lt;have b0:=HB11.o.cell (i:=0) rfl;have b1:=HB11.o.cell (i:=1) rfl;have b2:=HB11.o.cell (i:=2) rfl;have b3:=HB11.o.cell (i:=3) rfl;have b4:=HB11.o.cell (i:=4) rfl;have b5:=HB11.o.cell (i:=5) rfl;have b6:=HB11.o.cell (i:=6) rfl
 gi_wp2
 refine ⟨trivial,(callsIn_wide.2 (table_isTable d b A' B' c' e' w1 _ (HV.o.keep (HX1.o.kept _)) hcb)).mono ?_⟩;rintro e1 w2 ⟨rfl,hx2⟩;have HX2:=Hd (HX1.o.trans hx2);have HB02:=Hd (HB01.o.keep (hx2.kept _));have HB12:=Hd (HB11.o.keep (hx2.kept _));have HB22:=Hd (HB21.o.keep (hx2.kept _));have HB32:=Hd (HB31.o.keep (hx2.kept _));have hz2:w.heap.size+4≤w2.heap.size:=Nat.le_trans hz1 hx2.size;clear hx2 HX1 HB01 HB11 HB21 HB31 kb b0 b1 b2 b3 b4 b5 b6 hz1;rw [show (decide (b.kind=5) && rightB b)=isTabB b from rfl];cases hTb:isTabB b
 ·have HF:=Hd (show joinT a b col=(Val.zero,14) by simp [joinT,hTb]);clear hTb;have r0:=HB22.o.cell (i:=0) rfl;have r1:=HB22.o.cell (i:=1) rfl;have r2:=HB22.o.cell (i:=2) rfl;have r3:=HB22.o.cell (i:=3) rfl;have r4:=HB22.o.cell (i:=4) rfl;have r5:=HB22.o.cell (i:=5) rfl;have r6:=HB22.o.cell (i:=6) rfl;have rf:=HB22.o.frozen;have rz:=HB22.o.lt;have s0:=HB32.o.cell (i:=0) rfl;have sf:=HB32.o.frozen;have sz:=HB32.o.lt
  gi_wp2
  rw [HF.o];refine bodyM_ret (v:=.tuple #[(.agg #[.int .i64 Val.zero.kind,.string Val.zero.s,.int .i64 Val.zero.dn,.int .i64 Val.zero.ds,.int .i64 Val.zero.n,.slice none Val.zero.cols.length 0,.slice none Val.zero.rows.length 0]),.int .i64 14]) (by simp [results,Tryz.results11,go_sem,r0,r1,r2,r3,r4,r5,r6,Val.zero,s0]) ⟨none,0,none,0,rfl,⟨Nat.le_refl _,Nat.le_refl _⟩,RV.zero,?_⟩
  iterate 8 with_reducible refine Ext.set2 ?_ (by omega) _
  with_reducible exact HX2.o
 have HTb:=Hd hTb;clear hTb;have HIA:=Hd (show ∀ w',Ext w2 w'→Calls Tryz.prog 32 #[.slice A a.cols.length c,.string col] w' (RetI w' (idxS a.cols col)) from fun w' hx=>(slices_Index A c a.cols col w' _ (H.o.strs.keep ((HX2.o.trans hx).kept _))).mono fun e w3 h=>⟨h.1,by rw [← h.2]; exact Ext.refl _⟩);have HIB:=Hd (show ∀ w',Ext w2 w'→Calls Tryz.prog 32 #[.slice A' b.cols.length c',.string col] w' (RetI w' (idxS b.cols col)) from fun w' hx=>(slices_Index A' c' b.cols col w' _ (HV.o.strs.keep ((HX2.o.trans hx).kept _))).mono fun e w3 h=>⟨h.1,by rw [← h.2]; exact Ext.refl _⟩);have CA5:=Hd (HB02.o.cell (i:=5) rfl);have CB5:=Hd (HB12.o.cell (i:=5) rfl)
 gi_wp2
 refine wpInW_region_chain (by kernel_rfl) (by kernel_rfl) (fun | 10=>[8,10] | i=>[i]) (by kernel_rfl) (LX (fun _ _=>False)) (LX.refl _) (LX.trans _) (LM [(10,[8])]) gh0 (LM.zero _) ?_;apply Chain.pure (LX.refl _) (by rfl)
 ·intro vals γ w' ρ hR hN hp hρ hc hf hg;refine ⟨rfl,?_⟩;have e3:=hρ 3;(conv at e3=>rhs; whnf);clear hR hN hp hρ;go_light;go_simp;exact ⟨rfl,rfl⟩
 ·rfl
 apply Chain.pure (LX.refl _) (by rfl)
 ·intro vals γ w' ρ hR hN hp hρ hc hf hg;refine ⟨rfl,?_⟩;have e25:ρ (.tmp 25)=_:=(hρ 25).trans (hp 0 (by decide));have hxx:=hR.ext0 (fun _ _ h=>h.elim);have k3:=hxx.cell CA5.o;have k4:=hxx.cell CB5.o;clear hxx hR hN hp hρ;go_light;go_simp;exact ⟨rfl,rfl⟩
 ·rfl
 apply Chain.pure (LX.refl _) (by rfl)
 ·intro vals γ w' ρ hR hN hp hρ hc hf hg;refine ⟨rfl,?_⟩;have e2:=hρ 2;(conv at e2=>rhs; whnf);clear hR hN hp hρ;go_light;go_simp;exact ⟨rfl,rfl⟩
 ·rfl
 refine Chain.step (FP fun v γ w'=>v=.int .i64 (idxS a.cols col)) (by rfl) (FP.stab ?_) ?_ ?_
 ·intro v γ w1 γ' w2 r h;exact h
 ·intro vals γ w' ρ hR hN hp hρ hc hf hg;refine ⟨rfl,?_⟩;have e26:ρ (.tmp 26)=_:=(hρ 26).trans (hp 1 (by decide));have e27:ρ (.tmp 27)=_:=(hρ 27).trans (hp 2 (by decide));have HR:=Hd hR;have HXX:=Hd (hR.ext0 (fun _ _ h=>h.elim));clear hR hN hp hρ;go_light;go_simp;refine (HIA.o w' HXX.o).mono ?_;rintro e1 w3 ⟨he,hx⟩;exact ⟨_,he,γ,LX.of_ext _ γ hx,fun _ _ _ h=>h,rfl⟩
 apply Chain.pure (LX.refl _) (by rfl)
 ·intro vals γ w' ρ hR hN hp hρ hc hf hg;refine ⟨rfl,?_⟩;have e4:=hρ 4;(conv at e4=>rhs; whnf);clear hR hN hp hρ;go_light;go_simp;exact ⟨rfl,rfl⟩
 ·rfl
 apply Chain.pure (LX.refl _) (by rfl)
 ·intro vals γ w' ρ hR hN hp hρ hc hf hg;refine ⟨rfl,?_⟩;have e29:ρ (.tmp 29)=_:=(hρ 29).trans (hp 4 (by decide));have hxx:=hR.ext0 (fun _ _ h=>h.elim);have k3:=hxx.cell CA5.o;have k4:=hxx.cell CB5.o;clear hxx hR hN hp hρ;go_light;go_simp;exact ⟨rfl,rfl⟩
 ·rfl
 apply Chain.pure (LX.refl _) (by rfl)
 ·intro vals γ w' ρ hR hN hp hρ hc hf hg;refine ⟨rfl,?_⟩;have e2:=hρ 2;(conv at e2=>rhs; whnf);clear hR hN hp hρ;go_light;go_simp;exact ⟨rfl,rfl⟩
 ·rfl
 refine Chain.step (FP fun v γ w'=>v=.int .i64 (idxS b.cols col)) (by rfl) (FP.stab ?_) ?_ ?_
 ·intro v γ w1 γ' w2 r h;exact h
 ·intro vals γ w' ρ hR hN hp hρ hc hf hg;refine ⟨rfl,?_⟩;have e30:ρ (.tmp 30)=_:=(hρ 30).trans (hp 5 (by decide));have e31:ρ (.tmp 31)=_:=(hρ 31).trans (hp 6 (by decide));have HR:=Hd hR;have HXX:=Hd (hR.ext0 (fun _ _ h=>h.elim));clear hR hN hp hρ;go_light;go_simp;refine (HIB.o w' HXX.o).mono ?_;rintro e1 w3 ⟨he,hx⟩;exact ⟨_,he,γ,LX.of_ext _ γ hx,fun _ _ _ h=>h,rfl⟩
 refine Chain.step (FP (VarX (fun _ _=>False) 8 3 1)) (by rfl) (FP.stab VarX.stab) ?_ ?_
 ·intro vals γ w' ρ hR hN hp hρ hc hf hg;refine ⟨rfl,?_⟩;have HR:=Hd hR;have HN:=Hd hN;clear hR hN hp hρ;go_light;go_simp;exact ⟨γ.put 8 (some w'.heap.size),LX.new (by decide) (HN.o.2 (by decide) ⟨10,by decide⟩) _ _,LM.made,VarX.new HR.o.inb0 rfl (fun _ _ h=>h.elim)⟩
 apply Chain.pure (LX.refl _) (by rfl)
 ·intro vals γ w' ρ hR hN hp hρ hc hf hg;refine ⟨rfl,?_⟩;have e28:ρ (.tmp 28)=_:=(hρ 28).trans (hp 3 (by decide));clear hR hN hp hρ;go_light;go_simp;exact ⟨rfl,rfl⟩
 ·rfl
 refine Chain.step (fun vl γ w'=>match vl with | [p,_]=>VarXI (fun _ _=>False) 3 p #[.int .i64 (idxS b.cols col)] γ w' | _=>True) (by rfl) ?_ ?_ ?_
 ·intro l γ w1 γ' w2 rr h
  match l,h with
  | [],_=>trivial
  | [_],_=>trivial
  | [p,q],h=>exact VarXI.lx rr h
  | _ :: _ :: _ :: _,_=>trivial
 ·intro vals γ w' ρ hR hN hp hρ hc hf hg;refine ⟨rfl,?_⟩;have e32:ρ (.tmp 32)=_:=(hρ 32).trans (hp 7 (by decide));obtain ⟨g,⟨cl⟩,hv,hcs,hb,hk,hst⟩:=VarX.stored (hp 8 (by decide)) (s:=10) (l:=[(10,[8])]) (by decide) hN;have e9:=(hρ 9).trans hv
  match cl,hcs with
  | [x0],_ =>
   have HST:=Hd hst;have HK:=Hd hk;have HB:=Hd hb;have q0:=hb.cell (i:=0) rfl;have qf:=hb.frozen;have ql:=hb.lt;clear hR hN hp hρ hst hk hb hv;go_light;go_simp;obtain ⟨g1,g2⟩:=HST.o _ #[.int .i64 (idxS b.cols col)] ((Only.refl g w').set 0 (.int .i64 (idxS b.cols col))) (HB.o.set 0 (.int .i64 (idxS b.cols col))) rfl;exact ⟨γ.put 8 none,g1,LM.done (by decide) (.inl ⟨g,HK.o⟩),g2⟩
 intro vals γ w9 hR hG;have v0:vals 0=_:=hG 0 (by decide);have v1:vals 1=_:=hG 1 (by decide);have v2:vals 2=_:=hG 2 (by decide);have v3:vals 3=_:=hG 3 (by decide);have v4:vals 4=_:=hG 4 (by decide);have v5:vals 5=_:=hG 5 (by decide);have v6:vals 6=_:=hG 6 (by decide);have v7:vals 7=_:=hG 7 (by decide);have v9:vals 9=_:=hG 9 (by decide);obtain ⟨g9,v8,hb9,-,-⟩:=hG 10 (by decide);simp only [lexFrame,Act.put,List.setIfInBounds_toArray,List.set_cons_succ,List.set_cons_zero,Nat.zero_add,Nat.reduceAdd,v0,v1,v2,v3,v4,v5,v6,v7,v9,v8];have hx3:Ext w2 w9:=hR.ext0 (fun _ _ h=>h.elim);obtain ⟨w3,hw3⟩:∃ x:World,x=w9:=⟨_,rfl⟩;rw [← hw3] at hx3 hb9 ⊢;have HB9:=Hd hb9;have HX3:=Hd (HX2.o.trans hx3);have HB03:=Hd (HB02.o.keep (hx3.kept _));have HB13:=Hd (HB12.o.keep (hx3.kept _));have HB23:=Hd (HB22.o.keep (hx3.kept _));have HB33:=Hd (HB32.o.keep (hx3.kept _));have hz3:w.heap.size+4≤w3.heap.size:=Nat.le_trans hz2 hx3.size;clear hR hG hw3 v0 v1 v2 v3 v4 v5 v6 v7 v9 v8 hx3 hb9 CA5 CB5 HIA HIB HX2 HB02 HB12 HB22 HB32 hz2;have q9:=HB9.o.cell (i:=0) rfl;have q9l:=HB9.o.lt;by_cases hia:idxS a.cols col<0
 ·have HF:=Hd (show joinT a b col=(Val.zero,13) by simp [joinT,HTa.o,HTb.o,hia]);have r0:=HB23.o.cell (i:=0) rfl;have r1:=HB23.o.cell (i:=1) rfl;have r2:=HB23.o.cell (i:=2) rfl;have r3:=HB23.o.cell (i:=3) rfl;have r4:=HB23.o.cell (i:=4) rfl;have r5:=HB23.o.cell (i:=5) rfl;have r6:=HB23.o.cell (i:=6) rfl;have rf:=HB23.o.frozen;have rz:=HB23.o.lt;have s0:=HB33.o.cell (i:=0) rfl;have sf:=HB33.o.frozen;have sz:=HB33.o.lt
  gi_wp2
  rw [HF.o];refine bodyM_ret (v:=.tuple #[(.agg #[.int .i64 Val.zero.kind,.string Val.zero.s,.int .i64 Val.zero.dn,.int .i64 Val.zero.ds,.int .i64 Val.zero.n,.slice none Val.zero.cols.length 0,.slice none Val.zero.rows.length 0]),.int .i64 13]) (by simp [results,Tryz.results11,go_sem,r0,r1,r2,r3,r4,r5,r6,Val.zero,s0]) ⟨none,0,none,0,rfl,⟨Nat.le_refl _,Nat.le_refl _⟩,RV.zero,?_⟩
  iterate 8 with_reducible refine Ext.set2 ?_ (by omega) _
  with_reducible exact HX3.o
 by_cases hib:idxS b.cols col<0
 ·have HF:=Hd (show joinT a b col=(Val.zero,13) by simp [joinT,HTa.o,HTb.o,hib]);have r0:=HB23.o.cell (i:=0) rfl;have r1:=HB23.o.cell (i:=1) rfl;have r2:=HB23.o.cell (i:=2) rfl;have r3:=HB23.o.cell (i:=3) rfl;have r4:=HB23.o.cell (i:=4) rfl;have r5:=HB23.o.cell (i:=5) rfl;have r6:=HB23.o.cell (i:=6) rfl;have rf:=HB23.o.frozen;have rz:=HB23.o.lt;have s0:=HB33.o.cell (i:=0) rfl;have sf:=HB33.o.frozen;have sz:=HB33.o.lt
  gi_wp2
  rw [HF.o];refine bodyM_ret (v:=.tuple #[(.agg #[.int .i64 Val.zero.kind,.string Val.zero.s,.int .i64 Val.zero.dn,.int .i64 Val.zero.ds,.int .i64 Val.zero.n,.slice none Val.zero.cols.length 0,.slice none Val.zero.rows.length 0]),.int .i64 13]) (by simp [results,Tryz.results11,go_sem,r0,r1,r2,r3,r4,r5,r6,Val.zero,s0]) ⟨none,0,none,0,rfl,⟨Nat.le_refl _,Nat.le_refl _⟩,RV.zero,?_⟩
  iterate 8 with_reducible refine Ext.set2 ?_ (by omega) _
  with_reducible exact HX3.o
 obtain ⟨i,hi,hil,-⟩:=idxS_at (show 0≤idxS a.cols col by omega);obtain ⟨j,hj,hjl,-⟩:=idxS_at (show 0≤idxS b.cols col by omega);have HFJ:=Hd (show joinT a b col=if joinClash a.cols b.cols col=true then (Val.zero,13) else if 8<(joinCols a.cols b.cols col).length then (Val.zero,2) else (tabV (joinCols a.cols b.cols col) (joinRows a.rows b.rows j (prsF a.rows b.rows i j a.rows.length)),0) by
  unfold joinT;rw [if_neg (by simp [HTa.o,HTb.o]),if_neg (by omega),hi,hj];rfl)
 rw [hi,hj];rw [hj] at q9 HB9;have hi0:¬ ((i:Int)<0):=(by omega);have hj0:¬ ((j:Int)<0):=(by omega);clear hia hib hi hj;have ka:=HB03.o.cell (i:=5) rfl;have kz:=HB03.o.lt
 gi_wp2
 refine ⟨trivial,(callsIn_wide.2 (slices_CloneO A c a.cols _ _ (H.o.strs.keep (HX3.o.kept _)))).mono ?_⟩;rintro e4 w4 ⟨Ac0,cc0,rfl,hos,hx4⟩;obtain ⟨w5,hw5⟩:∃ w5,w5=w4.alloc (.cells #[.int .i64 5,.string ⟨#[]⟩,.int .i64 0,.int .i64 0,.int .i64 0,.slice Ac0 a.cols.length cc0,.slice none 0 0] 31):=⟨_,rfl⟩;have hx45:Ext w4 w5:=(by rw [hw5]; exact (Ext.refl _).alloc _);obtain ⟨go,hgo⟩:∃ go,go=w4.heap.size:=⟨_,rfl⟩;obtain ⟨lo,hlo⟩:∃ lo,lo=w3.heap.size:=⟨_,rfl⟩;have hz34:=hx4.size;have HJC:=Hd (show JC w lo go Ac0 cc0 (a.cols++(b.cols.take 0).filter fun n=>decide (n≠col)) w5 from by
  simp only [List.take_zero,List.filter_nil,List.append_nil];exact ⟨(HX3.o.trans hx4).trans hx45,⟨by omega,by omega,by rw [hw5,hgo]; simp⟩,by rw [hw5,hgo]; exact Blk.new _ _ _,by rw [hlo]; exact ⟨hos.1.ext hx45,hos.2⟩,fun e=>by have:=(hos.1.blk e).2; omega⟩)
 have hx35:=hx4.trans hx45;have HW5:=Hd hw5;have HGO:=Hd hgo;have HB9:=Hd (HB9.o.keep (hx35.kept _));have HB0:=Hd (HB03.o.keep (hx35.kept _));have HB1:=Hd (HB13.o.keep (hx35.kept _));have HB2:=Hd (HB23.o.keep (hx35.kept _));have HB3:=Hd (HB33.o.keep (hx35.kept _));have HX5:=Hd (HX3.o.trans hx35);have hlz:w.heap.size+4≤lo∧lo≤go∧g9<lo:=(by omega);have kb:=(HB13.o.keep (hx4.kept _)).cell (i:=5) rfl;have kbz:=(HB13.o.keep (hx4.kept _)).lt;clear hos hx4 hx45 hx35 hw5 hgo hlo HX3 HB03 HB13 HB23 HB33 ka kz q9 q9l hz3 hz34
 gi_wp2
 rw [← HW5.o,← HGO.o];clear HW5 HGO kb kbz;have hla:a.cols.length≤4294967296:=H.o.strs.2.1;have hlb:b.cols.length≤4294967296:=HV.o.strs.2.1
 gi_loopw [47] (fun v47 wr=>∃ (k:Nat) (Ac:Option Addr) (cc:Nat),k≤b.cols.length∧v47=.int .i64 (k:Int)∧JC w lo go Ac cc (a.cols++(b.cols.take k).filter fun n=>decide (n≠col)) wr∧Kept (fun b=>b<lo) w5 wr∧joinClash a.cols (b.cols.take k) col=false) (fun v47 _=>b.cols.length-(intOf v47).toNat)
 case atStart=>exact ⟨0,Ac0,cc0,Nat.zero_le _,rfl,HJC.o,Kept.refl _ _,rfl⟩
 case round =>
  clear HJC;obtain ⟨k,Ac,cc,hk,rfl,hjc,hkp,hcl⟩:=hrel;have HJC:=Hd hjc;have HKP:=Hd hkp;have HCL:=Hd hcl;have HB0k:=Hd (HB0.o.keep (hkp.mono fun b _ e=>by omega));have HB1k:=Hd (HB1.o.keep (hkp.mono fun b _ e=>by omega));have HB2k:=Hd (HB2.o.keep (hkp.mono fun b _ e=>by omega));have HB3k:=Hd (HB3.o.keep (hkp.mono fun b _ e=>by omega));have HB9k:=Hd (HB9.o.keep (hkp.mono fun b _ e=>by omega));clear hjc hkp hcl;by_cases hlt:k<b.cols.length
  ·obtain ⟨s,hs⟩:∃ s,s=b.cols[k]:=⟨_,rfl⟩;obtain ⟨bs,os,hA',hbs,hcs⟩:=(HV.o.strs.keep (HJC.o.ext.kept _)).at_ hlt;rw [← hs] at hcs;have HSZ:=Hd (show s.size≤4294967296 by rw [hs]; exact HV.o.strs.sz hlt);have HA':=Hd hA';have HSE:=Hd hs;have i0:(0:Int)≤(k:Int):=(by omega);have i1:(k:Int)<(b.cols.length:Int):=(by omega);rw [HA'.out];have HS1:=Hd (colsK_succ b.cols col hlt);have HS2:=Hd (clashK_succ a.cols b.cols col hlt);clear hs hA';by_cases hsc:s=col
   ·have ht:(s.toList==col.toList)=true:=by rw [bytes_beq]; simp [hsc]
    gi_wp2
    exact ⟨⟨k+1,Ac,cc,by omega,by simp,by rw [HS1.o,← HSE.o,if_pos hsc,List.append_nil]; exact HJC.o,HKP.o,by rw [HS2.o,HCL.o,← HSE.o]; simp [hsc]⟩,by simp [intOf]; omega⟩
   ·have ka:=HB0k.o.cell (i:=5) rfl;have kz:=HB0k.o.lt;have ht:(s.toList==col.toList)=false:=(by rw [bytes_beq]; simp [hsc])
    gi_wp2
    refine ⟨trivial,(callsIn_wide.2 (slices_Contains A c a.cols s _ _ (H.o.strs.keep (HJC.o.ext.kept _)))).mono ?_⟩;rintro e5 w6 ⟨rfl,rfl⟩;cases hmm:memS a.cols s
    ·obtain ⟨cs,ecs⟩:∃ cs,cs=a.cols++(b.cols.take k).filter fun n=>decide (n≠col):=⟨_,rfl⟩;rw [← ecs] at HJC;have hcl:cs.length≤8589934592:=by
      rw [ecs,List.length_append];have h1:=List.length_filter_le (fun n=>decide (n≠col)) (b.cols.take k);rw [List.length_take] at h1;omega
     have HCS:=Hd ecs;have kc:=HJC.o.o.cell (i:=5) rfl;have kcl:=HJC.o.o.lt;have HMM:=Hd hmm;have HJC1:=Hd (HJC.o.more ((Ext.refl wr).alloc (.cells #[.string s] 9)));have hjz:=HJC1.o.golo;clear ecs hmm
     gi_wp2_with (gi_at_builtin; go_must (refine wpListIn_app rfl (.tmp 60) (.tmp 62) rfl tiS rfl HJC1.o.own.1 rfl (Blk.rd (Blk.new _ _ _)) rfl (by simp [Value.oneCell']) (by omega) (by decide) (by simp at hjz ⊢; omega) ?_); intro A4 c4 w4b hown4 hg4 hat4; obtain ⟨hb4,hj4⟩:=HJC1.o.app HSZ.o hown4 hg4 hat4; have HJ4:=Hd hj4; have HK4:=Hd (Kept.of_grown (S:=fun b=>b<lo) hg4 fun b hb _ e=>by have:=(HJC1.o.own.1.blk e.symm).1; omega); have m5:=hb4.cell (i:=5) rfl; have mf:=hb4.frozen 5; have ml:=hb4.lt; clear hown4 hg4 hat4 hb4 hj4)
     refine ⟨⟨k+1,A4,c4,by omega,by simp,?_,(HKP.o.trans (((Ext.refl wr).alloc _).kept _)).trans (HK4.o.trans (Kept.of_set (show ¬ (go<lo) by omega))),by rw [HS2.o,HCL.o,← HSE.o,HMM.o,Bool.and_false]; rfl⟩,by simp [intOf]; omega⟩;rw [HS1.o,← HSE.o,if_neg hsc,← List.append_assoc,← HCS.o];exact HJ4.o
    ·have HF:=Hd (show joinT a b col=(Val.zero,13) by rw [HFJ.o,if_pos (clash_of a.cols b.cols col hlt (by rw [← HSE.o]; exact hsc) (by rw [← HSE.o]; exact hmm))]);have r0:=HB2k.o.cell (i:=0) rfl;have r1:=HB2k.o.cell (i:=1) rfl;have r2:=HB2k.o.cell (i:=2) rfl;have r3:=HB2k.o.cell (i:=3) rfl;have r4:=HB2k.o.cell (i:=4) rfl;have r5:=HB2k.o.cell (i:=5) rfl;have r6:=HB2k.o.cell (i:=6) rfl;have rf:=HB2k.o.frozen;have rz:=HB2k.o.lt;have s0:=HB3k.o.cell (i:=0) rfl;have sf:=HB3k.o.frozen;have sz:=HB3k.o.lt
     gi_wp2
     rw [HF.o];refine bodyM_ret (v:=.tuple #[(.agg #[.int .i64 Val.zero.kind,.string Val.zero.s,.int .i64 Val.zero.dn,.int .i64 Val.zero.ds,.int .i64 Val.zero.n,.slice none Val.zero.cols.length 0,.slice none Val.zero.rows.length 0]),.int .i64 13]) (by simp [results,Tryz.results11,go_sem,r0,r1,r2,r3,r4,r5,r6,Val.zero,s0]) ⟨none,0,none,0,rfl,⟨Nat.le_refl _,Nat.le_refl _⟩,RV.zero,?_⟩
     iterate 8 with_reducible refine Ext.set2 ?_ (by omega) _
     with_reducible exact HJC.o.ext
  ·have hke:k=b.cols.length:=(by omega);subst hke;obtain ⟨cs,ecs⟩:∃ cs,cs=joinCols a.cols b.cols col:=⟨_,rfl⟩;have HJC2:=Hd (show JC w lo go Ac cc cs wr from by
    rw [ecs];have h:=HJC.o;rw [List.take_of_length_le (Nat.le_refl _)] at h;exact h)
   have HCL2:=Hd (show joinClash a.cols b.cols col=false from by
    have h:=HCL.o;rwa [List.take_of_length_le (Nat.le_refl _)] at h)
   have HCS:=Hd ecs;have HFK:=Hd (show joinT a b col=if 8<cs.length then (Val.zero,2) else (tabV cs (joinRows a.rows b.rows j (prsF a.rows b.rows i j a.rows.length)),0) by
    rw [HFJ.o,HCL2.o,if_neg (by simp),← HCS.o])
   clear HJC HCL HCL2 ecs HFJ hlt;have hq1:¬ ((b.cols.length:Int)<(b.cols.length:Int)):=(by omega);have kc:=HJC2.o.o.cell (i:=5) rfl;have kcl:=HJC2.o.o.lt;by_cases h8:8<cs.length
   ·have h8i:(8:Int)<(cs.length:Int):=(by omega);have HF:=Hd (show joinT a b col=(Val.zero,2) by rw [HFK.o,if_pos h8]);have r0:=HB2k.o.cell (i:=0) rfl;have r1:=HB2k.o.cell (i:=1) rfl;have r2:=HB2k.o.cell (i:=2) rfl;have r3:=HB2k.o.cell (i:=3) rfl;have r4:=HB2k.o.cell (i:=4) rfl;have r5:=HB2k.o.cell (i:=5) rfl;have r6:=HB2k.o.cell (i:=6) rfl;have rf:=HB2k.o.frozen;have rz:=HB2k.o.lt;have s0:=HB3k.o.cell (i:=0) rfl;have sf:=HB3k.o.frozen;have sz:=HB3k.o.lt
    gi_wp2
    rw [HF.o];refine bodyM_ret (v:=.tuple #[(.agg #[.int .i64 Val.zero.kind,.string Val.zero.s,.int .i64 Val.zero.dn,.int .i64 Val.zero.ds,.int .i64 Val.zero.n,.slice none Val.zero.cols.length 0,.slice none Val.zero.rows.length 0]),.int .i64 2]) (by simp [results,Tryz.results11,go_sem,r0,r1,r2,r3,r4,r5,r6,Val.zero,s0]) ⟨none,0,none,0,rfl,⟨Nat.le_refl _,Nat.le_refl _⟩,RV.zero,?_⟩
    iterate 8 with_reducible refine Ext.set2 ?_ (by omega) _
    with_reducible exact HJC2.o.ext
   have h8i:¬ ((8:Int)<(cs.length:Int)):=(by omega);have HF:=Hd (show joinT a b col=(tabV cs (joinRows a.rows b.rows j (prsF a.rows b.rows i j a.rows.length)),0) by rw [HFK.o,if_neg h8]);have ka:=HB0k.o.cell (i:=6) rfl;have kaz:=HB0k.o.lt;have kb:=HB1k.o.cell (i:=6) rfl;have kbz:=HB1k.o.lt;have k9:=HB9k.o.cell (i:=0) rfl;have k9z:=HB9k.o.lt
   gi_wp2
   refine ⟨trivial,(callsIn_wide.2 (table_matches B B' _ _ e e' (i:Int) (j:Int) wr)).mono ?_⟩;rintro e7 w7 ⟨rfl,hw7⟩;have HW7:=Hd hw7;clear hw7 ka kaz kb kbz k9 k9z
   gi_wp2
   obtain ⟨ps,eps⟩:∃ ps,ps=prsF a.rows b.rows i j a.rows.length:=⟨_,rfl⟩;obtain ⟨hX1,hX2,hX3⟩:=HXX.o i j HTa.o HTb.o hil hjl;rw [← eps] at hX3;have HPS:=Hd eps;have hx7:Ext wr w7:=(by rw [HW7.o]; exact ((((Ext.refl wr).alloc _).alloc _).alloc _).alloc _);have hz7:w7.heap.size=wr.heap.size+4:=(by rw [HW7.o]; simp);have kba:=Hd (show Blk w7 wr.heap.size 29 #[.slice B a.rows.length e] by rw [HW7.o]; exact (Blk.newAt rfl).keep ((((Ext.refl _).alloc _).alloc _).alloc _ |>.kept _));have kbb:=Hd (show Blk w7 (wr.heap.size+1) 29 #[.slice B' b.rows.length e'] by rw [HW7.o]; exact (Blk.newAt (by simp)).keep (((Ext.refl _).alloc _).alloc _ |>.kept _));have kbi:=Hd (show Blk w7 (wr.heap.size+1+1) 3 #[.int .i64 (i:Int)] by rw [HW7.o]; exact (Blk.newAt (by simp)).keep ((Ext.refl _).alloc _ |>.kept _));have kbj:=Hd (show Blk w7 (wr.heap.size+1+1+1) 3 #[.int .i64 (j:Int)] by rw [HW7.o]; exact Blk.newAt (by simp));have HJC7:=Hd (HJC2.o.more hx7);have HB27:=Hd (HB2k.o.keep (hx7.kept _));have HB37:=Hd (HB3k.o.keep (hx7.kept _));have HB97:=Hd (HB9k.o.keep (hx7.kept _));have hgz:=HJC2.o.golo;have hwz:w.heap.size+4≤w7.heap.size∧go<wr.heap.size∧go<w7.heap.size∧g9<go:=(by omega);have HZ7:=Hd hz7;have hlc:cs.length≤4294967296:=(by omega);have HM0:=Hd (HJC7.o.start hlz.1 (D:=w7.heap.size) (L:=w7.heap.size+1) (Nat.le_refl _) (by omega) hlc d);have HR1:=Hd (show Rows w7 (fun b=>b<w7.heap.size∧b≠go) d B a.rows from (H.o.rows_.keep (HJC7.o.ext.kept _)).mono fun b _ hb=>by omega);have HR2:=Hd (show Rows w7 (fun b=>b<w7.heap.size∧b≠go) d B' b.rows from (HV.o.rows_.keep (HJC7.o.ext.kept _)).mono fun b _ hb=>by omega);have HX1:=Hd (show ∀ r∈a.rows,i<r.length∧TxOk (r.getD i Val.zero) from fun r hr=>by
    obtain ⟨k,hk,rfl⟩:=List.mem_iff_getElem.1 hr;exact ⟨by rw [isTab_row HTa.o hk]; exact hil,hX1 _ (List.getElem_mem hk)⟩)
   have HX2:=Hd (show ∀ r∈b.rows,j<r.length∧((r.getD j Val.zero).kind≠0→TxOk (r.getD j Val.zero)) from fun r hr=>by
    obtain ⟨k,hk,rfl⟩:=List.mem_iff_getElem.1 hr;exact ⟨by rw [isTab_row HTb.o hk]; exact hjl,hX2 _ (List.getElem_mem hk)⟩)
   rw [← eps] at HF;clear eps hX1 hX2 HXX HB0k HB1k HB2k HB3k HB9k HKP HB0 HB1 HB2 HB3 HB9 HJC2 kc kcl HFK hz7 hgz;refine wpIn_range_at (β:=Nat) (J:=fun k W=>∃ (Ar:Option Addr) (cr:Nat),OutT w w7 w7.heap.size (fun b=>w.heap.size+4≤b∧b≠w7.heap.size∧b≠w7.heap.size+1) d go Ac cc cs Ar cr (joinRows a.rows b.rows j (ps.take k)) W) (s0:=0) (s1:=ps.length) rfl (by decide) (gf:=66) rfl trivial (enters_of Tryz.func66 (by kernel_rfl) rfl) ?calm ?h00 ?hiter ?hdone
   case calm =>
    rintro k W o o' ⟨Ar,cr,h⟩ hl ho;exact ⟨Ar,cr,h.putObj (by omega) (fun h=>h.2.2 rfl) hl ho⟩
   case h00 =>
    intro r;exact ⟨none,0,HM0.o.more (((Ext.refl w7).alloc _).alloc _)⟩
   case hdone =>
    rintro W ⟨Ar,cr,hot⟩ hd;rw [show ps.take ps.length=ps from List.take_of_length_le (Nat.le_refl _)] at hot;obtain ⟨rows,hrows⟩:∃ rows,rows=joinRows a.rows b.rows j ps:=⟨_,rfl⟩;rw [← hrows] at hot HF;have hrl:rows.length≤100:=(by rw [hrows]; unfold joinRows; rw [List.length_map]; omega);have HOT:=Hd hot;have HRT:=Hd (hot.kept.mono (T:=fun b=>b<w7.heap.size∧b≠go) fun b _ hb=>hb);have HB2w:=Hd (HB27.o.keep (HRT.o.mono fun b _ e=>by omega));have HB3w:=Hd (HB37.o.keep (HRT.o.mono fun b _ e=>by omega));have t0:=hot.o.cell (i:=0) rfl;have t1:=hot.o.cell (i:=1) rfl;have t2:=hot.o.cell (i:=2) rfl;have t3:=hot.o.cell (i:=3) rfl;have t4:=hot.o.cell (i:=4) rfl;have t5:=hot.o.cell (i:=5) rfl;have t6:=hot.o.cell (i:=6) rfl;have tz:=hot.o.lt;have r0:=HB2w.o.cell (i:=0) rfl;have r1:=HB2w.o.cell (i:=1) rfl;have r2:=HB2w.o.cell (i:=2) rfl;have r3:=HB2w.o.cell (i:=3) rfl;have r4:=HB2w.o.cell (i:=4) rfl;have r5:=HB2w.o.cell (i:=5) rfl;have r6:=HB2w.o.cell (i:=6) rfl;have rf:=HB2w.o.frozen;have rz:=HB2w.o.lt;have s0:=HB3w.o.cell (i:=0) rfl;have sf:=HB3w.o.frozen;have sz:=HB3w.o.lt;clear hot hrows
    gi_wp2
    obtain ⟨w8,hw8⟩:∃ w8,w8=(((((((W.setCell ⟨w.heap.size+1+1,0,none⟩ (.int .i64 5)).setCell ⟨w.heap.size+1+1,1,none⟩ (.string ⟨#[]⟩)).setCell ⟨w.heap.size+1+1,2,none⟩ (.int .i64 0)).setCell ⟨w.heap.size+1+1,3,none⟩ (.int .i64 0)).setCell ⟨w.heap.size+1+1,4,none⟩ (.int .i64 0)).setCell ⟨w.heap.size+1+1,5,none⟩ (.slice Ac cs.length cc)).setCell ⟨w.heap.size+1+1,6,none⟩ (.slice Ar rows.length cr)):=⟨_,rfl⟩;obtain ⟨wf,hwf⟩:∃ wf,wf=w8.setCell ⟨w.heap.size+1+1+1,0,none⟩ (.int .i64 0):=⟨_,rfl⟩;rw [← hw8,← hwf];have hk8:∀ T:Nat→Prop,(∀ b,T b→b≠w.heap.size+1+1)→Kept T W w8:=fun T hT=>by
     rw [hw8]
     iterate 7 with_reducible refine Kept.set2 ?_ (fun h=>absurd rfl (hT _ h))
     with_reducible exact Kept.refl _ _
    have hkf:∀ T:Nat→Prop,(∀ b,T b→b≠w.heap.size+1+1∧b≠w.heap.size+1+1+1)→Kept T W wf:=fun T hT=>by
     rw [hwf];exact Kept.set2 (hk8 T fun b hb=>(hT b hb).1) (fun h=>absurd rfl (hT _ h).2)
    have hxf:Ext w wf:=by
     rw [hwf,hw8]
     iterate 8 with_reducible refine Ext.set2 ?_ (by omega) _
     with_reducible exact HOT.o.ext
    have hdl:=(Array.getElem?_eq_some_iff.1 hd).1;have hK:wf.heap[w7.heap.size]?=some (.deferred (some [])):=((hkf (fun b=>b=w7.heap.size) fun b hb=>by omega).2 _ rfl hdl).trans hd;have hb2:Blk wf (w.heap.size+1+1) 31 #[.int .i64 5,.string ⟨#[]⟩,.int .i64 0,.int .i64 0,.int .i64 0,.slice Ac cs.length cc,.slice Ar rows.length cr]:=by
     have h7:=(((((((HB2w.o.set 0 (.int .i64 5)).set 1 (.string ⟨#[]⟩)).set 2 (.int .i64 0)).set 3 (.int .i64 0)).set 4 (.int .i64 0)).set 5 (.slice Ac cs.length cc)).set 6 (.slice Ar rows.length cr));rw [hwf,hw8];exact Blk.off h7 (by omega)
    have hb3:Blk wf (w.heap.size+1+1+1) 42 #[.int .i64 0]:=by
     rw [hwf];exact (HB3w.o.keep (hk8 _ fun b hb=>by omega)).set 0 (.int .i64 0)
    refine ⟨by simp,.inl ⟨_,_,rfl,run_takeDeferred hK,?_⟩⟩;have hc2:=hb2.calm hK rfl (o':=.deferred none);have hc3:=hb3.calm hK rfl (o':=.deferred none);have f0:=hc2.cell (i:=0) rfl;have f1:=hc2.cell (i:=1) rfl;have f2:=hc2.cell (i:=2) rfl;have f3:=hc2.cell (i:=3) rfl;have f4:=hc2.cell (i:=4) rfl;have f5:=hc2.cell (i:=5) rfl;have f6:=hc2.cell (i:=6) rfl;have f7:=hc3.cell (i:=0) rfl;clear t0 t1 t2 t3 t4 t5 t6 tz r0 r1 r2 r3 r4 r5 r6 rf rz s0 sf sz;refine ⟨.tuple #[.agg #[.int .i64 5,.string ⟨#[]⟩,.int .i64 0,.int .i64 0,.int .i64 0,.slice Ac cs.length cc,.slice Ar rows.length cr],.int .i64 0],by simp [results,Tryz.results11,go_sem,f0,f1,f2,f3,f4,f5,f6,f7],?_⟩;rw [HF.o];obtain ⟨hs,how,hvs⟩:=HOT.o.rows;have hcapr:=how.cap;have hneD:=how.neObj hd rfl;have hor:OwnRs W w7.heap.size _ d Ar cr rows:=HOT.o.rows;refine ⟨Ac,cc,Ar,cr,rfl,⟨HJC7.o.own.1.cap,hcapr⟩,?_,hxf.putObj (by omega) (.deferred none)⟩;have hv:RV W (fun b=>w.heap.size+4≤b∧b≠w7.heap.size) d (tabV cs rows) Ac Ar:=RV.mk (Nat.zero_le _) (HOT.o.cols.mono fun b _ hb=>⟨hb.2.1.1,hb.2.1.2.1⟩) (hor.rows (by omega) (fun b hb=>⟨by have:=(how.blk hb).1; omega,fun e=>hneD (by rw [← e]; exact hb)⟩) fun b hb=>⟨hb.1.1,hb.1.2.1⟩);exact (hv.keep ((hkf _ fun b hb=>by omega).trans ((Kept.putObj wf w7.heap.size (.deferred none)).mono fun b _ hb=>hb.2))).mono fun b _ hb=>by unfold Fresh; omega
   case hiter =>
    rintro fn W hfn hj0 hr0;have hjz:=hj0.elim fun Ar h=>h.elim fun cr h=>h.golo.2.2;refine (matches_iter 3 (by decide) (w7.heap.size+1) (wr.heap.size+1) (wr.heap.size+1+1+1) wr.heap.size (wr.heap.size+1+1) w7 W (fun b=>b<w7.heap.size∧b≠go) a.rows b.rows B B' e e' i j d hjz HR1.o HR2.o HX1.o HX2.o ?hTb (kbb.o.cell (i:=0) rfl) (kbj.o.cell (i:=0) rfl) (kba.o.cell (i:=0) rfl) (kbi.o.cell (i:=0) rfl)
     (fun k W=>(∃ (Ar:Option Addr) (cr:Nat),OutT w w7 w7.heap.size (fun b=>w.heap.size+4≤b∧b≠w7.heap.size∧b≠w7.heap.size+1) d go Ac cc cs Ar cr (joinRows a.rows b.rows j (ps.take k)) W)∧Rdy _ (w7.heap.size+1) w7.heap.size W) ?jx ?jt ?jk ?round ⟨hj0,hr0⟩).mono ?fin
    case hTb=>have:=HZ7.o; omega
    case jx =>
     rintro k W1 W2 ⟨⟨Ar,cr,h⟩,hr⟩ hx;exact ⟨⟨Ar,cr,h.more hx⟩,hr.ext hx⟩
    case jt =>
     rintro k W1 ⟨⟨Ar,cr,h⟩,-⟩;exact HT.o.ext h.ext
    case jk =>
     rintro k W1 ⟨⟨Ar,cr,h⟩,-⟩;exact h.kept
    case fin =>
     rintro e8 W8 ⟨hv,hj8,hr8⟩;rw [← HPS.o] at hj8;exact ⟨hv,hj8,hr8⟩
    case round =>
     rintro k W1 ⟨⟨Ar,cr,hot⟩,hr1⟩ hs1 p q hp hq hat B1 B2 e1 e2 hrow1 hce1 hrow2 hce2;rw [← HPS.o] at hat;obtain ⟨rows,hrows⟩:∃ rows,rows=joinRows a.rows b.rows j (ps.take k):=⟨_,rfl⟩;rw [← hrows] at hot;have hkl:=(List.getElem?_eq_some_iff.1 hat).1;have hrl:rows.length=k:=(by rw [hrows]; unfold joinRows; rw [List.length_map,List.length_take]; omega);have HSN:=Hd (show joinRows a.rows b.rows j (ps.take (k+1))=rows++[joinRow a.rows[p] b.rows[q] j] by rw [hrows]; exact joinRows_snoc hp hq hat);obtain ⟨x,ex⟩:∃ x,x=a.rows[p]:=⟨_,rfl⟩;obtain ⟨y,ey⟩:∃ y,y=b.rows[q]:=⟨_,rfl⟩;have hjy:j<y.length:=(by rw [ey,isTab_row HTb.o hq]; exact hjl);have hxc:x.length=a.cols.length:=(by rw [ex]; exact isTab_row HTa.o hp);have hyc:y.length=b.cols.length:=(by rw [ey]; exact isTab_row HTb.o hq);rw [← ex,← ey] at HSN;rw [← ex] at hrow1 hce1 ⊢;rw [← ey] at hrow2 hce2 ⊢;obtain ⟨b2,o2,_,_,_,_,hB2,-⟩:=hrow2.at_ hjy;subst hB2;clear ex ey hrows hat;have HXL:=Hd (show x.length≤4294967296 from hrow1.len);have HYL:=Hd (show y.length≤4294967296 from hrow2.len);have HX8:=Hd (show x.length≤8∧y.length≤8 from ⟨by rw [hxc]; exact isTab_cols HTa.o,by rw [hyc]; exact isTab_cols HTb.o⟩);have HW2:=Hd (show w7.heap.size+2≤W1.heap.size from (Array.getElem?_eq_some_iff.1 hr1.1).1);have HOT:=Hd hot;have HRA:=Hd hrow1;have HRB:=Hd hrow2;have HR1':=Hd hr1;have hbt:∀ t,(fun b=>ob Ar=some b∨b=go) t→∃ ty c9,Blk W1 t ty c9∧ty≠3:=by
      intro t ht
      rcases ht with ht | rfl
      ·obtain ⟨hs,how,-⟩:=HOT.o.rows;obtain ⟨c9,h9⟩:=how.blkB ht;exact ⟨_,c9,h9,by decide⟩
      ·exact ⟨_,_,HOT.o.o,by decide⟩
     have HBT:=Hd hbt;clear hot hrow1 hrow2 hr1 hbt hxc hyc;refine YieldAt.mono (yield_at (m:=3-1) (args:=#[.slice B1 x.length e1,.slice (some ⟨b2,o2,none⟩) y.length e2]) (J:=fun k W=>∃ (Ar:Option Addr) (cr:Nat),OutT w w7 w7.heap.size (fun b=>w.heap.size+4≤b∧b≠w7.heap.size∧b≠w7.heap.size+1) d go Ac cc cs Ar cr (joinRows a.rows b.rows j (ps.take k)) W) (s':=k+1) (Fp:=fun b=>ob Ar=some b∨b=go) (Mid:=fun (A0:Act) (W2:World)=>A0 = { tmps:=#[(.agg #[.int .i64 a.kind,.string a.s,.int .i64 a.dn,.int .i64 a.ds,.int .i64 a.n,.slice A a.cols.length c,.slice B a.rows.length e]),(.agg #[.int .i64 b.kind,.string b.s,.int .i64 b.dn,.int .i64 b.ds,.int .i64 b.n,.slice A' b.cols.length c',.slice B' b.rows.length e']),.string col,.pointer (some ⟨w.heap.size,0,none⟩),.pointer (some ⟨w.heap.size+1,0,none⟩),undef,.pointer (some ⟨w.heap.size+1+1,0,none⟩),.pointer (some ⟨w.heap.size+1+1+1,0,none⟩),.int .i64 (i:Int),.pointer (some ⟨g9,0,none⟩),.pointer (some ⟨go,0,none⟩),undef,u12,.slice B1 x.length e1,.slice (some ⟨b2,o2,none⟩) y.length e2,undef,(.agg #[.int .i64 a.kind,.string a.s,.int .i64 a.dn,.int .i64 a.ds,.int .i64 a.n,.slice A a.cols.length c,.slice B a.rows.length e]),.bool true,.bool false,.bool false,(.agg #[.int .i64 b.kind,.string b.s,.int .i64 b.dn,.int .i64 b.ds,.int .i64 b.n,.slice A' b.cols.length c',.slice B' b.rows.length e']),.bool true,.bool false,.bool false,undef,.pointer (some ⟨w.heap.size,5,none⟩),.slice A a.cols.length c,.string col,.int .i64 (i:Int),.pointer (some ⟨w.heap.size+1,5,none⟩),.slice A' b.cols.length c',.string col,.int .i64 (j:Int),.int .i64 (i:Int),.bool false,.bool false,.int .i64 (j:Int),.bool false,.bool false,undef,.pointer (some ⟨w.heap.size,5,none⟩),.slice A a.cols.length c,.slice Ac0 a.cols.length cc0,.agg #[.int .i64 5,.string ⟨#[]⟩,.int .i64 0,.int .i64 0,.int .i64 0,.slice Ac0 a.cols.length cc0,.slice none 0 0],.pointer (some ⟨w.heap.size+1,5,none⟩),.slice A' b.cols.length c',.int .i64 (b.cols.length:Int),.int .i64 (b.cols.length:Int),.bool false,u49,u50,u51,u52,u53,u54,u55,u56,u57,u58,u59,u60,u61,u62,u63,u64,u65,.pointer (some ⟨go,5,none⟩),.slice Ac cs.length cc,.int .i64 (cs.length:Int),.bool false,undef,.pointer (some ⟨w.heap.size,6,none⟩),.slice B a.rows.length e,.pointer (some ⟨w.heap.size+1,6,none⟩),.slice B' b.rows.length e',.int .i64 (i:Int),.int .i64 (j:Int),.func (.func 66) #[] #[.pointer (some ⟨wr.heap.size+1,0,none⟩),.pointer (some ⟨wr.heap.size+1+1+1,0,none⟩),.pointer (some ⟨wr.heap.size,0,none⟩),.pointer (some ⟨wr.heap.size+1+1,0,none⟩)],.slice B1 x.length e1,.slice (some ⟨b2,o2,none⟩) y.length e2,undef,undef,undef,undef,undef,undef,undef,undef,undef,undef,undef,undef,undef,undef,undef,undef,undef,undef,undef,undef,undef,undef,undef,undef,undef],defers:=[] }∧OutT w w7 w7.heap.size (fun b=>w.heap.size+4≤b∧b≠w7.heap.size∧b≠w7.heap.size+1) d go Ac cc cs Ar cr rows W2∧Row W2 (fun b=>b<w7.heap.size∧b≠go) d B1 x∧Row W2 (fun b=>b<w7.heap.size∧b≠go) d (some ⟨b2,o2,none⟩) y∧W1.heap.size≤W2.heap.size) hfn HR1'.out rfl ?mid ?calm2 ?assign ?body) ?post
     case mid =>
      rintro A0 W2 o o' ⟨h0,m1,m2,m3,m4⟩ hl ho;have hkp:=Kept.putObj W2 (w7.heap.size+1) o';exact ⟨h0,m1.putObj (by omega) (fun h=>h.2.2 rfl) hl ho,m2.keep (hkp.mono fun b _ hb=>by omega),m3.keep (hkp.mono fun b _ hb=>by omega),by rw [World.putObj_size]; exact m4⟩
     case calm2 =>
      rintro k W o o' ⟨Ar,cr,h⟩ hl ho;exact ⟨Ar,cr,h.putObj (by omega) (fun h=>h.2.2 rfl) hl ho⟩
     case post =>
      rintro e9 W9 ⟨he,hj9,hb9,hr9⟩;exact ⟨he,⟨hj9,hr9⟩,_,hb9,HBT.o⟩
     case assign =>
      gi_wp2
      exact ⟨⟨HOT.o,HRA.o,HRB.o⟩,(Ext.refl _).others,ButS.of_ext (Ext.refl _)⟩
     case body =>
      rintro A0 Wm ⟨rfl,m1,m2,m3,m4⟩;have HOM:=Hd m1;have HROW1:=Hd (show ∀ w',Ext Wm w'→Row w' (fun b=>b<w7.heap.size∧b≠go) d B1 x from fun w' h=>m2.keep (h.kept _));have hyt:(y.take j).length=j:=(by rw [List.length_take]; omega);have HCY:=Hd (show ∀ w',Ext Wm w'→Calls Tryz.prog 36 #[.slice (some ⟨b2,o2,none⟩) j e2] w' (RetRow w' d (y.take j)) from fun w' h=>by
       have h1:=table_copied d (y.take j) (some ⟨b2,o2,none⟩) e2 w' _ (Row.takeJ (m3.keep (h.kept _)) j);rwa [hyt] at h1)
      have HROW2:=Hd m3;have HMZ:=Hd m4;have Q9:=Hd ((HB97.o.keep (m1.kept.mono fun b _ e=>by omega)).cell (i:=0) rfl);have c6:=m1.o.cell (i:=6) rfl;have c6l:=m1.o.lt;have hk100:((rows.length:Int)==100)=false:=(by simp; omega);have hj0':(0:Int)≤(j:Int):=(by omega);have hjy':(j:Int)≤(y.length:Int):=(by omega);have hje':(j:Int)≤(e2:Int):=(by omega);clear m1 m2 m3 m4
      gi_wp2
      refine wpIn_region_chain (by kernel_rfl) (by kernel_rfl) (fun | 5=>[1,5] | i=>[i]) (by kernel_rfl) (SR (fun γ w'=>γ≤3∧Ext Wm w')) (SR.refl _) (SR.trans _) (SN [100,1,100,100,100,2,3,100]) 0 (SN.zero (by decide)) ?_;apply Chain.pure (SR.refl _) (by rfl)
      ·intro vals γ w' ρ hR hN hp hρ hc hf hg;refine ⟨rfl,?_⟩;have e13:=hρ 13;(conv at e13=>rhs; whnf);clear hR hN hp hρ;go_light;go_simp;exact ⟨rfl,rfl⟩
      ·rfl
      refine Chain.step (FP fun v γ w'=>∃ (A3:Option Addr) (c3:Nat),v=.slice A3 x.length c3∧1≤γ∧(γ=1→OwnVs w' Wm.heap.size (fun b=>Wm.heap.size≤b) d A3 c3 x)) (by rfl) (FP.stab ?_) ?_ ?_
      ·rintro v γ w1 γ' w2 r ⟨x0,x1,h1,h3,h4⟩;have hle:=r.le;exact ⟨x0,x1,h1,by omega,fun e=>by rw [r.eq (by omega)]; exact h4 (by omega)⟩
      ·intro vals γ w' ρ hR hN hp hρ hc hf hg;refine ⟨rfl,?_⟩;have e85:ρ (.tmp 85)=_:=(hρ 85).trans (hp 0 (by decide));have hi:=hR.inv ⟨by omega,(Ext.refl _).drew⟩;have h0:γ=0:=(by have h:γ<1:=hN; omega);subst h0;have HX:=Hd hi.2;clear hR hN hp hρ hi;go_light;go_simp;refine (table_copied d x B1 e1 w' _ (HROW1.o w' HX.o)).mono ?_;rintro e' w3 ⟨A3,c3,he,ho3,hx3⟩;have hsz:=HX.o.size;exact ⟨_,he,1,SR.up (by omega) ⟨by omega,HX.o.trans hx3⟩,SN.up (by omega) (by decide) rfl,A3,c3,rfl,by omega,fun _=>(ho3.lower (by omega)).mono fun b _ hb=>by omega⟩
      apply Chain.pure (SR.refl _) (by rfl)
      ·intro vals γ w' ρ hR hN hp hρ hc hf hg;refine ⟨rfl,?_⟩;have e14:=hρ 14;(conv at e14=>rhs; whnf);clear hR hN hp hρ;go_light;go_simp;exact ⟨rfl,rfl⟩
      ·rfl
      apply Chain.pure (SR.refl _) (by rfl)
      ·intro vals γ w' ρ hR hN hp hρ hc hf hg;refine ⟨rfl,?_⟩;have e9:=hρ 9;(conv at e9=>rhs; whnf);have hi:=hR.inv ⟨by omega,(Ext.refl _).drew⟩;have q9:=hi.2.cell Q9.o;clear hi hR hN hp hρ;go_light;go_simp;exact ⟨rfl,rfl⟩
      ·rfl
      apply Chain.pure (SR.refl _) (by rfl)
      ·intro vals γ w' ρ hR hN hp hρ hc hf hg;refine ⟨rfl,?_⟩;have e87:ρ (.tmp 87)=_:=(hρ 87).trans (hp 2 (by decide));have e88:ρ (.tmp 88)=_:=(hρ 88).trans (hp 3 (by decide));clear hR hN hp hρ;go_light;go_simp;exact ⟨rfl,rfl⟩
      ·rfl
      refine Chain.step (fun vl γ w'=>match vl with | [v1,v]=>JnF5 Wm d x (y.take j) v1 v γ w' | _=>True) (by rfl) ?_ ?_ ?_
      ·intro l γ w1 γ' w2 r h
       match l,h with
       | [],_=>trivial
       | [_],_=>trivial
       | [_,_],h=>exact (by
        obtain ⟨x0,x1,x2,x3,h1,h2,h3,h4⟩:=h;have hle:=r.le;exact ⟨x0,x1,x2,x3,h1,h2,by omega,fun e=>by rw [r.eq (by omega)]; exact h4 (by omega)⟩)
       | _ :: _ :: _ :: _,_=>trivial
      ·intro vals γ w' ρ hR hN hp hρ hc hf hg;refine ⟨rfl,?_⟩;have hi:=hR.inv ⟨by omega,(Ext.refl _).drew⟩;have e89:ρ (.tmp 89)=_:=(hρ 89).trans (hp 4 (by decide));obtain ⟨A3,c3,hv1,hr1,ho1⟩:=hp 1 (by decide);have h0:γ=1:=(by have h:γ<2:=hN; omega);subst h0;have HX:=Hd hi.2;have HO1:=Hd (ho1 rfl);clear hR hN hp hρ hi ho1;go_light;go_simp;refine (HCY.o w' HX.o).mono ?_;rintro e' w3 ⟨A4,c4,he,ho4,hx4⟩;have hsz:=HX.o.size;exact ⟨_,he,2,SR.up (by omega) ⟨by omega,HX.o.trans hx4⟩,SN.up (by omega) (by decide) rfl,A3,c3,A4,c4,hv1,rfl,by omega,fun _=>⟨HO1.o.ext hx4,(ho4.row (T:=fun b=>w'.heap.size≤b) (by have:=HYL.o; rw [List.length_take]; omega) (fun b hb=>(ho4.blk hb).1) (fun b hb=>hb)).mono fun b _ hb=>⟨fun e=>by have:=(HO1.o.blk e).2; omega,by omega⟩⟩⟩
      refine Chain.step (FP fun v γ w'=>JnF6 Wm d (x++y.take j) v γ w') (by rfl) (FP.stab ?_) ?_ ?_
      ·rintro v γ w1 γ' w2 r ⟨x0,x1,h1,h3,h4⟩;have hle:=r.le;exact ⟨x0,x1,h1,by omega,fun e=>by rw [r.eq (by omega)]; exact h4 (by omega)⟩
      ·intro vals γ w' ρ hR hN hp hρ hc hf hg;refine ⟨rfl,?_⟩;have hi:=hR.inv ⟨by omega,(Ext.refl _).drew⟩;obtain ⟨A3,c3,A4,c4,hv1,hv5,hr5,ho5⟩:=hp 5 (by decide);have e86:=(hρ 86).trans hv1;have e90:=(hρ 90).trans hv5;have h0:γ=2:=(by have h:γ<3:=hN; omega);subst h0;obtain ⟨ho1,hrow4⟩:=ho5 rfl;obtain ⟨xs,how,hvl⟩:=ho1;obtain ⟨hl4,ys,hrd,hvl2⟩:=hrow4;have hsz:=hi.2.size;have hyl:=HYL.o;have hxl:=HXL.o;refine lin_app (.tmp 86) (.tmp 90) rfl tiV e86 how e90 hrd hvl2.1 (VL.one hvl2) (by omega) (by decide) hsz ?_;intro A5 c5 w4 hown4 hg4 hat4;have hva:=OwnVs.app hvl hvl2 hown4 hg4 hat4;exact ⟨3,SR.up (by omega) ⟨by omega,hi.2.grown hg4 fun k hk=>(how.blk hk).1⟩,SN.up (by omega) (by decide) rfl,A5,c5,(by show Value.slice A5 (x.length+(y.take j).length) c5=_; rw [List.length_append]),by omega,fun _=>hva⟩
      refine Chain.step (FP fun v γ w'=>JnF6 Wm d (x++y.take j) v γ w') (by rfl) (FP.stab ?_) ?_ ?_
      ·rintro v γ w1 γ' w2 r ⟨x0,x1,h1,h3,h4⟩;have hle:=r.le;exact ⟨x0,x1,h1,by omega,fun e=>by rw [r.eq (by omega)]; exact h4 (by omega)⟩
      ·intro vals γ w' ρ hR hN hp hρ hc hf hg;refine ⟨rfl,?_⟩;have hg:=hp 6 (by decide);have e91:=hρ 91;(conv at e91=>rhs; whnf);have HG:=Hd hg;clear hR hN hp hρ hg;go_light;go_simp;exact ⟨γ,SR.refl _ _ _,fun _ _ _ h=>h,HG.o⟩
      intro vals γ w9 hR hG;have v0:vals 0=_:=hG 0 (by decide);have v2:vals 2=_:=hG 2 (by decide);have v3:vals 3=_:=hG 3 (by decide);have v4:vals 4=_:=hG 4 (by decide);obtain ⟨A5,c5,v7,hr7,ho7⟩:=hG 7 (by decide);have hi7:=hR.inv ⟨by omega,(Ext.refl _).drew⟩;have ho5:=ho7 (by have:=hi7.1; omega);obtain ⟨Wn,hWn⟩:∃ z:World,z=w9:=⟨_,rfl⟩;have hxn:=hi7.2;simp only [lexFrame,Act.put,List.setIfInBounds_toArray,List.set_cons_succ,List.set_cons_zero,Nat.zero_add,Nat.reduceAdd,v0,v2,v3,v4,v7];generalize vals 1=z1,vals 5=z5,vals 6=z6;rw [← hWn] at hxn ho5 ⊢;have HO5:=Hd ho5;have HXN:=Hd hxn;clear hR hG hi7 v0 v2 v3 v4 v7 hr7 ho7 hxn ho5 hWn;obtain ⟨r,er⟩:∃ r,r=joinRow x y j:=⟨_,rfl⟩;rw [← er] at HSN;have HRE:=Hd (show r=(x++y.take j)++y.drop (j+1) from er);have HRL:=Hd (show r.length=x.length+j+(y.length-(j+1)) by rw [HRE.o,List.length_append,List.length_append,hyt,List.length_drop]);have HR1L:=Hd (show (x++y.take j).length=x.length+j by rw [List.length_append,hyt]);have HRO:=Hd (show ∀ t:Nat,ob Ar=some t→w7.heap.size≤t∧t<Wm.heap.size from fun t ht=>HOM.o.rows.blk ht);have HB9m:=Hd (HB97.o.keep (HOM.o.kept.mono fun b _ e=>by omega));clear er c6 c6l Q9;obtain ⟨A7,hA7⟩:∃ A7:Option Addr,A7=if e2=j+1 then some ⟨b2,o2,none⟩ else some ⟨b2,o2+(j+1)*7,none⟩:=⟨_,rfl⟩;have HA7:=Hd hA7;have HCZ:=Hd (show ∀ w',Ext Wm w'→Calls Tryz.prog 36 #[.slice (if e2=j+1 then some ⟨b2,o2,none⟩ else some ⟨b2,o2+(j+1)*7,none⟩) (y.length-(j+1)) (e2-(j+1))] w' (RetRow w' d (y.drop (j+1))) from fun w' h=>by
       rw [← hA7];have h1:=table_copied d (y.drop (j+1)) A7 (e2-(j+1)) w' _ (Row.dropJ (HROW2.o.keep (h.kept _)) fun hn=>by rw [hA7,if_neg (by omega)]);rwa [List.length_drop] at h1)
      clear hA7 HA7;have hjw:IntKind.i64.wrap ((j:Int)+1)=(j:Int)+1:=IntWalk.i64_in _ (by have:=HYL.o; omega);have hjp0:(0:Int)≤(j:Int)+1:=(by omega);have hjp1:(j:Int)+1≤(y.length:Int):=(by omega);have hjp2:((j:Int)+1).toNat=j+1:=(by omega);have HRK:=Hd hrl;have hwm:w7.heap.size+2≤Wm.heap.size:=(by have:=HW2.o; have:=HMZ.o; omega);clear hrl
      gi_wp2
      refine wpIn_region_chain (by kernel_rfl) (by kernel_rfl) (fun i=>[i]) (by kernel_rfl) (SR (fun γ w'=>γ≤5∧(γ≤1→Ext Wn w')∧(γ≤3→Ext Wm w')∧ButS (fun b=>ob Ar=some b∨b=go) Wm w')) (SR.refl _) (SR.trans _) (SN [100,4,100,100,5,100,100,1,2,3,4,100,5]) 0 (SN.zero (by decide)) ?_;apply Chain.pure (SR.refl _) (by rfl)
      ·intro vals γ w' ρ hR hN hp hρ hc hf hg;refine ⟨rfl,?_⟩;have e10:=hρ 10;(conv at e10=>rhs; whnf);clear hR hN hp hρ;go_light;go_simp;exact ⟨rfl,rfl⟩
      ·rfl
      apply Chain.pure (SR.refl _) (by rfl)
      ·intro vals γ w' ρ hR hN hp hρ hc hf hg;refine ⟨rfl,?_⟩;have e92:ρ (.tmp 92)=_:=(hρ 92).trans (hp 0 (by decide));have hi:=hR.inv ⟨by omega,fun _=>(Ext.refl _).drew,fun _=>HXN.o.drew,ButS.of_ext HXN.o.drew⟩;have hh:=(HOM.o.more (hi.2.2.1 (by have h:γ<4:=hN; omega))).o;have k6:=hh.cell (i:=6) rfl;clear hi hh hR hN hp hρ;go_light;go_simp;exact ⟨rfl,rfl⟩
      ·rfl
      apply Chain.pure (SR.refl _) (by rfl)
      ·intro vals γ w' ρ hR hN hp hρ hc hf hg;refine ⟨rfl,?_⟩;have e15:=hρ 15;(conv at e15=>rhs; whnf);clear hR hN hp hρ;go_light;go_simp;exact ⟨rfl,rfl⟩
      ·rfl
      apply Chain.pure (SR.refl _) (by rfl)
      ·intro vals γ w' ρ hR hN hp hρ hc hf hg;refine ⟨rfl,?_⟩;have e14:=hρ 14;(conv at e14=>rhs; whnf);clear hR hN hp hρ;go_light;go_simp;exact ⟨rfl,rfl⟩
      ·rfl
      apply Chain.pure (SR.refl _) (by rfl)
      ·intro vals γ w' ρ hR hN hp hρ hc hf hg;refine ⟨rfl,?_⟩;have e9:=hρ 9;(conv at e9=>rhs; whnf);have hi:=hR.inv ⟨by omega,fun _=>(Ext.refl _).drew,fun _=>HXN.o.drew,ButS.of_ext HXN.o.drew⟩;have k9:=(hi.2.2.2.blk HB9m.o (fun h=>by have h1:=HRO.o; rcases h with h | h; exact absurd (h1 _ h) (by omega); omega)).cell (i:=0) rfl;clear hi hR hN hp hρ;go_light;go_simp;exact ⟨rfl,rfl⟩
      ·rfl
      apply Chain.pure (SR.refl _) (by rfl)
      ·intro vals γ w' ρ hR hN hp hρ hc hf hg;refine ⟨rfl,?_⟩;have e96:ρ (.tmp 96)=_:=(hρ 96).trans (hp 4 (by decide));clear hR hN hp hρ;go_light;go_simp;exact ⟨rfl,rfl⟩
      ·rfl
      apply Chain.pure (SR.refl _) (by rfl)
      ·intro vals γ w' ρ hR hN hp hρ hc hf hg;refine ⟨rfl,?_⟩;have e95:ρ (.tmp 95)=_:=(hρ 95).trans (hp 3 (by decide));have e97:ρ (.tmp 97)=_:=(hρ 97).trans (hp 5 (by decide));clear hR hN hp hρ;go_light;go_simp;exact ⟨rfl,rfl⟩
      ·rfl
      refine Chain.step (FP fun v γ w'=>JnG7 Wm A5 d (y.drop (j+1)) v γ w') (by rfl) (FP.stab ?_) ?_ ?_
      ·rintro v γ w1 γ' w2 r ⟨x0,x1,h1,h3,h4⟩;have hle:=r.le;exact ⟨x0,x1,h1,by omega,fun e=>by rw [r.eq (by omega)]; exact h4 (by omega)⟩
      ·intro vals γ w' ρ hR hN hp hρ hc hf hg;refine ⟨rfl,?_⟩;have e98:ρ (.tmp 98)=_:=(hρ 98).trans (hp 6 (by decide));have hi:=hR.inv ⟨by omega,fun _=>(Ext.refl _).drew,fun _=>HXN.o.drew,ButS.of_ext HXN.o.drew⟩;have h0:γ=0:=(by have h:γ<1:=hN; omega);subst h0;have HXM:=Hd (hi.2.2.1 (by omega));have HXX:=Hd (hi.2.1 (by omega));clear hR hN hp hρ hi;go_light;go_simp;refine (HCZ.o w' HXM.o).mono ?_;rintro e' w3 ⟨A3,c3,he,ho3,hx3⟩;have hsz:=HXM.o.size;have hsz2:=HXX.o.size;exact ⟨_,he,1,SR.up (by omega) ⟨by omega,fun _=>HXX.o.trans hx3,fun _=>HXM.o.trans hx3,ButS.of_ext (HXM.o.trans hx3)⟩,SN.up (by omega) (by decide) rfl,A3,c3,rfl,by omega,fun _=>(ho3.row (T:=fun b=>w'.heap.size≤b) (by have:=HYL.o; rw [List.length_drop]; omega) (fun b hb=>(ho3.blk hb).1) (fun b hb=>hb)).mono fun b _ hb=>⟨fun e=>by have:=(HO5.o.blk e).2; omega,by omega⟩⟩
      refine Chain.step (FP fun v γ w'=>JnG8 (fun b=>w.heap.size+4≤b∧b≠w7.heap.size∧b≠w7.heap.size+1) Ar go d r v γ w') (by rfl) (FP.stab ?_) ?_ ?_
      ·rintro v γ w1 γ' w2 r ⟨x0,x1,h1,h3,h4⟩;have hle:=r.le;exact ⟨x0,x1,h1,by omega,fun e=>by rw [r.eq (by omega)]; exact h4 (by omega)⟩
      ·intro vals γ w' ρ hR hN hp hρ hc hf hg;refine ⟨rfl,?_⟩;have e94:ρ (.tmp 94)=_:=(hρ 94).trans (hp 2 (by decide));have hi:=hR.inv ⟨by omega,fun _=>(Ext.refl _).drew,fun _=>HXN.o.drew,ButS.of_ext HXN.o.drew⟩;obtain ⟨A3,c3,hv7,hr7,hrow7⟩:=hp 7 (by decide);have e94:ρ (.tmp 94)=_:=(hρ 94).trans (hp 2 (by decide));have e99:=(hρ 99).trans hv7;have h0:γ=1:=(by have h:γ<2:=hN; omega);subst h0;obtain ⟨hl4,ys,hrd,hvl2⟩:=hrow7 rfl;have hxn:=hi.2.1 (by omega);have hxm:=hi.2.2.1 (by omega);obtain ⟨xs,how,hvl⟩:=HO5.o.ext hxn;have hsz:=hxm.size;have hyl:=HYL.o;have hxl:=HXL.o;have hrr:=HR1L.o;have hro:=HRO.o;rw [HR1L.o] at how;refine lin_app (.tmp 94) (.tmp 99) rfl tiV e94 how e99 hrd hvl2.1 (VL.one hvl2) (by rw [List.length_drop]; omega) (by decide) hsz ?_;intro A6 c6 w4 hown4 hg4 hat4;rw [← HR1L.o] at hown4;have hva:=OwnVs.app hvl hvl2 hown4 hg4 hat4;rw [← HRE.o] at hva;obtain ⟨xs6,how6,hvl6⟩:=hva;have hvb:OwnVs w4 Wm.heap.size (fun b=>Wm.heap.size≤b) d A6 c6 r:=⟨xs6,how6,hvl6⟩;exact ⟨2,SR.up (by omega) ⟨by omega,fun h=>absurd h (by omega),fun _=>hxm.grown hg4 fun k hk=>(how.blk hk).1,ButS.of_ext (hxm.grown hg4 fun k hk=>(how.blk hk).1)⟩,SN.up (by omega) (by decide) rfl,A6,c6,(by show Value.slice A6 (x.length+j+(y.drop (j+1)).length) c6=_; rw [show r.length=x.length+j+(y.drop (j+1)).length by rw [HRE.o,List.length_append,HR1L.o]]),by omega,fun _=>⟨(hvb.row (T:=fun b=>Wm.heap.size≤b) (by rw [HRL.o]; have:=HX8.o; omega) (fun b hb=>(hvb.blk hb).1) (fun b hb=>hb)).mono fun b _ hb=>⟨fun e=>by have:=hro _ e; omega,⟨by omega,by omega,by omega⟩,by omega⟩,how6.cap⟩⟩
      refine Chain.step (FP fun v γ w'=>JnG9 (fun b=>w.heap.size+4≤b∧b≠w7.heap.size∧b≠w7.heap.size+1) Ar go d r v γ w') (by rfl) (FP.stab ?_) ?_ ?_
      ·rintro v γ w1 γ' w2 r ⟨x0,x1,x2,h1,h3,h4⟩;have hle:=r.le;exact ⟨x0,x1,x2,h1,by omega,fun e=>by rw [r.eq (by omega)]; exact h4 (by omega)⟩
      ·intro vals γ w' ρ hR hN hp hρ hc hf hg;refine ⟨rfl,?_⟩;have hi:=hR.inv ⟨by omega,fun _=>(Ext.refl _).drew,fun _=>HXN.o.drew,ButS.of_ext HXN.o.drew⟩;obtain ⟨A3,c3,hv8,hr8,hrow8⟩:=hp 8 (by decide);have e100:=(hρ 100).trans hv8;have h0:γ=2:=(by have h:γ<3:=hN; omega);subst h0;have HXM:=Hd (hi.2.2.1 (by omega));have HRW:=Hd (hrow8 rfl);clear hR hN hp hρ hi hv8 hrow8;go_light;go_simp;have hx1:Ext w' (w'.alloc (.cells #[.slice A3 r.length c3] 50)):=(Ext.refl _).alloc _;have hF:JnG9 (fun b=>w.heap.size+4≤b∧b≠w7.heap.size∧b≠w7.heap.size+1) Ar go d r (.slice (some ⟨w'.heap.size,0,none⟩) 1 1) 3 (w'.alloc (.cells #[.slice A3 r.length c3] 50)):=⟨_,A3,c3,rfl,by omega,fun _=>⟨Blk.new _ _ _,HRW.o.1.keep (hx1.kept _),HRW.o.2⟩⟩;exact ⟨3,SR.up (by omega) ⟨by omega,fun h=>absurd h (by omega),fun _=>HXM.o.trans hx1,ButS.of_ext (HXM.o.trans hx1)⟩,SN.up (by omega) (by decide) rfl,hF⟩
      refine Chain.step (FP fun v γ w'=>JnG10 (fun A4 c4 w'=>OutTA w w7 w7.heap.size (fun b=>w.heap.size+4≤b∧b≠w7.heap.size∧b≠w7.heap.size+1) d go Ac cc cs A4 c4 (rows++[r]) w') (rows.length+1) v γ w') (by rfl) (FP.stab ?_) ?_ ?_
      ·rintro v γ w1 γ' w2 r ⟨x0,x1,h1,h3,h4⟩;have hle:=r.le;exact ⟨x0,x1,h1,by omega,fun e=>by rw [r.eq (by omega)]; exact h4 (by omega)⟩
      ·intro vals γ w' ρ hR hN hp hρ hc hf hg;refine ⟨rfl,?_⟩;have e93:ρ (.tmp 93)=_:=(hρ 93).trans (hp 1 (by decide));have hi:=hR.inv ⟨by omega,fun _=>(Ext.refl _).drew,fun _=>HXN.o.drew,ButS.of_ext HXN.o.drew⟩;obtain ⟨g9',A3,c3,hv9,hr9,hbk⟩:=hp 9 (by decide);have e101:=(hρ 101).trans hv9;have e93:ρ (.tmp 93)=_:=(hρ 93).trans (hp 1 (by decide));have h0:γ=3:=(by have h:γ<4:=hN; omega);subst h0;obtain ⟨hbk1,hbk2,hbk3⟩:=hbk rfl;have hxm:=hi.2.2.1 (by omega);have hot:=HOM.o.more hxm;obtain ⟨hs,ho1,hv1⟩:=hot.rows;refine lin_app (.tmp 93) (.tmp 101) rfl tiR e93 ho1 e101 hbk1.rd rfl (by simp [Value.oneCell']) (by have:=HRK.o; omega) (by decide) hot.golo.2.2 ?_;intro A4 c4 w4 hown4 hg4 hat4;have hota:=hot.app ho1 hv1 hbk3 hbk2 hown4 hg4 hat4;exact ⟨4,SR.up (by omega) ⟨by omega,fun h=>absurd h (by omega),fun h=>absurd h (by omega),hi.2.2.2.grown hg4 fun k hk=>.inl (.inl hk)⟩,SN.up (by omega) (by decide) rfl,A4,c4,rfl,by omega,fun _=>hota⟩
      apply Chain.pure (SR.refl _) (by rfl)
      ·intro vals γ w' ρ hR hN hp hρ hc hf hg;refine ⟨rfl,?_⟩;have e10:=hρ 10;(conv at e10=>rhs; whnf);clear hR hN hp hρ;go_light;go_simp;exact ⟨rfl,rfl⟩
      ·rfl
      refine Chain.step (FP fun v γ w'=>JnG12 (fun w'=>∃ (A4:Option Addr) (c4:Nat),OutT w w7 w7.heap.size (fun b=>w.heap.size+4≤b∧b≠w7.heap.size∧b≠w7.heap.size+1) d go Ac cc cs A4 c4 (rows++[r]) w') γ w') (by rfl) (FP.stab ?_) ?_ ?_
      ·rintro v γ w1 γ' w2 r ⟨h3,h4⟩;have hle:=r.le;exact ⟨by omega,fun e=>by rw [r.eq (by omega)]; exact h4 (by omega)⟩
      ·intro vals γ w' ρ hR hN hp hρ hc hf hg;refine ⟨rfl,?_⟩;have e103:ρ (.tmp 103)=_:=(hρ 103).trans (hp 11 (by decide));have hi:=hR.inv ⟨by omega,fun _=>(Ext.refl _).drew,fun _=>HXN.o.drew,ButS.of_ext HXN.o.drew⟩;obtain ⟨A4,c4,g10,hr10,hda⟩:=hp 10 (by decide);have e102:=(hρ 102).trans g10;have e103:ρ (.tmp 103)=_:=(hρ 103).trans (hp 11 (by decide));have h0:γ=4:=(by have h:γ<5:=hN; omega);subst h0;have HA:=Hd (hda rfl);have HBS:=Hd hi.2.2.2;obtain ⟨yy,hy⟩:=(hda rfl).o;have k0:=hy.cell (i:=6) rfl;have kf:=hy.frozen;have kz:=hy.lt;clear hR hN hp hρ hi g10 hda hy;go_light;go_simp;have hs:=HA.o.store;rw [List.length_append,List.length_singleton] at hs;have hF:JnG12 (fun w'=>∃ (A4:Option Addr) (c4:Nat),OutT w w7 w7.heap.size (fun b=>w.heap.size+4≤b∧b≠w7.heap.size∧b≠w7.heap.size+1) d go Ac cc cs A4 c4 (rows++[r]) w') 5 (w'.setCell ⟨go,6,none⟩ (.slice A4 (rows.length+1) c4)):=⟨by omega,fun _=>⟨A4,c4,hs⟩⟩;exact ⟨5,SR.up (by omega) ⟨by omega,fun h=>absurd h (by omega),fun h=>absurd h (by omega),HBS.o.set (.inl (.inr rfl))⟩,SN.up (by omega) (by decide) rfl,hF⟩
      intro vals γ w9 hR hG;have v0:vals 0=_:=hG 0 (by decide);have v1:vals 1=_:=hG 1 (by decide);have v2:vals 2=_:=hG 2 (by decide);have v3:vals 3=_:=hG 3 (by decide);have v4:vals 4=_:=hG 4 (by decide);have v5:vals 5=_:=hG 5 (by decide);have v6:vals 6=_:=hG 6 (by decide);have v11:vals 11=_:=hG 11 (by decide);have hi12:=hR.inv ⟨by omega,fun _=>(Ext.refl _).drew,fun _=>HXN.o.drew,ButS.of_ext HXN.o.drew⟩;obtain ⟨hr12,ho12⟩:=hG 12 (by decide);have ho12:=ho12 (by have:=hi12.1; omega);obtain ⟨A9,c9,ho9⟩:=ho12;have hbs:=hi12.2.2.2;simp only [lexFrame,Act.put,List.setIfInBounds_toArray,List.set_cons_succ,List.set_cons_zero,Nat.zero_add,Nat.reduceAdd,v0,v1,v2,v3,v4,v5,v6,v11];clear hR hG
      gi_wp2
      have hko:KeepsOthers Wm w9:=?keep
      ·first
        | exact ⟨hko,A9,c9,by rw [HSN.o]; exact ho9⟩
        | exact ⟨hko,⟨A9,c9,by rw [HSN.o]; exact ho9⟩,hbs⟩
        | exact ⟨hko,A9,⟨c9,by rw [HSN.o]; exact ho9⟩,hbs⟩
        | exact ⟨hko,A9,c9,by rw [HSN.o]; exact ho9,hbs⟩
      refine ⟨hbs.size,fun t o ht ho => ?_⟩;refine (hbs.block t (Array.getElem?_eq_some_iff.1 ht).1 fun hx => ?_).trans ht;have hcell:∃ ty cs9,Blk Wm t ty cs9:=by
       rcases hx with hx | rfl
       ·obtain ⟨hs,how,-⟩:=HOM.o.rows;exact ⟨_,how.blkB hx⟩
       ·exact ⟨_,_,HOM.o.o⟩
      obtain ⟨ty,cs9,h5⟩:=hcell;unfold Blk at h5;rw [h5] at ht;injection ht with ht;subst ht;cases ho

def withoutS (l:List Val) (k:Nat):List Val:=l.take k++l.drop (k+1)
def JwF (w:World) (S:Nat→Prop) (n d:Nat) (l:List Val) (v:Value) (γ:Nat) (w':World):Prop:=∃ (A3:Option Addr) (c3:Nat),v=.slice A3 l.length c3∧n≤γ∧(γ=n→OwnVs w' w.heap.size (fun b=>b<w.heap.size∧S b) d A3 c3 l)
def RetWo (w:World) (S:Nat→Prop) (d:Nat) (l:List Val) (e:Ending) (w':World):Prop:=∃ A c,e=.returned (.slice A l.length c)∧OwnVs w' w.heap.size (fun b=>b<w.heap.size∧S b) d A c l∧Ext w w'
theorem r09_without (d:Nat) (l:List Val) (k:Nat) (A:Option Addr) (c:Nat) (w:World) (S:Nat→Prop) (h:Row w S d A l) (hc:l.length≤c) (hk:k<l.length):Calls Tryz.prog 40 #[.slice A l.length c,.int .i64 (k:Int)] w (RetWo w S d (withoutS l k)):=by
 have hrow:=h.mono (T:=fun b=>b<w.heap.size∧S b) fun i hi hs=>⟨hi,hs⟩;have HLL:=Hd (show l.length≤4294967296 from h.len);obtain ⟨b2,o2,_,_,_,_,hA,-⟩:=h.at_ hk;subst hA;clear h;have HTK:=Hd (show ∀ w',Ext w w'→Row w' (fun b=>b<w.heap.size∧S b) d (some ⟨b2,o2,none⟩) (l.take k) from fun w' hx=>Row.takeJ (hrow.keep (hx.kept _)) k);have HDR:=Hd (show ∀ w',Ext w w'→Row w' (fun b=>b<w.heap.size∧S b) d (if c=k+1 then some ⟨b2,o2,none⟩ else some ⟨b2,o2+(k+1)*7,none⟩) (l.drop (k+1)) from fun w' hx=>Row.dropJ (hrow.keep (hx.kept _)) fun hn=>by rw [if_neg (by omega)]);clear hrow;have hk0:(0:Int)≤(k:Int):=(by omega);have hk1:(k:Int)≤(l.length:Int):=(by omega);have hk2:(k:Int)≤(c:Int):=(by omega);have hjw:IntKind.i64.wrap ((k:Int)+1)=(k:Int)+1:=IntWalk.i64_in _ (by have:=HLL.o; omega);have hjp0:(0:Int)≤(k:Int)+1:=(by omega);have hjp1:(k:Int)+1≤(l.length:Int):=(by omega);have hjp2:((k:Int)+1).toNat=k+1:=(by omega)
 go_enter Tryz.func40,Tryz.ntmps40
 go_upto_region 1 with fail
 refine wp_region_chain (by kernel_rfl) (fun i=>[i]) (by kernel_rfl) (SR (fun γ w'=>γ≤3∧Ext w w')) (SR.refl _) (SR.trans _) (SN [1,100,100,100,2,100,100,100,100,3,100]) 0 (SN.zero (by decide)) ?_;refine Chain.step (FP fun v γ w'=>JwF w S 1 d [] v γ w') (by rfl) (FP.stab ?_) ?_ ?_
 ·rintro v γ w1 γ' w2 r ⟨x0,x1,h1,h3,h4⟩;have hle:=r.le;exact ⟨x0,x1,h1,by omega,fun e=>by rw [r.eq (by omega)]; exact h4 (by omega)⟩
 ·intro vals γ w' ρ hR hN hp hρ hc hf hg;refine ⟨rfl,?_⟩;have hi:=hR.inv ⟨by omega,(Ext.refl _).drew⟩;have h0:γ=0:=(by have h:γ<1:=hN; omega);subst h0;have HX:=Hd hi.2;clear hR hN hp hρ hi;go_light;go_simp;have hx1:Ext w' (w'.alloc (.cells #[] 31)):=(Ext.refl _).alloc _;have hF:JwF w S 1 d [] (.slice (some ⟨w'.heap.size,0,none⟩) 0 0) 1 (w'.alloc (.cells #[] 31)):=⟨_,_,rfl,by omega,fun _=>⟨[],Own.lower (show Own (w'.alloc (.cells #[] 31)) w'.heap.size 31 7 (some ⟨w'.heap.size,0,none⟩) 0 0 [] from World.ownsRow_made w' #[] 0 (Nat.le_refl _) (by unfold maxLen; omega) rfl) HX.o.size,VL.nil _⟩⟩;exact ⟨1,SR.up (by omega) ⟨by omega,HX.o.trans hx1⟩,SN.up (by omega) (by decide) rfl,hF⟩
 apply Chain.pure (SR.refl _) (by rfl)
 ·intro vals γ w' ρ hR hN hp hρ hc hf hg;refine ⟨rfl,?_⟩;have e0:=hρ 0;(conv at e0=>rhs; whnf);clear hR hN hp hρ;go_light;go_simp;exact ⟨rfl,rfl⟩
 ·rfl
 apply Chain.pure (SR.refl _) (by rfl)
 ·intro vals γ w' ρ hR hN hp hρ hc hf hg;refine ⟨rfl,?_⟩;have e1:=hρ 1;(conv at e1=>rhs; whnf);clear hR hN hp hρ;go_light;go_simp;exact ⟨rfl,rfl⟩
 ·rfl
 apply Chain.pure (SR.refl _) (by rfl)
 ·intro vals γ w' ρ hR hN hp hρ hc hf hg;refine ⟨rfl,?_⟩;have e6:ρ (.tmp 6)=_:=(hρ 6).trans (hp 1 (by decide));have e7:ρ (.tmp 7)=_:=(hρ 7).trans (hp 2 (by decide));clear hR hN hp hρ;go_light;go_simp;exact ⟨rfl,rfl⟩
 ·rfl
 refine Chain.step (FP fun v γ w'=>JwF w S 2 d ([]++l.take k) v γ w') (by rfl) (FP.stab ?_) ?_ ?_
 ·rintro v γ w1 γ' w2 r ⟨x0,x1,h1,h3,h4⟩;have hle:=r.le;exact ⟨x0,x1,h1,by omega,fun e=>by rw [r.eq (by omega)]; exact h4 (by omega)⟩
 ·intro vals γ w' ρ hR hN hp hρ hc hf hg;refine ⟨rfl,?_⟩;have hi:=hR.inv ⟨by omega,(Ext.refl _).drew⟩;have e8:ρ (.tmp 8)=_:=(hρ 8).trans (hp 3 (by decide));rw [show k=(l.take k).length by rw [List.length_take]; omega] at e8;obtain ⟨A3,c3,hv,hr1,ho1⟩:=hp 0 (by decide);have e5:=(hρ 5).trans hv;have h0:γ=1:=(by have h:γ<2:=hN; omega);subst h0;have ho:=ho1 rfl;obtain ⟨xs,how,hvl⟩:=ho;obtain ⟨hl4,ys,hrd,hvl2⟩:=HTK.o w' hi.2;have hsz:=hi.2.size;have hll:=HLL.o;refine lin_app (.tmp 5) (.tmp 8) rfl tiV e5 how e8 hrd (m:=(l.take k).length) hvl2.1 (VL.one hvl2) (by simp; omega) (by decide) hsz ?_;intro A5 c5 w4 hown4 hg4 hat4;have hvl3:VL (CV w' (fun b=>b<w.heap.size∧S b) d) ys (l.take k):=hvl2;have hva:=OwnVs.app hvl (hvl3.imp fun _ _ hh=>hh.mono fun b _ hb=>⟨fun e=>by have:=(how.blk e).1; have:=hb.1; omega,hb⟩) hown4 hg4 hat4;exact ⟨2,SR.up (by omega) ⟨by omega,hi.2.grown hg4 fun k hk=>(how.blk hk).1⟩,SN.up (by omega) (by decide) rfl,A5,c5,(by show Value.slice A5 (_+_) c5=_; simp only [List.length_append]),by omega,fun _=>hva⟩
 apply Chain.pure (SR.refl _) (by rfl)
 ·intro vals γ w' ρ hR hN hp hρ hc hf hg;refine ⟨rfl,?_⟩;have e0:=hρ 0;(conv at e0=>rhs; whnf);clear hR hN hp hρ;go_light;go_simp;exact ⟨rfl,rfl⟩
 ·rfl
 apply Chain.pure (SR.refl _) (by rfl)
 ·intro vals γ w' ρ hR hN hp hρ hc hf hg;refine ⟨rfl,?_⟩;have e1:=hρ 1;(conv at e1=>rhs; whnf);clear hR hN hp hρ;go_light;go_simp;exact ⟨rfl,rfl⟩
 ·rfl
 apply Chain.pure (SR.refl _) (by rfl)
 ·intro vals γ w' ρ hR hN hp hρ hc hf hg;refine ⟨rfl,?_⟩;have e11:ρ (.tmp 11)=_:=(hρ 11).trans (hp 6 (by decide));clear hR hN hp hρ;go_light;go_simp;exact ⟨rfl,rfl⟩
 ·rfl
 apply Chain.pure (SR.refl _) (by rfl)
 ·intro vals γ w' ρ hR hN hp hρ hc hf hg;refine ⟨rfl,?_⟩;have e10:ρ (.tmp 10)=_:=(hρ 10).trans (hp 5 (by decide));have e12:ρ (.tmp 12)=_:=(hρ 12).trans (hp 7 (by decide));clear hR hN hp hρ;go_light;go_simp;exact ⟨rfl,rfl⟩
 ·rfl
 refine Chain.step (FP fun v γ w'=>JwF w S 3 d ([]++l.take k++l.drop (k+1)) v γ w') (by rfl) (FP.stab ?_) ?_ ?_
 ·rintro v γ w1 γ' w2 r ⟨x0,x1,h1,h3,h4⟩;have hle:=r.le;exact ⟨x0,x1,h1,by omega,fun e=>by rw [r.eq (by omega)]; exact h4 (by omega)⟩
 ·intro vals γ w' ρ hR hN hp hρ hc hf hg;refine ⟨rfl,?_⟩;have hi:=hR.inv ⟨by omega,(Ext.refl _).drew⟩;have e13:ρ (.tmp 13)=_:=(hρ 13).trans (hp 8 (by decide));rw [show l.length-(k+1)=(l.drop (k+1)).length by rw [List.length_drop]] at e13;obtain ⟨A3,c3,hv,hr1,ho1⟩:=hp 4 (by decide);have e9:=(hρ 9).trans hv;have h0:γ=2:=(by have h:γ<3:=hN; omega);subst h0;have ho:=ho1 rfl;obtain ⟨xs,how,hvl⟩:=ho;obtain ⟨hl4,ys,hrd,hvl2⟩:=HDR.o w' hi.2;have hsz:=hi.2.size;have hll:=HLL.o;refine lin_app (.tmp 9) (.tmp 13) rfl tiV e9 how e13 hrd (m:=(l.drop (k+1)).length) hvl2.1 (VL.one hvl2) (by simp; omega) (by decide) hsz ?_;intro A5 c5 w4 hown4 hg4 hat4;have hvl3:VL (CV w' (fun b=>b<w.heap.size∧S b) d) ys (l.drop (k+1)):=hvl2;have hva:=OwnVs.app hvl (hvl3.imp fun _ _ hh=>hh.mono fun b _ hb=>⟨fun e=>by have:=(how.blk e).1; have:=hb.1; omega,hb⟩) hown4 hg4 hat4;exact ⟨3,SR.up (by omega) ⟨by omega,hi.2.grown hg4 fun k hk=>(how.blk hk).1⟩,SN.up (by omega) (by decide) rfl,A5,c5,(by show Value.slice A5 (_+_) c5=_; simp only [List.length_append]),by omega,fun _=>hva⟩
 refine Chain.step (FP fun v γ w'=>JwF w S 3 d ([]++l.take k++l.drop (k+1)) v γ w') (by rfl) (FP.stab ?_) ?_ ?_
 ·rintro v γ w1 γ' w2 r ⟨x0,x1,h1,h3,h4⟩;have hle:=r.le;exact ⟨x0,x1,h1,by omega,fun e=>by rw [r.eq (by omega)]; exact h4 (by omega)⟩
 ·intro vals γ w' ρ hR hN hp hρ hc hf hg;refine ⟨rfl,?_⟩;have hg:=hp 9 (by decide);have e14:=hρ 14;(conv at e14=>rhs; whnf);have HG:=Hd hg;clear hR hN hp hρ hg;go_light;go_simp;exact ⟨γ,SR.refl _ _ _,fun _ _ _ h=>h,HG.o⟩
 intro vals γ w9 hR hG;have v1:vals 1=_:=hG 1 (by decide);have v2:vals 2=_:=hG 2 (by decide);have v3:vals 3=_:=hG 3 (by decide);have v5:vals 5=_:=hG 5 (by decide);have v6:vals 6=_:=hG 6 (by decide);have v7:vals 7=_:=hG 7 (by decide);have v8:vals 8=_:=hG 8 (by decide);obtain ⟨A5,c5,v10,hr10,ho10⟩:=hG 10 (by decide);have hi:=hR.inv ⟨by omega,(Ext.refl _).drew⟩;have ho:=ho10 (by have:=hi.1; omega);have hx:=hi.2;simp only [lexFrame,Act.put,List.setIfInBounds_toArray,List.set_cons_succ,List.set_cons_zero,Nat.zero_add,Nat.reduceAdd,v1,v2,v3,v5,v6,v7,v8,v10];generalize vals 0=z0,vals 4=z4,vals 9=z9;have HO:=Hd ho;have HX:=Hd hx;clear hR hG hi v1 v2 v3 v5 v6 v7 v8 v10 hr10 ho10 ho hx;go_wp2
 all_goals
  go_ret;refine ⟨A5,c5,?_,HO.o,HX.o⟩;rw [show (withoutS l k).length=min k l.length+(l.length-(k+1)) by simp [withoutS]];rfl
end Go.Proofs.YthmckfloppblcaaGreatDoor
