/- The program's table.Where. Conditions: the arguments read as data. -/
import Derived.Test.YthmckfloppblcaaGreatDoorBj19
set_option maxRecDepth 100000
set_option maxHeartbeats 400000
namespace Go.Proofs.YthmckfloppblcaaGreatDoor
open Go Go.RowKit
theorem isTab_row {t:Val} (h:isTabB t=true) {i:Nat} (hi:i<t.rows.length):t.rows[i].length=t.cols.length:=by
 simp only [isTabB,Bool.and_eq_true,decide_eq_true_eq] at h;have h2:=h.2;unfold rightB at h2;rw [if_pos h.1,Bool.and_eq_true] at h2;exact tableR_row h2.1 hi

def joinRow (x y:List Val) (j:Nat):List Val:=x++y.take j++y.drop (j+1)
def joinCols (ac bc:List ByteArray) (col:ByteArray):List ByteArray:=ac++bc.filter fun n=>decide (n≠col)
def joinClash (ac bc:List ByteArray) (col:ByteArray):Bool:=bc.any fun n=>decide (n≠col) && memS ac n
def joinRows (l1 l2:List (List Val)) (j:Nat) (ps:List (Nat × Nat)):List (List Val):=ps.map fun p=>joinRow (l1.getD p.1 []) (l2.getD p.2 []) j
def joinT (a b:Val) (col:ByteArray):Val × Int :=
 if isTabB a=false∨isTabB b=false then (Val.zero,14)
 else if idxS a.cols col<0∨idxS b.cols col<0 then (Val.zero,13)
 else if joinClash a.cols b.cols col=true then (Val.zero,13)
 else if 8<(joinCols a.cols b.cols col).length then (Val.zero,2)
 else (tabV (joinCols a.cols b.cols col) (joinRows a.rows b.rows (idxS b.cols col).toNat (prsF a.rows b.rows (idxS a.cols col).toNat (idxS b.cols col).toNat a.rows.length)),0)
theorem joinRows_snoc {l1 l2:List (List Val)} {j:Nat} {ps:List (Nat × Nat)} {k p q:Nat} (hp:p<l1.length) (hq:q<l2.length) (h:ps[k]?=some (p,q)):joinRows l1 l2 j (ps.take (k+1))=joinRows l1 l2 j (ps.take k)++[joinRow l1[p] l2[q] j]:=by
 obtain ⟨hk,he⟩:=List.getElem?_eq_some_iff.1 h;unfold joinRows;rw [List.take_succ_eq_append_getElem hk,List.map_append,he];simp [List.getD_eq_getElem?_getD,hp,hq]
def RetOs (w:World) (l:List ByteArray) (e:Ending) (w':World):Prop:=∃ A' c',e=.returned (.slice A' l.length c')∧OwnSs w' w.heap.size A' c' l∧Ext w w'
theorem slices_CloneO (A:Option Addr) (c:Nat) (l:List ByteArray) (w:World) (S:Nat→Prop) (h:Strs w S A l) :
  Calls Tryz.prog 33 #[.slice A l.length c] w (RetOs w l):=by
 have hn:=h.2.1
 rcases A with _ | a
 ·have hl:l=[]:=by
   rcases h.1 with h0 | ⟨b,o,h1,_⟩
   ·simpa using h0
   ·cases h1
  subst hl;have hnil:=fun w:World=>Lib.run_eql_slice_nil w 28 9 none 0 c 0 0 Tryz.underlying28;simp only [List.length_nil] at hnil ⊢
  go_enter Tryz.func33,Tryz.ntmps33
  go_wp2;go_ret;exact ⟨none,0,rfl,⟨Own.nil _ _ _ _,by simp⟩,Ext.refl _⟩
 ·have hnil:=fun w:World=>Lib.run_eql_slice_nil w 28 9 (some a) l.length c 0 0 Tryz.underlying28
  go_enter Tryz.func33,Tryz.ntmps33
  go_wp2_with (at_builtin; refine wpList_app rfl (.tmp 5) (.tmp 6) rfl tiS rfl ((World.ownsRow_made w #[] 0 (Nat.le_refl _) (by unfold maxLen; omega) rfl)) rfl (h.1.keep (Kept.alloc _ _ _)) (by simp) (by simp [Value.oneCell']) (by omega) (by decide) (by simp) ?_; intro A' c' w1 hown hg hat)
  go_ret;simp only [Nat.zero_add,List.nil_append] at hown;exact ⟨A',c',rfl,⟨hown,h.2.2⟩,((Ext.refl w).alloc _).grown hg (fun k hk=>by simp [ob] at hk; omega)⟩
theorem OwnVs.app {w w':World} {base d:Nat} {X:Nat→Prop} {A A':Option Addr} {c':Nat} {l m:List Val} {xs ys:List Value} (hv:VL (CV w (fun b=>ob A≠some b∧X b) d) xs l) (hm:VL (CV w (fun b=>ob A≠some b∧X b) d) ys m)
  (hown:Own w' base 31 7 A' (l.length+m.length) c' (xs++ys)) (hg:w.grownBy w' (ob A)) (hat:ob A'=ob A∨ob A'=some w.heap.size):OwnVs w' base X d A' c' (l++m):=by
 have hk:Kept (fun b=>ob A≠some b∧X b) w w':=Kept.of_grown hg (fun b hb _ e=>hb.1 e.symm);have hmv:∀ i,i<w.heap.size→(ob A≠some i∧X i)→(ob A'≠some i∧X i):=by
  rintro i hi ⟨h1,h2⟩;refine ⟨?_,h2⟩
  rcases hat with e | e <;> rw [e]
  ·exact h1
  ·intro h; injection h with h; omega
 refine ⟨_,by simpa using hown,?_⟩;exact VL.append (hv.imp fun _ _ hh=>hh.move hk hmv) (hm.imp fun _ _ hh=>hh.move hk hmv)
structure JC (w:World) (lo go:Nat) (Ac:Option Addr) (cc:Nat) (cols:List ByteArray) (wr:World):Prop where
 ext:Ext w wr
 golo:w.heap.size≤lo∧lo≤go∧go<wr.heap.size
 o:Blk wr go 31 #[.int .i64 5,.string ⟨#[]⟩,.int .i64 0,.int .i64 0,.int .i64 0,.slice Ac cols.length cc,.slice none 0 0]
 own:OwnSs wr lo Ac cc cols
 sep:ob Ac≠some go
section
variable {w wr wr':World} {lo go cc:Nat} {Ac:Option Addr} {cols:List ByteArray}
theorem JC.more (h:JC w lo go Ac cc cols wr) (hx:Ext wr wr'):JC w lo go Ac cc cols wr' :=
 ⟨h.ext.trans hx,⟨h.golo.1,h.golo.2.1,Nat.lt_of_lt_of_le h.golo.2.2 hx.size⟩,h.o.keep (hx.kept _),⟨h.own.1.ext hx,h.own.2⟩,h.sep⟩
theorem JC.app (h:JC w lo go Ac cc cols wr) {A4:Option Addr} {c4:Nat} {s:ByteArray} (hs:s.size≤4294967296) (ho:Own wr' lo 9 1 A4 (cols.length+1) c4 (cols.map Value.string++[.string s])) (hg:wr.grownBy wr' (ob Ac)) (hat:ob A4=ob Ac∨ob A4=some wr.heap.size) :
  Blk wr' go 31 #[.int .i64 5,.string ⟨#[]⟩,.int .i64 0,.int .i64 0,.int .i64 0,.slice Ac cols.length cc,.slice none 0 0]∧JC w lo go A4 c4 (cols++[s]) (wr'.setCell ⟨go,5,none⟩ (.slice A4 (cols.length+1) c4)):=by
 have hgo:=h.golo;have hb:=h.o.keep (Kept.of_grown (S:=fun b=>b=go) hg fun b hb _ e=>h.sep (by rw [hb] at e; exact e.symm));have hz:=hg.size;have hne:ob A4≠some go:=by
  rcases hat with e | e <;> rw [e]
  ·exact h.sep
  ·intro hh; injection hh with hh; omega
 refine ⟨hb,⟨(Ext.grown h.ext hg fun b hb=>by have:=(h.own.1.blk hb).1; omega).set2 (by omega) _,⟨hgo.1,hgo.2.1,by simp [World.setCell]; omega⟩,?_,⟨?_,fun x hx => ?_⟩,hne⟩⟩
 ·have:=hb.set 5 (.slice A4 (cols.length+1) c4)
  simpa using this
 ·rw [List.map_append,List.length_append];exact ho.set (p:=⟨go,5,none⟩) hne _
 ·rcases List.mem_append.1 hx with hx | hx
  ·exact h.own.2 x hx
  ·simp at hx; subst hx; exact hs
theorem JC.start (h:JC w lo go Ac cc cols wr) (h4:w.heap.size+4≤lo) {D L:Nat} (hD:wr.heap.size≤D) (hL:wr.heap.size≤L) (hl:cols.length≤4294967296) (d:Nat) :
  OutT w wr wr.heap.size (fun b=>w.heap.size+4≤b∧b≠D∧b≠L) d go Ac cc cols none 0 [] wr:=by
 have hgo:=h.golo;exact ⟨h.ext,Kept.refl _ _,⟨by omega,by omega,Nat.le_refl _⟩,h.o,h.own.strs hl fun b hb=>⟨by simp [ob],⟨by have:=(h.own.1.blk hb).1; omega,by have:=(h.own.1.blk hb).2; omega,by have:=(h.own.1.blk hb).2; omega⟩,fun e=>h.sep (by rw [← e]; exact hb)⟩,OwnRs.nil _ _ _ _⟩
end
theorem Kept.putObj (W:World) (l:Nat) (o:Obj):Kept (fun b=>b≠l) W (W.putObj l o):=⟨by simp [World.putObj_size],fun b hb _=>World.putObj_heap_other hb⟩
theorem Own.neObj {w:World} {base e sz n c l:Nat} {A:Option Addr} {xs:List Value} {o:Obj} (h:Own w base e sz A n c xs) (hl:w.heap[l]?=some o) (ho:o.isCells=false):ob A≠some l:=by
 intro hA
 rcases h.2 with ⟨hv,_⟩ | ⟨g,cap,cur,hv,hb,hh,_⟩
 ·injection hv with hv;subst hv;cases hA
 ·injection hv with hv;subst hv;injection hA with hA;rw [← hA,show g=g from rfl] at hl;rw [hh] at hl;injection hl with hl;subst hl;cases ho
theorem OutT.putObj {w w0 W:World} {lo go d cc cr l:Nat} {X:Nat→Prop} {Ac Ar:Option Addr} {cols:List ByteArray} {rows:List (List Val)} {o o':Obj} (h:OutT w w0 lo X d go Ac cc cols Ar cr rows W) (hlo:lo≤l) (hX:¬ X l) (hl:W.heap[l]?=some o) (ho:o.isCells=false) :
  OutT w w0 lo X d go Ac cc cols Ar cr rows (W.putObj l o'):=by
 have hgo:=h.golo;have hk:=Kept.putObj W l o';obtain ⟨hs,hown,-⟩:=h.rows;refine ⟨h.ext.putObj (by omega) o',h.kept.trans (hk.mono fun b _ hb=>by omega),by simp only [World.putObj_size]; exact hgo,h.o.calm hl ho,h.cols.keep (hk.mono fun b _ hb e=>hX (by rw [← e]; exact hb.2.1)),h.rows.keep (hk.mono fun b _ hb e => ?_)⟩
 rcases hb with hb | hb
 ·exact hown.neObj hl ho (by rw [← e]; exact hb)
 ·exact hX (by rw [← e]; exact hb.1)
end Go.Proofs.YthmckfloppblcaaGreatDoor
