/- The reference's Split: programs by an input's values. Conditions: the arguments read as data; the programs are there. -/
import Derived.Test.YtomdpipekmcojaaGreatDoorBk19
import Derived.Sort.Walk0
namespace Go.Proofs.YtomdpipekmcojaaGreatDoor
open Go Go.RowKit

/- The reference's depth, and the depth with a first question. Conditions: the arguments read as data; the programs are there. -/

structure AnsR (w:World) (S:Nat→Prop) (d:Nat) (A:Option Addr) (l:List (List Val)):Prop where
 rows:Rows w S d A l
 flat:NoT l
 tri:Tri l
 wide:Wide l (inpS l)
 few:inpS l≤1000
theorem AnsR.keep {w w':World} {S:Nat→Prop} {d:Nat} {A:Option Addr} {l:List (List Val)} (h:AnsR w S d A l) (k:Kept S w w'):AnsR w' S d A l:=⟨h.rows.keep k,h.flat,h.tri,h.wide,h.few⟩
theorem AnsR.inp {w:World} {S:Nat→Prop} {d:Nat} {A:Option Addr} {l:List (List Val)} (h:AnsR w S d A l) {m:Nat} (hm:m<inpS l):∀ r∈l,m<r.length:=fun r hr=>by rw [h.wide r hr]; exact hm
structure ProR (w:World) (T:Nat→Prop) (B:Option Addr) (n:Nat) (L:List Nat):Prop where
 nums:Nums w T B L
 lt:∀ x∈L,x<n
 len:L.length≤90
theorem ProR.keep {w w':World} {T:Nat→Prop} {B:Option Addr} {n:Nat} {L:List Nat} (h:ProR w T B n L) (k:Kept T w w'):ProR w' T B n L:=⟨h.nums.keep k,h.lt,h.len⟩
/- The reference's plan: its memory. No conditions. -/

def Imm (base ba:Nat) (A8 A9 A:Option Addr) (b:Nat):Prop:=base≤b∧b≠ba∧ob A8≠some b∧ob A9≠some b∧ob A≠some b
section
variable {w w':World} {base c d:Nat} {X T:Nat→Prop} {A:Option Addr}
theorem OwnVs.mono2 {l:List Val} (h:OwnVs w base X d A c l) (hm:∀ b,b<w.heap.size→ob A≠some b→X b→T b):OwnVs w base T d A c l:=by
 obtain ⟨xs,h1,h2⟩:=h;exact ⟨xs,h1,h2.imp fun _ _ hh=>hh.mono fun i hi hh=>⟨hh.1,hm i hi hh.1 hh.2⟩⟩
theorem OwnAs.mono2 {l:List AskD} (h:OwnAs w base X d A c l) (hm:∀ b,b<w.heap.size→ob A≠some b→X b→T b):OwnAs w base T d A c l:=by
 obtain ⟨xs,h1,h2⟩:=h;exact ⟨xs,h1,h2.imp fun _ _ hh=>hh.mono fun i hi hh=>⟨hh.1,hm i hi hh.1 hh.2⟩⟩
end
structure PlR (base d ba m:Nat) (gs:List (List Nat)) (vs:List Val) (nx:List Int) (Y:List AskD) (A8:Option Addr) (c8:Nat) (A9:Option Addr) (c9:Nat) (A:Option Addr) (c:Nat) (G:Option Addr) (w:World):Prop where
 blk:Blk w ba 59 #[.int .i64 (m:Int),.slice A8 vs.length c8,.slice A9 nx.length c9]
 lo:base≤ba
 vals:OwnVs w base (Imm base ba A8 A9 A) d A8 c8 vs
 nxt:OwnIs w base A9 c9 nx
 rest:OwnAs w base (Imm base ba A8 A9 A) d A c Y
 nn:NN w (Imm base ba A8 A9 A) G gs
 n8:∀ b,ob A8=some b→b≠ba∧ob A9≠some b∧ob A≠some b
 n9:∀ b,ob A9=some b→b≠ba∧ob A≠some b
 n0:ob A≠some ba
section
variable {w w':World} {base d ba m:Nat} {gs:List (List Nat)} {vs:List Val} {nx:List Int} {Y:List AskD} {A8:Option Addr} {c8:Nat} {A9:Option Addr} {c9:Nat} {A:Option Addr} {c:Nat} {G:Option Addr}
theorem PlR.ext (h:PlR base d ba m gs vs nx Y A8 c8 A9 c9 A c G w) (hx:Ext w w'):PlR base d ba m gs vs nx Y A8 c8 A9 c9 A c G w' :=
 ⟨h.blk.keep (hx.kept _),h.lo,h.vals.ext hx,h.nxt.ext hx,h.rest.ext hx,h.nn.keep (hx.kept _),h.n8,h.n9,h.n0⟩
theorem PlR.val {A84:Option Addr} {c84:Nat} {y:Val} (h:PlR base d ba m gs vs nx Y A8 c8 A9 c9 A c G w) (hb:ButS (fun b=>b=ba∨ob A8=some b) w w')
  (hv:OwnVs w' base (Imm base ba A8 A9 A) d A84 c84 (vs++[y])) (hk:Blk w' ba 59 #[.int .i64 (m:Int),.slice A84 (vs.length+1) c84,.slice A9 nx.length c9])
  (ha:∀ b,ob A84=some b→ob A8=some b∨w.heap.size≤b):PlR base d ba m gs (vs++[y]) nx Y A84 c84 A9 c9 A c G w':=by
 have hi:∀ b,b<w.heap.size→Imm base ba A8 A9 A b→Imm base ba A84 A9 A b:=fun b hb hi=>⟨hi.1,hi.2.1,fun e=>by
  rcases ha b e with e | e
  ·exact hi.2.2.1 e
  ·omega,hi.2.2.2⟩
 have l9:∀ b,ob A9=some b→b<w.heap.size:=fun b e=>(Own.blk h.nxt e).2;have lA:∀ b,ob A=some b→b<w.heap.size:=fun b e=>(h.rest.blk e).2;have lb:=h.blk.lt;have k9:Kept (fun b=>ob A9=some b) w w':=hb.kept fun b _ e f=>by
  rcases f with f | f
  ·exact (h.n9 b e).1 f
  ·exact (h.n8 b f).2.1 e
 have kI:Kept (fun b=>Imm base ba A8 A9 A b∧Imm base ba A84 A9 A b) w w':=hb.kept fun b _ e f=>by
  rcases f with f | f
  ·exact e.1.2.1 f
  ·exact e.1.2.2.1 f
 refine ⟨by rw [List.length_append]; exact hk,h.lo,hv.mono2 fun b _ h1 h2=>⟨h2.1,h2.2.1,h1,h2.2.2.2⟩,Own.keep h.nxt k9,
  ((h.rest.mono (T:=fun b=>Imm base ba A8 A9 A b∧Imm base ba A84 A9 A b) fun b hb hs=>⟨hs,hi b hb hs⟩).keep (hb.kept fun b _ e f => ?_)).mono fun b _ hh=>hh.2,
  ((h.nn.mono (T:=fun b=>Imm base ba A8 A9 A b∧Imm base ba A84 A9 A b) fun b hb hs=>⟨hs,hi b hb hs⟩).keep kI).mono fun b _ hh=>hh.2,fun b e => ?_,h.n9,h.n0⟩
 ·rcases e with e | e
  ·rcases f with f | f
   ·rw [f] at e; exact h.n0 e
   ·exact (h.n8 b f).2.2 e
  ·rcases f with f | f
   ·exact e.1.2.1 f
   ·exact e.1.2.2.1 f
 ·rcases ha b e with e | e
  ·exact h.n8 b e
  ·exact ⟨fun f=>by omega,fun f=>by have:=l9 b f; omega,fun f=>by have:=lA b f; omega⟩
theorem PlR.num {A9':Option Addr} {c9':Nat} {z:Int} (h:PlR base d ba m gs vs nx Y A8 c8 A9 c9 A c G w) (hb:ButS (fun b=>b=ba∨ob A9=some b) w w')
  (hv:OwnIs w' base A9' c9' (nx++[z])) (hk:Blk w' ba 59 #[.int .i64 (m:Int),.slice A8 vs.length c8,.slice A9' (nx.length+1) c9'])
  (ha:∀ b,ob A9'=some b→ob A9=some b∨w.heap.size≤b):PlR base d ba m gs vs (nx++[z]) Y A8 c8 A9' c9' A c G w':=by
 have hi:∀ b,b<w.heap.size→Imm base ba A8 A9 A b→Imm base ba A8 A9' A b:=fun b hb hi=>⟨hi.1,hi.2.1,hi.2.2.1,fun e=>by
  rcases ha b e with e | e
  ·exact hi.2.2.2.1 e
  ·omega,hi.2.2.2.2⟩
 have l8:∀ b,ob A8=some b→b<w.heap.size:=fun b e=>(h.vals.blk e).2;have lA:∀ b,ob A=some b→b<w.heap.size:=fun b e=>(h.rest.blk e).2;have lb:=h.blk.lt;have kI:Kept (fun b=>Imm base ba A8 A9 A b∧Imm base ba A8 A9' A b) w w':=hb.kept fun b _ e f=>by
  rcases f with f | f
  ·exact e.1.2.1 f
  ·exact e.1.2.2.2.1 f
 refine ⟨by rw [List.length_append]; exact hk,h.lo,
  ((h.vals.mono (T:=fun b=>Imm base ba A8 A9 A b∧Imm base ba A8 A9' A b) fun b hb hs=>⟨hs,hi b hb hs⟩).keep (hb.kept fun b _ e f => ?_)).mono fun b _ hh=>hh.2,hv,
  ((h.rest.mono (T:=fun b=>Imm base ba A8 A9 A b∧Imm base ba A8 A9' A b) fun b hb hs=>⟨hs,hi b hb hs⟩).keep (hb.kept fun b _ e f => ?_)).mono fun b _ hh=>hh.2,
  ((h.nn.mono (T:=fun b=>Imm base ba A8 A9 A b∧Imm base ba A8 A9' A b) fun b hb hs=>⟨hs,hi b hb hs⟩).keep kI).mono fun b _ hh=>hh.2,fun b e => ?_,fun b e => ?_,h.n0⟩
 ·rcases e with e | e
  ·rcases f with f | f
   ·exact (h.n8 b e).1 f
   ·exact (h.n8 b e).2.1 f
  ·rcases f with f | f
   ·exact e.1.2.1 f
   ·exact e.1.2.2.2.1 f
 ·rcases e with e | e
  ·rcases f with f | f
   ·rw [f] at e; exact h.n0 e
   ·exact (h.n9 b f).2 e
  ·rcases f with f | f
   ·exact e.1.2.1 f
   ·exact e.1.2.2.2.1 f
 ·refine ⟨(h.n8 b e).1,fun f => ?_,(h.n8 b e).2.2⟩
  rcases ha b f with f | f
  ·exact (h.n8 b e).2.1 f
  ·have:=l8 b e; omega
 ·rcases ha b e with e | e
  ·exact h.n9 b e
  ·exact ⟨fun f=>by omega,fun f=>by have:=lA b f; omega⟩
theorem PlR.sub {w6 w8:World} {A6 A7:Option Addr} {c6:Nat} {sub:List AskD} (h:PlR base d ba m gs vs nx Y A8 c8 A9 c9 A c G w) (hs:OwnAs w6 w.heap.size (fun b=>w.heap.size≤b) d A6 c6 sub) (hx:Ext w w6)
  (hb:ButS (fun b=>b=ba∨ob A9=some b) w6 w8) (ha:∀ b,ob A7=some b→ob A9=some b∨w6.heap.size≤b) :
  ∃ ys,Rd w8 (fun b=>w.heap.size≤b) A6 ys∧AL (CA w8 (Imm base ba A8 A7 A) d) ys sub:=by
 obtain ⟨ys,ho,hv⟩:=hs;have l8:∀ b,ob A8=some b→b<w.heap.size:=fun b e=>(h.vals.blk e).2;have l9:∀ b,ob A9=some b→b<w.heap.size:=fun b e=>(Own.blk h.nxt e).2;have lA:∀ b,ob A=some b→b<w.heap.size:=fun b e=>(h.rest.blk e).2;have lb:=h.blk.lt;have ll:=h.lo;have hk:Kept (fun b=>w.heap.size≤b) w6 w8:=hb.kept fun b _ e f=>by
  rcases f with f | f
  ·omega
  ·have:=l9 b f; omega
 refine ⟨ys,(ho.rd.mono fun b _ e=>ho.blk e |>.1).keep hk,hv.imp fun _ _ hh=>((hh.mono (T:=fun b=>w.heap.size≤b∧b<w6.heap.size) fun b hb e=>⟨e.2,hb⟩).keep (hk.mono fun b _ e=>e.1)).mono fun b _ e => ?_⟩;refine ⟨by omega,by omega,fun f => ?_,fun f => ?_,fun f => ?_⟩
 ·have:=l8 b f; omega
 ·rcases ha b f with f | f
  ·have:=l9 b f; omega
  ·omega
 ·have:=lA b f; omega
theorem PlR.fin {w9:World} {A12:Option Addr} {c12:Nat} {ys:List Value} (h:PlR base d ba m gs vs nx Y A8 c8 A9 c9 A c G w) (hb0:base≤w.heap.size) (hv1:vs.length≤4294967296) (hx1:nx.length≤4294967296)
  (hv:AL (CA w (fun b=>ob A≠some b∧Imm base ba A8 A9 A b) d) ys Y)
  (ho:Own w9 base 59 3 A12 (1+Y.length) c12 ([.int .i64 (m:Int),.slice A8 vs.length c8,.slice A9 nx.length c9]++ys)) {o:Obj}
  (hg:(w.alloc o).grownBy w9 (ob (some ⟨w.heap.size,0,none⟩))) (hat:ob A12=ob (some ⟨w.heap.size,0,none⟩)∨ob A12=some (w.alloc o).heap.size) :
  OwnAs w9 base (fun b=>base≤b) d A12 c12 ([((m:Int),vs,nx)]++Y):=by
 refine OwnAs.app (w:=w.alloc o) (A:=some ⟨w.heap.size,0,none⟩) (AL.one (cs:=[.int .i64 (m:Int),.slice A8 vs.length c8,.slice A9 nx.length c9]) rfl ?_) (hv.imp fun _ _ hh=>(hh.mono (T:=fun b=>ob (some ⟨w.heap.size,0,none⟩)≠some b∧base≤b) fun b hb e=>⟨fun f => ?_,e.2.1⟩).keep (Kept.alloc _ w o)) ho hg hat
 ·refine ⟨A8,c8,A9,c9,rfl,⟨?_,by simpa using Own.cap h.nxt⟩,?_,?_⟩
  ·obtain ⟨_,h1,_⟩:=h.vals;exact Own.cap h1
  ·refine Row.keep ((h.vals.mono (T:=fun b=>base≤b∧b<w.heap.size) fun b hb e=>⟨e.1,hb⟩).row (T:=fun b=>ob (some ⟨w.heap.size,0,none⟩)≠some b∧base≤b) hv1 (fun b e=>⟨fun f => ?_,(h.vals.blk e).1⟩) fun b e=>⟨fun f => ?_,e.1⟩) (Kept.alloc _ w o)
   ·have:=(h.vals.blk e).2;simp [ob] at f;omega
   ·simp [ob] at f;omega
  ·refine Ints.keep (OwnIs.ints (T:=fun b=>ob (some ⟨w.heap.size,0,none⟩)≠some b∧base≤b) h.nxt hx1 fun b e=>⟨fun f => ?_,(Own.blk h.nxt e).1⟩) (Kept.alloc _ w o);have:=(Own.blk h.nxt e).2;simp [ob] at f;omega
 ·simp [ob] at f;omega
end
end Go.Proofs.YtomdpipekmcojaaGreatDoor
