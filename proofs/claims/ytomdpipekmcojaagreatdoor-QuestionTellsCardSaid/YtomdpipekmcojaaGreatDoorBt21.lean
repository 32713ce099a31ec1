/- The reference's Copy: the same data in new memory, which is the caller's own. Conditions: the argument reads as data. -/
import Derived.Test.YtomdpipekmcojaaGreatDoorBt20
import Derived.Deep.DeepCutAuto
import Derived.Deep.Light
import Derived.Laws.EntriesVeiled
namespace Go.Proofs.YtomdpipekmcojaaGreatDoor
open Go Go.RowKit

/-- What is known of the rows so far, ahead of the append of a new row. -/
def CRBrow (w : World) (x : Val) (q : Nat) (Ac : Option Addr) (k : Nat) (Ar : Option Addr) (r : List Val) (A3 : Option Addr) (c3 : Nat) (hs : List Value) (cut : Nat → Nat) (lo : Nat) (wr : World) : Prop :=
 (∀ i j, i ≤ j → cut i ≤ cut j) ∧ w.heap.size + 3 ≤ cut 0 ∧ cut (x.rows.take k).length ≤ lo ∧ lo ≤ wr.heap.size ∧ (∀ b, ob Ar = some b → b < lo) ∧ (∀ b, ob Ac = some b → b < lo) ∧
  (∀ (i : Nat) (r : List Val), (x.rows.take k)[i]? = some r → ∃ (B : Option Addr) (e : Nat), hs[i]? = some (Value.slice B r.length e) ∧ OwnVs wr (cut i) (fun b => cut i ≤ b ∧ b < cut (i + 1) ∧ ob Ar ≠ some b ∧ ¬ ob Ac = some b) q B e r ∧ ∀ b, ob B = some b → b < cut (i + 1) ∧ ob Ar ≠ some b ∧ ¬ ob Ac = some b) ∧
  OwnVs wr lo (fun b => lo ≤ b) q A3 c3 r
structure CRB (w : World) (x : Val) (q : Nat) (A B : Option Addr) (c e : Nat) (Ac : Option Addr) (cc : Nat) (k : Nat) (Ar : Option Addr) (cr : Nat) (r : List Val) (A3 : Option Addr) (c3 : Nat) (wr : World) : Prop where
 base : CR w x q A B c e Ac cc k Ar cr wr
 row : ∃ (hs : List Value) (cut : Nat → Nat) (lo : Nat), Own wr (w.heap.size + 3) 42 1 Ar (x.rows.take k).length cr hs ∧ CRBrow w x q Ac k Ar r A3 c3 hs cut lo wr
theorem CRB.of {w : World} {x : Val} {q : Nat} {A B : Option Addr} {c e : Nat} {Ac : Option Addr} {cc : Nat} {k : Nat} {Ar : Option Addr} {cr : Nat} {wr wr' : World} {r : List Val} {A3 : Option Addr} {c3 : Nat} (h : CR w x q A B c e Ac cc k Ar cr wr) (ho : OwnVs wr' wr.heap.size (fun b => wr.heap.size ≤ b) q A3 c3 r) (hx : Ext wr wr') : CRB w x q A B c e Ac cc k Ar cr r A3 c3 wr' := by
 obtain ⟨hs, cut, h1, h2, h3, h4, h5⟩ := h.rows
 refine ⟨h.more hx, hs, cut, wr.heap.size, h1.ext hx, h2, h3, h4, hx.size, fun b hb => (h1.blk hb).2, fun b hb => (h.cols.1.blk hb).2, fun i r hi => ?_, ho⟩
 obtain ⟨B, e, g1, g2, g3⟩ := h5 i r hi
 exact ⟨B, e, g1, g2.ext hx, g3⟩
theorem CRB.more {w : World} {x : Val} {q : Nat} {A B : Option Addr} {c e : Nat} {Ac : Option Addr} {cc : Nat} {k : Nat} {Ar : Option Addr} {cr : Nat} {wr wr' : World} {r : List Val} {A3 : Option Addr} {c3 : Nat} (h : CRB w x q A B c e Ac cc k Ar cr r A3 c3 wr) (hx : Ext wr wr') : CRB w x q A B c e Ac cc k Ar cr r A3 c3 wr' := by
 obtain ⟨hs, cut, lo, h1, h2, h3, h4, h5, h6, h7, h8, h9⟩ := h.row
 refine ⟨h.base.more hx, hs, cut, lo, h1.ext hx, h2, h3, h4, Nat.le_trans h5 hx.size, h6, h7, fun i r hi => ?_, h9.ext hx⟩
 obtain ⟨B, e, g1, g2, g3⟩ := h8 i r hi
 exact ⟨B, e, g1, g2.ext hx, g3⟩
theorem CRB.app {w : World} {x : Val} {q : Nat} {A B : Option Addr} {c e : Nat} {Ac : Option Addr} {cc : Nat} {k : Nat} {Ar : Option Addr} {cr : Nat} {wr wr' : World} {r : List Val} {A3 A4 : Option Addr} {c3 c4 : Nat} (h : CRB w x q A B c e Ac cc k Ar cr r A3 c3 wr) {hs : List Value} {cut : Nat → Nat} {lo : Nat} (hr : ∃ hk : k < x.rows.length, r = x.rows[k]) (hk : k < x.rows.length) (h1 : Own wr (w.heap.size + 3) 42 1 Ar (x.rows.take k).length cr hs) (hb : CRBrow w x q Ac k Ar r A3 c3 hs cut lo wr)
  (hg : wr.grownBy wr' (ob Ar)) (ho4 : Own wr' (w.heap.size + 3) 42 1 A4 (k + 1) c4 (hs ++ [Value.slice A3 r.length c3])) (hat : ob A4 = ob Ar ∨ ob A4 = some wr.heap.size) : CRA w x q A B c e Ac cc (k + 1) A4 c4 wr' := by
 obtain ⟨_, rfl⟩ := hr
 obtain ⟨h2, h3, h4, h5, h6, h7, h8, h9⟩ := hb
 exact h.base.app hk h1 h2 h3 h4 h5 h6 h7 h8 h9 hg ho4 hat
/-- What is handed back: the same value; its memory is the caller's own. -/
def RetCp (w : World) (d : Nat) (x : Val) (e : Ending) (w' : World) : Prop := ∃ (Ac : Option Addr) (cc : Nat) (Ar : Option Addr) (cr : Nat), e = .returned (.agg #[.int .i64 x.kind, .string x.s, .int .i64 x.dn, .int .i64 x.ds, .int .i64 x.n, .slice Ac x.cols.length cc, .slice Ar x.rows.length cr]) ∧ OwnSs w' w.heap.size Ac cc x.cols ∧ OwnRR w' w.heap.size (fun b => ob Ac = some b) d Ar cr x.rows ∧ (∀ b, ob Ac = some b → ob Ar ≠ some b) ∧ Ext w w'
theorem OwnRR.lower {w : World} {base base' q c : Nat} {av : Nat → Prop} {A : Option Addr} {l : List (List Val)} (h : OwnRR w base av q A c l) (hb : base' ≤ base) : OwnRR w base' av q A c l := by
 obtain ⟨hs, cut, h1, h2, h3, h4, h5⟩ := h
 exact ⟨hs, cut, h1.lower hb, h2, Nat.le_trans hb h3, h4, h5⟩
theorem RetCp.v {w w' : World} {d : Nat} {x : Val} {e : Ending} (h : RetCp w d x e w') (hs : x.s.size ≤ 4294967296) (hc : x.cols.length ≤ 4294967296) (hl : x.rows.length ≤ 4294967296) (hr : ∀ r ∈ x.rows, r.length ≤ 4294967296) : RetV w (Fresh w) d x e w' := by
 obtain ⟨Ac, cc, Ar, cr, he, h1, h2, h3, h4⟩ := h
 exact ⟨Ac, cc, Ar, cr, he, ⟨h1.1.cap, h2.cap⟩, RV.mk hs (h1.strs hc fun b hb => (h1.1.blk hb).1) (h2.rows hl hr), h4⟩
theorem Rows.lens {w : World} {S : Nat → Prop} {d : Nat} {B : Option Addr} {l : List (List Val)} (h : Rows w S d B l) : ∀ r ∈ l, r.length ≤ 4294967296 := by
 intro r hr
 obtain ⟨i, hi, rfl⟩ := List.mem_iff_getElem.1 hr
 obtain ⟨_, _, _, _, _, _, _, _, h1⟩ := h.at_ hi
 exact h1.len
theorem RetCp.rv {w w' : World} {d : Nat} {x : Val} {e : Ending} {S : Nat → Prop} {A B : Option Addr} (h : RetCp w d x e w') (hx : RV w S d x A B) : RetV w (Fresh w) d x e w' := h.v hx.size hx.strs.2.1 hx.rows_.len hx.rows_.lens
/- The reference's plan. Conditions: the arguments read as data; the programs are there. -/

/- The reference's lower bound. Conditions: the answers read as data. -/

end Go.Proofs.YtomdpipekmcojaaGreatDoor
