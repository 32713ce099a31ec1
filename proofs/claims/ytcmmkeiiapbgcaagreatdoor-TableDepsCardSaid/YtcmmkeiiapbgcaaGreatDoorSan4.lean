/- What the literals of the law's sanity lay into memory. No conditions. -/
import Derived.Test.YtcmmkeiiapbgcaaGreatDoorSan2
import Derived.Test.YtcmmkeiiapbgcaaGreatDoorLin2
namespace Go.Proofs.YtcmmkeiiapbgcaaGreatDoor
open Go Go.RowKit

theorem RDeps.build {w : World} {S : Nat → Prop} {g t : Nat} {cs : Array Value} {l : List Dep} (h : Blk w g t cs) (hs : cs.size = l.length * 2) (hg : S g) (hl : l.length ≤ 4294967296)
    (hr : ∀ (i : Nat) (d : Dep), l[i]? = some d → ∃ (B : Option Addr) (c : Nat), cs[i * 2]? = some (.slice B d.frm.length c) ∧ cs[i * 2 + 1]? = some (.string d.to) ∧ d.frm.length ≤ c ∧ d.to.size ≤ 4294967296 ∧ Strs w S B d.frm) : RDeps w S (some ⟨g, 0, none⟩) l := by
  refine ⟨hl, cs.toList, h.rd.mono (fun i _ hi => hi ▸ hg), by simpa using hs, fun i d hd => ?_⟩
  obtain ⟨B, c, h1, h2, h3⟩ := hr i d hd
  exact ⟨B, c, by simpa using h1, by simpa using h2, h3⟩
theorem Strs.one {w : World} {S : Nat → Prop} {g t : Nat} {s : ByteArray} (h : Blk w g t #[.string s]) (hs : s.size ≤ 4294967296) (hg : S g) : Strs w S (some ⟨g, 0, none⟩) [s] :=
  (Strs.of_blk h rfl (by simp) (by intro x hx; simp at hx; subst hx; exact hs)).mono fun _ _ hi => hi ▸ hg
/-- What five allocs lay. -/
theorem blk_at (w : World) (t : Nat) (cs : Array Value) {n : Nat} (hn : w.heap.size = n) : Blk (w.alloc (.cells cs t)) n t cs := hn ▸ Blk.new w t cs
def w5a (v : World) : World := ((((v.alloc (.cells #[.string sCity] 9)).alloc (.cells #[.string sCity] 9)).alloc (.cells #[.string sZip] 9)).alloc (.cells #[.string sZip] 9)).alloc
  (.cells #[.slice (some ⟨v.heap.size, 0, none⟩) 1 1, .string sZip, .slice (some ⟨v.heap.size + 1, 0, none⟩) 1 1, .string sCountry, .slice (some ⟨v.heap.size + 1 + 1, 0, none⟩) 1 1, .string sCity, .slice (some ⟨v.heap.size + 1 + 1 + 1, 0, none⟩) 1 1, .string sCountry] 52)
theorem w5a_ext (v : World) : Ext v (w5a v) := (((((Ext.refl v).alloc _).alloc _).alloc _).alloc _).alloc _
theorem w5a_mem (v : World) : RDeps (w5a v) (fun b => v.heap.size ≤ b) (some ⟨v.heap.size + 1 + 1 + 1 + 1, 0, none⟩) wantD := by
  have b1 : Blk (w5a v) v.heap.size 9 #[.string sCity] := ((((Blk.new v 9 #[.string sCity]).keep (Kept.alloc _ _ _)).keep (Kept.alloc _ _ _)).keep (Kept.alloc _ _ _)).keep (Kept.alloc _ _ _)
  have b2 : Blk (w5a v) (v.heap.size + 1) 9 #[.string sCity] := (((blk_at _ 9 #[.string sCity] (by simp)).keep (Kept.alloc _ _ _)).keep (Kept.alloc _ _ _)).keep (Kept.alloc _ _ _)
  have b3 : Blk (w5a v) (v.heap.size + 1 + 1) 9 #[.string sZip] := ((blk_at _ 9 #[.string sZip] (by simp)).keep (Kept.alloc _ _ _)).keep (Kept.alloc _ _ _)
  have b4 : Blk (w5a v) (v.heap.size + 1 + 1 + 1) 9 #[.string sZip] := (blk_at _ 9 #[.string sZip] (by simp)).keep (Kept.alloc _ _ _)
  have b5 := blk_at ((((v.alloc (.cells #[.string sCity] 9)).alloc (.cells #[.string sCity] 9)).alloc (.cells #[.string sZip] 9)).alloc (.cells #[.string sZip] 9)) 52 #[.slice (some ⟨v.heap.size, 0, none⟩) 1 1, .string sZip, .slice (some ⟨v.heap.size + 1, 0, none⟩) 1 1, .string sCountry, .slice (some ⟨v.heap.size + 1 + 1, 0, none⟩) 1 1, .string sCity, .slice (some ⟨v.heap.size + 1 + 1 + 1, 0, none⟩) 1 1, .string sCountry] (n := v.heap.size + 1 + 1 + 1 + 1) (by simp)
  refine RDeps.build (show Blk (w5a v) _ _ _ from b5) rfl (by omega) (by decide) ?_
  intro i d hi
  match i, hi with
  | 0, hi => cases hi; exact ⟨_, 1, rfl, rfl, Nat.le_refl _, by decide, Strs.one b1 (by decide) (by omega)⟩
  | 1, hi => cases hi; exact ⟨_, 1, rfl, rfl, Nat.le_refl _, by decide, Strs.one b2 (by decide) (by omega)⟩
  | 2, hi => cases hi; exact ⟨_, 1, rfl, rfl, Nat.le_refl _, by decide, Strs.one b3 (by decide) (by omega)⟩
  | 3, hi => cases hi; exact ⟨_, 1, rfl, rfl, Nat.le_refl _, by decide, Strs.one b4 (by decide) (by omega)⟩
  | n + 4, hi => simp [wantD] at hi
def w6a (v : World) : World := (((v.alloc (.cells #[.string sA] 9)).alloc (.cells #[.string sB] 9)).alloc (.cells #[.slice (some ⟨v.heap.size, 0, none⟩) 1 1, .string sB, .slice (some ⟨v.heap.size + 1, 0, none⟩) 1 1, .string sC] 52)).alloc (.cells #[.string sA] 9)
theorem w6a_ext (v : World) : Ext v (w6a v) := ((((Ext.refl v).alloc _).alloc _).alloc _).alloc _
theorem w6a_mem (v : World) : RDeps (w6a v) (fun b => v.heap.size ≤ b) (some ⟨v.heap.size + 1 + 1, 0, none⟩) abD ∧ Strs (w6a v) (fun b => v.heap.size ≤ b) (some ⟨v.heap.size + 1 + 1 + 1, 0, none⟩) [sA] := by
  have b1 : Blk (w6a v) v.heap.size 9 #[.string sA] := (((Blk.new v 9 #[.string sA]).keep (Kept.alloc _ _ _)).keep (Kept.alloc _ _ _)).keep (Kept.alloc _ _ _)
  have b2 : Blk (w6a v) (v.heap.size + 1) 9 #[.string sB] := ((blk_at _ 9 #[.string sB] (by simp)).keep (Kept.alloc _ _ _)).keep (Kept.alloc _ _ _)
  have b3 : Blk (w6a v) (v.heap.size + 1 + 1) 52 #[.slice (some ⟨v.heap.size, 0, none⟩) 1 1, .string sB, .slice (some ⟨v.heap.size + 1, 0, none⟩) 1 1, .string sC] := (blk_at _ 52 _ (by simp)).keep (Kept.alloc _ _ _)
  have b4 : Blk (w6a v) (v.heap.size + 1 + 1 + 1) 9 #[.string sA] := blk_at _ 9 #[.string sA] (by simp)
  refine ⟨RDeps.build b3 rfl (by omega) (by decide) ?_, Strs.one b4 (by decide) (by omega)⟩
  intro i d hi
  match i, hi with
  | 0, hi => cases hi; exact ⟨_, 1, rfl, rfl, Nat.le_refl _, by decide, Strs.one b1 (by decide) (by omega)⟩
  | 1, hi => cases hi; exact ⟨_, 1, rfl, rfl, Nat.le_refl _, by decide, Strs.one b2 (by decide) (by omega)⟩
  | n + 2, hi => simp [abD] at hi
theorem keep3 {w w' : World} {p0 p1 p2 : Addr} {v0 v1 v2 : Value} (h : Ext w w') (h0 : w.cell? p0 = some v0) (h1 : w.cell? p1 = some v1) (h2 : w.cell? p2 = some v2) :
    w'.cell? p0 = some v0 ∧ w'.cell? p1 = some v1 ∧ w'.cell? p2 = some v2 := ⟨h.cell h0, h.cell h1, h.cell h2⟩
theorem RV.flat {w : World} {S : Nat → Prop} {d : Nat} {y : Val} {A B : Option Addr} (h : flatV y) : RV w S d y A B := RV.mk h.2.2 (by rw [h.1]; exact Strs.nil) (by rw [h.2.1]; exact Rows.nil)
def noV : Val := textV sNo
theorem rown (n : Int) {w : World} {g t : Nat} {S : Nat → Prop} (h : Blk w g t (rowC [numV n 0])) (hg : S g) : Row w S 1 (some ⟨g, 0, none⟩) [numV n 0] := by
  refine (Row.flat h rfl (fun y hy => ?_) (by omega) (by simp)).mono fun _ _ hi => hi ▸ hg
  simp only [List.mem_cons, List.not_mem_nil, or_false] at hy
  subst hy
  exact flat_num _ _
/-- The table of numbers. -/
theorem nV_mem {v : World} {k a b : Nat} {S : Nat → Prop} (B1 : Blk v k 9 #[.string sN]) (C1 : Blk v a 33 (rowC [numV 3 0])) (C2 : Blk v b 33 (rowC [numV (-5) 0]))
    (h1 : S k) (h2 : S a) (h3 : S b) (h4 : S v.heap.size) (h5 : S (v.heap.size + 1)) :
    RV ((v.alloc (.cells (rowC [numV 4 0]) 33)).alloc (.cells #[.slice (some ⟨a, 0, none⟩) 1 1, .slice (some ⟨b, 0, none⟩) 1 1, .slice (some ⟨v.heap.size, 0, none⟩) 1 1] 45)) S 1 nV (some ⟨k, 0, none⟩) (some ⟨v.heap.size + 1, 0, none⟩) := by
  have x : Ext v ((v.alloc (.cells (rowC [numV 4 0]) 33)).alloc (.cells #[.slice (some ⟨a, 0, none⟩) 1 1, .slice (some ⟨b, 0, none⟩) 1 1, .slice (some ⟨v.heap.size, 0, none⟩) 1 1] 45)) := ((Ext.refl v).alloc _).alloc _
  have C3 := (Blk.new v 33 (rowC [numV 4 0])).keep (Kept.alloc _ _ (.cells #[.slice (some ⟨a, 0, none⟩) 1 1, .slice (some ⟨b, 0, none⟩) 1 1, .slice (some ⟨v.heap.size, 0, none⟩) 1 1] 45))
  have D := blk_at (v.alloc (.cells (rowC [numV 4 0]) 33)) 45 #[.slice (some ⟨a, 0, none⟩) 1 1, .slice (some ⟨b, 0, none⟩) 1 1, .slice (some ⟨v.heap.size, 0, none⟩) 1 1] (n := v.heap.size + 1) (by simp)
  refine RV.mk (by decide) (Strs.one (B1.keep (x.kept _)) (by decide) h1) (Rows.build D rfl h5 (by decide) ?_)
  intro i r hi
  match i, hi with
  | 0, hi => cases hi; exact ⟨_, 1, rfl, Nat.le_refl _, rown _ (C1.keep (x.kept _)) h2⟩
  | 1, hi => cases hi; exact ⟨_, 1, rfl, Nat.le_refl _, rown _ (C2.keep (x.kept _)) h3⟩
  | 2, hi => cases hi; exact ⟨_, 1, rfl, Nat.le_refl _, rown _ C3 h4⟩
  | n + 3, hi => simp [nV] at hi
end Go.Proofs.YtcmmkeiiapbgcaaGreatDoor
