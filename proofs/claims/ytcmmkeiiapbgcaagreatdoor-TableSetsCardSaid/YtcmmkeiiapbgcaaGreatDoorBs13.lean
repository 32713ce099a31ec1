/- table.fresh, names compared, and the library's insertion sort of lookup tables by name. Conditions: the arguments read as data. -/
import Derived.Test.YtcmmkeiiapbgcaaGreatDoorBs12
import Derived.IntWalk
namespace Go.Proofs.YtcmmkeiiapbgcaaGreatDoor
open Go Go.RowKit

/-- A table with the places of its memory. -/
structure LE where
  t : Look
  A : Option Addr
  c : Nat
  B : Option Addr
  e : Nat
def LE.nm (x : LE) : ByteArray := x.t.name
/-- The tables es stand in block g. -/
def Srt (w : World) (g N : Nat) (es : List LE) : Prop := ∃ cur : Array Value, Blk w g 28 cur ∧ cur.size = N ∧ es.length * 3 ≤ N ∧ ∀ (j : Nat) (x : LE), es[j]? = some x → cur[j * 3]? = some (.string x.t.name) ∧ cur[j * 3 + 1]? = some (.slice x.A x.t.cols.length x.c) ∧ cur[j * 3 + 2]? = some (.slice x.B x.t.rows.length x.e)
theorem Blk.at_ {w : World} {g t : Nat} {cur : Array Value} (h : Blk w g t cur) {i : Nat} (hi : i < cur.size) : ∃ u, w.cell? ⟨g, i, none⟩ = some u := ⟨cur[i], h.cell (by simp [hi])⟩
theorem Srt.keep {w w' : World} {g N : Nat} {es : List LE} (h : Srt w g N es) (k : Kept (fun b => b = g) w w') : Srt w' g N es := by
  obtain ⟨cur, h1, h2⟩ := h
  exact ⟨cur, h1.keep k, h2⟩
theorem Srt.cells {w : World} {g N : Nat} {es : List LE} (h : Srt w g N es) {j : Nat} {x : LE} (hj : es[j]? = some x) : w.cell? ⟨g, j * 3, none⟩ = some (.string x.t.name) ∧ w.cell? ⟨g, j * 3 + 1, none⟩ = some (.slice x.A x.t.cols.length x.c) ∧ w.cell? ⟨g, j * 3 + 2, none⟩ = some (.slice x.B x.t.rows.length x.e) := by
  obtain ⟨cur, h1, _, _, h2⟩ := h
  obtain ⟨a, b, c⟩ := h2 j x hj
  exact ⟨h1.cell a, h1.cell b, h1.cell c⟩
/-- Two neighbours are swapped. -/
theorem Srt.swap {w3 : World} {g N j j1 : Nat} {x y : LE} {p q : List LE} (h : Srt w3 g N (p ++ y :: x :: q)) (hj1 : j1 = p.length) (hj : j = p.length + 1) : Srt ((((((w3.setCell ⟨g, j * 3, none⟩ (.string y.t.name)).setCell ⟨g, j * 3 + 1, none⟩ (.slice y.A y.t.cols.length y.c)).setCell ⟨g, j * 3 + 2, none⟩ (.slice y.B y.t.rows.length y.e)).setCell ⟨g, j1 * 3, none⟩ (.string x.t.name)).setCell ⟨g, j1 * 3 + 1, none⟩ (.slice x.A x.t.cols.length x.c)).setCell ⟨g, j1 * 3 + 2, none⟩ (.slice x.B x.t.rows.length x.e)) g N (p ++ x :: y :: q) := by
  obtain ⟨cur, h1, h2, h3, h4⟩ := h
  refine ⟨_, (((((h1.set _ _).set _ _).set _ _).set _ _).set _ _).set _ _, by simpa using h2, by simpa using h3, fun k z hk => ?_⟩
  have hN : (p.length + q.length + 2) * 3 ≤ cur.size := by rw [h2]; simp at h3; omega
  simp only [Array.getElem?_setIfInBounds, Array.size_setIfInBounds]
  rcases Nat.lt_trichotomy k p.length with hlt | heq | hgt
  · rw [List.getElem?_append_left hlt] at hk
    obtain ⟨a, b, c⟩ := h4 k z (by rw [List.getElem?_append_left hlt]; exact hk)
    refine ⟨?_, ?_, ?_⟩
    · rw [if_neg (by omega), if_neg (by omega), if_neg (by omega), if_neg (by omega), if_neg (by omega), if_neg (by omega)]; exact a
    · rw [if_neg (by omega), if_neg (by omega), if_neg (by omega), if_neg (by omega), if_neg (by omega), if_neg (by omega)]; exact b
    · rw [if_neg (by omega), if_neg (by omega), if_neg (by omega), if_neg (by omega), if_neg (by omega), if_neg (by omega)]; exact c
  · subst heq
    rw [List.getElem?_append_right (Nat.le_refl _), Nat.sub_self] at hk
    simp at hk
    subst hk
    subst hj1
    refine ⟨?_, ?_, ?_⟩
    · rw [if_neg (by omega), if_neg (by omega), if_pos (by omega), if_pos (by omega)]
    · rw [if_neg (by omega), if_pos (by omega), if_pos (by omega)]
    · rw [if_pos (by omega), if_pos (by omega)]
  · rw [List.getElem?_append_right (by omega)] at hk
    rcases Nat.eq_or_lt_of_le hgt with h5 | h5
    · have h6 : k - p.length = 1 := by omega
      rw [h6] at hk
      simp at hk
      subst hk
      have h7 : k = j := by omega
      subst h7
      refine ⟨?_, ?_, ?_⟩
      · rw [if_neg (by omega), if_neg (by omega), if_neg (by omega), if_neg (by omega), if_neg (by omega), if_pos (by omega), if_pos (by omega)]
      · rw [if_neg (by omega), if_neg (by omega), if_neg (by omega), if_neg (by omega), if_pos (by omega), if_pos (by omega)]
      · rw [if_neg (by omega), if_neg (by omega), if_neg (by omega), if_pos (by omega), if_pos (by omega)]
    · obtain ⟨m, hm⟩ : ∃ m, k - p.length = m + 2 := ⟨k - p.length - 2, by omega⟩
      rw [hm] at hk
      obtain ⟨a, b, c⟩ := h4 k z (by rw [List.getElem?_append_right (by omega), hm]; simpa using hk)
      refine ⟨?_, ?_, ?_⟩
      · rw [if_neg (by omega), if_neg (by omega), if_neg (by omega), if_neg (by omega), if_neg (by omega), if_neg (by omega)]; exact a
      · rw [if_neg (by omega), if_neg (by omega), if_neg (by omega), if_neg (by omega), if_neg (by omega), if_neg (by omega)]; exact b
      · rw [if_neg (by omega), if_neg (by omega), if_neg (by omega), if_neg (by omega), if_neg (by omega), if_neg (by omega)]; exact c
theorem But.setg {g : Nat} {w w' : World} (h : But g w w') (i : Nat) (u : Value) : But g w (w'.setCell ⟨g, i, none⟩ u) := ⟨h.os, h.tape, h.output, by simpa [World.setCell] using h.size, fun x hx hg => (Below.heap_setCell _ _ _ _ hg).trans (h.block x hx hg)⟩
section
variable {α : Type} (nm : α → ByteArray)
/-- x ahead of the first element with a greater name. -/
def insL (x : α) : List α → List α
  | [] => [x]
  | y :: l => if nlt (nm x) (nm y) = true then x :: y :: l else y :: insL x l
def sortL (l : List α) : List α := l.foldl (fun acc x => insL nm x acc) []
/-- No later element has a lesser name. -/
def SrtL (l : List α) : Prop := l.Pairwise fun a b => nlt (nm b) (nm a) = false
end
theorem nlt_irrefl (x : ByteArray) : nlt x x = false := by
  rw [← Bool.not_eq_true, nlt_iff]
  exact List.lt_irrefl _
theorem nlt_asymm {x y : ByteArray} (h : nlt x y = true) : nlt y x = false := by
  rw [← Bool.not_eq_true, nlt_iff]
  exact List.lt_asymm ((nlt_iff _ _).1 h)
theorem nlt_trans {x y z : ByteArray} (h : nlt x y = true) (k : nlt y z = true) : nlt x z = true := (nlt_iff _ _).2 (List.lt_trans ((nlt_iff _ _).1 h) ((nlt_iff _ _).1 k))
theorem nlt_total {x y : ByteArray} (h : nlt x y = false) (k : nlt y x = false) : x = y := by
  have h1 : ¬ x.data.toList < y.data.toList := fun e => by rw [(nlt_iff _ _).2 e] at h; cases h
  have h2 : ¬ y.data.toList < x.data.toList := fun e => by rw [(nlt_iff _ _).2 e] at k; cases k
  have := List.le_antisymm (List.not_lt.1 h2) (List.not_lt.1 h1)
  cases x; cases y
  simp at this
  rw [this]
theorem nlt_le_trans {x y z : ByteArray} (h : nlt x y = true) (k : nlt z y = false) : nlt x z = true := by
  cases h1 : nlt x z
  · cases h2 : nlt y z
    · rw [nlt_total h2 k] at h; rw [h] at h1; cases h1
    · exact absurd (nlt_trans h h2) (by rw [h1]; simp)
  · rfl
section
variable {α : Type} {nm : α → ByteArray}
theorem mem_insL {x y : α} : ∀ {l : List α}, y ∈ insL nm x l ↔ y = x ∨ y ∈ l
  | [] => by simp [insL]
  | z :: l => by
    unfold insL
    split
    · simp
    · rw [List.mem_cons, mem_insL, List.mem_cons]
      constructor
      · rintro (h | h | h)
        · exact .inr (.inl h)
        · exact .inl h
        · exact .inr (.inr h)
      · rintro (h | h | h)
        · exact .inr (.inl h)
        · exact .inl h
        · exact .inr (.inr h)
theorem SrtL.ins {l : List α} (h : SrtL nm l) (x : α) : SrtL nm (insL nm x l) := by
  induction l with
  | nil => simp [SrtL, insL]
  | cons y l ih =>
    have h1 := List.pairwise_cons.1 h
    unfold insL
    split
    · rename_i hlt
      refine List.pairwise_cons.2 ⟨fun z hz => ?_, h⟩
      rcases List.mem_cons.1 hz with rfl | hz
      · exact nlt_asymm hlt
      · exact nlt_asymm (nlt_le_trans hlt (h1.1 z hz))
    · rename_i hlt
      refine List.pairwise_cons.2 ⟨fun z hz => ?_, ih h1.2⟩
      rcases mem_insL.1 hz with rfl | hz
      · simpa using hlt
      · exact h1.1 z hz
theorem SrtL.sort (l : List α) : SrtL nm (sortL nm l) := by
  unfold sortL
  have : ∀ (l acc : List α), SrtL nm acc → SrtL nm (l.foldl (fun acc x => insL nm x acc) acc) := by
    intro l
    induction l with
    | nil => intro acc h; exact h
    | cons x l ih => intro acc h; exact ih _ (h.ins x)
  exact this l [] (by simp [SrtL])
theorem sortL_snoc (l : List α) (x : α) : sortL nm (l ++ [x]) = insL nm x (sortL nm l) := by simp [sortL, List.foldl_append]
theorem len_insL (x : α) : ∀ l : List α, (insL nm x l).length = l.length + 1
  | [] => rfl
  | y :: l => by
    unfold insL
    split
    · simp
    · simp [len_insL x l]
theorem snoc_ind {P : List α → Prop} (h0 : P []) (h1 : ∀ l x, P l → P (l ++ [x])) (l : List α) : P l := by
  have : ∀ m : List α, P m.reverse := by
    intro m
    induction m with
    | nil => exact h0
    | cons x m ih => rw [List.reverse_cons]; exact h1 _ _ ih
  have h := this l.reverse
  rwa [List.reverse_reverse] at h
theorem len_sortL (l : List α) : (sortL nm l).length = l.length := by
  refine snoc_ind (P := fun l => (sortL nm l).length = l.length) rfl (fun l x ih => ?_) l
  rw [sortL_snoc, len_insL, ih]; simp
theorem mem_sortL {l : List α} {y : α} : y ∈ sortL nm l ↔ y ∈ l := by
  refine snoc_ind (P := fun l => y ∈ sortL nm l ↔ y ∈ l) (by simp [sortL]) (fun l x ih => ?_) l
  rw [sortL_snoc, mem_insL, ih]; simp [or_comm]
/-- Where the elements of p are not greater, and those of q are, x comes between. -/
theorem insL_at {x : α} : ∀ {p q : List α}, (∀ y ∈ p, nlt (nm x) (nm y) = false) → (∀ y, q.head? = some y → nlt (nm x) (nm y) = true) → insL nm x (p ++ q) = p ++ x :: q
  | [], [], _, _ => rfl
  | [], y :: q, _, h => by simp [insL, h y rfl]
  | y :: p, q, h, k => by
    have h1 := h y List.mem_cons_self
    rw [List.cons_append]
    unfold insL
    rw [if_neg (by rw [h1]; simp), insL_at (fun z hz => h z (List.mem_cons_of_mem _ hz)) k]
    rfl
theorem insL_map {β : Type} {nm' : β → ByteArray} (f : α → β) (hf : ∀ a, nm' (f a) = nm a) (x : α) : ∀ l : List α, (insL nm x l).map f = insL nm' (f x) (l.map f)
  | [] => rfl
  | y :: l => by
    unfold insL
    simp only [List.map_cons, hf]
    split
    · rfl
    · rw [List.map_cons, insL_map f hf x l]
theorem sortL_map {β : Type} {nm' : β → ByteArray} (f : α → β) (hf : ∀ a, nm' (f a) = nm a) (l : List α) : (sortL nm l).map f = sortL nm' (l.map f) := by
  refine snoc_ind (P := fun l => (sortL nm l).map f = sortL nm' (l.map f)) rfl (fun l x ih => ?_) l
  rw [sortL_snoc, insL_map f hf, ih, List.map_append, List.map_cons, List.map_nil, sortL_snoc]
end
def RetFL (w : World) (d : Nat) (t : Look) (e : Ending) (w' : World) : Prop := ∃ A c B e', e = .returned (.agg #[.string t.name, .slice A t.cols.length c, .slice B t.rows.length e']) ∧ (t.cols.length ≤ c ∧ t.rows.length ≤ e') ∧ RL w' (Fresh w) d t A B ∧ Ext w w'
set_option maxRecDepth 100000 in
theorem cmpstring (a b : ByteArray) (w : World) : Calls Tryz.prog 113 #[.string a, .string b] w fun e w' => e = .returned (.int .i64 (Lib.compareBytes a.data.toList b.data.toList)) ∧ w' = w := by
  go_enter Tryz.func113, Tryz.ntmps113
  go_wp2
  rw [run_callFunc_extern Tryz.func143 (by kernel_rfl) (by kernel_rfl) (by kernel_rfl) (e := Extern.BytealgCompare.compare) (by kernel_rfl), Lib.run_compareString]
  simp only [Result.andThen]
  rw [Oper.upon_value]
  go_wp2
  go_ret
  exact ⟨rfl, rfl⟩
set_option maxRecDepth 100000 in
theorem strings_Compare (a b : ByteArray) (w : World) : Calls Tryz.prog 79 #[.string a, .string b] w fun e w' => e = .returned (.int .i64 (Lib.compareBytes a.data.toList b.data.toList)) ∧ w' = w := by
  go_enter Tryz.func79, Tryz.ntmps79
  go_wp2_with fail
  refine (cmpstring a b w).mono ?_
  rintro e1 w1 ⟨rfl, rfl⟩
  go_wp2
  go_ret
  exact ⟨rfl, rfl⟩
set_option maxRecDepth 100000 in
theorem table_Set1 (x y : Look) (A B A' B' : Option Addr) (c e c' e' : Nat) (w : World) : Calls Tryz.prog 78 #[(.agg #[.string x.name, .slice A x.cols.length c, .slice B x.rows.length e]), (.agg #[.string y.name, .slice A' y.cols.length c', .slice B' y.rows.length e'])] w (fun r w' => ∃ n : Int, r = .returned (.int .i64 n) ∧ (n < 0 ↔ nlt x.name y.name = true) ∧ Ext w w') := by
  go_enter Tryz.func78, Tryz.ntmps78
  go_wp2_with fail
  refine (strings_Compare x.name y.name _).mono ?_
  rintro e1 w1 ⟨rfl, rfl⟩
  obtain ⟨n, hn⟩ : ∃ n, n = Lib.compareBytes x.name.data.toList y.name.data.toList := ⟨_, rfl⟩
  have HN := Lib.hid hn
  rw [← hn]
  clear hn
  go_wp2
  go_ret
  exact ⟨n, rfl, by rw [HN.out, compare_neg, nlt_iff], ((Ext.refl w).alloc _).alloc _⟩
def vZ4 (g : Nat) (n : Nat) (c : Nat) (j : Nat) (j1 : Nat) (x : LE) (y : LE) (b : Bool) : Nat → Value
  | 0 => .int .i64 (j : Int)
  | 1 => .int .i64 0
  | 2 => .bool true
  | 3 => .bool true
  | 4 => .func (.func 78) #[] #[]
  | 5 => .slice (some ⟨g, 0, none⟩) n c
  | 6 => .int .i64 (j : Int)
  | 7 => .pointer (some ⟨g, j * 3, none⟩)
  | 8 => (.agg #[.string x.t.name, .slice x.A x.t.cols.length x.c, .slice x.B x.t.rows.length x.e])
  | 9 => .slice (some ⟨g, 0, none⟩) n c
  | 10 => .int .i64 (j : Int)
  | 11 => .int .i64 (j1 : Int)
  | 12 => .pointer (some ⟨g, j1 * 3, none⟩)
  | 13 => (.agg #[.string y.t.name, .slice y.A y.t.cols.length y.c, .slice y.B y.t.rows.length y.e])
  | 15 => .bool b
  | 16 => .bool b
  | _ => undef
def gZ4 (g : Nat) (n : Nat) (c : Nat) (j : Nat) (j1 : Nat) (x : LE) (y : LE) (b : Bool) (ix : Nat) (vl : List Value) (_γ : Gh) (_w' : World) : Prop := match vl with
  | [v] => if ix = 14 then (∃ r : Int, v = .int .i64 r ∧ (r < 0 ↔ b = true)) else v = vZ4 g n c j j1 x y b ix
  | _ => True
theorem gZ4_st (g : Nat) (n : Nat) (c : Nat) (j : Nat) (j1 : Nat) (x : LE) (y : LE) (b : Bool) : ∀ ix vl γ w γ' w', LR γ w γ' w' → gZ4 g n c j j1 x y b ix vl γ w → gZ4 g n c j j1 x y b ix vl γ' w' := by
  intro ix vl γ w γ' w' r h
  match vl, h with
  | [v], h =>
    unfold gZ4 at h ⊢
    by_cases h14 : ix = 14
    · simp only [if_pos h14] at h ⊢
      exact h
    simp only [if_neg h14] at h ⊢
    exact h
  | [], _ => trivial
  | _ :: _ :: _, _ => trivial
def vZ4N (_g : Nat) (_n : Nat) (_c : Nat) (j : Nat) (_j1 : Nat) (_x : LE) (_y : LE) (_b : Bool) : Nat → Value
  | 0 => .int .i64 (j : Int)
  | 1 => .int .i64 0
  | 2 => .bool false
  | 3 => .bool false
  | 4 => undef
  | 5 => undef
  | 6 => undef
  | 7 => undef
  | 8 => undef
  | 9 => undef
  | 10 => undef
  | 11 => undef
  | 12 => undef
  | 13 => undef
  | 14 => undef
  | 15 => undef
  | 16 => .bool false
  | _ => undef
def gZ4N (g : Nat) (n : Nat) (c : Nat) (j : Nat) (j1 : Nat) (x : LE) (y : LE) (b : Bool) (ix : Nat) (vl : List Value) (_γ : Gh) (_w' : World) : Prop := match vl with
  | [v] => v = vZ4N g n c j j1 x y b ix
  | _ => True
theorem gZ4N_st (g : Nat) (n : Nat) (c : Nat) (j : Nat) (j1 : Nat) (x : LE) (y : LE) (b : Bool) : ∀ ix vl γ w γ' w', LR γ w γ' w' → gZ4N g n c j j1 x y b ix vl γ w → gZ4N g n c j j1 x y b ix vl γ' w' := by
  intro ix vl γ w γ' w' r h
  match vl, h with
  | [v], h =>
    unfold gZ4N at h ⊢
    exact h
  | [], _ => trivial
  | _ :: _ :: _, _ => trivial
def SwSInv (wr : World) (g _n _c _j _j1 N : Nat) (_x _y : LE) (γ : Nat) (w' : World) : Prop := γ ≤ 2 ∧ (γ ≤ 0 → Ext wr w') ∧ (γ ≤ 1 → ∃ cur, Blk w' g 28 cur ∧ cur.size = N)
def gSwS (wr : World) (g n c j j1 _N : Nat) (x y : LE) : Nat → List Value → Nat → World → Prop
  | 0, [v], _, _ => v = .slice (some ⟨g, 0, none⟩) n c
  | 1, [v], _, _ => v = .int .i64 (j : Int)
  | 2, [v], _, _ => v = .slice (some ⟨g, 0, none⟩) n c
  | 3, [v], _, _ => v = .int .i64 (j : Int)
  | 4, [v], _, _ => v = .int .i64 (j1 : Int)
  | 5, [v], _, _ => v = .slice (some ⟨g, 0, none⟩) n c
  | 6, [v], _, _ => v = .int .i64 (j : Int)
  | 7, [v], _, _ => v = .int .i64 (j1 : Int)
  | 8, [v], _, _ => v = .pointer (some ⟨g, j1 * 3, none⟩)
  | 9, [v], _, _ => v = (.agg #[.string y.t.name, .slice y.A y.t.cols.length y.c, .slice y.B y.t.rows.length y.e])
  | 10, [v], _, _ => v = .slice (some ⟨g, 0, none⟩) n c
  | 11, [v], _, _ => v = .int .i64 (j : Int)
  | 12, [v], _, _ => v = .pointer (some ⟨g, j * 3, none⟩)
  | 13, [v], _, _ => v = (.agg #[.string x.t.name, .slice x.A x.t.cols.length x.c, .slice x.B x.t.rows.length x.e])
  | 14, [v], _, _ => v = .pointer (some ⟨g, j * 3, none⟩)
  | 15, [_], γ, w' => 1 ≤ γ ∧ (γ = 1 → ∃ w3, Ext wr w3 ∧ w' = ((w3.setCell ⟨g, j * 3, none⟩ (.string y.t.name)).setCell ⟨g, j * 3 + 1, none⟩ (.slice y.A y.t.cols.length y.c)).setCell ⟨g, j * 3 + 2, none⟩ (.slice y.B y.t.rows.length y.e))
  | 16, [v], _, _ => v = .pointer (some ⟨g, j1 * 3, none⟩)
  | 17, [_], γ, w' => 2 ≤ γ ∧ (γ = 2 → ∃ w3, Ext wr w3 ∧ w' = (((((w3.setCell ⟨g, j * 3, none⟩ (.string y.t.name)).setCell ⟨g, j * 3 + 1, none⟩ (.slice y.A y.t.cols.length y.c)).setCell ⟨g, j * 3 + 2, none⟩ (.slice y.B y.t.rows.length y.e)).setCell ⟨g, j1 * 3, none⟩ (.string x.t.name)).setCell ⟨g, j1 * 3 + 1, none⟩ (.slice x.A x.t.cols.length x.c)).setCell ⟨g, j1 * 3 + 2, none⟩ (.slice x.B x.t.rows.length x.e))
  | _, _, _, _ => True
theorem gSwS_st (wr : World) (g n c j j1 N : Nat) (x y : LE) : ∀ i l' γ v γ' v', SR (SwSInv wr g n c j j1 N x y) γ v γ' v' → gSwS wr g n c j j1 N x y i l' γ v → gSwS wr g n c j j1 N x y i l' γ' v' := by
  intro i l' γ v γ' v' r h
  have hle := r.le
  unfold gSwS at h ⊢
  split at h
  all_goals first
    | exact h
    | (obtain ⟨h1, h2⟩ := h; exact ⟨h1, by omega⟩)
    | (obtain ⟨h1, h3, h4⟩ := h; exact ⟨h1, by omega, fun e => by rw [r.eq (by omega)]; exact h4 (by omega)⟩)
    | (obtain ⟨x0, h1, h3, h4⟩ := h; exact ⟨x0, h1, by omega, fun e => by rw [r.eq (by omega)]; exact h4 (by omega)⟩)
    | (obtain ⟨x0, x1, h1, h3, h4⟩ := h; exact ⟨x0, x1, h1, by omega, fun e => by rw [r.eq (by omega)]; exact h4 (by omega)⟩)
    | (obtain ⟨x0, x1, x2, h1, h3, h4⟩ := h; exact ⟨x0, x1, x2, h1, by omega, fun e => by rw [r.eq (by omega)]; exact h4 (by omega)⟩)
    | (obtain ⟨x0, x1, x2, x3, h1, h3, h4⟩ := h; exact ⟨x0, x1, x2, x3, h1, by omega, fun e => by rw [r.eq (by omega)]; exact h4 (by omega)⟩)
    | (obtain ⟨x0, x1, x2, x3, x4, h1, h3, h4⟩ := h; exact ⟨x0, x1, x2, x3, x4, h1, by omega, fun e => by rw [r.eq (by omega)]; exact h4 (by omega)⟩)
    | (obtain ⟨h3, h4⟩ := h; exact ⟨by omega, fun e => by rw [r.eq (by omega)]; exact h4 (by omega)⟩)
def dSwS : Nat → List Nat := fun i => [i]
def stSwS : List Nat := [100, 100, 100, 100, 100, 100, 100, 100, 100, 1, 100, 100, 100, 1, 100, 1, 100, 2]

set_option maxRecDepth 100000 in
set_option maxHeartbeats 1000000 in
theorem table_fresh (d : Nat) (t : Look) (A B : Option Addr) (c e : Nat) (w : World) (S : Nat → Prop) (h : RL w S d t A B) : Calls Tryz.prog 76 #[(.agg #[.string t.name, .slice A t.cols.length c, .slice B t.rows.length e])] w (RetFL w d t) := by
  have H := Lib.hid h
  clear h
  have hx0 : Ext w ((w.alloc (.cells #[.string t.name, .slice A t.cols.length c, .slice B t.rows.length e] 28)).alloc (.cells #[.string ⟨#[]⟩, .slice none 0 0, .slice none 0 0] 28)) := ((Ext.refl w).alloc _).alloc _
  have HX0 := Lib.hid hx0
  have HB0 := Lib.hid ((Blk.new w 28 #[.string t.name, .slice A t.cols.length c, .slice B t.rows.length e]).keep (Kept.alloc _ _ (.cells #[.string ⟨#[]⟩, .slice none 0 0, .slice none 0 0] 28)))
  have HB1 := Lib.hid (show Blk ((w.alloc (.cells #[.string t.name, .slice A t.cols.length c, .slice B t.rows.length e] 28)).alloc (.cells #[.string ⟨#[]⟩, .slice none 0 0, .slice none 0 0] 28)) (w.heap.size + 1) 28 #[.string ⟨#[]⟩, .slice none 0 0, .slice none 0 0] by
    have := Blk.new (w.alloc (.cells #[.string t.name, .slice A t.cols.length c, .slice B t.rows.length e] 28)) 28 #[.string ⟨#[]⟩, .slice none 0 0, .slice none 0 0]
    simpa using this)
  clear hx0
  go_enter Tryz.func76, Tryz.ntmps76
  go_wp2_with fail
  refine (value_Copy d (tabV t.cols t.rows) A B c e _ S (H.out.keep (HX0.out.kept _)).val).mono ?_
  rintro e1 w1 ⟨A1, c1, B1, e1', rfl, hcap, hrv, hx1⟩
  have HB0b := Lib.hid (HB0.out.keep (hx1.kept _))
  have HB1b := Lib.hid (HB1.out.keep (hx1.kept _))
  have l0 := HB0b.out.cell (i := 0) rfl
  have r0 := HB1b.out.cell (i := 0) rfl
  have r1 := HB1b.out.cell (i := 1) rfl
  have r2 := HB1b.out.cell (i := 2) rfl
  have lz := HB0b.out.lt
  have rz := HB1b.out.lt
  have rf := HB1b.out.frozen
  have HRV := Lib.hid hrv
  have HXF := Lib.hid (HX0.out.trans hx1)
  have hza : w.heap.size + 1 < w1.heap.size + 1 := by omega
  have hzb : w.heap.size < w1.heap.size + 1 := by omega
  have hne : w.heap.size + 1 ≠ w1.heap.size := by omega
  have hne2 : w.heap.size ≠ w1.heap.size := by omega
  have HSZ := Lib.hid (show (((w.alloc (.cells #[.string t.name, .slice A t.cols.length c, .slice B t.rows.length e] 28)).alloc (.cells #[.string ⟨#[]⟩, .slice none 0 0, .slice none 0 0] 28)).heap.size) = w.heap.size + 2 by simp)
  have HNZ := Lib.hid H.out.1
  clear hrv hx1 HB0 HB1
  simp only [tabV] at hcap ⊢
  go_wp2
  refine bodyPost_ret (v := (.agg #[.string t.name, .slice A1 t.cols.length c1, .slice B1 t.rows.length e1'])) (by simp [results, Tryz.results76, go_sem, r0, r1, r2, rz]) rfl ⟨A1, c1, B1, e1', rfl, hcap, ?_, ?_⟩
  · have hs := HRV.out
    have h3 : RL w1 (fun b => w.heap.size + 2 ≤ b) d t A1 B1 := ⟨HNZ.out, hs.strs.mono fun b _ hb => by unfold Fresh at hb; rw [HSZ.out] at hb; exact hb, hs.rows_.mono fun b _ hb => by unfold Fresh at hb; rw [HSZ.out] at hb; exact hb⟩
    refine (RL.keep h3 ?_).mono fun b _ hb => by unfold Fresh; omega
    refine Kept.trans ?_ (Kept.alloc _ _ _)
    iterate 3 with_reducible refine Kept.set2 ?_ (fun h => by omega)
    with_reducible exact Kept.refl _ _
  · refine Ext.alloc ?_ _
    iterate 3 with_reducible refine Ext.set2 ?_ (by omega) _
    with_reducible exact HXF.out

def RetSo (w : World) (g N : Nat) (es : List LE) (e : Ending) (w' : World) : Prop := e = .returned (.tuple #[]) ∧ But g w w' ∧ Srt w' g N (sortL LE.nm es)
set_option maxRecDepth 100000 in
set_option maxHeartbeats 4000000 in
theorem insertion_L (g N c : Nat) (es : List LE) (n : Nat) (hn : n = es.length) (hn1 : n ≤ 1000) (w : World) (h : Srt w g N es) :
    Calls Tryz.prog 141 #[.slice (some ⟨g, 0, none⟩) n c, .int .i64 0, .int .i64 (n : Int), .func (.func 78) #[] #[]] w (RetSo w g N es) := by
  have H := Lib.hid h
  have HN := Lib.hid hn
  clear h hn
  go_enter Tryz.func141, Tryz.ntmps141
  go_wp2
  go_loopw [8] (fun i wr => ∃ (k : Nat), 1 ≤ k ∧ (k ≤ n ∨ k = 1) ∧ i = .int .i64 k ∧ But g w wr ∧ Srt wr g N (sortL LE.nm (es.take k) ++ es.drop k)) (fun i _ => n + 1 - (intOf i).toNat)
  case atStart =>
    refine ⟨1, Nat.le_refl _, .inr rfl, rfl, But.refl _ _, ?_⟩
    have h1 : sortL LE.nm (es.take 1) = es.take 1 := by
      match es with
      | [] => rfl
      | x :: _ => rfl
    rw [h1, List.take_append_drop]
    exact H.out
  case round =>
    obtain ⟨k, hk1, hkn, rfl, hbut, hsrt⟩ := hrel
    have HB := Lib.hid hbut
    have HS := Lib.hid hsrt
    clear hbut hsrt
    by_cases hlt : k < n
    · have hke : k < es.length := by rw [← HN.out]; exact hlt
      obtain ⟨x, hx⟩ : ∃ x, x = es[k] := ⟨_, rfl⟩
      obtain ⟨p, hp⟩ : ∃ p, p = sortL LE.nm (es.take k) := ⟨_, rfl⟩
      obtain ⟨q, hq⟩ : ∃ q, q = es.drop (k + 1) := ⟨_, rfl⟩
      have hpl : p.length = k := by rw [hp, len_sortL, List.length_take]; omega
      have hql : q.length + k + 1 = n := by rw [hq, List.length_drop, HN.out]; omega
      have HP := Lib.hid hp
      have HQ := Lib.hid hq
      have HX := Lib.hid hx
      have HPL := Lib.hid hpl
      have HQL := Lib.hid hql
      have HPS := Lib.hid (show SrtL LE.nm p by rw [hp]; exact SrtL.sort _)
      have HS0 := Lib.hid (show Srt wr g N (p ++ x :: q) by have h1 := HS.out; rw [List.drop_eq_getElem_cons hke, ← hp, ← hq, ← hx] at h1; exact h1)
      clear hx hp hq hpl hql HS
      go_wp2
      obtain ⟨wo, rfl⟩ : ∃ wo : World, wo = wr := ⟨_, rfl⟩
      go_loopw [9] (fun v wr => ∃ (j : Nat) (p1 p2 : List LE), j ≤ k ∧ v = .int .i64 j ∧ p = p1 ++ p2 ∧ p1.length = j ∧ (∀ y ∈ p2, nlt (LE.nm x) (LE.nm y) = true) ∧ But g w wr ∧ Srt wr g N (p1 ++ x :: p2 ++ q)) (fun v _ => (intOf v).toNat)
      case atStart => exact ⟨k, p, [], Nat.le_refl _, rfl, by simp, HPL.out, by simp, HB.out, by simpa using HS0.out⟩
      case round =>
        clear HS0 HB
        obtain ⟨j, p1, p2, hjk, rfl, hpp, hp1, hall, hbut, hsrt⟩ := hrel
        have HB := Lib.hid hbut
        have HS := Lib.hid hsrt
        have HPP := Lib.hid hpp
        have HP1 := Lib.hid hp1
        have HALL := Lib.hid hall
        clear hbut hsrt hpp hp1 hall
        by_cases hj0 : j = 0
        · have HJ0 := Lib.hid hj0
          obtain ⟨j1, hj1⟩ : ∃ j1 : Nat, j1 = 0 := ⟨_, rfl⟩
          obtain ⟨y, hy⟩ : ∃ y, y = x := ⟨_, rfl⟩
          obtain ⟨b, hb⟩ : ∃ b, b = false := ⟨_, rfl⟩
          have HDONE := Lib.hid (show insL LE.nm x p = p1 ++ x :: p2 from by
            rw [HPP.out]
            refine insL_at (fun z hz => ?_) (fun z hz => HALL.out z (List.mem_of_mem_head? hz))
            have : p1 = [] := List.eq_nil_of_length_eq_zero (by rw [HP1.out]; exact hj0)
            rw [this] at hz
            cases hz)
          clear hj0 hj1 hy hb
          go_upto_region 4 with fail
          refine wp_region_lin_lit (by kernel_rfl) (fun i => [i]) (by kernel_rfl) LR LR.refl LR.trans (LN (al0)) (gZ4N g n c j j1 x y b) (gZ4N_st _ _ _ _ _ _ _ _) gh0 (LN.zero _) ⟨?_, ?_, ?_, ?_, ?_, ?_, ?_, ?_, ?_, ?_, ?_, ?_, ?_, ?_, ?_, ?_, ?_, trivial⟩ ?_
          · refine LinStep.yes fun vals γ w' ρ hR hN hp hρ hc hf hg => ⟨rfl, ?_⟩
            have e9 : ρ (.tmp 9) = .int .i64 (j : Int) := hρ 9
            have hx := hR.drew_ext
            have HR := Lib.hid hR
            have HN := Lib.hid hN
            clear hR hN hp hρ hx
            go_light
            go_simp
            exact ⟨γ, LR.refl _ _, fun _ _ _ h => h, rfl⟩
          · refine LinStep.yes fun vals γ w' ρ hR hN hp hρ hc hf hg => ⟨rfl, ?_⟩
            have e1 : ρ (.tmp 1) = .int .i64 0 := hρ 1
            have hx := hR.drew_ext
            have HR := Lib.hid hR
            have HN := Lib.hid hN
            clear hR hN hp hρ hx
            go_light
            go_simp
            exact ⟨γ, LR.refl _ _, fun _ _ _ h => h, rfl⟩
          · refine LinStep.yes fun vals γ w' ρ hR hN hp hρ hc hf hg => ⟨rfl, ?_⟩
            have e18 : ρ (.tmp 18) = .int .i64 (j : Int) := (hρ 18).trans (hp 0 (by decide))
            have e19 : ρ (.tmp 19) = .int .i64 0 := (hρ 19).trans (hp 1 (by decide))
            have hx := hR.drew_ext
            have i1 : j = 0 := HJ0.out
            have HR := Lib.hid hR
            have HN := Lib.hid hN
            clear hR hN hp hρ hx
            go_light
            go_simp
            exact ⟨γ, LR.refl _ _, fun _ _ _ h => h, rfl⟩
          · refine LinStep.yes fun vals γ w' ρ hR hN hp hρ hc hf hg => ⟨rfl, ?_⟩
            have e20 : ρ (.tmp 20) = .bool false := (hρ 20).trans (hp 2 (by decide))
            have hx := hR.drew_ext
            have HR := Lib.hid hR
            have HN := Lib.hid hN
            clear hR hN hp hρ hx
            go_light
            go_simp
            exact ⟨γ, LR.refl _ _, fun _ _ _ h => h, rfl⟩
          · refine LinStep.no fun vals γ w' hp => ⟨by show (boolOf (vals 3) == some true) = false; rw [show vals 3 = .bool false from hp 3 (by decide)]; rfl, rfl⟩
          · refine LinStep.no fun vals γ w' hp => ⟨by show (boolOf (vals 3) == some true) = false; rw [show vals 3 = .bool false from hp 3 (by decide)]; rfl, rfl⟩
          · refine LinStep.no fun vals γ w' hp => ⟨by show (boolOf (vals 3) == some true) = false; rw [show vals 3 = .bool false from hp 3 (by decide)]; rfl, rfl⟩
          · refine LinStep.no fun vals γ w' hp => ⟨by show (boolOf (vals 3) == some true) = false; rw [show vals 3 = .bool false from hp 3 (by decide)]; rfl, rfl⟩
          · refine LinStep.no fun vals γ w' hp => ⟨by show (boolOf (vals 3) == some true) = false; rw [show vals 3 = .bool false from hp 3 (by decide)]; rfl, rfl⟩
          · refine LinStep.no fun vals γ w' hp => ⟨by show (boolOf (vals 3) == some true) = false; rw [show vals 3 = .bool false from hp 3 (by decide)]; rfl, rfl⟩
          · refine LinStep.no fun vals γ w' hp => ⟨by show (boolOf (vals 3) == some true) = false; rw [show vals 3 = .bool false from hp 3 (by decide)]; rfl, rfl⟩
          · refine LinStep.no fun vals γ w' hp => ⟨by show (boolOf (vals 3) == some true) = false; rw [show vals 3 = .bool false from hp 3 (by decide)]; rfl, rfl⟩
          · refine LinStep.no fun vals γ w' hp => ⟨by show (boolOf (vals 3) == some true) = false; rw [show vals 3 = .bool false from hp 3 (by decide)]; rfl, rfl⟩
          · refine LinStep.no fun vals γ w' hp => ⟨by show (boolOf (vals 3) == some true) = false; rw [show vals 3 = .bool false from hp 3 (by decide)]; rfl, rfl⟩
          · refine LinStep.no fun vals γ w' hp => ⟨by show (boolOf (vals 3) == some true) = false; rw [show vals 3 = .bool false from hp 3 (by decide)]; rfl, rfl⟩
          · refine LinStep.no fun vals γ w' hp => ⟨by show (boolOf (vals 3) == some true) = false; rw [show vals 3 = .bool false from hp 3 (by decide)]; rfl, rfl⟩
          · refine LinStep.yes fun vals γ w' ρ hR hN hp hρ hc hf hg => ⟨rfl, ?_⟩
            have e21 : ρ (.tmp 21) = .bool false := (hρ 21).trans (hp 3 (by decide))
            have hx := hR.drew_ext
            have HR := Lib.hid hR
            have HN := Lib.hid hN
            clear hR hN hp hρ hx
            go_light
            go_simp
            exact ⟨γ, LR.refl _ _, fun _ _ _ h => h, rfl⟩
          · intro vals γ w6 hR hG
            have h16 : vals 16 = .bool false := hG 16 (by decide)
            have hx6 := hR.drew_ext
            have HB6 := Lib.hid (HB.out.trans (But.of_ext hx6))
            have HS6 := Lib.hid (HS.out.keep (hx6.kept _))
            clear hR hG hx6
            simp only [lexFrame, Act.put, List.setIfInBounds_toArray, List.set_cons_succ, List.set_cons_zero, Nat.zero_add, Nat.reduceAdd, h16]
            generalize vals 0 = u0, vals 1 = u1, vals 2 = u2, vals 3 = u3, vals 4 = u4, vals 5 = u5, vals 6 = u6, vals 7 = u7, vals 8 = u8, vals 9 = u9, vals 10 = u10, vals 11 = u11, vals 12 = u12, vals 13 = u13, vals 14 = u14, vals 15 = u15
            clear h16
            go_wp2
            go_roundw
            case rel => exact ⟨k + 1, by omega, by omega, by go_num, HB6.out, by rw [List.take_succ_eq_append_getElem hke, sortL_snoc, ← HP.out, ← HX.out, HDONE.out, ← HQ.out]; exact HS6.out⟩
            case measure => simp [intOf]; omega
        · obtain ⟨j1, hj1⟩ : ∃ j1, j = j1 + 1 := ⟨j - 1, by omega⟩
          have hne : p1 ≠ [] := fun e => by have := HP1.out; rw [e] at this; simp at this; omega
          obtain ⟨p', hp'⟩ : ∃ p', p' = p1.dropLast := ⟨_, rfl⟩
          obtain ⟨y, hy⟩ : ∃ y, y = p1.getLast hne := ⟨_, rfl⟩
          have hsplit : p1 = p' ++ [y] := by rw [hp', hy, List.dropLast_concat_getLast]
          have hpl' : p'.length = j1 := by have := HP1.out; rw [hsplit] at this; simp at this; omega
          have HSP := Lib.hid hsplit
          have HPL' := Lib.hid hpl'
          have hsy : Srt wr g N (p' ++ y :: x :: (p2 ++ q)) := by have h1 := HS.out; rw [hsplit] at h1; simpa using h1
          obtain ⟨y0, y1, y2⟩ := hsy.cells (j := j1) (x := y) (by rw [List.getElem?_append_right (by omega), hpl', Nat.sub_self]; rfl)
          obtain ⟨x0, x1, x2⟩ := hsy.cells (j := j) (x := x) (by rw [List.getElem?_append_right (by omega), hpl', hj1, Nat.add_sub_cancel_left]; rfl)
          have Y0 := Lib.hid y0
          have Y1 := Lib.hid y1
          have Y2 := Lib.hid y2
          have X0 := Lib.hid x0
          have X1 := Lib.hid x1
          have X2 := Lib.hid x2
          obtain ⟨b, hb⟩ : ∃ b, b = nlt x.t.name y.t.name := ⟨_, rfl⟩
          have HBE := Lib.hid hb
          have HSY := Lib.hid hsy
          have HJW := Lib.hid (show (j : Int) - 1 = (j1 : Int) by omega)
          have HJ1 := Lib.hid hj1
          have HJ2 := Lib.hid (show IntKind.i64.wrap (j1 : Int) = (j1 : Int) from IntWalk.i64_in _ (by omega))
          have hj1j : j1 < j := by omega
          have hjn : j < n := by omega
          have hj1n : j1 < n := by omega
          have hjp : 0 < j := by omega
          clear hj1 hne hp' hy hsplit hpl' hsy y0 y1 y2 x0 x1 x2 hb
          go_upto_region 4 with fail
          refine wp_region_lin_lit (by kernel_rfl) (fun i => [i]) (by kernel_rfl) LR LR.refl LR.trans (LN (al0)) (gZ4 g n c j j1 x y b) (gZ4_st _ _ _ _ _ _ _ _) gh0 (LN.zero _) ⟨?_, ?_, ?_, ?_, ?_, ?_, ?_, ?_, ?_, ?_, ?_, ?_, ?_, ?_, ?_, ?_, ?_, trivial⟩ ?_
          · refine LinStep.yes fun vals γ w' ρ hR hN hp hρ hc hf hg => ⟨rfl, ?_⟩
            have e9 : ρ (.tmp 9) = .int .i64 (j : Int) := hρ 9
            have hx := hR.drew_ext
            have HR := Lib.hid hR
            have HN := Lib.hid hN
            clear hR hN hp hρ hx
            go_light
            go_simp
            exact ⟨γ, LR.refl _ _, fun _ _ _ h => h, rfl⟩
          · refine LinStep.yes fun vals γ w' ρ hR hN hp hρ hc hf hg => ⟨rfl, ?_⟩
            have e1 : ρ (.tmp 1) = .int .i64 0 := hρ 1
            have hx := hR.drew_ext
            have HR := Lib.hid hR
            have HN := Lib.hid hN
            clear hR hN hp hρ hx
            go_light
            go_simp
            exact ⟨γ, LR.refl _ _, fun _ _ _ h => h, rfl⟩
          · refine LinStep.yes fun vals γ w' ρ hR hN hp hρ hc hf hg => ⟨rfl, ?_⟩
            have e18 : ρ (.tmp 18) = .int .i64 (j : Int) := (hρ 18).trans (hp 0 (by decide))
            have e19 : ρ (.tmp 19) = .int .i64 0 := (hρ 19).trans (hp 1 (by decide))
            have hx := hR.drew_ext
            have i1 : (0 : Int) < (j : Int) := by omega
            have i2 : 0 < j := by omega
            have HR := Lib.hid hR
            have HN := Lib.hid hN
            clear hR hN hp hρ hx
            go_light
            go_simp
            exact ⟨γ, LR.refl _ _, fun _ _ _ h => h, rfl⟩
          · refine LinStep.yes fun vals γ w' ρ hR hN hp hρ hc hf hg => ⟨rfl, ?_⟩
            have e20 : ρ (.tmp 20) = .bool true := (hρ 20).trans (hp 2 (by decide))
            have hx := hR.drew_ext
            have HR := Lib.hid hR
            have HN := Lib.hid hN
            clear hR hN hp hρ hx
            go_light
            go_simp
            exact ⟨γ, LR.refl _ _, fun _ _ _ h => h, rfl⟩
          · refine LinStep.yes fun vals γ w' ρ hR hN hp hρ hc hf hg => ⟨by show (boolOf (vals 3) == some true) = true; rw [show vals 3 = .bool true from hp 3 (by decide)]; rfl, ?_⟩
            have e3 : ρ (.tmp 3) = .func (.func 78) #[] #[] := hρ 3
            have hx := hR.drew_ext
            have HR := Lib.hid hR
            have HN := Lib.hid hN
            clear hR hN hp hρ hx
            go_light
            go_simp
            exact ⟨γ, LR.refl _ _, fun _ _ _ h => h, rfl⟩
          · refine LinStep.yes fun vals γ w' ρ hR hN hp hρ hc hf hg => ⟨by show (boolOf (vals 3) == some true) = true; rw [show vals 3 = .bool true from hp 3 (by decide)]; rfl, ?_⟩
            have e0 : ρ (.tmp 0) = .slice (some ⟨g, 0, none⟩) n c := hρ 0
            have hx := hR.drew_ext
            have HR := Lib.hid hR
            have HN := Lib.hid hN
            clear hR hN hp hρ hx
            go_light
            go_simp
            exact ⟨γ, LR.refl _ _, fun _ _ _ h => h, rfl⟩
          · refine LinStep.yes fun vals γ w' ρ hR hN hp hρ hc hf hg => ⟨by show (boolOf (vals 3) == some true) = true; rw [show vals 3 = .bool true from hp 3 (by decide)]; rfl, ?_⟩
            have e9 : ρ (.tmp 9) = .int .i64 (j : Int) := hρ 9
            have hx := hR.drew_ext
            have HR := Lib.hid hR
            have HN := Lib.hid hN
            clear hR hN hp hρ hx
            go_light
            go_simp
            exact ⟨γ, LR.refl _ _, fun _ _ _ h => h, rfl⟩
          · refine LinStep.yes fun vals γ w' ρ hR hN hp hρ hc hf hg => ⟨by show (boolOf (vals 3) == some true) = true; rw [show vals 3 = .bool true from hp 3 (by decide)]; rfl, ?_⟩
            have e23 : ρ (.tmp 23) = .slice (some ⟨g, 0, none⟩) n c := (hρ 23).trans (hp 5 (by decide))
            have e24 : ρ (.tmp 24) = .int .i64 (j : Int) := (hρ 24).trans (hp 6 (by decide))
            have hx := hR.drew_ext
            have i0 : (0 : Int) ≤ (j : Int) := by omega
            have i1 : (j : Int) < (n : Int) := by omega
            have HR := Lib.hid hR
            have HN := Lib.hid hN
            clear hR hN hp hρ hx
            go_light
            go_simp
            exact ⟨γ, LR.refl _ _, fun _ _ _ h => h, rfl⟩
          · refine LinStep.yes fun vals γ w' ρ hR hN hp hρ hc hf hg => ⟨by show (boolOf (vals 3) == some true) = true; rw [show vals 3 = .bool true from hp 3 (by decide)]; rfl, ?_⟩
            have e25 : ρ (.tmp 25) = .pointer (some ⟨g, j * 3, none⟩) := (hρ 25).trans (hp 7 (by decide))
            have hx := hR.drew_ext
            have x0 := hx.cell X0.out
            have x1 := hx.cell X1.out
            have x2 := hx.cell X2.out
            have HR := Lib.hid hR
            have HN := Lib.hid hN
            clear hR hN hp hρ hx
            go_light
            go_simp
            exact ⟨γ, LR.refl _ _, fun _ _ _ h => h, rfl⟩
          · refine LinStep.yes fun vals γ w' ρ hR hN hp hρ hc hf hg => ⟨by show (boolOf (vals 3) == some true) = true; rw [show vals 3 = .bool true from hp 3 (by decide)]; rfl, ?_⟩
            have e0 : ρ (.tmp 0) = .slice (some ⟨g, 0, none⟩) n c := hρ 0
            have hx := hR.drew_ext
            have HR := Lib.hid hR
            have HN := Lib.hid hN
            clear hR hN hp hρ hx
            go_light
            go_simp
            exact ⟨γ, LR.refl _ _, fun _ _ _ h => h, rfl⟩
          · refine LinStep.yes fun vals γ w' ρ hR hN hp hρ hc hf hg => ⟨by show (boolOf (vals 3) == some true) = true; rw [show vals 3 = .bool true from hp 3 (by decide)]; rfl, ?_⟩
            have e9 : ρ (.tmp 9) = .int .i64 (j : Int) := hρ 9
            have hx := hR.drew_ext
            have HR := Lib.hid hR
            have HN := Lib.hid hN
            clear hR hN hp hρ hx
            go_light
            go_simp
            exact ⟨γ, LR.refl _ _, fun _ _ _ h => h, rfl⟩
          · refine LinStep.yes fun vals γ w' ρ hR hN hp hρ hc hf hg => ⟨by show (boolOf (vals 3) == some true) = true; rw [show vals 3 = .bool true from hp 3 (by decide)]; rfl, ?_⟩
            have e28 : ρ (.tmp 28) = .int .i64 (j : Int) := (hρ 28).trans (hp 10 (by decide))
            have hx := hR.drew_ext
            have i1 := HJW.out
            have i2 := HJ2.out
            have HR := Lib.hid hR
            have HN := Lib.hid hN
            clear hR hN hp hρ hx
            go_light
            go_simp
            exact ⟨γ, LR.refl _ _, fun _ _ _ h => h, rfl⟩
          · refine LinStep.yes fun vals γ w' ρ hR hN hp hρ hc hf hg => ⟨by show (boolOf (vals 3) == some true) = true; rw [show vals 3 = .bool true from hp 3 (by decide)]; rfl, ?_⟩
            have e27 : ρ (.tmp 27) = .slice (some ⟨g, 0, none⟩) n c := (hρ 27).trans (hp 9 (by decide))
            have e29 : ρ (.tmp 29) = .int .i64 (j1 : Int) := (hρ 29).trans (hp 11 (by decide))
            have hx := hR.drew_ext
            have i0 : (0 : Int) ≤ (j1 : Int) := by omega
            have i1 : (j1 : Int) < (n : Int) := by omega
            have HR := Lib.hid hR
            have HN := Lib.hid hN
            clear hR hN hp hρ hx
            go_light
            go_simp
            exact ⟨γ, LR.refl _ _, fun _ _ _ h => h, rfl⟩
          · refine LinStep.yes fun vals γ w' ρ hR hN hp hρ hc hf hg => ⟨by show (boolOf (vals 3) == some true) = true; rw [show vals 3 = .bool true from hp 3 (by decide)]; rfl, ?_⟩
            have e30 : ρ (.tmp 30) = .pointer (some ⟨g, j1 * 3, none⟩) := (hρ 30).trans (hp 12 (by decide))
            have hx := hR.drew_ext
            have y0 := hx.cell Y0.out
            have y1 := hx.cell Y1.out
            have y2 := hx.cell Y2.out
            have HR := Lib.hid hR
            have HN := Lib.hid hN
            clear hR hN hp hρ hx
            go_light
            go_simp
            exact ⟨γ, LR.refl _ _, fun _ _ _ h => h, rfl⟩
          · refine LinStep.yes fun vals γ w' ρ hR hN hp hρ hc hf hg => ⟨by show (boolOf (vals 3) == some true) = true; rw [show vals 3 = .bool true from hp 3 (by decide)]; rfl, ?_⟩
            have e22 : ρ (.tmp 22) = .func (.func 78) #[] #[] := (hρ 22).trans (hp 4 (by decide))
            have e26 : ρ (.tmp 26) = (.agg #[.string x.t.name, .slice x.A x.t.cols.length x.c, .slice x.B x.t.rows.length x.e]) := (hρ 26).trans (hp 8 (by decide))
            have e31 : ρ (.tmp 31) = (.agg #[.string y.t.name, .slice y.A y.t.cols.length y.c, .slice y.B y.t.rows.length y.e]) := (hρ 31).trans (hp 13 (by decide))
            have hx := hR.drew_ext
            have HR := Lib.hid hR
            have HN := Lib.hid hN
            clear hR hN hp hρ hx
            go_light
            go_simp
            refine (table_Set1 x.t y.t x.A x.B y.A y.B x.c x.e y.c y.e w').mono ?_
            rintro e' w3 ⟨r, he, hr, hx⟩
            exact ⟨_, he, γ, LR.of_ext γ hx, fun _ _ _ h => h, r, rfl, by rw [HBE.out]; exact hr⟩
          · refine LinStep.yes fun vals γ w' ρ hR hN hp hρ hc hf hg => ⟨by show (boolOf (vals 3) == some true) = true; rw [show vals 3 = .bool true from hp 3 (by decide)]; rfl, ?_⟩
            obtain ⟨r, hr0, hr1⟩ := hp 14 (by decide)
            have e32 : ρ (.tmp 32) = _ := (hρ 32).trans hr0
            have HR1 := Lib.hid hr1
            clear hr0 hr1
            have hx := hR.drew_ext
            have HR := Lib.hid hR
            have HN := Lib.hid hN
            clear hR hN hp hρ hx
            go_light
            go_simp
            refine ⟨γ, LR.refl _ _, fun _ _ _ h => h, ?_⟩
            show Value.bool (decide (r < 0)) = Value.bool b
            rw [show decide (r < 0) = b by cases b <;> simp [HR1.out]]
          · refine LinStep.yes fun vals γ w' ρ hR hN hp hρ hc hf hg => ⟨rfl, ?_⟩
            have e21 : ρ (.tmp 21) = .bool true := (hρ 21).trans (hp 3 (by decide))
            have e33 : ρ (.tmp 33) = .bool b := (hρ 33).trans (hp 15 (by decide))
            have hx := hR.drew_ext
            have HR := Lib.hid hR
            have HN := Lib.hid hN
            clear hR hN hp hρ hx
            go_light
            go_simp
            exact ⟨γ, LR.refl _ _, fun _ _ _ h => h, rfl⟩
          · intro vals γ w6 hR hG
            have h16 : vals 16 = .bool b := hG 16 (by decide)
            have hx6 := hR.drew_ext
            have HB6 := Lib.hid (HB.out.trans (But.of_ext hx6))
            have HS6 := Lib.hid (HS.out.keep (hx6.kept _))
            have HSY6 := Lib.hid (HSY.out.keep (hx6.kept _))
            have X0' := Lib.hid (hx6.cell X0.out)
            have X1' := Lib.hid (hx6.cell X1.out)
            have X2' := Lib.hid (hx6.cell X2.out)
            have Y0' := Lib.hid (hx6.cell Y0.out)
            have Y1' := Lib.hid (hx6.cell Y1.out)
            have Y2' := Lib.hid (hx6.cell Y2.out)
            clear hR hG hx6 X0 X1 X2 Y0 Y1 Y2
            simp only [lexFrame, Act.put, List.setIfInBounds_toArray, List.set_cons_succ, List.set_cons_zero, Nat.zero_add, Nat.reduceAdd, h16]
            generalize vals 0 = u0, vals 1 = u1, vals 2 = u2, vals 3 = u3, vals 4 = u4, vals 5 = u5, vals 6 = u6, vals 7 = u7, vals 8 = u8, vals 9 = u9, vals 10 = u10, vals 11 = u11, vals 12 = u12, vals 13 = u13, vals 14 = u14, vals 15 = u15
            clear h16
            cases b
            · have HDONE := Lib.hid (show insL LE.nm x p = p1 ++ x :: p2 from by
                have hbf : nlt (LE.nm x) (LE.nm y) = false := HBE.out.symm
                rw [HPP.out]
                refine insL_at (fun z hz => ?_) (fun z hz => HALL.out z (List.mem_of_mem_head? hz))
                rw [HSP.out] at hz
                rcases List.mem_append.1 hz with hz | hz
                · have hsort := HPS.out
                  rw [HPP.out, HSP.out, List.append_assoc] at hsort
                  have h3 : nlt (LE.nm y) (LE.nm z) = false := (List.pairwise_append.1 hsort).2.2 z hz y (by simp)
                  cases h4 : nlt (LE.nm x) (LE.nm z)
                  · rfl
                  · rw [nlt_le_trans h4 h3] at hbf; cases hbf
                · simp at hz; rw [hz]; exact hbf)
              go_wp2
              go_roundw
              case rel => exact ⟨k + 1, by omega, by omega, by go_num, HB6.out, by rw [List.take_succ_eq_append_getElem hke, sortL_snoc, ← HP.out, ← HX.out, HDONE.out, ← HQ.out]; exact HS6.out⟩
              case measure => simp [intOf]; omega
            · obtain ⟨cur, hbk, hns, hle, -⟩ := HSY6.out
              have HBK := Lib.hid hbk
              have HNS := Lib.hid hns
              have hlen : (j + 1) * 3 ≤ N := by have h1 := HPL'.out; have h2 := HJ1.out; simp at hle; omega
              have X0 := X0'
              have X1 := X1'
              have X2 := X2'
              have Y0 := Y0'
              have Y1 := Y1'
              have Y2 := Y2'
              obtain ⟨wr', hwr'⟩ : ∃ wr', wr' = wr := ⟨_, rfl⟩
              clear hwr' hbk hns hle
              go_upto_region 6 with fail
              refine wp_region_lin_lit (by kernel_rfl) dSwS (by kernel_rfl) (SR (SwSInv w6 g n c j j1 N x y)) (SR.refl _) (SR.trans _) (SN stSwS) (gSwS w6 g n c j j1 N x y) (gSwS_st _ _ _ _ _ _ _ _ _) 0 (SN.zero (by decide)) ⟨?_, ?_, ?_, ?_, ?_, ?_, ?_, ?_, ?_, ?_, ?_, ?_, ?_, ?_, ?_, ?_, ?_, ?_, trivial⟩ ?_
              · refine LinStep.yes fun vals γ w' ρ hR hN hp hρ hc hf hg => ⟨rfl, ?_⟩
                have hi := hR.inv ⟨by omega, fun _ => (Ext.refl w6).drew, fun _ => ⟨_, HBK.out.keep (Kept.drew _ _), HNS.out⟩⟩
                have e0 : ρ (.tmp 0) = .slice (some ⟨g, 0, none⟩) n c := hρ 0
                clear hR hN hp hρ hi
                go_light
                go_simp
                exact ⟨γ, SR.refl _ _ _, fun _ _ _ h => h, rfl⟩
              · refine LinStep.yes fun vals γ w' ρ hR hN hp hρ hc hf hg => ⟨rfl, ?_⟩
                have hi := hR.inv ⟨by omega, fun _ => (Ext.refl w6).drew, fun _ => ⟨_, HBK.out.keep (Kept.drew _ _), HNS.out⟩⟩
                have e9 : ρ (.tmp 9) = .int .i64 (j : Int) := hρ 9
                clear hR hN hp hρ hi
                go_light
                go_simp
                exact ⟨γ, SR.refl _ _ _, fun _ _ _ h => h, rfl⟩
              · refine LinStep.yes fun vals γ w' ρ hR hN hp hρ hc hf hg => ⟨rfl, ?_⟩
                have hi := hR.inv ⟨by omega, fun _ => (Ext.refl w6).drew, fun _ => ⟨_, HBK.out.keep (Kept.drew _ _), HNS.out⟩⟩
                have e0 : ρ (.tmp 0) = .slice (some ⟨g, 0, none⟩) n c := hρ 0
                clear hR hN hp hρ hi
                go_light
                go_simp
                exact ⟨γ, SR.refl _ _ _, fun _ _ _ h => h, rfl⟩
              · refine LinStep.yes fun vals γ w' ρ hR hN hp hρ hc hf hg => ⟨rfl, ?_⟩
                have hi := hR.inv ⟨by omega, fun _ => (Ext.refl w6).drew, fun _ => ⟨_, HBK.out.keep (Kept.drew _ _), HNS.out⟩⟩
                have e9 : ρ (.tmp 9) = .int .i64 (j : Int) := hρ 9
                clear hR hN hp hρ hi
                go_light
                go_simp
                exact ⟨γ, SR.refl _ _ _, fun _ _ _ h => h, rfl⟩
              · refine LinStep.yes fun vals γ w' ρ hR hN hp hρ hc hf hg => ⟨rfl, ?_⟩
                have hi := hR.inv ⟨by omega, fun _ => (Ext.refl w6).drew, fun _ => ⟨_, HBK.out.keep (Kept.drew _ _), HNS.out⟩⟩
                have e40 : ρ (.tmp 40) = _ := (hρ 40).trans (hp 3 (by decide))
                have i1 := HJW.out
                have i2 := HJ2.out
                clear hR hN hp hρ hi
                go_light
                go_simp
                exact ⟨γ, SR.refl _ _ _, fun _ _ _ h => h, rfl⟩
              · refine LinStep.yes fun vals γ w' ρ hR hN hp hρ hc hf hg => ⟨rfl, ?_⟩
                have hi := hR.inv ⟨by omega, fun _ => (Ext.refl w6).drew, fun _ => ⟨_, HBK.out.keep (Kept.drew _ _), HNS.out⟩⟩
                have e0 : ρ (.tmp 0) = .slice (some ⟨g, 0, none⟩) n c := hρ 0
                clear hR hN hp hρ hi
                go_light
                go_simp
                exact ⟨γ, SR.refl _ _ _, fun _ _ _ h => h, rfl⟩
              · refine LinStep.yes fun vals γ w' ρ hR hN hp hρ hc hf hg => ⟨rfl, ?_⟩
                have hi := hR.inv ⟨by omega, fun _ => (Ext.refl w6).drew, fun _ => ⟨_, HBK.out.keep (Kept.drew _ _), HNS.out⟩⟩
                have e9 : ρ (.tmp 9) = .int .i64 (j : Int) := hρ 9
                clear hR hN hp hρ hi
                go_light
                go_simp
                exact ⟨γ, SR.refl _ _ _, fun _ _ _ h => h, rfl⟩
              · refine LinStep.yes fun vals γ w' ρ hR hN hp hρ hc hf hg => ⟨rfl, ?_⟩
                have hi := hR.inv ⟨by omega, fun _ => (Ext.refl w6).drew, fun _ => ⟨_, HBK.out.keep (Kept.drew _ _), HNS.out⟩⟩
                have e43 : ρ (.tmp 43) = _ := (hρ 43).trans (hp 6 (by decide))
                have i1 := HJW.out
                have i2 := HJ2.out
                clear hR hN hp hρ hi
                go_light
                go_simp
                exact ⟨γ, SR.refl _ _ _, fun _ _ _ h => h, rfl⟩
              · refine LinStep.yes fun vals γ w' ρ hR hN hp hρ hc hf hg => ⟨rfl, ?_⟩
                have hi := hR.inv ⟨by omega, fun _ => (Ext.refl w6).drew, fun _ => ⟨_, HBK.out.keep (Kept.drew _ _), HNS.out⟩⟩
                have e42 : ρ (.tmp 42) = _ := (hρ 42).trans (hp 5 (by decide))
                have e44 : ρ (.tmp 44) = _ := (hρ 44).trans (hp 7 (by decide))
                have i0 : (0 : Int) ≤ (j1 : Int) := by omega
                have i1 : (j1 : Int) < (n : Int) := by omega
                clear hR hN hp hρ hi
                go_light
                go_simp
                exact ⟨γ, SR.refl _ _ _, fun _ _ _ h => h, rfl⟩
              · refine LinStep.yes fun vals γ w' ρ hR hN hp hρ hc hf hg => ⟨rfl, ?_⟩
                have hi := hR.inv ⟨by omega, fun _ => (Ext.refl w6).drew, fun _ => ⟨_, HBK.out.keep (Kept.drew _ _), HNS.out⟩⟩
                have e45 : ρ (.tmp 45) = _ := (hρ 45).trans (hp 8 (by decide))
                have y0 := (hi.2.1 (by have h : γ < 1 := hN; omega)).cell Y0.out
                have y1 := (hi.2.1 (by have h : γ < 1 := hN; omega)).cell Y1.out
                have y2 := (hi.2.1 (by have h : γ < 1 := hN; omega)).cell Y2.out
                clear hR hN hp hρ hi
                go_light
                go_simp
                exact ⟨γ, SR.refl _ _ _, fun _ _ _ h => h, rfl⟩
              · refine LinStep.yes fun vals γ w' ρ hR hN hp hρ hc hf hg => ⟨rfl, ?_⟩
                have hi := hR.inv ⟨by omega, fun _ => (Ext.refl w6).drew, fun _ => ⟨_, HBK.out.keep (Kept.drew _ _), HNS.out⟩⟩
                have e0 : ρ (.tmp 0) = .slice (some ⟨g, 0, none⟩) n c := hρ 0
                clear hR hN hp hρ hi
                go_light
                go_simp
                exact ⟨γ, SR.refl _ _ _, fun _ _ _ h => h, rfl⟩
              · refine LinStep.yes fun vals γ w' ρ hR hN hp hρ hc hf hg => ⟨rfl, ?_⟩
                have hi := hR.inv ⟨by omega, fun _ => (Ext.refl w6).drew, fun _ => ⟨_, HBK.out.keep (Kept.drew _ _), HNS.out⟩⟩
                have e9 : ρ (.tmp 9) = .int .i64 (j : Int) := hρ 9
                clear hR hN hp hρ hi
                go_light
                go_simp
                exact ⟨γ, SR.refl _ _ _, fun _ _ _ h => h, rfl⟩
              · refine LinStep.yes fun vals γ w' ρ hR hN hp hρ hc hf hg => ⟨rfl, ?_⟩
                have hi := hR.inv ⟨by omega, fun _ => (Ext.refl w6).drew, fun _ => ⟨_, HBK.out.keep (Kept.drew _ _), HNS.out⟩⟩
                have e47 : ρ (.tmp 47) = _ := (hρ 47).trans (hp 10 (by decide))
                have e48 : ρ (.tmp 48) = _ := (hρ 48).trans (hp 11 (by decide))
                have i0 : (0 : Int) ≤ (j : Int) := by omega
                have i1 : (j : Int) < (n : Int) := by omega
                clear hR hN hp hρ hi
                go_light
                go_simp
                exact ⟨γ, SR.refl _ _ _, fun _ _ _ h => h, rfl⟩
              · refine LinStep.yes fun vals γ w' ρ hR hN hp hρ hc hf hg => ⟨rfl, ?_⟩
                have hi := hR.inv ⟨by omega, fun _ => (Ext.refl w6).drew, fun _ => ⟨_, HBK.out.keep (Kept.drew _ _), HNS.out⟩⟩
                have e49 : ρ (.tmp 49) = _ := (hρ 49).trans (hp 12 (by decide))
                have x0 := (hi.2.1 (by have h : γ < 1 := hN; omega)).cell X0.out
                have x1 := (hi.2.1 (by have h : γ < 1 := hN; omega)).cell X1.out
                have x2 := (hi.2.1 (by have h : γ < 1 := hN; omega)).cell X2.out
                clear hR hN hp hρ hi
                go_light
                go_simp
                exact ⟨γ, SR.refl _ _ _, fun _ _ _ h => h, rfl⟩
              · refine LinStep.yes fun vals γ w' ρ hR hN hp hρ hc hf hg => ⟨rfl, ?_⟩
                have hi := hR.inv ⟨by omega, fun _ => (Ext.refl w6).drew, fun _ => ⟨_, HBK.out.keep (Kept.drew _ _), HNS.out⟩⟩
                have e37 : ρ (.tmp 37) = _ := (hρ 37).trans (hp 0 (by decide))
                have e38 : ρ (.tmp 38) = _ := (hρ 38).trans (hp 1 (by decide))
                have i0 : (0 : Int) ≤ (j : Int) := by omega
                have i1 : (j : Int) < (n : Int) := by omega
                clear hR hN hp hρ hi
                go_light
                go_simp
                exact ⟨γ, SR.refl _ _ _, fun _ _ _ h => h, rfl⟩
              · refine LinStep.yes fun vals γ w' ρ hR hN hp hρ hc hf hg => ⟨rfl, ?_⟩
                have hi := hR.inv ⟨by omega, fun _ => (Ext.refl w6).drew, fun _ => ⟨_, HBK.out.keep (Kept.drew _ _), HNS.out⟩⟩
                have e46 : ρ (.tmp 46) = _ := (hρ 46).trans (hp 9 (by decide))
                have e51 : ρ (.tmp 51) = _ := (hρ 51).trans (hp 14 (by decide))
                have h0 : γ = 0 := by have h : γ < 1 := hN; omega
                subst h0
                have HX := Lib.hid (hi.2.1 (by omega))
                obtain ⟨cur, hcur, hcs⟩ := hi.2.2 (by omega)
                obtain ⟨u0, hu0⟩ := hcur.at_ (i := j * 3) (by omega)
                obtain ⟨u1, hu1⟩ := hcur.at_ (i := j * 3 + 1) (by omega)
                obtain ⟨u2, hu2⟩ := hcur.at_ (i := j * 3 + 2) (by omega)
                have kf := hcur.frozen
                have kz := hcur.lt
                have HCU := Lib.hid hcur
                have HCS := Lib.hid hcs
                clear hR hN hp hρ hi hcur hcs
                go_light
                go_simp
                exact ⟨1, SR.up (by omega) ⟨by omega, fun h => absurd h (by omega), fun _ => ⟨_, ((HCU.out.set _ _).set _ _).set _ _, by simpa using HCS.out⟩⟩, SN.up (by omega) (by decide) rfl, by omega, fun _ => ⟨w', HX.out, rfl⟩⟩
              · refine LinStep.yes fun vals γ w' ρ hR hN hp hρ hc hf hg => ⟨rfl, ?_⟩
                have hi := hR.inv ⟨by omega, fun _ => (Ext.refl w6).drew, fun _ => ⟨_, HBK.out.keep (Kept.drew _ _), HNS.out⟩⟩
                have e39 : ρ (.tmp 39) = _ := (hρ 39).trans (hp 2 (by decide))
                have e41 : ρ (.tmp 41) = _ := (hρ 41).trans (hp 4 (by decide))
                have i0 : (0 : Int) ≤ (j1 : Int) := by omega
                have i1 : (j1 : Int) < (n : Int) := by omega
                clear hR hN hp hρ hi
                go_light
                go_simp
                exact ⟨γ, SR.refl _ _ _, fun _ _ _ h => h, rfl⟩
              · refine LinStep.yes fun vals γ w' ρ hR hN hp hρ hc hf hg => ⟨rfl, ?_⟩
                have hi := hR.inv ⟨by omega, fun _ => (Ext.refl w6).drew, fun _ => ⟨_, HBK.out.keep (Kept.drew _ _), HNS.out⟩⟩
                have e50 : ρ (.tmp 50) = _ := (hρ 50).trans (hp 13 (by decide))
                have e52 : ρ (.tmp 52) = _ := (hρ 52).trans (hp 16 (by decide))
                obtain ⟨h1g, h15⟩ := hp 15 (by decide)
                have h0 : γ = 1 := by have h : γ < 2 := hN; omega
                subst h0
                have H15 := Lib.hid (h15 rfl)
                obtain ⟨cur, hcur, hcs⟩ := hi.2.2 (by omega)
                obtain ⟨u0, hu0⟩ := hcur.at_ (i := j1 * 3) (by omega)
                obtain ⟨u1, hu1⟩ := hcur.at_ (i := j1 * 3 + 1) (by omega)
                obtain ⟨u2, hu2⟩ := hcur.at_ (i := j1 * 3 + 2) (by omega)
                have kf := hcur.frozen
                have kz := hcur.lt
                have HCU := Lib.hid hcur
                have HCS := Lib.hid hcs
                clear hR hN hp hρ hi hcur hcs h15
                go_light
                go_simp
                obtain ⟨w3, hx3, hw3⟩ := H15.out
                exact ⟨2, SR.up (by omega) ⟨by omega, fun h => absurd h (by omega), fun h => absurd h (by omega)⟩, SN.up (by omega) (by decide) rfl, by omega, fun _ => ⟨w3, hx3, by rw [hw3]⟩⟩
              · intro vals γ w7 hR hG
                have hi := hR.inv ⟨by omega, fun _ => (Ext.refl w6).drew, fun _ => ⟨_, HBK.out.keep (Kept.drew _ _), HNS.out⟩⟩
                obtain ⟨h4, h5⟩ := hG 17 (by decide)
                obtain ⟨w3, hx3, hw3⟩ := h5 (by have := hi.1; omega)
                have HS7 := Lib.hid (show Srt w7 g N (p' ++ x :: y :: (p2 ++ q)) by
                  rw [hw3]
                  exact (HSY6.out.keep (hx3.kept _)).swap HPL'.out.symm (by rw [HPL'.out]; exact HJ1.out))
                have HB7 := Lib.hid (show But g w w7 by
                  rw [hw3]
                  iterate 6 refine But.setg ?_ _ _
                  exact HB6.out.trans (But.of_ext hx3))
                clear hR hG hi h4 h5 hx3 hw3
                simp only [lexFrame, Act.put, List.setIfInBounds_toArray, List.set_cons_succ, List.set_cons_zero, Nat.zero_add, Nat.reduceAdd]
                generalize vals 0 = u0, vals 1 = u1, vals 2 = u2, vals 3 = u3, vals 4 = u4, vals 5 = u5, vals 6 = u6, vals 7 = u7, vals 8 = u8, vals 9 = u9, vals 10 = u10, vals 11 = u11, vals 12 = u12, vals 13 = u13, vals 14 = u14, vals 15 = u15, vals 16 = u16, vals 17 = u17
                have hjw : (j : Int) - 1 = (j1 : Int) := HJW.out
                have hjw2 : IntKind.i64.wrap (j1 : Int) = (j1 : Int) := HJ2.out
                go_wp2
                go_roundw
                case rel =>
                  refine ⟨j1, p', y :: p2, by omega, rfl, by rw [HPP.out, HSP.out]; simp, HPL'.out, fun z hz => ?_, HB7.out, by simpa using HS7.out⟩
                  rcases List.mem_cons.1 hz with rfl | hz
                  · exact HBE.out.symm
                  · exact HALL.out z hz
                case measure => have := HJ1.out; simp [intOf]; omega
    · go_wp2
      go_end0
      refine ⟨rfl, HB.out, ?_⟩
      have h1 := HS.out
      have h2 : es.length ≤ k := by rw [← HN.out]; omega
      rw [List.take_of_length_le h2, List.drop_of_length_le h2, List.append_nil] at h1
      exact h1
end Go.Proofs.YtcmmkeiiapbgcaaGreatDoor
/- The library's stable sort of at most 19 lookup tables, and table.Set. Conditions: the arguments read as data. -/
namespace Go.Proofs.YtcmmkeiiapbgcaaGreatDoor
open Go Go.RowKit

set_option maxRecDepth 100000 in
set_option maxHeartbeats 1000000 in
theorem stable_L (g N c : Nat) (es : List LE) (n : Nat) (hn : n = es.length) (hn1 : n < 20) (w : World) (h : Srt w g N es) :
    Calls Tryz.prog 112 #[.slice (some ⟨g, 0, none⟩) n c, .int .i64 (n : Int), .func (.func 78) #[] #[]] w (RetSo w g N es) := by
  have H := Lib.hid h
  have HN := Lib.hid hn
  clear h hn
  go_enter Tryz.func112, Tryz.ntmps112
  go_wp2
  go_loop [7, 8] (fun a b => a = .int .i64 0 ∧ b = .int .i64 20) (fun _ _ => 0)
  case atStart => exact ⟨rfl, rfl⟩
  case round =>
    obtain ⟨rfl, rfl⟩ := hrel
    have i1 : ¬ (20 : Int) ≤ (n : Int) := by omega
    have i2 : ¬ (20 : Int) < (n : Int) := by omega
    go_wp2_with fail
    refine (insertion_L g N c es n HN.out (by omega) w H.out).mono ?_
    rintro e1 w1 ⟨rfl, hb, hs⟩
    have HB := Lib.hid hb
    have HS := Lib.hid hs
    clear hb hs
    go_wp2
    go_loop [6] (fun a => a = .int .i64 20) (fun _ => 0)
    case atStart => rfl
    case round =>
      subst hrel
      go_wp2
      go_end0
      exact ⟨rfl, HB.out, HS.out⟩
set_option maxRecDepth 100000 in
theorem SortStable_L (g N c : Nat) (es : List LE) (n : Nat) (hn : n = es.length) (hn1 : n < 20) (w : World) (h : Srt w g N es) :
    Calls Tryz.prog 77 #[.slice (some ⟨g, 0, none⟩) n c, .func (.func 78) #[] #[]] w (RetSo w g N es) := by
  have H := Lib.hid h
  have HN := Lib.hid hn
  clear h hn
  go_enter Tryz.func77, Tryz.ntmps77
  go_wp2_with fail
  refine (stable_L g N c es n HN.out hn1 w H.out).mono ?_
  rintro e1 w1 ⟨rfl, hb, hs⟩
  have HB := Lib.hid hb
  have HS := Lib.hid hs
  clear hb hs
  go_wp2
  go_end0
  exact ⟨rfl, HB.out, HS.out⟩

theorem LL.les {w : World} {S : Nat → Prop} {d : Nat} : ∀ {l : List Look} {xs : List Value}, LL (CL w S d) xs l → ∃ es : List LE, es.map LE.t = l ∧ ∀ (j : Nat) (x : LE), es[j]? = some x → (xs.drop (j * 3)).take 3 = lcells x.t x.A x.c x.B x.e ∧ (x.t.cols.length ≤ x.c ∧ x.t.rows.length ≤ x.e) ∧ RL w S d x.t x.A x.B
  | [], _, _ => ⟨[], rfl, by simp⟩
  | t :: l, xs, h => by
    obtain ⟨A, c, B, e, h1, h2, h3⟩ := h.2 0 t rfl
    have h4 := h.drop 1
    rw [List.drop_one, List.tail_cons] at h4
    obtain ⟨es, h5, h6⟩ := LL.les h4
    refine ⟨⟨t, A, c, B, e⟩ :: es, by simp [h5], fun j x hj => ?_⟩
    match j, hj with
    | 0, hj =>
      simp at hj
      subst hj
      exact ⟨h1, h2, h3⟩
    | j + 1, hj =>
      have := h6 j x (by simpa using hj)
      rw [List.drop_drop, show 1 * 3 + j * 3 = (j + 1) * 3 by omega] at this
      exact this
/-- A list of the call's own, as the sort takes it, and as it leaves it. -/
theorem OwnLs.sort {w : World} {base d c : Nat} {X : Nat → Prop} {A : Option Addr} {l : List Look} (h : OwnLs w base X d A c l) (h0 : 0 < l.length) (hl : l.length ≤ 1000) : ∃ (g N : Nat) (es : List LE), A = some ⟨g, 0, none⟩ ∧ base ≤ g ∧ es.length = l.length ∧ Srt w g N es ∧
    ∀ (w' : World) (T : Nat → Prop), But g w w' → Srt w' g N (sortL LE.nm es) → T g → (∀ b, X b → T b) → LS w' T d A (sortL Look.name l) := by
  obtain ⟨xs, ho, hv⟩ := h
  obtain ⟨es, he1, he2⟩ := hv.les
  have hel : es.length = l.length := by rw [← he1, List.length_map]
  rcases ho.2 with ⟨_, h0'⟩ | ⟨g, cap, cur, hA, hb, hh, hnc, hcm, hcs, hxs⟩
  · omega
  · injection hA with hA
    have hxl := ho.len
    refine ⟨g, cur.size, es, hA, hb, hel, ⟨cur, hh, rfl, by rw [hcs, hel]; omega, fun j x hj => ?_⟩, fun w' T hbut hs hTg hXT => ?_⟩
    · have hjl : j < l.length := by rw [← hel]; exact (List.getElem?_eq_some_iff.1 hj).1
      obtain ⟨h3, _⟩ := he2 j x hj
      have key : ∀ i u, (lcells x.t x.A x.c x.B x.e)[i]? = some u → cur[j * 3 + i]? = some u := by
        intro i u hi
        have hlt : i < 3 := by
          have := (List.getElem?_eq_some_iff.1 hi).1
          simpa [lcells] using this
        rw [← h3, List.getElem?_take, if_pos hlt, List.getElem?_drop, ← hxs, List.getElem?_take, if_pos (by omega)] at hi
        simpa using hi
      exact ⟨key 0 _ rfl, key 1 _ rfl, key 2 _ rfl⟩
    · obtain ⟨cur', k1, k2, k3, k4⟩ := hs
      have hsl : (sortL LE.nm es).length = l.length := by rw [len_sortL, hel]
      have hmap : sortL Look.name l = (sortL LE.nm es).map LE.t := by rw [sortL_map (nm := LE.nm) (nm' := Look.name) LE.t (fun _ => rfl), he1]
      refine ⟨by rw [len_sortL]; exact hl, cur'.toList.take (l.length * 3), ?_, (by rw [List.length_take, len_sortL, show cur'.toList.length = cur'.size by simp]; rw [hsl] at k3; omega), fun j t hj => ?_⟩
      · rw [hA]
        exact (k1.rd.mono fun b _ e => by rw [e]; exact hTg).take _
      · rw [hmap, List.getElem?_map] at hj
        cases hx : (sortL LE.nm es)[j]? with
        | none => rw [hx] at hj; cases hj
        | some x =>
          rw [hx] at hj
          simp at hj
          subst hj
          have hjl : j < l.length := by rw [← hsl]; exact (List.getElem?_eq_some_iff.1 hx).1
          obtain ⟨q0, q1, q2⟩ := k4 j x hx
          obtain ⟨i, hi, hxi⟩ := List.mem_iff_getElem.1 (mem_sortL.1 (List.mem_of_getElem? hx))
          obtain ⟨_, hcp, hrl⟩ := he2 i x (by rw [List.getElem?_eq_getElem hi, hxi])
          refine ⟨x.A, x.c, x.B, x.e, ?_, hcp, (hrl.keep (hbut.kept fun b _ hb' e => hb'.1 (by rw [hA, e]; rfl))).mono fun b _ hb' => hXT b hb'.2⟩
          apply List.ext_getElem?
          intro i'
          rw [List.getElem?_take]
          match i' with
          | 0 => rw [if_pos (by omega), List.getElem?_drop, List.getElem?_take, if_pos (by omega)]; simpa [lcells] using q0
          | 1 => rw [if_pos (by omega), List.getElem?_drop, List.getElem?_take, if_pos (by omega)]; simpa [lcells] using q1
          | 2 => rw [if_pos (by omega), List.getElem?_drop, List.getElem?_take, if_pos (by omega)]; simpa [lcells] using q2
          | i' + 3 => rw [if_neg (by omega)]; simp [lcells]

def others (t : Look) (b : List Look) : List Look := b.filter fun x => decide (x.name ≠ t.name)
def setS (b : List Look) (t : Look) : List Look × Int :=
  if lookR t = false then ([], 1) else if (others t b).length = b.length ∧ 6 ≤ b.length then ([], 2) else (sortL Look.name (others t b ++ [t]), 0)
def RetLsE (w : World) (S : Nat → Prop) (d : Nat) (r : List Look × Int) (e : Ending) (w' : World) : Prop := ∃ A c, e = .returned (.tuple #[.slice A r.1.length c, .int .i64 r.2]) ∧ r.1.length ≤ c ∧ LS w' S d A r.1 ∧ Ext w w'
theorem others_snoc (t : Look) (b : List Look) {k : Nat} (hk : k < b.length) : others t (b.take (k + 1)) = others t (b.take k) ++ (if b[k].name ≠ t.name then [b[k]] else []) := by
  unfold others
  rw [List.take_succ_eq_append_getElem hk, List.filter_append]
  congr 1
  by_cases h : b[k].name = t.name <;> simp [h]
theorem others_len (t : Look) (b : List Look) (k : Nat) : (others t (b.take k)).length ≤ k := Nat.le_trans (List.length_filter_le _ _) (List.length_take_le _ _)
set_option maxRecDepth 100000 in
set_option maxHeartbeats 4000000 in
theorem table_Set (d : Nat) (b : List Look) (t : Look) (Ab A B : Option Addr) (cb c e : Nat) (w : World) (S T : Nat → Prop) (hb : LS w S d Ab b) (hbl : b.length ≤ 18) (h : RL w T d t A B) (hcap : t.cols.length ≤ c) :
    Calls Tryz.prog 34 #[.slice Ab b.length cb, (.agg #[.string t.name, .slice A t.cols.length c, .slice B t.rows.length e])] w (RetLsE w (Fresh w) d (setS b t)) := by
  have H := Lib.hid h
  have HBS := Lib.hid hb
  clear h hb
  obtain ⟨W0, hW0⟩ : ∃ W0, W0 = w.alloc (.cells #[.string t.name, .slice A t.cols.length c, .slice B t.rows.length e] 28) := ⟨_, rfl⟩
  have HW0 := Lib.hid hW0
  have HX0 := Lib.hid (show Ext w W0 by rw [hW0]; exact (Ext.refl w).alloc _)
  have HB0 := Lib.hid (show Blk W0 w.heap.size 28 #[.string t.name, .slice A t.cols.length c, .slice B t.rows.length e] by rw [hW0]; exact Blk.new _ _ _)
  clear hW0
  go_enter Tryz.func34, Tryz.ntmps34
  go_wp2_with fail
  rw [← HW0.out]
  refine (table_Right d t A B c e W0 _ (H.out.keep (HX0.out.kept _)) hcap).mono ?_
  rintro e1 w1 ⟨rfl, hx1⟩
  have HX1 := Lib.hid (HX0.out.trans hx1)
  have HB1 := Lib.hid (HB0.out.keep (hx1.kept _))
  clear hx1 HB0 HX0 HW0
  cases hT : lookR t
  · have HF := Lib.hid (show setS b t = ([], 1) by simp [setS, hT])
    clear hT
    go_wp2
    go_ret2
    rw [HF.out]
    exact ⟨none, 0, rfl, Nat.le_refl _, LS.nil, HX1.out⟩
  have HT := Lib.hid hT
  clear hT
  have hw1 : w.heap.size ≤ w1.heap.size := HX1.out.size
  go_wp2
  go_loopw [14, 6] (fun i v wr => ∃ (k : Nat) (A' : Option Addr) (c' : Nat), k ≤ b.length ∧ i = .int .i64 k ∧ v = .slice A' (others t (b.take k)).length c' ∧ Ext w1 wr ∧ OwnLs wr w1.heap.size (fun x => w1.heap.size ≤ x) d A' c' (others t (b.take k))) (fun i _ _ => b.length - (intOf i).toNat)
  case atStart => exact ⟨0, none, 0, Nat.zero_le _, rfl, rfl, Ext.refl _, OwnLs.nil _ _ _ _⟩
  case round =>
    obtain ⟨k, A', c', hk, rfl, rfl, hx2, ho2⟩ := hrel
    have HX2 := Lib.hid hx2
    have HO2 := Lib.hid ho2
    have hz2 := hx2.size
    have HB2 := Lib.hid (HB1.out.keep (hx2.kept _))
    have t0 := HB2.out.cell (i := 0) rfl
    have t1 := HB2.out.cell (i := 1) rfl
    have t2 := HB2.out.cell (i := 2) rfl
    have tz := HB2.out.lt
    have hol := others_len t b k
    obtain ⟨os, hos⟩ : ∃ os, os = others t (b.take k) := ⟨_, rfl⟩
    rw [← hos] at HO2 hol
    rw [← hos]
    have HOS := Lib.hid hos
    clear hx2 ho2 hos
    by_cases hlt : k < b.length
    · obtain ⟨bb, o, Ac, cc, Ar, cr, hAb, zb, ⟨p0, p1, p2⟩, hcp, hrl⟩ := (HBS.out.keep ((HX1.out.trans HX2.out).kept _)).at_ hlt
      subst hAb
      obtain ⟨x, hx⟩ : ∃ x, x = b[k] := ⟨_, rfl⟩
      rw [← hx] at p0 p1 p2 hcp hrl
      have HX := Lib.hid hx
      have HRL := Lib.hid hrl
      have i0 : (0 : Int) ≤ (k : Int) := by omega
      have i1 : (k : Int) < (b.length : Int) := by omega
      have hza : w.heap.size < wr.heap.size + 1 := by omega
      have hne : w.heap.size ≠ wr.heap.size := by omega
      clear hx hrl hcp
      by_cases hnm : x.name = t.name
      · have k0 : (x.name.toList == t.name.toList) = true := by rw [bytes_beq]; simpa using hnm
        have k9 : (x.name.toList != t.name.toList) = false := by rw [bne, k0]; rfl
        have HNM := Lib.hid hnm
        clear hnm
        go_wp2
        go_roundw
        case rel => exact ⟨k + 1, A', c', by omega, by go_num, by rw [others_snoc t b hlt, ← HX.out, if_neg (by simp [HNM.out]), List.append_nil, ← HOS.out], HX2.out.alloc _, by rw [others_snoc t b hlt, ← HX.out, if_neg (by simp [HNM.out]), List.append_nil, ← HOS.out]; exact HO2.out.ext ((Ext.refl _).alloc _)⟩
        case measure => simp [intOf]; omega
      · have k0 : (x.name.toList == t.name.toList) = false := by rw [bytes_beq]; simpa using hnm
        have k9 : (x.name.toList != t.name.toList) = true := by rw [bne, k0]; rfl
        have HNM := Lib.hid hnm
        clear hnm
        go_wp2_with fail
        refine (table_fresh d x Ac Ar cc cr _ _ (HRL.out.keep (Kept.alloc _ _ _))).mono ?_
        rintro e3 w3 ⟨A3, c3, B3, e3, rfl, hcp3, hrl3, hx3⟩
        have HX3 := Lib.hid (((Ext.refl wr).alloc _).trans hx3)
        have hz3 : wr.heap.size < w3.heap.size := by have := hx3.size; simp at this; omega
        have HX4 := Lib.hid (HX3.out.alloc (.cells (lcells x A3 c3 B3 e3).toArray 28))
        obtain ⟨xs, hown, hvl⟩ := HO2.out.ext HX4.out
        have HVL := Lib.hid hvl
        have HOWN := Lib.hid hown
        have HNEW := Lib.hid (show LL (CL (w3.alloc (.cells (lcells x A3 c3 B3 e3).toArray 28)) (fun y => ob A' ≠ some y ∧ w1.heap.size ≤ y) d) (lcells x A3 c3 B3 e3) [x] from LL.one rfl ⟨A3, c3, B3, e3, rfl, hcp3, (hrl3.keep (Kept.alloc _ _ _)).mono fun y _ hy => by
          unfold Fresh at hy
          simp at hy
          exact ⟨fun h0 => by have := (HO2.out.blk h0).2; omega, by omega⟩⟩)
        clear hvl hown hrl3 hx3 hcp3
        go_wp2_with (at_builtin; go_must (refine wpList_app rfl (.tmp 23) (.tmp 26) rfl tiL rfl HOWN.out rfl (Blk.rd (Blk.new _ _ _)) rfl lcells_one (by omega) (by decide) (by simp; omega) ?_); intro A4 c4 w4 hown4 hg4 hat4)
        go_roundw
        case rel =>
          have h9 : others t (b.take (k + 1)) = os ++ [x] := by rw [others_snoc t b hlt, ← HX.out, if_pos (by simp [HNM.out]), ← HOS.out]
          refine ⟨k + 1, A4, c4, by omega, by go_num, by rw [h9]; simp, (HX2.out.trans HX4.out).grown hg4 (fun y hy => (HOWN.out.blk hy).1), ?_⟩
          rw [h9]
          exact OwnLs.app HVL.out HNEW.out hown4 hg4 hat4
        case measure => simp [intOf]; omega
    · have hkb : k = b.length := by omega
      subst hkb
      have HOB := Lib.hid (show os = others t b by have := HOS.out; rwa [List.take_of_length_le (Nat.le_refl _)] at this)
      by_cases hmany : os.length = b.length ∧ 6 ≤ b.length
      · obtain ⟨h1, h2⟩ := hmany
        have HF := Lib.hid (show setS b t = ([], 2) by
          unfold setS
          rw [HT.out, if_neg (by simp), if_pos ⟨by rw [← HOB.out]; exact h1, h2⟩])
        have k1 : ((os.length : Int) == (b.length : Int)) = true := by rw [beq_iff_eq]; omega
        have k2 : (6 : Int) ≤ (b.length : Int) := by omega
        have k3 : decide ((6 : Int) ≤ (b.length : Int)) = true := by simpa using k2
        clear h1
        go_wp2
        go_ret2
        rw [HF.out]
        exact ⟨none, 0, rfl, Nat.le_refl _, LS.nil, HX1.out.trans HX2.out⟩
      · have HF := Lib.hid (show setS b t = (sortL Look.name (others t b ++ [t]), 0) by
          unfold setS
          rw [HT.out, if_neg (by simp), if_neg (by rw [← HOB.out]; exact hmany)])
        have hlow : os.length ≤ 18 := by omega
        have hcase : (((os.length : Int) == (b.length : Int)) = true ∧ ¬ (6 : Int) ≤ (b.length : Int)) ∨ ((os.length : Int) == (b.length : Int)) = false := by
          by_cases h1 : os.length = b.length
          · exact .inl ⟨by rw [beq_iff_eq]; omega, by omega⟩
          · exact .inr (by rw [← Bool.not_eq_true, beq_iff_eq]; omega)
        clear hmany
        rcases hcase with ⟨k1, k2⟩ | k1
        all_goals
          go_wp2_with fail
          refine (table_fresh d t A B c e _ _ (H.out.keep ((HX1.out.trans HX2.out).kept _))).mono ?_
          rintro e3 w3 ⟨A3, c3, B3, e3, rfl, hcp3, hrl3, hx3⟩
          have HX3 := Lib.hid hx3
          have hz3 := hx3.size
          have HX4 := Lib.hid (HX3.out.alloc (.cells (lcells t A3 c3 B3 e3).toArray 28))
          obtain ⟨xs, hown, hvl⟩ := HO2.out.ext HX4.out
          have HVL := Lib.hid hvl
          have HOWN := Lib.hid hown
          have HNEW := Lib.hid (show LL (CL (w3.alloc (.cells (lcells t A3 c3 B3 e3).toArray 28)) (fun y => ob A' ≠ some y ∧ w1.heap.size ≤ y) d) (lcells t A3 c3 B3 e3) [t] from LL.one rfl ⟨A3, c3, B3, e3, rfl, hcp3, (hrl3.keep (Kept.alloc _ _ _)).mono fun y _ hy => by
            unfold Fresh at hy
            exact ⟨fun h0 => by have := (HO2.out.blk h0).2; omega, by omega⟩⟩)
          clear hvl hown hrl3 hx3 hcp3
          go_wp2_with (at_builtin; go_must (refine wpList_app rfl (.tmp 39) (.tmp 42) rfl tiL rfl HOWN.out rfl (Blk.rd (Blk.new _ _ _)) rfl lcells_one (by omega) (by decide) (by simp; omega) ?_); intro A4 c4 w4 hown4 hg4 hat4)
          have hol4 : OwnLs w4 w1.heap.size (fun y => w1.heap.size ≤ y) d A4 c4 (os ++ [t]) := OwnLs.app HVL.out HNEW.out hown4 hg4 hat4
          have HX5 := Lib.hid (((HX1.out.trans HX2.out).trans HX4.out).grown hg4 (fun y hy => by have := (HOWN.out.blk hy).1; omega))
          have hcap4 := hol4.cap
          obtain ⟨g, N, es, hA4, hgb, hesl, hsrt, hfin⟩ := hol4.sort (by simp) (by simp; omega)
          have hel : os.length + 1 = es.length := by rw [hesl]; simp
          have HEL := Lib.hid hel
          have HSRT := Lib.hid hsrt
          have HFIN := Lib.hid hfin
          have HCAP4 := Lib.hid (show os.length + 1 ≤ c4 by simpa using hcap4)
          subst hA4
          clear hown4 hg4 hat4 hol4 hesl hsrt hfin hel hcap4
          go_wp2_with fail
          refine (SortStable_L g N c4 es (os.length + 1) HEL.out (by omega) w4 HSRT.out).mono ?_
          rintro e6 w6 ⟨rfl, hbut, hs6⟩
          have HLS := Lib.hid (HFIN.out w6 (Fresh w) hbut hs6 (by unfold Fresh; omega) (fun y hy => by unfold Fresh; omega))
          have HX6 := Lib.hid (But.exts HX5.out hbut (by omega))
          clear hbut hs6
          go_wp2
          go_ret2
          rw [HF.out]
          refine ⟨some ⟨g, 0, none⟩, c4, ?_, by rw [len_sortL, ← HOB.out]; simpa using HCAP4.out, by rw [← HOB.out]; exact HLS.out, HX6.out⟩
          rw [len_sortL, ← HOB.out, List.length_append]
          rfl
end Go.Proofs.YtcmmkeiiapbgcaaGreatDoor
