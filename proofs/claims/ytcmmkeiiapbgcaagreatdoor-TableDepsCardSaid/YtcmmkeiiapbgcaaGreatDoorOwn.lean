/- Slices of the call's own that grow: one law for append, and what such a slice of texts, ints, values or rows reads as. No conditions. -/
import Derived.Test.YtcmmkeiiapbgcaaGreatDoorEq2
namespace Go.Proofs.YtcmmkeiiapbgcaaGreatDoor
open Go Go.RowKit

/-- A slice of the call's own: from block base on, element type e of sz cells. -/
def Own (w : World) (base e sz : Nat) (A : Option Addr) (n c : Nat) (xs : List Value) : Prop := w.ownsRow base e sz (.slice A n c) n xs
/-- The block of a slice. -/
def ob (A : Option Addr) : Option Nat := A.map (·.block)
theorem ob_eq (A : Option Addr) (n c : Nat) : (Value.slice A n c).ownBlock = ob A := by cases A <;> rfl
/-- What the table says of a slice type t with elements e of sz cells and by bytes. -/
def TI (P : Program) (t e sz by_ : Nat) : Prop := P.underlying t = some (.slice e) ∧ ∃ i z, P.info? e = some i ∧ i.zero = some z ∧ i.size = sz ∧ i.bytes = by_ ∧ z.cells.size = sz ∧ 0 < sz
section
variable {w w' : World} {base e sz n c : Nat} {A : Option Addr} {xs : List Value}
theorem Own.nil (w : World) (base e sz : Nat) : Own w base e sz none 0 0 [] := World.ownsRow_nil w base e sz
theorem Own.len (h : Own w base e sz A n c xs) : xs.length = n * sz := h.1
theorem Own.blk (h : Own w base e sz A n c xs) {k : Nat} (hk : ob A = some k) : base ≤ k ∧ k < w.heap.size := World.ownsRow.lt h k (by rw [ob_eq]; exact hk)
theorem Own.cap (h : Own w base e sz A n c xs) : n ≤ c := by
  rcases h.2 with ⟨hv, hn⟩ | ⟨g, cap, cur, hv, _, _, hnc, _⟩
  · rw [hn]; exact Nat.zero_le _
  · injection hv with _ _ h2
    rw [h2]; exact hnc
theorem Own.kept {row : Option Nat} (h : Own w base e sz A n c xs) (hg : w.grownBy w' row) (hne : ob A = none ∨ ob A ≠ row) : Own w' base e sz A n c xs :=
  World.ownsRow.kept h hg (by rw [ob_eq]; exact hne)
theorem Own.ext (h : Own w base e sz A n c xs) (hx : Ext w w') : Own w' base e sz A n c xs := by
  refine ⟨h.1, ?_⟩
  rcases h.2 with h2 | ⟨g, cap, cur, hv, hb, hh, r⟩
  · exact Or.inl h2
  · refine Or.inr ⟨g, cap, cur, hv, hb, ?_, r⟩
    have hlt : g < w.heap.size := by
      rcases Nat.lt_or_ge g w.heap.size with h1 | h1
      · exact h1
      · rw [Array.getElem?_eq_none h1] at hh; cases hh
    rw [hx.block g hlt]; exact hh
theorem Own.rd (h : Own w base e sz A n c xs) : Rd w (fun b => ob A = some b) A xs := by
  rcases Rd.of_own h with h0 | ⟨b, o, h1, h2, h3, h4⟩
  · exact Or.inl h0
  · exact Or.inr ⟨b, o, h1, by subst h1; rfl, h3, h4⟩
theorem Own.set (h : Own w base e sz A n c xs) {p : Addr} (hp : ob A ≠ some p.block) (u : Value) : Own (w.setCell p u) base e sz A n c xs := by
  refine ⟨h.1, ?_⟩
  rcases h.2 with h2 | ⟨g, cap, cur, hv, hb, hh, r⟩
  · exact Or.inl h2
  · refine Or.inr ⟨g, cap, cur, hv, hb, ?_, r⟩
    rw [Below.heap_setCell _ _ _ _ (fun e => hp (by
      have hA : A = some ⟨g, 0, none⟩ := by injection hv
      subst hA
      exact congrArg some e))]
    exact hh
theorem Own.keep (h : Own w base e sz A n c xs) (hk : Kept (fun b => ob A = some b) w w') : Own w' base e sz A n c xs := by
  refine ⟨h.1, ?_⟩
  rcases h.2 with h2 | ⟨g, cap, cur, hv, hb, hh, r⟩
  · exact Or.inl h2
  · refine Or.inr ⟨g, cap, cur, hv, hb, ?_, r⟩
    have hA : A = some ⟨g, 0, none⟩ := by injection hv
    have hlt : g < w.heap.size := by
      rcases Nat.lt_or_ge g w.heap.size with h1 | h1
      · exact h1
      · rw [Array.getElem?_eq_none h1] at hh; cases hh
    rw [hk.2 g (by rw [hA]; rfl) hlt]; exact hh
theorem Own.made (w : World) (e sz cap : Nat) (cur : Array Value) (hm : cap ≤ maxLen) (hs : cur.size = cap * sz) :
    Own (w.alloc (.cells cur e)) w.heap.size e sz (some ⟨w.heap.size, 0, none⟩) 0 cap [] :=
  World.ownsRow_made w cur cap (Nat.le_refl _) hm hs
theorem Own.lower {base' : Nat} (h : Own w base e sz A n c xs) (hb : base' ≤ base) : Own w base' e sz A n c xs := by
  refine ⟨h.1, ?_⟩
  rcases h.2 with h2 | ⟨g, cap, cur, hv, hb', r⟩
  · exact Or.inl h2
  · exact Or.inr ⟨g, cap, cur, hv, Nat.le_trans hb hb', r⟩

theorem run_app {P : Program} (w : World) {t by_ : Nat} (ty : TypeId) (ti : TI P t e sz by_) (hown : Own w base e sz A n c xs) {S : Nat → Prop} {B : Option Addr} {m c2 : Nat} {news : List Value}
    (hr : Rd w S B news) (hl : news.length = m * sz) (h1 : ∀ u ∈ news, u.oneCell' = true) (h63 : (n + m) * by_ ≤ 140737488355328) (hby : 0 < by_) (hbase : base ≤ w.heap.size) :
    ∃ A' c' w', (Builtin.append_ #[t, t] ty #[.slice A n c, .slice B m c2]).run P w = .ok (.slice A' (n + m) c') w' ∧ Own w' base e sz A' (n + m) c' (xs ++ news) ∧ w.grownBy w' (ob A) ∧
      (ob A' = ob A ∨ ob A' = some w.heap.size) := by
  obtain ⟨ht, i, z, hi, hz, hsize, hbytes, hzs, hsz⟩ := ti
  have hnm : n + m ≤ 140737488355328 := by
    have : (n + m) * 1 ≤ (n + m) * by_ := Nat.mul_le_mul_left _ hby
    omega
  have hform : ∀ {w' : World} {v : Value}, w'.ownsRow base e sz v (n + m) (xs ++ news) → ∃ A' c', v = .slice A' (n + m) c' := by
    intro w' v h
    rcases h.2 with ⟨rfl, h0⟩ | ⟨g, cap, cur, rfl, _⟩
    · exact ⟨none, 0, by rw [h0]⟩
    · exact ⟨_, _, rfl⟩
  by_cases hm : m = 0
  · subst hm
    have hn : news = [] := List.eq_nil_of_length_eq_zero (by simpa using hl)
    subst hn
    refine ⟨A, c, w, ?_, by simpa using hown, ⟨rfl, rfl, rfl, Nat.le_refl _, fun _ _ _ => rfl⟩, .inl rfl⟩
    rcases hown.2 with ⟨hv, h0⟩ | ⟨g, cap, cur, hv, _, _, hnc, _⟩
    · injection hv with h1 _ h2
      subst h1
      subst h2
      subst h0
      cases B <;> simp [Builtin.append_, run_underlying ht, sizeOf, typeInfo, hi, Builtin.lenOf, Builtin.firstCells, loadCells, loadCellsFrom]
    · injection hv with h1 _ h2
      subst h1
      subst h2
      cases B <;> simp [Builtin.append_, run_underlying ht, sizeOf, typeInfo, hi, Builtin.lenOf, Builtin.firstCells, hnc, storeCells, loadCells, loadCellsFrom]
  · have hne : news ≠ [] := by
      intro h0
      subst h0
      have := Nat.mul_eq_zero.1 (show m * sz = 0 from hl.symm)
      omega
    obtain ⟨b, o, rfl, _, _, hc⟩ := hr.some_ hne
    obtain ⟨v', w', hrun, h2, h3, _, h5⟩ := run_append_own_at (P := P) w base t ty e i z sz by_ ht hi hz hsize hbytes hzs hsz (.slice A n c) n xs hown ⟨b, o, none⟩ m c2 news hl
      (fun j u hj => by rw [Addr.add_lit]; exact hc j u hj) h1 (by unfold maxLen; omega) h63 hbase
    obtain ⟨A', c', rfl⟩ := hform h2
    rw [ob_eq] at h3 h5
    rw [ob_eq] at h5
    exact ⟨A', c', w', hrun, h2, h3, h5⟩

/-- append at the list of operations. -/
theorem wpList_app {P : Program} {ops : Array Oper} {rest : List Oper} {o : Oper} {a : Act} {Q : Exit → Act → World → Prop} (hgd : o.guard = none) (s x : Operand) {t by_ : Nat}
    (ho : o.op = .call { callee := .builtin .append, args := #[s, x], argTypes := #[t, t] }) (ti : TI P t e sz by_) (hs : a.eval s = .slice A n c) (hown : Own w base e sz A n c xs)
    {S : Nat → Prop} {B : Option Addr} {m c2 : Nat} {news : List Value} (hx : a.eval x = .slice B m c2) (hr : Rd w S B news) (hl : news.length = m * sz) (h1 : ∀ u ∈ news, u.oneCell' = true)
    (h63 : (n + m) * by_ ≤ 140737488355328) (hby : 0 < by_) (hbase : base ≤ w.heap.size)
    (h : ∀ A' c' w', Own w' base e sz A' (n + m) c' (xs ++ news) → w.grownBy w' (ob A) → (ob A' = ob A ∨ ob A' = some w.heap.size) → wpList P ops Q rest (a.put o.dst (.slice A' (n + m) c')) w') :
    wpList P ops Q (o :: rest) a w := by
  obtain ⟨A', c', w', hrun, h2, h3, h4⟩ := run_app w o.type ti hown (c2 := c2) hr hl h1 h63 hby hbase
  refine wpList_plain hgd fun K hK => ?_
  unfold Oper.wp execOp
  simp only [ho, resolve, invoke, builtin, Sem.run_bind, Sem.run_pure, Result.andThen_ok, List.map_toArray, List.map_cons, List.map_nil, hs, hx, hrun]
  exact hK _ _ (h A' c' w' h2 h3 h4)
end

/-- A block that is known whole. -/
def Blk (w : World) (g t : Nat) (cs : Array Value) : Prop := w.heap[g]? = some (.cells cs t (0, 0))
theorem Blk.lt {w : World} {g t : Nat} {cs : Array Value} (h : Blk w g t cs) : g < w.heap.size := by
  rcases Nat.lt_or_ge g w.heap.size with hlt | hge
  · exact hlt
  · unfold Blk at h; rw [Array.getElem?_eq_none hge] at h; cases h
theorem Blk.cell {w : World} {g t : Nat} {cs : Array Value} (h : Blk w g t cs) {i : Nat} {u : Value} (hi : cs[i]? = some u) : w.cell? ⟨g, i, none⟩ = some u := by
  unfold Blk at h
  simp [World.cell?, h, hi]
theorem Blk.frozen {w : World} {g t : Nat} {cs : Array Value} (h : Blk w g t cs) (i : Nat) : w.frozen? ⟨g, i, none⟩ = false := by
  unfold Blk at h
  simp [World.frozen?, h]
theorem Blk.keep {w w' : World} {g t : Nat} {cs : Array Value} (h : Blk w g t cs) (hk : Kept (fun b => b = g) w w') : Blk w' g t cs := (hk.2 g rfl h.lt).trans h
theorem Blk.new (w : World) (t : Nat) (cs : Array Value) : Blk (w.alloc (.cells cs t)) w.heap.size t cs := heap_alloc_new w _
theorem Blk.set {w : World} {g t : Nat} {cs : Array Value} (h : Blk w g t cs) (i : Nat) (u : Value) : Blk (w.setCell ⟨g, i, none⟩ u) g t (cs.setIfInBounds i u) := by
  unfold Blk at h ⊢
  simp [World.setCell, Array.getElem?_modify, h]
theorem Blk.rd {w : World} {g t : Nat} {cs : Array Value} (h : Blk w g t cs) : Rd w (fun b => b = g) (some ⟨g, 0, none⟩) cs.toList :=
  Or.inr ⟨g, 0, rfl, rfl, h.lt, fun j u hj => by rw [Nat.zero_add]; exact h.cell (by simpa using hj)⟩
theorem Kept.of_below {w w' : World} {B : Nat} {S : Nat → Prop} (h : Below B w w') (hS : ∀ b, S b → b < w.heap.size → b < B) : Kept S w w' := ⟨h.size, fun b hb hl => h.block b (hS b hb hl)⟩

/-- The cells xs read as the values l, R being asked of each. -/
def VL (R : Val → List Value → Prop) (xs : List Value) (l : List Val) : Prop := xs.length = l.length * 7 ∧ ∀ (j : Nat) (y : Val), l[j]? = some y → R y ((xs.drop (j * 7)).take 7)
theorem VL.nil (R : Val → List Value → Prop) : VL R [] [] := ⟨rfl, by simp⟩
theorem VL.imp {R R' : Val → List Value → Prop} {xs : List Value} {l : List Val} (h : VL R xs l) (f : ∀ y cs, R y cs → R' y cs) : VL R' xs l := ⟨h.1, fun j y hj => f _ _ (h.2 j y hj)⟩
theorem VL.snoc {R : Val → List Value → Prop} {xs cs : List Value} {l : List Val} {y : Val} (h : VL R xs l) (hc : cs.length = 7) (hy : R y cs) : VL R (xs ++ cs) (l ++ [y]) := by
  refine ⟨by simp [h.1, hc]; omega, fun j z hj => ?_⟩
  rcases Nat.lt_or_ge j l.length with hlt | hge
  · rw [List.getElem?_append_left hlt] at hj
    have hz := h.2 j z hj
    have hx := h.1
    rw [List.drop_append_of_le_length (by omega), List.take_append_of_le_length (by simp; omega)]
    exact hz
  · rw [List.getElem?_append_right hge] at hj
    have hj0 : j - l.length = 0 := by
      rcases Nat.eq_zero_or_pos (j - l.length) with h0 | h0
      · exact h0
      · rw [List.getElem?_eq_none (by simp; omega)] at hj
        cases hj
    rw [hj0] at hj
    simp at hj
    subst hj
    have : j = l.length := by omega
    subst this
    rw [← h.1, List.drop_left, List.take_of_length_le (by omega)]
    exact hy
theorem VL.append {R : Val → List Value → Prop} {xs ys : List Value} {l m : List Val} (h : VL R xs l) (k : VL R ys m) : VL R (xs ++ ys) (l ++ m) := by
  refine ⟨by simp [h.1, k.1]; omega, fun j z hj => ?_⟩
  rcases Nat.lt_or_ge j l.length with hlt | hge
  · rw [List.getElem?_append_left hlt] at hj
    have hz := h.2 j z hj
    have hx := h.1
    rw [List.drop_append_of_le_length (by omega), List.take_append_of_le_length (by simp; omega)]
    exact hz
  · rw [List.getElem?_append_right hge] at hj
    have hz := k.2 _ z hj
    have hx := h.1
    rw [show j * 7 = xs.length + (j - l.length) * 7 by omega, ← List.drop_drop, List.drop_left]
    exact hz
theorem RVs.iff {R : Val → List Value → Prop} {w : World} {S : Nat → Prop} {A : Option Addr} {l : List Val} : RVs R w S A l ↔ l.length ≤ 4294967296 ∧ ∃ xs, Rd w S A xs ∧ VL R xs l := Iff.rfl

/-- What is asked of a value in a row: its columns and rows lie in blocks of S. -/
def CV (w : World) (S : Nat → Prop) (d : Nat) (y : Val) (cs : List Value) : Prop := ∃ A c B e, cs = vcells y A c B e ∧ (0 < d ∧ y.cols.length ≤ c ∧ y.rows.length ≤ e) ∧ RV w S (d - 1) y A B
theorem CV.keep {w w' : World} {S : Nat → Prop} {d : Nat} {y : Val} {cs : List Value} (h : CV w S d y cs) (k : Kept S w w') : CV w' S d y cs := by
  obtain ⟨A, c, B, e, h1, h2, h3⟩ := h
  exact ⟨A, c, B, e, h1, h2, h3.keep k⟩
theorem CV.mono {w : World} {S T : Nat → Prop} {d : Nat} {y : Val} {cs : List Value} (h : CV w S d y cs) (k : ∀ i, i < w.heap.size → S i → T i) : CV w T d y cs := by
  obtain ⟨A, c, B, e, h1, h2, h3⟩ := h
  exact ⟨A, c, B, e, h1, h2, h3.mono k⟩
theorem RV.move {w w' : World} {S T : Nat → Prop} {d : Nat} {x : Val} {A B : Option Addr} (h : RV w S d x A B) (k : Kept S w w') (m : ∀ i, i < w.heap.size → S i → T i) : RV w' T d x A B :=
  ((h.mono (T := fun b => S b ∧ T b) fun i hi hs => ⟨hs, m i hi hs⟩).keep (k.mono fun _ _ hh => hh.1)).mono fun _ _ hh => hh.2
theorem Row.move {w w' : World} {S T : Nat → Prop} {d : Nat} {l : List Val} {B : Option Addr} (h : Row w S d B l) (k : Kept S w w') (m : ∀ i, i < w.heap.size → S i → T i) : Row w' T d B l :=
  ((Row.mono h (T := fun b => S b ∧ T b) fun i hi hs => ⟨hs, m i hi hs⟩).keep (k.mono fun _ _ hh => hh.1)).mono fun _ _ hh => hh.2
theorem CV.move {w w' : World} {S T : Nat → Prop} {d : Nat} {y : Val} {cs : List Value} (h : CV w S d y cs) (k : Kept S w w') (m : ∀ i, i < w.heap.size → S i → T i) : CV w' T d y cs := by
  obtain ⟨A, c, B, e, h1, h2, h3⟩ := h
  exact ⟨A, c, B, e, h1, h2, h3.move k m⟩
theorem vcells_one {x : Val} {A B : Option Addr} {c e : Nat} : ∀ u ∈ vcells x A c B e, u.oneCell' = true := by
  intro u hu
  simp [vcells] at hu
  rcases hu with rfl | rfl | rfl | rfl | rfl | rfl | rfl <;> rfl
theorem CV.one {w : World} {S : Nat → Prop} {d : Nat} {y : Val} {cs : List Value} (h : CV w S d y cs) : cs.length = 7 ∧ ∀ u ∈ cs, u.oneCell' = true := by
  obtain ⟨A, c, B, e, rfl, _⟩ := h
  exact ⟨rfl, vcells_one⟩
theorem VL.one {w : World} {S : Nat → Prop} {d : Nat} {xs : List Value} {l : List Val} (h : VL (CV w S d) xs l) : ∀ u ∈ xs, u.oneCell' = true := by
  intro u hu
  obtain ⟨i, hi, rfl⟩ := List.mem_iff_getElem.1 hu
  have hx := h.1
  have hj : i / 7 < l.length := by omega
  have h7 := (h.2 (i / 7) _ (List.getElem?_eq_getElem hj)).one.2
  refine h7 _ (List.mem_iff_getElem.2 ⟨i % 7, ?_, ?_⟩)
  · simp; omega
  · rw [List.getElem_take, List.getElem_drop]
    congr 1
    omega

/-- A slice of values of the call's own; the values' own memory lies outside it, in blocks of X. -/
def OwnVs (w : World) (base : Nat) (X : Nat → Prop) (d : Nat) (A : Option Addr) (c : Nat) (l : List Val) : Prop :=
  ∃ xs, Own w base 33 7 A l.length c xs ∧ VL (CV w (fun b => ob A ≠ some b ∧ X b) d) xs l
/-- A slice of rows of the call's own. -/
def OwnRs (w : World) (base : Nat) (X : Nat → Prop) (d : Nat) (A : Option Addr) (c : Nat) (l : List (List Val)) : Prop :=
  ∃ hs, Own w base 45 1 A l.length c hs ∧ ∀ (i : Nat) (r : List Val), l[i]? = some r → ∃ (B : Option Addr) (e : Nat), hs[i]? = some (Value.slice B r.length e) ∧ r.length ≤ e ∧ Row w (fun b => ob A ≠ some b ∧ X b) d B r
/-- A slice of texts of the call's own. -/
def OwnSs (w : World) (base : Nat) (A : Option Addr) (c : Nat) (l : List ByteArray) : Prop := Own w base 9 1 A l.length c (l.map Value.string) ∧ ∀ s ∈ l, s.size ≤ 4294967296
/-- A slice of ints of the call's own. -/
def OwnIs (w : World) (base : Nat) (A : Option Addr) (c : Nat) (l : List Int) : Prop := Own w base 3 1 A l.length c (l.map (Value.int .i64))

section
variable {w w' : World} {base c c' d : Nat} {X T : Nat → Prop} {A A' : Option Addr}
theorem OwnVs.nil (w : World) (base : Nat) (X : Nat → Prop) (d : Nat) : OwnVs w base X d none 0 [] := ⟨[], Own.nil _ _ _ _, VL.nil _⟩
theorem OwnVs.ext {l : List Val} (h : OwnVs w base X d A c l) (hx : Ext w w') : OwnVs w' base X d A c l := by
  obtain ⟨xs, h1, h2⟩ := h
  exact ⟨xs, h1.ext hx, h2.imp fun _ _ hh => hh.keep (hx.kept _)⟩
theorem OwnVs.keep {l : List Val} (h : OwnVs w base X d A c l) (hk : Kept (fun b => ob A = some b ∨ X b) w w') : OwnVs w' base X d A c l := by
  obtain ⟨xs, h1, h2⟩ := h
  exact ⟨xs, h1.keep (hk.mono fun _ _ hh => Or.inl hh), h2.imp fun _ _ hh => hh.keep (hk.mono fun _ _ hh => Or.inr hh.2)⟩
theorem OwnVs.push {l : List Val} {y : Val} {A1 B1 : Option Addr} {c1 e1 : Nat} {xs : List Value} (hv : VL (CV w (fun b => ob A ≠ some b ∧ X b) d) xs l) (hown : Own w' base 33 7 A' (l.length + 1) c' (xs ++ vcells y A1 c1 B1 e1))
    (hg : w.grownBy w' (ob A)) (hat : ob A' = ob A ∨ ob A' = some w.heap.size) (hd : 0 < d ∧ y.cols.length ≤ c1 ∧ y.rows.length ≤ e1) (hy : RV w (fun b => ob A ≠ some b ∧ X b) (d - 1) y A1 B1) : OwnVs w' base X d A' c' (l ++ [y]) := by
  have hk : Kept (fun b => ob A ≠ some b ∧ X b) w w' := Kept.of_grown hg (fun b hb _ e => hb.1 e.symm)
  have hm : ∀ i, i < w.heap.size → (ob A ≠ some i ∧ X i) → (ob A' ≠ some i ∧ X i) := by
    rintro i hi ⟨h1, h2⟩
    refine ⟨?_, h2⟩
    rcases hat with e | e <;> rw [e]
    · exact h1
    · intro h; injection h with h; omega
  refine ⟨_, by simpa using hown, ?_⟩
  exact VL.snoc (hv.imp fun _ _ hh => hh.move hk hm) rfl ⟨_, _, _, _, rfl, hd, hy.move hk hm⟩
theorem OwnVs.row {l : List Val} (h : OwnVs w base X d A c l) (hl : l.length ≤ 4294967296) (h1 : ∀ b, ob A = some b → T b) (h2 : ∀ b, X b → T b) : Row w T d A l := by
  obtain ⟨xs, ho, hv⟩ := h
  exact ⟨hl, xs, ho.rd.mono fun i _ hi => h1 i hi, hv.1, fun j y hj => (hv.2 j y hj).mono fun i _ hi => h2 i hi.2⟩
theorem OwnVs.blk {l : List Val} (h : OwnVs w base X d A c l) {k : Nat} (hk : ob A = some k) : base ≤ k ∧ k < w.heap.size := by
  obtain ⟨xs, ho, _⟩ := h
  exact ho.blk hk
theorem OwnVs.lower {base' : Nat} {l : List Val} (h : OwnVs w base X d A c l) (hb : base' ≤ base) : OwnVs w base' X d A c l := by
  obtain ⟨xs, h1, h2⟩ := h
  exact ⟨xs, h1.lower hb, h2⟩
theorem OwnRs.nil (w : World) (base : Nat) (X : Nat → Prop) (d : Nat) : OwnRs w base X d none 0 [] := ⟨[], Own.nil _ _ _ _, by simp⟩
theorem OwnRs.ext {l : List (List Val)} (h : OwnRs w base X d A c l) (hx : Ext w w') : OwnRs w' base X d A c l := by
  obtain ⟨hs, h1, h2⟩ := h
  refine ⟨hs, h1.ext hx, fun i r hr => ?_⟩
  obtain ⟨B, e, h3, hcp, h4⟩ := h2 i r hr
  exact ⟨B, e, h3, hcp, Row.keep h4 (hx.kept _)⟩
theorem OwnRs.keep {l : List (List Val)} (h : OwnRs w base X d A c l) (hk : Kept (fun b => ob A = some b ∨ X b) w w') : OwnRs w' base X d A c l := by
  obtain ⟨hs, h1, h2⟩ := h
  refine ⟨hs, h1.keep (hk.mono fun _ _ hh => Or.inl hh), fun i r hr => ?_⟩
  obtain ⟨B, e, h3, hcp, h4⟩ := h2 i r hr
  exact ⟨B, e, h3, hcp, Row.keep h4 (hk.mono fun _ _ hh => Or.inr hh.2)⟩
theorem OwnRs.mono {l : List (List Val)} (h : OwnRs w base X d A c l) (hm : ∀ b, b < w.heap.size → X b → T b) : OwnRs w base T d A c l := by
  obtain ⟨hs, h1, h2⟩ := h
  refine ⟨hs, h1, fun i r hr => ?_⟩
  obtain ⟨B, e, h3, hcp, h4⟩ := h2 i r hr
  exact ⟨B, e, h3, hcp, Row.mono h4 fun i hi hh => ⟨hh.1, hm i hi hh.2⟩⟩
theorem OwnVs.mono {l : List Val} (h : OwnVs w base X d A c l) (hm : ∀ b, b < w.heap.size → X b → T b) : OwnVs w base T d A c l := by
  obtain ⟨xs, h1, h2⟩ := h
  exact ⟨xs, h1, h2.imp fun _ _ hh => hh.mono fun i hi hh => ⟨hh.1, hm i hi hh.2⟩⟩
theorem OwnRs.push {l : List (List Val)} {r : List Val} {B : Option Addr} {e : Nat} {hs : List Value} (ho : hs.length = l.length)
    (hv : ∀ (i : Nat) (r : List Val), l[i]? = some r → ∃ (B : Option Addr) (e : Nat), hs[i]? = some (Value.slice B r.length e) ∧ r.length ≤ e ∧ Row w (fun b => ob A ≠ some b ∧ X b) d B r)
    (hown : Own w' base 45 1 A' (l.length + 1) c' (hs ++ [Value.slice B r.length e])) (hg : w.grownBy w' (ob A)) (hat : ob A' = ob A ∨ ob A' = some w.heap.size)
    (hre : r.length ≤ e) (hy : Row w (fun b => ob A ≠ some b ∧ X b) d B r) : OwnRs w' base X d A' c' (l ++ [r]) := by
  have hk : Kept (fun b => ob A ≠ some b ∧ X b) w w' := Kept.of_grown hg (fun b hb _ e => hb.1 e.symm)
  have hm : ∀ i, i < w.heap.size → (ob A ≠ some i ∧ X i) → (ob A' ≠ some i ∧ X i) := by
    rintro i hi ⟨h1, h2⟩
    refine ⟨?_, h2⟩
    rcases hat with e | e <;> rw [e]
    · exact h1
    · intro h; injection h with h; omega
  refine ⟨_, by simpa using hown, fun i r' hr => ?_⟩
  rcases Nat.lt_or_ge i l.length with hlt | hge
  · rw [List.getElem?_append_left hlt] at hr
    obtain ⟨B', e', h3, hcp, h4⟩ := hv i r' hr
    exact ⟨B', e', by rw [List.getElem?_append_left (by omega)]; exact h3, hcp, Row.move h4 hk hm⟩
  · rw [List.getElem?_append_right hge] at hr
    have hj0 : i - l.length = 0 := by
      rcases Nat.eq_zero_or_pos (i - l.length) with h0 | h0
      · exact h0
      · rw [List.getElem?_eq_none (by simp; omega)] at hr
        cases hr
    rw [hj0] at hr
    simp at hr
    subst hr
    exact ⟨B, e, by rw [List.getElem?_append_right (by omega), ho, hj0]; rfl, hre, Row.move hy hk hm⟩
theorem OwnRs.rows {l : List (List Val)} (h : OwnRs w base X d A c l) (hl : l.length ≤ 4294967296) (h1 : ∀ b, ob A = some b → T b) (h2 : ∀ b, X b → T b) : Rows w T d A l := by
  obtain ⟨hs, ho, hv⟩ := h
  refine ⟨hl, hs, ho.rd.mono fun i _ hi => h1 i hi, by simpa using ho.len, fun i r hr => ?_⟩
  obtain ⟨B, e, h3, hcp, h4⟩ := hv i r hr
  exact ⟨B, e, h3, hcp, Row.mono h4 fun i _ hi => h2 i hi.2⟩
theorem OwnRs.blk {l : List (List Val)} (h : OwnRs w base X d A c l) {k : Nat} (hk : ob A = some k) : base ≤ k ∧ k < w.heap.size := by
  obtain ⟨xs, ho, _⟩ := h
  exact ho.blk hk
theorem OwnSs.nil (w : World) (base : Nat) : OwnSs w base none 0 [] := ⟨Own.nil _ _ _ _, by simp⟩
theorem OwnSs.ext {l : List ByteArray} (h : OwnSs w base A c l) (hx : Ext w w') : OwnSs w' base A c l := ⟨h.1.ext hx, h.2⟩
theorem OwnSs.strs {l : List ByteArray} (h : OwnSs w base A c l) (hl : l.length ≤ 4294967296) (h1 : ∀ b, ob A = some b → T b) : Strs w T A l := ⟨h.1.rd.mono fun i _ hi => h1 i hi, hl, h.2⟩
theorem OwnIs.nil (w : World) (base : Nat) : OwnIs w base none 0 [] := Own.nil _ _ _ _
theorem OwnIs.ext {l : List Int} (h : OwnIs w base A c l) (hx : Ext w w') : OwnIs w' base A c l := Own.ext h hx
theorem OwnIs.ints {l : List Int} (h : OwnIs w base A c l) (hl : l.length ≤ 4294967296) (h1 : ∀ b, ob A = some b → T b) : Ints w T A l := ⟨(Own.rd h).mono fun i _ hi => h1 i hi, hl⟩
end
theorem TI.mk_ {P : Program} {t e sz by_ : Nat} {z : Value} (h : P.underlying t = some (.slice e)) (hi : (P.info? e).map (fun i => (i.zero, i.size, i.bytes)) = some (some z, sz, by_)) (hz : z.cells.size = sz) (h0 : 0 < sz) : TI P t e sz by_ := by
  obtain ⟨i0, h1, h2, h3, h4⟩ := info_parts hi
  exact ⟨h, i0, z, h1, h2, h3, h4, hz, h0⟩
theorem infoV : (Tryz.prog.info? 33).map (fun i => (i.zero, i.size, i.bytes)) = some (some (.agg #[.int .i64 0, .string ⟨#[]⟩, .int .i64 0, .int .i64 0, .int .i64 0, .slice none 0 0, .slice none 0 0]), 7, 96) := by kernel_rfl
theorem infoR : (Tryz.prog.info? 45).map (fun i => (i.zero, i.size, i.bytes)) = some (some (.slice none 0 0), 1, 24) := by kernel_rfl
theorem infoS : (Tryz.prog.info? 9).map (fun i => (i.zero, i.size, i.bytes)) = some (some (.string ⟨#[]⟩), 1, 16) := by kernel_rfl
theorem infoI : (Tryz.prog.info? 3).map (fun i => (i.zero, i.size, i.bytes)) = some (some (.int .i64 0), 1, 8) := by kernel_rfl
theorem tiV : TI Tryz.prog 45 33 7 96 := TI.mk_ Tryz.underlying45 infoV rfl (by decide)
theorem tiR : TI Tryz.prog 26 45 1 24 := TI.mk_ Tryz.underlying26 infoR rfl (by decide)
theorem tiS : TI Tryz.prog 25 9 1 16 := TI.mk_ Tryz.underlying25 infoS rfl (by decide)
theorem tiI : TI Tryz.prog 22 3 1 8 := TI.mk_ Tryz.underlying22 infoI rfl (by decide)
end Go.Proofs.YtcmmkeiiapbgcaaGreatDoor
