/- What the making of a table keeps in memory. No conditions. -/
import Derived.Test.YtcmmkeiiapbgcaaGreatDoorCell
namespace Go.Proofs.YtcmmkeiiapbgcaaGreatDoor
open Go Go.RowKit

def names4 : List ByteArray := [sCity, sZip, sCountry, sSince]
def names4A : Array Value := #[.string sCity, .string sZip, .string sCountry, .string sSince]
theorem names4_at (k : Nat) (hk : k < 4) : ∃ h : k < names4.length, names4A[k]? = some (.string names4[k]) ∧ names4[k].size ≤ 20 := by
  match k, hk with
  | 0, _ => exact ⟨by decide, rfl, by decide⟩
  | 1, _ => exact ⟨by decide, rfl, by decide⟩
  | 2, _ => exact ⟨by decide, rfl, by decide⟩
  | 3, _ => exact ⟨by decide, rfl, by decide⟩
  | n + 4, h => omega
/-- The memory of 'Made' while columns are made. -/
structure M1 (w : World) (name : ByteArray) (A : Option Addr) (n c : Nat) (Ac : Option Addr) (cc : Nat) (cols : List ByteArray) (Ak : Option Addr) (ck : Nat) (ks : List Int) (wr : World) : Prop where
  ext : Ext w wr
  gr : Blk wr w.heap.size 28 #[.string ⟨#[]⟩, .slice none 0 0, .slice none 0 0]
  num : ∃ K, NumIs wr (w.heap.size + 1) A n c K
  gt : Blk wr (w.heap.size + 1 + 1) 28 #[.string name, .slice Ac cols.length cc, .slice none 0 0]
  ownC : OwnSs wr (w.heap.size + 3) Ac cc cols
  ownK : OwnIs wr (w.heap.size + 3) Ak ck ks
  sep : ∀ b, ob Ac = some b → ob Ak ≠ some b
section
variable {w wr wr' : World} {name : ByteArray} {A Ac Ak : Option Addr} {n c cc ck : Nat} {cols : List ByteArray} {ks : List Int}
theorem M1.more (h : M1 w name A n c Ac cc cols Ak ck ks wr) (hx : Ext wr wr') : M1 w name A n c Ac cc cols Ak ck ks wr' := by
  obtain ⟨K, hK⟩ := h.num
  exact ⟨h.ext.trans hx, h.gr.keep (hx.kept _), ⟨K, hK.keep (hx.kept _)⟩, h.gt.keep (hx.kept _), h.ownC.ext hx, h.ownK.ext hx, h.sep⟩
theorem M1.next (h : M1 w name A n c Ac cc cols Ak ck ks wr) (ho : Only (w.heap.size + 1) wr wr') {K : Nat} (hK : NumIs wr' (w.heap.size + 1) A n c K) : M1 w name A n c Ac cc cols Ak ck ks wr' :=
  ⟨h.ext.only ho (by omega), h.gr.keep (ho.kept fun b _ e => by omega), ⟨K, hK⟩, h.gt.keep (ho.kept fun b _ e => by omega), ⟨ho.own h.ownC.1 (by omega), h.ownC.2⟩, ho.own (Own.lower h.ownK (Nat.le_refl _)) (by omega), h.sep⟩
/-- Behind the append to the columns, ahead of the store. -/
structure M1A (w : World) (name : ByteArray) (A : Option Addr) (n c : Nat) (Ac : Option Addr) (cc : Nat) (cols : List ByteArray) (Ak : Option Addr) (ck : Nat) (ks : List Int) (wr : World) : Prop where
  ext : Ext w wr
  gr : Blk wr w.heap.size 28 #[.string ⟨#[]⟩, .slice none 0 0, .slice none 0 0]
  num : ∃ K, NumIs wr (w.heap.size + 1) A n c K
  gt : ∃ x, Blk wr (w.heap.size + 1 + 1) 28 #[.string name, x, .slice none 0 0]
  ownC : OwnSs wr (w.heap.size + 3) Ac cc cols
  ownK : OwnIs wr (w.heap.size + 3) Ak ck ks
  sep : ∀ b, ob Ac = some b → ob Ak ≠ some b
theorem M1.app {A4 : Option Addr} {c4 : Nat} {t : ByteArray} (h : M1 w name A n c Ac cc cols Ak ck ks wr) (hg : wr.grownBy wr' (ob Ac)) (ho : Own wr' (w.heap.size + 3) 9 1 A4 (cols.length + 1) c4 (cols.map Value.string ++ [.string t]))
    (hat : ob A4 = ob Ac ∨ ob A4 = some wr.heap.size) (ht : t.size ≤ 4294967296) : M1A w name A n c A4 c4 (cols ++ [t]) Ak ck ks wr' := by
  obtain ⟨K, hK⟩ := h.num
  have hk : ∀ g, g < w.heap.size + 3 → Kept (fun b => b = g) wr wr' := fun g hg' => Kept.of_grown hg fun b hb _ e => by
    subst hb
    have := (h.ownC.1.blk e.symm).1
    omega
  refine ⟨Ext.grown h.ext hg fun b hb => by have := (h.ownC.1.blk hb).1; omega, h.gr.keep (hk _ (by omega)), ⟨K, hK.keep (hk _ (by omega))⟩, ⟨_, h.gt.keep (hk _ (by omega))⟩, ⟨?_, ?_⟩, ?_, ?_⟩
  · simpa using ho
  · intro x hx
    rcases List.mem_append.1 hx with hx | hx
    · exact h.ownC.2 x hx
    · simp at hx; subst hx; exact ht
  · exact Own.keep h.ownK (Kept.of_grown hg fun b hb _ e => h.sep b e.symm hb)
  · intro b hb hb'
    rcases hat with e | e
    · rw [e] at hb; exact h.sep b hb hb'
    · rw [e] at hb
      have := (Own.blk h.ownK hb').2
      injection hb with hb
      omega
theorem M1A.store (h : M1A w name A n c Ac cc cols Ak ck ks wr) : M1 w name A n c Ac cc cols Ak ck ks (wr.setCell ⟨w.heap.size + 1 + 1, 1, none⟩ (.slice Ac cols.length cc)) := by
  obtain ⟨K, hK⟩ := h.num
  obtain ⟨x, hx⟩ := h.gt
  have ho := (Only.refl (w.heap.size + 1 + 1) wr).set 1 (.slice Ac cols.length cc)
  exact ⟨h.ext.only ho (by omega), h.gr.keep (ho.kept fun b _ e => by omega), ⟨K, hK.keep (ho.kept fun b _ e => by omega)⟩, hx.set 1 _, ⟨ho.own h.ownC.1 (by omega), h.ownC.2⟩, ho.own (Own.lower h.ownK (Nat.le_refl _)) (by omega), h.sep⟩
theorem M1.appK {A4 : Option Addr} {c4 : Nat} {x : Int} (h : M1 w name A n c Ac cc cols Ak ck ks wr) (hg : wr.grownBy wr' (ob Ak)) (ho : Own wr' (w.heap.size + 3) 3 1 A4 (ks.length + 1) c4 (ks.map (Value.int .i64) ++ [.int .i64 x]))
    (hat : ob A4 = ob Ak ∨ ob A4 = some wr.heap.size) : M1 w name A n c Ac cc cols A4 c4 (ks ++ [x]) wr' := by
  obtain ⟨K, hK⟩ := h.num
  have hk : ∀ g, g < w.heap.size + 3 → Kept (fun b => b = g) wr wr' := fun g hg' => Kept.of_grown hg fun b hb _ e => by
    subst hb
    have := (Own.blk h.ownK e.symm).1
    omega
  refine ⟨Ext.grown h.ext hg fun b hb => by have := (Own.blk h.ownK hb).1; omega, h.gr.keep (hk _ (by omega)), ⟨K, hK.keep (hk _ (by omega))⟩, h.gt.keep (hk _ (by omega)), ⟨?_, h.ownC.2⟩, ?_, ?_⟩
  · exact h.ownC.1.keep (Kept.of_grown hg fun b hb _ e => h.sep b hb e.symm)
  · unfold OwnIs
    simpa using ho
  · intro b hb hb'
    rcases hat with e | e
    · rw [e] at hb'; exact h.sep b hb hb'
    · rw [e] at hb'
      have := (h.ownC.1.blk hb).2
      injection hb' with hb'
      omega
end
theorem IntsSet {w : World} {S : Nat → Prop} {b o : Nat} {l : List Int} (h : Ints w S (some ⟨b, o, none⟩) l) (i : Nat) (x : Int) : Ints (w.setCell ⟨b, o + i, none⟩ (.int .i64 x)) S (some ⟨b, o, none⟩) (l.set i x) := by
  refine ⟨?_, by simpa using h.2⟩
  rcases h.1 with h0 | ⟨b', o', hA, hS, hlt, hc⟩
  · rw [List.map_eq_nil_iff] at h0
    subst h0
    exact Or.inl rfl
  · injection hA with hA
    injection hA with hb ho
    subst hb
    subst ho
    refine Or.inr ⟨b, o, rfl, hS, by simpa [World.setCell] using hlt, fun j u hj => ?_⟩
    rw [List.getElem?_map, List.getElem?_set] at hj
    by_cases hij : i = j
    · subst hij
      rw [if_pos rfl] at hj
      by_cases hl : i < l.length
      · rw [if_pos hl] at hj
        simp at hj
        subst hj
        have := hc i _ (by rw [List.getElem?_map, List.getElem?_eq_getElem hl]; rfl)
        exact World.cell?_setCell_same _ _ _ this
      · rw [if_neg hl] at hj; simp at hj
    · rw [if_neg hij] at hj
      have := hc j u (by rw [List.getElem?_map]; exact hj)
      rw [World.cell?_setCell_other _ _ _ _ (by intro e; injection e with _ e; omega)]
      exact this
/-- A row of the table: each cell is one of the five of its column's kind. -/
def rowK (ks : List Int) (r : List Val) : Prop := r.length = ks.length ∧ ∀ (j : Nat) (h : j < r.length) (h' : j < ks.length), ∃ m : Nat, m < 5 ∧ r[j] = cellS ks[j] m
/-- The tables that 'Made' makes. -/
def MadeT (name : ByteArray) (t : Look) : Prop := t.name = name ∧ ∃ ks : List Int, 1 ≤ ks.length ∧ ks.length ≤ 4 ∧ t.cols = names4.take ks.length ∧ ks.head? = some 1 ∧ (∀ x ∈ ks, x = 1 ∨ x = 2 ∨ x = 3) ∧ t.rows.length ≤ 6 ∧ ∀ r ∈ t.rows, rowK ks r
def RetMade (w : World) (name : ByteArray) (e : Ending) (w' : World) : Prop := ∃ t, MadeT name t ∧ RetL w t e w'
/-- The memory of 'Made' while rows are made; what is below H and the columns and kinds is finished; rows lie from H up to T. -/
structure M2 (w : World) (name : ByteArray) (A : Option Addr) (n c H : Nat) (Ac : Option Addr) (cc : Nat) (cols : List ByteArray) (Ak : Option Addr) (ks : List Int) (Ar : Option Addr) (cr : Nat) (rows : List (List Val)) (T : Nat) (wr : World) : Prop where
  ext : Ext w wr
  gr : Blk wr w.heap.size 28 #[.string ⟨#[]⟩, .slice none 0 0, .slice none 0 0]
  num : ∃ K, NumIs wr (w.heap.size + 1) A n c K
  gt : Blk wr (w.heap.size + 1 + 1) 28 #[.string name, .slice Ac cols.length cc, .slice Ar rows.length cr]
  capC : cols.length ≤ cc
  cols : Strs wr (fun b => w.heap.size + 3 ≤ b ∧ b < H) Ac cols
  ks : Ints wr (fun b => w.heap.size + 3 ≤ b ∧ b < H) Ak ks
  low : w.heap.size + 3 ≤ H
  mid : H ≤ T
  high : T ≤ wr.heap.size
  own : OwnRs wr H (fun b => H ≤ b ∧ b < T) 1 Ar cr rows
  top : ∀ b, ob Ar = some b → b < T
section
variable {w wr wr' : World} {name : ByteArray} {A Ac Ak Ar : Option Addr} {n c H T cc cr : Nat} {cols : List ByteArray} {ks : List Int} {rows : List (List Val)}
/-- What changes neither the finished memory nor the variables. -/
theorem M2.of (h : M2 w name A n c H Ac cc cols Ak ks Ar cr rows T wr) (hx : Below w.heap.size wr wr') (hk : Kept (fun b => b < T ∧ b ≠ w.heap.size + 1) wr wr') {K : Nat} (hK : NumIs wr' (w.heap.size + 1) A n c K) : M2 w name A n c H Ac cc cols Ak ks Ar cr rows T wr' := by
  have h1 := h.low
  have h2 := h.mid
  have h3 := h.high
  refine ⟨Below.trans h.ext hx, h.gr.keep (hk.mono fun b hb e => by omega), ⟨K, hK⟩, h.gt.keep (hk.mono fun b hb e => by omega), h.capC, h.cols.keep (hk.mono fun b hb e => by omega), h.ks.keep (hk.mono fun b hb e => by omega), h1, h2, Nat.le_trans h3 hx.size, h.own.keep (hk.mono fun b hb e => ?_), h.top⟩
  rcases e with e | e
  · have := h.top b e; have := (h.own.blk e).1; omega
  · omega
theorem M2.more (h : M2 w name A n c H Ac cc cols Ak ks Ar cr rows T wr) (hx : Ext wr wr') : M2 w name A n c H Ac cc cols Ak ks Ar cr rows T wr' := by
  obtain ⟨K, hK⟩ := h.num
  exact h.of (hx.mono h.ext.size) (hx.kept _) (hK.keep (hx.kept _))
theorem M2.next (h : M2 w name A n c H Ac cc cols Ak ks Ar cr rows T wr) (ho : Only (w.heap.size + 1) wr wr') {K : Nat} (hK : NumIs wr' (w.heap.size + 1) A n c K) : M2 w name A n c H Ac cc cols Ak ks Ar cr rows T wr' :=
  h.of (ho.below (by omega)) (ho.kept fun b _ hb => hb.2) hK
theorem M2.grown (h : M2 w name A n c H Ac cc cols Ak ks Ar cr rows T wr) {row : Option Nat} (hg : wr.grownBy wr' row) (hr : ∀ b, row = some b → T ≤ b) : M2 w name A n c H Ac cc cols Ak ks Ar cr rows T wr' := by
  obtain ⟨K, hK⟩ := h.num
  have h1 := h.low
  have h2 := h.mid
  have hk : Kept (fun b => b < T) wr wr' := Kept.of_grown hg fun b hb _ e => by have := hr b e.symm; omega
  exact h.of (Below.grown (Below.refl _ _) hg h.ext.size fun b hb => by have := hr b hb; omega) (hk.mono fun b _ hb => hb.1) (hK.keep (hk.mono fun b _ hb => by omega))
theorem M1.start {g ck : Nat} (h : M1 w name A n c Ac cc cols (some ⟨g, 0, none⟩) ck ks wr) (hl : ks.length ≤ 100) (hcl : cols.length ≤ 100) : M2 w name A n c wr.heap.size Ac cc cols (some ⟨g, 0, none⟩) (ks.set 0 1) none 0 [] wr.heap.size (wr.setCell ⟨g, 0, none⟩ (.int .i64 1)) := by
  obtain ⟨K, hK⟩ := h.num
  have hg := Own.blk h.ownK (k := g) rfl
  have ho := (Only.refl g wr).set 0 (.int .i64 1)
  have hc : Strs wr (fun b => w.heap.size + 3 ≤ b ∧ b < wr.heap.size ∧ ob Ac = some b) Ac cols := h.ownC.strs (by omega) fun b hb => ⟨(h.ownC.1.blk hb).1, (h.ownC.1.blk hb).2, hb⟩
  have hk : Ints wr (fun b => w.heap.size + 3 ≤ b ∧ b < wr.heap.size) (some ⟨g, 0, none⟩) ks := OwnIs.ints h.ownK (by omega) fun b hb => Own.blk h.ownK hb
  refine ⟨h.ext.only ho (by omega), h.gr.keep (ho.kept fun b _ e => by omega), ⟨K, hK.keep (ho.kept fun b _ e => by omega)⟩, h.gt.keep (ho.kept fun b _ e => by omega), h.ownC.1.cap, (hc.keep (ho.kept fun b _ e => ?_)).mono fun b _ hb => ⟨hb.1, hb.2.1⟩, IntsSet hk 0 1, by have := h.gt.lt; omega, Nat.le_refl _, by simp [World.setCell], OwnRs.nil _ _ _ _, fun b hb => by cases hb⟩
  rintro rfl
  exact h.sep b e.2.2 rfl
theorem M2.push {row : List Val} {A' A4 : Option Addr} {c' c4 : Nat} {hs : List Value} {w4 : World} (h : M2 w name A n c H Ac cc cols Ak ks Ar cr rows T wr) (ho : hs.length = rows.length)
    (hv : ∀ (i : Nat) (r : List Val), rows[i]? = some r → ∃ (B : Option Addr) (e : Nat), hs[i]? = some (Value.slice B r.length e) ∧ r.length ≤ e ∧ Row wr (fun b => ob Ar ≠ some b ∧ (H ≤ b ∧ b < T)) 1 B r)
    (hown : Own wr H 45 1 Ar rows.length cr hs) (hown4 : Own w4 H 45 1 A4 (rows.length + 1) c4 (hs ++ [Value.slice A' row.length c'])) (hg : wr.grownBy w4 (ob Ar)) (hat : ob A4 = ob Ar ∨ ob A4 = some wr.heap.size)
    (hcap : row.length ≤ c') (hrow : Row wr (fun b => T ≤ b) 1 A' row) :
    M2 w name A n c H Ac cc cols Ak ks A4 c4 (rows ++ [row]) w4.heap.size (w4.setCell ⟨w.heap.size + 1 + 1, 2, none⟩ (.slice A4 (rows ++ [row]).length c4)) := by
  obtain ⟨K, hK⟩ := h.num
  have h1 := h.low
  have h2 := h.mid
  have h3 := h.high
  have hsz := hg.size
  have hkg : Kept (fun b => b < H) wr w4 := Kept.of_grown hg fun b hb _ e => by have := (hown.blk e.symm).1; omega
  have hx4 : Ext w w4 := Ext.grown h.ext hg fun b hb => by have := (hown.blk hb).1; omega
  have hst := (Only.refl (w.heap.size + 1 + 1) w4).set 2 (.slice A4 (rows ++ [row]).length c4)
  have hmono : ∀ b, b < wr.heap.size → (ob Ar ≠ some b ∧ H ≤ b ∧ b < T) → ob Ar ≠ some b ∧ (H ≤ b ∧ b < w4.heap.size) := fun b hb hh => ⟨hh.1, hh.2.1, by omega⟩
  have hpush : OwnRs w4 H (fun b => H ≤ b ∧ b < w4.heap.size) 1 A4 c4 (rows ++ [row]) := by
    refine OwnRs.push (w := wr) ho (fun i r hr => ?_) hown4 hg hat hcap (hrow.mono fun b hb hh => ⟨fun e => ?_, ?_, by omega⟩)
    · obtain ⟨B, e, g1, g2, g3⟩ := hv i r hr
      exact ⟨B, e, g1, g2, g3.mono hmono⟩
    · have := h.top b e; omega
    · omega
  refine ⟨hx4.only hst (by omega), (h.gr.keep (hkg.mono fun b _ e => by omega)).keep (hst.kept fun b _ e => by omega), ⟨K, (hK.keep (hkg.mono fun b _ e => by omega)).keep (hst.kept fun b _ e => by omega)⟩, (h.gt.keep (hkg.mono fun b _ e => by omega)).set 2 _, h.capC,
    (h.cols.keep (hkg.mono fun b _ e => by omega)).keep (hst.kept fun b _ e => by omega), (h.ks.keep (hkg.mono fun b _ e => by omega)).keep (hst.kept fun b _ e => by omega), h1, by omega, by simp [World.setCell], hpush.keep (hst.kept fun b _ e => ?_), fun b hb => (hpush.blk hb).2⟩
  rcases e with e | e
  · have := (hpush.blk e).1; omega
  · omega
/-- The bound T may rise. -/
theorem M2.raise (h : M2 w name A n c H Ac cc cols Ak ks Ar cr rows T wr) {T' : Nat} (h1 : T ≤ T') (h2 : T' ≤ wr.heap.size) : M2 w name A n c H Ac cc cols Ak ks Ar cr rows T' wr :=
  ⟨h.ext, h.gr, h.num, h.gt, h.capC, h.cols, h.ks, h.low, Nat.le_trans h.mid h1, h2, h.own.mono fun b _ hb => ⟨hb.1, by omega⟩, fun b hb => by have := h.top b hb; omega⟩
end
end Go.Proofs.YtcmmkeiiapbgcaaGreatDoor
