/- The program's decimals: value, split, join, Add, Cmp by units of a millionth. Conditions: the variable tens holds the powers of ten. -/
import Derived.Test.YtcmmkeiiapbgcaaGreatDoorTab2
namespace Go.Proofs.YtcmmkeiiapbgcaaGreatDoor
open Go Go.RowKit

/-- The variable tens holds the powers of ten. -/
def Tens (w : World) : Prop := w.cell? ⟨0, 0, none⟩ = some (.int .i64 1) ∧ w.cell? ⟨0, 1, none⟩ = some (.int .i64 10) ∧ w.cell? ⟨0, 2, none⟩ = some (.int .i64 100) ∧ w.cell? ⟨0, 3, none⟩ = some (.int .i64 1000) ∧
  w.cell? ⟨0, 4, none⟩ = some (.int .i64 10000) ∧ w.cell? ⟨0, 5, none⟩ = some (.int .i64 100000) ∧ w.cell? ⟨0, 6, none⟩ = some (.int .i64 1000000)
theorem Tens.ext {w w' : World} (h : Tens w) (hx : Ext w w') : Tens w' := ⟨hx.cell h.1, hx.cell h.2.1, hx.cell h.2.2.1, hx.cell h.2.2.2.1, hx.cell h.2.2.2.2.1, hx.cell h.2.2.2.2.2.1, hx.cell h.2.2.2.2.2.2⟩
theorem Tens.pos {w : World} (h : Tens w) : 0 < w.heap.size := by
  rcases Nat.lt_or_ge 0 w.heap.size with h1 | h1
  · exact h1
  · have := h.1
    simp [World.cell?, Array.getElem?_eq_none h1] at this

def valD (n s : Int) : Int × Int := if decR n s = true then (n, s) else (0, 0)
def RetD (w : World) (r : Int × Int) (e : Ending) (w' : World) : Prop := e = .returned (.agg #[.int .i64 r.1, .int .i64 r.2]) ∧ Ext w w'
set_option maxRecDepth 100000 in
set_option maxHeartbeats 400000 in
theorem decimal_value (n s : Int) (w : World) : Calls Tryz.prog 128 #[.agg #[.int .i64 n, .int .i64 s]] w (RetD w (valD n s)) := by
  go_enter Tryz.func128, Tryz.ntmps128
  go_wp2_with fail
  refine (decimal_Right n s _).mono ?_
  rintro e1 w1 ⟨rfl, hx1⟩
  obtain ⟨hc1, hf1⟩ := bcell hx1
  have hz1 := hx1.size
  simp at hc1 hf1 hz1
  have hz2 : w.heap.size < w1.heap.size := by omega
  have hz3 : w.heap.size + 1 < w1.heap.size := by omega
  have HX := Lib.hid ((((Ext.refl w).alloc _).alloc _).trans hx1)
  cases hd : decR n s
  · have HF := Lib.hid (show valD n s = (0, 0) by simp [valD, hd])
    clear hd hx1
    go_wp2
    rw [HF.out]
    refine bodyPost_ret (v := .agg #[.int .i64 0, .int .i64 0]) (by simp [results, Tryz.results128, go_sem, hc1, hf1, hz3]) rfl ⟨rfl, ?_⟩
    iterate 2 with_reducible refine Ext.set2 ?_ (by omega) _
    with_reducible exact HX.out
  · have HF := Lib.hid (show valD n s = (n, s) by simp [valD, hd])
    clear hd hx1
    go_wp2
    rw [HF.out]
    refine bodyPost_ret (v := .agg #[.int .i64 n, .int .i64 s]) (by simp [results, Tryz.results128, go_sem, hc1, hf1, hz3]) rfl ⟨rfl, ?_⟩
    iterate 2 with_reducible refine Ext.set2 ?_ (by omega) _
    with_reducible exact HX.out

/-- Powers of ten. -/
def pw (s : Int) : Int := if s = 0 then 1 else if s = 1 then 10 else if s = 2 then 100 else if s = 3 then 1000 else if s = 4 then 10000 else if s = 5 then 100000 else 1000000
/-- Millionths. -/
def mu (n s : Int) : Int := (valD n s).1 * pw (6 - (valD n s).2)
def Ret2 (w : World) (a b : Int) (e : Ending) (w' : World) : Prop := e = .returned (.tuple #[.int .i64 a, .int .i64 b]) ∧ Ext w w'
theorem valD_range (n s : Int) : 0 ≤ (valD n s).2 ∧ (valD n s).2 ≤ 6 ∧ -1000000000000000 ≤ (valD n s).1 ∧ (valD n s).1 ≤ 1000000000000000 := by
  unfold valD
  split
  · rename_i h
    simp [decR, unitsB] at h
    exact ⟨h.1.1.1, h.1.1.2, h.1.2.1, h.1.2.2⟩
  · simp
theorem split_q (a d m : Int) (hm : 0 < m) (h : d * m = 1000000) : (a * m).tdiv 1000000 = a.tdiv d ∧ (a * m).tmod 1000000 = a.tmod d * m := by
  rw [← h, Int.mul_comm a m, Int.mul_comm d m]
  exact ⟨Int.mul_tdiv_mul_of_pos _ _ hm, by rw [Int.mul_tmod_mul_of_pos _ _ hm, Int.mul_comm]⟩
theorem tmod_bd (a d m : Int) (hm : 0 < m) (hd : 0 < d) (h : d * m = 1000000) : -1000000 < a.tmod d * m ∧ a.tmod d * m < 1000000 := by
  have h1 := Int.tmod_lt_of_pos a hd
  have h2 : -d < a.tmod d := by
    have := Int.lt_tmod_of_pos a hd
    omega
  constructor
  · have : -d * m < a.tmod d * m := Int.mul_lt_mul_of_pos_right h2 hm
    rw [Int.neg_mul, h] at this; exact this
  · have : a.tmod d * m < d * m := Int.mul_lt_mul_of_pos_right h1 hm
    rw [h] at this; exact this
theorem split_ret (m a d k : Int) (hm : m = a * k) (hk : 0 < k) (hd : 0 < d) (h : d * k = 1000000) :
    Ending.returned (.tuple #[.int .i64 (a.tdiv d), .int .i64 (wrap64 (a.tmod d * k))]) = .returned (.tuple #[.int .i64 (m.tdiv 1000000), .int .i64 (m.tmod 1000000)]) := by
  obtain ⟨h1, h2⟩ := split_q a d k hk h
  obtain ⟨b1, b2⟩ := tmod_bd a d k hk hd h
  rw [hm, h1, h2, IntWalk.wrap64_in _ ⟨by omega, by omega⟩]
set_option maxRecDepth 100000 in
set_option maxHeartbeats 1000000 in
theorem decimal_split (n s : Int) (w : World) (ht : Tens w) : Calls Tryz.prog 98 #[.agg #[.int .i64 n, .int .i64 s]] w (Ret2 w ((mu n s).tdiv 1000000) ((mu n s).tmod 1000000)) := by
  have HT := Lib.hid ht
  clear ht
  go_enter Tryz.func98, Tryz.ntmps98
  go_wp2_with fail
  refine (decimal_value n s _).mono ?_
  rintro e1 w1 ⟨rfl, hx1⟩
  obtain ⟨hc1, hf1⟩ := bcell hx1
  have hz1 := hx1.size
  simp at hc1 hf1 hz1
  have hz2 : w.heap.size < w1.heap.size := by omega
  have HX := Lib.hid (((Ext.refl w).alloc _).trans hx1)
  have hr := valD_range n s
  have HM := Lib.hid (show mu n s = (valD n s).1 * pw (6 - (valD n s).2) from rfl)
  clear hx1
  generalize valD n s = p at *
  obtain ⟨a, b⟩ := p
  simp only at hr HM ⊢
  obtain ⟨hr1, hr2, hr3, hr4⟩ := hr
  have hb : b = 0 ∨ b = 1 ∨ b = 2 ∨ b = 3 ∨ b = 4 ∨ b = 5 ∨ b = 6 := by omega
  obtain ⟨t0, t1, t2, t3, t4, t5, t6⟩ := HT.out.ext HX.out
  have hp := HT.out.pos
  have hne : 0 ≠ w.heap.size := by omega
  have hne2 : w.heap.size ≠ 0 := by omega
  have b0 : w1.cell? ⟨w.heap.size, 0, none⟩ = some (.int .i64 n) := by rw [hc1 _ _ (by omega)]; simp [go_sem]
  have b1 : w1.cell? ⟨w.heap.size, 1, none⟩ = some (.int .i64 s) := by rw [hc1 _ _ (by omega)]; simp [go_sem]
  have f0 : w1.frozen? ⟨w.heap.size, 0, none⟩ = false := by rw [hf1 _ _ (by omega)]; simp [go_sem]
  have f1 : w1.frozen? ⟨w.heap.size, 1, none⟩ = false := by rw [hf1 _ _ (by omega)]; simp [go_sem]
  clear hc1 hf1
  rcases hb with rfl | rfl | rfl | rfl | rfl | rfl | rfl
  all_goals
    go_wp2
    go_quiet (fail)
    go_wp2
    go_ret2
    refine ⟨?_, ?_⟩
    rotate_left
    · with_reducible refine Ext.drewN ?_ _
      iterate 2 with_reducible refine Ext.set2 ?_ (by omega) _
      with_reducible exact HX.out
    have hm := HM.out
    simp [pw] at hm
  · rw [hm]
    simp [Int.mul_tdiv_cancel]
  · exact split_ret _ a 10 100000 hm (by decide) (by decide) (by decide)
  · exact split_ret _ a 100 10000 hm (by decide) (by decide) (by decide)
  · exact split_ret _ a 1000 1000 hm (by decide) (by decide) (by decide)
  · exact split_ret _ a 10000 100 hm (by decide) (by decide) (by decide)
  · exact split_ret _ a 100000 10 hm (by decide) (by decide) (by decide)
  · rw [hm]
    have hb := tmod_bd a 1000000 1 (by decide) (by decide) (by decide)
    rw [Int.mul_one] at hb
    show Ending.returned (.tuple #[.int .i64 (a.tdiv 1000000), .int .i64 (wrap64 (a.tmod 1000000))]) = _
    rw [IntWalk.wrap64_in _ ⟨by omega, by omega⟩]

/-- The canonical decimal of a number of millionths. -/
def normU (u : Int) : Int × Int :=
  if u % 10 ≠ 0 then (u, 6) else if u % 100 ≠ 0 then (u / 10, 5) else if u % 1000 ≠ 0 then (u / 100, 4) else if u % 10000 ≠ 0 then (u / 1000, 3)
  else if u % 100000 ≠ 0 then (u / 10000, 2) else if u % 1000000 ≠ 0 then (u / 100000, 1) else (u / 1000000, 0)
def joinS (u : Int) : (Int × Int) × Bool := if unitsB (normU u).1 = true then (normU u, true) else ((0, 0), false)
theorem normU_of {u n s : Int} (h0 : 0 ≤ s) (h6 : s ≤ 6) (h : n * pw (6 - s) = u) (hn : s = 0 ∨ n % 10 ≠ 0) : normU u = (n, s) := by
  have hs : s = 0 ∨ s = 1 ∨ s = 2 ∨ s = 3 ∨ s = 4 ∨ s = 5 ∨ s = 6 := by omega
  rcases hs with rfl | rfl | rfl | rfl | rfl | rfl | rfl <;> simp [pw] at h <;> subst h <;> unfold normU
  · rw [if_neg (by omega), if_neg (by omega), if_neg (by omega), if_neg (by omega), if_neg (by omega), if_neg (by omega)]; congr 1; omega
  · rw [if_neg (by omega), if_neg (by omega), if_neg (by omega), if_neg (by omega), if_neg (by omega), if_pos (by omega)]; congr 1; omega
  · rw [if_neg (by omega), if_neg (by omega), if_neg (by omega), if_neg (by omega), if_pos (by omega)]; congr 1; omega
  · rw [if_neg (by omega), if_neg (by omega), if_neg (by omega), if_pos (by omega)]; congr 1; omega
  · rw [if_neg (by omega), if_neg (by omega), if_pos (by omega)]; congr 1; omega
  · rw [if_neg (by omega), if_pos (by omega)]; congr 1; omega
  · rw [if_pos (by omega)]
/-- What tdiv and tmod by m give, in inequalities. -/
theorem tdm (b m : Int) (hm : 0 < m) : m * b.tdiv m + b.tmod m = b ∧ -m < b.tmod m ∧ b.tmod m < m ∧ (0 ≤ b → 0 ≤ b.tmod m) ∧ (b ≤ 0 → b.tmod m ≤ 0) := by
  refine ⟨Int.mul_tdiv_add_tmod b m, ?_, Int.tmod_lt_of_pos b hm, fun h => Int.tmod_nonneg m h, fun h => ?_⟩
  · have := Int.lt_tmod_of_pos b hm
    omega
  · have := Int.tmod_nonneg m (show 0 ≤ -b by omega)
    rw [Int.neg_tmod] at this
    omega
def RetDB (w : World) (r : (Int × Int) × Bool) (e : Ending) (w' : World) : Prop := e = .returned (.tuple #[.agg #[.int .i64 r.1.1, .int .i64 r.1.2], .bool r.2]) ∧ Ext w w'
theorem tens_at {w : World} (h : Tens w) (m : Nat) (hm : m ≤ 6) : w.cell? ⟨0, m, none⟩ = some (.int .i64 (pw (m : Int))) := by
  obtain ⟨h0, h1, h2, h3, h4, h5, h6⟩ := h
  have hs : m = 0 ∨ m = 1 ∨ m = 2 ∨ m = 3 ∨ m = 4 ∨ m = 5 ∨ m = 6 := by omega
  rcases hs with rfl | rfl | rfl | rfl | rfl | rfl | rfl <;> first | exact h0 | exact h1 | exact h2 | exact h3 | exact h4 | exact h5 | exact h6
theorem pw_bd (m : Nat) (hm : m ≤ 6) : 1 ≤ pw (m : Int) ∧ pw (m : Int) ≤ 1000000 := by
  have hs : m = 0 ∨ m = 1 ∨ m = 2 ∨ m = 3 ∨ m = 4 ∨ m = 5 ∨ m = 6 := by omega
  rcases hs with rfl | rfl | rfl | rfl | rfl | rfl | rfl <;> decide
theorem quo_bd (m : Nat) (hm : m ≤ 6) : 1000000000 ≤ 1000000000000000 / pw (m : Int) ∧ 1000000000000000 / pw (m : Int) ≤ 1000000000000000 := by
  have hs : m = 0 ∨ m = 1 ∨ m = 2 ∨ m = 3 ∨ m = 4 ∨ m = 5 ∨ m = 6 := by omega
  rcases hs with rfl | rfl | rfl | rfl | rfl | rfl | rfl <;> decide
theorem prod_bd (W : Int) (m : Nat) (hm : m ≤ 6) (h1 : -(1000000000000000 / pw (m : Int)) ≤ W) (h2 : W ≤ 1000000000000000 / pw (m : Int)) : -1000000000000000 ≤ W * pw (m : Int) ∧ W * pw (m : Int) ≤ 1000000000000000 := by
  have hs : m = 0 ∨ m = 1 ∨ m = 2 ∨ m = 3 ∨ m = 4 ∨ m = 5 ∨ m = 6 := by omega
  rcases hs with rfl | rfl | rfl | rfl | rfl | rfl | rfl <;> simp [pw] at h1 h2 ⊢ <;> omega
theorem join_bd (p R : Int) (m : Nat) (hm : m ≤ 6) (h : p * pw (6 - (m : Int)) = R) (h1 : -1000000 < R) (h2 : R < 1000000) : -1000000 < p ∧ p < 1000000 := by
  have hs : m = 0 ∨ m = 1 ∨ m = 2 ∨ m = 3 ∨ m = 4 ∨ m = 5 ∨ m = 6 := by omega
  rcases hs with rfl | rfl | rfl | rfl | rfl | rfl | rfl <;> simp [pw] at h <;> omega
theorem join_step (p R : Int) (m : Nat) (hm : m ≤ 6) (h0 : 0 < m) (h : p * pw (6 - (m : Int)) = R) (hx : 10 * p.tdiv 10 + p.tmod 10 = p) (hz : p.tmod 10 = 0) : p.tdiv 10 * pw (6 - ((m - 1 : Nat) : Int)) = R := by
  have hs : m = 1 ∨ m = 2 ∨ m = 3 ∨ m = 4 ∨ m = 5 ∨ m = 6 := by omega
  rcases hs with rfl | rfl | rfl | rfl | rfl | rfl <;> simp [pw] at h ⊢ <;> omega
theorem tmod10 (p : Int) : p.tmod 10 = 0 ↔ p % 10 = 0 := by
  rw [← Int.dvd_iff_tmod_eq_zero, ← Int.dvd_iff_emod_eq_zero]
theorem join_norm (W R p : Int) (m : Nat) (a b : Int) (hm : m ≤ 6) (h : p * pw (6 - (m : Int)) = R) (hw : W * 1000000 + R = a * 1000000 + b) (hn : (m : Int) = 0 ∨ p.tmod 10 ≠ 0) :
    normU (a * 1000000 + b) = (W * pw (m : Int) + p, (m : Int)) := by
  rw [← hw, ← h]
  rw [Ne, tmod10] at hn
  have hs : m = 0 ∨ m = 1 ∨ m = 2 ∨ m = 3 ∨ m = 4 ∨ m = 5 ∨ m = 6 := by omega
  rcases hs with rfl | rfl | rfl | rfl | rfl | rfl | rfl
  all_goals
    refine normU_of (by omega) (by omega) ?_ ?_
    · simp [pw] <;> omega
    · simp [pw] at hn ⊢ <;> omega
theorem join_no (W R p : Int) (m : Nat) (a b : Int) (hm : m ≤ 6) (h : p * pw (6 - (m : Int)) = R) (h1 : -1000000 < R) (h2 : R < 1000000) (hsg : (0 < W → 0 ≤ R) ∧ (W < 0 → R ≤ 0))
    (hn : normU (a * 1000000 + b) = (W * pw (m : Int) + p, (m : Int))) (ho : W < -(1000000000000000 / pw (m : Int)) ∨ 1000000000000000 / pw (m : Int) < W) : joinS (a * 1000000 + b) = ((0, 0), false) := by
  have hu : unitsB (W * pw (m : Int) + p) = false := by
    have hs : m = 0 ∨ m = 1 ∨ m = 2 ∨ m = 3 ∨ m = 4 ∨ m = 5 ∨ m = 6 := by omega
    rcases hs with rfl | rfl | rfl | rfl | rfl | rfl | rfl <;> simp [pw] at h ho ⊢ <;> simp [unitsB] <;> omega
  unfold joinS
  rw [hn, hu]
  rfl
end Go.Proofs.YtcmmkeiiapbgcaaGreatDoor
