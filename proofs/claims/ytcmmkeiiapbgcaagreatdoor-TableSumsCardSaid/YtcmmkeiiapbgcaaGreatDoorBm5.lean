/- The program's decimals: value, split, join, Add, Cmp by units of a millionth. Conditions: the variable tens holds the powers of ten. -/
import Derived.Test.YtcmmkeiiapbgcaaGreatDoorBm4
namespace Go.Proofs.YtcmmkeiiapbgcaaGreatDoor
open Go Go.RowKit

/-- The variable tens holds the powers of ten. -/
def Tens (w : World) : Prop := w.cell? ⟨0, 0, none⟩ = some (.int .i64 1) ∧ w.cell? ⟨0, 1, none⟩ = some (.int .i64 10) ∧ w.cell? ⟨0, 2, none⟩ = some (.int .i64 100) ∧ w.cell? ⟨0, 3, none⟩ = some (.int .i64 1000) ∧
  w.cell? ⟨0, 4, none⟩ = some (.int .i64 10000) ∧ w.cell? ⟨0, 5, none⟩ = some (.int .i64 100000) ∧ w.cell? ⟨0, 6, none⟩ = some (.int .i64 1000000)
theorem Tens.ext {w w' : World} (h : Tens w) (hx : Ext w w') : Tens w' := ⟨hx.cell h.1, hx.cell h.2.1, hx.cell h.2.2.1, hx.cell h.2.2.2.1, hx.cell h.2.2.2.2.1, hx.cell h.2.2.2.2.2.1, hx.cell h.2.2.2.2.2.2⟩
theorem Tens.pos {w : World} (h : Tens w) : 0 < w.heap.size := by
  rcases Nat.lt_or_ge 0 w.heap.size with h1 | h1
  · exact h1
  · have := h.1
    simp [World.cell?, Array.getElem?_eq_none h1] at this

def valD (n s : Int) : Int × Int := if decR n s = true then (n, s) else (0, 0)
def RetD (w : World) (r : Int × Int) (e : Ending) (w' : World) : Prop := e = .returned (.agg #[.int .i64 r.1, .int .i64 r.2]) ∧ Ext w w'
set_option maxRecDepth 100000 in
set_option maxHeartbeats 400000 in
theorem decimal_value (n s : Int) (w : World) : Calls Tryz.prog 128 #[.agg #[.int .i64 n, .int .i64 s]] w (RetD w (valD n s)) := by
  go_enter Tryz.func128, Tryz.ntmps128
  go_wp2_with fail
  refine (decimal_Right n s _).mono ?_
  rintro e1 w1 ⟨rfl, hx1⟩
  obtain ⟨hc1, hf1⟩ := bcell hx1
  have hz1 := hx1.size
  simp at hc1 hf1 hz1
  have hz2 : w.heap.size < w1.heap.size := by omega
  have hz3 : w.heap.size + 1 < w1.heap.size := by omega
  have HX := Lib.hid ((((Ext.refl w).alloc _).alloc _).trans hx1)
  cases hd : decR n s
  · have HF := Lib.hid (show valD n s = (0, 0) by simp [valD, hd])
    clear hd hx1
    go_wp2
    rw [HF.out]
    refine bodyPost_ret (v := .agg #[.int .i64 0, .int .i64 0]) (by simp [results, Tryz.results128, go_sem, hc1]) rfl ⟨rfl, ?_⟩
    iterate 2 with_reducible refine Ext.set2 ?_ (by omega) _
    with_reducible exact HX.out
  · have HF := Lib.hid (show valD n s = (n, s) by simp [valD, hd])
    clear hd hx1
    go_wp2
    rw [HF.out]
    refine bodyPost_ret (v := .agg #[.int .i64 n, .int .i64 s]) (by simp [results, Tryz.results128, go_sem, hc1]) rfl ⟨rfl, ?_⟩
    iterate 2 with_reducible refine Ext.set2 ?_ (by omega) _
    with_reducible exact HX.out

/-- Powers of ten. -/
def pw (s : Int) : Int := if s = 0 then 1 else if s = 1 then 10 else if s = 2 then 100 else if s = 3 then 1000 else if s = 4 then 10000 else if s = 5 then 100000 else 1000000
/-- Millionths. -/
def mu (n s : Int) : Int := (valD n s).1 * pw (6 - (valD n s).2)
def Ret2 (w : World) (a b : Int) (e : Ending) (w' : World) : Prop := e = .returned (.tuple #[.int .i64 a, .int .i64 b]) ∧ Ext w w'
theorem valD_range (n s : Int) : 0 ≤ (valD n s).2 ∧ (valD n s).2 ≤ 6 ∧ -1000000000000000 ≤ (valD n s).1 ∧ (valD n s).1 ≤ 1000000000000000 := by
  unfold valD
  split
  · rename_i h
    simp [decR, unitsB] at h
    exact ⟨h.1.1.1, h.1.1.2, h.1.2.1, h.1.2.2⟩
  · simp
theorem split_q (a d m : Int) (hm : 0 < m) (h : d * m = 1000000) : (a * m).tdiv 1000000 = a.tdiv d ∧ (a * m).tmod 1000000 = a.tmod d * m := by
  rw [← h, Int.mul_comm a m, Int.mul_comm d m]
  exact ⟨Int.mul_tdiv_mul_of_pos _ _ hm, by rw [Int.mul_tmod_mul_of_pos _ _ hm, Int.mul_comm]⟩
theorem tmod_bd (a d m : Int) (hm : 0 < m) (hd : 0 < d) (h : d * m = 1000000) : -1000000 < a.tmod d * m ∧ a.tmod d * m < 1000000 := by
  have h1 := Int.tmod_lt_of_pos a hd
  have h2 : -d < a.tmod d := by
    have := Int.lt_tmod_of_pos a hd
    omega
  constructor
  · have : -d * m < a.tmod d * m := Int.mul_lt_mul_of_pos_right h2 hm
    rw [Int.neg_mul, h] at this; exact this
  · have : a.tmod d * m < d * m := Int.mul_lt_mul_of_pos_right h1 hm
    rw [h] at this; exact this
theorem split_ret (m a d k : Int) (hm : m = a * k) (hk : 0 < k) (hd : 0 < d) (h : d * k = 1000000) :
    Ending.returned (.tuple #[.int .i64 (a.tdiv d), .int .i64 (wrap64 (a.tmod d * k))]) = .returned (.tuple #[.int .i64 (m.tdiv 1000000), .int .i64 (m.tmod 1000000)]) := by
  obtain ⟨h1, h2⟩ := split_q a d k hk h
  obtain ⟨b1, b2⟩ := tmod_bd a d k hk hd h
  rw [hm, h1, h2, IntWalk.wrap64_in _ ⟨by omega, by omega⟩]
set_option maxRecDepth 100000 in
set_option maxHeartbeats 1000000 in
theorem decimal_split (n s : Int) (w : World) (ht : Tens w) : Calls Tryz.prog 98 #[.agg #[.int .i64 n, .int .i64 s]] w (Ret2 w ((mu n s).tdiv 1000000) ((mu n s).tmod 1000000)) := by
  have HT := Lib.hid ht
  clear ht
  go_enter Tryz.func98, Tryz.ntmps98
  go_wp2_with fail
  refine (decimal_value n s _).mono ?_
  rintro e1 w1 ⟨rfl, hx1⟩
  obtain ⟨hc1, hf1⟩ := bcell hx1
  have hz1 := hx1.size
  simp at hc1 hf1 hz1
  have hz2 : w.heap.size < w1.heap.size := by omega
  have HX := Lib.hid (((Ext.refl w).alloc _).trans hx1)
  have hr := valD_range n s
  have HM := Lib.hid (show mu n s = (valD n s).1 * pw (6 - (valD n s).2) from rfl)
  clear hx1
  generalize valD n s = p at *
  obtain ⟨a, b⟩ := p
  simp only at hr HM ⊢
  obtain ⟨hr1, hr2, hr3, hr4⟩ := hr
  have hb : b = 0 ∨ b = 1 ∨ b = 2 ∨ b = 3 ∨ b = 4 ∨ b = 5 ∨ b = 6 := by omega
  obtain ⟨t0, t1, t2, t3, t4, t5, t6⟩ := HT.out.ext HX.out
  have hp := HT.out.pos
  have hne : 0 ≠ w.heap.size := by omega
  have hne2 : w.heap.size ≠ 0 := by omega
  have b0 : w1.cell? ⟨w.heap.size, 0, none⟩ = some (.int .i64 n) := by rw [hc1 _ _ (by omega)]; simp [go_sem]
  have b1 : w1.cell? ⟨w.heap.size, 1, none⟩ = some (.int .i64 s) := by rw [hc1 _ _ (by omega)]; simp [go_sem]
  have f0 : w1.frozen? ⟨w.heap.size, 0, none⟩ = false := by rw [hf1 _ _ (by omega)]; simp [go_sem]
  have f1 : w1.frozen? ⟨w.heap.size, 1, none⟩ = false := by rw [hf1 _ _ (by omega)]; simp [go_sem]
  clear hc1 hf1
  rcases hb with rfl | rfl | rfl | rfl | rfl | rfl | rfl
  all_goals
    go_wp2
    go_quiet (fail)
    go_wp2
    go_ret2
    refine ⟨?_, ?_⟩
    rotate_left
    · with_reducible refine Ext.drewN ?_ _
      iterate 2 with_reducible refine Ext.set2 ?_ (by omega) _
      with_reducible exact HX.out
    have hm := HM.out
    simp [pw] at hm
  · rw [hm]
    simp [Int.mul_tdiv_cancel]
  · exact split_ret _ a 10 100000 hm (by decide) (by decide) (by decide)
  · exact split_ret _ a 100 10000 hm (by decide) (by decide) (by decide)
  · exact split_ret _ a 1000 1000 hm (by decide) (by decide) (by decide)
  · exact split_ret _ a 10000 100 hm (by decide) (by decide) (by decide)
  · exact split_ret _ a 100000 10 hm (by decide) (by decide) (by decide)
  · rw [hm]
    have hb := tmod_bd a 1000000 1 (by decide) (by decide) (by decide)
    rw [Int.mul_one] at hb
    show Ending.returned (.tuple #[.int .i64 (a.tdiv 1000000), .int .i64 (wrap64 (a.tmod 1000000))]) = _
    rw [IntWalk.wrap64_in _ ⟨by omega, by omega⟩]

/-- The canonical decimal of a number of millionths. -/
def normU (u : Int) : Int × Int :=
  if u % 10 ≠ 0 then (u, 6) else if u % 100 ≠ 0 then (u / 10, 5) else if u % 1000 ≠ 0 then (u / 100, 4) else if u % 10000 ≠ 0 then (u / 1000, 3)
  else if u % 100000 ≠ 0 then (u / 10000, 2) else if u % 1000000 ≠ 0 then (u / 100000, 1) else (u / 1000000, 0)
def joinS (u : Int) : (Int × Int) × Bool := if unitsB (normU u).1 = true then (normU u, true) else ((0, 0), false)
theorem normU_of {u n s : Int} (h0 : 0 ≤ s) (h6 : s ≤ 6) (h : n * pw (6 - s) = u) (hn : s = 0 ∨ n % 10 ≠ 0) : normU u = (n, s) := by
  have hs : s = 0 ∨ s = 1 ∨ s = 2 ∨ s = 3 ∨ s = 4 ∨ s = 5 ∨ s = 6 := by omega
  rcases hs with rfl | rfl | rfl | rfl | rfl | rfl | rfl <;> simp [pw] at h <;> subst h <;> unfold normU
  · rw [if_neg (by omega), if_neg (by omega), if_neg (by omega), if_neg (by omega), if_neg (by omega), if_neg (by omega)]; congr 1; omega
  · rw [if_neg (by omega), if_neg (by omega), if_neg (by omega), if_neg (by omega), if_neg (by omega), if_pos (by omega)]; congr 1; omega
  · rw [if_neg (by omega), if_neg (by omega), if_neg (by omega), if_neg (by omega), if_pos (by omega)]; congr 1; omega
  · rw [if_neg (by omega), if_neg (by omega), if_neg (by omega), if_pos (by omega)]; congr 1; omega
  · rw [if_neg (by omega), if_neg (by omega), if_pos (by omega)]; congr 1; omega
  · rw [if_neg (by omega), if_pos (by omega)]; congr 1; omega
  · rw [if_pos (by omega)]
/-- What tdiv and tmod by m give, in inequalities. -/
theorem tdm (b m : Int) (hm : 0 < m) : m * b.tdiv m + b.tmod m = b ∧ -m < b.tmod m ∧ b.tmod m < m ∧ (0 ≤ b → 0 ≤ b.tmod m) ∧ (b ≤ 0 → b.tmod m ≤ 0) := by
  refine ⟨Int.mul_tdiv_add_tmod b m, ?_, Int.tmod_lt_of_pos b hm, fun h => Int.tmod_nonneg m h, fun h => ?_⟩
  · have := Int.lt_tmod_of_pos b hm
    omega
  · have := Int.tmod_nonneg m (show 0 ≤ -b by omega)
    rw [Int.neg_tmod] at this
    omega
def RetDB (w : World) (r : (Int × Int) × Bool) (e : Ending) (w' : World) : Prop := e = .returned (.tuple #[.agg #[.int .i64 r.1.1, .int .i64 r.1.2], .bool r.2]) ∧ Ext w w'
theorem tens_at {w : World} (h : Tens w) (m : Nat) (hm : m ≤ 6) : w.cell? ⟨0, m, none⟩ = some (.int .i64 (pw (m : Int))) := by
  obtain ⟨h0, h1, h2, h3, h4, h5, h6⟩ := h
  have hs : m = 0 ∨ m = 1 ∨ m = 2 ∨ m = 3 ∨ m = 4 ∨ m = 5 ∨ m = 6 := by omega
  rcases hs with rfl | rfl | rfl | rfl | rfl | rfl | rfl <;> first | exact h0 | exact h1 | exact h2 | exact h3 | exact h4 | exact h5 | exact h6
theorem pw_bd (m : Nat) (hm : m ≤ 6) : 1 ≤ pw (m : Int) ∧ pw (m : Int) ≤ 1000000 := by
  have hs : m = 0 ∨ m = 1 ∨ m = 2 ∨ m = 3 ∨ m = 4 ∨ m = 5 ∨ m = 6 := by omega
  rcases hs with rfl | rfl | rfl | rfl | rfl | rfl | rfl <;> decide
theorem quo_bd (m : Nat) (hm : m ≤ 6) : 1000000000 ≤ 1000000000000000 / pw (m : Int) ∧ 1000000000000000 / pw (m : Int) ≤ 1000000000000000 := by
  have hs : m = 0 ∨ m = 1 ∨ m = 2 ∨ m = 3 ∨ m = 4 ∨ m = 5 ∨ m = 6 := by omega
  rcases hs with rfl | rfl | rfl | rfl | rfl | rfl | rfl <;> decide
theorem prod_bd (W : Int) (m : Nat) (hm : m ≤ 6) (h1 : -(1000000000000000 / pw (m : Int)) ≤ W) (h2 : W ≤ 1000000000000000 / pw (m : Int)) : -1000000000000000 ≤ W * pw (m : Int) ∧ W * pw (m : Int) ≤ 1000000000000000 := by
  have hs : m = 0 ∨ m = 1 ∨ m = 2 ∨ m = 3 ∨ m = 4 ∨ m = 5 ∨ m = 6 := by omega
  rcases hs with rfl | rfl | rfl | rfl | rfl | rfl | rfl <;> simp [pw] at h1 h2 ⊢ <;> omega
theorem join_bd (p R : Int) (m : Nat) (hm : m ≤ 6) (h : p * pw (6 - (m : Int)) = R) (h1 : -1000000 < R) (h2 : R < 1000000) : -1000000 < p ∧ p < 1000000 := by
  have hs : m = 0 ∨ m = 1 ∨ m = 2 ∨ m = 3 ∨ m = 4 ∨ m = 5 ∨ m = 6 := by omega
  rcases hs with rfl | rfl | rfl | rfl | rfl | rfl | rfl <;> simp [pw] at h <;> omega
theorem join_step (p R : Int) (m : Nat) (hm : m ≤ 6) (h0 : 0 < m) (h : p * pw (6 - (m : Int)) = R) (hx : 10 * p.tdiv 10 + p.tmod 10 = p) (hz : p.tmod 10 = 0) : p.tdiv 10 * pw (6 - ((m - 1 : Nat) : Int)) = R := by
  have hs : m = 1 ∨ m = 2 ∨ m = 3 ∨ m = 4 ∨ m = 5 ∨ m = 6 := by omega
  rcases hs with rfl | rfl | rfl | rfl | rfl | rfl <;> simp [pw] at h ⊢ <;> omega
theorem tmod10 (p : Int) : p.tmod 10 = 0 ↔ p % 10 = 0 := by
  rw [← Int.dvd_iff_tmod_eq_zero, ← Int.dvd_iff_emod_eq_zero]
theorem join_norm (W R p : Int) (m : Nat) (a b : Int) (hm : m ≤ 6) (h : p * pw (6 - (m : Int)) = R) (hw : W * 1000000 + R = a * 1000000 + b) (hn : (m : Int) = 0 ∨ p.tmod 10 ≠ 0) :
    normU (a * 1000000 + b) = (W * pw (m : Int) + p, (m : Int)) := by
  rw [← hw, ← h]
  rw [Ne, tmod10] at hn
  have hs : m = 0 ∨ m = 1 ∨ m = 2 ∨ m = 3 ∨ m = 4 ∨ m = 5 ∨ m = 6 := by omega
  rcases hs with rfl | rfl | rfl | rfl | rfl | rfl | rfl
  all_goals
    refine normU_of (by omega) (by omega) ?_ ?_
    · simp [pw] <;> omega
    · simp [pw] at hn ⊢ <;> omega
theorem join_no (W R p : Int) (m : Nat) (a b : Int) (hm : m ≤ 6) (h : p * pw (6 - (m : Int)) = R) (h1 : -1000000 < R) (h2 : R < 1000000) (_hsg : (0 < W → 0 ≤ R) ∧ (W < 0 → R ≤ 0))
    (hn : normU (a * 1000000 + b) = (W * pw (m : Int) + p, (m : Int))) (ho : W < -(1000000000000000 / pw (m : Int)) ∨ 1000000000000000 / pw (m : Int) < W) : joinS (a * 1000000 + b) = ((0, 0), false) := by
  have hu : unitsB (W * pw (m : Int) + p) = false := by
    have hs : m = 0 ∨ m = 1 ∨ m = 2 ∨ m = 3 ∨ m = 4 ∨ m = 5 ∨ m = 6 := by omega
    rcases hs with rfl | rfl | rfl | rfl | rfl | rfl | rfl <;> simp [pw] at h ho ⊢ <;> simp [unitsB] <;> omega
  unfold joinS
  rw [hn, hu]
  rfl
end Go.Proofs.YtcmmkeiiapbgcaaGreatDoor
/- cmp.Compare, cmp.Or and the program's decimal.Cmp: the order of the numbers of millionths. Conditions: the variable tens holds the powers of ten. -/
namespace Go.Proofs.YtcmmkeiiapbgcaaGreatDoor
open Go Go.RowKit

def cmpI (a b : Int) : Int := if a < b then -1 else if b < a then 1 else 0
set_option maxRecDepth 100000 in
set_option maxHeartbeats 400000 in
theorem cmp_isNaN (a : Int) (w : World) : Calls Tryz.prog 129 #[.int .i64 a] w (SameB w false) := by
  have h : (a != a) = false := by simp
  go_enter Tryz.func129, Tryz.ntmps129
  go_wp2
  go_ret
  exact ⟨by simp, rfl⟩
set_option maxRecDepth 100000 in
set_option maxHeartbeats 400000 in
theorem cmp_Compare (a b : Int) (w : World) : Calls Tryz.prog 101 #[.int .i64 a, .int .i64 b] w (SameI w (cmpI a b)) := by
  by_cases h1 : a < b
  · have HF := Lib.hid (show cmpI a b = -1 by simp [cmpI, h1])
    go_enter Tryz.func101, Tryz.ntmps101
    go_wp2_with (go_at_call 129; refine (cmp_isNaN _ _).mono ?_; rintro e w' ⟨rfl, rfl⟩)
    go_ret
    exact ⟨by rw [HF.out]; rfl, rfl⟩
  by_cases h2 : b < a
  · have HF := Lib.hid (show cmpI a b = 1 by simp [cmpI, h1, h2])
    go_enter Tryz.func101, Tryz.ntmps101
    go_wp2_with (go_at_call 129; refine (cmp_isNaN _ _).mono ?_; rintro e w' ⟨rfl, rfl⟩)
    go_ret
    exact ⟨by rw [HF.out]; rfl, rfl⟩
  · have HF := Lib.hid (show cmpI a b = 0 by simp [cmpI, h1, h2])
    go_enter Tryz.func101, Tryz.ntmps101
    go_wp2_with (go_at_call 129; refine (cmp_isNaN _ _).mono ?_; rintro e w' ⟨rfl, rfl⟩)
    go_ret
    exact ⟨by rw [HF.out]; rfl, rfl⟩
def orI (a b : Int) : Int := if a ≠ 0 then a else b
set_option maxRecDepth 100000 in
set_option maxHeartbeats 400000 in
theorem cmp_Or (a b : Int) (g c : Nat) (w : World) (h0 : w.cell? ⟨g, 0, none⟩ = some (.int .i64 a)) (h1 : w.cell? ⟨g, 1, none⟩ = some (.int .i64 b)) : Calls Tryz.prog 100 #[.slice (some ⟨g, 0, none⟩) 2 c] w (SameI w (orI a b)) := by
  by_cases ha : a = 0
  · have ha' : (a != 0) = false := by simp [ha]
    by_cases hb : b = 0
    · have hb' : (b != 0) = false := by simp [hb]
      have HF := Lib.hid (show orI a b = 0 by simp [orI, ha, hb])
      clear ha hb
      go_enter Tryz.func100, Tryz.ntmps100
      go_wp2
      refine wp_loop_rounds 3 ?_
      rw [rounds_succ]
      go_wp2
      rw [rounds_succ]
      go_wp2
      rw [rounds_succ]
      go_wp2
      go_ret
      exact ⟨by rw [HF.out]; rfl, rfl⟩
    · have hb' : (b != 0) = true := by simp [hb]
      have HF := Lib.hid (show orI a b = b by simp [orI, ha])
      clear ha hb
      go_enter Tryz.func100, Tryz.ntmps100
      go_wp2
      refine wp_loop_rounds 2 ?_
      rw [rounds_succ]
      go_wp2
      rw [rounds_succ]
      go_wp2
      go_ret
      exact ⟨by rw [HF.out]; rfl, rfl⟩
  · have ha' : (a != 0) = true := by simp [ha]
    have HF := Lib.hid (show orI a b = a by simp [orI, ha])
    clear ha
    go_enter Tryz.func100, Tryz.ntmps100
    go_wp2
    refine wp_loop_rounds 1 ?_
    rw [rounds_succ]
    go_wp2
    go_ret
    exact ⟨by rw [HF.out]; rfl, rfl⟩
theorem cmp_mu (u v : Int) : orI (cmpI (u.tdiv 1000000) (v.tdiv 1000000)) (cmpI (u.tmod 1000000) (v.tmod 1000000)) = cmpI u v := by
  obtain ⟨a1, a2, a3, a4, a5⟩ := tdm u 1000000 (by decide)
  obtain ⟨b1, b2, b3, b4, b5⟩ := tdm v 1000000 (by decide)
  generalize u.tdiv 1000000 = x at *
  generalize v.tdiv 1000000 = y at *
  generalize u.tmod 1000000 = f at *
  generalize v.tmod 1000000 = g at *
  unfold orI cmpI
  by_cases h1 : x < y
  · rw [if_pos h1, if_pos (by decide), if_pos (by omega)]
  · by_cases h2 : y < x
    · rw [if_neg h1, if_pos h2, if_pos (by decide), if_neg (by omega), if_pos (by omega)]
    · rw [if_neg h1, if_neg h2, if_neg (by decide)]
      by_cases h3 : f < g
      · rw [if_pos h3, if_pos (by omega)]
      · by_cases h4 : g < f
        · rw [if_neg h3, if_pos h4, if_neg (by omega), if_pos (by omega)]
        · rw [if_neg h3, if_neg h4, if_neg (by omega), if_neg (by omega)]
set_option maxRecDepth 100000 in
set_option maxHeartbeats 400000 in
theorem decimal_Cmp (a b a' b' : Int) (w : World) (ht : Tens w) : Calls Tryz.prog 58 #[.agg #[.int .i64 a, .int .i64 b], .agg #[.int .i64 a', .int .i64 b']] w (RetI w (cmpI (mu a b) (mu a' b'))) := by
  have HT := Lib.hid ht
  clear ht
  go_enter Tryz.func58, Tryz.ntmps58
  go_wp2_with fail
  refine (decimal_split a b _ (HT.out.ext (((Ext.refl w).alloc _).alloc _))).mono ?_
  rintro e1 w1 ⟨rfl, hx1⟩
  have HX1 := Lib.hid ((((Ext.refl w).alloc _).alloc _).trans hx1)
  have hb := (Blk.new (w.alloc (.cells #[.int .i64 a, .int .i64 b] 31)) 31 #[.int .i64 a', .int .i64 b']).keep (hx1.kept _)
  have c0 := hb.cell (i := 0) rfl
  have c1 := hb.cell (i := 1) rfl
  simp at c0 c1
  clear hb hx1
  go_wp2_with fail
  refine (decimal_split a' b' _ (HT.out.ext HX1.out)).mono ?_
  rintro e1 w2 ⟨rfl, hx2⟩
  have HX2 := Lib.hid (HX1.out.trans hx2)
  have HC := Lib.hid (cmp_mu (mu a b) (mu a' b'))
  clear hx2 c0 c1
  generalize (mu a b).tdiv 1000000 = x at *
  generalize (mu a b).tmod 1000000 = f at *
  generalize (mu a' b').tdiv 1000000 = y at *
  generalize (mu a' b').tmod 1000000 = g at *
  go_wp2_with (first | (go_at_call 101; refine (cmp_Compare _ _ _).mono ?_; rintro e w' ⟨rfl, rfl⟩))
  refine (cmp_Or (cmpI x y) (cmpI f g) _ _ _ ?_ ?_).mono ?_
  · simp [go_sem]
  · simp [go_sem]
  rintro e w' ⟨rfl, rfl⟩
  go_wp2
  go_ret
  exact ⟨by rw [← HC.out]; rfl, HX2.out.alloc _⟩
end Go.Proofs.YtcmmkeiiapbgcaaGreatDoor
/- The program's decimal.join. Conditions: the variable tens holds the powers of ten; the parts are bounded. -/
namespace Go.Proofs.YtcmmkeiiapbgcaaGreatDoor
open Go Go.RowKit

set_option maxRecDepth 100000 in
set_option maxHeartbeats 2000000 in
theorem decimal_join_pos (a b : Int) (w : World) (ht : Tens w) (ha1 : -4000000000000000 ≤ a) (ha2 : a ≤ 4000000000000000) (hb1 : -4000000 ≤ b) (hb2 : b ≤ 4000000) (hb0 : 0 ≤ b) :
    Calls Tryz.prog 99 #[.int .i64 a, .int .i64 b] w (RetDB w (joinS (a * 1000000 + b))) := by
  have hp := ht.pos
  have HT := Lib.hid ht
  clear ht
  have HU := Lib.hid (show 1000000 * (b / 1000000) + b % 1000000 = b by omega)
  have q1 : -5 ≤ b / 1000000 := by omega
  have q2 : b / 1000000 ≤ 5 := by omega
  have d2 : 0 ≤ b % 1000000 := by omega
  have d3 : b % 1000000 < 1000000 := by omega
  go_enter Tryz.func99, Tryz.ntmps99
  go_wp2_with fail
  · have hWR : (a + b / 1000000) * 1000000 + (b % 1000000) = a * 1000000 + b := by have := HU.out; omega
    have hR1 : -1000000 < b % 1000000 := by omega
    have hR2 : b % 1000000 < 1000000 := by omega
    have hW1 : -4000000000000010 ≤ a + b / 1000000 := by omega
    have hW2 : a + b / 1000000 ≤ 4000000000000010 := by omega
    have hsg : (0 < a + b / 1000000 → 0 ≤ b % 1000000) ∧ (a + b / 1000000 < 0 → b % 1000000 ≤ 0) := by omega
    have HWR := Lib.hid hWR
    have HSG := Lib.hid hsg
    clear hWR hsg
    generalize hWe : a + b / 1000000 = W at *
    generalize hRe : b % 1000000 = R at *
    clear hWe hRe
    go_loop [1, 6] (fun v i => ∃ (p : Int) (m : Nat), m ≤ 6 ∧ v = .int .i64 p ∧ i = .int .i64 m ∧ p * pw (6 - (m : Int)) = R) (fun _ i => (intOf i).toNat)
    case atStart => exact ⟨R, 6, by omega, rfl, rfl, by simp [pw]⟩
    case round =>
      obtain ⟨p, m, hm, rfl, rfl, hpR⟩ := hrel
      have HPR := Lib.hid hpR
      clear hpR
      have hpb := join_bd p R m hm HPR.out hR1 hR2
      obtain ⟨hpb1, hpb2⟩ := hpb
      obtain ⟨x1, x2, x3, x4, x5⟩ := tdm p 10 (by decide)
      have HX1 := Lib.hid x1
      clear x1
      by_cases hm0 : 0 < m
      · have hm0' : (0 : Int) < (m : Int) := by omega
        by_cases hz : p.tmod 10 = 0
        · have hz' : (p.tmod 10 == 0) = true := by simp [hz]
          have HZ := Lib.hid hz
          clear hz
          go_wp2
          go_round
          case rel => exact ⟨p.tdiv 10, m - 1, by omega, rfl, by congr 1; omega, join_step p R m hm hm0 HPR.out HX1.out HZ.out⟩
          case measure => simp [intOf]; omega
        · have hz' : (p.tmod 10 == 0) = false := by simp [hz]
          have HN := Lib.hid (join_norm W R p m a b hm HPR.out HWR.out (Or.inr hz))
          clear hz
          have hcell := tens_at HT.out m hm
          have hpw := pw_bd m hm
          obtain ⟨hpw1, hpw2⟩ := hpw
          have hdv := quo_bd m hm
          obtain ⟨hdv1, hdv2⟩ := hdv
          by_cases hlo : W < -(1000000000000000 / pw (m : Int))
          · have HF := Lib.hid (join_no W R p m a b hm HPR.out hR1 hR2 HSG.out HN.out (Or.inl hlo))
            try (exfalso; omega)
            all_goals go_wp2
            all_goals
              rw [HF.out]
              refine bodyPost_ret (v := .tuple #[.agg #[.int .i64 0, .int .i64 0], .bool false]) (by simp [results, Tryz.results99, go_sem]) rfl ⟨rfl, ?_⟩
              exact (Ext.refl w).alloc _
          by_cases hhi : 1000000000000000 / pw (m : Int) < W
          · have HF := Lib.hid (join_no W R p m a b hm HPR.out hR1 hR2 HSG.out HN.out (Or.inr hhi))
            try (exfalso; omega)
            all_goals go_wp2
            all_goals
              rw [HF.out]
              refine bodyPost_ret (v := .tuple #[.agg #[.int .i64 0, .int .i64 0], .bool false]) (by simp [results, Tryz.results99, go_sem]) rfl ⟨rfl, ?_⟩
              exact (Ext.refl w).alloc _
          have hprod := prod_bd W m hm (by omega) (by omega)
          obtain ⟨hprod1, hprod2⟩ := hprod
          cases hu : unitsB (W * pw (m : Int) + p)
          · have HF := Lib.hid (show joinS (a * 1000000 + b) = ((0, 0), false) by unfold joinS; rw [HN.out, hu]; rfl)
            have HUU := Lib.hid hu
            clear hu
            go_wp2_with (go_at_call 125; refine (decimal_within _ _).mono ?_; rintro e w' ⟨rfl, rfl⟩; rw [HUU.out])
            all_goals
              rw [HF.out]
              refine bodyPost_ret (v := .tuple #[.agg #[.int .i64 0, .int .i64 0], .bool false]) (by simp [results, Tryz.results99, go_sem]) rfl ⟨rfl, ?_⟩
              exact (Ext.refl w).alloc _
          · have HF := Lib.hid (show joinS (a * 1000000 + b) = ((W * pw (m : Int) + p, (m : Int)), true) by unfold joinS; rw [HN.out, hu]; rfl)
            have HUU := Lib.hid hu
            clear hu
            go_wp2_with (go_at_call 125; refine (decimal_within _ _).mono ?_; rintro e w' ⟨rfl, rfl⟩; rw [HUU.out])
            all_goals
              rw [HF.out]
              refine bodyPost_ret (v := .tuple #[.agg #[.int .i64 (W * pw (m : Int) + p), .int .i64 (m : Int)], .bool true]) (by simp [results, Tryz.results99, go_sem]) rfl ⟨rfl, ?_⟩
              exact (Ext.refl w).alloc _
      · have hm0' : ¬ (0 : Int) < (m : Int) := by omega
        have HN := Lib.hid (join_norm W R p m a b hm HPR.out HWR.out (Or.inl (by omega)))
        obtain rfl : m = 0 := by omega
        have HN' := Lib.hid (show normU (a * 1000000 + b) = (W + p, 0) by have := HN.out; simpa [pw] using this)
        have hcell := HT.out.1
        by_cases hlo : W < -1000000000000000
        · have HF := Lib.hid (join_no W R p 0 a b hm HPR.out hR1 hR2 HSG.out HN.out (Or.inl (by simpa [pw] using hlo)))
          try (exfalso; omega)
          all_goals go_wp2
          all_goals
            rw [HF.out]
            refine bodyPost_ret (v := .tuple #[.agg #[.int .i64 0, .int .i64 0], .bool false]) (by simp [results, Tryz.results99, go_sem]) rfl ⟨rfl, ?_⟩
            exact (Ext.refl w).alloc _
        by_cases hhi : 1000000000000000 < W
        · have HF := Lib.hid (join_no W R p 0 a b hm HPR.out hR1 hR2 HSG.out HN.out (Or.inr (by simpa [pw] using hhi)))
          try (exfalso; omega)
          all_goals go_wp2
          all_goals
            rw [HF.out]
            refine bodyPost_ret (v := .tuple #[.agg #[.int .i64 0, .int .i64 0], .bool false]) (by simp [results, Tryz.results99, go_sem]) rfl ⟨rfl, ?_⟩
            exact (Ext.refl w).alloc _
        cases hu : unitsB (W + p)
        · have HF := Lib.hid (show joinS (a * 1000000 + b) = ((0, 0), false) by unfold joinS; rw [HN'.out, hu]; rfl)
          have HUU := Lib.hid hu
          clear hu
          go_wp2_with (go_at_call 125; refine (decimal_within _ _).mono ?_; rintro e w' ⟨rfl, rfl⟩; rw [HUU.out])
          all_goals
            rw [HF.out]
            refine bodyPost_ret (v := .tuple #[.agg #[.int .i64 0, .int .i64 0], .bool false]) (by simp [results, Tryz.results99, go_sem]) rfl ⟨rfl, ?_⟩
            exact (Ext.refl w).alloc _
        · have HF := Lib.hid (show joinS (a * 1000000 + b) = ((W + p, 0), true) by unfold joinS; rw [HN'.out, hu]; rfl)
          have HUU := Lib.hid hu
          clear hu
          go_wp2_with (go_at_call 125; refine (decimal_within _ _).mono ?_; rintro e w' ⟨rfl, rfl⟩; rw [HUU.out])
          all_goals
            rw [HF.out]
            refine bodyPost_ret (v := .tuple #[.agg #[.int .i64 (W + p), .int .i64 0], .bool true]) (by simp [results, Tryz.results99, go_sem]) rfl ⟨rfl, ?_⟩
            exact (Ext.refl w).alloc _
  · have hWR : (a + b / 1000000 + 1) * 1000000 + (b % 1000000 - 1000000) = a * 1000000 + b := by have := HU.out; omega
    have hR1 : -1000000 < b % 1000000 - 1000000 := by omega
    have hR2 : b % 1000000 - 1000000 < 1000000 := by omega
    have hW1 : -4000000000000010 ≤ a + b / 1000000 + 1 := by omega
    have hW2 : a + b / 1000000 + 1 ≤ 4000000000000010 := by omega
    have hsg : (0 < a + b / 1000000 + 1 → 0 ≤ b % 1000000 - 1000000) ∧ (a + b / 1000000 + 1 < 0 → b % 1000000 - 1000000 ≤ 0) := by omega
    have HWR := Lib.hid hWR
    have HSG := Lib.hid hsg
    clear hWR hsg
    generalize hWe : a + b / 1000000 + 1 = W at *
    generalize hRe : b % 1000000 - 1000000 = R at *
    clear hWe hRe
    go_loop [1, 6] (fun v i => ∃ (p : Int) (m : Nat), m ≤ 6 ∧ v = .int .i64 p ∧ i = .int .i64 m ∧ p * pw (6 - (m : Int)) = R) (fun _ i => (intOf i).toNat)
    case atStart => exact ⟨R, 6, by omega, rfl, rfl, by simp [pw]⟩
    case round =>
      obtain ⟨p, m, hm, rfl, rfl, hpR⟩ := hrel
      have HPR := Lib.hid hpR
      clear hpR
      have hpb := join_bd p R m hm HPR.out hR1 hR2
      obtain ⟨hpb1, hpb2⟩ := hpb
      obtain ⟨x1, x2, x3, x4, x5⟩ := tdm p 10 (by decide)
      have HX1 := Lib.hid x1
      clear x1
      by_cases hm0 : 0 < m
      · have hm0' : (0 : Int) < (m : Int) := by omega
        by_cases hz : p.tmod 10 = 0
        · have hz' : (p.tmod 10 == 0) = true := by simp [hz]
          have HZ := Lib.hid hz
          clear hz
          go_wp2
          go_round
          case rel => exact ⟨p.tdiv 10, m - 1, by omega, rfl, by congr 1; omega, join_step p R m hm hm0 HPR.out HX1.out HZ.out⟩
          case measure => simp [intOf]; omega
        · have hz' : (p.tmod 10 == 0) = false := by simp [hz]
          have HN := Lib.hid (join_norm W R p m a b hm HPR.out HWR.out (Or.inr hz))
          clear hz
          have hcell := tens_at HT.out m hm
          have hpw := pw_bd m hm
          obtain ⟨hpw1, hpw2⟩ := hpw
          have hdv := quo_bd m hm
          obtain ⟨hdv1, hdv2⟩ := hdv
          by_cases hlo : W < -(1000000000000000 / pw (m : Int))
          · have HF := Lib.hid (join_no W R p m a b hm HPR.out hR1 hR2 HSG.out HN.out (Or.inl hlo))
            try (exfalso; omega)
            all_goals go_wp2
            all_goals
              rw [HF.out]
              refine bodyPost_ret (v := .tuple #[.agg #[.int .i64 0, .int .i64 0], .bool false]) (by simp [results, Tryz.results99, go_sem]) rfl ⟨rfl, ?_⟩
              exact (Ext.refl w).alloc _
          by_cases hhi : 1000000000000000 / pw (m : Int) < W
          · have HF := Lib.hid (join_no W R p m a b hm HPR.out hR1 hR2 HSG.out HN.out (Or.inr hhi))
            try (exfalso; omega)
            all_goals go_wp2
            all_goals
              rw [HF.out]
              refine bodyPost_ret (v := .tuple #[.agg #[.int .i64 0, .int .i64 0], .bool false]) (by simp [results, Tryz.results99, go_sem]) rfl ⟨rfl, ?_⟩
              exact (Ext.refl w).alloc _
          have hprod := prod_bd W m hm (by omega) (by omega)
          obtain ⟨hprod1, hprod2⟩ := hprod
          cases hu : unitsB (W * pw (m : Int) + p)
          · have HF := Lib.hid (show joinS (a * 1000000 + b) = ((0, 0), false) by unfold joinS; rw [HN.out, hu]; rfl)
            have HUU := Lib.hid hu
            clear hu
            go_wp2_with (go_at_call 125; refine (decimal_within _ _).mono ?_; rintro e w' ⟨rfl, rfl⟩; rw [HUU.out])
            all_goals
              rw [HF.out]
              refine bodyPost_ret (v := .tuple #[.agg #[.int .i64 0, .int .i64 0], .bool false]) (by simp [results, Tryz.results99, go_sem]) rfl ⟨rfl, ?_⟩
              exact (Ext.refl w).alloc _
          · have HF := Lib.hid (show joinS (a * 1000000 + b) = ((W * pw (m : Int) + p, (m : Int)), true) by unfold joinS; rw [HN.out, hu]; rfl)
            have HUU := Lib.hid hu
            clear hu
            go_wp2_with (go_at_call 125; refine (decimal_within _ _).mono ?_; rintro e w' ⟨rfl, rfl⟩; rw [HUU.out])
            all_goals
              rw [HF.out]
              refine bodyPost_ret (v := .tuple #[.agg #[.int .i64 (W * pw (m : Int) + p), .int .i64 (m : Int)], .bool true]) (by simp [results, Tryz.results99, go_sem]) rfl ⟨rfl, ?_⟩
              exact (Ext.refl w).alloc _
      · have hm0' : ¬ (0 : Int) < (m : Int) := by omega
        have HN := Lib.hid (join_norm W R p m a b hm HPR.out HWR.out (Or.inl (by omega)))
        obtain rfl : m = 0 := by omega
        have HN' := Lib.hid (show normU (a * 1000000 + b) = (W + p, 0) by have := HN.out; simpa [pw] using this)
        have hcell := HT.out.1
        by_cases hlo : W < -1000000000000000
        · have HF := Lib.hid (join_no W R p 0 a b hm HPR.out hR1 hR2 HSG.out HN.out (Or.inl (by simpa [pw] using hlo)))
          try (exfalso; omega)
          all_goals go_wp2
          all_goals
            rw [HF.out]
            refine bodyPost_ret (v := .tuple #[.agg #[.int .i64 0, .int .i64 0], .bool false]) (by simp [results, Tryz.results99, go_sem]) rfl ⟨rfl, ?_⟩
            exact (Ext.refl w).alloc _
        by_cases hhi : 1000000000000000 < W
        · have HF := Lib.hid (join_no W R p 0 a b hm HPR.out hR1 hR2 HSG.out HN.out (Or.inr (by simpa [pw] using hhi)))
          try (exfalso; omega)
          all_goals go_wp2
          all_goals
            rw [HF.out]
            refine bodyPost_ret (v := .tuple #[.agg #[.int .i64 0, .int .i64 0], .bool false]) (by simp [results, Tryz.results99, go_sem]) rfl ⟨rfl, ?_⟩
            exact (Ext.refl w).alloc _
        cases hu : unitsB (W + p)
        · have HF := Lib.hid (show joinS (a * 1000000 + b) = ((0, 0), false) by unfold joinS; rw [HN'.out, hu]; rfl)
          have HUU := Lib.hid hu
          clear hu
          go_wp2_with (go_at_call 125; refine (decimal_within _ _).mono ?_; rintro e w' ⟨rfl, rfl⟩; rw [HUU.out])
          all_goals
            rw [HF.out]
            refine bodyPost_ret (v := .tuple #[.agg #[.int .i64 0, .int .i64 0], .bool false]) (by simp [results, Tryz.results99, go_sem]) rfl ⟨rfl, ?_⟩
            exact (Ext.refl w).alloc _
        · have HF := Lib.hid (show joinS (a * 1000000 + b) = ((W + p, 0), true) by unfold joinS; rw [HN'.out, hu]; rfl)
          have HUU := Lib.hid hu
          clear hu
          go_wp2_with (go_at_call 125; refine (decimal_within _ _).mono ?_; rintro e w' ⟨rfl, rfl⟩; rw [HUU.out])
          all_goals
            rw [HF.out]
            refine bodyPost_ret (v := .tuple #[.agg #[.int .i64 (W + p), .int .i64 0], .bool true]) (by simp [results, Tryz.results99, go_sem]) rfl ⟨rfl, ?_⟩
            exact (Ext.refl w).alloc _
  · have hWR : (a + b / 1000000) * 1000000 + (b % 1000000) = a * 1000000 + b := by have := HU.out; omega
    have hR1 : -1000000 < b % 1000000 := by omega
    have hR2 : b % 1000000 < 1000000 := by omega
    have hW1 : -4000000000000010 ≤ a + b / 1000000 := by omega
    have hW2 : a + b / 1000000 ≤ 4000000000000010 := by omega
    have hsg : (0 < a + b / 1000000 → 0 ≤ b % 1000000) ∧ (a + b / 1000000 < 0 → b % 1000000 ≤ 0) := by omega
    have HWR := Lib.hid hWR
    have HSG := Lib.hid hsg
    clear hWR hsg
    generalize hWe : a + b / 1000000 = W at *
    generalize hRe : b % 1000000 = R at *
    clear hWe hRe
    go_loop [1, 6] (fun v i => ∃ (p : Int) (m : Nat), m ≤ 6 ∧ v = .int .i64 p ∧ i = .int .i64 m ∧ p * pw (6 - (m : Int)) = R) (fun _ i => (intOf i).toNat)
    case atStart => exact ⟨R, 6, by omega, rfl, rfl, by simp [pw]⟩
    case round =>
      obtain ⟨p, m, hm, rfl, rfl, hpR⟩ := hrel
      have HPR := Lib.hid hpR
      clear hpR
      have hpb := join_bd p R m hm HPR.out hR1 hR2
      obtain ⟨hpb1, hpb2⟩ := hpb
      obtain ⟨x1, x2, x3, x4, x5⟩ := tdm p 10 (by decide)
      have HX1 := Lib.hid x1
      clear x1
      by_cases hm0 : 0 < m
      · have hm0' : (0 : Int) < (m : Int) := by omega
        by_cases hz : p.tmod 10 = 0
        · have hz' : (p.tmod 10 == 0) = true := by simp [hz]
          have HZ := Lib.hid hz
          clear hz
          go_wp2
          go_round
          case rel => exact ⟨p.tdiv 10, m - 1, by omega, rfl, by congr 1; omega, join_step p R m hm hm0 HPR.out HX1.out HZ.out⟩
          case measure => simp [intOf]; omega
        · have hz' : (p.tmod 10 == 0) = false := by simp [hz]
          have HN := Lib.hid (join_norm W R p m a b hm HPR.out HWR.out (Or.inr hz))
          clear hz
          have hcell := tens_at HT.out m hm
          have hpw := pw_bd m hm
          obtain ⟨hpw1, hpw2⟩ := hpw
          have hdv := quo_bd m hm
          obtain ⟨hdv1, hdv2⟩ := hdv
          by_cases hlo : W < -(1000000000000000 / pw (m : Int))
          · have HF := Lib.hid (join_no W R p m a b hm HPR.out hR1 hR2 HSG.out HN.out (Or.inl hlo))
            try (exfalso; omega)
            all_goals go_wp2
            all_goals
              rw [HF.out]
              refine bodyPost_ret (v := .tuple #[.agg #[.int .i64 0, .int .i64 0], .bool false]) (by simp [results, Tryz.results99, go_sem]) rfl ⟨rfl, ?_⟩
              exact (Ext.refl w).alloc _
          by_cases hhi : 1000000000000000 / pw (m : Int) < W
          · have HF := Lib.hid (join_no W R p m a b hm HPR.out hR1 hR2 HSG.out HN.out (Or.inr hhi))
            try (exfalso; omega)
            all_goals go_wp2
            all_goals
              rw [HF.out]
              refine bodyPost_ret (v := .tuple #[.agg #[.int .i64 0, .int .i64 0], .bool false]) (by simp [results, Tryz.results99, go_sem]) rfl ⟨rfl, ?_⟩
              exact (Ext.refl w).alloc _
          have hprod := prod_bd W m hm (by omega) (by omega)
          obtain ⟨hprod1, hprod2⟩ := hprod
          cases hu : unitsB (W * pw (m : Int) + p)
          · have HF := Lib.hid (show joinS (a * 1000000 + b) = ((0, 0), false) by unfold joinS; rw [HN.out, hu]; rfl)
            have HUU := Lib.hid hu
            clear hu
            go_wp2_with (go_at_call 125; refine (decimal_within _ _).mono ?_; rintro e w' ⟨rfl, rfl⟩; rw [HUU.out])
            all_goals
              rw [HF.out]
              refine bodyPost_ret (v := .tuple #[.agg #[.int .i64 0, .int .i64 0], .bool false]) (by simp [results, Tryz.results99, go_sem]) rfl ⟨rfl, ?_⟩
              exact (Ext.refl w).alloc _
          · have HF := Lib.hid (show joinS (a * 1000000 + b) = ((W * pw (m : Int) + p, (m : Int)), true) by unfold joinS; rw [HN.out, hu]; rfl)
            have HUU := Lib.hid hu
            clear hu
            go_wp2_with (go_at_call 125; refine (decimal_within _ _).mono ?_; rintro e w' ⟨rfl, rfl⟩; rw [HUU.out])
            all_goals
              rw [HF.out]
              refine bodyPost_ret (v := .tuple #[.agg #[.int .i64 (W * pw (m : Int) + p), .int .i64 (m : Int)], .bool true]) (by simp [results, Tryz.results99, go_sem]) rfl ⟨rfl, ?_⟩
              exact (Ext.refl w).alloc _
      · have hm0' : ¬ (0 : Int) < (m : Int) := by omega
        have HN := Lib.hid (join_norm W R p m a b hm HPR.out HWR.out (Or.inl (by omega)))
        obtain rfl : m = 0 := by omega
        have HN' := Lib.hid (show normU (a * 1000000 + b) = (W + p, 0) by have := HN.out; simpa [pw] using this)
        have hcell := HT.out.1
        by_cases hlo : W < -1000000000000000
        · have HF := Lib.hid (join_no W R p 0 a b hm HPR.out hR1 hR2 HSG.out HN.out (Or.inl (by simpa [pw] using hlo)))
          try (exfalso; omega)
          all_goals go_wp2
          all_goals
            rw [HF.out]
            refine bodyPost_ret (v := .tuple #[.agg #[.int .i64 0, .int .i64 0], .bool false]) (by simp [results, Tryz.results99, go_sem]) rfl ⟨rfl, ?_⟩
            exact (Ext.refl w).alloc _
        by_cases hhi : 1000000000000000 < W
        · have HF := Lib.hid (join_no W R p 0 a b hm HPR.out hR1 hR2 HSG.out HN.out (Or.inr (by simpa [pw] using hhi)))
          try (exfalso; omega)
          all_goals go_wp2
          all_goals
            rw [HF.out]
            refine bodyPost_ret (v := .tuple #[.agg #[.int .i64 0, .int .i64 0], .bool false]) (by simp [results, Tryz.results99, go_sem]) rfl ⟨rfl, ?_⟩
            exact (Ext.refl w).alloc _
        cases hu : unitsB (W + p)
        · have HF := Lib.hid (show joinS (a * 1000000 + b) = ((0, 0), false) by unfold joinS; rw [HN'.out, hu]; rfl)
          have HUU := Lib.hid hu
          clear hu
          go_wp2_with (go_at_call 125; refine (decimal_within _ _).mono ?_; rintro e w' ⟨rfl, rfl⟩; rw [HUU.out])
          all_goals
            rw [HF.out]
            refine bodyPost_ret (v := .tuple #[.agg #[.int .i64 0, .int .i64 0], .bool false]) (by simp [results, Tryz.results99, go_sem]) rfl ⟨rfl, ?_⟩
            exact (Ext.refl w).alloc _
        · have HF := Lib.hid (show joinS (a * 1000000 + b) = ((W + p, 0), true) by unfold joinS; rw [HN'.out, hu]; rfl)
          have HUU := Lib.hid hu
          clear hu
          go_wp2_with (go_at_call 125; refine (decimal_within _ _).mono ?_; rintro e w' ⟨rfl, rfl⟩; rw [HUU.out])
          all_goals
            rw [HF.out]
            refine bodyPost_ret (v := .tuple #[.agg #[.int .i64 (W + p), .int .i64 0], .bool true]) (by simp [results, Tryz.results99, go_sem]) rfl ⟨rfl, ?_⟩
            exact (Ext.refl w).alloc _
  · have hWR : (a + b / 1000000) * 1000000 + (b % 1000000) = a * 1000000 + b := by have := HU.out; omega
    have hR1 : -1000000 < b % 1000000 := by omega
    have hR2 : b % 1000000 < 1000000 := by omega
    have hW1 : -4000000000000010 ≤ a + b / 1000000 := by omega
    have hW2 : a + b / 1000000 ≤ 4000000000000010 := by omega
    have hsg : (0 < a + b / 1000000 → 0 ≤ b % 1000000) ∧ (a + b / 1000000 < 0 → b % 1000000 ≤ 0) := by omega
    have HWR := Lib.hid hWR
    have HSG := Lib.hid hsg
    clear hWR hsg
    generalize hWe : a + b / 1000000 = W at *
    generalize hRe : b % 1000000 = R at *
    clear hWe hRe
    go_loop [1, 6] (fun v i => ∃ (p : Int) (m : Nat), m ≤ 6 ∧ v = .int .i64 p ∧ i = .int .i64 m ∧ p * pw (6 - (m : Int)) = R) (fun _ i => (intOf i).toNat)
    case atStart => exact ⟨R, 6, by omega, rfl, rfl, by simp [pw]⟩
    case round =>
      obtain ⟨p, m, hm, rfl, rfl, hpR⟩ := hrel
      have HPR := Lib.hid hpR
      clear hpR
      have hpb := join_bd p R m hm HPR.out hR1 hR2
      obtain ⟨hpb1, hpb2⟩ := hpb
      obtain ⟨x1, x2, x3, x4, x5⟩ := tdm p 10 (by decide)
      have HX1 := Lib.hid x1
      clear x1
      by_cases hm0 : 0 < m
      · have hm0' : (0 : Int) < (m : Int) := by omega
        by_cases hz : p.tmod 10 = 0
        · have hz' : (p.tmod 10 == 0) = true := by simp [hz]
          have HZ := Lib.hid hz
          clear hz
          go_wp2
          go_round
          case rel => exact ⟨p.tdiv 10, m - 1, by omega, rfl, by congr 1; omega, join_step p R m hm hm0 HPR.out HX1.out HZ.out⟩
          case measure => simp [intOf]; omega
        · have hz' : (p.tmod 10 == 0) = false := by simp [hz]
          have HN := Lib.hid (join_norm W R p m a b hm HPR.out HWR.out (Or.inr hz))
          clear hz
          have hcell := tens_at HT.out m hm
          have hpw := pw_bd m hm
          obtain ⟨hpw1, hpw2⟩ := hpw
          have hdv := quo_bd m hm
          obtain ⟨hdv1, hdv2⟩ := hdv
          by_cases hlo : W < -(1000000000000000 / pw (m : Int))
          · have HF := Lib.hid (join_no W R p m a b hm HPR.out hR1 hR2 HSG.out HN.out (Or.inl hlo))
            try (exfalso; omega)
            all_goals go_wp2
            all_goals
              rw [HF.out]
              refine bodyPost_ret (v := .tuple #[.agg #[.int .i64 0, .int .i64 0], .bool false]) (by simp [results, Tryz.results99, go_sem]) rfl ⟨rfl, ?_⟩
              exact (Ext.refl w).alloc _
          by_cases hhi : 1000000000000000 / pw (m : Int) < W
          · have HF := Lib.hid (join_no W R p m a b hm HPR.out hR1 hR2 HSG.out HN.out (Or.inr hhi))
            try (exfalso; omega)
            all_goals go_wp2
            all_goals
              rw [HF.out]
              refine bodyPost_ret (v := .tuple #[.agg #[.int .i64 0, .int .i64 0], .bool false]) (by simp [results, Tryz.results99, go_sem]) rfl ⟨rfl, ?_⟩
              exact (Ext.refl w).alloc _
          have hprod := prod_bd W m hm (by omega) (by omega)
          obtain ⟨hprod1, hprod2⟩ := hprod
          cases hu : unitsB (W * pw (m : Int) + p)
          · have HF := Lib.hid (show joinS (a * 1000000 + b) = ((0, 0), false) by unfold joinS; rw [HN.out, hu]; rfl)
            have HUU := Lib.hid hu
            clear hu
            go_wp2_with (go_at_call 125; refine (decimal_within _ _).mono ?_; rintro e w' ⟨rfl, rfl⟩; rw [HUU.out])
            all_goals
              rw [HF.out]
              refine bodyPost_ret (v := .tuple #[.agg #[.int .i64 0, .int .i64 0], .bool false]) (by simp [results, Tryz.results99, go_sem]) rfl ⟨rfl, ?_⟩
              exact (Ext.refl w).alloc _
          · have HF := Lib.hid (show joinS (a * 1000000 + b) = ((W * pw (m : Int) + p, (m : Int)), true) by unfold joinS; rw [HN.out, hu]; rfl)
            have HUU := Lib.hid hu
            clear hu
            go_wp2_with (go_at_call 125; refine (decimal_within _ _).mono ?_; rintro e w' ⟨rfl, rfl⟩; rw [HUU.out])
            all_goals
              rw [HF.out]
              refine bodyPost_ret (v := .tuple #[.agg #[.int .i64 (W * pw (m : Int) + p), .int .i64 (m : Int)], .bool true]) (by simp [results, Tryz.results99, go_sem]) rfl ⟨rfl, ?_⟩
              exact (Ext.refl w).alloc _
      · have hm0' : ¬ (0 : Int) < (m : Int) := by omega
        have HN := Lib.hid (join_norm W R p m a b hm HPR.out HWR.out (Or.inl (by omega)))
        obtain rfl : m = 0 := by omega
        have HN' := Lib.hid (show normU (a * 1000000 + b) = (W + p, 0) by have := HN.out; simpa [pw] using this)
        have hcell := HT.out.1
        by_cases hlo : W < -1000000000000000
        · have HF := Lib.hid (join_no W R p 0 a b hm HPR.out hR1 hR2 HSG.out HN.out (Or.inl (by simpa [pw] using hlo)))
          try (exfalso; omega)
          all_goals go_wp2
          all_goals
            rw [HF.out]
            refine bodyPost_ret (v := .tuple #[.agg #[.int .i64 0, .int .i64 0], .bool false]) (by simp [results, Tryz.results99, go_sem]) rfl ⟨rfl, ?_⟩
            exact (Ext.refl w).alloc _
        by_cases hhi : 1000000000000000 < W
        · have HF := Lib.hid (join_no W R p 0 a b hm HPR.out hR1 hR2 HSG.out HN.out (Or.inr (by simpa [pw] using hhi)))
          try (exfalso; omega)
          all_goals go_wp2
          all_goals
            rw [HF.out]
            refine bodyPost_ret (v := .tuple #[.agg #[.int .i64 0, .int .i64 0], .bool false]) (by simp [results, Tryz.results99, go_sem]) rfl ⟨rfl, ?_⟩
            exact (Ext.refl w).alloc _
        cases hu : unitsB (W + p)
        · have HF := Lib.hid (show joinS (a * 1000000 + b) = ((0, 0), false) by unfold joinS; rw [HN'.out, hu]; rfl)
          have HUU := Lib.hid hu
          clear hu
          go_wp2_with (go_at_call 125; refine (decimal_within _ _).mono ?_; rintro e w' ⟨rfl, rfl⟩; rw [HUU.out])
          all_goals
            rw [HF.out]
            refine bodyPost_ret (v := .tuple #[.agg #[.int .i64 0, .int .i64 0], .bool false]) (by simp [results, Tryz.results99, go_sem]) rfl ⟨rfl, ?_⟩
            exact (Ext.refl w).alloc _
        · have HF := Lib.hid (show joinS (a * 1000000 + b) = ((W + p, 0), true) by unfold joinS; rw [HN'.out, hu]; rfl)
          have HUU := Lib.hid hu
          clear hu
          go_wp2_with (go_at_call 125; refine (decimal_within _ _).mono ?_; rintro e w' ⟨rfl, rfl⟩; rw [HUU.out])
          all_goals
            rw [HF.out]
            refine bodyPost_ret (v := .tuple #[.agg #[.int .i64 (W + p), .int .i64 0], .bool true]) (by simp [results, Tryz.results99, go_sem]) rfl ⟨rfl, ?_⟩
            exact (Ext.refl w).alloc _

set_option maxRecDepth 100000 in
set_option maxHeartbeats 2000000 in
theorem decimal_join_neg (a b : Int) (w : World) (ht : Tens w) (ha1 : -4000000000000000 ≤ a) (ha2 : a ≤ 4000000000000000) (hb1 : -4000000 ≤ b) (hb2 : b ≤ 4000000) (hb0 : b < 0) :
    Calls Tryz.prog 99 #[.int .i64 a, .int .i64 b] w (RetDB w (joinS (a * 1000000 + b))) := by
  have hp := ht.pos
  have HT := Lib.hid ht
  clear ht
  obtain ⟨d1, d2, d3, d4, d5⟩ := tdm b 1000000 (by decide)
  have HU := Lib.hid d1
  have q1 : -5 ≤ b.tdiv 1000000 := by omega
  have q2 : b.tdiv 1000000 ≤ 5 := by omega
  have d6 : b.tmod 1000000 ≤ 0 := d5 (by omega)
  clear d1 d4 d5
  go_enter Tryz.func99, Tryz.ntmps99
  go_wp2_with fail
  · have hWR : (a + b.tdiv 1000000 - 1) * 1000000 + (b.tmod 1000000 + 1000000) = a * 1000000 + b := by have := HU.out; omega
    have hR1 : -1000000 < b.tmod 1000000 + 1000000 := by omega
    have hR2 : b.tmod 1000000 + 1000000 < 1000000 := by omega
    have hW1 : -4000000000000010 ≤ a + b.tdiv 1000000 - 1 := by omega
    have hW2 : a + b.tdiv 1000000 - 1 ≤ 4000000000000010 := by omega
    have hsg : (0 < a + b.tdiv 1000000 - 1 → 0 ≤ b.tmod 1000000 + 1000000) ∧ (a + b.tdiv 1000000 - 1 < 0 → b.tmod 1000000 + 1000000 ≤ 0) := by omega
    have HWR := Lib.hid hWR
    have HSG := Lib.hid hsg
    clear hWR hsg
    generalize hWe : a + b.tdiv 1000000 - 1 = W at *
    generalize hRe : b.tmod 1000000 + 1000000 = R at *
    clear hWe hRe
    go_loop [1, 6] (fun v i => ∃ (p : Int) (m : Nat), m ≤ 6 ∧ v = .int .i64 p ∧ i = .int .i64 m ∧ p * pw (6 - (m : Int)) = R) (fun _ i => (intOf i).toNat)
    case atStart => exact ⟨R, 6, by omega, rfl, rfl, by simp [pw]⟩
    case round =>
      obtain ⟨p, m, hm, rfl, rfl, hpR⟩ := hrel
      have HPR := Lib.hid hpR
      clear hpR
      have hpb := join_bd p R m hm HPR.out hR1 hR2
      obtain ⟨hpb1, hpb2⟩ := hpb
      obtain ⟨x1, x2, x3, x4, x5⟩ := tdm p 10 (by decide)
      have HX1 := Lib.hid x1
      clear x1
      by_cases hm0 : 0 < m
      · have hm0' : (0 : Int) < (m : Int) := by omega
        by_cases hz : p.tmod 10 = 0
        · have hz' : (p.tmod 10 == 0) = true := by simp [hz]
          have HZ := Lib.hid hz
          clear hz
          go_wp2
          go_round
          case rel => exact ⟨p.tdiv 10, m - 1, by omega, rfl, by congr 1; omega, join_step p R m hm hm0 HPR.out HX1.out HZ.out⟩
          case measure => simp [intOf]; omega
        · have hz' : (p.tmod 10 == 0) = false := by simp [hz]
          have HN := Lib.hid (join_norm W R p m a b hm HPR.out HWR.out (Or.inr hz))
          clear hz
          have hcell := tens_at HT.out m hm
          have hpw := pw_bd m hm
          obtain ⟨hpw1, hpw2⟩ := hpw
          have hdv := quo_bd m hm
          obtain ⟨hdv1, hdv2⟩ := hdv
          by_cases hlo : W < -(1000000000000000 / pw (m : Int))
          · have HF := Lib.hid (join_no W R p m a b hm HPR.out hR1 hR2 HSG.out HN.out (Or.inl hlo))
            try (exfalso; omega)
            all_goals go_wp2
            all_goals
              rw [HF.out]
              refine bodyPost_ret (v := .tuple #[.agg #[.int .i64 0, .int .i64 0], .bool false]) (by simp [results, Tryz.results99, go_sem]) rfl ⟨rfl, ?_⟩
              exact (Ext.refl w).alloc _
          by_cases hhi : 1000000000000000 / pw (m : Int) < W
          · have HF := Lib.hid (join_no W R p m a b hm HPR.out hR1 hR2 HSG.out HN.out (Or.inr hhi))
            try (exfalso; omega)
            all_goals go_wp2
            all_goals
              rw [HF.out]
              refine bodyPost_ret (v := .tuple #[.agg #[.int .i64 0, .int .i64 0], .bool false]) (by simp [results, Tryz.results99, go_sem]) rfl ⟨rfl, ?_⟩
              exact (Ext.refl w).alloc _
          have hprod := prod_bd W m hm (by omega) (by omega)
          obtain ⟨hprod1, hprod2⟩ := hprod
          cases hu : unitsB (W * pw (m : Int) + p)
          · have HF := Lib.hid (show joinS (a * 1000000 + b) = ((0, 0), false) by unfold joinS; rw [HN.out, hu]; rfl)
            have HUU := Lib.hid hu
            clear hu
            go_wp2_with (go_at_call 125; refine (decimal_within _ _).mono ?_; rintro e w' ⟨rfl, rfl⟩; rw [HUU.out])
            all_goals
              rw [HF.out]
              refine bodyPost_ret (v := .tuple #[.agg #[.int .i64 0, .int .i64 0], .bool false]) (by simp [results, Tryz.results99, go_sem]) rfl ⟨rfl, ?_⟩
              exact (Ext.refl w).alloc _
          · have HF := Lib.hid (show joinS (a * 1000000 + b) = ((W * pw (m : Int) + p, (m : Int)), true) by unfold joinS; rw [HN.out, hu]; rfl)
            have HUU := Lib.hid hu
            clear hu
            go_wp2_with (go_at_call 125; refine (decimal_within _ _).mono ?_; rintro e w' ⟨rfl, rfl⟩; rw [HUU.out])
            all_goals
              rw [HF.out]
              refine bodyPost_ret (v := .tuple #[.agg #[.int .i64 (W * pw (m : Int) + p), .int .i64 (m : Int)], .bool true]) (by simp [results, Tryz.results99, go_sem]) rfl ⟨rfl, ?_⟩
              exact (Ext.refl w).alloc _
      · have hm0' : ¬ (0 : Int) < (m : Int) := by omega
        have HN := Lib.hid (join_norm W R p m a b hm HPR.out HWR.out (Or.inl (by omega)))
        obtain rfl : m = 0 := by omega
        have HN' := Lib.hid (show normU (a * 1000000 + b) = (W + p, 0) by have := HN.out; simpa [pw] using this)
        have hcell := HT.out.1
        by_cases hlo : W < -1000000000000000
        · have HF := Lib.hid (join_no W R p 0 a b hm HPR.out hR1 hR2 HSG.out HN.out (Or.inl (by simpa [pw] using hlo)))
          try (exfalso; omega)
          all_goals go_wp2
          all_goals
            rw [HF.out]
            refine bodyPost_ret (v := .tuple #[.agg #[.int .i64 0, .int .i64 0], .bool false]) (by simp [results, Tryz.results99, go_sem]) rfl ⟨rfl, ?_⟩
            exact (Ext.refl w).alloc _
        by_cases hhi : 1000000000000000 < W
        · have HF := Lib.hid (join_no W R p 0 a b hm HPR.out hR1 hR2 HSG.out HN.out (Or.inr (by simpa [pw] using hhi)))
          try (exfalso; omega)
          all_goals go_wp2
          all_goals
            rw [HF.out]
            refine bodyPost_ret (v := .tuple #[.agg #[.int .i64 0, .int .i64 0], .bool false]) (by simp [results, Tryz.results99, go_sem]) rfl ⟨rfl, ?_⟩
            exact (Ext.refl w).alloc _
        cases hu : unitsB (W + p)
        · have HF := Lib.hid (show joinS (a * 1000000 + b) = ((0, 0), false) by unfold joinS; rw [HN'.out, hu]; rfl)
          have HUU := Lib.hid hu
          clear hu
          go_wp2_with (go_at_call 125; refine (decimal_within _ _).mono ?_; rintro e w' ⟨rfl, rfl⟩; rw [HUU.out])
          all_goals
            rw [HF.out]
            refine bodyPost_ret (v := .tuple #[.agg #[.int .i64 0, .int .i64 0], .bool false]) (by simp [results, Tryz.results99, go_sem]) rfl ⟨rfl, ?_⟩
            exact (Ext.refl w).alloc _
        · have HF := Lib.hid (show joinS (a * 1000000 + b) = ((W + p, 0), true) by unfold joinS; rw [HN'.out, hu]; rfl)
          have HUU := Lib.hid hu
          clear hu
          go_wp2_with (go_at_call 125; refine (decimal_within _ _).mono ?_; rintro e w' ⟨rfl, rfl⟩; rw [HUU.out])
          all_goals
            rw [HF.out]
            refine bodyPost_ret (v := .tuple #[.agg #[.int .i64 (W + p), .int .i64 0], .bool true]) (by simp [results, Tryz.results99, go_sem]) rfl ⟨rfl, ?_⟩
            exact (Ext.refl w).alloc _
  · have hWR : (a + b.tdiv 1000000) * 1000000 + (b.tmod 1000000) = a * 1000000 + b := by have := HU.out; omega
    have hR1 : -1000000 < b.tmod 1000000 := by omega
    have hR2 : b.tmod 1000000 < 1000000 := by omega
    have hW1 : -4000000000000010 ≤ a + b.tdiv 1000000 := by omega
    have hW2 : a + b.tdiv 1000000 ≤ 4000000000000010 := by omega
    have hsg : (0 < a + b.tdiv 1000000 → 0 ≤ b.tmod 1000000) ∧ (a + b.tdiv 1000000 < 0 → b.tmod 1000000 ≤ 0) := by omega
    have HWR := Lib.hid hWR
    have HSG := Lib.hid hsg
    clear hWR hsg
    generalize hWe : a + b.tdiv 1000000 = W at *
    generalize hRe : b.tmod 1000000 = R at *
    clear hWe hRe
    go_loop [1, 6] (fun v i => ∃ (p : Int) (m : Nat), m ≤ 6 ∧ v = .int .i64 p ∧ i = .int .i64 m ∧ p * pw (6 - (m : Int)) = R) (fun _ i => (intOf i).toNat)
    case atStart => exact ⟨R, 6, by omega, rfl, rfl, by simp [pw]⟩
    case round =>
      obtain ⟨p, m, hm, rfl, rfl, hpR⟩ := hrel
      have HPR := Lib.hid hpR
      clear hpR
      have hpb := join_bd p R m hm HPR.out hR1 hR2
      obtain ⟨hpb1, hpb2⟩ := hpb
      obtain ⟨x1, x2, x3, x4, x5⟩ := tdm p 10 (by decide)
      have HX1 := Lib.hid x1
      clear x1
      by_cases hm0 : 0 < m
      · have hm0' : (0 : Int) < (m : Int) := by omega
        by_cases hz : p.tmod 10 = 0
        · have hz' : (p.tmod 10 == 0) = true := by simp [hz]
          have HZ := Lib.hid hz
          clear hz
          go_wp2
          go_round
          case rel => exact ⟨p.tdiv 10, m - 1, by omega, rfl, by congr 1; omega, join_step p R m hm hm0 HPR.out HX1.out HZ.out⟩
          case measure => simp [intOf]; omega
        · have hz' : (p.tmod 10 == 0) = false := by simp [hz]
          have HN := Lib.hid (join_norm W R p m a b hm HPR.out HWR.out (Or.inr hz))
          clear hz
          have hcell := tens_at HT.out m hm
          have hpw := pw_bd m hm
          obtain ⟨hpw1, hpw2⟩ := hpw
          have hdv := quo_bd m hm
          obtain ⟨hdv1, hdv2⟩ := hdv
          by_cases hlo : W < -(1000000000000000 / pw (m : Int))
          · have HF := Lib.hid (join_no W R p m a b hm HPR.out hR1 hR2 HSG.out HN.out (Or.inl hlo))
            try (exfalso; omega)
            all_goals go_wp2
            all_goals
              rw [HF.out]
              refine bodyPost_ret (v := .tuple #[.agg #[.int .i64 0, .int .i64 0], .bool false]) (by simp [results, Tryz.results99, go_sem]) rfl ⟨rfl, ?_⟩
              exact (Ext.refl w).alloc _
          by_cases hhi : 1000000000000000 / pw (m : Int) < W
          · have HF := Lib.hid (join_no W R p m a b hm HPR.out hR1 hR2 HSG.out HN.out (Or.inr hhi))
            try (exfalso; omega)
            all_goals go_wp2
            all_goals
              rw [HF.out]
              refine bodyPost_ret (v := .tuple #[.agg #[.int .i64 0, .int .i64 0], .bool false]) (by simp [results, Tryz.results99, go_sem]) rfl ⟨rfl, ?_⟩
              exact (Ext.refl w).alloc _
          have hprod := prod_bd W m hm (by omega) (by omega)
          obtain ⟨hprod1, hprod2⟩ := hprod
          cases hu : unitsB (W * pw (m : Int) + p)
          · have HF := Lib.hid (show joinS (a * 1000000 + b) = ((0, 0), false) by unfold joinS; rw [HN.out, hu]; rfl)
            have HUU := Lib.hid hu
            clear hu
            go_wp2_with (go_at_call 125; refine (decimal_within _ _).mono ?_; rintro e w' ⟨rfl, rfl⟩; rw [HUU.out])
            all_goals
              rw [HF.out]
              refine bodyPost_ret (v := .tuple #[.agg #[.int .i64 0, .int .i64 0], .bool false]) (by simp [results, Tryz.results99, go_sem]) rfl ⟨rfl, ?_⟩
              exact (Ext.refl w).alloc _
          · have HF := Lib.hid (show joinS (a * 1000000 + b) = ((W * pw (m : Int) + p, (m : Int)), true) by unfold joinS; rw [HN.out, hu]; rfl)
            have HUU := Lib.hid hu
            clear hu
            go_wp2_with (go_at_call 125; refine (decimal_within _ _).mono ?_; rintro e w' ⟨rfl, rfl⟩; rw [HUU.out])
            all_goals
              rw [HF.out]
              refine bodyPost_ret (v := .tuple #[.agg #[.int .i64 (W * pw (m : Int) + p), .int .i64 (m : Int)], .bool true]) (by simp [results, Tryz.results99, go_sem]) rfl ⟨rfl, ?_⟩
              exact (Ext.refl w).alloc _
      · have hm0' : ¬ (0 : Int) < (m : Int) := by omega
        have HN := Lib.hid (join_norm W R p m a b hm HPR.out HWR.out (Or.inl (by omega)))
        obtain rfl : m = 0 := by omega
        have HN' := Lib.hid (show normU (a * 1000000 + b) = (W + p, 0) by have := HN.out; simpa [pw] using this)
        have hcell := HT.out.1
        by_cases hlo : W < -1000000000000000
        · have HF := Lib.hid (join_no W R p 0 a b hm HPR.out hR1 hR2 HSG.out HN.out (Or.inl (by simpa [pw] using hlo)))
          try (exfalso; omega)
          all_goals go_wp2
          all_goals
            rw [HF.out]
            refine bodyPost_ret (v := .tuple #[.agg #[.int .i64 0, .int .i64 0], .bool false]) (by simp [results, Tryz.results99, go_sem]) rfl ⟨rfl, ?_⟩
            exact (Ext.refl w).alloc _
        by_cases hhi : 1000000000000000 < W
        · have HF := Lib.hid (join_no W R p 0 a b hm HPR.out hR1 hR2 HSG.out HN.out (Or.inr (by simpa [pw] using hhi)))
          try (exfalso; omega)
          all_goals go_wp2
          all_goals
            rw [HF.out]
            refine bodyPost_ret (v := .tuple #[.agg #[.int .i64 0, .int .i64 0], .bool false]) (by simp [results, Tryz.results99, go_sem]) rfl ⟨rfl, ?_⟩
            exact (Ext.refl w).alloc _
        cases hu : unitsB (W + p)
        · have HF := Lib.hid (show joinS (a * 1000000 + b) = ((0, 0), false) by unfold joinS; rw [HN'.out, hu]; rfl)
          have HUU := Lib.hid hu
          clear hu
          go_wp2_with (go_at_call 125; refine (decimal_within _ _).mono ?_; rintro e w' ⟨rfl, rfl⟩; rw [HUU.out])
          all_goals
            rw [HF.out]
            refine bodyPost_ret (v := .tuple #[.agg #[.int .i64 0, .int .i64 0], .bool false]) (by simp [results, Tryz.results99, go_sem]) rfl ⟨rfl, ?_⟩
            exact (Ext.refl w).alloc _
        · have HF := Lib.hid (show joinS (a * 1000000 + b) = ((W + p, 0), true) by unfold joinS; rw [HN'.out, hu]; rfl)
          have HUU := Lib.hid hu
          clear hu
          go_wp2_with (go_at_call 125; refine (decimal_within _ _).mono ?_; rintro e w' ⟨rfl, rfl⟩; rw [HUU.out])
          all_goals
            rw [HF.out]
            refine bodyPost_ret (v := .tuple #[.agg #[.int .i64 (W + p), .int .i64 0], .bool true]) (by simp [results, Tryz.results99, go_sem]) rfl ⟨rfl, ?_⟩
            exact (Ext.refl w).alloc _
  · have hWR : (a + b.tdiv 1000000) * 1000000 + (b.tmod 1000000) = a * 1000000 + b := by have := HU.out; omega
    have hR1 : -1000000 < b.tmod 1000000 := by omega
    have hR2 : b.tmod 1000000 < 1000000 := by omega
    have hW1 : -4000000000000010 ≤ a + b.tdiv 1000000 := by omega
    have hW2 : a + b.tdiv 1000000 ≤ 4000000000000010 := by omega
    have hsg : (0 < a + b.tdiv 1000000 → 0 ≤ b.tmod 1000000) ∧ (a + b.tdiv 1000000 < 0 → b.tmod 1000000 ≤ 0) := by omega
    have HWR := Lib.hid hWR
    have HSG := Lib.hid hsg
    clear hWR hsg
    generalize hWe : a + b.tdiv 1000000 = W at *
    generalize hRe : b.tmod 1000000 = R at *
    clear hWe hRe
    go_loop [1, 6] (fun v i => ∃ (p : Int) (m : Nat), m ≤ 6 ∧ v = .int .i64 p ∧ i = .int .i64 m ∧ p * pw (6 - (m : Int)) = R) (fun _ i => (intOf i).toNat)
    case atStart => exact ⟨R, 6, by omega, rfl, rfl, by simp [pw]⟩
    case round =>
      obtain ⟨p, m, hm, rfl, rfl, hpR⟩ := hrel
      have HPR := Lib.hid hpR
      clear hpR
      have hpb := join_bd p R m hm HPR.out hR1 hR2
      obtain ⟨hpb1, hpb2⟩ := hpb
      obtain ⟨x1, x2, x3, x4, x5⟩ := tdm p 10 (by decide)
      have HX1 := Lib.hid x1
      clear x1
      by_cases hm0 : 0 < m
      · have hm0' : (0 : Int) < (m : Int) := by omega
        by_cases hz : p.tmod 10 = 0
        · have hz' : (p.tmod 10 == 0) = true := by simp [hz]
          have HZ := Lib.hid hz
          clear hz
          go_wp2
          go_round
          case rel => exact ⟨p.tdiv 10, m - 1, by omega, rfl, by congr 1; omega, join_step p R m hm hm0 HPR.out HX1.out HZ.out⟩
          case measure => simp [intOf]; omega
        · have hz' : (p.tmod 10 == 0) = false := by simp [hz]
          have HN := Lib.hid (join_norm W R p m a b hm HPR.out HWR.out (Or.inr hz))
          clear hz
          have hcell := tens_at HT.out m hm
          have hpw := pw_bd m hm
          obtain ⟨hpw1, hpw2⟩ := hpw
          have hdv := quo_bd m hm
          obtain ⟨hdv1, hdv2⟩ := hdv
          by_cases hlo : W < -(1000000000000000 / pw (m : Int))
          · have HF := Lib.hid (join_no W R p m a b hm HPR.out hR1 hR2 HSG.out HN.out (Or.inl hlo))
            try (exfalso; omega)
            all_goals go_wp2
            all_goals
              rw [HF.out]
              refine bodyPost_ret (v := .tuple #[.agg #[.int .i64 0, .int .i64 0], .bool false]) (by simp [results, Tryz.results99, go_sem]) rfl ⟨rfl, ?_⟩
              exact (Ext.refl w).alloc _
          by_cases hhi : 1000000000000000 / pw (m : Int) < W
          · have HF := Lib.hid (join_no W R p m a b hm HPR.out hR1 hR2 HSG.out HN.out (Or.inr hhi))
            try (exfalso; omega)
            all_goals go_wp2
            all_goals
              rw [HF.out]
              refine bodyPost_ret (v := .tuple #[.agg #[.int .i64 0, .int .i64 0], .bool false]) (by simp [results, Tryz.results99, go_sem]) rfl ⟨rfl, ?_⟩
              exact (Ext.refl w).alloc _
          have hprod := prod_bd W m hm (by omega) (by omega)
          obtain ⟨hprod1, hprod2⟩ := hprod
          cases hu : unitsB (W * pw (m : Int) + p)
          · have HF := Lib.hid (show joinS (a * 1000000 + b) = ((0, 0), false) by unfold joinS; rw [HN.out, hu]; rfl)
            have HUU := Lib.hid hu
            clear hu
            go_wp2_with (go_at_call 125; refine (decimal_within _ _).mono ?_; rintro e w' ⟨rfl, rfl⟩; rw [HUU.out])
            all_goals
              rw [HF.out]
              refine bodyPost_ret (v := .tuple #[.agg #[.int .i64 0, .int .i64 0], .bool false]) (by simp [results, Tryz.results99, go_sem]) rfl ⟨rfl, ?_⟩
              exact (Ext.refl w).alloc _
          · have HF := Lib.hid (show joinS (a * 1000000 + b) = ((W * pw (m : Int) + p, (m : Int)), true) by unfold joinS; rw [HN.out, hu]; rfl)
            have HUU := Lib.hid hu
            clear hu
            go_wp2_with (go_at_call 125; refine (decimal_within _ _).mono ?_; rintro e w' ⟨rfl, rfl⟩; rw [HUU.out])
            all_goals
              rw [HF.out]
              refine bodyPost_ret (v := .tuple #[.agg #[.int .i64 (W * pw (m : Int) + p), .int .i64 (m : Int)], .bool true]) (by simp [results, Tryz.results99, go_sem]) rfl ⟨rfl, ?_⟩
              exact (Ext.refl w).alloc _
      · have hm0' : ¬ (0 : Int) < (m : Int) := by omega
        have HN := Lib.hid (join_norm W R p m a b hm HPR.out HWR.out (Or.inl (by omega)))
        obtain rfl : m = 0 := by omega
        have HN' := Lib.hid (show normU (a * 1000000 + b) = (W + p, 0) by have := HN.out; simpa [pw] using this)
        have hcell := HT.out.1
        by_cases hlo : W < -1000000000000000
        · have HF := Lib.hid (join_no W R p 0 a b hm HPR.out hR1 hR2 HSG.out HN.out (Or.inl (by simpa [pw] using hlo)))
          try (exfalso; omega)
          all_goals go_wp2
          all_goals
            rw [HF.out]
            refine bodyPost_ret (v := .tuple #[.agg #[.int .i64 0, .int .i64 0], .bool false]) (by simp [results, Tryz.results99, go_sem]) rfl ⟨rfl, ?_⟩
            exact (Ext.refl w).alloc _
        by_cases hhi : 1000000000000000 < W
        · have HF := Lib.hid (join_no W R p 0 a b hm HPR.out hR1 hR2 HSG.out HN.out (Or.inr (by simpa [pw] using hhi)))
          try (exfalso; omega)
          all_goals go_wp2
          all_goals
            rw [HF.out]
            refine bodyPost_ret (v := .tuple #[.agg #[.int .i64 0, .int .i64 0], .bool false]) (by simp [results, Tryz.results99, go_sem]) rfl ⟨rfl, ?_⟩
            exact (Ext.refl w).alloc _
        cases hu : unitsB (W + p)
        · have HF := Lib.hid (show joinS (a * 1000000 + b) = ((0, 0), false) by unfold joinS; rw [HN'.out, hu]; rfl)
          have HUU := Lib.hid hu
          clear hu
          go_wp2_with (go_at_call 125; refine (decimal_within _ _).mono ?_; rintro e w' ⟨rfl, rfl⟩; rw [HUU.out])
          all_goals
            rw [HF.out]
            refine bodyPost_ret (v := .tuple #[.agg #[.int .i64 0, .int .i64 0], .bool false]) (by simp [results, Tryz.results99, go_sem]) rfl ⟨rfl, ?_⟩
            exact (Ext.refl w).alloc _
        · have HF := Lib.hid (show joinS (a * 1000000 + b) = ((W + p, 0), true) by unfold joinS; rw [HN'.out, hu]; rfl)
          have HUU := Lib.hid hu
          clear hu
          go_wp2_with (go_at_call 125; refine (decimal_within _ _).mono ?_; rintro e w' ⟨rfl, rfl⟩; rw [HUU.out])
          all_goals
            rw [HF.out]
            refine bodyPost_ret (v := .tuple #[.agg #[.int .i64 (W + p), .int .i64 0], .bool true]) (by simp [results, Tryz.results99, go_sem]) rfl ⟨rfl, ?_⟩
            exact (Ext.refl w).alloc _
  · have hWR : (a + b.tdiv 1000000) * 1000000 + (b.tmod 1000000) = a * 1000000 + b := by have := HU.out; omega
    have hR1 : -1000000 < b.tmod 1000000 := by omega
    have hR2 : b.tmod 1000000 < 1000000 := by omega
    have hW1 : -4000000000000010 ≤ a + b.tdiv 1000000 := by omega
    have hW2 : a + b.tdiv 1000000 ≤ 4000000000000010 := by omega
    have hsg : (0 < a + b.tdiv 1000000 → 0 ≤ b.tmod 1000000) ∧ (a + b.tdiv 1000000 < 0 → b.tmod 1000000 ≤ 0) := by omega
    have HWR := Lib.hid hWR
    have HSG := Lib.hid hsg
    clear hWR hsg
    generalize hWe : a + b.tdiv 1000000 = W at *
    generalize hRe : b.tmod 1000000 = R at *
    clear hWe hRe
    go_loop [1, 6] (fun v i => ∃ (p : Int) (m : Nat), m ≤ 6 ∧ v = .int .i64 p ∧ i = .int .i64 m ∧ p * pw (6 - (m : Int)) = R) (fun _ i => (intOf i).toNat)
    case atStart => exact ⟨R, 6, by omega, rfl, rfl, by simp [pw]⟩
    case round =>
      obtain ⟨p, m, hm, rfl, rfl, hpR⟩ := hrel
      have HPR := Lib.hid hpR
      clear hpR
      have hpb := join_bd p R m hm HPR.out hR1 hR2
      obtain ⟨hpb1, hpb2⟩ := hpb
      obtain ⟨x1, x2, x3, x4, x5⟩ := tdm p 10 (by decide)
      have HX1 := Lib.hid x1
      clear x1
      by_cases hm0 : 0 < m
      · have hm0' : (0 : Int) < (m : Int) := by omega
        by_cases hz : p.tmod 10 = 0
        · have hz' : (p.tmod 10 == 0) = true := by simp [hz]
          have HZ := Lib.hid hz
          clear hz
          go_wp2
          go_round
          case rel => exact ⟨p.tdiv 10, m - 1, by omega, rfl, by congr 1; omega, join_step p R m hm hm0 HPR.out HX1.out HZ.out⟩
          case measure => simp [intOf]; omega
        · have hz' : (p.tmod 10 == 0) = false := by simp [hz]
          have HN := Lib.hid (join_norm W R p m a b hm HPR.out HWR.out (Or.inr hz))
          clear hz
          have hcell := tens_at HT.out m hm
          have hpw := pw_bd m hm
          obtain ⟨hpw1, hpw2⟩ := hpw
          have hdv := quo_bd m hm
          obtain ⟨hdv1, hdv2⟩ := hdv
          by_cases hlo : W < -(1000000000000000 / pw (m : Int))
          · have HF := Lib.hid (join_no W R p m a b hm HPR.out hR1 hR2 HSG.out HN.out (Or.inl hlo))
            try (exfalso; omega)
            all_goals go_wp2
            all_goals
              rw [HF.out]
              refine bodyPost_ret (v := .tuple #[.agg #[.int .i64 0, .int .i64 0], .bool false]) (by simp [results, Tryz.results99, go_sem]) rfl ⟨rfl, ?_⟩
              exact (Ext.refl w).alloc _
          by_cases hhi : 1000000000000000 / pw (m : Int) < W
          · have HF := Lib.hid (join_no W R p m a b hm HPR.out hR1 hR2 HSG.out HN.out (Or.inr hhi))
            try (exfalso; omega)
            all_goals go_wp2
            all_goals
              rw [HF.out]
              refine bodyPost_ret (v := .tuple #[.agg #[.int .i64 0, .int .i64 0], .bool false]) (by simp [results, Tryz.results99, go_sem]) rfl ⟨rfl, ?_⟩
              exact (Ext.refl w).alloc _
          have hprod := prod_bd W m hm (by omega) (by omega)
          obtain ⟨hprod1, hprod2⟩ := hprod
          cases hu : unitsB (W * pw (m : Int) + p)
          · have HF := Lib.hid (show joinS (a * 1000000 + b) = ((0, 0), false) by unfold joinS; rw [HN.out, hu]; rfl)
            have HUU := Lib.hid hu
            clear hu
            go_wp2_with (go_at_call 125; refine (decimal_within _ _).mono ?_; rintro e w' ⟨rfl, rfl⟩; rw [HUU.out])
            all_goals
              rw [HF.out]
              refine bodyPost_ret (v := .tuple #[.agg #[.int .i64 0, .int .i64 0], .bool false]) (by simp [results, Tryz.results99, go_sem]) rfl ⟨rfl, ?_⟩
              exact (Ext.refl w).alloc _
          · have HF := Lib.hid (show joinS (a * 1000000 + b) = ((W * pw (m : Int) + p, (m : Int)), true) by unfold joinS; rw [HN.out, hu]; rfl)
            have HUU := Lib.hid hu
            clear hu
            go_wp2_with (go_at_call 125; refine (decimal_within _ _).mono ?_; rintro e w' ⟨rfl, rfl⟩; rw [HUU.out])
            all_goals
              rw [HF.out]
              refine bodyPost_ret (v := .tuple #[.agg #[.int .i64 (W * pw (m : Int) + p), .int .i64 (m : Int)], .bool true]) (by simp [results, Tryz.results99, go_sem]) rfl ⟨rfl, ?_⟩
              exact (Ext.refl w).alloc _
      · have hm0' : ¬ (0 : Int) < (m : Int) := by omega
        have HN := Lib.hid (join_norm W R p m a b hm HPR.out HWR.out (Or.inl (by omega)))
        obtain rfl : m = 0 := by omega
        have HN' := Lib.hid (show normU (a * 1000000 + b) = (W + p, 0) by have := HN.out; simpa [pw] using this)
        have hcell := HT.out.1
        by_cases hlo : W < -1000000000000000
        · have HF := Lib.hid (join_no W R p 0 a b hm HPR.out hR1 hR2 HSG.out HN.out (Or.inl (by simpa [pw] using hlo)))
          try (exfalso; omega)
          all_goals go_wp2
          all_goals
            rw [HF.out]
            refine bodyPost_ret (v := .tuple #[.agg #[.int .i64 0, .int .i64 0], .bool false]) (by simp [results, Tryz.results99, go_sem]) rfl ⟨rfl, ?_⟩
            exact (Ext.refl w).alloc _
        by_cases hhi : 1000000000000000 < W
        · have HF := Lib.hid (join_no W R p 0 a b hm HPR.out hR1 hR2 HSG.out HN.out (Or.inr (by simpa [pw] using hhi)))
          try (exfalso; omega)
          all_goals go_wp2
          all_goals
            rw [HF.out]
            refine bodyPost_ret (v := .tuple #[.agg #[.int .i64 0, .int .i64 0], .bool false]) (by simp [results, Tryz.results99, go_sem]) rfl ⟨rfl, ?_⟩
            exact (Ext.refl w).alloc _
        cases hu : unitsB (W + p)
        · have HF := Lib.hid (show joinS (a * 1000000 + b) = ((0, 0), false) by unfold joinS; rw [HN'.out, hu]; rfl)
          have HUU := Lib.hid hu
          clear hu
          go_wp2_with (go_at_call 125; refine (decimal_within _ _).mono ?_; rintro e w' ⟨rfl, rfl⟩; rw [HUU.out])
          all_goals
            rw [HF.out]
            refine bodyPost_ret (v := .tuple #[.agg #[.int .i64 0, .int .i64 0], .bool false]) (by simp [results, Tryz.results99, go_sem]) rfl ⟨rfl, ?_⟩
            exact (Ext.refl w).alloc _
        · have HF := Lib.hid (show joinS (a * 1000000 + b) = ((W + p, 0), true) by unfold joinS; rw [HN'.out, hu]; rfl)
          have HUU := Lib.hid hu
          clear hu
          go_wp2_with (go_at_call 125; refine (decimal_within _ _).mono ?_; rintro e w' ⟨rfl, rfl⟩; rw [HUU.out])
          all_goals
            rw [HF.out]
            refine bodyPost_ret (v := .tuple #[.agg #[.int .i64 (W + p), .int .i64 0], .bool true]) (by simp [results, Tryz.results99, go_sem]) rfl ⟨rfl, ?_⟩
            exact (Ext.refl w).alloc _

theorem decimal_join (a b : Int) (w : World) (ht : Tens w) (ha1 : -4000000000000000 ≤ a) (ha2 : a ≤ 4000000000000000) (hb1 : -4000000 ≤ b) (hb2 : b ≤ 4000000) :
    Calls Tryz.prog 99 #[.int .i64 a, .int .i64 b] w (RetDB w (joinS (a * 1000000 + b))) := by
  by_cases hb0 : 0 ≤ b
  · exact decimal_join_pos a b w ht ha1 ha2 hb1 hb2 hb0
  · exact decimal_join_neg a b w ht ha1 ha2 hb1 hb2 (by omega)
end Go.Proofs.YtcmmkeiiapbgcaaGreatDoor
/- The program's decimal.Add. Condition: the table of tens is there. -/
namespace Go.Proofs.YtcmmkeiiapbgcaaGreatDoor
open Go Go.RowKit

theorem mu_bd (n s : Int) : -1000000000000000 ≤ (mu n s).tdiv 1000000 ∧ (mu n s).tdiv 1000000 ≤ 1000000000000000 ∧ -1000000 < (mu n s).tmod 1000000 ∧ (mu n s).tmod 1000000 < 1000000 := by
  obtain ⟨a, b, c, d⟩ := valD_range n s
  obtain ⟨h1, h2, h3, -, -⟩ := tdm (mu n s) 1000000 (by decide)
  have hm : -1000000000000000000000 ≤ mu n s ∧ mu n s ≤ 1000000000000000000000 := by
    unfold mu
    generalize (valD n s).2 = t at *
    generalize (valD n s).1 = u at *
    have hs : t = 0 ∨ t = 1 ∨ t = 2 ∨ t = 3 ∨ t = 4 ∨ t = 5 ∨ t = 6 := by omega
    rcases hs with rfl | rfl | rfl | rfl | rfl | rfl | rfl <;> simp [pw] <;> omega
  refine ⟨by omega, by omega, h2, h3⟩
def addS (a b a' b' : Int) : (Int × Int) × Bool := joinS (mu a b + mu a' b')
set_option maxRecDepth 100000 in
set_option maxHeartbeats 400000 in
theorem decimal_Add (a b a' b' : Int) (w : World) (ht : Tens w) : Calls Tryz.prog 57 #[.agg #[.int .i64 a, .int .i64 b], .agg #[.int .i64 a', .int .i64 b']] w (RetDB w (addS a b a' b')) := by
  have HT := Lib.hid ht
  clear ht
  go_enter Tryz.func57, Tryz.ntmps57
  go_wp2_with fail
  refine (decimal_split a b _ (HT.out.ext ((((Ext.refl w).alloc _).alloc _).alloc _))).mono ?_
  rintro e1 w1 ⟨rfl, hx1⟩
  have HX1 := Lib.hid (((((Ext.refl w).alloc _).alloc _).alloc _).trans hx1)
  have hb := ((Blk.new (w.alloc (.cells #[.int .i64 a, .int .i64 b] 31)) 31 #[.int .i64 a', .int .i64 b']).keep (Kept.alloc _ _ _)).keep (hx1.kept _)
  have hr := (Blk.new ((w.alloc (.cells #[.int .i64 a, .int .i64 b] 31)).alloc (.cells #[.int .i64 a', .int .i64 b'] 31)) 31 #[.int .i64 0, .int .i64 0]).keep (hx1.kept _)
  have c0 := hb.cell (i := 0) rfl
  have c1 := hb.cell (i := 1) rfl
  simp at c0 c1 hr
  have HR1 := Lib.hid hr
  clear hb hx1 hr
  go_wp2_with fail
  refine (decimal_split a' b' _ (HT.out.ext HX1.out)).mono ?_
  rintro e1 w2 ⟨rfl, hx2⟩
  have HX2 := Lib.hid (HX1.out.trans hx2)
  have HR2 := Lib.hid (HR1.out.keep (hx2.kept _))
  have HEQ := Lib.hid (show addS a b a' b' = joinS (((mu a b).tdiv 1000000 + (mu a' b').tdiv 1000000) * 1000000 + ((mu a b).tmod 1000000 + (mu a' b').tmod 1000000)) by
    unfold addS
    congr 1
    have h1 := (tdm (mu a b) 1000000 (by decide)).1
    have h2 := (tdm (mu a' b') 1000000 (by decide)).1
    omega)
  obtain ⟨p1, p2, p3, p4⟩ := mu_bd a b
  obtain ⟨q1, q2, q3, q4⟩ := mu_bd a' b'
  clear hx2 c0 c1
  generalize (mu a b).tdiv 1000000 = x at *
  generalize (mu a b).tmod 1000000 = f at *
  generalize (mu a' b').tdiv 1000000 = y at *
  generalize (mu a' b').tmod 1000000 = g at *
  have w1' : wrap64 (x + y) = x + y := IntWalk.wrap64_in _ ⟨by omega, by omega⟩
  have w2' : wrap64 (f + g) = f + g := IntWalk.wrap64_in _ ⟨by omega, by omega⟩
  have HW1 := Lib.hid w1'
  have HW2 := Lib.hid w2'
  clear w1' w2'
  go_wp2_with fail
  first | rw [HW1.out] | skip
  first | rw [HW2.out] | skip
  refine (decimal_join (x + y) (f + g) _ (HT.out.ext HX2.out) (by omega) (by omega) (by omega) (by omega)).mono ?_
  rintro e1 w3 ⟨rfl, hx3⟩
  have HX3 := Lib.hid (HX2.out.trans hx3)
  have HR3 := Lib.hid (HR2.out.keep (hx3.kept _))
  have r0 := HR3.out.cell (i := 0) rfl
  have r1 := HR3.out.cell (i := 1) rfl
  have rf := HR3.out.frozen
  have hz := HR3.out.lt
  generalize joinS ((x + y) * 1000000 + (f + g)) = r at *
  clear hx3
  go_wp2
  refine bodyPost_ret (v := .tuple #[.agg #[.int .i64 r.1.1, .int .i64 r.1.2], .bool r.2]) (by simp [results, Tryz.results57, go_sem, r0, r1]) rfl ⟨by rw [HEQ.out], ?_⟩
  iterate 2 with_reducible refine Ext.set2 ?_ (by omega) _
  with_reducible exact HX3.out
end Go.Proofs.YtcmmkeiiapbgcaaGreatDoor
