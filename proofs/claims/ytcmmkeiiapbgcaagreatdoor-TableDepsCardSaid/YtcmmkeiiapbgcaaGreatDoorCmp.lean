/- cmp.Compare, cmp.Or and the program's decimal.Cmp: the order of the numbers of millionths. Conditions: the variable tens holds the powers of ten. -/
import Derived.Test.YtcmmkeiiapbgcaaGreatDoorDec
namespace Go.Proofs.YtcmmkeiiapbgcaaGreatDoor
open Go Go.RowKit

def cmpI (a b : Int) : Int := if a < b then -1 else if b < a then 1 else 0
set_option maxRecDepth 100000 in
set_option maxHeartbeats 400000 in
theorem cmp_isNaN (a : Int) (w : World) : Calls Tryz.prog 129 #[.int .i64 a] w (SameB w false) := by
  have h : (a != a) = false := by simp
  go_enter Tryz.func129, Tryz.ntmps129
  go_wp2
  go_ret
  exact ⟨by simp, rfl⟩
set_option maxRecDepth 100000 in
set_option maxHeartbeats 400000 in
theorem cmp_Compare (a b : Int) (w : World) : Calls Tryz.prog 101 #[.int .i64 a, .int .i64 b] w (SameI w (cmpI a b)) := by
  by_cases h1 : a < b
  · have HF := Lib.hid (show cmpI a b = -1 by simp [cmpI, h1])
    go_enter Tryz.func101, Tryz.ntmps101
    go_wp2_with (go_at_call 129; refine (cmp_isNaN _ _).mono ?_; rintro e w' ⟨rfl, rfl⟩)
    go_ret
    exact ⟨by rw [HF.out]; rfl, rfl⟩
  by_cases h2 : b < a
  · have HF := Lib.hid (show cmpI a b = 1 by simp [cmpI, h1, h2])
    go_enter Tryz.func101, Tryz.ntmps101
    go_wp2_with (go_at_call 129; refine (cmp_isNaN _ _).mono ?_; rintro e w' ⟨rfl, rfl⟩)
    go_ret
    exact ⟨by rw [HF.out]; rfl, rfl⟩
  · have HF := Lib.hid (show cmpI a b = 0 by simp [cmpI, h1, h2])
    go_enter Tryz.func101, Tryz.ntmps101
    go_wp2_with (go_at_call 129; refine (cmp_isNaN _ _).mono ?_; rintro e w' ⟨rfl, rfl⟩)
    go_ret
    exact ⟨by rw [HF.out]; rfl, rfl⟩
def orI (a b : Int) : Int := if a ≠ 0 then a else b
set_option maxRecDepth 100000 in
set_option maxHeartbeats 400000 in
theorem cmp_Or (a b : Int) (g c : Nat) (w : World) (h0 : w.cell? ⟨g, 0, none⟩ = some (.int .i64 a)) (h1 : w.cell? ⟨g, 1, none⟩ = some (.int .i64 b)) : Calls Tryz.prog 100 #[.slice (some ⟨g, 0, none⟩) 2 c] w (SameI w (orI a b)) := by
  by_cases ha : a = 0
  · have ha' : (a != 0) = false := by simp [ha]
    by_cases hb : b = 0
    · have hb' : (b != 0) = false := by simp [hb]
      have HF := Lib.hid (show orI a b = 0 by simp [orI, ha, hb])
      clear ha hb
      go_enter Tryz.func100, Tryz.ntmps100
      go_wp2
      refine wp_loop_rounds 3 ?_
      rw [rounds_succ]
      go_wp2
      rw [rounds_succ]
      go_wp2
      rw [rounds_succ]
      go_wp2
      go_ret
      exact ⟨by rw [HF.out]; rfl, rfl⟩
    · have hb' : (b != 0) = true := by simp [hb]
      have HF := Lib.hid (show orI a b = b by simp [orI, ha])
      clear ha hb
      go_enter Tryz.func100, Tryz.ntmps100
      go_wp2
      refine wp_loop_rounds 2 ?_
      rw [rounds_succ]
      go_wp2
      rw [rounds_succ]
      go_wp2
      go_ret
      exact ⟨by rw [HF.out]; rfl, rfl⟩
  · have ha' : (a != 0) = true := by simp [ha]
    have HF := Lib.hid (show orI a b = a by simp [orI, ha])
    clear ha
    go_enter Tryz.func100, Tryz.ntmps100
    go_wp2
    refine wp_loop_rounds 1 ?_
    rw [rounds_succ]
    go_wp2
    go_ret
    exact ⟨by rw [HF.out]; rfl, rfl⟩
theorem cmp_mu (u v : Int) : orI (cmpI (u.tdiv 1000000) (v.tdiv 1000000)) (cmpI (u.tmod 1000000) (v.tmod 1000000)) = cmpI u v := by
  obtain ⟨a1, a2, a3, a4, a5⟩ := tdm u 1000000 (by decide)
  obtain ⟨b1, b2, b3, b4, b5⟩ := tdm v 1000000 (by decide)
  generalize u.tdiv 1000000 = x at *
  generalize v.tdiv 1000000 = y at *
  generalize u.tmod 1000000 = f at *
  generalize v.tmod 1000000 = g at *
  unfold orI cmpI
  by_cases h1 : x < y
  · rw [if_pos h1, if_pos (by decide), if_pos (by omega)]
  · by_cases h2 : y < x
    · rw [if_neg h1, if_pos h2, if_pos (by decide), if_neg (by omega), if_pos (by omega)]
    · rw [if_neg h1, if_neg h2, if_neg (by decide)]
      by_cases h3 : f < g
      · rw [if_pos h3, if_pos (by omega)]
      · by_cases h4 : g < f
        · rw [if_neg h3, if_pos h4, if_neg (by omega), if_pos (by omega)]
        · rw [if_neg h3, if_neg h4, if_neg (by omega), if_neg (by omega)]
set_option maxRecDepth 100000 in
set_option maxHeartbeats 400000 in
theorem decimal_Cmp (a b a' b' : Int) (w : World) (ht : Tens w) : Calls Tryz.prog 58 #[.agg #[.int .i64 a, .int .i64 b], .agg #[.int .i64 a', .int .i64 b']] w (RetI w (cmpI (mu a b) (mu a' b'))) := by
  have HT := Lib.hid ht
  clear ht
  go_enter Tryz.func58, Tryz.ntmps58
  go_wp2_with fail
  refine (decimal_split a b _ (HT.out.ext (((Ext.refl w).alloc _).alloc _))).mono ?_
  rintro e1 w1 ⟨rfl, hx1⟩
  have HX1 := Lib.hid ((((Ext.refl w).alloc _).alloc _).trans hx1)
  have hb := (Blk.new (w.alloc (.cells #[.int .i64 a, .int .i64 b] 31)) 31 #[.int .i64 a', .int .i64 b']).keep (hx1.kept _)
  have c0 := hb.cell (i := 0) rfl
  have c1 := hb.cell (i := 1) rfl
  simp at c0 c1
  clear hb hx1
  go_wp2_with fail
  refine (decimal_split a' b' _ (HT.out.ext HX1.out)).mono ?_
  rintro e1 w2 ⟨rfl, hx2⟩
  have HX2 := Lib.hid (HX1.out.trans hx2)
  have HC := Lib.hid (cmp_mu (mu a b) (mu a' b'))
  clear hx2 c0 c1
  generalize (mu a b).tdiv 1000000 = x at *
  generalize (mu a b).tmod 1000000 = f at *
  generalize (mu a' b').tdiv 1000000 = y at *
  generalize (mu a' b').tmod 1000000 = g at *
  go_wp2_with (first | (go_at_call 101; refine (cmp_Compare _ _ _).mono ?_; rintro e w' ⟨rfl, rfl⟩))
  refine (cmp_Or (cmpI x y) (cmpI f g) _ _ _ ?_ ?_).mono ?_
  · simp [go_sem]
  · simp [go_sem]
  rintro e w' ⟨rfl, rfl⟩
  go_wp2
  go_ret
  exact ⟨by rw [← HC.out]; rfl, HX2.out.alloc _⟩
end Go.Proofs.YtcmmkeiiapbgcaaGreatDoor
