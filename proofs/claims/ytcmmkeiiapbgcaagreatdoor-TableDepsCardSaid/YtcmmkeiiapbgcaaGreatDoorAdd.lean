/- The program's decimal.Add. Condition: the table of tens is there. -/
import Derived.Test.YtcmmkeiiapbgcaaGreatDoorCmp
import Derived.Test.YtcmmkeiiapbgcaaGreatDoorJoin
namespace Go.Proofs.YtcmmkeiiapbgcaaGreatDoor
open Go Go.RowKit

theorem mu_bd (n s : Int) : -1000000000000000 ≤ (mu n s).tdiv 1000000 ∧ (mu n s).tdiv 1000000 ≤ 1000000000000000 ∧ -1000000 < (mu n s).tmod 1000000 ∧ (mu n s).tmod 1000000 < 1000000 := by
  obtain ⟨a, b, c, d⟩ := valD_range n s
  obtain ⟨h1, h2, h3, -, -⟩ := tdm (mu n s) 1000000 (by decide)
  have hm : -1000000000000000000000 ≤ mu n s ∧ mu n s ≤ 1000000000000000000000 := by
    unfold mu
    generalize (valD n s).2 = t at *
    generalize (valD n s).1 = u at *
    have hs : t = 0 ∨ t = 1 ∨ t = 2 ∨ t = 3 ∨ t = 4 ∨ t = 5 ∨ t = 6 := by omega
    rcases hs with rfl | rfl | rfl | rfl | rfl | rfl | rfl <;> simp [pw] <;> omega
  refine ⟨by omega, by omega, h2, h3⟩
def addS (a b a' b' : Int) : (Int × Int) × Bool := joinS (mu a b + mu a' b')
set_option maxRecDepth 100000 in
set_option maxHeartbeats 400000 in
theorem decimal_Add (a b a' b' : Int) (w : World) (ht : Tens w) : Calls Tryz.prog 57 #[.agg #[.int .i64 a, .int .i64 b], .agg #[.int .i64 a', .int .i64 b']] w (RetDB w (addS a b a' b')) := by
  have HT := Lib.hid ht
  clear ht
  go_enter Tryz.func57, Tryz.ntmps57
  go_wp2_with fail
  refine (decimal_split a b _ (HT.out.ext ((((Ext.refl w).alloc _).alloc _).alloc _))).mono ?_
  rintro e1 w1 ⟨rfl, hx1⟩
  have HX1 := Lib.hid (((((Ext.refl w).alloc _).alloc _).alloc _).trans hx1)
  have hb := ((Blk.new (w.alloc (.cells #[.int .i64 a, .int .i64 b] 31)) 31 #[.int .i64 a', .int .i64 b']).keep (Kept.alloc _ _ _)).keep (hx1.kept _)
  have hr := (Blk.new ((w.alloc (.cells #[.int .i64 a, .int .i64 b] 31)).alloc (.cells #[.int .i64 a', .int .i64 b'] 31)) 31 #[.int .i64 0, .int .i64 0]).keep (hx1.kept _)
  have c0 := hb.cell (i := 0) rfl
  have c1 := hb.cell (i := 1) rfl
  simp at c0 c1 hr
  have HR1 := Lib.hid hr
  clear hb hx1 hr
  go_wp2_with fail
  refine (decimal_split a' b' _ (HT.out.ext HX1.out)).mono ?_
  rintro e1 w2 ⟨rfl, hx2⟩
  have HX2 := Lib.hid (HX1.out.trans hx2)
  have HR2 := Lib.hid (HR1.out.keep (hx2.kept _))
  have HEQ := Lib.hid (show addS a b a' b' = joinS (((mu a b).tdiv 1000000 + (mu a' b').tdiv 1000000) * 1000000 + ((mu a b).tmod 1000000 + (mu a' b').tmod 1000000)) by
    unfold addS
    congr 1
    have h1 := (tdm (mu a b) 1000000 (by decide)).1
    have h2 := (tdm (mu a' b') 1000000 (by decide)).1
    omega)
  obtain ⟨p1, p2, p3, p4⟩ := mu_bd a b
  obtain ⟨q1, q2, q3, q4⟩ := mu_bd a' b'
  clear hx2 c0 c1
  generalize (mu a b).tdiv 1000000 = x at *
  generalize (mu a b).tmod 1000000 = f at *
  generalize (mu a' b').tdiv 1000000 = y at *
  generalize (mu a' b').tmod 1000000 = g at *
  have w1' : wrap64 (x + y) = x + y := IntWalk.wrap64_in _ ⟨by omega, by omega⟩
  have w2' : wrap64 (f + g) = f + g := IntWalk.wrap64_in _ ⟨by omega, by omega⟩
  have HW1 := Lib.hid w1'
  have HW2 := Lib.hid w2'
  clear w1' w2'
  go_wp2_with fail
  first | rw [HW1.out] | skip
  first | rw [HW2.out] | skip
  refine (decimal_join (x + y) (f + g) _ (HT.out.ext HX2.out) (by omega) (by omega) (by omega) (by omega)).mono ?_
  rintro e1 w3 ⟨rfl, hx3⟩
  have HX3 := Lib.hid (HX2.out.trans hx3)
  have HR3 := Lib.hid (HR2.out.keep (hx3.kept _))
  have r0 := HR3.out.cell (i := 0) rfl
  have r1 := HR3.out.cell (i := 1) rfl
  have rf := HR3.out.frozen
  have hz := HR3.out.lt
  generalize joinS ((x + y) * 1000000 + (f + g)) = r at *
  clear hx3
  go_wp2
  refine bodyPost_ret (v := .tuple #[.agg #[.int .i64 r.1.1, .int .i64 r.1.2], .bool r.2]) (by simp [results, Tryz.results57, go_sem, r0, r1, rf, hz]) rfl ⟨by rw [HEQ.out], ?_⟩
  iterate 2 with_reducible refine Ext.set2 ?_ (by omega) _
  with_reducible exact HX3.out
end Go.Proofs.YtcmmkeiiapbgcaaGreatDoor
