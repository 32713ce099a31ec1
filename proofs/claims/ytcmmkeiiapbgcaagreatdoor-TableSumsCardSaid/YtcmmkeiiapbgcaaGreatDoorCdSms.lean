/- From the row's reading of the arguments to the words of the walks. No conditions. -/
import Derived.Test.YtcmmkeiiapbgcaaGreatDoorBm18
import Derived.Test.YtcmmkeiiapbgcaaGreatDoorRows
import Derived.Test.YtcmmkeiiapbgcaaGreatDoorTie
import Derived.Test.YtcmmkeiiapbgcaaGreatDoorCards
import Derived.ProofKit
import Derived.LaidMore
import Derived.OpenShut
import Derived.ShutString
import Derived.ChangeOld
import Derived.Stop.Joined
import Derived.SevenTiedAt
import Derived.Deep.Matrix
namespace Go.Proofs.YtcmmkeiiapbgcaaGreatDoor
open Go Go.ChangeShapes Go.WideShapes Go.ChangeAt Go.WideMaps Go.WideElems Go.RowKit

theorem own : ownKnob Tryz.prog.godebug = none := by kernel_rfl
theorem laidOut : laidOutB Tryz.prog = true := by kernel_rfl
theorem gTens : Tryz.prog.globalNamed "concord/decimal.tens" = some 0 := by kernel_rfl
theorem tTens : (Tryz.prog.globals[0]?).map (·.type) = some 141 := by kernel_rfl
theorem spot_none {W : World} {a : Addr} {v : Value} (h : W.cell? a = some v) : a.spot = none := by
  unfold World.cell? at h
  split at h
  · split at h
    · cases h
    · rename_i hs; simpa using hs
  · cases h
theorem add_none {a : Addr} (h : a.spot = none) (n : Nat) : a.add n = ⟨a.block, a.off + n, none⟩ := by
  obtain ⟨b, o, s⟩ := a
  simp at h
  subst h
  unfold Addr.add
  split
  · rename_i h0; subst h0; rfl
  · rfl
theorem rd_cells {W : World} {a : Addr} {xs : List Value} (h : ∀ j u, xs[j]? = some u → W.cell? (a.add j) = some u) : Rd W (fun _ => True) (some a) xs := by
  rcases xs with _ | ⟨x, xs⟩
  · exact Or.inl rfl
  · have hs : a.spot = none := spot_none (a := a) (v := x) (by have := h 0 x rfl; simpa [Addr.add] using this)
    refine Or.inr ⟨a.block, a.off, ?_, trivial, ?_, fun j u hj => ?_⟩
    · obtain ⟨b, o, s⟩ := a; simp at hs; subst hs; rfl
    · have h0 := h 0 x rfl
      rw [add_none hs] at h0
      unfold World.cell? at h0
      rcases Nat.lt_or_ge a.block W.heap.size with h1 | h1
      · exact h1
      · simp only [Array.getElem?_eq_none h1] at h0; cases h0
    · rw [← add_none hs]; exact h j u hj
theorem intsL_of {W : World} {a : Addr} {zs : List Int} {len : Nat} (hc : ∀ i, i < zs.length → W.cell? (a.add i) = some (.int .i64 (zs.getD i 0))) (hm : zs.length ≤ maxLen) : IntsL W (fun _ => True) (some a) (zs.take len) := by
  unfold maxLen at hm
  refine ⟨rd_cells fun j u hj => ?_, by rw [List.length_take]; omega⟩
  rw [List.getElem?_map] at hj
  cases hz : (zs.take len)[j]? with
  | none => rw [hz] at hj; cases hj
  | some z =>
    rw [hz] at hj
    simp at hj
    subst hj
    have hlt := (List.getElem?_eq_some_iff.1 hz).1
    rw [List.length_take] at hlt
    rw [hc j (by omega)]
    rw [List.getElem?_take, if_pos (by omega)] at hz
    simp [hz]
/-- An argument []int. -/
theorem open_l {H : Type} {enc : TypeId × Value → H} {W : World} {base : Nat} {a : Option Addr} {len cap fuel : Nat} {held : Bool} {x : DataW H × List MemPlace} (h : DataW.trod enc Tryz.prog W base (fun _ => true) held fuel 22 (Value.slice a len cap).cells.toList = some x) :
    ∃ l : List Int, l.length = len ∧ IntsL W (fun _ => True) a l := by
  rcases open_ints Tryz.underlying22 Tryz.underlying3 (by kernel_rfl) h with ⟨hcs, _⟩ | ⟨y, l, c, zs, hcs, _, hl, hm, hz, _, hcell, hwz⟩
  · simp [Value.cells] at hcs
    obtain ⟨rfl, rfl, rfl⟩ := hcs
    exact ⟨[], rfl, Or.inl rfl, by simp⟩
  · simp [Value.cells] at hcs
    obtain ⟨rfl, rfl, rfl⟩ := hcs
    simp only [if_true] at hz
    exact ⟨zs.take len, by rw [List.length_take]; omega, intsL_of hcell (by omega)⟩
end Go.Proofs.YtcmmkeiiapbgcaaGreatDoor
/- From the row's reading of the arguments to the words of the walks: rows of ints, the table of tens. No conditions. -/
namespace Go.Proofs.YtcmmkeiiapbgcaaGreatDoor
open Go Go.ChangeShapes Go.WideShapes Go.ChangeAt Go.WideMaps Go.WideElems Go.RowKit

/-- An argument [][]int. -/
theorem open_ll {H : Type} {enc : TypeId × Value → H} {W : World} {base : Nat} {a : Option Addr} {len cap fuel : Nat} {held : Bool} {x : DataW H × List MemPlace} (h : DataW.trod enc Tryz.prog W base (fun _ => true) held fuel 48 (Value.slice a len cap).cells.toList = some x) :
    ∃ l : List (List Int), l.length = len ∧ RIssL W (fun _ => True) a l := by
  rcases Deep.open_int_rows Tryz.underlying48 Tryz.underlying22 Tryz.underlying3 (by kernel_rfl) (by kernel_rfl) h with ⟨hcs, _⟩ | ⟨y, l, c, A, L, C, Z, hcs, _, hl, hm, _, hr⟩
  · simp [Value.cells] at hcs
    obtain ⟨rfl, rfl, rfl⟩ := hcs
    exact ⟨[], rfl, by simp, [], Or.inl rfl, rfl, by simp⟩
  · simp [Value.cells] at hcs
    obtain ⟨rfl, rfl, rfl⟩ := hcs
    unfold maxLen at hm
    refine ⟨(List.range len).map fun r => (Z r).take (L r), by simp, by simp; omega, (List.range len).map fun r => Value.slice (A r) (L r) (C r), rd_cells fun j u hj => ?_, by simp, fun i r hi => ?_⟩
    · rw [List.getElem?_map] at hj
      rcases Nat.lt_or_ge j len with hlt | hge
      · rw [List.getElem?_range hlt] at hj
        simp at hj
        subst hj
        exact (hr j (by omega)).1
      · rw [List.getElem?_eq_none (by simpa using hge)] at hj
        cases hj
    · rw [List.getElem?_map] at hi
      rcases Nat.lt_or_ge i len with hlt | hge
      · rw [List.getElem?_range hlt] at hi
        simp at hi
        subst hi
        obtain ⟨h1, h2, h3, h4, h5, h6, h7⟩ := hr i (by omega)
        have hll : ((Z i).take (L i)).length = L i := by rw [List.length_take]; omega
        refine ⟨A i, C i, ?_, by rw [hll]; exact h2, ?_⟩
        · rw [hll, List.getElem?_map, List.getElem?_range hlt]; rfl
        · cases hA : A i with
          | none =>
            have hc := h6 hA
            have : Z i = [] := List.eq_nil_of_length_eq_zero (by omega)
            rw [this]
            exact ⟨Or.inl (by simp), by simp⟩
          | some a' =>
            obtain ⟨_, h8⟩ := h7 a' hA
            exact intsL_of (fun i' hi' => h8 i' (by omega)) (by omega)
      · rw [List.getElem?_eq_none (by simpa using hge)] at hi
        cases hi
theorem of_laid {W : World} (h : laidMetH Tryz.prog [("concord/decimal.tens", Rows.laid_concord_decimal_tens)] W) : Tens W := by
  rw [MakeChecks.laidMetH_plain _ _ _ (by kernel_rfl)] at h
  obtain ⟨ps, ⟨g1, t1, cs1, f1, p1, q1, hg1, ht1, hv1, hd1, _, _⟩, _, _⟩ := h
  obtain rfl := Option.some.inj (gTens.symm.trans hg1)
  obtain rfl := Option.some.inj (tTens.symm.trans ht1)
  obtain ⟨xs, m1, rfl, hx1, hlen, hn3, hel⟩ := DataW.trod_array Tryz.underlying141 hd1
  have c3 : Tryz.prog.cellsOf 3 = 1 := by kernel_rfl
  simp only [Prod.mk.injEq] at hx1
  have key : ∀ i (hi : i < 7), W.cell? ⟨0, i, none⟩ = cs1[i]? := fun i _ => World.var?_cell hg1 hv1 i
  have hD : (Rows.laid_concord_decimal_tens : DataW Unit) = DataW.agg (xs.map (·.1)) := hx1.1
  unfold Rows.laid_concord_decimal_tens at hD
  injection hD with hD
  have one : ∀ i (hi : i < 7) (n : Int), ([.lit (.int .i64 1), .lit (.int .i64 10), .lit (.int .i64 100), .lit (.int .i64 1000), .lit (.int .i64 10000), .lit (.int .i64 100000), .lit (.int .i64 1000000)] : List (DataW Unit))[i]? = some (.lit (.int .i64 n)) → W.cell? ⟨0, i, none⟩ = some (.int .i64 n) := by
    intro i hi n hn
    rw [hD, List.getElem?_map] at hn
    have h1 := hel i hi
    cases hx : xs[i]? with
    | none => rw [hx] at hn; cases hn
    | some x =>
      rw [hx] at hn h1
      simp at hn
      obtain ⟨k, e1, e2, _⟩ := DataW.trod_int Tryz.underlying3 h1
      rw [e2] at hn
      simp at hn
      subst hn
      rw [c3, Nat.mul_one] at e1
      rw [key i hi]
      have := congrArg (·[0]?) e1
      simpa [List.getElem?_take, List.getElem?_drop] using this
  exact ⟨one 0 (by decide) 1 rfl, one 1 (by decide) 10 rfl, one 2 (by decide) 100 rfl, one 3 (by decide) 1000 rfl, one 4 (by decide) 10000 rfl, one 5 (by decide) 100000 rfl, one 6 (by decide) 1000000 rfl⟩
theorem door_met (os : Os) (args : Array Value) : laidMetH Tryz.prog [("concord/decimal.tens", Rows.laid_concord_decimal_tens)] ((World.doorLaid Tryz.prog 400 os).forCall (fun _ _ => 0) ⟨#[], args, []⟩).memory :=
  laidMetH_of_parts3 (fuel := 8) (laidMet_of_run' 8 (by kernel_rfl) (by kernel_rfl)) (by kernel_rfl) (by kernel_rfl)
end Go.Proofs.YtcmmkeiiapbgcaaGreatDoor
/- From the row's reading of an argument [3]int to the words of the walks. No conditions. -/
namespace Go.Proofs.YtcmmkeiiapbgcaaGreatDoor
open Go Go.ChangeShapes Go.WideShapes Go.ChangeAt Go.WideMaps Go.WideElems Go.RowKit

def inI (a : Int) : Prop := -9223372036854775808 ≤ a ∧ a ≤ 9223372036854775807
set_option maxRecDepth 100000 in
/-- An argument [3]int. -/
theorem open_q {H : Type} {enc : TypeId × Value → H} {W : World} {base b0 : Nat} {r : Reach} {held : Bool} {v : Value} {d : DataW H} {ps : List MemPlace} (hok : Value.okWide Tryz.prog W r b0 23 v) (h : DataW.Trod enc Tryz.prog W base (fun _ => true) held 23 v d ps) :
    ∃ a b c : Int, v = .agg #[.int .i64 a, .int .i64 b, .int .i64 c] ∧ inI a ∧ inI b ∧ inI c := by
  simp only [Value.okWide, Tryz.underlying23] at hok
  obtain ⟨cs, rfl, hs, _⟩ := hok
  have h3 : Tryz.prog.cellsOf 23 = 3 := by kernel_rfl
  have c1 : Tryz.prog.cellsOf 3 = 1 := by kernel_rfl
  rw [h3] at hs
  obtain ⟨fuel, hf⟩ := h
  obtain ⟨xs, m, _, _, hlen, hn, hel⟩ := DataW.trod_array Tryz.underlying23 hf
  obtain ⟨l⟩ := cs
  match l, hs with
  | [x0, x1, x2], _ =>
    have one : ∀ i, i < 3 → ∀ x, [x0, x1, x2][i]? = some x → ∃ a, x = .int .i64 a ∧ inI a := by
      intro i hi x hx
      have h1 := hel i hi
      rw [c1, Nat.mul_one] at h1
      cases hxs : xs[i]? with
      | none => rw [List.getElem?_eq_none_iff] at hxs; omega
      | some y =>
        rw [hxs] at h1
        obtain ⟨k, e1, e2, e3⟩ := DataW.trod_int Tryz.underlying3 h1
        have := congrArg (·[0]?) e1
        simp [Value.cells, List.getElem?_drop, hx] at this
        refine ⟨k, this, ?_⟩
        exact bounds_i64 e3
    obtain ⟨a, rfl, ha⟩ := one 0 (by omega) x0 rfl
    obtain ⟨b, rfl, hb⟩ := one 1 (by omega) x1 rfl
    obtain ⟨c, rfl, hc⟩ := one 2 (by omega) x2 rfl
    exact ⟨a, b, c, rfl, ha, hb, hc⟩
end Go.Proofs.YtcmmkeiiapbgcaaGreatDoor
/- The law TableSums: the row of the statement, and its card, tied to the program's text. No conditions but those that the given statement bears. -/
namespace Go.Proofs.YtcmmkeiiapbgcaaGreatDoor
open Go Go.ChangeShapes Go.WideShapes Go.ChangeAt Go.WideMaps Go.WideElems Go.RowKit

set_option maxRecDepth 100000 in
theorem sums_lifted (os : Os) (started : os.Started) (H : Type) (enc : TypeId × Value → H) :
    ReturnsInHanded {} Tryz.checked os 4 .any (fun w args => (Rows.tableSumsSpec.pre enc Tryz.prog Tryz.f4 [] false w args ∧ laidMetH Tryz.prog [("concord/decimal.tens", Rows.laid_concord_decimal_tens)] w) ∧ sizedMet enc Tryz.prog Tryz.f4 (OpenSpec.ofChange Rows.tableSumsSpec) false w args)
      (Rows.tableSumsSpec.post enc Tryz.prog Tryz.f4 false true false false) := by
  refine returnsInHanded_of_change_and (C := Tryz.checked) (X := fun w _ => laidMetH Tryz.prog [("concord/decimal.tens", Rows.laid_concord_decimal_tens)] w) (fun _ _ _ hh h => h.of_heap hh) own started (by kernel_rfl) Tryz.func4
    (ChangeSpec.witness_shaped (enc := enc) (C := Tryz.checked) (os := os) (X := fun w _ => laidMetH Tryz.prog [("concord/decimal.tens", Rows.laid_concord_decimal_tens)] w) false (World.doorLaid Tryz.prog 400 os) #[.slice none 0 0, .agg #[.int .i64 0, .int .i64 0, .int .i64 0], .agg #[.int .i64 0, .int .i64 0, .int .i64 0]] 8 rfl (World.shaped_of_RefB (by kernel_rfl) (by kernel_rfl)) (by kernel_rfl) (by kernel_rfl) (by kernel_rfl) (door_met os _)) ?_
  intro W base args ds gs before hval0 hW _ _ hL _
  have hval : ∀ (j : Nat) t v, Tryz.f4.params[j]? = some t → args[j]? = some v → Value.okWide Tryz.prog W .any base t v := hval0
  have hW' := hW
  obtain ⟨p, q, hA0, hV, rfl, hfz, hnd⟩ := hW
  have hA : DataW.TrodAll enc Tryz.prog W 0 (fun _ => true) true Tryz.f4.params.toList args.toList ds p := hA0
  rw [Tryz.params4] at hA hval
  obtain ⟨v0, vs0, d0, ds0, p0, q0, hargs, rfl, rfl, h0, r0⟩ := trodAll_cons hA
  obtain ⟨v1, vs1, d1, ds1, p1, q1, rfl, rfl, rfl, h1, r1⟩ := trodAll_cons r0
  obtain ⟨v2, vs2, d2, ds2, p2, q2, rfl, rfl, rfl, h2, r2⟩ := trodAll_cons r1
  obtain ⟨rfl, rfl, rfl⟩ := trodAll_nil r2
  obtain rfl : args = #[v0, v1, v2] := by cases args; simp_all
  obtain ⟨rfl, rfl⟩ := trodVars_none hV
  obtain ⟨a0, len0, cap0, rfl⟩ := okWide_slice Tryz.underlying22 (hval 0 22 v0 rfl rfl)
  have k0 := h0
  have lt0 : ∀ x ∈ p0, x.block < W.heap.size := by obtain ⟨m, hm⟩ := k0; exact DataW.trod_lt m _ _ _ hm
  have k1 := h1
  have lt1 : ∀ x ∈ p1, x.block < W.heap.size := by obtain ⟨m, hm⟩ := k1; exact DataW.trod_lt m _ _ _ hm
  have k2 := h2
  have lt2 : ∀ x ∈ p2, x.block < W.heap.size := by obtain ⟨m, hm⟩ := k2; exact DataW.trod_lt m _ _ _ hm
  obtain ⟨l0, rfl, w0⟩ := (by obtain ⟨fuel, hf⟩ := h0; exact open_l hf : ∃ l : List Int, l.length = len0 ∧ IntsL W (fun _ => True) a0 l)
  obtain ⟨q1a, q1b, q1c, rfl, b1a, b1b, b1c⟩ := open_q (hval 1 23 v1 rfl rfl) h1
  obtain ⟨q2a, q2b, q2c, rfl, b2a, b2b, b2c⟩ := open_q (hval 2 23 v2 rfl rfl) h2
  clear hA0 hval0
  refine (law_Sums l0 q1a q1b q1c q2a q2b q2c a0 cap0 W (fun _ => True) (of_laid hL) w0).mono fun e W' ⟨he, hx⟩ => ?_
  subst he
  have bel : Below W.heap.size W W' := hx
  exact ⟨_, rfl, _, _, _, [], _, [], hW', trodAll_mk1 (shut_bool Tryz.underlying4 _), (trodAll_cons_mk (Below.trod laidOut (by kernel_rfl) (of_decide_eq_true (by kernel_rfl)) k0 bel lt0) (trodAll_cons_mk (Below.trod laidOut (by kernel_rfl) (of_decide_eq_true (by kernel_rfl)) k1 bel lt1) (trodAll_cons_mk (Below.trod laidOut (by kernel_rfl) (of_decide_eq_true (by kernel_rfl)) k2 bel lt2) trodAll_mk0))), rfl, bel.frame _, fun h => by cases h⟩
theorem sums_holds : Rows.TableSumsSaid :=
  OpenClaim.holds_of_wide 4 Tryz.f4 rfl rfl rfl rfl rfl rfl rfl ⟨rfl, rfl, rfl, rfl, rfl⟩ rfl rfl rfl rfl rfl (by kernel_rfl) Tryz.func4 (by kernel_rfl)
    (of_decide_eq_true (by kernel_rfl)) (by unfold Func.isWrapper; first | (rw [if_pos (by decide +kernel)]; kernel_rfl) | (rw [if_neg (by decide +kernel)]; exact ⟨rfl, rfl⟩))
    (fun os started H enc _ => sums_lifted os started H enc)
theorem tableSums_card : Rows.TableSumsCardSaid :=
  Claim7.holds_tied_plain_at .later [] [.data] true (true, "01500f8b32662ec7ff2a0cd298a7f2cc24d97e849d39100bb08e3496477a2b33") false
    sums_holds (fun _ h => by cases h) (by kernel_rfl) (fun _ h => by cases h) tableSums_row_tie rfl ⟨rfl, rfl⟩ (by kernel_rfl) rfl
    (fun f fn hf hfn => by
      obtain rfl : f = 4 := Option.some.inj ((show Tryz.prog.funcNamed "concord/concordlaw09.TableSums" = some 4 by kernel_rfl).symm.trans hf) |>.symm
      obtain rfl : fn = Tryz.f4 := (Option.some.inj (Tryz.func4.symm.trans hfn)).symm
      exact ⟨by kernel_rfl, fun j t ht => by
        rw [Tryz.params4] at ht
        have hm : t ∈ [22, 23, 23] := by simpa using Array.mem_of_getElem? ht
        have hall : ([22, 23, 23].all fun u => !Tryz.prog.wantsStandIn u) = true := by kernel_rfl
        exact (show Tryz.prog.wantsStandIn t = false by simpa using List.all_eq_true.1 hall t hm)⟩)
    (by kernel_rfl)
#print axioms tableSums_card
end Go.Proofs.YtcmmkeiiapbgcaaGreatDoor
