/- The law TableImplied: the row of the statement, and its card, tied to the program's text. No conditions but those that the given statement bears. -/
import Derived.Test.YtcmmkeiiapbgcaaDoorCardA
import Derived.Test.YtcmmkeiiapbgcaaDoorImp3
namespace Go.Proofs.YtcmmkeiiapbgcaaDoor
open Go Go.ChangeShapes Go.WideShapes Go.ChangeAt Go.WideMaps Go.WideElems Go.RowKit

/-- An argument [][]int. -/
theorem open_ll {H : Type} {enc : TypeId × Value → H} {W : World} {base : Nat} {a : Option Addr} {len cap fuel : Nat} {held : Bool} {x : DataW H × List MemPlace} (h : DataW.trod enc Tryd.prog W base (fun _ => true) held fuel 23 (Value.slice a len cap).cells.toList = some x) :
    ∃ l : List (List Int), l.length = len ∧ RIssL W (fun _ => True) a l := by
  rcases Deep.open_int_rows Tryd.underlying23 Tryd.underlying22 Tryd.underlying3 (by kernel_rfl) (by kernel_rfl) h with ⟨hcs, _⟩ | ⟨y, l, c, A, L, C, Z, hcs, _, hl, hm, _, hr⟩
  · simp [Value.cells] at hcs
    obtain ⟨rfl, rfl, rfl⟩ := hcs
    exact ⟨[], rfl, by simp, [], Or.inl rfl, rfl, by simp⟩
  · simp [Value.cells] at hcs
    obtain ⟨rfl, rfl, rfl⟩ := hcs
    unfold maxLen at hm
    refine ⟨(List.range len).map fun r => (Z r).take (L r), by simp, by simp; omega, (List.range len).map fun r => Value.slice (A r) (L r) (C r), rd_cells fun j u hj => ?_, by simp, fun i r hi => ?_⟩
    · rw [List.getElem?_map] at hj
      rcases Nat.lt_or_ge j len with hlt | hge
      · rw [List.getElem?_range hlt] at hj
        simp at hj
        subst hj
        exact (hr j (by omega)).1
      · rw [List.getElem?_eq_none (by simpa using hge)] at hj
        cases hj
    · rw [List.getElem?_map] at hi
      rcases Nat.lt_or_ge i len with hlt | hge
      · rw [List.getElem?_range hlt] at hi
        simp at hi
        subst hi
        obtain ⟨h1, h2, h3, h4, h5, h6, h7⟩ := hr i (by omega)
        have hll : ((Z i).take (L i)).length = L i := by rw [List.length_take]; omega
        refine ⟨A i, C i, ?_, by rw [hll]; exact h2, ?_⟩
        · rw [hll, List.getElem?_map, List.getElem?_range hlt]; rfl
        · cases hA : A i with
          | none =>
            have hc := h6 hA
            have : Z i = [] := List.eq_nil_of_length_eq_zero (by omega)
            rw [this]
            exact ⟨Or.inl (by simp), by simp⟩
          | some a' =>
            obtain ⟨_, h8⟩ := h7 a' hA
            exact intsL_of (fun i' hi' => h8 i' (by omega)) (by omega)
      · rw [List.getElem?_eq_none (by simpa using hge)] at hi
        cases hi
theorem of_laid {W : World} (h : laidMetH Tryd.prog [("concord/decimal.tens", Rows.laid_concord_decimal_tens)] W) : Tens W := by
  rw [MakeChecks.laidMetH_plain _ _ _ (by kernel_rfl)] at h
  obtain ⟨ps, ⟨g1, t1, cs1, f1, p1, q1, hg1, ht1, hv1, hd1, _, _⟩, _, _⟩ := h
  obtain rfl := Option.some.inj (gTens.symm.trans hg1)
  obtain rfl := Option.some.inj (tTens.symm.trans ht1)
  obtain ⟨xs, m1, rfl, hx1, hlen, hn3, hel⟩ := DataW.trod_array Tryd.underlying114 hd1
  have c3 : Tryd.prog.cellsOf 3 = 1 := by kernel_rfl
  simp only [Prod.mk.injEq, DataW.agg.injEq] at hx1
  have key : ∀ i (hi : i < 7), W.cell? ⟨0, i, none⟩ = cs1[i]? := fun i _ => World.var?_cell hg1 hv1 i
  have hD : (Rows.laid_concord_decimal_tens : DataW Unit) = DataW.agg (xs.map (·.1)) := hx1.1
  unfold Rows.laid_concord_decimal_tens at hD
  injection hD with hD
  have one : ∀ i (hi : i < 7) (n : Int), ([.lit (.int .i64 1), .lit (.int .i64 10), .lit (.int .i64 100), .lit (.int .i64 1000), .lit (.int .i64 10000), .lit (.int .i64 100000), .lit (.int .i64 1000000)] : List (DataW Unit))[i]? = some (.lit (.int .i64 n)) → W.cell? ⟨0, i, none⟩ = some (.int .i64 n) := by
    intro i hi n hn
    rw [hD, List.getElem?_map] at hn
    have h1 := hel i hi
    cases hx : xs[i]? with
    | none => rw [hx] at hn; cases hn
    | some x =>
      rw [hx] at hn h1
      simp at hn
      obtain ⟨k, e1, e2, _⟩ := DataW.trod_int Tryd.underlying3 h1
      rw [e2] at hn
      simp at hn
      subst hn
      rw [c3, Nat.mul_one] at e1
      rw [key i hi]
      have := congrArg (·[0]?) e1
      simpa [List.getElem?_take, List.getElem?_drop] using this
  exact ⟨one 0 (by decide) 1 rfl, one 1 (by decide) 10 rfl, one 2 (by decide) 100 rfl, one 3 (by decide) 1000 rfl, one 4 (by decide) 10000 rfl, one 5 (by decide) 100000 rfl, one 6 (by decide) 1000000 rfl⟩
theorem door_met (os : Os) (args : Array Value) : laidMetH Tryd.prog [("concord/decimal.tens", Rows.laid_concord_decimal_tens)] ((World.doorLaid Tryd.prog 400 os).forCall (fun _ _ => 0) ⟨#[], args, []⟩).memory :=
  laidMetH_of_parts3 (fuel := 8) (laidMet_of_run' 8 (by kernel_rfl) (by kernel_rfl)) (by kernel_rfl) (by kernel_rfl)
set_option maxRecDepth 100000 in
theorem implied_lifted (os : Os) (started : os.Started) (H : Type) (enc : TypeId × Value → H) :
    ReturnsInHanded {} Tryd.checked os 3 .any (fun w args => (Rows.tableImpliedSpec.pre enc Tryd.prog Tryd.f3 [] false w args ∧ laidMetH Tryd.prog [("concord/decimal.tens", Rows.laid_concord_decimal_tens)] w) ∧ sizedMet enc Tryd.prog Tryd.f3 (OpenSpec.ofChange Rows.tableImpliedSpec) false w args)
      (Rows.tableImpliedSpec.post enc Tryd.prog Tryd.f3 false true false false) := by
  refine returnsInHanded_of_change_and (C := Tryd.checked) (X := fun w _ => laidMetH Tryd.prog [("concord/decimal.tens", Rows.laid_concord_decimal_tens)] w) (fun _ _ _ hh h => h.of_heap hh) own started (by kernel_rfl) Tryd.func3
    (ChangeSpec.witness_shaped (enc := enc) (C := Tryd.checked) (os := os) (X := fun w _ => laidMetH Tryd.prog [("concord/decimal.tens", Rows.laid_concord_decimal_tens)] w) false (World.doorLaid Tryd.prog 400 os) #[.slice none 0 0, .slice none 0 0, .slice none 0 0] 8 rfl (World.shaped_of_RefB (by kernel_rfl) (by kernel_rfl)) (by kernel_rfl) (by kernel_rfl) (by kernel_rfl) (door_met os _)) ?_
  intro W base args ds gs before hval0 hW _ _ hL _
  have hval : ∀ (j : Nat) t v, Tryd.f3.params[j]? = some t → args[j]? = some v → Value.okWide Tryd.prog W .any base t v := hval0
  have hW' := hW
  obtain ⟨p, q, hA0, hV, rfl, hfz, hnd⟩ := hW
  have hA : DataW.TrodAll enc Tryd.prog W 0 (fun _ => true) true Tryd.f3.params.toList args.toList ds p := hA0
  rw [Tryd.params3] at hA hval
  obtain ⟨v0, vs0, d0, ds0, p0, q0, hargs, rfl, rfl, h0, r0⟩ := trodAll_cons hA
  obtain ⟨v1, vs1, d1, ds1, p1, q1, rfl, rfl, rfl, h1, r1⟩ := trodAll_cons r0
  obtain ⟨v2, vs2, d2, ds2, p2, q2, rfl, rfl, rfl, h2, r2⟩ := trodAll_cons r1
  obtain ⟨rfl, rfl, rfl⟩ := trodAll_nil r2
  obtain rfl : args = #[v0, v1, v2] := by cases args; simp_all
  obtain ⟨rfl, rfl⟩ := trodVars_none hV
  obtain ⟨a0, len0, cap0, rfl⟩ := okWide_slice Tryd.underlying22 (hval 0 22 v0 rfl rfl)
  obtain ⟨a1, len1, cap1, rfl⟩ := okWide_slice Tryd.underlying23 (hval 1 23 v1 rfl rfl)
  obtain ⟨a2, len2, cap2, rfl⟩ := okWide_slice Tryd.underlying22 (hval 2 22 v2 rfl rfl)
  have k0 := h0
  have k1 := h1
  have k2 := h2
  have lt0 : ∀ x ∈ p0, x.block < W.heap.size := by obtain ⟨m, hm⟩ := k0; exact DataW.trod_lt m _ _ _ hm
  have lt1 : ∀ x ∈ p1, x.block < W.heap.size := by obtain ⟨m, hm⟩ := k1; exact DataW.trod_lt m _ _ _ hm
  have lt2 : ∀ x ∈ p2, x.block < W.heap.size := by obtain ⟨m, hm⟩ := k2; exact DataW.trod_lt m _ _ _ hm
  obtain ⟨l0, rfl, w0⟩ := (by obtain ⟨fuel, hf⟩ := h0; exact open_l hf : ∃ l : List Int, l.length = len0 ∧ IntsL W (fun _ => True) a0 l)
  obtain ⟨l1, rfl, w1⟩ := (by obtain ⟨fuel, hf⟩ := h1; exact open_ll hf : ∃ l : List (List Int), l.length = len1 ∧ RIssL W (fun _ => True) a1 l)
  obtain ⟨l2, rfl, w2⟩ := (by obtain ⟨fuel, hf⟩ := h2; exact open_l hf : ∃ l : List Int, l.length = len2 ∧ IntsL W (fun _ => True) a2 l)
  clear hA0 hval0
  refine (law_Implied l0 l1 l2 a0 a1 a2 cap0 cap1 cap2 W (fun _ => True) (of_laid hL) w0 w1 w2).mono fun e W' ⟨he, hx⟩ => ?_
  subst he
  have bel : Below W.heap.size W W' := hx
  exact ⟨_, rfl, _, _, _, [], _, [], hW', trodAll_mk1 (shut_bool Tryd.underlying4 _), (trodAll_cons_mk (Below.trod laidOut (by kernel_rfl) (of_decide_eq_true (by kernel_rfl)) k0 bel lt0) (trodAll_cons_mk (Below.trod laidOut (by kernel_rfl) (of_decide_eq_true (by kernel_rfl)) k1 bel lt1) (trodAll_cons_mk (Below.trod laidOut (by kernel_rfl) (of_decide_eq_true (by kernel_rfl)) k2 bel lt2) trodAll_mk0))), rfl, bel.frame _, fun h => by cases h⟩
theorem implied_holds : Rows.TableImpliedSaid :=
  OpenClaim.holds_of_wide 3 Tryd.f3 rfl rfl rfl rfl rfl rfl rfl ⟨rfl, rfl, rfl, rfl, rfl⟩ rfl rfl rfl rfl rfl (by kernel_rfl) Tryd.func3 (by kernel_rfl)
    (of_decide_eq_true (by kernel_rfl)) (by unfold Func.isWrapper; first | (rw [if_pos (by decide +kernel)]; kernel_rfl) | (rw [if_neg (by decide +kernel)]; exact ⟨rfl, rfl⟩))
    (fun os started H enc _ => implied_lifted os started H enc)
theorem tableImplied_card : Rows.TableImpliedCardSaid :=
  Claim7.holds_tied_plain_at .later [] [.data] true (true, "0162be0ac859e59138b0df0308c6a54586ddcaf7ac83e3593f2cc6a642246c4a") false
    implied_holds (fun _ h => by cases h) (by kernel_rfl) (fun _ h => by cases h) tableImplied_row_tie rfl ⟨rfl, rfl⟩ (by kernel_rfl) rfl
    (fun f fn hf hfn => by
      obtain rfl : f = 3 := Option.some.inj ((show Tryd.prog.funcNamed "concord/concordlaw09.TableImplied" = some 3 by kernel_rfl).symm.trans hf) |>.symm
      obtain rfl : fn = Tryd.f3 := (Option.some.inj (Tryd.func3.symm.trans hfn)).symm
      exact ⟨by kernel_rfl, fun j t ht => by
        rw [Tryd.params3] at ht
        have hm : t ∈ [22, 23, 22] := by simpa using Array.mem_of_getElem? ht
        have hall : ([22, 23, 22].all fun u => !Tryd.prog.wantsStandIn u) = true := by kernel_rfl
        exact (show Tryd.prog.wantsStandIn t = false by simpa using List.all_eq_true.1 hall t hm)⟩)
    (by kernel_rfl)
#print axioms tableImplied_card
end Go.Proofs.YtcmmkeiiapbgcaaDoor
