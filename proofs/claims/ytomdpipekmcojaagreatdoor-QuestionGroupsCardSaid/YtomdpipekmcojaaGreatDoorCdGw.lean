/- The law QuestionGroups: the row of the statement, and its card, tied to the program's text. No conditions but those that the given statement bears. -/
import Derived.Test.YtomdpipekmcojaaGreatDoorBg20
import Derived.Test.YtomdpipekmcojaaGreatDoorBgGwK1
import Derived.Test.YtomdpipekmcojaaGreatDoorBgGwK2
import Derived.Test.YtomdpipekmcojaaGreatDoorBgGwK5
import Derived.Test.YtomdpipekmcojaaGreatDoorBgMainIs
namespace Go.Proofs.YtomdpipekmcojaaGreatDoor
open Go Go.ChangeShapes Go.WideShapes Go.ChangeAt Go.WideMaps Go.WideElems Go.RowKit

set_option maxRecDepth 100000 in
theorem groups_lifted (os : Os) (started : os.Started) (H : Type) (enc : TypeId × Value → H) :
  ReturnsInHanded {} Tryz.checked os 4 .any (fun w args => (Rows.questionGroupsSpec.pre enc Tryz.prog Tryz.f4 [] false w args ∧ laidMetH Tryz.prog [("concord/decimal.tens", Rows.laid_concord_decimal_tens)] w) ∧ sizedMet enc Tryz.prog Tryz.f4 (OpenSpec.ofChange Rows.questionGroupsSpec) false w args)
   (Rows.questionGroupsSpec.post enc Tryz.prog Tryz.f4 false true false false) := by
 refine returnsInHanded_of_change_and (C := Tryz.checked) (X := fun w _ => laidMetH Tryz.prog [("concord/decimal.tens", Rows.laid_concord_decimal_tens)] w) (fun _ _ _ hh h => h.of_heap hh) own started (by kernel_rfl) Tryz.func4
  (ChangeSpec.witness_shaped (enc := enc) (C := Tryz.checked) (os := os) (X := fun w _ => laidMetH Tryz.prog [("concord/decimal.tens", Rows.laid_concord_decimal_tens)] w) false (World.doorLaid Tryz.prog 400 os) #[.slice none 0 0, .slice none 0 0, .int .i64 0] 8 rfl (World.shaped_of_RefB (by kernel_rfl) (by kernel_rfl)) (by kernel_rfl) (by kernel_rfl) (by kernel_rfl) (door_met os _)) ?_
 intro W base args ds gs before hval0 hW _ _ hL _
 have hval : ∀ (j : Nat) t v, Tryz.f4.params[j]? = some t → args[j]? = some v → Value.okWide Tryz.prog W .any base t v := hval0
 have hW' := hW
 obtain ⟨p, q, hA0, hV, rfl, hfz, hnd⟩ := hW
 have hA : DataW.TrodAll enc Tryz.prog W 0 (fun _ => true) true Tryz.f4.params.toList args.toList ds p := hA0
 rw [Tryz.params4] at hA hval
 obtain ⟨v0, vs0, d0, ds0, p0, q0, hargs, rfl, rfl, h0, r0⟩ := trodAll_cons hA
 obtain ⟨v1, vs1, d1, ds1, p1, q1, rfl, rfl, rfl, h1, r1⟩ := trodAll_cons r0
 obtain ⟨v2, vs2, d2, ds2, p2, q2, rfl, rfl, rfl, h2, r2⟩ := trodAll_cons r1
 obtain ⟨rfl, rfl, rfl⟩ := trodAll_nil r2
 obtain rfl : args = #[v0, v1, v2] := by cases args; simp_all
 obtain ⟨rfl, rfl⟩ := trodVars_none hV
 obtain ⟨a0, len0, cap0, rfl⟩ := okWide_slice Tryz.underlying22 (hval 0 22 v0 rfl rfl)
 obtain ⟨a1, len1, cap1, rfl⟩ := okWide_slice Tryz.underlying26 (hval 1 26 v1 rfl rfl)
 have k0 := h0
 have lt0 : ∀ x ∈ p0, x.block < W.heap.size := by obtain ⟨m, hm⟩ := k0; exact DataW.trod_lt m _ _ _ hm
 have k1 := h1
 have lt1 : ∀ x ∈ p1, x.block < W.heap.size := by obtain ⟨m, hm⟩ := k1; exact DataW.trod_lt m _ _ _ hm
 have k2 := h2
 have lt2 : ∀ x ∈ p2, x.block < W.heap.size := by obtain ⟨m, hm⟩ := k2; exact DataW.trod_lt m _ _ _ hm
 obtain ⟨l0, rfl, w0⟩ := (by obtain ⟨fuel, hf⟩ := h0; exact open_ll hf : ∃ l : List (List Int), l.length = len0 ∧ II W (fun _ => True) a0 l ∧ l.length ≤ cap0)
 obtain ⟨l1, rfl, w1⟩ := (by obtain ⟨fuel, hf⟩ := h1; exact open_l hf : ∃ l : List Int, l.length = len1 ∧ Rd W (fun _ => True) a1 (l.map (Value.int .i64)) ∧ l.length ≤ 9223372036854775807 ∧ l.length ≤ cap1)
 obtain ⟨i2, rfl, -, -, b2⟩ := open_int Tryz.underlying3 (hval 2 3 v2 rfl rfl) h2
 clear hA0 hval0
 refine (law_Groups l0 a0 cap0 l1 a1 cap1 i2 W (fun _ => True) (fun _ => True) (of_laid hL) w0.1 w1.1 w1.2.1 w1.2.2).mono fun e W' ⟨he, hx⟩ => ?_
 subst he
 have bel : Below W.heap.size W W' := hx
 exact ⟨_, rfl, _, _, _, [], _, [], hW', trodAll_mk1 (shut_bool Tryz.underlying4 _), (trodAll_cons_mk (Below.trod laidOut (by kernel_rfl) (of_decide_eq_true (by kernel_rfl)) k0 bel lt0) (trodAll_cons_mk (Below.trod laidOut (by kernel_rfl) (of_decide_eq_true (by kernel_rfl)) k1 bel lt1) (trodAll_cons_mk (Below.trod laidOut (by kernel_rfl) (of_decide_eq_true (by kernel_rfl)) k2 bel lt2) trodAll_mk0))), rfl, bel.frame _, fun h => by cases h⟩
theorem groups_holds : Rows.QuestionGroupsSaid :=
 OpenClaim.holds_of_wide 4 Tryz.f4 rfl rfl rfl rfl rfl rfl rfl ⟨rfl, rfl, rfl, rfl, rfl⟩ rfl rfl rfl rfl rfl groups_k1 Tryz.func4 groups_k2
  (of_decide_eq_true (by kernel_rfl)) (by unfold Func.isWrapper; first | (rw [if_pos (by decide +kernel)]; kernel_rfl) | (rw [if_neg (by decide +kernel)]; exact ⟨rfl, rfl⟩))
  (fun os started H enc _ => groups_lifted os started H enc)
theorem questionGroups_card : Rows.QuestionGroupsCardSaid :=
 Claim7.holds_tied_plain_at .later [] [.data] true (true, "8e6fdeea6caea660bb66a34633d4ce5475cf50e4245809de374d7957d0372c58") false
  groups_holds (fun _ h => by cases h) (by kernel_rfl) (fun _ h => by cases h) questionGroups_row_tie rfl ⟨rfl, rfl⟩ main_is rfl
  (fun f fn hf hfn => by
   obtain rfl : f = 4 := Option.some.inj ((show Tryz.prog.funcNamed "concord/concordlaw25.QuestionGroups" = some 4 from groups_k1).symm.trans hf) |>.symm
   obtain rfl : fn = Tryz.f4 := (Option.some.inj (Tryz.func4.symm.trans hfn)).symm
   exact ⟨by kernel_rfl, fun j t ht => by
    rw [Tryz.params4] at ht
    have hm : t ∈ [22, 26, 3] := by simpa using Array.mem_of_getElem? ht
    have hall : ([22, 26, 3].all fun u => !Tryz.prog.wantsStandIn u) = true := by kernel_rfl
    exact (show Tryz.prog.wantsStandIn t = false by simpa using List.all_eq_true.1 hall t hm)⟩)
  groups_k5
#print axioms questionGroups_card
end Go.Proofs.YtomdpipekmcojaaGreatDoor
