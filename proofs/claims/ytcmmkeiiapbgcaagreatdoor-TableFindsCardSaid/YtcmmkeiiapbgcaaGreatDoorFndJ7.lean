/- The reference's Quo of small numbers, fit and Make of decimals. Conditions: bounds on sizes. -/
import Derived.Test.YtcmmkeiiapbgcaaGreatDoorFndJ6
namespace Go.Proofs.YtcmmkeiiapbgcaaGreatDoor
open Go Go.RowKit

def isN (s : ByteArray) (n : Nat) : Prop := nval s = n ∧ canB s ∧ s.size ≤ 4294967296
def RetQ (w : World) (q r : Nat) (e : Ending) (w' : World) : Prop := ∃ s t, e = .returned (.tuple #[.string s, .string t, .bool true]) ∧ isN s q ∧ isN t r ∧ Ext w w'
def QuoC (M : Nat) : Prop := ∀ (a b : ByteArray) (w : World), a.size ≤ 4294967296 → b.size ≤ 4294967296 → nval a < M → nval b = 10 → Calls Tryz.prog 130 #[.string a, .string b] w (RetQ w (nval a / 10) (nval a % 10))
theorem tdiv_nat (x y : Nat) : (x : Int).tdiv (y : Int) = ((x / y : Nat) : Int) := by rw [Int.tdiv_eq_ediv_of_nonneg (by omega)]; simp
theorem tmod_nat (x y : Nat) : (x : Int).tmod (y : Int) = ((x % y : Nat) : Int) := by rw [Int.tmod_eq_emod_of_nonneg (by omega)]; simp
def vQ7 (x : Nat) (y : Nat) : Nat → Value
  | 0 => .int .i64 (x : Int)
  | 1 => .int .i64 (y : Int)
  | 2 => .int .i64 ((x / y : Nat) : Int)
  | 4 => .int .i64 (x : Int)
  | 5 => .int .i64 (y : Int)
  | 6 => .int .i64 ((x % y : Nat) : Int)
  | 10 => .bool true
  | _ => undef
def gQ7 (x : Nat) (y : Nat) (ix : Nat) (vl : List Value) (γ : Gh) (w' : World) : Prop := match vl with
  | [v] => if ix = 3 then (∃ r, v = .string r ∧ isN r (x / y)) else if ix = 7 then (∃ r, v = .string r ∧ isN r (x % y)) else if ix = 8 then (∃ r, v = .string r ∧ isN r (x / y)) else if ix = 9 then (∃ r, v = .string r ∧ isN r (x % y)) else v = vQ7 x y ix
  | _ => True
theorem gQ7_st (x : Nat) (y : Nat) : ∀ ix vl γ w γ' w', LR γ w γ' w' → gQ7 x y ix vl γ w → gQ7 x y ix vl γ' w' := by
  intro ix vl γ w γ' w' r h
  match vl, h with
  | [v], h =>
    unfold gQ7 at h ⊢
    by_cases h3 : ix = 3
    · simp only [if_pos h3] at h ⊢
      exact h
    simp only [if_neg h3] at h ⊢
    by_cases h7 : ix = 7
    · simp only [if_pos h7] at h ⊢
      exact h
    simp only [if_neg h7] at h ⊢
    by_cases h8 : ix = 8
    · simp only [if_pos h8] at h ⊢
      exact h
    simp only [if_neg h8] at h ⊢
    by_cases h9 : ix = 9
    · simp only [if_pos h9] at h ⊢
      exact h
    simp only [if_neg h9] at h ⊢
    exact h
  | [], _ => trivial
  | _ :: _ :: _, _ => trivial

set_option maxRecDepth 100000 in
set_option maxHeartbeats 2000000 in
theorem r01_Quo_small (a b : ByteArray) (ha : a.size ≤ 4294967296) (hb : b.size ≤ 4294967296) (ha7 : nval a < 256 ^ 7) (hb7 : nval b < 256 ^ 7) (hb0 : 0 < nval b) (w : World) : Calls Tryz.prog 130 #[.string a, .string b] w (RetQ w (nval a / nval b) (nval a % nval b)) := by
  have HA := Lib.hid (small_yes ha7)
  go_enter Tryz.func130, Tryz.ntmps130
  go_wp2_with fail
  refine (r01_Canon b hb _).mono ?_
  rintro e1 w1 ⟨c, ⟨rfl, rfl⟩, hv, hc, hsz⟩
  have hcz := can_nil hc
  have hc0 : ((c.size : Int) == 0) = false := by
    rw [beq_eq_false_iff_ne]
    omega
  have hc32 : c.size ≤ 4294967296 := by omega
  have HB := Lib.hid (small_yes (s := c) (k := 7) (by rw [hv]; exact hb7))
  have HV := Lib.hid hv
  rw [show (256 : Nat) ^ 7 = 72057594037927936 by decide] at ha7 hb7
  rw [← hv] at hb7 hb0
  clear hcz hc hv hsz
  go_wp2_with fail
  refine (r01_small a ha 7 (by omega) _).mono ?_
  rintro e1 w1 ⟨he, rfl⟩
  rw [HA.out] at he
  subst he
  go_wp2_with fail
  refine (r01_small c hc32 7 (by omega) _).mono ?_
  rintro e1 w1 ⟨he, rfl⟩
  rw [HB.out] at he
  subst he
  obtain ⟨x, hx⟩ : ∃ x, x = nval a := ⟨_, rfl⟩
  obtain ⟨y, hy⟩ : ∃ y, y = nval c := ⟨_, rfl⟩
  have HXE := Lib.hid hx
  have HYE := Lib.hid hy
  rw [← hx] at ha7
  rw [← hy] at hb7 hb0
  rw [← hx, ← hy]
  clear hx hy
  have hdv : x / y ≤ x := Nat.div_le_self _ _
  have hmd : x % y < y := Nat.mod_lt _ hb0
  have HDV := Lib.hid (show x / y ≤ 9223372036854775807 by omega)
  have HMD := Lib.hid (show x % y ≤ 9223372036854775807 by omega)
  have HY0 := Lib.hid (show ¬ y = 0 by omega)
  have hw : ∀ d : Nat, d ≤ 72057594037927936 → IntKind.i64.wrap (d : Int) = (d : Int) := fun d hd => IntWalk.i64_in _ (by omega)
  have HW1 := Lib.hid (show IntKind.i64.wrap ((x : Int) / (y : Int)) = ((x / y : Nat) : Int) by rw [← Int.natCast_ediv]; exact hw _ (by omega))
  have HW2 := Lib.hid (show IntKind.i64.wrap ((x : Int) % (y : Int)) = ((x % y : Nat) : Int) by rw [← Int.natCast_emod]; exact hw _ (by omega))
  clear hw
  clear hdv hmd
  go_upto_region 7 with fail
  refine wp_region_lin_lit (by kernel_rfl) (fun i => [i]) (by kernel_rfl) LR LR.refl LR.trans (LN (al0)) (gQ7 x y) (gQ7_st _ _) gh0 (LN.zero _) ⟨?_, ?_, ?_, ?_, ?_, ?_, ?_, ?_, ?_, ?_, ?_, trivial⟩ ?_
  · refine LinStep.yes fun vals γ w' ρ hR hN hp hρ hc hf hg => ⟨rfl, ?_⟩
    have e7 : ρ (.tmp 7) = .int .i64 (x : Int) := hρ 7
    have hx := hR.drew_ext
    have HR := Lib.hid hR
    have HN := Lib.hid hN
    clear hR hN hp hρ hx
    go_light
    go_simp
    exact ⟨γ, LR.refl _ _, fun _ _ _ h => h, rfl⟩
  · refine LinStep.yes fun vals γ w' ρ hR hN hp hρ hc hf hg => ⟨rfl, ?_⟩
    have e9 : ρ (.tmp 9) = .int .i64 (y : Int) := hρ 9
    have hx := hR.drew_ext
    have HR := Lib.hid hR
    have HN := Lib.hid hN
    clear hR hN hp hρ hx
    go_light
    go_simp
    exact ⟨γ, LR.refl _ _, fun _ _ _ h => h, rfl⟩
  · refine LinStep.yes fun vals γ w' ρ hR hN hp hρ hc hf hg => ⟨rfl, ?_⟩
    have e35 : ρ (.tmp 35) = .int .i64 (x : Int) := (hρ 35).trans (hp 0 (by decide))
    have e36 : ρ (.tmp 36) = .int .i64 (y : Int) := (hρ 36).trans (hp 1 (by decide))
    have hx := hR.drew_ext
    have HR := Lib.hid hR
    have HN := Lib.hid hN
    clear hR hN hp hρ hx
    go_light
    go_simp
    rw [if_neg HY0.out]
    first | rw [HW1.out] | rw [HW2.out]
    exact ⟨γ, LR.refl _ _, fun _ _ _ h => h, rfl⟩
  · refine LinStep.yes fun vals γ w' ρ hR hN hp hρ hc hf hg => ⟨rfl, ?_⟩
    have e37 : ρ (.tmp 37) = .int .i64 ((x / y : Nat) : Int) := (hρ 37).trans (hp 2 (by decide))
    have hx := hR.drew_ext
    have HR := Lib.hid hR
    have HN := Lib.hid hN
    clear hR hN hp hρ hx
    go_light
    go_simp
    have hof := r01_Of (x / y) (by first | exact HDV.out | exact HMD.out) w'
    first | refine hof.mono ?_ | (rw [Int.natCast_ediv] at hof; refine hof.mono ?_) | (rw [Int.natCast_emod] at hof; refine hof.mono ?_)
    rintro e' w3 ⟨r, he, h1, h2, h3, hx⟩
    exact ⟨_, he, γ, LR.of_ext γ hx, fun _ _ _ h => h, r, rfl, h1, h2, h3⟩
  · refine LinStep.yes fun vals γ w' ρ hR hN hp hρ hc hf hg => ⟨rfl, ?_⟩
    have e7 : ρ (.tmp 7) = .int .i64 (x : Int) := hρ 7
    have hx := hR.drew_ext
    have HR := Lib.hid hR
    have HN := Lib.hid hN
    clear hR hN hp hρ hx
    go_light
    go_simp
    exact ⟨γ, LR.refl _ _, fun _ _ _ h => h, rfl⟩
  · refine LinStep.yes fun vals γ w' ρ hR hN hp hρ hc hf hg => ⟨rfl, ?_⟩
    have e9 : ρ (.tmp 9) = .int .i64 (y : Int) := hρ 9
    have hx := hR.drew_ext
    have HR := Lib.hid hR
    have HN := Lib.hid hN
    clear hR hN hp hρ hx
    go_light
    go_simp
    exact ⟨γ, LR.refl _ _, fun _ _ _ h => h, rfl⟩
  · refine LinStep.yes fun vals γ w' ρ hR hN hp hρ hc hf hg => ⟨rfl, ?_⟩
    have e39 : ρ (.tmp 39) = .int .i64 (x : Int) := (hρ 39).trans (hp 4 (by decide))
    have e40 : ρ (.tmp 40) = .int .i64 (y : Int) := (hρ 40).trans (hp 5 (by decide))
    have hx := hR.drew_ext
    have HR := Lib.hid hR
    have HN := Lib.hid hN
    clear hR hN hp hρ hx
    go_light
    go_simp
    rw [if_neg HY0.out, tmod_nat]
    exact ⟨γ, LR.refl _ _, fun _ _ _ h => h, rfl⟩
  · refine LinStep.yes fun vals γ w' ρ hR hN hp hρ hc hf hg => ⟨rfl, ?_⟩
    have e41 : ρ (.tmp 41) = .int .i64 ((x % y : Nat) : Int) := (hρ 41).trans (hp 6 (by decide))
    have hx := hR.drew_ext
    have HR := Lib.hid hR
    have HN := Lib.hid hN
    clear hR hN hp hρ hx
    go_light
    go_simp
    have hof := r01_Of (x % y) (by first | exact HDV.out | exact HMD.out) w'
    first | refine hof.mono ?_ | (rw [Int.natCast_ediv] at hof; refine hof.mono ?_) | (rw [Int.natCast_emod] at hof; refine hof.mono ?_)
    rintro e' w3 ⟨r, he, h1, h2, h3, hx⟩
    exact ⟨_, he, γ, LR.of_ext γ hx, fun _ _ _ h => h, r, rfl, h1, h2, h3⟩
  · refine LinStep.yes fun vals γ w' ρ hR hN hp hρ hc hf hg => ⟨rfl, ?_⟩
    obtain ⟨r, hr, hn⟩ := hp 3 (by decide)
    have e38 : ρ (.tmp 38) = _ := (hρ 38).trans hr
    have HN1 := Lib.hid hn
    clear hr hn
    have hx := hR.drew_ext
    have HR := Lib.hid hR
    have HN := Lib.hid hN
    clear hR hN hp hρ hx
    go_light
    go_simp
    exact ⟨γ, LR.refl _ _, fun _ _ _ h => h, r, rfl, HN1.out⟩
  · refine LinStep.yes fun vals γ w' ρ hR hN hp hρ hc hf hg => ⟨rfl, ?_⟩
    obtain ⟨r, hr, hn⟩ := hp 7 (by decide)
    have e42 : ρ (.tmp 42) = _ := (hρ 42).trans hr
    have HN1 := Lib.hid hn
    clear hr hn
    have hx := hR.drew_ext
    have HR := Lib.hid hR
    have HN := Lib.hid hN
    clear hR hN hp hρ hx
    go_light
    go_simp
    exact ⟨γ, LR.refl _ _, fun _ _ _ h => h, r, rfl, HN1.out⟩
  · refine LinStep.yes fun vals γ w' ρ hR hN hp hρ hc hf hg => ⟨rfl, ?_⟩
    have hx := hR.drew_ext
    have HR := Lib.hid hR
    have HN := Lib.hid hN
    clear hR hN hp hρ hx
    go_light
    go_simp
    exact ⟨γ, LR.refl _ _, fun _ _ _ h => h, rfl⟩
  · intro vals γ w9 hR hG
    obtain ⟨r1, hv8, hn8⟩ := hG 8 (by decide)
    obtain ⟨r2, hv9, hn9⟩ := hG 9 (by decide)
    have hv10 : vals 10 = .bool true := hG 10 (by decide)
    have HX9 := Lib.hid hR.drew_ext
    have H8 := Lib.hid hn8
    have H9 := Lib.hid hn9
    clear hR hG hn8 hn9
    simp only [lexFrame, Act.put, List.setIfInBounds_toArray, List.set_cons_succ, List.set_cons_zero, Nat.zero_add, Nat.reduceAdd, hv8, hv9, hv10]
    clear hv8 hv9 hv10
    go_wp2
    refine bodyPost_ret (v := .tuple #[.string r1, .string r2, .bool true]) (by simp [results, Tryz.results130, go_sem]) rfl ⟨r1, r2, rfl, ?_, ?_, HX9.out⟩
    · rw [← HXE.out, ← HV.out, ← HYE.out]; exact H8.out
    · rw [← HXE.out, ← HV.out, ← HYE.out]; exact H9.out
theorem quoC_small : QuoC (256 ^ 7) := by
  intro a b w ha hb h7 h10
  have := r01_Quo_small a b ha hb h7 (by rw [h10]; decide) (by omega) w
  rwa [h10] at this
def vF2 (g : Nat) (N : ByteArray) : Nat → Value
  | 0 => .pointer (some ⟨g, 1, none⟩)
  | 1 => .string N
  | 7 => .bool true
  | 10 => .bool true
  | _ => undef
def gF2 (g : Nat) (N : ByteArray) (ix : Nat) (vl : List Value) (γ : Gh) (w' : World) : Prop := match vl with
  | [v] => if ix = 2 then (∃ r, v = .string r ∧ isN r (10)) else if ix = 3 then (∃ r t, v = .tuple #[.string r, .string t, .bool true] ∧ isN r (nval N / 10) ∧ isN t (nval N % 10)) else if ix = 4 then (∃ r t, v = .tuple #[.string r, .string t, .bool true] ∧ isN r (nval N / 10) ∧ isN t (nval N % 10)) else if ix = 5 then (∃ r, v = .string r ∧ isN r (nval N / 10)) else if ix = 6 then (∃ r, v = .string r ∧ isN r (nval N % 10)) else if ix = 8 then (∃ r, v = .string r ∧ isN r (nval N / 10)) else if ix = 9 then (∃ r, v = .string r ∧ isN r (nval N % 10)) else v = vF2 g N ix
  | _ => True
theorem gF2_st (g : Nat) (N : ByteArray) : ∀ ix vl γ w γ' w', LR γ w γ' w' → gF2 g N ix vl γ w → gF2 g N ix vl γ' w' := by
  intro ix vl γ w γ' w' r h
  match vl, h with
  | [v], h =>
    unfold gF2 at h ⊢
    by_cases h2 : ix = 2
    · simp only [if_pos h2] at h ⊢
      exact h
    simp only [if_neg h2] at h ⊢
    by_cases h3 : ix = 3
    · simp only [if_pos h3] at h ⊢
      exact h
    simp only [if_neg h3] at h ⊢
    by_cases h4 : ix = 4
    · simp only [if_pos h4] at h ⊢
      exact h
    simp only [if_neg h4] at h ⊢
    by_cases h5 : ix = 5
    · simp only [if_pos h5] at h ⊢
      exact h
    simp only [if_neg h5] at h ⊢
    by_cases h6 : ix = 6
    · simp only [if_pos h6] at h ⊢
      exact h
    simp only [if_neg h6] at h ⊢
    by_cases h8 : ix = 8
    · simp only [if_pos h8] at h ⊢
      exact h
    simp only [if_neg h8] at h ⊢
    by_cases h9 : ix = 9
    · simp only [if_pos h9] at h ⊢
      exact h
    simp only [if_neg h9] at h ⊢
    exact h
  | [], _ => trivial
  | _ :: _ :: _, _ => trivial

def strip : Nat → Nat → Nat × Nat
  | 0, n => (n, 0)
  | s + 1, n => if n % 10 = 0 then strip s (n / 10) else (n, s + 1)
/-- The decimal of a number of units, if it fits. -/
def fitS (neg : Bool) (n s : Nat) : (Int × Int) × Bool :=
  if (strip s n).1 ≤ 1000000000000000 ∧ (strip s n).2 ≤ 6 then ((if neg then -((strip s n).1 : Int) else ((strip s n).1 : Int), ((strip s n).2 : Int)), true) else ((0, 0), false)
set_option maxRecDepth 100000 in
set_option maxHeartbeats 4000000 in
theorem r04_fit {M : Nat} (hQ : QuoC M) (neg : Bool) (N0 : ByteArray) (s0 : Nat) (n0 : Nat) (hn0 : nval N0 = n0) (hs0 : s0 ≤ 4294967296) (h32 : N0.size ≤ 4294967296) (hM : n0 < M) (w : World) :
    Calls Tryz.prog 102 #[.agg #[.bool neg, .string N0, .int .i64 (s0 : Int)]] w (RetDB w (fitS neg n0 s0)) := by
  go_enter Tryz.func102, Tryz.ntmps102
  go_wp2
  have HS0 := Lib.hid (show Blk ((w.alloc (.cells #[.bool neg, .string N0, .int .i64 (s0 : Int)] 120)).alloc (.cells #[.int .i64 0, .int .i64 0] 31)) w.heap.size 120 #[.bool neg, .string N0, .int .i64 (s0 : Int)] from (Blk.new _ _ _).keep (Kept.alloc _ _ _))
  have HS1 := Lib.hid (show Blk ((w.alloc (.cells #[.bool neg, .string N0, .int .i64 (s0 : Int)] 120)).alloc (.cells #[.int .i64 0, .int .i64 0] 31)) (w.heap.size + 1) 31 #[.int .i64 0, .int .i64 0] by
    have := Blk.new (w.alloc (.cells #[.bool neg, .string N0, .int .i64 (s0 : Int)] 120)) 31 #[.int .i64 0, .int .i64 0]
    simpa using this)
  go_loopw [4] (fun _ wr => ∃ (N : ByteArray) (s : Nat), s ≤ s0 ∧ N.size ≤ 4294967296 ∧ nval N < M ∧ strip s (nval N) = strip s0 n0 ∧ Ext w wr ∧ Blk wr w.heap.size 120 #[.bool neg, .string N, .int .i64 (s : Int)] ∧ Blk wr (w.heap.size + 1) 31 #[.int .i64 0, .int .i64 0]) (fun _ wr => (intOf ((wr.cell? ⟨w.heap.size, 2, none⟩).getD undef)).toNat)
  case atStart => exact ⟨N0, s0, Nat.le_refl _, h32, by rw [hn0]; exact hM, by rw [hn0], ((Ext.refl w).alloc _).alloc _, HS0.out, HS1.out⟩
  case round =>
    clear HS0 HS1
    obtain ⟨N, s, hss, hN32, hNM, hst, hex, hbx, hbr⟩ := hrel
    have HST0 := Lib.hid hst
    have HEX := Lib.hid hex
    have HBX := Lib.hid hbx
    have HBR := Lib.hid hbr
    clear hst hex hbx hbr
    by_cases hz : s = 0
    · subst hz
      have HST := Lib.hid (show strip s0 n0 = (nval N, 0) by rw [← HST0.out]; rfl)
      obtain ⟨s, hs⟩ : ∃ s : Nat, s = 0 := ⟨_, rfl⟩
      rw [← hs] at HST HBX
      have hsn : ¬ (0 : Int) < (s : Int) := by omega
      have HSZ := Lib.hid hs
      clear HST0 hs
      have k0 := HBX.out.cell (i := 0) rfl
      have k1 := HBX.out.cell (i := 1) rfl
      have k2 := HBX.out.cell (i := 2) rfl
      have r0 := HBR.out.cell (i := 0) rfl
      have r1 := HBR.out.cell (i := 1) rfl
      have rf := HBR.out.frozen
      have rz := HBR.out.lt
      have hsz := HEX.out.size
      go_wp2_with fail
      refine (r01_Int N hN32 _).mono ?_
      rintro e1 w1 ⟨he, rfl⟩
      by_cases h63 : nval N < 9223372036854775808
      · rw [show intR N = .returned (.tuple #[.int .i64 (nval N : Int), .bool true]) by simp [intR, h63]] at he
        subst he
        by_cases h15 : nval N ≤ 1000000000000000
        · have n15 : ¬ (1000000000000000 : Int) < (nval N : Int) := by omega
          by_cases hs6 : s ≤ 6
          · have n6 : ¬ (6 : Int) < (s : Int) := by omega
            have HF := Lib.hid (show fitS neg n0 s0 = ((if neg then -(nval N : Int) else (nval N : Int), (s : Int)), true) by simp [fitS, HST.out, h15, hs6])
            cases neg
            · go_wp2
              rw [HF.out]
              refine bodyPost_ret (v := .tuple #[.agg #[.int .i64 (nval N : Int), .int .i64 (s : Int)], .bool true]) (by simp [results, Tryz.results102, go_sem, r0, r1, rf, rz]) rfl ⟨rfl, ?_⟩
              iterate 2 with_reducible refine Ext.set2 ?_ (by omega) _
              with_reducible exact HEX.out
            · go_wp2
              rw [HF.out]
              refine bodyPost_ret (v := .tuple #[.agg #[.int .i64 (-(nval N : Int)), .int .i64 (s : Int)], .bool true]) (by simp [results, Tryz.results102, go_sem, r0, r1, rf, rz]) rfl ⟨rfl, ?_⟩
              iterate 2 with_reducible refine Ext.set2 ?_ (by omega) _
              with_reducible exact HEX.out
          · exfalso; omega
        · have n15 : (1000000000000000 : Int) < (nval N : Int) := by omega
          have HF := Lib.hid (show fitS neg n0 s0 = ((0, 0), false) by simp [fitS, HST.out, h15])
          go_wp2
          rw [HF.out]
          refine bodyPost_ret (v := .tuple #[.agg #[.int .i64 0, .int .i64 0], .bool false]) (by simp [results, Tryz.results102, go_sem, r0, r1, rf, rz]) rfl ⟨rfl, ?_⟩
          iterate 2 with_reducible refine Ext.set2 ?_ (by omega) _
          with_reducible exact HEX.out
      · rw [show intR N = .returned (.tuple #[.int .i64 0, .bool false]) by simp [intR, h63]] at he
        subst he
        have HF := Lib.hid (show fitS neg n0 s0 = ((0, 0), false) by
          have h15 : ¬ nval N ≤ 1000000000000000 := by omega
          simp [fitS, HST.out, h15])
        go_wp2
        rw [HF.out]
        refine bodyPost_ret (v := .tuple #[.agg #[.int .i64 0, .int .i64 0], .bool false]) (by simp [results, Tryz.results102, go_sem, r0, r1, rf, rz]) rfl ⟨rfl, ?_⟩
        iterate 2 with_reducible refine Ext.set2 ?_ (by omega) _
        with_reducible exact HEX.out
    · have hsp : (0 : Int) < (s : Int) := by omega
      have k2 := HBX.out.cell (i := 2) rfl
      have HM2 := Lib.hid k2
      go_upto_region 2 with fail
      clear k2
      obtain ⟨g, hg⟩ : ∃ g, g = w.heap.size := ⟨_, rfl⟩
      rw [← hg] at HBX ⊢
      have HG := Lib.hid hg
      clear hg
      refine wp_region_lin_lit (by kernel_rfl) (fun i => [i]) (by kernel_rfl) LR LR.refl LR.trans (LN (al0)) (gF2 g N) (gF2_st _ _) gh0 (LN.zero _) ⟨?_, ?_, ?_, ?_, ?_, ?_, ?_, ?_, ?_, ?_, ?_, trivial⟩ ?_
      · refine LinStep.yes fun vals γ w' ρ hR hN hp hρ hc hf hg => ⟨rfl, ?_⟩
        have e1 : ρ (.tmp 1) = .pointer (some ⟨g, 0, none⟩) := hρ 1
        have hx := hR.drew_ext
        have HR := Lib.hid hR
        have HN := Lib.hid hN
        clear hR hN hp hρ hx
        go_light
        go_simp
        exact ⟨γ, LR.refl _ _, fun _ _ _ h => h, rfl⟩
      · refine LinStep.yes fun vals γ w' ρ hR hN hp hρ hc hf hg => ⟨rfl, ?_⟩
        have e13 : ρ (.tmp 13) = .pointer (some ⟨g, 1, none⟩) := (hρ 13).trans (hp 0 (by decide))
        have hx := hR.drew_ext
        have c1 := (HBX.out.keep (hx.kept _)).cell (i := 1) rfl
        have HR := Lib.hid hR
        have HN := Lib.hid hN
        clear hR hN hp hρ hx
        go_light
        go_simp
        exact ⟨γ, LR.refl _ _, fun _ _ _ h => h, rfl⟩
      · refine LinStep.yes fun vals γ w' ρ hR hN hp hρ hc hf hg => ⟨rfl, ?_⟩
        have hx := hR.drew_ext
        have HR := Lib.hid hR
        have HN := Lib.hid hN
        clear hR hN hp hρ hx
        go_light
        go_simp
        refine (r01_Of 10 (by omega) w').mono ?_
        rintro e' w3 ⟨r, he, h1, h2, h3, hx⟩
        exact ⟨_, he, γ, LR.of_ext γ hx, fun _ _ _ h => h, r, rfl, h1, h2, h3⟩
      · refine LinStep.yes fun vals γ w' ρ hR hN hp hρ hc hf hg => ⟨rfl, ?_⟩
        have e14 : ρ (.tmp 14) = .string N := (hρ 14).trans (hp 1 (by decide))
        obtain ⟨r, hr, hn⟩ := hp 2 (by decide)
        have e15 : ρ (.tmp 15) = _ := (hρ 15).trans hr
        have HN1 := Lib.hid hn
        clear hr hn
        have hx := hR.drew_ext
        have HR := Lib.hid hR
        have HN := Lib.hid hN
        clear hR hN hp hρ hx
        go_light
        go_simp
        refine (hQ N r w' hN32 HN1.out.2.2 hNM HN1.out.1).mono ?_
        rintro e' w3 ⟨s1, t1, he, h1, h2, hx⟩
        exact ⟨_, he, γ, LR.of_ext γ hx, fun _ _ _ h => h, s1, t1, rfl, h1, h2⟩
      · refine LinStep.yes fun vals γ w' ρ hR hN hp hρ hc hf hg => ⟨rfl, ?_⟩
        obtain ⟨r, t, hr, hn⟩ := hp 3 (by decide)
        have e16 : ρ (.tmp 16) = _ := (hρ 16).trans hr
        have HN1 := Lib.hid hn
        clear hr hn
        have hx := hR.drew_ext
        have HR := Lib.hid hR
        have HN := Lib.hid hN
        clear hR hN hp hρ hx
        go_light
        go_simp
        exact ⟨γ, LR.refl _ _, fun _ _ _ h => h, r, t, rfl, HN1.out⟩
      · refine LinStep.yes fun vals γ w' ρ hR hN hp hρ hc hf hg => ⟨rfl, ?_⟩
        obtain ⟨r, t, hr, hn⟩ := hp 4 (by decide)
        have e12 : ρ (.tmp 12) = _ := (hρ 12).trans hr
        have HN1 := Lib.hid hn
        clear hr hn
        have hx := hR.drew_ext
        have HR := Lib.hid hR
        have HN := Lib.hid hN
        clear hR hN hp hρ hx
        go_light
        go_simp
        exact ⟨γ, LR.refl _ _, fun _ _ _ h => h, r, rfl, HN1.out.1⟩
      · refine LinStep.yes fun vals γ w' ρ hR hN hp hρ hc hf hg => ⟨rfl, ?_⟩
        obtain ⟨r, t, hr, hn⟩ := hp 4 (by decide)
        have e12 : ρ (.tmp 12) = _ := (hρ 12).trans hr
        have HN1 := Lib.hid hn
        clear hr hn
        have hx := hR.drew_ext
        have HR := Lib.hid hR
        have HN := Lib.hid hN
        clear hR hN hp hρ hx
        go_light
        go_simp
        exact ⟨γ, LR.refl _ _, fun _ _ _ h => h, t, rfl, HN1.out.2⟩
      · refine LinStep.yes fun vals γ w' ρ hR hN hp hρ hc hf hg => ⟨rfl, ?_⟩
        obtain ⟨r, t, hr, hn⟩ := hp 4 (by decide)
        have e12 : ρ (.tmp 12) = _ := (hρ 12).trans hr
        have HN1 := Lib.hid hn
        clear hr hn
        have hx := hR.drew_ext
        have HR := Lib.hid hR
        have HN := Lib.hid hN
        clear hR hN hp hρ hx
        go_light
        go_simp
        exact ⟨γ, LR.refl _ _, fun _ _ _ h => h, rfl⟩
      · refine LinStep.yes fun vals γ w' ρ hR hN hp hρ hc hf hg => ⟨rfl, ?_⟩
        obtain ⟨r, hr, hn⟩ := hp 5 (by decide)
        have e17 : ρ (.tmp 17) = _ := (hρ 17).trans hr
        have HN1 := Lib.hid hn
        clear hr hn
        have hx := hR.drew_ext
        have HR := Lib.hid hR
        have HN := Lib.hid hN
        clear hR hN hp hρ hx
        go_light
        go_simp
        exact ⟨γ, LR.refl _ _, fun _ _ _ h => h, r, rfl, HN1.out⟩
      · refine LinStep.yes fun vals γ w' ρ hR hN hp hρ hc hf hg => ⟨rfl, ?_⟩
        obtain ⟨r, hr, hn⟩ := hp 6 (by decide)
        have e18 : ρ (.tmp 18) = _ := (hρ 18).trans hr
        have HN1 := Lib.hid hn
        clear hr hn
        have hx := hR.drew_ext
        have HR := Lib.hid hR
        have HN := Lib.hid hN
        clear hR hN hp hρ hx
        go_light
        go_simp
        exact ⟨γ, LR.refl _ _, fun _ _ _ h => h, r, rfl, HN1.out⟩
      · refine LinStep.yes fun vals γ w' ρ hR hN hp hρ hc hf hg => ⟨rfl, ?_⟩
        have e19 : ρ (.tmp 19) = .bool true := (hρ 19).trans (hp 7 (by decide))
        have hx := hR.drew_ext
        have HR := Lib.hid hR
        have HN := Lib.hid hN
        clear hR hN hp hρ hx
        go_light
        go_simp
        exact ⟨γ, LR.refl _ _, fun _ _ _ h => h, rfl⟩
      · intro vals γ w9 hR hG
        obtain ⟨q, hv8, hn8⟩ := hG 8 (by decide)
        obtain ⟨r, hv9, hn9⟩ := hG 9 (by decide)
        have hv10 : vals 10 = .bool true := hG 10 (by decide)
        have HX9 := Lib.hid hR.drew_ext
        have H8 := Lib.hid hn8
        have H9 := Lib.hid hn9
        have hr9 := can_nil hn9.2.1
        rw [hn9.1] at hr9
        have hr32 := hn9.2.2
        clear hR hG hn8 hn9
        simp only [lexFrame, Act.put, List.setIfInBounds_toArray, List.set_cons_succ, List.set_cons_zero, Nat.zero_add, Nat.reduceAdd, hv8, hv9, hv10]
        generalize vals 0 = u0, vals 1 = u1, vals 2 = u2, vals 3 = u3, vals 4 = u4, vals 5 = u5, vals 6 = u6, vals 7 = u7
        clear hv8 hv9 hv10
        rw [HG.out] at HBX ⊢
        have HEX0 := HEX
        have HBX0 := HBX
        have HBR0 := HBR
        clear HEX HBX HBR
        have HEX := Lib.hid (HEX0.out.trans HX9.out)
        have HBX := Lib.hid (HBX0.out.keep (HX9.out.kept _))
        have HBR := Lib.hid (HBR0.out.keep (HX9.out.kept _))
        clear HEX0 HBX0 HBR0 HX9
        by_cases hr0 : nval N % 10 = 0
        · have hrz : ¬ (0 : Int) < (r.size : Int) := by have := hr9.2 hr0; omega
          have k1 := HBX.out.cell (i := 1) rfl
          have k2 := HBX.out.cell (i := 2) rfl
          have kf := HBX.out.frozen
          have kz := HBX.out.lt
          have HR0 := Lib.hid hr0
          clear hr0 hr9
          go_wp2
          go_roundw
          case rel =>
            obtain ⟨s', rfl⟩ : ∃ s', s = s' + 1 := ⟨s - 1, by omega⟩
            have hsz := HEX.out.size
            refine ⟨q, s', by omega, H8.out.2.2, ?_, ?_, ?_, ?_, ?_⟩
            · rw [H8.out.1]; exact Nat.lt_of_le_of_lt (Nat.div_le_self _ _) hNM
            · rw [H8.out.1, ← HST0.out, strip, if_pos HR0.out]
            · iterate 2 with_reducible refine Ext.set2 ?_ (by omega) _
              with_reducible exact HEX.out
            · have := (HBX.out.set 1 (.string q)).set 2 (.int .i64 (s' : Int))
              simpa using this
            · refine HBR.out.keep ?_
              iterate 2 with_reducible refine Kept.set2 ?_ (by show ¬ (_ = _); omega)
              with_reducible exact Kept.refl _ _
          case measure =>
            have h1 := (HBX.out.set 1 (.string q)).set 2 (.int .i64 ((s : Int) - 1))
            have h2 := h1.cell (i := 2) rfl
            have h3 := HM2.out
            rw [h2, h3]
            simp [intOf]
            omega
        · have hrz : (0 : Int) < (r.size : Int) := by
            rcases Nat.eq_zero_or_pos r.size with h | h
            · exact absurd (hr9.1 h) hr0
            · omega
          have HST := Lib.hid (show strip s0 n0 = (nval N, s) by
            obtain ⟨s', rfl⟩ : ∃ s', s = s' + 1 := ⟨s - 1, by omega⟩
            rw [← HST0.out, strip, if_neg hr0])
          clear hr0 hr9 HST0
          have k0 := HBX.out.cell (i := 0) rfl
          have k1 := HBX.out.cell (i := 1) rfl
          have k2 := HBX.out.cell (i := 2) rfl
          have r0 := HBR.out.cell (i := 0) rfl
          have r1 := HBR.out.cell (i := 1) rfl
          have rf := HBR.out.frozen
          have rz := HBR.out.lt
          have hsz := HEX.out.size
          go_wp2_with fail
          refine (r01_Int N hN32 _).mono ?_
          rintro e1 w1 ⟨he, rfl⟩
          by_cases h63 : nval N < 9223372036854775808
          · rw [show intR N = .returned (.tuple #[.int .i64 (nval N : Int), .bool true]) by simp [intR, h63]] at he
            subst he
            by_cases h15 : nval N ≤ 1000000000000000
            · have n15 : ¬ (1000000000000000 : Int) < (nval N : Int) := by omega
              by_cases hs6 : s ≤ 6
              · have n6 : ¬ (6 : Int) < (s : Int) := by omega
                have HF := Lib.hid (show fitS neg n0 s0 = ((if neg then -(nval N : Int) else (nval N : Int), (s : Int)), true) by simp [fitS, HST.out, h15, hs6])
                cases neg
                · go_wp2
                  rw [HF.out]
                  refine bodyPost_ret (v := .tuple #[.agg #[.int .i64 (nval N : Int), .int .i64 (s : Int)], .bool true]) (by simp [results, Tryz.results102, go_sem, r0, r1, rf, rz]) rfl ⟨rfl, ?_⟩
                  iterate 2 with_reducible refine Ext.set2 ?_ (by omega) _
                  with_reducible exact HEX.out
                · go_wp2
                  rw [HF.out]
                  refine bodyPost_ret (v := .tuple #[.agg #[.int .i64 (-(nval N : Int)), .int .i64 (s : Int)], .bool true]) (by simp [results, Tryz.results102, go_sem, r0, r1, rf, rz]) rfl ⟨rfl, ?_⟩
                  iterate 2 with_reducible refine Ext.set2 ?_ (by omega) _
                  with_reducible exact HEX.out
              · have n6 : (6 : Int) < (s : Int) := by omega
                have HF := Lib.hid (show fitS neg n0 s0 = ((0, 0), false) by simp [fitS, HST.out, hs6])
                go_wp2
                rw [HF.out]
                refine bodyPost_ret (v := .tuple #[.agg #[.int .i64 0, .int .i64 0], .bool false]) (by simp [results, Tryz.results102, go_sem, r0, r1, rf, rz]) rfl ⟨rfl, ?_⟩
                iterate 2 with_reducible refine Ext.set2 ?_ (by omega) _
                with_reducible exact HEX.out
            · have n15 : (1000000000000000 : Int) < (nval N : Int) := by omega
              have HF := Lib.hid (show fitS neg n0 s0 = ((0, 0), false) by simp [fitS, HST.out, h15])
              go_wp2
              rw [HF.out]
              refine bodyPost_ret (v := .tuple #[.agg #[.int .i64 0, .int .i64 0], .bool false]) (by simp [results, Tryz.results102, go_sem, r0, r1, rf, rz]) rfl ⟨rfl, ?_⟩
              iterate 2 with_reducible refine Ext.set2 ?_ (by omega) _
              with_reducible exact HEX.out
          · rw [show intR N = .returned (.tuple #[.int .i64 0, .bool false]) by simp [intR, h63]] at he
            subst he
            have HF := Lib.hid (show fitS neg n0 s0 = ((0, 0), false) by
              have h15 : ¬ nval N ≤ 1000000000000000 := by omega
              simp [fitS, HST.out, h15])
            go_wp2
            rw [HF.out]
            refine bodyPost_ret (v := .tuple #[.agg #[.int .i64 0, .int .i64 0], .bool false]) (by simp [results, Tryz.results102, go_sem, r0, r1, rf, rz]) rfl ⟨rfl, ?_⟩
            iterate 2 with_reducible refine Ext.set2 ?_ (by omega) _
            with_reducible exact HEX.out

set_option maxRecDepth 100000 in
set_option maxHeartbeats 2000000 in
theorem r04_Make (n : Int) (s : Nat) (h1 : -1000000000000000 ≤ n) (h2 : n ≤ 1000000000000000) (hs : s ≤ 18) (w : World) : Calls Tryz.prog 146 #[.int .i64 n, .int .i64 (s : Int)] w (RetDB w (fitS (decide (n < 0)) n.natAbs s)) := by
  have n1 : ¬ (s : Int) < 0 := by omega
  have n2 : ¬ (18 : Int) < (s : Int) := by omega
  go_enter Tryz.func146, Tryz.ntmps146
  go_wp2_with fail
  refine (r04_natural n (by omega) (by omega) _).mono ?_
  rintro e1 w1 ⟨r, rfl, g1, g2, g3, g4⟩
  have G1 := Lib.hid g1
  have HX1 := Lib.hid g4
  have HB1 := Lib.hid ((Blk.new w 31 #[.int .i64 0, .int .i64 0]).keep (g4.kept _))
  clear g1 g2 g4
  go_wp2_with fail
  refine (r04_fit quoC_small (decide (n < 0)) r s n.natAbs G1.out (by omega) g3 (by rw [show (256 : Nat) ^ 7 = 72057594037927936 by decide]; omega) _).mono ?_
  rintro e1 w2 ⟨rfl, hx2⟩
  have HX2 := Lib.hid (((Ext.refl w).alloc _).trans (HX1.out.trans hx2))
  have hb2 := HB1.out.keep (hx2.kept _)
  have r0 := hb2.cell (i := 0) rfl
  have r1 := hb2.cell (i := 1) rfl
  have rf := hb2.frozen
  have rz := hb2.lt
  clear hb2 hx2
  go_wp2
  refine bodyPost_ret (v := .tuple #[.agg #[.int .i64 (fitS (decide (n < 0)) n.natAbs s).1.1, .int .i64 (fitS (decide (n < 0)) n.natAbs s).1.2], .bool (fitS (decide (n < 0)) n.natAbs s).2]) (by simp [results, Tryz.results146, go_sem, r0, r1, rf, rz]) rfl ⟨rfl, ?_⟩
  iterate 2 with_reducible refine Ext.set2 ?_ (by omega) _
  with_reducible exact HX2.out
end Go.Proofs.YtcmmkeiiapbgcaaGreatDoor
/- The reference's reader of numbers: what it reads, its texts, decimals and plain values. Conditions: the numbers read as data, and lie apart from the reader. -/
namespace Go.Proofs.YtcmmkeiiapbgcaaGreatDoor
open Go Go.RowKit

def RetNK (w : World) (g : Nat) (A : Option Addr) (len c : Nat) (n : Int) (K : Nat) (e : Ending) (w' : World) : Prop := ∃ (r : Int) (K' : Nat), e = .returned (.int .i64 r) ∧ 0 ≤ r ∧ r < n ∧ ((K < len ∧ K' = K + 1) ∨ (len ≤ K ∧ K' = K ∧ r = 0)) ∧ NumIs w' g A len c K' ∧ Only g w w'
set_option maxRecDepth 100000 in
set_option maxHeartbeats 400000 in
theorem Num_NextK (n : Int) (g : Nat) (A : Option Addr) (l : List Int) (c K : Nat) (w : World) (S : Nat → Prop) (hn1 : 1 ≤ n) (hn2 : n ≤ 4000000000000000) (hm : NumIs w g A l.length c K) (hl : IntsL w S A l) (hS : ¬ S g) :
    Calls Tryz.prog 42 #[.pointer (some ⟨g, 0, none⟩), .int .i64 n] w (RetNK w g A l.length c n K) := by
  have hlen := hl.2
  have hK := hm.2
  have k0 := hm.1.cell (i := 0) rfl
  have k1 := hm.1.cell (i := 1) rfl
  have kf := hm.1.frozen
  have kz := hm.1.lt
  have HM := Lib.hid hm
  have HL := Lib.hid hl
  clear hm hl
  by_cases hlt : K < l.length
  · obtain ⟨b, o, rfl, hb, hc⟩ := HL.out.at_ hlt
    have hbg : b ≠ g := by
      rcases HL.out.1 with h | ⟨b', o', h1, h2, _⟩
      · rw [List.map_eq_nil_iff] at h; subst h; simp at hlt
      · injection h1 with h1; injection h1 with h1; subst h1; rintro rfl; exact hS h2
    have hge : decide (l.length ≤ K) = false := by simpa using hlt
    have hnn : decide (n < 1) = false := by simpa using hn1
    obtain ⟨r1, r2⟩ := next_r l[K] n hn1
    obtain ⟨b1, b2⟩ := next_bd l[K] n hn1
    go_enter Tryz.func42, Tryz.ntmps42
    go_wp2
    go_quiet (fail)
    go_wp2
    obtain ⟨w2, hw2⟩ : ∃ w2, w2 = (w.drewN nq).setCell ⟨g, 1, none⟩ (.int .i64 ((K : Int) + 1)) := ⟨_, rfl⟩
    rw [← hw2]
    have ho : Only g w w2 := by rw [hw2]; exact ((Only.refl g w).drewN nq).set _ _
    have hb2 : Blk w2 g 73 #[.slice (some ⟨b, o, none⟩) l.length c, .int .i64 ((K : Int) + 1)] := by
      rw [hw2]
      exact (HM.out.1.keep (Kept.drewN _ _ _)).set 1 _
    have hc2 : w2.cell? ⟨b, o + K, none⟩ = some (.int .i64 l[K]) := (World.cell?_of_block (w := w) (ho.block b hbg)).trans hc
    clear hw2 k0 k1 kf hc
    have k0 := hb2.cell (i := 0) rfl
    have k1 := hb2.cell (i := 1) rfl
    have HO := Lib.hid ho
    have HB2 := Lib.hid hb2
    clear ho hb2 HM HL
    have q1 : IntKind.i64.wrap ((K : Int) + 1 - 1) = (K : Int) := by rw [IntWalk.i64_in _ (by omega)]; omega
    have q2 : (0 : Int) ≤ (K : Int) := by omega
    have q3 : (K : Int) < (l.length : Int) := by omega
    have q4 : IntKind.i64.wrap (l[K].tmod n) = l[K].tmod n := IntWalk.i64_in _ (by omega)
    have q5 : IntKind.i64.wrap (l[K].tmod n + n) = l[K].tmod n + n := IntWalk.i64_in _ (by omega)
    have q6 : IntKind.i64.wrap ((l[K].tmod n + n).tmod n) = (l[K].tmod n + n).tmod n := IntWalk.i64_in _ (by omega)
    have q7 : (n == 0) = false := by simp; omega
    go_quiet (fail)
    go_wp2
    go_ret
    refine ⟨_, K + 1, rfl, Int.emod_nonneg _ (by omega), Int.emod_lt_of_pos _ (by omega), .inl ⟨by omega, rfl⟩, ⟨?_, by omega⟩, HO.out.drewN _⟩
    have := fun m => HB2.out.keep (w' := w2.drewN m) (Kept.drewN _ _ _)
    rw [show (((K + 1 : Nat)) : Int) = (K : Int) + 1 by omega]
    exact this _
  · have hge : decide (l.length ≤ K) = true := by simpa using hlt
    have HLT := Lib.hid (show l.length ≤ K by omega)
    clear hlt
    go_enter Tryz.func42, Tryz.ntmps42
    go_wp2
    go_quiet (fail)
    go_wp2
    go_ret
    exact ⟨0, K, rfl, Int.le_refl _, by omega, .inr ⟨HLT.out, rfl, rfl⟩, HM.out.keep (Kept.drewN _ _ _), (Only.refl g w).drewN _⟩

/-- All but block g is as it was; there may be more. -/
structure But (g : Nat) (w w' : World) : Prop where
  os : w'.os = w.os
  tape : w'.tape = w.tape
  output : w'.output = w.output
  size : w.heap.size ≤ w'.heap.size
  block : ∀ b, b < w.heap.size → b ≠ g → w'.heap[b]? = w.heap[b]?
section
variable {g : Nat} {w w' w'' : World}
theorem But.refl (g : Nat) (w : World) : But g w w := ⟨rfl, rfl, rfl, Nat.le_refl _, fun _ _ _ => rfl⟩
theorem But.trans (h : But g w w') (k : But g w' w'') : But g w w'' := ⟨k.os.trans h.os, k.tape.trans h.tape, k.output.trans h.output, Nat.le_trans h.size k.size, fun b hb hg => (k.block b (Nat.lt_of_lt_of_le hb h.size) hg).trans (h.block b hb hg)⟩
theorem But.of_ext (h : Ext w w') : But g w w' := ⟨h.os, h.tape, h.output, h.size, fun b hb _ => h.block b hb⟩
theorem But.of_only (h : Only g w w') : But g w w' := ⟨h.os, h.tape, h.output, Nat.le_of_eq h.size.symm, fun b _ hg => h.block b hg⟩
theorem But.kept (h : But g w w') {S : Nat → Prop} (hS : ∀ b, b < w.heap.size → S b → b ≠ g) : Kept S w w' := ⟨h.size, fun b hb hl => h.block b hl (hS b hl hb)⟩
theorem But.ext (h : But g w w') (hg : w.heap.size ≤ g) : Ext w w' := ⟨h.os, h.tape, h.output, h.size, fun b hb => h.block b hb (by omega)⟩
theorem But.exts {a : World} (h : Ext a w) (k : But g w w') (hg : a.heap.size ≤ g) : Ext a w' := ⟨k.os.trans h.os, k.tape.trans h.tape, k.output.trans h.output, Nat.le_trans h.size k.size, fun b hb => (k.block b (Nat.lt_of_lt_of_le hb h.size) (by omega)).trans (h.block b hb)⟩
theorem But.own {base e sz n c : Nat} {A : Option Addr} {xs : List Value} (h : But g w w') (ho : Own w base e sz A n c xs) (hb : g < base) : Own w' base e sz A n c xs := ho.keep (h.kept fun b _ hb' => by have := (ho.blk hb').1; omega)
theorem But.blk {b t : Nat} {cs : Array Value} (h : But g w w') (hb : Blk w b t cs) (hg : b ≠ g) : Blk w' b t cs := hb.keep (h.kept fun x _ e => by omega)
theorem But.grown {row : Option Nat} (h : But g w w') (hg : w'.grownBy w'' row) (hr : ∀ k, row = some k → w.heap.size ≤ k) : But g w w'' := ⟨hg.os.trans h.os, hg.tape.trans h.tape, hg.output.trans h.output, Nat.le_trans h.size hg.size, fun b hb hx => (hg.block b (Nat.lt_of_lt_of_le hb h.size) fun e => by have := hr b e.symm; omega).trans (h.block b hb hx)⟩
theorem But.set {b i : Nat} {u : Value} (h : But g w w') (hb : w.heap.size ≤ b) : But g w (w'.setCell ⟨b, i, none⟩ u) := ⟨h.os, h.tape, h.output, by simpa [World.setCell] using h.size, fun x hx hg => (Below.heap_setCell _ _ _ _ (by show x ≠ b; omega)).trans (h.block x hx hg)⟩
end
/-- The reader, K numbers being read, and its numbers. -/
def NSt (w : World) (g : Nat) (A : Option Addr) (l : List Int) (c K : Nat) : Prop := NumIs w g A l.length c K ∧ ∃ S : Nat → Prop, ¬ S g ∧ IntsL w S A l
theorem NSt.ext {w w' : World} {g : Nat} {A : Option Addr} {l : List Int} {c K : Nat} (h : NSt w g A l c K) (hx : Ext w w') : NSt w' g A l c K := by
  obtain ⟨h1, S, h2, h3⟩ := h
  exact ⟨h1.keep (hx.kept _), S, h2, h3.keep (hx.kept _)⟩
theorem NSt.grown {w w' : World} {g : Nat} {A : Option Addr} {l : List Int} {c K : Nat} (h : NSt w g A l c K) {row : Option Nat} (hg : w.grownBy w' row) (hr : ∀ k, row = some k → k ≠ g) (hd : ∀ k, row = some k → ∀ b o, A = some ⟨b, o, none⟩ → l ≠ [] → k ≠ b) : NSt w' g A l c K := by
  obtain ⟨h1, S, h2, h3⟩ := h
  refine ⟨h1.keep (Kept.of_grown hg fun b hb _ e => hr b e.symm hb), ?_⟩
  rcases h3.1 with h4 | ⟨b, o, hA, hb, hlt, hc⟩
  · exact ⟨fun _ => False, fun h => h, .inl h4, h3.2⟩
  · by_cases hl : l = []
    · subst hl
      exact ⟨fun _ => False, fun h => h, .inl rfl, h3.2⟩
    · refine ⟨fun x => x = b, fun e => h2 (e ▸ hb), ?_⟩
      have h5 : IntsL w (fun x => x = b) A l := ⟨.inr ⟨b, o, hA, rfl, hlt, hc⟩, h3.2⟩
      exact h5.keep (Kept.of_grown hg fun x hx _ e => hd x e.symm b o hA hl hx)
def RetR (w : World) (g : Nat) (A : Option Addr) (l : List Int) (c : Nat) (n : Int) (K : Nat) (e : Ending) (w' : World) : Prop := ∃ (r K' : Nat), e = .returned (.int .i64 (r : Int)) ∧ (r : Int) < n ∧ ((K < l.length ∧ K' = K + 1) ∨ (l.length ≤ K ∧ K' = K ∧ r = 0)) ∧ NSt w' g A l c K' ∧ But g w w' ∧ w'.heap.size = w.heap.size
theorem Num_Next2 (n : Int) (g : Nat) (A : Option Addr) (l : List Int) (c K : Nat) (w : World) (hn1 : 1 ≤ n) (hn2 : n ≤ 4000000000000000) (h : NSt w g A l c K) :
    Calls Tryz.prog 42 #[.pointer (some ⟨g, 0, none⟩), .int .i64 n] w (RetR w g A l c n K) := by
  obtain ⟨h1, S, h2, h3⟩ := h
  refine (Num_NextK n g A l c K w S hn1 hn2 h1 h3 h2).mono ?_
  rintro e w' ⟨r, K', he, hr0, hrn, hK, hN, ho⟩
  refine ⟨r.toNat, K', by rw [he]; congr 2; omega, by omega, ?_, ⟨hN, S, h2, h3.keep (ho.kept fun b _ hb e => h2 (e ▸ hb))⟩, But.of_only ho, ho.size⟩
  rcases hK with h | ⟨h4, h5, h6⟩
  · exact .inl h
  · exact .inr ⟨h4, h5, by omega⟩

set_option maxRecDepth 100000 in
/-- Bytes of the call's own, as a text. -/
theorem own_text {w : World} {base n c : Nat} {A : Option Addr} {xs : List Int} (h : Own w base 5 1 A n c (xs.map (Value.int .u8))) (hn : xs.length = n) {dst : Nat} (hd : Tryz.prog.underlying dst = some .string) :
    (convert 159 dst (.slice A n c)).run Tryz.prog w = .ok (.string (strOfNums xs)) w := by
  rcases h.2 with ⟨hv, hn0⟩ | ⟨g, cap, cur, hv, hb, hh, hnc, hcm, hcs, ht⟩
  · obtain ⟨rfl, rfl⟩ : A = none ∧ c = 0 := by injection hv with h1 _ h2; exact ⟨h1, h2⟩
    have hx : xs = [] := List.eq_nil_of_length_eq_zero (by omega)
    subst hx
    have e0 : strOfNums [] = ByteArray.empty := rfl
    rw [e0]
    exact run_convert_bytes_nil (P := Tryz.prog) w 159 5 Tryz.underlying159 Tryz.underlying5 n 0 dst hd
  · obtain ⟨rfl, rfl⟩ : A = some ⟨g, 0, none⟩ ∧ c = cap := by injection hv with h1 _ h2; exact ⟨h1, h2⟩
    refine run_convert_bytes_arg (P := Tryz.prog) w 159 5 Tryz.underlying159 Tryz.underlying5 g 0 n c xs hn (fun i hi => ?_) dst hd
    obtain ⟨b, o, hA, -, hc⟩ := (Own.rd h).at_ (k := i) (u := .int .u8 (xs.getD i 0)) (by
      rw [List.getElem?_map, List.getElem?_eq_getElem (by omega)]
      simp [List.getD, List.getElem?_eq_getElem (show i < xs.length by omega)])
    injection hA with hA
    injection hA with h1 h2
    subst h1 h2
    exact hc

def wordsA : Array Value := #[.string ⟨#[]⟩, .string ⟨#[97]⟩, .string ⟨#[98]⟩, .string ⟨#[97, 98]⟩, .string ⟨#[105, 116, 39, 115]⟩, .string ⟨#[50, 48, 50, 52, 45, 48, 49, 45, 51, 49]⟩, .string ⟨#[49, 50]⟩, .string ⟨#[45, 51, 46, 53]⟩, .string ⟨#[65, 124, 66, 44, 91, 99, 93, 59]⟩, .string ⟨#[78, 111, 114, 116, 104, 32, 55]⟩, .string ⟨#[120, 32, 121]⟩, .string ⟨#[39, 39]⟩, .string ⟨#[97, 98, 99, 97, 98, 99]⟩, .string ⟨#[48]⟩, .string ⟨#[55, 46, 50, 53]⟩]
theorem words_at (k : Nat) (hk : k < 15) : ∃ t : ByteArray, wordsA[k]? = some (.string t) ∧ t.size ≤ 200 := by
  match k, hk with
  | 0, _ => exact ⟨_, rfl, by decide⟩
  | 1, _ => exact ⟨_, rfl, by decide⟩
  | 2, _ => exact ⟨_, rfl, by decide⟩
  | 3, _ => exact ⟨_, rfl, by decide⟩
  | 4, _ => exact ⟨_, rfl, by decide⟩
  | 5, _ => exact ⟨_, rfl, by decide⟩
  | 6, _ => exact ⟨_, rfl, by decide⟩
  | 7, _ => exact ⟨_, rfl, by decide⟩
  | 8, _ => exact ⟨_, rfl, by decide⟩
  | 9, _ => exact ⟨_, rfl, by decide⟩
  | 10, _ => exact ⟨_, rfl, by decide⟩
  | 11, _ => exact ⟨_, rfl, by decide⟩
  | 12, _ => exact ⟨_, rfl, by decide⟩
  | 13, _ => exact ⟨_, rfl, by decide⟩
  | 14, _ => exact ⟨_, rfl, by decide⟩
  | n + 15, h => omega
set_option maxRecDepth 100000 in
set_option maxHeartbeats 1000000 in
theorem r06_words (w : World) : Calls Tryz.prog 145 #[] w (fun e w' => e = .returned (.slice (some ⟨w.heap.size, 0, none⟩) 15 15) ∧ w' = w.alloc (.cells wordsA 9)) := by
  go_enter Tryz.func145, Tryz.ntmps145
  go_wp2
  go_ret
  exact ⟨rfl, rfl⟩

def RetTx (w : World) (g : Nat) (A : Option Addr) (l : List Int) (c : Nat) (K : Nat) (e : Ending) (w' : World) : Prop := ∃ (s : ByteArray) (K' : Nat), e = .returned (.string s) ∧ s.size ≤ 200 ∧ K ≤ K' ∧ NSt w' g A l c K' ∧ But g w w'
theorem RetR.le {w : World} {g : Nat} {A : Option Addr} {l : List Int} {c : Nat} {K K' r : Nat} (h : (K < l.length ∧ K' = K + 1) ∨ (l.length ≤ K ∧ K' = K ∧ r = 0)) : K ≤ K' := by omega
end Go.Proofs.YtcmmkeiiapbgcaaGreatDoor
/- The reference's reader of numbers: texts, decimals and plain values. Conditions: the numbers read as data, and lie apart from the reader. -/
namespace Go.Proofs.YtcmmkeiiapbgcaaGreatDoor
open Go Go.RowKit

/-- Where Text stands in its loop. -/
structure TxR (w : World) (g : Nat) (A : Option Addr) (l : List Int) (c K : Nat) (B j : Nat) (A' : Option Addr) (c' : Nat) (xs : List Int) (wr : World) : Prop where
  but : But g w wr
  low : w.heap.size ≤ B ∧ B ≤ wr.heap.size
  num : ∃ K', K ≤ K' ∧ NSt wr g A l c K'
  own : Own wr B 5 1 A' j c' (xs.map (Value.int .u8))
  len : xs.length = j
theorem TxR.data {w : World} {g : Nat} {A : Option Addr} {l : List Int} {c K : Nat} (h : NSt w g A l c K) : ∀ b o, A = some ⟨b, o, none⟩ → l ≠ [] → b < w.heap.size := by
  obtain ⟨_, S, _, h3⟩ := h
  intro b o hA hl
  rcases h3.1 with h4 | ⟨b', o', hA', hb, hlt, hc⟩
  · rw [List.map_eq_nil_iff] at h4; exact absurd h4 hl
  · rw [hA] at hA'
    injection hA' with hA'
    injection hA' with h1 _
    subst h1
    exact hlt

set_option maxRecDepth 100000 in
set_option maxHeartbeats 2000000 in
theorem Num_Text (g : Nat) (A : Option Addr) (l : List Int) (c K : Nat) (w : World) (h : NSt w g A l c K) : Calls Tryz.prog 119 #[.pointer (some ⟨g, 0, none⟩)] w (RetTx w g A l c K) := by
  have H := Lib.hid h
  have hgw := h.1.1.lt
  have HD := Lib.hid (TxR.data h)
  clear h
  go_enter Tryz.func119, Tryz.ntmps119
  go_wp2_with fail
  refine (Num_Next2 18 g A l c K _ (by omega) (by omega) H.out).mono ?_
  rintro e1 w1 ⟨k, K1, rfl, hk, hK1, hN1, hb1, hs1⟩
  have HK1 := Lib.hid (show K ≤ K1 by omega)
  have HN1 := Lib.hid hN1
  have HB1 := Lib.hid hb1
  clear hK1 hN1 hb1 hs1
  go_wp2_with fail
  refine (r06_words _).mono ?_
  rintro e1 w2 ⟨rfl, rfl⟩
  have HB2 := Lib.hid (HB1.out.trans (But.of_ext ((Ext.refl w1).alloc (.cells wordsA 9))))
  have HN2 := Lib.hid (HN1.out.ext ((Ext.refl w1).alloc (.cells wordsA 9)))
  by_cases hlt : k < 15
  · obtain ⟨t, ht, htz⟩ := words_at k hlt
    have q := (Blk.new w1 9 wordsA).cell ht
    have hk15 : (k : Int) < 15 := by omega
    clear ht
    go_wp2
    go_ret
    exact ⟨t, K1, rfl, htz, HK1.out, HN2.out, HB2.out⟩
  · have hk15 : ¬ (k : Int) < 15 := by omega
    obtain ⟨w2, hw2⟩ : ∃ w2, w2 = w1.alloc (.cells wordsA 9) := ⟨_, rfl⟩
    rw [← hw2] at HB2 HN2
    go_wp2_with fail
    rw [← hw2]
    clear hw2
    refine (Num_Next2 9 g A l c K1 _ (by omega) (by omega) HN2.out).mono ?_
    rintro e1 w3 ⟨n, K3, rfl, hn, hK3, hN3, hb3, hs3⟩
    have HK3 := Lib.hid (show K ≤ K3 by have := HK1.out; omega)
    have HN3 := Lib.hid hN3
    have HB3 := Lib.hid (HB2.out.trans hb3)
    clear hK3 hN3 hb3 hs3
    have hn' : n ≤ 200 := by omega
    by_cases h17 : k = 17
    case' pos =>
      have e17 : ((k : Int) == 17) = true := by simp [h17]
      clear hn
      go_wp2_with fail
      refine (Num_Next2 11 g A l c K3 _ (by omega) (by omega) HN3.out).mono ?_
      rintro e1 w4 ⟨m, K4, rfl, hm, hK4, hN4, hb4, hs4⟩
      have HK5 := Lib.hid (show K ≤ K4 by have := HK3.out; omega)
      have HN5 := Lib.hid hN4
      have HB5 := Lib.hid (HB3.out.trans hb4)
      clear hK4 hN4 hb4 hs4 HN3 HB3 HK3 HN2 HB2 HN1 HB1 HK1
      obtain ⟨n5, hn5⟩ : ∃ n5 : Nat, n5 = 190 + m := ⟨_, rfl⟩
      have e5 : (190 : Int) + (m : Int) = (n5 : Int) := by omega
      have hn5' : n5 ≤ 200 := by omega
      clear hn5
    case' neg =>
      have e17 : ((k : Int) == 17) = false := by simp; omega
      obtain ⟨w4, rfl⟩ : ∃ w4, w4 = w3 := ⟨_, rfl⟩
      have HK5 := HK3
      have HN5 := HN3
      have HB5 := HB3
      obtain ⟨n5, rfl⟩ : ∃ n5, n5 = n := ⟨_, rfl⟩
      have hn5' := hn'
      clear HN3 HB3 HK3 HN2 HB2 HN1 HB1 HK1 hn
    all_goals
      go_wp2
      have HT0 := Lib.hid (show TxR w g A l c K w4.heap.size 0 none 0 [] w4 from ⟨HB5.out, ⟨HB5.out.size, Nat.le_refl _⟩, ⟨_, HK5.out, HN5.out⟩, Own.nil _ _ _ _, rfl⟩)
      go_loopw [6, 7] (fun b i wr => ∃ (j : Nat) (A' : Option Addr) (c' : Nat) (xs : List Int), j ≤ n5 ∧ i = .int .i64 j ∧ b = .slice A' j c' ∧ TxR w g A l c K w4.heap.size j A' c' xs wr) (fun _ i _ => n5 - (intOf i).toNat)
      case atStart => exact ⟨0, none, 0, [], Nat.zero_le _, rfl, rfl, HT0.out⟩
      case round =>
        clear HT0
        obtain ⟨j, A', c', xs, hj, rfl, rfl, hT⟩ := hrel
        have HT := Lib.hid hT
        clear hT
        by_cases hltj : j < n5
        · obtain ⟨K', hK', hN'⟩ := HT.out.num
          have HKK := Lib.hid hK'
          have HNN := Lib.hid hN'
          clear hK' hN'
          go_wp2_with fail
          refine (Num_Next2 95 g A l c K' _ (by omega) (by omega) HNN.out).mono ?_
          rintro e1 w6 ⟨r, K6, rfl, hr, hK6, hN6, hb6, hs6⟩
          have HK6 := Lib.hid (show K ≤ K6 by have := HKK.out; omega)
          have HN6 := Lib.hid hN6
          have HB6 := Lib.hid hb6
          have HS6 := Lib.hid hs6
          clear hK6 hN6 hb6 hs6
          have hlow := HT.out.low
          have hown := HB6.out.own HT.out.own (by omega)
          obtain ⟨x, hx⟩ : ∃ x : Int, x = 32 + (r : Int) := ⟨_, rfl⟩
          have HO6 := Lib.hid (hown.ext ((Ext.refl w6).alloc (.cells #[.int .u8 (32 + (r : Int))] 5)))
          clear hown
          go_wp2_with (at_builtin; go_must (refine wpList_app rfl (.tmp 31) (.tmp 36) rfl tiU8 rfl HO6.out rfl (Blk.rd (Blk.new _ _ _)) rfl (by simp [Value.oneCell']) (by omega) (by decide) (by have := HS6.out; simp; omega) ?_); intro A8 c8 w8 hown8 hg8 hat8)
          go_roundw
          case rel =>
            refine ⟨j + 1, A8, c8, xs ++ [32 + (r : Int)], by omega, by go_num, rfl, ?_, ?_, ?_, ?_, ?_⟩
            · exact ((HT.out.but.trans HB6.out).trans (But.of_ext ((Ext.refl w6).alloc _))).grown hg8 fun b hb => by have := (HO6.out.blk hb).1; omega
            · have := hg8.size; have := HS6.out; simp at *; omega
            · refine ⟨K6, HK6.out, (HN6.out.ext ((Ext.refl w6).alloc _)).grown hg8 (fun b hb e => ?_) (fun b hb b' o hA hl e => ?_)⟩
              · have := (HO6.out.blk hb).1; omega
              · have := (HO6.out.blk hb).1; have := HD.out b' o hA hl; omega
            · rw [List.map_append]; exact hown8
            · simp [HT.out.len]
          case measure => simp [intOf]; omega
        · obtain rfl : j = n5 := by omega
          have hcv := own_text HT.out.own HT.out.len (dst := 9) Tryz.underlying9
          have HZ := Lib.hid (show (strOfNums xs).size ≤ 200 by rw [strOfNums_size, HT.out.len]; exact hn5')
          go_wp2
          go_ret
          obtain ⟨K', hK', hN'⟩ := HT.out.num
          exact ⟨_, K', rfl, HZ.out, hK', hN', HT.out.but⟩

def RetDc (w : World) (g : Nat) (A : Option Addr) (l : List Int) (c : Nat) (K : Nat) (e : Ending) (w' : World) : Prop := ∃ (a b : Int) (K' : Nat), e = .returned (.agg #[.int .i64 a, .int .i64 b]) ∧ K ≤ K' ∧ NSt w' g A l c K' ∧ But g w w'
end Go.Proofs.YtcmmkeiiapbgcaaGreatDoor
/- The reference's reader of numbers: decimals and plain values. Conditions: the numbers read as data, and lie apart from the reader. -/
namespace Go.Proofs.YtcmmkeiiapbgcaaGreatDoor
open Go Go.RowKit

theorem NSt.keep2 {w w' : World} {g : Nat} {A : Option Addr} {l : List Int} {c K B : Nat} (h : NSt w g A l c K) (hg : g < B) (hd : ∀ b o, A = some ⟨b, o, none⟩ → l ≠ [] → b < B) (hk : Kept (fun b => b < B) w w') : NSt w' g A l c K := by
  obtain ⟨h1, S, h2, h3⟩ := h
  refine ⟨h1.keep (hk.mono fun b _ e => by subst e; exact hg), ?_⟩
  rcases h3.1 with h4 | ⟨b, o, hA, hb, hlt, hc⟩
  · exact ⟨fun _ => False, fun h => h, .inl h4, h3.2⟩
  · by_cases hl : l = []
    · subst hl
      exact ⟨fun _ => False, fun h => h, .inl rfl, h3.2⟩
    · refine ⟨fun x => x = b, fun e => h2 (e ▸ hb), ?_⟩
      have h5 : IntsL w (fun x => x = b) A l := ⟨.inr ⟨b, o, hA, rfl, hlt, hc⟩, h3.2⟩
      exact h5.keep (hk.mono fun x _ hx => by subst hx; exact hd x o hA hl)
def RetFV (w : World) (g : Nat) (A : Option Addr) (l : List Int) (c : Nat) (K : Nat) (e : Ending) (w' : World) : Prop := ∃ (x : Val) (K' : Nat), e = .returned (.agg #[.int .i64 x.kind, .string x.s, .int .i64 x.dn, .int .i64 x.ds, .int .i64 x.n, .slice none x.cols.length 0, .slice none x.rows.length 0]) ∧ flatV x ∧ K ≤ K' ∧ NSt w' g A l c K' ∧ But g w w'
set_option maxRecDepth 100000 in
set_option maxHeartbeats 2000000 in
theorem Num_Dec (g : Nat) (A : Option Addr) (l : List Int) (c K : Nat) (w : World) (h : NSt w g A l c K) : Calls Tryz.prog 120 #[.pointer (some ⟨g, 0, none⟩)] w (RetDc w g A l c K) := by
  have hgw := h.1.1.lt
  have hne : w.heap.size ≠ g := by omega
  have HN := Lib.hid (h.ext ((Ext.refl w).alloc (.cells #[.int .i64 0, .int .i64 0] 31)))
  have HB := Lib.hid (But.of_ext (g := g) ((Ext.refl w).alloc (.cells #[.int .i64 0, .int .i64 0] 31)))
  have HBR := Lib.hid (Blk.new w 31 #[.int .i64 0, .int .i64 0])
  have HK := Lib.hid (Nat.le_refl K)
  have HD := Lib.hid (TxR.data h)
  clear h
  go_enter Tryz.func120, Tryz.ntmps120
  go_wp2_with fail
  refine (Num_Next2 2001 g A l c K _ (by omega) (by omega) HN.out).mono ?_
  rintro e1 w1 ⟨d1, K1, rfl, hrd1, hKd1, hNd1, hbd1, hsd1⟩
  have HK' := Lib.hid (show K ≤ K1 by have := HK.out; omega)
  have HB' := Lib.hid (HB.out.trans hbd1)
  have HBR' := Lib.hid (hbd1.blk HBR.out hne)
  clear HK HN HB HBR
  have HK := HK'
  have HN := Lib.hid hNd1
  have HB := HB'
  have HBR := HBR'
  clear hKd1 hNd1 hbd1 hsd1 HK' HB' HBR'
  go_wp2_with fail
  refine (Num_Next2 8 g A l c K1 _ (by omega) (by omega) HN.out).mono ?_
  rintro e1 w2 ⟨d2, K2, rfl, hrd2, hKd2, hNd2, hbd2, hsd2⟩
  have HK' := Lib.hid (show K ≤ K2 by have := HK.out; omega)
  have HB' := Lib.hid (HB.out.trans hbd2)
  have HBR' := Lib.hid (hbd2.blk HBR.out hne)
  clear HK HN HB HBR
  have HK := HK'
  have HN := Lib.hid hNd2
  have HB := HB'
  have HBR := HBR'
  clear hKd2 hNd2 hbd2 hsd2 HK' HB' HBR'
  by_cases h7 : d2 = 7
  case' pos =>
    have e7 : ((d2 : Int) == 7) = true := by simp [h7]
    go_wp2_with fail
    refine (Num_Next2 2000000000000001 g A l c K2 _ (by omega) (by omega) HN.out).mono ?_
    rintro e1 w3 ⟨d3, K3, rfl, hrd3, hKd3, hNd3, hbd3, hsd3⟩
    have HK' := Lib.hid (show K ≤ K3 by have := HK.out; omega)
    have HB' := Lib.hid (HB.out.trans hbd3)
    have HBR' := Lib.hid (hbd3.blk HBR.out hne)
    clear HK HN HB HBR
    have HK := HK'
    have HN := Lib.hid hNd3
    have HB := HB'
    have HBR := HBR'
    clear hKd3 hNd3 hbd3 hsd3 HK' HB' HBR'
    obtain ⟨n, hn⟩ : ∃ n : Int, n = (d3 : Int) - 1000000000000000 := ⟨_, rfl⟩
    have hn1 : -1000000000000000 ≤ n := by omega
    have hn2 : n ≤ 1000000000000000 := by omega
  case' neg =>
    have e7 : ((d2 : Int) == 7) = false := by simp; omega
    obtain ⟨K3, rfl⟩ : ∃ K3, K3 = K2 := ⟨_, rfl⟩
    obtain ⟨w3, rfl⟩ : ∃ w3, w3 = w2 := ⟨_, rfl⟩
    obtain ⟨n, hn⟩ : ∃ n : Int, n = (d1 : Int) - 1000 := ⟨_, rfl⟩
    have hn1 : -1000000000000000 ≤ n := by omega
    have hn2 : n ≤ 1000000000000000 := by omega
  all_goals
    go_wp2_with fail
    refine (Num_Next2 4 g A l c K3 _ (by omega) (by omega) HN.out).mono ?_
    rintro e1 w4 ⟨d4, K4, rfl, hrd4, hKd4, hNd4, hbd4, hsd4⟩
    have HK' := Lib.hid (show K ≤ K4 by have := HK.out; omega)
    have HB' := Lib.hid (HB.out.trans hbd4)
    have HBR' := Lib.hid (hbd4.blk HBR.out hne)
    clear HK HN HB HBR
    have HK := HK'
    have HN := Lib.hid hNd4
    have HB := HB'
    have HBR := HBR'
    clear hKd4 hNd4 hbd4 hsd4 HK' HB' HBR'
    go_wp2_with fail
    rw [← hn]
    have hmk : Calls Tryz.prog 146 #[.int .i64 n, .int .i64 (d4 : Int)] w4 (fun e w' => ∃ a b t, e = .returned (.tuple #[.agg #[.int .i64 a, .int .i64 b], .bool t]) ∧ Ext w4 w') := (r04_Make n d4 hn1 hn2 (by omega) _).mono fun e w' h => ⟨_, _, _, h⟩
    refine hmk.mono ?_
    rintro e1 w5 ⟨a, b, t, rfl, hx5⟩
    have HN5 := Lib.hid (HN.out.ext hx5)
    have HB5 := Lib.hid (HB.out.trans (But.of_ext hx5))
    have HBR6 := Lib.hid (HBR.out.keep (hx5.kept _))
    clear HN HB HBR hx5 hmk hn
    have r0 := HBR6.out.cell (i := 0) rfl
    have r1 := HBR6.out.cell (i := 1) rfl
    have rf := HBR6.out.frozen
    have rz := HBR6.out.lt
    go_wp2
    refine bodyPost_ret (v := .agg #[.int .i64 a, .int .i64 b]) (by simp [results, Tryz.results120, go_sem, r0, r1, rf, rz]) rfl ⟨_, _, K4, rfl, HK.out, ?_, ?_⟩
    · refine HN5.out.keep2 hgw HD.out (Kept.trans ?_ (Kept.alloc _ _ _))
      iterate 2 with_reducible refine Kept.set2 ?_ (by show ¬ (_ < _); omega)
      with_reducible exact Kept.refl _ _
    · refine But.trans ?_ (But.of_ext ((Ext.refl _).alloc _))
      iterate 2 with_reducible refine But.set ?_ (by omega)
      with_reducible exact HB5.out

set_option maxRecDepth 100000 in
set_option maxHeartbeats 2000000 in
theorem Num_Value_1 (g : Nat) (A : Option Addr) (l : List Int) (c K : Nat) (w : World) (h : NSt w g A l c K) : Calls Tryz.prog 88 #[.pointer (some ⟨g, 0, none⟩), .int .i64 1] w (RetFV w g A l c K) := by
  have hgw := h.1.1.lt
  have hne : w.heap.size ≠ g := by omega
  have HN := Lib.hid (h.ext ((Ext.refl w).alloc (.cells #[.int .i64 0, .string ⟨#[]⟩, .int .i64 0, .int .i64 0, .int .i64 0, .slice none 0 0, .slice none 0 0] 33)))
  have HB := Lib.hid (But.of_ext (g := g) ((Ext.refl w).alloc (.cells #[.int .i64 0, .string ⟨#[]⟩, .int .i64 0, .int .i64 0, .int .i64 0, .slice none 0 0, .slice none 0 0] 33)))
  have HBR := Lib.hid (Blk.new w 33 #[.int .i64 0, .string ⟨#[]⟩, .int .i64 0, .int .i64 0, .int .i64 0, .slice none 0 0, .slice none 0 0])
  have HK := Lib.hid (Nat.le_refl K)
  have HD := Lib.hid (TxR.data h)
  clear h
  go_enter Tryz.func88, Tryz.ntmps88
  go_wp2_with fail
  refine (Num_Text g A l c K _ HN.out).mono ?_
  rintro e1 w1 ⟨s, K1, rfl, hz1, hK1, hN1, hb1⟩
  have HK' := Lib.hid (show K ≤ K1 by have := HK.out; omega)
  have HB' := Lib.hid (HB.out.trans hb1)
  have HBR' := Lib.hid (hb1.blk HBR.out hne)
  have HSZ := Lib.hid (show s.size ≤ 4294967296 by omega)
  clear HK HN HB HBR
  have HK := HK'
  have HN := Lib.hid hN1
  have HB := HB'
  have HBR := HBR'
  clear hK1 hN1 hb1 HK' HB' HBR'
  have r0 := HBR.out.cell (i := 0) rfl
  have r1 := HBR.out.cell (i := 1) rfl
  have r2 := HBR.out.cell (i := 2) rfl
  have r3 := HBR.out.cell (i := 3) rfl
  have r4 := HBR.out.cell (i := 4) rfl
  have r5 := HBR.out.cell (i := 5) rfl
  have r6 := HBR.out.cell (i := 6) rfl
  have rf := HBR.out.frozen
  have rz := HBR.out.lt
  go_wp2
  refine bodyPost_ret (v := .agg #[.int .i64 1, .string s, .int .i64 0, .int .i64 0, .int .i64 0, .slice none 0 0, .slice none 0 0]) (by simp [results, Tryz.results88, go_sem, r0, r1, r2, r3, r4, r5, r6, rf, rz]) rfl ⟨⟨1, s, 0, 0, 0, [], []⟩, K1, rfl, ⟨rfl, rfl, by first | exact HSZ.out | exact Nat.zero_le _⟩, HK.out, ?_, ?_⟩
  · refine HN.out.keep2 hgw HD.out ?_
    iterate 7 with_reducible refine Kept.set2 ?_ (by show ¬ (_ < _); omega)
    with_reducible exact Kept.refl _ _
  · iterate 7 with_reducible refine But.set ?_ (by omega)
    with_reducible exact HB.out

set_option maxRecDepth 100000 in
set_option maxHeartbeats 2000000 in
theorem Num_Value_2 (g : Nat) (A : Option Addr) (l : List Int) (c K : Nat) (w : World) (h : NSt w g A l c K) : Calls Tryz.prog 88 #[.pointer (some ⟨g, 0, none⟩), .int .i64 2] w (RetFV w g A l c K) := by
  have hgw := h.1.1.lt
  have hne : w.heap.size ≠ g := by omega
  have HN := Lib.hid (h.ext ((Ext.refl w).alloc (.cells #[.int .i64 0, .string ⟨#[]⟩, .int .i64 0, .int .i64 0, .int .i64 0, .slice none 0 0, .slice none 0 0] 33)))
  have HB := Lib.hid (But.of_ext (g := g) ((Ext.refl w).alloc (.cells #[.int .i64 0, .string ⟨#[]⟩, .int .i64 0, .int .i64 0, .int .i64 0, .slice none 0 0, .slice none 0 0] 33)))
  have HBR := Lib.hid (Blk.new w 33 #[.int .i64 0, .string ⟨#[]⟩, .int .i64 0, .int .i64 0, .int .i64 0, .slice none 0 0, .slice none 0 0])
  have HK := Lib.hid (Nat.le_refl K)
  have HD := Lib.hid (TxR.data h)
  clear h
  go_enter Tryz.func88, Tryz.ntmps88
  go_wp2_with fail
  refine (Num_Dec g A l c K _ HN.out).mono ?_
  rintro e1 w1 ⟨a, b, K1, rfl, hK1, hN1, hb1⟩
  have HK' := Lib.hid (show K ≤ K1 by have := HK.out; omega)
  have HB' := Lib.hid (HB.out.trans hb1)
  have HBR' := Lib.hid (hb1.blk HBR.out hne)
  clear HK HN HB HBR
  have HK := HK'
  have HN := Lib.hid hN1
  have HB := HB'
  have HBR := HBR'
  clear hK1 hN1 hb1 HK' HB' HBR'
  have r0 := HBR.out.cell (i := 0) rfl
  have r1 := HBR.out.cell (i := 1) rfl
  have r2 := HBR.out.cell (i := 2) rfl
  have r3 := HBR.out.cell (i := 3) rfl
  have r4 := HBR.out.cell (i := 4) rfl
  have r5 := HBR.out.cell (i := 5) rfl
  have r6 := HBR.out.cell (i := 6) rfl
  have rf := HBR.out.frozen
  have rz := HBR.out.lt
  go_wp2
  refine bodyPost_ret (v := .agg #[.int .i64 2, .string ⟨#[]⟩, .int .i64 a, .int .i64 b, .int .i64 0, .slice none 0 0, .slice none 0 0]) (by simp [results, Tryz.results88, go_sem, r0, r1, r2, r3, r4, r5, r6, rf, rz]) rfl ⟨⟨2, ⟨#[]⟩, a, b, 0, [], []⟩, K1, rfl, ⟨rfl, rfl, by first | exact HSZ.out | exact Nat.zero_le _⟩, HK.out, ?_, ?_⟩
  · refine HN.out.keep2 hgw HD.out ?_
    iterate 7 with_reducible refine Kept.set2 ?_ (by show ¬ (_ < _); omega)
    with_reducible exact Kept.refl _ _
  · iterate 7 with_reducible refine But.set ?_ (by omega)
    with_reducible exact HB.out

set_option maxRecDepth 100000 in
set_option maxHeartbeats 2000000 in
theorem Num_Value_3 (g : Nat) (A : Option Addr) (l : List Int) (c K : Nat) (w : World) (h : NSt w g A l c K) : Calls Tryz.prog 88 #[.pointer (some ⟨g, 0, none⟩), .int .i64 3] w (RetFV w g A l c K) := by
  have hgw := h.1.1.lt
  have hne : w.heap.size ≠ g := by omega
  have HN := Lib.hid (h.ext ((Ext.refl w).alloc (.cells #[.int .i64 0, .string ⟨#[]⟩, .int .i64 0, .int .i64 0, .int .i64 0, .slice none 0 0, .slice none 0 0] 33)))
  have HB := Lib.hid (But.of_ext (g := g) ((Ext.refl w).alloc (.cells #[.int .i64 0, .string ⟨#[]⟩, .int .i64 0, .int .i64 0, .int .i64 0, .slice none 0 0, .slice none 0 0] 33)))
  have HBR := Lib.hid (Blk.new w 33 #[.int .i64 0, .string ⟨#[]⟩, .int .i64 0, .int .i64 0, .int .i64 0, .slice none 0 0, .slice none 0 0])
  have HK := Lib.hid (Nat.le_refl K)
  have HD := Lib.hid (TxR.data h)
  clear h
  go_enter Tryz.func88, Tryz.ntmps88
  go_wp2_with fail
  refine (Num_Next2 1000 g A l c K _ (by omega) (by omega) HN.out).mono ?_
  rintro e1 w1 ⟨d1, K1, rfl, hrd1, hKd1, hNd1, hbd1, hsd1⟩
  have HK' := Lib.hid (show K ≤ K1 by have := HK.out; omega)
  have HB' := Lib.hid (HB.out.trans hbd1)
  have HBR' := Lib.hid (hbd1.blk HBR.out hne)
  clear HK HN HB HBR
  have HK := HK'
  have HN := Lib.hid hNd1
  have HB := HB'
  have HBR := HBR'
  clear hKd1 hNd1 hbd1 hsd1 HK' HB' HBR'
  go_wp2_with fail
  refine (Num_Next2 8 g A l c K1 _ (by omega) (by omega) HN.out).mono ?_
  rintro e1 w2 ⟨d2, K2, rfl, hrd2, hKd2, hNd2, hbd2, hsd2⟩
  have HK' := Lib.hid (show K ≤ K2 by have := HK.out; omega)
  have HB' := Lib.hid (HB.out.trans hbd2)
  have HBR' := Lib.hid (hbd2.blk HBR.out hne)
  clear HK HN HB HBR
  have HK := HK'
  have HN := Lib.hid hNd2
  have HB := HB'
  have HBR := HBR'
  clear hKd2 hNd2 hbd2 hsd2 HK' HB' HBR'
  by_cases h7 : d2 = 7
  · have e7 : ((d2 : Int) == 7) = true := by simp [h7]
    go_wp2_with fail
    refine (Num_Next2 3652059 g A l c K2 _ (by omega) (by omega) HN.out).mono ?_
    rintro e1 w3 ⟨d3, K3, rfl, hrd3, hKd3, hNd3, hbd3, hsd3⟩
    have HK' := Lib.hid (show K ≤ K3 by have := HK.out; omega)
    have HB' := Lib.hid (HB.out.trans hbd3)
    have HBR' := Lib.hid (hbd3.blk HBR.out hne)
    clear HK HN HB HBR
    have HK := HK'
    have HN := Lib.hid hNd3
    have HB := HB'
    have HBR := HBR'
    clear hKd3 hNd3 hbd3 hsd3 HK' HB' HBR'
    have r0 := HBR.out.cell (i := 0) rfl
    have r1 := HBR.out.cell (i := 1) rfl
    have r2 := HBR.out.cell (i := 2) rfl
    have r3 := HBR.out.cell (i := 3) rfl
    have r4 := HBR.out.cell (i := 4) rfl
    have r5 := HBR.out.cell (i := 5) rfl
    have r6 := HBR.out.cell (i := 6) rfl
    have rf := HBR.out.frozen
    have rz := HBR.out.lt
    go_wp2
    refine bodyPost_ret (v := .agg #[.int .i64 3, .string ⟨#[]⟩, .int .i64 0, .int .i64 0, .int .i64 (d3 : Int), .slice none 0 0, .slice none 0 0]) (by simp [results, Tryz.results88, go_sem, r0, r1, r2, r3, r4, r5, r6, rf, rz]) rfl ⟨⟨3, ⟨#[]⟩, 0, 0, (d3 : Int), [], []⟩, K3, rfl, ⟨rfl, rfl, by first | exact HSZ.out | exact Nat.zero_le _⟩, HK.out, ?_, ?_⟩
    · refine HN.out.keep2 hgw HD.out ?_
      iterate 7 with_reducible refine Kept.set2 ?_ (by show ¬ (_ < _); omega)
      with_reducible exact Kept.refl _ _
    · iterate 7 with_reducible refine But.set ?_ (by omega)
      with_reducible exact HB.out
  · have e7 : ((d2 : Int) == 7) = false := by simp; omega
    have r0 := HBR.out.cell (i := 0) rfl
    have r1 := HBR.out.cell (i := 1) rfl
    have r2 := HBR.out.cell (i := 2) rfl
    have r3 := HBR.out.cell (i := 3) rfl
    have r4 := HBR.out.cell (i := 4) rfl
    have r5 := HBR.out.cell (i := 5) rfl
    have r6 := HBR.out.cell (i := 6) rfl
    have rf := HBR.out.frozen
    have rz := HBR.out.lt
    go_wp2
    refine bodyPost_ret (v := .agg #[.int .i64 3, .string ⟨#[]⟩, .int .i64 0, .int .i64 0, .int .i64 (738000 + (d1 : Int)), .slice none 0 0, .slice none 0 0]) (by simp [results, Tryz.results88, go_sem, r0, r1, r2, r3, r4, r5, r6, rf, rz]) rfl ⟨⟨3, ⟨#[]⟩, 0, 0, (738000 + (d1 : Int)), [], []⟩, K2, rfl, ⟨rfl, rfl, by first | exact HSZ.out | exact Nat.zero_le _⟩, HK.out, ?_, ?_⟩
    · refine HN.out.keep2 hgw HD.out ?_
      iterate 7 with_reducible refine Kept.set2 ?_ (by show ¬ (_ < _); omega)
      with_reducible exact Kept.refl _ _
    · iterate 7 with_reducible refine But.set ?_ (by omega)
      with_reducible exact HB.out

set_option maxRecDepth 100000 in
set_option maxHeartbeats 2000000 in
theorem Num_Value_4 (g : Nat) (A : Option Addr) (l : List Int) (c K : Nat) (w : World) (h : NSt w g A l c K) : Calls Tryz.prog 88 #[.pointer (some ⟨g, 0, none⟩), .int .i64 4] w (RetFV w g A l c K) := by
  have hgw := h.1.1.lt
  have hne : w.heap.size ≠ g := by omega
  have HN := Lib.hid (h.ext ((Ext.refl w).alloc (.cells #[.int .i64 0, .string ⟨#[]⟩, .int .i64 0, .int .i64 0, .int .i64 0, .slice none 0 0, .slice none 0 0] 33)))
  have HB := Lib.hid (But.of_ext (g := g) ((Ext.refl w).alloc (.cells #[.int .i64 0, .string ⟨#[]⟩, .int .i64 0, .int .i64 0, .int .i64 0, .slice none 0 0, .slice none 0 0] 33)))
  have HBR := Lib.hid (Blk.new w 33 #[.int .i64 0, .string ⟨#[]⟩, .int .i64 0, .int .i64 0, .int .i64 0, .slice none 0 0, .slice none 0 0])
  have HK := Lib.hid (Nat.le_refl K)
  have HD := Lib.hid (TxR.data h)
  clear h
  go_enter Tryz.func88, Tryz.ntmps88
  go_wp2_with fail
  refine (Num_Next2 2 g A l c K _ (by omega) (by omega) HN.out).mono ?_
  rintro e1 w1 ⟨d1, K1, rfl, hrd1, hKd1, hNd1, hbd1, hsd1⟩
  have HK' := Lib.hid (show K ≤ K1 by have := HK.out; omega)
  have HB' := Lib.hid (HB.out.trans hbd1)
  have HBR' := Lib.hid (hbd1.blk HBR.out hne)
  clear HK HN HB HBR
  have HK := HK'
  have HN := Lib.hid hNd1
  have HB := HB'
  have HBR := HBR'
  clear hKd1 hNd1 hbd1 hsd1 HK' HB' HBR'
  have r0 := HBR.out.cell (i := 0) rfl
  have r1 := HBR.out.cell (i := 1) rfl
  have r2 := HBR.out.cell (i := 2) rfl
  have r3 := HBR.out.cell (i := 3) rfl
  have r4 := HBR.out.cell (i := 4) rfl
  have r5 := HBR.out.cell (i := 5) rfl
  have r6 := HBR.out.cell (i := 6) rfl
  have rf := HBR.out.frozen
  have rz := HBR.out.lt
  go_wp2
  refine bodyPost_ret (v := .agg #[.int .i64 4, .string ⟨#[]⟩, .int .i64 0, .int .i64 0, .int .i64 (d1 : Int), .slice none 0 0, .slice none 0 0]) (by simp [results, Tryz.results88, go_sem, r0, r1, r2, r3, r4, r5, r6, rf, rz]) rfl ⟨⟨4, ⟨#[]⟩, 0, 0, (d1 : Int), [], []⟩, K1, rfl, ⟨rfl, rfl, by first | exact HSZ.out | exact Nat.zero_le _⟩, HK.out, ?_, ?_⟩
  · refine HN.out.keep2 hgw HD.out ?_
    iterate 7 with_reducible refine Kept.set2 ?_ (by show ¬ (_ < _); omega)
    with_reducible exact Kept.refl _ _
  · iterate 7 with_reducible refine But.set ?_ (by omega)
    with_reducible exact HB.out

set_option maxRecDepth 100000 in
set_option maxHeartbeats 2000000 in
theorem Num_Value_0 (kind : Int) (g : Nat) (A : Option Addr) (l : List Int) (c K : Nat) (w : World) (h : NSt w g A l c K) (k1 : (kind == 1) = false) (k2 : (kind == 2) = false) (k3 : (kind == 3) = false) (k4 : (kind == 4) = false) (k5 : (kind == 5) = false) : Calls Tryz.prog 88 #[.pointer (some ⟨g, 0, none⟩), .int .i64 kind] w (RetFV w g A l c K) := by
  have hgw := h.1.1.lt
  have hne : w.heap.size ≠ g := by omega
  have HN := Lib.hid (h.ext ((Ext.refl w).alloc (.cells #[.int .i64 0, .string ⟨#[]⟩, .int .i64 0, .int .i64 0, .int .i64 0, .slice none 0 0, .slice none 0 0] 33)))
  have HB := Lib.hid (But.of_ext (g := g) ((Ext.refl w).alloc (.cells #[.int .i64 0, .string ⟨#[]⟩, .int .i64 0, .int .i64 0, .int .i64 0, .slice none 0 0, .slice none 0 0] 33)))
  have HBR := Lib.hid (Blk.new w 33 #[.int .i64 0, .string ⟨#[]⟩, .int .i64 0, .int .i64 0, .int .i64 0, .slice none 0 0, .slice none 0 0])
  have HK := Lib.hid (Nat.le_refl K)
  have HD := Lib.hid (TxR.data h)
  clear h
  go_enter Tryz.func88, Tryz.ntmps88
  go_wp2_with fail
  refine (Num_Next2 100 g A l c K _ (by omega) (by omega) HN.out).mono ?_
  rintro e1 w1 ⟨d1, K1, rfl, hrd1, hKd1, hNd1, hbd1, hsd1⟩
  have HK' := Lib.hid (show K ≤ K1 by have := HK.out; omega)
  have HB' := Lib.hid (HB.out.trans hbd1)
  have HBR' := Lib.hid (hbd1.blk HBR.out hne)
  clear HK HN HB HBR
  have HK := HK'
  have HN := Lib.hid hNd1
  have HB := HB'
  have HBR := HBR'
  clear hKd1 hNd1 hbd1 hsd1 HK' HB' HBR'
  have r0 := HBR.out.cell (i := 0) rfl
  have r1 := HBR.out.cell (i := 1) rfl
  have r2 := HBR.out.cell (i := 2) rfl
  have r3 := HBR.out.cell (i := 3) rfl
  have r4 := HBR.out.cell (i := 4) rfl
  have r5 := HBR.out.cell (i := 5) rfl
  have r6 := HBR.out.cell (i := 6) rfl
  have rf := HBR.out.frozen
  have rz := HBR.out.lt
  go_wp2
  refine bodyPost_ret (v := .agg #[.int .i64 0, .string ⟨#[]⟩, .int .i64 0, .int .i64 0, .int .i64 (d1 : Int), .slice none 0 0, .slice none 0 0]) (by simp [results, Tryz.results88, go_sem, r0, r1, r2, r3, r4, r5, r6, rf, rz]) rfl ⟨⟨0, ⟨#[]⟩, 0, 0, (d1 : Int), [], []⟩, K1, rfl, ⟨rfl, rfl, by first | exact HSZ.out | exact Nat.zero_le _⟩, HK.out, ?_, ?_⟩
  · refine HN.out.keep2 hgw HD.out ?_
    iterate 7 with_reducible refine Kept.set2 ?_ (by show ¬ (_ < _); omega)
    with_reducible exact Kept.refl _ _
  · iterate 7 with_reducible refine But.set ?_ (by omega)
    with_reducible exact HB.out

theorem Num_Value_flat (kind : Int) (g : Nat) (A : Option Addr) (l : List Int) (c K : Nat) (w : World) (h : NSt w g A l c K) (hk : kind ≠ 5) : Calls Tryz.prog 88 #[.pointer (some ⟨g, 0, none⟩), .int .i64 kind] w (RetFV w g A l c K) := by
  by_cases h1 : kind = 1
  · subst h1; exact Num_Value_1 g A l c K w h
  by_cases h2 : kind = 2
  · subst h2; exact Num_Value_2 g A l c K w h
  by_cases h3 : kind = 3
  · subst h3; exact Num_Value_3 g A l c K w h
  by_cases h4 : kind = 4
  · subst h4; exact Num_Value_4 g A l c K w h
  exact Num_Value_0 kind g A l c K w h (by simpa using h1) (by simpa using h2) (by simpa using h3) (by simpa using h4) (by simpa using hk)
end Go.Proofs.YtcmmkeiiapbgcaaGreatDoor
/- The reference's reader of numbers: tables (where at most one number is left), values; Made of two numbers. Conditions: the numbers read as data, and lie apart from the reader. -/
namespace Go.Proofs.YtcmmkeiiapbgcaaGreatDoor
open Go Go.RowKit

def names3 : List ByteArray := [⟨#[97]⟩, ⟨#[98]⟩, ⟨#[99]⟩]
def names3A : Array Value := #[.string ⟨#[97]⟩, .string ⟨#[98]⟩, .string ⟨#[99]⟩]
theorem names3_at (k : Nat) (hk : k < 3) : ∃ h : k < names3.length, names3A[k]? = some (.string names3[k]) ∧ names3[k].size ≤ 20 := by
  match k, hk with
  | 0, _ => exact ⟨by decide, rfl, by decide⟩
  | 1, _ => exact ⟨by decide, rfl, by decide⟩
  | 2, _ => exact ⟨by decide, rfl, by decide⟩
  | n + 3, h => omega
/-- The memory of 'Table' while columns are made. -/
structure TB (w : World) (g : Nat) (A : Option Addr) (l : List Int) (c : Nat) (Ac : Option Addr) (cc : Nat) (cols : List ByteArray) (Ak : Option Addr) (ck : Nat) (ks : List Int) (wr : World) : Prop where
  but : But g w wr
  gr : Blk wr w.heap.size 33 #[.int .i64 0, .string ⟨#[]⟩, .int .i64 0, .int .i64 0, .int .i64 0, .slice none 0 0, .slice none 0 0]
  gt : Blk wr (w.heap.size + 1) 33 #[.int .i64 5, .string ⟨#[]⟩, .int .i64 0, .int .i64 0, .int .i64 0, .slice Ac cols.length cc, .slice none 0 0]
  num : ∃ K, l.length ≤ K ∧ NSt wr g A l c K
  ownC : OwnSs wr (w.heap.size + 2) Ac cc cols
  ownK : OwnIs wr (w.heap.size + 2) Ak ck ks
  sep : ∀ b, ob Ac = some b → ob Ak ≠ some b
structure TBA (w : World) (g : Nat) (A : Option Addr) (l : List Int) (c : Nat) (Ac : Option Addr) (cc : Nat) (cols : List ByteArray) (Ak : Option Addr) (ck : Nat) (ks : List Int) (wr : World) : Prop where
  but : But g w wr
  gr : Blk wr w.heap.size 33 #[.int .i64 0, .string ⟨#[]⟩, .int .i64 0, .int .i64 0, .int .i64 0, .slice none 0 0, .slice none 0 0]
  gt : ∃ x, Blk wr (w.heap.size + 1) 33 #[.int .i64 5, .string ⟨#[]⟩, .int .i64 0, .int .i64 0, .int .i64 0, x, .slice none 0 0]
  num : ∃ K, l.length ≤ K ∧ NSt wr g A l c K
  ownC : OwnSs wr (w.heap.size + 2) Ac cc cols
  ownK : OwnIs wr (w.heap.size + 2) Ak ck ks
  sep : ∀ b, ob Ac = some b → ob Ak ≠ some b
section
variable {w wr wr' : World} {g : Nat} {A Ac Ak : Option Addr} {c cc ck : Nat} {cols : List ByteArray} {l ks : List Int}
theorem TB.more (h : TB w g A l c Ac cc cols Ak ck ks wr) (hx : Ext wr wr') : TB w g A l c Ac cc cols Ak ck ks wr' := by
  obtain ⟨K, hl, hK⟩ := h.num
  exact ⟨h.but.trans (But.of_ext hx), h.gr.keep (hx.kept _), h.gt.keep (hx.kept _), ⟨K, hl, hK.ext hx⟩, h.ownC.ext hx, h.ownK.ext hx, h.sep⟩
theorem TB.next (h : TB w g A l c Ac cc cols Ak ck ks wr) (hg : g < w.heap.size) (hb : But g wr wr') {K : Nat} (hl : l.length ≤ K) (hK : NSt wr' g A l c K) : TB w g A l c Ac cc cols Ak ck ks wr' :=
  ⟨h.but.trans hb, hb.blk h.gr (by omega), hb.blk h.gt (by omega), ⟨K, hl, hK⟩, ⟨hb.own h.ownC.1 (by omega), h.ownC.2⟩, hb.own h.ownK (by omega), h.sep⟩
theorem TB.app {A4 : Option Addr} {c4 : Nat} {t : ByteArray} (h : TB w g A l c Ac cc cols Ak ck ks wr) (hgw : g < w.heap.size) (hD : ∀ b o, A = some ⟨b, o, none⟩ → l ≠ [] → b < w.heap.size) (hg : wr.grownBy wr' (ob Ac)) (ho : Own wr' (w.heap.size + 2) 9 1 A4 (cols.length + 1) c4 (cols.map Value.string ++ [.string t]))
    (hat : ob A4 = ob Ac ∨ ob A4 = some wr.heap.size) (ht : t.size ≤ 4294967296) : TBA w g A l c A4 c4 (cols ++ [t]) Ak ck ks wr' := by
  obtain ⟨K, hl, hK⟩ := h.num
  have hk : ∀ g, g < w.heap.size + 2 → Kept (fun b => b = g) wr wr' := fun g hg' => Kept.of_grown hg fun b hb _ e => by
    subst hb
    have := (h.ownC.1.blk e.symm).1
    omega
  refine ⟨h.but.grown hg fun b hb => by have := (h.ownC.1.blk hb).1; omega, h.gr.keep (hk _ (by omega)), ⟨_, h.gt.keep (hk _ (by omega))⟩, ⟨K, hl, hK.keep2 hgw hD (Kept.of_grown hg fun b hb _ e => by have := (h.ownC.1.blk e.symm).1; omega)⟩, ⟨?_, ?_⟩, ?_, ?_⟩
  · simpa using ho
  · intro x hx
    rcases List.mem_append.1 hx with hx | hx
    · exact h.ownC.2 x hx
    · simp at hx; subst hx; exact ht
  · exact Own.keep h.ownK (Kept.of_grown hg fun b hb _ e => h.sep b e.symm hb)
  · intro b hb hb'
    rcases hat with e | e
    · rw [e] at hb; exact h.sep b hb hb'
    · rw [e] at hb
      have := (Own.blk h.ownK hb').2
      injection hb with hb
      omega
theorem TBA.store (h : TBA w g A l c Ac cc cols Ak ck ks wr) (hgw : g < w.heap.size) (hD : ∀ b o, A = some ⟨b, o, none⟩ → l ≠ [] → b < w.heap.size) : TB w g A l c Ac cc cols Ak ck ks (wr.setCell ⟨w.heap.size + 1, 5, none⟩ (.slice Ac cols.length cc)) := by
  obtain ⟨K, hl, hK⟩ := h.num
  obtain ⟨x, hx⟩ := h.gt
  have ho := (Only.refl (w.heap.size + 1) wr).set 5 (.slice Ac cols.length cc)
  exact ⟨h.but.set (by omega), h.gr.keep (ho.kept fun b _ e => by omega), hx.set 5 _, ⟨K, hl, hK.keep2 hgw hD (ho.kept fun b _ e => by omega)⟩, ⟨ho.own h.ownC.1 (by omega), h.ownC.2⟩, ho.own h.ownK (by omega), h.sep⟩
theorem TB.appK {A4 : Option Addr} {c4 : Nat} {x : Int} (h : TB w g A l c Ac cc cols Ak ck ks wr) (hgw : g < w.heap.size) (hD : ∀ b o, A = some ⟨b, o, none⟩ → l ≠ [] → b < w.heap.size) (hg : wr.grownBy wr' (ob Ak)) (ho : Own wr' (w.heap.size + 2) 3 1 A4 (ks.length + 1) c4 (ks.map (Value.int .i64) ++ [.int .i64 x]))
    (hat : ob A4 = ob Ak ∨ ob A4 = some wr.heap.size) : TB w g A l c Ac cc cols A4 c4 (ks ++ [x]) wr' := by
  obtain ⟨K, hl, hK⟩ := h.num
  have hk : ∀ g, g < w.heap.size + 2 → Kept (fun b => b = g) wr wr' := fun g hg' => Kept.of_grown hg fun b hb _ e => by
    subst hb
    have := (Own.blk h.ownK e.symm).1
    omega
  refine ⟨h.but.grown hg fun b hb => by have := (Own.blk h.ownK hb).1; omega, h.gr.keep (hk _ (by omega)), h.gt.keep (hk _ (by omega)), ⟨K, hl, hK.keep2 hgw hD (Kept.of_grown hg fun b hb _ e => by have := (Own.blk h.ownK e.symm).1; omega)⟩, ⟨?_, h.ownC.2⟩, ?_, ?_⟩
  · exact h.ownC.1.keep (Kept.of_grown hg fun b hb _ e => h.sep b hb e.symm)
  · unfold OwnIs
    simpa using ho
  · intro b hb hb'
    rcases hat with e | e
    · rw [e] at hb'; exact h.sep b hb hb'
    · rw [e] at hb'
      have := (h.ownC.1.blk hb).2
      injection hb' with hb'
      omega
end
/-- The facts of the statement 'v.Cols = append(v.Cols, names[k])'. -/
def tInv (w : World) (g : Nat) (A : Option Addr) (l : List Int) (c : Nat) (Ac : Option Addr) (cc : Nat) (cols : List ByteArray) (Ak : Option Addr) (ck : Nat) (ks : List Int) (t : ByteArray) (k : Nat) (γ : Nat) (w' : World) : Prop := γ ≤ 4 ∧ (γ ≤ 2 → TB w g A l c Ac cc cols Ak ck ks w')
def gTab (w : World) (g : Nat) (A : Option Addr) (l : List Int) (c : Nat) (Ac : Option Addr) (cc : Nat) (cols : List ByteArray) (Ak : Option Addr) (ck : Nat) (ks : List Int) (t : ByteArray) (k : Nat) : Nat → List Value → Nat → World → Prop
  | 0, [v], _, _ => v = .pointer (some ⟨w.heap.size + 1, 5, none⟩)
  | 1, [v], _, _ => v = .slice Ac cols.length cc
  | 2, [v], γ, w' => ∃ g : Nat, v = .slice (some ⟨g, 0, none⟩) 3 3 ∧ 1 ≤ γ ∧ (γ = 1 → Blk w' g 9 names3A)
  | 3, [v], _, _ => v = .int .i64 (k : Int)
  | 4, [v], γ, w' => ∃ g : Nat, v = .pointer (some ⟨g, k, none⟩) ∧ 1 ≤ γ ∧ (γ = 1 → Blk w' g 9 names3A)
  | 5, [v], γ, _ => v = .string t ∧ 1 ≤ γ
  | 6, [v], γ, w' => ∃ g : Nat, v = .slice (some ⟨g, 0, none⟩) 1 1 ∧ 2 ≤ γ ∧ (γ = 2 → Blk w' g 9 #[.string t])
  | 7, [v], γ, w' => ∃ (A4 : Option Addr) (c4 : Nat), v = .slice A4 (cols.length + 1) c4 ∧ 3 ≤ γ ∧ (γ = 3 → TBA w g A l c A4 c4 (cols ++ [t]) Ak ck ks w')
  | 8, [v], _, _ => v = .pointer (some ⟨w.heap.size + 1, 5, none⟩)
  | 9, [_], γ, w' => 4 ≤ γ ∧ (γ = 4 → ∃ (A4 : Option Addr) (c4 : Nat), TB w g A l c A4 c4 (cols ++ [t]) Ak ck ks w')
  | _, _, _, _ => True
theorem gTab_st (w : World) (g : Nat) (A : Option Addr) (l : List Int) (c : Nat) (Ac : Option Addr) (cc : Nat) (cols : List ByteArray) (Ak : Option Addr) (ck : Nat) (ks : List Int) (t : ByteArray) (k : Nat) : ∀ i l' γ v γ' v', SR (tInv w g A l c Ac cc cols Ak ck ks t k) γ v γ' v' → gTab w g A l c Ac cc cols Ak ck ks t k i l' γ v → gTab w g A l c Ac cc cols Ak ck ks t k i l' γ' v' := by
  intro i l' γ v γ' v' r h
  have hle := r.le
  unfold gTab at h ⊢
  split at h
  all_goals first
    | exact h
    | (obtain ⟨h1, h2⟩ := h; exact ⟨h1, by omega⟩)
    | (obtain ⟨x, h1, h3, h4⟩ := h; exact ⟨x, h1, by omega, fun e => by rw [r.eq (by omega)]; exact h4 (by omega)⟩)
    | (obtain ⟨x, y, h1, h3, h4⟩ := h; exact ⟨x, y, h1, by omega, fun e => by rw [r.eq (by omega)]; exact h4 (by omega)⟩)
    | (obtain ⟨h3, h4⟩ := h; exact ⟨by omega, fun e => by rw [r.eq (by omega)]; exact h4 (by omega)⟩)
def dTab : Nat → List Nat := fun i => [i]
def stTab : List Nat := [100, 3, 1, 100, 100, 2, 2, 3, 100, 4]

def RetMV (w : World) (g : Nat) (e : Ending) (w' : World) : Prop := ∃ (x : Val) (A : Option Addr) (c : Nat) (B : Option Addr) (e' : Nat), e = .returned (.agg #[.int .i64 x.kind, .string x.s, .int .i64 x.dn, .int .i64 x.ds, .int .i64 x.n, .slice A x.cols.length c, .slice B x.rows.length e']) ∧ (x.cols.length ≤ c ∧ x.rows.length ≤ e') ∧ RV w' (Fresh w) 1 x A B ∧ But g w w'
set_option maxRecDepth 100000 in
set_option maxHeartbeats 4000000 in
theorem Num_Table (g : Nat) (A : Option Addr) (l : List Int) (c K : Nat) (w : World) (h : NSt w g A l c K) (hK1 : l.length ≤ K + 1) : Calls Tryz.prog 121 #[.pointer (some ⟨g, 0, none⟩)] w (RetMV w g) := by
  have hgw := h.1.1.lt
  have hne : w.heap.size ≠ g := by omega
  have HD := Lib.hid (TxR.data h)
  have hx0 : Ext w ((w.alloc (.cells #[.int .i64 0, .string ⟨#[]⟩, .int .i64 0, .int .i64 0, .int .i64 0, .slice none 0 0, .slice none 0 0] 33)).alloc (.cells #[.int .i64 5, .string ⟨#[]⟩, .int .i64 0, .int .i64 0, .int .i64 0, .slice none 0 0, .slice none 0 0] 33)) := ((Ext.refl w).alloc _).alloc _
  have HN := Lib.hid (h.ext hx0)
  have HB0 := Lib.hid (But.of_ext (g := g) hx0)
  have HG0 := Lib.hid ((Blk.new w 33 #[.int .i64 0, .string ⟨#[]⟩, .int .i64 0, .int .i64 0, .int .i64 0, .slice none 0 0, .slice none 0 0]).keep (Kept.alloc _ _ (.cells #[.int .i64 5, .string ⟨#[]⟩, .int .i64 0, .int .i64 0, .int .i64 0, .slice none 0 0, .slice none 0 0] 33)))
  have HG1 := Lib.hid (show Blk ((w.alloc (.cells #[.int .i64 0, .string ⟨#[]⟩, .int .i64 0, .int .i64 0, .int .i64 0, .slice none 0 0, .slice none 0 0] 33)).alloc (.cells #[.int .i64 5, .string ⟨#[]⟩, .int .i64 0, .int .i64 0, .int .i64 0, .slice none 0 0, .slice none 0 0] 33)) (w.heap.size + 1) 33 #[.int .i64 5, .string ⟨#[]⟩, .int .i64 0, .int .i64 0, .int .i64 0, .slice none 0 0, .slice none 0 0] by
    have := Blk.new (w.alloc (.cells #[.int .i64 0, .string ⟨#[]⟩, .int .i64 0, .int .i64 0, .int .i64 0, .slice none 0 0, .slice none 0 0] 33)) 33 #[.int .i64 5, .string ⟨#[]⟩, .int .i64 0, .int .i64 0, .int .i64 0, .slice none 0 0, .slice none 0 0]
    simpa using this)
  clear h hx0
  go_enter Tryz.func121, Tryz.ntmps121
  go_wp2_with fail
  refine (Num_Next2 4 g A l c K _ (by omega) (by omega) HN.out).mono ?_
  rintro e1 w1 ⟨m, K1, rfl, hm, hKK, hN1, hb1, hs1⟩
  have HM0 := Lib.hid (show TB w g A l c none 0 [] none 0 [] w1 from ⟨HB0.out.trans hb1, hb1.blk HG0.out hne, hb1.blk HG1.out (by omega), ⟨K1, by omega, hN1⟩, OwnSs.nil _ _, OwnIs.nil _ _, fun b hb => by cases hb⟩)
  clear hKK hN1 hb1 hs1 HN HB0 HG0 HG1
  go_wp2
  go_loopw [5, 6] (fun v i wr => ∃ (k : Nat) (Ac : Option Addr) (cc : Nat) (Ak : Option Addr) (ck : Nat) (ks : List Int), k ≤ m ∧ i = .int .i64 k ∧ ks.length = k ∧ v = .slice Ak k ck ∧ TB w g A l c Ac cc (names3.take k) Ak ck ks wr) (fun _ i _ => m - (intOf i).toNat)
  case atStart => exact ⟨0, none, 0, none, 0, [], Nat.zero_le _, rfl, rfl, rfl, HM0.out⟩
  case round =>
    clear HM0
    obtain ⟨k, Ac, cc, Ak, ck, ks, hk, rfl, hkl, rfl, hm0⟩ := hrel
    obtain ⟨cols, hcols⟩ : ∃ cols, cols = names3.take k := ⟨_, rfl⟩
    rw [← hcols] at hm0
    have HM := Lib.hid hm0
    have HKL := Lib.hid hkl
    have HCO := Lib.hid hcols
    clear hm0 hkl hcols
    have HCL := Lib.hid (show cols.length = k by rw [HCO.out, List.length_take]; have : names3.length = 3 := rfl; omega)
    by_cases hlt : k < m
    · obtain ⟨hk3, ht, htz⟩ := names3_at k (by omega)
      obtain ⟨t, htt⟩ : ∃ t, t = names3[k] := ⟨_, rfl⟩
      rw [← htt] at ht htz
      have HTT := Lib.hid ht
      have HTZ := Lib.hid htz
      have HTE := Lib.hid htt
      clear ht htz htt
      go_upto_region 7 with fail
      refine wp_region_lin_lit (by kernel_rfl) dTab (by kernel_rfl) (SR (tInv w g A l c Ac cc cols Ak ck ks t k)) (SR.refl _) (SR.trans _) (SN stTab) (gTab w g A l c Ac cc cols Ak ck ks t k) (gTab_st _ _ _ _ _ _ _ _ _ _ _ _ _) 0 (SN.zero (by decide)) ⟨?_, ?_, ?_, ?_, ?_, ?_, ?_, ?_, ?_, ?_, trivial⟩ ?_
      · refine LinStep.yes fun vals γ w' ρ hR hN hp hρ hc hf hg => ⟨rfl, ?_⟩
        have hi := hR.inv ⟨by omega, fun _ => HM.out.more (Ext.refl _).drew⟩
        have e3 : ρ (.tmp 3) = .pointer (some ⟨w.heap.size + 1, 0, none⟩) := hρ 3
        clear hR hN hp hρ hi
        go_light
        go_simp
        exact ⟨γ, SR.refl _ _ _, fun _ _ _ h => h, rfl⟩
      · refine LinStep.yes fun vals γ w' ρ hR hN hp hρ hc hf hg => ⟨rfl, ?_⟩
        have hi := hR.inv ⟨by omega, fun _ => HM.out.more (Ext.refl _).drew⟩
        have e19 : ρ (.tmp 19) = _ := (hρ 19).trans (hp 0 (by decide))
        have hb := (hi.2 (by have h : γ < 3 := hN; omega)).gt
        have k1 := hb.cell (i := 5) rfl
        clear hR hN hp hρ hi hb
        go_light
        go_simp
        exact ⟨γ, SR.refl _ _ _, fun _ _ _ h => h, rfl⟩
      · refine LinStep.yes fun vals γ w' ρ hR hN hp hρ hc hf hg => ⟨rfl, ?_⟩
        have hi := hR.inv ⟨by omega, fun _ => HM.out.more (Ext.refl _).drew⟩
        have h0 : γ = 0 := by have h : γ < 1 := hN; omega
        subst h0
        have HI := Lib.hid (hi.2 (by omega))
        clear hR hN hp hρ hi
        go_light
        go_simp
        exact ⟨1, SR.up (by omega) ⟨by omega, fun _ => HI.out.more ((Ext.refl _).alloc _)⟩, SN.up (by omega) (by decide) rfl, _, rfl, by omega, fun _ => Blk.new _ _ _⟩
      · refine LinStep.yes fun vals γ w' ρ hR hN hp hρ hc hf hg => ⟨rfl, ?_⟩
        have hi := hR.inv ⟨by omega, fun _ => HM.out.more (Ext.refl _).drew⟩
        have e6 : ρ (.tmp 6) = .int .i64 (k : Int) := hρ 6
        clear hR hN hp hρ hi
        go_light
        go_simp
        exact ⟨γ, SR.refl _ _ _, fun _ _ _ h => h, rfl⟩
      · refine LinStep.yes fun vals γ w' ρ hR hN hp hρ hc hf hg => ⟨rfl, ?_⟩
        have hi := hR.inv ⟨by omega, fun _ => HM.out.more (Ext.refl _).drew⟩
        obtain ⟨g', g2, hr1, hbk⟩ := hp 2 (by decide)
        have e21 : ρ (.tmp 21) = _ := (hρ 21).trans g2
        have e22 : ρ (.tmp 22) = _ := (hρ 22).trans (hp 3 (by decide))
        have i0 : (0 : Int) ≤ (k : Int) := by omega
        have i1 : (k : Int) < 3 := by omega
        have HBK := Lib.hid hbk
        clear hR hN hp hρ hi g2 hbk
        go_light
        go_simp
        exact ⟨γ, SR.refl _ _ _, fun _ _ _ h => h, g', rfl, hr1, HBK.out⟩
      · refine LinStep.yes fun vals γ w' ρ hR hN hp hρ hc hf hg => ⟨rfl, ?_⟩
        have hi := hR.inv ⟨by omega, fun _ => HM.out.more (Ext.refl _).drew⟩
        obtain ⟨g', g4, hr1, hbk⟩ := hp 4 (by decide)
        have e23 : ρ (.tmp 23) = _ := (hρ 23).trans g4
        have q := (hbk (by have h : γ < 2 := hN; omega)).cell HTT.out
        clear hR hN hp hρ hi g4 hbk
        go_light
        go_simp
        exact ⟨γ, SR.refl _ _ _, fun _ _ _ h => h, rfl, hr1⟩
      · refine LinStep.yes fun vals γ w' ρ hR hN hp hρ hc hf hg => ⟨rfl, ?_⟩
        have hi := hR.inv ⟨by omega, fun _ => HM.out.more (Ext.refl _).drew⟩
        obtain ⟨g5, hr1⟩ := hp 5 (by decide)
        have h0 : γ = 1 := by have h : γ < 2 := hN; omega
        subst h0
        have e24 : ρ (.tmp 24) = _ := (hρ 24).trans g5
        have HI := Lib.hid (hi.2 (by omega))
        clear hR hN hp hρ hi g5
        go_light
        go_simp
        exact ⟨2, SR.up (by omega) ⟨by omega, fun _ => HI.out.more ((Ext.refl _).alloc _)⟩, SN.up (by omega) (by decide) rfl, _, rfl, by omega, fun _ => Blk.new _ _ _⟩
      · refine LinStep.yes fun vals γ w' ρ hR hN hp hρ hc hf hg => ⟨rfl, ?_⟩
        have hi := hR.inv ⟨by omega, fun _ => HM.out.more (Ext.refl _).drew⟩
        obtain ⟨g', g6, hr1, hbk⟩ := hp 6 (by decide)
        have h0 : γ = 2 := by have h : γ < 3 := hN; omega
        subst h0
        have e20 : ρ (.tmp 20) = _ := (hρ 20).trans (hp 1 (by decide))
        have e25 : ρ (.tmp 25) = _ := (hρ 25).trans g6
        have hd := hi.2 (by omega)
        refine lin_app (.tmp 20) (.tmp 25) rfl tiS e20 hd.ownC.1 e25 (hbk rfl).rd rfl (by simp [Value.oneCell']) (by have := HCL.out; omega) (by decide) (by have h1 := hd.gt.lt; omega) ?_
        intro A4 c4 w4 hown4 hg4 hat4
        exact ⟨3, SR.up (by omega) ⟨by omega, fun h => absurd h (by omega)⟩, SN.up (by omega) (by decide) rfl, A4, c4, rfl, by omega, fun _ => hd.app hgw HD.out hg4 hown4 hat4 (by have := HTZ.out; omega)⟩
      · refine LinStep.yes fun vals γ w' ρ hR hN hp hρ hc hf hg => ⟨rfl, ?_⟩
        have hi := hR.inv ⟨by omega, fun _ => HM.out.more (Ext.refl _).drew⟩
        have e3 : ρ (.tmp 3) = .pointer (some ⟨w.heap.size + 1, 0, none⟩) := hρ 3
        clear hR hN hp hρ hi
        go_light
        go_simp
        exact ⟨γ, SR.refl _ _ _, fun _ _ _ h => h, rfl⟩
      · refine LinStep.yes fun vals γ w' ρ hR hN hp hρ hc hf hg => ⟨rfl, ?_⟩
        have hi := hR.inv ⟨by omega, fun _ => HM.out.more (Ext.refl _).drew⟩
        obtain ⟨A4, c4, g7, hr3, hda⟩ := hp 7 (by decide)
        have h0 : γ = 3 := by have h : γ < 4 := hN; omega
        subst h0
        have e26 : ρ (.tmp 26) = _ := (hρ 26).trans g7
        have e27 : ρ (.tmp 27) = _ := (hρ 27).trans (hp 8 (by decide))
        have HA := Lib.hid (hda rfl)
        obtain ⟨x, hx⟩ := (hda rfl).gt
        have k0 := hx.cell (i := 5) rfl
        have kf := hx.frozen
        have kz := hx.lt
        clear hR hN hp hρ hi g7 hda hx
        go_light
        go_simp
        refine ⟨4, SR.up (by omega) ⟨by omega, fun h => absurd h (by omega)⟩, SN.up (by omega) (by decide) rfl, by omega, fun _ => ⟨A4, c4, ?_⟩⟩
        have := HA.out.store hgw HD.out
        simpa using this
      · intro vals γ w' hR hG
        have hi := hR.inv ⟨by omega, fun _ => HM.out.more (Ext.refl _).drew⟩
        obtain ⟨h4, h5⟩ := hG 9 (by decide)
        obtain ⟨A4, c4, hm1⟩ := h5 (by have := hi.1; omega)
        have HM1 := Lib.hid hm1
        clear hR hG hi h4 h5 hm1
        simp only [lexFrame, Act.put, List.setIfInBounds_toArray, List.set_cons_succ, List.set_cons_zero, Nat.zero_add, Nat.reduceAdd]
        generalize vals 0 = u0, vals 1 = u1, vals 2 = u2, vals 3 = u3, vals 4 = u4, vals 5 = u5, vals 6 = u6, vals 7 = u7, vals 8 = u8, vals 9 = u9
        go_wp2_with fail
        obtain ⟨K2, hl2, hN2⟩ := HM1.out.num
        refine (Num_Next2 4 g A l c K2 _ (by omega) (by omega) hN2).mono ?_
        rintro e3 w3 ⟨r3, K3, rfl, hr3, hK3, hN3, hb3, hs3⟩
        have HM3 := Lib.hid (HM1.out.next hgw hb3 (by omega) hN3)
        clear hl2 hN2 hK3 hN3 hb3 hs3
        have hok := Own.ext HM3.out.ownK ((Ext.refl w3).alloc (.cells #[.int .i64 (1 + (r3 : Int))] 3))
        rw [HKL.out] at hok
        have HOK := Lib.hid hok
        have hsz3 : w.heap.size + 2 ≤ w3.heap.size := by have := HM3.out.gt.lt; omega
        clear hok HM HM1
        go_wp2_with (at_builtin; go_must (refine wpList_app rfl (.tmp 28) (.tmp 32) rfl tiI rfl HOK.out rfl (Blk.rd (Blk.new _ _ _)) rfl (by simp [Value.oneCell']) (by omega) (by decide) (by simp; omega) ?_); intro A5 c5 w5 hown5 hg5 hat5)
        go_roundw
        case rel =>
          refine ⟨k + 1, A4, c4, A5, c5, ks ++ [1 + (r3 : Int)], by omega, by go_num, by simp [HKL.out], rfl, ?_⟩
          have h1 := (HM3.out.more ((Ext.refl w3).alloc (.cells #[.int .i64 (1 + (r3 : Int))] 3))).appK hgw HD.out hg5 (by rw [HKL.out]; exact hown5) hat5
          rw [List.take_succ_eq_append_getElem hk3, ← HCO.out, ← HTE.out]
          exact h1
        case measure => simp [intOf]; omega
    · go_wp2_with fail
      obtain ⟨K2, hl2, hN2⟩ := HM.out.num
      refine (Num_Next2 5 g A l c K2 _ (by omega) (by omega) hN2).mono ?_
      rintro e3 w3 ⟨r3, K3, rfl, hr3, hK3, hN3, hb3, hs3⟩
      have hr0 : r3 = 0 := by omega
      subst hr0
      have HM3 := Lib.hid (HM.out.next hgw hb3 (by omega) hN3)
      clear hl2 hN2 hK3 hN3 hb3 hs3 HM
      go_wp2
      go_loop [8] (fun i => i = .int .i64 0) (fun _ => 0)
      case atStart => rfl
      case round =>
        subst hrel
        have hgt := HM3.out.gt
        have hgr := HM3.out.gr
        have t0 := hgt.cell (i := 0) rfl
        have r0 := hgr.cell (i := 0) rfl
        have t1 := hgt.cell (i := 1) rfl
        have r1 := hgr.cell (i := 1) rfl
        have t2 := hgt.cell (i := 2) rfl
        have r2 := hgr.cell (i := 2) rfl
        have t3 := hgt.cell (i := 3) rfl
        have r3 := hgr.cell (i := 3) rfl
        have t4 := hgt.cell (i := 4) rfl
        have r4 := hgr.cell (i := 4) rfl
        have t5 := hgt.cell (i := 5) rfl
        have r5 := hgr.cell (i := 5) rfl
        have t6 := hgt.cell (i := 6) rfl
        have r6 := hgr.cell (i := 6) rfl
        have rf := hgr.frozen
        have rz := hgr.lt
        have HCC := Lib.hid (show cols.length ≤ cc from HM3.out.ownC.1.cap)
        clear hgt hgr
        go_wp2
        refine bodyPost_ret (v := .agg #[.int .i64 5, .string ⟨#[]⟩, .int .i64 0, .int .i64 0, .int .i64 0, .slice Ac cols.length cc, .slice none 0 0]) (by simp [results, Tryz.results121, go_sem, r0, r1, r2, r3, r4, r5, r6, rf, rz]) rfl ⟨⟨5, ⟨#[]⟩, 0, 0, 0, cols, []⟩, Ac, cc, none, 0, rfl, ⟨HCC.out, Nat.le_refl _⟩, ?_, ?_⟩
        · refine RV.mk (Nat.zero_le _) ?_ Rows.nil
          have h1 := HM3.out.ownC.strs (T := fun b => w.heap.size + 2 ≤ b) (by have := HCL.out; omega) fun b hb => (HM3.out.ownC.1.blk hb).1
          refine (h1.keep ?_).mono fun b _ hb => by unfold Fresh; omega
          iterate 7 with_reducible refine Kept.set2 ?_ (by show ¬ (_ ≤ _); omega)
          with_reducible exact Kept.refl _ _
        · iterate 7 with_reducible refine But.set ?_ (by omega)
          with_reducible exact HM3.out.but

set_option maxRecDepth 100000 in
set_option maxHeartbeats 2000000 in
theorem Num_Value_5 (g : Nat) (A : Option Addr) (l : List Int) (c K : Nat) (w : World) (h : NSt w g A l c K) (hK1 : l.length ≤ K + 1) : Calls Tryz.prog 88 #[.pointer (some ⟨g, 0, none⟩), .int .i64 5] w (RetMV w g) := by
  have hgw := h.1.1.lt
  have hne : w.heap.size ≠ g := by omega
  have HN := Lib.hid (h.ext ((Ext.refl w).alloc (.cells #[.int .i64 0, .string ⟨#[]⟩, .int .i64 0, .int .i64 0, .int .i64 0, .slice none 0 0, .slice none 0 0] 33)))
  have HB := Lib.hid (But.of_ext (g := g) ((Ext.refl w).alloc (.cells #[.int .i64 0, .string ⟨#[]⟩, .int .i64 0, .int .i64 0, .int .i64 0, .slice none 0 0, .slice none 0 0] 33)))
  have HBR0 := Lib.hid (Blk.new w 33 #[.int .i64 0, .string ⟨#[]⟩, .int .i64 0, .int .i64 0, .int .i64 0, .slice none 0 0, .slice none 0 0])
  clear h
  go_enter Tryz.func88, Tryz.ntmps88
  go_wp2_with fail
  refine (Num_Table g A l c K _ HN.out hK1).mono ?_
  rintro e1 w1 ⟨x, A1, c1, B1, e1', rfl, hcp, hv, hb1⟩
  have HBR := Lib.hid (hb1.blk HBR0.out hne)
  have HV := Lib.hid hv
  have HB1 := Lib.hid (HB.out.trans hb1)
  clear hv hb1
  have r0 := HBR.out.cell (i := 0) rfl
  have r1 := HBR.out.cell (i := 1) rfl
  have r2 := HBR.out.cell (i := 2) rfl
  have r3 := HBR.out.cell (i := 3) rfl
  have r4 := HBR.out.cell (i := 4) rfl
  have r5 := HBR.out.cell (i := 5) rfl
  have r6 := HBR.out.cell (i := 6) rfl
  have rf := HBR.out.frozen
  have rz := HBR.out.lt
  go_wp2
  refine bodyPost_ret (v := (.agg #[.int .i64 x.kind, .string x.s, .int .i64 x.dn, .int .i64 x.ds, .int .i64 x.n, .slice A1 x.cols.length c1, .slice B1 x.rows.length e1'])) (by simp [results, Tryz.results88, go_sem, r0, r1, r2, r3, r4, r5, r6, rf, rz]) rfl ⟨x, A1, c1, B1, e1', rfl, hcp, ?_, ?_⟩
  · refine (HV.out.keep ?_).mono fun b _ hb => by unfold Fresh at hb ⊢; simp at hb; omega
    iterate 7 with_reducible refine Kept.set2 ?_ (by unfold Fresh; simp)
    with_reducible exact Kept.refl _ _
  · iterate 7 with_reducible refine But.set ?_ (by omega)
    with_reducible exact HB1.out
theorem Num_ValueM (kind : Int) (g : Nat) (A : Option Addr) (l : List Int) (c K : Nat) (w : World) (h : NSt w g A l c K) (hK1 : l.length ≤ K + 1) : Calls Tryz.prog 88 #[.pointer (some ⟨g, 0, none⟩), .int .i64 kind] w (RetMV w g) := by
  by_cases hk : kind = 5
  · subst hk; exact Num_Value_5 g A l c K w h hK1
  · refine (Num_Value_flat kind g A l c K w h hk).mono ?_
    rintro e1 w1 ⟨x, K', rfl, ⟨h1, h2, h3⟩, -, -, hb⟩
    exact ⟨x, none, 0, none, 0, rfl, ⟨by rw [h1]; exact Nat.le_refl _, by rw [h2]; exact Nat.le_refl _⟩, RV.mk h3 (by rw [h1]; exact Strs.nil) (by rw [h2]; exact Rows.nil), hb⟩
set_option maxRecDepth 100000 in
set_option maxHeartbeats 2000000 in
theorem r06_Made (l : List Int) (hl2 : l.length ≤ 2) (A : Option Addr) (c : Nat) (w : World) (S : Nat → Prop) (hl : IntsL w S A l) : Calls Tryz.prog 44 #[.slice A l.length c] w (fun e w' => ∃ x, RetV w (Fresh w) 1 x e w') := by
  have hx0 : Ext w ((w.alloc (.cells #[.int .i64 0, .string ⟨#[]⟩, .int .i64 0, .int .i64 0, .int .i64 0, .slice none 0 0, .slice none 0 0] 33)).alloc (.cells #[.slice A l.length c, .int .i64 0] 73)) := ((Ext.refl w).alloc _).alloc _
  have HX0 := Lib.hid hx0
  have HN := Lib.hid (show NSt ((w.alloc (.cells #[.int .i64 0, .string ⟨#[]⟩, .int .i64 0, .int .i64 0, .int .i64 0, .slice none 0 0, .slice none 0 0] 33)).alloc (.cells #[.slice A l.length c, .int .i64 0] 73)) (w.heap.size + 1) A l c 0 from ⟨⟨by
    have := Blk.new (w.alloc (.cells #[.int .i64 0, .string ⟨#[]⟩, .int .i64 0, .int .i64 0, .int .i64 0, .slice none 0 0, .slice none 0 0] 33)) 73 #[.slice A l.length c, .int .i64 0]
    simpa using this, Nat.zero_le _⟩, fun b => b < w.heap.size, by omega, (hl.mono (T := fun b => b < w.heap.size) fun i hi _ => hi).keep (hx0.kept _)⟩)
  have HBR0 := Lib.hid ((Blk.new w 33 #[.int .i64 0, .string ⟨#[]⟩, .int .i64 0, .int .i64 0, .int .i64 0, .slice none 0 0, .slice none 0 0]).keep (Kept.alloc _ _ (.cells #[.slice A l.length c, .int .i64 0] 73)))
  clear hl hx0
  go_enter Tryz.func44, Tryz.ntmps44
  go_wp2_with fail
  refine (Num_Next2 6 (w.heap.size + 1) A l c 0 _ (by omega) (by omega) HN.out).mono ?_
  rintro e1 w1 ⟨k, K1, rfl, hk, hK1, hN1, hb1, hs1⟩
  have HN1 := Lib.hid hN1
  have HK1 := Lib.hid (show l.length ≤ K1 + 1 by omega)
  have HB1 := Lib.hid hb1
  have HS1 := Lib.hid hs1
  clear hK1 hN1 hb1 hs1
  go_wp2_with fail
  refine (Num_ValueM (k : Int) (w.heap.size + 1) A l c K1 _ HN1.out HK1.out).mono ?_
  rintro e1 w2 ⟨x, A1, c1, B1, e1', rfl, hcp, hv, hb2⟩
  have HBR := Lib.hid (hb2.blk (HB1.out.blk HBR0.out (by omega)) (by omega))
  have HV := Lib.hid hv
  have HB2 := Lib.hid (But.exts HX0.out (HB1.out.trans hb2) (by omega))
  have hz : w.heap.size + 2 ≤ w1.heap.size := by have := HS1.out; simp at this; omega
  clear hv hb2
  have r0 := HBR.out.cell (i := 0) rfl
  have r1 := HBR.out.cell (i := 1) rfl
  have r2 := HBR.out.cell (i := 2) rfl
  have r3 := HBR.out.cell (i := 3) rfl
  have r4 := HBR.out.cell (i := 4) rfl
  have r5 := HBR.out.cell (i := 5) rfl
  have r6 := HBR.out.cell (i := 6) rfl
  have rf := HBR.out.frozen
  have rz := HBR.out.lt
  go_wp2
  refine bodyPost_ret (v := (.agg #[.int .i64 x.kind, .string x.s, .int .i64 x.dn, .int .i64 x.ds, .int .i64 x.n, .slice A1 x.cols.length c1, .slice B1 x.rows.length e1'])) (by simp [results, Tryz.results44, go_sem, r0, r1, r2, r3, r4, r5, r6, rf, rz]) rfl ⟨x, A1, c1, B1, e1', rfl, hcp, ?_, ?_⟩
  · refine (HV.out.keep ?_).mono fun b _ hb => by unfold Fresh at hb ⊢; omega
    iterate 7 with_reducible refine Kept.set2 ?_ (by unfold Fresh; omega)
    with_reducible exact Kept.refl _ _
  · iterate 7 with_reducible refine Ext.set2 ?_ (by omega) _
    with_reducible exact HB2.out
end Go.Proofs.YtcmmkeiiapbgcaaGreatDoor
/- The reference's Odd: rows and cells replaced. Conditions: the table reads as data, and is regular. -/
namespace Go.Proofs.YtcmmkeiiapbgcaaGreatDoor
open Go Go.RowKit
theorem Rows.tl {w : World} {S : Nat → Prop} {q cr : Nat} {A : Option Addr} {l : List (List Val)} (h : Rows w S q A l) (hl : l.length ≤ cr) : Rows w S q (if cr = 1 then A else A.map fun x => ⟨x.block, x.off + 1, none⟩) l.tail := by
  match l, h, hl with
  | [], _, _ => exact Rows.nil
  | r :: rs, h, hl =>
    obtain ⟨b, o, _, _, rfl, _⟩ := h.at_ (k := 0) (by simp)
    split
    · have : rs = [] := List.eq_nil_of_length_eq_zero (by simp at hl; omega)
      subst this
      exact Rows.nil
    · exact h.tail
theorem Row.tl {w : World} {S : Nat → Prop} {q cr : Nat} {A : Option Addr} {l : List Val} (h : Row w S q A l) (hl : l.length ≤ cr) : Row w S q (if cr = 1 then A else A.map fun x => ⟨x.block, x.off + 7, none⟩) l.tail := by
  match l, h, hl with
  | [], _, _ => exact Row.nil
  | r :: rs, h, hl =>
    obtain ⟨b, o, _, _, _, _, rfl, _⟩ := h.at_ (k := 0) (by simp)
    split
    · have : rs = [] := List.eq_nil_of_length_eq_zero (by simp at hl; omega)
      subst this
      exact Row.nil
    · exact h.tail

set_option maxRecDepth 100000 in
set_option maxHeartbeats 4000000 in
theorem odd_5 (t : Look) (A B : Option Addr) (c e : Nat) (q0 q1 q2 : Int) (w : World) (S : Nat → Prop) (h : RL w S 2 t A B) (ht : OkT t) (hm : (q0.tmod 8 + 8) % 8 = 5) : Calls Tryz.prog 11 #[(.agg #[.string t.name, .slice A t.cols.length c, .slice B t.rows.length e]), .agg #[.int .i64 q0, .int .i64 q1, .int .i64 q2]] w (RetOd w) := by
  have H := Lib.hid h
  obtain ⟨ht1, ht2, ht3, ht4⟩ := ht
  have HT4 := Lib.hid ht4
  obtain ⟨hb1, hb2⟩ := next_bd q0 8 (by omega)
  have hnm := h.1
  clear h ht4
  obtain ⟨W0, hW0⟩ : ∃ W0, W0 = ((w.alloc (.cells #[.string t.name, .slice A t.cols.length c, .slice B t.rows.length e] 28)).alloc (.cells #[.int .i64 q0, .int .i64 q1, .int .i64 q2] 23)).alloc (.cells #[.string ⟨#[]⟩, .slice none 0 0, .slice none 0 0] 28) := ⟨_, rfl⟩
  have HW0 := Lib.hid hW0
  have hx0 : Ext w W0 := by rw [hW0]; exact (((Ext.refl w).alloc _).alloc _).alloc _
  have b0 : Blk W0 w.heap.size 28 #[.string t.name, .slice A t.cols.length c, .slice B t.rows.length e] := by rw [hW0]; exact ((Blk.new _ _ _).keep (Kept.alloc _ _ _)).keep (Kept.alloc _ _ _)
  have b1 : Blk W0 (w.heap.size + 1) 23 #[.int .i64 q0, .int .i64 q1, .int .i64 q2] := by
    rw [hW0]
    have := (Blk.new (w.alloc (.cells #[.string t.name, .slice A t.cols.length c, .slice B t.rows.length e] 28)) 23 #[.int .i64 q0, .int .i64 q1, .int .i64 q2]).keep (Kept.alloc _ _ (.cells #[.string ⟨#[]⟩, .slice none 0 0, .slice none 0 0] 28))
    simpa using this
  have b2 : Blk W0 (w.heap.size + 1 + 1) 28 #[.string ⟨#[]⟩, .slice none 0 0, .slice none 0 0] := by
    rw [hW0]
    have := Blk.new ((w.alloc (.cells #[.string t.name, .slice A t.cols.length c, .slice B t.rows.length e] 28)).alloc (.cells #[.int .i64 q0, .int .i64 q1, .int .i64 q2] 23)) 28 #[.string ⟨#[]⟩, .slice none 0 0, .slice none 0 0]
    simpa using this
  have hs0 : W0.heap.size = w.heap.size + 3 := by rw [hW0]; simp
  have HX0 := Lib.hid hx0
  have HB0 := Lib.hid b0
  have HB1 := Lib.hid b1
  have HB2 := Lib.hid b2
  have HS0 := Lib.hid hs0
  clear hW0 hx0 b0 b1 b2 hs0
  go_enter Tryz.func11, Tryz.ntmps11
  go_wp2_with fail
  rw [← HW0.out]
  refine (r09_Copy 2 t A B c e W0 S (H.out.keep (HX0.out.kept S))).mono ?_
  rintro e1 w1 ⟨Ac, cc, Ar, cr, rfl, hoc, hor, hsep, hx1⟩
  rw [HS0.out] at hoc hor
  have HM1 := Lib.hid (show OD w q0 q1 q2 t.name Ac cc t.cols Ar cr t.rows (((w1.setCell ⟨w.heap.size, 0, none⟩ (.string t.name)).setCell ⟨w.heap.size, 1, none⟩ (.slice Ac t.cols.length cc)).setCell ⟨w.heap.size, 2, none⟩ (.slice Ar t.rows.length cr)) by
    have ho := (((Only.refl w.heap.size w1).set 0 (.string t.name)).set 1 (.slice Ac t.cols.length cc)).set 2 (.slice Ar t.rows.length cr)
    refine ⟨(HX0.out.trans hx1).only ho (by omega), ?_, (HB1.out.keep (hx1.kept _)).keep (ho.kept fun b _ e => by omega), (HB2.out.keep (hx1.kept _)).keep (ho.kept fun b _ e => by omega), ⟨ho.own hoc.1 (by omega), hoc.2⟩, hor.keep (ho.kept fun b _ e => by omega) (fun b hb hb' => hsep b hb' hb), hsep⟩
    have := (((HB0.out.keep (hx1.kept _)).set 0 (.string t.name)).set 1 (.slice Ac t.cols.length cc)).set 2 (.slice Ar t.rows.length cr)
    simpa using this)
  have q5 := HB0.out.keep (hx1.kept _)
  have k50 := q5.cell (i := 0) rfl
  have k51 := q5.cell (i := 1) rfl
  have k52 := q5.cell (i := 2) rfl
  have kf := q5.frozen
  have kz := q5.lt
  clear hoc hor hsep hx1 q5 HX0 HB0 HB1 HB2 HS0 HW0
  go_upto_region 2 with fail
  obtain ⟨w2, hw2⟩ : ∃ w2, w2 = (((w1.setCell ⟨w.heap.size, 0, none⟩ (.string t.name)).setCell ⟨w.heap.size, 1, none⟩ (.slice Ac t.cols.length cc)).setCell ⟨w.heap.size, 2, none⟩ (.slice Ar t.rows.length cr)) := ⟨_, rfl⟩
  rw [← hw2] at HM1
  rw [← hw2]
  clear hw2 k50 k51 k52 kf kz
  obtain ⟨cols, hcols⟩ : ∃ cols, cols = t.cols := ⟨_, rfl⟩
  obtain ⟨rows, hrows⟩ : ∃ rows, rows = t.rows := ⟨_, rfl⟩
  obtain ⟨nm, hnmE⟩ : ∃ nm, nm = t.name := ⟨_, rfl⟩
  rw [← hcols, ← hrows, ← hnmE] at HM1
  rw [← hcols] at ht1 ht2 HT4
  rw [← hrows] at ht3 HT4
  rw [← hnmE] at hnm
  clear hcols hrows hnmE
  have HM := HM1
  have d0 := HM1.out.box.cell (i := 0) rfl
  have d1 := HM1.out.box.cell (i := 1) rfl
  have d2 := HM1.out.box.cell (i := 2) rfl
  have df := HM1.out.box.frozen
  have dz := HM1.out.box.lt
  have g0 := HM1.out.qb.cell (i := 0) rfl
  have g1 := HM1.out.qb.cell (i := 1) rfl
  have g2 := HM1.out.qb.cell (i := 2) rfl
  have gz := HM1.out.qb.lt
  have HR4 := Lib.hid (show ∀ r ∈ rows, r.length ≤ 4294967296 from fun r hr => by rw [HT4.out r hr]; omega)
  by_cases h0 : 0 < rows.length
  · have hcap := HM.out.rows.cap
    have h1 : 1 ≤ rows.length := h0
    go_upto_region 27 with fail
    obtain ⟨wf, hwf⟩ : ∃ wf, wf = (w2.setCell ⟨w.heap.size, 2, none⟩ (.slice (if cr = 1 then Ar else Ar.map fun x => ⟨x.block, x.off + 1, none⟩) (rows.length - 1) (cr - 1))) := ⟨_, rfl⟩
    have HF := Lib.hid (show ∃ (t : Look) (A : Option Addr) (c : Nat) (B : Option Addr) (e : Nat), OF w t A c B e wf by rw [hwf]; exact ⟨⟨nm, cols, rows.tail⟩, Ac, cc, (if cr = 1 then Ar else Ar.map fun x => ⟨x.block, x.off + 1, none⟩), cr - 1, OF.of HM.out ((Only.refl w.heap.size w2).set 2 (.slice (if cr = 1 then Ar else Ar.map fun x => ⟨x.block, x.off + 1, none⟩) (rows.length - 1) (cr - 1))) (by have := HM.out.box.set 2 (.slice (if cr = 1 then Ar else Ar.map fun x => ⟨x.block, x.off + 1, none⟩) (rows.length - 1) (cr - 1)); simpa using this) ⟨hnm, HM.out.cols.strs (by omega) fun b hb => (HM.out.cols.1.blk hb).1, (HM.out.rows.rows (by omega) HR4.out).tl hcap⟩ ⟨HM.out.cols.1.cap, by simp; omega⟩⟩)
    rw [← hwf]
    clear hwf
    obtain ⟨t', A', c', B', e', hf⟩ := HF.out
    have HF := Lib.hid hf
    have f0 := hf.box.cell (i := 0) rfl
    have f1 := hf.box.cell (i := 1) rfl
    have f2 := hf.box.cell (i := 2) rfl
    have r0 := hf.res.cell (i := 0) rfl
    have r1 := hf.res.cell (i := 1) rfl
    have r2 := hf.res.cell (i := 2) rfl
    have rf := hf.res.frozen
    have rz := hf.res.lt
    clear hf d0 d1 d2 df dz g0 g1 g2 gz
    go_wp2
    all_goals refine bodyPost_ret (v := (.agg #[.string t'.name, .slice A' t'.cols.length c', .slice B' t'.rows.length e'])) (by simp [results, Tryz.results11, go_sem, r0, r1, r2, rf, rz]) rfl ⟨t', A', c', B', e', rfl, HF.out.cap, RL.mono (RL.keep HF.out.rl (K3 ?_)) fun b _ hb => by unfold Fresh; omega, E3 ?_⟩
    all_goals first | exact ⟨HF.out.ext, by omega⟩ | omega
  · have h1 : rows.length = 0 := by omega
    go_upto_region 27 with fail
    obtain ⟨wf, hwf⟩ : ∃ wf, wf = w2 := ⟨_, rfl⟩
    have HF := Lib.hid (show ∃ (t : Look) (A : Option Addr) (c : Nat) (B : Option Addr) (e : Nat), OF w t A c B e wf by rw [hwf]; exact ⟨_, _, _, _, _, HM.out.fin hnm (by omega) (by omega) HR4.out⟩)
    rw [← hwf]
    clear hwf
    obtain ⟨t', A', c', B', e', hf⟩ := HF.out
    have HF := Lib.hid hf
    have f0 := hf.box.cell (i := 0) rfl
    have f1 := hf.box.cell (i := 1) rfl
    have f2 := hf.box.cell (i := 2) rfl
    have r0 := hf.res.cell (i := 0) rfl
    have r1 := hf.res.cell (i := 1) rfl
    have r2 := hf.res.cell (i := 2) rfl
    have rf := hf.res.frozen
    have rz := hf.res.lt
    clear hf d0 d1 d2 df dz g0 g1 g2 gz
    go_wp2
    all_goals refine bodyPost_ret (v := (.agg #[.string t'.name, .slice A' t'.cols.length c', .slice B' t'.rows.length e'])) (by simp [results, Tryz.results11, go_sem, r0, r1, r2, rf, rz]) rfl ⟨t', A', c', B', e', rfl, HF.out.cap, RL.mono (RL.keep HF.out.rl (K3 ?_)) fun b _ hb => by unfold Fresh; omega, E3 ?_⟩
    all_goals first | exact ⟨HF.out.ext, by omega⟩ | omega
def OdCInv (w w2 : World) (Ar : Option Addr) (cr n : Nat) (g : Nat) (B : Option Addr) (m e0 : Nat) (γ : Nat) (w' : World) : Prop := γ ≤ 1 ∧ (γ ≤ 0 → Ext w2 w')
def gOdC (w w2 : World) (Ar : Option Addr) (cr n : Nat) (g : Nat) (B : Option Addr) (m e0 : Nat) : Nat → List Value → Nat → World → Prop
  | 0, [v], γ, w' => v = .pointer (some ⟨w.heap.size, 2, none⟩)
  | 1, [v], γ, w' => v = .slice (some ⟨g, 0, none⟩) n cr
  | 2, [v], γ, w' => v = .pointer (some ⟨w.heap.size, 2, none⟩)
  | 3, [v], γ, w' => v = .slice (some ⟨g, 0, none⟩) n cr
  | 4, [v], γ, w' => v = .pointer (some ⟨g, 0, none⟩)
  | 5, [v], γ, w' => v = .slice B m e0
  | 6, [v], γ, w' => v = .slice (if e0 = 1 then B else B.map fun x => ⟨x.block, x.off + 7, none⟩) (m - 1) (e0 - 1)
  | 7, [v], γ, w' => v = .pointer (some ⟨g, 0, none⟩)
  | 8, [v], γ, w' => 1 ≤ γ ∧ (γ = 1 → ∃ w3, Ext w2 w3 ∧ w' = w3.setCell ⟨g, 0, none⟩ (.slice (if e0 = 1 then B else B.map fun x => ⟨x.block, x.off + 7, none⟩) (m - 1) (e0 - 1)))
  | _, _, _, _ => True
theorem gOdC_st (w w2 : World) (Ar : Option Addr) (cr n : Nat) (g : Nat) (B : Option Addr) (m e0 : Nat) : ∀ i l' γ v γ' v', SR (OdCInv w w2 Ar cr n g B m e0) γ v γ' v' → gOdC w w2 Ar cr n g B m e0 i l' γ v → gOdC w w2 Ar cr n g B m e0 i l' γ' v' := by
  intro i l' γ v γ' v' r h
  have hle := r.le
  unfold gOdC at h ⊢
  split at h
  all_goals first
    | exact h
    | (obtain ⟨h1, h2⟩ := h; exact ⟨h1, by omega⟩)
    | (obtain ⟨h1, h3, h4⟩ := h; exact ⟨h1, by omega, fun e => by rw [r.eq (by omega)]; exact h4 (by omega)⟩)
    | (obtain ⟨x0, h1, h3, h4⟩ := h; exact ⟨x0, h1, by omega, fun e => by rw [r.eq (by omega)]; exact h4 (by omega)⟩)
    | (obtain ⟨x0, x1, h1, h3, h4⟩ := h; exact ⟨x0, x1, h1, by omega, fun e => by rw [r.eq (by omega)]; exact h4 (by omega)⟩)
    | (obtain ⟨x0, x1, x2, h1, h3, h4⟩ := h; exact ⟨x0, x1, x2, h1, by omega, fun e => by rw [r.eq (by omega)]; exact h4 (by omega)⟩)
    | (obtain ⟨x0, x1, x2, x3, h1, h3, h4⟩ := h; exact ⟨x0, x1, x2, x3, h1, by omega, fun e => by rw [r.eq (by omega)]; exact h4 (by omega)⟩)
    | (obtain ⟨x0, x1, x2, x3, x4, h1, h3, h4⟩ := h; exact ⟨x0, x1, x2, x3, x4, h1, by omega, fun e => by rw [r.eq (by omega)]; exact h4 (by omega)⟩)
    | (obtain ⟨h3, h4⟩ := h; exact ⟨by omega, fun e => by rw [r.eq (by omega)]; exact h4 (by omega)⟩)
def dOdC : Nat → List Nat := fun i => [i]
def stOdC : List Nat := [100, 1, 100, 1, 100, 1, 100, 100, 1]

theorem odd7_fin {w w2 w3 w' : World} {q0 q1 q2 : Int} {nm : ByteArray} {Ac Ar : Option Addr} {cc cr : Nat} {cols : List ByteArray} {rows : List (List Val)} {n m g e0 : Nat} {B : Option Addr} {X : Nat → Prop} (h : OD w q0 q1 q2 nm Ac cc cols Ar cr rows w2) (hx : Ext w2 w3) (hw : w' = w3.setCell ⟨g, 0, none⟩ (.slice (if e0 = 1 then B else B.map fun x => ⟨x.block, x.off + 7, none⟩) (m - 1) (e0 - 1))) (hn : n = rows.length) (hm : m = cols.length) (hA : Ar = some ⟨g, 0, none⟩) (h1 : nm.size ≤ 4294967296) (h2 : cols.length ≤ 4294967296) (h3 : rows.length ≤ 4294967296) (h4 : ∀ r ∈ rows, r.length ≤ 4294967296)
    (h0 : 0 < rows.length) (hm0 : rows[0].length = cols.length) (hv : OwnVs w2 (w.heap.size + 3) X 2 B e0 rows[0]) (hX : ∀ b, X b → w.heap.size + 3 ≤ b ∧ ob Ar ≠ some b) (hne : ∀ b, ob B = some b → ob Ar ≠ some b) (hme : m ≤ e0) : ∃ (t : Look) (A : Option Addr) (c : Nat) (B : Option Addr) (e : Nat), OF w t A c B e w' := by
  have hoA : ob Ar = some g := by rw [hA]; rfl
  have hgl := (h.rows.blk hoA).1
  have hrow := ((hv.ext hx).row (T := fun b => w.heap.size + 3 ≤ b ∧ ob Ar ≠ some b) (by omega) (fun b hb => ⟨(hv.blk hb).1, hne b hb⟩) hX).tl (cr := e0) (by omega)
  have hlt : rows[0].tail.length = m - 1 := by rw [List.length_tail, hm0, hm]
  have hrows := (h.rows.ext hx).setHead hA h0 h3 h4 (e' := e0 - 1) (by omega) hrow
  rw [hlt, ← hw] at hrows
  have hset : ∀ S : Nat → Prop, ¬ S g → Kept S w2 w' := fun S hS => by rw [hw]; exact (hx.kept S).trans (Kept.of_set hS)
  refine ⟨⟨nm, cols, rows.set 0 rows[0].tail⟩, Ac, cc, Ar, cr, OF.far h (hset _ (by omega)) ?_ (by simp) h1 ?_ hrows⟩
  · rw [hw]; exact (h.ext.trans hx).setCell (by show _ ≤ g; omega) _
  · have := (h.cols.strs (T := fun b => w.heap.size + 3 ≤ b ∧ b ≠ g) h2 fun b hb => ⟨(h.cols.1.blk hb).1, fun e => h.sep b hb (by rw [e]; exact hoA)⟩).keep (hset _ (by omega))
    exact this.mono fun b _ hb => hb.1
set_option maxRecDepth 100000 in
set_option maxHeartbeats 4000000 in
theorem odd_7 (t : Look) (A B : Option Addr) (c e : Nat) (q0 q1 q2 : Int) (w : World) (S : Nat → Prop) (h : RL w S 2 t A B) (ht : OkT t) (hm : (q0.tmod 8 + 8) % 8 = 7) : Calls Tryz.prog 11 #[(.agg #[.string t.name, .slice A t.cols.length c, .slice B t.rows.length e]), .agg #[.int .i64 q0, .int .i64 q1, .int .i64 q2]] w (RetOd w) := by
  have H := Lib.hid h
  obtain ⟨ht1, ht2, ht3, ht4⟩ := ht
  have HT4 := Lib.hid ht4
  obtain ⟨hb1, hb2⟩ := next_bd q0 8 (by omega)
  have hnm := h.1
  clear h ht4
  obtain ⟨W0, hW0⟩ : ∃ W0, W0 = ((w.alloc (.cells #[.string t.name, .slice A t.cols.length c, .slice B t.rows.length e] 28)).alloc (.cells #[.int .i64 q0, .int .i64 q1, .int .i64 q2] 23)).alloc (.cells #[.string ⟨#[]⟩, .slice none 0 0, .slice none 0 0] 28) := ⟨_, rfl⟩
  have HW0 := Lib.hid hW0
  have hx0 : Ext w W0 := by rw [hW0]; exact (((Ext.refl w).alloc _).alloc _).alloc _
  have b0 : Blk W0 w.heap.size 28 #[.string t.name, .slice A t.cols.length c, .slice B t.rows.length e] := by rw [hW0]; exact ((Blk.new _ _ _).keep (Kept.alloc _ _ _)).keep (Kept.alloc _ _ _)
  have b1 : Blk W0 (w.heap.size + 1) 23 #[.int .i64 q0, .int .i64 q1, .int .i64 q2] := by
    rw [hW0]
    have := (Blk.new (w.alloc (.cells #[.string t.name, .slice A t.cols.length c, .slice B t.rows.length e] 28)) 23 #[.int .i64 q0, .int .i64 q1, .int .i64 q2]).keep (Kept.alloc _ _ (.cells #[.string ⟨#[]⟩, .slice none 0 0, .slice none 0 0] 28))
    simpa using this
  have b2 : Blk W0 (w.heap.size + 1 + 1) 28 #[.string ⟨#[]⟩, .slice none 0 0, .slice none 0 0] := by
    rw [hW0]
    have := Blk.new ((w.alloc (.cells #[.string t.name, .slice A t.cols.length c, .slice B t.rows.length e] 28)).alloc (.cells #[.int .i64 q0, .int .i64 q1, .int .i64 q2] 23)) 28 #[.string ⟨#[]⟩, .slice none 0 0, .slice none 0 0]
    simpa using this
  have hs0 : W0.heap.size = w.heap.size + 3 := by rw [hW0]; simp
  have HX0 := Lib.hid hx0
  have HB0 := Lib.hid b0
  have HB1 := Lib.hid b1
  have HB2 := Lib.hid b2
  have HS0 := Lib.hid hs0
  clear hW0 hx0 b0 b1 b2 hs0
  go_enter Tryz.func11, Tryz.ntmps11
  go_wp2_with fail
  rw [← HW0.out]
  refine (r09_Copy 2 t A B c e W0 S (H.out.keep (HX0.out.kept S))).mono ?_
  rintro e1 w1 ⟨Ac, cc, Ar, cr, rfl, hoc, hor, hsep, hx1⟩
  rw [HS0.out] at hoc hor
  have HM1 := Lib.hid (show OD w q0 q1 q2 t.name Ac cc t.cols Ar cr t.rows (((w1.setCell ⟨w.heap.size, 0, none⟩ (.string t.name)).setCell ⟨w.heap.size, 1, none⟩ (.slice Ac t.cols.length cc)).setCell ⟨w.heap.size, 2, none⟩ (.slice Ar t.rows.length cr)) by
    have ho := (((Only.refl w.heap.size w1).set 0 (.string t.name)).set 1 (.slice Ac t.cols.length cc)).set 2 (.slice Ar t.rows.length cr)
    refine ⟨(HX0.out.trans hx1).only ho (by omega), ?_, (HB1.out.keep (hx1.kept _)).keep (ho.kept fun b _ e => by omega), (HB2.out.keep (hx1.kept _)).keep (ho.kept fun b _ e => by omega), ⟨ho.own hoc.1 (by omega), hoc.2⟩, hor.keep (ho.kept fun b _ e => by omega) (fun b hb hb' => hsep b hb' hb), hsep⟩
    have := (((HB0.out.keep (hx1.kept _)).set 0 (.string t.name)).set 1 (.slice Ac t.cols.length cc)).set 2 (.slice Ar t.rows.length cr)
    simpa using this)
  have q5 := HB0.out.keep (hx1.kept _)
  have k50 := q5.cell (i := 0) rfl
  have k51 := q5.cell (i := 1) rfl
  have k52 := q5.cell (i := 2) rfl
  have kf := q5.frozen
  have kz := q5.lt
  clear hoc hor hsep hx1 q5 HX0 HB0 HB1 HB2 HS0 HW0
  go_upto_region 2 with fail
  obtain ⟨w2, hw2⟩ : ∃ w2, w2 = (((w1.setCell ⟨w.heap.size, 0, none⟩ (.string t.name)).setCell ⟨w.heap.size, 1, none⟩ (.slice Ac t.cols.length cc)).setCell ⟨w.heap.size, 2, none⟩ (.slice Ar t.rows.length cr)) := ⟨_, rfl⟩
  rw [← hw2] at HM1
  rw [← hw2]
  clear hw2 k50 k51 k52 kf kz
  obtain ⟨cols, hcols⟩ : ∃ cols, cols = t.cols := ⟨_, rfl⟩
  obtain ⟨rows, hrows⟩ : ∃ rows, rows = t.rows := ⟨_, rfl⟩
  obtain ⟨nm, hnmE⟩ : ∃ nm, nm = t.name := ⟨_, rfl⟩
  rw [← hcols, ← hrows, ← hnmE] at HM1
  rw [← hcols] at ht1 ht2 HT4
  rw [← hrows] at ht3 HT4
  rw [← hnmE] at hnm
  clear hcols hrows hnmE
  have HM := HM1
  have d0 := HM1.out.box.cell (i := 0) rfl
  have d1 := HM1.out.box.cell (i := 1) rfl
  have d2 := HM1.out.box.cell (i := 2) rfl
  have df := HM1.out.box.frozen
  have dz := HM1.out.box.lt
  have g0 := HM1.out.qb.cell (i := 0) rfl
  have g1 := HM1.out.qb.cell (i := 1) rfl
  have g2 := HM1.out.qb.cell (i := 2) rfl
  have gz := HM1.out.qb.lt
  have HR4 := Lib.hid (show ∀ r ∈ rows, r.length ≤ 4294967296 from fun r hr => by rw [HT4.out r hr]; omega)
  by_cases h0 : 0 < rows.length
  · obtain ⟨hs, B1, e1, X, ho1, hk1, hv1, hX1, hne1, -⟩ := HM.out.rows.at_ h0 (by omega) HR4.out
    obtain ⟨g, o, hAr, -, hgz, hgc⟩ := ho1.rd.some_ (fun h => by rw [h] at hk1; simp at hk1)
    have hoff : Ar = some ⟨g, 0, none⟩ := by
      rcases ho1.2 with ⟨_, h⟩ | ⟨g', cap, cur, hv, _⟩
      · omega
      · injection hv with hv
        rw [hv] at hAr
        injection hAr with hAr
        injection hAr with hAr
        rw [hv, hAr]
    have ho0 : o = 0 := by rw [hoff] at hAr; injection hAr with hAr; injection hAr with _ hAr; exact hAr.symm
    subst ho0
    have hm0 : rows[0].length = cols.length := HT4.out _ (List.getElem_mem h0)
    have HHD := Lib.hid (show w2.cell? ⟨g, 0, none⟩ = some (.slice B1 cols.length e1) by have := hgc 0 _ hk1; rw [hm0] at this; exact this)
    have HM1M := Lib.hid ht1
    have HME := Lib.hid (show cols.length ≤ e1 by rw [← hm0]; obtain ⟨xs, ho, _⟩ := hv1; exact ho.cap)
    have HFR := Lib.hid (show ∀ w', Ext w2 w' → w'.frozen? ⟨g, 0, none⟩ = false by
      intro w' hx
      rcases ho1.2 with ⟨_, h⟩ | ⟨g', cap, cur, hv, _, hh, _⟩
      · omega
      · injection hv with hv
        rw [hoff] at hv
        injection hv with hv
        injection hv with hv
        subst hv
        have : Blk w' g 45 cur := (hx.block g hgz).trans hh
        exact this.frozen 0)
    have HAR := Lib.hid hoff
    have HV1 := Lib.hid hv1
    have HX1 := Lib.hid hX1
    have HN1 := Lib.hid hne1
    have HM0 := Lib.hid hm0
    have HD2 := Lib.hid d2
    have D2 := Lib.hid (show w2.cell? ⟨w.heap.size, 2, none⟩ = some (.slice (some ⟨g, 0, none⟩) rows.length cr) by rw [← hoff]; exact d2)
    clear ho1 hk1 hv1 hX1 hne1 hAr hgc hoff hm0
    go_upto_region 26 with fail
    obtain ⟨n, hn⟩ : ∃ n, n = rows.length := ⟨_, rfl⟩
    obtain ⟨m, hm'⟩ : ∃ m, m = cols.length := ⟨_, rfl⟩
    rw [← hn] at D2 h0
    rw [← hm'] at HHD HM1M HME
    have HNN := Lib.hid hn
    have HMM := Lib.hid hm'
    clear hn hm'
    obtain ⟨B, hB⟩ : ∃ B, B = B1 := ⟨_, rfl⟩
    subst hB
    obtain ⟨e0, he0⟩ : ∃ e0, e0 = e1 := ⟨_, rfl⟩
    subst he0
    refine wp_region_lin_lit (by kernel_rfl) dOdC (by kernel_rfl) (SR (OdCInv w w2 Ar cr n g B m e0)) (SR.refl _) (SR.trans _) (SN stOdC) (gOdC w w2 Ar cr n g B m e0) (gOdC_st _ _ _ _ _ _ _ _ _) 0 (SN.zero (by decide)) ⟨?_, ?_, ?_, ?_, ?_, ?_, ?_, ?_, ?_, trivial⟩ ?_
    · refine LinStep.yes fun vals γ w' ρ hR hN hp hρ hc hf hg => ⟨rfl, ?_⟩
      have hi := hR.inv ⟨by omega, fun _ => (Ext.refl w2).drew⟩
      have e2 : ρ (.tmp 2) = .pointer (some ⟨w.heap.size, 0, none⟩) := hρ 2
      clear hR hN hp hρ hi
      go_light
      go_simp
      exact ⟨γ, SR.refl _ _ _, fun _ _ _ h => h, rfl⟩
    · refine LinStep.yes fun vals γ w' ρ hR hN hp hρ hc hf hg => ⟨rfl, ?_⟩
      have hi := hR.inv ⟨by omega, fun _ => (Ext.refl w2).drew⟩
      have e130 : ρ (.tmp 130) = _ := (hρ 130).trans (hp 0 (by decide))
      have k1 := (hi.2 (by have h : γ < 1 := hN; omega)).cell D2.out
      clear hR hN hp hρ hi
      go_light
      go_simp
      exact ⟨γ, SR.refl _ _ _, fun _ _ _ h => h, rfl⟩
    · refine LinStep.yes fun vals γ w' ρ hR hN hp hρ hc hf hg => ⟨rfl, ?_⟩
      have hi := hR.inv ⟨by omega, fun _ => (Ext.refl w2).drew⟩
      have e2 : ρ (.tmp 2) = .pointer (some ⟨w.heap.size, 0, none⟩) := hρ 2
      clear hR hN hp hρ hi
      go_light
      go_simp
      exact ⟨γ, SR.refl _ _ _, fun _ _ _ h => h, rfl⟩
    · refine LinStep.yes fun vals γ w' ρ hR hN hp hρ hc hf hg => ⟨rfl, ?_⟩
      have hi := hR.inv ⟨by omega, fun _ => (Ext.refl w2).drew⟩
      have e132 : ρ (.tmp 132) = _ := (hρ 132).trans (hp 2 (by decide))
      have k1 := (hi.2 (by have h : γ < 1 := hN; omega)).cell D2.out
      clear hR hN hp hρ hi
      go_light
      go_simp
      exact ⟨γ, SR.refl _ _ _, fun _ _ _ h => h, rfl⟩
    · refine LinStep.yes fun vals γ w' ρ hR hN hp hρ hc hf hg => ⟨rfl, ?_⟩
      have hi := hR.inv ⟨by omega, fun _ => (Ext.refl w2).drew⟩
      have e133 : ρ (.tmp 133) = _ := (hρ 133).trans (hp 3 (by decide))
      have i1 : (0 : Int) < (n : Int) := by omega
      clear hR hN hp hρ hi
      go_light
      go_simp
      exact ⟨γ, SR.refl _ _ _, fun _ _ _ h => h, rfl⟩
    · refine LinStep.yes fun vals γ w' ρ hR hN hp hρ hc hf hg => ⟨rfl, ?_⟩
      have hi := hR.inv ⟨by omega, fun _ => (Ext.refl w2).drew⟩
      have e134 : ρ (.tmp 134) = _ := (hρ 134).trans (hp 4 (by decide))
      have k1 := (hi.2 (by have h : γ < 1 := hN; omega)).cell HHD.out
      clear hR hN hp hρ hi
      go_light
      go_simp
      exact ⟨γ, SR.refl _ _ _, fun _ _ _ h => h, rfl⟩
    · refine LinStep.yes fun vals γ w' ρ hR hN hp hρ hc hf hg => ⟨rfl, ?_⟩
      have hi := hR.inv ⟨by omega, fun _ => (Ext.refl w2).drew⟩
      have e135 : ρ (.tmp 135) = _ := (hρ 135).trans (hp 5 (by decide))
      have i1 : 1 ≤ m := HM1M.out
      have i2 : m ≤ e0 := HME.out
      have i3 : (1 : Int) ≤ (m : Int) := by omega
      have i4 : (m : Int) ≤ (e0 : Int) := by omega
      clear hR hN hp hρ hi
      go_light
      go_simp
      exact ⟨γ, SR.refl _ _ _, fun _ _ _ h => h, rfl⟩
    · refine LinStep.yes fun vals γ w' ρ hR hN hp hρ hc hf hg => ⟨rfl, ?_⟩
      have hi := hR.inv ⟨by omega, fun _ => (Ext.refl w2).drew⟩
      have e131 : ρ (.tmp 131) = _ := (hρ 131).trans (hp 1 (by decide))
      have i1 : (0 : Int) < (n : Int) := by omega
      clear hR hN hp hρ hi
      go_light
      go_simp
      exact ⟨γ, SR.refl _ _ _, fun _ _ _ h => h, rfl⟩
    · refine LinStep.yes fun vals γ w' ρ hR hN hp hρ hc hf hg => ⟨rfl, ?_⟩
      have hi := hR.inv ⟨by omega, fun _ => (Ext.refl w2).drew⟩
      have e137 : ρ (.tmp 137) = _ := (hρ 137).trans (hp 7 (by decide))
      have e136 : ρ (.tmp 136) = _ := (hρ 136).trans (hp 6 (by decide))
      have h0 : γ = 0 := by have h : γ < 1 := hN; omega
      subst h0
      have hx := hi.2 (by omega)
      have k1 := hx.cell HHD.out
      have kf := HFR.out w' hx
      have HX := Lib.hid hx
      clear hR hN hp hρ hi hx
      go_light
      go_simp
      exact ⟨1, SR.up (by omega) ⟨by omega, fun h => absurd h (by omega)⟩, SN.up (by omega) (by decide) rfl, by omega, fun _ => ⟨w', HX.out, rfl⟩⟩
    · intro vals γ w' hR hG
      have hi := hR.inv ⟨by omega, fun _ => (Ext.refl w2).drew⟩
      obtain ⟨h4, h5⟩ := hG 8 (by decide)
      obtain ⟨w3, hx3, hw3⟩ := h5 (by have := hi.1; omega)
      have HX3 := Lib.hid hx3
      have HW3 := Lib.hid hw3
      clear hR hG hi h4 h5 hx3 hw3
      simp only [lexFrame, Act.put, List.setIfInBounds_toArray, List.set_cons_succ, List.set_cons_zero, Nat.zero_add, Nat.reduceAdd]
      generalize vals 0 = u0, vals 1 = u1, vals 2 = u2, vals 3 = u3, vals 4 = u4, vals 5 = u5, vals 6 = u6, vals 7 = u7, vals 8 = u8
      go_upto_region 27 with fail
      obtain ⟨wf, hwf⟩ : ∃ wf, wf = w' := ⟨_, rfl⟩
      have HF := Lib.hid (show ∃ (t : Look) (A : Option Addr) (c : Nat) (B : Option Addr) (e : Nat), OF w t A c B e wf by rw [hwf]; exact odd7_fin HM.out HX3.out HW3.out HNN.out HMM.out HAR.out hnm (by omega) (by omega) HR4.out (by omega) HM0.out HV1.out HX1.out HN1.out HME.out)
      rw [← hwf]
      clear hwf
      obtain ⟨t', A', c', B', e', hf⟩ := HF.out
      have HF := Lib.hid hf
      have f0 := hf.box.cell (i := 0) rfl
      have f1 := hf.box.cell (i := 1) rfl
      have f2 := hf.box.cell (i := 2) rfl
      have r0 := hf.res.cell (i := 0) rfl
      have r1 := hf.res.cell (i := 1) rfl
      have r2 := hf.res.cell (i := 2) rfl
      have rf := hf.res.frozen
      have rz := hf.res.lt
      clear hf d0 d1 d2 df dz g0 g1 g2 gz
      go_wp2
      all_goals refine bodyPost_ret (v := (.agg #[.string t'.name, .slice A' t'.cols.length c', .slice B' t'.rows.length e'])) (by simp [results, Tryz.results11, go_sem, r0, r1, r2, rf, rz]) rfl ⟨t', A', c', B', e', rfl, HF.out.cap, RL.mono (RL.keep HF.out.rl (K3 ?_)) fun b _ hb => by unfold Fresh; omega, E3 ?_⟩
      all_goals first | exact ⟨HF.out.ext, by omega⟩ | omega
  · have h1 : rows.length = 0 := by omega
    go_upto_region 27 with fail
    obtain ⟨wf, hwf⟩ : ∃ wf, wf = w2 := ⟨_, rfl⟩
    have HF := Lib.hid (show ∃ (t : Look) (A : Option Addr) (c : Nat) (B : Option Addr) (e : Nat), OF w t A c B e wf by rw [hwf]; exact ⟨_, _, _, _, _, HM.out.fin hnm (by omega) (by omega) HR4.out⟩)
    rw [← hwf]
    clear hwf
    obtain ⟨t', A', c', B', e', hf⟩ := HF.out
    have HF := Lib.hid hf
    have f0 := hf.box.cell (i := 0) rfl
    have f1 := hf.box.cell (i := 1) rfl
    have f2 := hf.box.cell (i := 2) rfl
    have r0 := hf.res.cell (i := 0) rfl
    have r1 := hf.res.cell (i := 1) rfl
    have r2 := hf.res.cell (i := 2) rfl
    have rf := hf.res.frozen
    have rz := hf.res.lt
    clear hf d0 d1 d2 df dz g0 g1 g2 gz
    go_wp2
    all_goals refine bodyPost_ret (v := (.agg #[.string t'.name, .slice A' t'.cols.length c', .slice B' t'.rows.length e'])) (by simp [results, Tryz.results11, go_sem, r0, r1, r2, rf, rz]) rfl ⟨t', A', c', B', e', rfl, HF.out.cap, RL.mono (RL.keep HF.out.rl (K3 ?_)) fun b _ hb => by unfold Fresh; omega, E3 ?_⟩
    all_goals first | exact ⟨HF.out.ext, by omega⟩ | omega
end Go.Proofs.YtcmmkeiiapbgcaaGreatDoor
