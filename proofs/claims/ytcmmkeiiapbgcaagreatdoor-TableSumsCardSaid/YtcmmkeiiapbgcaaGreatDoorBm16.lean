/- The reference's Mul of numbers of any size. Conditions: bounds on sizes. -/
import Derived.Test.YtcmmkeiiapbgcaaGreatDoorBm15
namespace Go.Proofs.YtcmmkeiiapbgcaaGreatDoor
open Go Go.RowKit

theorem r01_Add (a b : ByteArray) (ha : a.size ≤ 4294967296) (hb : b.size ≤ 4294967296) (hal : nval a < 256 ^ 59) (hbl : nval b < 256 ^ 59) (w : World) : Calls Tryz.prog 134 #[.string a, .string b] w (RetT w (nval a + nval b)) := by
  by_cases h : nval a < 256 ^ 7 ∧ nval b < 256 ^ 7
  · exact r01_Add_small a b ha hb h.1 h.2 w
  · exact r01_Add_big a b ha hb hal hbl h w
theorem dval_set : ∀ (m : List Nat) (t x : Nat), t < m.length → dval (m.set t x) + m.getD t 0 * 16777216 ^ t = dval m + x * 16777216 ^ t
  | [], _, _, h => by simp at h
  | d :: m, 0, x, _ => by simp [dval]; omega
  | d :: m, t + 1, x, h => by
    have ih := dval_set m t x (by simpa using h)
    simp only [List.set_cons_succ, dval, List.getD_cons_succ, Nat.pow_succ]
    have e1 : m.getD t 0 * (16777216 ^ t * 16777216) = 16777216 * (m.getD t 0 * 16777216 ^ t) := by rw [← Nat.mul_assoc, Nat.mul_comm]
    have e2 : x * (16777216 ^ t * 16777216) = 16777216 * (x * 16777216 ^ t) := by rw [← Nat.mul_assoc, Nat.mul_comm]
    rw [e1, e2]
    omega
theorem dgs_set {m : List Nat} (h : dgs m) (t : Nat) {x : Nat} (hx : x < 16777216) : dgs (m.set t x) := fun y hy => by
  rcases List.mem_or_eq_of_mem_set hy with hy | hy
  · exact h y hy
  · rw [hy]; exact hx
theorem getD_setN (m : List Nat) (t x k : Nat) (h : t ≠ k) : (m.set t x).getD k 0 = m.getD k 0 := by
  rw [List.getD_eq_getElem?_getD, List.getElem?_set_ne h, ← List.getD_eq_getElem?_getD]
/-- Products of the first i digits; the further digits are zeros. -/
structure MulO (u v m : List Nat) (i : Nat) : Prop where
  len : m.length = u.length + v.length
  ds : dgs m
  eq : dval m = dval (u.take i) * dval v
  zero : ∀ t, i + v.length ≤ t → m.getD t 0 = 0
structure MulN (u v m : List Nat) (i j cy : Nat) : Prop where
  len : m.length = u.length + v.length
  ds : dgs m
  lt : cy < 16777216
  eq : dval m + cy * 16777216 ^ (i + j) = dval (u.take i) * dval v + u.getD i 0 * dval (v.take j) * 16777216 ^ i
  zero : ∀ t, i + v.length ≤ t → m.getD t 0 = 0
theorem MulO.inner {u v m : List Nat} {i : Nat} (h : MulO u v m i) : MulN u v m i 0 0 := ⟨h.len, h.ds, by omega, by simp [dval, h.eq], h.zero⟩
theorem MulN.step {u v m : List Nat} {i j cy : Nat} (h : MulN u v m i j cy) (hu : dgs u) (hv : dgs v) (hi : i < u.length) (hj : j < v.length) {s : Nat} (hs : s = m.getD (i + j) 0 + u.getD i 0 * v.getD j 0 + cy) :
    s < 281474976710656 ∧ MulN u v (m.set (i + j) (s % 16777216)) i (j + 1) (s / 16777216) := by
  have h1 := dgs_getD hu i
  have h2 := dgs_getD hv j
  have h3 := dgs_getD h.ds (i + j)
  have h4 := h.lt
  have h5 : u.getD i 0 * v.getD j 0 ≤ 16777215 * 16777215 := Nat.mul_le_mul (by omega) (by omega)
  have hb : s < 281474976710656 := by omega
  refine ⟨hb, by simp [h.len], dgs_set h.ds _ (Nat.mod_lt _ (by decide)), by omega, ?_, fun t ht => by rw [getD_setN _ _ _ _ (by omega)]; exact h.zero t ht⟩
  have hset := dval_set m (i + j) (s % 16777216) (by rw [h.len]; omega)
  have heq := h.eq
  rw [dval_take, Nat.mul_add, Nat.add_mul, show i + (j + 1) = (i + j) + 1 by omega, Nat.pow_succ]
  have e : s = 16777216 * (s / 16777216) + s % 16777216 := (Nat.div_add_mod _ _).symm
  have e1 : s * 16777216 ^ (i + j) = s / 16777216 * (16777216 ^ (i + j) * 16777216) + s % 16777216 * 16777216 ^ (i + j) := by
    rw [Nat.mul_comm (16777216 ^ (i + j)) 16777216, ← Nat.mul_assoc, ← Nat.add_mul, Nat.mul_comm (s / 16777216), ← e]
  have e2 : s * 16777216 ^ (i + j) = m.getD (i + j) 0 * 16777216 ^ (i + j) + u.getD i 0 * (16777216 ^ j * v.getD j 0) * 16777216 ^ i + cy * 16777216 ^ (i + j) := by
    rw [hs, Nat.add_mul, Nat.add_mul, Nat.pow_add]
    congr 2
    rw [Nat.mul_comm (16777216 ^ j) (v.getD j 0), Nat.mul_comm (16777216 ^ i) (16777216 ^ j), Nat.mul_assoc, Nat.mul_assoc, Nat.mul_assoc]
  omega
theorem MulN.out {u v m : List Nat} {i cy : Nat} (h : MulN u v m i v.length cy) (hi : i < u.length) : MulO u v (m.set (i + v.length) cy) (i + 1) := by
  have hset := dval_set m (i + v.length) cy (by rw [h.len]; omega)
  rw [h.zero (i + v.length) (Nat.le_refl _), Nat.zero_mul, Nat.add_zero] at hset
  have heq := h.eq
  rw [List.take_length] at heq
  refine ⟨by simp [h.len], dgs_set h.ds _ h.lt, ?_, fun t ht => by rw [getD_setN _ _ _ _ (by omega)]; exact h.zero t (by omega)⟩
  rw [hset, heq, dval_take, Nat.add_mul]
  congr 1
  rw [Nat.mul_right_comm, Nat.mul_comm (u.getD i 0)]
theorem MulO.start (u v : List Nat) : MulO u v (List.replicate (u.length + v.length) 0) 0 := by
  have hz : ∀ n, dval (List.replicate n 0) = 0 := by
    intro n
    induction n with
    | zero => rfl
    | succ n ih => simp [List.replicate_succ, dval, ih]
  refine ⟨by simp, fun d hd => by rw [List.eq_of_mem_replicate hd]; decide, by simp [hz, dval], fun t _ => ?_⟩
  rw [List.getD_eq_getElem?_getD, List.getElem?_replicate]
  split <;> rfl
/-- The cells of digits. -/
def dcells (m : List Nat) : Array Value := ((nums m).map (Value.int .i64)).toArray
theorem dcells_size (m : List Nat) : (dcells m).size = m.length := by simp [dcells, nums]
theorem dcells_at {m : List Nat} {k : Nat} (h : k < m.length) : (dcells m)[k]? = some (.int .i64 ((m.getD k 0 : Nat) : Int)) := by simp [dcells, nums, h]
theorem dcells_set (m : List Nat) (k x : Nat) : (dcells m).setIfInBounds k (.int .i64 (x : Int)) = dcells (m.set k x) := by simp [dcells, nums, List.map_set]
theorem Blk.ints {w : World} {g : Nat} {m : List Nat} (h : Blk w g 3 (dcells m)) (hl : m.length ≤ 4294967296) : Ints w (fun b => b = g) (some ⟨g, 0, none⟩) (nums m) :=
  ⟨by have := h.rd; simpa [dcells] using this, by rw [nums_len]; exact hl⟩
set_option maxRecDepth 100000 in
set_option maxHeartbeats 1000000 in
theorem r01_Mul_small (a b : ByteArray) (ha : a.size ≤ 4294967296) (hb : b.size ≤ 4294967296) (ha3 : nval a < 256 ^ 3) (hb4 : nval b < 256 ^ 4) (w : World) : Calls Tryz.prog 158 #[.string a, .string b] w (RetT w (nval a * nval b)) := by
  have HA := Lib.hid (small_yes ha3)
  have HB := Lib.hid (small_yes hb4)
  rw [show (256 : Nat) ^ 3 = 16777216 by decide] at ha3
  rw [show (256 : Nat) ^ 4 = 4294967296 by decide] at hb4
  obtain ⟨p, hp⟩ : ∃ p, p = nval a * nval b := ⟨_, rfl⟩
  have hpl : p ≤ 16777215 * 4294967295 := by rw [hp]; exact Nat.mul_le_mul (by omega) (by omega)
  have hw1 : wrap64 ((nval a : Int) * (nval b : Int)) = (p : Int) := by rw [hp, ← Int.natCast_mul]; exact IntWalk.wrap64_in _ (by rw [← hp]; omega)
  rw [← hp]
  clear hp
  go_enter Tryz.func158, Tryz.ntmps158
  go_wp2_with fail
  refine (r01_small a ha 3 (by omega) _).mono ?_
  rintro e1 w1 ⟨he, rfl⟩
  rw [HA.out] at he
  subst he
  go_wp2_with fail
  refine (r01_small b hb 4 (by omega) _).mono ?_
  rintro e1 w1 ⟨he, rfl⟩
  rw [HB.out] at he
  subst he
  go_wp2_with fail
  refine (r01_Of p (by omega) _).mono ?_
  rintro e1 w1 ⟨r, rfl, h1, h2, h3, h4⟩
  have H1 := Lib.hid h1
  have H2 := Lib.hid h2
  have H4 := Lib.hid h4
  clear h1 h2 h4 hw1
  go_wp2
  go_ret
  exact ⟨r, rfl, H1.out, H2.out, h3, H4.out⟩
set_option maxRecDepth 100000 in
set_option maxHeartbeats 4000000 in
theorem r01_Mul_big (a b : ByteArray) (ha : a.size ≤ 4294967296) (hb : b.size ≤ 4294967296) (hal : nval a < 256 ^ 60) (hbl : nval b < 256 ^ 60) (hbig : ¬ (nval a < 256 ^ 3 ∧ nval b < 256 ^ 4)) (w : World) : Calls Tryz.prog 158 #[.string a, .string b] w (RetT w (nval a * nval b)) := by
  obtain ⟨x1, p1, hs1⟩ : ∃ (x1 : Int) (p1 : Bool), smallR a 3 = .returned (.tuple #[.int .i64 x1, .bool p1]) ∧ p1 = decide (nval a < 256 ^ 3) := ⟨_, _, rfl, rfl⟩
  obtain ⟨x2, p2, hs2⟩ : ∃ (x2 : Int) (p2 : Bool), smallR b 4 = .returned (.tuple #[.int .i64 x2, .bool p2]) ∧ p2 = decide (nval b < 256 ^ 4) := ⟨_, _, rfl, rfl⟩
  have HS1 := Lib.hid hs1.1
  have HS2 := Lib.hid hs2.1
  have hpp : p1 = false ∨ (p1 = true ∧ p2 = false) := by
    cases h1 : p1
    · exact .inl rfl
    · cases h2 : p2
      · exact .inr ⟨rfl, rfl⟩
      · exact absurd ⟨of_decide_eq_true (hs1.2.symm.trans h1), of_decide_eq_true (hs2.2.symm.trans h2)⟩ hbig
  have HAL := Lib.hid hal
  have HBL := Lib.hid hbl
  clear hbig hs1 hs2 hal hbl
  go_enter Tryz.func158, Tryz.ntmps158
  go_wp2_with fail
  refine (r01_small a ha 3 (by omega) _).mono ?_
  rintro e1 w1 ⟨he, rfl⟩
  rw [HS1.out] at he
  subst he
  go_wp2_with fail
  refine (r01_small b hb 4 (by omega) _).mono ?_
  rintro e1 w1 ⟨he, rfl⟩
  rw [HS2.out] at he
  subst he
  rcases hpp with rfl | ⟨rfl, rfl⟩
  all_goals
    go_wp2_with fail
    refine (r01_of a ha _).mono ?_
    rintro e1 w1 ⟨A1, c1, u, rfl, hv1, hd1, ht1, hc1, hi1, hx1⟩
    have hul := dig_len ht1 (by rw [hv1]; exact HAL.out)
    have HU := Lib.hid hi1
    have HV1 := Lib.hid hv1
    have HDU := Lib.hid hd1
    have HX1 := Lib.hid hx1
    clear hi1 hv1 hd1 ht1 hx1
    go_wp2_with fail
    refine (r01_of b hb _).mono ?_
    rintro e2 w2 ⟨A2, c2, v, rfl, hv2, hd2, ht2, hc2, hi2, hx2⟩
    have hvl := dig_len ht2 (by rw [hv2]; exact HBL.out)
    have HV := Lib.hid hi2
    have HV2 := Lib.hid hv2
    have HDV := Lib.hid hd2
    have HX2 := Lib.hid (HX1.out.trans hx2)
    have HUb := Lib.hid (HU.out.keep (hx2.kept _))
    clear hi2 hv2 hd2 ht2 hx2 HU HX1
    obtain ⟨n, hn⟩ : ∃ n, n = u.length + v.length := ⟨_, rfl⟩
    have hn2 : (u.length : Int) + (v.length : Int) = (n : Int) := by omega
    have hmk := run_mkI n (by omega)
    have HN := Lib.hid hn
    have hn40 : n ≤ 40 := by omega
    clear hn
    go_wp2_with fail
    have HN2 := Lib.hid hn2
    obtain ⟨w3, hw3⟩ : ∃ w3, w3 = w2.alloc (.cells (Array.replicate n (.int .i64 0)) 3) := ⟨_, rfl⟩
    have hb3 : Blk w3 w2.heap.size 3 (dcells (List.replicate n 0)) := by
      rw [hw3, show dcells (List.replicate n 0) = Array.replicate n (.int .i64 0) by simp [dcells, nums]]
      exact Blk.new _ _ _
    have hx3 : Ext w2 w3 := by rw [hw3]; exact (Ext.refl _).alloc _
    obtain ⟨g, hg⟩ : ∃ g, g = w2.heap.size := ⟨_, rfl⟩
    rw [← hw3, ← hg]
    rw [← hg] at hb3
    have HB3 := Lib.hid hb3
    have HX3 := Lib.hid hx3
    have HG := Lib.hid hg
    clear hmk hn2 hw3 hb3 hx3 hg
    go_wp2
    go_loopw [12] (fun i wr => ∃ (i' : Nat) (m : List Nat), i' ≤ u.length ∧ i = .int .i64 (i' : Int) ∧ MulO u v m i' ∧ Ext w2 wr ∧ Blk wr g 3 (dcells m)) (fun i _ => u.length - (intOf i).toNat)
    case atStart => exact ⟨0, List.replicate n 0, Nat.zero_le _, rfl, by rw [HN.out]; exact MulO.start u v, HX3.out, HB3.out⟩
    case round =>
      obtain ⟨i, m0, hi, rfl, hmo, hx, hb⟩ := hrel
      have HMO := Lib.hid hmo
      have HX := Lib.hid hx
      have HB := Lib.hid hb
      clear hmo hx hb
      by_cases hiu : i < u.length
      · go_wp2
        go_loopw [13, 14] (fun c j wr' => ∃ (j' cy : Nat) (m : List Nat), j' ≤ v.length ∧ j = .int .i64 (j' : Int) ∧ c = .int .i64 (cy : Int) ∧ MulN u v m i j' cy ∧ Ext w2 wr' ∧ Blk wr' g 3 (dcells m)) (fun _ j _ => v.length - (intOf j).toNat)
        case atStart => exact ⟨0, 0, m0, Nat.zero_le _, rfl, rfl, HMO.out.inner, HX.out, HB.out⟩
        case round =>
          obtain ⟨j, cy, m, hj, rfl, rfl, hmn, hx2, hb2⟩ := hrel
          have HMN := Lib.hid hmn
          have HX2 := Lib.hid hx2
          have HB2 := Lib.hid hb2
          have hcy := hmn.lt
          have hml := hmn.len
          have HML := Lib.hid hml
          have HNI := Lib.hid HN2.out
          have hnn := HN.out
          clear hmn hx2 hb2
          by_cases hjv : j < v.length
          · obtain ⟨b1, o1, hA, hb1, hc1⟩ := ints_cell (HUb.out.keep (HX2.out.kept _)) hiu
            subst hA
            obtain ⟨b2, o2, hB, hb2, hc2⟩ := ints_cell (HV.out.keep (HX2.out.kept _)) hjv
            subst hB
            have hc3 := HB2.out.cell (dcells_at (m := m) (k := i + j) (by omega))
            have hf3 := HB2.out.frozen (i + j)
            have hlt3 := HB2.out.lt
            obtain ⟨d1, hd1⟩ : ∃ d1, d1 = u.getD i 0 := ⟨_, rfl⟩
            obtain ⟨d2, hd2⟩ : ∃ d2, d2 = v.getD j 0 := ⟨_, rfl⟩
            obtain ⟨d3, hd3⟩ : ∃ d3, d3 = m.getD (i + j) 0 := ⟨_, rfl⟩
            have hl1 : d1 < 16777216 := by rw [hd1]; exact dgs_getD HDU.out i
            have hl2 : d2 < 16777216 := by rw [hd2]; exact dgs_getD HDV.out j
            have hl3 : d3 < 16777216 := by rw [hd3]; exact dgs_getD HMN.out.ds (i + j)
            rw [← hd1] at hc1
            rw [← hd2] at hc2
            rw [← hd3] at hc3
            obtain ⟨p, hp⟩ : ∃ p, p = d1 * d2 := ⟨_, rfl⟩
            have hst := HMN.out.step HDU.out HDV.out hiu hjv (s := d3 + p + cy) (by rw [hp, hd1, hd2, hd3])
            have hsb := hst.1
            have HST := Lib.hid hst.2
            have i1 : (i : Int) < (u.length : Int) := by omega
            have i2 : (j : Int) < (v.length : Int) := by omega
            have i3 : (i : Int) + (j : Int) < (n : Int) := by omega
            have i4 : (0 : Int) ≤ (i : Int) + (j : Int) := by omega
            have i5 : ((i : Int) + (j : Int)).toNat = i + j := by omega
            have i0 : (0 : Int) ≤ (i : Int) := by omega
            have i00 : (0 : Int) ≤ (j : Int) := by omega
            have H5 := Lib.hid i5
            have E1 := Lib.hid (show IntKind.i64.wrap ((i : Int) + j) = (i : Int) + j from IntWalk.i64_in _ (by omega))
            have E3 := Lib.hid (show IntKind.i64.wrap ((d3 : Int) + p) = (d3 : Int) + p from IntWalk.i64_in _ (by omega))
            have E4 := Lib.hid (show IntKind.i64.wrap ((d3 : Int) + p + cy) = (d3 : Int) + p + cy from IntWalk.i64_in _ (by omega))
            have E2 := Lib.hid (show IntKind.i64.wrap ((d1 : Int) * d2) = (p : Int) by rw [← Int.natCast_mul, ← hp]; exact IntWalk.i64_in _ (by omega))
            clear hst hd1 hd2 hd3 hp hnn hml
            have C1 := Lib.hid hc1
            have C2 := Lib.hid hc2
            have C3 := Lib.hid hc3
            clear i5 hc1 hc2 hc3
            go_upto_region 15 with fail
            refine wp_region_chain (by kernel_rfl) (fun i => [i]) (by kernel_rfl) (LX (fun _ _ => False)) (LX.refl _) (LX.trans _) (LM []) gh0 (LM.zero _) ?_
            apply Chain.pure (LX.refl _) (by rfl)
            · intro vals γ w' ρ hR hN hp hρ hc hf hg
              refine ⟨rfl, ?_⟩
              have e11 := hρ 11
              conv at e11 => rhs; whnf
              clear hR hN hp hρ
              go_light
              go_simp
              exact ⟨rfl, rfl⟩
            · rfl
            apply Chain.pure (LX.refl _) (by rfl)
            · intro vals γ w' ρ hR hN hp hρ hc hf hg
              refine ⟨rfl, ?_⟩
              have e12 := hρ 12
              conv at e12 => rhs; whnf
              clear hR hN hp hρ
              go_light
              go_simp
              exact ⟨rfl, rfl⟩
            · rfl
            apply Chain.pure (LX.refl _) (by rfl)
            · intro vals γ w' ρ hR hN hp hρ hc hf hg
              refine ⟨rfl, ?_⟩
              have e14 := hρ 14
              conv at e14 => rhs; whnf
              clear hR hN hp hρ
              go_light
              go_simp
              exact ⟨rfl, rfl⟩
            · rfl
            apply Chain.pure (LX.refl _) (by rfl)
            · intro vals γ w' ρ hR hN hp hρ hc hf hg
              refine ⟨rfl, ?_⟩
              have e57 : ρ (.tmp 57) = _ := (hρ 57).trans (hp 1 (by decide))
              have e58 : ρ (.tmp 58) = _ := (hρ 58).trans (hp 2 (by decide))
              have e1 := E1.out
              clear hR hN hp hρ
              go_light
              go_simp
              exact ⟨rfl, rfl⟩
            · rfl
            apply Chain.pure (LX.refl _) (by rfl)
            · intro vals γ w' ρ hR hN hp hρ hc hf hg
              refine ⟨rfl, ?_⟩
              have e56 : ρ (.tmp 56) = _ := (hρ 56).trans (hp 0 (by decide))
              have e59 : ρ (.tmp 59) = _ := (hρ 59).trans (hp 3 (by decide))
              have i5 := H5.out
              clear hR hN hp hρ
              go_light
              go_simp
              exact ⟨rfl, rfl⟩
            · rfl
            apply Chain.pure (LX.refl _) (by rfl)
            · intro vals γ w' ρ hR hN hp hρ hc hf hg
              refine ⟨rfl, ?_⟩
              have e60 : ρ (.tmp 60) = _ := (hρ 60).trans (hp 4 (by decide))
              have hxx := hR.ext0 (fun _ _ h => h.elim)
              have c1 := hxx.cell C1.out
              have c2 := hxx.cell C2.out
              have c3 := hxx.cell C3.out
              clear hR hN hp hρ
              go_light
              go_simp
              exact ⟨rfl, rfl⟩
            · rfl
            apply Chain.pure (LX.refl _) (by rfl)
            · intro vals γ w' ρ hR hN hp hρ hc hf hg
              refine ⟨rfl, ?_⟩
              have e9 := hρ 9
              conv at e9 => rhs; whnf
              clear hR hN hp hρ
              go_light
              go_simp
              exact ⟨rfl, rfl⟩
            · rfl
            apply Chain.pure (LX.refl _) (by rfl)
            · intro vals γ w' ρ hR hN hp hρ hc hf hg
              refine ⟨rfl, ?_⟩
              have e12 := hρ 12
              conv at e12 => rhs; whnf
              clear hR hN hp hρ
              go_light
              go_simp
              exact ⟨rfl, rfl⟩
            · rfl
            apply Chain.pure (LX.refl _) (by rfl)
            · intro vals γ w' ρ hR hN hp hρ hc hf hg
              refine ⟨rfl, ?_⟩
              have e62 : ρ (.tmp 62) = _ := (hρ 62).trans (hp 6 (by decide))
              have e63 : ρ (.tmp 63) = _ := (hρ 63).trans (hp 7 (by decide))
              clear hR hN hp hρ
              go_light
              go_simp
              exact ⟨rfl, rfl⟩
            · rfl
            apply Chain.pure (LX.refl _) (by rfl)
            · intro vals γ w' ρ hR hN hp hρ hc hf hg
              refine ⟨rfl, ?_⟩
              have e64 : ρ (.tmp 64) = _ := (hρ 64).trans (hp 8 (by decide))
              have hxx := hR.ext0 (fun _ _ h => h.elim)
              have c1 := hxx.cell C1.out
              have c2 := hxx.cell C2.out
              have c3 := hxx.cell C3.out
              clear hR hN hp hρ
              go_light
              go_simp
              exact ⟨rfl, rfl⟩
            · rfl
            apply Chain.pure (LX.refl _) (by rfl)
            · intro vals γ w' ρ hR hN hp hρ hc hf hg
              refine ⟨rfl, ?_⟩
              have e10 := hρ 10
              conv at e10 => rhs; whnf
              clear hR hN hp hρ
              go_light
              go_simp
              exact ⟨rfl, rfl⟩
            · rfl
            apply Chain.pure (LX.refl _) (by rfl)
            · intro vals γ w' ρ hR hN hp hρ hc hf hg
              refine ⟨rfl, ?_⟩
              have e14 := hρ 14
              conv at e14 => rhs; whnf
              clear hR hN hp hρ
              go_light
              go_simp
              exact ⟨rfl, rfl⟩
            · rfl
            apply Chain.pure (LX.refl _) (by rfl)
            · intro vals γ w' ρ hR hN hp hρ hc hf hg
              refine ⟨rfl, ?_⟩
              have e66 : ρ (.tmp 66) = _ := (hρ 66).trans (hp 10 (by decide))
              have e67 : ρ (.tmp 67) = _ := (hρ 67).trans (hp 11 (by decide))
              clear hR hN hp hρ
              go_light
              go_simp
              exact ⟨rfl, rfl⟩
            · rfl
            apply Chain.pure (LX.refl _) (by rfl)
            · intro vals γ w' ρ hR hN hp hρ hc hf hg
              refine ⟨rfl, ?_⟩
              have e68 : ρ (.tmp 68) = _ := (hρ 68).trans (hp 12 (by decide))
              have hxx := hR.ext0 (fun _ _ h => h.elim)
              have c1 := hxx.cell C1.out
              have c2 := hxx.cell C2.out
              have c3 := hxx.cell C3.out
              clear hR hN hp hρ
              go_light
              go_simp
              exact ⟨rfl, rfl⟩
            · rfl
            apply Chain.pure (LX.refl _) (by rfl)
            · intro vals γ w' ρ hR hN hp hρ hc hf hg
              refine ⟨rfl, ?_⟩
              have e65 : ρ (.tmp 65) = _ := (hρ 65).trans (hp 9 (by decide))
              have e69 : ρ (.tmp 69) = _ := (hρ 69).trans (hp 13 (by decide))
              have e1 := E2.out
              clear hR hN hp hρ
              go_light
              go_simp
              exact ⟨rfl, rfl⟩
            · rfl
            apply Chain.pure (LX.refl _) (by rfl)
            · intro vals γ w' ρ hR hN hp hρ hc hf hg
              refine ⟨rfl, ?_⟩
              have e61 : ρ (.tmp 61) = _ := (hρ 61).trans (hp 5 (by decide))
              have e70 : ρ (.tmp 70) = _ := (hρ 70).trans (hp 14 (by decide))
              have e1 := E3.out
              clear hR hN hp hρ
              go_light
              go_simp
              exact ⟨rfl, rfl⟩
            · rfl
            apply Chain.pure (LX.refl _) (by rfl)
            · intro vals γ w' ρ hR hN hp hρ hc hf hg
              refine ⟨rfl, ?_⟩
              have e13 := hρ 13
              conv at e13 => rhs; whnf
              clear hR hN hp hρ
              go_light
              go_simp
              exact ⟨rfl, rfl⟩
            · rfl
            apply Chain.pure (LX.refl _) (by rfl)
            · intro vals γ w' ρ hR hN hp hρ hc hf hg
              refine ⟨rfl, ?_⟩
              have e71 : ρ (.tmp 71) = _ := (hρ 71).trans (hp 15 (by decide))
              have e72 : ρ (.tmp 72) = _ := (hρ 72).trans (hp 16 (by decide))
              have e1 := E4.out
              clear hR hN hp hρ
              go_light
              go_simp
              exact ⟨rfl, rfl⟩
            · rfl
            apply Chain.pure (LX.refl _) (by rfl)
            · intro vals γ w' ρ hR hN hp hρ hc hf hg
              refine ⟨rfl, ?_⟩
              have e73 : ρ (.tmp 73) = _ := (hρ 73).trans (hp 17 (by decide))
              clear hR hN hp hρ
              go_light
              go_simp
              exact ⟨rfl, rfl⟩
            · rfl
            intro vals γ w9 hR hG
            have v0 : vals 0 = _ := hG 0 (by decide)
            have v1 : vals 1 = _ := hG 1 (by decide)
            have v2 : vals 2 = _ := hG 2 (by decide)
            have v3 : vals 3 = _ := hG 3 (by decide)
            have v4 : vals 4 = _ := hG 4 (by decide)
            have v5 : vals 5 = _ := hG 5 (by decide)
            have v6 : vals 6 = _ := hG 6 (by decide)
            have v7 : vals 7 = _ := hG 7 (by decide)
            have v8 : vals 8 = _ := hG 8 (by decide)
            have v9 : vals 9 = _ := hG 9 (by decide)
            have v10 : vals 10 = _ := hG 10 (by decide)
            have v11 : vals 11 = _ := hG 11 (by decide)
            have v12 : vals 12 = _ := hG 12 (by decide)
            have v13 : vals 13 = _ := hG 13 (by decide)
            have v14 : vals 14 = _ := hG 14 (by decide)
            have v15 : vals 15 = _ := hG 15 (by decide)
            have v16 : vals 16 = _ := hG 16 (by decide)
            have v17 : vals 17 = _ := hG 17 (by decide)
            have v18 : vals 18 = _ := hG 18 (by decide)
            simp only [lexFrame, Act.put, List.setIfInBounds_toArray, List.set_cons_succ, List.set_cons_zero, Nat.zero_add, Nat.reduceAdd, v0, v1, v2, v3, v4, v5, v6, v7, v8, v9, v10, v11, v12, v13, v14, v15, v16, v17, v18]
            clear v0 v1 v2 v3 v4 v5 v6 v7 v8 v9 v10 v11 v12 v13 v14 v15 v16 v17 v18
            have HX9 := Lib.hid (HX2.out.trans (hR.ext0 (fun _ _ h => h.elim)))
            have HB9 := Lib.hid (HB2.out.keep ((hR.ext0 (fun _ _ h => h.elim)).kept _))
            clear hR hG
            have c9 := HB9.out.cell (dcells_at (m := m) (k := i + j) (by have := HML.out; have := HN.out; omega))
            have f9 := HB9.out.frozen (i + j)
            have l9 := HB9.out.lt
            have i5 := H5.out
            go_wp2
            go_roundw
            case rel =>
              refine ⟨j + 1, _, m.set (i + j) ((d3 + p + cy) % 16777216), by omega, by go_num, by go_num, HST.out, HX9.out.set2 (by rw [HG.out]; exact Nat.le_refl _) _, ?_⟩
              rw [← dcells_set]
              have := HB9.out.set (i + j) (.int .i64 (((d3 + p + cy) % 16777216 : Nat) : Int))
              simpa using this
            case measure => simp [intOf]; omega
          · have hjv2 : j = v.length := by omega
            have HMN2 := Lib.hid (show MulN u v m i v.length cy by rw [← hjv2]; exact HMN.out)
            have c9 := HB2.out.cell (dcells_at (m := m) (k := i + v.length) (by omega))
            have f9 := HB2.out.frozen (i + v.length)
            have l9 := HB2.out.lt
            have i3 : (i : Int) + (v.length : Int) < (n : Int) := by omega
            have i4 : (0 : Int) ≤ (i : Int) + (v.length : Int) := by omega
            have i5 : ((i : Int) + (v.length : Int)).toNat = i + v.length := by omega
            have hj0 : ¬ (j : Int) < (v.length : Int) := by omega
            have hnv : v.length ≤ 40 := by omega
            clear hnn hml hjv2
            go_wp2
            go_roundw
            case rel =>
              refine ⟨i + 1, m.set (i + v.length) cy, by omega, by go_num, HMN2.out.out hiu, HX2.out.set2 (by rw [HG.out]; exact Nat.le_refl _) _, ?_⟩
              rw [← dcells_set]
              exact HB2.out.set (i + v.length) (.int .i64 (cy : Int))
            case measure => simp [intOf]; omega
      · have hiu2 : i = u.length := by omega
        have hv : dval m0 = nval a * nval b := by
          have h := HMO.out.eq
          rw [hiu2, List.take_length, HV1.out, HV2.out] at h
          exact h
        have hml := HMO.out.len
        have hnl : n = m0.length := by rw [hml, HN.out]
        have HF := Lib.hid hv
        have HD := Lib.hid HMO.out.ds
        have HR := Lib.hid (HB.out.ints (by omega))
        have HE := Lib.hid (HX2.out.trans HX.out)
        have hi0 : ¬ (i : Int) < (u.length : Int) := by omega
        rw [hnl]
        clear hv hml hiu2 HN HN2
        subst hnl
        go_wp2_with fail
        refine (r01_number m0 (some ⟨g, 0, none⟩) m0.length _ _ HR.out HD.out (by omega)).mono ?_
        rintro e4 w4 ⟨r, rfl, h1, h2, h3, hx4⟩
        have H1 := Lib.hid (h1.trans HF.out)
        have H2 := Lib.hid h2
        have HX4 := Lib.hid (HE.out.trans hx4)
        clear h1 h2 hx4
        go_wp2
        go_ret
        exact ⟨r, rfl, H1.out, H2.out, h3, HX4.out⟩
end Go.Proofs.YtcmmkeiiapbgcaaGreatDoor
/- The reference's Quo of numbers of any size. Conditions: bounds on sizes. -/
namespace Go.Proofs.YtcmmkeiiapbgcaaGreatDoor
open Go Go.RowKit

/-- A slice literal is the call's own. -/
theorem Own.lit1 {w : World} {base g e sz n : Nat} {xs : List Value} (h : Blk w g e xs.toArray) (hg : base ≤ g) (hn : xs.length = n * sz := by rfl) (hm : n ≤ maxLen := by decide) : Own w base e sz (some ⟨g, 0, none⟩) n n xs :=
  ⟨hn, .inr ⟨g, n, xs.toArray, rfl, hg, h, Nat.le_refl _, hm, by simpa using hn, by rw [List.take_of_length_le (by simp [hn])]⟩⟩
theorem ob_lit1 {g y : Nat} (e : ob (some ⟨g, 0, none⟩) = some y) : g = y := by simpa [ob] using e
theorem r01_Mul (a b : ByteArray) (ha : a.size ≤ 4294967296) (hb : b.size ≤ 4294967296) (hal : nval a < 256 ^ 60) (hbl : nval b < 256 ^ 60) (w : World) : Calls Tryz.prog 158 #[.string a, .string b] w (RetT w (nval a * nval b)) := by
  by_cases h : nval a < 256 ^ 3 ∧ nval b < 256 ^ 4
  · exact r01_Mul_small a b ha hb h.1 h.2 w
  · exact r01_Mul_big a b ha hb hal hbl h w
/-- The quotient's digits from k on, and the rest. -/
structure QuoI (u qs rest : List Nat) (V k : Nat) : Prop where
  len : qs.length = u.length
  ds : dgs qs
  eq : dval (u.drop k) = dval (qs.drop k) * V + dval rest
  lt : dval rest < V
  zero : ∀ t, t < k → qs.getD t 0 = 0
  dr : dgs rest
  tr : trd rest
theorem QuoI.step {u qs rest r1 r2 : List Nat} {V j q : Nat} (h : QuoI u qs rest V (j + 1)) (hj : j < u.length) (h1 : dval r1 = u.getD j 0 + 16777216 * dval rest) (hq : q = dval r1 / V) (h2 : dval r2 = dval r1 - q * V) (hd : dgs r2) (ht : trd r2) (hu : dgs u) : QuoI u (qs.set j q) r2 V j := by
  have hV : 0 < V := Nat.lt_of_le_of_lt (Nat.zero_le _) h.lt
  have h3 := dgs_getD hu j
  have hqd := Nat.div_add_mod (dval r1) V
  rw [← hq] at hqd
  have hm := Nat.mod_lt (dval r1) hV
  have hle : q * V ≤ dval r1 := by rw [Nat.mul_comm]; omega
  have hqb : q < 16777216 := by
    rw [hq]
    refine Nat.div_lt_of_lt_mul ?_
    have := h.lt
    rw [h1]
    have h5 : 16777216 * (dval rest + 1) ≤ 16777216 * V := Nat.mul_le_mul_left _ this
    rw [Nat.mul_comm V]
    omega
  refine ⟨by simp [h.len], dgs_set h.ds _ hqb, ?_, by rw [h2]; rw [Nat.mul_comm] at hle ⊢; omega, fun t ht => by rw [getD_setN _ _ _ _ (by omega)]; exact h.zero t (by omega), hd, ht⟩
  have hl : j < (qs.set j q).length := by simp [h.len, hj]
  rw [drop_getD hj, drop_getD hl]
  have e1 : (qs.set j q).getD j 0 = q := by
    rw [List.getD_eq_getElem?_getD, List.getElem?_set_self (by rw [h.len]; exact hj)]; rfl
  have e2 : (qs.set j q).drop (j + 1) = qs.drop (j + 1) := by rw [List.drop_set_of_lt (by omega)]
  rw [e1, e2]
  simp only [dval]
  rw [h.eq, Nat.add_mul, h2, h1, Nat.mul_add, Nat.mul_assoc]
  rw [h1] at hle
  omega
theorem QuoI.set0 {qs : List Nat} {j : Nat} (h : qs.getD j 0 = 0) : qs.set j 0 = qs := by
  apply List.ext_getElem?
  intro i
  by_cases e : j = i
  · subst e
    rcases Nat.lt_or_ge j qs.length with hl | hl
    · rw [List.getElem?_set_self hl]
      rw [List.getD_eq_getElem?_getD] at h
      rw [List.getElem?_eq_getElem hl] at h ⊢
      simp at h
      rw [h]
    · rw [List.getElem?_eq_none (by simpa using hl), List.getElem?_eq_none hl]
  · rw [List.getElem?_set_ne e]
theorem QuoI.start (u : List Nat) {V : Nat} (hV : 0 < V) : QuoI u (List.replicate u.length 0) [] V u.length := by
  refine ⟨by simp, fun d hd => by rw [List.eq_of_mem_replicate hd]; decide, by simp [dval], by simpa [dval] using hV, fun t _ => ?_, by simp [dgs], by simp [trd]⟩
  rw [List.getD_eq_getElem?_getD, List.getElem?_replicate]
  split <;> rfl
theorem QuoI.fin {u qs rest : List Nat} {V : Nat} (h : QuoI u qs rest V 0) : dval qs = dval u / V ∧ dval rest = dval u % V := by
  have h1 := h.eq
  have h2 := h.lt
  simp only [List.drop_zero] at h1
  have hV : 0 < V := by omega
  constructor
  · rw [h1, Nat.mul_comm, Nat.mul_add_div hV, Nat.div_eq_of_lt h2, Nat.add_zero]
  · rw [h1, Nat.mul_comm, Nat.mul_add_mod, Nat.mod_eq_of_lt h2]
set_option maxRecDepth 100000 in
set_option maxHeartbeats 4000000 in
theorem r01_Quo_big (a b : ByteArray) (ha : a.size ≤ 4294967296) (hb : b.size ≤ 4294967296) (hal : nval a < 256 ^ 60) (hbl : nval b < 256 ^ 60) (hbig : ¬ nval a < 256 ^ 7) (hb0 : 0 < nval b) (w : World) : Calls Tryz.prog 130 #[.string a, .string b] w (RetQ w (nval a / nval b) (nval a % nval b)) := by
  have HS1 := Lib.hid (small_no (s := a) (k := 7) hbig)
  have HAL := Lib.hid hal
  have HBL := Lib.hid hbl
  clear hbig hal hbl
  go_enter Tryz.func130, Tryz.ntmps130
  go_wp2_with fail
  refine (r01_Canon b hb _).mono ?_
  rintro e1 w1 ⟨c, ⟨rfl, rfl⟩, hv, hc, hsz⟩
  have hcz := can_nil hc
  have hc0 : ((c.size : Int) == 0) = false := by
    rw [beq_eq_false_iff_ne]
    omega
  have hc32 : c.size ≤ 4294967296 := by omega
  obtain ⟨x2, p2, hs2⟩ : ∃ (x2 : Int) (p2 : Bool), smallR c 7 = .returned (.tuple #[.int .i64 x2, .bool p2]) := ⟨_, _, rfl⟩
  have HS2 := Lib.hid hs2
  have HV := Lib.hid hv
  clear hcz hc hv hsz hs2
  go_wp2_with fail
  refine (r01_small a ha 7 (by omega) _).mono ?_
  rintro e1 w1 ⟨he, rfl⟩
  rw [HS1.out] at he
  subst he
  go_wp2_with fail
  refine (r01_small c hc32 7 (by omega) _).mono ?_
  rintro e1 w1 ⟨he, rfl⟩
  rw [HS2.out] at he
  subst he
  go_wp2_with fail
  refine (r01_of a ha _).mono ?_
  rintro e1 w1 ⟨A1, c1, u, rfl, hv1, hd1, ht1, hc1, hi1, hx1⟩
  have hul := dig_len ht1 (by rw [hv1]; exact HAL.out)
  have HU := Lib.hid hi1
  have HV1 := Lib.hid hv1
  have HDU := Lib.hid hd1
  have HX1 := Lib.hid hx1
  clear hi1 hv1 hd1 ht1 hx1
  go_wp2_with fail
  refine (r01_of c hc32 _).mono ?_
  rintro e2 w2 ⟨A2, c2, v, rfl, hv2, hd2, ht2, hc2, hi2, hx2⟩
  have hvl := dig_len ht2 (by rw [hv2, HV.out]; exact HBL.out)
  have hvpos : 0 < dval v := by rw [hv2, HV.out]; exact hb0
  have HVV := Lib.hid hi2
  have HV2 := Lib.hid (hv2.trans HV.out)
  have HDV := Lib.hid hd2
  have HTV := Lib.hid ht2
  have HX2 := Lib.hid (HX1.out.trans hx2)
  have HUb := Lib.hid (HU.out.keep (hx2.kept _))
  clear hi2 hv2 hd2 ht2 hx2 HU HX1
  have hmk := run_mkI u.length (by omega)
  go_wp2_with fail
  obtain ⟨w3, hw3⟩ : ∃ w3, w3 = w2.alloc (.cells (Array.replicate u.length (.int .i64 0)) 3) := ⟨_, rfl⟩
  have hb3 : Blk w3 w2.heap.size 3 (dcells (List.replicate u.length 0)) := by
    rw [hw3, show dcells (List.replicate u.length 0) = Array.replicate u.length (.int .i64 0) by simp [dcells, nums]]
    exact Blk.new _ _ _
  have hx3 : Ext w2 w3 := by rw [hw3]; exact (Ext.refl _).alloc _
  obtain ⟨g, hg⟩ : ∃ g, g = w2.heap.size := ⟨_, rfl⟩
  rw [← hw3, ← hg]
  rw [← hg] at hb3
  have HB3 := Lib.hid hb3
  have HX3 := Lib.hid hx3
  have HG := Lib.hid hg
  clear hmk hw3 hb3 hx3 hg
  go_wp2
  go_loopw [14, 15] (fun o i wr => ∃ (k : Nat) (Ar : Option Addr) (cr : Nat) (rest qs : List Nat), k ≤ u.length ∧ QuoI u qs rest (dval v) k ∧ o = .slice Ar rest.length cr ∧ rest.length ≤ 20 ∧ rest.length ≤ cr ∧ i = .int .i64 ((k : Int) - 1) ∧ Ext w2 wr ∧ Blk wr g 3 (dcells qs) ∧ Ints wr (fun b => b ≠ g) Ar (nums rest)) (fun _ i _ => (intOf i + 1).toNat)
  case atStart => exact ⟨u.length, none, 0, [], _, Nat.le_refl _, QuoI.start u hvpos, rfl, by simp, by simp, rfl, HX3.out, HB3.out, Ints.nil⟩
  case round =>
    obtain ⟨k, Ar, cr, rest, qs, hk, hqi, rfl, hrl, hrc, rfl, hx, hb, hir⟩ := hrel
    have HQI := Lib.hid hqi
    have HX := Lib.hid hx
    have HB := Lib.hid hb
    have HIR := Lib.hid hir
    clear hqi hx hb hir
    cases k with
    | zero =>
      obtain ⟨f1, f2⟩ := HQI.out.fin
      have HF1 := Lib.hid (f1.trans (by rw [HV1.out, HV2.out]))
      have HF2 := Lib.hid (f2.trans (by rw [HV1.out, HV2.out]))
      have hql := HQI.out.len
      rw [← hql]
      have HR := Lib.hid (HB.out.ints (by omega))
      have HDQ := Lib.hid HQI.out.ds
      have HDR := Lib.hid HQI.out.dr
      have HE := Lib.hid (HX2.out.trans HX.out)
      have hq1 : qs.length ≤ 1000000 := by omega
      clear f1 f2 hql
      go_wp2_with fail
      refine (r01_number qs (some ⟨g, 0, none⟩) qs.length _ _ HR.out HDQ.out hq1).mono ?_
      rintro e4 w4 ⟨r1, rfl, h1, h2, h3, hx4⟩
      have H1 := Lib.hid (show isN r1 (nval a / nval b) from ⟨h1.trans HF1.out, h2, h3⟩)
      have HX4 := Lib.hid (HE.out.trans hx4)
      have HIR4 := Lib.hid (HIR.out.keep (hx4.kept _))
      clear h1 h2 h3 hx4
      go_wp2_with fail
      refine (r01_number rest Ar cr _ _ HIR4.out HDR.out (by omega)).mono ?_
      rintro e5 w5 ⟨r2, rfl, h1, h2, h3, hx5⟩
      have H2 := Lib.hid (show isN r2 (nval a % nval b) from ⟨h1.trans HF2.out, h2, h3⟩)
      have HX5 := Lib.hid (HX4.out.trans hx5)
      clear h1 h2 h3 hx5
      go_wp2
      refine bodyPost_ret (v := .tuple #[.string r1, .string r2, .bool true]) (by simp [results, Tryz.results130, go_sem]) rfl ⟨r1, r2, rfl, H1.out, H2.out, HX5.out⟩
    | succ j =>
      obtain ⟨b1, o1, hA, hb1, hc1⟩ := ints_cell (HUb.out.keep (HX.out.kept _)) (k := j) (by omega)
      subst hA
      obtain ⟨d1, hd1⟩ : ∃ d1, d1 = u.getD j 0 := ⟨_, rfl⟩
      have hl1 : d1 < 16777216 := by rw [hd1]; exact dgs_getD HDU.out j
      rw [← hd1] at hc1
      have HD1 := Lib.hid hd1
      have hj1 : ((j + 1 : Nat) : Int) - 1 = (j : Int) := by omega
      rw [hj1]
      have i0 : (0 : Int) ≤ (j : Int) := by omega
      have i1 : (j : Int) < (u.length : Int) := by omega
      have HSZ := Lib.hid HX.out.size
      have hgw := HB.out.lt
      clear hd1 hj1
      go_wp2_with (at_builtin; go_must (refine wpList_app rfl (.tmp 61) (.tmp 62) rfl tiI rfl (Own.lit1 (n := 1) (sz := 1) (Blk.new wr 3 #[.int .i64 (d1 : Int)]) (Nat.le_refl _)) rfl (HIR.out.keep (((Ext.refl wr).alloc _).kept _)).1 (by simp [nums]) (by simp [Value.oneCell']) (by omega) (by decide) (by simp) ?_); intro A4 c4 w4 hown4 hg4 hat4)
      have hx4 : Ext wr w4 := ((Ext.refl wr).alloc _).grown hg4 fun b hb => by have := ob_lit1 hb; omega
      have hown5 : Own w4 wr.heap.size 3 1 A4 (d1 :: rest).length c4 ((nums (d1 :: rest)).map (Value.int .i64)) := by
        have := hown4
        rw [Nat.add_comm] at this
        simpa [nums] using this
      have hcp := hown5.cap
      have hi4 := OwnIs.read hown5 (by simp; omega) (T := fun b => b ≠ g) fun b hb => by omega
      have hlen2 : 1 + rest.length = (d1 :: rest).length := by simp; omega
      rw [hlen2]
      have HI4 := Lib.hid hi4
      have HX4 := Lib.hid (HX.out.trans hx4)
      have HB4 := Lib.hid (HB.out.keep (hx4.kept _))
      obtain ⟨t1, t2, t3, t4, t5⟩ := trimN_ok (d1 :: rest)
      have hdl : dgs (d1 :: rest) := fun x hx => by
        rcases List.mem_cons.1 hx with rfl | hx
        · exact hl1
        · exact HQI.out.dr x hx
      have T1 := Lib.hid (show dval (trimN (d1 :: rest)) = u.getD j 0 + 16777216 * dval rest by rw [t1, ← HD1.out]; rfl)
      have T2 := Lib.hid t2
      have T3 := Lib.hid (t3 hdl)
      have T5 := Lib.hid t5
      have hl21 : (trimN (d1 :: rest)).length ≤ 21 := by simp at t4; omega
      have hrc1 : (trimN (d1 :: rest)).length ≤ c4 := by omega
      clear hown4 hg4 hat4 hx4 hown5 hi4 hlen2 t1 t2 t3 t4 t5 hdl
      go_wp2_with fail
      refine (r01_trim (d1 :: rest) A4 c4 _ _ HI4.out hcp).mono ?_
      rintro e5 w5 ⟨rfl, rfl⟩
      obtain ⟨r1, hr1⟩ : ∃ r1, r1 = trimN (d1 :: rest) := ⟨_, rfl⟩
      rw [← hr1] at T1 T2 T3 T5 hl21 hrc1 ⊢
      have HI5 := Lib.hid (HI4.out.pre T5.out)
      have HR1 := Lib.hid hr1
      clear hr1 HI4 T5 hcp
      have hlt1 : dval r1 < 16777216 * dval v := by
        have h1 := HQI.out.lt
        have h2 : 16777216 * (dval rest + 1) ≤ 16777216 * dval v := Nat.mul_le_mul_left _ h1
        have h3 := T1.out
        have h4 := HD1.out
        omega
      go_wp2_with fail
      refine (r01_cmp r1 v A4 A2 c4 c2 _ _ _ HI5.out (HVV.out.keep (HX4.out.kept _)) T3.out HDV.out T2.out HTV.out).mono ?_
      rintro e6 w6 ⟨n, rfl, hcn, hnb, hx6⟩
      have HX6 := Lib.hid (HX4.out.trans hx6)
      have HB6 := Lib.hid (HB4.out.keep (hx6.kept _))
      have HI6 := Lib.hid (HI5.out.keep (hx6.kept _))
      have hql := HQI.out.len
      have hz : qs.getD j 0 = 0 := HQI.out.zero j (by omega)
      by_cases hn : 0 ≤ n
      · have hge : dval v ≤ dval r1 := by unfold CmpD at hcn; omega
        have HGE := Lib.hid hge
        have HLT := Lib.hid hlt1
        clear hcn hx6 hge hlt1 HB4 HI5 HX4
        go_wp2_with fail
        refine (r01_digit r1 v A4 A2 c4 c2 _ _ _ HI6.out (HVV.out.keep (HX6.out.kept _)) T3.out HDV.out T2.out (by omega) hvpos HLT.out).mono ?_
        rintro e7 w7 ⟨rfl, hx7⟩
        obtain ⟨q, hq⟩ : ∃ q, q = dval r1 / dval v := ⟨_, rfl⟩
        rw [← hq]
        have hqb : q < 16777216 := by rw [hq]; exact Nat.div_lt_of_lt_mul (by rw [Nat.mul_comm]; exact HLT.out)
        have HQ := Lib.hid hq
        have HX7 := Lib.hid (HX6.out.trans hx7)
        have HB7 := Lib.hid (HB6.out.keep (hx7.kept _))
        have HI7 := Lib.hid (HI6.out.keep (hx7.kept _))
        have c7 := HB7.out.cell (dcells_at (m := qs) (k := j) (by omega))
        have f7 := HB7.out.frozen j
        have l7 := HB7.out.lt
        have i5 : (j : Int).toNat = j := by simp
        clear hq hx7 HB6 HI6 HX6
        go_wp2_with fail
        obtain ⟨w8, hw8⟩ : ∃ w8, w8 = w7.setCell ⟨g, j, none⟩ (.int .i64 (q : Int)) := ⟨_, rfl⟩
        rw [← hw8]
        have HX8 := Lib.hid (show Ext w2 w8 by rw [hw8]; exact HX7.out.set2 (by rw [HG.out]; exact Nat.le_refl _) _)
        have HB8 := Lib.hid (show Blk w8 g 3 (dcells (qs.set j q)) by rw [hw8, ← dcells_set]; exact HB7.out.set j _)
        have HI8 := Lib.hid (show Ints w8 (fun b => b ≠ g) A4 (nums r1) by rw [hw8]; exact HI7.out.keep (Kept.of_set (by simp)))
        clear hw8 c7 f7 l7 HB7 HI7 HX7
        refine (r01_times v q A2 c2 _ _ (HVV.out.keep (HX8.out.kept _)) HDV.out hqb (by omega)).mono ?_
        rintro e9 w9 ⟨A9, c9, l9, rfl, hv9, hd9, ht9, hc9, hi9, hx9⟩
        have HI9 := Lib.hid hi9
        have HV9 := Lib.hid hv9
        have HD9 := Lib.hid hd9
        have HT9 := Lib.hid ht9
        have HX9 := Lib.hid (HX8.out.trans hx9)
        have HB9 := Lib.hid (HB8.out.keep (hx9.kept _))
        have HR9 := Lib.hid (HI8.out.keep (hx9.kept _))
        have hle : dval v * q ≤ dval r1 := by rw [HQ.out]; exact Nat.mul_div_le _ _
        have HLE := Lib.hid hle
        have hg9 := HB9.out.lt
        clear hi9 hv9 hd9 ht9 hx9 hle HX8 HB8 HI8
        go_wp2_with fail
        refine (r01_minus r1 l9 A4 A9 c4 c9 _ _ _ HR9.out HI9.out T3.out HD9.out HT9.out (by rw [HV9.out]; exact HLE.out)).mono ?_
        rintro e10 w10 ⟨A10, c10, l10, rfl, hv10, hd10, ht10, hc10, hi10, hx10⟩
        have hst := HQI.out.step (by omega) T1.out HQ.out (r2 := l10) (by rw [hv10, HV9.out, Nat.mul_comm]) hd10 ht10 HDU.out
        have HST := Lib.hid hst
        have hl10 := dig_len ht10 (Nat.lt_trans hst.lt (by rw [HV2.out]; exact HBL.out))
        have HI10 := Lib.hid (hi10.mono (T := fun b => b ≠ g) fun b _ hb => by omega)
        have HX10 := Lib.hid (HX9.out.trans hx10)
        have HB10 := Lib.hid (HB9.out.keep (hx10.kept _))
        clear hst hv10 hd10 ht10 hi10 hx10
        go_wp2
        go_roundw
        case rel => exact ⟨j, A10, c10, l10, qs.set j q, by omega, HST.out, rfl, hl10, hc10, by go_num, HX10.out, HB10.out, HI10.out⟩
        case measure => simp [intOf]
      · have hlt : dval r1 < dval v := by unfold CmpD at hcn; omega
        have hst := HQI.out.step (q := 0) (r2 := r1) (by omega) T1.out (by rw [Nat.div_eq_of_lt hlt]) (by simp) T3.out T2.out HDU.out
        rw [QuoI.set0 hz] at hst
        have HST := Lib.hid hst
        have hl10 := dig_len T2.out (Nat.lt_trans hlt (by rw [HV2.out]; exact HBL.out))
        clear hst hcn hx6 hlt hlt1
        go_wp2
        go_roundw
        case rel => exact ⟨j, A4, c4, r1, qs, by omega, HST.out, rfl, hl10, hrc1, by go_num, HX6.out, HB6.out, HI6.out⟩
        case measure => simp [intOf]
theorem quoC : QuoC (256 ^ 60) := by
  intro a b w ha hb h60 h10
  by_cases h7 : nval a < 256 ^ 7
  · have := r01_Quo_small a b ha hb h7 (by rw [h10]; decide) (by omega) w
    rwa [h10] at this
  · have := r01_Quo_big a b ha hb h60 (by rw [h10]; decide) h7 (by omega) w
    rwa [h10] at this
end Go.Proofs.YtcmmkeiiapbgcaaGreatDoor
/- The reference's power, big, wider: decimals as numbers of any size. Conditions: bounds on sizes. -/
namespace Go.Proofs.YtcmmkeiiapbgcaaGreatDoor
open Go Go.RowKit

set_option maxRecDepth 100000 in
set_option maxHeartbeats 1000000 in
theorem r04_power (n : Nat) (hn : n ≤ 20) (w : World) : Calls Tryz.prog 159 #[.int .i64 (n : Int)] w (RetT w (10 ^ n)) := by
  go_enter Tryz.func159, Tryz.ntmps159
  go_wp2_with fail
  refine (r01_Of 1 (by omega) _).mono ?_
  rintro e1 w1 ⟨r1, rfl, g1, g2, g3, g4⟩
  have H1 := Lib.hid (show isN r1 (10 ^ 0) from ⟨g1, g2, g3⟩)
  have HX1 := Lib.hid g4
  clear g1 g2 g3 g4
  go_wp2
  go_loopw [3, 4] (fun o i wr => ∃ (k : Nat) (r : ByteArray), k ≤ n ∧ isN r (10 ^ k) ∧ o = .string r ∧ i = .int .i64 (k : Int) ∧ Ext w wr) (fun _ i _ => n - (intOf i).toNat)
  case atStart => exact ⟨0, r1, Nat.zero_le _, H1.out, rfl, rfl, HX1.out⟩
  case round =>
    obtain ⟨k, r, hk, hr, rfl, rfl, hx⟩ := hrel
    have HR := Lib.hid hr
    have HX := Lib.hid hx
    clear hr hx
    by_cases hlt : k < n
    · go_wp2_with fail
      refine (r01_Of 10 (by omega) _).mono ?_
      rintro e2 w2 ⟨t, rfl, g1, g2, g3, g4⟩
      have HT := Lib.hid (show isN t 10 from ⟨g1, g2, g3⟩)
      have HX2 := Lib.hid (HX.out.trans g4)
      clear g1 g2 g3 g4
      go_wp2_with fail
      have hp20 : nval r < 256 ^ 60 := by
        rw [HR.out.1]
        exact Nat.lt_of_le_of_lt (Nat.pow_le_pow_right (by decide) (show k ≤ 20 by omega)) (by decide)
      refine (r01_Mul r t HR.out.2.2 HT.out.2.2 hp20 (by rw [HT.out.1]; decide) _).mono ?_
      rintro e3 w3 ⟨s, rfl, g1, g2, g3, g4⟩
      have HS := Lib.hid (show isN s (10 ^ (k + 1)) from ⟨by rw [g1, HR.out.1, HT.out.1, Nat.pow_succ], g2, g3⟩)
      have HX3 := Lib.hid (HX2.out.trans g4)
      clear g1 g2 g3 g4 hp20
      go_wp2
      go_roundw
      case rel => exact ⟨k + 1, s, by omega, HS.out, rfl, by go_num, HX3.out⟩
      case measure => simp [intOf]; omega
    · obtain rfl : k = n := by omega
      go_wp2
      go_ret
      exact ⟨r, rfl, HR.out.1, HR.out.2.1, HR.out.2.2, HX.out⟩

/-- A number with a sign and a scale. -/
def RetBig (w : World) (neg : Bool) (n s : Nat) (e : Ending) (w' : World) : Prop := ∃ r, e = .returned (.agg #[.bool neg, .string r, .int .i64 (s : Int)]) ∧ isN r n ∧ Ext w w'
set_option maxRecDepth 100000 in
set_option maxHeartbeats 2000000 in
theorem r04_big (n s : Int) (w : World) : Calls Tryz.prog 104 #[.agg #[.int .i64 n, .int .i64 s]] w (RetBig w (decide ((valD n s).1 < 0)) (valD n s).1.natAbs (valD n s).2.toNat) := by
  have hvd := valD_range n s
  obtain ⟨w0, hw0⟩ : ∃ w0, w0 = (w.alloc (.cells #[.int .i64 n, .int .i64 s] 31)).alloc (.cells #[.bool false, .string ⟨#[]⟩, .int .i64 0] 120) := ⟨_, rfl⟩
  have hb1 : Blk w0 w.heap.size 31 #[.int .i64 n, .int .i64 s] := by rw [hw0]; exact (Blk.new _ _ _).keep (Kept.alloc _ _ _)
  have hb2 : Blk w0 (w.heap.size + 1) 120 #[.bool false, .string ⟨#[]⟩, .int .i64 0] := by
    rw [hw0]
    have := Blk.new (w.alloc (.cells #[.int .i64 n, .int .i64 s] 31)) 120 #[.bool false, .string ⟨#[]⟩, .int .i64 0]
    simpa using this
  have hx0 : Ext w w0 := by rw [hw0]; exact ((Ext.refl w).alloc _).alloc _
  obtain ⟨g1, hg1⟩ : ∃ g1, g1 = w.heap.size := ⟨_, rfl⟩
  obtain ⟨g2, hg2⟩ : ∃ g2, g2 = w.heap.size + 1 := ⟨_, rfl⟩
  have hne : g1 ≠ g2 := by omega
  have HW0 := Lib.hid hw0
  have HG1 := Lib.hid hg1
  have HG2 := Lib.hid hg2
  have HGW : w.heap.size ≤ g2 := by omega
  rw [← hg1] at hb1
  rw [← hg2] at hb2
  have HB1 := Lib.hid hb1
  have HB2 := Lib.hid hb2
  have HX0 := Lib.hid hx0
  have HVD := Lib.hid hvd
  clear hb1 hb2 hx0 hw0 hg1 hg2 hvd
  go_enter Tryz.func104, Tryz.ntmps104
  go_wp2_with fail
  rw [← HW0.out]
  refine (r04_Right n s w0).mono ?_
  rintro e1 w1 ⟨rfl, hx1⟩
  have HX1 := Lib.hid (HX0.out.trans hx1)
  have HC1 := Lib.hid (HB1.out.keep (hx1.kept _))
  have HC2 := Lib.hid (HB2.out.keep (hx1.kept _))
  rw [← HG2.out, ← HG1.out]
  clear hx1 HB1 HB2 HX0 HW0
  cases hd : decR n s
  · have HF := Lib.hid (show valD n s = (0, 0) by unfold valD; rw [hd]; rfl)
    have c0 := HC2.out.cell (i := 0) rfl
    have c1 := HC2.out.cell (i := 1) rfl
    have c2 := HC2.out.cell (i := 2) rfl
    have cf := HC2.out.frozen
    have cl := HC2.out.lt
    have hz := ((HC2.out.set 0 (.bool false)).set 1 (.string ⟨#[]⟩)).set 2 (.int .i64 0)
    have d0 := hz.cell (i := 0) rfl
    have d1 := hz.cell (i := 1) rfl
    have d2 := hz.cell (i := 2) rfl
    clear hd hz
    go_wp2
    refine bodyPost_ret (v := .agg #[.bool false, .string ⟨#[]⟩, .int .i64 0]) (by simp [results, Tryz.results104, go_sem, cl, d0, d1, d2]) rfl ⟨⟨#[]⟩, by rw [HF.out]; rfl, by rw [HF.out]; exact ⟨rfl, by simp [canB], by decide⟩, ?_⟩
    exact ((HX1.out.set2 HGW _).set2 HGW _).set2 HGW _
  · have HF := Lib.hid (show valD n s = (n, s) by unfold valD; rw [hd]; rfl)
    have hr := HVD.out
    rw [HF.out] at hr
    have hr1 : -72057594037927936 ≤ n := by have := hr.2.2.1; simp at this; omega
    have hr2 : n ≤ 72057594037927936 := by have := hr.2.2.2; simp at this; omega
    have hs0 : 0 ≤ s := hr.1
    obtain ⟨lt, hlt⟩ : ∃ lt : Bool, lt = decide (n < 0) := ⟨_, rfl⟩
    have HLT := Lib.hid hlt
    clear hd hr hlt
    go_upto_region 4 with fail
    refine wp_region_chain (by kernel_rfl) (fun i => [i]) (by kernel_rfl) (LX (fun m b => m = 1009 ∧ b = g2)) (LX.refl _) (LX.trans _) (LM [(9, [1009])]) gh0 (LM.zero _) ?_
    apply Chain.pure (LX.refl _) (by rfl)
    · intro vals γ w' ρ hR hN hp hρ hc hf hg
      refine ⟨rfl, ?_⟩
      have e1 := hρ 1
      conv at e1 => rhs; whnf
      clear hR hN hp hρ
      go_light
      go_simp
      exact ⟨rfl, rfl⟩
    · rfl
    apply Chain.pure (LX.refl _) (by rfl)
    · intro vals γ w' ρ hR hN hp hρ hc hf hg
      refine ⟨rfl, ?_⟩
      have e9 : ρ (.tmp 9) = _ := (hρ 9).trans (hp 0 (by decide))
      have hk := hR.kept0 (S := fun b => b = g1) (fun b hb m hm => hne (hb.symm.trans hm.2))
      have k1 := HC1.out.keep hk
      have k10 := k1.cell (i := 0) rfl
      have k11 := k1.cell (i := 1) rfl
      clear hk k1
      clear hR hN hp hρ
      go_light
      go_simp
      exact ⟨rfl, rfl⟩
    · rfl
    apply Chain.pure (LX.refl _) (by rfl)
    · intro vals γ w' ρ hR hN hp hρ hc hf hg
      refine ⟨rfl, ?_⟩
      have e10 : ρ (.tmp 10) = _ := (hρ 10).trans (hp 1 (by decide))
      clear hR hN hp hρ
      go_light
      go_simp
      exact ⟨rfl, rfl⟩
    · rfl
    apply Chain.pure (LX.refl _) (by rfl)
    · intro vals γ w' ρ hR hN hp hρ hc hf hg
      refine ⟨rfl, ?_⟩
      have e1 := hρ 1
      conv at e1 => rhs; whnf
      clear hR hN hp hρ
      go_light
      go_simp
      exact ⟨rfl, rfl⟩
    · rfl
    apply Chain.pure (LX.refl _) (by rfl)
    · intro vals γ w' ρ hR hN hp hρ hc hf hg
      refine ⟨rfl, ?_⟩
      have e12 : ρ (.tmp 12) = _ := (hρ 12).trans (hp 3 (by decide))
      have hk := hR.kept0 (S := fun b => b = g1) (fun b hb m hm => hne (hb.symm.trans hm.2))
      have k1 := HC1.out.keep hk
      have k10 := k1.cell (i := 0) rfl
      have k11 := k1.cell (i := 1) rfl
      clear hk k1
      clear hR hN hp hρ
      go_light
      go_simp
      exact ⟨rfl, rfl⟩
    · rfl
    refine Chain.step (FP fun v γ w' => ∃ r, v = .string r ∧ isN r n.natAbs) (by rfl) (FP.stab ?_) ?_ ?_
    · intro v γ w1 γ' w2 r h
      exact h
    · intro vals γ w' ρ hR hN hp hρ hc hf hg
      refine ⟨rfl, ?_⟩
      have e13 : ρ (.tmp 13) = _ := (hρ 13).trans (hp 4 (by decide))
      have HR := Lib.hid hR
      clear hR hN hp hρ
      go_light
      go_simp
      refine (r04_natural n hr1 hr2 w').mono ?_
      rintro e1 w3 ⟨r, he, h1, h2, h3, hx⟩
      exact ⟨_, he, γ, LX.of_ext _ γ hx, fun _ _ _ h => h, r, rfl, h1, h2, h3⟩
    apply Chain.pure (LX.refl _) (by rfl)
    · intro vals γ w' ρ hR hN hp hρ hc hf hg
      refine ⟨rfl, ?_⟩
      have e1 := hρ 1
      conv at e1 => rhs; whnf
      clear hR hN hp hρ
      go_light
      go_simp
      exact ⟨rfl, rfl⟩
    · rfl
    apply Chain.pure (LX.refl _) (by rfl)
    · intro vals γ w' ρ hR hN hp hρ hc hf hg
      refine ⟨rfl, ?_⟩
      have e15 : ρ (.tmp 15) = _ := (hρ 15).trans (hp 6 (by decide))
      have hk := hR.kept0 (S := fun b => b = g1) (fun b hb m hm => hne (hb.symm.trans hm.2))
      have k1 := HC1.out.keep hk
      have k10 := k1.cell (i := 0) rfl
      have k11 := k1.cell (i := 1) rfl
      clear hk k1
      clear hR hN hp hρ
      go_light
      go_simp
      exact ⟨rfl, rfl⟩
    · rfl
    refine Chain.step (FP fun v γ w' => ∃ r, v = .agg #[.bool lt, .string r, .int .i64 s] ∧ isN r n.natAbs) (by rfl) (FP.stab ?_) ?_ ?_
    · intro v γ w1 γ' w2 r h
      exact h
    · intro vals γ w' ρ hR hN hp hρ hc hf hg
      refine ⟨rfl, ?_⟩
      have e11 : ρ (.tmp 11) = _ := (hρ 11).trans (hp 2 (by decide))
      obtain ⟨r5, hv5, hn5⟩ := hp 5 (by decide)
      have e14 := (hρ 14).trans hv5
      have e16 : ρ (.tmp 16) = _ := (hρ 16).trans (hp 7 (by decide))
      have HN5 := Lib.hid hn5
      clear hR hN hp hρ hn5
      go_light
      go_simp
      exact ⟨γ, LX.refl _ _ _, fun _ _ _ h => h, r5, by rw [HLT.out]; rfl, HN5.out⟩
    refine Chain.step (fun _ γ w' => ∃ r, (Blk w' g2 120 #[.bool lt, .string r, .int .i64 s] ∧ γ 1009 = some none ∧ Free γ g2) ∧ isN r n.natAbs) (by rfl) ?_ ?_ ?_
    · intro l γ w1 γ' w2 rr h
      obtain ⟨r, ⟨h1, h2, h3⟩, hn8⟩ := h
      exact ⟨r, ⟨h1.keep (rr.keptS fun b _ e => ⟨by rw [e]; exact h3, fun m hm => by rw [hm.1, h2, rr.done _ h2]⟩), rr.done _ h2, rr.free h1.lt h3⟩, hn8⟩
    · intro vals γ w' ρ hR hN hp hρ hc hf hg
      refine ⟨rfl, ?_⟩
      have e2 := hρ 2
      conv at e2 => rhs; whnf
      obtain ⟨r, hv8, hn8⟩ := hp 8 (by decide)
      have e17 := (hρ 17).trans hv8
      have HN8 := Lib.hid hn8
      have HR := Lib.hid hR
      have hk0 := hR.key0 hN (k := 1009) (by decide) (by decide)
      have HK := Lib.hid hk0
      have hb0 := HC2.out.keep ((Kept.drew _ _).trans (hR.keptS (S := fun b => b = g2) fun b _ e => ⟨free0 b, fun m hm => by rw [hm.1]; exact hk0⟩))
      have HB0 := Lib.hid hb0
      have q0 := hb0.cell (i := 0) rfl
      have q1 := hb0.cell (i := 1) rfl
      have q2 := hb0.cell (i := 2) rfl
      have qf := hb0.frozen
      have ql := hb0.lt
      clear hR hN hp hρ hk0 hb0
      go_light
      go_simp
      refine ⟨γ.put 1009 none, LX.write HK.out rfl rfl rfl (by simp [World.setCell]) (fun b hb hm => (((((Only.refl g2 w').set 0 (.bool lt)).set 1 (.string r)).set 2 (.int .i64 s))).block b fun e => hm ⟨rfl, e⟩), LM.done (by decide) (.inr (by decide)), ?_⟩
      have hb1 := HB0.out
      exact ⟨r, ⟨by simpa using (((hb1.set 0 (.bool lt)).set 1 (.string r)).set 2 (.int .i64 s)), rfl, fun ⟨k', hk'⟩ => by unfold Gh.put at hk'; split at hk'; (cases hk'); exact absurd (HR.out.old k' _ hk' (by have := HC2.out.lt; exact this)) (by simp [gh0])⟩, hn8⟩
    intro vals γ w9 hR hG
    have v0 : vals 0 = _ := hG 0 (by decide)
    have v1 : vals 1 = _ := hG 1 (by decide)
    have v2 : vals 2 = _ := hG 2 (by decide)
    have v3 : vals 3 = _ := hG 3 (by decide)
    have v4 : vals 4 = _ := hG 4 (by decide)
    obtain ⟨q5, v5, -⟩ := hG 5 (by decide)
    have v6 : vals 6 = _ := hG 6 (by decide)
    have v7 : vals 7 = _ := hG 7 (by decide)
    obtain ⟨q8, v8, -⟩ := hG 8 (by decide)
    simp only [lexFrame, Act.put, List.setIfInBounds_toArray, List.set_cons_succ, List.set_cons_zero, Nat.zero_add, Nat.reduceAdd, v0, v1, v2, v3, v4, v5, v6, v7, v8]
    clear v0 v1 v2 v3 v4 v5 v6 v7 v8
    obtain ⟨r, ⟨hb9, -, -⟩, hn9⟩ := hG 9 (by decide)
    have c0 := hb9.cell (i := 0) rfl
    have c1 := hb9.cell (i := 1) rfl
    have c2 := hb9.cell (i := 2) rfl
    have cl := hb9.lt
    have HX9 := Lib.hid (hR.extB HX1.out fun m b hm => by rw [hm.2]; exact HGW)
    have HN9 := Lib.hid hn9
    clear hb9 hn9 hR hG
    go_wp2
    refine bodyPost_ret (v := .agg #[.bool lt, .string r, .int .i64 s]) (by simp [results, Tryz.results104, go_sem, c0, c1, c2, cl]) rfl ⟨r, by rw [HF.out]; simp [Int.toNat_of_nonneg hs0, HLT.out], by rw [HF.out]; exact HN9.out, HX9.out⟩
end Go.Proofs.YtcmmkeiiapbgcaaGreatDoor
/- The reference's wider and plus: decimals as numbers of any size. Conditions: bounds on sizes. -/
namespace Go.Proofs.YtcmmkeiiapbgcaaGreatDoor
open Go Go.RowKit

set_option maxRecDepth 100000 in
set_option maxHeartbeats 2000000 in
theorem r04_wider (neg : Bool) (N : ByteArray) (s k : Nat) (h32 : N.size ≤ 4294967296) (hN : nval N < 256 ^ 50) (hsk : s ≤ k) (hk : k ≤ 6) (w : World) :
    Calls Tryz.prog 133 #[.agg #[.bool neg, .string N, .int .i64 (s : Int)], .int .i64 (k : Int)] w (RetBig w neg (nval N * 10 ^ (k - s)) k) := by
  obtain ⟨w0, hw0⟩ : ∃ w0, w0 = (w.alloc (.cells #[.bool neg, .string N, .int .i64 (s : Int)] 120)).alloc (.cells #[.bool false, .string ⟨#[]⟩, .int .i64 0] 120) := ⟨_, rfl⟩
  have hb1 : Blk w0 w.heap.size 120 #[.bool neg, .string N, .int .i64 (s : Int)] := by rw [hw0]; exact (Blk.new _ _ _).keep (Kept.alloc _ _ _)
  have hb2 : Blk w0 (w.heap.size + 1) 120 #[.bool false, .string ⟨#[]⟩, .int .i64 0] := by
    rw [hw0]
    have := Blk.new (w.alloc (.cells #[.bool neg, .string N, .int .i64 (s : Int)] 120)) 120 #[.bool false, .string ⟨#[]⟩, .int .i64 0]
    simpa using this
  have hx0 : Ext w w0 := by rw [hw0]; exact ((Ext.refl w).alloc _).alloc _
  obtain ⟨g1, hg1⟩ : ∃ g1, g1 = w.heap.size := ⟨_, rfl⟩
  obtain ⟨g2, hg2⟩ : ∃ g2, g2 = w.heap.size + 1 := ⟨_, rfl⟩
  have hne : g1 ≠ g2 := by omega
  have HW0 := Lib.hid hw0
  have HG1 := Lib.hid hg1
  have HG2 := Lib.hid hg2
  have HGW : w.heap.size ≤ g2 := by omega
  rw [← hg1] at hb1
  rw [← hg2] at hb2
  have HC1 := Lib.hid hb1
  have HC2 := Lib.hid hb2
  have HX0 := Lib.hid hx0
  obtain ⟨dd, hdd⟩ : ∃ dd, dd = k - s := ⟨_, rfl⟩
  have HD := Lib.hid (show IntKind.i64.wrap ((k : Int) - (s : Int)) = (dd : Int) by rw [show (k : Int) - (s : Int) = (dd : Int) by omega]; exact IntWalk.i64_in _ (by omega))
  have hd6 : dd ≤ 6 := by omega
  rw [← hdd]
  clear hb1 hb2 hx0 hw0 hg1 hg2 hdd
  go_enter Tryz.func133, Tryz.ntmps133
  go_upto_region 1 with fail
  rw [← HW0.out, ← HG2.out, ← HG1.out]
  refine wp_region_chain (by kernel_rfl) (fun i => [i]) (by kernel_rfl) (LX (fun m b => m = 1012 ∧ b = g2)) (LX.refl _) (LX.trans _) (LM [(12, [1012])]) gh0 (LM.zero _) ?_
  apply Chain.pure (LX.refl _) (by rfl)
  · intro vals γ w' ρ hR hN hp hρ hc hf hg
    refine ⟨rfl, ?_⟩
    have e2 := hρ 2
    conv at e2 => rhs; whnf
    clear hR hN hp hρ
    go_light
    go_simp
    exact ⟨rfl, rfl⟩
  · rfl
  apply Chain.pure (LX.refl _) (by rfl)
  · intro vals γ w' ρ hR hN hp hρ hc hf hg
    refine ⟨rfl, ?_⟩
    have e5 : ρ (.tmp 5) = _ := (hρ 5).trans (hp 0 (by decide))
    have hk := hR.kept0 (S := fun b => b = g1) (fun b hb m hm => hne (hb.symm.trans hm.2))
    have k1 := HC1.out.keep hk
    have k10 := k1.cell (i := 0) rfl
    have k11 := k1.cell (i := 1) rfl
    have k12 := k1.cell (i := 2) rfl
    clear hk k1
    clear hR hN hp hρ
    go_light
    go_simp
    exact ⟨rfl, rfl⟩
  · rfl
  apply Chain.pure (LX.refl _) (by rfl)
  · intro vals γ w' ρ hR hN hp hρ hc hf hg
    refine ⟨rfl, ?_⟩
    have e2 := hρ 2
    conv at e2 => rhs; whnf
    clear hR hN hp hρ
    go_light
    go_simp
    exact ⟨rfl, rfl⟩
  · rfl
  apply Chain.pure (LX.refl _) (by rfl)
  · intro vals γ w' ρ hR hN hp hρ hc hf hg
    refine ⟨rfl, ?_⟩
    have e7 : ρ (.tmp 7) = _ := (hρ 7).trans (hp 2 (by decide))
    have hk := hR.kept0 (S := fun b => b = g1) (fun b hb m hm => hne (hb.symm.trans hm.2))
    have k1 := HC1.out.keep hk
    have k10 := k1.cell (i := 0) rfl
    have k11 := k1.cell (i := 1) rfl
    have k12 := k1.cell (i := 2) rfl
    clear hk k1
    clear hR hN hp hρ
    go_light
    go_simp
    exact ⟨rfl, rfl⟩
  · rfl
  apply Chain.pure (LX.refl _) (by rfl)
  · intro vals γ w' ρ hR hN hp hρ hc hf hg
    refine ⟨rfl, ?_⟩
    have e1 := hρ 1
    conv at e1 => rhs; whnf
    clear hR hN hp hρ
    go_light
    go_simp
    exact ⟨rfl, rfl⟩
  · rfl
  apply Chain.pure (LX.refl _) (by rfl)
  · intro vals γ w' ρ hR hN hp hρ hc hf hg
    refine ⟨rfl, ?_⟩
    have e2 := hρ 2
    conv at e2 => rhs; whnf
    clear hR hN hp hρ
    go_light
    go_simp
    exact ⟨rfl, rfl⟩
  · rfl
  apply Chain.pure (LX.refl _) (by rfl)
  · intro vals γ w' ρ hR hN hp hρ hc hf hg
    refine ⟨rfl, ?_⟩
    have e10 : ρ (.tmp 10) = _ := (hρ 10).trans (hp 5 (by decide))
    have hk := hR.kept0 (S := fun b => b = g1) (fun b hb m hm => hne (hb.symm.trans hm.2))
    have k1 := HC1.out.keep hk
    have k10 := k1.cell (i := 0) rfl
    have k11 := k1.cell (i := 1) rfl
    have k12 := k1.cell (i := 2) rfl
    clear hk k1
    clear hR hN hp hρ
    go_light
    go_simp
    exact ⟨rfl, rfl⟩
  · rfl
  apply Chain.pure (LX.refl _) (by rfl)
  · intro vals γ w' ρ hR hN hp hρ hc hf hg
    refine ⟨rfl, ?_⟩
    have e9 : ρ (.tmp 9) = _ := (hρ 9).trans (hp 4 (by decide))
    have e11 : ρ (.tmp 11) = _ := (hρ 11).trans (hp 6 (by decide))
    have hd := HD.out
    clear hR hN hp hρ
    go_light
    go_simp
    exact ⟨rfl, rfl⟩
  · rfl
  refine Chain.step (FP fun v γ w' => ∃ r, v = .string r ∧ isN r (10 ^ dd)) (by rfl) (FP.stab ?_) ?_ ?_
  · intro v γ w1 γ' w2 r h
    exact h
  · intro vals γ w' ρ hR hN hp hρ hc hf hg
    refine ⟨rfl, ?_⟩
    have e12 : ρ (.tmp 12) = _ := (hρ 12).trans (hp 7 (by decide))
    have HR := Lib.hid hR
    clear hR hN hp hρ
    go_light
    go_simp
    refine (r04_power dd (by omega) w').mono ?_
    rintro e1 w3 ⟨r, he, h1, h2, h3, hx⟩
    exact ⟨_, he, γ, LX.of_ext _ γ hx, fun _ _ _ h => h, r, rfl, h1, h2, h3⟩
  refine Chain.step (FP fun v γ w' => ∃ r, v = .string r ∧ isN r (nval N * 10 ^ dd)) (by rfl) (FP.stab ?_) ?_ ?_
  · intro v γ w1 γ' w2 r h
    exact h
  · intro vals γ w' ρ hR hN hp hρ hc hf hg
    refine ⟨rfl, ?_⟩
    have e8 : ρ (.tmp 8) = _ := (hρ 8).trans (hp 3 (by decide))
    obtain ⟨r8, hv8, hn8⟩ := hp 8 (by decide)
    have e13 := (hρ 13).trans hv8
    have HR := Lib.hid hR
    have HN8 := Lib.hid hn8
    clear hn8
    clear hR hN hp hρ
    go_light
    go_simp
    refine (r01_Mul N r8 h32 HN8.out.2.2 (Nat.lt_trans hN (Nat.pow_lt_pow_right (by decide) (by decide))) (by rw [HN8.out.1]; exact Nat.lt_of_le_of_lt (Nat.pow_le_pow_right (by decide) hd6) (by decide)) w').mono ?_
    rintro e1 w3 ⟨r, he, h1, h2, h3, hx⟩
    exact ⟨_, he, γ, LX.of_ext _ γ hx, fun _ _ _ h => h, r, rfl, by rw [h1, HN8.out.1], h2, h3⟩
  apply Chain.pure (LX.refl _) (by rfl)
  · intro vals γ w' ρ hR hN hp hρ hc hf hg
    refine ⟨rfl, ?_⟩
    have e1 := hρ 1
    conv at e1 => rhs; whnf
    clear hR hN hp hρ
    go_light
    go_simp
    exact ⟨rfl, rfl⟩
  · rfl
  refine Chain.step (FP fun v γ w' => ∃ r, v = .agg #[.bool neg, .string r, .int .i64 (k : Int)] ∧ isN r (nval N * 10 ^ dd)) (by rfl) (FP.stab ?_) ?_ ?_
  · intro v γ w1 γ' w2 r h
    exact h
  · intro vals γ w' ρ hR hN hp hρ hc hf hg
    refine ⟨rfl, ?_⟩
    have e6 : ρ (.tmp 6) = _ := (hρ 6).trans (hp 1 (by decide))
    obtain ⟨r9, hv9, hn9⟩ := hp 9 (by decide)
    have e14 := (hρ 14).trans hv9
    have e15 : ρ (.tmp 15) = _ := (hρ 15).trans (hp 10 (by decide))
    have HN9 := Lib.hid hn9
    clear hR hN hp hρ hn9
    go_light
    go_simp
    exact ⟨γ, LX.refl _ _ _, fun _ _ _ h => h, r9, rfl, HN9.out⟩
  refine Chain.step (fun _ γ w' => ∃ r, (Blk w' g2 120 #[.bool neg, .string r, .int .i64 (k : Int)] ∧ γ 1012 = some none ∧ Free γ g2) ∧ isN r (nval N * 10 ^ dd)) (by rfl) ?_ ?_ ?_
  · intro l γ w1 γ' w2 rr h
    obtain ⟨r, ⟨h1, h2, h3⟩, hnr⟩ := h
    exact ⟨r, ⟨h1.keep (rr.keptS fun b _ e => ⟨by rw [e]; exact h3, fun m hm => by rw [hm.1, h2, rr.done _ h2]⟩), rr.done _ h2, rr.free h1.lt h3⟩, hnr⟩
  · intro vals γ w' ρ hR hN hp hρ hc hf hg
    refine ⟨rfl, ?_⟩
    have e4 := hρ 4
    conv at e4 => rhs; whnf
    obtain ⟨r, hv11, hn11⟩ := hp 11 (by decide)
    have e16 := (hρ 16).trans hv11
    have HN11 := Lib.hid hn11
    clear hn11
    have HR := Lib.hid hR
    have hk0 := hR.key0 hN (k := 1012) (by decide) (by decide)
    have HK := Lib.hid hk0
    have hb0 := HC2.out.keep ((Kept.drew _ _).trans (hR.keptS (S := fun b => b = g2) fun b _ e => ⟨free0 b, fun m hm => by rw [hm.1]; exact hk0⟩))
    have HB0 := Lib.hid hb0
    have q0 := hb0.cell (i := 0) rfl
    have q1 := hb0.cell (i := 1) rfl
    have q2 := hb0.cell (i := 2) rfl
    have qf := hb0.frozen
    have ql := hb0.lt
    clear hR hN hp hρ hk0 hb0
    go_light
    go_simp
    refine ⟨γ.put 1012 none, LX.write HK.out rfl rfl rfl (by simp [World.setCell]) (fun b hb hm => (((((Only.refl g2 w').set 0 (.bool neg)).set 1 (.string r)).set 2 (.int .i64 (k : Int)))).block b fun e => hm ⟨rfl, e⟩), LM.done (by decide) (.inr (by decide)), ?_⟩
    have hb1 := HB0.out
    exact ⟨r, ⟨by simpa using (((hb1.set 0 (.bool neg)).set 1 (.string r)).set 2 (.int .i64 (k : Int))), rfl, fun ⟨k', hk'⟩ => by unfold Gh.put at hk'; split at hk'; (cases hk'); exact absurd (HR.out.old k' _ hk' (by have := HC2.out.lt; exact this)) (by simp [gh0])⟩, HN11.out⟩
  intro vals γ w9 hR hG
  have v0 : vals 0 = _ := hG 0 (by decide)
  have v1 : vals 1 = _ := hG 1 (by decide)
  have v2 : vals 2 = _ := hG 2 (by decide)
  have v3 : vals 3 = _ := hG 3 (by decide)
  have v4 : vals 4 = _ := hG 4 (by decide)
  have v5 : vals 5 = _ := hG 5 (by decide)
  have v6 : vals 6 = _ := hG 6 (by decide)
  have v7 : vals 7 = _ := hG 7 (by decide)
  obtain ⟨q8, v8, -⟩ := hG 8 (by decide)
  obtain ⟨q9, v9, -⟩ := hG 9 (by decide)
  have v10 : vals 10 = _ := hG 10 (by decide)
  obtain ⟨q11, v11, -⟩ := hG 11 (by decide)
  simp only [lexFrame, Act.put, List.setIfInBounds_toArray, List.set_cons_succ, List.set_cons_zero, Nat.zero_add, Nat.reduceAdd, v0, v1, v2, v3, v4, v5, v6, v7, v8, v9, v10, v11]
  clear v0 v1 v2 v3 v4 v5 v6 v7 v8 v9 v10 v11
  obtain ⟨r, ⟨hb9, -, -⟩, hn9⟩ := hG 12 (by decide)
  have c0 := hb9.cell (i := 0) rfl
  have c1 := hb9.cell (i := 1) rfl
  have c2 := hb9.cell (i := 2) rfl
  have cl := hb9.lt
  have HX9 := Lib.hid (hR.extB HX0.out fun m b hm => by rw [hm.2]; exact HGW)
  have HN9 := Lib.hid hn9
  clear hb9 hn9 hR hG
  go_wp2
  refine bodyPost_ret (v := .agg #[.bool neg, .string r, .int .i64 (k : Int)]) (by simp [results, Tryz.results133, go_sem, c0, c1, c2, cl]) rfl ⟨r, rfl, HN9.out, HX9.out⟩
end Go.Proofs.YtcmmkeiiapbgcaaGreatDoor
