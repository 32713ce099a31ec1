/- The reference's numbers of bytes: Int, small, Of, Add (of small numbers), natural. Conditions: bounds on sizes. -/
import Derived.Test.YtcmmkeiiapbgcaaGreatDoorBm9
namespace Go.Proofs.YtcmmkeiiapbgcaaGreatDoor
open Go Go.RowKit

theorem nvl_app (l m : List UInt8) : nvl (l ++ m) = nvl l * 256 ^ m.length + nvl m := by
  have := nvl_from m (nvl l)
  rw [← this]
  simp [nvl, List.foldl_append]
theorem nvl_take_le (l : List UInt8) (k : Nat) : nvl (l.take k) ≤ nvl l := by
  have h := nvl_app (l.take k) (l.drop k)
  rw [List.take_append_drop] at h
  have : 1 ≤ 256 ^ (l.drop k).length := Nat.one_le_pow _ _ (by omega)
  have := Nat.mul_le_mul_left (nvl (l.take k)) this
  omega
theorem nvl_take_succ (s : ByteArray) (k : Nat) (h : k < s.size) : nvl (s.data.toList.take (k + 1)) = nvl (s.data.toList.take k) * 256 + s[k].toNat := by
  rw [List.take_succ_eq_append_getElem (by simpa using h), nvl_snoc, bs_toList_at s k h]
theorem can_eight {s : ByteArray} (h : s.size = 8) : nval s < 9223372036854775808 ↔ s[0].toNat ≤ 127 := by
  have h0 : s.data.toList.head? = some s[0] := by rw [List.head?_eq_getElem?, List.getElem?_eq_getElem (by simp; omega), bs_toList_at s 0 (by omega)]
  have hl : s.data.toList.length = 8 := by simpa using h
  unfold nval
  generalize s.data.toList = l at *
  cases l with
  | nil => simp at hl
  | cons b l =>
    have hb : b = s[0] := by simpa using h0
    rw [← hb, nvl_cons]
    have hl7 : l.length = 7 := by simpa using hl
    have := nvl_lt l
    rw [hl7] at *
    omega
def intR (s : ByteArray) : Ending := .returned (.tuple #[.int .i64 (if nval s < 9223372036854775808 then (nval s : Int) else 0), .bool (decide (nval s < 9223372036854775808))])

set_option maxRecDepth 100000 in
set_option maxHeartbeats 1000000 in
theorem r01_Int (s : ByteArray) (hs : s.size ≤ 4294967296) (w : World) : Calls Tryz.prog 132 #[.string s] w (fun e w' => e = intR s ∧ w = w') := by
  go_enter Tryz.func132, Tryz.ntmps132
  go_wp2_with fail
  refine (r01_Canon s hs _).mono ?_
  rintro e1 w1 ⟨r, ⟨rfl, rfl⟩, hv, hc, hsz⟩
  have HR := Lib.hid (show intR r = intR s by unfold intR; rw [hv])
  have h8 := can_size hc (k := 8)
  rw [show (256 : Nat) ^ 8 = 18446744073709551616 by decide] at h8
  have hr : r.size ≤ 4294967296 := by omega
  have HC := Lib.hid hc
  clear hv hsz hc
  by_cases hb : nval r < 9223372036854775808
  · have HB := Lib.hid (show intR s = .returned (.tuple #[.int .i64 (nval r : Int), .bool true]) by rw [← HR.out]; simp [intR, hb])
    have hb8 : r.size ≤ 8 := h8.2 (by omega)
    have n8 : ¬ (8 : Int) < (r.size : Int) := by omega
    have HN := Lib.hid hb
    have hgo : ∀ k, k < r.size → nvl (r.data.toList.take (k + 1)) < 9223372036854775808 := fun k _ => Nat.lt_of_le_of_lt (nvl_take_le _ _) hb
    have HGO := Lib.hid hgo
    by_cases he : r.size = 8
    · have e8 : ((r.size : Int) == 8) = true := by simp [he]
      have h0 := (can_eight he).1 hb
      have p0 : 0 < r.size := by omega
      have n127 : ¬ (127 : Int) < (r[0].toNat : Int) := by omega
      clear h8 hb hgo h0
      go_wp2
      go_loop [4, 5] (fun n i => ∃ k : Nat, k ≤ r.size ∧ i = .int .i64 k ∧ n = .int .i64 (nvl (r.data.toList.take k) : Int)) (fun n i => r.size - (intOf i).toNat)
      case atStart => exact ⟨0, Nat.zero_le _, rfl, rfl⟩
      case round =>
        obtain ⟨k, hk, rfl, rfl⟩ := hrel
        by_cases hlt : k < r.size
        · have h1 := HGO.out k hlt
          have h2 := nvl_take_succ r k hlt
          have HS := Lib.hid h2
          obtain ⟨n, hn⟩ : ∃ n, n = nvl (r.data.toList.take k) := ⟨_, rfl⟩
          rw [← hn] at HS h2 ⊢
          rw [h2] at h1
          clear h2
          go_wp2
          go_round
          case rel => exact ⟨k + 1, by omega, by go_num, by rw [HS.out]; go_num⟩
          case measure => simp [intOf]; omega
        · have hf : nvl (r.data.toList.take k) = nval r := by rw [List.take_of_length_le (by simp; omega)]; rfl
          rw [hf]
          go_wp2
          refine bodyPost_ret (v := .tuple #[.int .i64 (nval r : Int), .bool true]) (by simp [results, Tryz.results132, go_sem]) rfl ⟨HB.out.symm, rfl⟩
    · have e8 : ((r.size : Int) == 8) = false := by simp; omega
      clear h8 hb hgo
      go_wp2
      go_loop [4, 5] (fun n i => ∃ k : Nat, k ≤ r.size ∧ i = .int .i64 k ∧ n = .int .i64 (nvl (r.data.toList.take k) : Int)) (fun n i => r.size - (intOf i).toNat)
      case atStart => exact ⟨0, Nat.zero_le _, rfl, rfl⟩
      case round =>
        obtain ⟨k, hk, rfl, rfl⟩ := hrel
        by_cases hlt : k < r.size
        · have h1 := HGO.out k hlt
          have h2 := nvl_take_succ r k hlt
          have HS := Lib.hid h2
          obtain ⟨n, hn⟩ : ∃ n, n = nvl (r.data.toList.take k) := ⟨_, rfl⟩
          rw [← hn] at HS h2 ⊢
          rw [h2] at h1
          clear h2
          go_wp2
          go_round
          case rel => exact ⟨k + 1, by omega, by go_num, by rw [HS.out]; go_num⟩
          case measure => simp [intOf]; omega
        · have hf : nvl (r.data.toList.take k) = nval r := by rw [List.take_of_length_le (by simp; omega)]; rfl
          rw [hf]
          go_wp2
          refine bodyPost_ret (v := .tuple #[.int .i64 (nval r : Int), .bool true]) (by simp [results, Tryz.results132, go_sem]) rfl ⟨HB.out.symm, rfl⟩
  · have HB := Lib.hid (show intR s = .returned (.tuple #[.int .i64 0, .bool false]) by rw [← HR.out]; simp [intR, hb])
    by_cases h9 : 8 < r.size
    · have n8 : (8 : Int) < (r.size : Int) := by omega
      clear h8 hb
      go_wp2
      refine bodyPost_ret (v := .tuple #[.int .i64 0, .bool false]) (by simp [results, Tryz.results132, go_sem]) rfl ⟨HB.out.symm, rfl⟩
    · have n8 : ¬ (8 : Int) < (r.size : Int) := by omega
      have he : r.size = 8 := by
        rcases Nat.lt_or_ge r.size 8 with h | h
        · have := (can_size HC.out (k := 7)).1 (by omega)
          rw [show (256 : Nat) ^ 7 = 72057594037927936 by decide] at this
          omega
        · omega
      have e8 : ((r.size : Int) == 8) = true := by simp [he]
      have p0 : 0 < r.size := by omega
      have n127 : (127 : Int) < (r[0].toNat : Int) := by
        have := can_eight he
        omega
      clear h8 hb
      go_wp2
      refine bodyPost_ret (v := .tuple #[.int .i64 0, .bool false]) (by simp [results, Tryz.results132, go_sem]) rfl ⟨HB.out.symm, rfl⟩

def smallR (s : ByteArray) (k : Nat) : Ending := .returned (.tuple #[.int .i64 (if nval s < 256 ^ k then (nval s : Int) else 0), .bool (decide (nval s < 256 ^ k))])
set_option maxRecDepth 100000 in
set_option maxHeartbeats 1000000 in
theorem r01_small (s : ByteArray) (hs : s.size ≤ 4294967296) (k : Nat) (hk : k ≤ 7) (w : World) : Calls Tryz.prog 150 #[.string s, .int .i64 (k : Int)] w (fun e w' => e = smallR s k ∧ w = w') := by
  go_enter Tryz.func150, Tryz.ntmps150
  go_wp2_with fail
  refine (r01_Canon s hs _).mono ?_
  rintro e1 w1 ⟨r, ⟨rfl, rfl⟩, hv, hc, hsz⟩
  have hk8 := can_size hc (k := k)
  rw [hv] at hk8
  by_cases hb : r.size ≤ k
  · have n8 : ¬ (k : Int) < (r.size : Int) := by omega
    have hb2 := hk8.1 hb
    have h63 : nval s < 9223372036854775808 := by
      refine Nat.lt_of_lt_of_le hb2 (Nat.le_trans (Nat.pow_le_pow_right (by omega) hk) ?_)
      decide
    have HB := Lib.hid (show smallR s k = intR s by simp [smallR, intR, hb2, h63])
    have HI := Lib.hid (show intR s = .returned (.tuple #[.int .i64 (nval s : Int), .bool true]) by simp [intR, h63])
    clear hk8 hb2 h63 hv hc
    go_wp2_with fail
    refine (r01_Int s hs _).mono ?_
    rintro e1 w1 ⟨he, rfl⟩
    rw [HI.out] at he
    subst he
    go_wp2
    refine bodyPost_ret (v := .tuple #[.int .i64 (nval s : Int), .bool true]) (by simp [results, Tryz.results150, go_sem]) rfl ⟨by rw [HB.out, HI.out], rfl⟩
  · have n8 : (k : Int) < (r.size : Int) := by omega
    have HB := Lib.hid (show smallR s k = .returned (.tuple #[.int .i64 0, .bool false]) by
      have : ¬ nval s < 256 ^ k := fun h => hb (hk8.2 h)
      simp [smallR, this])
    clear hk8 hv hc
    go_wp2
    refine bodyPost_ret (v := .tuple #[.int .i64 0, .bool false]) (by simp [results, Tryz.results150, go_sem]) rfl ⟨HB.out.symm, rfl⟩
end Go.Proofs.YtcmmkeiiapbgcaaGreatDoor
/- The reference's numbers of bytes: Of, Add (of small numbers), natural. Conditions: bounds on sizes. -/
namespace Go.Proofs.YtcmmkeiiapbgcaaGreatDoor
open Go Go.RowKit

theorem infoU8 : (Tryz.prog.info? 5).map (fun i => (i.zero, i.size, i.bytes)) = some (some (.int .u8 0), 1, 1) := by kernel_rfl
theorem tiU8 : TI Tryz.prog 159 5 1 1 := TI.mk_ Tryz.underlying159 infoU8 rfl (by decide)
/-- The first j of eight bytes of a number. -/
def ofL (n j : Nat) : List Int := (List.range j).map fun i => ((n / 2 ^ (56 - 8 * i) % 256 : Nat) : Int)
theorem ofL_len (n j : Nat) : (ofL n j).length = j := by simp [ofL]
theorem ofL_succ (n j : Nat) : ofL n (j + 1) = ofL n j ++ [((n / 2 ^ (56 - 8 * j) % 256 : Nat) : Int)] := by simp [ofL, List.range_succ]
theorem nval_nums (n : Nat) : ∀ j, j ≤ 8 → nval (strOfNums (ofL n j)) = n / 2 ^ (64 - 8 * j) % 256 ^ j
  | 0, _ => by simp [nval, strOfNums, ofL, nvl, Nat.mod_one]
  | j + 1, h => by
    have ih := nval_nums n j (by omega)
    unfold nval at ih ⊢
    rw [strOfNums_data] at ih ⊢
    rw [ofL_succ, List.map_append, List.map_cons, List.map_nil, nvl_snoc, ih]
    have h1 : (UInt8.ofNat ((n / 2 ^ (56 - 8 * j) % 256 : Nat) : Int).toNat).toNat = n / 2 ^ (56 - 8 * j) % 256 := by
      rw [Int.toNat_natCast, UInt8.toNat_ofNat']
      omega
    rw [h1, show 64 - 8 * (j + 1) = 56 - 8 * j by omega]
    have h2 : 2 ^ (64 - 8 * j) = 2 ^ (56 - 8 * j) * 256 := by
      rw [show 64 - 8 * j = (56 - 8 * j) + 8 by omega, Nat.pow_add]
    rw [h2, ← Nat.div_div_eq_div_mul, Nat.pow_succ]
    generalize n / 2 ^ (56 - 8 * j) = m
    rw [Nat.mul_comm (256 ^ j) 256, Nat.mod_mul]
    omega
theorem nval_of (n : Nat) (h : n < 18446744073709551616) : nval (strOfNums (ofL n 8)) = n := by
  rw [nval_nums n 8 (by omega)]
  simp
  omega
theorem fit_bytes (n j : Nat) (i : Nat) (h : i < j) : (ofL n j).getD i 0 = ((n / 2 ^ (56 - 8 * i) % 256 : Nat) : Int) := by
  simp [ofL, h]
def RetT (w : World) (n : Nat) (e : Ending) (w' : World) : Prop := ∃ r, e = .returned (.string r) ∧ nval r = n ∧ canB r ∧ r.size ≤ 4294967296 ∧ Ext w w'

set_option maxRecDepth 100000 in
set_option maxHeartbeats 1000000 in
theorem r01_Of_pos (n : Nat) (h0 : 0 < n) (hn : n ≤ 9223372036854775807) (w : World) : Calls Tryz.prog 131 #[.int .i64 (n : Int)] w (RetT w n) := by
  have hp : (0 : Int) < (n : Int) := by omega
  go_enter Tryz.func131, Tryz.ntmps131
  go_wp2
  go_loopw [3, 4] (fun b i wr => ∃ (j : Nat) (A : Option Addr) (c : Nat), j ≤ 8 ∧ i = .int .i64 (56 - 8 * (j : Int)) ∧ b = .slice A j c ∧ Ext w wr ∧ Own wr w.heap.size 5 1 A j c ((ofL n j).map (Value.int .u8))) (fun _ i _ => (intOf i + 8).toNat)
  case atStart => exact ⟨0, none, 0, by omega, rfl, rfl, Ext.refl _, Own.nil _ _ _ _⟩
  case round =>
    obtain ⟨j, A, c, hj, rfl, rfl, hext, hown⟩ := hrel
    have HE := Lib.hid hext
    have HOWN := Lib.hid hown
    by_cases hlt : j < 8
    · obtain ⟨m, hm⟩ : ∃ m : Nat, m = 56 - 8 * j := ⟨_, rfl⟩
      have hm2 : 56 - 8 * (j : Int) = (m : Int) := by omega
      have hm3 : (m : Int) ≤ 64 := by omega
      have hm4 : (0 : Int) ≤ (m : Int) := by omega
      rw [hm2]
      have hby : (n : Int) / 2 ^ m % 256 = ((n / 2 ^ (56 - 8 * j) % 256 : Nat) : Int) := by rw [← hm]; simp
      have HBY := Lib.hid hby
      have HM := Lib.hid hm
      have hown2 := hown.ext ((Ext.refl wr).alloc (.cells #[.int .u8 ((n : Int) / 2 ^ m % 256)] 5))
      have HO2 := Lib.hid hown2
      have hsz := hext.size
      clear hext hown hown2 hby hm hm2
      go_wp2_with (at_builtin; go_must (refine wpList_app rfl (.tmp 13) (.tmp 18) rfl tiU8 rfl HO2.out rfl (Blk.rd (Blk.new _ _ _)) rfl (by simp [Value.oneCell']) (by omega) (by decide) (by simp; omega) ?_); intro A4 c4 w4 hown4 hg4 hat4)
      go_roundw
      case rel =>
        refine ⟨j + 1, A4, c4, by omega, by have := HM.out; go_num, rfl, ?_, ?_⟩
        · exact (HE.out.alloc _).grown hg4 fun k hk => (HO2.out.blk hk).1
        · rw [ofL_succ, List.map_append, ← HBY.out]
          exact hown4
      case measure => have := HM.out; simp [intOf]; omega
    · obtain rfl : j = 8 := by omega
      rcases hown.2 with ⟨hv, hn0⟩ | ⟨g, cap, cur, hv, hb, hh, hnc, hcm, hcs, ht⟩
      · omega
      obtain ⟨rfl, rfl⟩ : A = some ⟨g, 0, none⟩ ∧ c = cap := by injection hv with h1 _ h2; exact ⟨h1, h2⟩
      have hcv := run_convert_bytes_arg (P := Tryz.prog) wr 159 5 Tryz.underlying159 Tryz.underlying5 g 0 8 c (ofL n 8) (ofL_len _ _) (fun i hi => by
        obtain ⟨b, o, hA, -, hc⟩ := (Own.rd hown).at_ (k := i) (u := .int .u8 ((ofL n 8).getD i 0)) (by
          rw [List.getElem?_map, List.getElem?_eq_getElem (by rw [ofL_len]; exact hi)]
          simp [List.getD, List.getElem?_eq_getElem (show i < (ofL n 8).length by rw [ofL_len]; exact hi)])
        injection hA with hA
        injection hA with h1 h2
        subst h1 h2
        exact hc) 118 Tryz.underlying118
      have hneg : (56 - 8 * ((8 : Nat) : Int)) = -8 := by omega
      rw [hneg]
      clear hown hext hv hb hh hnc hcm hcs ht hneg
      go_wp2_with fail
      refine (r01_Canon (strOfNums (ofL n 8)) (by rw [strOfNums_size, ofL_len]; omega) _).mono ?_
      rintro e1 w1 ⟨r, ⟨rfl, rfl⟩, hv, hc, hsz⟩
      have HV := Lib.hid (hv.trans (nval_of n (by omega)))
      have HC := Lib.hid hc
      rw [strOfNums_size, ofL_len] at hsz
      clear hv hc
      go_wp2
      go_ret
      exact ⟨r, rfl, HV.out, HC.out, by omega, HE.out⟩
set_option maxRecDepth 100000 in
set_option maxHeartbeats 1000000 in
theorem r01_Of_zero (w : World) : Calls Tryz.prog 131 #[.int .i64 0] w (RetT w 0) := by
  have hcv := run_convert_bytes_nil (P := Tryz.prog) w 159 5 Tryz.underlying159 Tryz.underlying5 0 0 118 Tryz.underlying118
  go_enter Tryz.func131, Tryz.ntmps131
  go_wp2
  go_loop [3, 4] (fun b i => b = .slice none 0 0 ∧ i = .int .i64 56) (fun _ _ => 0)
  case atStart => exact ⟨rfl, rfl⟩
  case round =>
    obtain ⟨rfl, rfl⟩ := hrel
    go_wp2_with fail
    refine (r01_Canon ByteArray.empty (by simp) _).mono ?_
    rintro e1 w1 ⟨r, ⟨rfl, rfl⟩, hv, hc, hsz⟩
    go_wp2
    go_ret
    exact ⟨r, rfl, hv, hc, by have : ByteArray.empty.size = 0 := rfl; omega, Ext.refl _⟩
theorem r01_Of (n : Nat) (hn : n ≤ 9223372036854775807) (w : World) : Calls Tryz.prog 131 #[.int .i64 (n : Int)] w (RetT w n) := by
  rcases Nat.eq_zero_or_pos n with h | h
  · subst h; exact r01_Of_zero w
  · exact r01_Of_pos n h hn w

theorem small_yes {s : ByteArray} {k : Nat} (h : nval s < 256 ^ k) : smallR s k = .returned (.tuple #[.int .i64 (nval s : Int), .bool true]) := by simp [smallR, h]
theorem small_no {s : ByteArray} {k : Nat} (h : ¬ nval s < 256 ^ k) : smallR s k = .returned (.tuple #[.int .i64 0, .bool false]) := by simp [smallR, h]
set_option maxRecDepth 100000 in
set_option maxHeartbeats 1000000 in
theorem r01_Add_small (a b : ByteArray) (ha : a.size ≤ 4294967296) (hb : b.size ≤ 4294967296) (ha7 : nval a < 256 ^ 7) (hb7 : nval b < 256 ^ 7) (w : World) : Calls Tryz.prog 134 #[.string a, .string b] w (RetT w (nval a + nval b)) := by
  have e7 : (256 : Nat) ^ 7 = 72057594037927936 := by decide
  have HA := Lib.hid (small_yes ha7)
  have HB := Lib.hid (small_yes hb7)
  rw [e7] at ha7 hb7
  clear e7
  go_enter Tryz.func134, Tryz.ntmps134
  go_wp2_with fail
  refine (r01_small a ha 7 (by omega) _).mono ?_
  rintro e1 w1 ⟨he, rfl⟩
  rw [HA.out] at he
  subst he
  go_wp2_with fail
  refine (r01_small b hb 7 (by omega) _).mono ?_
  rintro e1 w1 ⟨he, rfl⟩
  rw [HB.out] at he
  subst he
  go_wp2_with fail
  have := r01_Of (nval a + nval b) (by omega) w
  rw [Int.natCast_add] at this
  refine this.mono ?_
  rintro e1 w1 ⟨r, rfl, h1, h2, h3, h4⟩
  have H1 := Lib.hid h1
  have H2 := Lib.hid h2
  have H4 := Lib.hid h4
  clear h1 h2 h4 this
  go_wp2
  go_ret
  exact ⟨r, rfl, H1.out, H2.out, h3, H4.out⟩
set_option maxRecDepth 100000 in
set_option maxHeartbeats 1000000 in
theorem r04_natural (n : Int) (h1 : -72057594037927936 ≤ n) (h2 : n ≤ 72057594037927936) (w : World) : Calls Tryz.prog 137 #[.int .i64 n] w (RetT w n.natAbs) := by
  by_cases h0 : 0 ≤ n
  · obtain ⟨m, rfl⟩ : ∃ m : Nat, n = (m : Int) := ⟨n.toNat, by omega⟩
    go_enter Tryz.func137, Tryz.ntmps137
    go_wp2_with fail
    refine (r01_Of m (by omega) _).mono ?_
    rintro e1 w1 ⟨r, rfl, g1, g2, g3, g4⟩
    have H1 := Lib.hid g1
    have H2 := Lib.hid g2
    have H4 := Lib.hid g4
    clear g1 g2 g4
    go_wp2
    go_ret
    exact ⟨r, rfl, by rw [H1.out]; simp, H2.out, g3, H4.out⟩
  · obtain ⟨m, hm⟩ : ∃ m : Nat, -(n + 1) = (m : Int) := ⟨(-(n + 1)).toNat, by omega⟩
    have HM := Lib.hid (show m + 1 = n.natAbs by omega)
    have hneg : ¬ (0 : Int) ≤ n := h0
    go_enter Tryz.func137, Tryz.ntmps137
    go_wp2_with fail
    refine (r01_Of m (by omega) _).mono ?_
    rintro e1 w1 ⟨r, rfl, g1, g2, g3, g4⟩
    have H1 := Lib.hid g1
    have H4 := Lib.hid g4
    clear g1 g2 g4
    go_wp2_with fail
    refine (r01_Of 1 (by omega) _).mono ?_
    rintro e1 w2 ⟨r2, rfl, g1, g2, g3', g4⟩
    have H1' := Lib.hid g1
    have H4' := Lib.hid g4
    clear g1 g2 g4
    go_wp2_with fail
    have e7 : (256 : Nat) ^ 7 = 72057594037927936 := by decide
    refine (r01_Add_small r r2 g3 g3' (by rw [H1.out, e7]; omega) (by rw [H1'.out, e7]; omega) _).mono ?_
    rintro e1 w3 ⟨r3, rfl, k1, k2, k3, k4⟩
    have K1 := Lib.hid k1
    have K2 := Lib.hid k2
    have K4 := Lib.hid k4
    clear k1 k2 k4
    go_wp2
    go_ret
    exact ⟨r3, rfl, by rw [K1.out, H1.out, H1'.out]; exact HM.out, K2.out, k3, H4.out.trans (H4'.out.trans K4.out)⟩
end Go.Proofs.YtcmmkeiiapbgcaaGreatDoor
/- An operation of a drawn region whose guard says no. No conditions. -/
namespace Go.Proofs.YtcmmkeiiapbgcaaGreatDoor
open Go Go.RowKit

theorem LinStep.no {Γ : Type} {P : Program} {ops : Array Oper} {D : Nat → List Nat} {R : Γ → World → Γ → World → Prop} {N : Nat → Γ → Prop} {G : Nat → List Value → Γ → World → Prop} {a0 : Act} {γ0 : Γ} {w0 : World} {i : Nat} {o : Oper}
    (h : ∀ (vals : Nat → Value) (γ : Γ) (w : World), (∀ j, j ∈ predsOf o → G j ((D j).map vals) γ w) → linWanted o vals = false ∧ G i ((D i).map (setV vals i undef)) γ w) : LinStep P ops D R N G a0 γ0 w0 i o := by
  intro vals γ w hR hN hp
  obtain ⟨h1, h2⟩ := h vals γ w hp
  rw [if_neg (by rw [h1]; simp)]
  exact h2
theorem arr2 {cs : Array Value} (h : cs.size = 2) (a0 a1 : Value) : (cs.setIfInBounds 0 a0).setIfInBounds 1 a1 = #[a0, a1] := by
  obtain ⟨l⟩ := cs
  match l, h with
  | [_, _], _ => rfl
theorem VarAt.store2 {γ : Gh} {w : World} {al : Nat → Option Nat} {s k t : Nat} {v : Value} (h : VarAt k t 2 v γ w) (hs : al s = some k) (hn : LN al s γ) :
    ∃ g, v = .pointer (some ⟨g, 0, none⟩) ∧ (∃ x0 x1, w.cell? ⟨g, 0, none⟩ = some x0 ∧ w.cell? ⟨g, 1, none⟩ = some x1) ∧ (∀ i, w.frozen? ⟨g, i, none⟩ = false) ∧ g < w.heap.size ∧ γ k = some (some g) ∧ ∀ a0 a1, LR γ w (γ.put k none) ((w.setCell ⟨g, 0, none⟩ a0).setCell ⟨g, 1, none⟩ a1) ∧
      VarIs t v #[a0, a1] (γ.put k none) ((w.setCell ⟨g, 0, none⟩ a0).setCell ⟨g, 1, none⟩ a1) := by
  obtain ⟨g, ⟨l⟩, h1, h2, h3, h4, h5⟩ := h.stored hs hn
  match l, h2 with
  | [x0, x1], h2 =>
    refine ⟨g, h1, ⟨x0, x1, h3.cell rfl, h3.cell rfl⟩, h3.frozen, h3.lt, h4, fun a0 a1 => h5 _ _ (((Only.refl g w).set 0 a0).set 1 a1) ?_ rfl⟩
    have := (h3.set 0 a0).set 1 a1
    rwa [arr2 h2] at this
end Go.Proofs.YtcmmkeiiapbgcaaGreatDoor
/- The reference's Quo of small numbers, fit and Make of decimals. Conditions: bounds on sizes. -/
namespace Go.Proofs.YtcmmkeiiapbgcaaGreatDoor
open Go Go.RowKit

def isN (s : ByteArray) (n : Nat) : Prop := nval s = n ∧ canB s ∧ s.size ≤ 4294967296
def RetQ (w : World) (q r : Nat) (e : Ending) (w' : World) : Prop := ∃ s t, e = .returned (.tuple #[.string s, .string t, .bool true]) ∧ isN s q ∧ isN t r ∧ Ext w w'
def QuoC (M : Nat) : Prop := ∀ (a b : ByteArray) (w : World), a.size ≤ 4294967296 → b.size ≤ 4294967296 → nval a < M → nval b = 10 → Calls Tryz.prog 130 #[.string a, .string b] w (RetQ w (nval a / 10) (nval a % 10))
theorem tdiv_nat (x y : Nat) : (x : Int).tdiv (y : Int) = ((x / y : Nat) : Int) := by rw [Int.tdiv_eq_ediv_of_nonneg (by omega)]; simp
theorem tmod_nat (x y : Nat) : (x : Int).tmod (y : Int) = ((x % y : Nat) : Int) := by rw [Int.tmod_eq_emod_of_nonneg (by omega)]; simp
def vQ7 (x : Nat) (y : Nat) : Nat → Value
  | 0 => .int .i64 (x : Int)
  | 1 => .int .i64 (y : Int)
  | 2 => .int .i64 ((x / y : Nat) : Int)
  | 4 => .int .i64 (x : Int)
  | 5 => .int .i64 (y : Int)
  | 6 => .int .i64 ((x % y : Nat) : Int)
  | 10 => .bool true
  | _ => undef
def gQ7 (x : Nat) (y : Nat) (ix : Nat) (vl : List Value) (_γ : Gh) (_w' : World) : Prop := match vl with
  | [v] => if ix = 3 then (∃ r, v = .string r ∧ isN r (x / y)) else if ix = 7 then (∃ r, v = .string r ∧ isN r (x % y)) else if ix = 8 then (∃ r, v = .string r ∧ isN r (x / y)) else if ix = 9 then (∃ r, v = .string r ∧ isN r (x % y)) else v = vQ7 x y ix
  | _ => True
theorem gQ7_st (x : Nat) (y : Nat) : ∀ ix vl γ w γ' w', LR γ w γ' w' → gQ7 x y ix vl γ w → gQ7 x y ix vl γ' w' := by
  intro ix vl γ w γ' w' r h
  match vl, h with
  | [v], h =>
    unfold gQ7 at h ⊢
    by_cases h3 : ix = 3
    · simp only [if_pos h3] at h ⊢
      exact h
    simp only [if_neg h3] at h ⊢
    by_cases h7 : ix = 7
    · simp only [if_pos h7] at h ⊢
      exact h
    simp only [if_neg h7] at h ⊢
    by_cases h8 : ix = 8
    · simp only [if_pos h8] at h ⊢
      exact h
    simp only [if_neg h8] at h ⊢
    by_cases h9 : ix = 9
    · simp only [if_pos h9] at h ⊢
      exact h
    simp only [if_neg h9] at h ⊢
    exact h
  | [], _ => trivial
  | _ :: _ :: _, _ => trivial

set_option maxRecDepth 100000 in
set_option maxHeartbeats 2000000 in
theorem r01_Quo_small (a b : ByteArray) (ha : a.size ≤ 4294967296) (hb : b.size ≤ 4294967296) (ha7 : nval a < 256 ^ 7) (hb7 : nval b < 256 ^ 7) (hb0 : 0 < nval b) (w : World) : Calls Tryz.prog 130 #[.string a, .string b] w (RetQ w (nval a / nval b) (nval a % nval b)) := by
  have HA := Lib.hid (small_yes ha7)
  go_enter Tryz.func130, Tryz.ntmps130
  go_wp2_with fail
  refine (r01_Canon b hb _).mono ?_
  rintro e1 w1 ⟨c, ⟨rfl, rfl⟩, hv, hc, hsz⟩
  have hcz := can_nil hc
  have hc0 : ((c.size : Int) == 0) = false := by
    rw [beq_eq_false_iff_ne]
    omega
  have hc32 : c.size ≤ 4294967296 := by omega
  have HB := Lib.hid (small_yes (s := c) (k := 7) (by rw [hv]; exact hb7))
  have HV := Lib.hid hv
  rw [show (256 : Nat) ^ 7 = 72057594037927936 by decide] at ha7 hb7
  rw [← hv] at hb7 hb0
  clear hcz hc hv hsz
  go_wp2_with fail
  refine (r01_small a ha 7 (by omega) _).mono ?_
  rintro e1 w1 ⟨he, rfl⟩
  rw [HA.out] at he
  subst he
  go_wp2_with fail
  refine (r01_small c hc32 7 (by omega) _).mono ?_
  rintro e1 w1 ⟨he, rfl⟩
  rw [HB.out] at he
  subst he
  obtain ⟨x, hx⟩ : ∃ x, x = nval a := ⟨_, rfl⟩
  obtain ⟨y, hy⟩ : ∃ y, y = nval c := ⟨_, rfl⟩
  have HXE := Lib.hid hx
  have HYE := Lib.hid hy
  rw [← hx] at ha7
  rw [← hy] at hb7 hb0
  rw [← hx, ← hy]
  clear hx hy
  have hdv : x / y ≤ x := Nat.div_le_self _ _
  have hmd : x % y < y := Nat.mod_lt _ hb0
  have HDV := Lib.hid (show x / y ≤ 9223372036854775807 by omega)
  have HMD := Lib.hid (show x % y ≤ 9223372036854775807 by omega)
  have HY0 := Lib.hid (show ¬ y = 0 by omega)
  have hw : ∀ d : Nat, d ≤ 72057594037927936 → IntKind.i64.wrap (d : Int) = (d : Int) := fun d hd => IntWalk.i64_in _ (by omega)
  have HW1 := Lib.hid (show IntKind.i64.wrap ((x : Int) / (y : Int)) = ((x / y : Nat) : Int) by rw [← Int.natCast_ediv]; exact hw _ (by omega))
  have HW2 := Lib.hid (show IntKind.i64.wrap ((x : Int) % (y : Int)) = ((x % y : Nat) : Int) by rw [← Int.natCast_emod]; exact hw _ (by omega))
  clear hw
  clear hdv hmd
  go_upto_region 7 with fail
  refine wp_region_lin_lit (by kernel_rfl) (fun i => [i]) (by kernel_rfl) LR LR.refl LR.trans (LN (al0)) (gQ7 x y) (gQ7_st _ _) gh0 (LN.zero _) ⟨?_, ?_, ?_, ?_, ?_, ?_, ?_, ?_, ?_, ?_, ?_, trivial⟩ ?_
  · refine LinStep.yes fun vals γ w' ρ hR hN hp hρ hc hf hg => ⟨rfl, ?_⟩
    have e7 : ρ (.tmp 7) = .int .i64 (x : Int) := hρ 7
    have hx := hR.drew_ext
    have HR := Lib.hid hR
    have HN := Lib.hid hN
    clear hR hN hp hρ hx
    go_light
    go_simp
    exact ⟨γ, LR.refl _ _, fun _ _ _ h => h, rfl⟩
  · refine LinStep.yes fun vals γ w' ρ hR hN hp hρ hc hf hg => ⟨rfl, ?_⟩
    have e9 : ρ (.tmp 9) = .int .i64 (y : Int) := hρ 9
    have hx := hR.drew_ext
    have HR := Lib.hid hR
    have HN := Lib.hid hN
    clear hR hN hp hρ hx
    go_light
    go_simp
    exact ⟨γ, LR.refl _ _, fun _ _ _ h => h, rfl⟩
  · refine LinStep.yes fun vals γ w' ρ hR hN hp hρ hc hf hg => ⟨rfl, ?_⟩
    have e35 : ρ (.tmp 35) = .int .i64 (x : Int) := (hρ 35).trans (hp 0 (by decide))
    have e36 : ρ (.tmp 36) = .int .i64 (y : Int) := (hρ 36).trans (hp 1 (by decide))
    have hx := hR.drew_ext
    have HR := Lib.hid hR
    have HN := Lib.hid hN
    clear hR hN hp hρ hx
    go_light
    go_simp
    rw [if_neg HY0.out]
    first | rw [HW1.out] | rw [HW2.out]
    exact ⟨γ, LR.refl _ _, fun _ _ _ h => h, rfl⟩
  · refine LinStep.yes fun vals γ w' ρ hR hN hp hρ hc hf hg => ⟨rfl, ?_⟩
    have e37 : ρ (.tmp 37) = .int .i64 ((x / y : Nat) : Int) := (hρ 37).trans (hp 2 (by decide))
    have hx := hR.drew_ext
    have HR := Lib.hid hR
    have HN := Lib.hid hN
    clear hR hN hp hρ hx
    go_light
    go_simp
    have hof := r01_Of (x / y) (by first | exact HDV.out | exact HMD.out) w'
    first | refine hof.mono ?_ | (rw [Int.natCast_ediv] at hof; refine hof.mono ?_) | (rw [Int.natCast_emod] at hof; refine hof.mono ?_)
    rintro e' w3 ⟨r, he, h1, h2, h3, hx⟩
    exact ⟨_, he, γ, LR.of_ext γ hx, fun _ _ _ h => h, r, rfl, h1, h2, h3⟩
  · refine LinStep.yes fun vals γ w' ρ hR hN hp hρ hc hf hg => ⟨rfl, ?_⟩
    have e7 : ρ (.tmp 7) = .int .i64 (x : Int) := hρ 7
    have hx := hR.drew_ext
    have HR := Lib.hid hR
    have HN := Lib.hid hN
    clear hR hN hp hρ hx
    go_light
    go_simp
    exact ⟨γ, LR.refl _ _, fun _ _ _ h => h, rfl⟩
  · refine LinStep.yes fun vals γ w' ρ hR hN hp hρ hc hf hg => ⟨rfl, ?_⟩
    have e9 : ρ (.tmp 9) = .int .i64 (y : Int) := hρ 9
    have hx := hR.drew_ext
    have HR := Lib.hid hR
    have HN := Lib.hid hN
    clear hR hN hp hρ hx
    go_light
    go_simp
    exact ⟨γ, LR.refl _ _, fun _ _ _ h => h, rfl⟩
  · refine LinStep.yes fun vals γ w' ρ hR hN hp hρ hc hf hg => ⟨rfl, ?_⟩
    have e39 : ρ (.tmp 39) = .int .i64 (x : Int) := (hρ 39).trans (hp 4 (by decide))
    have e40 : ρ (.tmp 40) = .int .i64 (y : Int) := (hρ 40).trans (hp 5 (by decide))
    have hx := hR.drew_ext
    have HR := Lib.hid hR
    have HN := Lib.hid hN
    clear hR hN hp hρ hx
    go_light
    go_simp
    rw [if_neg HY0.out, tmod_nat]
    exact ⟨γ, LR.refl _ _, fun _ _ _ h => h, rfl⟩
  · refine LinStep.yes fun vals γ w' ρ hR hN hp hρ hc hf hg => ⟨rfl, ?_⟩
    have e41 : ρ (.tmp 41) = .int .i64 ((x % y : Nat) : Int) := (hρ 41).trans (hp 6 (by decide))
    have hx := hR.drew_ext
    have HR := Lib.hid hR
    have HN := Lib.hid hN
    clear hR hN hp hρ hx
    go_light
    go_simp
    have hof := r01_Of (x % y) (by first | exact HDV.out | exact HMD.out) w'
    first | refine hof.mono ?_ | (rw [Int.natCast_ediv] at hof; refine hof.mono ?_) | (rw [Int.natCast_emod] at hof; refine hof.mono ?_)
    rintro e' w3 ⟨r, he, h1, h2, h3, hx⟩
    exact ⟨_, he, γ, LR.of_ext γ hx, fun _ _ _ h => h, r, rfl, h1, h2, h3⟩
  · refine LinStep.yes fun vals γ w' ρ hR hN hp hρ hc hf hg => ⟨rfl, ?_⟩
    obtain ⟨r, hr, hn⟩ := hp 3 (by decide)
    have e38 : ρ (.tmp 38) = _ := (hρ 38).trans hr
    have HN1 := Lib.hid hn
    clear hr hn
    have hx := hR.drew_ext
    have HR := Lib.hid hR
    have HN := Lib.hid hN
    clear hR hN hp hρ hx
    go_light
    go_simp
    exact ⟨γ, LR.refl _ _, fun _ _ _ h => h, r, rfl, HN1.out⟩
  · refine LinStep.yes fun vals γ w' ρ hR hN hp hρ hc hf hg => ⟨rfl, ?_⟩
    obtain ⟨r, hr, hn⟩ := hp 7 (by decide)
    have e42 : ρ (.tmp 42) = _ := (hρ 42).trans hr
    have HN1 := Lib.hid hn
    clear hr hn
    have hx := hR.drew_ext
    have HR := Lib.hid hR
    have HN := Lib.hid hN
    clear hR hN hp hρ hx
    go_light
    go_simp
    exact ⟨γ, LR.refl _ _, fun _ _ _ h => h, r, rfl, HN1.out⟩
  · refine LinStep.yes fun vals γ w' ρ hR hN hp hρ hc hf hg => ⟨rfl, ?_⟩
    have hx := hR.drew_ext
    have HR := Lib.hid hR
    have HN := Lib.hid hN
    clear hR hN hp hρ hx
    go_light
    go_simp
    exact ⟨γ, LR.refl _ _, fun _ _ _ h => h, rfl⟩
  · intro vals γ w9 hR hG
    obtain ⟨r1, hv8, hn8⟩ := hG 8 (by decide)
    obtain ⟨r2, hv9, hn9⟩ := hG 9 (by decide)
    have hv10 : vals 10 = .bool true := hG 10 (by decide)
    have HX9 := Lib.hid hR.drew_ext
    have H8 := Lib.hid hn8
    have H9 := Lib.hid hn9
    clear hR hG hn8 hn9
    simp only [lexFrame, Act.put, List.setIfInBounds_toArray, List.set_cons_succ, List.set_cons_zero, Nat.zero_add, Nat.reduceAdd, hv8, hv9, hv10]
    clear hv8 hv9 hv10
    go_wp2
    refine bodyPost_ret (v := .tuple #[.string r1, .string r2, .bool true]) (by simp [results, Tryz.results130, go_sem]) rfl ⟨r1, r2, rfl, ?_, ?_, HX9.out⟩
    · rw [← HXE.out, ← HV.out, ← HYE.out]; exact H8.out
    · rw [← HXE.out, ← HV.out, ← HYE.out]; exact H9.out
theorem quoC_small : QuoC (256 ^ 7) := by
  intro a b w ha hb h7 h10
  have := r01_Quo_small a b ha hb h7 (by rw [h10]; decide) (by omega) w
  rwa [h10] at this
def vF2 (g : Nat) (N : ByteArray) : Nat → Value
  | 0 => .pointer (some ⟨g, 1, none⟩)
  | 1 => .string N
  | 7 => .bool true
  | 10 => .bool true
  | _ => undef
def gF2 (g : Nat) (N : ByteArray) (ix : Nat) (vl : List Value) (_γ : Gh) (_w' : World) : Prop := match vl with
  | [v] => if ix = 2 then (∃ r, v = .string r ∧ isN r (10)) else if ix = 3 then (∃ r t, v = .tuple #[.string r, .string t, .bool true] ∧ isN r (nval N / 10) ∧ isN t (nval N % 10)) else if ix = 4 then (∃ r t, v = .tuple #[.string r, .string t, .bool true] ∧ isN r (nval N / 10) ∧ isN t (nval N % 10)) else if ix = 5 then (∃ r, v = .string r ∧ isN r (nval N / 10)) else if ix = 6 then (∃ r, v = .string r ∧ isN r (nval N % 10)) else if ix = 8 then (∃ r, v = .string r ∧ isN r (nval N / 10)) else if ix = 9 then (∃ r, v = .string r ∧ isN r (nval N % 10)) else v = vF2 g N ix
  | _ => True
theorem gF2_st (g : Nat) (N : ByteArray) : ∀ ix vl γ w γ' w', LR γ w γ' w' → gF2 g N ix vl γ w → gF2 g N ix vl γ' w' := by
  intro ix vl γ w γ' w' r h
  match vl, h with
  | [v], h =>
    unfold gF2 at h ⊢
    by_cases h2 : ix = 2
    · simp only [if_pos h2] at h ⊢
      exact h
    simp only [if_neg h2] at h ⊢
    by_cases h3 : ix = 3
    · simp only [if_pos h3] at h ⊢
      exact h
    simp only [if_neg h3] at h ⊢
    by_cases h4 : ix = 4
    · simp only [if_pos h4] at h ⊢
      exact h
    simp only [if_neg h4] at h ⊢
    by_cases h5 : ix = 5
    · simp only [if_pos h5] at h ⊢
      exact h
    simp only [if_neg h5] at h ⊢
    by_cases h6 : ix = 6
    · simp only [if_pos h6] at h ⊢
      exact h
    simp only [if_neg h6] at h ⊢
    by_cases h8 : ix = 8
    · simp only [if_pos h8] at h ⊢
      exact h
    simp only [if_neg h8] at h ⊢
    by_cases h9 : ix = 9
    · simp only [if_pos h9] at h ⊢
      exact h
    simp only [if_neg h9] at h ⊢
    exact h
  | [], _ => trivial
  | _ :: _ :: _, _ => trivial

def strip : Nat → Nat → Nat × Nat
  | 0, n => (n, 0)
  | s + 1, n => if n % 10 = 0 then strip s (n / 10) else (n, s + 1)
/-- The decimal of a number of units, if it fits. -/
def fitS (neg : Bool) (n s : Nat) : (Int × Int) × Bool :=
  if (strip s n).1 ≤ 1000000000000000 ∧ (strip s n).2 ≤ 6 then ((if neg then -((strip s n).1 : Int) else ((strip s n).1 : Int), ((strip s n).2 : Int)), true) else ((0, 0), false)
set_option maxRecDepth 100000 in
set_option maxHeartbeats 4000000 in
theorem r04_fit {M : Nat} (hQ : QuoC M) (neg : Bool) (N0 : ByteArray) (s0 : Nat) (n0 : Nat) (hn0 : nval N0 = n0) (hs0 : s0 ≤ 4294967296) (h32 : N0.size ≤ 4294967296) (hM : n0 < M) (w : World) :
    Calls Tryz.prog 102 #[.agg #[.bool neg, .string N0, .int .i64 (s0 : Int)]] w (RetDB w (fitS neg n0 s0)) := by
  go_enter Tryz.func102, Tryz.ntmps102
  go_wp2
  have HS0 := Lib.hid (show Blk ((w.alloc (.cells #[.bool neg, .string N0, .int .i64 (s0 : Int)] 120)).alloc (.cells #[.int .i64 0, .int .i64 0] 31)) w.heap.size 120 #[.bool neg, .string N0, .int .i64 (s0 : Int)] from (Blk.new _ _ _).keep (Kept.alloc _ _ _))
  have HS1 := Lib.hid (show Blk ((w.alloc (.cells #[.bool neg, .string N0, .int .i64 (s0 : Int)] 120)).alloc (.cells #[.int .i64 0, .int .i64 0] 31)) (w.heap.size + 1) 31 #[.int .i64 0, .int .i64 0] by
    have := Blk.new (w.alloc (.cells #[.bool neg, .string N0, .int .i64 (s0 : Int)] 120)) 31 #[.int .i64 0, .int .i64 0]
    simpa using this)
  go_loopw [4] (fun _ wr => ∃ (N : ByteArray) (s : Nat), s ≤ s0 ∧ N.size ≤ 4294967296 ∧ nval N < M ∧ strip s (nval N) = strip s0 n0 ∧ Ext w wr ∧ Blk wr w.heap.size 120 #[.bool neg, .string N, .int .i64 (s : Int)] ∧ Blk wr (w.heap.size + 1) 31 #[.int .i64 0, .int .i64 0]) (fun _ wr => (intOf ((wr.cell? ⟨w.heap.size, 2, none⟩).getD undef)).toNat)
  case atStart => exact ⟨N0, s0, Nat.le_refl _, h32, by rw [hn0]; exact hM, by rw [hn0], ((Ext.refl w).alloc _).alloc _, HS0.out, HS1.out⟩
  case round =>
    clear HS0 HS1
    obtain ⟨N, s, hss, hN32, hNM, hst, hex, hbx, hbr⟩ := hrel
    have HST0 := Lib.hid hst
    have HEX := Lib.hid hex
    have HBX := Lib.hid hbx
    have HBR := Lib.hid hbr
    clear hst hex hbx hbr
    by_cases hz : s = 0
    · subst hz
      have HST := Lib.hid (show strip s0 n0 = (nval N, 0) by rw [← HST0.out]; rfl)
      obtain ⟨s, hs⟩ : ∃ s : Nat, s = 0 := ⟨_, rfl⟩
      rw [← hs] at HST HBX
      have hsn : ¬ (0 : Int) < (s : Int) := by omega
      have HSZ := Lib.hid hs
      clear HST0 hs
      have k0 := HBX.out.cell (i := 0) rfl
      have k1 := HBX.out.cell (i := 1) rfl
      have k2 := HBX.out.cell (i := 2) rfl
      have r0 := HBR.out.cell (i := 0) rfl
      have r1 := HBR.out.cell (i := 1) rfl
      have rf := HBR.out.frozen
      have rz := HBR.out.lt
      have hsz := HEX.out.size
      go_wp2_with fail
      refine (r01_Int N hN32 _).mono ?_
      rintro e1 w1 ⟨he, rfl⟩
      by_cases h63 : nval N < 9223372036854775808
      · rw [show intR N = .returned (.tuple #[.int .i64 (nval N : Int), .bool true]) by simp [intR, h63]] at he
        subst he
        by_cases h15 : nval N ≤ 1000000000000000
        · have n15 : ¬ (1000000000000000 : Int) < (nval N : Int) := by omega
          by_cases hs6 : s ≤ 6
          · have n6 : ¬ (6 : Int) < (s : Int) := by omega
            have HF := Lib.hid (show fitS neg n0 s0 = ((if neg then -(nval N : Int) else (nval N : Int), (s : Int)), true) by simp [fitS, HST.out, h15, hs6])
            cases neg
            · go_wp2
              rw [HF.out]
              refine bodyPost_ret (v := .tuple #[.agg #[.int .i64 (nval N : Int), .int .i64 (s : Int)], .bool true]) (by simp [results, Tryz.results102, go_sem, r0, r1]) rfl ⟨rfl, ?_⟩
              iterate 2 with_reducible refine Ext.set2 ?_ (by omega) _
              with_reducible exact HEX.out
            · go_wp2
              rw [HF.out]
              refine bodyPost_ret (v := .tuple #[.agg #[.int .i64 (-(nval N : Int)), .int .i64 (s : Int)], .bool true]) (by simp [results, Tryz.results102, go_sem, r0, r1]) rfl ⟨rfl, ?_⟩
              iterate 2 with_reducible refine Ext.set2 ?_ (by omega) _
              with_reducible exact HEX.out
          · exfalso; omega
        · have n15 : (1000000000000000 : Int) < (nval N : Int) := by omega
          have HF := Lib.hid (show fitS neg n0 s0 = ((0, 0), false) by simp [fitS, HST.out, h15])
          go_wp2
          rw [HF.out]
          refine bodyPost_ret (v := .tuple #[.agg #[.int .i64 0, .int .i64 0], .bool false]) (by simp [results, Tryz.results102, go_sem, r0, r1]) rfl ⟨rfl, ?_⟩
          iterate 2 with_reducible refine Ext.set2 ?_ (by omega) _
          with_reducible exact HEX.out
      · rw [show intR N = .returned (.tuple #[.int .i64 0, .bool false]) by simp [intR, h63]] at he
        subst he
        have HF := Lib.hid (show fitS neg n0 s0 = ((0, 0), false) by
          have h15 : ¬ nval N ≤ 1000000000000000 := by omega
          simp [fitS, HST.out, h15])
        go_wp2
        rw [HF.out]
        refine bodyPost_ret (v := .tuple #[.agg #[.int .i64 0, .int .i64 0], .bool false]) (by simp [results, Tryz.results102, go_sem, r0, r1]) rfl ⟨rfl, ?_⟩
        iterate 2 with_reducible refine Ext.set2 ?_ (by omega) _
        with_reducible exact HEX.out
    · have hsp : (0 : Int) < (s : Int) := by omega
      have k2 := HBX.out.cell (i := 2) rfl
      have HM2 := Lib.hid k2
      go_upto_region 2 with fail
      clear k2
      obtain ⟨g, hg⟩ : ∃ g, g = w.heap.size := ⟨_, rfl⟩
      rw [← hg] at HBX ⊢
      have HG := Lib.hid hg
      clear hg
      refine wp_region_lin_lit (by kernel_rfl) (fun i => [i]) (by kernel_rfl) LR LR.refl LR.trans (LN (al0)) (gF2 g N) (gF2_st _ _) gh0 (LN.zero _) ⟨?_, ?_, ?_, ?_, ?_, ?_, ?_, ?_, ?_, ?_, ?_, trivial⟩ ?_
      · refine LinStep.yes fun vals γ w' ρ hR hN hp hρ hc hf hg => ⟨rfl, ?_⟩
        have e1 : ρ (.tmp 1) = .pointer (some ⟨g, 0, none⟩) := hρ 1
        have hx := hR.drew_ext
        have HR := Lib.hid hR
        have HN := Lib.hid hN
        clear hR hN hp hρ hx
        go_light
        go_simp
        exact ⟨γ, LR.refl _ _, fun _ _ _ h => h, rfl⟩
      · refine LinStep.yes fun vals γ w' ρ hR hN hp hρ hc hf hg => ⟨rfl, ?_⟩
        have e13 : ρ (.tmp 13) = .pointer (some ⟨g, 1, none⟩) := (hρ 13).trans (hp 0 (by decide))
        have hx := hR.drew_ext
        have c1 := (HBX.out.keep (hx.kept _)).cell (i := 1) rfl
        have HR := Lib.hid hR
        have HN := Lib.hid hN
        clear hR hN hp hρ hx
        go_light
        go_simp
        exact ⟨γ, LR.refl _ _, fun _ _ _ h => h, rfl⟩
      · refine LinStep.yes fun vals γ w' ρ hR hN hp hρ hc hf hg => ⟨rfl, ?_⟩
        have hx := hR.drew_ext
        have HR := Lib.hid hR
        have HN := Lib.hid hN
        clear hR hN hp hρ hx
        go_light
        go_simp
        refine (r01_Of 10 (by omega) w').mono ?_
        rintro e' w3 ⟨r, he, h1, h2, h3, hx⟩
        exact ⟨_, he, γ, LR.of_ext γ hx, fun _ _ _ h => h, r, rfl, h1, h2, h3⟩
      · refine LinStep.yes fun vals γ w' ρ hR hN hp hρ hc hf hg => ⟨rfl, ?_⟩
        have e14 : ρ (.tmp 14) = .string N := (hρ 14).trans (hp 1 (by decide))
        obtain ⟨r, hr, hn⟩ := hp 2 (by decide)
        have e15 : ρ (.tmp 15) = _ := (hρ 15).trans hr
        have HN1 := Lib.hid hn
        clear hr hn
        have hx := hR.drew_ext
        have HR := Lib.hid hR
        have HN := Lib.hid hN
        clear hR hN hp hρ hx
        go_light
        go_simp
        refine (hQ N r w' hN32 HN1.out.2.2 hNM HN1.out.1).mono ?_
        rintro e' w3 ⟨s1, t1, he, h1, h2, hx⟩
        exact ⟨_, he, γ, LR.of_ext γ hx, fun _ _ _ h => h, s1, t1, rfl, h1, h2⟩
      · refine LinStep.yes fun vals γ w' ρ hR hN hp hρ hc hf hg => ⟨rfl, ?_⟩
        obtain ⟨r, t, hr, hn⟩ := hp 3 (by decide)
        have e16 : ρ (.tmp 16) = _ := (hρ 16).trans hr
        have HN1 := Lib.hid hn
        clear hr hn
        have hx := hR.drew_ext
        have HR := Lib.hid hR
        have HN := Lib.hid hN
        clear hR hN hp hρ hx
        go_light
        go_simp
        exact ⟨γ, LR.refl _ _, fun _ _ _ h => h, r, t, rfl, HN1.out⟩
      · refine LinStep.yes fun vals γ w' ρ hR hN hp hρ hc hf hg => ⟨rfl, ?_⟩
        obtain ⟨r, t, hr, hn⟩ := hp 4 (by decide)
        have e12 : ρ (.tmp 12) = _ := (hρ 12).trans hr
        have HN1 := Lib.hid hn
        clear hr hn
        have hx := hR.drew_ext
        have HR := Lib.hid hR
        have HN := Lib.hid hN
        clear hR hN hp hρ hx
        go_light
        go_simp
        exact ⟨γ, LR.refl _ _, fun _ _ _ h => h, r, rfl, HN1.out.1⟩
      · refine LinStep.yes fun vals γ w' ρ hR hN hp hρ hc hf hg => ⟨rfl, ?_⟩
        obtain ⟨r, t, hr, hn⟩ := hp 4 (by decide)
        have e12 : ρ (.tmp 12) = _ := (hρ 12).trans hr
        have HN1 := Lib.hid hn
        clear hr hn
        have hx := hR.drew_ext
        have HR := Lib.hid hR
        have HN := Lib.hid hN
        clear hR hN hp hρ hx
        go_light
        go_simp
        exact ⟨γ, LR.refl _ _, fun _ _ _ h => h, t, rfl, HN1.out.2⟩
      · refine LinStep.yes fun vals γ w' ρ hR hN hp hρ hc hf hg => ⟨rfl, ?_⟩
        obtain ⟨r, t, hr, hn⟩ := hp 4 (by decide)
        have e12 : ρ (.tmp 12) = _ := (hρ 12).trans hr
        have HN1 := Lib.hid hn
        clear hr hn
        have hx := hR.drew_ext
        have HR := Lib.hid hR
        have HN := Lib.hid hN
        clear hR hN hp hρ hx
        go_light
        go_simp
        exact ⟨γ, LR.refl _ _, fun _ _ _ h => h, rfl⟩
      · refine LinStep.yes fun vals γ w' ρ hR hN hp hρ hc hf hg => ⟨rfl, ?_⟩
        obtain ⟨r, hr, hn⟩ := hp 5 (by decide)
        have e17 : ρ (.tmp 17) = _ := (hρ 17).trans hr
        have HN1 := Lib.hid hn
        clear hr hn
        have hx := hR.drew_ext
        have HR := Lib.hid hR
        have HN := Lib.hid hN
        clear hR hN hp hρ hx
        go_light
        go_simp
        exact ⟨γ, LR.refl _ _, fun _ _ _ h => h, r, rfl, HN1.out⟩
      · refine LinStep.yes fun vals γ w' ρ hR hN hp hρ hc hf hg => ⟨rfl, ?_⟩
        obtain ⟨r, hr, hn⟩ := hp 6 (by decide)
        have e18 : ρ (.tmp 18) = _ := (hρ 18).trans hr
        have HN1 := Lib.hid hn
        clear hr hn
        have hx := hR.drew_ext
        have HR := Lib.hid hR
        have HN := Lib.hid hN
        clear hR hN hp hρ hx
        go_light
        go_simp
        exact ⟨γ, LR.refl _ _, fun _ _ _ h => h, r, rfl, HN1.out⟩
      · refine LinStep.yes fun vals γ w' ρ hR hN hp hρ hc hf hg => ⟨rfl, ?_⟩
        have e19 : ρ (.tmp 19) = .bool true := (hρ 19).trans (hp 7 (by decide))
        have hx := hR.drew_ext
        have HR := Lib.hid hR
        have HN := Lib.hid hN
        clear hR hN hp hρ hx
        go_light
        go_simp
        exact ⟨γ, LR.refl _ _, fun _ _ _ h => h, rfl⟩
      · intro vals γ w9 hR hG
        obtain ⟨q, hv8, hn8⟩ := hG 8 (by decide)
        obtain ⟨r, hv9, hn9⟩ := hG 9 (by decide)
        have hv10 : vals 10 = .bool true := hG 10 (by decide)
        have HX9 := Lib.hid hR.drew_ext
        have H8 := Lib.hid hn8
        have H9 := Lib.hid hn9
        have hr9 := can_nil hn9.2.1
        rw [hn9.1] at hr9
        have hr32 := hn9.2.2
        clear hR hG hn8 hn9
        simp only [lexFrame, Act.put, List.setIfInBounds_toArray, List.set_cons_succ, List.set_cons_zero, Nat.zero_add, Nat.reduceAdd, hv8, hv9, hv10]
        generalize vals 0 = u0, vals 1 = u1, vals 2 = u2, vals 3 = u3, vals 4 = u4, vals 5 = u5, vals 6 = u6, vals 7 = u7
        clear hv8 hv9 hv10
        rw [HG.out] at HBX ⊢
        have HEX0 := HEX
        have HBX0 := HBX
        have HBR0 := HBR
        clear HEX HBX HBR
        have HEX := Lib.hid (HEX0.out.trans HX9.out)
        have HBX := Lib.hid (HBX0.out.keep (HX9.out.kept _))
        have HBR := Lib.hid (HBR0.out.keep (HX9.out.kept _))
        clear HEX0 HBX0 HBR0 HX9
        by_cases hr0 : nval N % 10 = 0
        · have hrz : ¬ (0 : Int) < (r.size : Int) := by have := hr9.2 hr0; omega
          have k1 := HBX.out.cell (i := 1) rfl
          have k2 := HBX.out.cell (i := 2) rfl
          have kf := HBX.out.frozen
          have kz := HBX.out.lt
          have HR0 := Lib.hid hr0
          clear hr0 hr9
          go_wp2
          go_roundw
          case rel =>
            obtain ⟨s', rfl⟩ : ∃ s', s = s' + 1 := ⟨s - 1, by omega⟩
            have hsz := HEX.out.size
            refine ⟨q, s', by omega, H8.out.2.2, ?_, ?_, ?_, ?_, ?_⟩
            · rw [H8.out.1]; exact Nat.lt_of_le_of_lt (Nat.div_le_self _ _) hNM
            · rw [H8.out.1, ← HST0.out, strip, if_pos HR0.out]
            · iterate 2 with_reducible refine Ext.set2 ?_ (by omega) _
              with_reducible exact HEX.out
            · have := (HBX.out.set 1 (.string q)).set 2 (.int .i64 (s' : Int))
              simpa using this
            · refine HBR.out.keep ?_
              iterate 2 with_reducible refine Kept.set2 ?_ (by show ¬ (_ = _); omega)
              with_reducible exact Kept.refl _ _
          case measure =>
            have h1 := (HBX.out.set 1 (.string q)).set 2 (.int .i64 ((s : Int) - 1))
            have h2 := h1.cell (i := 2) rfl
            have h3 := HM2.out
            rw [h2, h3]
            simp [intOf]
            omega
        · have hrz : (0 : Int) < (r.size : Int) := by
            rcases Nat.eq_zero_or_pos r.size with h | h
            · exact absurd (hr9.1 h) hr0
            · omega
          have HST := Lib.hid (show strip s0 n0 = (nval N, s) by
            obtain ⟨s', rfl⟩ : ∃ s', s = s' + 1 := ⟨s - 1, by omega⟩
            rw [← HST0.out, strip, if_neg hr0])
          clear hr0 hr9 HST0
          have k0 := HBX.out.cell (i := 0) rfl
          have k1 := HBX.out.cell (i := 1) rfl
          have k2 := HBX.out.cell (i := 2) rfl
          have r0 := HBR.out.cell (i := 0) rfl
          have r1 := HBR.out.cell (i := 1) rfl
          have rf := HBR.out.frozen
          have rz := HBR.out.lt
          have hsz := HEX.out.size
          go_wp2_with fail
          refine (r01_Int N hN32 _).mono ?_
          rintro e1 w1 ⟨he, rfl⟩
          by_cases h63 : nval N < 9223372036854775808
          · rw [show intR N = .returned (.tuple #[.int .i64 (nval N : Int), .bool true]) by simp [intR, h63]] at he
            subst he
            by_cases h15 : nval N ≤ 1000000000000000
            · have n15 : ¬ (1000000000000000 : Int) < (nval N : Int) := by omega
              by_cases hs6 : s ≤ 6
              · have n6 : ¬ (6 : Int) < (s : Int) := by omega
                have HF := Lib.hid (show fitS neg n0 s0 = ((if neg then -(nval N : Int) else (nval N : Int), (s : Int)), true) by simp [fitS, HST.out, h15, hs6])
                cases neg
                · go_wp2
                  rw [HF.out]
                  refine bodyPost_ret (v := .tuple #[.agg #[.int .i64 (nval N : Int), .int .i64 (s : Int)], .bool true]) (by simp [results, Tryz.results102, go_sem, r0, r1]) rfl ⟨rfl, ?_⟩
                  iterate 2 with_reducible refine Ext.set2 ?_ (by omega) _
                  with_reducible exact HEX.out
                · go_wp2
                  rw [HF.out]
                  refine bodyPost_ret (v := .tuple #[.agg #[.int .i64 (-(nval N : Int)), .int .i64 (s : Int)], .bool true]) (by simp [results, Tryz.results102, go_sem, r0, r1]) rfl ⟨rfl, ?_⟩
                  iterate 2 with_reducible refine Ext.set2 ?_ (by omega) _
                  with_reducible exact HEX.out
              · have n6 : (6 : Int) < (s : Int) := by omega
                have HF := Lib.hid (show fitS neg n0 s0 = ((0, 0), false) by simp [fitS, HST.out, hs6])
                go_wp2
                rw [HF.out]
                refine bodyPost_ret (v := .tuple #[.agg #[.int .i64 0, .int .i64 0], .bool false]) (by simp [results, Tryz.results102, go_sem, r0, r1]) rfl ⟨rfl, ?_⟩
                iterate 2 with_reducible refine Ext.set2 ?_ (by omega) _
                with_reducible exact HEX.out
            · have n15 : (1000000000000000 : Int) < (nval N : Int) := by omega
              have HF := Lib.hid (show fitS neg n0 s0 = ((0, 0), false) by simp [fitS, HST.out, h15])
              go_wp2
              rw [HF.out]
              refine bodyPost_ret (v := .tuple #[.agg #[.int .i64 0, .int .i64 0], .bool false]) (by simp [results, Tryz.results102, go_sem, r0, r1]) rfl ⟨rfl, ?_⟩
              iterate 2 with_reducible refine Ext.set2 ?_ (by omega) _
              with_reducible exact HEX.out
          · rw [show intR N = .returned (.tuple #[.int .i64 0, .bool false]) by simp [intR, h63]] at he
            subst he
            have HF := Lib.hid (show fitS neg n0 s0 = ((0, 0), false) by
              have h15 : ¬ nval N ≤ 1000000000000000 := by omega
              simp [fitS, HST.out, h15])
            go_wp2
            rw [HF.out]
            refine bodyPost_ret (v := .tuple #[.agg #[.int .i64 0, .int .i64 0], .bool false]) (by simp [results, Tryz.results102, go_sem, r0, r1]) rfl ⟨rfl, ?_⟩
            iterate 2 with_reducible refine Ext.set2 ?_ (by omega) _
            with_reducible exact HEX.out

set_option maxRecDepth 100000 in
set_option maxHeartbeats 2000000 in
theorem r04_Make (n : Int) (s : Nat) (h1 : -1000000000000000 ≤ n) (h2 : n ≤ 1000000000000000) (hs : s ≤ 18) (w : World) : Calls Tryz.prog 146 #[.int .i64 n, .int .i64 (s : Int)] w (RetDB w (fitS (decide (n < 0)) n.natAbs s)) := by
  have n1 : ¬ (s : Int) < 0 := by omega
  have n2 : ¬ (18 : Int) < (s : Int) := by omega
  go_enter Tryz.func146, Tryz.ntmps146
  go_wp2_with fail
  refine (r04_natural n (by omega) (by omega) _).mono ?_
  rintro e1 w1 ⟨r, rfl, g1, g2, g3, g4⟩
  have G1 := Lib.hid g1
  have HX1 := Lib.hid g4
  have HB1 := Lib.hid ((Blk.new w 31 #[.int .i64 0, .int .i64 0]).keep (g4.kept _))
  clear g1 g2 g4
  go_wp2_with fail
  refine (r04_fit quoC_small (decide (n < 0)) r s n.natAbs G1.out (by omega) g3 (by rw [show (256 : Nat) ^ 7 = 72057594037927936 by decide]; omega) _).mono ?_
  rintro e1 w2 ⟨rfl, hx2⟩
  have HX2 := Lib.hid (((Ext.refl w).alloc _).trans (HX1.out.trans hx2))
  have hb2 := HB1.out.keep (hx2.kept _)
  have r0 := hb2.cell (i := 0) rfl
  have r1 := hb2.cell (i := 1) rfl
  have rf := hb2.frozen
  have rz := hb2.lt
  clear hb2 hx2
  go_wp2
  refine bodyPost_ret (v := .tuple #[.agg #[.int .i64 (fitS (decide (n < 0)) n.natAbs s).1.1, .int .i64 (fitS (decide (n < 0)) n.natAbs s).1.2], .bool (fitS (decide (n < 0)) n.natAbs s).2]) (by simp [results, Tryz.results146, go_sem, r0, r1]) rfl ⟨rfl, ?_⟩
  iterate 2 with_reducible refine Ext.set2 ?_ (by omega) _
  with_reducible exact HX2.out
end Go.Proofs.YtcmmkeiiapbgcaaGreatDoor
/- The reference's reader of numbers: what it reads, its texts, decimals and plain values. Conditions: the numbers read as data, and lie apart from the reader. -/
namespace Go.Proofs.YtcmmkeiiapbgcaaGreatDoor
open Go Go.RowKit

def RetNK (w : World) (g : Nat) (A : Option Addr) (len c : Nat) (n : Int) (K : Nat) (e : Ending) (w' : World) : Prop := ∃ (r : Int) (K' : Nat), e = .returned (.int .i64 r) ∧ 0 ≤ r ∧ r < n ∧ ((K < len ∧ K' = K + 1) ∨ (len ≤ K ∧ K' = K ∧ r = 0)) ∧ NumIs w' g A len c K' ∧ Only g w w'
set_option maxRecDepth 100000 in
set_option maxHeartbeats 400000 in
theorem Num_NextK (n : Int) (g : Nat) (A : Option Addr) (l : List Int) (c K : Nat) (w : World) (S : Nat → Prop) (hn1 : 1 ≤ n) (hn2 : n ≤ 4000000000000000) (hm : NumIs w g A l.length c K) (hl : IntsL w S A l) (hS : ¬ S g) :
    Calls Tryz.prog 42 #[.pointer (some ⟨g, 0, none⟩), .int .i64 n] w (RetNK w g A l.length c n K) := by
  have hlen := hl.2
  have hK := hm.2
  have k0 := hm.1.cell (i := 0) rfl
  have k1 := hm.1.cell (i := 1) rfl
  have kf := hm.1.frozen
  have kz := hm.1.lt
  have HM := Lib.hid hm
  have HL := Lib.hid hl
  clear hm hl
  by_cases hlt : K < l.length
  · obtain ⟨b, o, rfl, hb, hc⟩ := HL.out.at_ hlt
    have hbg : b ≠ g := by
      rcases HL.out.1 with h | ⟨b', o', h1, h2, _⟩
      · rw [List.map_eq_nil_iff] at h; subst h; simp at hlt
      · injection h1 with h1; injection h1 with h1; subst h1; rintro rfl; exact hS h2
    have hge : decide (l.length ≤ K) = false := by simpa using hlt
    have hnn : decide (n < 1) = false := by simpa using hn1
    obtain ⟨r1, r2⟩ := next_r l[K] n hn1
    obtain ⟨b1, b2⟩ := next_bd l[K] n hn1
    go_enter Tryz.func42, Tryz.ntmps42
    go_wp2
    go_quiet (fail)
    go_wp2
    obtain ⟨w2, hw2⟩ : ∃ w2, w2 = (w.drewN nq).setCell ⟨g, 1, none⟩ (.int .i64 ((K : Int) + 1)) := ⟨_, rfl⟩
    rw [← hw2]
    have ho : Only g w w2 := by rw [hw2]; exact ((Only.refl g w).drewN nq).set _ _
    have hb2 : Blk w2 g 73 #[.slice (some ⟨b, o, none⟩) l.length c, .int .i64 ((K : Int) + 1)] := by
      rw [hw2]
      exact (HM.out.1.keep (Kept.drewN _ _ _)).set 1 _
    have hc2 : w2.cell? ⟨b, o + K, none⟩ = some (.int .i64 l[K]) := (World.cell?_of_block (w := w) (ho.block b hbg)).trans hc
    clear hw2 k0 k1 kf hc
    have k0 := hb2.cell (i := 0) rfl
    have k1 := hb2.cell (i := 1) rfl
    have HO := Lib.hid ho
    have HB2 := Lib.hid hb2
    clear ho hb2 HM HL
    have q1 : IntKind.i64.wrap ((K : Int) + 1 - 1) = (K : Int) := by rw [IntWalk.i64_in _ (by omega)]; omega
    have q2 : (0 : Int) ≤ (K : Int) := by omega
    have q3 : (K : Int) < (l.length : Int) := by omega
    have q4 : IntKind.i64.wrap (l[K].tmod n) = l[K].tmod n := IntWalk.i64_in _ (by omega)
    have q5 : IntKind.i64.wrap (l[K].tmod n + n) = l[K].tmod n + n := IntWalk.i64_in _ (by omega)
    have q6 : IntKind.i64.wrap ((l[K].tmod n + n).tmod n) = (l[K].tmod n + n).tmod n := IntWalk.i64_in _ (by omega)
    have q7 : (n == 0) = false := by simp; omega
    go_quiet (fail)
    go_wp2
    go_ret
    refine ⟨_, K + 1, rfl, Int.emod_nonneg _ (by omega), Int.emod_lt_of_pos _ (by omega), .inl ⟨by omega, rfl⟩, ⟨?_, by omega⟩, HO.out.drewN _⟩
    have := fun m => HB2.out.keep (w' := w2.drewN m) (Kept.drewN _ _ _)
    rw [show (((K + 1 : Nat)) : Int) = (K : Int) + 1 by omega]
    exact this _
  · have hge : decide (l.length ≤ K) = true := by simpa using hlt
    have HLT := Lib.hid (show l.length ≤ K by omega)
    clear hlt
    go_enter Tryz.func42, Tryz.ntmps42
    go_wp2
    go_quiet (fail)
    go_wp2
    go_ret
    exact ⟨0, K, rfl, Int.le_refl _, by omega, .inr ⟨HLT.out, rfl, rfl⟩, HM.out.keep (Kept.drewN _ _ _), (Only.refl g w).drewN _⟩

/-- All but block g is as it was; there may be more. -/
structure But (g : Nat) (w w' : World) : Prop where
  os : w'.os = w.os
  tape : w'.tape = w.tape
  output : w'.output = w.output
  size : w.heap.size ≤ w'.heap.size
  block : ∀ b, b < w.heap.size → b ≠ g → w'.heap[b]? = w.heap[b]?
section
variable {g : Nat} {w w' w'' : World}
theorem But.refl (g : Nat) (w : World) : But g w w := ⟨rfl, rfl, rfl, Nat.le_refl _, fun _ _ _ => rfl⟩
theorem But.trans (h : But g w w') (k : But g w' w'') : But g w w'' := ⟨k.os.trans h.os, k.tape.trans h.tape, k.output.trans h.output, Nat.le_trans h.size k.size, fun b hb hg => (k.block b (Nat.lt_of_lt_of_le hb h.size) hg).trans (h.block b hb hg)⟩
theorem But.of_ext (h : Ext w w') : But g w w' := ⟨h.os, h.tape, h.output, h.size, fun b hb _ => h.block b hb⟩
theorem But.of_only (h : Only g w w') : But g w w' := ⟨h.os, h.tape, h.output, Nat.le_of_eq h.size.symm, fun b _ hg => h.block b hg⟩
theorem But.kept (h : But g w w') {S : Nat → Prop} (hS : ∀ b, b < w.heap.size → S b → b ≠ g) : Kept S w w' := ⟨h.size, fun b hb hl => h.block b hl (hS b hl hb)⟩
theorem But.ext (h : But g w w') (hg : w.heap.size ≤ g) : Ext w w' := ⟨h.os, h.tape, h.output, h.size, fun b hb => h.block b hb (by omega)⟩
theorem But.exts {a : World} (h : Ext a w) (k : But g w w') (hg : a.heap.size ≤ g) : Ext a w' := ⟨k.os.trans h.os, k.tape.trans h.tape, k.output.trans h.output, Nat.le_trans h.size k.size, fun b hb => (k.block b (Nat.lt_of_lt_of_le hb h.size) (by omega)).trans (h.block b hb)⟩
theorem But.own {base e sz n c : Nat} {A : Option Addr} {xs : List Value} (h : But g w w') (ho : Own w base e sz A n c xs) (hb : g < base) : Own w' base e sz A n c xs := ho.keep (h.kept fun b _ hb' => by have := (ho.blk hb').1; omega)
theorem But.blk {b t : Nat} {cs : Array Value} (h : But g w w') (hb : Blk w b t cs) (hg : b ≠ g) : Blk w' b t cs := hb.keep (h.kept fun x _ e => by omega)
theorem But.grown {row : Option Nat} (h : But g w w') (hg : w'.grownBy w'' row) (hr : ∀ k, row = some k → w.heap.size ≤ k) : But g w w'' := ⟨hg.os.trans h.os, hg.tape.trans h.tape, hg.output.trans h.output, Nat.le_trans h.size hg.size, fun b hb hx => (hg.block b (Nat.lt_of_lt_of_le hb h.size) fun e => by have := hr b e.symm; omega).trans (h.block b hb hx)⟩
theorem But.set {b i : Nat} {u : Value} (h : But g w w') (hb : w.heap.size ≤ b) : But g w (w'.setCell ⟨b, i, none⟩ u) := ⟨h.os, h.tape, h.output, by simpa [World.setCell] using h.size, fun x hx hg => (Below.heap_setCell _ _ _ _ (by show x ≠ b; omega)).trans (h.block x hx hg)⟩
end
/-- The reader, K numbers being read, and its numbers. -/
def NSt (w : World) (g : Nat) (A : Option Addr) (l : List Int) (c K : Nat) : Prop := NumIs w g A l.length c K ∧ ∃ S : Nat → Prop, ¬ S g ∧ IntsL w S A l
theorem NSt.ext {w w' : World} {g : Nat} {A : Option Addr} {l : List Int} {c K : Nat} (h : NSt w g A l c K) (hx : Ext w w') : NSt w' g A l c K := by
  obtain ⟨h1, S, h2, h3⟩ := h
  exact ⟨h1.keep (hx.kept _), S, h2, h3.keep (hx.kept _)⟩
theorem NSt.grown {w w' : World} {g : Nat} {A : Option Addr} {l : List Int} {c K : Nat} (h : NSt w g A l c K) {row : Option Nat} (hg : w.grownBy w' row) (hr : ∀ k, row = some k → k ≠ g) (hd : ∀ k, row = some k → ∀ b o, A = some ⟨b, o, none⟩ → l ≠ [] → k ≠ b) : NSt w' g A l c K := by
  obtain ⟨h1, S, h2, h3⟩ := h
  refine ⟨h1.keep (Kept.of_grown hg fun b hb _ e => hr b e.symm hb), ?_⟩
  rcases h3.1 with h4 | ⟨b, o, hA, hb, hlt, hc⟩
  · exact ⟨fun _ => False, fun h => h, .inl h4, h3.2⟩
  · by_cases hl : l = []
    · subst hl
      exact ⟨fun _ => False, fun h => h, .inl rfl, h3.2⟩
    · refine ⟨fun x => x = b, fun e => h2 (e ▸ hb), ?_⟩
      have h5 : IntsL w (fun x => x = b) A l := ⟨.inr ⟨b, o, hA, rfl, hlt, hc⟩, h3.2⟩
      exact h5.keep (Kept.of_grown hg fun x hx _ e => hd x e.symm b o hA hl hx)
def RetR (w : World) (g : Nat) (A : Option Addr) (l : List Int) (c : Nat) (n : Int) (K : Nat) (e : Ending) (w' : World) : Prop := ∃ (r K' : Nat), e = .returned (.int .i64 (r : Int)) ∧ (r : Int) < n ∧ ((K < l.length ∧ K' = K + 1) ∨ (l.length ≤ K ∧ K' = K ∧ r = 0)) ∧ NSt w' g A l c K' ∧ But g w w' ∧ w'.heap.size = w.heap.size
theorem Num_Next2 (n : Int) (g : Nat) (A : Option Addr) (l : List Int) (c K : Nat) (w : World) (hn1 : 1 ≤ n) (hn2 : n ≤ 4000000000000000) (h : NSt w g A l c K) :
    Calls Tryz.prog 42 #[.pointer (some ⟨g, 0, none⟩), .int .i64 n] w (RetR w g A l c n K) := by
  obtain ⟨h1, S, h2, h3⟩ := h
  refine (Num_NextK n g A l c K w S hn1 hn2 h1 h3 h2).mono ?_
  rintro e w' ⟨r, K', he, hr0, hrn, hK, hN, ho⟩
  refine ⟨r.toNat, K', by rw [he]; congr 2; omega, by omega, ?_, ⟨hN, S, h2, h3.keep (ho.kept fun b _ hb e => h2 (e ▸ hb))⟩, But.of_only ho, ho.size⟩
  rcases hK with h | ⟨h4, h5, h6⟩
  · exact .inl h
  · exact .inr ⟨h4, h5, by omega⟩

set_option maxRecDepth 100000 in
/-- Bytes of the call's own, as a text. -/
theorem own_text {w : World} {base n c : Nat} {A : Option Addr} {xs : List Int} (h : Own w base 5 1 A n c (xs.map (Value.int .u8))) (hn : xs.length = n) {dst : Nat} (hd : Tryz.prog.underlying dst = some .string) :
    (convert 159 dst (.slice A n c)).run Tryz.prog w = .ok (.string (strOfNums xs)) w := by
  rcases h.2 with ⟨hv, hn0⟩ | ⟨g, cap, cur, hv, hb, hh, hnc, hcm, hcs, ht⟩
  · obtain ⟨rfl, rfl⟩ : A = none ∧ c = 0 := by injection hv with h1 _ h2; exact ⟨h1, h2⟩
    have hx : xs = [] := List.eq_nil_of_length_eq_zero (by omega)
    subst hx
    have e0 : strOfNums [] = ByteArray.empty := rfl
    rw [e0]
    exact run_convert_bytes_nil (P := Tryz.prog) w 159 5 Tryz.underlying159 Tryz.underlying5 n 0 dst hd
  · obtain ⟨rfl, rfl⟩ : A = some ⟨g, 0, none⟩ ∧ c = cap := by injection hv with h1 _ h2; exact ⟨h1, h2⟩
    refine run_convert_bytes_arg (P := Tryz.prog) w 159 5 Tryz.underlying159 Tryz.underlying5 g 0 n c xs hn (fun i hi => ?_) dst hd
    obtain ⟨b, o, hA, -, hc⟩ := (Own.rd h).at_ (k := i) (u := .int .u8 (xs.getD i 0)) (by
      rw [List.getElem?_map, List.getElem?_eq_getElem (by omega)]
      simp [List.getD, List.getElem?_eq_getElem (show i < xs.length by omega)])
    injection hA with hA
    injection hA with h1 h2
    subst h1 h2
    exact hc

def wordsA : Array Value := #[.string ⟨#[]⟩, .string ⟨#[97]⟩, .string ⟨#[98]⟩, .string ⟨#[97, 98]⟩, .string ⟨#[105, 116, 39, 115]⟩, .string ⟨#[50, 48, 50, 52, 45, 48, 49, 45, 51, 49]⟩, .string ⟨#[49, 50]⟩, .string ⟨#[45, 51, 46, 53]⟩, .string ⟨#[65, 124, 66, 44, 91, 99, 93, 59]⟩, .string ⟨#[78, 111, 114, 116, 104, 32, 55]⟩, .string ⟨#[120, 32, 121]⟩, .string ⟨#[39, 39]⟩, .string ⟨#[97, 98, 99, 97, 98, 99]⟩, .string ⟨#[48]⟩, .string ⟨#[55, 46, 50, 53]⟩]
theorem words_at (k : Nat) (hk : k < 15) : ∃ t : ByteArray, wordsA[k]? = some (.string t) ∧ t.size ≤ 200 := by
  match k, hk with
  | 0, _ => exact ⟨_, rfl, by decide⟩
  | 1, _ => exact ⟨_, rfl, by decide⟩
  | 2, _ => exact ⟨_, rfl, by decide⟩
  | 3, _ => exact ⟨_, rfl, by decide⟩
  | 4, _ => exact ⟨_, rfl, by decide⟩
  | 5, _ => exact ⟨_, rfl, by decide⟩
  | 6, _ => exact ⟨_, rfl, by decide⟩
  | 7, _ => exact ⟨_, rfl, by decide⟩
  | 8, _ => exact ⟨_, rfl, by decide⟩
  | 9, _ => exact ⟨_, rfl, by decide⟩
  | 10, _ => exact ⟨_, rfl, by decide⟩
  | 11, _ => exact ⟨_, rfl, by decide⟩
  | 12, _ => exact ⟨_, rfl, by decide⟩
  | 13, _ => exact ⟨_, rfl, by decide⟩
  | 14, _ => exact ⟨_, rfl, by decide⟩
  | n + 15, h => omega
set_option maxRecDepth 100000 in
set_option maxHeartbeats 1000000 in
theorem r06_words (w : World) : Calls Tryz.prog 145 #[] w (fun e w' => e = .returned (.slice (some ⟨w.heap.size, 0, none⟩) 15 15) ∧ w' = w.alloc (.cells wordsA 9)) := by
  go_enter Tryz.func145, Tryz.ntmps145
  go_wp2
  go_ret
  exact ⟨rfl, rfl⟩

def RetTx (w : World) (g : Nat) (A : Option Addr) (l : List Int) (c : Nat) (K : Nat) (e : Ending) (w' : World) : Prop := ∃ (s : ByteArray) (K' : Nat), e = .returned (.string s) ∧ s.size ≤ 200 ∧ K ≤ K' ∧ NSt w' g A l c K' ∧ But g w w'
theorem RetR.le {_w : World} {_g : Nat} {_A : Option Addr} {l : List Int} {_c : Nat} {K K' r : Nat} (h : (K < l.length ∧ K' = K + 1) ∨ (l.length ≤ K ∧ K' = K ∧ r = 0)) : K ≤ K' := by omega
end Go.Proofs.YtcmmkeiiapbgcaaGreatDoor
/- The reference's reader of numbers: texts, decimals and plain values. Conditions: the numbers read as data, and lie apart from the reader. -/
namespace Go.Proofs.YtcmmkeiiapbgcaaGreatDoor
open Go Go.RowKit

/-- Where Text stands in its loop. -/
structure TxR (w : World) (g : Nat) (A : Option Addr) (l : List Int) (c K : Nat) (B j : Nat) (A' : Option Addr) (c' : Nat) (xs : List Int) (wr : World) : Prop where
  but : But g w wr
  low : w.heap.size ≤ B ∧ B ≤ wr.heap.size
  num : ∃ K', K ≤ K' ∧ NSt wr g A l c K'
  own : Own wr B 5 1 A' j c' (xs.map (Value.int .u8))
  len : xs.length = j
theorem TxR.data {w : World} {g : Nat} {A : Option Addr} {l : List Int} {c K : Nat} (h : NSt w g A l c K) : ∀ b o, A = some ⟨b, o, none⟩ → l ≠ [] → b < w.heap.size := by
  obtain ⟨_, S, _, h3⟩ := h
  intro b o hA hl
  rcases h3.1 with h4 | ⟨b', o', hA', hb, hlt, hc⟩
  · rw [List.map_eq_nil_iff] at h4; exact absurd h4 hl
  · rw [hA] at hA'
    injection hA' with hA'
    injection hA' with h1 _
    subst h1
    exact hlt

set_option maxRecDepth 100000 in
set_option maxHeartbeats 2000000 in
theorem Num_Text (g : Nat) (A : Option Addr) (l : List Int) (c K : Nat) (w : World) (h : NSt w g A l c K) : Calls Tryz.prog 119 #[.pointer (some ⟨g, 0, none⟩)] w (RetTx w g A l c K) := by
  have H := Lib.hid h
  have hgw := h.1.1.lt
  have HD := Lib.hid (TxR.data h)
  clear h
  go_enter Tryz.func119, Tryz.ntmps119
  go_wp2_with fail
  refine (Num_Next2 18 g A l c K _ (by omega) (by omega) H.out).mono ?_
  rintro e1 w1 ⟨k, K1, rfl, hk, hK1, hN1, hb1, hs1⟩
  have HK1 := Lib.hid (show K ≤ K1 by omega)
  have HN1 := Lib.hid hN1
  have HB1 := Lib.hid hb1
  clear hK1 hN1 hb1 hs1
  go_wp2_with fail
  refine (r06_words _).mono ?_
  rintro e1 w2 ⟨rfl, rfl⟩
  have HB2 := Lib.hid (HB1.out.trans (But.of_ext ((Ext.refl w1).alloc (.cells wordsA 9))))
  have HN2 := Lib.hid (HN1.out.ext ((Ext.refl w1).alloc (.cells wordsA 9)))
  by_cases hlt : k < 15
  · obtain ⟨t, ht, htz⟩ := words_at k hlt
    have q := (Blk.new w1 9 wordsA).cell ht
    have hk15 : (k : Int) < 15 := by omega
    clear ht
    go_wp2
    go_ret
    exact ⟨t, K1, rfl, htz, HK1.out, HN2.out, HB2.out⟩
  · have hk15 : ¬ (k : Int) < 15 := by omega
    obtain ⟨w2, hw2⟩ : ∃ w2, w2 = w1.alloc (.cells wordsA 9) := ⟨_, rfl⟩
    rw [← hw2] at HB2 HN2
    go_wp2_with fail
    rw [← hw2]
    clear hw2
    refine (Num_Next2 9 g A l c K1 _ (by omega) (by omega) HN2.out).mono ?_
    rintro e1 w3 ⟨n, K3, rfl, hn, hK3, hN3, hb3, hs3⟩
    have HK3 := Lib.hid (show K ≤ K3 by have := HK1.out; omega)
    have HN3 := Lib.hid hN3
    have HB3 := Lib.hid (HB2.out.trans hb3)
    clear hK3 hN3 hb3 hs3
    have hn' : n ≤ 200 := by omega
    by_cases h17 : k = 17
    case' pos =>
      have e17 : ((k : Int) == 17) = true := by simp [h17]
      clear hn
      go_wp2_with fail
      refine (Num_Next2 11 g A l c K3 _ (by omega) (by omega) HN3.out).mono ?_
      rintro e1 w4 ⟨m, K4, rfl, hm, hK4, hN4, hb4, hs4⟩
      have HK5 := Lib.hid (show K ≤ K4 by have := HK3.out; omega)
      have HN5 := Lib.hid hN4
      have HB5 := Lib.hid (HB3.out.trans hb4)
      clear hK4 hN4 hb4 hs4 HN3 HB3 HK3 HN2 HB2 HN1 HB1 HK1
      obtain ⟨n5, hn5⟩ : ∃ n5 : Nat, n5 = 190 + m := ⟨_, rfl⟩
      have e5 : (190 : Int) + (m : Int) = (n5 : Int) := by omega
      have hn5' : n5 ≤ 200 := by omega
      clear hn5
    case' neg =>
      have e17 : ((k : Int) == 17) = false := by simp; omega
      obtain ⟨w4, rfl⟩ : ∃ w4, w4 = w3 := ⟨_, rfl⟩
      have HK5 := HK3
      have HN5 := HN3
      have HB5 := HB3
      obtain ⟨n5, rfl⟩ : ∃ n5, n5 = n := ⟨_, rfl⟩
      have hn5' := hn'
      clear HN3 HB3 HK3 HN2 HB2 HN1 HB1 HK1 hn
    all_goals
      go_wp2
      have HT0 := Lib.hid (show TxR w g A l c K w4.heap.size 0 none 0 [] w4 from ⟨HB5.out, ⟨HB5.out.size, Nat.le_refl _⟩, ⟨_, HK5.out, HN5.out⟩, Own.nil _ _ _ _, rfl⟩)
      go_loopw [6, 7] (fun b i wr => ∃ (j : Nat) (A' : Option Addr) (c' : Nat) (xs : List Int), j ≤ n5 ∧ i = .int .i64 j ∧ b = .slice A' j c' ∧ TxR w g A l c K w4.heap.size j A' c' xs wr) (fun _ i _ => n5 - (intOf i).toNat)
      case atStart => exact ⟨0, none, 0, [], Nat.zero_le _, rfl, rfl, HT0.out⟩
      case round =>
        clear HT0
        obtain ⟨j, A', c', xs, hj, rfl, rfl, hT⟩ := hrel
        have HT := Lib.hid hT
        clear hT
        by_cases hltj : j < n5
        · obtain ⟨K', hK', hN'⟩ := HT.out.num
          have HKK := Lib.hid hK'
          have HNN := Lib.hid hN'
          clear hK' hN'
          go_wp2_with fail
          refine (Num_Next2 95 g A l c K' _ (by omega) (by omega) HNN.out).mono ?_
          rintro e1 w6 ⟨r, K6, rfl, hr, hK6, hN6, hb6, hs6⟩
          have HK6 := Lib.hid (show K ≤ K6 by have := HKK.out; omega)
          have HN6 := Lib.hid hN6
          have HB6 := Lib.hid hb6
          have HS6 := Lib.hid hs6
          clear hK6 hN6 hb6 hs6
          have hlow := HT.out.low
          have hown := HB6.out.own HT.out.own (by omega)
          obtain ⟨x, hx⟩ : ∃ x : Int, x = 32 + (r : Int) := ⟨_, rfl⟩
          have HO6 := Lib.hid (hown.ext ((Ext.refl w6).alloc (.cells #[.int .u8 (32 + (r : Int))] 5)))
          clear hown
          go_wp2_with (at_builtin; go_must (refine wpList_app rfl (.tmp 31) (.tmp 36) rfl tiU8 rfl HO6.out rfl (Blk.rd (Blk.new _ _ _)) rfl (by simp [Value.oneCell']) (by omega) (by decide) (by have := HS6.out; simp; omega) ?_); intro A8 c8 w8 hown8 hg8 hat8)
          go_roundw
          case rel =>
            refine ⟨j + 1, A8, c8, xs ++ [32 + (r : Int)], by omega, by go_num, rfl, ?_, ?_, ?_, ?_, ?_⟩
            · exact ((HT.out.but.trans HB6.out).trans (But.of_ext ((Ext.refl w6).alloc _))).grown hg8 fun b hb => by have := (HO6.out.blk hb).1; omega
            · have := hg8.size; have := HS6.out; simp at *; omega
            · refine ⟨K6, HK6.out, (HN6.out.ext ((Ext.refl w6).alloc _)).grown hg8 (fun b hb e => ?_) (fun b hb b' o hA hl e => ?_)⟩
              · have := (HO6.out.blk hb).1; omega
              · have := (HO6.out.blk hb).1; have := HD.out b' o hA hl; omega
            · rw [List.map_append]; exact hown8
            · simp [HT.out.len]
          case measure => simp [intOf]; omega
        · obtain rfl : j = n5 := by omega
          have hcv := own_text HT.out.own HT.out.len (dst := 9) Tryz.underlying9
          have HZ := Lib.hid (show (strOfNums xs).size ≤ 200 by rw [strOfNums_size, HT.out.len]; exact hn5')
          go_wp2
          go_ret
          obtain ⟨K', hK', hN'⟩ := HT.out.num
          exact ⟨_, K', rfl, HZ.out, hK', hN', HT.out.but⟩

def RetDc (w : World) (g : Nat) (A : Option Addr) (l : List Int) (c : Nat) (K : Nat) (e : Ending) (w' : World) : Prop := ∃ (a b : Int) (K' : Nat), e = .returned (.agg #[.int .i64 a, .int .i64 b]) ∧ K ≤ K' ∧ NSt w' g A l c K' ∧ But g w w'
end Go.Proofs.YtcmmkeiiapbgcaaGreatDoor
/- The reference's reader of numbers: decimals and plain values. Conditions: the numbers read as data, and lie apart from the reader. -/
namespace Go.Proofs.YtcmmkeiiapbgcaaGreatDoor
open Go Go.RowKit

theorem NSt.keep2 {w w' : World} {g : Nat} {A : Option Addr} {l : List Int} {c K B : Nat} (h : NSt w g A l c K) (hg : g < B) (hd : ∀ b o, A = some ⟨b, o, none⟩ → l ≠ [] → b < B) (hk : Kept (fun b => b < B) w w') : NSt w' g A l c K := by
  obtain ⟨h1, S, h2, h3⟩ := h
  refine ⟨h1.keep (hk.mono fun b _ e => by subst e; exact hg), ?_⟩
  rcases h3.1 with h4 | ⟨b, o, hA, hb, hlt, hc⟩
  · exact ⟨fun _ => False, fun h => h, .inl h4, h3.2⟩
  · by_cases hl : l = []
    · subst hl
      exact ⟨fun _ => False, fun h => h, .inl rfl, h3.2⟩
    · refine ⟨fun x => x = b, fun e => h2 (e ▸ hb), ?_⟩
      have h5 : IntsL w (fun x => x = b) A l := ⟨.inr ⟨b, o, hA, rfl, hlt, hc⟩, h3.2⟩
      exact h5.keep (hk.mono fun x _ hx => by subst hx; exact hd x o hA hl)
def RetFV (w : World) (g : Nat) (A : Option Addr) (l : List Int) (c : Nat) (K : Nat) (e : Ending) (w' : World) : Prop := ∃ (x : Val) (K' : Nat), e = .returned (.agg #[.int .i64 x.kind, .string x.s, .int .i64 x.dn, .int .i64 x.ds, .int .i64 x.n, .slice none x.cols.length 0, .slice none x.rows.length 0]) ∧ flatV x ∧ K ≤ K' ∧ NSt w' g A l c K' ∧ But g w w'
set_option maxRecDepth 100000 in
set_option maxHeartbeats 2000000 in
theorem Num_Dec (g : Nat) (A : Option Addr) (l : List Int) (c K : Nat) (w : World) (h : NSt w g A l c K) : Calls Tryz.prog 120 #[.pointer (some ⟨g, 0, none⟩)] w (RetDc w g A l c K) := by
  have hgw := h.1.1.lt
  have hne : w.heap.size ≠ g := by omega
  have HN := Lib.hid (h.ext ((Ext.refl w).alloc (.cells #[.int .i64 0, .int .i64 0] 31)))
  have HB := Lib.hid (But.of_ext (g := g) ((Ext.refl w).alloc (.cells #[.int .i64 0, .int .i64 0] 31)))
  have HBR := Lib.hid (Blk.new w 31 #[.int .i64 0, .int .i64 0])
  have HK := Lib.hid (Nat.le_refl K)
  have HD := Lib.hid (TxR.data h)
  clear h
  go_enter Tryz.func120, Tryz.ntmps120
  go_wp2_with fail
  refine (Num_Next2 2001 g A l c K _ (by omega) (by omega) HN.out).mono ?_
  rintro e1 w1 ⟨d1, K1, rfl, hrd1, hKd1, hNd1, hbd1, hsd1⟩
  have HK' := Lib.hid (show K ≤ K1 by have := HK.out; omega)
  have HB' := Lib.hid (HB.out.trans hbd1)
  have HBR' := Lib.hid (hbd1.blk HBR.out hne)
  clear HK HN HB HBR
  have HK := HK'
  have HN := Lib.hid hNd1
  have HB := HB'
  have HBR := HBR'
  clear hKd1 hNd1 hbd1 hsd1 HK' HB' HBR'
  go_wp2_with fail
  refine (Num_Next2 8 g A l c K1 _ (by omega) (by omega) HN.out).mono ?_
  rintro e1 w2 ⟨d2, K2, rfl, hrd2, hKd2, hNd2, hbd2, hsd2⟩
  have HK' := Lib.hid (show K ≤ K2 by have := HK.out; omega)
  have HB' := Lib.hid (HB.out.trans hbd2)
  have HBR' := Lib.hid (hbd2.blk HBR.out hne)
  clear HK HN HB HBR
  have HK := HK'
  have HN := Lib.hid hNd2
  have HB := HB'
  have HBR := HBR'
  clear hKd2 hNd2 hbd2 hsd2 HK' HB' HBR'
  by_cases h7 : d2 = 7
  case' pos =>
    have e7 : ((d2 : Int) == 7) = true := by simp [h7]
    go_wp2_with fail
    refine (Num_Next2 2000000000000001 g A l c K2 _ (by omega) (by omega) HN.out).mono ?_
    rintro e1 w3 ⟨d3, K3, rfl, hrd3, hKd3, hNd3, hbd3, hsd3⟩
    have HK' := Lib.hid (show K ≤ K3 by have := HK.out; omega)
    have HB' := Lib.hid (HB.out.trans hbd3)
    have HBR' := Lib.hid (hbd3.blk HBR.out hne)
    clear HK HN HB HBR
    have HK := HK'
    have HN := Lib.hid hNd3
    have HB := HB'
    have HBR := HBR'
    clear hKd3 hNd3 hbd3 hsd3 HK' HB' HBR'
    obtain ⟨n, hn⟩ : ∃ n : Int, n = (d3 : Int) - 1000000000000000 := ⟨_, rfl⟩
    have hn1 : -1000000000000000 ≤ n := by omega
    have hn2 : n ≤ 1000000000000000 := by omega
  case' neg =>
    have e7 : ((d2 : Int) == 7) = false := by simp; omega
    obtain ⟨K3, rfl⟩ : ∃ K3, K3 = K2 := ⟨_, rfl⟩
    obtain ⟨w3, rfl⟩ : ∃ w3, w3 = w2 := ⟨_, rfl⟩
    obtain ⟨n, hn⟩ : ∃ n : Int, n = (d1 : Int) - 1000 := ⟨_, rfl⟩
    have hn1 : -1000000000000000 ≤ n := by omega
    have hn2 : n ≤ 1000000000000000 := by omega
  all_goals
    go_wp2_with fail
    refine (Num_Next2 4 g A l c K3 _ (by omega) (by omega) HN.out).mono ?_
    rintro e1 w4 ⟨d4, K4, rfl, hrd4, hKd4, hNd4, hbd4, hsd4⟩
    have HK' := Lib.hid (show K ≤ K4 by have := HK.out; omega)
    have HB' := Lib.hid (HB.out.trans hbd4)
    have HBR' := Lib.hid (hbd4.blk HBR.out hne)
    clear HK HN HB HBR
    have HK := HK'
    have HN := Lib.hid hNd4
    have HB := HB'
    have HBR := HBR'
    clear hKd4 hNd4 hbd4 hsd4 HK' HB' HBR'
    go_wp2_with fail
    rw [← hn]
    have hmk : Calls Tryz.prog 146 #[.int .i64 n, .int .i64 (d4 : Int)] w4 (fun e w' => ∃ a b t, e = .returned (.tuple #[.agg #[.int .i64 a, .int .i64 b], .bool t]) ∧ Ext w4 w') := (r04_Make n d4 hn1 hn2 (by omega) _).mono fun e w' h => ⟨_, _, _, h⟩
    refine hmk.mono ?_
    rintro e1 w5 ⟨a, b, t, rfl, hx5⟩
    have HN5 := Lib.hid (HN.out.ext hx5)
    have HB5 := Lib.hid (HB.out.trans (But.of_ext hx5))
    have HBR6 := Lib.hid (HBR.out.keep (hx5.kept _))
    clear HN HB HBR hx5 hmk hn
    have r0 := HBR6.out.cell (i := 0) rfl
    have r1 := HBR6.out.cell (i := 1) rfl
    have rf := HBR6.out.frozen
    have rz := HBR6.out.lt
    go_wp2
    refine bodyPost_ret (v := .agg #[.int .i64 a, .int .i64 b]) (by simp [results, Tryz.results120, go_sem, r0, r1, rz]) rfl ⟨_, _, K4, rfl, HK.out, ?_, ?_⟩
    · refine HN5.out.keep2 hgw HD.out (Kept.trans ?_ (Kept.alloc _ _ _))
      iterate 2 with_reducible refine Kept.set2 ?_ (by show ¬ (_ < _); omega)
      with_reducible exact Kept.refl _ _
    · refine But.trans ?_ (But.of_ext ((Ext.refl _).alloc _))
      iterate 2 with_reducible refine But.set ?_ (by omega)
      with_reducible exact HB5.out

set_option maxRecDepth 100000 in
set_option maxHeartbeats 2000000 in
theorem Num_Value_1 (g : Nat) (A : Option Addr) (l : List Int) (c K : Nat) (w : World) (h : NSt w g A l c K) : Calls Tryz.prog 88 #[.pointer (some ⟨g, 0, none⟩), .int .i64 1] w (RetFV w g A l c K) := by
  have hgw := h.1.1.lt
  have hne : w.heap.size ≠ g := by omega
  have HN := Lib.hid (h.ext ((Ext.refl w).alloc (.cells #[.int .i64 0, .string ⟨#[]⟩, .int .i64 0, .int .i64 0, .int .i64 0, .slice none 0 0, .slice none 0 0] 33)))
  have HB := Lib.hid (But.of_ext (g := g) ((Ext.refl w).alloc (.cells #[.int .i64 0, .string ⟨#[]⟩, .int .i64 0, .int .i64 0, .int .i64 0, .slice none 0 0, .slice none 0 0] 33)))
  have HBR := Lib.hid (Blk.new w 33 #[.int .i64 0, .string ⟨#[]⟩, .int .i64 0, .int .i64 0, .int .i64 0, .slice none 0 0, .slice none 0 0])
  have HK := Lib.hid (Nat.le_refl K)
  have HD := Lib.hid (TxR.data h)
  clear h
  go_enter Tryz.func88, Tryz.ntmps88
  go_wp2_with fail
  refine (Num_Text g A l c K _ HN.out).mono ?_
  rintro e1 w1 ⟨s, K1, rfl, hz1, hK1, hN1, hb1⟩
  have HK' := Lib.hid (show K ≤ K1 by have := HK.out; omega)
  have HB' := Lib.hid (HB.out.trans hb1)
  have HBR' := Lib.hid (hb1.blk HBR.out hne)
  have HSZ := Lib.hid (show s.size ≤ 4294967296 by omega)
  clear HK HN HB HBR
  have HK := HK'
  have HN := Lib.hid hN1
  have HB := HB'
  have HBR := HBR'
  clear hK1 hN1 hb1 HK' HB' HBR'
  have r0 := HBR.out.cell (i := 0) rfl
  have r1 := HBR.out.cell (i := 1) rfl
  have r2 := HBR.out.cell (i := 2) rfl
  have r3 := HBR.out.cell (i := 3) rfl
  have r4 := HBR.out.cell (i := 4) rfl
  have r5 := HBR.out.cell (i := 5) rfl
  have r6 := HBR.out.cell (i := 6) rfl
  have rf := HBR.out.frozen
  have rz := HBR.out.lt
  go_wp2
  refine bodyPost_ret (v := .agg #[.int .i64 1, .string s, .int .i64 0, .int .i64 0, .int .i64 0, .slice none 0 0, .slice none 0 0]) (by simp [results, Tryz.results88, go_sem, r0, r1, r2, r3, r4, r5, r6]) rfl ⟨⟨1, s, 0, 0, 0, [], []⟩, K1, rfl, ⟨rfl, rfl, by first | exact HSZ.out | exact Nat.zero_le _⟩, HK.out, ?_, ?_⟩
  · refine HN.out.keep2 hgw HD.out ?_
    iterate 7 with_reducible refine Kept.set2 ?_ (by show ¬ (_ < _); omega)
    with_reducible exact Kept.refl _ _
  · iterate 7 with_reducible refine But.set ?_ (by omega)
    with_reducible exact HB.out

set_option maxRecDepth 100000 in
set_option maxHeartbeats 2000000 in
theorem Num_Value_2 (g : Nat) (A : Option Addr) (l : List Int) (c K : Nat) (w : World) (h : NSt w g A l c K) : Calls Tryz.prog 88 #[.pointer (some ⟨g, 0, none⟩), .int .i64 2] w (RetFV w g A l c K) := by
  have hgw := h.1.1.lt
  have hne : w.heap.size ≠ g := by omega
  have HN := Lib.hid (h.ext ((Ext.refl w).alloc (.cells #[.int .i64 0, .string ⟨#[]⟩, .int .i64 0, .int .i64 0, .int .i64 0, .slice none 0 0, .slice none 0 0] 33)))
  have HB := Lib.hid (But.of_ext (g := g) ((Ext.refl w).alloc (.cells #[.int .i64 0, .string ⟨#[]⟩, .int .i64 0, .int .i64 0, .int .i64 0, .slice none 0 0, .slice none 0 0] 33)))
  have HBR := Lib.hid (Blk.new w 33 #[.int .i64 0, .string ⟨#[]⟩, .int .i64 0, .int .i64 0, .int .i64 0, .slice none 0 0, .slice none 0 0])
  have HK := Lib.hid (Nat.le_refl K)
  have HD := Lib.hid (TxR.data h)
  clear h
  go_enter Tryz.func88, Tryz.ntmps88
  go_wp2_with fail
  refine (Num_Dec g A l c K _ HN.out).mono ?_
  rintro e1 w1 ⟨a, b, K1, rfl, hK1, hN1, hb1⟩
  have HK' := Lib.hid (show K ≤ K1 by have := HK.out; omega)
  have HB' := Lib.hid (HB.out.trans hb1)
  have HBR' := Lib.hid (hb1.blk HBR.out hne)
  clear HK HN HB HBR
  have HK := HK'
  have HN := Lib.hid hN1
  have HB := HB'
  have HBR := HBR'
  clear hK1 hN1 hb1 HK' HB' HBR'
  have r0 := HBR.out.cell (i := 0) rfl
  have r1 := HBR.out.cell (i := 1) rfl
  have r2 := HBR.out.cell (i := 2) rfl
  have r3 := HBR.out.cell (i := 3) rfl
  have r4 := HBR.out.cell (i := 4) rfl
  have r5 := HBR.out.cell (i := 5) rfl
  have r6 := HBR.out.cell (i := 6) rfl
  have rf := HBR.out.frozen
  have rz := HBR.out.lt
  go_wp2
  refine bodyPost_ret (v := .agg #[.int .i64 2, .string ⟨#[]⟩, .int .i64 a, .int .i64 b, .int .i64 0, .slice none 0 0, .slice none 0 0]) (by simp [results, Tryz.results88, go_sem, r0, r1, r2, r3, r4, r5, r6]) rfl ⟨⟨2, ⟨#[]⟩, a, b, 0, [], []⟩, K1, rfl, ⟨rfl, rfl, by first | exact HSZ.out | exact Nat.zero_le _⟩, HK.out, ?_, ?_⟩
  · refine HN.out.keep2 hgw HD.out ?_
    iterate 7 with_reducible refine Kept.set2 ?_ (by show ¬ (_ < _); omega)
    with_reducible exact Kept.refl _ _
  · iterate 7 with_reducible refine But.set ?_ (by omega)
    with_reducible exact HB.out

set_option maxRecDepth 100000 in
set_option maxHeartbeats 2000000 in
theorem Num_Value_3 (g : Nat) (A : Option Addr) (l : List Int) (c K : Nat) (w : World) (h : NSt w g A l c K) : Calls Tryz.prog 88 #[.pointer (some ⟨g, 0, none⟩), .int .i64 3] w (RetFV w g A l c K) := by
  have hgw := h.1.1.lt
  have hne : w.heap.size ≠ g := by omega
  have HN := Lib.hid (h.ext ((Ext.refl w).alloc (.cells #[.int .i64 0, .string ⟨#[]⟩, .int .i64 0, .int .i64 0, .int .i64 0, .slice none 0 0, .slice none 0 0] 33)))
  have HB := Lib.hid (But.of_ext (g := g) ((Ext.refl w).alloc (.cells #[.int .i64 0, .string ⟨#[]⟩, .int .i64 0, .int .i64 0, .int .i64 0, .slice none 0 0, .slice none 0 0] 33)))
  have HBR := Lib.hid (Blk.new w 33 #[.int .i64 0, .string ⟨#[]⟩, .int .i64 0, .int .i64 0, .int .i64 0, .slice none 0 0, .slice none 0 0])
  have HK := Lib.hid (Nat.le_refl K)
  have HD := Lib.hid (TxR.data h)
  clear h
  go_enter Tryz.func88, Tryz.ntmps88
  go_wp2_with fail
  refine (Num_Next2 1000 g A l c K _ (by omega) (by omega) HN.out).mono ?_
  rintro e1 w1 ⟨d1, K1, rfl, hrd1, hKd1, hNd1, hbd1, hsd1⟩
  have HK' := Lib.hid (show K ≤ K1 by have := HK.out; omega)
  have HB' := Lib.hid (HB.out.trans hbd1)
  have HBR' := Lib.hid (hbd1.blk HBR.out hne)
  clear HK HN HB HBR
  have HK := HK'
  have HN := Lib.hid hNd1
  have HB := HB'
  have HBR := HBR'
  clear hKd1 hNd1 hbd1 hsd1 HK' HB' HBR'
  go_wp2_with fail
  refine (Num_Next2 8 g A l c K1 _ (by omega) (by omega) HN.out).mono ?_
  rintro e1 w2 ⟨d2, K2, rfl, hrd2, hKd2, hNd2, hbd2, hsd2⟩
  have HK' := Lib.hid (show K ≤ K2 by have := HK.out; omega)
  have HB' := Lib.hid (HB.out.trans hbd2)
  have HBR' := Lib.hid (hbd2.blk HBR.out hne)
  clear HK HN HB HBR
  have HK := HK'
  have HN := Lib.hid hNd2
  have HB := HB'
  have HBR := HBR'
  clear hKd2 hNd2 hbd2 hsd2 HK' HB' HBR'
  by_cases h7 : d2 = 7
  · have e7 : ((d2 : Int) == 7) = true := by simp [h7]
    go_wp2_with fail
    refine (Num_Next2 3652059 g A l c K2 _ (by omega) (by omega) HN.out).mono ?_
    rintro e1 w3 ⟨d3, K3, rfl, hrd3, hKd3, hNd3, hbd3, hsd3⟩
    have HK' := Lib.hid (show K ≤ K3 by have := HK.out; omega)
    have HB' := Lib.hid (HB.out.trans hbd3)
    have HBR' := Lib.hid (hbd3.blk HBR.out hne)
    clear HK HN HB HBR
    have HK := HK'
    have HN := Lib.hid hNd3
    have HB := HB'
    have HBR := HBR'
    clear hKd3 hNd3 hbd3 hsd3 HK' HB' HBR'
    have r0 := HBR.out.cell (i := 0) rfl
    have r1 := HBR.out.cell (i := 1) rfl
    have r2 := HBR.out.cell (i := 2) rfl
    have r3 := HBR.out.cell (i := 3) rfl
    have r4 := HBR.out.cell (i := 4) rfl
    have r5 := HBR.out.cell (i := 5) rfl
    have r6 := HBR.out.cell (i := 6) rfl
    have rf := HBR.out.frozen
    have rz := HBR.out.lt
    go_wp2
    refine bodyPost_ret (v := .agg #[.int .i64 3, .string ⟨#[]⟩, .int .i64 0, .int .i64 0, .int .i64 (d3 : Int), .slice none 0 0, .slice none 0 0]) (by simp [results, Tryz.results88, go_sem, r0, r1, r2, r3, r4, r5, r6]) rfl ⟨⟨3, ⟨#[]⟩, 0, 0, (d3 : Int), [], []⟩, K3, rfl, ⟨rfl, rfl, by first | exact HSZ.out | exact Nat.zero_le _⟩, HK.out, ?_, ?_⟩
    · refine HN.out.keep2 hgw HD.out ?_
      iterate 7 with_reducible refine Kept.set2 ?_ (by show ¬ (_ < _); omega)
      with_reducible exact Kept.refl _ _
    · iterate 7 with_reducible refine But.set ?_ (by omega)
      with_reducible exact HB.out
  · have e7 : ((d2 : Int) == 7) = false := by simp; omega
    have r0 := HBR.out.cell (i := 0) rfl
    have r1 := HBR.out.cell (i := 1) rfl
    have r2 := HBR.out.cell (i := 2) rfl
    have r3 := HBR.out.cell (i := 3) rfl
    have r4 := HBR.out.cell (i := 4) rfl
    have r5 := HBR.out.cell (i := 5) rfl
    have r6 := HBR.out.cell (i := 6) rfl
    have rf := HBR.out.frozen
    have rz := HBR.out.lt
    go_wp2
    refine bodyPost_ret (v := .agg #[.int .i64 3, .string ⟨#[]⟩, .int .i64 0, .int .i64 0, .int .i64 (738000 + (d1 : Int)), .slice none 0 0, .slice none 0 0]) (by simp [results, Tryz.results88, go_sem, r0, r1, r2, r3, r4, r5, r6]) rfl ⟨⟨3, ⟨#[]⟩, 0, 0, (738000 + (d1 : Int)), [], []⟩, K2, rfl, ⟨rfl, rfl, by first | exact HSZ.out | exact Nat.zero_le _⟩, HK.out, ?_, ?_⟩
    · refine HN.out.keep2 hgw HD.out ?_
      iterate 7 with_reducible refine Kept.set2 ?_ (by show ¬ (_ < _); omega)
      with_reducible exact Kept.refl _ _
    · iterate 7 with_reducible refine But.set ?_ (by omega)
      with_reducible exact HB.out

set_option maxRecDepth 100000 in
set_option maxHeartbeats 2000000 in
theorem Num_Value_4 (g : Nat) (A : Option Addr) (l : List Int) (c K : Nat) (w : World) (h : NSt w g A l c K) : Calls Tryz.prog 88 #[.pointer (some ⟨g, 0, none⟩), .int .i64 4] w (RetFV w g A l c K) := by
  have hgw := h.1.1.lt
  have hne : w.heap.size ≠ g := by omega
  have HN := Lib.hid (h.ext ((Ext.refl w).alloc (.cells #[.int .i64 0, .string ⟨#[]⟩, .int .i64 0, .int .i64 0, .int .i64 0, .slice none 0 0, .slice none 0 0] 33)))
  have HB := Lib.hid (But.of_ext (g := g) ((Ext.refl w).alloc (.cells #[.int .i64 0, .string ⟨#[]⟩, .int .i64 0, .int .i64 0, .int .i64 0, .slice none 0 0, .slice none 0 0] 33)))
  have HBR := Lib.hid (Blk.new w 33 #[.int .i64 0, .string ⟨#[]⟩, .int .i64 0, .int .i64 0, .int .i64 0, .slice none 0 0, .slice none 0 0])
  have HK := Lib.hid (Nat.le_refl K)
  have HD := Lib.hid (TxR.data h)
  clear h
  go_enter Tryz.func88, Tryz.ntmps88
  go_wp2_with fail
  refine (Num_Next2 2 g A l c K _ (by omega) (by omega) HN.out).mono ?_
  rintro e1 w1 ⟨d1, K1, rfl, hrd1, hKd1, hNd1, hbd1, hsd1⟩
  have HK' := Lib.hid (show K ≤ K1 by have := HK.out; omega)
  have HB' := Lib.hid (HB.out.trans hbd1)
  have HBR' := Lib.hid (hbd1.blk HBR.out hne)
  clear HK HN HB HBR
  have HK := HK'
  have HN := Lib.hid hNd1
  have HB := HB'
  have HBR := HBR'
  clear hKd1 hNd1 hbd1 hsd1 HK' HB' HBR'
  have r0 := HBR.out.cell (i := 0) rfl
  have r1 := HBR.out.cell (i := 1) rfl
  have r2 := HBR.out.cell (i := 2) rfl
  have r3 := HBR.out.cell (i := 3) rfl
  have r4 := HBR.out.cell (i := 4) rfl
  have r5 := HBR.out.cell (i := 5) rfl
  have r6 := HBR.out.cell (i := 6) rfl
  have rf := HBR.out.frozen
  have rz := HBR.out.lt
  go_wp2
  refine bodyPost_ret (v := .agg #[.int .i64 4, .string ⟨#[]⟩, .int .i64 0, .int .i64 0, .int .i64 (d1 : Int), .slice none 0 0, .slice none 0 0]) (by simp [results, Tryz.results88, go_sem, r0, r1, r2, r3, r4, r5, r6]) rfl ⟨⟨4, ⟨#[]⟩, 0, 0, (d1 : Int), [], []⟩, K1, rfl, ⟨rfl, rfl, by first | exact HSZ.out | exact Nat.zero_le _⟩, HK.out, ?_, ?_⟩
  · refine HN.out.keep2 hgw HD.out ?_
    iterate 7 with_reducible refine Kept.set2 ?_ (by show ¬ (_ < _); omega)
    with_reducible exact Kept.refl _ _
  · iterate 7 with_reducible refine But.set ?_ (by omega)
    with_reducible exact HB.out

set_option maxRecDepth 100000 in
set_option maxHeartbeats 2000000 in
theorem Num_Value_0 (kind : Int) (g : Nat) (A : Option Addr) (l : List Int) (c K : Nat) (w : World) (h : NSt w g A l c K) (k1 : (kind == 1) = false) (k2 : (kind == 2) = false) (k3 : (kind == 3) = false) (k4 : (kind == 4) = false) (k5 : (kind == 5) = false) : Calls Tryz.prog 88 #[.pointer (some ⟨g, 0, none⟩), .int .i64 kind] w (RetFV w g A l c K) := by
  have hgw := h.1.1.lt
  have hne : w.heap.size ≠ g := by omega
  have HN := Lib.hid (h.ext ((Ext.refl w).alloc (.cells #[.int .i64 0, .string ⟨#[]⟩, .int .i64 0, .int .i64 0, .int .i64 0, .slice none 0 0, .slice none 0 0] 33)))
  have HB := Lib.hid (But.of_ext (g := g) ((Ext.refl w).alloc (.cells #[.int .i64 0, .string ⟨#[]⟩, .int .i64 0, .int .i64 0, .int .i64 0, .slice none 0 0, .slice none 0 0] 33)))
  have HBR := Lib.hid (Blk.new w 33 #[.int .i64 0, .string ⟨#[]⟩, .int .i64 0, .int .i64 0, .int .i64 0, .slice none 0 0, .slice none 0 0])
  have HK := Lib.hid (Nat.le_refl K)
  have HD := Lib.hid (TxR.data h)
  clear h
  go_enter Tryz.func88, Tryz.ntmps88
  go_wp2_with fail
  refine (Num_Next2 100 g A l c K _ (by omega) (by omega) HN.out).mono ?_
  rintro e1 w1 ⟨d1, K1, rfl, hrd1, hKd1, hNd1, hbd1, hsd1⟩
  have HK' := Lib.hid (show K ≤ K1 by have := HK.out; omega)
  have HB' := Lib.hid (HB.out.trans hbd1)
  have HBR' := Lib.hid (hbd1.blk HBR.out hne)
  clear HK HN HB HBR
  have HK := HK'
  have HN := Lib.hid hNd1
  have HB := HB'
  have HBR := HBR'
  clear hKd1 hNd1 hbd1 hsd1 HK' HB' HBR'
  have r0 := HBR.out.cell (i := 0) rfl
  have r1 := HBR.out.cell (i := 1) rfl
  have r2 := HBR.out.cell (i := 2) rfl
  have r3 := HBR.out.cell (i := 3) rfl
  have r4 := HBR.out.cell (i := 4) rfl
  have r5 := HBR.out.cell (i := 5) rfl
  have r6 := HBR.out.cell (i := 6) rfl
  have rf := HBR.out.frozen
  have rz := HBR.out.lt
  go_wp2
  refine bodyPost_ret (v := .agg #[.int .i64 0, .string ⟨#[]⟩, .int .i64 0, .int .i64 0, .int .i64 (d1 : Int), .slice none 0 0, .slice none 0 0]) (by simp [results, Tryz.results88, go_sem, r0, r1, r2, r3, r4, r5, r6]) rfl ⟨⟨0, ⟨#[]⟩, 0, 0, (d1 : Int), [], []⟩, K1, rfl, ⟨rfl, rfl, by first | exact HSZ.out | exact Nat.zero_le _⟩, HK.out, ?_, ?_⟩
  · refine HN.out.keep2 hgw HD.out ?_
    iterate 7 with_reducible refine Kept.set2 ?_ (by show ¬ (_ < _); omega)
    with_reducible exact Kept.refl _ _
  · iterate 7 with_reducible refine But.set ?_ (by omega)
    with_reducible exact HB.out

theorem Num_Value_flat (kind : Int) (g : Nat) (A : Option Addr) (l : List Int) (c K : Nat) (w : World) (h : NSt w g A l c K) (hk : kind ≠ 5) : Calls Tryz.prog 88 #[.pointer (some ⟨g, 0, none⟩), .int .i64 kind] w (RetFV w g A l c K) := by
  by_cases h1 : kind = 1
  · subst h1; exact Num_Value_1 g A l c K w h
  by_cases h2 : kind = 2
  · subst h2; exact Num_Value_2 g A l c K w h
  by_cases h3 : kind = 3
  · subst h3; exact Num_Value_3 g A l c K w h
  by_cases h4 : kind = 4
  · subst h4; exact Num_Value_4 g A l c K w h
  exact Num_Value_0 kind g A l c K w h (by simpa using h1) (by simpa using h2) (by simpa using h3) (by simpa using h4) (by simpa using hk)
end Go.Proofs.YtcmmkeiiapbgcaaGreatDoor
