/- The reference's digits: of, minus, times, cmp. Conditions: the digits read as data. -/
import Derived.Test.YtcmmkeiiapbgcaaGreatDoorBm14
import Derived.WalkLawsBesides
namespace Go.Proofs.YtcmmkeiiapbgcaaGreatDoor
open Go Go.RowKit

theorem dval_snoc (l : List Nat) (d : Nat) : dval (l ++ [d]) = dval l + 16777216 ^ l.length * d := by
  induction l with
  | nil => simp [dval]
  | cons e l ih =>
    simp only [List.cons_append, dval, ih, List.length_cons, Nat.pow_succ]
    rw [Nat.mul_add, Nat.mul_comm (16777216 ^ l.length) 16777216, Nat.mul_assoc]
    omega
theorem dval_lt : ∀ l : List Nat, dgs l → dval l < 16777216 ^ l.length
  | [], _ => by simp [dval]
  | d :: l, h => by
    have h1 := h d List.mem_cons_self
    have h2 := dval_lt l fun x hx => h x (List.mem_cons_of_mem _ hx)
    simp only [dval, List.length_cons, Nat.pow_succ]
    omega
theorem dgs_snoc {l : List Nat} {d : Nat} (h : dgs l) (hd : d < 16777216) : dgs (l ++ [d]) := fun x hx => by
  rcases List.mem_append.1 hx with hx | hx
  · exact h x hx
  · rw [List.mem_singleton.1 hx]; exact hd
theorem dval_take (l : List Nat) (k : Nat) : dval (l.take (k + 1)) = dval (l.take k) + 16777216 ^ k * l.getD k 0 := by
  rcases Nat.lt_or_ge k l.length with h | h
  · rw [List.take_succ_eq_append_getElem h, dval_snoc, List.length_take, Nat.min_eq_left (by omega)]
    simp [h]
  · rw [List.take_of_length_le (by omega), List.take_of_length_le h]
    simp [h]
theorem dgs_getD {l : List Nat} (h : dgs l) (k : Nat) : l.getD k 0 < 16777216 := by
  rcases Nat.lt_or_ge k l.length with hk | hk
  · simp [hk]; exact h _ (List.getElem_mem hk)
  · simp [hk]
theorem dval_ge {l : List Nat} (h : trd l) (hn : l ≠ []) : 16777216 ^ (l.length - 1) ≤ dval l := by
  rcases List.eq_nil_or_concat l with rfl | ⟨m, d, rfl⟩
  · exact absurd rfl hn
  · rw [List.concat_eq_append] at h ⊢
    have hd : d ≠ 0 := by simpa [trd] using h
    rw [dval_snoc, List.length_append]
    have : 16777216 ^ m.length * 1 ≤ 16777216 ^ m.length * d := Nat.mul_le_mul_left _ (by omega)
    simp; omega
theorem len_le {u v : List Nat} (hv : trd v) (hu : dgs u) (h : dval v ≤ dval u) : v.length ≤ u.length := by
  rcases Nat.lt_or_ge u.length v.length with hlt | hge
  · have h1 := dval_lt u hu
    have h2 := dval_ge hv (by intro e; rw [e] at hlt; simp at hlt)
    have h3 : 16777216 ^ u.length ≤ 16777216 ^ (v.length - 1) := Nat.pow_le_pow_right (by decide) (by omega)
    omega
  · exact hge
/-- New digits: what of the value is known. -/
def RetDg (w : World) (n : Nat) (e : Ending) (w' : World) : Prop := ∃ (A : Option Addr) (c : Nat) (l : List Nat), e = .returned (.slice A l.length c) ∧ dval l = n ∧ dgs l ∧ trd l ∧ l.length ≤ c ∧ Ints w' (fun b => w.heap.size ≤ b) A (nums l) ∧ Ext w w'
theorem nums_snoc (l : List Nat) (d : Nat) : (nums (l ++ [d])).map (Value.int .i64) = (nums l).map (Value.int .i64) ++ [.int .i64 (d : Int)] := by simp [nums]
theorem OwnIs.read {w : World} {base c : Nat} {A : Option Addr} {l : List Nat} (h : Own w base 3 1 A l.length c ((nums l).map (Value.int .i64))) (hl : l.length ≤ 4294967296) {T : Nat → Prop} (hT : ∀ b, base ≤ b → T b) : Ints w T A (nums l) :=
  ⟨(Own.rd h).mono fun b _ hb => hT b (h.blk hb).1, by rw [nums_len]; exact hl⟩
theorem ints_cell {w : World} {S : Nat → Prop} {A : Option Addr} {l : List Nat} (h : Ints w S A (nums l)) {k : Nat} (hk : k < l.length) : ∃ b o, A = some ⟨b, o, none⟩ ∧ b < w.heap.size ∧ w.cell? ⟨b, o + k, none⟩ = some (.int .i64 ((l.getD k 0 : Nat) : Int)) := by
  obtain ⟨b, o, h1, h2, h3⟩ := h.at_ (k := k) (by rw [nums_len]; exact hk)
  refine ⟨b, o, h1, h2, ?_⟩
  rw [h3]
  simp [nums, hk]

theorem Ints.pre {w : World} {S : Nat → Prop} {A : Option Addr} {l m : List Nat} (h : Ints w S A (nums m)) (hp : l <+: m) : Ints w S A (nums l) := by
  obtain ⟨h1, h2⟩ := h
  have hl : l = m.take l.length := (List.prefix_iff_eq_take.1 hp)
  refine ⟨?_, by rw [nums_len] at h2 ⊢; exact Nat.le_trans hp.length_le h2⟩
  rw [hl]
  have := h1.take l.length
  simpa [nums, List.map_take] using this
/-- The first k digits of a difference: digits, and what is borrowed. -/
structure MinI (u v m : List Nat) (k bw : Nat) : Prop where
  len : m.length = k
  eq : dval (u.take k) + bw * 16777216 ^ k = dval m + dval (v.take k)
  ds : dgs m
  bit : bw ≤ 1
theorem MinI.step {u v m : List Nat} {k bw : Nat} (h : MinI u v m k bw) (hu : dgs u) (hv : dgs v) {d : Int} (hd : d = (u.getD k 0 : Int) - bw - v.getD k 0) :
    (0 ≤ d → MinI u v (m ++ [d.toNat]) (k + 1) 0) ∧ (d < 0 → MinI u v (m ++ [(d + 16777216).toNat]) (k + 1) 1) := by
  have h1 := dgs_getD hu k
  have h2 := dgs_getD hv k
  have h3 := h.bit
  have h4 := h.eq
  have hp : (0 : Nat) < 16777216 ^ k := Nat.pow_pos (by decide)
  constructor
  · intro h0
    refine ⟨by simp [h.len], ?_, dgs_snoc h.ds (by omega), by omega⟩
    rw [dval_take, dval_take, dval_snoc, h.len, Nat.zero_mul, Nat.add_zero]
    have e : u.getD k 0 = d.toNat + bw + v.getD k 0 := by omega
    rw [e, Nat.mul_add, Nat.mul_add, Nat.mul_comm _ bw]
    omega
  · intro h0
    refine ⟨by simp [h.len], ?_, dgs_snoc h.ds (by omega), by omega⟩
    rw [dval_take, dval_take, dval_snoc, h.len, Nat.pow_succ]
    have e : u.getD k 0 + 16777216 = (d + 16777216).toNat + bw + v.getD k 0 := by omega
    have e2 : 16777216 ^ k * u.getD k 0 + 16777216 ^ k * 16777216 = 16777216 ^ k * (d + 16777216).toNat + bw * 16777216 ^ k + 16777216 ^ k * v.getD k 0 := by
      rw [← Nat.mul_add, e, Nat.mul_add, Nat.mul_add, Nat.mul_comm _ bw]
    omega
theorem MinI.fin {u v m : List Nat} {bw : Nat} (h : MinI u v m u.length bw) (hv : v.length ≤ u.length) (hle : dval v ≤ dval u) : dval m = dval u - dval v := by
  have h1 := h.eq
  have h2 := dval_lt m h.ds
  rw [List.take_length, List.take_of_length_le hv, h.len] at *
  have h3 := h.bit
  rcases Nat.eq_zero_or_pos bw with h0 | h0
  · subst h0; omega
  · obtain rfl : bw = 1 := by omega
    omega

set_option maxRecDepth 100000 in
set_option maxHeartbeats 2000000 in
theorem r01_minus (u v : List Nat) (A B : Option Addr) (c e : Nat) (w : World) (S T : Nat → Prop) (hu : Ints w S A (nums u)) (hv : Ints w T B (nums v)) (hdu : dgs u) (hdv : dgs v) (htv : trd v) (hle : dval v ≤ dval u) :
    Calls Tryz.prog 155 #[.slice A u.length c, .slice B v.length e] w (RetDg w (dval u - dval v)) := by
  have HU := Lib.hid hu
  have HV := Lib.hid hv
  have hul : u.length ≤ 4294967296 := by have := hu.2; rwa [nums_len] at this
  have hvl := len_le htv hdu hle
  have HDU := Lib.hid hdu
  have HDV := Lib.hid hdv
  have HLE := Lib.hid hle
  clear hu hv hdu hdv htv hle
  go_enter Tryz.func155, Tryz.ntmps155
  go_wp2
  go_loopw [5, 6, 7] (fun o b i wr => ∃ (k : Nat) (A' : Option Addr) (c' bw : Nat) (m : List Nat), k ≤ u.length ∧ MinI u v m k bw ∧ o = .slice A' k c' ∧ b = .int .i64 (bw : Int) ∧ i = .int .i64 (k : Int) ∧ Ext w wr ∧ Own wr w.heap.size 3 1 A' k c' ((nums m).map (Value.int .i64))) (fun _ _ i _ => u.length - (intOf i).toNat)
  case atStart => exact ⟨0, none, 0, 0, [], Nat.zero_le _, ⟨rfl, rfl, by simp [dgs], by omega⟩, rfl, rfl, rfl, Ext.refl _, Own.nil _ _ _ _⟩
  case round =>
    obtain ⟨k, A', c', bw, m, hk, hmi, rfl, rfl, rfl, hx, ho⟩ := hrel
    have HX := Lib.hid hx
    have HO := Lib.hid ho
    have HM := Lib.hid hmi
    have hbw := hmi.bit
    have hsz := hx.size
    clear hx ho hmi
    by_cases hlt : k < u.length
    · obtain ⟨b1, o1, hA, hb1, hc1⟩ := ints_cell (HU.out.keep (HX.out.kept _)) hlt
      subst hA
      obtain ⟨d1, hd1⟩ : ∃ d1, d1 = u.getD k 0 := ⟨_, rfl⟩
      have hl1 : d1 < 16777216 := by rw [hd1]; exact dgs_getD HDU.out k
      rw [← hd1] at hc1
      have HD1 := Lib.hid hd1
      obtain ⟨d2, hd2⟩ : ∃ d2, d2 = v.getD k 0 := ⟨_, rfl⟩
      have hl2 : d2 < 16777216 := by rw [hd2]; exact dgs_getD HDV.out k
      have HD2 := Lib.hid hd2
      obtain ⟨d, hd⟩ : ∃ d : Int, d = (d1 : Int) - bw - d2 := ⟨_, rfl⟩
      have hst := HM.out.step HDU.out HDV.out (d := d) (by rw [hd, hd1, hd2])
      have HST := Lib.hid hst
      clear hd1 hd2 hst
      by_cases hkv : k < v.length
      · obtain ⟨b2, o2, hB, hb2, hc2⟩ := ints_cell (HV.out.keep (HX.out.kept _)) hkv
        subst hB
        have hc3 : wr.cell? ⟨b2, o2 + k, none⟩ = some (.int .i64 (d2 : Int)) := by rw [hc2, HD2.out]
        clear hc2
        by_cases hneg : (d1 : Int) - bw - d2 < 0
        · go_wp2_with (at_builtin; go_must (refine wpList_app rfl (.tmp 35) (.tmp 37) rfl tiI rfl (HO.out.ext ((Ext.refl wr).alloc _)) rfl (Blk.rd (Blk.new _ _ _)) rfl (by simp [Value.oneCell']) (by omega) (by decide) (by simp; omega) ?_); intro A4 c4 w4 hown4 hg4 hat4)
          go_roundw
          case rel =>
            refine ⟨k + 1, A4, c4, 1, _, by omega, HST.out.2 (by omega), rfl, by go_num, by go_num, (HX.out.alloc _).grown hg4 fun b hb => (HO.out.blk hb).1, ?_⟩
            rw [nums_snoc]
            have e : (((d + 16777216).toNat : Nat) : Int) = d + 16777216 := by omega
            rw [e, hd]
            simpa using hown4
          case measure => simp [intOf]; omega
        · go_wp2_with (at_builtin; go_must (refine wpList_app rfl (.tmp 35) (.tmp 37) rfl tiI rfl (HO.out.ext ((Ext.refl wr).alloc _)) rfl (Blk.rd (Blk.new _ _ _)) rfl (by simp [Value.oneCell']) (by omega) (by decide) (by simp; omega) ?_); intro A4 c4 w4 hown4 hg4 hat4)
          go_roundw
          case rel =>
            refine ⟨k + 1, A4, c4, 0, _, by omega, HST.out.1 (by omega), rfl, by go_num, by go_num, (HX.out.alloc _).grown hg4 fun b hb => (HO.out.blk hb).1, ?_⟩
            rw [nums_snoc]
            have e : ((d.toNat : Nat) : Int) = d := by omega
            rw [e, hd]
            simpa using hown4
          case measure => simp [intOf]; omega
      · have h20 : d2 = 0 := by rw [HD2.out, List.getD_eq_getElem?_getD, List.getElem?_eq_none (by omega)]; rfl
        subst h20
        by_cases hneg : (d1 : Int) - bw < 0
        · go_wp2_with (at_builtin; go_must (refine wpList_app rfl (.tmp 35) (.tmp 37) rfl tiI rfl (HO.out.ext ((Ext.refl wr).alloc _)) rfl (Blk.rd (Blk.new _ _ _)) rfl (by simp [Value.oneCell']) (by omega) (by decide) (by simp; omega) ?_); intro A4 c4 w4 hown4 hg4 hat4)
          go_roundw
          case rel =>
            refine ⟨k + 1, A4, c4, 1, _, by omega, HST.out.2 (by omega), rfl, by go_num, by go_num, (HX.out.alloc _).grown hg4 fun b hb => (HO.out.blk hb).1, ?_⟩
            rw [nums_snoc]
            have e : (((d + 16777216).toNat : Nat) : Int) = d + 16777216 := by omega
            rw [e, hd]
            simpa using hown4
          case measure => simp [intOf]; omega
        · go_wp2_with (at_builtin; go_must (refine wpList_app rfl (.tmp 35) (.tmp 37) rfl tiI rfl (HO.out.ext ((Ext.refl wr).alloc _)) rfl (Blk.rd (Blk.new _ _ _)) rfl (by simp [Value.oneCell']) (by omega) (by decide) (by simp; omega) ?_); intro A4 c4 w4 hown4 hg4 hat4)
          go_roundw
          case rel =>
            refine ⟨k + 1, A4, c4, 0, _, by omega, HST.out.1 (by omega), rfl, by go_num, by go_num, (HX.out.alloc _).grown hg4 fun b hb => (HO.out.blk hb).1, ?_⟩
            rw [nums_snoc]
            have e : ((d.toNat : Nat) : Int) = d := by omega
            rw [e, hd]
            simpa using hown4
          case measure => simp [intOf]; omega
    · have hk2 : k = u.length := by omega
      have hml := HM.out.len
      have hf : dval m = dval u - dval v := by
        have hmi := HM.out
        rw [hk2] at hmi
        exact hmi.fin hvl HLE.out
      obtain ⟨h1, h2, h3, h4, h5⟩ := trimN_ok m
      have H5 := Lib.hid h5
      have hcp := HO.out.cap
      have H3 := Lib.hid (h3 HM.out.ds)
      have HR := Lib.hid (OwnIs.read (l := m) (by rw [hml]; exact HO.out) (by omega) (T := fun b => w.heap.size ≤ b) fun _ h => h)
      have HF := Lib.hid (h1.trans hf)
      have H2 := Lib.hid h2
      have hkn : ¬ m.length < u.length := by omega
      obtain rfl := hml
      clear hf h1 h2 h3 h5 hk2
      go_wp2_with fail
      refine (r01_trim m A' c' _ _ HR.out hcp).mono ?_
      rintro e1 w1 ⟨rfl, rfl⟩
      go_wp2
      go_ret
      exact ⟨A', c', trimN m, rfl, HF.out, H3.out, H2.out, by omega, HR.out.pre H5.out, HX.out⟩
end Go.Proofs.YtcmmkeiiapbgcaaGreatDoor
/- The reference's digits: times, cmp, digit. Conditions: the digits read as data. -/
namespace Go.Proofs.YtcmmkeiiapbgcaaGreatDoor
open Go Go.RowKit

theorem dgs_take {l : List Nat} (h : dgs l) (k : Nat) : dgs (l.take k) := fun x hx => h x (List.mem_of_mem_take hx)
/-- The first k digits of a product with one digit. -/
structure TimI (u : List Nat) (d : Nat) (m : List Nat) (k cy : Nat) : Prop where
  len : m.length = k
  eq : dval (u.take k) * d = dval m + cy * 16777216 ^ k
  ds : dgs m
  lt : cy < 16777216
theorem TimI.step {u m : List Nat} {d k cy : Nat} (h : TimI u d m k cy) (hu : dgs u) (hd : d < 16777216) {s : Nat} (hs : s = u.getD k 0 * d + cy) : s < 281474976710656 ∧ TimI u d (m ++ [s % 16777216]) (k + 1) (s / 16777216) := by
  have h1 := dgs_getD hu k
  have h2 : u.getD k 0 * d ≤ 16777215 * 16777215 := Nat.mul_le_mul (by omega) (by omega)
  have h3 := h.lt
  refine ⟨by omega, by simp [h.len], ?_, dgs_snoc h.ds (Nat.mod_lt _ (by decide)), by omega⟩
  rw [dval_take, Nat.add_mul, h.eq, dval_snoc, h.len, Nat.pow_succ]
  have e : s = 16777216 * (s / 16777216) + s % 16777216 := (Nat.div_add_mod _ _).symm
  have e2 : 16777216 ^ k * s = 16777216 ^ k * (u.getD k 0 * d) + cy * 16777216 ^ k := by rw [hs, Nat.mul_add, Nat.mul_comm _ cy]
  have e3 : 16777216 ^ k * s = s / 16777216 * (16777216 ^ k * 16777216) + 16777216 ^ k * (s % 16777216) := by
    rw [Nat.mul_comm (s / 16777216), Nat.mul_assoc, ← Nat.mul_add, ← e]
  rw [Nat.mul_assoc]
  omega

set_option maxRecDepth 100000 in
set_option maxHeartbeats 2000000 in
theorem r01_times (u : List Nat) (d : Nat) (A : Option Addr) (c : Nat) (w : World) (S : Nat → Prop) (hu : Ints w S A (nums u)) (hdu : dgs u) (hd : d < 16777216) (hlen : u.length ≤ 4294967295) :
    Calls Tryz.prog 156 #[.slice A u.length c, .int .i64 (d : Int)] w (RetDg w (dval u * d)) := by
  have HU := Lib.hid hu
  have HDU := Lib.hid hdu
  clear hu hdu
  go_enter Tryz.func156, Tryz.ntmps156
  go_wp2
  go_loopw [5, 6, 7] (fun o b i wr => ∃ (k : Nat) (A' : Option Addr) (c' cy : Nat) (m : List Nat), k ≤ u.length ∧ TimI u d m k cy ∧ o = .slice A' k c' ∧ b = .int .i64 (cy : Int) ∧ i = .int .i64 (k : Int) ∧ Ext w wr ∧ Own wr w.heap.size 3 1 A' k c' ((nums m).map (Value.int .i64))) (fun _ _ i _ => u.length - (intOf i).toNat)
  case atStart => exact ⟨0, none, 0, 0, [], Nat.zero_le _, ⟨rfl, by simp [dval], by simp [dgs], by omega⟩, rfl, rfl, rfl, Ext.refl _, Own.nil _ _ _ _⟩
  case round =>
    obtain ⟨k, A', c', cy, m, hk, hmi, rfl, rfl, rfl, hx, ho⟩ := hrel
    have HX := Lib.hid hx
    have HO := Lib.hid ho
    have HM := Lib.hid hmi
    have hcy := hmi.lt
    have hsz := hx.size
    clear hx ho hmi
    by_cases hlt : k < u.length
    · obtain ⟨b1, o1, hA, hb1, hc1⟩ := ints_cell (HU.out.keep (HX.out.kept _)) hlt
      subst hA
      obtain ⟨d1, hd1⟩ : ∃ d1, d1 = u.getD k 0 := ⟨_, rfl⟩
      have hl1 : d1 < 16777216 := by rw [hd1]; exact dgs_getD HDU.out k
      rw [← hd1] at hc1
      obtain ⟨p, hp⟩ : ∃ p, p = d1 * d := ⟨_, rfl⟩
      have hst := HM.out.step HDU.out hd (s := p + cy) (by rw [hp, hd1])
      have hsb := hst.1
      have HST := Lib.hid hst.2
      have hp2 : (d1 : Int) * (d : Int) = (p : Int) := by rw [hp]; simp
      have hw1 : wrap64 ((d1 : Int) * (d : Int)) = (p : Int) := by rw [hp2]; exact IntWalk.wrap64_in _ (by omega)
      clear hst hd1 hp hp2
      go_wp2_with (at_builtin; go_must (refine wpList_app rfl (.tmp 23) (.tmp 26) rfl tiI rfl (HO.out.ext ((Ext.refl wr).alloc _)) rfl (Blk.rd (Blk.new _ _ _)) rfl (by simp [Value.oneCell']) (by omega) (by decide) (by simp; omega) ?_); intro A4 c4 w4 hown4 hg4 hat4)
      go_roundw
      case rel =>
        refine ⟨k + 1, A4, c4, _, _, by omega, HST.out, rfl, by go_num, by go_num, (HX.out.alloc _).grown hg4 fun b hb => (HO.out.blk hb).1, ?_⟩
        rw [nums_snoc]
        simpa using hown4
      case measure => simp [intOf]; omega
    · have hk2 : k = u.length := by omega
      have hml := HM.out.len
      have hmi := HM.out
      rw [hk2] at hmi
      have hf : dval (m ++ [cy]) = dval u * d := by
        have := hmi.eq
        rw [List.take_length] at this
        rw [dval_snoc, this, hmi.len, Nat.mul_comm cy]
      obtain ⟨h1, h2, h3, h4, h5⟩ := trimN_ok (m ++ [cy])
      have H5 := Lib.hid h5
      have H3 := Lib.hid (h3 (dgs_snoc hmi.ds hmi.lt))
      have HF := Lib.hid (h1.trans hf)
      have H2 := Lib.hid h2
      have h4' : (trimN (m ++ [cy])).length ≤ m.length + 1 := by simpa using h4
      have hkn : ¬ m.length < u.length := by omega
      obtain rfl := hml
      clear hf h1 h2 h3 h4 h5 hk2 hmi
      go_wp2_with (at_builtin; go_must (refine wpList_app rfl (.tmp 30) (.tmp 32) rfl tiI rfl (HO.out.ext ((Ext.refl wr).alloc _)) rfl (Blk.rd (Blk.new _ _ _)) rfl (by simp [Value.oneCell']) (by omega) (by decide) (by simp; omega) ?_); intro A4 c4 w4 hown4 hg4 hat4)
      have hown5 : Own w4 w.heap.size 3 1 A4 (m ++ [cy]).length c4 ((nums (m ++ [cy])).map (Value.int .i64)) := by rw [nums_snoc]; simpa using hown4
      have hcp := hown5.cap
      have HR := Lib.hid (OwnIs.read hown5 (by simp; omega) (T := fun b => w.heap.size ≤ b) fun _ h => h)
      have HW := Lib.hid ((HX.out.alloc _).grown hg4 fun b hb => (HO.out.blk hb).1)
      have hlen2 : m.length + 1 = (m ++ [cy]).length := by simp
      rw [hlen2]
      clear hown4 hg4 hat4 hown5 hlen2
      go_wp2_with fail
      refine (r01_trim (m ++ [cy]) A4 c4 _ _ HR.out hcp).mono ?_
      rintro e1 w1 ⟨rfl, rfl⟩
      go_wp2
      go_ret
      exact ⟨A4, c4, _, rfl, HF.out, H3.out, H2.out, by rw [List.length_append, List.length_singleton] at hcp; omega, HR.out.pre H5.out, HW.out⟩
def CmpD (x y : Nat) (n : Int) : Prop := (n < 0 ∧ x < y) ∨ (n = 0 ∧ x = y) ∨ (0 < n ∧ y < x)
def RetCmpD (w : World) (x y : Nat) (e : Ending) (w' : World) : Prop := ∃ n : Int, e = .returned (.int .i64 n) ∧ CmpD x y n ∧ (-4294967296 ≤ n ∧ n ≤ 4294967296) ∧ Ext w w'
theorem dval_split (l : List Nat) (k : Nat) (hk : k ≤ l.length) : dval l = dval (l.take k) + 16777216 ^ k * dval (l.drop k) := by
  induction l generalizing k with
  | nil => simp [dval]
  | cons d l ih =>
    cases k with
    | zero => simp [dval]
    | succ k =>
      have := ih k (by simpa using hk)
      simp only [List.take_succ_cons, List.drop_succ_cons, dval, Nat.pow_succ]
      rw [this, Nat.mul_add, Nat.mul_comm (16777216 ^ k) 16777216, Nat.mul_assoc]
      omega
theorem cmp_top {u v : List Nat} (hu : dgs u) (hl : u.length = v.length) {k : Nat} (hk : k < u.length) (hd : u.drop (k + 1) = v.drop (k + 1)) (h : u.getD k 0 < v.getD k 0) : dval u < dval v := by
  rw [dval_split u (k + 1) (by omega), dval_split v (k + 1) (by omega), hd, dval_take, dval_take]
  have h1 := dval_lt (u.take k) (dgs_take hu k)
  rw [List.length_take, Nat.min_eq_left (by omega)] at h1
  have h2 : 16777216 ^ k * (u.getD k 0 + 1) ≤ 16777216 ^ k * v.getD k 0 := Nat.mul_le_mul_left _ h
  rw [Nat.mul_add] at h2
  omega
theorem drop_getD {u : List Nat} {k : Nat} (hk : k < u.length) : u.drop k = u.getD k 0 :: u.drop (k + 1) := by
  rw [List.drop_eq_getElem_cons hk]
  simp [hk]
theorem len_lt {u v : List Nat} (hu : dgs u) (hv : trd v) (h : u.length < v.length) : dval u < dval v := by
  rcases Nat.lt_or_ge (dval u) (dval v) with h1 | h1
  · exact h1
  · have := len_le hv hu h1
    omega

set_option maxRecDepth 100000 in
set_option maxHeartbeats 2000000 in
theorem r01_cmp (u v : List Nat) (A B : Option Addr) (c e : Nat) (w : World) (S T : Nat → Prop) (hu : Ints w S A (nums u)) (hv : Ints w T B (nums v)) (hdu : dgs u) (hdv : dgs v) (htu : trd u) (htv : trd v) :
    Calls Tryz.prog 153 #[.slice A u.length c, .slice B v.length e] w (RetCmpD w (dval u) (dval v)) := by
  have HU := Lib.hid hu
  have HV := Lib.hid hv
  have hul : u.length ≤ 4294967296 := by have := hu.2; rwa [nums_len] at this
  have hvl : v.length ≤ 4294967296 := by have := hv.2; rwa [nums_len] at this
  have HDU := Lib.hid hdu
  have HDV := Lib.hid hdv
  have HTU := Lib.hid htu
  have HTV := Lib.hid htv
  clear hu hv hdu hdv htu htv
  by_cases hne : u.length = v.length
  · have e1 : ((u.length : Int) != (v.length : Int)) = false := by rw [hne]; simp
    have HNE := Lib.hid hne
    clear hne
    go_enter Tryz.func153, Tryz.ntmps153
    go_wp2
    go_loopw [5] (fun i wr => ∃ k : Nat, k ≤ u.length ∧ u.drop k = v.drop k ∧ i = .int .i64 ((k : Int) - 1) ∧ Ext w wr) (fun i _ => (intOf i + 1).toNat)
    case atStart => exact ⟨u.length, Nat.le_refl _, by rw [List.drop_length, HNE.out, List.drop_length], rfl, Ext.refl _⟩
    case round =>
      obtain ⟨k, hk, hdr, rfl, hx⟩ := hrel
      have HX := Lib.hid hx
      have HD := Lib.hid hdr
      clear hx hdr
      cases k with
      | zero =>
        go_wp2
        go_ret
        exact ⟨0, rfl, .inr (.inl ⟨rfl, by have := HD.out; simp at this; rw [this]⟩), by omega, HX.out⟩
      | succ j =>
        obtain ⟨b1, o1, hA, hb1, hc1⟩ := ints_cell (HU.out.keep (HX.out.kept _)) (k := j) (by omega)
        obtain ⟨b2, o2, hB, hb2, hc2⟩ := ints_cell (HV.out.keep (HX.out.kept _)) (k := j) (by have := HNE.out; omega)
        subst hA hB
        obtain ⟨d1, hd1⟩ : ∃ d1, d1 = u.getD j 0 := ⟨_, rfl⟩
        obtain ⟨d2, hd2⟩ : ∃ d2, d2 = v.getD j 0 := ⟨_, rfl⟩
        have hl1 : d1 < 16777216 := by rw [hd1]; exact dgs_getD HDU.out j
        have hl2 : d2 < 16777216 := by rw [hd2]; exact dgs_getD HDV.out j
        rw [← hd1] at hc1
        rw [← hd2] at hc2
        have HD1 := Lib.hid hd1
        have HD2 := Lib.hid hd2
        have hj : ((j + 1 : Nat) : Int) - 1 = (j : Int) := by omega
        rw [hj]
        have i0 : (0 : Int) ≤ (j : Int) := by omega
        have i1 : (j : Int) < (u.length : Int) := by omega
        have i2 : (j : Int) < (v.length : Int) := by have := HNE.out; omega
        clear hd1 hd2 hj
        by_cases hq : d1 = d2
        · have hz : ((d1 : Int) != (d2 : Int)) = false := by rw [hq]; simp
          have HQ := Lib.hid hq
          clear hq
          go_wp2_with fail
          go_quiet (fail)
          go_wp2
          go_roundw
          case rel => exact ⟨j, by omega, by rw [drop_getD (u := u) (by omega), drop_getD (u := v) (by have := HNE.out; omega), ← HD1.out, ← HD2.out, HQ.out, HD.out], by go_num, HX.out.trans (by first | exact (Ext.refl _).drewN _ | exact Ext.refl _)⟩
          case measure => simp [intOf]; try omega
        · have hz : ((d1 : Int) != (d2 : Int)) = true := by rw [bne_iff_ne]; omega
          go_wp2_with fail
          go_quiet (fail)
          go_wp2_with fail
          go_quiet (fail)
          go_wp2
          go_ret
          refine ⟨(d1 : Int) - d2, rfl, ?_, by omega, HX.out.trans (((Ext.refl _).drewN _).drewN _)⟩
          rcases Nat.lt_or_ge d1 d2 with h1 | h1
          · exact .inl ⟨by omega, cmp_top HDU.out HNE.out (k := j) (by omega) HD.out (by rw [← HD1.out, ← HD2.out]; exact h1)⟩
          · exact .inr (.inr ⟨by omega, cmp_top HDV.out HNE.out.symm (k := j) (by have := HNE.out; omega) HD.out.symm (by rw [← HD1.out, ← HD2.out]; omega)⟩)
  · have e1 : ((u.length : Int) != (v.length : Int)) = true := by simp; omega
    go_enter Tryz.func153, Tryz.ntmps153
    go_wp2
    go_ret
    refine ⟨(u.length : Int) - v.length, rfl, ?_, by omega, Ext.refl _⟩
    rcases Nat.lt_or_ge u.length v.length with h1 | h1
    · exact .inl ⟨by omega, len_lt HDU.out HTV.out h1⟩
    · exact .inr (.inr ⟨by omega, len_lt HDV.out HTU.out (by omega)⟩)

set_option maxRecDepth 100000 in
set_option maxHeartbeats 2000000 in
theorem r01_digit (u v : List Nat) (A B : Option Addr) (c e : Nat) (w : World) (S T : Nat → Prop) (hu : Ints w S A (nums u)) (hv : Ints w T B (nums v)) (hdu : dgs u) (hdv : dgs v) (htu : trd u) (hvl : v.length ≤ 4294967295) (hv0 : 0 < dval v) (hlt : dval u < 16777216 * dval v) :
    Calls Tryz.prog 154 #[.slice A u.length c, .slice B v.length e] w (fun e' w' => e' = .returned (.int .i64 ((dval u / dval v : Nat) : Int)) ∧ Ext w w') := by
  have HU := Lib.hid hu
  have HV := Lib.hid hv
  have HDU := Lib.hid hdu
  have HDV := Lib.hid hdv
  have HTU := Lib.hid htu
  obtain ⟨q, hq⟩ : ∃ q, q = dval u / dval v := ⟨_, rfl⟩
  have hqb : q < 16777216 := by rw [hq]; exact Nat.div_lt_of_lt_mul (by rw [Nat.mul_comm]; exact hlt)
  have hle : ∀ m : Nat, dval v * m ≤ dval u ↔ m ≤ q := fun m => by rw [hq, Nat.le_div_iff_mul_le hv0, Nat.mul_comm]
  have HLE := Lib.hid hle
  rw [← hq]
  clear hu hv hdu hdv htu hle hq hlt
  go_enter Tryz.func154, Tryz.ntmps154
  go_wp2
  go_loopw [5, 6] (fun a b wr => ∃ lo hi : Nat, lo ≤ q ∧ q ≤ hi ∧ hi ≤ 16777215 ∧ a = .int .i64 (lo : Int) ∧ b = .int .i64 (hi : Int) ∧ Ext w wr) (fun a b _ => (intOf b - intOf a).toNat)
  case atStart => exact ⟨0, 16777215, by omega, by omega, by omega, rfl, rfl, Ext.refl _⟩
  case round =>
    obtain ⟨lo, hi, hl, hh, hb, rfl, rfl, hx⟩ := hrel
    have HX := Lib.hid hx
    clear hx
    by_cases hlt : lo < hi
    · obtain ⟨m, hm⟩ : ∃ m : Nat, m = (lo + hi + 1) / 2 := ⟨_, rfl⟩
      have hm2 : ((lo : Int) + hi + 1) / 2 = (m : Int) := by omega
      have hm1 : lo < m := by omega
      have hm3 : m ≤ hi := by omega
      clear hm
      go_wp2_with fail
      refine (r01_times v m B e _ _ (HV.out.keep (HX.out.kept _)) HDV.out (by omega) hvl).mono ?_
      rintro e1 w1 ⟨A1, c1, l1, rfl, hv1, hd1, ht1, hcp1, hi1, hx1⟩
      have HX1 := Lib.hid (HX.out.trans hx1)
      have H1 := Lib.hid hi1
      have HD1 := Lib.hid hd1
      have HT1 := Lib.hid ht1
      have HV1 := Lib.hid hv1
      clear hx1 hi1 hd1 ht1 hv1
      go_wp2_with fail
      refine (r01_cmp l1 u A1 A c1 c _ _ _ H1.out (HU.out.keep (HX1.out.kept _)) HD1.out HDU.out HT1.out HTU.out).mono ?_
      rintro e2 w2 ⟨n, rfl, hcp, hnb, hx2⟩
      have HX2 := Lib.hid (HX1.out.trans hx2)
      have hcase : (n ≤ 0 ↔ m ≤ q) := by
        rw [← HLE.out, ← HV1.out]
        unfold CmpD at hcp
        omega
      by_cases hn : n ≤ 0
      · have hmq := hcase.1 hn
        clear hcase hcp hx2
        go_wp2
        go_roundw
        case rel => exact ⟨m, hi, hmq, hh, hb, rfl, rfl, HX2.out⟩
        case measure => simp [intOf]; omega
      · have hmq : q < m := by
          rcases Nat.lt_or_ge q m with h | h
          · exact h
          · exact absurd (hcase.2 h) hn
        clear hcase hcp hx2
        go_wp2
        go_roundw
        case rel => exact ⟨lo, m - 1, hl, by omega, by omega, rfl, by go_num, HX2.out⟩
        case measure => simp [intOf]; omega
    · obtain rfl : lo = q := by omega
      go_wp2
      go_ret
      exact ⟨rfl, HX.out⟩
end Go.Proofs.YtcmmkeiiapbgcaaGreatDoor
/- The reference's digits of a number of bytes: of. Conditions: bounds on sizes. -/
namespace Go.Proofs.YtcmmkeiiapbgcaaGreatDoor
open Go Go.RowKit

structure OfI (l : List UInt8) (m : List Nat) : Prop where
  eq : dval m + 16777216 ^ m.length * nvl (l.take (l.length - 3 * m.length)) = nvl l
  ds : dgs m
theorem pow24 (k : Nat) : (16777216 : Nat) ^ k = 256 ^ (3 * k) := by rw [show (16777216 : Nat) = 256 ^ 3 by decide, ← Nat.pow_mul]
theorem OfI.step {l : List UInt8} {m : List Nat} (h : OfI l m) {e : Nat} (he : e + 3 * m.length = l.length) : OfI l (m ++ [nvl ((l.take e).drop (e - 3))]) := by
  have h1 : nvl ((l.take e).drop (e - 3)) < 16777216 := by
    have := nvl_lt ((l.take e).drop (e - 3))
    have h2 : (256 : Nat) ^ ((l.take e).drop (e - 3)).length ≤ 256 ^ 3 := Nat.pow_le_pow_right (by decide) (by simp; omega)
    omega
  refine ⟨?_, dgs_snoc h.ds h1⟩
  have h2 := h.eq
  rw [show l.length - 3 * m.length = e by omega] at h2
  rw [dval_snoc, List.length_append, List.length_singleton, show l.length - 3 * (m.length + 1) = e - 3 by omega, ← h2]
  have h3 := nvl_app ((l.take e).take (e - 3)) ((l.take e).drop (e - 3))
  rw [List.take_append_drop, List.take_take, Nat.min_eq_left (by omega)] at h3
  rw [h3, Nat.mul_add, Nat.pow_succ]
  have h4 : ((l.take e).drop (e - 3)).length = e - (e - 3) := by simp; omega
  rw [h4]
  rcases Nat.lt_or_ge e 3 with h5 | h5
  · rw [show e - 3 = 0 by omega]
    simp [nvl]
  · rw [show e - (e - 3) = 3 by omega, show (256 : Nat) ^ 3 = 16777216 by decide, Nat.mul_comm (nvl _) 16777216, Nat.mul_assoc]
    omega
theorem OfI.fin {s : ByteArray} {m : List Nat} (h : OfI s.data.toList m) (hc : canB s) (h1 : s.size ≤ 3 * m.length) (h2 : 3 * m.length ≤ s.size + 2) : dval m = nval s ∧ trd m := by
  have hl : s.data.toList.length = s.size := by simp
  have h3 := h.eq
  rw [show s.data.toList.length - 3 * m.length = 0 by omega, List.take_zero] at h3
  have hv : dval m = nval s := by rw [show nval s = nvl s.data.toList from rfl, ← h3]; simp [nvl]
  refine ⟨hv, ?_⟩
  intro ht
  rcases List.eq_nil_or_concat m with rfl | ⟨m', d, rfl⟩
  · simp at ht
  · rw [List.concat_eq_append] at *
    have hd : d = 0 := by simpa using ht
    subst hd
    rw [dval_snoc0] at hv
    have h4 := dval_lt m' fun x hx => h.ds x (by simp [hx])
    rw [hv, pow24] at h4
    have h5 := (can_size hc (k := 3 * m'.length)).2 h4
    simp at h2
    omega
theorem take_drop_snoc (s : ByteArray) {st k : Nat} (h1 : st ≤ k) (h2 : k < s.size) : (s.data.toList.take (k + 1)).drop st = (s.data.toList.take k).drop st ++ [s[k]] := by
  rw [List.take_succ_eq_append_getElem (by simpa using h2), bs_toList_at s k h2, List.drop_append_of_le_length (by simp; omega)]

set_option maxRecDepth 100000 in
set_option maxHeartbeats 2000000 in
theorem r01_of (s : ByteArray) (hs : s.size ≤ 4294967296) (w : World) : Calls Tryz.prog 151 #[.string s] w (RetDg w (nval s)) := by
  go_enter Tryz.func151, Tryz.ntmps151
  go_wp2_with fail
  refine (r01_Canon s hs _).mono ?_
  rintro e1 w1 ⟨r, ⟨rfl, rfl⟩, hv, hc, hsz⟩
  have HV := Lib.hid hv
  have HC := Lib.hid hc
  have hr : r.size ≤ 4294967296 := by omega
  have hrl : r.data.toList.length = r.size := by simp
  have HRL := Lib.hid hrl
  clear hv hc hsz hrl
  go_wp2
  go_loopw [3, 4] (fun o e wr => ∃ (A' : Option Addr) (c' : Nat) (m : List Nat), OfI r.data.toList m ∧ 3 * m.length ≤ r.size + 2 ∧ o = .slice A' m.length c' ∧ e = .int .i64 ((r.size : Int) - 3 * m.length) ∧ Ext w wr ∧ Own wr w.heap.size 3 1 A' m.length c' ((nums m).map (Value.int .i64))) (fun _ e _ => (intOf e + 2).toNat)
  case atStart => exact ⟨none, 0, [], ⟨by simp only [dval, List.length_nil, Nat.pow_zero, Nat.mul_zero, Nat.sub_zero, List.take_length]; omega, by simp [dgs]⟩, by simp, rfl, by simp, Ext.refl _, Own.nil _ _ _ _⟩
  case round =>
    obtain ⟨A', c', m, hm, hml, rfl, rfl, hx, ho⟩ := hrel
    have HX := Lib.hid hx
    have HO := Lib.hid ho
    have HM := Lib.hid hm
    have hsz := hx.size
    clear hx ho hm
    by_cases hlt : 3 * m.length < r.size
    · obtain ⟨e, he⟩ : ∃ e : Nat, e + 3 * m.length = r.size := ⟨r.size - 3 * m.length, by omega⟩
      have he2 : (r.size : Int) - 3 * m.length = (e : Int) := by omega
      rw [he2]
      obtain ⟨st, hst⟩ : ∃ st, st = e - 3 := ⟨_, rfl⟩
      have hmx : max ((e : Int) - 3) 0 = (st : Int) := by omega
      have HMX := Lib.hid hmx
      have HST := Lib.hid hst
      have hst1 : st ≤ e := by omega
      have hst3 : e ≤ st + 3 := by omega
      have HHE := Lib.hid he
      have her : e ≤ r.size := by omega
      have he0 : 0 < e := by omega
      have hle := HM.out.step (e := e) (by rw [HRL.out]; exact he)
      have HLE := Lib.hid hle
      have hgo : ∀ k, st ≤ k → k ≤ e → nvl ((r.data.toList.take k).drop st) < 16777216 := fun k h1 h2 => by
        have h3 := nvl_lt ((r.data.toList.take k).drop st)
        have h4 : (256 : Nat) ^ ((r.data.toList.take k).drop st).length ≤ 256 ^ 3 := Nat.pow_le_pow_right (by decide) (by simp; omega)
        omega
      have HGO := Lib.hid hgo
      clear he2 hst hmx hle hgo
      go_wp2
      rw [HMX.out]
      go_loop [5, 6] (fun d k' => ∃ k : Nat, st ≤ k ∧ k ≤ e ∧ d = .int .i64 (nvl ((r.data.toList.take k).drop st) : Int) ∧ k' = .int .i64 (k : Int)) (fun _ k' => e - (intOf k').toNat)
      case atStart => exact ⟨st, Nat.le_refl _, hst1, by rw [List.drop_of_length_le (by simp; omega)]; rfl, rfl⟩
      case round =>
        obtain ⟨k, hk1, hk2, rfl, rfl⟩ := hrel
        have hbd := HGO.out k hk1 hk2
        obtain ⟨d, hd⟩ : ∃ d, d = nvl ((r.data.toList.take k).drop st) := ⟨_, rfl⟩
        rw [← hd] at hbd ⊢
        have HD := Lib.hid hd
        clear hd
        by_cases hke : k < e
        · have hkr : k < r.size := by omega
          have hb2 := HGO.out (k + 1) (by omega) (by omega)
          have hsn := take_drop_snoc r hk1 hkr
          rw [hsn, nvl_snoc, ← HD.out] at hb2
          have HSN := Lib.hid hsn
          clear hsn
          go_wp2
          go_round
          case rel => exact ⟨k + 1, by omega, by omega, by rw [HSN.out, nvl_snoc, ← HD.out]; go_num, by go_num⟩
          case measure => simp [intOf]; omega
        · obtain rfl : k = e := by omega
          rw [HST.out] at HD
          go_wp2_with (at_builtin; go_must (refine wpList_app rfl (.tmp 30) (.tmp 32) rfl tiI rfl (HO.out.ext ((Ext.refl wr).alloc _)) rfl (Blk.rd (Blk.new _ _ _)) rfl (by simp [Value.oneCell']) (by omega) (by decide) (by simp; omega) ?_); intro A4 c4 w4 hown4 hg4 hat4)
          go_roundw
          case rel =>
            refine ⟨A4, c4, m ++ [d], by rw [HD.out]; exact HLE.out, by have := HHE.out; simp; omega, by simp, by have := HHE.out; simp; omega, (HX.out.alloc _).grown hg4 fun b hb => (HO.out.blk hb).1, ?_⟩
            rw [nums_snoc]
            simpa using hown4
          case measure => simp [intOf]; omega
    · obtain ⟨hv, ht⟩ := HM.out.fin HC.out (by omega) hml
      have hcp := HO.out.cap
      have HF := Lib.hid (hv.trans HV.out)
      have HT := Lib.hid ht
      have HD := Lib.hid HM.out.ds
      have HR := Lib.hid (OwnIs.read HO.out (by omega) (T := fun b => w.heap.size ≤ b) fun _ h => h)
      have hneg : (r.size : Int) - 3 * m.length ≤ 0 := by omega
      clear hv ht
      go_wp2
      go_ret
      exact ⟨A', c', m, rfl, HF.out, HD.out, HT.out, hcp, HR.out, HX.out⟩
end Go.Proofs.YtcmmkeiiapbgcaaGreatDoor
/- The reference's bytes of digits: number. Conditions: the digits read as data. -/
namespace Go.Proofs.YtcmmkeiiapbgcaaGreatDoor
open Go Go.RowKit

theorem Kept.cell {S : Nat → Prop} {w w' : World} (h : Kept S w w') {p : Addr} {u : Value} (hs : S p.block) (hc : w.cell? p = some u) : w'.cell? p = some u := by
  have hp : p.block < w.heap.size := by
    unfold World.cell? at hc
    rcases Nat.lt_or_ge p.block w.heap.size with h1 | h1
    · exact h1
    · rw [Array.getElem?_eq_none h1] at hc; cases hc
  exact (World.cell?_of_block (w := w) (h.2 p.block hs hp)).trans hc
/-- The three bytes of a digit. -/
def by3 (d : Nat) : List Value := [.int .u8 (IntKind.u8.wrap ((d : Int) / 65536)), .int .u8 (IntKind.u8.wrap ((d : Int) / 256)), .int .u8 (IntKind.u8.wrap (d : Int))]
theorem wrap_u8 (n : Int) : IntKind.u8.wrap n = n % 256 := by simp [IntKind.wrap, IntKind.signed, IntKind.bits]
/-- The bytes of digits, the most significant one first. -/
def numB : List Nat → List Int
  | [] => []
  | d :: l => numB l ++ [IntKind.u8.wrap ((d : Int) / 65536), IntKind.u8.wrap ((d : Int) / 256), IntKind.u8.wrap (d : Int)]
theorem numB_len : ∀ l : List Nat, (numB l).length = 3 * l.length
  | [] => rfl
  | d :: l => by simp [numB, numB_len l]; omega
theorem nval_numB : ∀ l : List Nat, dgs l → nval (strOfNums (numB l)) = dval l
  | [], _ => by simp [nval, strOfNums, numB, nvl, dval]
  | d :: l, h => by
    have ih := nval_numB l fun x hx => h x (List.mem_cons_of_mem _ hx)
    have hd := h d List.mem_cons_self
    unfold nval at ih ⊢
    rw [strOfNums_data] at ih ⊢
    simp only [numB, List.map_append, List.map_cons, List.map_nil]
    rw [nvl_app, ih]
    have h1 : ∀ n : Nat, n < 256 → (UInt8.ofNat (n : Int).toNat).toNat = n := fun n hn => by rw [Int.toNat_natCast, UInt8.toNat_ofNat']; omega
    have e1 : ((d : Int) / 65536 % 256) = ((d / 65536 % 256 : Nat) : Int) := by simp
    have e2 : ((d : Int) / 256 % 256) = ((d / 256 % 256 : Nat) : Int) := by simp
    have e3 : ((d : Int) % 256) = ((d % 256 : Nat) : Int) := by simp
    rw [wrap_u8, wrap_u8, wrap_u8, e1, e2, e3]
    simp only [nvl, List.foldl_cons, List.foldl_nil, List.length_cons, List.length_nil, dval]
    rw [h1 _ (by omega), h1 _ (by omega), h1 _ (by omega)]
    omega
set_option maxRecDepth 100000 in
set_option maxHeartbeats 4000000 in
theorem r01_number (l : List Nat) (A : Option Addr) (c : Nat) (w : World) (S : Nat → Prop) (hl : Ints w S A (nums l)) (hd : dgs l) (hlen : l.length ≤ 1000000) :
    Calls Tryz.prog 157 #[.slice A l.length c] w (RetT w (dval l)) := by
  have HL := Lib.hid (hl.mono (T := fun b => b < w.heap.size) fun b hb _ => hb)
  have HD := Lib.hid hd
  clear hl hd
  go_enter Tryz.func157, Tryz.ntmps157
  go_wp2
  go_loopw [3, 4] (fun o i wr => ∃ (j : Nat) (A' : Option Addr) (c' n : Nat), j ≤ l.length ∧ n = 3 * (l.length - j) ∧ o = .slice A' n c' ∧ i = .int .i64 ((j : Int) - 1) ∧ Ext w wr ∧ Own wr w.heap.size 5 1 A' n c' ((numB (l.drop j)).map (Value.int .u8))) (fun _ i _ => (intOf i + 1).toNat)
  case atStart => exact ⟨l.length, none, 0, 0, Nat.le_refl _, by omega, rfl, rfl, Ext.refl _, by rw [List.drop_length]; exact Own.nil _ _ _ _⟩
  case round =>
    obtain ⟨j, A', c', n, hj, hn, rfl, rfl, hx, ho⟩ := hrel
    have HX := Lib.hid hx
    have HO := Lib.hid ho
    have hsz := hx.size
    have HN := Lib.hid hn
    have hn3 : n ≤ 3000000 := by omega
    clear hx ho hn
    cases j with
    | zero =>
      obtain ⟨L, hL⟩ : ∃ L, L = numB l := ⟨_, rfl⟩
      have hLn : L.length = n := by rw [hL, numB_len, HN.out]; omega
      have ho := HO.out
      rw [List.drop_zero, ← hL] at ho
      have HV := Lib.hid (show nval (strOfNums L) = dval l by rw [hL]; exact nval_numB l HD.out)
      rcases ho.2 with ⟨hv, h0⟩ | ⟨g, cap, cur, hv, hb, hh, hnc, hcm, hcs, ht⟩
      · obtain ⟨rfl, rfl⟩ : A' = none ∧ c' = 0 := by injection hv with h1 _ h2; exact ⟨h1, h2⟩
        subst h0
        have hL0 : L = [] := List.eq_nil_of_length_eq_zero hLn
        have hcv := run_convert_bytes_nil (P := Tryz.prog) wr 159 5 Tryz.underlying159 Tryz.underlying5 0 0 118 Tryz.underlying118
        have HV2 := Lib.hid (show nval ByteArray.empty = dval l by rw [← HV.out, hL0]; rfl)
        clear ho hv hL hLn hL0
        go_wp2_with fail
        refine (r01_Canon ByteArray.empty (by simp) _).mono ?_
        rintro e1 w1 ⟨r, ⟨rfl, rfl⟩, hv, hc, hsz⟩
        have HR := Lib.hid (hv.trans HV2.out)
        have HC := Lib.hid hc
        have HS := Lib.hid (show r.size ≤ 4294967296 by have : ByteArray.empty.size = 0 := rfl; omega)
        clear hv hc hsz
        go_wp2
        go_ret
        exact ⟨r, rfl, HR.out, HC.out, HS.out, HX.out⟩
      obtain ⟨rfl, rfl⟩ : A' = some ⟨g, 0, none⟩ ∧ c' = cap := by injection hv with h1 _ h2; exact ⟨h1, h2⟩
      have hcv := run_convert_bytes_arg (P := Tryz.prog) wr 159 5 Tryz.underlying159 Tryz.underlying5 g 0 n c' L hLn (fun i hi => by
        obtain ⟨b, o, hA, -, hc⟩ := (Own.rd ho).at_ (k := i) (u := .int .u8 (L.getD i 0)) (by
          rw [List.getElem?_map, List.getElem?_eq_getElem (by rw [hLn]; exact hi)]
          simp [List.getD, List.getElem?_eq_getElem (show i < L.length by rw [hLn]; exact hi)])
        injection hA with hA
        injection hA with h1 h2
        subst h1 h2
        exact hc) 118 Tryz.underlying118
      clear ho hv hb hh hnc hcm hcs ht hL
      go_wp2_with fail
      refine (r01_Canon (strOfNums L) (by rw [strOfNums_size, hLn]; omega) _).mono ?_
      rintro e1 w1 ⟨r, ⟨rfl, rfl⟩, hv, hc, hsz⟩
      rw [strOfNums_size, hLn] at hsz
      have HR := Lib.hid (hv.trans HV.out)
      have HC := Lib.hid hc
      clear hv hc hLn
      go_wp2
      go_ret
      exact ⟨r, rfl, HR.out, HC.out, by omega, HX.out⟩
    | succ j =>
      obtain ⟨b1, o1, hA, hb1, hc1⟩ := ints_cell (HL.out.keep (HX.out.kept _)) (k := j) (by omega)
      subst hA
      have hbw : b1 < w.heap.size := by
        obtain ⟨b, o, h1, h2, -⟩ := (ints_cell HL.out (k := j) (by omega))
        injection h1 with h1; injection h1 with h1; omega
      obtain ⟨d, hdd⟩ : ∃ d, d = l.getD j 0 := ⟨_, rfl⟩
      have hd24 : d < 16777216 := by rw [hdd]; exact dgs_getD HD.out j
      rw [← hdd] at hc1
      have HC1 := Lib.hid hc1
      have HDD := Lib.hid hdd
      have hj1 : ((j + 1 : Nat) : Int) - 1 = (j : Int) := by omega
      rw [hj1]
      have i0 : (0 : Int) ≤ (j : Int) := by omega
      have i1 : (j : Int) < (l.length : Int) := by omega
      have HB := Lib.hid (show ∀ m b, (m = 1019 ∧ ob A' = some b) → w.heap.size ≤ b from fun m b h => (HO.out.blk h.2).1)
      clear hj1 hc1 hdd
      go_upto_region 5 with fail
      refine wp_region_chain (by kernel_rfl) (fun i => [i]) (by kernel_rfl) (LX (fun m b => m = 1019 ∧ ob A' = some b)) (LX.refl _) (LX.trans _) (LM [(19, [1019])]) gh0 (LM.zero _) ?_
      apply Chain.pure (LX.refl _) (by rfl)
      · intro vals γ w' ρ hR hN hp hρ hc hf hg
        refine ⟨rfl, ?_⟩
        have e3 := hρ 3
        conv at e3 => rhs; whnf
        clear hR hN hp hρ
        go_light
        go_simp
        exact ⟨rfl, rfl⟩
      · rfl
      apply Chain.pure (LX.refl _) (by rfl)
      · intro vals γ w' ρ hR hN hp hρ hc hf hg
        refine ⟨rfl, ?_⟩
        have e0 := hρ 0
        conv at e0 => rhs; whnf
        clear hR hN hp hρ
        go_light
        go_simp
        exact ⟨rfl, rfl⟩
      · rfl
      apply Chain.pure (LX.refl _) (by rfl)
      · intro vals γ w' ρ hR hN hp hρ hc hf hg
        refine ⟨rfl, ?_⟩
        have e4 := hρ 4
        conv at e4 => rhs; whnf
        clear hR hN hp hρ
        go_light
        go_simp
        exact ⟨rfl, rfl⟩
      · rfl
      apply Chain.pure (LX.refl _) (by rfl)
      · intro vals γ w' ρ hR hN hp hρ hc hf hg
        refine ⟨rfl, ?_⟩
        have e13 : ρ (.tmp 13) = _ := (hρ 13).trans (hp 1 (by decide))
        have e14 : ρ (.tmp 14) = _ := (hρ 14).trans (hp 2 (by decide))
        clear hR hN hp hρ
        go_light
        go_simp
        exact ⟨rfl, rfl⟩
      · rfl
      apply Chain.pure (LX.refl _) (by rfl)
      · intro vals γ w' ρ hR hN hp hρ hc hf hg
        refine ⟨rfl, ?_⟩
        have e15 : ρ (.tmp 15) = _ := (hρ 15).trans (hp 3 (by decide))
        have c1 := (hR.kept0 (S := fun b => b < w.heap.size) (fun b hb m hm => by have := HB.out m b hm; omega)).cell (p := ⟨b1, o1 + j, none⟩) hbw HC1.out
        clear hR hN hp hρ
        go_light
        go_simp
        exact ⟨rfl, rfl⟩
      · rfl
      apply Chain.pure (LX.refl _) (by rfl)
      · intro vals γ w' ρ hR hN hp hρ hc hf hg
        refine ⟨rfl, ?_⟩
        have e16 : ρ (.tmp 16) = _ := (hρ 16).trans (hp 4 (by decide))
        clear hR hN hp hρ
        go_light
        go_simp
        exact ⟨rfl, rfl⟩
      · rfl
      apply Chain.pure (LX.refl _) (by rfl)
      · intro vals γ w' ρ hR hN hp hρ hc hf hg
        refine ⟨rfl, ?_⟩
        have e17 : ρ (.tmp 17) = _ := (hρ 17).trans (hp 5 (by decide))
        clear hR hN hp hρ
        go_light
        go_simp
        exact ⟨rfl, rfl⟩
      · rfl
      apply Chain.pure (LX.refl _) (by rfl)
      · intro vals γ w' ρ hR hN hp hρ hc hf hg
        refine ⟨rfl, ?_⟩
        have e0 := hρ 0
        conv at e0 => rhs; whnf
        clear hR hN hp hρ
        go_light
        go_simp
        exact ⟨rfl, rfl⟩
      · rfl
      apply Chain.pure (LX.refl _) (by rfl)
      · intro vals γ w' ρ hR hN hp hρ hc hf hg
        refine ⟨rfl, ?_⟩
        have e4 := hρ 4
        conv at e4 => rhs; whnf
        clear hR hN hp hρ
        go_light
        go_simp
        exact ⟨rfl, rfl⟩
      · rfl
      apply Chain.pure (LX.refl _) (by rfl)
      · intro vals γ w' ρ hR hN hp hρ hc hf hg
        refine ⟨rfl, ?_⟩
        have e19 : ρ (.tmp 19) = _ := (hρ 19).trans (hp 7 (by decide))
        have e20 : ρ (.tmp 20) = _ := (hρ 20).trans (hp 8 (by decide))
        clear hR hN hp hρ
        go_light
        go_simp
        exact ⟨rfl, rfl⟩
      · rfl
      apply Chain.pure (LX.refl _) (by rfl)
      · intro vals γ w' ρ hR hN hp hρ hc hf hg
        refine ⟨rfl, ?_⟩
        have e21 : ρ (.tmp 21) = _ := (hρ 21).trans (hp 9 (by decide))
        have c1 := (hR.kept0 (S := fun b => b < w.heap.size) (fun b hb m hm => by have := HB.out m b hm; omega)).cell (p := ⟨b1, o1 + j, none⟩) hbw HC1.out
        clear hR hN hp hρ
        go_light
        go_simp
        exact ⟨rfl, rfl⟩
      · rfl
      apply Chain.pure (LX.refl _) (by rfl)
      · intro vals γ w' ρ hR hN hp hρ hc hf hg
        refine ⟨rfl, ?_⟩
        have e22 : ρ (.tmp 22) = _ := (hρ 22).trans (hp 10 (by decide))
        clear hR hN hp hρ
        go_light
        go_simp
        exact ⟨rfl, rfl⟩
      · rfl
      apply Chain.pure (LX.refl _) (by rfl)
      · intro vals γ w' ρ hR hN hp hρ hc hf hg
        refine ⟨rfl, ?_⟩
        have e23 : ρ (.tmp 23) = _ := (hρ 23).trans (hp 11 (by decide))
        clear hR hN hp hρ
        go_light
        go_simp
        exact ⟨rfl, rfl⟩
      · rfl
      apply Chain.pure (LX.refl _) (by rfl)
      · intro vals γ w' ρ hR hN hp hρ hc hf hg
        refine ⟨rfl, ?_⟩
        have e0 := hρ 0
        conv at e0 => rhs; whnf
        clear hR hN hp hρ
        go_light
        go_simp
        exact ⟨rfl, rfl⟩
      · rfl
      apply Chain.pure (LX.refl _) (by rfl)
      · intro vals γ w' ρ hR hN hp hρ hc hf hg
        refine ⟨rfl, ?_⟩
        have e4 := hρ 4
        conv at e4 => rhs; whnf
        clear hR hN hp hρ
        go_light
        go_simp
        exact ⟨rfl, rfl⟩
      · rfl
      apply Chain.pure (LX.refl _) (by rfl)
      · intro vals γ w' ρ hR hN hp hρ hc hf hg
        refine ⟨rfl, ?_⟩
        have e25 : ρ (.tmp 25) = _ := (hρ 25).trans (hp 13 (by decide))
        have e26 : ρ (.tmp 26) = _ := (hρ 26).trans (hp 14 (by decide))
        clear hR hN hp hρ
        go_light
        go_simp
        exact ⟨rfl, rfl⟩
      · rfl
      apply Chain.pure (LX.refl _) (by rfl)
      · intro vals γ w' ρ hR hN hp hρ hc hf hg
        refine ⟨rfl, ?_⟩
        have e27 : ρ (.tmp 27) = _ := (hρ 27).trans (hp 15 (by decide))
        have c1 := (hR.kept0 (S := fun b => b < w.heap.size) (fun b hb m hm => by have := HB.out m b hm; omega)).cell (p := ⟨b1, o1 + j, none⟩) hbw HC1.out
        clear hR hN hp hρ
        go_light
        go_simp
        exact ⟨rfl, rfl⟩
      · rfl
      apply Chain.pure (LX.refl _) (by rfl)
      · intro vals γ w' ρ hR hN hp hρ hc hf hg
        refine ⟨rfl, ?_⟩
        have e28 : ρ (.tmp 28) = _ := (hρ 28).trans (hp 16 (by decide))
        clear hR hN hp hρ
        go_light
        go_simp
        exact ⟨rfl, rfl⟩
      · rfl
      refine Chain.step (FP fun v γ w' => ∃ g : Nat, v = .slice (some ⟨g, 0, none⟩) 3 3 ∧ Blk w' g 5 (by3 d).toArray ∧ Free γ g ∧ wr.heap.size ≤ g) (by rfl) (FP.stab ?_) ?_ ?_
      · rintro v γ w1 γ' w2 r ⟨g, h1, h2, h3, h4⟩
        exact ⟨g, h1, h2.keep (r.keptS fun b _ e => ⟨e ▸ h3, fun m hm => by have := HO.out.blk hm.2; omega⟩), r.free h2.lt h3, h4⟩
      · intro vals γ w' ρ hR hN hp hρ hc hf hg
        refine ⟨rfl, ?_⟩
        have e18 : ρ (.tmp 18) = _ := (hρ 18).trans (hp 6 (by decide))
        have e24 : ρ (.tmp 24) = _ := (hρ 24).trans (hp 12 (by decide))
        have e29 : ρ (.tmp 29) = _ := (hρ 29).trans (hp 17 (by decide))
        have HR := Lib.hid hR
        clear hR hN hp hρ
        go_light
        go_simp
        exact ⟨γ, LX.of_ext _ γ ((Ext.refl _).alloc _), fun _ _ _ h => h, _, rfl, Blk.new _ _ _, fun ⟨k', hk'⟩ => by have := HR.out.inb0 k' _ hk'; omega, HR.out.size⟩
      refine Chain.step (FP fun v γ w' => ∃ (A4 : Option Addr) (c4 : Nat), v = .slice A4 (n + 3) c4 ∧ Own w' w.heap.size 5 1 A4 (n + 3) c4 ((numB (l.drop (j + 1))).map (Value.int .u8) ++ by3 d) ∧ γ 1019 = some none ∧ ∀ b, ob A4 = some b → Free γ b) (by rfl) (FP.stab ?_) ?_ ?_
      · rintro v γ w1 γ' w2 r ⟨A4, c4, h1, h2, h3, h4⟩
        exact ⟨A4, c4, h1, h2.keep (r.keptS fun b _ e => ⟨h4 b e, fun m hm => by rw [hm.1, h3, r.done _ h3]⟩), r.done _ h3, fun b hb => r.free (h2.blk hb).2 (h4 b hb)⟩
      · intro vals γ w' ρ hR hN hp hρ hc hf hg
        refine ⟨rfl, ?_⟩
        have e12 : ρ (.tmp 12) = _ := (hρ 12).trans (hp 0 (by decide))
        obtain ⟨g, hv, hb, hf, hg⟩ := hp 18 (by decide)
        have e30 := (hρ 30).trans hv
        have hk0 := hR.key0 hN (k := 1019) (by decide) (by decide)
        have ho := HO.out.keep ((Kept.drew _ wr).trans (hR.keptS (S := fun b => ob A' = some b) fun b _ hb => ⟨free0 b, fun m hm => by rw [hm.1]; exact hk0⟩))
        refine lin_app (.tmp 12) (.tmp 30) rfl tiU8 e12 ho e30 (Blk.rd hb) rfl (by simp [by3, Value.oneCell']) (by omega) (by decide) (by have := hR.size; have e : wr.drew.heap.size = wr.heap.size := rfl; omega) ?_
        intro A4 c4 w4 hown4 hg4 hat4
        refine ⟨γ.put 1019 none, LX.write hk0 hg4.os hg4.tape hg4.output hg4.size (fun b hb hm => hg4.block b hb fun e => hm ⟨rfl, e.symm⟩), LM.done (by decide) (.inr (by decide)), A4, c4, rfl, hown4, rfl, fun b hb => ?_⟩
        rintro ⟨k', hk'⟩
        have hk2 : γ k' = some (some b) := by unfold Gh.put at hk'; split at hk'; (cases hk'); exact hk'
        have hl := hR.inb0 k' b hk2
        rcases hat4 with e | e
        · have := hR.old k' b hk2 (by have := (HO.out.blk (e ▸ hb)).2; exact this); cases this
        · rw [hb] at e; injection e with e; omega
      refine Chain.step (FP fun v γ w' => ∃ (A4 : Option Addr) (c4 : Nat), v = .slice A4 (n + 3) c4 ∧ Own w' w.heap.size 5 1 A4 (n + 3) c4 ((numB (l.drop (j + 1))).map (Value.int .u8) ++ by3 d) ∧ γ 1019 = some none ∧ ∀ b, ob A4 = some b → Free γ b) (by rfl) (FP.stab ?_) ?_ ?_
      · rintro v γ w1 γ' w2 r ⟨A4, c4, h1, h2, h3, h4⟩
        exact ⟨A4, c4, h1, h2.keep (r.keptS fun b _ e => ⟨h4 b e, fun m hm => by rw [hm.1, h3, r.done _ h3]⟩), r.done _ h3, fun b hb => r.free (h2.blk hb).2 (h4 b hb)⟩
      · intro vals γ w' ρ hR hN hp hρ hc hf hg
        refine ⟨rfl, ?_⟩
        have hg := hp 19 (by decide)
        have e31 := hρ 31
        conv at e31 => rhs; whnf
        have HG := Lib.hid hg
        clear hR hN hp hρ hg
        go_light
        go_simp
        exact ⟨γ, LX.refl _ _ _, fun _ _ _ h => h, HG.out⟩
      intro vals γ w9 hR hG
      have v0 : vals 0 = _ := hG 0 (by decide)
      have v1 : vals 1 = _ := hG 1 (by decide)
      have v2 : vals 2 = _ := hG 2 (by decide)
      have v3 : vals 3 = _ := hG 3 (by decide)
      have v4 : vals 4 = _ := hG 4 (by decide)
      have v5 : vals 5 = _ := hG 5 (by decide)
      have v6 : vals 6 = _ := hG 6 (by decide)
      have v7 : vals 7 = _ := hG 7 (by decide)
      have v8 : vals 8 = _ := hG 8 (by decide)
      have v9 : vals 9 = _ := hG 9 (by decide)
      have v10 : vals 10 = _ := hG 10 (by decide)
      have v11 : vals 11 = _ := hG 11 (by decide)
      have v12 : vals 12 = _ := hG 12 (by decide)
      have v13 : vals 13 = _ := hG 13 (by decide)
      have v14 : vals 14 = _ := hG 14 (by decide)
      have v15 : vals 15 = _ := hG 15 (by decide)
      have v16 : vals 16 = _ := hG 16 (by decide)
      have v17 : vals 17 = _ := hG 17 (by decide)
      obtain ⟨g18, v18, -⟩ := hG 18 (by decide)
      obtain ⟨A19, c19, v19, -⟩ := hG 19 (by decide)
      obtain ⟨A4, c4, v20, hown4, -⟩ := hG 20 (by decide)
      simp only [lexFrame, Act.put, List.setIfInBounds_toArray, List.set_cons_succ, List.set_cons_zero, Nat.zero_add, Nat.reduceAdd, v0, v1, v2, v3, v4, v5, v6, v7, v8, v9, v10, v11, v12, v13, v14, v15, v16, v17, v18, v19, v20]
      clear v0 v1 v2 v3 v4 v5 v6 v7 v8 v9 v10 v11 v12 v13 v14 v15 v16 v17 v18 v19 v20
      have HX9 := Lib.hid (hR.extB HX.out HB.out)
      clear hR hG
      go_wp2
      go_roundw
      case rel =>
        refine ⟨j, A4, c4, n + 3, by omega, by have := HN.out; omega, rfl, by go_num, HX9.out, ?_⟩
        rw [drop_getD (u := l) (k := j) (by omega), ← HDD.out]
        simpa [numB, by3] using hown4
      case measure => simp [intOf]
end Go.Proofs.YtcmmkeiiapbgcaaGreatDoor
/- The reference's Cmp, Sub and Add of numbers of any size. Conditions: bounds on sizes. -/
namespace Go.Proofs.YtcmmkeiiapbgcaaGreatDoor
open Go Go.RowKit

theorem less_nvl : ∀ l m : List UInt8, l.length = m.length → (Op.bytesLess l m = decide (nvl l < nvl m))
  | [], [], _ => by simp [Op.bytesLess]
  | a :: l, b :: m, h => by
    have hl : l.length = m.length := by simpa using h
    have ih := less_nvl l m hl
    have h1 := nvl_lt l
    have h2 := nvl_lt m
    rw [hl] at h1
    simp only [Op.bytesLess, ih, nvl_cons, hl]
    generalize 256 ^ m.length = q at *
    rw [Bool.eq_iff_iff]
    simp only [Bool.or_eq_true, Bool.and_eq_true, decide_eq_true_eq, beq_iff_eq]
    constructor
    · rintro (hab | ⟨rfl, hlm⟩)
      · have hab : a.toNat + 1 ≤ b.toNat := UInt8.lt_iff_toNat_lt.1 hab
        have := Nat.mul_le_mul_right q hab
        rw [Nat.add_mul] at this
        omega
      · omega
    · intro hlt
      rcases Nat.lt_trichotomy a.toNat b.toNat with hab | hab | hab
      · exact .inl (UInt8.lt_iff_toNat_lt.2 hab)
      · refine .inr ⟨UInt8.toNat_inj.1 hab, ?_⟩
        rw [hab] at hlt
        omega
      · exfalso
        have := Nat.mul_le_mul_right q (show b.toNat + 1 ≤ a.toNat from hab)
        rw [Nat.add_mul] at this
        omega
def cmpN (x y : Nat) : Int := if x < y then -1 else if y < x then 1 else 0
theorem nval_eq_of {s t : ByteArray} (h : s.size = t.size) : ∀ (_ : nval s = nval t), (s.toList == t.toList) = true := by
  intro hv
  have key : ∀ l m : List UInt8, l.length = m.length → nvl l = nvl m → l = m := by
    intro l
    induction l with
    | nil => intro m hl _; cases m with | nil => rfl | cons => simp at hl
    | cons a l ih =>
      intro m hl hv
      cases m with
      | nil => simp at hl
      | cons b m =>
        have hl2 : l.length = m.length := by simpa using hl
        have h1 := nvl_lt l
        have h2 := nvl_lt m
        rw [nvl_cons, nvl_cons, hl2] at hv
        rw [hl2] at h1
        generalize 256 ^ m.length = q at *
        have hab : a.toNat = b.toNat := by
          rcases Nat.lt_trichotomy a.toNat b.toNat with hab | hab | hab
          · have := Nat.mul_le_mul_right q (show a.toNat + 1 ≤ b.toNat from hab)
            rw [Nat.add_mul] at this
            omega
          · exact hab
          · have := Nat.mul_le_mul_right q (show b.toNat + 1 ≤ a.toNat from hab)
            rw [Nat.add_mul] at this
            omega
        rw [hab] at hv
        rw [UInt8.toNat_inj.1 hab, ih m hl2 (by omega)]
  have e1 : s.toList = s.data.toList := by rw [ByteArray.toList_eq]
  have e2 : t.toList = t.data.toList := by rw [ByteArray.toList_eq]
  rw [e1, e2]
  have := key s.data.toList t.data.toList (by simpa using h) hv
  simp [this]

set_option maxRecDepth 100000 in
set_option maxHeartbeats 1000000 in
theorem r01_Cmp (a b : ByteArray) (ha : a.size ≤ 4294967296) (hb : b.size ≤ 4294967296) (w : World) : Calls Tryz.prog 135 #[.string a, .string b] w (fun e w' => e = .returned (.int .i64 (cmpN (nval a) (nval b))) ∧ w = w') := by
  go_enter Tryz.func135, Tryz.ntmps135
  go_wp2_with fail
  refine (r01_Canon a ha _).mono ?_
  rintro e1 w1 ⟨r, ⟨rfl, rfl⟩, hv, hc, hsz⟩
  have HV := Lib.hid hv
  have HC := Lib.hid hc
  have hr : r.size ≤ 4294967296 := by omega
  clear hv hc hsz
  go_wp2_with fail
  refine (r01_Canon b hb _).mono ?_
  rintro e2 w2 ⟨s, ⟨rfl, rfl⟩, hv2, hc2, hsz2⟩
  have HV2 := Lib.hid hv2
  have HC2 := Lib.hid hc2
  have hs : s.size ≤ 4294967296 := by omega
  clear hv2 hc2 hsz2
  rcases Nat.lt_trichotomy r.size s.size with hlt | heq | hgt
  · have HF := Lib.hid (show cmpN (nval a) (nval b) = -1 by
      rw [← HV.out, ← HV2.out]
      unfold cmpN
      rw [if_pos]
      have h1 := (can_size HC.out (k := r.size)).1 (Nat.le_refl _)
      have h2 := (can_size HC2.out (k := r.size))
      omega)
    have hne : ((r.size : Int) != (s.size : Int)) = true := by rw [bne_iff_ne]; omega
    go_wp2
    go_ret
    exact ⟨by rw [HF.out]; rfl, rfl⟩
  · have hne : ((r.size : Int) != (s.size : Int)) = false := by rw [bne_eq_false_iff_eq]; omega
    have HEQ := Lib.hid heq
    have hl := less_nvl r.toList s.toList (by rw [ByteArray.toList_eq, ByteArray.toList_eq]; simpa using heq)
    rw [ByteArray.toList_eq, ByteArray.toList_eq] at hl
    have hl2 : Op.bytesLess r.toList s.toList = decide (nval r < nval s) := by rw [ByteArray.toList_eq, ByteArray.toList_eq]; exact hl
    by_cases h1 : nval r < nval s
    · have HF := Lib.hid (show cmpN (nval a) (nval b) = -1 by rw [← HV.out, ← HV2.out]; unfold cmpN; rw [if_pos h1])
      have hb1 : Op.bytesLess r.toList s.toList = true := by rw [hl2]; simpa using h1
      clear hl hl2 heq h1
      go_wp2
      go_ret
      exact ⟨by rw [HF.out]; rfl, rfl⟩
    · have hb1 : Op.bytesLess r.toList s.toList = false := by rw [hl2]; simpa using h1
      by_cases h2 : nval s < nval r
      · have HF := Lib.hid (show cmpN (nval a) (nval b) = 1 by rw [← HV.out, ← HV2.out]; unfold cmpN; rw [if_neg h1, if_pos h2])
        have hb2 : (r.toList == s.toList) = false := by
          rw [beq_eq_false_iff_ne]
          intro e
          have : nval r = nval s := by unfold nval; rw [← ByteArray.toList_eq, ← ByteArray.toList_eq, e]
          omega
        clear hl hl2 heq h1 h2
        go_wp2
        go_ret
        exact ⟨by rw [HF.out]; rfl, rfl⟩
      · have HF := Lib.hid (show cmpN (nval a) (nval b) = 0 by rw [← HV.out, ← HV2.out]; unfold cmpN; rw [if_neg h1, if_neg h2])
        have hb2 := nval_eq_of heq (by omega)
        clear hl hl2 heq h1 h2
        go_wp2
        go_ret
        exact ⟨by rw [HF.out]; rfl, rfl⟩
  · have HF := Lib.hid (show cmpN (nval a) (nval b) = 1 by
      rw [← HV.out, ← HV2.out]
      unfold cmpN
      have h1 := (can_size HC2.out (k := s.size)).1 (Nat.le_refl _)
      have h2 := (can_size HC.out (k := s.size))
      rw [if_neg (by omega), if_pos (by omega)])
    have hne : ((r.size : Int) != (s.size : Int)) = true := by rw [bne_iff_ne]; omega
    go_wp2
    go_ret
    exact ⟨by rw [HF.out]; rfl, rfl⟩
end Go.Proofs.YtcmmkeiiapbgcaaGreatDoor
/- The reference's Sub and Add of numbers of any size. Conditions: bounds on sizes. -/
namespace Go.Proofs.YtcmmkeiiapbgcaaGreatDoor
open Go Go.RowKit

theorem dig_len {l : List Nat} (h : trd l) (hv : dval l < 256 ^ 60) : l.length ≤ 20 := by
  rcases Nat.lt_or_ge 20 l.length with h1 | h1
  · have h2 := dval_ge h (by intro e; rw [e] at h1; simp at h1)
    have h3 : 16777216 ^ 20 ≤ 16777216 ^ (l.length - 1) := Nat.pow_le_pow_right (by decide) (by omega)
    have h4 : (16777216 : Nat) ^ 20 = 256 ^ 60 := by rw [pow24]
    omega
  · exact h1
def RetS (w : World) (n : Nat) (e : Ending) (w' : World) : Prop := ∃ r, e = .returned (.tuple #[.string r, .bool true]) ∧ isN r n ∧ Ext w w'
set_option maxRecDepth 100000 in
set_option maxHeartbeats 1000000 in
theorem r01_Sub (a b : ByteArray) (ha : a.size ≤ 4294967296) (hb : b.size ≤ 4294967296) (hle : nval b ≤ nval a) (hlt : nval a < 256 ^ 60) (w : World) : Calls Tryz.prog 136 #[.string a, .string b] w (RetS w (nval a - nval b)) := by
  have hcm : ¬ cmpN (nval a) (nval b) < 0 := by unfold cmpN; split; omega; split <;> omega
  have HLE := Lib.hid hle
  have HLT := Lib.hid hlt
  clear hle hlt
  go_enter Tryz.func136, Tryz.ntmps136
  go_wp2_with fail
  refine (r01_Cmp a b ha hb _).mono ?_
  rintro e1 w1 ⟨rfl, rfl⟩
  go_wp2_with fail
  refine (r01_of a ha _).mono ?_
  rintro e1 w1 ⟨A1, c1, l1, rfl, hv1, hd1, ht1, hc1, hi1, hx1⟩
  have HI1 := Lib.hid hi1
  have HV1 := Lib.hid hv1
  have HD1 := Lib.hid hd1
  have HT1 := Lib.hid ht1
  have HX1 := Lib.hid hx1
  clear hi1 hv1 hd1 ht1 hx1
  go_wp2_with fail
  refine (r01_of b hb _).mono ?_
  rintro e2 w2 ⟨A2, c2, l2, rfl, hv2, hd2, ht2, hc2, hi2, hx2⟩
  have HI2 := Lib.hid hi2
  have HV2 := Lib.hid hv2
  have HD2 := Lib.hid hd2
  have HT2 := Lib.hid ht2
  have HX2 := Lib.hid (HX1.out.trans hx2)
  have HI1b := Lib.hid (HI1.out.keep (hx2.kept _))
  clear hi2 hv2 hd2 ht2 hx2
  go_wp2_with fail
  refine (r01_minus l1 l2 A1 A2 c1 c2 _ _ _ HI1b.out HI2.out HD1.out HD2.out HT2.out (by rw [HV1.out, HV2.out]; exact HLE.out)).mono ?_
  rintro e3 w3 ⟨A3, c3, l3, rfl, hv3, hd3, ht3, hc3, hi3, hx3⟩
  have HI3 := Lib.hid hi3
  have HV3 := Lib.hid (show dval l3 = nval a - nval b by rw [hv3, HV1.out, HV2.out])
  have HD3 := Lib.hid hd3
  have HX3 := Lib.hid (HX2.out.trans hx3)
  have hl3 := dig_len ht3 (by rw [HV3.out]; exact Nat.lt_of_le_of_lt (Nat.sub_le _ _) HLT.out)
  clear hi3 hv3 hd3 ht3 hx3
  go_wp2_with fail
  refine (r01_number l3 A3 c3 _ _ HI3.out HD3.out (by omega)).mono ?_
  rintro e4 w4 ⟨r, rfl, h1, h2, h3, hx4⟩
  have H1 := Lib.hid (show isN r (nval a - nval b) from ⟨h1.trans HV3.out, h2, h3⟩)
  have HX4 := Lib.hid (HX3.out.trans hx4)
  clear h1 h2 h3 hx4
  go_wp2
  refine bodyPost_ret (v := .tuple #[.string r, .bool true]) (by simp [results, Tryz.results136, go_sem]) rfl ⟨r, rfl, H1.out, HX4.out⟩

/-- The first k digits of a sum. -/
structure AddI (u v m : List Nat) (k cy : Nat) : Prop where
  len : m.length = k
  eq : dval (u.take k) + dval (v.take k) = dval m + cy * 16777216 ^ k
  ds : dgs m
  bit : cy ≤ 1
  fin : max u.length v.length < k → cy = 0
theorem AddI.step {u v m : List Nat} {k cy : Nat} (h : AddI u v m k cy) (hu : dgs u) (hv : dgs v) {s : Nat} (hs : s = cy + u.getD k 0 + v.getD k 0) : AddI u v (m ++ [s % 16777216]) (k + 1) (s / 16777216) := by
  have h1 := dgs_getD hu k
  have h2 := dgs_getD hv k
  have h3 := h.bit
  refine ⟨by simp [h.len], ?_, dgs_snoc h.ds (Nat.mod_lt _ (by decide)), by omega, fun hk => ?_⟩
  · rw [dval_take, dval_take, dval_snoc, h.len, Nat.pow_succ]
    have h4 := h.eq
    have e : s = 16777216 * (s / 16777216) + s % 16777216 := (Nat.div_add_mod _ _).symm
    have e2 : 16777216 ^ k * s = cy * 16777216 ^ k + 16777216 ^ k * u.getD k 0 + 16777216 ^ k * v.getD k 0 := by rw [hs, Nat.mul_add, Nat.mul_add, Nat.mul_comm _ cy]
    have e3 : 16777216 ^ k * s = s / 16777216 * (16777216 ^ k * 16777216) + 16777216 ^ k * (s % 16777216) := by
      rw [Nat.mul_comm (s / 16777216), Nat.mul_assoc, ← Nat.mul_add, ← e]
    omega
  · have e1 : u.getD k 0 = 0 := by rw [List.getD_eq_getElem?_getD, List.getElem?_eq_none (by omega)]; rfl
    have e2 : v.getD k 0 = 0 := by rw [List.getD_eq_getElem?_getD, List.getElem?_eq_none (by omega)]; rfl
    rw [e1, e2] at hs
    omega
set_option maxRecDepth 100000 in
set_option maxHeartbeats 4000000 in
theorem r01_Add_big (a b : ByteArray) (ha : a.size ≤ 4294967296) (hb : b.size ≤ 4294967296) (hal : nval a < 256 ^ 59) (hbl : nval b < 256 ^ 59) (hbig : ¬ (nval a < 256 ^ 7 ∧ nval b < 256 ^ 7)) (w : World) : Calls Tryz.prog 134 #[.string a, .string b] w (RetT w (nval a + nval b)) := by
  have HBIG := Lib.hid hbig
  obtain ⟨x1, p1, hs1⟩ : ∃ (x1 : Int) (p1 : Bool), smallR a 7 = .returned (.tuple #[.int .i64 x1, .bool p1]) ∧ p1 = decide (nval a < 256 ^ 7) := ⟨_, _, rfl, rfl⟩
  obtain ⟨x2, p2, hs2⟩ : ∃ (x2 : Int) (p2 : Bool), smallR b 7 = .returned (.tuple #[.int .i64 x2, .bool p2]) ∧ p2 = decide (nval b < 256 ^ 7) := ⟨_, _, rfl, rfl⟩
  have HS1 := Lib.hid hs1.1
  have HS2 := Lib.hid hs2.1
  have hpp : p1 = false ∨ (p1 = true ∧ p2 = false) := by
    cases h1 : p1
    · exact .inl rfl
    · cases h2 : p2
      · exact .inr ⟨rfl, rfl⟩
      · exact absurd ⟨of_decide_eq_true (hs1.2.symm.trans h1), of_decide_eq_true (hs2.2.symm.trans h2)⟩ hbig
  have HAL := Lib.hid hal
  have HBL := Lib.hid hbl
  clear hbig hs1 hs2 hal hbl
  have main : ∀ (pp1 pp2 : Bool), p1 = pp1 → p2 = pp2 → (pp1 = false ∨ (pp1 = true ∧ pp2 = false)) → Calls Tryz.prog 134 #[.string a, .string b] w (RetT w (nval a + nval b)) := by
    intro pp1 pp2 e1 e2 hpp
    rw [e1] at HS1
    rw [e2] at HS2
    clear e1 e2
    go_enter Tryz.func134, Tryz.ntmps134
    go_wp2_with fail
    refine (r01_small a ha 7 (by omega) _).mono ?_
    rintro e1 w1 ⟨he, rfl⟩
    rw [HS1.out] at he
    subst he
    go_wp2_with fail
    refine (r01_small b hb 7 (by omega) _).mono ?_
    rintro e1 w1 ⟨he, rfl⟩
    rw [HS2.out] at he
    subst he
    have hif : ∃ z : Bool, z = false ∧ (pp1 && pp2) = z := by
      rcases hpp with rfl | ⟨rfl, rfl⟩ <;> exact ⟨false, rfl, rfl⟩
    rcases hpp with rfl | ⟨rfl, rfl⟩
    all_goals
      clear hif
      go_wp2_with fail
      refine (r01_of a ha _).mono ?_
      rintro e1 w1 ⟨A1, c1, u, rfl, hv1, hd1, ht1, hc1, hi1, hx1⟩
      have hul := dig_len ht1 (by rw [hv1]; exact Nat.lt_trans HAL.out (Nat.pow_lt_pow_right (by decide) (by decide)))
      have HU := Lib.hid hi1
      have HV1 := Lib.hid hv1
      have HDU := Lib.hid hd1
      have HX1 := Lib.hid hx1
      clear hi1 hv1 hd1 ht1 hx1
      go_wp2_with fail
      refine (r01_of b hb _).mono ?_
      rintro e2 w2 ⟨A2, c2, v, rfl, hv2, hd2, ht2, hc2, hi2, hx2⟩
      have hvl := dig_len ht2 (by rw [hv2]; exact Nat.lt_trans HBL.out (Nat.pow_lt_pow_right (by decide) (by decide)))
      have HV := Lib.hid hi2
      have HV2 := Lib.hid hv2
      have HDV := Lib.hid hd2
      have HX2 := Lib.hid (HX1.out.trans hx2)
      have HUb := Lib.hid (HU.out.keep (hx2.kept _))
      clear hi2 hv2 hd2 ht2 hx2 HU HX1
      go_wp2
      go_loopw [11, 12, 13] (fun o c i wr => ∃ (k : Nat) (A' : Option Addr) (c' cy : Nat) (m : List Nat), k ≤ max u.length v.length + 1 ∧ AddI u v m k cy ∧ o = .slice A' k c' ∧ c = .int .i64 (cy : Int) ∧ i = .int .i64 (k : Int) ∧ Ext w2 wr ∧ Own wr w2.heap.size 3 1 A' k c' ((nums m).map (Value.int .i64))) (fun _ _ i _ => max u.length v.length + 1 - (intOf i).toNat)
      case atStart => exact ⟨0, none, 0, 0, [], Nat.zero_le _, ⟨rfl, by simp [dval], by simp [dgs], by omega, fun _ => rfl⟩, rfl, rfl, rfl, Ext.refl _, Own.nil _ _ _ _⟩
      case round =>
        obtain ⟨k, A', c', cy, m, hk, hmi, rfl, rfl, rfl, hx, ho⟩ := hrel
        have HX := Lib.hid hx
        have HO := Lib.hid ho
        have HM := Lib.hid hmi
        have hcy := hmi.bit
        have hfin := hmi.fin
        have hsz := hx.size
        have hkk : k ≤ 21 := by omega
        obtain ⟨d1, hd1⟩ : ∃ d1, d1 = u.getD k 0 := ⟨_, rfl⟩
        obtain ⟨d2, hd2⟩ : ∃ d2, d2 = v.getD k 0 := ⟨_, rfl⟩
        have hl1 : d1 < 16777216 := by rw [hd1]; exact dgs_getD HDU.out k
        have hl2 : d2 < 16777216 := by rw [hd2]; exact dgs_getD HDV.out k
        have HD1 := Lib.hid hd1
        have HD2 := Lib.hid hd2
        clear hx ho hmi
        by_cases hku : k < u.length
        · obtain ⟨b1, o1, hA, hb1, hc1⟩ := ints_cell (HUb.out.keep (HX.out.kept _)) hku
          subst hA
          rw [← hd1] at hc1
          by_cases hkv : k < v.length
          · obtain ⟨b2, o2, hB, hb2, hc2⟩ := ints_cell (HV.out.keep (HX.out.kept _)) hkv
            subst hB
            rw [← hd2] at hc2
            clear hd1 hd2
            have HST := Lib.hid (HM.out.step HDU.out HDV.out (s := cy + d1 + d2) (by have e1 := HD1.out; have e2 := HD2.out; omega))
            go_wp2_with (at_builtin; go_must (refine wpList_app rfl (.tmp 74) (.tmp 77) rfl tiI rfl (HO.out.ext ((Ext.refl wr).alloc _)) rfl (Blk.rd (Blk.new _ _ _)) rfl (by simp [Value.oneCell']) (by omega) (by decide) (by simp; omega) ?_); intro A4 c4 w4 hown4 hg4 hat4)
            go_roundw
            case rel =>
              refine ⟨k + 1, A4, c4, _, _, by omega, HST.out, rfl, by go_num, by go_num, (HX.out.alloc _).grown hg4 fun b hb => (HO.out.blk hb).1, ?_⟩
              rw [nums_snoc]
              simpa using hown4
            case measure => simp [intOf]; omega
          · have h20 : d2 = 0 := by rw [hd2, List.getD_eq_getElem?_getD, List.getElem?_eq_none (by omega)]; rfl
            subst h20
            clear hd1 hd2
            have HST := Lib.hid (HM.out.step HDU.out HDV.out (s := cy + d1 + 0) (by have e1 := HD1.out; have e2 := HD2.out; omega))
            go_wp2_with (at_builtin; go_must (refine wpList_app rfl (.tmp 74) (.tmp 77) rfl tiI rfl (HO.out.ext ((Ext.refl wr).alloc _)) rfl (Blk.rd (Blk.new _ _ _)) rfl (by simp [Value.oneCell']) (by omega) (by decide) (by simp; omega) ?_); intro A4 c4 w4 hown4 hg4 hat4)
            go_roundw
            case rel =>
              refine ⟨k + 1, A4, c4, _, _, by omega, HST.out, rfl, by go_num, by go_num, (HX.out.alloc _).grown hg4 fun b hb => (HO.out.blk hb).1, ?_⟩
              rw [nums_snoc]
              simpa using hown4
            case measure => simp [intOf]; omega
        · have h10 : d1 = 0 := by rw [hd1, List.getD_eq_getElem?_getD, List.getElem?_eq_none (by omega)]; rfl
          subst h10
          by_cases hkv : k < v.length
          · obtain ⟨b2, o2, hB, hb2, hc2⟩ := ints_cell (HV.out.keep (HX.out.kept _)) hkv
            subst hB
            rw [← hd2] at hc2
            clear hd1 hd2
            have HST := Lib.hid (HM.out.step HDU.out HDV.out (s := cy + 0 + d2) (by have e1 := HD1.out; have e2 := HD2.out; omega))
            go_wp2_with (at_builtin; go_must (refine wpList_app rfl (.tmp 74) (.tmp 77) rfl tiI rfl (HO.out.ext ((Ext.refl wr).alloc _)) rfl (Blk.rd (Blk.new _ _ _)) rfl (by simp [Value.oneCell']) (by omega) (by decide) (by simp; omega) ?_); intro A4 c4 w4 hown4 hg4 hat4)
            go_roundw
            case rel =>
              refine ⟨k + 1, A4, c4, _, _, by omega, HST.out, rfl, by go_num, by go_num, (HX.out.alloc _).grown hg4 fun b hb => (HO.out.blk hb).1, ?_⟩
              rw [nums_snoc]
              simpa using hown4
            case measure => simp [intOf]; omega
          · have h20 : d2 = 0 := by rw [hd2, List.getD_eq_getElem?_getD, List.getElem?_eq_none (by omega)]; rfl
            subst h20
            clear hd1 hd2
            by_cases hc0 : 0 < cy
            · have hkm : k < max u.length v.length + 1 := by omega
              clear hfin
              have HST := Lib.hid (HM.out.step HDU.out HDV.out (s := cy + 0 + 0) (by have e1 := HD1.out; have e2 := HD2.out; omega))
              go_wp2_with (at_builtin; go_must (refine wpList_app rfl (.tmp 74) (.tmp 77) rfl tiI rfl (HO.out.ext ((Ext.refl wr).alloc _)) rfl (Blk.rd (Blk.new _ _ _)) rfl (by simp [Value.oneCell']) (by omega) (by decide) (by simp; omega) ?_); intro A4 c4 w4 hown4 hg4 hat4)
              go_roundw
              case rel =>
                refine ⟨k + 1, A4, c4, _, _, by omega, HST.out, rfl, by go_num, by go_num, (HX.out.alloc _).grown hg4 fun b hb => (HO.out.blk hb).1, ?_⟩
                rw [nums_snoc]
                simpa using hown4
              case measure => simp [intOf]; omega
            · obtain rfl : cy = 0 := by omega
              have hv : dval m = nval a + nval b := by
                have := HM.out.eq
                rw [List.take_of_length_le (by omega), List.take_of_length_le (by omega), HV1.out, HV2.out] at this
                omega
              have hml := HM.out.len
              have HR := Lib.hid (OwnIs.read (l := m) (by rw [hml]; exact HO.out) (by omega) (T := fun b => w2.heap.size ≤ b) fun _ h => h)
              have HF := Lib.hid hv
              have HD := Lib.hid HM.out.ds
              have HE := Lib.hid (HX2.out.trans HX.out)
              have hku2 : ¬ (k : Int) < (u.length : Int) := by omega
              have hkv2 : ¬ (k : Int) < (v.length : Int) := by omega
              obtain rfl := hml
              clear hv hfin
              go_wp2_with fail
              refine (r01_number m A' c' _ _ HR.out HD.out (by omega)).mono ?_
              rintro e4 w4 ⟨r, rfl, h1, h2, h3, hx4⟩
              have H1 := Lib.hid (h1.trans HF.out)
              have H2 := Lib.hid h2
              have HX4 := Lib.hid (HE.out.trans hx4)
              clear h1 h2 hx4
              go_wp2
              go_ret
              exact ⟨r, rfl, H1.out, H2.out, h3, HX4.out⟩
  exact main p1 p2 rfl rfl hpp
end Go.Proofs.YtcmmkeiiapbgcaaGreatDoor
