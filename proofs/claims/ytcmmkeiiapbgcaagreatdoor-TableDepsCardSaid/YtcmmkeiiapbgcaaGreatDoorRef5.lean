/- table.Implies and the reference's Implies. Conditions: the arguments read as data, and are few. -/
import Derived.Test.YtcmmkeiiapbgcaaGreatDoorRef3
import Derived.Test.YtcmmkeiiapbgcaaGreatDoorLin3
namespace Go.Proofs.YtcmmkeiiapbgcaaGreatDoor
open Go Go.RowKit

noncomputable def impB (l : List Dep) (frm : List ByteArray) (x : ByteArray) : Bool := @decide (∀ T : ByteArray → Prop, (∀ y ∈ frm, T y) → (∀ d ∈ l, (∀ y ∈ d.frm, T y) → T d.to) → T x) (Classical.propDecidable _)
theorem impB_iff {l : List Dep} {frm ks : List ByteArray} (h : IsClosure l frm ks) (x : ByteArray) : impB l frm x = true ↔ x ∈ ks := by
  unfold impB
  refine (@decide_eq_true_iff _ (Classical.propDecidable _)).trans ?_
  exact ⟨fun hx => hx (· ∈ ks) h.base h.closed, fun hx T h1 h2 => h.least T h1 h2 x hx⟩
theorem imp_mem {l : List Dep} {frm ks : List ByteArray} (h : IsClosure l frm ks) (x : ByteArray) : memS ks x = impB l frm x := by
  rw [Bool.eq_iff_iff, impB_iff h, memS_iff]
theorem imp_sort {l : List Dep} {frm ks : List ByteArray} (h : IsClosure l frm ks) (x : ByteArray) : memS (sortS ks) x = impB l frm x := by
  rw [Bool.eq_iff_iff, impB_iff h, memS_iff, mem_sortS]
noncomputable def vMp (g : Nat) (l : List Dep) (frm : List ByteArray) (x : ByteArray) (A : Option Addr) (ca : Nat) (C : Option Addr) (cc : Nat) : Nat → Value
  | 0 => .slice A l.length ca
  | 1 => .pointer (some ⟨g, 0, none⟩)
  | 2 => .slice C frm.length cc
  | 4 => .pointer (some ⟨g, 1, none⟩)
  | 5 => .string x
  | 6 => .bool (impB l frm x)
  | 7 => .bool (impB l frm x)
  | _ => undef
def gMp (g : Nat) (l : List Dep) (frm : List ByteArray) (x : ByteArray) (A : Option Addr) (ca : Nat) (C : Option Addr) (cc : Nat) (ix : Nat) (vl : List Value) (γ : Gh) (w' : World) : Prop := match vl with
  | [v] => if ix = 3 then (∃ (ks : List ByteArray) (A' : Option Addr) (c' : Nat), IsClosure l frm ks ∧ v = .slice A' (sortS ks).length c' ∧ Strs w' (Free γ) A' (sortS ks)) else v = vMp g l frm x A ca C cc ix
  | _ => True
theorem gMp_st (g : Nat) (l : List Dep) (frm : List ByteArray) (x : ByteArray) (A : Option Addr) (ca : Nat) (C : Option Addr) (cc : Nat) : ∀ ix vl γ w γ' w', LR γ w γ' w' → gMp g l frm x A ca C cc ix vl γ w → gMp g l frm x A ca C cc ix vl γ' w' := by
  intro ix vl γ w γ' w' r h
  match vl, h with
  | [v], h =>
    unfold gMp at h ⊢
    by_cases h3 : ix = 3
    · simp only [if_pos h3] at h ⊢
      obtain ⟨ks, a, b, h0, h1, h2⟩ := h
      exact ⟨ks, a, b, h0, h1, r.strs h2⟩
    simp only [if_neg h3] at h ⊢
    exact h
  | [], _ => trivial
  | _ :: _ :: _, _ => trivial
set_option maxRecDepth 100000 in
set_option maxHeartbeats 1000000 in
theorem table_Implies (l : List Dep) (frm : List ByteArray) (x : ByteArray) (A C : Option Addr) (ca cc : Nat) (w : World) (S T : Nat → Prop) (hA : RDeps w S A l) (hC : Strs w T C frm) (hsm : frm.length + l.length ≤ 100000) :
    Calls Tryz.prog 28 #[.slice A l.length ca, .agg #[.slice C frm.length cc, .string x]] w (RetB w (impB l frm x)) := by
  obtain ⟨w1, hw1⟩ : ∃ w1, w1 = w.alloc (.cells #[.slice C frm.length cc, .string x] 52) := ⟨_, rfl⟩
  have hx1 : Ext w w1 := by rw [hw1]; exact (Ext.refl _).alloc _
  have HX1 := Lib.hid hx1
  have HA := Lib.hid (hA.keep (hx1.kept _))
  have HC := Lib.hid (hC.keep (hx1.kept _))
  have HG := Lib.hid (show Blk w1 w.heap.size 52 #[.slice C frm.length cc, .string x] by rw [hw1]; exact Blk.new _ _ _)
  have HW1 := Lib.hid hw1
  clear hA hC hx1 hw1
  go_enter Tryz.func28, Tryz.ntmps28
  go_upto_region 1 with fail
  rw [← HW1.out]
  obtain ⟨g, hg⟩ : ∃ g, g = w.heap.size := ⟨_, rfl⟩
  rw [← hg] at HG
  rw [← hg]
  clear HW1 hg
  refine wp_region_lin_lit (by kernel_rfl) (fun i => [i]) (by kernel_rfl) LR LR.refl LR.trans (LN (al0)) (gMp g l frm x A ca C cc) (gMp_st _ _ _ _ _ _ _ _) gh0 (LN.zero _) ⟨?_, ?_, ?_, ?_, ?_, ?_, ?_, ?_, trivial⟩ ?_
  · refine LinStep.yes fun vals γ w' ρ hR hN hp hρ hc hf hg => ⟨rfl, ?_⟩
    have e0 : ρ (.tmp 0) = .slice A l.length ca := hρ 0
    have hx := hR.drew_ext
    have HR := Lib.hid hR
    have HN := Lib.hid hN
    clear hR hN hp hρ hx
    go_light
    go_simp
    exact ⟨γ, LR.refl _ _, fun _ _ _ h => h, rfl⟩
  · refine LinStep.yes fun vals γ w' ρ hR hN hp hρ hc hf hg => ⟨rfl, ?_⟩
    have e3 : ρ (.tmp 3) = .pointer (some ⟨g, 0, none⟩) := hρ 3
    have hx := hR.drew_ext
    have HR := Lib.hid hR
    have HN := Lib.hid hN
    clear hR hN hp hρ hx
    go_light
    go_simp
    exact ⟨γ, LR.refl _ _, fun _ _ _ h => h, rfl⟩
  · refine LinStep.yes fun vals γ w' ρ hR hN hp hρ hc hf hg => ⟨rfl, ?_⟩
    have e6 : ρ (.tmp 6) = .pointer (some ⟨g, 0, none⟩) := (hρ 6).trans (hp 1 (by decide))
    have hx := hR.drew_ext
    have c0 := (HG.out.keep (hx.kept _)).cell (i := 0) rfl
    have HR := Lib.hid hR
    have HN := Lib.hid hN
    clear hR hN hp hρ hx
    go_light
    go_simp
    exact ⟨γ, LR.refl _ _, fun _ _ _ h => h, rfl⟩
  · refine LinStep.yes fun vals γ w' ρ hR hN hp hρ hc hf hg => ⟨rfl, ?_⟩
    have e5 : ρ (.tmp 5) = .slice A l.length ca := (hρ 5).trans (hp 0 (by decide))
    have e7 : ρ (.tmp 7) = .slice C frm.length cc := (hρ 7).trans (hp 2 (by decide))
    have hx := hR.drew_ext
    have HR := Lib.hid hR
    have HN := Lib.hid hN
    clear hR hN hp hρ hx
    go_light
    go_simp
    refine (table_Closure l frm A C ca cc _ _ _ (HA.out.keep (HR.out.drew_ext.kept _)) (HC.out.keep (HR.out.drew_ext.kept _)) (by omega)).mono ?_
    rintro e' w3 ⟨ks, hks, A3, c3, he, hc3, hs3, hx3⟩
    refine ⟨_, he, γ, LR.of_ext γ hx3, fun _ _ _ h => h, ks, A3, c3, hks, rfl, hs3.mono fun b _ hb => ?_⟩
    rintro ⟨k', hk'⟩
    have := HR.out.inb0 k' _ hk'
    unfold Fresh at hb
    omega
  · refine LinStep.yes fun vals γ w' ρ hR hN hp hρ hc hf hg => ⟨rfl, ?_⟩
    have e3 : ρ (.tmp 3) = .pointer (some ⟨g, 0, none⟩) := hρ 3
    have hx := hR.drew_ext
    have HR := Lib.hid hR
    have HN := Lib.hid hN
    clear hR hN hp hρ hx
    go_light
    go_simp
    exact ⟨γ, LR.refl _ _, fun _ _ _ h => h, rfl⟩
  · refine LinStep.yes fun vals γ w' ρ hR hN hp hρ hc hf hg => ⟨rfl, ?_⟩
    have e9 : ρ (.tmp 9) = .pointer (some ⟨g, 1, none⟩) := (hρ 9).trans (hp 4 (by decide))
    have hx := hR.drew_ext
    have c1 := (HG.out.keep (hx.kept _)).cell (i := 1) rfl
    have HR := Lib.hid hR
    have HN := Lib.hid hN
    clear hR hN hp hρ hx
    go_light
    go_simp
    exact ⟨γ, LR.refl _ _, fun _ _ _ h => h, rfl⟩
  · refine LinStep.yes fun vals γ w' ρ hR hN hp hρ hc hf hg => ⟨rfl, ?_⟩
    obtain ⟨ks, A3, c3, hks, hv3, hs3⟩ := hp 3 (by decide)
    have e8 : ρ (.tmp 8) = _ := (hρ 8).trans hv3
    have HKS := Lib.hid hks
    have HS3 := Lib.hid hs3
    clear hks hv3 hs3
    have e10 : ρ (.tmp 10) = .string x := (hρ 10).trans (hp 5 (by decide))
    have hx := hR.drew_ext
    have HR := Lib.hid hR
    have HN := Lib.hid hN
    clear hR hN hp hρ hx
    go_light
    go_simp
    refine (slices_Contains A3 c3 (sortS ks) x _ _ HS3.out).mono ?_
    rintro e' w3 ⟨he, rfl⟩
    rw [imp_sort HKS.out] at he
    exact ⟨_, he, γ, LR.refl _ _, fun _ _ _ h => h, rfl⟩
  · refine LinStep.yes fun vals γ w' ρ hR hN hp hρ hc hf hg => ⟨rfl, ?_⟩
    have e11 : ρ (.tmp 11) = .bool (impB l frm x) := (hρ 11).trans (hp 6 (by decide))
    have hx := hR.drew_ext
    have HR := Lib.hid hR
    have HN := Lib.hid hN
    clear hR hN hp hρ hx
    go_light
    go_simp
    exact ⟨γ, LR.refl _ _, fun _ _ _ h => h, rfl⟩
  · intro vals γ w' hR hG
    have hz : vals 7 = .bool (impB l frm x) := hG 7 (by decide)
    have HX := Lib.hid (HX1.out.trans hR.drew_ext)
    clear hR hG
    simp only [lexFrame, Act.put, List.setIfInBounds_toArray, List.set_cons_succ, List.set_cons_zero, Nat.zero_add, Nat.reduceAdd, hz]
    clear hz
    go_wp2
    go_ret
    exact ⟨rfl, HX.out⟩
noncomputable def vMr (g : Nat) (l : List Dep) (frm : List ByteArray) (x : ByteArray) (A : Option Addr) (ca : Nat) (C : Option Addr) (cc : Nat) : Nat → Value
  | 0 => .slice A l.length ca
  | 1 => .pointer (some ⟨g, 0, none⟩)
  | 2 => .slice C frm.length cc
  | 4 => .pointer (some ⟨g, 1, none⟩)
  | 5 => .string x
  | 7 => .bool (impB l frm x)
  | 8 => .bool (impB l frm x)
  | _ => undef
def gMr (g : Nat) (l : List Dep) (frm : List ByteArray) (x : ByteArray) (A : Option Addr) (ca : Nat) (C : Option Addr) (cc : Nat) (ix : Nat) (vl : List Value) (γ : Gh) (w' : World) : Prop := match vl with
  | [v] => if ix = 3 then (∃ (ks : List ByteArray) (A' : Option Addr) (c' : Nat), IsClosure l frm ks ∧ v = .slice A' ks.length c' ∧ Strs w' (Free γ) A' ks) else if ix = 6 then (∃ n : Int, v = .int .i64 n ∧ decide (0 ≤ n) = impB l frm x) else v = vMr g l frm x A ca C cc ix
  | _ => True
theorem gMr_st (g : Nat) (l : List Dep) (frm : List ByteArray) (x : ByteArray) (A : Option Addr) (ca : Nat) (C : Option Addr) (cc : Nat) : ∀ ix vl γ w γ' w', LR γ w γ' w' → gMr g l frm x A ca C cc ix vl γ w → gMr g l frm x A ca C cc ix vl γ' w' := by
  intro ix vl γ w γ' w' r h
  match vl, h with
  | [v], h =>
    unfold gMr at h ⊢
    by_cases h3 : ix = 3
    · simp only [if_pos h3] at h ⊢
      obtain ⟨ks, a, b, h0, h1, h2⟩ := h
      exact ⟨ks, a, b, h0, h1, r.strs h2⟩
    simp only [if_neg h3] at h ⊢
    by_cases h6 : ix = 6
    · simp only [if_pos h6] at h ⊢
      exact h
    simp only [if_neg h6] at h ⊢
    exact h
  | [], _ => trivial
  | _ :: _ :: _, _ => trivial
set_option maxRecDepth 100000 in
set_option maxHeartbeats 1000000 in
theorem r09_Implies (l : List Dep) (frm : List ByteArray) (x : ByteArray) (A C : Option Addr) (ca cc : Nat) (w : World) (S T : Nat → Prop) (hA : RDeps w S A l) (hC : Strs w T C frm) (hsm : frm.length + l.length ≤ 100000) :
    Calls Tryz.prog 29 #[.slice A l.length ca, .agg #[.slice C frm.length cc, .string x]] w (RetB w (impB l frm x)) := by
  obtain ⟨w1, hw1⟩ : ∃ w1, w1 = w.alloc (.cells #[.slice C frm.length cc, .string x] 52) := ⟨_, rfl⟩
  have hx1 : Ext w w1 := by rw [hw1]; exact (Ext.refl _).alloc _
  have HX1 := Lib.hid hx1
  have HA := Lib.hid (hA.keep (hx1.kept _))
  have HC := Lib.hid (hC.keep (hx1.kept _))
  have HG := Lib.hid (show Blk w1 w.heap.size 52 #[.slice C frm.length cc, .string x] by rw [hw1]; exact Blk.new _ _ _)
  have HW1 := Lib.hid hw1
  clear hA hC hx1 hw1
  go_enter Tryz.func29, Tryz.ntmps29
  go_upto_region 1 with fail
  rw [← HW1.out]
  obtain ⟨g, hg⟩ : ∃ g, g = w.heap.size := ⟨_, rfl⟩
  rw [← hg] at HG
  rw [← hg]
  clear HW1 hg
  refine wp_region_lin_lit (by kernel_rfl) (fun i => [i]) (by kernel_rfl) LR LR.refl LR.trans (LN (al0)) (gMr g l frm x A ca C cc) (gMr_st _ _ _ _ _ _ _ _) gh0 (LN.zero _) ⟨?_, ?_, ?_, ?_, ?_, ?_, ?_, ?_, ?_, trivial⟩ ?_
  · refine LinStep.yes fun vals γ w' ρ hR hN hp hρ hc hf hg => ⟨rfl, ?_⟩
    have e0 : ρ (.tmp 0) = .slice A l.length ca := hρ 0
    have hx := hR.drew_ext
    have HR := Lib.hid hR
    have HN := Lib.hid hN
    clear hR hN hp hρ hx
    go_light
    go_simp
    exact ⟨γ, LR.refl _ _, fun _ _ _ h => h, rfl⟩
  · refine LinStep.yes fun vals γ w' ρ hR hN hp hρ hc hf hg => ⟨rfl, ?_⟩
    have e3 : ρ (.tmp 3) = .pointer (some ⟨g, 0, none⟩) := hρ 3
    have hx := hR.drew_ext
    have HR := Lib.hid hR
    have HN := Lib.hid hN
    clear hR hN hp hρ hx
    go_light
    go_simp
    exact ⟨γ, LR.refl _ _, fun _ _ _ h => h, rfl⟩
  · refine LinStep.yes fun vals γ w' ρ hR hN hp hρ hc hf hg => ⟨rfl, ?_⟩
    have e6 : ρ (.tmp 6) = .pointer (some ⟨g, 0, none⟩) := (hρ 6).trans (hp 1 (by decide))
    have hx := hR.drew_ext
    have c0 := (HG.out.keep (hx.kept _)).cell (i := 0) rfl
    have HR := Lib.hid hR
    have HN := Lib.hid hN
    clear hR hN hp hρ hx
    go_light
    go_simp
    exact ⟨γ, LR.refl _ _, fun _ _ _ h => h, rfl⟩
  · refine LinStep.yes fun vals γ w' ρ hR hN hp hρ hc hf hg => ⟨rfl, ?_⟩
    have e5 : ρ (.tmp 5) = .slice A l.length ca := (hρ 5).trans (hp 0 (by decide))
    have e7 : ρ (.tmp 7) = .slice C frm.length cc := (hρ 7).trans (hp 2 (by decide))
    have hx := hR.drew_ext
    have HR := Lib.hid hR
    have HN := Lib.hid hN
    clear hR hN hp hρ hx
    go_light
    go_simp
    refine (r09_Closure l frm A C ca cc _ _ _ (HA.out.keep (HR.out.drew_ext.kept _)) (HC.out.keep (HR.out.drew_ext.kept _)) (by omega)).mono ?_
    rintro e' w3 ⟨ks, hks, hss, A3, c3, he, hok3, hs3, hx3⟩
    refine ⟨_, he, γ, LR.of_ext γ hx3, fun _ _ _ h => h, ks, A3, c3, hks, rfl, hs3.mono fun b _ hb => ?_⟩
    rintro ⟨k', hk'⟩
    have := HR.out.inb0 k' _ hk'
    omega
  · refine LinStep.yes fun vals γ w' ρ hR hN hp hρ hc hf hg => ⟨rfl, ?_⟩
    have e3 : ρ (.tmp 3) = .pointer (some ⟨g, 0, none⟩) := hρ 3
    have hx := hR.drew_ext
    have HR := Lib.hid hR
    have HN := Lib.hid hN
    clear hR hN hp hρ hx
    go_light
    go_simp
    exact ⟨γ, LR.refl _ _, fun _ _ _ h => h, rfl⟩
  · refine LinStep.yes fun vals γ w' ρ hR hN hp hρ hc hf hg => ⟨rfl, ?_⟩
    have e9 : ρ (.tmp 9) = .pointer (some ⟨g, 1, none⟩) := (hρ 9).trans (hp 4 (by decide))
    have hx := hR.drew_ext
    have c1 := (HG.out.keep (hx.kept _)).cell (i := 1) rfl
    have HR := Lib.hid hR
    have HN := Lib.hid hN
    clear hR hN hp hρ hx
    go_light
    go_simp
    exact ⟨γ, LR.refl _ _, fun _ _ _ h => h, rfl⟩
  · refine LinStep.yes fun vals γ w' ρ hR hN hp hρ hc hf hg => ⟨rfl, ?_⟩
    obtain ⟨ks, A3, c3, hks, hv3, hs3⟩ := hp 3 (by decide)
    have e8 : ρ (.tmp 8) = _ := (hρ 8).trans hv3
    have HKS := Lib.hid hks
    have HS3 := Lib.hid hs3
    clear hks hv3 hs3
    have e10 : ρ (.tmp 10) = .string x := (hρ 10).trans (hp 5 (by decide))
    have hx := hR.drew_ext
    have HR := Lib.hid hR
    have HN := Lib.hid hN
    clear hR hN hp hρ hx
    go_light
    go_simp
    refine (r09_index A3 c3 ks x _ _ HS3.out).mono ?_
    rintro e' w3 ⟨he, rfl⟩
    exact ⟨_, he, γ, LR.refl _ _, fun _ _ _ h => h, _, rfl, imp_mem HKS.out x⟩
  · refine LinStep.yes fun vals γ w' ρ hR hN hp hρ hc hf hg => ⟨rfl, ?_⟩
    obtain ⟨n, hv6, hn⟩ := hp 6 (by decide)
    have e11 : ρ (.tmp 11) = _ := (hρ 11).trans hv6
    have HNN := Lib.hid hn
    clear hv6 hn
    have hx := hR.drew_ext
    have HR := Lib.hid hR
    have HN := Lib.hid hN
    clear hR hN hp hρ hx
    go_light
    go_simp
    exact ⟨γ, LR.refl _ _, fun _ _ _ h => h, congrArg Value.bool HNN.out⟩
  · refine LinStep.yes fun vals γ w' ρ hR hN hp hρ hc hf hg => ⟨rfl, ?_⟩
    have e12 : ρ (.tmp 12) = .bool (impB l frm x) := (hρ 12).trans (hp 7 (by decide))
    have hx := hR.drew_ext
    have HR := Lib.hid hR
    have HN := Lib.hid hN
    clear hR hN hp hρ hx
    go_light
    go_simp
    exact ⟨γ, LR.refl _ _, fun _ _ _ h => h, rfl⟩
  · intro vals γ w' hR hG
    have hz : vals 8 = .bool (impB l frm x) := hG 8 (by decide)
    have HX := Lib.hid (HX1.out.trans hR.drew_ext)
    clear hR hG
    simp only [lexFrame, Act.put, List.setIfInBounds_toArray, List.set_cons_succ, List.set_cons_zero, Nat.zero_add, Nat.reduceAdd, hz]
    clear hz
    go_wp2
    go_ret
    exact ⟨rfl, HX.out⟩
end Go.Proofs.YtcmmkeiiapbgcaaGreatDoor
