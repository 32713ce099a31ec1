/- The law TableSets: true. Conditions: the arguments read as data; the table of tens is there. -/
import Derived.Test.YtcmmkeiiapbgcaaGreatDoorBs15
namespace Go.Proofs.YtcmmkeiiapbgcaaGreatDoor
open Go Go.RowKit

theorem arr3 {cs : Array Value} (h : cs.size = 3) (a0 a1 a2 : Value) : ((cs.setIfInBounds 0 a0).setIfInBounds 1 a1).setIfInBounds 2 a2 = #[a0, a1, a2] := by
  obtain ⟨l⟩ := cs
  match l, h with
  | [_, _, _], _ => rfl
theorem VarAt.store3 {γ : Gh} {w : World} {al : Nat → Option Nat} {s k t : Nat} {v : Value} (h : VarAt k t 3 v γ w) (hs : al s = some k) (hn : LN al s γ) :
    ∃ g, v = .pointer (some ⟨g, 0, none⟩) ∧ (∃ x0 x1 x2, w.cell? ⟨g, 0, none⟩ = some x0 ∧ w.cell? ⟨g, 1, none⟩ = some x1 ∧ w.cell? ⟨g, 2, none⟩ = some x2) ∧ (∀ i, w.frozen? ⟨g, i, none⟩ = false) ∧ g < w.heap.size ∧ γ k = some (some g) ∧ ∀ a0 a1 a2, LR γ w (γ.put k none) (((w.setCell ⟨g, 0, none⟩ a0).setCell ⟨g, 1, none⟩ a1).setCell ⟨g, 2, none⟩ a2) ∧
      VarIs t v #[a0, a1, a2] (γ.put k none) (((w.setCell ⟨g, 0, none⟩ a0).setCell ⟨g, 1, none⟩ a1).setCell ⟨g, 2, none⟩ a2) := by
  obtain ⟨g, ⟨l⟩, h1, h2, h3, h4, h5⟩ := h.stored hs hn
  match l, h2 with
  | [x0, x1, x2], h2 =>
    refine ⟨g, h1, ⟨x0, x1, x2, h3.cell rfl, h3.cell rfl, h3.cell rfl⟩, h3.frozen, h3.lt, h4, fun a0 a1 a2 => h5 _ _ ((((Only.refl g w).set 0 a0).set 1 a1).set 2 a2) ?_ rfl⟩
    have := ((h3.set 0 a0).set 1 a1).set 2 a2
    rwa [arr3 h2] at this
def vT7 (gn : Nat) (k : Nat) (nk : ByteArray) (bl : Nat) (ol : Nat) (n : Nat) (cl : Nat) (Bk : Option Addr) (lk : Nat) (ck : Nat) : Nat → Value
  | 0 => .slice (some ⟨gn, 0, none⟩) 8 8
  | 1 => .int .i64 (k : Int)
  | 2 => .pointer (some ⟨gn, k, none⟩)
  | 3 => .string nk
  | 4 => .slice (some ⟨bl, ol, none⟩) n cl
  | 5 => .int .i64 (k : Int)
  | 6 => .pointer (some ⟨bl, ol + k, none⟩)
  | 7 => .slice Bk lk ck
  | _ => undef
def gT7 (gn : Nat) (k : Nat) (nk : ByteArray) (bl : Nat) (ol : Nat) (n : Nat) (cl : Nat) (Bk : Option Addr) (lk : Nat) (ck : Nat) (ix : Nat) (vl : List Value) (γ : Gh) (w' : World) : Prop := match vl with
  | [v] => if ix = 8 then (∃ (t' : Look) (A' : Option Addr) (c' : Nat) (B' : Option Addr) (e' : Nat), v = (.agg #[.string t'.name, .slice A' t'.cols.length c', .slice B' t'.rows.length e']) ∧ (MadeT nk t' ∧ (t'.cols.length ≤ c' ∧ t'.rows.length ≤ e') ∧ RL w' (Free γ) 2 t' A' B')) else if ix = 9 then (VarAt 9 28 3 v γ w') else v = vT7 gn k nk bl ol n cl Bk lk ck ix
  | [p, _] => ∃ (t' : Look) (A' : Option Addr) (c' : Nat) (B' : Option Addr) (e' : Nat), VarIs 28 p #[.string t'.name, .slice A' t'.cols.length c', .slice B' t'.rows.length e'] γ w' ∧ (MadeT nk t' ∧ (t'.cols.length ≤ c' ∧ t'.rows.length ≤ e') ∧ RL w' (Free γ) 2 t' A' B')
  | _ => True
theorem gT7_st (gn : Nat) (k : Nat) (nk : ByteArray) (bl : Nat) (ol : Nat) (n : Nat) (cl : Nat) (Bk : Option Addr) (lk : Nat) (ck : Nat) : ∀ ix vl γ w γ' w', LR γ w γ' w' → gT7 gn k nk bl ol n cl Bk lk ck ix vl γ w → gT7 gn k nk bl ol n cl Bk lk ck ix vl γ' w' := by
  intro ix vl γ w γ' w' r h
  match vl, h with
  | [v], h =>
    unfold gT7 at h ⊢
    by_cases h8 : ix = 8
    · simp only [if_pos h8] at h ⊢
      obtain ⟨t', A', c', B', e', h0, hm, h1, h2⟩ := h
      exact ⟨t', A', c', B', e', h0, hm, h1, ⟨h2.1, r.strs h2.2.1, r.rows h2.2.2⟩⟩
    simp only [if_neg h8] at h ⊢
    by_cases h9 : ix = 9
    · simp only [if_pos h9] at h ⊢
      exact VarAt.lr r h
    simp only [if_neg h9] at h ⊢
    exact h
  | [], _ => trivial
  | [p, _], h => exact (by obtain ⟨t', A', c', B', e', h0, hm, h1, h2⟩ := h; exact ⟨t', A', c', B', e', VarIs.lr r h0, hm, h1, ⟨h2.1, r.strs h2.2.1, r.rows h2.2.2⟩⟩)
  | _ :: _ :: _ :: _, _ => trivial
def vT14 (gn : Nat) (u : Nat) (m8 : Nat) (nk : ByteArray) (_gq : Nat) (q0 : Int) (q1 : Int) (q2 : Int) : Nat → Value
  | 0 => .slice (some ⟨gn, 0, none⟩) 8 8
  | 1 => .int .u8 (u : Int)
  | 2 => .int .u8 (m8 : Int)
  | 3 => .pointer (some ⟨gn, m8, none⟩)
  | 4 => .string nk
  | 7 => .agg #[.int .i64 q0, .int .i64 q1, .int .i64 q2]
  | _ => undef
def gT14 (gn : Nat) (u : Nat) (m8 : Nat) (nk : ByteArray) (gq : Nat) (q0 : Int) (q1 : Int) (q2 : Int) (ix : Nat) (vl : List Value) (γ : Gh) (w' : World) : Prop := match vl with
  | [v] => if ix = 5 then (∃ g : Nat, v = .slice (some ⟨g, 0, none⟩) 2 2 ∧ Blk w' g 3 #[.int .i64 2, .int .i64 3] ∧ Free γ g) else if ix = 6 then (∃ (t' : Look) (A' : Option Addr) (c' : Nat) (B' : Option Addr) (e' : Nat), v = (.agg #[.string t'.name, .slice A' t'.cols.length c', .slice B' t'.rows.length e']) ∧ (MadeT nk t' ∧ (t'.cols.length ≤ c' ∧ t'.rows.length ≤ e') ∧ RL w' (Free γ) 2 t' A' B')) else if ix = 8 then (∃ (t' : Look) (A' : Option Addr) (c' : Nat) (B' : Option Addr) (e' : Nat), v = (.agg #[.string t'.name, .slice A' t'.cols.length c', .slice B' t'.rows.length e']) ∧ ((t'.cols.length ≤ c' ∧ t'.rows.length ≤ e') ∧ RL w' (Free γ) 2 t' A' B')) else if ix = 9 then (VarAt 9 28 3 v γ w') else v = vT14 gn u m8 nk gq q0 q1 q2 ix
  | [p, _] => ∃ (t' : Look) (A' : Option Addr) (c' : Nat) (B' : Option Addr) (e' : Nat), VarIs 28 p #[.string t'.name, .slice A' t'.cols.length c', .slice B' t'.rows.length e'] γ w' ∧ ((t'.cols.length ≤ c' ∧ t'.rows.length ≤ e') ∧ RL w' (Free γ) 2 t' A' B')
  | _ => True
theorem gT14_st (gn : Nat) (u : Nat) (m8 : Nat) (nk : ByteArray) (gq : Nat) (q0 : Int) (q1 : Int) (q2 : Int) : ∀ ix vl γ w γ' w', LR γ w γ' w' → gT14 gn u m8 nk gq q0 q1 q2 ix vl γ w → gT14 gn u m8 nk gq q0 q1 q2 ix vl γ' w' := by
  intro ix vl γ w γ' w' r h
  match vl, h with
  | [v], h =>
    unfold gT14 at h ⊢
    by_cases h5 : ix = 5
    · simp only [if_pos h5] at h ⊢
      obtain ⟨g, h0, h1, h2⟩ := h
      exact ⟨g, h0, r.blk h2 h1, r.free h1.lt h2⟩
    simp only [if_neg h5] at h ⊢
    by_cases h6 : ix = 6
    · simp only [if_pos h6] at h ⊢
      obtain ⟨t', A', c', B', e', h0, hm, h1, h2⟩ := h
      exact ⟨t', A', c', B', e', h0, hm, h1, ⟨h2.1, r.strs h2.2.1, r.rows h2.2.2⟩⟩
    simp only [if_neg h6] at h ⊢
    by_cases h8 : ix = 8
    · simp only [if_pos h8] at h ⊢
      obtain ⟨t', A', c', B', e', h0, h1, h2⟩ := h
      exact ⟨t', A', c', B', e', h0, h1, ⟨h2.1, r.strs h2.2.1, r.rows h2.2.2⟩⟩
    simp only [if_neg h8] at h ⊢
    by_cases h9 : ix = 9
    · simp only [if_pos h9] at h ⊢
      exact VarAt.lr r h
    simp only [if_neg h9] at h ⊢
    exact h
  | [], _ => trivial
  | [p, _], h => exact (by obtain ⟨t', A', c', B', e', h0, h1, h2⟩ := h; exact ⟨t', A', c', B', e', VarIs.lr r h0, h1, ⟨h2.1, r.strs h2.2.1, r.rows h2.2.2⟩⟩)
  | _ :: _ :: _ :: _, _ => trivial

set_option maxRecDepth 100000 in
set_option maxHeartbeats 8000000 in
theorem law_Sets (l : List (List Int)) (q0 q1 q2 : Int) (u : Nat) (hu : u < 256) (A : Option Addr) (c : Nat) (w : World) (S : Nat → Prop) (ht : Tens w) (hl : RIssL w S A l) :
    Calls Tryz.prog 7 #[.slice A l.length c, .agg #[.int .i64 q0, .int .i64 q1, .int .i64 q2], .int .u8 (u : Int)] w (RetB w true) := by
  have HT := Lib.hid ht
  have HL := Lib.hid hl
  obtain ⟨W0, hW0⟩ : ∃ W0, W0 = w.alloc (.cells #[.int .i64 q0, .int .i64 q1, .int .i64 q2] 23) := ⟨_, rfl⟩
  have HW0 := Lib.hid hW0
  have HX0 := Lib.hid (show Ext w W0 by rw [hW0]; exact (Ext.refl w).alloc _)
  have HGQ0 := Lib.hid (show Blk W0 w.heap.size 23 #[.int .i64 q0, .int .i64 q1, .int .i64 q2] by rw [hW0]; exact Blk.new _ _ _)
  clear ht hl hW0
  go_enter Tryz.func7, Tryz.ntmps7
  go_wp2_with fail
  rw [← HW0.out]
  refine (law_sanity W0 (HT.out.ext HX0.out)).mono ?_
  rintro e1 w1 ⟨rfl, hx1⟩
  obtain ⟨w2, hw2⟩ : ∃ w2, w2 = w1.alloc (.cells names8A 9) := ⟨_, rfl⟩
  have hx12 : Ext w1 w2 := by rw [hw2]; exact (Ext.refl _).alloc _
  have HX2 := Lib.hid ((HX0.out.trans hx1).trans hx12)
  have HGQ2 := Lib.hid ((HGQ0.out.keep (hx1.kept _)).keep (hx12.kept _))
  obtain ⟨gn, hgn⟩ : ∃ gn, gn = w1.heap.size := ⟨_, rfl⟩
  obtain ⟨gq, hgq⟩ : ∃ gq, gq = w.heap.size := ⟨_, rfl⟩
  have HGN2 := Lib.hid (show Blk w2 gn 9 names8A by rw [hw2, hgn]; exact Blk.new _ _ _)
  rw [← hgq] at HGQ2
  have HW2 := Lib.hid (show w2 = w1.alloc (.cells #[.string ⟨#[116]⟩, .string ⟨#[98]⟩, .string ⟨#[97]⟩, .string ⟨#[120, 49]⟩, .string ⟨#[99]⟩, .string ⟨#[122]⟩, .string ⟨#[100]⟩, .string ⟨#[101]⟩] 9) from hw2)
  have HGNE := Lib.hid hgn
  have HGQE := Lib.hid hgq
  clear hx1 hx12 hw2 hgn hgq HGQ0 HW0 HX0
  go_wp2
  rw [← HW2.out, ← HGNE.out, ← HGQE.out]
  clear HW2 HGNE HGQE
  go_loopw [11, 8, 9] (fun i va vb wr => ∃ (k : Nat) (Aa : Option Addr) (ca : Nat) (Ab : Option Addr) (cb : Nat) (ls : List Look), k ≤ 8 ∧ i = .int .i64 k ∧ va = .slice Aa ls.length ca ∧ vb = .slice Ab ls.length cb ∧ PL k ls ∧ LS wr (fun _ => True) 2 Aa ls ∧ LS wr (fun _ => True) 2 Ab ls ∧ Ext w2 wr) (fun i _ _ _ => 8 - (intOf i).toNat)
  case atStart => exact ⟨0, none, 0, none, 0, [], Nat.zero_le _, rfl, rfl, rfl, PL.zero, LS.nil, LS.nil, Ext.refl _⟩
  case round =>
    obtain ⟨k, Aa, ca, Ab, cb, ls, hk8, rfl, rfl, rfl, hpl, hla, hlb, hx3⟩ := hrel
    have HPL := Lib.hid hpl
    have HLA := Lib.hid hla
    have HLB := Lib.hid hlb
    have HX3 := Lib.hid hx3
    have hlsl : ls.length ≤ 6 := by have := hpl.len; omega
    clear hpl hla hlb hx3
    by_cases hgo : k < l.length ∧ k < 8
    · obtain ⟨hlt, hl8⟩ := hgo
      obtain ⟨bl, ol, Bk, ck, hAl, zl, hcl, -, hil⟩ := (HL.out.keep ((HX2.out.trans HX3.out).kept _)).at_ hlt
      subst hAl
      obtain ⟨lst, hlst⟩ : ∃ lst, lst = l[k] := ⟨_, rfl⟩
      rw [← hlst] at hcl hil
      obtain ⟨hk8', hn8, hnz, hnb, -⟩ := names8_at k hl8
      obtain ⟨nk, hnk⟩ : ∃ nk, nk = names8[k] := ⟨_, rfl⟩
      rw [← hnk] at hn8 hnz hnb
      have NK := Lib.hid (HX3.out.cell (HGN2.out.cell hn8))
      have HNZ := Lib.hid (show nk.size ≤ 4294967296 by omega)
      have HNB := Lib.hid hnb
      have HNK := Lib.hid (show nk = names8.getD k ⟨#[]⟩ by rw [hnk, List.getD_eq_getElem?_getD, List.getElem?_eq_getElem hk8', Option.getD_some])
      obtain ⟨lk, hlk⟩ : ∃ lk, lk = lst.length := ⟨_, rfl⟩
      rw [← hlk] at hcl
      have LKC := Lib.hid hcl
      have HLK := Lib.hid hlk
      have HIL := Lib.hid hil
      obtain ⟨n, hn⟩ : ∃ n, n = l.length := ⟨_, rfl⟩
      have HN := Lib.hid hn
      have hkn : k < n := by omega
      have i1 : (k : Int) < (l.length : Int) := by omega
      have i2 : (k : Int) < 8 := by omega
      obtain ⟨cl, hclE⟩ : ∃ cl, cl = c := ⟨_, rfl⟩
      subst hclE
      clear hlst hn8 hnz hnb hnk hlk hcl hil
      go_upto_region 7 with fail
      rw [← hn]
      clear hn
      refine wp_region_lin_lit (by kernel_rfl) (fun | 10 => [9, 10] | i => [i]) (by kernel_rfl) LR LR.refl LR.trans (LN (al1 10 9)) (gT7 gn k nk bl ol n cl Bk lk ck) (gT7_st _ _ _ _ _ _ _ _ _ _) gh0 (LN.zero _) ⟨?_, ?_, ?_, ?_, ?_, ?_, ?_, ?_, ?_, ?_, ?_, trivial⟩ ?_
      · refine LinStep.yes fun vals γ w' ρ hR hN hp hρ hc hf hg => ⟨rfl, ?_⟩
        have e10 : ρ (.tmp 10) = .slice (some ⟨gn, 0, none⟩) 8 8 := hρ 10
        have hx := hR.drew_ext
        have HR := Lib.hid hR
        have HN := Lib.hid hN
        clear hR hN hp hρ hx
        go_light
        go_simp
        exact ⟨γ, LR.refl _ _, fun _ _ _ h => h, rfl⟩
      · refine LinStep.yes fun vals γ w' ρ hR hN hp hρ hc hf hg => ⟨rfl, ?_⟩
        have e11 : ρ (.tmp 11) = .int .i64 (k : Int) := hρ 11
        have hx := hR.drew_ext
        have HR := Lib.hid hR
        have HN := Lib.hid hN
        clear hR hN hp hρ hx
        go_light
        go_simp
        exact ⟨γ, LR.refl _ _, fun _ _ _ h => h, rfl⟩
      · refine LinStep.yes fun vals γ w' ρ hR hN hp hρ hc hf hg => ⟨rfl, ?_⟩
        have e38 : ρ (.tmp 38) = .slice (some ⟨gn, 0, none⟩) 8 8 := (hρ 38).trans (hp 0 (by decide))
        have e39 : ρ (.tmp 39) = .int .i64 (k : Int) := (hρ 39).trans (hp 1 (by decide))
        have hx := hR.drew_ext
        have i0 : (0 : Int) ≤ (k : Int) := by omega
        have i1 : (k : Int) < 8 := by omega
        have HR := Lib.hid hR
        have HN := Lib.hid hN
        clear hR hN hp hρ hx
        go_light
        go_simp
        exact ⟨γ, LR.refl _ _, fun _ _ _ h => h, rfl⟩
      · refine LinStep.yes fun vals γ w' ρ hR hN hp hρ hc hf hg => ⟨rfl, ?_⟩
        have e40 : ρ (.tmp 40) = .pointer (some ⟨gn, k, none⟩) := (hρ 40).trans (hp 2 (by decide))
        have hx := hR.drew_ext
        have c0 := hx.cell NK.out
        have HR := Lib.hid hR
        have HN := Lib.hid hN
        clear hR hN hp hρ hx
        go_light
        go_simp
        exact ⟨γ, LR.refl _ _, fun _ _ _ h => h, rfl⟩
      · refine LinStep.yes fun vals γ w' ρ hR hN hp hρ hc hf hg => ⟨rfl, ?_⟩
        have e0 : ρ (.tmp 0) = .slice (some ⟨bl, ol, none⟩) n cl := hρ 0
        have hx := hR.drew_ext
        have HR := Lib.hid hR
        have HN := Lib.hid hN
        clear hR hN hp hρ hx
        go_light
        go_simp
        exact ⟨γ, LR.refl _ _, fun _ _ _ h => h, rfl⟩
      · refine LinStep.yes fun vals γ w' ρ hR hN hp hρ hc hf hg => ⟨rfl, ?_⟩
        have e11 : ρ (.tmp 11) = .int .i64 (k : Int) := hρ 11
        have hx := hR.drew_ext
        have HR := Lib.hid hR
        have HN := Lib.hid hN
        clear hR hN hp hρ hx
        go_light
        go_simp
        exact ⟨γ, LR.refl _ _, fun _ _ _ h => h, rfl⟩
      · refine LinStep.yes fun vals γ w' ρ hR hN hp hρ hc hf hg => ⟨rfl, ?_⟩
        have e42 : ρ (.tmp 42) = .slice (some ⟨bl, ol, none⟩) n cl := (hρ 42).trans (hp 4 (by decide))
        have e43 : ρ (.tmp 43) = .int .i64 (k : Int) := (hρ 43).trans (hp 5 (by decide))
        have hx := hR.drew_ext
        have i0 : (0 : Int) ≤ (k : Int) := by omega
        have i1 : (k : Int) < (n : Int) := by omega
        have HR := Lib.hid hR
        have HN := Lib.hid hN
        clear hR hN hp hρ hx
        go_light
        go_simp
        exact ⟨γ, LR.refl _ _, fun _ _ _ h => h, rfl⟩
      · refine LinStep.yes fun vals γ w' ρ hR hN hp hρ hc hf hg => ⟨rfl, ?_⟩
        have e44 : ρ (.tmp 44) = .pointer (some ⟨bl, ol + k, none⟩) := (hρ 44).trans (hp 6 (by decide))
        have hx := hR.drew_ext
        have c0 := hx.cell LKC.out
        have HR := Lib.hid hR
        have HN := Lib.hid hN
        clear hR hN hp hρ hx
        go_light
        go_simp
        exact ⟨γ, LR.refl _ _, fun _ _ _ h => h, rfl⟩
      · refine LinStep.yes fun vals γ w' ρ hR hN hp hρ hc hf hg => ⟨rfl, ?_⟩
        have e41 : ρ (.tmp 41) = .string nk := (hρ 41).trans (hp 3 (by decide))
        have e45 : ρ (.tmp 45) = .slice Bk lk ck := (hρ 45).trans (hp 7 (by decide))
        have hx := hR.drew_ext
        have HR := Lib.hid hR
        have HN := Lib.hid hN
        clear hR hN hp hρ hx
        go_light
        go_simp
        have hmd := r09_Made nk lst Bk ck w' _ (HIL.out.keep (HR.out.drew_ext.kept _)) HNZ.out
        rw [← HLK.out] at hmd
        refine hmd.mono ?_
        rintro e' w3 ⟨t', hmt, A', c', B', e1, he, hcp, hrl, hx⟩
        exact ⟨_, he, γ, LR.of_ext γ hx, fun _ _ _ h => h, t', A', c', B', e1, rfl, hmt, hcp, (hrl.up (by omega)).mono fun b _ hb => fun ⟨k', hk'⟩ => by have := HR.out.inb0 k' _ hk'; unfold Fresh at hb; omega⟩
      · refine LinStep.yes fun vals γ w' ρ hR hN hp hρ hc hf hg => ⟨rfl, ?_⟩
        have hx := hR.drew_ext
        have HR := Lib.hid hR
        have HN := Lib.hid hN
        clear hR hN hp hρ hx
        go_light
        go_simp
        exact ⟨γ.put 9 (some w'.heap.size), LR.new (HN.out.2 ⟨10, rfl⟩) _ _, LN.made, VarAt.new HR.out.inb0 rfl⟩
      · refine LinStep.yes fun vals γ w' ρ hR hN hp hρ hc hf hg => ⟨rfl, ?_⟩
        obtain ⟨t', A', c', B', e', g3, hmt, hcp, hrl⟩ := hp 8 (by decide)
        have e46 : ρ (.tmp 46) = _ := (hρ 46).trans g3
        have HRL' := Lib.hid hrl
        have HMT' := Lib.hid hmt
        clear g3 hrl hmt
        obtain ⟨g, hv, ⟨x0, x1, x2, k0, k1, k2⟩, kf, kz, hk, hst⟩ := VarAt.store3 (hp 9 (by decide)) (s := 10) (al := al1 10 9) rfl hN
        have e12 : ρ (.tmp 12) = _ := (hρ 12).trans hv
        have HST := Lib.hid hst
        have HK := Lib.hid hk
        clear hv hst hk
        have hx := hR.drew_ext
        have HR := Lib.hid hR
        have HN := Lib.hid hN
        clear hR hN hp hρ hx
        go_light
        go_simp
        exact ⟨γ.put 9 none, (HST.out _ _ _).1, LN.stored al1_inj rfl HK.out, t', A', c', B', e', (HST.out _ _ _).2, HMT'.out, hcp, HRL'.out.1, (HST.out _ _ _).1.strs HRL'.out.2.1, (HST.out _ _ _).1.rows HRL'.out.2.2⟩
      · intro vals γ w4 hR hG
        obtain ⟨t, At, ct, Bt, et, ⟨gt, hv10, hbk, -⟩, hmt, hcp, hrl⟩ := hG 10 (by decide)
        have hx4 := hR.drew_ext
        have HX4 := Lib.hid (HX3.out.trans hx4)
        have HGT := Lib.hid hbk
        have HRL := Lib.hid (hrl.mono (T := fun _ => True) fun _ _ _ => trivial)
        have HMT := Lib.hid hmt
        have HLA4 := Lib.hid (HLA.out.keep (hx4.kept _))
        have HLB4 := Lib.hid (HLB.out.keep (hx4.kept _))
        clear hR hG hbk hrl hmt hx4
        simp only [lexFrame, Act.put, List.setIfInBounds_toArray, List.set_cons_succ, List.set_cons_zero, Nat.zero_add, Nat.reduceAdd, hv10]
        generalize vals 0 = u0, vals 1 = u1, vals 2 = u2, vals 3 = u3, vals 4 = u4, vals 5 = u5, vals 6 = u6, vals 7 = u7, vals 8 = u8, vals 10 = u10
        clear hv10
        have hn := HN.out
        clear HN
        subst hn
        have hr := made_right HMT.out HNB.out
        have htn : t.name = names8.getD k ⟨#[]⟩ := HMT.out.1.trans HNK.out
        obtain ⟨r1, r2, hset⟩ : ∃ r1 r2, setS ls t = (r1, r2) := ⟨_, _, rfl⟩
        have HSET := Lib.hid hset
        have HNEXT := Lib.hid (HPL.out.set hl8 htn hr)
        have c0 := HGT.out.cell (i := 0) rfl
        have c1 := HGT.out.cell (i := 1) rfl
        have c2 := HGT.out.cell (i := 2) rfl
        have cz := HGT.out.lt
        clear hr htn hset
        go_wp2_with fail
        have hs1 := table_Set 2 ls t Aa At Bt ca ct et w4 (fun _ => True) (fun _ => True) HLA4.out (by omega) HRL.out hcp.1
        rw [HSET.out] at hs1
        refine hs1.mono ?_
        rintro e5 w5 ⟨A5, c5, rfl, hc5, hls5, hx5⟩
        have HX5 := Lib.hid hx5
        have HGT5 := Lib.hid (HGT.out.keep (hx5.kept _))
        have HRL5 := Lib.hid (HRL.out.keep (hx5.kept _))
        have HLB5 := Lib.hid (HLB4.out.keep (hx5.kept _))
        have HL5 := Lib.hid (hls5.mono (T := fun _ => True) fun _ _ _ => trivial)
        have d0 := HGT5.out.cell (i := 0) rfl
        have d1 := HGT5.out.cell (i := 1) rfl
        have d2 := HGT5.out.cell (i := 2) rfl
        have dz := HGT5.out.lt
        clear hls5 hx5 hs1 c0 c1 c2 cz
        go_wp2_with fail
        have hs2 := r09_Set 2 ls t Ab At Bt cb ct et w5 (fun _ => True) (fun _ => True) HLB5.out (by omega) HRL5.out hcp
        rw [HSET.out] at hs2
        refine hs2.mono ?_
        rintro e6 w6 ⟨A6, c6, rfl, hc6, hls6, hx6⟩
        have HX6 := Lib.hid hx6
        have HL56 := Lib.hid (HL5.out.keep (hx6.kept _))
        have HL6 := Lib.hid (hls6.mono (T := fun _ => True) fun _ _ _ => trivial)
        have HLA6 := Lib.hid ((HLA4.out.keep (HX5.out.kept _)).keep (hx6.kept _))
        have HLB6 := Lib.hid (HLB5.out.keep (hx6.kept _))
        have HXW6 := Lib.hid ((HX4.out.trans HX5.out).trans hx6)
        clear hls6 hx6 hs2 d0 d1 d2 dz
        rcases HNEXT.out with ⟨hk6, hse, hpl'⟩ | ⟨hk6, hse, hpl'⟩
        · rw [HSET.out] at hse
          obtain ⟨hr1, hr2⟩ := Prod.mk.inj hse
          subst hr2
          have HR1 := Lib.hid hr1
          have HPL' := Lib.hid hpl'
          have j1 : ¬ (6 : Int) ≤ (k : Int) := by omega
          have j2 : decide ((6 : Int) ≤ (k : Int)) = false := by simpa using j1
          clear hr1 hse hpl'
          go_wp2_with fail
          refine (r09_Same 2 r1 A5 A6 c5 c6 w6 _ _ HL56.out HL6.out).mono ?_
          rintro e7 w7 ⟨rfl, hx7⟩
          have HX7 := Lib.hid (HXW6.out.trans hx7)
          have HL57 := Lib.hid (HL56.out.keep (hx7.kept _))
          have HL67 := Lib.hid (HL6.out.keep (hx7.kept _))
          clear hx7
          go_wp2
          go_roundw
          case rel => exact ⟨k + 1, A5, c5, A6, c6, r1, by omega, by go_num, rfl, rfl, by rw [HR1.out]; exact HPL'.out, HL57.out, HL67.out, HX7.out⟩
          case measure => simp [intOf]; omega
        · rw [HSET.out] at hse
          obtain ⟨hr1, hr2⟩ := Prod.mk.inj hse
          subst hr2
          have HPL' := Lib.hid hpl'
          have j1 : (6 : Int) ≤ (k : Int) := by omega
          have j2 : decide ((6 : Int) ≤ (k : Int)) = true := by simpa using j1
          clear hr1 hse hpl'
          go_wp2_with fail
          refine (r09_Same 2 r1 A5 A6 c5 c6 w6 _ _ HL56.out HL6.out).mono ?_
          rintro e7 w7 ⟨rfl, hx7⟩
          have HX7 := Lib.hid (HXW6.out.trans hx7)
          have HLA7 := Lib.hid (HLA6.out.keep (hx7.kept _))
          have HLB7 := Lib.hid (HLB6.out.keep (hx7.kept _))
          clear hx7
          go_wp2
          go_roundw
          case rel => exact ⟨k + 1, Aa, ca, Ab, cb, ls, by omega, by go_num, rfl, rfl, HPL'.out, HLA7.out, HLB7.out, HX7.out⟩
          case measure => simp [intOf]; omega
    · have hdec : ((k : Int) < (l.length : Int) ∧ ¬ (k : Int) < 8) ∨ ¬ (k : Int) < (l.length : Int) := by omega
      obtain ⟨m8, hm8⟩ : ∃ m8, m8 = u % 8 := ⟨_, rfl⟩
      have HM8 := Lib.hid (show (u : Int).tmod 8 = (m8 : Int) by rw [Int.tmod_eq_emod_of_nonneg (by omega), hm8]; simp)
      have HM8b := Lib.hid (show (u : Int) % 8 = (m8 : Int) by rw [hm8]; simp)
      have hm88 : m8 < 8 := by omega
      obtain ⟨hk8', hn8, hnz, hnb, -⟩ := names8_at m8 hm88
      obtain ⟨nk, hnk⟩ : ∃ nk, nk = names8[m8] := ⟨_, rfl⟩
      rw [← hnk] at hn8 hnz hnb
      have NK := Lib.hid (HX3.out.cell (HGN2.out.cell hn8))
      have HNZ := Lib.hid (show nk.size ≤ 4294967296 by omega)
      have HGQ := Lib.hid (HGQ2.out.keep (HX3.out.kept _))
      clear hm8 hn8 hnz hnb hnk hgo
      rcases hdec with ⟨hi5, hn5⟩ | hi5
      all_goals
        go_upto_region 14 with fail
        refine wp_region_lin_lit (by kernel_rfl) (fun | 10 => [9, 10] | i => [i]) (by kernel_rfl) LR LR.refl LR.trans (LN (al1 10 9)) (gT14 gn u m8 nk gq q0 q1 q2) (gT14_st _ _ _ _ _ _ _ _) gh0 (LN.zero _) ⟨?_, ?_, ?_, ?_, ?_, ?_, ?_, ?_, ?_, ?_, ?_, trivial⟩ ?_
        · refine LinStep.yes fun vals γ w' ρ hR hN hp hρ hc hf hg => ⟨rfl, ?_⟩
          have e10 : ρ (.tmp 10) = .slice (some ⟨gn, 0, none⟩) 8 8 := hρ 10
          have hx := hR.drew_ext
          have HR := Lib.hid hR
          have HN := Lib.hid hN
          clear hR hN hp hρ hx
          go_light
          go_simp
          exact ⟨γ, LR.refl _ _, fun _ _ _ h => h, rfl⟩
        · refine LinStep.yes fun vals γ w' ρ hR hN hp hρ hc hf hg => ⟨rfl, ?_⟩
          have e2 : ρ (.tmp 2) = .int .u8 (u : Int) := hρ 2
          have hx := hR.drew_ext
          have HR := Lib.hid hR
          have HN := Lib.hid hN
          clear hR hN hp hρ hx
          go_light
          go_simp
          exact ⟨γ, LR.refl _ _, fun _ _ _ h => h, rfl⟩
        · refine LinStep.yes fun vals γ w' ρ hR hN hp hρ hc hf hg => ⟨rfl, ?_⟩
          have e80 : ρ (.tmp 80) = .int .u8 (u : Int) := (hρ 80).trans (hp 1 (by decide))
          have hx := hR.drew_ext
          have i1 := HM8.out
          have i2 := HM8b.out
          have HR := Lib.hid hR
          have HN := Lib.hid hN
          clear hR hN hp hρ hx
          go_light
          go_simp
          exact ⟨γ, LR.refl _ _, fun _ _ _ h => h, rfl⟩
        · refine LinStep.yes fun vals γ w' ρ hR hN hp hρ hc hf hg => ⟨rfl, ?_⟩
          have e79 : ρ (.tmp 79) = .slice (some ⟨gn, 0, none⟩) 8 8 := (hρ 79).trans (hp 0 (by decide))
          have e81 : ρ (.tmp 81) = .int .u8 (m8 : Int) := (hρ 81).trans (hp 2 (by decide))
          have hx := hR.drew_ext
          have i0 : (0 : Int) ≤ (m8 : Int) := by omega
          have i1 : (m8 : Int) < 8 := by omega
          have HR := Lib.hid hR
          have HN := Lib.hid hN
          clear hR hN hp hρ hx
          go_light
          go_simp
          exact ⟨γ, LR.refl _ _, fun _ _ _ h => h, rfl⟩
        · refine LinStep.yes fun vals γ w' ρ hR hN hp hρ hc hf hg => ⟨rfl, ?_⟩
          have e82 : ρ (.tmp 82) = .pointer (some ⟨gn, m8, none⟩) := (hρ 82).trans (hp 3 (by decide))
          have hx := hR.drew_ext
          have c0 := hx.cell NK.out
          have HR := Lib.hid hR
          have HN := Lib.hid hN
          clear hR hN hp hρ hx
          go_light
          go_simp
          exact ⟨γ, LR.refl _ _, fun _ _ _ h => h, rfl⟩
        · refine LinStep.yes fun vals γ w' ρ hR hN hp hρ hc hf hg => ⟨rfl, ?_⟩
          have hx := hR.drew_ext
          have HR := Lib.hid hR
          have HN := Lib.hid hN
          clear hR hN hp hρ hx
          go_light
          go_simp
          exact ⟨γ, LR.of_ext γ ((Ext.refl _).alloc _), fun _ _ _ h => h, _, rfl, Blk.new _ _ _, fun ⟨k', hk'⟩ => by have := HR.out.inb0 k' _ hk'; omega⟩
        · refine LinStep.yes fun vals γ w' ρ hR hN hp hρ hc hf hg => ⟨rfl, ?_⟩
          have e83 : ρ (.tmp 83) = .string nk := (hρ 83).trans (hp 4 (by decide))
          obtain ⟨gb, hgb, hbk, hfb⟩ := hp 5 (by decide)
          have e84 : ρ (.tmp 84) = _ := (hρ 84).trans hgb
          have HBK := Lib.hid hbk
          have HFB := Lib.hid hfb
          clear hgb hbk hfb
          have hx := hR.drew_ext
          have HR := Lib.hid hR
          have HN := Lib.hid hN
          clear hR hN hp hρ hx
          go_light
          go_simp
          refine (r09_Made nk [2, 3] (some ⟨gb, 0, none⟩) 2 w' (fun _ => True) ⟨HBK.out.rd.mono fun _ _ _ => trivial, by decide⟩ HNZ.out).mono ?_
          rintro e' w3 ⟨t', hmt, A', c', B', e1, he, hcp, hrl, hx⟩
          exact ⟨_, he, γ, LR.of_ext γ hx, fun _ _ _ h => h, t', A', c', B', e1, rfl, hmt, hcp, (hrl.up (by omega)).mono fun b _ hb => fun ⟨k', hk'⟩ => by have := HR.out.inb0 k' _ hk'; unfold Fresh at hb; omega⟩
        · refine LinStep.yes fun vals γ w' ρ hR hN hp hρ hc hf hg => ⟨rfl, ?_⟩
          have e4 : ρ (.tmp 4) = .pointer (some ⟨gq, 0, none⟩) := hρ 4
          have hx := hR.drew_ext
          have c0 := (HGQ.out.keep (hx.kept _)).cell (i := 0) rfl
          have c1 := (HGQ.out.keep (hx.kept _)).cell (i := 1) rfl
          have c2 := (HGQ.out.keep (hx.kept _)).cell (i := 2) rfl
          have HR := Lib.hid hR
          have HN := Lib.hid hN
          clear hR hN hp hρ hx
          go_light
          go_simp
          exact ⟨γ, LR.refl _ _, fun _ _ _ h => h, rfl⟩
        · refine LinStep.yes fun vals γ w' ρ hR hN hp hρ hc hf hg => ⟨rfl, ?_⟩
          obtain ⟨t', A', c', B', e', g3, hmt, hcp, hrl⟩ := hp 6 (by decide)
          have e85 : ρ (.tmp 85) = _ := (hρ 85).trans g3
          have HRL' := Lib.hid hrl
          have HMT' := Lib.hid hmt
          clear g3 hrl hmt
          have e86 : ρ (.tmp 86) = .agg #[.int .i64 q0, .int .i64 q1, .int .i64 q2] := (hρ 86).trans (hp 7 (by decide))
          have hx := hR.drew_ext
          have HR := Lib.hid hR
          have HN := Lib.hid hN
          clear hR hN hp hρ hx
          go_light
          go_simp
          refine (r09_Odd t' A' B' c' e' q0 q1 q2 w' _ HRL'.out (made_ok HMT'.out)).mono ?_
          rintro e9 w3 ⟨t9, A9, c9, B9, e1, he, hcp9, hrl, hx⟩
          exact ⟨_, he, γ, LR.of_ext γ hx, fun _ _ _ h => h, t9, A9, c9, B9, e1, rfl, hcp9, hrl.mono fun b _ hb => fun ⟨k', hk'⟩ => by have := HR.out.inb0 k' _ hk'; unfold Fresh at hb; omega⟩
        · refine LinStep.yes fun vals γ w' ρ hR hN hp hρ hc hf hg => ⟨rfl, ?_⟩
          have hx := hR.drew_ext
          have HR := Lib.hid hR
          have HN := Lib.hid hN
          clear hR hN hp hρ hx
          go_light
          go_simp
          exact ⟨γ.put 9 (some w'.heap.size), LR.new (HN.out.2 ⟨10, rfl⟩) _ _, LN.made, VarAt.new HR.out.inb0 rfl⟩
        · refine LinStep.yes fun vals γ w' ρ hR hN hp hρ hc hf hg => ⟨rfl, ?_⟩
          obtain ⟨t', A', c', B', e', g3, hcp, hrl⟩ := hp 8 (by decide)
          have e87 : ρ (.tmp 87) = _ := (hρ 87).trans g3
          have HRL' := Lib.hid hrl
          clear g3 hrl
          obtain ⟨g, hv, ⟨x0, x1, x2, k0, k1, k2⟩, kf, kz, hk, hst⟩ := VarAt.store3 (hp 9 (by decide)) (s := 10) (al := al1 10 9) rfl hN
          have e17 : ρ (.tmp 17) = _ := (hρ 17).trans hv
          have HST := Lib.hid hst
          have HK := Lib.hid hk
          clear hv hst hk
          have hx := hR.drew_ext
          have HR := Lib.hid hR
          have HN := Lib.hid hN
          clear hR hN hp hρ hx
          go_light
          go_simp
          exact ⟨γ.put 9 none, (HST.out _ _ _).1, LN.stored al1_inj rfl HK.out, t', A', c', B', e', (HST.out _ _ _).2, hcp, HRL'.out.1, (HST.out _ _ _).1.strs HRL'.out.2.1, (HST.out _ _ _).1.rows HRL'.out.2.2⟩
        · intro vals γ w4 hR hG
          obtain ⟨t, At, ct, Bt, et, ⟨gt, hv10, hbk, -⟩, hcp, hrl⟩ := hG 10 (by decide)
          have hx4 := hR.drew_ext
          have HX4 := Lib.hid (HX3.out.trans hx4)
          have HGT := Lib.hid hbk
          have HRL := Lib.hid (hrl.mono (T := fun _ => True) fun _ _ _ => trivial)
          have HLA4 := Lib.hid (HLA.out.keep (hx4.kept _))
          clear hR hG hbk hrl hx4
          simp only [lexFrame, Act.put, List.setIfInBounds_toArray, List.set_cons_succ, List.set_cons_zero, Nat.zero_add, Nat.reduceAdd, hv10]
          generalize vals 0 = u0, vals 1 = u1, vals 2 = u2, vals 3 = u3, vals 4 = u4, vals 5 = u5, vals 6 = u6, vals 7 = u7, vals 8 = u8, vals 10 = u10
          clear hv10
          obtain ⟨r1, r2, hset⟩ : ∃ r1 r2, setS ls t = (r1, r2) := ⟨_, _, rfl⟩
          have HSET := Lib.hid hset
          have c0 := HGT.out.cell (i := 0) rfl
          have c1 := HGT.out.cell (i := 1) rfl
          have c2 := HGT.out.cell (i := 2) rfl
          have cz := HGT.out.lt
          clear hset
          go_wp2_with fail
          have hs1 := table_Set 2 ls t Aa At Bt ca ct et w4 (fun _ => True) (fun _ => True) HLA4.out (by omega) HRL.out hcp.1
          rw [HSET.out] at hs1
          refine hs1.mono ?_
          rintro e5 w5 ⟨A5, c5, rfl, hc5, hls5, hx5⟩
          have HX5 := Lib.hid hx5
          have HGT5 := Lib.hid (HGT.out.keep (hx5.kept _))
          have HRL5 := Lib.hid (HRL.out.keep (hx5.kept _))
          have HLA5 := Lib.hid (HLA4.out.keep (hx5.kept _))
          have HL5 := Lib.hid (hls5.mono (T := fun _ => True) fun _ _ _ => trivial)
          have d0 := HGT5.out.cell (i := 0) rfl
          have d1 := HGT5.out.cell (i := 1) rfl
          have d2 := HGT5.out.cell (i := 2) rfl
          have dz := HGT5.out.lt
          clear hls5 hx5 hs1 c0 c1 c2 cz
          go_wp2_with fail
          have hs2 := r09_Set 2 ls t Aa At Bt ca ct et w5 (fun _ => True) (fun _ => True) HLA5.out (by omega) HRL5.out hcp
          rw [HSET.out] at hs2
          refine hs2.mono ?_
          rintro e6 w6 ⟨A6, c6, rfl, hc6, hls6, hx6⟩
          have HL56 := Lib.hid (HL5.out.keep (hx6.kept _))
          have HL6 := Lib.hid (hls6.mono (T := fun _ => True) fun _ _ _ => trivial)
          have HLA6 := Lib.hid (HLA5.out.keep (hx6.kept _))
          have HXW6 := Lib.hid ((HX4.out.trans HX5.out).trans hx6)
          clear hls6 hx6 hs2 d0 d1 d2 dz
          go_wp2_with fail
          refine (r09_Same 2 r1 A5 A6 c5 c6 w6 _ _ HL56.out HL6.out).mono ?_
          rintro e7 w7 ⟨rfl, hx7⟩
          have HX7 := Lib.hid (HXW6.out.trans hx7)
          have HLA7 := Lib.hid (HLA6.out.keep (hx7.kept _))
          clear hx7
          go_wp2
          go_loopw [23, 22] (fun i v wr => ∃ (j : Nat) (Ac : Option Addr) (cc : Nat), j ≤ ls.length ∧ i = .int .i64 ((j : Int) - 1) ∧ v = .slice Ac (ls.length - j) cc ∧ LS wr (fun _ => True) 2 Ac (ls.drop j) ∧ Ext w7 wr) (fun i _ _ => (intOf i + 1).toNat)
          case atStart => exact ⟨ls.length, none, 0, Nat.le_refl _, rfl, by rw [Nat.sub_self], by rw [List.drop_of_length_le (Nat.le_refl _)]; exact LS.nil, Ext.refl _⟩
          case round =>
            obtain ⟨j, Ac, cc, hj, rfl, rfl, hlc, hx8⟩ := hrel
            have HX8 := Lib.hid hx8
            have HLC := Lib.hid hlc
            have HLA8 := Lib.hid (HLA7.out.keep (hx8.kept _))
            clear hlc hx8
            rcases j with _ | j
            · have hlc := HLC.out
              rw [List.drop_zero] at hlc
              have HLC0 := Lib.hid hlc
              clear hlc
              go_wp2_with fail
              refine (r09_Same 2 ls Aa Ac ca cc _ _ _ HLA8.out HLC0.out).mono ?_
              rintro e9 w9 ⟨rfl, hx9⟩
              have HX9 := Lib.hid ((HX2.out.trans HX7.out).trans (HX8.out.trans hx9))
              clear hx9
              go_wp2
              go_ret
              exact ⟨rfl, HX9.out⟩
            · obtain ⟨ba, oa, Ak, ck, Bk, ek, hA, za, ⟨p0, p1, p2⟩, hck, hrk⟩ := HLA8.out.at_ (k := j) (by omega)
              subst hA
              have hs := setS_first HPL.out.str HPL.out.right hlsl (k := j) (by omega)
              obtain ⟨tj, htj⟩ : ∃ tj, tj = ls[j] := ⟨_, rfl⟩
              rw [← htj] at p0 p1 p2 hck hrk hs
              have HS := Lib.hid hs
              have HRK := Lib.hid hrk
              have j0 : ((j + 1 : Nat) : Int) - 1 = (j : Int) := by omega
              have i0 : (0 : Int) ≤ (j : Int) := by omega
              have i1 : (j : Int) < (ls.length : Int) := by omega
              clear htj hs hrk
              rw [j0]
              go_wp2_with fail
              have h9 := table_Set 2 (ls.drop (j + 1)) tj Ac Ak Bk cc ck ek _ (fun _ => True) (fun _ => True) HLC.out (by rw [List.length_drop]; omega) HRK.out hck.1
              rw [HS.out, List.length_drop] at h9
              refine h9.mono ?_
              rintro e9 w9 ⟨A9, c9, rfl, hc9, hls9, hx9⟩
              have HL9 := Lib.hid (hls9.mono (T := fun _ => True) fun _ _ _ => trivial)
              have HX9 := Lib.hid (HX8.out.trans hx9)
              clear hls9 hx9 h9
              go_wp2_with fail
              go_roundw
              case rel => exact ⟨j, A9, c9, by omega, by go_num, rfl, HL9.out, HX9.out⟩
              case measure => simp [intOf]
end Go.Proofs.YtcmmkeiiapbgcaaGreatDoor
