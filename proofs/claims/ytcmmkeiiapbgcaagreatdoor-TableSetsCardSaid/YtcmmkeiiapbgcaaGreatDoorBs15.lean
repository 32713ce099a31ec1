/- The reference's Same of equal lists. Conditions: the arguments read as data. -/
import Derived.Test.YtcmmkeiiapbgcaaGreatDoorBs14
namespace Go.Proofs.YtcmmkeiiapbgcaaGreatDoor
open Go Go.RowKit
def vM6 (ba : Nat) (oa : Nat) (bb : Nat) (ob_ : Nat) (n : Nat) (ca : Nat) (cb : Nat) (k : Nat) (x : Look) (xv : Val) (A1 : Option Addr) (c1 : Nat) (B1 : Option Addr) (e1 : Nat) (A2 : Option Addr) (c2 : Nat) (B2 : Option Addr) (e2 : Nat) : Nat → Value
  | 0 => .slice (some ⟨ba, oa, none⟩) n ca
  | 1 => .int .i64 (k : Int)
  | 2 => .pointer (some ⟨ba, oa + k * 3, none⟩)
  | 3 => .pointer (some ⟨ba, oa + k * 3, none⟩)
  | 4 => .string x.name
  | 5 => .slice (some ⟨bb, ob_, none⟩) n cb
  | 6 => .int .i64 (k : Int)
  | 7 => .pointer (some ⟨bb, ob_ + k * 3, none⟩)
  | 8 => .pointer (some ⟨bb, ob_ + k * 3, none⟩)
  | 9 => .string x.name
  | 10 => .bool false
  | 11 => .bool false
  | 12 => .slice (some ⟨ba, oa, none⟩) n ca
  | 13 => .int .i64 (k : Int)
  | 14 => .pointer (some ⟨ba, oa + k * 3, none⟩)
  | 15 => (.agg #[.string x.name, .slice A1 x.cols.length c1, .slice B1 x.rows.length e1])
  | 16 => (.agg #[.int .i64 xv.kind, .string xv.s, .int .i64 xv.dn, .int .i64 xv.ds, .int .i64 xv.n, .slice A1 xv.cols.length c1, .slice B1 xv.rows.length e1])
  | 17 => .slice (some ⟨bb, ob_, none⟩) n cb
  | 18 => .int .i64 (k : Int)
  | 19 => .pointer (some ⟨bb, ob_ + k * 3, none⟩)
  | 20 => (.agg #[.string x.name, .slice A2 x.cols.length c2, .slice B2 x.rows.length e2])
  | 21 => (.agg #[.int .i64 xv.kind, .string xv.s, .int .i64 xv.dn, .int .i64 xv.ds, .int .i64 xv.n, .slice A2 xv.cols.length c2, .slice B2 xv.rows.length e2])
  | 22 => .bool true
  | 23 => .bool false
  | 24 => .bool false
  | _ => undef
def gM6 (ba : Nat) (oa : Nat) (bb : Nat) (ob_ : Nat) (n : Nat) (ca : Nat) (cb : Nat) (k : Nat) (x : Look) (xv : Val) (A1 : Option Addr) (c1 : Nat) (B1 : Option Addr) (e1 : Nat) (A2 : Option Addr) (c2 : Nat) (B2 : Option Addr) (e2 : Nat) (ix : Nat) (vl : List Value) (_γ : Gh) (_w' : World) : Prop := match vl with
  | [v] => v = vM6 ba oa bb ob_ n ca cb k x xv A1 c1 B1 e1 A2 c2 B2 e2 ix
  | _ => True
theorem gM6_st (ba : Nat) (oa : Nat) (bb : Nat) (ob_ : Nat) (n : Nat) (ca : Nat) (cb : Nat) (k : Nat) (x : Look) (xv : Val) (A1 : Option Addr) (c1 : Nat) (B1 : Option Addr) (e1 : Nat) (A2 : Option Addr) (c2 : Nat) (B2 : Option Addr) (e2 : Nat) : ∀ ix vl γ w γ' w', LR γ w γ' w' → gM6 ba oa bb ob_ n ca cb k x xv A1 c1 B1 e1 A2 c2 B2 e2 ix vl γ w → gM6 ba oa bb ob_ n ca cb k x xv A1 c1 B1 e1 A2 c2 B2 e2 ix vl γ' w' := by
  intro ix vl γ w γ' w' r h
  match vl, h with
  | [v], h =>
    unfold gM6 at h ⊢
    exact h
  | [], _ => trivial
  | _ :: _ :: _, _ => trivial

set_option maxRecDepth 100000 in
set_option maxHeartbeats 4000000 in
theorem r09_Same (d : Nat) (l : List Look) (A B : Option Addr) (ca cb : Nat) (w : World) (S T : Nat → Prop) (ha : LS w S d A l) (hb : LS w T d B l) : Calls Tryz.prog 36 #[.slice A l.length ca, .slice B l.length cb] w (RetB w true) := by
  have HA := Lib.hid ha
  have HBB := Lib.hid hb
  have hl := ha.1
  clear ha hb
  go_enter Tryz.func36, Tryz.ntmps36
  go_wp2
  go_loopw [5] (fun i wr => ∃ (k : Nat), k ≤ l.length ∧ i = .int .i64 k ∧ Ext w wr) (fun i _ => l.length - (intOf i).toNat)
  case atStart => exact ⟨0, Nat.zero_le _, rfl, Ext.refl _⟩
  case round =>
    obtain ⟨k, hk, rfl, hx⟩ := hrel
    have HX := Lib.hid hx
    clear hx
    by_cases hlt : k < l.length
    · obtain ⟨ba, oa, A1, c1, B1, e1, hAe, za, ⟨p0, p1, p2⟩, -, hr1⟩ := (HA.out.keep (HX.out.kept _)).at_ hlt
      obtain ⟨bb, ob_, A2, c2, B2, e2, hBe, zb, ⟨q0, q1, q2⟩, -, hr2⟩ := (HBB.out.keep (HX.out.kept _)).at_ hlt
      subst hAe hBe
      obtain ⟨x, hxe⟩ : ∃ x, x = l[k] := ⟨_, rfl⟩
      rw [← hxe] at p0 p1 p2 q0 q1 q2 hr1 hr2
      obtain ⟨xv, hxv⟩ : ∃ xv, xv = tabV x.cols x.rows := ⟨_, rfl⟩
      have HXV := Lib.hid hxv
      have C0 := Lib.hid p0
      have C1 := Lib.hid p1
      have C2 := Lib.hid p2
      have D0 := Lib.hid q0
      have D1 := Lib.hid q1
      have D2 := Lib.hid q2
      have HR1 := Lib.hid (show RV wr _ d xv A1 B1 by rw [hxv]; exact hr1.val)
      have HR2 := Lib.hid (show RV wr _ d xv A2 B2 by rw [hxv]; exact hr2.val)
      obtain ⟨n, hn⟩ : ∃ n, n = l.length := ⟨_, rfl⟩
      have hkn : k < n := by omega
      have HN := Lib.hid hn
      clear p0 p1 p2 q0 q1 q2 hr1 hr2 hxe hxv
      go_upto_region 6 with fail
      rw [← hn]
      clear hn
      refine wp_region_lin_lit (by kernel_rfl) (fun i => [i]) (by kernel_rfl) LR LR.refl LR.trans (LN (al0)) (gM6 ba oa bb ob_ n ca cb k x xv A1 c1 B1 e1 A2 c2 B2 e2) (gM6_st _ _ _ _ _ _ _ _ _ _ _ _ _ _ _ _ _ _) gh0 (LN.zero _) ⟨?_, ?_, ?_, ?_, ?_, ?_, ?_, ?_, ?_, ?_, ?_, ?_, ?_, ?_, ?_, ?_, ?_, ?_, ?_, ?_, ?_, ?_, ?_, ?_, ?_, trivial⟩ ?_
      · refine LinStep.yes fun vals γ w' ρ hR hN hp hρ hc hf hg => ⟨rfl, ?_⟩
        have e0 : ρ (.tmp 0) = .slice (some ⟨ba, oa, none⟩) n ca := hρ 0
        have hx := hR.drew_ext
        have HR := Lib.hid hR
        have HN := Lib.hid hN
        clear hR hN hp hρ hx
        go_light
        go_simp
        exact ⟨γ, LR.refl _ _, fun _ _ _ h => h, rfl⟩
      · refine LinStep.yes fun vals γ w' ρ hR hN hp hρ hc hf hg => ⟨rfl, ?_⟩
        have e5 : ρ (.tmp 5) = .int .i64 (k : Int) := hρ 5
        have hx := hR.drew_ext
        have HR := Lib.hid hR
        have HN := Lib.hid hN
        clear hR hN hp hρ hx
        go_light
        go_simp
        exact ⟨γ, LR.refl _ _, fun _ _ _ h => h, rfl⟩
      · refine LinStep.yes fun vals γ w' ρ hR hN hp hρ hc hf hg => ⟨rfl, ?_⟩
        have e17 : ρ (.tmp 17) = .slice (some ⟨ba, oa, none⟩) n ca := (hρ 17).trans (hp 0 (by decide))
        have e18 : ρ (.tmp 18) = .int .i64 (k : Int) := (hρ 18).trans (hp 1 (by decide))
        have hx := hR.drew_ext
        have i0 : (0 : Int) ≤ (k : Int) := by omega
        have i1 : (k : Int) < (n : Int) := by omega
        have HR := Lib.hid hR
        have HN := Lib.hid hN
        clear hR hN hp hρ hx
        go_light
        go_simp
        exact ⟨γ, LR.refl _ _, fun _ _ _ h => h, rfl⟩
      · refine LinStep.yes fun vals γ w' ρ hR hN hp hρ hc hf hg => ⟨rfl, ?_⟩
        have e19 : ρ (.tmp 19) = .pointer (some ⟨ba, oa + k * 3, none⟩) := (hρ 19).trans (hp 2 (by decide))
        have hx := hR.drew_ext
        have HR := Lib.hid hR
        have HN := Lib.hid hN
        clear hR hN hp hρ hx
        go_light
        go_simp
        exact ⟨γ, LR.refl _ _, fun _ _ _ h => h, rfl⟩
      · refine LinStep.yes fun vals γ w' ρ hR hN hp hρ hc hf hg => ⟨rfl, ?_⟩
        have e20 : ρ (.tmp 20) = .pointer (some ⟨ba, oa + k * 3, none⟩) := (hρ 20).trans (hp 3 (by decide))
        have hx := hR.drew_ext
        have c0 := hx.cell C0.out
        have HR := Lib.hid hR
        have HN := Lib.hid hN
        clear hR hN hp hρ hx
        go_light
        go_simp
        exact ⟨γ, LR.refl _ _, fun _ _ _ h => h, rfl⟩
      · refine LinStep.yes fun vals γ w' ρ hR hN hp hρ hc hf hg => ⟨rfl, ?_⟩
        have e1 : ρ (.tmp 1) = .slice (some ⟨bb, ob_, none⟩) n cb := hρ 1
        have hx := hR.drew_ext
        have HR := Lib.hid hR
        have HN := Lib.hid hN
        clear hR hN hp hρ hx
        go_light
        go_simp
        exact ⟨γ, LR.refl _ _, fun _ _ _ h => h, rfl⟩
      · refine LinStep.yes fun vals γ w' ρ hR hN hp hρ hc hf hg => ⟨rfl, ?_⟩
        have e5 : ρ (.tmp 5) = .int .i64 (k : Int) := hρ 5
        have hx := hR.drew_ext
        have HR := Lib.hid hR
        have HN := Lib.hid hN
        clear hR hN hp hρ hx
        go_light
        go_simp
        exact ⟨γ, LR.refl _ _, fun _ _ _ h => h, rfl⟩
      · refine LinStep.yes fun vals γ w' ρ hR hN hp hρ hc hf hg => ⟨rfl, ?_⟩
        have e22 : ρ (.tmp 22) = .slice (some ⟨bb, ob_, none⟩) n cb := (hρ 22).trans (hp 5 (by decide))
        have e23 : ρ (.tmp 23) = .int .i64 (k : Int) := (hρ 23).trans (hp 6 (by decide))
        have hx := hR.drew_ext
        have i0 : (0 : Int) ≤ (k : Int) := by omega
        have i1 : (k : Int) < (n : Int) := by omega
        have HR := Lib.hid hR
        have HN := Lib.hid hN
        clear hR hN hp hρ hx
        go_light
        go_simp
        exact ⟨γ, LR.refl _ _, fun _ _ _ h => h, rfl⟩
      · refine LinStep.yes fun vals γ w' ρ hR hN hp hρ hc hf hg => ⟨rfl, ?_⟩
        have e24 : ρ (.tmp 24) = .pointer (some ⟨bb, ob_ + k * 3, none⟩) := (hρ 24).trans (hp 7 (by decide))
        have hx := hR.drew_ext
        have HR := Lib.hid hR
        have HN := Lib.hid hN
        clear hR hN hp hρ hx
        go_light
        go_simp
        exact ⟨γ, LR.refl _ _, fun _ _ _ h => h, rfl⟩
      · refine LinStep.yes fun vals γ w' ρ hR hN hp hρ hc hf hg => ⟨rfl, ?_⟩
        have e25 : ρ (.tmp 25) = .pointer (some ⟨bb, ob_ + k * 3, none⟩) := (hρ 25).trans (hp 8 (by decide))
        have hx := hR.drew_ext
        have c0 := hx.cell D0.out
        have HR := Lib.hid hR
        have HN := Lib.hid hN
        clear hR hN hp hρ hx
        go_light
        go_simp
        exact ⟨γ, LR.refl _ _, fun _ _ _ h => h, rfl⟩
      · refine LinStep.yes fun vals γ w' ρ hR hN hp hρ hc hf hg => ⟨rfl, ?_⟩
        have e21 : ρ (.tmp 21) = .string x.name := (hρ 21).trans (hp 4 (by decide))
        have e26 : ρ (.tmp 26) = .string x.name := (hρ 26).trans (hp 9 (by decide))
        have hx := hR.drew_ext
        have HR := Lib.hid hR
        have HN := Lib.hid hN
        clear hR hN hp hρ hx
        go_light
        go_simp
        exact ⟨γ, LR.refl _ _, fun _ _ _ h => h, rfl⟩
      · refine LinStep.yes fun vals γ w' ρ hR hN hp hρ hc hf hg => ⟨rfl, ?_⟩
        have e27 : ρ (.tmp 27) = .bool false := (hρ 27).trans (hp 10 (by decide))
        have hx := hR.drew_ext
        have HR := Lib.hid hR
        have HN := Lib.hid hN
        clear hR hN hp hρ hx
        go_light
        go_simp
        exact ⟨γ, LR.refl _ _, fun _ _ _ h => h, rfl⟩
      · refine LinStep.yes fun vals γ w' ρ hR hN hp hρ hc hf hg => ⟨by show (boolOf (vals 11) == some false) = true; rw [show vals 11 = .bool false from hp 11 (by decide)]; rfl, ?_⟩
        have e0 : ρ (.tmp 0) = .slice (some ⟨ba, oa, none⟩) n ca := hρ 0
        have hx := hR.drew_ext
        have HR := Lib.hid hR
        have HN := Lib.hid hN
        clear hR hN hp hρ hx
        go_light
        go_simp
        exact ⟨γ, LR.refl _ _, fun _ _ _ h => h, rfl⟩
      · refine LinStep.yes fun vals γ w' ρ hR hN hp hρ hc hf hg => ⟨by show (boolOf (vals 11) == some false) = true; rw [show vals 11 = .bool false from hp 11 (by decide)]; rfl, ?_⟩
        have e5 : ρ (.tmp 5) = .int .i64 (k : Int) := hρ 5
        have hx := hR.drew_ext
        have HR := Lib.hid hR
        have HN := Lib.hid hN
        clear hR hN hp hρ hx
        go_light
        go_simp
        exact ⟨γ, LR.refl _ _, fun _ _ _ h => h, rfl⟩
      · refine LinStep.yes fun vals γ w' ρ hR hN hp hρ hc hf hg => ⟨by show (boolOf (vals 11) == some false) = true; rw [show vals 11 = .bool false from hp 11 (by decide)]; rfl, ?_⟩
        have e29 : ρ (.tmp 29) = .slice (some ⟨ba, oa, none⟩) n ca := (hρ 29).trans (hp 12 (by decide))
        have e30 : ρ (.tmp 30) = .int .i64 (k : Int) := (hρ 30).trans (hp 13 (by decide))
        have hx := hR.drew_ext
        have i0 : (0 : Int) ≤ (k : Int) := by omega
        have i1 : (k : Int) < (n : Int) := by omega
        have HR := Lib.hid hR
        have HN := Lib.hid hN
        clear hR hN hp hρ hx
        go_light
        go_simp
        exact ⟨γ, LR.refl _ _, fun _ _ _ h => h, rfl⟩
      · refine LinStep.yes fun vals γ w' ρ hR hN hp hρ hc hf hg => ⟨by show (boolOf (vals 11) == some false) = true; rw [show vals 11 = .bool false from hp 11 (by decide)]; rfl, ?_⟩
        have e31 : ρ (.tmp 31) = .pointer (some ⟨ba, oa + k * 3, none⟩) := (hρ 31).trans (hp 14 (by decide))
        have hx := hR.drew_ext
        have c0 := hx.cell C0.out
        have c1 := hx.cell C1.out
        have c2 := hx.cell C2.out
        have HR := Lib.hid hR
        have HN := Lib.hid hN
        clear hR hN hp hρ hx
        go_light
        go_simp
        exact ⟨γ, LR.refl _ _, fun _ _ _ h => h, rfl⟩
      · refine LinStep.yes fun vals γ w' ρ hR hN hp hρ hc hf hg => ⟨by show (boolOf (vals 11) == some false) = true; rw [show vals 11 = .bool false from hp 11 (by decide)]; rfl, ?_⟩
        have e32 : ρ (.tmp 32) = (.agg #[.string x.name, .slice A1 x.cols.length c1, .slice B1 x.rows.length e1]) := (hρ 32).trans (hp 15 (by decide))
        have hx := hR.drew_ext
        have HR := Lib.hid hR
        have HN := Lib.hid hN
        clear hR hN hp hρ hx
        go_light
        go_simp
        refine (r09_Value x xv HXV.out A1 B1 c1 e1 w').mono ?_
        rintro e' w3 ⟨he, hx⟩
        exact ⟨_, he, γ, LR.of_ext γ hx, fun _ _ _ h => h, rfl⟩
      · refine LinStep.yes fun vals γ w' ρ hR hN hp hρ hc hf hg => ⟨by show (boolOf (vals 11) == some false) = true; rw [show vals 11 = .bool false from hp 11 (by decide)]; rfl, ?_⟩
        have e1 : ρ (.tmp 1) = .slice (some ⟨bb, ob_, none⟩) n cb := hρ 1
        have hx := hR.drew_ext
        have HR := Lib.hid hR
        have HN := Lib.hid hN
        clear hR hN hp hρ hx
        go_light
        go_simp
        exact ⟨γ, LR.refl _ _, fun _ _ _ h => h, rfl⟩
      · refine LinStep.yes fun vals γ w' ρ hR hN hp hρ hc hf hg => ⟨by show (boolOf (vals 11) == some false) = true; rw [show vals 11 = .bool false from hp 11 (by decide)]; rfl, ?_⟩
        have e5 : ρ (.tmp 5) = .int .i64 (k : Int) := hρ 5
        have hx := hR.drew_ext
        have HR := Lib.hid hR
        have HN := Lib.hid hN
        clear hR hN hp hρ hx
        go_light
        go_simp
        exact ⟨γ, LR.refl _ _, fun _ _ _ h => h, rfl⟩
      · refine LinStep.yes fun vals γ w' ρ hR hN hp hρ hc hf hg => ⟨by show (boolOf (vals 11) == some false) = true; rw [show vals 11 = .bool false from hp 11 (by decide)]; rfl, ?_⟩
        have e34 : ρ (.tmp 34) = .slice (some ⟨bb, ob_, none⟩) n cb := (hρ 34).trans (hp 17 (by decide))
        have e35 : ρ (.tmp 35) = .int .i64 (k : Int) := (hρ 35).trans (hp 18 (by decide))
        have hx := hR.drew_ext
        have i0 : (0 : Int) ≤ (k : Int) := by omega
        have i1 : (k : Int) < (n : Int) := by omega
        have HR := Lib.hid hR
        have HN := Lib.hid hN
        clear hR hN hp hρ hx
        go_light
        go_simp
        exact ⟨γ, LR.refl _ _, fun _ _ _ h => h, rfl⟩
      · refine LinStep.yes fun vals γ w' ρ hR hN hp hρ hc hf hg => ⟨by show (boolOf (vals 11) == some false) = true; rw [show vals 11 = .bool false from hp 11 (by decide)]; rfl, ?_⟩
        have e36 : ρ (.tmp 36) = .pointer (some ⟨bb, ob_ + k * 3, none⟩) := (hρ 36).trans (hp 19 (by decide))
        have hx := hR.drew_ext
        have c0 := hx.cell D0.out
        have c1 := hx.cell D1.out
        have c2 := hx.cell D2.out
        have HR := Lib.hid hR
        have HN := Lib.hid hN
        clear hR hN hp hρ hx
        go_light
        go_simp
        exact ⟨γ, LR.refl _ _, fun _ _ _ h => h, rfl⟩
      · refine LinStep.yes fun vals γ w' ρ hR hN hp hρ hc hf hg => ⟨by show (boolOf (vals 11) == some false) = true; rw [show vals 11 = .bool false from hp 11 (by decide)]; rfl, ?_⟩
        have e37 : ρ (.tmp 37) = (.agg #[.string x.name, .slice A2 x.cols.length c2, .slice B2 x.rows.length e2]) := (hρ 37).trans (hp 20 (by decide))
        have hx := hR.drew_ext
        have HR := Lib.hid hR
        have HN := Lib.hid hN
        clear hR hN hp hρ hx
        go_light
        go_simp
        refine (r09_Value x xv HXV.out A2 B2 c2 e2 w').mono ?_
        rintro e' w3 ⟨he, hx⟩
        exact ⟨_, he, γ, LR.of_ext γ hx, fun _ _ _ h => h, rfl⟩
      · refine LinStep.yes fun vals γ w' ρ hR hN hp hρ hc hf hg => ⟨by show (boolOf (vals 11) == some false) = true; rw [show vals 11 = .bool false from hp 11 (by decide)]; rfl, ?_⟩
        have e33 : ρ (.tmp 33) = (.agg #[.int .i64 xv.kind, .string xv.s, .int .i64 xv.dn, .int .i64 xv.ds, .int .i64 xv.n, .slice A1 xv.cols.length c1, .slice B1 xv.rows.length e1]) := (hρ 33).trans (hp 16 (by decide))
        have e38 : ρ (.tmp 38) = (.agg #[.int .i64 xv.kind, .string xv.s, .int .i64 xv.dn, .int .i64 xv.ds, .int .i64 xv.n, .slice A2 xv.cols.length c2, .slice B2 xv.rows.length e2]) := (hρ 38).trans (hp 21 (by decide))
        have hx := hR.drew_ext
        have HR := Lib.hid hR
        have HN := Lib.hid hN
        clear hR hN hp hρ hx
        go_light
        go_simp
        refine (r06_Equal d xv xv A1 B1 A2 B2 c1 e1 c2 e2 w' _ _ (HR1.out.keep (HR.out.drew_ext.kept _)) (HR2.out.keep (HR.out.drew_ext.kept _))).mono ?_
        rintro e' w3 ⟨he, hx⟩
        rw [decide_eq_true rfl] at he
        exact ⟨_, he, γ, LR.of_ext γ hx, fun _ _ _ h => h, rfl⟩
      · refine LinStep.yes fun vals γ w' ρ hR hN hp hρ hc hf hg => ⟨by show (boolOf (vals 11) == some false) = true; rw [show vals 11 = .bool false from hp 11 (by decide)]; rfl, ?_⟩
        have e39 : ρ (.tmp 39) = .bool true := (hρ 39).trans (hp 22 (by decide))
        have hx := hR.drew_ext
        have HR := Lib.hid hR
        have HN := Lib.hid hN
        clear hR hN hp hρ hx
        go_light
        go_simp
        exact ⟨γ, LR.refl _ _, fun _ _ _ h => h, rfl⟩
      · refine LinStep.yes fun vals γ w' ρ hR hN hp hρ hc hf hg => ⟨rfl, ?_⟩
        have e28 : ρ (.tmp 28) = .bool false := (hρ 28).trans (hp 11 (by decide))
        have e40 : ρ (.tmp 40) = .bool false := (hρ 40).trans (hp 23 (by decide))
        have hx := hR.drew_ext
        have HR := Lib.hid hR
        have HN := Lib.hid hN
        clear hR hN hp hρ hx
        go_light
        go_simp
        exact ⟨γ, LR.refl _ _, fun _ _ _ h => h, rfl⟩
      · intro vals γ w6 hR hG
        have h24 : vals 24 = .bool false := hG 24 (by decide)
        have HX6 := Lib.hid (HX.out.trans hR.drew_ext)
        clear hR hG
        simp only [lexFrame, Act.put, List.setIfInBounds_toArray, List.set_cons_succ, List.set_cons_zero, Nat.zero_add, Nat.reduceAdd, h24]
        generalize vals 0 = u0, vals 1 = u1, vals 2 = u2, vals 3 = u3, vals 4 = u4, vals 5 = u5, vals 6 = u6, vals 7 = u7, vals 8 = u8, vals 9 = u9, vals 10 = u10, vals 11 = u11, vals 12 = u12, vals 13 = u13, vals 14 = u14, vals 15 = u15, vals 16 = u16, vals 17 = u17, vals 18 = u18, vals 19 = u19, vals 20 = u20, vals 21 = u21, vals 22 = u22, vals 23 = u23
        clear h24
        have hn := HN.out
        clear HN
        subst hn
        go_wp2
        go_roundw
        case rel => exact ⟨k + 1, by omega, by go_num, HX6.out⟩
        case measure => simp [intOf]; omega
    · go_wp2
      go_ret
      exact ⟨rfl, HX.out⟩
end Go.Proofs.YtcmmkeiiapbgcaaGreatDoor
/- Lists of lookup tables in the strict order of their names: what Set makes of them. Plain facts; no conditions. -/
namespace Go.Proofs.YtcmmkeiiapbgcaaGreatDoor
open Go Go.RowKit

/-- Names become strictly greater. -/
def StrL (l : List Look) : Prop := l.Pairwise fun a b => nlt a.name b.name = true
theorem StrL.ins {l : List Look} (h : StrL l) {x : Look} (hx : ∀ y ∈ l, y.name ≠ x.name) : StrL (insL Look.name x l) := by
  induction l with
  | nil => simp [StrL, insL]
  | cons y l ih =>
    have h1 := List.pairwise_cons.1 h
    unfold insL
    split
    · rename_i hlt
      refine List.pairwise_cons.2 ⟨fun z hz => ?_, h⟩
      rcases List.mem_cons.1 hz with rfl | hz
      · exact hlt
      · exact nlt_trans hlt (h1.1 z hz)
    · rename_i hlt
      have hlt' : nlt x.name y.name = false := by simpa using hlt
      refine List.pairwise_cons.2 ⟨fun z hz => ?_, ih h1.2 fun z hz => hx z (List.mem_cons_of_mem _ hz)⟩
      rcases mem_insL.1 hz with rfl | hz
      · cases h3 : nlt y.name z.name
        · exact absurd (nlt_total h3 hlt') (hx y List.mem_cons_self)
        · rfl
      · exact h1.1 z hz
theorem StrL.sort {l : List Look} (h : StrL l) : sortL Look.name l = l := by
  have key : ∀ l : List Look, StrL l → sortL Look.name l = l := by
    intro l
    refine snoc_ind (P := fun l => StrL l → sortL Look.name l = l) (fun _ => rfl) (fun l x ih h => ?_) l
    have h1 := List.pairwise_append.1 h
    rw [sortL_snoc, ih h1.1]
    have := insL_at (nm := Look.name) (x := x) (p := l) (q := []) (fun y hy => nlt_asymm (h1.2.2 y hy x (by simp))) (by simp)
    simpa using this
  exact key l h
theorem others_all {t : Look} {l : List Look} (h : ∀ y ∈ l, y.name ≠ t.name) : others t l = l := by
  unfold others
  rw [List.filter_eq_self]
  intro y hy
  simpa using h y hy
theorem setS_new {t : Look} {l : List Look} (hr : lookR t = true) (h : ∀ y ∈ l, y.name ≠ t.name) (hs : StrL l) (hl : l.length < 6) : setS l t = (insL Look.name t l, 0) := by
  unfold setS
  rw [hr, if_neg (by simp), others_all h, if_neg (by omega), sortL_snoc, hs.sort]
theorem setS_many {t : Look} {l : List Look} (hr : lookR t = true) (h : ∀ y ∈ l, y.name ≠ t.name) (hl : l.length = 6) : setS l t = ([], 2) := by
  unfold setS
  rw [hr, if_neg (by simp), others_all h, if_pos ⟨rfl, by omega⟩]
/-- A table that is ahead of all others comes first. -/
theorem setS_first {a : List Look} (hs : StrL a) (hr : ∀ t ∈ a, lookR t = true) (h6 : a.length ≤ 6) {k : Nat} (hk : k < a.length) : setS (a.drop (k + 1)) a[k] = (a.drop k, 0) := by
  have hd : StrL (a.drop k) := hs.sublist (List.drop_sublist _ _)
  rw [List.drop_eq_getElem_cons hk] at hd
  have h1 := List.pairwise_cons.1 hd
  have hne : ∀ y ∈ a.drop (k + 1), y.name ≠ a[k].name := fun y hy e => by
    have := h1.1 y hy
    rw [e, nlt_irrefl] at this
    cases this
  rw [setS_new (hr _ (List.getElem_mem hk)) hne h1.2 (by rw [List.length_drop]; omega), List.drop_eq_getElem_cons hk]
  have := insL_at (nm := Look.name) (x := a[k]) (p := []) (q := a.drop (k + 1)) (by simp) (fun y hy => h1.1 y (List.mem_of_mem_head? hy))
  rw [← List.nil_append (a.drop (k + 1)), this]
  simp
def names8 : List ByteArray := [⟨#[116]⟩, ⟨#[98]⟩, ⟨#[97]⟩, ⟨#[120, 49]⟩, ⟨#[99]⟩, ⟨#[122]⟩, ⟨#[100]⟩, ⟨#[101]⟩]
def names8A : Array Value := #[.string ⟨#[116]⟩, .string ⟨#[98]⟩, .string ⟨#[97]⟩, .string ⟨#[120, 49]⟩, .string ⟨#[99]⟩, .string ⟨#[122]⟩, .string ⟨#[100]⟩, .string ⟨#[101]⟩]
theorem names8_at (k : Nat) (hk : k < 8) : ∃ h : k < names8.length, names8A[k]? = some (.string names8[k]) ∧ names8[k].size ≤ 20 ∧ nameB names8[k] = true ∧ ∀ s ∈ names8.take k, s ≠ names8[k] := by
  match k, hk with
  | 0, _ => exact ⟨by decide, rfl, by decide, by decide, by decide⟩
  | 1, _ => exact ⟨by decide, rfl, by decide, by decide, by decide⟩
  | 2, _ => exact ⟨by decide, rfl, by decide, by decide, by decide⟩
  | 3, _ => exact ⟨by decide, rfl, by decide, by decide, by decide⟩
  | 4, _ => exact ⟨by decide, rfl, by decide, by decide, by decide⟩
  | 5, _ => exact ⟨by decide, rfl, by decide, by decide, by decide⟩
  | 6, _ => exact ⟨by decide, rfl, by decide, by decide, by decide⟩
  | 7, _ => exact ⟨by decide, rfl, by decide, by decide, by decide⟩
  | n + 8, h => omega
/-- What the law's first loop has put together after k rounds. -/
structure PL (k : Nat) (l : List Look) : Prop where
  len : l.length = min k 6
  str : StrL l
  right : ∀ t ∈ l, lookR t = true
  names : ∀ t ∈ l, t.name ∈ names8.take k
theorem PL.zero : PL 0 [] := ⟨rfl, by simp [StrL], by simp, by simp⟩
theorem PL.set {k : Nat} {l : List Look} (h : PL k l) (hk : k < 8) {t : Look} (ht : t.name = names8.getD k ⟨#[]⟩) (hr : lookR t = true) : (k < 6 ∧ setS l t = (insL Look.name t l, 0) ∧ PL (k + 1) (insL Look.name t l)) ∨ (6 ≤ k ∧ setS l t = ([], 2) ∧ PL (k + 1) l) := by
  obtain ⟨hk8, _, _, _, hne⟩ := names8_at k hk
  have ht' : t.name = names8[k] := by rw [ht, List.getD_eq_getElem?_getD, List.getElem?_eq_getElem hk8, Option.getD_some]
  have hd : ∀ y ∈ l, y.name ≠ t.name := fun y hy => by rw [ht']; exact hne _ (h.names y hy)
  have hlen := h.len
  have hmono : ∀ s, s ∈ names8.take k → s ∈ names8.take (k + 1) := fun s hs => by rw [List.take_succ_eq_append_getElem hk8]; exact List.mem_append_left _ hs
  rcases Nat.lt_or_ge k 6 with h6 | h6
  · refine .inl ⟨h6, setS_new hr hd h.str (by omega), ⟨by rw [len_insL]; omega, h.str.ins hd, fun y hy => ?_, fun y hy => ?_⟩⟩
    · rcases mem_insL.1 hy with rfl | hy
      · exact hr
      · exact h.right y hy
    · rcases mem_insL.1 hy with rfl | hy
      · rw [ht', List.take_succ_eq_append_getElem hk8]; exact List.mem_append_right _ (List.mem_singleton.2 rfl)
      · exact hmono _ (h.names y hy)
  · exact .inr ⟨h6, setS_many hr hd (by omega), ⟨by omega, h.str, h.right, fun y hy => hmono _ (h.names y hy)⟩⟩
end Go.Proofs.YtcmmkeiiapbgcaaGreatDoor
/- What the literals of the law's sanity lay into memory. No conditions. -/
namespace Go.Proofs.YtcmmkeiiapbgcaaGreatDoor
open Go Go.RowKit

theorem RDeps.build {w : World} {S : Nat → Prop} {g t : Nat} {cs : Array Value} {l : List Dep} (h : Blk w g t cs) (hs : cs.size = l.length * 2) (hg : S g) (hl : l.length ≤ 4294967296)
    (hr : ∀ (i : Nat) (d : Dep), l[i]? = some d → ∃ (B : Option Addr) (c : Nat), cs[i * 2]? = some (.slice B d.frm.length c) ∧ cs[i * 2 + 1]? = some (.string d.to) ∧ d.frm.length ≤ c ∧ d.to.size ≤ 4294967296 ∧ Strs w S B d.frm) : RDeps w S (some ⟨g, 0, none⟩) l := by
  refine ⟨hl, cs.toList, h.rd.mono (fun i _ hi => hi ▸ hg), by simpa using hs, fun i d hd => ?_⟩
  obtain ⟨B, c, h1, h2, h3⟩ := hr i d hd
  exact ⟨B, c, by simpa using h1, by simpa using h2, h3⟩
theorem Strs.one {w : World} {S : Nat → Prop} {g t : Nat} {s : ByteArray} (h : Blk w g t #[.string s]) (hs : s.size ≤ 4294967296) (hg : S g) : Strs w S (some ⟨g, 0, none⟩) [s] :=
  (Strs.of_blk h rfl (by simp) (by intro x hx; simp at hx; subst hx; exact hs)).mono fun _ _ hi => hi ▸ hg
/-- What five allocs lay. -/
theorem blk_at (w : World) (t : Nat) (cs : Array Value) {n : Nat} (hn : w.heap.size = n) : Blk (w.alloc (.cells cs t)) n t cs := hn ▸ Blk.new w t cs
def w5a (v : World) : World := ((((v.alloc (.cells #[.string sCity] 9)).alloc (.cells #[.string sCity] 9)).alloc (.cells #[.string sZip] 9)).alloc (.cells #[.string sZip] 9)).alloc
  (.cells #[.slice (some ⟨v.heap.size, 0, none⟩) 1 1, .string sZip, .slice (some ⟨v.heap.size + 1, 0, none⟩) 1 1, .string sCountry, .slice (some ⟨v.heap.size + 1 + 1, 0, none⟩) 1 1, .string sCity, .slice (some ⟨v.heap.size + 1 + 1 + 1, 0, none⟩) 1 1, .string sCountry] 52)
theorem w5a_ext (v : World) : Ext v (w5a v) := (((((Ext.refl v).alloc _).alloc _).alloc _).alloc _).alloc _
theorem w5a_mem (v : World) : RDeps (w5a v) (fun b => v.heap.size ≤ b) (some ⟨v.heap.size + 1 + 1 + 1 + 1, 0, none⟩) wantD := by
  have b1 : Blk (w5a v) v.heap.size 9 #[.string sCity] := ((((Blk.new v 9 #[.string sCity]).keep (Kept.alloc _ _ _)).keep (Kept.alloc _ _ _)).keep (Kept.alloc _ _ _)).keep (Kept.alloc _ _ _)
  have b2 : Blk (w5a v) (v.heap.size + 1) 9 #[.string sCity] := (((blk_at _ 9 #[.string sCity] (by simp)).keep (Kept.alloc _ _ _)).keep (Kept.alloc _ _ _)).keep (Kept.alloc _ _ _)
  have b3 : Blk (w5a v) (v.heap.size + 1 + 1) 9 #[.string sZip] := ((blk_at _ 9 #[.string sZip] (by simp)).keep (Kept.alloc _ _ _)).keep (Kept.alloc _ _ _)
  have b4 : Blk (w5a v) (v.heap.size + 1 + 1 + 1) 9 #[.string sZip] := (blk_at _ 9 #[.string sZip] (by simp)).keep (Kept.alloc _ _ _)
  have b5 := blk_at ((((v.alloc (.cells #[.string sCity] 9)).alloc (.cells #[.string sCity] 9)).alloc (.cells #[.string sZip] 9)).alloc (.cells #[.string sZip] 9)) 52 #[.slice (some ⟨v.heap.size, 0, none⟩) 1 1, .string sZip, .slice (some ⟨v.heap.size + 1, 0, none⟩) 1 1, .string sCountry, .slice (some ⟨v.heap.size + 1 + 1, 0, none⟩) 1 1, .string sCity, .slice (some ⟨v.heap.size + 1 + 1 + 1, 0, none⟩) 1 1, .string sCountry] (n := v.heap.size + 1 + 1 + 1 + 1) (by simp)
  refine RDeps.build (show Blk (w5a v) _ _ _ from b5) rfl (by omega) (by decide) ?_
  intro i d hi
  match i, hi with
  | 0, hi => cases hi; exact ⟨_, 1, rfl, rfl, Nat.le_refl _, by decide, Strs.one b1 (by decide) (by omega)⟩
  | 1, hi => cases hi; exact ⟨_, 1, rfl, rfl, Nat.le_refl _, by decide, Strs.one b2 (by decide) (by omega)⟩
  | 2, hi => cases hi; exact ⟨_, 1, rfl, rfl, Nat.le_refl _, by decide, Strs.one b3 (by decide) (by omega)⟩
  | 3, hi => cases hi; exact ⟨_, 1, rfl, rfl, Nat.le_refl _, by decide, Strs.one b4 (by decide) (by omega)⟩
  | n + 4, hi => simp [wantD] at hi
def w6a (v : World) : World := (((v.alloc (.cells #[.string sA] 9)).alloc (.cells #[.string sB] 9)).alloc (.cells #[.slice (some ⟨v.heap.size, 0, none⟩) 1 1, .string sB, .slice (some ⟨v.heap.size + 1, 0, none⟩) 1 1, .string sC] 52)).alloc (.cells #[.string sA] 9)
theorem w6a_ext (v : World) : Ext v (w6a v) := ((((Ext.refl v).alloc _).alloc _).alloc _).alloc _
theorem w6a_mem (v : World) : RDeps (w6a v) (fun b => v.heap.size ≤ b) (some ⟨v.heap.size + 1 + 1, 0, none⟩) abD ∧ Strs (w6a v) (fun b => v.heap.size ≤ b) (some ⟨v.heap.size + 1 + 1 + 1, 0, none⟩) [sA] := by
  have b1 : Blk (w6a v) v.heap.size 9 #[.string sA] := (((Blk.new v 9 #[.string sA]).keep (Kept.alloc _ _ _)).keep (Kept.alloc _ _ _)).keep (Kept.alloc _ _ _)
  have b2 : Blk (w6a v) (v.heap.size + 1) 9 #[.string sB] := ((blk_at _ 9 #[.string sB] (by simp)).keep (Kept.alloc _ _ _)).keep (Kept.alloc _ _ _)
  have b3 : Blk (w6a v) (v.heap.size + 1 + 1) 52 #[.slice (some ⟨v.heap.size, 0, none⟩) 1 1, .string sB, .slice (some ⟨v.heap.size + 1, 0, none⟩) 1 1, .string sC] := (blk_at _ 52 _ (by simp)).keep (Kept.alloc _ _ _)
  have b4 : Blk (w6a v) (v.heap.size + 1 + 1 + 1) 9 #[.string sA] := blk_at _ 9 #[.string sA] (by simp)
  refine ⟨RDeps.build b3 rfl (by omega) (by decide) ?_, Strs.one b4 (by decide) (by omega)⟩
  intro i d hi
  match i, hi with
  | 0, hi => cases hi; exact ⟨_, 1, rfl, rfl, Nat.le_refl _, by decide, Strs.one b1 (by decide) (by omega)⟩
  | 1, hi => cases hi; exact ⟨_, 1, rfl, rfl, Nat.le_refl _, by decide, Strs.one b2 (by decide) (by omega)⟩
  | n + 2, hi => simp [abD] at hi
theorem keep3 {w w' : World} {p0 p1 p2 : Addr} {v0 v1 v2 : Value} (h : Ext w w') (h0 : w.cell? p0 = some v0) (h1 : w.cell? p1 = some v1) (h2 : w.cell? p2 = some v2) :
    w'.cell? p0 = some v0 ∧ w'.cell? p1 = some v1 ∧ w'.cell? p2 = some v2 := ⟨h.cell h0, h.cell h1, h.cell h2⟩
theorem RV.flat {w : World} {S : Nat → Prop} {d : Nat} {y : Val} {A B : Option Addr} (h : flatV y) : RV w S d y A B := RV.mk h.2.2 (by rw [h.1]; exact Strs.nil) (by rw [h.2.1]; exact Rows.nil)
def noV : Val := textV sNo
theorem rown (n : Int) {w : World} {g t : Nat} {S : Nat → Prop} (h : Blk w g t (rowC [numV n 0])) (hg : S g) : Row w S 1 (some ⟨g, 0, none⟩) [numV n 0] := by
  refine (Row.flat h rfl (fun y hy => ?_) (by omega) (by simp)).mono fun _ _ hi => hi ▸ hg
  simp only [List.mem_cons, List.not_mem_nil, or_false] at hy
  subst hy
  exact flat_num _ _
/-- The table of numbers. -/
theorem nV_mem {v : World} {k a b : Nat} {S : Nat → Prop} (B1 : Blk v k 9 #[.string sN]) (C1 : Blk v a 33 (rowC [numV 3 0])) (C2 : Blk v b 33 (rowC [numV (-5) 0]))
    (h1 : S k) (h2 : S a) (h3 : S b) (h4 : S v.heap.size) (h5 : S (v.heap.size + 1)) :
    RV ((v.alloc (.cells (rowC [numV 4 0]) 33)).alloc (.cells #[.slice (some ⟨a, 0, none⟩) 1 1, .slice (some ⟨b, 0, none⟩) 1 1, .slice (some ⟨v.heap.size, 0, none⟩) 1 1] 45)) S 1 nV (some ⟨k, 0, none⟩) (some ⟨v.heap.size + 1, 0, none⟩) := by
  have x : Ext v ((v.alloc (.cells (rowC [numV 4 0]) 33)).alloc (.cells #[.slice (some ⟨a, 0, none⟩) 1 1, .slice (some ⟨b, 0, none⟩) 1 1, .slice (some ⟨v.heap.size, 0, none⟩) 1 1] 45)) := ((Ext.refl v).alloc _).alloc _
  have C3 := (Blk.new v 33 (rowC [numV 4 0])).keep (Kept.alloc _ _ (.cells #[.slice (some ⟨a, 0, none⟩) 1 1, .slice (some ⟨b, 0, none⟩) 1 1, .slice (some ⟨v.heap.size, 0, none⟩) 1 1] 45))
  have D := blk_at (v.alloc (.cells (rowC [numV 4 0]) 33)) 45 #[.slice (some ⟨a, 0, none⟩) 1 1, .slice (some ⟨b, 0, none⟩) 1 1, .slice (some ⟨v.heap.size, 0, none⟩) 1 1] (n := v.heap.size + 1) (by simp)
  refine RV.mk (by decide) (Strs.one (B1.keep (x.kept _)) (by decide) h1) (Rows.build D rfl h5 (by decide) ?_)
  intro i r hi
  match i, hi with
  | 0, hi => cases hi; exact ⟨_, 1, rfl, Nat.le_refl _, rown _ (C1.keep (x.kept _)) h2⟩
  | 1, hi => cases hi; exact ⟨_, 1, rfl, Nat.le_refl _, rown _ (C2.keep (x.kept _)) h3⟩
  | 2, hi => cases hi; exact ⟨_, 1, rfl, Nat.le_refl _, rown _ C3 h4⟩
  | n + 3, hi => simp [nV] at hi
end Go.Proofs.YtcmmkeiiapbgcaaGreatDoor
/- The law's sanity: true. Condition: the table of tens is there. -/
namespace Go.Proofs.YtcmmkeiiapbgcaaGreatDoor
open Go Go.RowKit

def twoV : Val := numV 2 0
/-- The facts of the statement 'v, e := table.Find(t, city, text(key), country)'. -/
def gFind (A : Option Addr) (c : Nat) (B : Option Addr) (e : Nat) (key : ByteArray) (res : Val) (code : Int) : Nat → List Value → Gh → World → Prop
  | 0, [v], _, _ => v = (.agg #[.string citiesT.name, .slice A citiesT.cols.length c, .slice B citiesT.rows.length e])
  | 1, [v], _, _ => ∃ x, x = textV key ∧ v = (.agg #[.int .i64 x.kind, .string x.s, .int .i64 x.dn, .int .i64 x.ds, .int .i64 x.n, .slice none x.cols.length 0, .slice none x.rows.length 0])
  | 2, [v], _, _ => ∃ Av cv Bv ev, v = .tuple #[(.agg #[.int .i64 res.kind, .string res.s, .int .i64 res.dn, .int .i64 res.ds, .int .i64 res.n, .slice Av res.cols.length cv, .slice Bv res.rows.length ev]), .int .i64 code]
  | 3, [v], _, _ => ∃ Av cv Bv ev, v = .tuple #[(.agg #[.int .i64 res.kind, .string res.s, .int .i64 res.dn, .int .i64 res.ds, .int .i64 res.n, .slice Av res.cols.length cv, .slice Bv res.rows.length ev]), .int .i64 code]
  | 4, [v], _, _ => ∃ Av cv Bv ev, v = (.agg #[.int .i64 res.kind, .string res.s, .int .i64 res.dn, .int .i64 res.ds, .int .i64 res.n, .slice Av res.cols.length cv, .slice Bv res.rows.length ev])
  | 5, [v], _, _ => v = .int .i64 code
  | 6, [v], γ, w => VarAt 6 33 7 v γ w
  | 7, [p, _], γ, w => ∃ Av cv Bv ev, VarIs 33 p #[.int .i64 res.kind, .string res.s, .int .i64 res.dn, .int .i64 res.ds, .int .i64 res.n, .slice Av res.cols.length cv, .slice Bv res.rows.length ev] γ w
  | 8, [v], _, _ => v = .int .i64 code
  | _, _, _, _ => True
def dFind : Nat → List Nat | 7 => [6, 7] | i => [i]
theorem gFind_st (A : Option Addr) (c : Nat) (B : Option Addr) (e : Nat) (key : ByteArray) (res : Val) (code : Int) : ∀ i l γ w γ' w', LR γ w γ' w' → gFind A c B e key res code i l γ w → gFind A c B e key res code i l γ' w' := by
  intro i l γ w γ' w' r h
  unfold gFind at h ⊢
  split at h <;> first | exact h | exact VarAt.lr r h | (obtain ⟨a, b, c, d, h⟩ := h; exact ⟨a, b, c, d, VarIs.lr r h⟩)

/-- The values of the statement 'return table.Right(t) && ..'. -/
def vSan (A : Option Addr) (c : Nat) (B : Option Addr) (e : Nat) (Av : Option Addr) (cv : Nat) (Bv : Option Addr) (ev : Nat) (Ak : Option Addr) (ck : Nat) (w5 : World) (A7 : Option Addr) (c7 : Nat) (As : Option Addr) (cs : Nat) (Bs : Option Addr) (es : Nat) : Nat → Value
  | 0 => (.agg #[.string citiesT.name, .slice A citiesT.cols.length c, .slice B citiesT.rows.length e])
  | 1 => .bool true
  | 2 => .bool true
  | 3 => .int .i64 0
  | 4 => .bool true
  | 5 => .bool true
  | 6 => .bool true
  | 7 => (.agg #[.int .i64 noV.kind, .string noV.s, .int .i64 noV.dn, .int .i64 noV.ds, .int .i64 noV.n, .slice Av noV.cols.length cv, .slice Bv noV.rows.length ev])
  | 8 => (.agg #[.int .i64 noV.kind, .string noV.s, .int .i64 noV.dn, .int .i64 noV.ds, .int .i64 noV.n, .slice none noV.cols.length 0, .slice none noV.rows.length 0])
  | 9 => .bool true
  | 10 => .bool true
  | 11 => .bool true
  | 12 => .int .i64 18
  | 13 => .bool true
  | 14 => .bool true
  | 15 => .bool true
  | 16 => .slice Ak wantD.length ck
  | 17 => .slice (some ⟨w5.heap.size + 1 + 1 + 1 + 1, 0, none⟩) 4 4
  | 18 => .bool true
  | 19 => .bool true
  | 20 => .bool true
  | 21 => .bool true
  | 22 => .bool true
  | 23 => .bool true
  | 24 => .slice A7 3 c7
  | 26 => .bool true
  | 27 => .bool true
  | 28 => .bool true
  | 29 => .int .i64 0
  | 30 => .bool true
  | 31 => .bool true
  | 32 => .bool true
  | 33 => (.agg #[.int .i64 twoV.kind, .string twoV.s, .int .i64 twoV.dn, .int .i64 twoV.ds, .int .i64 twoV.n, .slice As twoV.cols.length cs, .slice Bs twoV.rows.length es])
  | 34 => (.agg #[.int .i64 twoV.kind, .string twoV.s, .int .i64 twoV.dn, .int .i64 twoV.ds, .int .i64 twoV.n, .slice none twoV.cols.length 0, .slice none twoV.rows.length 0])
  | 35 => .bool true
  | 36 => .bool true
  | 37 => .bool true
  | 38 => .int .i64 20
  | 39 => .bool true
  | 40 => .bool true
  | 41 => .bool true
  | _ => undef
def gSan (A : Option Addr) (c : Nat) (B : Option Addr) (e : Nat) (Av : Option Addr) (cv : Nat) (Bv : Option Addr) (ev : Nat) (Ak : Option Addr) (ck : Nat) (w5 : World) (A7 : Option Addr) (c7 : Nat) (As : Option Addr) (cs : Nat) (Bs : Option Addr) (es : Nat) (i : Nat) (l : List Value) (γ : Gh) (w : World) : Prop := match l with
  | [v] => if i = 25 then ∃ g, v = .slice (some ⟨g, 0, none⟩) 3 3 ∧ Strs w (Free γ) (some ⟨g, 0, none⟩) [sA, sB, sC] else v = vSan A c B e Av cv Bv ev Ak ck w5 A7 c7 As cs Bs es i
  | _ => True
theorem gSan_st (A : Option Addr) (c : Nat) (B : Option Addr) (e : Nat) (Av : Option Addr) (cv : Nat) (Bv : Option Addr) (ev : Nat) (Ak : Option Addr) (ck : Nat) (w5 : World) (A7 : Option Addr) (c7 : Nat) (As : Option Addr) (cs : Nat) (Bs : Option Addr) (es : Nat) : ∀ i l γ w γ' w', LR γ w γ' w' → gSan A c B e Av cv Bv ev Ak ck w5 A7 c7 As cs Bs es i l γ w → gSan A c B e Av cv Bv ev Ak ck w5 A7 c7 As cs Bs es i l γ' w' := by
  intro i l γ w γ' w' r h
  match l, h with
  | [v], h =>
    unfold gSan at h ⊢
    by_cases hi : i = 25
    · simp only [if_pos hi] at h ⊢
      obtain ⟨g, h1, h2⟩ := h
      exact ⟨g, h1, r.strs h2⟩
    · simp only [if_neg hi] at h ⊢
      exact h
  | [], _ => trivial
  | _ :: _ :: _, _ => trivial
def dSan : Nat → List Nat := fun i => [i]
set_option maxRecDepth 100000 in
set_option maxHeartbeats 2000000 in
theorem law_sanity (w : World) (ht : Tens w) : Calls Tryz.prog 8 #[] w (RetB w true) := by
  have HT := Lib.hid ht
  clear ht
  go_enter Tryz.func8, Tryz.ntmps8
  go_wp2_with fail
  refine (law_cities _).mono ?_
  rintro e1 w1 ⟨A, c, B, e, rfl, ⟨hcp1, hcp2⟩, hrl, hx1⟩
  have HCP1 := Lib.hid hcp1
  have HRL := Lib.hid (hrl.keep (Kept.alloc _ _ (.cells #[.string citiesT.name, .slice A citiesT.cols.length c, .slice B citiesT.rows.length e] 28)))
  have HX2 := Lib.hid (hx1.alloc (.cells #[.string citiesT.name, .slice A citiesT.cols.length c, .slice B citiesT.rows.length e] 28))
  have HBT := Lib.hid (Blk.new w1 28 #[.string citiesT.name, .slice A citiesT.cols.length c, .slice B citiesT.rows.length e])
  clear hrl hx1 hcp1 hcp2
  go_upto_region 2 with fail
  obtain ⟨w2, hw2⟩ : ∃ w2, w2 = w1.alloc (.cells #[.string citiesT.name, .slice A citiesT.cols.length c, .slice B citiesT.rows.length e] 28) := ⟨_, rfl⟩
  rw [← hw2] at HRL HX2 HBT
  rw [← hw2]
  clear hw2
  have t0 := HBT.out.cell (i := 0) rfl
  have t1 := HBT.out.cell (i := 1) rfl
  have t2 := HBT.out.cell (i := 2) rfl
  clear HBT
  go_upto_region 2 with fail
  go_cut [2, 3] from 15 to 127 (fun p b wx => ∃ g Av cv Bv ev, p = .pointer (some ⟨g, 0, none⟩) ∧ b = .int .i64 0 ∧ Ext w2 wx ∧ Blk wx g 33 #[.int .i64 noV.kind, .string noV.s, .int .i64 noV.dn, .int .i64 noV.ds, .int .i64 noV.n, .slice Av noV.cols.length cv, .slice Bv noV.rows.length ev])
  case first =>
    refine wp_region_lin_lit (by kernel_rfl) dFind (by kernel_rfl) LR LR.refl LR.trans (LN (al1 7 6)) (gFind A c B e sOslo noV 0) (gFind_st _ _ _ _ _ _ _) gh0 (LN.zero _) ⟨?_, ?_, ?_, ?_, ?_, ?_, ?_, ?_, ?_, trivial⟩ ?_
    · refine LinStep.yes fun vals γ w' ρ hR hN hp hρ hc hf hg => ⟨rfl, ?_⟩
      have hx := hR.drew_ext
      have c0 := hx.cell t0
      have c1 := hx.cell t1
      have c2 := hx.cell t2
      have e1 : ρ (.tmp 1) = .pointer (some ⟨w1.heap.size, 0, none⟩) := hρ 1
      clear hR hN hp hρ t0 t1 t2 hx
      go_light
      go_simp
      exact ⟨γ, LR.refl _ _, fun _ _ _ h => h, rfl⟩
    · refine LinStep.yes fun vals γ w' ρ hR hN hp hρ hc hf hg => ⟨rfl, ?_⟩
      clear hR hN hp hρ t0 t1 t2
      go_light
      go_simp
      exact (law_text _ _).mono fun e' w3 ⟨he, hx⟩ => ⟨_, he, γ, LR.of_ext γ hx, fun _ _ _ h => h, _, rfl, rfl⟩
    · refine LinStep.yes fun vals γ w' ρ hR hN hp hρ hc hf hg => ⟨rfl, ?_⟩
      have e17 : ρ (.tmp 17) = _ := (hρ 17).trans (hp 0 (by decide))
      obtain ⟨x, hx1, g1⟩ := hp 1 (by decide)
      have e18 : ρ (.tmp 18) = _ := (hρ 18).trans g1
      have HR := Lib.hid hR
      subst hx1
      clear hR hN hp hρ t0 t1 t2 g1
      go_light
      go_simp
      refine (table_Find 1 citiesT sCity (textV sOslo) sCountry A B none none c e 0 0 _ (Fresh w) (Fresh w) (HRL.out.keep (HR.out.drew_ext.kept _)) HCP1.out (RV.flat (flat_text _ (by decide)))).mono ?_
      rintro e1 w4 ⟨Av, cv, Bv, ev, he, -, -, hx4⟩
      rw [san_find1] at he
      exact ⟨_, he, γ, LR.of_ext γ hx4, fun _ _ _ h => h, Av, cv, Bv, ev, rfl⟩
    · refine LinStep.yes fun vals γ w' ρ hR hN hp hρ hc hf hg => ⟨rfl, ?_⟩
      obtain ⟨Av, cv, Bv, ev, g⟩ := hp 2 (by decide)
      have e19 : ρ (.tmp 19) = _ := (hρ 19).trans g
      clear hR hN hp hρ t0 t1 t2 g
      go_light
      go_simp
      exact ⟨γ, LR.refl _ _, fun _ _ _ h => h, Av, cv, Bv, ev, rfl⟩
    · refine LinStep.yes fun vals γ w' ρ hR hN hp hρ hc hf hg => ⟨rfl, ?_⟩
      obtain ⟨Av, cv, Bv, ev, g⟩ := hp 3 (by decide)
      have e19 : ρ (.tmp 16) = _ := (hρ 16).trans g
      clear hR hN hp hρ t0 t1 t2 g
      go_light
      go_simp
      exact ⟨γ, LR.refl _ _, fun _ _ _ h => h, Av, cv, Bv, ev, rfl⟩
    · refine LinStep.yes fun vals γ w' ρ hR hN hp hρ hc hf hg => ⟨rfl, ?_⟩
      obtain ⟨Av, cv, Bv, ev, g⟩ := hp 3 (by decide)
      have e19 : ρ (.tmp 16) = _ := (hρ 16).trans g
      clear hR hN hp hρ t0 t1 t2 g
      go_light
      go_simp
      exact ⟨γ, LR.refl _ _, fun _ _ _ h => h, rfl⟩
    · refine LinStep.yes fun vals γ w' ρ hR hN hp hρ hc hf hg => ⟨rfl, ?_⟩
      have HB := Lib.hid hR.inb0
      have HN := Lib.hid hN
      clear hR hN hp hρ t0 t1 t2
      go_light
      go_simp
      exact ⟨γ.put 6 (some w'.heap.size), LR.new (HN.out.2 ⟨7, rfl⟩) _ _, LN.made, VarAt.new HB.out rfl⟩
    · refine LinStep.yes fun vals γ w' ρ hR hN hp hρ hc hf hg => ⟨rfl, ?_⟩
      obtain ⟨Av, cv, Bv, ev, g4⟩ := hp 4 (by decide)
      have e20 : ρ (.tmp 20) = _ := (hρ 20).trans g4
      obtain ⟨g, hv, hcs, hk, hst⟩ := VarAt.store7 (hp 6 (by decide)) (s := 7) (al := al1 7 6) rfl hN
      have e2 : ρ (.tmp 2) = _ := (hρ 2).trans hv
      obtain ⟨⟨x0, x1, x2, x3, x4, x5, x6, k0, k1, k2, k3, k4, k5, k6⟩, kf, kz⟩ := blk7 hcs
      have HST := Lib.hid hst
      have HK := Lib.hid hk
      clear hR hN hp hρ t0 t1 t2 g4 hv hst hcs hk
      go_light
      go_simp
      exact ⟨γ.put 6 none, (HST.out _ _ _ _ _ _ _).1, LN.stored al1_inj rfl HK.out, Av, cv, Bv, ev, (HST.out _ _ _ _ _ _ _).2⟩
    · refine LinStep.yes fun vals γ w' ρ hR hN hp hρ hc hf hg => ⟨rfl, ?_⟩
      have e21 : ρ (.tmp 21) = _ := (hρ 21).trans (hp 5 (by decide))
      clear hR hN hp hρ t0 t1 t2
      go_light
      go_simp
      exact ⟨γ, LR.refl _ _, fun _ _ _ h => h, rfl⟩
    · intro vals γ w' hR hG
      obtain ⟨Av, cv, Bv, ev, g, hv, hb, -⟩ := hG 7 (by decide)
      have h8 : vals 8 = .int .i64 0 := hG 8 (by decide)
      have HX := Lib.hid hR.drew_ext
      have HB := Lib.hid hb
      clear hR hG hb
      simp only [lexFrame, Act.put, List.setIfInBounds_toArray, List.set_cons_succ, List.set_cons_zero, Nat.zero_add, Nat.reduceAdd, hv, h8]
      generalize vals 0 = u0, vals 1 = u1, vals 2 = u2, vals 3 = u3, vals 4 = u4, vals 5 = u5
      clear hv h8
      go_wp2_with fail
      go_meet
      case rel => exact ⟨g, Av, cv, Bv, ev, rfl, rfl, HX.out, HB.out⟩
  case rest =>
  obtain ⟨g1, Av, cv, Bv, ev, rfl, rfl, hx3, hb3⟩ := hcut
  obtain ⟨w3, rfl⟩ : ∃ w3, w3 = wc := ⟨_, rfl⟩
  have s0 := hx3.cell t0
  have s1 := hx3.cell t1
  have s2 := hx3.cell t2
  have hz3 := hx3.size
  have HX3 := Lib.hid (HX2.out.trans hx3)
  have HB3 := Lib.hid hb3
  have HRL3 := Lib.hid (HRL.out.keep (hx3.kept _))
  clear hx3 hb3 HX2 HRL t0 t1 t2
  have HRL := HRL3
  have t0 := s0
  have t1 := s1
  have t2 := s2
  clear HRL3 s0 s1 s2
  go_upto_region 3 with fail
  go_cut [4, 5] from 15 to 127 (fun p b wx => ∃ g Av cv Bv ev, p = .pointer (some ⟨g, 0, none⟩) ∧ b = .int .i64 18 ∧ Ext w3 wx ∧ Blk wx g 33 #[.int .i64 Val.zero.kind, .string Val.zero.s, .int .i64 Val.zero.dn, .int .i64 Val.zero.ds, .int .i64 Val.zero.n, .slice Av Val.zero.cols.length cv, .slice Bv Val.zero.rows.length ev])
  case first =>
    refine wp_region_lin_lit (by kernel_rfl) dFind (by kernel_rfl) LR LR.refl LR.trans (LN (al1 7 6)) (gFind A c B e sParis Val.zero 18) (gFind_st _ _ _ _ _ _ _) gh0 (LN.zero _) ⟨?_, ?_, ?_, ?_, ?_, ?_, ?_, ?_, ?_, trivial⟩ ?_
    · refine LinStep.yes fun vals γ w' ρ hR hN hp hρ hc hf hg => ⟨rfl, ?_⟩
      have hx := hR.drew_ext
      have c0 := hx.cell t0
      have c1 := hx.cell t1
      have c2 := hx.cell t2
      have e1 : ρ (.tmp 1) = .pointer (some ⟨w1.heap.size, 0, none⟩) := hρ 1
      clear hR hN hp hρ t0 t1 t2 hx
      go_light
      go_simp
      exact ⟨γ, LR.refl _ _, fun _ _ _ h => h, rfl⟩
    · refine LinStep.yes fun vals γ w' ρ hR hN hp hρ hc hf hg => ⟨rfl, ?_⟩
      clear hR hN hp hρ t0 t1 t2
      go_light
      go_simp
      exact (law_text _ _).mono fun e' w3 ⟨he, hx⟩ => ⟨_, he, γ, LR.of_ext γ hx, fun _ _ _ h => h, _, rfl, rfl⟩
    · refine LinStep.yes fun vals γ w' ρ hR hN hp hρ hc hf hg => ⟨rfl, ?_⟩
      have e17 : ρ (.tmp 23) = _ := (hρ 23).trans (hp 0 (by decide))
      obtain ⟨x, hx1, g1⟩ := hp 1 (by decide)
      have e18 : ρ (.tmp 24) = _ := (hρ 24).trans g1
      have HR := Lib.hid hR
      subst hx1
      clear hR hN hp hρ t0 t1 t2 g1
      go_light
      go_simp
      refine (table_Find 1 citiesT sCity (textV sParis) sCountry A B none none c e 0 0 _ (Fresh w) (Fresh w) (HRL.out.keep (HR.out.drew_ext.kept _)) HCP1.out (RV.flat (flat_text _ (by decide)))).mono ?_
      rintro e1 w4 ⟨Av, cv, Bv, ev, he, -, -, hx4⟩
      rw [san_find2] at he
      exact ⟨_, he, γ, LR.of_ext γ hx4, fun _ _ _ h => h, Av, cv, Bv, ev, rfl⟩
    · refine LinStep.yes fun vals γ w' ρ hR hN hp hρ hc hf hg => ⟨rfl, ?_⟩
      obtain ⟨Av, cv, Bv, ev, g⟩ := hp 2 (by decide)
      have e19 : ρ (.tmp 25) = _ := (hρ 25).trans g
      clear hR hN hp hρ t0 t1 t2 g
      go_light
      go_simp
      exact ⟨γ, LR.refl _ _, fun _ _ _ h => h, Av, cv, Bv, ev, rfl⟩
    · refine LinStep.yes fun vals γ w' ρ hR hN hp hρ hc hf hg => ⟨rfl, ?_⟩
      obtain ⟨Av, cv, Bv, ev, g⟩ := hp 3 (by decide)
      have e19 : ρ (.tmp 22) = _ := (hρ 22).trans g
      clear hR hN hp hρ t0 t1 t2 g
      go_light
      go_simp
      exact ⟨γ, LR.refl _ _, fun _ _ _ h => h, Av, cv, Bv, ev, rfl⟩
    · refine LinStep.yes fun vals γ w' ρ hR hN hp hρ hc hf hg => ⟨rfl, ?_⟩
      obtain ⟨Av, cv, Bv, ev, g⟩ := hp 3 (by decide)
      have e19 : ρ (.tmp 22) = _ := (hρ 22).trans g
      clear hR hN hp hρ t0 t1 t2 g
      go_light
      go_simp
      exact ⟨γ, LR.refl _ _, fun _ _ _ h => h, rfl⟩
    · refine LinStep.yes fun vals γ w' ρ hR hN hp hρ hc hf hg => ⟨rfl, ?_⟩
      have HB := Lib.hid hR.inb0
      have HN := Lib.hid hN
      clear hR hN hp hρ t0 t1 t2
      go_light
      go_simp
      exact ⟨γ.put 6 (some w'.heap.size), LR.new (HN.out.2 ⟨7, rfl⟩) _ _, LN.made, VarAt.new HB.out rfl⟩
    · refine LinStep.yes fun vals γ w' ρ hR hN hp hρ hc hf hg => ⟨rfl, ?_⟩
      obtain ⟨Av, cv, Bv, ev, g4⟩ := hp 4 (by decide)
      have e20 : ρ (.tmp 26) = _ := (hρ 26).trans g4
      obtain ⟨g, hv, hcs, hk, hst⟩ := VarAt.store7 (hp 6 (by decide)) (s := 7) (al := al1 7 6) rfl hN
      have e2 : ρ (.tmp 4) = _ := (hρ 4).trans hv
      obtain ⟨⟨x0, x1, x2, x3, x4, x5, x6, k0, k1, k2, k3, k4, k5, k6⟩, kf, kz⟩ := blk7 hcs
      have HST := Lib.hid hst
      have HK := Lib.hid hk
      clear hR hN hp hρ t0 t1 t2 g4 hv hst hcs hk
      go_light
      go_simp
      exact ⟨γ.put 6 none, (HST.out _ _ _ _ _ _ _).1, LN.stored al1_inj rfl HK.out, Av, cv, Bv, ev, (HST.out _ _ _ _ _ _ _).2⟩
    · refine LinStep.yes fun vals γ w' ρ hR hN hp hρ hc hf hg => ⟨rfl, ?_⟩
      have e21 : ρ (.tmp 27) = _ := (hρ 27).trans (hp 5 (by decide))
      clear hR hN hp hρ t0 t1 t2
      go_light
      go_simp
      exact ⟨γ, LR.refl _ _, fun _ _ _ h => h, rfl⟩
    · intro vals γ w' hR hG
      obtain ⟨Av, cv, Bv, ev, g, hv, hb, -⟩ := hG 7 (by decide)
      have h8 : vals 8 = .int .i64 18 := hG 8 (by decide)
      have HX := Lib.hid hR.drew_ext
      have HB := Lib.hid hb
      clear hR hG hb
      simp only [lexFrame, Act.put, List.setIfInBounds_toArray, List.set_cons_succ, List.set_cons_zero, Nat.zero_add, Nat.reduceAdd, hv, h8]
      generalize vals 0 = u0, vals 1 = u1, vals 2 = u2, vals 3 = u3, vals 4 = u4, vals 5 = u5
      clear hv h8
      go_wp2_with fail
      go_meet
      case rel => exact ⟨g, Av, cv, Bv, ev, rfl, rfl, HX.out, HB.out⟩
  case rest =>
  obtain ⟨g2, Av2, cv2, Bv2, ev2, rfl, rfl, hx4, hb4⟩ := hcut
  obtain ⟨w4, rfl⟩ : ∃ w4, w4 = wc := ⟨_, rfl⟩
  have s0 := hx4.cell t0
  have s1 := hx4.cell t1
  have s2 := hx4.cell t2
  have HX4 := Lib.hid (HX3.out.trans hx4)
  have HB1 := Lib.hid (HB3.out.keep (hx4.kept _))
  have HRL4 := Lib.hid (HRL.out.keep (hx4.kept _))
  clear hx4 hb4 HX3 HB3 HRL t0 t1 t2
  go_wp2_with fail
  refine (table_Keys 1 citiesT.cols citiesT.rows A B c e _ (Fresh w) (Fresh w) HRL4.out.2.1 HRL4.out.2.2 (by decide)).mono ?_
  rintro e5 w5 ⟨Ak, ck, he, hck, hrk, hx5⟩
  rw [san_keys] at he hrk
  subst he
  have t0 := hx5.cell s0
  have t1 := hx5.cell s1
  have t2 := hx5.cell s2
  have HX5 := Lib.hid (HX4.out.trans hx5)
  have HB2 := Lib.hid (HB1.out.keep (hx5.kept _))
  have HRL5 := Lib.hid (HRL4.out.keep (hx5.kept _))
  have HRK := Lib.hid hrk
  clear hx5 hrk hck HX4 HB1 HRL4 s0 s1 s2
  go_upto_region 6 with fail
  obtain ⟨w6, hw6⟩ : ∃ w6, w6 = w5a w5 := ⟨_, rfl⟩
  have hx6 := w5a_ext w5
  have hd6 := w5a_mem w5
  rw [← hw6] at hx6 hd6
  unfold w5a sCity sZip sCountry at hw6
  rw [← hw6]
  clear hw6
  have s0 := hx6.cell t0
  have s1 := hx6.cell t1
  have s2 := hx6.cell t2
  have HX6 := Lib.hid (HX5.out.trans hx6)
  have HB3 := Lib.hid (HB2.out.keep (hx6.kept _))
  have HRL6 := Lib.hid (HRL5.out.keep (hx6.kept _))
  have HRK6 := Lib.hid (HRK.out.keep (hx6.kept _))
  have HRD6 := Lib.hid hd6
  clear hx6 hd6 HX5 HB2 HRL5 HRK t0 t1 t2
  go_wp2_with fail
  refine (table_Closure abD [sA] _ _ 2 1 _ _ _ (w6a_mem w6).1 (w6a_mem w6).2 (by decide)).mono ?_
  rintro e7 w7 ⟨ks, hks, A7, c7, he, hc7, hs7, hx7'⟩
  rw [san_clos hks] at he hs7
  subst he
  have hx7 := (w6a_ext w6).trans hx7'
  have t0 := hx7.cell s0
  have t1 := hx7.cell s1
  have t2 := hx7.cell s2
  have HX7 := Lib.hid (HX6.out.trans hx7)
  have HB4 := Lib.hid (HB3.out.keep (hx7.kept _))
  have HRL7 := Lib.hid (HRL6.out.keep (hx7.kept _))
  have HRK7 := Lib.hid (HRK6.out.keep (hx7.kept _))
  have HRD7 := Lib.hid (HRD6.out.keep (hx7.kept _))
  have HS7 := Lib.hid hs7
  clear hx7 hx7' hks ks hc7 hs7 HX6 HB3 HRL6 HRK6 HRD6 s0 s1 s2
  go_wp2_with fail
  refine (law_number _ _).mono ?_
  rintro e8 w8 ⟨rfl, hx8⟩
  have HX8 := Lib.hid hx8
  have hs8 := hx8.size
  clear hx8
  go_wp2_with fail
  refine (law_number _ _).mono ?_
  rintro e9 w9 ⟨rfl, hx9⟩
  have HX9 := Lib.hid hx9
  have hs9 := hx9.size
  clear hx9
  go_wp2_with fail
  refine (law_number _ _).mono ?_
  rintro e10 w10 ⟨rfl, hx10⟩
  have HX10 := Lib.hid hx10
  have hs10 := hx10.size
  clear hx10
  go_upto_region 8 with fail
  obtain ⟨w11, hw11⟩ : ∃ w11, w11 = ((w10.alloc (.cells #[.int .i64 (numV 4 0).kind, .string (numV 4 0).s, .int .i64 (numV 4 0).dn, .int .i64 (numV 4 0).ds, .int .i64 (numV 4 0).n, .slice none (numV 4 0).cols.length 0, .slice none (numV 4 0).rows.length 0] 33)).alloc (.cells #[.slice (some ⟨w8.heap.size, 0, none⟩) 1 1, .slice (some ⟨w9.heap.size, 0, none⟩) 1 1, .slice (some ⟨w10.heap.size, 0, none⟩) 1 1] 45)).alloc
    (.cells #[.int .i64 5, .string ⟨#[]⟩, .int .i64 0, .int .i64 0, .int .i64 0, .slice (some ⟨w7.heap.size, 0, none⟩) 1 1, .slice (some ⟨w10.heap.size + 1, 0, none⟩) 3 3] 33) := ⟨_, rfl⟩
  have x10 : Ext w7 w10 := (((Ext.refl w7).alloc _).trans HX8.out).trans ((((Ext.refl _).alloc _).trans HX9.out).trans (((Ext.refl _).alloc _).trans HX10.out))
  have hb11 : Blk w11 (w10.heap.size + 1 + 1) 33 #[.int .i64 5, .string ⟨#[]⟩, .int .i64 0, .int .i64 0, .int .i64 0, .slice (some ⟨w7.heap.size, 0, none⟩) 1 1, .slice (some ⟨w10.heap.size + 1, 0, none⟩) 3 3] := by rw [hw11]; exact blk_at _ _ _ (by simp)
  have hm11 : RV w11 (fun _ => True) 1 nV (some ⟨w7.heap.size, 0, none⟩) (some ⟨w10.heap.size + 1, 0, none⟩) := by
    rw [hw11]
    exact (nV_mem (S := fun _ => True) (v := w10) ((((Blk.new w7 9 #[.string sN]).keep (HX8.out.kept _)).keep ((((Ext.refl _).alloc _).trans HX9.out).kept _)).keep ((((Ext.refl _).alloc _).trans HX10.out).kept _))
      (((Blk.new w8 33 (rowC [numV 3 0])).keep (HX9.out.kept _)).keep ((((Ext.refl _).alloc _).trans HX10.out).kept _)) ((Blk.new w9 33 (rowC [numV (-5) 0])).keep (HX10.out.kept _)) trivial trivial trivial trivial trivial).keep (Kept.alloc _ _ _)
  have hx11 : Ext w7 w11 := by rw [hw11]; exact ((x10.alloc _).alloc _).alloc _
  rw [← hw11]
  clear hw11 x10 HX8 HX9 HX10 hs8 hs9 hs10
  have s0 := hx11.cell t0
  have s1 := hx11.cell t1
  have s2 := hx11.cell t2
  have HX11 := Lib.hid (HX7.out.trans hx11)
  have HB5 := Lib.hid (HB4.out.keep (hx11.kept _))
  have HRL11 := Lib.hid (HRL7.out.keep (hx11.kept _))
  have HRK11 := Lib.hid (HRK7.out.keep (hx11.kept _))
  have HRD11 := Lib.hid (HRD7.out.keep (hx11.kept _))
  have HS11 := Lib.hid (HS7.out.keep (hx11.kept _))
  have HN11 := Lib.hid hm11
  have HNB := Lib.hid hb11
  have n0 := hb11.cell (i := 0) rfl
  have n1 := hb11.cell (i := 1) rfl
  have n2 := hb11.cell (i := 2) rfl
  have n3 := hb11.cell (i := 3) rfl
  have n4 := hb11.cell (i := 4) rfl
  have n5 := hb11.cell (i := 5) rfl
  have n6 := hb11.cell (i := 6) rfl
  clear hx11 hb11 hm11 HX7 HB4 HRL7 HRK7 HRD7 HS7 t0 t1 t2
  go_wp2_with fail
  refine (table_Sum 1 nV sN (-2) 0 _ _ 1 3 _ (fun _ => True) HN11.out (by decide) (HT.out.ext HX11.out)).mono ?_
  rintro e12 w12 ⟨As, cs, Bs, es, he, -, -, hx12⟩
  rw [san_sum1] at he
  have he2 : e12 = .returned (.tuple #[(.agg #[.int .i64 twoV.kind, .string twoV.s, .int .i64 twoV.dn, .int .i64 twoV.ds, .int .i64 twoV.n, .slice As twoV.cols.length cs, .slice Bs twoV.rows.length es]), .int .i64 0]) := he
  clear he
  subst he2
  clear HNB
  have HX12 := Lib.hid (HX11.out.trans hx12)
  have c120 := hx12.cell s0
  have c121 := hx12.cell s1
  have c122 := hx12.cell s2
  have K120 := Lib.hid (HB5.out.keep (hx12.kept _))
  have K121 := Lib.hid (HRL11.out.keep (hx12.kept _))
  have K122 := Lib.hid (HRK11.out.keep (hx12.kept _))
  have K123 := Lib.hid (HRD11.out.keep (hx12.kept _))
  have K124 := Lib.hid (HS11.out.keep (hx12.kept _))
  have K125 := Lib.hid (HN11.out.keep (hx12.kept _))
  have n120 := hx12.cell n0
  have n121 := hx12.cell n1
  have n122 := hx12.cell n2
  have n123 := hx12.cell n3
  have n124 := hx12.cell n4
  have n125 := hx12.cell n5
  have n126 := hx12.cell n6
  clear hx12 HX11 HB5 HRL11 HRK11 HRD11 HS11 HN11 s0 s1 s2 n0 n1 n2 n3 n4 n5 n6
  go_upto_region 9 with fail
  obtain ⟨w13, hw13⟩ : ∃ w13, w13 = w12.alloc (.cells #[.int .i64 twoV.kind, .string twoV.s, .int .i64 twoV.dn, .int .i64 twoV.ds, .int .i64 twoV.n, .slice As twoV.cols.length cs, .slice Bs twoV.rows.length es] 33) := ⟨_, rfl⟩
  have hx13 : Ext w12 w13 := by rw [hw13]; exact (Ext.refl _).alloc _
  have HB13 := Lib.hid (show Blk w13 w12.heap.size 33 #[.int .i64 twoV.kind, .string twoV.s, .int .i64 twoV.dn, .int .i64 twoV.ds, .int .i64 twoV.n, .slice As twoV.cols.length cs, .slice Bs twoV.rows.length es] by rw [hw13]; exact Blk.new _ _ _)
  rw [← hw13]
  clear hw13
  have HX13 := Lib.hid (HX12.out.trans hx13)
  have c130 := hx13.cell c120
  have c131 := hx13.cell c121
  have c132 := hx13.cell c122
  have K130 := Lib.hid (K120.out.keep (hx13.kept _))
  have K131 := Lib.hid (K121.out.keep (hx13.kept _))
  have K132 := Lib.hid (K122.out.keep (hx13.kept _))
  have K133 := Lib.hid (K123.out.keep (hx13.kept _))
  have K134 := Lib.hid (K124.out.keep (hx13.kept _))
  have K135 := Lib.hid (K125.out.keep (hx13.kept _))
  have n130 := hx13.cell n120
  have n131 := hx13.cell n121
  have n132 := hx13.cell n122
  have n133 := hx13.cell n123
  have n134 := hx13.cell n124
  have n135 := hx13.cell n125
  have n136 := hx13.cell n126
  clear hx13 HX12 K120 K121 K122 K123 K124 K125 c120 c121 c122 n120 n121 n122 n123 n124 n125 n126
  go_wp2_with fail
  refine (table_Sum 1 nV sN 0 0 _ _ 1 3 _ (fun _ => True) K135.out (by decide) (HT.out.ext HX13.out)).mono ?_
  rintro e14 w14 ⟨As', cs', Bs', es', he, -, -, hx14⟩
  rw [san_sum2] at he
  have he2 : e14 = .returned (.tuple #[(.agg #[.int .i64 Val.zero.kind, .string Val.zero.s, .int .i64 Val.zero.dn, .int .i64 Val.zero.ds, .int .i64 Val.zero.n, .slice As' Val.zero.cols.length cs', .slice Bs' Val.zero.rows.length es']), .int .i64 20]) := he
  clear he
  subst he2
  have HB14 := Lib.hid (HB13.out.keep (hx14.kept _))
  clear HB13
  have HX14 := Lib.hid (HX13.out.trans hx14)
  have c140 := hx14.cell c130
  have c141 := hx14.cell c131
  have c142 := hx14.cell c132
  have K140 := Lib.hid (K130.out.keep (hx14.kept _))
  have K141 := Lib.hid (K131.out.keep (hx14.kept _))
  have K142 := Lib.hid (K132.out.keep (hx14.kept _))
  have K143 := Lib.hid (K133.out.keep (hx14.kept _))
  have K144 := Lib.hid (K134.out.keep (hx14.kept _))
  have K145 := Lib.hid (K135.out.keep (hx14.kept _))
  have n140 := hx14.cell n130
  have n141 := hx14.cell n131
  have n142 := hx14.cell n132
  have n143 := hx14.cell n133
  have n144 := hx14.cell n134
  have n145 := hx14.cell n135
  have n146 := hx14.cell n136
  clear hx14 HX13 K130 K131 K132 K133 K134 K135 c130 c131 c132 n130 n131 n132 n133 n134 n135 n136
  clear n140 n141 n142 n143 n144 n145 n146
  go_upto_region 10 with fail
  obtain ⟨w15, hw15⟩ : ∃ w15, w15 = w14.alloc (.cells #[.int .i64 Val.zero.kind, .string Val.zero.s, .int .i64 Val.zero.dn, .int .i64 Val.zero.ds, .int .i64 Val.zero.n, .slice As' Val.zero.cols.length cs', .slice Bs' Val.zero.rows.length es'] 33) := ⟨_, rfl⟩
  have hx15 : Ext w14 w15 := by rw [hw15]; exact (Ext.refl _).alloc _
  rw [← hw15]
  clear hw15
  have HB15 := Lib.hid (HB14.out.keep (hx15.kept _))
  clear HB14
  have HX15 := Lib.hid (HX14.out.trans hx15)
  have c150 := hx15.cell c140
  have c151 := hx15.cell c141
  have c152 := hx15.cell c142
  have K150 := Lib.hid (K140.out.keep (hx15.kept _))
  have K151 := Lib.hid (K141.out.keep (hx15.kept _))
  have K152 := Lib.hid (K142.out.keep (hx15.kept _))
  have K153 := Lib.hid (K143.out.keep (hx15.kept _))
  have K154 := Lib.hid (K144.out.keep (hx15.kept _))
  have K155 := Lib.hid (K145.out.keep (hx15.kept _))
  clear hx15 HX14 K140 K141 K142 K143 K144 K145 c140 c141 c142
  go_wp2_with fail
  refine (table_Holds 1 citiesT.cols citiesT.rows [sCountry] sZip A B _ c e 1 _ (Fresh w) (Fresh w) (fun _ => True) (K151.out.2.1.keep (Kept.alloc _ _ _)) (K151.out.2.2.keep (Kept.alloc _ _ _)) (Strs.one (Blk.new w15 9 #[.string sCountry]) (by decide) trivial)).mono ?_
  rintro e16 w16 ⟨he, hx16'⟩
  rw [san_hold1] at he
  subst he
  have hx16 := ((Ext.refl w15).alloc _).trans hx16'
  clear hx16'
  have HB16 := Lib.hid (HB15.out.keep (hx16.kept _))
  clear HB15
  have HX16 := Lib.hid (HX15.out.trans hx16)
  have c160 := hx16.cell c150
  have c161 := hx16.cell c151
  have c162 := hx16.cell c152
  have K160 := Lib.hid (K150.out.keep (hx16.kept _))
  have K161 := Lib.hid (K151.out.keep (hx16.kept _))
  have K162 := Lib.hid (K152.out.keep (hx16.kept _))
  have K163 := Lib.hid (K153.out.keep (hx16.kept _))
  have K164 := Lib.hid (K154.out.keep (hx16.kept _))
  have K165 := Lib.hid (K155.out.keep (hx16.kept _))
  clear hx16 HX15 K150 K151 K152 K153 K154 K155 c150 c151 c152
  go_wp2_with fail
  refine (table_Holds 1 citiesT.cols citiesT.rows [sCity] sCountry A B _ c e 1 _ (Fresh w) (Fresh w) (fun _ => True) (K161.out.2.1.keep (Kept.alloc _ _ _)) (K161.out.2.2.keep (Kept.alloc _ _ _)) (Strs.one (Blk.new w16 9 #[.string sCity]) (by decide) trivial)).mono ?_
  rintro e17 w17 ⟨he, hx17'⟩
  rw [san_hold2] at he
  subst he
  have hx17 := ((Ext.refl w16).alloc _).trans hx17'
  clear hx17'
  have HB17 := Lib.hid (HB16.out.keep (hx17.kept _))
  clear HB16
  have HX17 := Lib.hid (HX16.out.trans hx17)
  have c170 := hx17.cell c160
  have c171 := hx17.cell c161
  have c172 := hx17.cell c162
  have K170 := Lib.hid (K160.out.keep (hx17.kept _))
  have K171 := Lib.hid (K161.out.keep (hx17.kept _))
  have K172 := Lib.hid (K162.out.keep (hx17.kept _))
  have K173 := Lib.hid (K163.out.keep (hx17.kept _))
  have K174 := Lib.hid (K164.out.keep (hx17.kept _))
  have K175 := Lib.hid (K165.out.keep (hx17.kept _))
  clear hx17 HX16 K160 K161 K162 K163 K164 K165 c160 c161 c162
  go_upto_region 11 with fail
  refine wp_region_lin_lit (by kernel_rfl) dSan (by kernel_rfl) LR LR.refl LR.trans (LN al0) (gSan A c B e Av cv Bv ev Ak ck w5 A7 c7 As cs Bs es) (gSan_st _ _ _ _ _ _ _ _ _ _ _ _ _ _ _ _ _) gh0 (LN.zero _) ⟨?_, ?_, ?_, ?_, ?_, ?_, ?_, ?_, ?_, ?_, ?_, ?_, ?_, ?_, ?_, ?_, ?_, ?_, ?_, ?_, ?_, ?_, ?_, ?_, ?_, ?_, ?_, ?_, ?_, ?_, ?_, ?_, ?_, ?_, ?_, ?_, ?_, ?_, ?_, ?_, ?_, ?_, trivial⟩ ?_
  · refine LinStep.yes fun vals γ w' ρ hR hN hp hρ hc hf hg => ⟨rfl, ?_⟩
    have hx := hR.drew_ext
    have c0 := hx.cell c170
    have c1 := hx.cell c171
    have c2 := hx.cell c172
    have e1 : ρ (.tmp 1) = .pointer (some ⟨w1.heap.size, 0, none⟩) := hρ 1
    clear hx
    have HR := Lib.hid hR
    clear hR hN hp hρ c170 c171 c172
    go_light
    go_simp
    exact ⟨γ, LR.refl _ _, fun _ _ _ h => h, rfl⟩
  · refine LinStep.yes fun vals γ w' ρ hR hN hp hρ hc hf hg => ⟨rfl, ?_⟩
    have e87 : ρ (.tmp 87) = (.agg #[.string citiesT.name, .slice A citiesT.cols.length c, .slice B citiesT.rows.length e]) := (hρ 87).trans (hp 0 (by decide))
    have HR := Lib.hid hR
    clear hR hN hp hρ c170 c171 c172
    go_light
    go_simp
    refine (table_Right 1 citiesT A B c e _ (Fresh w) (K171.out.keep (HR.out.drew_ext.kept _)) HCP1.out).mono ?_
    rintro e' w3 ⟨he, hx⟩
    rw [san_right] at he
    exact ⟨_, he, γ, LR.of_ext γ hx, fun _ _ _ h => h, rfl⟩
  · refine LinStep.yes fun vals γ w' ρ hR hN hp hρ hc hf hg => ⟨rfl, ?_⟩
    have e88 : ρ (.tmp 88) = .bool true := (hρ 88).trans (hp 1 (by decide))
    have HR := Lib.hid hR
    clear hR hN hp hρ c170 c171 c172
    go_light
    go_simp
    exact ⟨γ, LR.refl _ _, fun _ _ _ h => h, rfl⟩
  · refine LinStep.yes fun vals γ w' ρ hR hN hp hρ hc hf hg => ⟨by show (boolOf (vals 2) == some true) = true; rw [show vals 2 = .bool true from hp 2 (by decide)]; rfl, ?_⟩
    have e3 : ρ (.tmp 3) = .int .i64 0 := hρ 3
    have HR := Lib.hid hR
    clear hR hN hp hρ c170 c171 c172
    go_light
    go_simp
    exact ⟨γ, LR.refl _ _, fun _ _ _ h => h, rfl⟩
  · refine LinStep.yes fun vals γ w' ρ hR hN hp hρ hc hf hg => ⟨by show (boolOf (vals 2) == some true) = true; rw [show vals 2 = .bool true from hp 2 (by decide)]; rfl, ?_⟩
    have e90 : ρ (.tmp 90) = .int .i64 0 := (hρ 90).trans (hp 3 (by decide))
    have HR := Lib.hid hR
    clear hR hN hp hρ c170 c171 c172
    go_light
    go_simp
    exact ⟨γ, LR.refl _ _, fun _ _ _ h => h, rfl⟩
  · refine LinStep.yes fun vals γ w' ρ hR hN hp hρ hc hf hg => ⟨rfl, ?_⟩
    have e89 : ρ (.tmp 89) = .bool true := (hρ 89).trans (hp 2 (by decide))
    have e91 : ρ (.tmp 91) = .bool true := (hρ 91).trans (hp 4 (by decide))
    have HR := Lib.hid hR
    clear hR hN hp hρ c170 c171 c172
    go_light
    go_simp
    exact ⟨γ, LR.refl _ _, fun _ _ _ h => h, rfl⟩
  · refine LinStep.yes fun vals γ w' ρ hR hN hp hρ hc hf hg => ⟨rfl, ?_⟩
    have e92 : ρ (.tmp 92) = .bool true := (hρ 92).trans (hp 5 (by decide))
    have HR := Lib.hid hR
    clear hR hN hp hρ c170 c171 c172
    go_light
    go_simp
    exact ⟨γ, LR.refl _ _, fun _ _ _ h => h, rfl⟩
  · refine LinStep.yes fun vals γ w' ρ hR hN hp hρ hc hf hg => ⟨by show (boolOf (vals 6) == some true) = true; rw [show vals 6 = .bool true from hp 6 (by decide)]; rfl, ?_⟩
    have e2 : ρ (.tmp 2) = .pointer (some ⟨g1, 0, none⟩) := hρ 2
    have hb := (K170.out).keep (hR.drew_ext.kept _)
    have k0 := hb.cell (i := 0) rfl
    have k1 := hb.cell (i := 1) rfl
    have k2 := hb.cell (i := 2) rfl
    have k3 := hb.cell (i := 3) rfl
    have k4 := hb.cell (i := 4) rfl
    have k5 := hb.cell (i := 5) rfl
    have k6 := hb.cell (i := 6) rfl
    clear hb
    have HR := Lib.hid hR
    clear hR hN hp hρ c170 c171 c172
    go_light
    go_simp
    exact ⟨γ, LR.refl _ _, fun _ _ _ h => h, rfl⟩
  · refine LinStep.yes fun vals γ w' ρ hR hN hp hρ hc hf hg => ⟨by show (boolOf (vals 6) == some true) = true; rw [show vals 6 = .bool true from hp 6 (by decide)]; rfl, ?_⟩
    have HR := Lib.hid hR
    clear hR hN hp hρ c170 c171 c172
    go_light
    go_simp
    exact (law_text _ _).mono fun e' w3 ⟨he, hx⟩ => ⟨_, he, γ, LR.of_ext γ hx, fun _ _ _ h => h, rfl⟩
  · refine LinStep.yes fun vals γ w' ρ hR hN hp hρ hc hf hg => ⟨by show (boolOf (vals 6) == some true) = true; rw [show vals 6 = .bool true from hp 6 (by decide)]; rfl, ?_⟩
    have e94 : ρ (.tmp 94) = (.agg #[.int .i64 noV.kind, .string noV.s, .int .i64 noV.dn, .int .i64 noV.ds, .int .i64 noV.n, .slice Av noV.cols.length cv, .slice Bv noV.rows.length ev]) := (hρ 94).trans (hp 7 (by decide))
    have e95 : ρ (.tmp 95) = (.agg #[.int .i64 noV.kind, .string noV.s, .int .i64 noV.dn, .int .i64 noV.ds, .int .i64 noV.n, .slice none noV.cols.length 0, .slice none noV.rows.length 0]) := (hρ 95).trans (hp 8 (by decide))
    have HR := Lib.hid hR
    clear hR hN hp hρ c170 c171 c172
    go_light
    go_simp
    refine (r06_Equal 1 noV noV Av Bv none none cv ev 0 0 _ (Fresh w) (Fresh w) (RV.flat (flat_text _ (by decide))) (RV.flat (flat_text _ (by decide)))).mono ?_
    rintro e' w3 ⟨he, hx⟩
    rw [decide_eq_true rfl] at he
    exact ⟨_, he, γ, LR.of_ext γ hx, fun _ _ _ h => h, rfl⟩
  · refine LinStep.yes fun vals γ w' ρ hR hN hp hρ hc hf hg => ⟨rfl, ?_⟩
    have e93 : ρ (.tmp 93) = .bool true := (hρ 93).trans (hp 6 (by decide))
    have e96 : ρ (.tmp 96) = .bool true := (hρ 96).trans (hp 9 (by decide))
    have HR := Lib.hid hR
    clear hR hN hp hρ c170 c171 c172
    go_light
    go_simp
    exact ⟨γ, LR.refl _ _, fun _ _ _ h => h, rfl⟩
  · refine LinStep.yes fun vals γ w' ρ hR hN hp hρ hc hf hg => ⟨rfl, ?_⟩
    have e97 : ρ (.tmp 97) = .bool true := (hρ 97).trans (hp 10 (by decide))
    have HR := Lib.hid hR
    clear hR hN hp hρ c170 c171 c172
    go_light
    go_simp
    exact ⟨γ, LR.refl _ _, fun _ _ _ h => h, rfl⟩
  · refine LinStep.yes fun vals γ w' ρ hR hN hp hρ hc hf hg => ⟨by show (boolOf (vals 11) == some true) = true; rw [show vals 11 = .bool true from hp 11 (by decide)]; rfl, ?_⟩
    have e5 : ρ (.tmp 5) = .int .i64 18 := hρ 5
    have HR := Lib.hid hR
    clear hR hN hp hρ c170 c171 c172
    go_light
    go_simp
    exact ⟨γ, LR.refl _ _, fun _ _ _ h => h, rfl⟩
  · refine LinStep.yes fun vals γ w' ρ hR hN hp hρ hc hf hg => ⟨by show (boolOf (vals 11) == some true) = true; rw [show vals 11 = .bool true from hp 11 (by decide)]; rfl, ?_⟩
    have e99 : ρ (.tmp 99) = .int .i64 18 := (hρ 99).trans (hp 12 (by decide))
    have HR := Lib.hid hR
    clear hR hN hp hρ c170 c171 c172
    go_light
    go_simp
    exact ⟨γ, LR.refl _ _, fun _ _ _ h => h, rfl⟩
  · refine LinStep.yes fun vals γ w' ρ hR hN hp hρ hc hf hg => ⟨rfl, ?_⟩
    have e98 : ρ (.tmp 98) = .bool true := (hρ 98).trans (hp 11 (by decide))
    have e100 : ρ (.tmp 100) = .bool true := (hρ 100).trans (hp 13 (by decide))
    have HR := Lib.hid hR
    clear hR hN hp hρ c170 c171 c172
    go_light
    go_simp
    exact ⟨γ, LR.refl _ _, fun _ _ _ h => h, rfl⟩
  · refine LinStep.yes fun vals γ w' ρ hR hN hp hρ hc hf hg => ⟨rfl, ?_⟩
    have e101 : ρ (.tmp 101) = .bool true := (hρ 101).trans (hp 14 (by decide))
    have HR := Lib.hid hR
    clear hR hN hp hρ c170 c171 c172
    go_light
    go_simp
    exact ⟨γ, LR.refl _ _, fun _ _ _ h => h, rfl⟩
  · refine LinStep.yes fun vals γ w' ρ hR hN hp hρ hc hf hg => ⟨by show (boolOf (vals 15) == some true) = true; rw [show vals 15 = .bool true from hp 15 (by decide)]; rfl, ?_⟩
    have e6 : ρ (.tmp 6) = .slice Ak wantD.length ck := hρ 6
    have HR := Lib.hid hR
    clear hR hN hp hρ c170 c171 c172
    go_light
    go_simp
    exact ⟨γ, LR.refl _ _, fun _ _ _ h => h, rfl⟩
  · refine LinStep.yes fun vals γ w' ρ hR hN hp hρ hc hf hg => ⟨by show (boolOf (vals 15) == some true) = true; rw [show vals 15 = .bool true from hp 15 (by decide)]; rfl, ?_⟩
    have e7 : ρ (.tmp 7) = .slice (some ⟨w5.heap.size + 1 + 1 + 1 + 1, 0, none⟩) 4 4 := hρ 7
    have HR := Lib.hid hR
    clear hR hN hp hρ c170 c171 c172
    go_light
    go_simp
    exact ⟨γ, LR.refl _ _, fun _ _ _ h => h, rfl⟩
  · refine LinStep.yes fun vals γ w' ρ hR hN hp hρ hc hf hg => ⟨by show (boolOf (vals 15) == some true) = true; rw [show vals 15 = .bool true from hp 15 (by decide)]; rfl, ?_⟩
    have e103 : ρ (.tmp 103) = .slice Ak wantD.length ck := (hρ 103).trans (hp 16 (by decide))
    have e104 : ρ (.tmp 104) = .slice (some ⟨w5.heap.size + 1 + 1 + 1 + 1, 0, none⟩) 4 4 := (hρ 104).trans (hp 17 (by decide))
    have HR := Lib.hid hR
    clear hR hN hp hρ c170 c171 c172
    go_light
    go_simp
    refine (r09_Deps wantD Ak _ ck 4 _ _ _ (K172.out.keep (HR.out.drew_ext.kept _)) (K173.out.keep (HR.out.drew_ext.kept _))).mono ?_
    rintro e' w3 ⟨he, n, rfl⟩
    exact ⟨_, he, γ, LR.of_ext γ ((Ext.refl _).drewN n), fun _ _ _ h => h, rfl⟩
  · refine LinStep.yes fun vals γ w' ρ hR hN hp hρ hc hf hg => ⟨rfl, ?_⟩
    have e102 : ρ (.tmp 102) = .bool true := (hρ 102).trans (hp 15 (by decide))
    have e105 : ρ (.tmp 105) = .bool true := (hρ 105).trans (hp 18 (by decide))
    have HR := Lib.hid hR
    clear hR hN hp hρ c170 c171 c172
    go_light
    go_simp
    exact ⟨γ, LR.refl _ _, fun _ _ _ h => h, rfl⟩
  · refine LinStep.yes fun vals γ w' ρ hR hN hp hρ hc hf hg => ⟨rfl, ?_⟩
    have e106 : ρ (.tmp 106) = .bool true := (hρ 106).trans (hp 19 (by decide))
    have HR := Lib.hid hR
    clear hR hN hp hρ c170 c171 c172
    go_light
    go_simp
    exact ⟨γ, LR.refl _ _, fun _ _ _ h => h, rfl⟩
  · refine LinStep.yes fun vals γ w' ρ hR hN hp hρ hc hf hg => ⟨by show (boolOf (vals 20) == some true) = true; rw [show vals 20 = .bool true from hp 20 (by decide)]; rfl, ?_⟩
    have e14 : ρ (.tmp 14) = .bool true := hρ 14
    have HR := Lib.hid hR
    clear hR hN hp hρ c170 c171 c172
    go_light
    go_simp
    exact ⟨γ, LR.refl _ _, fun _ _ _ h => h, rfl⟩
  · refine LinStep.yes fun vals γ w' ρ hR hN hp hρ hc hf hg => ⟨rfl, ?_⟩
    have e107 : ρ (.tmp 107) = .bool true := (hρ 107).trans (hp 20 (by decide))
    have e108 : ρ (.tmp 108) = .bool true := (hρ 108).trans (hp 21 (by decide))
    have HR := Lib.hid hR
    clear hR hN hp hρ c170 c171 c172
    go_light
    go_simp
    exact ⟨γ, LR.refl _ _, fun _ _ _ h => h, rfl⟩
  · refine LinStep.yes fun vals γ w' ρ hR hN hp hρ hc hf hg => ⟨rfl, ?_⟩
    have e109 : ρ (.tmp 109) = .bool true := (hρ 109).trans (hp 22 (by decide))
    have HR := Lib.hid hR
    clear hR hN hp hρ c170 c171 c172
    go_light
    go_simp
    exact ⟨γ, LR.refl _ _, fun _ _ _ h => h, rfl⟩
  · refine LinStep.yes fun vals γ w' ρ hR hN hp hρ hc hf hg => ⟨by show (boolOf (vals 23) == some true) = true; rw [show vals 23 = .bool true from hp 23 (by decide)]; rfl, ?_⟩
    have e8 : ρ (.tmp 8) = .slice A7 3 c7 := hρ 8
    have HR := Lib.hid hR
    clear hR hN hp hρ c170 c171 c172
    go_light
    go_simp
    exact ⟨γ, LR.refl _ _, fun _ _ _ h => h, rfl⟩
  · refine LinStep.yes fun vals γ w' ρ hR hN hp hρ hc hf hg => ⟨by show (boolOf (vals 23) == some true) = true; rw [show vals 23 = .bool true from hp 23 (by decide)]; rfl, ?_⟩
    have HR := Lib.hid hR
    clear hR hN hp hρ c170 c171 c172
    go_light
    go_simp
    refine ⟨γ, LR.of_ext γ ((Ext.refl _).alloc _), fun _ _ _ h => h, _, rfl, ?_⟩
    refine (Strs.of_blk (Blk.new w' 9 #[.string sA, .string sB, .string sC]) rfl (by decide) (by decide)).mono fun b _ hb => ?_
    rintro ⟨k, hk⟩
    have := HR.out.inb0 k b hk
    omega
  · refine LinStep.yes fun vals γ w' ρ hR hN hp hρ hc hf hg => ⟨by show (boolOf (vals 23) == some true) = true; rw [show vals 23 = .bool true from hp 23 (by decide)]; rfl, ?_⟩
    have e111 : ρ (.tmp 111) = .slice A7 3 c7 := (hρ 111).trans (hp 24 (by decide))
    obtain ⟨gb, hv25, hs25⟩ := hp 25 (by decide)
    have e112 : ρ (.tmp 112) = _ := (hρ 112).trans hv25
    have HS25 := Lib.hid hs25
    clear hv25 hs25
    have HR := Lib.hid hR
    clear hR hN hp hρ c170 c171 c172
    go_light
    go_simp
    refine (r06_StringsSame A7 _ c7 3 [sA, sB, sC] _ _ _ (K174.out.keep (HR.out.drew_ext.kept _)) HS25.out).mono ?_
    rintro e' w3 ⟨he, n, rfl⟩
    exact ⟨_, he, γ, LR.of_ext γ ((Ext.refl _).drewN n), fun _ _ _ h => h, rfl⟩
  · refine LinStep.yes fun vals γ w' ρ hR hN hp hρ hc hf hg => ⟨rfl, ?_⟩
    have e110 : ρ (.tmp 110) = .bool true := (hρ 110).trans (hp 23 (by decide))
    have e113 : ρ (.tmp 113) = .bool true := (hρ 113).trans (hp 26 (by decide))
    have HR := Lib.hid hR
    clear hR hN hp hρ c170 c171 c172
    go_light
    go_simp
    exact ⟨γ, LR.refl _ _, fun _ _ _ h => h, rfl⟩
  · refine LinStep.yes fun vals γ w' ρ hR hN hp hρ hc hf hg => ⟨rfl, ?_⟩
    have e114 : ρ (.tmp 114) = .bool true := (hρ 114).trans (hp 27 (by decide))
    have HR := Lib.hid hR
    clear hR hN hp hρ c170 c171 c172
    go_light
    go_simp
    exact ⟨γ, LR.refl _ _, fun _ _ _ h => h, rfl⟩
  · refine LinStep.yes fun vals γ w' ρ hR hN hp hρ hc hf hg => ⟨by show (boolOf (vals 28) == some true) = true; rw [show vals 28 = .bool true from hp 28 (by decide)]; rfl, ?_⟩
    have e11 : ρ (.tmp 11) = .int .i64 0 := hρ 11
    have HR := Lib.hid hR
    clear hR hN hp hρ c170 c171 c172
    go_light
    go_simp
    exact ⟨γ, LR.refl _ _, fun _ _ _ h => h, rfl⟩
  · refine LinStep.yes fun vals γ w' ρ hR hN hp hρ hc hf hg => ⟨by show (boolOf (vals 28) == some true) = true; rw [show vals 28 = .bool true from hp 28 (by decide)]; rfl, ?_⟩
    have e116 : ρ (.tmp 116) = .int .i64 0 := (hρ 116).trans (hp 29 (by decide))
    have HR := Lib.hid hR
    clear hR hN hp hρ c170 c171 c172
    go_light
    go_simp
    exact ⟨γ, LR.refl _ _, fun _ _ _ h => h, rfl⟩
  · refine LinStep.yes fun vals γ w' ρ hR hN hp hρ hc hf hg => ⟨rfl, ?_⟩
    have e115 : ρ (.tmp 115) = .bool true := (hρ 115).trans (hp 28 (by decide))
    have e117 : ρ (.tmp 117) = .bool true := (hρ 117).trans (hp 30 (by decide))
    have HR := Lib.hid hR
    clear hR hN hp hρ c170 c171 c172
    go_light
    go_simp
    exact ⟨γ, LR.refl _ _, fun _ _ _ h => h, rfl⟩
  · refine LinStep.yes fun vals γ w' ρ hR hN hp hρ hc hf hg => ⟨rfl, ?_⟩
    have e118 : ρ (.tmp 118) = .bool true := (hρ 118).trans (hp 31 (by decide))
    have HR := Lib.hid hR
    clear hR hN hp hρ c170 c171 c172
    go_light
    go_simp
    exact ⟨γ, LR.refl _ _, fun _ _ _ h => h, rfl⟩
  · refine LinStep.yes fun vals γ w' ρ hR hN hp hρ hc hf hg => ⟨by show (boolOf (vals 32) == some true) = true; rw [show vals 32 = .bool true from hp 32 (by decide)]; rfl, ?_⟩
    have e10 : ρ (.tmp 10) = .pointer (some ⟨w12.heap.size, 0, none⟩) := hρ 10
    have hb := (HB17.out).keep (hR.drew_ext.kept _)
    have k0 := hb.cell (i := 0) rfl
    have k1 := hb.cell (i := 1) rfl
    have k2 := hb.cell (i := 2) rfl
    have k3 := hb.cell (i := 3) rfl
    have k4 := hb.cell (i := 4) rfl
    have k5 := hb.cell (i := 5) rfl
    have k6 := hb.cell (i := 6) rfl
    clear hb
    have HR := Lib.hid hR
    clear hR hN hp hρ c170 c171 c172
    go_light
    go_simp
    exact ⟨γ, LR.refl _ _, fun _ _ _ h => h, rfl⟩
  · refine LinStep.yes fun vals γ w' ρ hR hN hp hρ hc hf hg => ⟨by show (boolOf (vals 32) == some true) = true; rw [show vals 32 = .bool true from hp 32 (by decide)]; rfl, ?_⟩
    have HR := Lib.hid hR
    clear hR hN hp hρ c170 c171 c172
    go_light
    go_simp
    exact (law_number _ _).mono fun e' w3 ⟨he, hx⟩ => ⟨_, he, γ, LR.of_ext γ hx, fun _ _ _ h => h, rfl⟩
  · refine LinStep.yes fun vals γ w' ρ hR hN hp hρ hc hf hg => ⟨by show (boolOf (vals 32) == some true) = true; rw [show vals 32 = .bool true from hp 32 (by decide)]; rfl, ?_⟩
    have e120 : ρ (.tmp 120) = (.agg #[.int .i64 twoV.kind, .string twoV.s, .int .i64 twoV.dn, .int .i64 twoV.ds, .int .i64 twoV.n, .slice As twoV.cols.length cs, .slice Bs twoV.rows.length es]) := (hρ 120).trans (hp 33 (by decide))
    have e121 : ρ (.tmp 121) = (.agg #[.int .i64 twoV.kind, .string twoV.s, .int .i64 twoV.dn, .int .i64 twoV.ds, .int .i64 twoV.n, .slice none twoV.cols.length 0, .slice none twoV.rows.length 0]) := (hρ 121).trans (hp 34 (by decide))
    have HR := Lib.hid hR
    clear hR hN hp hρ c170 c171 c172
    go_light
    go_simp
    refine (r06_Equal 1 twoV twoV As Bs none none cs es 0 0 _ (Fresh w) (Fresh w) (RV.flat (flat_num _ _)) (RV.flat (flat_num _ _))).mono ?_
    rintro e' w3 ⟨he, hx⟩
    rw [decide_eq_true rfl] at he
    exact ⟨_, he, γ, LR.of_ext γ hx, fun _ _ _ h => h, rfl⟩
  · refine LinStep.yes fun vals γ w' ρ hR hN hp hρ hc hf hg => ⟨rfl, ?_⟩
    have e119 : ρ (.tmp 119) = .bool true := (hρ 119).trans (hp 32 (by decide))
    have e122 : ρ (.tmp 122) = .bool true := (hρ 122).trans (hp 35 (by decide))
    have HR := Lib.hid hR
    clear hR hN hp hρ c170 c171 c172
    go_light
    go_simp
    exact ⟨γ, LR.refl _ _, fun _ _ _ h => h, rfl⟩
  · refine LinStep.yes fun vals γ w' ρ hR hN hp hρ hc hf hg => ⟨rfl, ?_⟩
    have e123 : ρ (.tmp 123) = .bool true := (hρ 123).trans (hp 36 (by decide))
    have HR := Lib.hid hR
    clear hR hN hp hρ c170 c171 c172
    go_light
    go_simp
    exact ⟨γ, LR.refl _ _, fun _ _ _ h => h, rfl⟩
  · refine LinStep.yes fun vals γ w' ρ hR hN hp hρ hc hf hg => ⟨by show (boolOf (vals 37) == some true) = true; rw [show vals 37 = .bool true from hp 37 (by decide)]; rfl, ?_⟩
    have e13 : ρ (.tmp 13) = .int .i64 20 := hρ 13
    have HR := Lib.hid hR
    clear hR hN hp hρ c170 c171 c172
    go_light
    go_simp
    exact ⟨γ, LR.refl _ _, fun _ _ _ h => h, rfl⟩
  · refine LinStep.yes fun vals γ w' ρ hR hN hp hρ hc hf hg => ⟨by show (boolOf (vals 37) == some true) = true; rw [show vals 37 = .bool true from hp 37 (by decide)]; rfl, ?_⟩
    have e125 : ρ (.tmp 125) = .int .i64 20 := (hρ 125).trans (hp 38 (by decide))
    have HR := Lib.hid hR
    clear hR hN hp hρ c170 c171 c172
    go_light
    go_simp
    exact ⟨γ, LR.refl _ _, fun _ _ _ h => h, rfl⟩
  · refine LinStep.yes fun vals γ w' ρ hR hN hp hρ hc hf hg => ⟨rfl, ?_⟩
    have e124 : ρ (.tmp 124) = .bool true := (hρ 124).trans (hp 37 (by decide))
    have e126 : ρ (.tmp 126) = .bool true := (hρ 126).trans (hp 39 (by decide))
    have HR := Lib.hid hR
    clear hR hN hp hρ c170 c171 c172
    go_light
    go_simp
    exact ⟨γ, LR.refl _ _, fun _ _ _ h => h, rfl⟩
  · refine LinStep.yes fun vals γ w' ρ hR hN hp hρ hc hf hg => ⟨rfl, ?_⟩
    have e127 : ρ (.tmp 127) = .bool true := (hρ 127).trans (hp 40 (by decide))
    have HR := Lib.hid hR
    clear hR hN hp hρ c170 c171 c172
    go_light
    go_simp
    exact ⟨γ, LR.refl _ _, fun _ _ _ h => h, rfl⟩
  · intro vals γ w' hR hG
    have h41 : vals 41 = .bool true := hG 41 (by decide)
    have HX := Lib.hid (HX17.out.trans hR.drew_ext)
    clear hR hG
    simp only [lexFrame, Act.put, List.setIfInBounds_toArray, List.set_cons_succ, List.set_cons_zero, Nat.zero_add, Nat.reduceAdd, h41]
    clear h41
    go_wp2
    go_ret
    exact ⟨rfl, HX.out⟩
end Go.Proofs.YtcmmkeiiapbgcaaGreatDoor
