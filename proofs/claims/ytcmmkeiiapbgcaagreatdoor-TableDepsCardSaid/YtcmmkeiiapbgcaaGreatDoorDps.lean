/- The law TableDeps: true. Conditions: the arguments read as data; the table of tens is there. -/
import Derived.Test.YtcmmkeiiapbgcaaGreatDoorRef2
import Derived.Test.YtcmmkeiiapbgcaaGreatDoorRef5
import Derived.Test.YtcmmkeiiapbgcaaGreatDoorSan5
import Derived.Test.YtcmmkeiiapbgcaaGreatDoorAll
import Derived.Test.YtcmmkeiiapbgcaaGreatDoorMade2
namespace Go.Proofs.YtcmmkeiiapbgcaaGreatDoor
open Go Go.RowKit

theorem reg_ragged {cols : List ByteArray} {rows : List (List Val)} (h : 1 ≤ cols.length) : regB cols (rows ++ [[]]) = false := by
  unfold regB
  rw [List.all_append]
  have : decide (0 = cols.length) = false := by simp; omega
  simp
  intro
  omega
theorem hold_ragged {cols : List ByteArray} {rows : List (List Val)} {frm : List ByteArray} {x : ByteArray} (h : 1 ≤ cols.length) : holdsS cols (rows ++ [[]]) frm x = false := by
  unfold holdsS
  rw [reg_ragged h]
  simp
def vD7 (gt : Nat) (t : Look) (At : Option Addr) (ct : Nat) (Bt : Option Addr) (et : Nat) (all : List Dep) (ca : Nat) (k : Nat) (b : Nat) (o : Nat) (B' : Option Addr) (c' : Nat) (x : Dep) (hb : Bool) : Nat → Value
  | 0 => .pointer (some ⟨gt, 1, none⟩)
  | 1 => .slice At t.cols.length ct
  | 2 => .pointer (some ⟨gt, 2, none⟩)
  | 3 => .slice Bt t.rows.length et
  | 4 => .slice (some ⟨b, o, none⟩) all.length ca
  | 5 => .int .i64 (k : Int)
  | 6 => .pointer (some ⟨b, o + k * 2, none⟩)
  | 7 => .agg #[.slice B' x.frm.length c', .string x.to]
  | 8 => .bool hb
  | 9 => .pointer (some ⟨gt, 1, none⟩)
  | 10 => .slice At t.cols.length ct
  | 11 => .pointer (some ⟨gt, 2, none⟩)
  | 12 => .slice Bt t.rows.length et
  | 13 => .slice (some ⟨b, o, none⟩) all.length ca
  | 14 => .int .i64 (k : Int)
  | 15 => .pointer (some ⟨b, o + k * 2, none⟩)
  | 16 => .agg #[.slice B' x.frm.length c', .string x.to]
  | 17 => .bool hb
  | 18 => .bool false
  | _ => undef
def gD7 (gt : Nat) (t : Look) (At : Option Addr) (ct : Nat) (Bt : Option Addr) (et : Nat) (all : List Dep) (ca : Nat) (k : Nat) (b : Nat) (o : Nat) (B' : Option Addr) (c' : Nat) (x : Dep) (hb : Bool) (ix : Nat) (vl : List Value) (γ : Gh) (w' : World) : Prop := match vl with
  | [v] => v = vD7 gt t At ct Bt et all ca k b o B' c' x hb ix
  | _ => True
theorem gD7_st (gt : Nat) (t : Look) (At : Option Addr) (ct : Nat) (Bt : Option Addr) (et : Nat) (all : List Dep) (ca : Nat) (k : Nat) (b : Nat) (o : Nat) (B' : Option Addr) (c' : Nat) (x : Dep) (hb : Bool) : ∀ ix vl γ w γ' w', LR γ w γ' w' → gD7 gt t At ct Bt et all ca k b o B' c' x hb ix vl γ w → gD7 gt t At ct Bt et all ca k b o B' c' x hb ix vl γ' w' := by
  intro ix vl γ w γ' w' r h
  match vl, h with
  | [v], h =>
    unfold gD7 at h ⊢
    exact h
  | [], _ => trivial
  | _ :: _ :: _, _ => trivial
def vD10 (gd : Nat) (all : List Dep) (Aa : Option Addr) (ca : Nat) (one : Dep) (C1 : Option Addr) (c1 : Nat) : Nat → Value
  | 0 => .slice Aa all.length ca
  | 1 => .pointer (some ⟨gd, 0, none⟩)
  | 2 => .slice C1 one.frm.length c1
  | 4 => .slice Aa all.length ca
  | 5 => .pointer (some ⟨gd, 0, none⟩)
  | 6 => .slice C1 one.frm.length c1
  | _ => undef
def gD10 (gd : Nat) (all : List Dep) (Aa : Option Addr) (ca : Nat) (one : Dep) (C1 : Option Addr) (c1 : Nat) (ix : Nat) (vl : List Value) (γ : Gh) (w' : World) : Prop := match vl with
  | [v] => if ix = 3 then (∃ (ks : List ByteArray) (A' : Option Addr) (c' : Nat), (IsClosure all one.frm ks) ∧ v = .slice A' (sortS ks).length c' ∧ Strs w' (Free γ) A' (sortS ks)) else if ix = 7 then (∃ (ks : List ByteArray) (A' : Option Addr) (c' : Nat), (IsClosure all one.frm ks ∧ SS ks) ∧ v = .slice A' ks.length c' ∧ Strs w' (Free γ) A' ks) else if ix = 8 then (∃ (ks : List ByteArray) (A' : Option Addr) (c' : Nat), (IsClosure all one.frm ks) ∧ v = .slice A' (sortS ks).length c' ∧ Strs w' (Free γ) A' (sortS ks)) else if ix = 9 then (∃ (ks : List ByteArray) (A' : Option Addr) (c' : Nat), (IsClosure all one.frm ks ∧ SS ks) ∧ v = .slice A' ks.length c' ∧ Strs w' (Free γ) A' ks) else v = vD10 gd all Aa ca one C1 c1 ix
  | _ => True
theorem gD10_st (gd : Nat) (all : List Dep) (Aa : Option Addr) (ca : Nat) (one : Dep) (C1 : Option Addr) (c1 : Nat) : ∀ ix vl γ w γ' w', LR γ w γ' w' → gD10 gd all Aa ca one C1 c1 ix vl γ w → gD10 gd all Aa ca one C1 c1 ix vl γ' w' := by
  intro ix vl γ w γ' w' r h
  match vl, h with
  | [v], h =>
    unfold gD10 at h ⊢
    by_cases h3 : ix = 3
    · simp only [if_pos h3] at h ⊢
      obtain ⟨ks, a, b, h0, h1, h2⟩ := h
      exact ⟨ks, a, b, h0, h1, r.strs h2⟩
    simp only [if_neg h3] at h ⊢
    by_cases h7 : ix = 7
    · simp only [if_pos h7] at h ⊢
      obtain ⟨ks, a, b, h0, h1, h2⟩ := h
      exact ⟨ks, a, b, h0, h1, r.strs h2⟩
    simp only [if_neg h7] at h ⊢
    by_cases h8 : ix = 8
    · simp only [if_pos h8] at h ⊢
      obtain ⟨ks, a, b, h0, h1, h2⟩ := h
      exact ⟨ks, a, b, h0, h1, r.strs h2⟩
    simp only [if_neg h8] at h ⊢
    by_cases h9 : ix = 9
    · simp only [if_pos h9] at h ⊢
      obtain ⟨ks, a, b, h0, h1, h2⟩ := h
      exact ⟨ks, a, b, h0, h1, r.strs h2⟩
    simp only [if_neg h9] at h ⊢
    exact h
  | [], _ => trivial
  | _ :: _ :: _, _ => trivial
def vD11 (gt : Nat) (gd : Nat) (t : Look) (At : Option Addr) (ct : Nat) (Bt : Option Addr) (et : Nat) (all : List Dep) (Aa : Option Addr) (ca : Nat) (one : Dep) (C1 : Option Addr) (c1 : Nat) (hb : Bool) (Ag : Option Addr) (cg : Nat) (cl : List ByteArray) (A3 : Option Addr) (c3 : Nat) (A4 : Option Addr) (c4 : Nat) (ib : Bool) : Nat → Value
  | 0 => .bool true
  | 1 => .bool true
  | 2 => .pointer (some ⟨gt, 1, none⟩)
  | 3 => .slice At t.cols.length ct
  | 4 => .pointer (some ⟨gt, 2, none⟩)
  | 5 => .slice Bt t.rows.length et
  | 6 => .agg #[.slice C1 one.frm.length c1, .string one.to]
  | 7 => .bool hb
  | 8 => .pointer (some ⟨gt, 1, none⟩)
  | 9 => .slice At t.cols.length ct
  | 10 => .pointer (some ⟨gt, 2, none⟩)
  | 11 => .slice Bt t.rows.length et
  | 12 => .agg #[.slice C1 one.frm.length c1, .string one.to]
  | 13 => .bool hb
  | 14 => .bool true
  | 15 => .bool true
  | 16 => .bool true
  | 17 => .pointer (some ⟨gt, 1, none⟩)
  | 18 => .slice At t.cols.length ct
  | 19 => .slice Ag (t.rows.length + 1) cg
  | 20 => .agg #[.slice C1 one.frm.length c1, .string one.to]
  | 21 => .bool false
  | 22 => .bool true
  | 23 => .bool true
  | 24 => .bool true
  | 25 => .slice A3 cl.length c3
  | 26 => .slice A4 cl.length c4
  | 27 => .bool true
  | 28 => .bool true
  | 29 => .bool true
  | 30 => .slice Aa all.length ca
  | 31 => .agg #[.slice C1 one.frm.length c1, .string one.to]
  | 32 => .bool ib
  | 33 => .slice Aa all.length ca
  | 34 => .agg #[.slice C1 one.frm.length c1, .string one.to]
  | 35 => .bool ib
  | 36 => .bool true
  | 37 => .bool true
  | 38 => .bool true
  | _ => undef
def gD11 (gt : Nat) (gd : Nat) (t : Look) (At : Option Addr) (ct : Nat) (Bt : Option Addr) (et : Nat) (all : List Dep) (Aa : Option Addr) (ca : Nat) (one : Dep) (C1 : Option Addr) (c1 : Nat) (hb : Bool) (Ag : Option Addr) (cg : Nat) (cl : List ByteArray) (A3 : Option Addr) (c3 : Nat) (A4 : Option Addr) (c4 : Nat) (ib : Bool) (ix : Nat) (vl : List Value) (γ : Gh) (w' : World) : Prop := match vl with
  | [v] => v = vD11 gt gd t At ct Bt et all Aa ca one C1 c1 hb Ag cg cl A3 c3 A4 c4 ib ix
  | _ => True
theorem gD11_st (gt : Nat) (gd : Nat) (t : Look) (At : Option Addr) (ct : Nat) (Bt : Option Addr) (et : Nat) (all : List Dep) (Aa : Option Addr) (ca : Nat) (one : Dep) (C1 : Option Addr) (c1 : Nat) (hb : Bool) (Ag : Option Addr) (cg : Nat) (cl : List ByteArray) (A3 : Option Addr) (c3 : Nat) (A4 : Option Addr) (c4 : Nat) (ib : Bool) : ∀ ix vl γ w γ' w', LR γ w γ' w' → gD11 gt gd t At ct Bt et all Aa ca one C1 c1 hb Ag cg cl A3 c3 A4 c4 ib ix vl γ w → gD11 gt gd t At ct Bt et all Aa ca one C1 c1 hb Ag cg cl A3 c3 A4 c4 ib ix vl γ' w' := by
  intro ix vl γ w γ' w' r h
  match vl, h with
  | [v], h =>
    unfold gD11 at h ⊢
    exact h
  | [], _ => trivial
  | _ :: _ :: _, _ => trivial
set_option maxRecDepth 100000 in
set_option maxHeartbeats 2000000 in
theorem law_Deps (l : List Int) (deps : List (List Int)) (d : List Int) (A B C : Option Addr) (c cb cc : Nat) (w : World) (S : Nat → Prop) (ht : Tens w) (hl : IntsL w S A l) (hdeps : RIssL w S B deps) (hd : IntsL w S C d) :
    Calls Tryz.prog 5 #[.slice A l.length c, .slice B deps.length cb, .slice C d.length cc] w (RetB w true) := by
  have HT := Lib.hid ht
  have HL := Lib.hid hl
  have HDS := Lib.hid hdeps
  have HD := Lib.hid hd
  clear ht hl hdeps hd
  go_enter Tryz.func5, Tryz.ntmps5
  go_wp2_with fail
  refine (law_sanity _ HT.out).mono ?_
  rintro e1 w1 ⟨rfl, hx1⟩
  have HX1 := Lib.hid hx1
  clear hx1
  go_wp2_with fail
  refine (r09_Made ⟨#[116]⟩ l A c _ S (HL.out.keep (HX1.out.kept _)) (by decide)).mono ?_
  rintro e2 w2 ⟨t, hmt, At, ct, Bt, et, rfl, ⟨hct, het⟩, hrl, hx2⟩
  have HMT := Lib.hid hmt
  have HCT := Lib.hid hct
  have HX2 := Lib.hid (HX1.out.trans hx2)
  have HRL0 := Lib.hid hrl
  clear hmt hct het hrl hx2
  go_wp2_with fail
  have HX2a := Lib.hid (HX2.out.alloc (.cells #[.string t.name, .slice At t.cols.length ct, .slice Bt t.rows.length et] 28))
  refine (r09_All deps B cb _ S (HDS.out.keep (HX2a.out.kept _))).mono ?_
  rintro e3 w3 ⟨all, ha8, ha3, Aa, ca, rfl, hca, hra, hx3⟩
  have HX3 := Lib.hid (HX2a.out.trans hx3)
  have HGT3 := Lib.hid ((Blk.new w2 28 #[.string t.name, .slice At t.cols.length ct, .slice Bt t.rows.length et]).keep (hx3.kept _))
  have HRL3 := Lib.hid ((HRL0.out.keep (Kept.alloc _ _ (.cells #[.string t.name, .slice At t.cols.length ct, .slice Bt t.rows.length et] 28))).keep (hx3.kept _))
  have HRA3 := Lib.hid hra
  have HA3 := Lib.hid ha3
  clear hx3 hra ha3 hca HX2a
  go_wp2_with fail
  refine (r09_Depends d C cc _ S (HD.out.keep (HX3.out.kept _))).mono ?_
  rintro e4 w4 ⟨one, C1, c1, rfl, ho3, hoc, hot, hos, hx4⟩
  obtain ⟨w5, hw5⟩ : ∃ w5, w5 = w4.alloc (.cells #[.slice C1 one.frm.length c1, .string one.to] 52) := ⟨_, rfl⟩
  have hx45 : Ext w4 w5 := by rw [hw5]; exact (Ext.refl _).alloc _
  have HXW := Lib.hid ((HX3.out.trans hx4).trans hx45)
  have HGT := Lib.hid ((HGT3.out.keep (hx4.kept _)).keep (hx45.kept _))
  have HGD := Lib.hid (show Blk w5 w4.heap.size 52 #[.slice C1 one.frm.length c1, .string one.to] by rw [hw5]; exact Blk.new _ _ _)
  have HRL := Lib.hid ((HRL3.out.keep (hx4.kept _)).keep (hx45.kept _))
  have HRA := Lib.hid ((HRA3.out.keep (hx4.kept _)).keep (hx45.kept _))
  have HOS := Lib.hid (hos.keep (hx45.kept _))
  have HW5 := Lib.hid hw5
  have HOT := Lib.hid hot
  clear hx4 hos hx45 hw5 HX1 HX2 HX3 HGT3 HRL0 HRL3 HRA3 hot hoc
  go_wp2
  rw [← HW5.out]
  obtain ⟨gt, hgt⟩ : ∃ gt, gt = w2.heap.size := ⟨_, rfl⟩
  obtain ⟨gd, hgd⟩ : ∃ gd, gd = w4.heap.size := ⟨_, rfl⟩
  rw [← hgt] at HGT
  rw [← hgd] at HGD
  rw [← hgt, ← hgd]
  clear hgt hgd HW5
  go_loopw [11] (fun i wr => ∃ (k : Nat), k ≤ all.length ∧ i = .int .i64 k ∧ Ext w5 wr) (fun i _ => all.length - (intOf i).toNat)
  case atStart => exact ⟨0, Nat.zero_le _, rfl, Ext.refl _⟩
  case round =>
    obtain ⟨k, hk, rfl, hext⟩ := hrel
    have HE := Lib.hid hext
    clear hext
    by_cases hlt : k < all.length
    · obtain ⟨b, o, B', c', hAa, z1, q1, q2, q3, q4, q5⟩ := HRA.out.at_ hlt
      subst hAa
      obtain ⟨x, hx⟩ : ∃ x, x = all[k] := ⟨_, rfl⟩
      rw [← hx] at q1 q2 q3 q4 q5
      have Q1 := Lib.hid (HE.out.cell q1)
      have Q2 := Lib.hid (HE.out.cell q2)
      have HQS := Lib.hid (q5.keep (HE.out.kept _))
      obtain ⟨hb, hhb⟩ : ∃ hb, hb = holdsS t.cols t.rows x.frm x.to := ⟨_, rfl⟩
      have HHB := Lib.hid hhb
      have HGT0 := HGT
      have HRL0 := HRL
      have HGT := Lib.hid (HGT0.out.keep (HE.out.kept _))
      have HRL := Lib.hid (HRL0.out.keep (HE.out.kept _))
      clear q1 q2 q3 q4 q5 hx hhb
      go_upto_region 7 with fail
      refine wp_region_lin_lit (by kernel_rfl) (fun i => [i]) (by kernel_rfl) LR LR.refl LR.trans (LN (al0)) (gD7 gt t At ct Bt et all ca k b o B' c' x hb) (gD7_st _ _ _ _ _ _ _ _ _ _ _ _ _ _ _) gh0 (LN.zero _) ⟨?_, ?_, ?_, ?_, ?_, ?_, ?_, ?_, ?_, ?_, ?_, ?_, ?_, ?_, ?_, ?_, ?_, ?_, ?_, trivial⟩ ?_
      · refine LinStep.yes fun vals γ w' ρ hR hN hp hρ hc hf hg => ⟨rfl, ?_⟩
        have e8 : ρ (.tmp 8) = .pointer (some ⟨gt, 0, none⟩) := hρ 8
        have hx := hR.drew_ext
        have HR := Lib.hid hR
        have HN := Lib.hid hN
        clear hR hN hp hρ hx
        go_light
        go_simp
        exact ⟨γ, LR.refl _ _, fun _ _ _ h => h, rfl⟩
      · refine LinStep.yes fun vals γ w' ρ hR hN hp hρ hc hf hg => ⟨rfl, ?_⟩
        have e28 : ρ (.tmp 28) = .pointer (some ⟨gt, 1, none⟩) := (hρ 28).trans (hp 0 (by decide))
        have hx := hR.drew_ext
        have c1 := (HGT.out.keep (hx.kept _)).cell (i := 1) rfl
        have HR := Lib.hid hR
        have HN := Lib.hid hN
        clear hR hN hp hρ hx
        go_light
        go_simp
        exact ⟨γ, LR.refl _ _, fun _ _ _ h => h, rfl⟩
      · refine LinStep.yes fun vals γ w' ρ hR hN hp hρ hc hf hg => ⟨rfl, ?_⟩
        have e8 : ρ (.tmp 8) = .pointer (some ⟨gt, 0, none⟩) := hρ 8
        have hx := hR.drew_ext
        have HR := Lib.hid hR
        have HN := Lib.hid hN
        clear hR hN hp hρ hx
        go_light
        go_simp
        exact ⟨γ, LR.refl _ _, fun _ _ _ h => h, rfl⟩
      · refine LinStep.yes fun vals γ w' ρ hR hN hp hρ hc hf hg => ⟨rfl, ?_⟩
        have e30 : ρ (.tmp 30) = .pointer (some ⟨gt, 2, none⟩) := (hρ 30).trans (hp 2 (by decide))
        have hx := hR.drew_ext
        have c2 := (HGT.out.keep (hx.kept _)).cell (i := 2) rfl
        have HR := Lib.hid hR
        have HN := Lib.hid hN
        clear hR hN hp hρ hx
        go_light
        go_simp
        exact ⟨γ, LR.refl _ _, fun _ _ _ h => h, rfl⟩
      · refine LinStep.yes fun vals γ w' ρ hR hN hp hρ hc hf hg => ⟨rfl, ?_⟩
        have e9 : ρ (.tmp 9) = .slice (some ⟨b, o, none⟩) all.length ca := hρ 9
        have hx := hR.drew_ext
        have HR := Lib.hid hR
        have HN := Lib.hid hN
        clear hR hN hp hρ hx
        go_light
        go_simp
        exact ⟨γ, LR.refl _ _, fun _ _ _ h => h, rfl⟩
      · refine LinStep.yes fun vals γ w' ρ hR hN hp hρ hc hf hg => ⟨rfl, ?_⟩
        have e11 : ρ (.tmp 11) = .int .i64 (k : Int) := hρ 11
        have hx := hR.drew_ext
        have HR := Lib.hid hR
        have HN := Lib.hid hN
        clear hR hN hp hρ hx
        go_light
        go_simp
        exact ⟨γ, LR.refl _ _, fun _ _ _ h => h, rfl⟩
      · refine LinStep.yes fun vals γ w' ρ hR hN hp hρ hc hf hg => ⟨rfl, ?_⟩
        have e32 : ρ (.tmp 32) = .slice (some ⟨b, o, none⟩) all.length ca := (hρ 32).trans (hp 4 (by decide))
        have e33 : ρ (.tmp 33) = .int .i64 (k : Int) := (hρ 33).trans (hp 5 (by decide))
        have hx := hR.drew_ext
        have HR := Lib.hid hR
        have HN := Lib.hid hN
        clear hR hN hp hρ hx
        go_light
        go_simp
        exact ⟨γ, LR.refl _ _, fun _ _ _ h => h, rfl⟩
      · refine LinStep.yes fun vals γ w' ρ hR hN hp hρ hc hf hg => ⟨rfl, ?_⟩
        have e34 : ρ (.tmp 34) = .pointer (some ⟨b, o + k * 2, none⟩) := (hρ 34).trans (hp 6 (by decide))
        have hx := hR.drew_ext
        have p1 := hx.cell Q1.out
        have p2 := hx.cell Q2.out
        have HR := Lib.hid hR
        have HN := Lib.hid hN
        clear hR hN hp hρ hx
        go_light
        go_simp
        exact ⟨γ, LR.refl _ _, fun _ _ _ h => h, rfl⟩
      · refine LinStep.yes fun vals γ w' ρ hR hN hp hρ hc hf hg => ⟨rfl, ?_⟩
        have e29 : ρ (.tmp 29) = .slice At t.cols.length ct := (hρ 29).trans (hp 1 (by decide))
        have e31 : ρ (.tmp 31) = .slice Bt t.rows.length et := (hρ 31).trans (hp 3 (by decide))
        have e35 : ρ (.tmp 35) = .agg #[.slice B' x.frm.length c', .string x.to] := (hρ 35).trans (hp 7 (by decide))
        have hx := hR.drew_ext
        have HR := Lib.hid hR
        have HN := Lib.hid hN
        clear hR hN hp hρ hx
        go_light
        go_simp
        refine (table_Holds 1 t.cols t.rows x.frm x.to At Bt B' ct et c' _ _ _ _ ((HRL.out.keep (HR.out.drew_ext.kept _)).2.1) ((HRL.out.keep (HR.out.drew_ext.kept _)).2.2) (HQS.out.keep (HR.out.drew_ext.kept _))).mono ?_
        rintro e' w3 ⟨he, hx⟩
        rw [← HHB.out] at he
        exact ⟨_, he, γ, LR.of_ext γ hx, fun _ _ _ h => h, rfl⟩
      · refine LinStep.yes fun vals γ w' ρ hR hN hp hρ hc hf hg => ⟨rfl, ?_⟩
        have e8 : ρ (.tmp 8) = .pointer (some ⟨gt, 0, none⟩) := hρ 8
        have hx := hR.drew_ext
        have HR := Lib.hid hR
        have HN := Lib.hid hN
        clear hR hN hp hρ hx
        go_light
        go_simp
        exact ⟨γ, LR.refl _ _, fun _ _ _ h => h, rfl⟩
      · refine LinStep.yes fun vals γ w' ρ hR hN hp hρ hc hf hg => ⟨rfl, ?_⟩
        have e37 : ρ (.tmp 37) = .pointer (some ⟨gt, 1, none⟩) := (hρ 37).trans (hp 9 (by decide))
        have hx := hR.drew_ext
        have c1 := (HGT.out.keep (hx.kept _)).cell (i := 1) rfl
        have HR := Lib.hid hR
        have HN := Lib.hid hN
        clear hR hN hp hρ hx
        go_light
        go_simp
        exact ⟨γ, LR.refl _ _, fun _ _ _ h => h, rfl⟩
      · refine LinStep.yes fun vals γ w' ρ hR hN hp hρ hc hf hg => ⟨rfl, ?_⟩
        have e8 : ρ (.tmp 8) = .pointer (some ⟨gt, 0, none⟩) := hρ 8
        have hx := hR.drew_ext
        have HR := Lib.hid hR
        have HN := Lib.hid hN
        clear hR hN hp hρ hx
        go_light
        go_simp
        exact ⟨γ, LR.refl _ _, fun _ _ _ h => h, rfl⟩
      · refine LinStep.yes fun vals γ w' ρ hR hN hp hρ hc hf hg => ⟨rfl, ?_⟩
        have e39 : ρ (.tmp 39) = .pointer (some ⟨gt, 2, none⟩) := (hρ 39).trans (hp 11 (by decide))
        have hx := hR.drew_ext
        have c2 := (HGT.out.keep (hx.kept _)).cell (i := 2) rfl
        have HR := Lib.hid hR
        have HN := Lib.hid hN
        clear hR hN hp hρ hx
        go_light
        go_simp
        exact ⟨γ, LR.refl _ _, fun _ _ _ h => h, rfl⟩
      · refine LinStep.yes fun vals γ w' ρ hR hN hp hρ hc hf hg => ⟨rfl, ?_⟩
        have e9 : ρ (.tmp 9) = .slice (some ⟨b, o, none⟩) all.length ca := hρ 9
        have hx := hR.drew_ext
        have HR := Lib.hid hR
        have HN := Lib.hid hN
        clear hR hN hp hρ hx
        go_light
        go_simp
        exact ⟨γ, LR.refl _ _, fun _ _ _ h => h, rfl⟩
      · refine LinStep.yes fun vals γ w' ρ hR hN hp hρ hc hf hg => ⟨rfl, ?_⟩
        have e11 : ρ (.tmp 11) = .int .i64 (k : Int) := hρ 11
        have hx := hR.drew_ext
        have HR := Lib.hid hR
        have HN := Lib.hid hN
        clear hR hN hp hρ hx
        go_light
        go_simp
        exact ⟨γ, LR.refl _ _, fun _ _ _ h => h, rfl⟩
      · refine LinStep.yes fun vals γ w' ρ hR hN hp hρ hc hf hg => ⟨rfl, ?_⟩
        have e41 : ρ (.tmp 41) = .slice (some ⟨b, o, none⟩) all.length ca := (hρ 41).trans (hp 13 (by decide))
        have e42 : ρ (.tmp 42) = .int .i64 (k : Int) := (hρ 42).trans (hp 14 (by decide))
        have hx := hR.drew_ext
        have HR := Lib.hid hR
        have HN := Lib.hid hN
        clear hR hN hp hρ hx
        go_light
        go_simp
        exact ⟨γ, LR.refl _ _, fun _ _ _ h => h, rfl⟩
      · refine LinStep.yes fun vals γ w' ρ hR hN hp hρ hc hf hg => ⟨rfl, ?_⟩
        have e43 : ρ (.tmp 43) = .pointer (some ⟨b, o + k * 2, none⟩) := (hρ 43).trans (hp 15 (by decide))
        have hx := hR.drew_ext
        have p1 := hx.cell Q1.out
        have p2 := hx.cell Q2.out
        have HR := Lib.hid hR
        have HN := Lib.hid hN
        clear hR hN hp hρ hx
        go_light
        go_simp
        exact ⟨γ, LR.refl _ _, fun _ _ _ h => h, rfl⟩
      · refine LinStep.yes fun vals γ w' ρ hR hN hp hρ hc hf hg => ⟨rfl, ?_⟩
        have e38 : ρ (.tmp 38) = .slice At t.cols.length ct := (hρ 38).trans (hp 10 (by decide))
        have e40 : ρ (.tmp 40) = .slice Bt t.rows.length et := (hρ 40).trans (hp 12 (by decide))
        have e44 : ρ (.tmp 44) = .agg #[.slice B' x.frm.length c', .string x.to] := (hρ 44).trans (hp 16 (by decide))
        have hx := hR.drew_ext
        have HR := Lib.hid hR
        have HN := Lib.hid hN
        clear hR hN hp hρ hx
        go_light
        go_simp
        refine (r09_Holds 1 t.cols t.rows x.frm x.to At Bt B' ct et c' _ _ _ _ ((HRL.out.keep (HR.out.drew_ext.kept _)).2.1) ((HRL.out.keep (HR.out.drew_ext.kept _)).2.2) (HQS.out.keep (HR.out.drew_ext.kept _))).mono ?_
        rintro e' w3 ⟨he, hx⟩
        rw [← HHB.out] at he
        exact ⟨_, he, γ, LR.of_ext γ hx, fun _ _ _ h => h, rfl⟩
      · refine LinStep.yes fun vals γ w' ρ hR hN hp hρ hc hf hg => ⟨rfl, ?_⟩
        have e36 : ρ (.tmp 36) = .bool hb := (hρ 36).trans (hp 8 (by decide))
        have e45 : ρ (.tmp 45) = .bool hb := (hρ 45).trans (hp 17 (by decide))
        have hx := hR.drew_ext
        have HR := Lib.hid hR
        have HN := Lib.hid hN
        clear hR hN hp hρ hx
        go_light
        go_simp
        refine ⟨γ, LR.refl _ _, fun _ _ _ h => h, ?_⟩
        cases hb <;> rfl
      · intro vals γ w' hR hG
        have h18 : vals 18 = .bool false := hG 18 (by decide)
        have HX6 := Lib.hid hR.drew_ext
        clear hR hG
        simp only [lexFrame, Act.put, List.setIfInBounds_toArray, List.set_cons_succ, List.set_cons_zero, Nat.zero_add, Nat.reduceAdd, h18]
        clear h18
        go_wp2
        go_roundw
        case rel => exact ⟨k + 1, by omega, by go_num, HE.out.trans HX6.out⟩
        case measure => simp [intOf]; omega
    · obtain ⟨hrn, hs, hrd, hhl, hrow⟩ := (HRL.out.keep (HE.out.kept _)).2.2
      have hone : ∀ u ∈ hs, u.oneCell' = true := fun u hu => by
        obtain ⟨i, hi, rfl⟩ := List.getElem_of_mem hu
        obtain ⟨B1, e1, h1, _⟩ := hrow i (t.rows[i]'(by omega)) (by simp)
        rw [List.getElem?_eq_getElem hi] at h1
        injection h1 with h1
        rw [h1]
        rfl
      have hmc := HMT.out.cols
      have HONE := Lib.hid hone
      have HRD := Lib.hid (hrd.keep (Kept.alloc _ _ (.cells #[] 45)))
      have HHL := Lib.hid hhl
      have HROW := Lib.hid hrow
      have HO1 := Lib.hid (show Own (wr.alloc (.cells #[] 45)) wr.heap.size 45 1 (some ⟨wr.heap.size, 0, none⟩) 0 0 [] from World.ownsRow_made wr #[] 0 (Nat.le_refl _) (by unfold maxLen; omega) rfl)
      have c2 := ((HE.out.alloc (.cells #[] 45))).cell (HGT.out.cell (i := 2) rfl)
      have HC1 := Lib.hid hmc.1
      have hr6 := hmc.2.2
      clear hone hrd hhl hrow hrn hmc
      have tok : True := trivial
      go_upto_region 10 with (first | (at_builtin; have _t := tok; go_must (refine wpList_app rfl (.tmp 47) (.tmp 49) rfl tiR rfl HO1.out rfl HRD.out (by rw [HHL.out]; simp) HONE.out (by omega) (by decide) (by simp) ?_); intro A7 c7 w7 hown7 hg7 hat7; simp only [Nat.zero_add, List.nil_append] at hown7; have HX7 := Lib.hid (Ext.grown ((Ext.refl wr).alloc _) hg7 (fun b hb => (HO1.out.blk hb).1)); have HO7 := Lib.hid (hown7.ext ((Ext.refl w7).alloc (.cells #[.slice none 0 0] 45))); have hsz7 := HX7.out.size; clear hown7 hg7 hat7 tok) | (at_builtin; go_must (refine wpList_app rfl (.tmp 50) (.tmp 51) rfl tiR rfl HO7.out rfl (Blk.rd (Blk.new _ _ _)) rfl (by simp [Value.oneCell']) (by omega) (by decide) (by simp; omega) ?_); intro Ag cg w8 hown8 hg8 hat8))
      have HX8 := Lib.hid ((HX7.out.alloc _).grown hg8 (fun b hb => (HO7.out.blk hb).1))
      have hrag : Rows w8 (fun _ => True) 1 Ag (t.rows ++ [[]]) := by
        refine ⟨by simp; omega, hs ++ [.slice none 0 0], hown8.rd.mono fun _ _ _ => trivial, by simp [HHL.out], fun i r hi => ?_⟩
        rcases Nat.lt_or_ge i t.rows.length with hlti | hge
        · rw [List.getElem?_append_left hlti] at hi
          obtain ⟨B1, e1, h1, h2, h3⟩ := HROW.out i r hi
          exact ⟨B1, e1, by rw [List.getElem?_append_left (by rw [HHL.out]; exact hlti)]; exact h1, h2, (Row.mono (T := fun _ => True) h3 fun _ _ _ => trivial).keep (HX8.out.kept _)⟩
        · rw [List.getElem?_append_right hge] at hi
          have h0 : i - t.rows.length = 0 := by
            rcases Nat.eq_zero_or_pos (i - t.rows.length) with h0 | h0
            · exact h0
            · rw [List.getElem?_eq_none (by simp; omega)] at hi; cases hi
          rw [h0] at hi
          simp at hi
          subst hi
          exact ⟨none, 0, by rw [List.getElem?_append_right (by rw [HHL.out]; exact hge), HHL.out, h0]; rfl, Nat.le_refl _, by simp, [], Or.inl rfl, by simp, by simp⟩
      have HRG0 := Lib.hid hrag
      have HE8 := Lib.hid (HE.out.trans HX8.out)
      have HGT0 := HGT
      have HGD0 := HGD
      have HRL0 := HRL
      have HRA0 := HRA
      have HOS0 := HOS
      have HGT := Lib.hid (HGT0.out.keep (HE8.out.kept _))
      have HGD := Lib.hid (HGD0.out.keep (HE8.out.kept _))
      have HRL := Lib.hid (HRL0.out.keep (HE8.out.kept _))
      have HRA := Lib.hid (HRA0.out.keep (HE8.out.kept _))
      have HOS := Lib.hid (HOS0.out.keep (HE8.out.kept _))
      clear hrag hown8 hg8 hat8 HX7 HO7 HO1 HRD HONE HROW hsz7 c2
      refine wp_region_lin_lit (by kernel_rfl) (fun i => [i]) (by kernel_rfl) LR LR.refl LR.trans (LN (al0)) (gD10 gd all Aa ca one C1 c1) (gD10_st _ _ _ _ _ _ _) gh0 (LN.zero _) ⟨?_, ?_, ?_, ?_, ?_, ?_, ?_, ?_, ?_, ?_, trivial⟩ ?_
      · refine LinStep.yes fun vals γ w' ρ hR hN hp hρ hc hf hg => ⟨rfl, ?_⟩
        have e9 : ρ (.tmp 9) = .slice Aa all.length ca := hρ 9
        have hx := hR.drew_ext
        have HR := Lib.hid hR
        have HN := Lib.hid hN
        clear hR hN hp hρ hx
        go_light
        go_simp
        exact ⟨γ, LR.refl _ _, fun _ _ _ h => h, rfl⟩
      · refine LinStep.yes fun vals γ w' ρ hR hN hp hρ hc hf hg => ⟨rfl, ?_⟩
        have e10 : ρ (.tmp 10) = .pointer (some ⟨gd, 0, none⟩) := hρ 10
        have hx := hR.drew_ext
        have HR := Lib.hid hR
        have HN := Lib.hid hN
        clear hR hN hp hρ hx
        go_light
        go_simp
        exact ⟨γ, LR.refl _ _, fun _ _ _ h => h, rfl⟩
      · refine LinStep.yes fun vals γ w' ρ hR hN hp hρ hc hf hg => ⟨rfl, ?_⟩
        have e54 : ρ (.tmp 54) = .pointer (some ⟨gd, 0, none⟩) := (hρ 54).trans (hp 1 (by decide))
        have hx := hR.drew_ext
        have c0 := (HGD.out.keep (hx.kept _)).cell (i := 0) rfl
        have HR := Lib.hid hR
        have HN := Lib.hid hN
        clear hR hN hp hρ hx
        go_light
        go_simp
        exact ⟨γ, LR.refl _ _, fun _ _ _ h => h, rfl⟩
      · refine LinStep.yes fun vals γ w' ρ hR hN hp hρ hc hf hg => ⟨rfl, ?_⟩
        have e53 : ρ (.tmp 53) = .slice Aa all.length ca := (hρ 53).trans (hp 0 (by decide))
        have e55 : ρ (.tmp 55) = .slice C1 one.frm.length c1 := (hρ 55).trans (hp 2 (by decide))
        have hx := hR.drew_ext
        have HR := Lib.hid hR
        have HN := Lib.hid hN
        clear hR hN hp hρ hx
        go_light
        go_simp
        refine (table_Closure all one.frm Aa C1 ca c1 _ _ _ (HRA.out.keep (HR.out.drew_ext.kept _)) (HOS.out.keep (HR.out.drew_ext.kept _)) (by omega)).mono ?_
        rintro e' w3 ⟨ks, hks, A3, c3, he, hc3, hs3, hx3⟩
        refine ⟨_, he, γ, LR.of_ext γ hx3, fun _ _ _ h => h, ks, A3, c3, hks, rfl, hs3.mono fun b _ hb => ?_⟩
        rintro ⟨k', hk'⟩
        have := HR.out.inb0 k' _ hk'
        unfold Fresh at hb
        omega
      · refine LinStep.yes fun vals γ w' ρ hR hN hp hρ hc hf hg => ⟨rfl, ?_⟩
        have e9 : ρ (.tmp 9) = .slice Aa all.length ca := hρ 9
        have hx := hR.drew_ext
        have HR := Lib.hid hR
        have HN := Lib.hid hN
        clear hR hN hp hρ hx
        go_light
        go_simp
        exact ⟨γ, LR.refl _ _, fun _ _ _ h => h, rfl⟩
      · refine LinStep.yes fun vals γ w' ρ hR hN hp hρ hc hf hg => ⟨rfl, ?_⟩
        have e10 : ρ (.tmp 10) = .pointer (some ⟨gd, 0, none⟩) := hρ 10
        have hx := hR.drew_ext
        have HR := Lib.hid hR
        have HN := Lib.hid hN
        clear hR hN hp hρ hx
        go_light
        go_simp
        exact ⟨γ, LR.refl _ _, fun _ _ _ h => h, rfl⟩
      · refine LinStep.yes fun vals γ w' ρ hR hN hp hρ hc hf hg => ⟨rfl, ?_⟩
        have e58 : ρ (.tmp 58) = .pointer (some ⟨gd, 0, none⟩) := (hρ 58).trans (hp 5 (by decide))
        have hx := hR.drew_ext
        have c0 := (HGD.out.keep (hx.kept _)).cell (i := 0) rfl
        have HR := Lib.hid hR
        have HN := Lib.hid hN
        clear hR hN hp hρ hx
        go_light
        go_simp
        exact ⟨γ, LR.refl _ _, fun _ _ _ h => h, rfl⟩
      · refine LinStep.yes fun vals γ w' ρ hR hN hp hρ hc hf hg => ⟨rfl, ?_⟩
        have e57 : ρ (.tmp 57) = .slice Aa all.length ca := (hρ 57).trans (hp 4 (by decide))
        have e59 : ρ (.tmp 59) = .slice C1 one.frm.length c1 := (hρ 59).trans (hp 6 (by decide))
        have hx := hR.drew_ext
        have HR := Lib.hid hR
        have HN := Lib.hid hN
        clear hR hN hp hρ hx
        go_light
        go_simp
        refine (r09_Closure all one.frm Aa C1 ca c1 _ _ _ (HRA.out.keep (HR.out.drew_ext.kept _)) (HOS.out.keep (HR.out.drew_ext.kept _)) (by omega)).mono ?_
        rintro e' w3 ⟨ks, hks, hss, A3, c3, he, hok3, hs3, hx3⟩
        refine ⟨_, he, γ, LR.of_ext γ hx3, fun _ _ _ h => h, ks, A3, c3, ⟨hks, hss⟩, rfl, hs3.mono fun b _ hb => ?_⟩
        rintro ⟨k', hk'⟩
        have := HR.out.inb0 k' _ hk'
        omega
      · refine LinStep.yes fun vals γ w' ρ hR hN hp hρ hc hf hg => ⟨rfl, ?_⟩
        obtain ⟨ks, A3, c3, hks, hv3, hs3⟩ := hp 3 (by decide)
        have e56 : ρ (.tmp 56) = _ := (hρ 56).trans hv3
        have HKS := Lib.hid hks
        have HS3 := Lib.hid hs3
        clear hks hv3 hs3
        have hx := hR.drew_ext
        have HR := Lib.hid hR
        have HN := Lib.hid hN
        clear hR hN hp hρ hx
        go_light
        go_simp
        exact ⟨γ, LR.refl _ _, fun _ _ _ h => h, ks, A3, c3, HKS.out, rfl, HS3.out⟩
      · refine LinStep.yes fun vals γ w' ρ hR hN hp hρ hc hf hg => ⟨rfl, ?_⟩
        obtain ⟨ks, A3, c3, hks, hv3, hs3⟩ := hp 7 (by decide)
        have e60 : ρ (.tmp 60) = _ := (hρ 60).trans hv3
        have HKS := Lib.hid hks
        have HS3 := Lib.hid hs3
        clear hks hv3 hs3
        have hx := hR.drew_ext
        have HR := Lib.hid hR
        have HN := Lib.hid hN
        clear hR hN hp hρ hx
        go_light
        go_simp
        exact ⟨γ, LR.refl _ _, fun _ _ _ h => h, ks, A3, c3, HKS.out, rfl, HS3.out⟩
      · intro vals γ w9 hR hG
        obtain ⟨ks, A3, c3, hks, hv8, hs8⟩ := hG 8 (by decide)
        obtain ⟨out, A4, c4, ⟨hko, hso⟩, hv9, hs9⟩ := hG 9 (by decide)
        have hcl : sortS ks = out := by rw [hks.one hko, hso.sort]
        rw [hcl] at hv8 hs8
        have HX9 := Lib.hid hR.drew_ext
        have HSA := Lib.hid hs8
        have HSB := Lib.hid hs9
        clear hR hG hks hko hso hcl hs8 hs9
        simp only [lexFrame, Act.put, List.setIfInBounds_toArray, List.set_cons_succ, List.set_cons_zero, Nat.zero_add, Nat.reduceAdd, hv8, hv9]
        clear hv8 hv9
        go_upto_region 11 with fail
        obtain ⟨cl, hcl⟩ : ∃ cl, cl = out := ⟨_, rfl⟩
        subst hcl
        obtain ⟨hb, hhb⟩ : ∃ hb, hb = holdsS t.cols t.rows one.frm one.to := ⟨_, rfl⟩
        obtain ⟨ib, hib⟩ : ∃ ib, ib = impB all one.frm one.to := ⟨_, rfl⟩
        have HHB := Lib.hid hhb
        have HIB := Lib.hid hib
        have HRG := Lib.hid (HRG0.out.keep (HX9.out.kept _))
        have HGT1 := HGT
        have HGD1 := HGD
        have HRL1 := HRL
        have HRA1 := HRA
        have HOS1 := HOS
        have HGT := Lib.hid (HGT1.out.keep (HX9.out.kept _))
        have HGD := Lib.hid (HGD1.out.keep (HX9.out.kept _))
        have HRL := Lib.hid (HRL1.out.keep (HX9.out.kept _))
        have HRA := Lib.hid (HRA1.out.keep (HX9.out.kept _))
        have HOS := Lib.hid (HOS1.out.keep (HX9.out.kept _))
        have HRN := Lib.hid (show (t.rows ++ [([] : List Val)]).length = t.rows.length + 1 by simp)
        clear hhb hib
        refine wp_region_lin_lit (by kernel_rfl) (fun i => [i]) (by kernel_rfl) LR LR.refl LR.trans (LN (al0)) (gD11 gt gd t At ct Bt et all Aa ca one C1 c1 hb Ag cg cl A3 c3 A4 c4 ib) (gD11_st _ _ _ _ _ _ _ _ _ _ _ _ _ _ _ _ _ _ _ _ _ _) gh0 (LN.zero _) ⟨?_, ?_, ?_, ?_, ?_, ?_, ?_, ?_, ?_, ?_, ?_, ?_, ?_, ?_, ?_, ?_, ?_, ?_, ?_, ?_, ?_, ?_, ?_, ?_, ?_, ?_, ?_, ?_, ?_, ?_, ?_, ?_, ?_, ?_, ?_, ?_, ?_, ?_, ?_, trivial⟩ ?_
        · refine LinStep.yes fun vals γ w' ρ hR hN hp hρ hc hf hg => ⟨rfl, ?_⟩
          have e7 : ρ (.tmp 7) = .bool true := hρ 7
          have hx := hR.drew_ext
          have HR := Lib.hid hR
          have HN := Lib.hid hN
          clear hR hN hp hρ hx
          go_light
          go_simp
          exact ⟨γ, LR.refl _ _, fun _ _ _ h => h, rfl⟩
        · refine LinStep.yes fun vals γ w' ρ hR hN hp hρ hc hf hg => ⟨rfl, ?_⟩
          have e61 : ρ (.tmp 61) = .bool true := (hρ 61).trans (hp 0 (by decide))
          have hx := hR.drew_ext
          have HR := Lib.hid hR
          have HN := Lib.hid hN
          clear hR hN hp hρ hx
          go_light
          go_simp
          exact ⟨γ, LR.refl _ _, fun _ _ _ h => h, rfl⟩
        · refine LinStep.yes fun vals γ w' ρ hR hN hp hρ hc hf hg => ⟨by show (boolOf (vals 1) == some true) = true; rw [show vals 1 = .bool true from hp 1 (by decide)]; rfl, ?_⟩
          have e8 : ρ (.tmp 8) = .pointer (some ⟨gt, 0, none⟩) := hρ 8
          have hx := hR.drew_ext
          have HR := Lib.hid hR
          have HN := Lib.hid hN
          clear hR hN hp hρ hx
          go_light
          go_simp
          exact ⟨γ, LR.refl _ _, fun _ _ _ h => h, rfl⟩
        · refine LinStep.yes fun vals γ w' ρ hR hN hp hρ hc hf hg => ⟨by show (boolOf (vals 1) == some true) = true; rw [show vals 1 = .bool true from hp 1 (by decide)]; rfl, ?_⟩
          have e63 : ρ (.tmp 63) = .pointer (some ⟨gt, 1, none⟩) := (hρ 63).trans (hp 2 (by decide))
          have hx := hR.drew_ext
          have c1 := (HGT.out.keep (hx.kept _)).cell (i := 1) rfl
          have HR := Lib.hid hR
          have HN := Lib.hid hN
          clear hR hN hp hρ hx
          go_light
          go_simp
          exact ⟨γ, LR.refl _ _, fun _ _ _ h => h, rfl⟩
        · refine LinStep.yes fun vals γ w' ρ hR hN hp hρ hc hf hg => ⟨by show (boolOf (vals 1) == some true) = true; rw [show vals 1 = .bool true from hp 1 (by decide)]; rfl, ?_⟩
          have e8 : ρ (.tmp 8) = .pointer (some ⟨gt, 0, none⟩) := hρ 8
          have hx := hR.drew_ext
          have HR := Lib.hid hR
          have HN := Lib.hid hN
          clear hR hN hp hρ hx
          go_light
          go_simp
          exact ⟨γ, LR.refl _ _, fun _ _ _ h => h, rfl⟩
        · refine LinStep.yes fun vals γ w' ρ hR hN hp hρ hc hf hg => ⟨by show (boolOf (vals 1) == some true) = true; rw [show vals 1 = .bool true from hp 1 (by decide)]; rfl, ?_⟩
          have e65 : ρ (.tmp 65) = .pointer (some ⟨gt, 2, none⟩) := (hρ 65).trans (hp 4 (by decide))
          have hx := hR.drew_ext
          have c2 := (HGT.out.keep (hx.kept _)).cell (i := 2) rfl
          have HR := Lib.hid hR
          have HN := Lib.hid hN
          clear hR hN hp hρ hx
          go_light
          go_simp
          exact ⟨γ, LR.refl _ _, fun _ _ _ h => h, rfl⟩
        · refine LinStep.yes fun vals γ w' ρ hR hN hp hρ hc hf hg => ⟨by show (boolOf (vals 1) == some true) = true; rw [show vals 1 = .bool true from hp 1 (by decide)]; rfl, ?_⟩
          have e10 : ρ (.tmp 10) = .pointer (some ⟨gd, 0, none⟩) := hρ 10
          have hx := hR.drew_ext
          have c0 := (HGD.out.keep (hx.kept _)).cell (i := 0) rfl
          have c1 := (HGD.out.keep (hx.kept _)).cell (i := 1) rfl
          have HR := Lib.hid hR
          have HN := Lib.hid hN
          clear hR hN hp hρ hx
          go_light
          go_simp
          exact ⟨γ, LR.refl _ _, fun _ _ _ h => h, rfl⟩
        · refine LinStep.yes fun vals γ w' ρ hR hN hp hρ hc hf hg => ⟨by show (boolOf (vals 1) == some true) = true; rw [show vals 1 = .bool true from hp 1 (by decide)]; rfl, ?_⟩
          have e64 : ρ (.tmp 64) = .slice At t.cols.length ct := (hρ 64).trans (hp 3 (by decide))
          have e66 : ρ (.tmp 66) = .slice Bt t.rows.length et := (hρ 66).trans (hp 5 (by decide))
          have e67 : ρ (.tmp 67) = .agg #[.slice C1 one.frm.length c1, .string one.to] := (hρ 67).trans (hp 6 (by decide))
          have hx := hR.drew_ext
          have HR := Lib.hid hR
          have HN := Lib.hid hN
          clear hR hN hp hρ hx
          go_light
          go_simp
          refine (table_Holds 1 t.cols t.rows one.frm one.to At Bt C1 ct et c1 _ _ _ _ ((HRL.out.keep (HR.out.drew_ext.kept _)).2.1) ((HRL.out.keep (HR.out.drew_ext.kept _)).2.2) (HOS.out.keep (HR.out.drew_ext.kept _))).mono ?_
          rintro e' w3 ⟨he, hx⟩
          rw [← HHB.out] at he
          exact ⟨_, he, γ, LR.of_ext γ hx, fun _ _ _ h => h, rfl⟩
        · refine LinStep.yes fun vals γ w' ρ hR hN hp hρ hc hf hg => ⟨by show (boolOf (vals 1) == some true) = true; rw [show vals 1 = .bool true from hp 1 (by decide)]; rfl, ?_⟩
          have e8 : ρ (.tmp 8) = .pointer (some ⟨gt, 0, none⟩) := hρ 8
          have hx := hR.drew_ext
          have HR := Lib.hid hR
          have HN := Lib.hid hN
          clear hR hN hp hρ hx
          go_light
          go_simp
          exact ⟨γ, LR.refl _ _, fun _ _ _ h => h, rfl⟩
        · refine LinStep.yes fun vals γ w' ρ hR hN hp hρ hc hf hg => ⟨by show (boolOf (vals 1) == some true) = true; rw [show vals 1 = .bool true from hp 1 (by decide)]; rfl, ?_⟩
          have e69 : ρ (.tmp 69) = .pointer (some ⟨gt, 1, none⟩) := (hρ 69).trans (hp 8 (by decide))
          have hx := hR.drew_ext
          have c1 := (HGT.out.keep (hx.kept _)).cell (i := 1) rfl
          have HR := Lib.hid hR
          have HN := Lib.hid hN
          clear hR hN hp hρ hx
          go_light
          go_simp
          exact ⟨γ, LR.refl _ _, fun _ _ _ h => h, rfl⟩
        · refine LinStep.yes fun vals γ w' ρ hR hN hp hρ hc hf hg => ⟨by show (boolOf (vals 1) == some true) = true; rw [show vals 1 = .bool true from hp 1 (by decide)]; rfl, ?_⟩
          have e8 : ρ (.tmp 8) = .pointer (some ⟨gt, 0, none⟩) := hρ 8
          have hx := hR.drew_ext
          have HR := Lib.hid hR
          have HN := Lib.hid hN
          clear hR hN hp hρ hx
          go_light
          go_simp
          exact ⟨γ, LR.refl _ _, fun _ _ _ h => h, rfl⟩
        · refine LinStep.yes fun vals γ w' ρ hR hN hp hρ hc hf hg => ⟨by show (boolOf (vals 1) == some true) = true; rw [show vals 1 = .bool true from hp 1 (by decide)]; rfl, ?_⟩
          have e71 : ρ (.tmp 71) = .pointer (some ⟨gt, 2, none⟩) := (hρ 71).trans (hp 10 (by decide))
          have hx := hR.drew_ext
          have c2 := (HGT.out.keep (hx.kept _)).cell (i := 2) rfl
          have HR := Lib.hid hR
          have HN := Lib.hid hN
          clear hR hN hp hρ hx
          go_light
          go_simp
          exact ⟨γ, LR.refl _ _, fun _ _ _ h => h, rfl⟩
        · refine LinStep.yes fun vals γ w' ρ hR hN hp hρ hc hf hg => ⟨by show (boolOf (vals 1) == some true) = true; rw [show vals 1 = .bool true from hp 1 (by decide)]; rfl, ?_⟩
          have e10 : ρ (.tmp 10) = .pointer (some ⟨gd, 0, none⟩) := hρ 10
          have hx := hR.drew_ext
          have c0 := (HGD.out.keep (hx.kept _)).cell (i := 0) rfl
          have c1 := (HGD.out.keep (hx.kept _)).cell (i := 1) rfl
          have HR := Lib.hid hR
          have HN := Lib.hid hN
          clear hR hN hp hρ hx
          go_light
          go_simp
          exact ⟨γ, LR.refl _ _, fun _ _ _ h => h, rfl⟩
        · refine LinStep.yes fun vals γ w' ρ hR hN hp hρ hc hf hg => ⟨by show (boolOf (vals 1) == some true) = true; rw [show vals 1 = .bool true from hp 1 (by decide)]; rfl, ?_⟩
          have e70 : ρ (.tmp 70) = .slice At t.cols.length ct := (hρ 70).trans (hp 9 (by decide))
          have e72 : ρ (.tmp 72) = .slice Bt t.rows.length et := (hρ 72).trans (hp 11 (by decide))
          have e73 : ρ (.tmp 73) = .agg #[.slice C1 one.frm.length c1, .string one.to] := (hρ 73).trans (hp 12 (by decide))
          have hx := hR.drew_ext
          have HR := Lib.hid hR
          have HN := Lib.hid hN
          clear hR hN hp hρ hx
          go_light
          go_simp
          refine (r09_Holds 1 t.cols t.rows one.frm one.to At Bt C1 ct et c1 _ _ _ _ ((HRL.out.keep (HR.out.drew_ext.kept _)).2.1) ((HRL.out.keep (HR.out.drew_ext.kept _)).2.2) (HOS.out.keep (HR.out.drew_ext.kept _))).mono ?_
          rintro e' w3 ⟨he, hx⟩
          rw [← HHB.out] at he
          exact ⟨_, he, γ, LR.of_ext γ hx, fun _ _ _ h => h, rfl⟩
        · refine LinStep.yes fun vals γ w' ρ hR hN hp hρ hc hf hg => ⟨by show (boolOf (vals 1) == some true) = true; rw [show vals 1 = .bool true from hp 1 (by decide)]; rfl, ?_⟩
          have e68 : ρ (.tmp 68) = .bool hb := (hρ 68).trans (hp 7 (by decide))
          have e74 : ρ (.tmp 74) = .bool hb := (hρ 74).trans (hp 13 (by decide))
          have hx := hR.drew_ext
          have HR := Lib.hid hR
          have HN := Lib.hid hN
          clear hR hN hp hρ hx
          go_light
          go_simp
          refine ⟨γ, LR.refl _ _, fun _ _ _ h => h, ?_⟩
          cases hb <;> rfl
        · refine LinStep.yes fun vals γ w' ρ hR hN hp hρ hc hf hg => ⟨rfl, ?_⟩
          have e62 : ρ (.tmp 62) = .bool true := (hρ 62).trans (hp 1 (by decide))
          have e75 : ρ (.tmp 75) = .bool true := (hρ 75).trans (hp 14 (by decide))
          have hx := hR.drew_ext
          have HR := Lib.hid hR
          have HN := Lib.hid hN
          clear hR hN hp hρ hx
          go_light
          go_simp
          exact ⟨γ, LR.refl _ _, fun _ _ _ h => h, rfl⟩
        · refine LinStep.yes fun vals γ w' ρ hR hN hp hρ hc hf hg => ⟨rfl, ?_⟩
          have e76 : ρ (.tmp 76) = .bool true := (hρ 76).trans (hp 15 (by decide))
          have hx := hR.drew_ext
          have HR := Lib.hid hR
          have HN := Lib.hid hN
          clear hR hN hp hρ hx
          go_light
          go_simp
          exact ⟨γ, LR.refl _ _, fun _ _ _ h => h, rfl⟩
        · refine LinStep.yes fun vals γ w' ρ hR hN hp hρ hc hf hg => ⟨by show (boolOf (vals 16) == some true) = true; rw [show vals 16 = .bool true from hp 16 (by decide)]; rfl, ?_⟩
          have e8 : ρ (.tmp 8) = .pointer (some ⟨gt, 0, none⟩) := hρ 8
          have hx := hR.drew_ext
          have HR := Lib.hid hR
          have HN := Lib.hid hN
          clear hR hN hp hρ hx
          go_light
          go_simp
          exact ⟨γ, LR.refl _ _, fun _ _ _ h => h, rfl⟩
        · refine LinStep.yes fun vals γ w' ρ hR hN hp hρ hc hf hg => ⟨by show (boolOf (vals 16) == some true) = true; rw [show vals 16 = .bool true from hp 16 (by decide)]; rfl, ?_⟩
          have e78 : ρ (.tmp 78) = .pointer (some ⟨gt, 1, none⟩) := (hρ 78).trans (hp 17 (by decide))
          have hx := hR.drew_ext
          have c1 := (HGT.out.keep (hx.kept _)).cell (i := 1) rfl
          have HR := Lib.hid hR
          have HN := Lib.hid hN
          clear hR hN hp hρ hx
          go_light
          go_simp
          exact ⟨γ, LR.refl _ _, fun _ _ _ h => h, rfl⟩
        · refine LinStep.yes fun vals γ w' ρ hR hN hp hρ hc hf hg => ⟨by show (boolOf (vals 16) == some true) = true; rw [show vals 16 = .bool true from hp 16 (by decide)]; rfl, ?_⟩
          have e12 : ρ (.tmp 12) = .slice Ag (t.rows.length + 1) cg := hρ 12
          have hx := hR.drew_ext
          have HR := Lib.hid hR
          have HN := Lib.hid hN
          clear hR hN hp hρ hx
          go_light
          go_simp
          exact ⟨γ, LR.refl _ _, fun _ _ _ h => h, rfl⟩
        · refine LinStep.yes fun vals γ w' ρ hR hN hp hρ hc hf hg => ⟨by show (boolOf (vals 16) == some true) = true; rw [show vals 16 = .bool true from hp 16 (by decide)]; rfl, ?_⟩
          have e10 : ρ (.tmp 10) = .pointer (some ⟨gd, 0, none⟩) := hρ 10
          have hx := hR.drew_ext
          have c0 := (HGD.out.keep (hx.kept _)).cell (i := 0) rfl
          have c1 := (HGD.out.keep (hx.kept _)).cell (i := 1) rfl
          have HR := Lib.hid hR
          have HN := Lib.hid hN
          clear hR hN hp hρ hx
          go_light
          go_simp
          exact ⟨γ, LR.refl _ _, fun _ _ _ h => h, rfl⟩
        · refine LinStep.yes fun vals γ w' ρ hR hN hp hρ hc hf hg => ⟨by show (boolOf (vals 16) == some true) = true; rw [show vals 16 = .bool true from hp 16 (by decide)]; rfl, ?_⟩
          have e79 : ρ (.tmp 79) = .slice At t.cols.length ct := (hρ 79).trans (hp 18 (by decide))
          have e80 : ρ (.tmp 80) = .slice Ag (t.rows.length + 1) cg := (hρ 80).trans (hp 19 (by decide))
          have e81 : ρ (.tmp 81) = .agg #[.slice C1 one.frm.length c1, .string one.to] := (hρ 81).trans (hp 20 (by decide))
          have hx := hR.drew_ext
          have HR := Lib.hid hR
          have HN := Lib.hid hN
          clear hR hN hp hρ hx
          go_light
          go_simp
          have hc2 := table_Holds 1 t.cols (t.rows ++ [[]]) one.frm one.to At Ag C1 ct cg c1 w' _ _ _ ((HRL.out.keep (HR.out.drew_ext.kept _)).2.1) (HRG.out.keep (HR.out.drew_ext.kept _)) (HOS.out.keep (HR.out.drew_ext.kept _))
          rw [HRN.out] at hc2
          refine hc2.mono ?_
          rintro e' w3 ⟨he, hx⟩
          rw [hold_ragged HC1.out] at he
          exact ⟨_, he, γ, LR.of_ext γ hx, fun _ _ _ h => h, rfl⟩
        · refine LinStep.yes fun vals γ w' ρ hR hN hp hρ hc hf hg => ⟨by show (boolOf (vals 16) == some true) = true; rw [show vals 16 = .bool true from hp 16 (by decide)]; rfl, ?_⟩
          have e82 : ρ (.tmp 82) = .bool false := (hρ 82).trans (hp 21 (by decide))
          have hx := hR.drew_ext
          have HR := Lib.hid hR
          have HN := Lib.hid hN
          clear hR hN hp hρ hx
          go_light
          go_simp
          exact ⟨γ, LR.refl _ _, fun _ _ _ h => h, rfl⟩
        · refine LinStep.yes fun vals γ w' ρ hR hN hp hρ hc hf hg => ⟨rfl, ?_⟩
          have e77 : ρ (.tmp 77) = .bool true := (hρ 77).trans (hp 16 (by decide))
          have e83 : ρ (.tmp 83) = .bool true := (hρ 83).trans (hp 22 (by decide))
          have hx := hR.drew_ext
          have HR := Lib.hid hR
          have HN := Lib.hid hN
          clear hR hN hp hρ hx
          go_light
          go_simp
          exact ⟨γ, LR.refl _ _, fun _ _ _ h => h, rfl⟩
        · refine LinStep.yes fun vals γ w' ρ hR hN hp hρ hc hf hg => ⟨rfl, ?_⟩
          have e84 : ρ (.tmp 84) = .bool true := (hρ 84).trans (hp 23 (by decide))
          have hx := hR.drew_ext
          have HR := Lib.hid hR
          have HN := Lib.hid hN
          clear hR hN hp hρ hx
          go_light
          go_simp
          exact ⟨γ, LR.refl _ _, fun _ _ _ h => h, rfl⟩
        · refine LinStep.yes fun vals γ w' ρ hR hN hp hρ hc hf hg => ⟨by show (boolOf (vals 24) == some true) = true; rw [show vals 24 = .bool true from hp 24 (by decide)]; rfl, ?_⟩
          have e13 : ρ (.tmp 13) = .slice A3 cl.length c3 := hρ 13
          have hx := hR.drew_ext
          have HR := Lib.hid hR
          have HN := Lib.hid hN
          clear hR hN hp hρ hx
          go_light
          go_simp
          exact ⟨γ, LR.refl _ _, fun _ _ _ h => h, rfl⟩
        · refine LinStep.yes fun vals γ w' ρ hR hN hp hρ hc hf hg => ⟨by show (boolOf (vals 24) == some true) = true; rw [show vals 24 = .bool true from hp 24 (by decide)]; rfl, ?_⟩
          have e14 : ρ (.tmp 14) = .slice A4 cl.length c4 := hρ 14
          have hx := hR.drew_ext
          have HR := Lib.hid hR
          have HN := Lib.hid hN
          clear hR hN hp hρ hx
          go_light
          go_simp
          exact ⟨γ, LR.refl _ _, fun _ _ _ h => h, rfl⟩
        · refine LinStep.yes fun vals γ w' ρ hR hN hp hρ hc hf hg => ⟨by show (boolOf (vals 24) == some true) = true; rw [show vals 24 = .bool true from hp 24 (by decide)]; rfl, ?_⟩
          have e86 : ρ (.tmp 86) = .slice A3 cl.length c3 := (hρ 86).trans (hp 25 (by decide))
          have e87 : ρ (.tmp 87) = .slice A4 cl.length c4 := (hρ 87).trans (hp 26 (by decide))
          have hx := hR.drew_ext
          have HR := Lib.hid hR
          have HN := Lib.hid hN
          clear hR hN hp hρ hx
          go_light
          go_simp
          refine (r06_StringsSame A3 A4 c3 c4 cl _ _ _ (HSA.out.keep (HR.out.drew_ext.kept _)) (HSB.out.keep (HR.out.drew_ext.kept _))).mono ?_
          rintro e' w3 ⟨he, n, rfl⟩
          exact ⟨_, he, γ, LR.of_ext γ ((Ext.refl _).drewN n), fun _ _ _ h => h, rfl⟩
        · refine LinStep.yes fun vals γ w' ρ hR hN hp hρ hc hf hg => ⟨rfl, ?_⟩
          have e85 : ρ (.tmp 85) = .bool true := (hρ 85).trans (hp 24 (by decide))
          have e88 : ρ (.tmp 88) = .bool true := (hρ 88).trans (hp 27 (by decide))
          have hx := hR.drew_ext
          have HR := Lib.hid hR
          have HN := Lib.hid hN
          clear hR hN hp hρ hx
          go_light
          go_simp
          exact ⟨γ, LR.refl _ _, fun _ _ _ h => h, rfl⟩
        · refine LinStep.yes fun vals γ w' ρ hR hN hp hρ hc hf hg => ⟨rfl, ?_⟩
          have e89 : ρ (.tmp 89) = .bool true := (hρ 89).trans (hp 28 (by decide))
          have hx := hR.drew_ext
          have HR := Lib.hid hR
          have HN := Lib.hid hN
          clear hR hN hp hρ hx
          go_light
          go_simp
          exact ⟨γ, LR.refl _ _, fun _ _ _ h => h, rfl⟩
        · refine LinStep.yes fun vals γ w' ρ hR hN hp hρ hc hf hg => ⟨by show (boolOf (vals 29) == some true) = true; rw [show vals 29 = .bool true from hp 29 (by decide)]; rfl, ?_⟩
          have e9 : ρ (.tmp 9) = .slice Aa all.length ca := hρ 9
          have hx := hR.drew_ext
          have HR := Lib.hid hR
          have HN := Lib.hid hN
          clear hR hN hp hρ hx
          go_light
          go_simp
          exact ⟨γ, LR.refl _ _, fun _ _ _ h => h, rfl⟩
        · refine LinStep.yes fun vals γ w' ρ hR hN hp hρ hc hf hg => ⟨by show (boolOf (vals 29) == some true) = true; rw [show vals 29 = .bool true from hp 29 (by decide)]; rfl, ?_⟩
          have e10 : ρ (.tmp 10) = .pointer (some ⟨gd, 0, none⟩) := hρ 10
          have hx := hR.drew_ext
          have c0 := (HGD.out.keep (hx.kept _)).cell (i := 0) rfl
          have c1 := (HGD.out.keep (hx.kept _)).cell (i := 1) rfl
          have HR := Lib.hid hR
          have HN := Lib.hid hN
          clear hR hN hp hρ hx
          go_light
          go_simp
          exact ⟨γ, LR.refl _ _, fun _ _ _ h => h, rfl⟩
        · refine LinStep.yes fun vals γ w' ρ hR hN hp hρ hc hf hg => ⟨by show (boolOf (vals 29) == some true) = true; rw [show vals 29 = .bool true from hp 29 (by decide)]; rfl, ?_⟩
          have e91 : ρ (.tmp 91) = .slice Aa all.length ca := (hρ 91).trans (hp 30 (by decide))
          have e92 : ρ (.tmp 92) = .agg #[.slice C1 one.frm.length c1, .string one.to] := (hρ 92).trans (hp 31 (by decide))
          have hx := hR.drew_ext
          have HR := Lib.hid hR
          have HN := Lib.hid hN
          clear hR hN hp hρ hx
          go_light
          go_simp
          refine (table_Implies all one.frm one.to Aa C1 ca c1 _ _ _ (HRA.out.keep (HR.out.drew_ext.kept _)) (HOS.out.keep (HR.out.drew_ext.kept _)) (by omega)).mono ?_
          rintro e' w3 ⟨he, hx⟩
          rw [← HIB.out] at he
          exact ⟨_, he, γ, LR.of_ext γ hx, fun _ _ _ h => h, rfl⟩
        · refine LinStep.yes fun vals γ w' ρ hR hN hp hρ hc hf hg => ⟨by show (boolOf (vals 29) == some true) = true; rw [show vals 29 = .bool true from hp 29 (by decide)]; rfl, ?_⟩
          have e9 : ρ (.tmp 9) = .slice Aa all.length ca := hρ 9
          have hx := hR.drew_ext
          have HR := Lib.hid hR
          have HN := Lib.hid hN
          clear hR hN hp hρ hx
          go_light
          go_simp
          exact ⟨γ, LR.refl _ _, fun _ _ _ h => h, rfl⟩
        · refine LinStep.yes fun vals γ w' ρ hR hN hp hρ hc hf hg => ⟨by show (boolOf (vals 29) == some true) = true; rw [show vals 29 = .bool true from hp 29 (by decide)]; rfl, ?_⟩
          have e10 : ρ (.tmp 10) = .pointer (some ⟨gd, 0, none⟩) := hρ 10
          have hx := hR.drew_ext
          have c0 := (HGD.out.keep (hx.kept _)).cell (i := 0) rfl
          have c1 := (HGD.out.keep (hx.kept _)).cell (i := 1) rfl
          have HR := Lib.hid hR
          have HN := Lib.hid hN
          clear hR hN hp hρ hx
          go_light
          go_simp
          exact ⟨γ, LR.refl _ _, fun _ _ _ h => h, rfl⟩
        · refine LinStep.yes fun vals γ w' ρ hR hN hp hρ hc hf hg => ⟨by show (boolOf (vals 29) == some true) = true; rw [show vals 29 = .bool true from hp 29 (by decide)]; rfl, ?_⟩
          have e94 : ρ (.tmp 94) = .slice Aa all.length ca := (hρ 94).trans (hp 33 (by decide))
          have e95 : ρ (.tmp 95) = .agg #[.slice C1 one.frm.length c1, .string one.to] := (hρ 95).trans (hp 34 (by decide))
          have hx := hR.drew_ext
          have HR := Lib.hid hR
          have HN := Lib.hid hN
          clear hR hN hp hρ hx
          go_light
          go_simp
          refine (r09_Implies all one.frm one.to Aa C1 ca c1 _ _ _ (HRA.out.keep (HR.out.drew_ext.kept _)) (HOS.out.keep (HR.out.drew_ext.kept _)) (by omega)).mono ?_
          rintro e' w3 ⟨he, hx⟩
          rw [← HIB.out] at he
          exact ⟨_, he, γ, LR.of_ext γ hx, fun _ _ _ h => h, rfl⟩
        · refine LinStep.yes fun vals γ w' ρ hR hN hp hρ hc hf hg => ⟨by show (boolOf (vals 29) == some true) = true; rw [show vals 29 = .bool true from hp 29 (by decide)]; rfl, ?_⟩
          have e93 : ρ (.tmp 93) = .bool ib := (hρ 93).trans (hp 32 (by decide))
          have e96 : ρ (.tmp 96) = .bool ib := (hρ 96).trans (hp 35 (by decide))
          have hx := hR.drew_ext
          have HR := Lib.hid hR
          have HN := Lib.hid hN
          clear hR hN hp hρ hx
          go_light
          go_simp
          refine ⟨γ, LR.refl _ _, fun _ _ _ h => h, ?_⟩
          cases ib <;> rfl
        · refine LinStep.yes fun vals γ w' ρ hR hN hp hρ hc hf hg => ⟨rfl, ?_⟩
          have e90 : ρ (.tmp 90) = .bool true := (hρ 90).trans (hp 29 (by decide))
          have e97 : ρ (.tmp 97) = .bool true := (hρ 97).trans (hp 36 (by decide))
          have hx := hR.drew_ext
          have HR := Lib.hid hR
          have HN := Lib.hid hN
          clear hR hN hp hρ hx
          go_light
          go_simp
          exact ⟨γ, LR.refl _ _, fun _ _ _ h => h, rfl⟩
        · refine LinStep.yes fun vals γ w' ρ hR hN hp hρ hc hf hg => ⟨rfl, ?_⟩
          have e98 : ρ (.tmp 98) = .bool true := (hρ 98).trans (hp 37 (by decide))
          have hx := hR.drew_ext
          have HR := Lib.hid hR
          have HN := Lib.hid hN
          clear hR hN hp hρ hx
          go_light
          go_simp
          exact ⟨γ, LR.refl _ _, fun _ _ _ h => h, rfl⟩
        · intro vals γ w10 hR hG
          have h38 : vals 38 = .bool true := hG 38 (by decide)
          have HXF := Lib.hid (((HXW.out.trans HE8.out).trans HX9.out).trans hR.drew_ext)
          clear hR hG
          simp only [lexFrame, Act.put, List.setIfInBounds_toArray, List.set_cons_succ, List.set_cons_zero, Nat.zero_add, Nat.reduceAdd, h38]
          clear h38
          go_wp2
          go_ret
          exact ⟨rfl, HXF.out⟩
end Go.Proofs.YtcmmkeiiapbgcaaGreatDoor
