/- The law's sanity: true. Condition: the table of tens is there. -/
import Derived.Test.YtcmmkeiiapbgcaaGreatDoorBm12
namespace Go.Proofs.YtcmmkeiiapbgcaaGreatDoor
open Go Go.RowKit

def twoV : Val := numV 2 0
/-- The facts of the statement 'v, e := table.Find(t, city, text(key), country)'. -/
def gFind (A : Option Addr) (c : Nat) (B : Option Addr) (e : Nat) (key : ByteArray) (res : Val) (code : Int) : Nat → List Value → Gh → World → Prop
  | 0, [v], _, _ => v = (.agg #[.string citiesT.name, .slice A citiesT.cols.length c, .slice B citiesT.rows.length e])
  | 1, [v], _, _ => ∃ x, x = textV key ∧ v = (.agg #[.int .i64 x.kind, .string x.s, .int .i64 x.dn, .int .i64 x.ds, .int .i64 x.n, .slice none x.cols.length 0, .slice none x.rows.length 0])
  | 2, [v], _, _ => ∃ Av cv Bv ev, v = .tuple #[(.agg #[.int .i64 res.kind, .string res.s, .int .i64 res.dn, .int .i64 res.ds, .int .i64 res.n, .slice Av res.cols.length cv, .slice Bv res.rows.length ev]), .int .i64 code]
  | 3, [v], _, _ => ∃ Av cv Bv ev, v = .tuple #[(.agg #[.int .i64 res.kind, .string res.s, .int .i64 res.dn, .int .i64 res.ds, .int .i64 res.n, .slice Av res.cols.length cv, .slice Bv res.rows.length ev]), .int .i64 code]
  | 4, [v], _, _ => ∃ Av cv Bv ev, v = (.agg #[.int .i64 res.kind, .string res.s, .int .i64 res.dn, .int .i64 res.ds, .int .i64 res.n, .slice Av res.cols.length cv, .slice Bv res.rows.length ev])
  | 5, [v], _, _ => v = .int .i64 code
  | 6, [v], γ, w => VarAt 6 33 7 v γ w
  | 7, [p, _], γ, w => ∃ Av cv Bv ev, VarIs 33 p #[.int .i64 res.kind, .string res.s, .int .i64 res.dn, .int .i64 res.ds, .int .i64 res.n, .slice Av res.cols.length cv, .slice Bv res.rows.length ev] γ w
  | 8, [v], _, _ => v = .int .i64 code
  | _, _, _, _ => True
def dFind : Nat → List Nat | 7 => [6, 7] | i => [i]
theorem gFind_st (A : Option Addr) (c : Nat) (B : Option Addr) (e : Nat) (key : ByteArray) (res : Val) (code : Int) : ∀ i l γ w γ' w', LR γ w γ' w' → gFind A c B e key res code i l γ w → gFind A c B e key res code i l γ' w' := by
  intro i l γ w γ' w' r h
  unfold gFind at h ⊢
  split at h <;> first | exact h | exact VarAt.lr r h | (obtain ⟨a, b, c, d, h⟩ := h; exact ⟨a, b, c, d, VarIs.lr r h⟩)

/-- The values of the statement 'return table.Right(t) && ..'. -/
def vSan (A : Option Addr) (c : Nat) (B : Option Addr) (e : Nat) (Av : Option Addr) (cv : Nat) (Bv : Option Addr) (ev : Nat) (Ak : Option Addr) (ck : Nat) (w5 : World) (A7 : Option Addr) (c7 : Nat) (As : Option Addr) (cs : Nat) (Bs : Option Addr) (es : Nat) : Nat → Value
  | 0 => (.agg #[.string citiesT.name, .slice A citiesT.cols.length c, .slice B citiesT.rows.length e])
  | 1 => .bool true
  | 2 => .bool true
  | 3 => .int .i64 0
  | 4 => .bool true
  | 5 => .bool true
  | 6 => .bool true
  | 7 => (.agg #[.int .i64 noV.kind, .string noV.s, .int .i64 noV.dn, .int .i64 noV.ds, .int .i64 noV.n, .slice Av noV.cols.length cv, .slice Bv noV.rows.length ev])
  | 8 => (.agg #[.int .i64 noV.kind, .string noV.s, .int .i64 noV.dn, .int .i64 noV.ds, .int .i64 noV.n, .slice none noV.cols.length 0, .slice none noV.rows.length 0])
  | 9 => .bool true
  | 10 => .bool true
  | 11 => .bool true
  | 12 => .int .i64 18
  | 13 => .bool true
  | 14 => .bool true
  | 15 => .bool true
  | 16 => .slice Ak wantD.length ck
  | 17 => .slice (some ⟨w5.heap.size + 1 + 1 + 1 + 1, 0, none⟩) 4 4
  | 18 => .bool true
  | 19 => .bool true
  | 20 => .bool true
  | 21 => .bool true
  | 22 => .bool true
  | 23 => .bool true
  | 24 => .slice A7 3 c7
  | 26 => .bool true
  | 27 => .bool true
  | 28 => .bool true
  | 29 => .int .i64 0
  | 30 => .bool true
  | 31 => .bool true
  | 32 => .bool true
  | 33 => (.agg #[.int .i64 twoV.kind, .string twoV.s, .int .i64 twoV.dn, .int .i64 twoV.ds, .int .i64 twoV.n, .slice As twoV.cols.length cs, .slice Bs twoV.rows.length es])
  | 34 => (.agg #[.int .i64 twoV.kind, .string twoV.s, .int .i64 twoV.dn, .int .i64 twoV.ds, .int .i64 twoV.n, .slice none twoV.cols.length 0, .slice none twoV.rows.length 0])
  | 35 => .bool true
  | 36 => .bool true
  | 37 => .bool true
  | 38 => .int .i64 20
  | 39 => .bool true
  | 40 => .bool true
  | 41 => .bool true
  | _ => undef
def gSan (A : Option Addr) (c : Nat) (B : Option Addr) (e : Nat) (Av : Option Addr) (cv : Nat) (Bv : Option Addr) (ev : Nat) (Ak : Option Addr) (ck : Nat) (w5 : World) (A7 : Option Addr) (c7 : Nat) (As : Option Addr) (cs : Nat) (Bs : Option Addr) (es : Nat) (i : Nat) (l : List Value) (γ : Gh) (w : World) : Prop := match l with
  | [v] => if i = 25 then ∃ g, v = .slice (some ⟨g, 0, none⟩) 3 3 ∧ Strs w (Free γ) (some ⟨g, 0, none⟩) [sA, sB, sC] else v = vSan A c B e Av cv Bv ev Ak ck w5 A7 c7 As cs Bs es i
  | _ => True
theorem gSan_st (A : Option Addr) (c : Nat) (B : Option Addr) (e : Nat) (Av : Option Addr) (cv : Nat) (Bv : Option Addr) (ev : Nat) (Ak : Option Addr) (ck : Nat) (w5 : World) (A7 : Option Addr) (c7 : Nat) (As : Option Addr) (cs : Nat) (Bs : Option Addr) (es : Nat) : ∀ i l γ w γ' w', LR γ w γ' w' → gSan A c B e Av cv Bv ev Ak ck w5 A7 c7 As cs Bs es i l γ w → gSan A c B e Av cv Bv ev Ak ck w5 A7 c7 As cs Bs es i l γ' w' := by
  intro i l γ w γ' w' r h
  match l, h with
  | [v], h =>
    unfold gSan at h ⊢
    by_cases hi : i = 25
    · simp only [if_pos hi] at h ⊢
      obtain ⟨g, h1, h2⟩ := h
      exact ⟨g, h1, r.strs h2⟩
    · simp only [if_neg hi] at h ⊢
      exact h
  | [], _ => trivial
  | _ :: _ :: _, _ => trivial
def dSan : Nat → List Nat := fun i => [i]
set_option maxRecDepth 100000 in
set_option maxHeartbeats 2000000 in
theorem law_sanity (w : World) (ht : Tens w) : Calls Tryz.prog 8 #[] w (RetB w true) := by
  have HT := Lib.hid ht
  clear ht
  go_enter Tryz.func8, Tryz.ntmps8
  go_wp2_with fail
  refine (law_cities _).mono ?_
  rintro e1 w1 ⟨A, c, B, e, rfl, ⟨hcp1, hcp2⟩, hrl, hx1⟩
  have HCP1 := Lib.hid hcp1
  have HRL := Lib.hid (hrl.keep (Kept.alloc _ _ (.cells #[.string citiesT.name, .slice A citiesT.cols.length c, .slice B citiesT.rows.length e] 28)))
  have HX2 := Lib.hid (hx1.alloc (.cells #[.string citiesT.name, .slice A citiesT.cols.length c, .slice B citiesT.rows.length e] 28))
  have HBT := Lib.hid (Blk.new w1 28 #[.string citiesT.name, .slice A citiesT.cols.length c, .slice B citiesT.rows.length e])
  clear hrl hx1 hcp1 hcp2
  go_upto_region 2 with fail
  obtain ⟨w2, hw2⟩ : ∃ w2, w2 = w1.alloc (.cells #[.string citiesT.name, .slice A citiesT.cols.length c, .slice B citiesT.rows.length e] 28) := ⟨_, rfl⟩
  rw [← hw2] at HRL HX2 HBT
  rw [← hw2]
  clear hw2
  have t0 := HBT.out.cell (i := 0) rfl
  have t1 := HBT.out.cell (i := 1) rfl
  have t2 := HBT.out.cell (i := 2) rfl
  clear HBT
  go_upto_region 2 with fail
  go_cut [2, 3] from 15 to 127 (fun p b wx => ∃ g Av cv Bv ev, p = .pointer (some ⟨g, 0, none⟩) ∧ b = .int .i64 0 ∧ Ext w2 wx ∧ Blk wx g 33 #[.int .i64 noV.kind, .string noV.s, .int .i64 noV.dn, .int .i64 noV.ds, .int .i64 noV.n, .slice Av noV.cols.length cv, .slice Bv noV.rows.length ev])
  case first =>
    refine wp_region_lin_lit (by kernel_rfl) dFind (by kernel_rfl) LR LR.refl LR.trans (LN (al1 7 6)) (gFind A c B e sOslo noV 0) (gFind_st _ _ _ _ _ _ _) gh0 (LN.zero _) ⟨?_, ?_, ?_, ?_, ?_, ?_, ?_, ?_, ?_, trivial⟩ ?_
    · refine LinStep.yes fun vals γ w' ρ hR hN hp hρ hc hf hg => ⟨rfl, ?_⟩
      have hx := hR.drew_ext
      have c0 := hx.cell t0
      have c1 := hx.cell t1
      have c2 := hx.cell t2
      have e1 : ρ (.tmp 1) = .pointer (some ⟨w1.heap.size, 0, none⟩) := hρ 1
      clear hR hN hp hρ t0 t1 t2 hx
      go_light
      go_simp
      exact ⟨γ, LR.refl _ _, fun _ _ _ h => h, rfl⟩
    · refine LinStep.yes fun vals γ w' ρ hR hN hp hρ hc hf hg => ⟨rfl, ?_⟩
      clear hR hN hp hρ t0 t1 t2
      go_light
      go_simp
      exact (law_text _ _).mono fun e' w3 ⟨he, hx⟩ => ⟨_, he, γ, LR.of_ext γ hx, fun _ _ _ h => h, _, rfl, rfl⟩
    · refine LinStep.yes fun vals γ w' ρ hR hN hp hρ hc hf hg => ⟨rfl, ?_⟩
      have e17 : ρ (.tmp 17) = _ := (hρ 17).trans (hp 0 (by decide))
      obtain ⟨x, hx1, g1⟩ := hp 1 (by decide)
      have e18 : ρ (.tmp 18) = _ := (hρ 18).trans g1
      have HR := Lib.hid hR
      subst hx1
      clear hR hN hp hρ t0 t1 t2 g1
      go_light
      go_simp
      refine (table_Find 1 citiesT sCity (textV sOslo) sCountry A B none none c e 0 0 _ (Fresh w) (Fresh w) (HRL.out.keep (HR.out.drew_ext.kept _)) HCP1.out (RV.flat (flat_text _ (by decide)))).mono ?_
      rintro e1 w4 ⟨Av, cv, Bv, ev, he, -, -, hx4⟩
      rw [san_find1] at he
      exact ⟨_, he, γ, LR.of_ext γ hx4, fun _ _ _ h => h, Av, cv, Bv, ev, rfl⟩
    · refine LinStep.yes fun vals γ w' ρ hR hN hp hρ hc hf hg => ⟨rfl, ?_⟩
      obtain ⟨Av, cv, Bv, ev, g⟩ := hp 2 (by decide)
      have e19 : ρ (.tmp 19) = _ := (hρ 19).trans g
      clear hR hN hp hρ t0 t1 t2 g
      go_light
      go_simp
      exact ⟨γ, LR.refl _ _, fun _ _ _ h => h, Av, cv, Bv, ev, rfl⟩
    · refine LinStep.yes fun vals γ w' ρ hR hN hp hρ hc hf hg => ⟨rfl, ?_⟩
      obtain ⟨Av, cv, Bv, ev, g⟩ := hp 3 (by decide)
      have e19 : ρ (.tmp 16) = _ := (hρ 16).trans g
      clear hR hN hp hρ t0 t1 t2 g
      go_light
      go_simp
      exact ⟨γ, LR.refl _ _, fun _ _ _ h => h, Av, cv, Bv, ev, rfl⟩
    · refine LinStep.yes fun vals γ w' ρ hR hN hp hρ hc hf hg => ⟨rfl, ?_⟩
      obtain ⟨Av, cv, Bv, ev, g⟩ := hp 3 (by decide)
      have e19 : ρ (.tmp 16) = _ := (hρ 16).trans g
      clear hR hN hp hρ t0 t1 t2 g
      go_light
      go_simp
      exact ⟨γ, LR.refl _ _, fun _ _ _ h => h, rfl⟩
    · refine LinStep.yes fun vals γ w' ρ hR hN hp hρ hc hf hg => ⟨rfl, ?_⟩
      have HB := Lib.hid hR.inb0
      have HN := Lib.hid hN
      clear hR hN hp hρ t0 t1 t2
      go_light
      go_simp
      exact ⟨γ.put 6 (some w'.heap.size), LR.new (HN.out.2 ⟨7, rfl⟩) _ _, LN.made, VarAt.new HB.out rfl⟩
    · refine LinStep.yes fun vals γ w' ρ hR hN hp hρ hc hf hg => ⟨rfl, ?_⟩
      obtain ⟨Av, cv, Bv, ev, g4⟩ := hp 4 (by decide)
      have e20 : ρ (.tmp 20) = _ := (hρ 20).trans g4
      obtain ⟨g, hv, hcs, hk, hst⟩ := VarAt.store7 (hp 6 (by decide)) (s := 7) (al := al1 7 6) rfl hN
      have e2 : ρ (.tmp 2) = _ := (hρ 2).trans hv
      obtain ⟨⟨x0, x1, x2, x3, x4, x5, x6, k0, k1, k2, k3, k4, k5, k6⟩, kf, kz⟩ := blk7 hcs
      have HST := Lib.hid hst
      have HK := Lib.hid hk
      clear hR hN hp hρ t0 t1 t2 g4 hv hst hcs hk
      go_light
      go_simp
      exact ⟨γ.put 6 none, (HST.out _ _ _ _ _ _ _).1, LN.stored al1_inj rfl HK.out, Av, cv, Bv, ev, (HST.out _ _ _ _ _ _ _).2⟩
    · refine LinStep.yes fun vals γ w' ρ hR hN hp hρ hc hf hg => ⟨rfl, ?_⟩
      have e21 : ρ (.tmp 21) = _ := (hρ 21).trans (hp 5 (by decide))
      clear hR hN hp hρ t0 t1 t2
      go_light
      go_simp
      exact ⟨γ, LR.refl _ _, fun _ _ _ h => h, rfl⟩
    · intro vals γ w' hR hG
      obtain ⟨Av, cv, Bv, ev, g, hv, hb, -⟩ := hG 7 (by decide)
      have h8 : vals 8 = .int .i64 0 := hG 8 (by decide)
      have HX := Lib.hid hR.drew_ext
      have HB := Lib.hid hb
      clear hR hG hb
      simp only [lexFrame, Act.put, List.setIfInBounds_toArray, List.set_cons_succ, List.set_cons_zero, Nat.zero_add, Nat.reduceAdd, hv, h8]
      generalize vals 0 = u0, vals 1 = u1, vals 2 = u2, vals 3 = u3, vals 4 = u4, vals 5 = u5
      clear hv h8
      go_wp2_with fail
      go_meet
      case rel => exact ⟨g, Av, cv, Bv, ev, rfl, rfl, HX.out, HB.out⟩
  case rest =>
  obtain ⟨g1, Av, cv, Bv, ev, rfl, rfl, hx3, hb3⟩ := hcut
  obtain ⟨w3, rfl⟩ : ∃ w3, w3 = wc := ⟨_, rfl⟩
  have s0 := hx3.cell t0
  have s1 := hx3.cell t1
  have s2 := hx3.cell t2
  have hz3 := hx3.size
  have HX3 := Lib.hid (HX2.out.trans hx3)
  have HB3 := Lib.hid hb3
  have HRL3 := Lib.hid (HRL.out.keep (hx3.kept _))
  clear hx3 hb3 HX2 HRL t0 t1 t2
  have HRL := HRL3
  have t0 := s0
  have t1 := s1
  have t2 := s2
  clear HRL3 s0 s1 s2
  go_upto_region 3 with fail
  go_cut [4, 5] from 15 to 127 (fun p b wx => ∃ g Av cv Bv ev, p = .pointer (some ⟨g, 0, none⟩) ∧ b = .int .i64 18 ∧ Ext w3 wx ∧ Blk wx g 33 #[.int .i64 Val.zero.kind, .string Val.zero.s, .int .i64 Val.zero.dn, .int .i64 Val.zero.ds, .int .i64 Val.zero.n, .slice Av Val.zero.cols.length cv, .slice Bv Val.zero.rows.length ev])
  case first =>
    refine wp_region_lin_lit (by kernel_rfl) dFind (by kernel_rfl) LR LR.refl LR.trans (LN (al1 7 6)) (gFind A c B e sParis Val.zero 18) (gFind_st _ _ _ _ _ _ _) gh0 (LN.zero _) ⟨?_, ?_, ?_, ?_, ?_, ?_, ?_, ?_, ?_, trivial⟩ ?_
    · refine LinStep.yes fun vals γ w' ρ hR hN hp hρ hc hf hg => ⟨rfl, ?_⟩
      have hx := hR.drew_ext
      have c0 := hx.cell t0
      have c1 := hx.cell t1
      have c2 := hx.cell t2
      have e1 : ρ (.tmp 1) = .pointer (some ⟨w1.heap.size, 0, none⟩) := hρ 1
      clear hR hN hp hρ t0 t1 t2 hx
      go_light
      go_simp
      exact ⟨γ, LR.refl _ _, fun _ _ _ h => h, rfl⟩
    · refine LinStep.yes fun vals γ w' ρ hR hN hp hρ hc hf hg => ⟨rfl, ?_⟩
      clear hR hN hp hρ t0 t1 t2
      go_light
      go_simp
      exact (law_text _ _).mono fun e' w3 ⟨he, hx⟩ => ⟨_, he, γ, LR.of_ext γ hx, fun _ _ _ h => h, _, rfl, rfl⟩
    · refine LinStep.yes fun vals γ w' ρ hR hN hp hρ hc hf hg => ⟨rfl, ?_⟩
      have e17 : ρ (.tmp 23) = _ := (hρ 23).trans (hp 0 (by decide))
      obtain ⟨x, hx1, g1⟩ := hp 1 (by decide)
      have e18 : ρ (.tmp 24) = _ := (hρ 24).trans g1
      have HR := Lib.hid hR
      subst hx1
      clear hR hN hp hρ t0 t1 t2 g1
      go_light
      go_simp
      refine (table_Find 1 citiesT sCity (textV sParis) sCountry A B none none c e 0 0 _ (Fresh w) (Fresh w) (HRL.out.keep (HR.out.drew_ext.kept _)) HCP1.out (RV.flat (flat_text _ (by decide)))).mono ?_
      rintro e1 w4 ⟨Av, cv, Bv, ev, he, -, -, hx4⟩
      rw [san_find2] at he
      exact ⟨_, he, γ, LR.of_ext γ hx4, fun _ _ _ h => h, Av, cv, Bv, ev, rfl⟩
    · refine LinStep.yes fun vals γ w' ρ hR hN hp hρ hc hf hg => ⟨rfl, ?_⟩
      obtain ⟨Av, cv, Bv, ev, g⟩ := hp 2 (by decide)
      have e19 : ρ (.tmp 25) = _ := (hρ 25).trans g
      clear hR hN hp hρ t0 t1 t2 g
      go_light
      go_simp
      exact ⟨γ, LR.refl _ _, fun _ _ _ h => h, Av, cv, Bv, ev, rfl⟩
    · refine LinStep.yes fun vals γ w' ρ hR hN hp hρ hc hf hg => ⟨rfl, ?_⟩
      obtain ⟨Av, cv, Bv, ev, g⟩ := hp 3 (by decide)
      have e19 : ρ (.tmp 22) = _ := (hρ 22).trans g
      clear hR hN hp hρ t0 t1 t2 g
      go_light
      go_simp
      exact ⟨γ, LR.refl _ _, fun _ _ _ h => h, Av, cv, Bv, ev, rfl⟩
    · refine LinStep.yes fun vals γ w' ρ hR hN hp hρ hc hf hg => ⟨rfl, ?_⟩
      obtain ⟨Av, cv, Bv, ev, g⟩ := hp 3 (by decide)
      have e19 : ρ (.tmp 22) = _ := (hρ 22).trans g
      clear hR hN hp hρ t0 t1 t2 g
      go_light
      go_simp
      exact ⟨γ, LR.refl _ _, fun _ _ _ h => h, rfl⟩
    · refine LinStep.yes fun vals γ w' ρ hR hN hp hρ hc hf hg => ⟨rfl, ?_⟩
      have HB := Lib.hid hR.inb0
      have HN := Lib.hid hN
      clear hR hN hp hρ t0 t1 t2
      go_light
      go_simp
      exact ⟨γ.put 6 (some w'.heap.size), LR.new (HN.out.2 ⟨7, rfl⟩) _ _, LN.made, VarAt.new HB.out rfl⟩
    · refine LinStep.yes fun vals γ w' ρ hR hN hp hρ hc hf hg => ⟨rfl, ?_⟩
      obtain ⟨Av, cv, Bv, ev, g4⟩ := hp 4 (by decide)
      have e20 : ρ (.tmp 26) = _ := (hρ 26).trans g4
      obtain ⟨g, hv, hcs, hk, hst⟩ := VarAt.store7 (hp 6 (by decide)) (s := 7) (al := al1 7 6) rfl hN
      have e2 : ρ (.tmp 4) = _ := (hρ 4).trans hv
      obtain ⟨⟨x0, x1, x2, x3, x4, x5, x6, k0, k1, k2, k3, k4, k5, k6⟩, kf, kz⟩ := blk7 hcs
      have HST := Lib.hid hst
      have HK := Lib.hid hk
      clear hR hN hp hρ t0 t1 t2 g4 hv hst hcs hk
      go_light
      go_simp
      exact ⟨γ.put 6 none, (HST.out _ _ _ _ _ _ _).1, LN.stored al1_inj rfl HK.out, Av, cv, Bv, ev, (HST.out _ _ _ _ _ _ _).2⟩
    · refine LinStep.yes fun vals γ w' ρ hR hN hp hρ hc hf hg => ⟨rfl, ?_⟩
      have e21 : ρ (.tmp 27) = _ := (hρ 27).trans (hp 5 (by decide))
      clear hR hN hp hρ t0 t1 t2
      go_light
      go_simp
      exact ⟨γ, LR.refl _ _, fun _ _ _ h => h, rfl⟩
    · intro vals γ w' hR hG
      obtain ⟨Av, cv, Bv, ev, g, hv, hb, -⟩ := hG 7 (by decide)
      have h8 : vals 8 = .int .i64 18 := hG 8 (by decide)
      have HX := Lib.hid hR.drew_ext
      have HB := Lib.hid hb
      clear hR hG hb
      simp only [lexFrame, Act.put, List.setIfInBounds_toArray, List.set_cons_succ, List.set_cons_zero, Nat.zero_add, Nat.reduceAdd, hv, h8]
      generalize vals 0 = u0, vals 1 = u1, vals 2 = u2, vals 3 = u3, vals 4 = u4, vals 5 = u5
      clear hv h8
      go_wp2_with fail
      go_meet
      case rel => exact ⟨g, Av, cv, Bv, ev, rfl, rfl, HX.out, HB.out⟩
  case rest =>
  obtain ⟨g2, Av2, cv2, Bv2, ev2, rfl, rfl, hx4, hb4⟩ := hcut
  obtain ⟨w4, rfl⟩ : ∃ w4, w4 = wc := ⟨_, rfl⟩
  have s0 := hx4.cell t0
  have s1 := hx4.cell t1
  have s2 := hx4.cell t2
  have HX4 := Lib.hid (HX3.out.trans hx4)
  have HB1 := Lib.hid (HB3.out.keep (hx4.kept _))
  have HRL4 := Lib.hid (HRL.out.keep (hx4.kept _))
  clear hx4 hb4 HX3 HB3 HRL t0 t1 t2
  go_wp2_with fail
  refine (table_Keys 1 citiesT.cols citiesT.rows A B c e _ (Fresh w) (Fresh w) HRL4.out.2.1 HRL4.out.2.2 (by decide)).mono ?_
  rintro e5 w5 ⟨Ak, ck, he, hck, hrk, hx5⟩
  rw [san_keys] at he hrk
  subst he
  have t0 := hx5.cell s0
  have t1 := hx5.cell s1
  have t2 := hx5.cell s2
  have HX5 := Lib.hid (HX4.out.trans hx5)
  have HB2 := Lib.hid (HB1.out.keep (hx5.kept _))
  have HRL5 := Lib.hid (HRL4.out.keep (hx5.kept _))
  have HRK := Lib.hid hrk
  clear hx5 hrk hck HX4 HB1 HRL4 s0 s1 s2
  go_upto_region 6 with fail
  obtain ⟨w6, hw6⟩ : ∃ w6, w6 = w5a w5 := ⟨_, rfl⟩
  have hx6 := w5a_ext w5
  have hd6 := w5a_mem w5
  rw [← hw6] at hx6 hd6
  unfold w5a sCity sZip sCountry at hw6
  rw [← hw6]
  clear hw6
  have s0 := hx6.cell t0
  have s1 := hx6.cell t1
  have s2 := hx6.cell t2
  have HX6 := Lib.hid (HX5.out.trans hx6)
  have HB3 := Lib.hid (HB2.out.keep (hx6.kept _))
  have HRL6 := Lib.hid (HRL5.out.keep (hx6.kept _))
  have HRK6 := Lib.hid (HRK.out.keep (hx6.kept _))
  have HRD6 := Lib.hid hd6
  clear hx6 hd6 HX5 HB2 HRL5 HRK t0 t1 t2
  go_wp2_with fail
  refine (table_Closure abD [sA] _ _ 2 1 _ _ _ (w6a_mem w6).1 (w6a_mem w6).2 (by decide)).mono ?_
  rintro e7 w7 ⟨ks, hks, A7, c7, he, hc7, hs7, hx7'⟩
  rw [san_clos hks] at he hs7
  subst he
  have hx7 := (w6a_ext w6).trans hx7'
  have t0 := hx7.cell s0
  have t1 := hx7.cell s1
  have t2 := hx7.cell s2
  have HX7 := Lib.hid (HX6.out.trans hx7)
  have HB4 := Lib.hid (HB3.out.keep (hx7.kept _))
  have HRL7 := Lib.hid (HRL6.out.keep (hx7.kept _))
  have HRK7 := Lib.hid (HRK6.out.keep (hx7.kept _))
  have HRD7 := Lib.hid (HRD6.out.keep (hx7.kept _))
  have HS7 := Lib.hid hs7
  clear hx7 hx7' hks ks hc7 hs7 HX6 HB3 HRL6 HRK6 HRD6 s0 s1 s2
  go_wp2_with fail
  refine (law_number _ _).mono ?_
  rintro e8 w8 ⟨rfl, hx8⟩
  have HX8 := Lib.hid hx8
  have hs8 := hx8.size
  clear hx8
  go_wp2_with fail
  refine (law_number _ _).mono ?_
  rintro e9 w9 ⟨rfl, hx9⟩
  have HX9 := Lib.hid hx9
  have hs9 := hx9.size
  clear hx9
  go_wp2_with fail
  refine (law_number _ _).mono ?_
  rintro e10 w10 ⟨rfl, hx10⟩
  have HX10 := Lib.hid hx10
  have hs10 := hx10.size
  clear hx10
  go_upto_region 8 with fail
  obtain ⟨w11, hw11⟩ : ∃ w11, w11 = ((w10.alloc (.cells #[.int .i64 (numV 4 0).kind, .string (numV 4 0).s, .int .i64 (numV 4 0).dn, .int .i64 (numV 4 0).ds, .int .i64 (numV 4 0).n, .slice none (numV 4 0).cols.length 0, .slice none (numV 4 0).rows.length 0] 33)).alloc (.cells #[.slice (some ⟨w8.heap.size, 0, none⟩) 1 1, .slice (some ⟨w9.heap.size, 0, none⟩) 1 1, .slice (some ⟨w10.heap.size, 0, none⟩) 1 1] 45)).alloc
    (.cells #[.int .i64 5, .string ⟨#[]⟩, .int .i64 0, .int .i64 0, .int .i64 0, .slice (some ⟨w7.heap.size, 0, none⟩) 1 1, .slice (some ⟨w10.heap.size + 1, 0, none⟩) 3 3] 33) := ⟨_, rfl⟩
  have x10 : Ext w7 w10 := (((Ext.refl w7).alloc _).trans HX8.out).trans ((((Ext.refl _).alloc _).trans HX9.out).trans (((Ext.refl _).alloc _).trans HX10.out))
  have hb11 : Blk w11 (w10.heap.size + 1 + 1) 33 #[.int .i64 5, .string ⟨#[]⟩, .int .i64 0, .int .i64 0, .int .i64 0, .slice (some ⟨w7.heap.size, 0, none⟩) 1 1, .slice (some ⟨w10.heap.size + 1, 0, none⟩) 3 3] := by rw [hw11]; exact blk_at _ _ _ (by simp)
  have hm11 : RV w11 (fun _ => True) 1 nV (some ⟨w7.heap.size, 0, none⟩) (some ⟨w10.heap.size + 1, 0, none⟩) := by
    rw [hw11]
    exact (nV_mem (S := fun _ => True) (v := w10) ((((Blk.new w7 9 #[.string sN]).keep (HX8.out.kept _)).keep ((((Ext.refl _).alloc _).trans HX9.out).kept _)).keep ((((Ext.refl _).alloc _).trans HX10.out).kept _))
      (((Blk.new w8 33 (rowC [numV 3 0])).keep (HX9.out.kept _)).keep ((((Ext.refl _).alloc _).trans HX10.out).kept _)) ((Blk.new w9 33 (rowC [numV (-5) 0])).keep (HX10.out.kept _)) trivial trivial trivial trivial trivial).keep (Kept.alloc _ _ _)
  have hx11 : Ext w7 w11 := by rw [hw11]; exact ((x10.alloc _).alloc _).alloc _
  rw [← hw11]
  clear hw11 x10 HX8 HX9 HX10 hs8 hs9 hs10
  have s0 := hx11.cell t0
  have s1 := hx11.cell t1
  have s2 := hx11.cell t2
  have HX11 := Lib.hid (HX7.out.trans hx11)
  have HB5 := Lib.hid (HB4.out.keep (hx11.kept _))
  have HRL11 := Lib.hid (HRL7.out.keep (hx11.kept _))
  have HRK11 := Lib.hid (HRK7.out.keep (hx11.kept _))
  have HRD11 := Lib.hid (HRD7.out.keep (hx11.kept _))
  have HS11 := Lib.hid (HS7.out.keep (hx11.kept _))
  have HN11 := Lib.hid hm11
  have HNB := Lib.hid hb11
  have n0 := hb11.cell (i := 0) rfl
  have n1 := hb11.cell (i := 1) rfl
  have n2 := hb11.cell (i := 2) rfl
  have n3 := hb11.cell (i := 3) rfl
  have n4 := hb11.cell (i := 4) rfl
  have n5 := hb11.cell (i := 5) rfl
  have n6 := hb11.cell (i := 6) rfl
  clear hx11 hb11 hm11 HX7 HB4 HRL7 HRK7 HRD7 HS7 t0 t1 t2
  go_wp2_with fail
  refine (table_Sum 1 nV sN (-2) 0 _ _ 1 3 _ (fun _ => True) HN11.out (by decide) (HT.out.ext HX11.out)).mono ?_
  rintro e12 w12 ⟨As, cs, Bs, es, he, -, -, hx12⟩
  rw [san_sum1] at he
  have he2 : e12 = .returned (.tuple #[(.agg #[.int .i64 twoV.kind, .string twoV.s, .int .i64 twoV.dn, .int .i64 twoV.ds, .int .i64 twoV.n, .slice As twoV.cols.length cs, .slice Bs twoV.rows.length es]), .int .i64 0]) := he
  clear he
  subst he2
  clear HNB
  have HX12 := Lib.hid (HX11.out.trans hx12)
  have c120 := hx12.cell s0
  have c121 := hx12.cell s1
  have c122 := hx12.cell s2
  have K120 := Lib.hid (HB5.out.keep (hx12.kept _))
  have K121 := Lib.hid (HRL11.out.keep (hx12.kept _))
  have K122 := Lib.hid (HRK11.out.keep (hx12.kept _))
  have K123 := Lib.hid (HRD11.out.keep (hx12.kept _))
  have K124 := Lib.hid (HS11.out.keep (hx12.kept _))
  have K125 := Lib.hid (HN11.out.keep (hx12.kept _))
  have n120 := hx12.cell n0
  have n121 := hx12.cell n1
  have n122 := hx12.cell n2
  have n123 := hx12.cell n3
  have n124 := hx12.cell n4
  have n125 := hx12.cell n5
  have n126 := hx12.cell n6
  clear hx12 HX11 HB5 HRL11 HRK11 HRD11 HS11 HN11 s0 s1 s2 n0 n1 n2 n3 n4 n5 n6
  go_upto_region 9 with fail
  obtain ⟨w13, hw13⟩ : ∃ w13, w13 = w12.alloc (.cells #[.int .i64 twoV.kind, .string twoV.s, .int .i64 twoV.dn, .int .i64 twoV.ds, .int .i64 twoV.n, .slice As twoV.cols.length cs, .slice Bs twoV.rows.length es] 33) := ⟨_, rfl⟩
  have hx13 : Ext w12 w13 := by rw [hw13]; exact (Ext.refl _).alloc _
  have HB13 := Lib.hid (show Blk w13 w12.heap.size 33 #[.int .i64 twoV.kind, .string twoV.s, .int .i64 twoV.dn, .int .i64 twoV.ds, .int .i64 twoV.n, .slice As twoV.cols.length cs, .slice Bs twoV.rows.length es] by rw [hw13]; exact Blk.new _ _ _)
  rw [← hw13]
  clear hw13
  have HX13 := Lib.hid (HX12.out.trans hx13)
  have c130 := hx13.cell c120
  have c131 := hx13.cell c121
  have c132 := hx13.cell c122
  have K130 := Lib.hid (K120.out.keep (hx13.kept _))
  have K131 := Lib.hid (K121.out.keep (hx13.kept _))
  have K132 := Lib.hid (K122.out.keep (hx13.kept _))
  have K133 := Lib.hid (K123.out.keep (hx13.kept _))
  have K134 := Lib.hid (K124.out.keep (hx13.kept _))
  have K135 := Lib.hid (K125.out.keep (hx13.kept _))
  have n130 := hx13.cell n120
  have n131 := hx13.cell n121
  have n132 := hx13.cell n122
  have n133 := hx13.cell n123
  have n134 := hx13.cell n124
  have n135 := hx13.cell n125
  have n136 := hx13.cell n126
  clear hx13 HX12 K120 K121 K122 K123 K124 K125 c120 c121 c122 n120 n121 n122 n123 n124 n125 n126
  go_wp2_with fail
  refine (table_Sum 1 nV sN 0 0 _ _ 1 3 _ (fun _ => True) K135.out (by decide) (HT.out.ext HX13.out)).mono ?_
  rintro e14 w14 ⟨As', cs', Bs', es', he, -, -, hx14⟩
  rw [san_sum2] at he
  have he2 : e14 = .returned (.tuple #[(.agg #[.int .i64 Val.zero.kind, .string Val.zero.s, .int .i64 Val.zero.dn, .int .i64 Val.zero.ds, .int .i64 Val.zero.n, .slice As' Val.zero.cols.length cs', .slice Bs' Val.zero.rows.length es']), .int .i64 20]) := he
  clear he
  subst he2
  have HB14 := Lib.hid (HB13.out.keep (hx14.kept _))
  clear HB13
  have HX14 := Lib.hid (HX13.out.trans hx14)
  have c140 := hx14.cell c130
  have c141 := hx14.cell c131
  have c142 := hx14.cell c132
  have K140 := Lib.hid (K130.out.keep (hx14.kept _))
  have K141 := Lib.hid (K131.out.keep (hx14.kept _))
  have K142 := Lib.hid (K132.out.keep (hx14.kept _))
  have K143 := Lib.hid (K133.out.keep (hx14.kept _))
  have K144 := Lib.hid (K134.out.keep (hx14.kept _))
  have K145 := Lib.hid (K135.out.keep (hx14.kept _))
  have n140 := hx14.cell n130
  have n141 := hx14.cell n131
  have n142 := hx14.cell n132
  have n143 := hx14.cell n133
  have n144 := hx14.cell n134
  have n145 := hx14.cell n135
  have n146 := hx14.cell n136
  clear hx14 HX13 K130 K131 K132 K133 K134 K135 c130 c131 c132 n130 n131 n132 n133 n134 n135 n136
  clear n140 n141 n142 n143 n144 n145 n146
  go_upto_region 10 with fail
  obtain ⟨w15, hw15⟩ : ∃ w15, w15 = w14.alloc (.cells #[.int .i64 Val.zero.kind, .string Val.zero.s, .int .i64 Val.zero.dn, .int .i64 Val.zero.ds, .int .i64 Val.zero.n, .slice As' Val.zero.cols.length cs', .slice Bs' Val.zero.rows.length es'] 33) := ⟨_, rfl⟩
  have hx15 : Ext w14 w15 := by rw [hw15]; exact (Ext.refl _).alloc _
  rw [← hw15]
  clear hw15
  have HB15 := Lib.hid (HB14.out.keep (hx15.kept _))
  clear HB14
  have HX15 := Lib.hid (HX14.out.trans hx15)
  have c150 := hx15.cell c140
  have c151 := hx15.cell c141
  have c152 := hx15.cell c142
  have K150 := Lib.hid (K140.out.keep (hx15.kept _))
  have K151 := Lib.hid (K141.out.keep (hx15.kept _))
  have K152 := Lib.hid (K142.out.keep (hx15.kept _))
  have K153 := Lib.hid (K143.out.keep (hx15.kept _))
  have K154 := Lib.hid (K144.out.keep (hx15.kept _))
  have K155 := Lib.hid (K145.out.keep (hx15.kept _))
  clear hx15 HX14 K140 K141 K142 K143 K144 K145 c140 c141 c142
  go_wp2_with fail
  refine (table_Holds 1 citiesT.cols citiesT.rows [sCountry] sZip A B _ c e 1 _ (Fresh w) (Fresh w) (fun _ => True) (K151.out.2.1.keep (Kept.alloc _ _ _)) (K151.out.2.2.keep (Kept.alloc _ _ _)) (Strs.one (Blk.new w15 9 #[.string sCountry]) (by decide) trivial)).mono ?_
  rintro e16 w16 ⟨he, hx16'⟩
  rw [san_hold1] at he
  subst he
  have hx16 := ((Ext.refl w15).alloc _).trans hx16'
  clear hx16'
  have HB16 := Lib.hid (HB15.out.keep (hx16.kept _))
  clear HB15
  have HX16 := Lib.hid (HX15.out.trans hx16)
  have c160 := hx16.cell c150
  have c161 := hx16.cell c151
  have c162 := hx16.cell c152
  have K160 := Lib.hid (K150.out.keep (hx16.kept _))
  have K161 := Lib.hid (K151.out.keep (hx16.kept _))
  have K162 := Lib.hid (K152.out.keep (hx16.kept _))
  have K163 := Lib.hid (K153.out.keep (hx16.kept _))
  have K164 := Lib.hid (K154.out.keep (hx16.kept _))
  have K165 := Lib.hid (K155.out.keep (hx16.kept _))
  clear hx16 HX15 K150 K151 K152 K153 K154 K155 c150 c151 c152
  go_wp2_with fail
  refine (table_Holds 1 citiesT.cols citiesT.rows [sCity] sCountry A B _ c e 1 _ (Fresh w) (Fresh w) (fun _ => True) (K161.out.2.1.keep (Kept.alloc _ _ _)) (K161.out.2.2.keep (Kept.alloc _ _ _)) (Strs.one (Blk.new w16 9 #[.string sCity]) (by decide) trivial)).mono ?_
  rintro e17 w17 ⟨he, hx17'⟩
  rw [san_hold2] at he
  subst he
  have hx17 := ((Ext.refl w16).alloc _).trans hx17'
  clear hx17'
  have HB17 := Lib.hid (HB16.out.keep (hx17.kept _))
  clear HB16
  have HX17 := Lib.hid (HX16.out.trans hx17)
  have c170 := hx17.cell c160
  have c171 := hx17.cell c161
  have c172 := hx17.cell c162
  have K170 := Lib.hid (K160.out.keep (hx17.kept _))
  have K171 := Lib.hid (K161.out.keep (hx17.kept _))
  have K172 := Lib.hid (K162.out.keep (hx17.kept _))
  have K173 := Lib.hid (K163.out.keep (hx17.kept _))
  have K174 := Lib.hid (K164.out.keep (hx17.kept _))
  have K175 := Lib.hid (K165.out.keep (hx17.kept _))
  clear hx17 HX16 K160 K161 K162 K163 K164 K165 c160 c161 c162
  go_upto_region 11 with fail
  refine wp_region_lin_lit (by kernel_rfl) dSan (by kernel_rfl) LR LR.refl LR.trans (LN al0) (gSan A c B e Av cv Bv ev Ak ck w5 A7 c7 As cs Bs es) (gSan_st _ _ _ _ _ _ _ _ _ _ _ _ _ _ _ _ _) gh0 (LN.zero _) ⟨?_, ?_, ?_, ?_, ?_, ?_, ?_, ?_, ?_, ?_, ?_, ?_, ?_, ?_, ?_, ?_, ?_, ?_, ?_, ?_, ?_, ?_, ?_, ?_, ?_, ?_, ?_, ?_, ?_, ?_, ?_, ?_, ?_, ?_, ?_, ?_, ?_, ?_, ?_, ?_, ?_, ?_, trivial⟩ ?_
  · refine LinStep.yes fun vals γ w' ρ hR hN hp hρ hc hf hg => ⟨rfl, ?_⟩
    have hx := hR.drew_ext
    have c0 := hx.cell c170
    have c1 := hx.cell c171
    have c2 := hx.cell c172
    have e1 : ρ (.tmp 1) = .pointer (some ⟨w1.heap.size, 0, none⟩) := hρ 1
    clear hx
    have HR := Lib.hid hR
    clear hR hN hp hρ c170 c171 c172
    go_light
    go_simp
    exact ⟨γ, LR.refl _ _, fun _ _ _ h => h, rfl⟩
  · refine LinStep.yes fun vals γ w' ρ hR hN hp hρ hc hf hg => ⟨rfl, ?_⟩
    have e87 : ρ (.tmp 87) = (.agg #[.string citiesT.name, .slice A citiesT.cols.length c, .slice B citiesT.rows.length e]) := (hρ 87).trans (hp 0 (by decide))
    have HR := Lib.hid hR
    clear hR hN hp hρ c170 c171 c172
    go_light
    go_simp
    refine (table_Right 1 citiesT A B c e _ (Fresh w) (K171.out.keep (HR.out.drew_ext.kept _)) HCP1.out).mono ?_
    rintro e' w3 ⟨he, hx⟩
    rw [san_right] at he
    exact ⟨_, he, γ, LR.of_ext γ hx, fun _ _ _ h => h, rfl⟩
  · refine LinStep.yes fun vals γ w' ρ hR hN hp hρ hc hf hg => ⟨rfl, ?_⟩
    have e88 : ρ (.tmp 88) = .bool true := (hρ 88).trans (hp 1 (by decide))
    have HR := Lib.hid hR
    clear hR hN hp hρ c170 c171 c172
    go_light
    go_simp
    exact ⟨γ, LR.refl _ _, fun _ _ _ h => h, rfl⟩
  · refine LinStep.yes fun vals γ w' ρ hR hN hp hρ hc hf hg => ⟨by show (boolOf (vals 2) == some true) = true; rw [show vals 2 = .bool true from hp 2 (by decide)]; rfl, ?_⟩
    have e3 : ρ (.tmp 3) = .int .i64 0 := hρ 3
    have HR := Lib.hid hR
    clear hR hN hp hρ c170 c171 c172
    go_light
    go_simp
    exact ⟨γ, LR.refl _ _, fun _ _ _ h => h, rfl⟩
  · refine LinStep.yes fun vals γ w' ρ hR hN hp hρ hc hf hg => ⟨by show (boolOf (vals 2) == some true) = true; rw [show vals 2 = .bool true from hp 2 (by decide)]; rfl, ?_⟩
    have e90 : ρ (.tmp 90) = .int .i64 0 := (hρ 90).trans (hp 3 (by decide))
    have HR := Lib.hid hR
    clear hR hN hp hρ c170 c171 c172
    go_light
    go_simp
    exact ⟨γ, LR.refl _ _, fun _ _ _ h => h, rfl⟩
  · refine LinStep.yes fun vals γ w' ρ hR hN hp hρ hc hf hg => ⟨rfl, ?_⟩
    have e89 : ρ (.tmp 89) = .bool true := (hρ 89).trans (hp 2 (by decide))
    have e91 : ρ (.tmp 91) = .bool true := (hρ 91).trans (hp 4 (by decide))
    have HR := Lib.hid hR
    clear hR hN hp hρ c170 c171 c172
    go_light
    go_simp
    exact ⟨γ, LR.refl _ _, fun _ _ _ h => h, rfl⟩
  · refine LinStep.yes fun vals γ w' ρ hR hN hp hρ hc hf hg => ⟨rfl, ?_⟩
    have e92 : ρ (.tmp 92) = .bool true := (hρ 92).trans (hp 5 (by decide))
    have HR := Lib.hid hR
    clear hR hN hp hρ c170 c171 c172
    go_light
    go_simp
    exact ⟨γ, LR.refl _ _, fun _ _ _ h => h, rfl⟩
  · refine LinStep.yes fun vals γ w' ρ hR hN hp hρ hc hf hg => ⟨by show (boolOf (vals 6) == some true) = true; rw [show vals 6 = .bool true from hp 6 (by decide)]; rfl, ?_⟩
    have e2 : ρ (.tmp 2) = .pointer (some ⟨g1, 0, none⟩) := hρ 2
    have hb := (K170.out).keep (hR.drew_ext.kept _)
    have k0 := hb.cell (i := 0) rfl
    have k1 := hb.cell (i := 1) rfl
    have k2 := hb.cell (i := 2) rfl
    have k3 := hb.cell (i := 3) rfl
    have k4 := hb.cell (i := 4) rfl
    have k5 := hb.cell (i := 5) rfl
    have k6 := hb.cell (i := 6) rfl
    clear hb
    have HR := Lib.hid hR
    clear hR hN hp hρ c170 c171 c172
    go_light
    go_simp
    exact ⟨γ, LR.refl _ _, fun _ _ _ h => h, rfl⟩
  · refine LinStep.yes fun vals γ w' ρ hR hN hp hρ hc hf hg => ⟨by show (boolOf (vals 6) == some true) = true; rw [show vals 6 = .bool true from hp 6 (by decide)]; rfl, ?_⟩
    have HR := Lib.hid hR
    clear hR hN hp hρ c170 c171 c172
    go_light
    go_simp
    exact (law_text _ _).mono fun e' w3 ⟨he, hx⟩ => ⟨_, he, γ, LR.of_ext γ hx, fun _ _ _ h => h, rfl⟩
  · refine LinStep.yes fun vals γ w' ρ hR hN hp hρ hc hf hg => ⟨by show (boolOf (vals 6) == some true) = true; rw [show vals 6 = .bool true from hp 6 (by decide)]; rfl, ?_⟩
    have e94 : ρ (.tmp 94) = (.agg #[.int .i64 noV.kind, .string noV.s, .int .i64 noV.dn, .int .i64 noV.ds, .int .i64 noV.n, .slice Av noV.cols.length cv, .slice Bv noV.rows.length ev]) := (hρ 94).trans (hp 7 (by decide))
    have e95 : ρ (.tmp 95) = (.agg #[.int .i64 noV.kind, .string noV.s, .int .i64 noV.dn, .int .i64 noV.ds, .int .i64 noV.n, .slice none noV.cols.length 0, .slice none noV.rows.length 0]) := (hρ 95).trans (hp 8 (by decide))
    have HR := Lib.hid hR
    clear hR hN hp hρ c170 c171 c172
    go_light
    go_simp
    refine (r06_Equal 1 noV noV Av Bv none none cv ev 0 0 _ (Fresh w) (Fresh w) (RV.flat (flat_text _ (by decide))) (RV.flat (flat_text _ (by decide)))).mono ?_
    rintro e' w3 ⟨he, hx⟩
    rw [decide_eq_true rfl] at he
    exact ⟨_, he, γ, LR.of_ext γ hx, fun _ _ _ h => h, rfl⟩
  · refine LinStep.yes fun vals γ w' ρ hR hN hp hρ hc hf hg => ⟨rfl, ?_⟩
    have e93 : ρ (.tmp 93) = .bool true := (hρ 93).trans (hp 6 (by decide))
    have e96 : ρ (.tmp 96) = .bool true := (hρ 96).trans (hp 9 (by decide))
    have HR := Lib.hid hR
    clear hR hN hp hρ c170 c171 c172
    go_light
    go_simp
    exact ⟨γ, LR.refl _ _, fun _ _ _ h => h, rfl⟩
  · refine LinStep.yes fun vals γ w' ρ hR hN hp hρ hc hf hg => ⟨rfl, ?_⟩
    have e97 : ρ (.tmp 97) = .bool true := (hρ 97).trans (hp 10 (by decide))
    have HR := Lib.hid hR
    clear hR hN hp hρ c170 c171 c172
    go_light
    go_simp
    exact ⟨γ, LR.refl _ _, fun _ _ _ h => h, rfl⟩
  · refine LinStep.yes fun vals γ w' ρ hR hN hp hρ hc hf hg => ⟨by show (boolOf (vals 11) == some true) = true; rw [show vals 11 = .bool true from hp 11 (by decide)]; rfl, ?_⟩
    have e5 : ρ (.tmp 5) = .int .i64 18 := hρ 5
    have HR := Lib.hid hR
    clear hR hN hp hρ c170 c171 c172
    go_light
    go_simp
    exact ⟨γ, LR.refl _ _, fun _ _ _ h => h, rfl⟩
  · refine LinStep.yes fun vals γ w' ρ hR hN hp hρ hc hf hg => ⟨by show (boolOf (vals 11) == some true) = true; rw [show vals 11 = .bool true from hp 11 (by decide)]; rfl, ?_⟩
    have e99 : ρ (.tmp 99) = .int .i64 18 := (hρ 99).trans (hp 12 (by decide))
    have HR := Lib.hid hR
    clear hR hN hp hρ c170 c171 c172
    go_light
    go_simp
    exact ⟨γ, LR.refl _ _, fun _ _ _ h => h, rfl⟩
  · refine LinStep.yes fun vals γ w' ρ hR hN hp hρ hc hf hg => ⟨rfl, ?_⟩
    have e98 : ρ (.tmp 98) = .bool true := (hρ 98).trans (hp 11 (by decide))
    have e100 : ρ (.tmp 100) = .bool true := (hρ 100).trans (hp 13 (by decide))
    have HR := Lib.hid hR
    clear hR hN hp hρ c170 c171 c172
    go_light
    go_simp
    exact ⟨γ, LR.refl _ _, fun _ _ _ h => h, rfl⟩
  · refine LinStep.yes fun vals γ w' ρ hR hN hp hρ hc hf hg => ⟨rfl, ?_⟩
    have e101 : ρ (.tmp 101) = .bool true := (hρ 101).trans (hp 14 (by decide))
    have HR := Lib.hid hR
    clear hR hN hp hρ c170 c171 c172
    go_light
    go_simp
    exact ⟨γ, LR.refl _ _, fun _ _ _ h => h, rfl⟩
  · refine LinStep.yes fun vals γ w' ρ hR hN hp hρ hc hf hg => ⟨by show (boolOf (vals 15) == some true) = true; rw [show vals 15 = .bool true from hp 15 (by decide)]; rfl, ?_⟩
    have e6 : ρ (.tmp 6) = .slice Ak wantD.length ck := hρ 6
    have HR := Lib.hid hR
    clear hR hN hp hρ c170 c171 c172
    go_light
    go_simp
    exact ⟨γ, LR.refl _ _, fun _ _ _ h => h, rfl⟩
  · refine LinStep.yes fun vals γ w' ρ hR hN hp hρ hc hf hg => ⟨by show (boolOf (vals 15) == some true) = true; rw [show vals 15 = .bool true from hp 15 (by decide)]; rfl, ?_⟩
    have e7 : ρ (.tmp 7) = .slice (some ⟨w5.heap.size + 1 + 1 + 1 + 1, 0, none⟩) 4 4 := hρ 7
    have HR := Lib.hid hR
    clear hR hN hp hρ c170 c171 c172
    go_light
    go_simp
    exact ⟨γ, LR.refl _ _, fun _ _ _ h => h, rfl⟩
  · refine LinStep.yes fun vals γ w' ρ hR hN hp hρ hc hf hg => ⟨by show (boolOf (vals 15) == some true) = true; rw [show vals 15 = .bool true from hp 15 (by decide)]; rfl, ?_⟩
    have e103 : ρ (.tmp 103) = .slice Ak wantD.length ck := (hρ 103).trans (hp 16 (by decide))
    have e104 : ρ (.tmp 104) = .slice (some ⟨w5.heap.size + 1 + 1 + 1 + 1, 0, none⟩) 4 4 := (hρ 104).trans (hp 17 (by decide))
    have HR := Lib.hid hR
    clear hR hN hp hρ c170 c171 c172
    go_light
    go_simp
    refine (r09_Deps wantD Ak _ ck 4 _ _ _ (K172.out.keep (HR.out.drew_ext.kept _)) (K173.out.keep (HR.out.drew_ext.kept _))).mono ?_
    rintro e' w3 ⟨he, n, rfl⟩
    exact ⟨_, he, γ, LR.of_ext γ ((Ext.refl _).drewN n), fun _ _ _ h => h, rfl⟩
  · refine LinStep.yes fun vals γ w' ρ hR hN hp hρ hc hf hg => ⟨rfl, ?_⟩
    have e102 : ρ (.tmp 102) = .bool true := (hρ 102).trans (hp 15 (by decide))
    have e105 : ρ (.tmp 105) = .bool true := (hρ 105).trans (hp 18 (by decide))
    have HR := Lib.hid hR
    clear hR hN hp hρ c170 c171 c172
    go_light
    go_simp
    exact ⟨γ, LR.refl _ _, fun _ _ _ h => h, rfl⟩
  · refine LinStep.yes fun vals γ w' ρ hR hN hp hρ hc hf hg => ⟨rfl, ?_⟩
    have e106 : ρ (.tmp 106) = .bool true := (hρ 106).trans (hp 19 (by decide))
    have HR := Lib.hid hR
    clear hR hN hp hρ c170 c171 c172
    go_light
    go_simp
    exact ⟨γ, LR.refl _ _, fun _ _ _ h => h, rfl⟩
  · refine LinStep.yes fun vals γ w' ρ hR hN hp hρ hc hf hg => ⟨by show (boolOf (vals 20) == some true) = true; rw [show vals 20 = .bool true from hp 20 (by decide)]; rfl, ?_⟩
    have e14 : ρ (.tmp 14) = .bool true := hρ 14
    have HR := Lib.hid hR
    clear hR hN hp hρ c170 c171 c172
    go_light
    go_simp
    exact ⟨γ, LR.refl _ _, fun _ _ _ h => h, rfl⟩
  · refine LinStep.yes fun vals γ w' ρ hR hN hp hρ hc hf hg => ⟨rfl, ?_⟩
    have e107 : ρ (.tmp 107) = .bool true := (hρ 107).trans (hp 20 (by decide))
    have e108 : ρ (.tmp 108) = .bool true := (hρ 108).trans (hp 21 (by decide))
    have HR := Lib.hid hR
    clear hR hN hp hρ c170 c171 c172
    go_light
    go_simp
    exact ⟨γ, LR.refl _ _, fun _ _ _ h => h, rfl⟩
  · refine LinStep.yes fun vals γ w' ρ hR hN hp hρ hc hf hg => ⟨rfl, ?_⟩
    have e109 : ρ (.tmp 109) = .bool true := (hρ 109).trans (hp 22 (by decide))
    have HR := Lib.hid hR
    clear hR hN hp hρ c170 c171 c172
    go_light
    go_simp
    exact ⟨γ, LR.refl _ _, fun _ _ _ h => h, rfl⟩
  · refine LinStep.yes fun vals γ w' ρ hR hN hp hρ hc hf hg => ⟨by show (boolOf (vals 23) == some true) = true; rw [show vals 23 = .bool true from hp 23 (by decide)]; rfl, ?_⟩
    have e8 : ρ (.tmp 8) = .slice A7 3 c7 := hρ 8
    have HR := Lib.hid hR
    clear hR hN hp hρ c170 c171 c172
    go_light
    go_simp
    exact ⟨γ, LR.refl _ _, fun _ _ _ h => h, rfl⟩
  · refine LinStep.yes fun vals γ w' ρ hR hN hp hρ hc hf hg => ⟨by show (boolOf (vals 23) == some true) = true; rw [show vals 23 = .bool true from hp 23 (by decide)]; rfl, ?_⟩
    have HR := Lib.hid hR
    clear hR hN hp hρ c170 c171 c172
    go_light
    go_simp
    refine ⟨γ, LR.of_ext γ ((Ext.refl _).alloc _), fun _ _ _ h => h, _, rfl, ?_⟩
    refine (Strs.of_blk (Blk.new w' 9 #[.string sA, .string sB, .string sC]) rfl (by decide) (by decide)).mono fun b _ hb => ?_
    rintro ⟨k, hk⟩
    have := HR.out.inb0 k b hk
    omega
  · refine LinStep.yes fun vals γ w' ρ hR hN hp hρ hc hf hg => ⟨by show (boolOf (vals 23) == some true) = true; rw [show vals 23 = .bool true from hp 23 (by decide)]; rfl, ?_⟩
    have e111 : ρ (.tmp 111) = .slice A7 3 c7 := (hρ 111).trans (hp 24 (by decide))
    obtain ⟨gb, hv25, hs25⟩ := hp 25 (by decide)
    have e112 : ρ (.tmp 112) = _ := (hρ 112).trans hv25
    have HS25 := Lib.hid hs25
    clear hv25 hs25
    have HR := Lib.hid hR
    clear hR hN hp hρ c170 c171 c172
    go_light
    go_simp
    refine (r06_StringsSame A7 _ c7 3 [sA, sB, sC] _ _ _ (K174.out.keep (HR.out.drew_ext.kept _)) HS25.out).mono ?_
    rintro e' w3 ⟨he, n, rfl⟩
    exact ⟨_, he, γ, LR.of_ext γ ((Ext.refl _).drewN n), fun _ _ _ h => h, rfl⟩
  · refine LinStep.yes fun vals γ w' ρ hR hN hp hρ hc hf hg => ⟨rfl, ?_⟩
    have e110 : ρ (.tmp 110) = .bool true := (hρ 110).trans (hp 23 (by decide))
    have e113 : ρ (.tmp 113) = .bool true := (hρ 113).trans (hp 26 (by decide))
    have HR := Lib.hid hR
    clear hR hN hp hρ c170 c171 c172
    go_light
    go_simp
    exact ⟨γ, LR.refl _ _, fun _ _ _ h => h, rfl⟩
  · refine LinStep.yes fun vals γ w' ρ hR hN hp hρ hc hf hg => ⟨rfl, ?_⟩
    have e114 : ρ (.tmp 114) = .bool true := (hρ 114).trans (hp 27 (by decide))
    have HR := Lib.hid hR
    clear hR hN hp hρ c170 c171 c172
    go_light
    go_simp
    exact ⟨γ, LR.refl _ _, fun _ _ _ h => h, rfl⟩
  · refine LinStep.yes fun vals γ w' ρ hR hN hp hρ hc hf hg => ⟨by show (boolOf (vals 28) == some true) = true; rw [show vals 28 = .bool true from hp 28 (by decide)]; rfl, ?_⟩
    have e11 : ρ (.tmp 11) = .int .i64 0 := hρ 11
    have HR := Lib.hid hR
    clear hR hN hp hρ c170 c171 c172
    go_light
    go_simp
    exact ⟨γ, LR.refl _ _, fun _ _ _ h => h, rfl⟩
  · refine LinStep.yes fun vals γ w' ρ hR hN hp hρ hc hf hg => ⟨by show (boolOf (vals 28) == some true) = true; rw [show vals 28 = .bool true from hp 28 (by decide)]; rfl, ?_⟩
    have e116 : ρ (.tmp 116) = .int .i64 0 := (hρ 116).trans (hp 29 (by decide))
    have HR := Lib.hid hR
    clear hR hN hp hρ c170 c171 c172
    go_light
    go_simp
    exact ⟨γ, LR.refl _ _, fun _ _ _ h => h, rfl⟩
  · refine LinStep.yes fun vals γ w' ρ hR hN hp hρ hc hf hg => ⟨rfl, ?_⟩
    have e115 : ρ (.tmp 115) = .bool true := (hρ 115).trans (hp 28 (by decide))
    have e117 : ρ (.tmp 117) = .bool true := (hρ 117).trans (hp 30 (by decide))
    have HR := Lib.hid hR
    clear hR hN hp hρ c170 c171 c172
    go_light
    go_simp
    exact ⟨γ, LR.refl _ _, fun _ _ _ h => h, rfl⟩
  · refine LinStep.yes fun vals γ w' ρ hR hN hp hρ hc hf hg => ⟨rfl, ?_⟩
    have e118 : ρ (.tmp 118) = .bool true := (hρ 118).trans (hp 31 (by decide))
    have HR := Lib.hid hR
    clear hR hN hp hρ c170 c171 c172
    go_light
    go_simp
    exact ⟨γ, LR.refl _ _, fun _ _ _ h => h, rfl⟩
  · refine LinStep.yes fun vals γ w' ρ hR hN hp hρ hc hf hg => ⟨by show (boolOf (vals 32) == some true) = true; rw [show vals 32 = .bool true from hp 32 (by decide)]; rfl, ?_⟩
    have e10 : ρ (.tmp 10) = .pointer (some ⟨w12.heap.size, 0, none⟩) := hρ 10
    have hb := (HB17.out).keep (hR.drew_ext.kept _)
    have k0 := hb.cell (i := 0) rfl
    have k1 := hb.cell (i := 1) rfl
    have k2 := hb.cell (i := 2) rfl
    have k3 := hb.cell (i := 3) rfl
    have k4 := hb.cell (i := 4) rfl
    have k5 := hb.cell (i := 5) rfl
    have k6 := hb.cell (i := 6) rfl
    clear hb
    have HR := Lib.hid hR
    clear hR hN hp hρ c170 c171 c172
    go_light
    go_simp
    exact ⟨γ, LR.refl _ _, fun _ _ _ h => h, rfl⟩
  · refine LinStep.yes fun vals γ w' ρ hR hN hp hρ hc hf hg => ⟨by show (boolOf (vals 32) == some true) = true; rw [show vals 32 = .bool true from hp 32 (by decide)]; rfl, ?_⟩
    have HR := Lib.hid hR
    clear hR hN hp hρ c170 c171 c172
    go_light
    go_simp
    exact (law_number _ _).mono fun e' w3 ⟨he, hx⟩ => ⟨_, he, γ, LR.of_ext γ hx, fun _ _ _ h => h, rfl⟩
  · refine LinStep.yes fun vals γ w' ρ hR hN hp hρ hc hf hg => ⟨by show (boolOf (vals 32) == some true) = true; rw [show vals 32 = .bool true from hp 32 (by decide)]; rfl, ?_⟩
    have e120 : ρ (.tmp 120) = (.agg #[.int .i64 twoV.kind, .string twoV.s, .int .i64 twoV.dn, .int .i64 twoV.ds, .int .i64 twoV.n, .slice As twoV.cols.length cs, .slice Bs twoV.rows.length es]) := (hρ 120).trans (hp 33 (by decide))
    have e121 : ρ (.tmp 121) = (.agg #[.int .i64 twoV.kind, .string twoV.s, .int .i64 twoV.dn, .int .i64 twoV.ds, .int .i64 twoV.n, .slice none twoV.cols.length 0, .slice none twoV.rows.length 0]) := (hρ 121).trans (hp 34 (by decide))
    have HR := Lib.hid hR
    clear hR hN hp hρ c170 c171 c172
    go_light
    go_simp
    refine (r06_Equal 1 twoV twoV As Bs none none cs es 0 0 _ (Fresh w) (Fresh w) (RV.flat (flat_num _ _)) (RV.flat (flat_num _ _))).mono ?_
    rintro e' w3 ⟨he, hx⟩
    rw [decide_eq_true rfl] at he
    exact ⟨_, he, γ, LR.of_ext γ hx, fun _ _ _ h => h, rfl⟩
  · refine LinStep.yes fun vals γ w' ρ hR hN hp hρ hc hf hg => ⟨rfl, ?_⟩
    have e119 : ρ (.tmp 119) = .bool true := (hρ 119).trans (hp 32 (by decide))
    have e122 : ρ (.tmp 122) = .bool true := (hρ 122).trans (hp 35 (by decide))
    have HR := Lib.hid hR
    clear hR hN hp hρ c170 c171 c172
    go_light
    go_simp
    exact ⟨γ, LR.refl _ _, fun _ _ _ h => h, rfl⟩
  · refine LinStep.yes fun vals γ w' ρ hR hN hp hρ hc hf hg => ⟨rfl, ?_⟩
    have e123 : ρ (.tmp 123) = .bool true := (hρ 123).trans (hp 36 (by decide))
    have HR := Lib.hid hR
    clear hR hN hp hρ c170 c171 c172
    go_light
    go_simp
    exact ⟨γ, LR.refl _ _, fun _ _ _ h => h, rfl⟩
  · refine LinStep.yes fun vals γ w' ρ hR hN hp hρ hc hf hg => ⟨by show (boolOf (vals 37) == some true) = true; rw [show vals 37 = .bool true from hp 37 (by decide)]; rfl, ?_⟩
    have e13 : ρ (.tmp 13) = .int .i64 20 := hρ 13
    have HR := Lib.hid hR
    clear hR hN hp hρ c170 c171 c172
    go_light
    go_simp
    exact ⟨γ, LR.refl _ _, fun _ _ _ h => h, rfl⟩
  · refine LinStep.yes fun vals γ w' ρ hR hN hp hρ hc hf hg => ⟨by show (boolOf (vals 37) == some true) = true; rw [show vals 37 = .bool true from hp 37 (by decide)]; rfl, ?_⟩
    have e125 : ρ (.tmp 125) = .int .i64 20 := (hρ 125).trans (hp 38 (by decide))
    have HR := Lib.hid hR
    clear hR hN hp hρ c170 c171 c172
    go_light
    go_simp
    exact ⟨γ, LR.refl _ _, fun _ _ _ h => h, rfl⟩
  · refine LinStep.yes fun vals γ w' ρ hR hN hp hρ hc hf hg => ⟨rfl, ?_⟩
    have e124 : ρ (.tmp 124) = .bool true := (hρ 124).trans (hp 37 (by decide))
    have e126 : ρ (.tmp 126) = .bool true := (hρ 126).trans (hp 39 (by decide))
    have HR := Lib.hid hR
    clear hR hN hp hρ c170 c171 c172
    go_light
    go_simp
    exact ⟨γ, LR.refl _ _, fun _ _ _ h => h, rfl⟩
  · refine LinStep.yes fun vals γ w' ρ hR hN hp hρ hc hf hg => ⟨rfl, ?_⟩
    have e127 : ρ (.tmp 127) = .bool true := (hρ 127).trans (hp 40 (by decide))
    have HR := Lib.hid hR
    clear hR hN hp hρ c170 c171 c172
    go_light
    go_simp
    exact ⟨γ, LR.refl _ _, fun _ _ _ h => h, rfl⟩
  · intro vals γ w' hR hG
    have h41 : vals 41 = .bool true := hG 41 (by decide)
    have HX := Lib.hid (HX17.out.trans hR.drew_ext)
    clear hR hG
    simp only [lexFrame, Act.put, List.setIfInBounds_toArray, List.set_cons_succ, List.set_cons_zero, Nat.zero_add, Nat.reduceAdd, h41]
    clear h41
    go_wp2
    go_ret
    exact ⟨rfl, HX.out⟩
end Go.Proofs.YtcmmkeiiapbgcaaGreatDoor
/- What dependencies that hold imply, holds; closures of closures. Plain facts; no conditions. -/
namespace Go.Proofs.YtcmmkeiiapbgcaaGreatDoor
open Go Go.RowKit

theorem idxS_iff {l : List ByteArray} {v : ByteArray} : decide (0 ≤ idxS l v) = true ↔ v ∈ l := by rw [decide_eq_true_iff]; exact idxS_mem l v
theorem holdsS_iff {cols : List ByteArray} {rows : List (List Val)} {frm : List ByteArray} {x : ByteArray} : holdsS cols rows frm x = true ↔
    x ∈ cols ∧ regB cols rows = true ∧ (∀ f ∈ frm, f ∈ cols) ∧ ∀ r ∈ rows, ∀ o ∈ rows, (∀ f ∈ frm, eqAt (idxS cols f).toNat r o = true) → eqAt (idxS cols x).toNat r o = true := by
  unfold holdsS
  simp only [Bool.and_eq_true, idxS_iff, List.all_eq_true, and_assoc]
  refine and_congr Iff.rfl (and_congr Iff.rfl (and_congr Iff.rfl ?_))
  unfold holdRows
  simp only [List.all_eq_true, Bool.or_eq_true, Bool.not_eq_true']
  constructor
  · intro h r hr o ho hf
    rcases h r hr o ho with h1 | h1
    · exfalso
      have : ((frm.map fun f => (idxS cols f).toNat).all fun f => eqAt f r o) = true := by
        rw [List.all_eq_true]
        intro x hx
        obtain ⟨f, hf', rfl⟩ := List.mem_map.1 hx
        exact hf f hf'
      rw [this] at h1
      cases h1
    · exact h1
  · intro h r hr o ho
    by_cases hf : ((frm.map fun f => (idxS cols f).toNat).all fun f => eqAt f r o) = true
    · right
      refine h r hr o ho fun f hf' => ?_
      rw [List.all_eq_true] at hf
      exact hf _ (List.mem_map_of_mem hf')
    · left
      simpa using hf
theorem holds_implied {cols : List ByteArray} {rows : List (List Val)} {good : List Dep} {frm ks : List ByteArray} (hreg : regB cols rows = true) (hgood : ∀ d ∈ good, holdsS cols rows d.frm d.to = true) (hfrm : ∀ x ∈ frm, x ∈ cols) (hc : IsClosure good frm ks) {x : ByteArray} (hx : x ∈ ks) : holdsS cols rows frm x = true := by
  refine hc.least (fun x => holdsS cols rows frm x = true) (fun x hx => ?_) (fun d hd h => ?_) x hx
  · exact holdsS_iff.2 ⟨hfrm x hx, hreg, hfrm, fun r _ o _ hf => hf x hx⟩
  · obtain ⟨h1, _, h3, h4⟩ := holdsS_iff.1 (hgood d hd)
    refine holdsS_iff.2 ⟨h1, hreg, hfrm, fun r hr o ho hf => h4 r hr o ho fun f hf' => ?_⟩
    exact (holdsS_iff.1 (h f hf')).2.2.2 r hr o ho hf
theorem mem_sortS {l : List ByteArray} {x : ByteArray} : x ∈ sortS l ↔ x ∈ l := by
  unfold sortS
  simp only [List.mem_map, List.mem_mergeSort]
  constructor
  · rintro ⟨a, ⟨y, hy, rfl⟩, rfl⟩
    exact hy
  · intro h
    exact ⟨x.data.toList, ⟨x, h, rfl⟩, rfl⟩
theorem sortS_len (l : List ByteArray) : (sortS l).length = l.length := by simp [sortS]
theorem IsClosure.again {l : List Dep} {frm ks ks' : List ByteArray} (h : IsClosure l frm ks) (h' : IsClosure l (sortS ks) ks') : sortS ks' = sortS ks := by
  refine h'.one ⟨h.nodup, fun x hx => mem_sortS.1 hx, h.closed, fun T h1 _ x hx => h1 x (mem_sortS.2 hx)⟩
theorem IsClosure.grow {l m : List Dep} {frm ks ks' : List ByteArray} (h : IsClosure l frm ks) (h' : IsClosure m frm ks') (hs : ∀ d ∈ l, d ∈ m) : ∀ x ∈ ks, x ∈ ks' :=
  h.least (· ∈ ks') h'.base fun d hd hf => h'.closed d (hs d hd) hf
theorem IsClosure.len {l : List Dep} {frm ks : List ByteArray} (h : IsClosure l frm ks) : ks.length ≤ frm.length + l.length := Part.len ⟨h.nodup, h.base, h.least⟩
theorem MadeT.reg {name : ByteArray} {t : Look} (h : MadeT name t) : regB t.cols t.rows = true := by
  obtain ⟨_, ks, h1, h2, h3, _, _, _, h7⟩ := h
  unfold regB
  rw [List.all_eq_true]
  intro r hr
  have := (h7 r hr).1
  have hl : names4.length = 4 := rfl
  simp [h3, this]
  omega
theorem MadeT.cols {name : ByteArray} {t : Look} (h : MadeT name t) : 1 ≤ t.cols.length ∧ t.cols.length ≤ 4 ∧ t.rows.length ≤ 6 := by
  obtain ⟨_, ks, h1, h2, h3, _, _, h6, _⟩ := h
  have hl : names4.length = 4 := rfl
  refine ⟨?_, ?_, h6⟩ <;> simp [h3] <;> omega
end Go.Proofs.YtcmmkeiiapbgcaaGreatDoor
/- The reference's index and square. Conditions: the arguments read as data. -/
namespace Go.Proofs.YtcmmkeiiapbgcaaGreatDoor
open Go Go.RowKit

set_option maxRecDepth 100000 in
set_option maxHeartbeats 400000 in
theorem r09_index (A : Option Addr) (c : Nat) (l : List ByteArray) (v : ByteArray) (w : World) (S : Nat → Prop) (h : Strs w S A l) :
    Calls Tryz.prog 48 #[.slice A l.length c, .string v] w (SameI w (idxS l v)) := by
  have hn := h.2.1
  go_enter Tryz.func48, Tryz.ntmps48
  go_wp2
  go_loop [5] (fun i => ∃ k : Nat, k ≤ l.length ∧ i = .int .i64 k ∧ ∀ j (h : j < l.length), j < k → l[j] ≠ v) (fun i => l.length - (intOf i).toNat)
  case atStart => exact ⟨0, Nat.zero_le _, rfl, by intros; omega⟩
  case round =>
    obtain ⟨k, hk, rfl, hall⟩ := hrel
    have HA := Lib.hid hall
    clear hall
    by_cases hlt : k < l.length
    · obtain ⟨b1, o1, rfl, z1, c1⟩ := h.at_ hlt
      by_cases hv : l[k] = v
      · have ht : (l[k].toList == v.toList) = true := by rw [bytes_beq]; simp [hv]
        have HV := Lib.hid hv
        clear hv
        go_wp2
        go_ret
        exact ⟨by rw [idxS_found hlt (fun j hj h => HA.out j hj h) HV.out]; rfl, rfl⟩
      · have ht : (l[k].toList == v.toList) = false := by rw [bytes_beq]; simp [hv]
        have HV := Lib.hid hv
        clear hv
        go_wp2
        go_round
        case rel =>
          refine ⟨k + 1, by omega, by go_num, fun j h hj => ?_⟩
          by_cases hjk : j = k
          · subst hjk; exact HV.out
          · exact HA.out j h (by omega)
        case measure => simp [intOf]; omega
    · go_wp2
      go_ret
      exact ⟨by rw [idxS_none (fun j hj => HA.out j hj (by omega))]; rfl, rfl⟩
set_option maxRecDepth 100000 in
set_option maxHeartbeats 400000 in
theorem r09_square (q : Nat) (cols : List ByteArray) (rows : List (List Val)) (A B : Option Addr) (c e : Nat) (w : World) (S : Nat → Prop) (_hcl : cols.length ≤ 4294967296) (hB : Rows w S q B rows) :
    Calls Tryz.prog 66 #[.slice A cols.length c, .slice B rows.length e] w (SameB w (regB cols rows)) := by
  have hn := hB.len
  have HB := Lib.hid hB
  clear hB
  go_enter Tryz.func66, Tryz.ntmps66
  go_wp2
  go_loop [5] (fun i => ∃ k : Nat, k ≤ rows.length ∧ i = .int .i64 k ∧ ∀ j (h : j < rows.length), j < k → rows[j].length = cols.length) (fun i => rows.length - (intOf i).toNat)
  case atStart => exact ⟨0, Nat.zero_le _, rfl, by intros; omega⟩
  case round =>
    obtain ⟨k, hk, rfl, hall⟩ := hrel
    have HA := Lib.hid hall
    clear hall
    by_cases hlt : k < rows.length
    · obtain ⟨b1, o1, C1, e1, rfl, z1, c1, hce, hrow⟩ := HB.out.at_ hlt
      have hrl := hrow.len
      clear hrow
      by_cases hv : rows[k].length = cols.length
      · have ht : (((rows[k].length : Nat) : Int) != ((cols.length : Nat) : Int)) = false := by simp [hv]
        have HV := Lib.hid hv
        clear hv
        go_wp2
        go_round
        case rel =>
          refine ⟨k + 1, by omega, by go_num, fun j h hj => ?_⟩
          by_cases hjk : j = k
          · subst hjk; exact HV.out
          · exact HA.out j h (by omega)
        case measure => simp [intOf]; omega
      · have ht : (((rows[k].length : Nat) : Int) != ((cols.length : Nat) : Int)) = true := by simp; omega
        have HV := Lib.hid hv
        clear hv
        go_wp2
        go_ret
        refine ⟨?_, rfl⟩
        have hr : regB cols rows = false := all_not _ _ k hlt (by simp [HV.out])
        rw [hr]
        rfl
    · go_wp2
      go_ret
      refine ⟨?_, rfl⟩
      have hr : regB cols rows = true := all_take _ _ fun j hj => by simp [HA.out j hj (by omega)]
      rw [hr]
      rfl
end Go.Proofs.YtcmmkeiiapbgcaaGreatDoor
/- The reference's Find. Conditions: the arguments read as data. -/
namespace Go.Proofs.YtcmmkeiiapbgcaaGreatDoor
open Go Go.RowKit

set_option maxRecDepth 100000 in
set_option maxHeartbeats 2000000 in
theorem r09_Find (d : Nat) (t : Look) (key : ByteArray) (v : Val) (col : ByteArray) (A B Av Bv : Option Addr) (c e cv ev : Nat) (w : World) (S T : Nat → Prop) (h : RL w S d t A B) (_hcap : t.cols.length ≤ c) (hv : RV w T d v Av Bv) :
    Calls Tryz.prog 14 #[(.agg #[.string t.name, .slice A t.cols.length c, .slice B t.rows.length e]), .string key, (.agg #[.int .i64 v.kind, .string v.s, .int .i64 v.dn, .int .i64 v.ds, .int .i64 v.n, .slice Av v.cols.length cv, .slice Bv v.rows.length ev]), .string col] w (RetVE w S d (findS t key v col)) := by
  obtain ⟨S', hS'⟩ : ∃ S' : Nat → Prop, S' = fun b => S b ∧ b < w.heap.size := ⟨_, rfl⟩
  have HS' := Lib.hid hS'
  have H := Lib.hid (h.mono (T := S') fun i hi hs => by rw [hS']; exact ⟨hs, hi⟩)
  have HV := Lib.hid hv
  clear hS'
  have hcl := h.2.1.2.1
  have hrl := h.2.2.len
  clear h hv
  go_enter Tryz.func14, Tryz.ntmps14
  go_wp2_with fail
  refine (r09_Right d t A B c e _ S' (H.out.keep (((((Ext.refl w).alloc _).alloc _).alloc _).kept _))).mono ?_
  rintro e1 w1 ⟨rfl, hx1⟩
  have HX1 := Lib.hid ((((Ext.refl w).alloc _).alloc _).alloc _ |>.trans hx1)
  have hz0 := hx1.size
  simp at hz0
  have hz1 : w.heap.size < w1.heap.size := by omega
  have hz2 : w.heap.size + 1 < w1.heap.size := by omega
  have hz3 : w.heap.size + 1 + 1 < w1.heap.size := by omega
  obtain ⟨hc1, hf1⟩ := bcell hx1
  simp at hc1 hf1
  cases hR : lookR t
  · have HF := Lib.hid (show findS t key v col = (Val.zero, 1) by simp [findS, hR])
    clear hR hx1
    go_wp2
    rw [HF.out]
    refine bodyPost_ret (v := .tuple #[(.agg #[.int .i64 Val.zero.kind, .string Val.zero.s, .int .i64 Val.zero.dn, .int .i64 Val.zero.ds, .int .i64 Val.zero.n, .slice none Val.zero.cols.length 0, .slice none Val.zero.rows.length 0]), .int .i64 1]) (by simp [results, Tryz.results14, go_sem, hc1, Val.zero]) rfl ⟨none, 0, none, 0, rfl, ⟨Nat.le_refl _, Nat.le_refl _⟩, RV.zero, ?_⟩
    iterate 7 with_reducible refine Ext.set2 ?_ (by omega) _
    with_reducible exact HX1.out
  have HR := Lib.hid hR
  have bL : Blk w1 w.heap.size 28 #[.string t.name, .slice A t.cols.length c, .slice B t.rows.length e] := (((Blk.new w 28 #[.string t.name, .slice A t.cols.length c, .slice B t.rows.length e]).keep (Kept.alloc _ _ _)).keep (Kept.alloc _ _ _)).keep (hx1.kept _)
  have bV : Blk w1 (w.heap.size + 1) 33 #[.int .i64 v.kind, .string v.s, .int .i64 v.dn, .int .i64 v.ds, .int .i64 v.n, .slice Av v.cols.length cv, .slice Bv v.rows.length ev] := by
    have := ((Blk.new (w.alloc (.cells #[.string t.name, .slice A t.cols.length c, .slice B t.rows.length e] 28)) 33 #[.int .i64 v.kind, .string v.s, .int .i64 v.dn, .int .i64 v.ds, .int .i64 v.n, .slice Av v.cols.length cv, .slice Bv v.rows.length ev]).keep (Kept.alloc _ _ _)).keep (hx1.kept _)
    simpa using this
  have bR : Blk w1 (w.heap.size + 1 + 1) 33 #[.int .i64 Val.zero.kind, .string Val.zero.s, .int .i64 Val.zero.dn, .int .i64 Val.zero.ds, .int .i64 Val.zero.n, .slice none Val.zero.cols.length 0, .slice none Val.zero.rows.length 0] := by
    have := (Blk.new ((w.alloc (.cells #[.string t.name, .slice A t.cols.length c, .slice B t.rows.length e] 28)).alloc (.cells #[.int .i64 v.kind, .string v.s, .int .i64 v.dn, .int .i64 v.ds, .int .i64 v.n, .slice Av v.cols.length cv, .slice Bv v.rows.length ev] 33)) 33 #[.int .i64 Val.zero.kind, .string Val.zero.s, .int .i64 Val.zero.dn, .int .i64 Val.zero.ds, .int .i64 Val.zero.n, .slice none Val.zero.cols.length 0, .slice none Val.zero.rows.length 0]).keep (hx1.kept _)
    simpa using this
  have g1 := bL.cell (i := 1) rfl
  have g2 := bL.cell (i := 2) rfl
  have HBL := Lib.hid bL
  have HBV := Lib.hid bV
  have HBR := Lib.hid bR
  have HL := Lib.hid (H.out.keep (HX1.out.kept S'))
  clear hx1 hc1 hf1 bV bR bL hR
  go_wp2_with fail
  refine (r09_index A c t.cols key _ S' HL.out.2.1).mono ?_
  rintro e1 w9 ⟨rfl, rfl⟩
  go_wp2_with fail
  refine (r09_index A c t.cols col _ S' HL.out.2.1).mono ?_
  rintro e1 w9 ⟨rfl, rfl⟩
  have r0 := HBR.out.cell (i := 0) rfl
  have r1 := HBR.out.cell (i := 1) rfl
  have r2 := HBR.out.cell (i := 2) rfl
  have r3 := HBR.out.cell (i := 3) rfl
  have r4 := HBR.out.cell (i := 4) rfl
  have r5 := HBR.out.cell (i := 5) rfl
  have r6 := HBR.out.cell (i := 6) rfl
  have rf := HBR.out.frozen
  by_cases hk : 0 ≤ idxS t.cols key
  case neg =>
    have HF := Lib.hid (show findS t key v col = (Val.zero, 13) by
      unfold findS
      rw [HR.out, if_neg (by simp), if_pos (Or.inl (by omega))])
    go_wp2
    rw [HF.out]
    refine bodyPost_ret (v := .tuple #[(.agg #[.int .i64 Val.zero.kind, .string Val.zero.s, .int .i64 Val.zero.dn, .int .i64 Val.zero.ds, .int .i64 Val.zero.n, .slice none Val.zero.cols.length 0, .slice none Val.zero.rows.length 0]), .int .i64 13]) (by simp [results, Tryz.results14, go_sem, r0, r1, r2, r3, r4, r5, r6, Val.zero]) rfl ⟨none, 0, none, 0, rfl, ⟨Nat.le_refl _, Nat.le_refl _⟩, RV.zero, ?_⟩
    iterate 7 with_reducible refine Ext.set2 ?_ (by omega) _
    with_reducible exact HX1.out
  by_cases hc : 0 ≤ idxS t.cols col
  case neg =>
    have HF := Lib.hid (show findS t key v col = (Val.zero, 13) by
      unfold findS
      rw [HR.out, if_neg (by simp), if_pos (Or.inr (by omega))])
    go_wp2
    rw [HF.out]
    refine bodyPost_ret (v := .tuple #[(.agg #[.int .i64 Val.zero.kind, .string Val.zero.s, .int .i64 Val.zero.dn, .int .i64 Val.zero.ds, .int .i64 Val.zero.n, .slice none Val.zero.cols.length 0, .slice none Val.zero.rows.length 0]), .int .i64 13]) (by simp [results, Tryz.results14, go_sem, r0, r1, r2, r3, r4, r5, r6, Val.zero]) rfl ⟨none, 0, none, 0, rfl, ⟨Nat.le_refl _, Nat.le_refl _⟩, RV.zero, ?_⟩
    iterate 7 with_reducible refine Ext.set2 ?_ (by omega) _
    with_reducible exact HX1.out
  obtain ⟨k, hk1, hk2, -⟩ := idxS_at hk
  obtain ⟨cc, hc1, hc2, -⟩ := idxS_at hc
  have HF := Lib.hid (show findS t key v col = findRows k cc v t.rows by
    unfold findS
    rw [HR.out, if_neg (by simp), if_neg (by omega), hk1, hc1]
    simp)
  rw [hk1, hc1, HF.out]
  clear hk hc hk1 hc1 r0 r1 r2 r3 r4 r5 r6 rf
  go_wp2
  have HTB := Lib.hid (lookR_tab HR.out)
  clear g1 g2
  go_loopw [13] (fun i wr => ∃ m : Nat, m ≤ t.rows.length ∧ i = .int .i64 m ∧ Ext w1 wr ∧ findRows k cc v (t.rows.drop m) = findRows k cc v t.rows) (fun i _ => t.rows.length - (intOf i).toNat)
  case atStart => exact ⟨0, Nat.zero_le _, rfl, Ext.refl _, rfl⟩
  case round =>
    obtain ⟨m, hm, rfl, hext, hfr⟩ := hrel
    have HFR := Lib.hid hfr
    have HE := Lib.hid hext
    have g2 := (HBL.out.keep (hext.kept _)).cell (i := 2) rfl
    clear hfr
    by_cases hlt : m < t.rows.length
    · obtain ⟨b1, o1, A2, c2, rfl, z1, p0, hcr, hrow⟩ := (HL.out.2.2.keep (hext.kept S')).at_ hlt
      have hll := tableR_row HTB.out hlt
      have hkr : k < t.rows[m].length := by omega
      have hcr2 : cc < t.rows[m].length := by omega
      obtain ⟨b2, o2, A5, c5, B5, e5, rfl, z2, ⟨q0, q1, q2, q3, q4, q5, q6⟩, ⟨hd, _, _⟩, hv5⟩ := hrow.at_ hkr
      have hrl2 := hrow.len
      have hdr : t.rows.drop m = t.rows[m] :: t.rows.drop (m + 1) := List.drop_eq_getElem_cons hlt
      have hgd : (t.rows[m].getD k Val.zero) = t.rows[m][k] := getD_of _ _ _ hkr
      have hgc : (t.rows[m].getD cc Val.zero) = t.rows[m][cc] := getD_of _ _ _ hcr2
      have HV5 := Lib.hid hv5
      have HROW := Lib.hid hrow
      have hbv := HBV.out.keep (hext.kept _)
      have v0 := hbv.cell (i := 0) rfl
      have v1 := hbv.cell (i := 1) rfl
      have v2 := hbv.cell (i := 2) rfl
      have v3 := hbv.cell (i := 3) rfl
      have v4 := hbv.cell (i := 4) rfl
      have v5 := hbv.cell (i := 5) rfl
      have v6 := hbv.cell (i := 6) rfl
      have HDR := Lib.hid hdr
      have HGD := Lib.hid hgd
      have HGC := Lib.hid hgc
      have HP0 := Lib.hid p0
      have HG2 := Lib.hid g2
      have HZ1 := Lib.hid z1
      clear hbv hdr hgd hgc hrow hv5 hext hll
      go_wp2
      go_still_tail 9, (by kernel_rfl)
      go_wp2_with fail
      refine (r09_is d t.rows[m][k] v A5 B5 Av Bv c5 e5 cv ev _ S' T ((HV5.out.up (by omega)).keep (Kept.drew _ _)) ((HV.out.keep ((HX1.out.trans HE.out).kept T)).keep (Kept.drew _ _))).mono ?_
      rintro e1 w3 ⟨rfl, hx3⟩
      have HX3 := Lib.hid (HE.out.drew.trans hx3)
      have HX3' := Lib.hid (((Ext.refl wr).drew).trans hx3)
      clear hx3 v0 v1 v2 v3 v4 v5 v6 p0 g2 q0 q1 q2 q3 q4 q5 q6
      cases his : isB t.rows[m][k] v
      · have HK := Lib.hid (show findRows k cc v (t.rows.drop (m + 1)) = findRows k cc v t.rows by rw [← HFR.out, HDR.out, findRows, HGD.out, his]; simp)
        clear his
        go_wp2
        go_roundw
        case rel => exact ⟨m + 1, by omega, by go_num, HX3.out, HK.out⟩
        case measure => simp [intOf]; omega
      · obtain ⟨b3, o3, A6, c6, B6, e6, hb3, z3, ⟨q0', q1', q2', q3', q4', q5', q6'⟩, ⟨hd', hcp6, hcp7⟩, hv6⟩ := (HROW.out.keep (HX3'.out.kept S')).at_ hcr2
        injection hb3 with hb3
        injection hb3 with hb3 hb4
        subst hb3
        subst hb4
        have HV6 := Lib.hid hv6
        clear hv6
        have p0 := HX3'.out.cell HP0.out
        have g2 := HX3'.out.cell HG2.out
        have z1' := Nat.lt_of_lt_of_le HZ1.out HX3'.out.size
        have hbr := HBR.out.keep (HX3.out.kept _)
        have r0 := hbr.cell (i := 0) rfl
        have r1 := hbr.cell (i := 1) rfl
        have r2 := hbr.cell (i := 2) rfl
        have r3 := hbr.cell (i := 3) rfl
        have r4 := hbr.cell (i := 4) rfl
        have r5 := hbr.cell (i := 5) rfl
        have r6 := hbr.cell (i := 6) rfl
        have rf := hbr.frozen
        have hz5 := hbr.lt
        clear hbr
        by_cases hk0 : t.rows[m][cc].kind = 0
        · have hk0' : (t.rows[m][cc].kind == 0) = true := by simp [hk0]
          have HK := Lib.hid (show findRows k cc v t.rows = (Val.zero, 18) by rw [← HFR.out, HDR.out, findRows, HGD.out, HGC.out, his, if_pos rfl, if_pos hk0])
          clear his hk0
          go_wp2
          rw [HF.out, HK.out]
          refine bodyPost_ret (v := .tuple #[(.agg #[.int .i64 Val.zero.kind, .string Val.zero.s, .int .i64 Val.zero.dn, .int .i64 Val.zero.ds, .int .i64 Val.zero.n, .slice none Val.zero.cols.length 0, .slice none Val.zero.rows.length 0]), .int .i64 18]) (by simp [results, Tryz.results14, go_sem, r0, r1, r2, r3, r4, r5, r6, Val.zero]) rfl ⟨none, 0, none, 0, rfl, ⟨Nat.le_refl _, Nat.le_refl _⟩, RV.zero, ?_⟩
          iterate 7 with_reducible refine Ext.set2 ?_ (by omega) _
          exact HX1.out.trans HX3.out
        · have hk0' : (t.rows[m][cc].kind == 0) = false := by simp [hk0]
          have HK := Lib.hid (show findRows k cc v t.rows = (t.rows[m][cc], 0) by rw [← HFR.out, HDR.out, findRows, HGD.out, HGC.out, his, if_pos rfl, if_neg hk0])
          clear his hk0
          go_wp2
          rw [HF.out, HK.out]
          refine bodyPost_ret (v := .tuple #[(.agg #[.int .i64 t.rows[m][cc].kind, .string t.rows[m][cc].s, .int .i64 t.rows[m][cc].dn, .int .i64 t.rows[m][cc].ds, .int .i64 t.rows[m][cc].n, .slice A6 t.rows[m][cc].cols.length c6, .slice B6 t.rows[m][cc].rows.length e6]), .int .i64 0]) (by simp [results, Tryz.results14, go_sem, r0, r1, r2, r3, r4, r5, r6]) rfl ⟨A6, c6, B6, e6, rfl, ⟨hcp6, hcp7⟩, ?_, ?_⟩
          · have h1 := (HV6.out.up (d' := d) (by omega)).mono (T := fun b => S b ∧ b < w.heap.size) fun i hi hs => by rw [HS'.out] at hs; exact hs
            have hne : ¬ (S (w.heap.size + 1 + 1) ∧ w.heap.size + 1 + 1 < w.heap.size) := fun h => by have := h.2; omega
            refine (h1.keep ?_).mono fun i _ hi => hi.1
            iterate 7 with_reducible refine Kept.set2 ?_ hne
            with_reducible exact Kept.refl _ _
          · iterate 7 with_reducible refine Ext.set2 ?_ (by omega) _
            exact HX1.out.trans HX3.out
    · have HK := Lib.hid (show findRows k cc v t.rows = (Val.zero, 18) by rw [← HFR.out, List.drop_eq_nil_of_le (by omega)]; rfl)
      have hbr := HBR.out.keep (hext.kept _)
      have r0 := hbr.cell (i := 0) rfl
      have r1 := hbr.cell (i := 1) rfl
      have r2 := hbr.cell (i := 2) rfl
      have r3 := hbr.cell (i := 3) rfl
      have r4 := hbr.cell (i := 4) rfl
      have r5 := hbr.cell (i := 5) rfl
      have r6 := hbr.cell (i := 6) rfl
      have rf := hbr.frozen
      have hz5 := hbr.lt
      clear hbr hext
      go_wp2
      rw [HF.out, HK.out]
      refine bodyPost_ret (v := .tuple #[(.agg #[.int .i64 Val.zero.kind, .string Val.zero.s, .int .i64 Val.zero.dn, .int .i64 Val.zero.ds, .int .i64 Val.zero.n, .slice none Val.zero.cols.length 0, .slice none Val.zero.rows.length 0]), .int .i64 18]) (by simp [results, Tryz.results14, go_sem, r0, r1, r2, r3, r4, r5, r6, Val.zero]) rfl ⟨none, 0, none, 0, rfl, ⟨Nat.le_refl _, Nat.le_refl _⟩, RV.zero, ?_⟩
      iterate 7 with_reducible refine Ext.set2 ?_ (by omega) _
      exact HX1.out.trans HE.out
end Go.Proofs.YtcmmkeiiapbgcaaGreatDoor
