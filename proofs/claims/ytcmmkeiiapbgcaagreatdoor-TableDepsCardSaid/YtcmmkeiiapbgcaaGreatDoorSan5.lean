/- The law's sanity: true. Condition: the table of tens is there. -/
import Derived.Test.YtcmmkeiiapbgcaaGreatDoorSan4
namespace Go.Proofs.YtcmmkeiiapbgcaaGreatDoor
open Go Go.RowKit

def twoV : Val := numV 2 0
/-- The facts of the statement 'v, e := table.Find(t, city, text(key), country)'. -/
def gFind (A : Option Addr) (c : Nat) (B : Option Addr) (e : Nat) (key : ByteArray) (res : Val) (code : Int) : Nat → List Value → Gh → World → Prop
  | 0, [v], _, _ => v = (.agg #[.string citiesT.name, .slice A citiesT.cols.length c, .slice B citiesT.rows.length e])
  | 1, [v], _, _ => ∃ x, x = textV key ∧ v = (.agg #[.int .i64 x.kind, .string x.s, .int .i64 x.dn, .int .i64 x.ds, .int .i64 x.n, .slice none x.cols.length 0, .slice none x.rows.length 0])
  | 2, [v], _, _ => ∃ Av cv Bv ev, v = .tuple #[(.agg #[.int .i64 res.kind, .string res.s, .int .i64 res.dn, .int .i64 res.ds, .int .i64 res.n, .slice Av res.cols.length cv, .slice Bv res.rows.length ev]), .int .i64 code]
  | 3, [v], _, _ => ∃ Av cv Bv ev, v = .tuple #[(.agg #[.int .i64 res.kind, .string res.s, .int .i64 res.dn, .int .i64 res.ds, .int .i64 res.n, .slice Av res.cols.length cv, .slice Bv res.rows.length ev]), .int .i64 code]
  | 4, [v], _, _ => ∃ Av cv Bv ev, v = (.agg #[.int .i64 res.kind, .string res.s, .int .i64 res.dn, .int .i64 res.ds, .int .i64 res.n, .slice Av res.cols.length cv, .slice Bv res.rows.length ev])
  | 5, [v], _, _ => v = .int .i64 code
  | 6, [v], γ, w => VarAt 6 33 7 v γ w
  | 7, [p, _], γ, w => ∃ Av cv Bv ev, VarIs 33 p #[.int .i64 res.kind, .string res.s, .int .i64 res.dn, .int .i64 res.ds, .int .i64 res.n, .slice Av res.cols.length cv, .slice Bv res.rows.length ev] γ w
  | 8, [v], _, _ => v = .int .i64 code
  | _, _, _, _ => True
def dFind : Nat → List Nat | 7 => [6, 7] | i => [i]
theorem gFind_st (A : Option Addr) (c : Nat) (B : Option Addr) (e : Nat) (key : ByteArray) (res : Val) (code : Int) : ∀ i l γ w γ' w', LR γ w γ' w' → gFind A c B e key res code i l γ w → gFind A c B e key res code i l γ' w' := by
  intro i l γ w γ' w' r h
  unfold gFind at h ⊢
  split at h <;> first | exact h | exact VarAt.lr r h | (obtain ⟨a, b, c, d, h⟩ := h; exact ⟨a, b, c, d, VarIs.lr r h⟩)

/-- The values of the statement 'return table.Right(t) && ..'. -/
def vSan (A : Option Addr) (c : Nat) (B : Option Addr) (e : Nat) (Av : Option Addr) (cv : Nat) (Bv : Option Addr) (ev : Nat) (Ak : Option Addr) (ck : Nat) (w5 : World) (A7 : Option Addr) (c7 : Nat) (As : Option Addr) (cs : Nat) (Bs : Option Addr) (es : Nat) : Nat → Value
  | 0 => (.agg #[.string citiesT.name, .slice A citiesT.cols.length c, .slice B citiesT.rows.length e])
  | 1 => .bool true
  | 2 => .bool true
  | 3 => .int .i64 0
  | 4 => .bool true
  | 5 => .bool true
  | 6 => .bool true
  | 7 => (.agg #[.int .i64 noV.kind, .string noV.s, .int .i64 noV.dn, .int .i64 noV.ds, .int .i64 noV.n, .slice Av noV.cols.length cv, .slice Bv noV.rows.length ev])
  | 8 => (.agg #[.int .i64 noV.kind, .string noV.s, .int .i64 noV.dn, .int .i64 noV.ds, .int .i64 noV.n, .slice none noV.cols.length 0, .slice none noV.rows.length 0])
  | 9 => .bool true
  | 10 => .bool true
  | 11 => .bool true
  | 12 => .int .i64 18
  | 13 => .bool true
  | 14 => .bool true
  | 15 => .bool true
  | 16 => .slice Ak wantD.length ck
  | 17 => .slice (some ⟨w5.heap.size + 1 + 1 + 1 + 1, 0, none⟩) 4 4
  | 18 => .bool true
  | 19 => .bool true
  | 20 => .bool true
  | 21 => .bool true
  | 22 => .bool true
  | 23 => .bool true
  | 24 => .slice A7 3 c7
  | 26 => .bool true
  | 27 => .bool true
  | 28 => .bool true
  | 29 => .int .i64 0
  | 30 => .bool true
  | 31 => .bool true
  | 32 => .bool true
  | 33 => (.agg #[.int .i64 twoV.kind, .string twoV.s, .int .i64 twoV.dn, .int .i64 twoV.ds, .int .i64 twoV.n, .slice As twoV.cols.length cs, .slice Bs twoV.rows.length es])
  | 34 => (.agg #[.int .i64 twoV.kind, .string twoV.s, .int .i64 twoV.dn, .int .i64 twoV.ds, .int .i64 twoV.n, .slice none twoV.cols.length 0, .slice none twoV.rows.length 0])
  | 35 => .bool true
  | 36 => .bool true
  | 37 => .bool true
  | 38 => .int .i64 20
  | 39 => .bool true
  | 40 => .bool true
  | 41 => .bool true
  | _ => undef
def gSan (A : Option Addr) (c : Nat) (B : Option Addr) (e : Nat) (Av : Option Addr) (cv : Nat) (Bv : Option Addr) (ev : Nat) (Ak : Option Addr) (ck : Nat) (w5 : World) (A7 : Option Addr) (c7 : Nat) (As : Option Addr) (cs : Nat) (Bs : Option Addr) (es : Nat) (i : Nat) (l : List Value) (γ : Gh) (w : World) : Prop := match l with
  | [v] => if i = 25 then ∃ g, v = .slice (some ⟨g, 0, none⟩) 3 3 ∧ Strs w (Free γ) (some ⟨g, 0, none⟩) [sA, sB, sC] else v = vSan A c B e Av cv Bv ev Ak ck w5 A7 c7 As cs Bs es i
  | _ => True
theorem gSan_st (A : Option Addr) (c : Nat) (B : Option Addr) (e : Nat) (Av : Option Addr) (cv : Nat) (Bv : Option Addr) (ev : Nat) (Ak : Option Addr) (ck : Nat) (w5 : World) (A7 : Option Addr) (c7 : Nat) (As : Option Addr) (cs : Nat) (Bs : Option Addr) (es : Nat) : ∀ i l γ w γ' w', LR γ w γ' w' → gSan A c B e Av cv Bv ev Ak ck w5 A7 c7 As cs Bs es i l γ w → gSan A c B e Av cv Bv ev Ak ck w5 A7 c7 As cs Bs es i l γ' w' := by
  intro i l γ w γ' w' r h
  match l, h with
  | [v], h =>
    unfold gSan at h ⊢
    by_cases hi : i = 25
    · simp only [if_pos hi] at h ⊢
      obtain ⟨g, h1, h2⟩ := h
      exact ⟨g, h1, r.strs h2⟩
    · simp only [if_neg hi] at h ⊢
      exact h
  | [], _ => trivial
  | _ :: _ :: _, _ => trivial
def dSan : Nat → List Nat := fun i => [i]
set_option maxRecDepth 100000 in
set_option maxHeartbeats 2000000 in
theorem law_sanity (w : World) (ht : Tens w) : Calls Tryz.prog 8 #[] w (RetB w true) := by
  have HT := Lib.hid ht
  clear ht
  go_enter Tryz.func8, Tryz.ntmps8
  go_wp2_with fail
  refine (law_cities _).mono ?_
  rintro e1 w1 ⟨A, c, B, e, rfl, ⟨hcp1, hcp2⟩, hrl, hx1⟩
  have HCP1 := Lib.hid hcp1
  have HRL := Lib.hid (hrl.keep (Kept.alloc _ _ (.cells #[.string citiesT.name, .slice A citiesT.cols.length c, .slice B citiesT.rows.length e] 28)))
  have HX2 := Lib.hid (hx1.alloc (.cells #[.string citiesT.name, .slice A citiesT.cols.length c, .slice B citiesT.rows.length e] 28))
  have HBT := Lib.hid (Blk.new w1 28 #[.string citiesT.name, .slice A citiesT.cols.length c, .slice B citiesT.rows.length e])
  clear hrl hx1 hcp1 hcp2
  go_upto_region 2 with fail
  obtain ⟨w2, hw2⟩ : ∃ w2, w2 = w1.alloc (.cells #[.string citiesT.name, .slice A citiesT.cols.length c, .slice B citiesT.rows.length e] 28) := ⟨_, rfl⟩
  rw [← hw2] at HRL HX2 HBT
  rw [← hw2]
  clear hw2
  have t0 := HBT.out.cell (i := 0) rfl
  have t1 := HBT.out.cell (i := 1) rfl
  have t2 := HBT.out.cell (i := 2) rfl
  clear HBT
  go_upto_region 2 with fail
  go_cut [2, 3] from 15 to 127 (fun p b wx => ∃ g Av cv Bv ev, p = .pointer (some ⟨g, 0, none⟩) ∧ b = .int .i64 0 ∧ Ext w2 wx ∧ Blk wx g 33 #[.int .i64 noV.kind, .string noV.s, .int .i64 noV.dn, .int .i64 noV.ds, .int .i64 noV.n, .slice Av noV.cols.length cv, .slice Bv noV.rows.length ev])
  case first =>
    refine wp_region_lin_lit (by kernel_rfl) dFind (by kernel_rfl) LR LR.refl LR.trans (LN (al1 7 6)) (gFind A c B e sOslo noV 0) (gFind_st _ _ _ _ _ _ _) gh0 (LN.zero _) ⟨?_, ?_, ?_, ?_, ?_, ?_, ?_, ?_, ?_, trivial⟩ ?_
    · refine LinStep.yes fun vals γ w' ρ hR hN hp hρ hc hf hg => ⟨rfl, ?_⟩
      have hx := hR.drew_ext
      have c0 := hx.cell t0
      have c1 := hx.cell t1
      have c2 := hx.cell t2
      have e1 : ρ (.tmp 1) = .pointer (some ⟨w1.heap.size, 0, none⟩) := hρ 1
      clear hR hN hp hρ t0 t1 t2 hx
      go_light
      go_simp
      exact ⟨γ, LR.refl _ _, fun _ _ _ h => h, rfl⟩
    · refine LinStep.yes fun vals γ w' ρ hR hN hp hρ hc hf hg => ⟨rfl, ?_⟩
      clear hR hN hp hρ t0 t1 t2
      go_light
      go_simp
      exact (law_text _ _).mono fun e' w3 ⟨he, hx⟩ => ⟨_, he, γ, LR.of_ext γ hx, fun _ _ _ h => h, _, rfl, rfl⟩
    · refine LinStep.yes fun vals γ w' ρ hR hN hp hρ hc hf hg => ⟨rfl, ?_⟩
      have e17 : ρ (.tmp 17) = _ := (hρ 17).trans (hp 0 (by decide))
      obtain ⟨x, hx1, g1⟩ := hp 1 (by decide)
      have e18 : ρ (.tmp 18) = _ := (hρ 18).trans g1
      have HR := Lib.hid hR
      subst hx1
      clear hR hN hp hρ t0 t1 t2 g1
      go_light
      go_simp
      refine (table_Find 1 citiesT sCity (textV sOslo) sCountry A B none none c e 0 0 _ (Fresh w) (Fresh w) (HRL.out.keep (HR.out.drew_ext.kept _)) HCP1.out (RV.flat (flat_text _ (by decide)))).mono ?_
      rintro e1 w4 ⟨Av, cv, Bv, ev, he, -, -, hx4⟩
      rw [san_find1] at he
      exact ⟨_, he, γ, LR.of_ext γ hx4, fun _ _ _ h => h, Av, cv, Bv, ev, rfl⟩
    · refine LinStep.yes fun vals γ w' ρ hR hN hp hρ hc hf hg => ⟨rfl, ?_⟩
      obtain ⟨Av, cv, Bv, ev, g⟩ := hp 2 (by decide)
      have e19 : ρ (.tmp 19) = _ := (hρ 19).trans g
      clear hR hN hp hρ t0 t1 t2 g
      go_light
      go_simp
      exact ⟨γ, LR.refl _ _, fun _ _ _ h => h, Av, cv, Bv, ev, rfl⟩
    · refine LinStep.yes fun vals γ w' ρ hR hN hp hρ hc hf hg => ⟨rfl, ?_⟩
      obtain ⟨Av, cv, Bv, ev, g⟩ := hp 3 (by decide)
      have e19 : ρ (.tmp 16) = _ := (hρ 16).trans g
      clear hR hN hp hρ t0 t1 t2 g
      go_light
      go_simp
      exact ⟨γ, LR.refl _ _, fun _ _ _ h => h, Av, cv, Bv, ev, rfl⟩
    · refine LinStep.yes fun vals γ w' ρ hR hN hp hρ hc hf hg => ⟨rfl, ?_⟩
      obtain ⟨Av, cv, Bv, ev, g⟩ := hp 3 (by decide)
      have e19 : ρ (.tmp 16) = _ := (hρ 16).trans g
      clear hR hN hp hρ t0 t1 t2 g
      go_light
      go_simp
      exact ⟨γ, LR.refl _ _, fun _ _ _ h => h, rfl⟩
    · refine LinStep.yes fun vals γ w' ρ hR hN hp hρ hc hf hg => ⟨rfl, ?_⟩
      have HB := Lib.hid hR.inb0
      have HN := Lib.hid hN
      clear hR hN hp hρ t0 t1 t2
      go_light
      go_simp
      exact ⟨γ.put 6 (some w'.heap.size), LR.new (HN.out.2 ⟨7, rfl⟩) _ _, LN.made, VarAt.new HB.out rfl⟩
    · refine LinStep.yes fun vals γ w' ρ hR hN hp hρ hc hf hg => ⟨rfl, ?_⟩
      obtain ⟨Av, cv, Bv, ev, g4⟩ := hp 4 (by decide)
      have e20 : ρ (.tmp 20) = _ := (hρ 20).trans g4
      obtain ⟨g, hv, hcs, hk, hst⟩ := VarAt.store7 (hp 6 (by decide)) (s := 7) (al := al1 7 6) rfl hN
      have e2 : ρ (.tmp 2) = _ := (hρ 2).trans hv
      obtain ⟨⟨x0, x1, x2, x3, x4, x5, x6, k0, k1, k2, k3, k4, k5, k6⟩, kf, kz⟩ := blk7 hcs
      have HST := Lib.hid hst
      have HK := Lib.hid hk
      clear hR hN hp hρ t0 t1 t2 g4 hv hst hcs hk
      go_light
      go_simp
      exact ⟨γ.put 6 none, (HST.out _ _ _ _ _ _ _).1, LN.stored al1_inj rfl HK.out, Av, cv, Bv, ev, (HST.out _ _ _ _ _ _ _).2⟩
    · refine LinStep.yes fun vals γ w' ρ hR hN hp hρ hc hf hg => ⟨rfl, ?_⟩
      have e21 : ρ (.tmp 21) = _ := (hρ 21).trans (hp 5 (by decide))
      clear hR hN hp hρ t0 t1 t2
      go_light
      go_simp
      exact ⟨γ, LR.refl _ _, fun _ _ _ h => h, rfl⟩
    · intro vals γ w' hR hG
      obtain ⟨Av, cv, Bv, ev, g, hv, hb, -⟩ := hG 7 (by decide)
      have h8 : vals 8 = .int .i64 0 := hG 8 (by decide)
      have HX := Lib.hid hR.drew_ext
      have HB := Lib.hid hb
      clear hR hG hb
      simp only [lexFrame, Act.put, List.setIfInBounds_toArray, List.set_cons_succ, List.set_cons_zero, Nat.zero_add, Nat.reduceAdd, hv, h8]
      generalize vals 0 = u0, vals 1 = u1, vals 2 = u2, vals 3 = u3, vals 4 = u4, vals 5 = u5
      clear hv h8
      go_wp2_with fail
      go_meet
      case rel => exact ⟨g, Av, cv, Bv, ev, rfl, rfl, HX.out, HB.out⟩
  case rest =>
  obtain ⟨g1, Av, cv, Bv, ev, rfl, rfl, hx3, hb3⟩ := hcut
  obtain ⟨w3, rfl⟩ : ∃ w3, w3 = wc := ⟨_, rfl⟩
  have s0 := hx3.cell t0
  have s1 := hx3.cell t1
  have s2 := hx3.cell t2
  have hz3 := hx3.size
  have HX3 := Lib.hid (HX2.out.trans hx3)
  have HB3 := Lib.hid hb3
  have HRL3 := Lib.hid (HRL.out.keep (hx3.kept _))
  clear hx3 hb3 HX2 HRL t0 t1 t2
  have HRL := HRL3
  have t0 := s0
  have t1 := s1
  have t2 := s2
  clear HRL3 s0 s1 s2
  go_upto_region 3 with fail
  go_cut [4, 5] from 15 to 127 (fun p b wx => ∃ g Av cv Bv ev, p = .pointer (some ⟨g, 0, none⟩) ∧ b = .int .i64 18 ∧ Ext w3 wx ∧ Blk wx g 33 #[.int .i64 Val.zero.kind, .string Val.zero.s, .int .i64 Val.zero.dn, .int .i64 Val.zero.ds, .int .i64 Val.zero.n, .slice Av Val.zero.cols.length cv, .slice Bv Val.zero.rows.length ev])
  case first =>
    refine wp_region_lin_lit (by kernel_rfl) dFind (by kernel_rfl) LR LR.refl LR.trans (LN (al1 7 6)) (gFind A c B e sParis Val.zero 18) (gFind_st _ _ _ _ _ _ _) gh0 (LN.zero _) ⟨?_, ?_, ?_, ?_, ?_, ?_, ?_, ?_, ?_, trivial⟩ ?_
    · refine LinStep.yes fun vals γ w' ρ hR hN hp hρ hc hf hg => ⟨rfl, ?_⟩
      have hx := hR.drew_ext
      have c0 := hx.cell t0
      have c1 := hx.cell t1
      have c2 := hx.cell t2
      have e1 : ρ (.tmp 1) = .pointer (some ⟨w1.heap.size, 0, none⟩) := hρ 1
      clear hR hN hp hρ t0 t1 t2 hx
      go_light
      go_simp
      exact ⟨γ, LR.refl _ _, fun _ _ _ h => h, rfl⟩
    · refine LinStep.yes fun vals γ w' ρ hR hN hp hρ hc hf hg => ⟨rfl, ?_⟩
      clear hR hN hp hρ t0 t1 t2
      go_light
      go_simp
      exact (law_text _ _).mono fun e' w3 ⟨he, hx⟩ => ⟨_, he, γ, LR.of_ext γ hx, fun _ _ _ h => h, _, rfl, rfl⟩
    · refine LinStep.yes fun vals γ w' ρ hR hN hp hρ hc hf hg => ⟨rfl, ?_⟩
      have e17 : ρ (.tmp 23) = _ := (hρ 23).trans (hp 0 (by decide))
      obtain ⟨x, hx1, g1⟩ := hp 1 (by decide)
      have e18 : ρ (.tmp 24) = _ := (hρ 24).trans g1
      have HR := Lib.hid hR
      subst hx1
      clear hR hN hp hρ t0 t1 t2 g1
      go_light
      go_simp
      refine (table_Find 1 citiesT sCity (textV sParis) sCountry A B none none c e 0 0 _ (Fresh w) (Fresh w) (HRL.out.keep (HR.out.drew_ext.kept _)) HCP1.out (RV.flat (flat_text _ (by decide)))).mono ?_
      rintro e1 w4 ⟨Av, cv, Bv, ev, he, -, -, hx4⟩
      rw [san_find2] at he
      exact ⟨_, he, γ, LR.of_ext γ hx4, fun _ _ _ h => h, Av, cv, Bv, ev, rfl⟩
    · refine LinStep.yes fun vals γ w' ρ hR hN hp hρ hc hf hg => ⟨rfl, ?_⟩
      obtain ⟨Av, cv, Bv, ev, g⟩ := hp 2 (by decide)
      have e19 : ρ (.tmp 25) = _ := (hρ 25).trans g
      clear hR hN hp hρ t0 t1 t2 g
      go_light
      go_simp
      exact ⟨γ, LR.refl _ _, fun _ _ _ h => h, Av, cv, Bv, ev, rfl⟩
    · refine LinStep.yes fun vals γ w' ρ hR hN hp hρ hc hf hg => ⟨rfl, ?_⟩
      obtain ⟨Av, cv, Bv, ev, g⟩ := hp 3 (by decide)
      have e19 : ρ (.tmp 22) = _ := (hρ 22).trans g
      clear hR hN hp hρ t0 t1 t2 g
      go_light
      go_simp
      exact ⟨γ, LR.refl _ _, fun _ _ _ h => h, Av, cv, Bv, ev, rfl⟩
    · refine LinStep.yes fun vals γ w' ρ hR hN hp hρ hc hf hg => ⟨rfl, ?_⟩
      obtain ⟨Av, cv, Bv, ev, g⟩ := hp 3 (by decide)
      have e19 : ρ (.tmp 22) = _ := (hρ 22).trans g
      clear hR hN hp hρ t0 t1 t2 g
      go_light
      go_simp
      exact ⟨γ, LR.refl _ _, fun _ _ _ h => h, rfl⟩
    · refine LinStep.yes fun vals γ w' ρ hR hN hp hρ hc hf hg => ⟨rfl, ?_⟩
      have HB := Lib.hid hR.inb0
      have HN := Lib.hid hN
      clear hR hN hp hρ t0 t1 t2
      go_light
      go_simp
      exact ⟨γ.put 6 (some w'.heap.size), LR.new (HN.out.2 ⟨7, rfl⟩) _ _, LN.made, VarAt.new HB.out rfl⟩
    · refine LinStep.yes fun vals γ w' ρ hR hN hp hρ hc hf hg => ⟨rfl, ?_⟩
      obtain ⟨Av, cv, Bv, ev, g4⟩ := hp 4 (by decide)
      have e20 : ρ (.tmp 26) = _ := (hρ 26).trans g4
      obtain ⟨g, hv, hcs, hk, hst⟩ := VarAt.store7 (hp 6 (by decide)) (s := 7) (al := al1 7 6) rfl hN
      have e2 : ρ (.tmp 4) = _ := (hρ 4).trans hv
      obtain ⟨⟨x0, x1, x2, x3, x4, x5, x6, k0, k1, k2, k3, k4, k5, k6⟩, kf, kz⟩ := blk7 hcs
      have HST := Lib.hid hst
      have HK := Lib.hid hk
      clear hR hN hp hρ t0 t1 t2 g4 hv hst hcs hk
      go_light
      go_simp
      exact ⟨γ.put 6 none, (HST.out _ _ _ _ _ _ _).1, LN.stored al1_inj rfl HK.out, Av, cv, Bv, ev, (HST.out _ _ _ _ _ _ _).2⟩
    · refine LinStep.yes fun vals γ w' ρ hR hN hp hρ hc hf hg => ⟨rfl, ?_⟩
      have e21 : ρ (.tmp 27) = _ := (hρ 27).trans (hp 5 (by decide))
      clear hR hN hp hρ t0 t1 t2
      go_light
      go_simp
      exact ⟨γ, LR.refl _ _, fun _ _ _ h => h, rfl⟩
    · intro vals γ w' hR hG
      obtain ⟨Av, cv, Bv, ev, g, hv, hb, -⟩ := hG 7 (by decide)
      have h8 : vals 8 = .int .i64 18 := hG 8 (by decide)
      have HX := Lib.hid hR.drew_ext
      have HB := Lib.hid hb
      clear hR hG hb
      simp only [lexFrame, Act.put, List.setIfInBounds_toArray, List.set_cons_succ, List.set_cons_zero, Nat.zero_add, Nat.reduceAdd, hv, h8]
      generalize vals 0 = u0, vals 1 = u1, vals 2 = u2, vals 3 = u3, vals 4 = u4, vals 5 = u5
      clear hv h8
      go_wp2_with fail
      go_meet
      case rel => exact ⟨g, Av, cv, Bv, ev, rfl, rfl, HX.out, HB.out⟩
  case rest =>
  obtain ⟨g2, Av2, cv2, Bv2, ev2, rfl, rfl, hx4, hb4⟩ := hcut
  obtain ⟨w4, rfl⟩ : ∃ w4, w4 = wc := ⟨_, rfl⟩
  have s0 := hx4.cell t0
  have s1 := hx4.cell t1
  have s2 := hx4.cell t2
  have HX4 := Lib.hid (HX3.out.trans hx4)
  have HB1 := Lib.hid (HB3.out.keep (hx4.kept _))
  have HRL4 := Lib.hid (HRL.out.keep (hx4.kept _))
  clear hx4 hb4 HX3 HB3 HRL t0 t1 t2
  go_wp2_with fail
  refine (table_Keys 1 citiesT.cols citiesT.rows A B c e _ (Fresh w) (Fresh w) HRL4.out.2.1 HRL4.out.2.2 (by decide)).mono ?_
  rintro e5 w5 ⟨Ak, ck, he, hck, hrk, hx5⟩
  rw [san_keys] at he hrk
  subst he
  have t0 := hx5.cell s0
  have t1 := hx5.cell s1
  have t2 := hx5.cell s2
  have HX5 := Lib.hid (HX4.out.trans hx5)
  have HB2 := Lib.hid (HB1.out.keep (hx5.kept _))
  have HRL5 := Lib.hid (HRL4.out.keep (hx5.kept _))
  have HRK := Lib.hid hrk
  clear hx5 hrk hck HX4 HB1 HRL4 s0 s1 s2
  go_upto_region 6 with fail
  obtain ⟨w6, hw6⟩ : ∃ w6, w6 = w5a w5 := ⟨_, rfl⟩
  have hx6 := w5a_ext w5
  have hd6 := w5a_mem w5
  rw [← hw6] at hx6 hd6
  unfold w5a sCity sZip sCountry at hw6
  rw [← hw6]
  clear hw6
  have s0 := hx6.cell t0
  have s1 := hx6.cell t1
  have s2 := hx6.cell t2
  have HX6 := Lib.hid (HX5.out.trans hx6)
  have HB3 := Lib.hid (HB2.out.keep (hx6.kept _))
  have HRL6 := Lib.hid (HRL5.out.keep (hx6.kept _))
  have HRK6 := Lib.hid (HRK.out.keep (hx6.kept _))
  have HRD6 := Lib.hid hd6
  clear hx6 hd6 HX5 HB2 HRL5 HRK t0 t1 t2
  go_wp2_with fail
  refine (table_Closure abD [sA] _ _ 2 1 _ _ _ (w6a_mem w6).1 (w6a_mem w6).2 (by decide)).mono ?_
  rintro e7 w7 ⟨ks, hks, A7, c7, he, hc7, hs7, hx7'⟩
  rw [san_clos hks] at he hs7
  subst he
  have hx7 := (w6a_ext w6).trans hx7'
  have t0 := hx7.cell s0
  have t1 := hx7.cell s1
  have t2 := hx7.cell s2
  have HX7 := Lib.hid (HX6.out.trans hx7)
  have HB4 := Lib.hid (HB3.out.keep (hx7.kept _))
  have HRL7 := Lib.hid (HRL6.out.keep (hx7.kept _))
  have HRK7 := Lib.hid (HRK6.out.keep (hx7.kept _))
  have HRD7 := Lib.hid (HRD6.out.keep (hx7.kept _))
  have HS7 := Lib.hid hs7
  clear hx7 hx7' hks ks hc7 hs7 HX6 HB3 HRL6 HRK6 HRD6 s0 s1 s2
  go_wp2_with fail
  refine (law_number _ _).mono ?_
  rintro e8 w8 ⟨rfl, hx8⟩
  have HX8 := Lib.hid hx8
  have hs8 := hx8.size
  clear hx8
  go_wp2_with fail
  refine (law_number _ _).mono ?_
  rintro e9 w9 ⟨rfl, hx9⟩
  have HX9 := Lib.hid hx9
  have hs9 := hx9.size
  clear hx9
  go_wp2_with fail
  refine (law_number _ _).mono ?_
  rintro e10 w10 ⟨rfl, hx10⟩
  have HX10 := Lib.hid hx10
  have hs10 := hx10.size
  clear hx10
  go_upto_region 8 with fail
  obtain ⟨w11, hw11⟩ : ∃ w11, w11 = ((w10.alloc (.cells #[.int .i64 (numV 4 0).kind, .string (numV 4 0).s, .int .i64 (numV 4 0).dn, .int .i64 (numV 4 0).ds, .int .i64 (numV 4 0).n, .slice none (numV 4 0).cols.length 0, .slice none (numV 4 0).rows.length 0] 33)).alloc (.cells #[.slice (some ⟨w8.heap.size, 0, none⟩) 1 1, .slice (some ⟨w9.heap.size, 0, none⟩) 1 1, .slice (some ⟨w10.heap.size, 0, none⟩) 1 1] 45)).alloc
    (.cells #[.int .i64 5, .string ⟨#[]⟩, .int .i64 0, .int .i64 0, .int .i64 0, .slice (some ⟨w7.heap.size, 0, none⟩) 1 1, .slice (some ⟨w10.heap.size + 1, 0, none⟩) 3 3] 33) := ⟨_, rfl⟩
  have x10 : Ext w7 w10 := (((Ext.refl w7).alloc _).trans HX8.out).trans ((((Ext.refl _).alloc _).trans HX9.out).trans (((Ext.refl _).alloc _).trans HX10.out))
  have hb11 : Blk w11 (w10.heap.size + 1 + 1) 33 #[.int .i64 5, .string ⟨#[]⟩, .int .i64 0, .int .i64 0, .int .i64 0, .slice (some ⟨w7.heap.size, 0, none⟩) 1 1, .slice (some ⟨w10.heap.size + 1, 0, none⟩) 3 3] := by rw [hw11]; exact blk_at _ _ _ (by simp)
  have hm11 : RV w11 (fun _ => True) 1 nV (some ⟨w7.heap.size, 0, none⟩) (some ⟨w10.heap.size + 1, 0, none⟩) := by
    rw [hw11]
    exact (nV_mem (S := fun _ => True) (v := w10) ((((Blk.new w7 9 #[.string sN]).keep (HX8.out.kept _)).keep ((((Ext.refl _).alloc _).trans HX9.out).kept _)).keep ((((Ext.refl _).alloc _).trans HX10.out).kept _))
      (((Blk.new w8 33 (rowC [numV 3 0])).keep (HX9.out.kept _)).keep ((((Ext.refl _).alloc _).trans HX10.out).kept _)) ((Blk.new w9 33 (rowC [numV (-5) 0])).keep (HX10.out.kept _)) trivial trivial trivial trivial trivial).keep (Kept.alloc _ _ _)
  have hx11 : Ext w7 w11 := by rw [hw11]; exact ((x10.alloc _).alloc _).alloc _
  rw [← hw11]
  clear hw11 x10 HX8 HX9 HX10 hs8 hs9 hs10
  have s0 := hx11.cell t0
  have s1 := hx11.cell t1
  have s2 := hx11.cell t2
  have HX11 := Lib.hid (HX7.out.trans hx11)
  have HB5 := Lib.hid (HB4.out.keep (hx11.kept _))
  have HRL11 := Lib.hid (HRL7.out.keep (hx11.kept _))
  have HRK11 := Lib.hid (HRK7.out.keep (hx11.kept _))
  have HRD11 := Lib.hid (HRD7.out.keep (hx11.kept _))
  have HS11 := Lib.hid (HS7.out.keep (hx11.kept _))
  have HN11 := Lib.hid hm11
  have HNB := Lib.hid hb11
  have n0 := hb11.cell (i := 0) rfl
  have n1 := hb11.cell (i := 1) rfl
  have n2 := hb11.cell (i := 2) rfl
  have n3 := hb11.cell (i := 3) rfl
  have n4 := hb11.cell (i := 4) rfl
  have n5 := hb11.cell (i := 5) rfl
  have n6 := hb11.cell (i := 6) rfl
  clear hx11 hb11 hm11 HX7 HB4 HRL7 HRK7 HRD7 HS7 t0 t1 t2
  go_wp2_with fail
  refine (table_Sum 1 nV sN (-2) 0 _ _ 1 3 _ (fun _ => True) HN11.out (by decide) (HT.out.ext HX11.out)).mono ?_
  rintro e12 w12 ⟨As, cs, Bs, es, he, -, -, hx12⟩
  rw [san_sum1] at he
  have he2 : e12 = .returned (.tuple #[(.agg #[.int .i64 twoV.kind, .string twoV.s, .int .i64 twoV.dn, .int .i64 twoV.ds, .int .i64 twoV.n, .slice As twoV.cols.length cs, .slice Bs twoV.rows.length es]), .int .i64 0]) := he
  clear he
  subst he2
  clear HNB
  have HX12 := Lib.hid (HX11.out.trans hx12)
  have c120 := hx12.cell s0
  have c121 := hx12.cell s1
  have c122 := hx12.cell s2
  have K120 := Lib.hid (HB5.out.keep (hx12.kept _))
  have K121 := Lib.hid (HRL11.out.keep (hx12.kept _))
  have K122 := Lib.hid (HRK11.out.keep (hx12.kept _))
  have K123 := Lib.hid (HRD11.out.keep (hx12.kept _))
  have K124 := Lib.hid (HS11.out.keep (hx12.kept _))
  have K125 := Lib.hid (HN11.out.keep (hx12.kept _))
  have n120 := hx12.cell n0
  have n121 := hx12.cell n1
  have n122 := hx12.cell n2
  have n123 := hx12.cell n3
  have n124 := hx12.cell n4
  have n125 := hx12.cell n5
  have n126 := hx12.cell n6
  clear hx12 HX11 HB5 HRL11 HRK11 HRD11 HS11 HN11 s0 s1 s2 n0 n1 n2 n3 n4 n5 n6
  go_upto_region 9 with fail
  obtain ⟨w13, hw13⟩ : ∃ w13, w13 = w12.alloc (.cells #[.int .i64 twoV.kind, .string twoV.s, .int .i64 twoV.dn, .int .i64 twoV.ds, .int .i64 twoV.n, .slice As twoV.cols.length cs, .slice Bs twoV.rows.length es] 33) := ⟨_, rfl⟩
  have hx13 : Ext w12 w13 := by rw [hw13]; exact (Ext.refl _).alloc _
  have HB13 := Lib.hid (show Blk w13 w12.heap.size 33 #[.int .i64 twoV.kind, .string twoV.s, .int .i64 twoV.dn, .int .i64 twoV.ds, .int .i64 twoV.n, .slice As twoV.cols.length cs, .slice Bs twoV.rows.length es] by rw [hw13]; exact Blk.new _ _ _)
  rw [← hw13]
  clear hw13
  have HX13 := Lib.hid (HX12.out.trans hx13)
  have c130 := hx13.cell c120
  have c131 := hx13.cell c121
  have c132 := hx13.cell c122
  have K130 := Lib.hid (K120.out.keep (hx13.kept _))
  have K131 := Lib.hid (K121.out.keep (hx13.kept _))
  have K132 := Lib.hid (K122.out.keep (hx13.kept _))
  have K133 := Lib.hid (K123.out.keep (hx13.kept _))
  have K134 := Lib.hid (K124.out.keep (hx13.kept _))
  have K135 := Lib.hid (K125.out.keep (hx13.kept _))
  have n130 := hx13.cell n120
  have n131 := hx13.cell n121
  have n132 := hx13.cell n122
  have n133 := hx13.cell n123
  have n134 := hx13.cell n124
  have n135 := hx13.cell n125
  have n136 := hx13.cell n126
  clear hx13 HX12 K120 K121 K122 K123 K124 K125 c120 c121 c122 n120 n121 n122 n123 n124 n125 n126
  go_wp2_with fail
  refine (table_Sum 1 nV sN 0 0 _ _ 1 3 _ (fun _ => True) K135.out (by decide) (HT.out.ext HX13.out)).mono ?_
  rintro e14 w14 ⟨As', cs', Bs', es', he, -, -, hx14⟩
  rw [san_sum2] at he
  have he2 : e14 = .returned (.tuple #[(.agg #[.int .i64 Val.zero.kind, .string Val.zero.s, .int .i64 Val.zero.dn, .int .i64 Val.zero.ds, .int .i64 Val.zero.n, .slice As' Val.zero.cols.length cs', .slice Bs' Val.zero.rows.length es']), .int .i64 20]) := he
  clear he
  subst he2
  have HB14 := Lib.hid (HB13.out.keep (hx14.kept _))
  clear HB13
  have HX14 := Lib.hid (HX13.out.trans hx14)
  have c140 := hx14.cell c130
  have c141 := hx14.cell c131
  have c142 := hx14.cell c132
  have K140 := Lib.hid (K130.out.keep (hx14.kept _))
  have K141 := Lib.hid (K131.out.keep (hx14.kept _))
  have K142 := Lib.hid (K132.out.keep (hx14.kept _))
  have K143 := Lib.hid (K133.out.keep (hx14.kept _))
  have K144 := Lib.hid (K134.out.keep (hx14.kept _))
  have K145 := Lib.hid (K135.out.keep (hx14.kept _))
  have n140 := hx14.cell n130
  have n141 := hx14.cell n131
  have n142 := hx14.cell n132
  have n143 := hx14.cell n133
  have n144 := hx14.cell n134
  have n145 := hx14.cell n135
  have n146 := hx14.cell n136
  clear hx14 HX13 K130 K131 K132 K133 K134 K135 c130 c131 c132 n130 n131 n132 n133 n134 n135 n136
  clear n140 n141 n142 n143 n144 n145 n146
  go_upto_region 10 with fail
  obtain ⟨w15, hw15⟩ : ∃ w15, w15 = w14.alloc (.cells #[.int .i64 Val.zero.kind, .string Val.zero.s, .int .i64 Val.zero.dn, .int .i64 Val.zero.ds, .int .i64 Val.zero.n, .slice As' Val.zero.cols.length cs', .slice Bs' Val.zero.rows.length es'] 33) := ⟨_, rfl⟩
  have hx15 : Ext w14 w15 := by rw [hw15]; exact (Ext.refl _).alloc _
  rw [← hw15]
  clear hw15
  have HB15 := Lib.hid (HB14.out.keep (hx15.kept _))
  clear HB14
  have HX15 := Lib.hid (HX14.out.trans hx15)
  have c150 := hx15.cell c140
  have c151 := hx15.cell c141
  have c152 := hx15.cell c142
  have K150 := Lib.hid (K140.out.keep (hx15.kept _))
  have K151 := Lib.hid (K141.out.keep (hx15.kept _))
  have K152 := Lib.hid (K142.out.keep (hx15.kept _))
  have K153 := Lib.hid (K143.out.keep (hx15.kept _))
  have K154 := Lib.hid (K144.out.keep (hx15.kept _))
  have K155 := Lib.hid (K145.out.keep (hx15.kept _))
  clear hx15 HX14 K140 K141 K142 K143 K144 K145 c140 c141 c142
  go_wp2_with fail
  refine (table_Holds 1 citiesT.cols citiesT.rows [sCountry] sZip A B _ c e 1 _ (Fresh w) (Fresh w) (fun _ => True) (K151.out.2.1.keep (Kept.alloc _ _ _)) (K151.out.2.2.keep (Kept.alloc _ _ _)) (Strs.one (Blk.new w15 9 #[.string sCountry]) (by decide) trivial)).mono ?_
  rintro e16 w16 ⟨he, hx16'⟩
  rw [san_hold1] at he
  subst he
  have hx16 := ((Ext.refl w15).alloc _).trans hx16'
  clear hx16'
  have HB16 := Lib.hid (HB15.out.keep (hx16.kept _))
  clear HB15
  have HX16 := Lib.hid (HX15.out.trans hx16)
  have c160 := hx16.cell c150
  have c161 := hx16.cell c151
  have c162 := hx16.cell c152
  have K160 := Lib.hid (K150.out.keep (hx16.kept _))
  have K161 := Lib.hid (K151.out.keep (hx16.kept _))
  have K162 := Lib.hid (K152.out.keep (hx16.kept _))
  have K163 := Lib.hid (K153.out.keep (hx16.kept _))
  have K164 := Lib.hid (K154.out.keep (hx16.kept _))
  have K165 := Lib.hid (K155.out.keep (hx16.kept _))
  clear hx16 HX15 K150 K151 K152 K153 K154 K155 c150 c151 c152
  go_wp2_with fail
  refine (table_Holds 1 citiesT.cols citiesT.rows [sCity] sCountry A B _ c e 1 _ (Fresh w) (Fresh w) (fun _ => True) (K161.out.2.1.keep (Kept.alloc _ _ _)) (K161.out.2.2.keep (Kept.alloc _ _ _)) (Strs.one (Blk.new w16 9 #[.string sCity]) (by decide) trivial)).mono ?_
  rintro e17 w17 ⟨he, hx17'⟩
  rw [san_hold2] at he
  subst he
  have hx17 := ((Ext.refl w16).alloc _).trans hx17'
  clear hx17'
  have HB17 := Lib.hid (HB16.out.keep (hx17.kept _))
  clear HB16
  have HX17 := Lib.hid (HX16.out.trans hx17)
  have c170 := hx17.cell c160
  have c171 := hx17.cell c161
  have c172 := hx17.cell c162
  have K170 := Lib.hid (K160.out.keep (hx17.kept _))
  have K171 := Lib.hid (K161.out.keep (hx17.kept _))
  have K172 := Lib.hid (K162.out.keep (hx17.kept _))
  have K173 := Lib.hid (K163.out.keep (hx17.kept _))
  have K174 := Lib.hid (K164.out.keep (hx17.kept _))
  have K175 := Lib.hid (K165.out.keep (hx17.kept _))
  clear hx17 HX16 K160 K161 K162 K163 K164 K165 c160 c161 c162
  go_upto_region 11 with fail
  refine wp_region_lin_lit (by kernel_rfl) dSan (by kernel_rfl) LR LR.refl LR.trans (LN al0) (gSan A c B e Av cv Bv ev Ak ck w5 A7 c7 As cs Bs es) (gSan_st _ _ _ _ _ _ _ _ _ _ _ _ _ _ _ _ _) gh0 (LN.zero _) ⟨?_, ?_, ?_, ?_, ?_, ?_, ?_, ?_, ?_, ?_, ?_, ?_, ?_, ?_, ?_, ?_, ?_, ?_, ?_, ?_, ?_, ?_, ?_, ?_, ?_, ?_, ?_, ?_, ?_, ?_, ?_, ?_, ?_, ?_, ?_, ?_, ?_, ?_, ?_, ?_, ?_, ?_, trivial⟩ ?_
  · refine LinStep.yes fun vals γ w' ρ hR hN hp hρ hc hf hg => ⟨rfl, ?_⟩
    have hx := hR.drew_ext
    have c0 := hx.cell c170
    have c1 := hx.cell c171
    have c2 := hx.cell c172
    have e1 : ρ (.tmp 1) = .pointer (some ⟨w1.heap.size, 0, none⟩) := hρ 1
    clear hx
    have HR := Lib.hid hR
    clear hR hN hp hρ c170 c171 c172
    go_light
    go_simp
    exact ⟨γ, LR.refl _ _, fun _ _ _ h => h, rfl⟩
  · refine LinStep.yes fun vals γ w' ρ hR hN hp hρ hc hf hg => ⟨rfl, ?_⟩
    have e87 : ρ (.tmp 87) = (.agg #[.string citiesT.name, .slice A citiesT.cols.length c, .slice B citiesT.rows.length e]) := (hρ 87).trans (hp 0 (by decide))
    have HR := Lib.hid hR
    clear hR hN hp hρ c170 c171 c172
    go_light
    go_simp
    refine (table_Right 1 citiesT A B c e _ (Fresh w) (K171.out.keep (HR.out.drew_ext.kept _)) HCP1.out).mono ?_
    rintro e' w3 ⟨he, hx⟩
    rw [san_right] at he
    exact ⟨_, he, γ, LR.of_ext γ hx, fun _ _ _ h => h, rfl⟩
  · refine LinStep.yes fun vals γ w' ρ hR hN hp hρ hc hf hg => ⟨rfl, ?_⟩
    have e88 : ρ (.tmp 88) = .bool true := (hρ 88).trans (hp 1 (by decide))
    have HR := Lib.hid hR
    clear hR hN hp hρ c170 c171 c172
    go_light
    go_simp
    exact ⟨γ, LR.refl _ _, fun _ _ _ h => h, rfl⟩
  · refine LinStep.yes fun vals γ w' ρ hR hN hp hρ hc hf hg => ⟨by show (boolOf (vals 2) == some true) = true; rw [show vals 2 = .bool true from hp 2 (by decide)]; rfl, ?_⟩
    have e3 : ρ (.tmp 3) = .int .i64 0 := hρ 3
    have HR := Lib.hid hR
    clear hR hN hp hρ c170 c171 c172
    go_light
    go_simp
    exact ⟨γ, LR.refl _ _, fun _ _ _ h => h, rfl⟩
  · refine LinStep.yes fun vals γ w' ρ hR hN hp hρ hc hf hg => ⟨by show (boolOf (vals 2) == some true) = true; rw [show vals 2 = .bool true from hp 2 (by decide)]; rfl, ?_⟩
    have e90 : ρ (.tmp 90) = .int .i64 0 := (hρ 90).trans (hp 3 (by decide))
    have HR := Lib.hid hR
    clear hR hN hp hρ c170 c171 c172
    go_light
    go_simp
    exact ⟨γ, LR.refl _ _, fun _ _ _ h => h, rfl⟩
  · refine LinStep.yes fun vals γ w' ρ hR hN hp hρ hc hf hg => ⟨rfl, ?_⟩
    have e89 : ρ (.tmp 89) = .bool true := (hρ 89).trans (hp 2 (by decide))
    have e91 : ρ (.tmp 91) = .bool true := (hρ 91).trans (hp 4 (by decide))
    have HR := Lib.hid hR
    clear hR hN hp hρ c170 c171 c172
    go_light
    go_simp
    exact ⟨γ, LR.refl _ _, fun _ _ _ h => h, rfl⟩
  · refine LinStep.yes fun vals γ w' ρ hR hN hp hρ hc hf hg => ⟨rfl, ?_⟩
    have e92 : ρ (.tmp 92) = .bool true := (hρ 92).trans (hp 5 (by decide))
    have HR := Lib.hid hR
    clear hR hN hp hρ c170 c171 c172
    go_light
    go_simp
    exact ⟨γ, LR.refl _ _, fun _ _ _ h => h, rfl⟩
  · refine LinStep.yes fun vals γ w' ρ hR hN hp hρ hc hf hg => ⟨by show (boolOf (vals 6) == some true) = true; rw [show vals 6 = .bool true from hp 6 (by decide)]; rfl, ?_⟩
    have e2 : ρ (.tmp 2) = .pointer (some ⟨g1, 0, none⟩) := hρ 2
    have hb := (K170.out).keep (hR.drew_ext.kept _)
    have k0 := hb.cell (i := 0) rfl
    have k1 := hb.cell (i := 1) rfl
    have k2 := hb.cell (i := 2) rfl
    have k3 := hb.cell (i := 3) rfl
    have k4 := hb.cell (i := 4) rfl
    have k5 := hb.cell (i := 5) rfl
    have k6 := hb.cell (i := 6) rfl
    clear hb
    have HR := Lib.hid hR
    clear hR hN hp hρ c170 c171 c172
    go_light
    go_simp
    exact ⟨γ, LR.refl _ _, fun _ _ _ h => h, rfl⟩
  · refine LinStep.yes fun vals γ w' ρ hR hN hp hρ hc hf hg => ⟨by show (boolOf (vals 6) == some true) = true; rw [show vals 6 = .bool true from hp 6 (by decide)]; rfl, ?_⟩
    have HR := Lib.hid hR
    clear hR hN hp hρ c170 c171 c172
    go_light
    go_simp
    exact (law_text _ _).mono fun e' w3 ⟨he, hx⟩ => ⟨_, he, γ, LR.of_ext γ hx, fun _ _ _ h => h, rfl⟩
  · refine LinStep.yes fun vals γ w' ρ hR hN hp hρ hc hf hg => ⟨by show (boolOf (vals 6) == some true) = true; rw [show vals 6 = .bool true from hp 6 (by decide)]; rfl, ?_⟩
    have e94 : ρ (.tmp 94) = (.agg #[.int .i64 noV.kind, .string noV.s, .int .i64 noV.dn, .int .i64 noV.ds, .int .i64 noV.n, .slice Av noV.cols.length cv, .slice Bv noV.rows.length ev]) := (hρ 94).trans (hp 7 (by decide))
    have e95 : ρ (.tmp 95) = (.agg #[.int .i64 noV.kind, .string noV.s, .int .i64 noV.dn, .int .i64 noV.ds, .int .i64 noV.n, .slice none noV.cols.length 0, .slice none noV.rows.length 0]) := (hρ 95).trans (hp 8 (by decide))
    have HR := Lib.hid hR
    clear hR hN hp hρ c170 c171 c172
    go_light
    go_simp
    refine (r06_Equal 1 noV noV Av Bv none none cv ev 0 0 _ (Fresh w) (Fresh w) (RV.flat (flat_text _ (by decide))) (RV.flat (flat_text _ (by decide)))).mono ?_
    rintro e' w3 ⟨he, hx⟩
    rw [decide_eq_true rfl] at he
    exact ⟨_, he, γ, LR.of_ext γ hx, fun _ _ _ h => h, rfl⟩
  · refine LinStep.yes fun vals γ w' ρ hR hN hp hρ hc hf hg => ⟨rfl, ?_⟩
    have e93 : ρ (.tmp 93) = .bool true := (hρ 93).trans (hp 6 (by decide))
    have e96 : ρ (.tmp 96) = .bool true := (hρ 96).trans (hp 9 (by decide))
    have HR := Lib.hid hR
    clear hR hN hp hρ c170 c171 c172
    go_light
    go_simp
    exact ⟨γ, LR.refl _ _, fun _ _ _ h => h, rfl⟩
  · refine LinStep.yes fun vals γ w' ρ hR hN hp hρ hc hf hg => ⟨rfl, ?_⟩
    have e97 : ρ (.tmp 97) = .bool true := (hρ 97).trans (hp 10 (by decide))
    have HR := Lib.hid hR
    clear hR hN hp hρ c170 c171 c172
    go_light
    go_simp
    exact ⟨γ, LR.refl _ _, fun _ _ _ h => h, rfl⟩
  · refine LinStep.yes fun vals γ w' ρ hR hN hp hρ hc hf hg => ⟨by show (boolOf (vals 11) == some true) = true; rw [show vals 11 = .bool true from hp 11 (by decide)]; rfl, ?_⟩
    have e5 : ρ (.tmp 5) = .int .i64 18 := hρ 5
    have HR := Lib.hid hR
    clear hR hN hp hρ c170 c171 c172
    go_light
    go_simp
    exact ⟨γ, LR.refl _ _, fun _ _ _ h => h, rfl⟩
  · refine LinStep.yes fun vals γ w' ρ hR hN hp hρ hc hf hg => ⟨by show (boolOf (vals 11) == some true) = true; rw [show vals 11 = .bool true from hp 11 (by decide)]; rfl, ?_⟩
    have e99 : ρ (.tmp 99) = .int .i64 18 := (hρ 99).trans (hp 12 (by decide))
    have HR := Lib.hid hR
    clear hR hN hp hρ c170 c171 c172
    go_light
    go_simp
    exact ⟨γ, LR.refl _ _, fun _ _ _ h => h, rfl⟩
  · refine LinStep.yes fun vals γ w' ρ hR hN hp hρ hc hf hg => ⟨rfl, ?_⟩
    have e98 : ρ (.tmp 98) = .bool true := (hρ 98).trans (hp 11 (by decide))
    have e100 : ρ (.tmp 100) = .bool true := (hρ 100).trans (hp 13 (by decide))
    have HR := Lib.hid hR
    clear hR hN hp hρ c170 c171 c172
    go_light
    go_simp
    exact ⟨γ, LR.refl _ _, fun _ _ _ h => h, rfl⟩
  · refine LinStep.yes fun vals γ w' ρ hR hN hp hρ hc hf hg => ⟨rfl, ?_⟩
    have e101 : ρ (.tmp 101) = .bool true := (hρ 101).trans (hp 14 (by decide))
    have HR := Lib.hid hR
    clear hR hN hp hρ c170 c171 c172
    go_light
    go_simp
    exact ⟨γ, LR.refl _ _, fun _ _ _ h => h, rfl⟩
  · refine LinStep.yes fun vals γ w' ρ hR hN hp hρ hc hf hg => ⟨by show (boolOf (vals 15) == some true) = true; rw [show vals 15 = .bool true from hp 15 (by decide)]; rfl, ?_⟩
    have e6 : ρ (.tmp 6) = .slice Ak wantD.length ck := hρ 6
    have HR := Lib.hid hR
    clear hR hN hp hρ c170 c171 c172
    go_light
    go_simp
    exact ⟨γ, LR.refl _ _, fun _ _ _ h => h, rfl⟩
  · refine LinStep.yes fun vals γ w' ρ hR hN hp hρ hc hf hg => ⟨by show (boolOf (vals 15) == some true) = true; rw [show vals 15 = .bool true from hp 15 (by decide)]; rfl, ?_⟩
    have e7 : ρ (.tmp 7) = .slice (some ⟨w5.heap.size + 1 + 1 + 1 + 1, 0, none⟩) 4 4 := hρ 7
    have HR := Lib.hid hR
    clear hR hN hp hρ c170 c171 c172
    go_light
    go_simp
    exact ⟨γ, LR.refl _ _, fun _ _ _ h => h, rfl⟩
  · refine LinStep.yes fun vals γ w' ρ hR hN hp hρ hc hf hg => ⟨by show (boolOf (vals 15) == some true) = true; rw [show vals 15 = .bool true from hp 15 (by decide)]; rfl, ?_⟩
    have e103 : ρ (.tmp 103) = .slice Ak wantD.length ck := (hρ 103).trans (hp 16 (by decide))
    have e104 : ρ (.tmp 104) = .slice (some ⟨w5.heap.size + 1 + 1 + 1 + 1, 0, none⟩) 4 4 := (hρ 104).trans (hp 17 (by decide))
    have HR := Lib.hid hR
    clear hR hN hp hρ c170 c171 c172
    go_light
    go_simp
    refine (r09_Deps wantD Ak _ ck 4 _ _ _ (K172.out.keep (HR.out.drew_ext.kept _)) (K173.out.keep (HR.out.drew_ext.kept _))).mono ?_
    rintro e' w3 ⟨he, n, rfl⟩
    exact ⟨_, he, γ, LR.of_ext γ ((Ext.refl _).drewN n), fun _ _ _ h => h, rfl⟩
  · refine LinStep.yes fun vals γ w' ρ hR hN hp hρ hc hf hg => ⟨rfl, ?_⟩
    have e102 : ρ (.tmp 102) = .bool true := (hρ 102).trans (hp 15 (by decide))
    have e105 : ρ (.tmp 105) = .bool true := (hρ 105).trans (hp 18 (by decide))
    have HR := Lib.hid hR
    clear hR hN hp hρ c170 c171 c172
    go_light
    go_simp
    exact ⟨γ, LR.refl _ _, fun _ _ _ h => h, rfl⟩
  · refine LinStep.yes fun vals γ w' ρ hR hN hp hρ hc hf hg => ⟨rfl, ?_⟩
    have e106 : ρ (.tmp 106) = .bool true := (hρ 106).trans (hp 19 (by decide))
    have HR := Lib.hid hR
    clear hR hN hp hρ c170 c171 c172
    go_light
    go_simp
    exact ⟨γ, LR.refl _ _, fun _ _ _ h => h, rfl⟩
  · refine LinStep.yes fun vals γ w' ρ hR hN hp hρ hc hf hg => ⟨by show (boolOf (vals 20) == some true) = true; rw [show vals 20 = .bool true from hp 20 (by decide)]; rfl, ?_⟩
    have e14 : ρ (.tmp 14) = .bool true := hρ 14
    have HR := Lib.hid hR
    clear hR hN hp hρ c170 c171 c172
    go_light
    go_simp
    exact ⟨γ, LR.refl _ _, fun _ _ _ h => h, rfl⟩
  · refine LinStep.yes fun vals γ w' ρ hR hN hp hρ hc hf hg => ⟨rfl, ?_⟩
    have e107 : ρ (.tmp 107) = .bool true := (hρ 107).trans (hp 20 (by decide))
    have e108 : ρ (.tmp 108) = .bool true := (hρ 108).trans (hp 21 (by decide))
    have HR := Lib.hid hR
    clear hR hN hp hρ c170 c171 c172
    go_light
    go_simp
    exact ⟨γ, LR.refl _ _, fun _ _ _ h => h, rfl⟩
  · refine LinStep.yes fun vals γ w' ρ hR hN hp hρ hc hf hg => ⟨rfl, ?_⟩
    have e109 : ρ (.tmp 109) = .bool true := (hρ 109).trans (hp 22 (by decide))
    have HR := Lib.hid hR
    clear hR hN hp hρ c170 c171 c172
    go_light
    go_simp
    exact ⟨γ, LR.refl _ _, fun _ _ _ h => h, rfl⟩
  · refine LinStep.yes fun vals γ w' ρ hR hN hp hρ hc hf hg => ⟨by show (boolOf (vals 23) == some true) = true; rw [show vals 23 = .bool true from hp 23 (by decide)]; rfl, ?_⟩
    have e8 : ρ (.tmp 8) = .slice A7 3 c7 := hρ 8
    have HR := Lib.hid hR
    clear hR hN hp hρ c170 c171 c172
    go_light
    go_simp
    exact ⟨γ, LR.refl _ _, fun _ _ _ h => h, rfl⟩
  · refine LinStep.yes fun vals γ w' ρ hR hN hp hρ hc hf hg => ⟨by show (boolOf (vals 23) == some true) = true; rw [show vals 23 = .bool true from hp 23 (by decide)]; rfl, ?_⟩
    have HR := Lib.hid hR
    clear hR hN hp hρ c170 c171 c172
    go_light
    go_simp
    refine ⟨γ, LR.of_ext γ ((Ext.refl _).alloc _), fun _ _ _ h => h, _, rfl, ?_⟩
    refine (Strs.of_blk (Blk.new w' 9 #[.string sA, .string sB, .string sC]) rfl (by decide) (by decide)).mono fun b _ hb => ?_
    rintro ⟨k, hk⟩
    have := HR.out.inb0 k b hk
    omega
  · refine LinStep.yes fun vals γ w' ρ hR hN hp hρ hc hf hg => ⟨by show (boolOf (vals 23) == some true) = true; rw [show vals 23 = .bool true from hp 23 (by decide)]; rfl, ?_⟩
    have e111 : ρ (.tmp 111) = .slice A7 3 c7 := (hρ 111).trans (hp 24 (by decide))
    obtain ⟨gb, hv25, hs25⟩ := hp 25 (by decide)
    have e112 : ρ (.tmp 112) = _ := (hρ 112).trans hv25
    have HS25 := Lib.hid hs25
    clear hv25 hs25
    have HR := Lib.hid hR
    clear hR hN hp hρ c170 c171 c172
    go_light
    go_simp
    refine (r06_StringsSame A7 _ c7 3 [sA, sB, sC] _ _ _ (K174.out.keep (HR.out.drew_ext.kept _)) HS25.out).mono ?_
    rintro e' w3 ⟨he, n, rfl⟩
    exact ⟨_, he, γ, LR.of_ext γ ((Ext.refl _).drewN n), fun _ _ _ h => h, rfl⟩
  · refine LinStep.yes fun vals γ w' ρ hR hN hp hρ hc hf hg => ⟨rfl, ?_⟩
    have e110 : ρ (.tmp 110) = .bool true := (hρ 110).trans (hp 23 (by decide))
    have e113 : ρ (.tmp 113) = .bool true := (hρ 113).trans (hp 26 (by decide))
    have HR := Lib.hid hR
    clear hR hN hp hρ c170 c171 c172
    go_light
    go_simp
    exact ⟨γ, LR.refl _ _, fun _ _ _ h => h, rfl⟩
  · refine LinStep.yes fun vals γ w' ρ hR hN hp hρ hc hf hg => ⟨rfl, ?_⟩
    have e114 : ρ (.tmp 114) = .bool true := (hρ 114).trans (hp 27 (by decide))
    have HR := Lib.hid hR
    clear hR hN hp hρ c170 c171 c172
    go_light
    go_simp
    exact ⟨γ, LR.refl _ _, fun _ _ _ h => h, rfl⟩
  · refine LinStep.yes fun vals γ w' ρ hR hN hp hρ hc hf hg => ⟨by show (boolOf (vals 28) == some true) = true; rw [show vals 28 = .bool true from hp 28 (by decide)]; rfl, ?_⟩
    have e11 : ρ (.tmp 11) = .int .i64 0 := hρ 11
    have HR := Lib.hid hR
    clear hR hN hp hρ c170 c171 c172
    go_light
    go_simp
    exact ⟨γ, LR.refl _ _, fun _ _ _ h => h, rfl⟩
  · refine LinStep.yes fun vals γ w' ρ hR hN hp hρ hc hf hg => ⟨by show (boolOf (vals 28) == some true) = true; rw [show vals 28 = .bool true from hp 28 (by decide)]; rfl, ?_⟩
    have e116 : ρ (.tmp 116) = .int .i64 0 := (hρ 116).trans (hp 29 (by decide))
    have HR := Lib.hid hR
    clear hR hN hp hρ c170 c171 c172
    go_light
    go_simp
    exact ⟨γ, LR.refl _ _, fun _ _ _ h => h, rfl⟩
  · refine LinStep.yes fun vals γ w' ρ hR hN hp hρ hc hf hg => ⟨rfl, ?_⟩
    have e115 : ρ (.tmp 115) = .bool true := (hρ 115).trans (hp 28 (by decide))
    have e117 : ρ (.tmp 117) = .bool true := (hρ 117).trans (hp 30 (by decide))
    have HR := Lib.hid hR
    clear hR hN hp hρ c170 c171 c172
    go_light
    go_simp
    exact ⟨γ, LR.refl _ _, fun _ _ _ h => h, rfl⟩
  · refine LinStep.yes fun vals γ w' ρ hR hN hp hρ hc hf hg => ⟨rfl, ?_⟩
    have e118 : ρ (.tmp 118) = .bool true := (hρ 118).trans (hp 31 (by decide))
    have HR := Lib.hid hR
    clear hR hN hp hρ c170 c171 c172
    go_light
    go_simp
    exact ⟨γ, LR.refl _ _, fun _ _ _ h => h, rfl⟩
  · refine LinStep.yes fun vals γ w' ρ hR hN hp hρ hc hf hg => ⟨by show (boolOf (vals 32) == some true) = true; rw [show vals 32 = .bool true from hp 32 (by decide)]; rfl, ?_⟩
    have e10 : ρ (.tmp 10) = .pointer (some ⟨w12.heap.size, 0, none⟩) := hρ 10
    have hb := (HB17.out).keep (hR.drew_ext.kept _)
    have k0 := hb.cell (i := 0) rfl
    have k1 := hb.cell (i := 1) rfl
    have k2 := hb.cell (i := 2) rfl
    have k3 := hb.cell (i := 3) rfl
    have k4 := hb.cell (i := 4) rfl
    have k5 := hb.cell (i := 5) rfl
    have k6 := hb.cell (i := 6) rfl
    clear hb
    have HR := Lib.hid hR
    clear hR hN hp hρ c170 c171 c172
    go_light
    go_simp
    exact ⟨γ, LR.refl _ _, fun _ _ _ h => h, rfl⟩
  · refine LinStep.yes fun vals γ w' ρ hR hN hp hρ hc hf hg => ⟨by show (boolOf (vals 32) == some true) = true; rw [show vals 32 = .bool true from hp 32 (by decide)]; rfl, ?_⟩
    have HR := Lib.hid hR
    clear hR hN hp hρ c170 c171 c172
    go_light
    go_simp
    exact (law_number _ _).mono fun e' w3 ⟨he, hx⟩ => ⟨_, he, γ, LR.of_ext γ hx, fun _ _ _ h => h, rfl⟩
  · refine LinStep.yes fun vals γ w' ρ hR hN hp hρ hc hf hg => ⟨by show (boolOf (vals 32) == some true) = true; rw [show vals 32 = .bool true from hp 32 (by decide)]; rfl, ?_⟩
    have e120 : ρ (.tmp 120) = (.agg #[.int .i64 twoV.kind, .string twoV.s, .int .i64 twoV.dn, .int .i64 twoV.ds, .int .i64 twoV.n, .slice As twoV.cols.length cs, .slice Bs twoV.rows.length es]) := (hρ 120).trans (hp 33 (by decide))
    have e121 : ρ (.tmp 121) = (.agg #[.int .i64 twoV.kind, .string twoV.s, .int .i64 twoV.dn, .int .i64 twoV.ds, .int .i64 twoV.n, .slice none twoV.cols.length 0, .slice none twoV.rows.length 0]) := (hρ 121).trans (hp 34 (by decide))
    have HR := Lib.hid hR
    clear hR hN hp hρ c170 c171 c172
    go_light
    go_simp
    refine (r06_Equal 1 twoV twoV As Bs none none cs es 0 0 _ (Fresh w) (Fresh w) (RV.flat (flat_num _ _)) (RV.flat (flat_num _ _))).mono ?_
    rintro e' w3 ⟨he, hx⟩
    rw [decide_eq_true rfl] at he
    exact ⟨_, he, γ, LR.of_ext γ hx, fun _ _ _ h => h, rfl⟩
  · refine LinStep.yes fun vals γ w' ρ hR hN hp hρ hc hf hg => ⟨rfl, ?_⟩
    have e119 : ρ (.tmp 119) = .bool true := (hρ 119).trans (hp 32 (by decide))
    have e122 : ρ (.tmp 122) = .bool true := (hρ 122).trans (hp 35 (by decide))
    have HR := Lib.hid hR
    clear hR hN hp hρ c170 c171 c172
    go_light
    go_simp
    exact ⟨γ, LR.refl _ _, fun _ _ _ h => h, rfl⟩
  · refine LinStep.yes fun vals γ w' ρ hR hN hp hρ hc hf hg => ⟨rfl, ?_⟩
    have e123 : ρ (.tmp 123) = .bool true := (hρ 123).trans (hp 36 (by decide))
    have HR := Lib.hid hR
    clear hR hN hp hρ c170 c171 c172
    go_light
    go_simp
    exact ⟨γ, LR.refl _ _, fun _ _ _ h => h, rfl⟩
  · refine LinStep.yes fun vals γ w' ρ hR hN hp hρ hc hf hg => ⟨by show (boolOf (vals 37) == some true) = true; rw [show vals 37 = .bool true from hp 37 (by decide)]; rfl, ?_⟩
    have e13 : ρ (.tmp 13) = .int .i64 20 := hρ 13
    have HR := Lib.hid hR
    clear hR hN hp hρ c170 c171 c172
    go_light
    go_simp
    exact ⟨γ, LR.refl _ _, fun _ _ _ h => h, rfl⟩
  · refine LinStep.yes fun vals γ w' ρ hR hN hp hρ hc hf hg => ⟨by show (boolOf (vals 37) == some true) = true; rw [show vals 37 = .bool true from hp 37 (by decide)]; rfl, ?_⟩
    have e125 : ρ (.tmp 125) = .int .i64 20 := (hρ 125).trans (hp 38 (by decide))
    have HR := Lib.hid hR
    clear hR hN hp hρ c170 c171 c172
    go_light
    go_simp
    exact ⟨γ, LR.refl _ _, fun _ _ _ h => h, rfl⟩
  · refine LinStep.yes fun vals γ w' ρ hR hN hp hρ hc hf hg => ⟨rfl, ?_⟩
    have e124 : ρ (.tmp 124) = .bool true := (hρ 124).trans (hp 37 (by decide))
    have e126 : ρ (.tmp 126) = .bool true := (hρ 126).trans (hp 39 (by decide))
    have HR := Lib.hid hR
    clear hR hN hp hρ c170 c171 c172
    go_light
    go_simp
    exact ⟨γ, LR.refl _ _, fun _ _ _ h => h, rfl⟩
  · refine LinStep.yes fun vals γ w' ρ hR hN hp hρ hc hf hg => ⟨rfl, ?_⟩
    have e127 : ρ (.tmp 127) = .bool true := (hρ 127).trans (hp 40 (by decide))
    have HR := Lib.hid hR
    clear hR hN hp hρ c170 c171 c172
    go_light
    go_simp
    exact ⟨γ, LR.refl _ _, fun _ _ _ h => h, rfl⟩
  · intro vals γ w' hR hG
    have h41 : vals 41 = .bool true := hG 41 (by decide)
    have HX := Lib.hid (HX17.out.trans hR.drew_ext)
    clear hR hG
    simp only [lexFrame, Act.put, List.setIfInBounds_toArray, List.set_cons_succ, List.set_cons_zero, Nat.zero_add, Nat.reduceAdd, h41]
    clear h41
    go_wp2
    go_ret
    exact ⟨rfl, HX.out⟩
end Go.Proofs.YtcmmkeiiapbgcaaGreatDoor
