/- The reference's plus: decimals as numbers of any size. Conditions: bounds on sizes. -/
import Derived.Test.YtcmmkeiiapbgcaaGreatDoorBm16
namespace Go.Proofs.YtcmmkeiiapbgcaaGreatDoor
open Go Go.RowKit

/-- A number of units with its sign. -/
def sv (neg : Bool) (n : Nat) : Int := if neg then -(n : Int) else n
def RetPl (w : World) (v : Int) (s : Nat) (e : Ending) (w' : World) : Prop := ∃ (neg : Bool) (r : ByteArray) (n : Nat), e = .returned (.agg #[.bool neg, .string r, .int .i64 (s : Int)]) ∧ isN r n ∧ sv neg n = v ∧ n < 256 ^ 50 ∧ Ext w w'
theorem wide_lt {n k : Nat} (hn : n < 256 ^ 20) (hk : k ≤ 6) : n * 10 ^ k < 256 ^ 40 := by
  have h1 : 10 ^ k ≤ 10 ^ 6 := Nat.pow_le_pow_right (by decide) hk
  have h2 : n * 10 ^ k ≤ 256 ^ 20 * 10 ^ 6 := Nat.mul_le_mul (by omega) h1
  exact Nat.lt_of_le_of_lt h2 (by decide)
/-- Two variables change their places. -/
theorem swap_mem {w w4 w6 : World} {gx gy g3 t : Nat} {u0 u1 u2 : Value} {p0 p1 p2 q0 q1 q2 : Value} {o : Obj} (hw : w6 = (((((((w4.setCell ⟨gx, 0, none⟩ q0).setCell ⟨gx, 1, none⟩ q1).setCell ⟨gx, 2, none⟩ q2).setCell ⟨gy, 0, none⟩ p0).setCell ⟨gy, 1, none⟩ p1).setCell ⟨gy, 2, none⟩ p2).alloc o))
    (hb : Blk w4 gx t #[u0, u1, u2]) (hx : Ext w w4) (hxy : gx ≠ gy) (hx3 : g3 ≠ gx) (h3y : g3 ≠ gy) (h1 : w.heap.size ≤ gx) (h2 : w.heap.size ≤ gy) : Kept (fun b => b = g3) w4 w6 ∧ Ext w w6 ∧ Blk w6 gx t #[q0, q1, q2] := by
  subst hw
  have st : ∀ (gg : Nat) {a b : World} {g i : Nat} {u : Value}, Kept (fun x => x = gg) a b → g ≠ gg → Kept (fun x => x = gg) a (b.setCell ⟨g, i, none⟩ u) := fun gg a b g i u h e => Kept.set2 (S := fun x => x = gg) h e
  refine ⟨?_, ?_, ?_⟩
  · refine Kept.trans ?_ (Kept.alloc _ _ _)
    exact st g3 (st g3 (st g3 (st g3 (st g3 (st g3 (Kept.refl _ _) hx3.symm) hx3.symm) hx3.symm) h3y.symm) h3y.symm) h3y.symm
  · exact (((((((hx.set2 h1 _).set2 h1 _).set2 h1 _).set2 h2 _).set2 h2 _).set2 h2 _).alloc _)
  · have h3 : Blk (((w4.setCell ⟨gx, 0, none⟩ q0).setCell ⟨gx, 1, none⟩ q1).setCell ⟨gx, 2, none⟩ q2) gx t #[q0, q1, q2] := ((hb.set 0 q0).set 1 q1).set 2 q2
    exact h3.keep ((st gx (st gx (st gx (Kept.refl _ _) hxy.symm) hxy.symm) hxy.symm).trans (Kept.alloc _ _ _))
set_option maxRecDepth 100000 in
set_option maxHeartbeats 4000000 in
theorem r04_plus (n1 n2 : Bool) (N1 N2 : ByteArray) (s1 s2 S : Nat) (h1 : N1.size ≤ 4294967296) (h2 : N2.size ≤ 4294967296) (hN1 : nval N1 < 256 ^ 20) (hN2 : nval N2 < 256 ^ 20) (hs1 : s1 ≤ 6) (hs2 : s2 ≤ 6) (hS : S = max s1 s2) (w : World) :
    Calls Tryz.prog 103 #[.agg #[.bool n1, .string N1, .int .i64 (s1 : Int)], .agg #[.bool n2, .string N2, .int .i64 (s2 : Int)]] w (RetPl w (sv n1 (nval N1 * 10 ^ (S - s1)) + sv n2 (nval N2 * 10 ^ (S - s2))) S) := by
  obtain ⟨w0, hw0⟩ : ∃ w0, w0 = ((w.alloc (.cells #[.bool n1, .string N1, .int .i64 (s1 : Int)] 120)).alloc (.cells #[.bool n2, .string N2, .int .i64 (s2 : Int)] 120)).alloc (.cells #[.bool false, .string ⟨#[]⟩, .int .i64 0] 120) := ⟨_, rfl⟩
  have hb1 : Blk w0 w.heap.size 120 #[.bool n1, .string N1, .int .i64 (s1 : Int)] := by rw [hw0]; exact ((Blk.new _ _ _).keep (Kept.alloc _ _ _)).keep (Kept.alloc _ _ _)
  have hb2 : Blk w0 (w.heap.size + 1) 120 #[.bool n2, .string N2, .int .i64 (s2 : Int)] := by
    rw [hw0]
    have := (Blk.new (w.alloc (.cells #[.bool n1, .string N1, .int .i64 (s1 : Int)] 120)) 120 #[.bool n2, .string N2, .int .i64 (s2 : Int)]).keep (Kept.alloc _ _ (.cells #[.bool false, .string ⟨#[]⟩, .int .i64 0] 120))
    simpa using this
  have hb3 : Blk w0 (w.heap.size + 1 + 1) 120 #[.bool false, .string ⟨#[]⟩, .int .i64 0] := by
    rw [hw0]
    have := Blk.new ((w.alloc (.cells #[.bool n1, .string N1, .int .i64 (s1 : Int)] 120)).alloc (.cells #[.bool n2, .string N2, .int .i64 (s2 : Int)] 120)) 120 #[.bool false, .string ⟨#[]⟩, .int .i64 0]
    simpa using this
  have hx0 : Ext w w0 := by rw [hw0]; exact (((Ext.refl w).alloc _).alloc _).alloc _
  obtain ⟨g1, hg1⟩ : ∃ g1, g1 = w.heap.size := ⟨_, rfl⟩
  obtain ⟨g2, hg2⟩ : ∃ g2, g2 = w.heap.size + 1 := ⟨_, rfl⟩
  obtain ⟨g3, hg3⟩ : ∃ g3, g3 = w.heap.size + 1 + 1 := ⟨_, rfl⟩
  have HW0 := Lib.hid hw0
  have HG1 := Lib.hid hg1
  have HG2 := Lib.hid hg2
  have HG3 := Lib.hid hg3
  have HGW : w.heap.size ≤ g3 := by omega
  rw [← hg1] at hb1
  rw [← hg2] at hb2
  rw [← hg3] at hb3
  have HC1 := Lib.hid hb1
  have HC2 := Lib.hid hb2
  have HC3 := Lib.hid hb3
  have HX0 := Lib.hid hx0
  have HS := Lib.hid (show max (s1 : Int) (s2 : Int) = (S : Int) by omega)
  have ha1 : s1 ≤ S := by omega
  have ha2 : s2 ≤ S := by omega
  have ha6 : S ≤ 6 := by omega
  have HM1 := Lib.hid (wide_lt hN1 (k := S - s1) (by omega))
  have HM2 := Lib.hid (wide_lt hN2 (k := S - s2) (by omega))
  obtain ⟨m1, hm1⟩ : ∃ m1, m1 = nval N1 * 10 ^ (S - s1) := ⟨_, rfl⟩
  obtain ⟨m2, hm2⟩ : ∃ m2, m2 = nval N2 * 10 ^ (S - s2) := ⟨_, rfl⟩
  rw [← hm1] at HM1 ⊢
  rw [← hm2] at HM2 ⊢
  have HE1 := Lib.hid hm1
  have HE2 := Lib.hid hm2
  have HP1 := Lib.hid (show nval N1 < 256 ^ 50 from Nat.lt_trans hN1 (Nat.pow_lt_pow_right (by decide) (by decide)))
  have HP2 := Lib.hid (show nval N2 < 256 ^ 50 from Nat.lt_trans hN2 (Nat.pow_lt_pow_right (by decide) (by decide)))
  clear hb1 hb2 hb3 hx0 hw0 hg1 hg2 hg3 hS hm1 hm2 hN1 hN2
  go_enter Tryz.func103, Tryz.ntmps103
  go_wp2_with fail
  rw [← HW0.out, ← HG3.out, ← HG2.out, ← HG1.out, HS.out]
  refine (r04_wider n1 N1 s1 S h1 HP1.out ha1 ha6 w0).mono ?_
  rintro e1 w1 ⟨r1, rfl, hr1, hx1⟩
  rw [← HE1.out] at hr1
  have HR1 := Lib.hid hr1
  obtain ⟨w2, hw2⟩ : ∃ w2, w2 = w1.alloc (.cells #[.bool n1, .string r1, .int .i64 (S : Int)] 120) := ⟨_, rfl⟩
  obtain ⟨gx, hgx⟩ : ∃ gx, gx = w1.heap.size := ⟨_, rfl⟩
  have hx12 : Ext w1 w2 := by rw [hw2]; exact (Ext.refl _).alloc _
  have HBX := Lib.hid (show Blk w2 gx 120 #[.bool n1, .string r1, .int .i64 (S : Int)] by rw [hw2, hgx]; exact Blk.new _ _ _)
  have HX2 := Lib.hid (HX0.out.trans (hx1.trans hx12))
  have HB1 := Lib.hid (HC1.out.keep (hx1.kept _))
  have HB2 := Lib.hid (HC2.out.keep (hx1.kept _))
  have HD1 := Lib.hid (HC1.out.keep ((hx1.trans hx12).kept _))
  have HD2 := Lib.hid (HC2.out.keep ((hx1.trans hx12).kept _))
  have HD3 := Lib.hid (HC3.out.keep ((hx1.trans hx12).kept _))
  have hx3 : g3 ≠ gx := by have := HC3.out.lt; have := hx1.size; omega
  have HW2 := Lib.hid hw2
  have HGX := Lib.hid hgx
  have hgw : w.heap.size ≤ gx := by have := HX0.out.size; have := hx1.size; omega
  have p0 := HB1.out.cell (i := 0) rfl
  have p1 := HB1.out.cell (i := 1) rfl
  have p2 := HB1.out.cell (i := 2) rfl
  have pf := HB1.out.frozen
  have pl := HB1.out.lt
  have q0 := HB2.out.cell (i := 0) rfl
  have q1 := HB2.out.cell (i := 1) rfl
  have q2 := HB2.out.cell (i := 2) rfl
  have qf := HB2.out.frozen
  have ql := HB2.out.lt
  clear hr1 hw2 hgx hx12 hx1 HC1 HC2 HC3 HX0 HW0
  go_wp2_with fail
  rw [← HW2.out, ← HGX.out, HS.out]
  refine (r04_wider n2 N2 s2 S h2 HP2.out ha2 ha6 w2).mono ?_
  rintro e3 w3 ⟨r2, rfl, hr2, hx3⟩
  rw [← HE2.out] at hr2
  have HR2 := Lib.hid hr2
  obtain ⟨w4, hw4⟩ : ∃ w4, w4 = w3.alloc (.cells #[.bool n2, .string r2, .int .i64 (S : Int)] 120) := ⟨_, rfl⟩
  obtain ⟨gy, hgy⟩ : ∃ gy, gy = w3.heap.size := ⟨_, rfl⟩
  have hx34 : Ext w3 w4 := by rw [hw4]; exact (Ext.refl _).alloc _
  have HBY := Lib.hid (show Blk w4 gy 120 #[.bool n2, .string r2, .int .i64 (S : Int)] by rw [hw4, hgy]; exact Blk.new _ _ _)
  have HBX3 := Lib.hid (HBX.out.keep (hx3.kept _))
  have HBX4 := Lib.hid (HBX.out.keep ((hx3.trans hx34).kept _))
  have HX4 := Lib.hid (HX2.out.trans (hx3.trans hx34))
  have HE3 := Lib.hid (HD3.out.keep ((hx3.trans hx34).kept _))
  have hxy : gx ≠ gy := by have := HBX.out.lt; have := hx3.size; omega
  have h3y : g3 ≠ gy := by have := HD3.out.lt; have := hx3.size; omega
  have hgw2 : w.heap.size ≤ gy := by have := HX2.out.size; have := hx3.size; omega
  have HW4 := Lib.hid hw4
  have HGY := Lib.hid hgy
  have HR1b := HR1
  have x0 := HBX3.out.cell (i := 0) rfl
  have x1 := HBX3.out.cell (i := 1) rfl
  have x2 := HBX3.out.cell (i := 2) rfl
  have xf := HBX3.out.frozen
  have xl := HBX3.out.lt
  clear hr2 hw4 hgy hx34 hx3 HD1 HD2 HD3 HX2 HW2 HBX p0 p1 p2 pf pl q0 q1 q2 qf ql
  rcases n1 with _ | _ <;> rcases n2 with _ | _
  · go_upto_region 4 with fail
    rw [← HW4.out, ← HGY.out]
    clear x0 x1 x2 xf xl
    refine wp_region_chain (by kernel_rfl) (fun i => [i]) (by kernel_rfl) (LX (fun m b => m = 1010 ∧ b = g3)) (LX.refl _) (LX.trans _) (LM [(10, [1010])]) gh0 (LM.zero _) ?_
    apply Chain.pure (LX.refl _) (by rfl)
    · intro vals γ w' ρ hR hN hp hρ hc hf hg
      refine ⟨rfl, ?_⟩
      have e5 := hρ 5
      conv at e5 => rhs; whnf
      clear hR hN hp hρ
      go_light
      go_simp
      exact ⟨rfl, rfl⟩
    · rfl
    apply Chain.pure (LX.refl _) (by rfl)
    · intro vals γ w' ρ hR hN hp hρ hc hf hg
      refine ⟨rfl, ?_⟩
      have e29 : ρ (.tmp 29) = _ := (hρ 29).trans (hp 0 (by decide))
      have hk := hR.kept0 (S := fun b => b = gx ∨ b = gy) (fun b hb m hm => by rcases hb with e | e <;> omega)
      have kx := HBX4.out.keep (hk.mono fun b _ e => .inl e)
      have ky := HBY.out.keep (hk.mono fun b _ e => .inr e)
      have kx0 := kx.cell (i := 0) rfl
      have kx1 := kx.cell (i := 1) rfl
      have kx2 := kx.cell (i := 2) rfl
      have ky0 := ky.cell (i := 0) rfl
      have ky1 := ky.cell (i := 1) rfl
      have ky2 := ky.cell (i := 2) rfl
      clear hk kx ky
      clear hR hN hp hρ
      go_light
      go_simp
      exact ⟨rfl, rfl⟩
    · rfl
    apply Chain.pure (LX.refl _) (by rfl)
    · intro vals γ w' ρ hR hN hp hρ hc hf hg
      refine ⟨rfl, ?_⟩
      have e5 := hρ 5
      conv at e5 => rhs; whnf
      clear hR hN hp hρ
      go_light
      go_simp
      exact ⟨rfl, rfl⟩
    · rfl
    apply Chain.pure (LX.refl _) (by rfl)
    · intro vals γ w' ρ hR hN hp hρ hc hf hg
      refine ⟨rfl, ?_⟩
      have e31 : ρ (.tmp 31) = _ := (hρ 31).trans (hp 2 (by decide))
      have hk := hR.kept0 (S := fun b => b = gx ∨ b = gy) (fun b hb m hm => by rcases hb with e | e <;> omega)
      have kx := HBX4.out.keep (hk.mono fun b _ e => .inl e)
      have ky := HBY.out.keep (hk.mono fun b _ e => .inr e)
      have kx0 := kx.cell (i := 0) rfl
      have kx1 := kx.cell (i := 1) rfl
      have kx2 := kx.cell (i := 2) rfl
      have ky0 := ky.cell (i := 0) rfl
      have ky1 := ky.cell (i := 1) rfl
      have ky2 := ky.cell (i := 2) rfl
      clear hk kx ky
      clear hR hN hp hρ
      go_light
      go_simp
      exact ⟨rfl, rfl⟩
    · rfl
    apply Chain.pure (LX.refl _) (by rfl)
    · intro vals γ w' ρ hR hN hp hρ hc hf hg
      refine ⟨rfl, ?_⟩
      have e6 := hρ 6
      conv at e6 => rhs; whnf
      clear hR hN hp hρ
      go_light
      go_simp
      exact ⟨rfl, rfl⟩
    · rfl
    apply Chain.pure (LX.refl _) (by rfl)
    · intro vals γ w' ρ hR hN hp hρ hc hf hg
      refine ⟨rfl, ?_⟩
      have e33 : ρ (.tmp 33) = _ := (hρ 33).trans (hp 4 (by decide))
      have hk := hR.kept0 (S := fun b => b = gx ∨ b = gy) (fun b hb m hm => by rcases hb with e | e <;> omega)
      have kx := HBX4.out.keep (hk.mono fun b _ e => .inl e)
      have ky := HBY.out.keep (hk.mono fun b _ e => .inr e)
      have kx0 := kx.cell (i := 0) rfl
      have kx1 := kx.cell (i := 1) rfl
      have kx2 := kx.cell (i := 2) rfl
      have ky0 := ky.cell (i := 0) rfl
      have ky1 := ky.cell (i := 1) rfl
      have ky2 := ky.cell (i := 2) rfl
      clear hk kx ky
      clear hR hN hp hρ
      go_light
      go_simp
      exact ⟨rfl, rfl⟩
    · rfl
    refine Chain.step (FP fun v γ w' => ∃ r, v = .string r ∧ isN r (m1 + m2)) (by rfl) (FP.stab ?_) ?_ ?_
    · intro v γ w1 γ' w2 r h
      exact h
    · intro vals γ w' ρ hR hN hp hρ hc hf hg
      refine ⟨rfl, ?_⟩
      have e32 : ρ (.tmp 32) = _ := (hρ 32).trans (hp 3 (by decide))
      have e34 : ρ (.tmp 34) = _ := (hρ 34).trans (hp 5 (by decide))
      have HR := Lib.hid hR
      clear hR hN hp hρ
      go_light
      go_simp
      refine (r01_Add r1 r2 HR1.out.2.2 HR2.out.2.2 (by rw [HR1.out.1]; exact Nat.lt_trans HM1.out (Nat.pow_lt_pow_right (by decide) (by decide))) (by rw [HR2.out.1]; exact Nat.lt_trans HM2.out (Nat.pow_lt_pow_right (by decide) (by decide))) w').mono ?_
      rintro e1 w3 ⟨r, he, h1, h2, h3, hx⟩
      exact ⟨_, he, γ, LX.of_ext _ γ hx, fun _ _ _ h => h, r, rfl, by rw [h1, HR1.out.1, HR2.out.1], h2, h3⟩
    apply Chain.pure (LX.refl _) (by rfl)
    · intro vals γ w' ρ hR hN hp hρ hc hf hg
      refine ⟨rfl, ?_⟩
      have e5 := hρ 5
      conv at e5 => rhs; whnf
      clear hR hN hp hρ
      go_light
      go_simp
      exact ⟨rfl, rfl⟩
    · rfl
    apply Chain.pure (LX.refl _) (by rfl)
    · intro vals γ w' ρ hR hN hp hρ hc hf hg
      refine ⟨rfl, ?_⟩
      have e36 : ρ (.tmp 36) = _ := (hρ 36).trans (hp 7 (by decide))
      have hk := hR.kept0 (S := fun b => b = gx ∨ b = gy) (fun b hb m hm => by rcases hb with e | e <;> omega)
      have kx := HBX4.out.keep (hk.mono fun b _ e => .inl e)
      have ky := HBY.out.keep (hk.mono fun b _ e => .inr e)
      have kx0 := kx.cell (i := 0) rfl
      have kx1 := kx.cell (i := 1) rfl
      have kx2 := kx.cell (i := 2) rfl
      have ky0 := ky.cell (i := 0) rfl
      have ky1 := ky.cell (i := 1) rfl
      have ky2 := ky.cell (i := 2) rfl
      clear hk kx ky
      clear hR hN hp hρ
      go_light
      go_simp
      exact ⟨rfl, rfl⟩
    · rfl
    refine Chain.step (FP fun v γ w' => ∃ r, v = .agg #[.bool false, .string r, .int .i64 (S : Int)] ∧ isN r (m1 + m2)) (by rfl) (FP.stab ?_) ?_ ?_
    · intro v γ w1 γ' w2 r h
      exact h
    · intro vals γ w' ρ hR hN hp hρ hc hf hg
      refine ⟨rfl, ?_⟩
      have e30 : ρ (.tmp 30) = _ := (hρ 30).trans (hp 1 (by decide))
      obtain ⟨r6, hv6, hn6⟩ := hp 6 (by decide)
      have e35 := (hρ 35).trans hv6
      have e37 : ρ (.tmp 37) = _ := (hρ 37).trans (hp 8 (by decide))
      have HN6 := Lib.hid hn6
      clear hR hN hp hρ hn6
      go_light
      go_simp
      exact ⟨γ, LX.refl _ _ _, fun _ _ _ h => h, r6, rfl, HN6.out⟩
    refine Chain.step (fun _ γ w' => ∃ r, (Blk w' g3 120 #[.bool false, .string r, .int .i64 (S : Int)] ∧ γ 1010 = some none ∧ Free γ g3) ∧ isN r (m1 + m2)) (by rfl) ?_ ?_ ?_
    · intro l γ w1 γ' w2 rr h
      obtain ⟨r, ⟨h1, h2, h3⟩, hnr⟩ := h
      exact ⟨r, ⟨h1.keep (rr.keptS fun b _ e => ⟨by rw [e]; exact h3, fun m hm => by rw [hm.1, h2, rr.done _ h2]⟩), rr.done _ h2, rr.free h1.lt h3⟩, hnr⟩
    · intro vals γ w' ρ hR hN hp hρ hc hf hg
      refine ⟨rfl, ?_⟩
      have e4 := hρ 4
      conv at e4 => rhs; whnf
      obtain ⟨r, hv9, hn9⟩ := hp 9 (by decide)
      have e38 := (hρ 38).trans hv9
      have HN9 := Lib.hid hn9
      clear hn9
      have HR := Lib.hid hR
      have hk0 := hR.key0 hN (k := 1010) (by decide) (by decide)
      have HK := Lib.hid hk0
      have hb0 := HE3.out.keep ((Kept.drew _ _).trans (hR.keptS (S := fun b => b = g3) fun b _ e => ⟨free0 b, fun m hm => by rw [hm.1]; exact hk0⟩))
      have HB0 := Lib.hid hb0
      have q0 := hb0.cell (i := 0) rfl
      have q1 := hb0.cell (i := 1) rfl
      have q2 := hb0.cell (i := 2) rfl
      have qf := hb0.frozen
      have ql := hb0.lt
      clear hR hN hp hρ hk0 hb0
      go_light
      go_simp
      refine ⟨γ.put 1010 none, LX.write HK.out rfl rfl rfl (by simp [World.setCell]) (fun b hb hm => (((((Only.refl g3 w').set 0 (.bool false)).set 1 (.string r)).set 2 (.int .i64 (S : Int)))).block b fun e => hm ⟨rfl, e⟩), LM.done (by decide) (.inr (by decide)), ?_⟩
      have hb1 := HB0.out
      exact ⟨r, ⟨by simpa using (((hb1.set 0 (.bool false)).set 1 (.string r)).set 2 (.int .i64 (S : Int))), rfl, fun ⟨k', hk'⟩ => by unfold Gh.put at hk'; split at hk'; (cases hk'); exact absurd (HR.out.old k' _ hk' (by have := HE3.out.lt; exact this)) (by simp [gh0])⟩, HN9.out⟩
    intro vals γ w9 hR hG
    have v0 : vals 0 = _ := hG 0 (by decide)
    have v1 : vals 1 = _ := hG 1 (by decide)
    have v2 : vals 2 = _ := hG 2 (by decide)
    have v3 : vals 3 = _ := hG 3 (by decide)
    have v4 : vals 4 = _ := hG 4 (by decide)
    have v5 : vals 5 = _ := hG 5 (by decide)
    obtain ⟨q6, v6, -⟩ := hG 6 (by decide)
    have v7 : vals 7 = _ := hG 7 (by decide)
    have v8 : vals 8 = _ := hG 8 (by decide)
    obtain ⟨q9, v9, -⟩ := hG 9 (by decide)
    simp only [lexFrame, Act.put, List.setIfInBounds_toArray, List.set_cons_succ, List.set_cons_zero, Nat.zero_add, Nat.reduceAdd, v0, v1, v2, v3, v4, v5, v6, v7, v8, v9]
    clear v0 v1 v2 v3 v4 v5 v6 v7 v8 v9
    obtain ⟨r, ⟨hb9, -, -⟩, hn9⟩ := hG 10 (by decide)
    have c0 := hb9.cell (i := 0) rfl
    have c1 := hb9.cell (i := 1) rfl
    have c2 := hb9.cell (i := 2) rfl
    have cl := hb9.lt
    have HX9 := Lib.hid (hR.extB HX4.out fun m b hm => by rw [hm.2]; exact HGW)
    have HN9 := Lib.hid hn9
    clear hb9 hn9 hR hG
    go_wp2
    refine bodyPost_ret (v := .agg #[.bool false, .string r, .int .i64 (S : Int)]) (by simp [results, Tryz.results103, go_sem, c0, c1, c2, cl]) rfl ⟨false, r, m1 + m2, rfl, HN9.out, by simp [sv]; try omega, ?_, HX9.out⟩
    exact Nat.lt_of_lt_of_le (Nat.add_lt_add HM1.out HM2.out) (by decide)
  · go_wp2_with fail
    rw [← HW4.out]
    try rw [← HGY.out]
    clear x0 x1 x2 xf xl
    refine (r01_Cmp r1 r2 HR1.out.2.2 HR2.out.2.2 w4).mono ?_
    rintro e5 w5 ⟨rfl, rfl⟩
    rw [HR1.out.1, HR2.out.1]
    by_cases hlt : m1 < m2
    · have hc : cmpN m1 m2 < 0 := by unfold cmpN; rw [if_pos hlt]; decide
      obtain ⟨cn, hcn⟩ : ∃ cn, cn = cmpN m1 m2 := ⟨_, rfl⟩
      rw [← hcn] at hc ⊢
      clear hcn
      have z0 := HE3.out.cell (i := 0) rfl
      have z1 := HE3.out.cell (i := 1) rfl
      have z2 := HE3.out.cell (i := 2) rfl
      have zf := HE3.out.frozen
      have zl := HE3.out.lt
      have x0 := HBX4.out.cell (i := 0) rfl
      have x1 := HBX4.out.cell (i := 1) rfl
      have x2 := HBX4.out.cell (i := 2) rfl
      have xf := HBX4.out.frozen
      have xl := HBX4.out.lt
      have y0 := HBY.out.cell (i := 0) rfl
      have y1 := HBY.out.cell (i := 1) rfl
      have y2 := HBY.out.cell (i := 2) rfl
      have yf := HBY.out.frozen
      have yl := HBY.out.lt
      go_wp2_with fail
      obtain ⟨w6, hw6⟩ : ∃ w6, w6 = (((((((w4.setCell ⟨gx, 0, none⟩ (.bool true)).setCell ⟨gx, 1, none⟩ (.string r2)).setCell ⟨gx, 2, none⟩ (.int .i64 (S : Int))).setCell ⟨gy, 0, none⟩ (.bool false)).setCell ⟨gy, 1, none⟩ (.string r1)).setCell ⟨gy, 2, none⟩ (.int .i64 (S : Int))).alloc (.cells #[.bool false, .string r1, .int .i64 (S : Int)] 120)) := ⟨_, rfl⟩
      have hsw := swap_mem (w := w) (g3 := g3) hw6 HBX4.out HX4.out hxy hx3 h3y hgw hgw2
      obtain ⟨hk6, hx6, hbx6⟩ := hsw
      rw [← hw6]
      have HBX6 := Lib.hid hbx6
      have HX6 := Lib.hid hx6
      have HE6 := Lib.hid (HE3.out.keep hk6)
      have hle : m1 ≤ m2 := by omega
      have HLE := Lib.hid hle
      clear hw6 hk6 hx6 hbx6 hle hlt hc z0 z1 z2 zf zl x0 x1 x2 xf xl y0 y1 y2 yf yl
      refine (r01_Sub r2 r1 HR2.out.2.2 HR1.out.2.2 (by rw [HR2.out.1, HR1.out.1]; exact HLE.out) (by rw [HR2.out.1]; exact Nat.lt_trans HM2.out (Nat.pow_lt_pow_right (by decide) (by decide))) w6).mono ?_
      rintro e7 w7 ⟨r, rfl, hr, hx7⟩
      rw [HR2.out.1, HR1.out.1] at hr
      obtain ⟨d, hd⟩ : ∃ d, d = m2 - m1 := ⟨_, rfl⟩
      rw [← hd] at hr
      have HRR := Lib.hid hr
      have hdl : m1 + d = m2 := by have := HLE.out; omega
      have HX7 := Lib.hid (HX6.out.trans hx7)
      have HE7 := Lib.hid (HE6.out.keep (hx7.kept _))
      have HBX7 := Lib.hid (HBX6.out.keep (hx7.kept _))
      have hrz := can_nil hr.2.1
      have HD := Lib.hid hdl
      have z0 := HE7.out.cell (i := 0) rfl
      have z1 := HE7.out.cell (i := 1) rfl
      have z2 := HE7.out.cell (i := 2) rfl
      have zf := HE7.out.frozen
      have zl := HE7.out.lt
      have x0 := HBX7.out.cell (i := 0) rfl
      have x1 := HBX7.out.cell (i := 1) rfl
      have x2 := HBX7.out.cell (i := 2) rfl
      have xf := HBX7.out.frozen
      have xl := HBX7.out.lt
      by_cases h0 : d = 0
      · have hs0 : r.size = 0 := hrz.2 (hr.1.trans h0)
        have hs1 : ¬ 0 < r.size := by omega
        clear hs0
        have H0 := Lib.hid h0
        clear h0
        have hz := ((HE7.out.set 0 (.bool false)).set 1 (.string r)).set 2 (.int .i64 (S : Int))
        have d0 := hz.cell (i := 0) rfl
        have d1 := hz.cell (i := 1) rfl
        have d2 := hz.cell (i := 2) rfl
        have dl := hz.lt
        have HF := Lib.hid (show sv false d = sv false m1 + sv true m2 by have := HD.out; have := H0.out; simp [sv]; omega)
        have HDL := Lib.hid (show d < 256 ^ 50 by have h1 := HD.out; have h2 := Nat.lt_trans HM2.out (show (256 : Nat) ^ 40 < 256 ^ 50 from Nat.pow_lt_pow_right (by decide) (by decide)); omega)
        clear hz hdl hr hrz hd
        go_wp2
        refine bodyPost_ret (v := .agg #[.bool false, .string r, .int .i64 (S : Int)]) (by simp [results, Tryz.results103, go_sem, d0, d1, d2]) rfl ⟨false, r, d, rfl, HRR.out, HF.out, HDL.out, ?_⟩
        exact ((HX7.out.set2 HGW _).set2 HGW _).set2 HGW _
      · have hs0 : r.size ≠ 0 := fun e => h0 (hr.1.symm.trans (hrz.1 e))
        have hs1 : 0 < r.size := by omega
        clear hs0
        have hz := ((HE7.out.set 0 (.bool true)).set 1 (.string r)).set 2 (.int .i64 (S : Int))
        have d0 := hz.cell (i := 0) rfl
        have d1 := hz.cell (i := 1) rfl
        have d2 := hz.cell (i := 2) rfl
        have dl := hz.lt
        have HF := Lib.hid (show sv true d = sv false m1 + sv true m2 by have := HD.out; simp [sv]; omega)
        have HDL := Lib.hid (show d < 256 ^ 50 by have h1 := HD.out; have h2 := Nat.lt_trans HM2.out (show (256 : Nat) ^ 40 < 256 ^ 50 from Nat.pow_lt_pow_right (by decide) (by decide)); omega)
        clear hz hdl hr hrz hd
        go_wp2
        refine bodyPost_ret (v := .agg #[.bool true, .string r, .int .i64 (S : Int)]) (by simp [results, Tryz.results103, go_sem, d0, d1, d2]) rfl ⟨true, r, d, rfl, HRR.out, HF.out, HDL.out, ?_⟩
        exact ((HX7.out.set2 HGW _).set2 HGW _).set2 HGW _
    · have hc : ¬ cmpN m1 m2 < 0 := by unfold cmpN; rw [if_neg hlt]; split <;> decide
      obtain ⟨cn, hcn⟩ : ∃ cn, cn = cmpN m1 m2 := ⟨_, rfl⟩
      rw [← hcn] at hc ⊢
      clear hcn
      have z0 := HE3.out.cell (i := 0) rfl
      have z1 := HE3.out.cell (i := 1) rfl
      have z2 := HE3.out.cell (i := 2) rfl
      have zf := HE3.out.frozen
      have zl := HE3.out.lt
      have x0 := HBX4.out.cell (i := 0) rfl
      have x1 := HBX4.out.cell (i := 1) rfl
      have x2 := HBX4.out.cell (i := 2) rfl
      have xf := HBX4.out.frozen
      have xl := HBX4.out.lt
      have y0 := HBY.out.cell (i := 0) rfl
      have y1 := HBY.out.cell (i := 1) rfl
      have y2 := HBY.out.cell (i := 2) rfl
      have yf := HBY.out.frozen
      have yl := HBY.out.lt
      go_wp2_with fail
      obtain ⟨w6, hw6⟩ : ∃ w6, w6 = w4 := ⟨_, rfl⟩
      have hk6 : Kept (fun b => b = g3) w4 w6 := by rw [hw6]; exact Kept.refl _ _
      have hx6 : Ext w w6 := by rw [hw6]; exact HX4.out
      have hbx6 : Blk w6 gx 120 #[.bool false, .string r1, .int .i64 (S : Int)] := by rw [hw6]; exact HBX4.out
      rw [← hw6]
      have HBX6 := Lib.hid hbx6
      have HX6 := Lib.hid hx6
      have HE6 := Lib.hid (HE3.out.keep hk6)
      have hle : m2 ≤ m1 := by omega
      have HLE := Lib.hid hle
      clear hw6 hk6 hx6 hbx6 hle hlt hc z0 z1 z2 zf zl x0 x1 x2 xf xl y0 y1 y2 yf yl
      refine (r01_Sub r1 r2 HR1.out.2.2 HR2.out.2.2 (by rw [HR1.out.1, HR2.out.1]; exact HLE.out) (by rw [HR1.out.1]; exact Nat.lt_trans HM1.out (Nat.pow_lt_pow_right (by decide) (by decide))) w6).mono ?_
      rintro e7 w7 ⟨r, rfl, hr, hx7⟩
      rw [HR1.out.1, HR2.out.1] at hr
      obtain ⟨d, hd⟩ : ∃ d, d = m1 - m2 := ⟨_, rfl⟩
      rw [← hd] at hr
      have HRR := Lib.hid hr
      have hdl : m2 + d = m1 := by have := HLE.out; omega
      have HX7 := Lib.hid (HX6.out.trans hx7)
      have HE7 := Lib.hid (HE6.out.keep (hx7.kept _))
      have HBX7 := Lib.hid (HBX6.out.keep (hx7.kept _))
      have hrz := can_nil hr.2.1
      have HD := Lib.hid hdl
      have z0 := HE7.out.cell (i := 0) rfl
      have z1 := HE7.out.cell (i := 1) rfl
      have z2 := HE7.out.cell (i := 2) rfl
      have zf := HE7.out.frozen
      have zl := HE7.out.lt
      have x0 := HBX7.out.cell (i := 0) rfl
      have x1 := HBX7.out.cell (i := 1) rfl
      have x2 := HBX7.out.cell (i := 2) rfl
      have xf := HBX7.out.frozen
      have xl := HBX7.out.lt
      by_cases h0 : d = 0
      · have hs0 : r.size = 0 := hrz.2 (hr.1.trans h0)
        have hs1 : ¬ 0 < r.size := by omega
        clear hs0
        have H0 := Lib.hid h0
        clear h0
        have hz := ((HE7.out.set 0 (.bool false)).set 1 (.string r)).set 2 (.int .i64 (S : Int))
        have d0 := hz.cell (i := 0) rfl
        have d1 := hz.cell (i := 1) rfl
        have d2 := hz.cell (i := 2) rfl
        have dl := hz.lt
        have HF := Lib.hid (show sv false d = sv false m1 + sv true m2 by have := HD.out; have := H0.out; simp [sv]; omega)
        have HDL := Lib.hid (show d < 256 ^ 50 by have h1 := HD.out; have h2 := Nat.lt_trans HM1.out (show (256 : Nat) ^ 40 < 256 ^ 50 from Nat.pow_lt_pow_right (by decide) (by decide)); omega)
        clear hz hdl hr hrz hd
        go_wp2
        refine bodyPost_ret (v := .agg #[.bool false, .string r, .int .i64 (S : Int)]) (by simp [results, Tryz.results103, go_sem, d0, d1, d2]) rfl ⟨false, r, d, rfl, HRR.out, HF.out, HDL.out, ?_⟩
        exact ((HX7.out.set2 HGW _).set2 HGW _).set2 HGW _
      · have hs0 : r.size ≠ 0 := fun e => h0 (hr.1.symm.trans (hrz.1 e))
        have hs1 : 0 < r.size := by omega
        clear hs0
        have hz := ((HE7.out.set 0 (.bool false)).set 1 (.string r)).set 2 (.int .i64 (S : Int))
        have d0 := hz.cell (i := 0) rfl
        have d1 := hz.cell (i := 1) rfl
        have d2 := hz.cell (i := 2) rfl
        have dl := hz.lt
        have HF := Lib.hid (show sv false d = sv false m1 + sv true m2 by have := HD.out; simp [sv]; omega)
        have HDL := Lib.hid (show d < 256 ^ 50 by have h1 := HD.out; have h2 := Nat.lt_trans HM1.out (show (256 : Nat) ^ 40 < 256 ^ 50 from Nat.pow_lt_pow_right (by decide) (by decide)); omega)
        clear hz hdl hr hrz hd
        go_wp2
        refine bodyPost_ret (v := .agg #[.bool false, .string r, .int .i64 (S : Int)]) (by simp [results, Tryz.results103, go_sem, d0, d1, d2]) rfl ⟨false, r, d, rfl, HRR.out, HF.out, HDL.out, ?_⟩
        exact ((HX7.out.set2 HGW _).set2 HGW _).set2 HGW _
  · go_wp2_with fail
    rw [← HW4.out]
    try rw [← HGY.out]
    clear x0 x1 x2 xf xl
    refine (r01_Cmp r1 r2 HR1.out.2.2 HR2.out.2.2 w4).mono ?_
    rintro e5 w5 ⟨rfl, rfl⟩
    rw [HR1.out.1, HR2.out.1]
    by_cases hlt : m1 < m2
    · have hc : cmpN m1 m2 < 0 := by unfold cmpN; rw [if_pos hlt]; decide
      obtain ⟨cn, hcn⟩ : ∃ cn, cn = cmpN m1 m2 := ⟨_, rfl⟩
      rw [← hcn] at hc ⊢
      clear hcn
      have z0 := HE3.out.cell (i := 0) rfl
      have z1 := HE3.out.cell (i := 1) rfl
      have z2 := HE3.out.cell (i := 2) rfl
      have zf := HE3.out.frozen
      have zl := HE3.out.lt
      have x0 := HBX4.out.cell (i := 0) rfl
      have x1 := HBX4.out.cell (i := 1) rfl
      have x2 := HBX4.out.cell (i := 2) rfl
      have xf := HBX4.out.frozen
      have xl := HBX4.out.lt
      have y0 := HBY.out.cell (i := 0) rfl
      have y1 := HBY.out.cell (i := 1) rfl
      have y2 := HBY.out.cell (i := 2) rfl
      have yf := HBY.out.frozen
      have yl := HBY.out.lt
      go_wp2_with fail
      obtain ⟨w6, hw6⟩ : ∃ w6, w6 = (((((((w4.setCell ⟨gx, 0, none⟩ (.bool false)).setCell ⟨gx, 1, none⟩ (.string r2)).setCell ⟨gx, 2, none⟩ (.int .i64 (S : Int))).setCell ⟨gy, 0, none⟩ (.bool true)).setCell ⟨gy, 1, none⟩ (.string r1)).setCell ⟨gy, 2, none⟩ (.int .i64 (S : Int))).alloc (.cells #[.bool true, .string r1, .int .i64 (S : Int)] 120)) := ⟨_, rfl⟩
      have hsw := swap_mem (w := w) (g3 := g3) hw6 HBX4.out HX4.out hxy hx3 h3y hgw hgw2
      obtain ⟨hk6, hx6, hbx6⟩ := hsw
      rw [← hw6]
      have HBX6 := Lib.hid hbx6
      have HX6 := Lib.hid hx6
      have HE6 := Lib.hid (HE3.out.keep hk6)
      have hle : m1 ≤ m2 := by omega
      have HLE := Lib.hid hle
      clear hw6 hk6 hx6 hbx6 hle hlt hc z0 z1 z2 zf zl x0 x1 x2 xf xl y0 y1 y2 yf yl
      refine (r01_Sub r2 r1 HR2.out.2.2 HR1.out.2.2 (by rw [HR2.out.1, HR1.out.1]; exact HLE.out) (by rw [HR2.out.1]; exact Nat.lt_trans HM2.out (Nat.pow_lt_pow_right (by decide) (by decide))) w6).mono ?_
      rintro e7 w7 ⟨r, rfl, hr, hx7⟩
      rw [HR2.out.1, HR1.out.1] at hr
      obtain ⟨d, hd⟩ : ∃ d, d = m2 - m1 := ⟨_, rfl⟩
      rw [← hd] at hr
      have HRR := Lib.hid hr
      have hdl : m1 + d = m2 := by have := HLE.out; omega
      have HX7 := Lib.hid (HX6.out.trans hx7)
      have HE7 := Lib.hid (HE6.out.keep (hx7.kept _))
      have HBX7 := Lib.hid (HBX6.out.keep (hx7.kept _))
      have hrz := can_nil hr.2.1
      have HD := Lib.hid hdl
      have z0 := HE7.out.cell (i := 0) rfl
      have z1 := HE7.out.cell (i := 1) rfl
      have z2 := HE7.out.cell (i := 2) rfl
      have zf := HE7.out.frozen
      have zl := HE7.out.lt
      have x0 := HBX7.out.cell (i := 0) rfl
      have x1 := HBX7.out.cell (i := 1) rfl
      have x2 := HBX7.out.cell (i := 2) rfl
      have xf := HBX7.out.frozen
      have xl := HBX7.out.lt
      by_cases h0 : d = 0
      · have hs0 : r.size = 0 := hrz.2 (hr.1.trans h0)
        have hs1 : ¬ 0 < r.size := by omega
        clear hs0
        have H0 := Lib.hid h0
        clear h0
        have hz := ((HE7.out.set 0 (.bool false)).set 1 (.string r)).set 2 (.int .i64 (S : Int))
        have d0 := hz.cell (i := 0) rfl
        have d1 := hz.cell (i := 1) rfl
        have d2 := hz.cell (i := 2) rfl
        have dl := hz.lt
        have HF := Lib.hid (show sv false d = sv true m1 + sv false m2 by have := HD.out; have := H0.out; simp [sv]; omega)
        have HDL := Lib.hid (show d < 256 ^ 50 by have h1 := HD.out; have h2 := Nat.lt_trans HM2.out (show (256 : Nat) ^ 40 < 256 ^ 50 from Nat.pow_lt_pow_right (by decide) (by decide)); omega)
        clear hz hdl hr hrz hd
        go_wp2
        refine bodyPost_ret (v := .agg #[.bool false, .string r, .int .i64 (S : Int)]) (by simp [results, Tryz.results103, go_sem, d0, d1, d2]) rfl ⟨false, r, d, rfl, HRR.out, HF.out, HDL.out, ?_⟩
        exact ((HX7.out.set2 HGW _).set2 HGW _).set2 HGW _
      · have hs0 : r.size ≠ 0 := fun e => h0 (hr.1.symm.trans (hrz.1 e))
        have hs1 : 0 < r.size := by omega
        clear hs0
        have hz := ((HE7.out.set 0 (.bool false)).set 1 (.string r)).set 2 (.int .i64 (S : Int))
        have d0 := hz.cell (i := 0) rfl
        have d1 := hz.cell (i := 1) rfl
        have d2 := hz.cell (i := 2) rfl
        have dl := hz.lt
        have HF := Lib.hid (show sv false d = sv true m1 + sv false m2 by have := HD.out; simp [sv]; omega)
        have HDL := Lib.hid (show d < 256 ^ 50 by have h1 := HD.out; have h2 := Nat.lt_trans HM2.out (show (256 : Nat) ^ 40 < 256 ^ 50 from Nat.pow_lt_pow_right (by decide) (by decide)); omega)
        clear hz hdl hr hrz hd
        go_wp2
        refine bodyPost_ret (v := .agg #[.bool false, .string r, .int .i64 (S : Int)]) (by simp [results, Tryz.results103, go_sem, d0, d1, d2]) rfl ⟨false, r, d, rfl, HRR.out, HF.out, HDL.out, ?_⟩
        exact ((HX7.out.set2 HGW _).set2 HGW _).set2 HGW _
    · have hc : ¬ cmpN m1 m2 < 0 := by unfold cmpN; rw [if_neg hlt]; split <;> decide
      obtain ⟨cn, hcn⟩ : ∃ cn, cn = cmpN m1 m2 := ⟨_, rfl⟩
      rw [← hcn] at hc ⊢
      clear hcn
      have z0 := HE3.out.cell (i := 0) rfl
      have z1 := HE3.out.cell (i := 1) rfl
      have z2 := HE3.out.cell (i := 2) rfl
      have zf := HE3.out.frozen
      have zl := HE3.out.lt
      have x0 := HBX4.out.cell (i := 0) rfl
      have x1 := HBX4.out.cell (i := 1) rfl
      have x2 := HBX4.out.cell (i := 2) rfl
      have xf := HBX4.out.frozen
      have xl := HBX4.out.lt
      have y0 := HBY.out.cell (i := 0) rfl
      have y1 := HBY.out.cell (i := 1) rfl
      have y2 := HBY.out.cell (i := 2) rfl
      have yf := HBY.out.frozen
      have yl := HBY.out.lt
      go_wp2_with fail
      obtain ⟨w6, hw6⟩ : ∃ w6, w6 = w4 := ⟨_, rfl⟩
      have hk6 : Kept (fun b => b = g3) w4 w6 := by rw [hw6]; exact Kept.refl _ _
      have hx6 : Ext w w6 := by rw [hw6]; exact HX4.out
      have hbx6 : Blk w6 gx 120 #[.bool true, .string r1, .int .i64 (S : Int)] := by rw [hw6]; exact HBX4.out
      rw [← hw6]
      have HBX6 := Lib.hid hbx6
      have HX6 := Lib.hid hx6
      have HE6 := Lib.hid (HE3.out.keep hk6)
      have hle : m2 ≤ m1 := by omega
      have HLE := Lib.hid hle
      clear hw6 hk6 hx6 hbx6 hle hlt hc z0 z1 z2 zf zl x0 x1 x2 xf xl y0 y1 y2 yf yl
      refine (r01_Sub r1 r2 HR1.out.2.2 HR2.out.2.2 (by rw [HR1.out.1, HR2.out.1]; exact HLE.out) (by rw [HR1.out.1]; exact Nat.lt_trans HM1.out (Nat.pow_lt_pow_right (by decide) (by decide))) w6).mono ?_
      rintro e7 w7 ⟨r, rfl, hr, hx7⟩
      rw [HR1.out.1, HR2.out.1] at hr
      obtain ⟨d, hd⟩ : ∃ d, d = m1 - m2 := ⟨_, rfl⟩
      rw [← hd] at hr
      have HRR := Lib.hid hr
      have hdl : m2 + d = m1 := by have := HLE.out; omega
      have HX7 := Lib.hid (HX6.out.trans hx7)
      have HE7 := Lib.hid (HE6.out.keep (hx7.kept _))
      have HBX7 := Lib.hid (HBX6.out.keep (hx7.kept _))
      have hrz := can_nil hr.2.1
      have HD := Lib.hid hdl
      have z0 := HE7.out.cell (i := 0) rfl
      have z1 := HE7.out.cell (i := 1) rfl
      have z2 := HE7.out.cell (i := 2) rfl
      have zf := HE7.out.frozen
      have zl := HE7.out.lt
      have x0 := HBX7.out.cell (i := 0) rfl
      have x1 := HBX7.out.cell (i := 1) rfl
      have x2 := HBX7.out.cell (i := 2) rfl
      have xf := HBX7.out.frozen
      have xl := HBX7.out.lt
      by_cases h0 : d = 0
      · have hs0 : r.size = 0 := hrz.2 (hr.1.trans h0)
        have hs1 : ¬ 0 < r.size := by omega
        clear hs0
        have H0 := Lib.hid h0
        clear h0
        have hz := ((HE7.out.set 0 (.bool false)).set 1 (.string r)).set 2 (.int .i64 (S : Int))
        have d0 := hz.cell (i := 0) rfl
        have d1 := hz.cell (i := 1) rfl
        have d2 := hz.cell (i := 2) rfl
        have dl := hz.lt
        have HF := Lib.hid (show sv false d = sv true m1 + sv false m2 by have := HD.out; have := H0.out; simp [sv]; omega)
        have HDL := Lib.hid (show d < 256 ^ 50 by have h1 := HD.out; have h2 := Nat.lt_trans HM1.out (show (256 : Nat) ^ 40 < 256 ^ 50 from Nat.pow_lt_pow_right (by decide) (by decide)); omega)
        clear hz hdl hr hrz hd
        go_wp2
        refine bodyPost_ret (v := .agg #[.bool false, .string r, .int .i64 (S : Int)]) (by simp [results, Tryz.results103, go_sem, d0, d1, d2]) rfl ⟨false, r, d, rfl, HRR.out, HF.out, HDL.out, ?_⟩
        exact ((HX7.out.set2 HGW _).set2 HGW _).set2 HGW _
      · have hs0 : r.size ≠ 0 := fun e => h0 (hr.1.symm.trans (hrz.1 e))
        have hs1 : 0 < r.size := by omega
        clear hs0
        have hz := ((HE7.out.set 0 (.bool true)).set 1 (.string r)).set 2 (.int .i64 (S : Int))
        have d0 := hz.cell (i := 0) rfl
        have d1 := hz.cell (i := 1) rfl
        have d2 := hz.cell (i := 2) rfl
        have dl := hz.lt
        have HF := Lib.hid (show sv true d = sv true m1 + sv false m2 by have := HD.out; simp [sv]; omega)
        have HDL := Lib.hid (show d < 256 ^ 50 by have h1 := HD.out; have h2 := Nat.lt_trans HM1.out (show (256 : Nat) ^ 40 < 256 ^ 50 from Nat.pow_lt_pow_right (by decide) (by decide)); omega)
        clear hz hdl hr hrz hd
        go_wp2
        refine bodyPost_ret (v := .agg #[.bool true, .string r, .int .i64 (S : Int)]) (by simp [results, Tryz.results103, go_sem, d0, d1, d2]) rfl ⟨true, r, d, rfl, HRR.out, HF.out, HDL.out, ?_⟩
        exact ((HX7.out.set2 HGW _).set2 HGW _).set2 HGW _
  · go_upto_region 4 with fail
    rw [← HW4.out, ← HGY.out]
    clear x0 x1 x2 xf xl
    refine wp_region_chain (by kernel_rfl) (fun i => [i]) (by kernel_rfl) (LX (fun m b => m = 1010 ∧ b = g3)) (LX.refl _) (LX.trans _) (LM [(10, [1010])]) gh0 (LM.zero _) ?_
    apply Chain.pure (LX.refl _) (by rfl)
    · intro vals γ w' ρ hR hN hp hρ hc hf hg
      refine ⟨rfl, ?_⟩
      have e5 := hρ 5
      conv at e5 => rhs; whnf
      clear hR hN hp hρ
      go_light
      go_simp
      exact ⟨rfl, rfl⟩
    · rfl
    apply Chain.pure (LX.refl _) (by rfl)
    · intro vals γ w' ρ hR hN hp hρ hc hf hg
      refine ⟨rfl, ?_⟩
      have e29 : ρ (.tmp 29) = _ := (hρ 29).trans (hp 0 (by decide))
      have hk := hR.kept0 (S := fun b => b = gx ∨ b = gy) (fun b hb m hm => by rcases hb with e | e <;> omega)
      have kx := HBX4.out.keep (hk.mono fun b _ e => .inl e)
      have ky := HBY.out.keep (hk.mono fun b _ e => .inr e)
      have kx0 := kx.cell (i := 0) rfl
      have kx1 := kx.cell (i := 1) rfl
      have kx2 := kx.cell (i := 2) rfl
      have ky0 := ky.cell (i := 0) rfl
      have ky1 := ky.cell (i := 1) rfl
      have ky2 := ky.cell (i := 2) rfl
      clear hk kx ky
      clear hR hN hp hρ
      go_light
      go_simp
      exact ⟨rfl, rfl⟩
    · rfl
    apply Chain.pure (LX.refl _) (by rfl)
    · intro vals γ w' ρ hR hN hp hρ hc hf hg
      refine ⟨rfl, ?_⟩
      have e5 := hρ 5
      conv at e5 => rhs; whnf
      clear hR hN hp hρ
      go_light
      go_simp
      exact ⟨rfl, rfl⟩
    · rfl
    apply Chain.pure (LX.refl _) (by rfl)
    · intro vals γ w' ρ hR hN hp hρ hc hf hg
      refine ⟨rfl, ?_⟩
      have e31 : ρ (.tmp 31) = _ := (hρ 31).trans (hp 2 (by decide))
      have hk := hR.kept0 (S := fun b => b = gx ∨ b = gy) (fun b hb m hm => by rcases hb with e | e <;> omega)
      have kx := HBX4.out.keep (hk.mono fun b _ e => .inl e)
      have ky := HBY.out.keep (hk.mono fun b _ e => .inr e)
      have kx0 := kx.cell (i := 0) rfl
      have kx1 := kx.cell (i := 1) rfl
      have kx2 := kx.cell (i := 2) rfl
      have ky0 := ky.cell (i := 0) rfl
      have ky1 := ky.cell (i := 1) rfl
      have ky2 := ky.cell (i := 2) rfl
      clear hk kx ky
      clear hR hN hp hρ
      go_light
      go_simp
      exact ⟨rfl, rfl⟩
    · rfl
    apply Chain.pure (LX.refl _) (by rfl)
    · intro vals γ w' ρ hR hN hp hρ hc hf hg
      refine ⟨rfl, ?_⟩
      have e6 := hρ 6
      conv at e6 => rhs; whnf
      clear hR hN hp hρ
      go_light
      go_simp
      exact ⟨rfl, rfl⟩
    · rfl
    apply Chain.pure (LX.refl _) (by rfl)
    · intro vals γ w' ρ hR hN hp hρ hc hf hg
      refine ⟨rfl, ?_⟩
      have e33 : ρ (.tmp 33) = _ := (hρ 33).trans (hp 4 (by decide))
      have hk := hR.kept0 (S := fun b => b = gx ∨ b = gy) (fun b hb m hm => by rcases hb with e | e <;> omega)
      have kx := HBX4.out.keep (hk.mono fun b _ e => .inl e)
      have ky := HBY.out.keep (hk.mono fun b _ e => .inr e)
      have kx0 := kx.cell (i := 0) rfl
      have kx1 := kx.cell (i := 1) rfl
      have kx2 := kx.cell (i := 2) rfl
      have ky0 := ky.cell (i := 0) rfl
      have ky1 := ky.cell (i := 1) rfl
      have ky2 := ky.cell (i := 2) rfl
      clear hk kx ky
      clear hR hN hp hρ
      go_light
      go_simp
      exact ⟨rfl, rfl⟩
    · rfl
    refine Chain.step (FP fun v γ w' => ∃ r, v = .string r ∧ isN r (m1 + m2)) (by rfl) (FP.stab ?_) ?_ ?_
    · intro v γ w1 γ' w2 r h
      exact h
    · intro vals γ w' ρ hR hN hp hρ hc hf hg
      refine ⟨rfl, ?_⟩
      have e32 : ρ (.tmp 32) = _ := (hρ 32).trans (hp 3 (by decide))
      have e34 : ρ (.tmp 34) = _ := (hρ 34).trans (hp 5 (by decide))
      have HR := Lib.hid hR
      clear hR hN hp hρ
      go_light
      go_simp
      refine (r01_Add r1 r2 HR1.out.2.2 HR2.out.2.2 (by rw [HR1.out.1]; exact Nat.lt_trans HM1.out (Nat.pow_lt_pow_right (by decide) (by decide))) (by rw [HR2.out.1]; exact Nat.lt_trans HM2.out (Nat.pow_lt_pow_right (by decide) (by decide))) w').mono ?_
      rintro e1 w3 ⟨r, he, h1, h2, h3, hx⟩
      exact ⟨_, he, γ, LX.of_ext _ γ hx, fun _ _ _ h => h, r, rfl, by rw [h1, HR1.out.1, HR2.out.1], h2, h3⟩
    apply Chain.pure (LX.refl _) (by rfl)
    · intro vals γ w' ρ hR hN hp hρ hc hf hg
      refine ⟨rfl, ?_⟩
      have e5 := hρ 5
      conv at e5 => rhs; whnf
      clear hR hN hp hρ
      go_light
      go_simp
      exact ⟨rfl, rfl⟩
    · rfl
    apply Chain.pure (LX.refl _) (by rfl)
    · intro vals γ w' ρ hR hN hp hρ hc hf hg
      refine ⟨rfl, ?_⟩
      have e36 : ρ (.tmp 36) = _ := (hρ 36).trans (hp 7 (by decide))
      have hk := hR.kept0 (S := fun b => b = gx ∨ b = gy) (fun b hb m hm => by rcases hb with e | e <;> omega)
      have kx := HBX4.out.keep (hk.mono fun b _ e => .inl e)
      have ky := HBY.out.keep (hk.mono fun b _ e => .inr e)
      have kx0 := kx.cell (i := 0) rfl
      have kx1 := kx.cell (i := 1) rfl
      have kx2 := kx.cell (i := 2) rfl
      have ky0 := ky.cell (i := 0) rfl
      have ky1 := ky.cell (i := 1) rfl
      have ky2 := ky.cell (i := 2) rfl
      clear hk kx ky
      clear hR hN hp hρ
      go_light
      go_simp
      exact ⟨rfl, rfl⟩
    · rfl
    refine Chain.step (FP fun v γ w' => ∃ r, v = .agg #[.bool true, .string r, .int .i64 (S : Int)] ∧ isN r (m1 + m2)) (by rfl) (FP.stab ?_) ?_ ?_
    · intro v γ w1 γ' w2 r h
      exact h
    · intro vals γ w' ρ hR hN hp hρ hc hf hg
      refine ⟨rfl, ?_⟩
      have e30 : ρ (.tmp 30) = _ := (hρ 30).trans (hp 1 (by decide))
      obtain ⟨r6, hv6, hn6⟩ := hp 6 (by decide)
      have e35 := (hρ 35).trans hv6
      have e37 : ρ (.tmp 37) = _ := (hρ 37).trans (hp 8 (by decide))
      have HN6 := Lib.hid hn6
      clear hR hN hp hρ hn6
      go_light
      go_simp
      exact ⟨γ, LX.refl _ _ _, fun _ _ _ h => h, r6, rfl, HN6.out⟩
    refine Chain.step (fun _ γ w' => ∃ r, (Blk w' g3 120 #[.bool true, .string r, .int .i64 (S : Int)] ∧ γ 1010 = some none ∧ Free γ g3) ∧ isN r (m1 + m2)) (by rfl) ?_ ?_ ?_
    · intro l γ w1 γ' w2 rr h
      obtain ⟨r, ⟨h1, h2, h3⟩, hnr⟩ := h
      exact ⟨r, ⟨h1.keep (rr.keptS fun b _ e => ⟨by rw [e]; exact h3, fun m hm => by rw [hm.1, h2, rr.done _ h2]⟩), rr.done _ h2, rr.free h1.lt h3⟩, hnr⟩
    · intro vals γ w' ρ hR hN hp hρ hc hf hg
      refine ⟨rfl, ?_⟩
      have e4 := hρ 4
      conv at e4 => rhs; whnf
      obtain ⟨r, hv9, hn9⟩ := hp 9 (by decide)
      have e38 := (hρ 38).trans hv9
      have HN9 := Lib.hid hn9
      clear hn9
      have HR := Lib.hid hR
      have hk0 := hR.key0 hN (k := 1010) (by decide) (by decide)
      have HK := Lib.hid hk0
      have hb0 := HE3.out.keep ((Kept.drew _ _).trans (hR.keptS (S := fun b => b = g3) fun b _ e => ⟨free0 b, fun m hm => by rw [hm.1]; exact hk0⟩))
      have HB0 := Lib.hid hb0
      have q0 := hb0.cell (i := 0) rfl
      have q1 := hb0.cell (i := 1) rfl
      have q2 := hb0.cell (i := 2) rfl
      have qf := hb0.frozen
      have ql := hb0.lt
      clear hR hN hp hρ hk0 hb0
      go_light
      go_simp
      refine ⟨γ.put 1010 none, LX.write HK.out rfl rfl rfl (by simp [World.setCell]) (fun b hb hm => (((((Only.refl g3 w').set 0 (.bool true)).set 1 (.string r)).set 2 (.int .i64 (S : Int)))).block b fun e => hm ⟨rfl, e⟩), LM.done (by decide) (.inr (by decide)), ?_⟩
      have hb1 := HB0.out
      exact ⟨r, ⟨by simpa using (((hb1.set 0 (.bool true)).set 1 (.string r)).set 2 (.int .i64 (S : Int))), rfl, fun ⟨k', hk'⟩ => by unfold Gh.put at hk'; split at hk'; (cases hk'); exact absurd (HR.out.old k' _ hk' (by have := HE3.out.lt; exact this)) (by simp [gh0])⟩, HN9.out⟩
    intro vals γ w9 hR hG
    have v0 : vals 0 = _ := hG 0 (by decide)
    have v1 : vals 1 = _ := hG 1 (by decide)
    have v2 : vals 2 = _ := hG 2 (by decide)
    have v3 : vals 3 = _ := hG 3 (by decide)
    have v4 : vals 4 = _ := hG 4 (by decide)
    have v5 : vals 5 = _ := hG 5 (by decide)
    obtain ⟨q6, v6, -⟩ := hG 6 (by decide)
    have v7 : vals 7 = _ := hG 7 (by decide)
    have v8 : vals 8 = _ := hG 8 (by decide)
    obtain ⟨q9, v9, -⟩ := hG 9 (by decide)
    simp only [lexFrame, Act.put, List.setIfInBounds_toArray, List.set_cons_succ, List.set_cons_zero, Nat.zero_add, Nat.reduceAdd, v0, v1, v2, v3, v4, v5, v6, v7, v8, v9]
    clear v0 v1 v2 v3 v4 v5 v6 v7 v8 v9
    obtain ⟨r, ⟨hb9, -, -⟩, hn9⟩ := hG 10 (by decide)
    have c0 := hb9.cell (i := 0) rfl
    have c1 := hb9.cell (i := 1) rfl
    have c2 := hb9.cell (i := 2) rfl
    have cl := hb9.lt
    have HX9 := Lib.hid (hR.extB HX4.out fun m b hm => by rw [hm.2]; exact HGW)
    have HN9 := Lib.hid hn9
    clear hb9 hn9 hR hG
    go_wp2
    refine bodyPost_ret (v := .agg #[.bool true, .string r, .int .i64 (S : Int)]) (by simp [results, Tryz.results103, go_sem, c0, c1, c2, cl]) rfl ⟨true, r, m1 + m2, rfl, HN9.out, by simp [sv]; try omega, ?_, HX9.out⟩
    exact Nat.lt_of_lt_of_le (Nat.add_lt_add HM1.out HM2.out) (by decide)
end Go.Proofs.YtcmmkeiiapbgcaaGreatDoor
/- The reference's Cmp and Add of decimals are those of the program. Conditions: none. -/
namespace Go.Proofs.YtcmmkeiiapbgcaaGreatDoor
open Go Go.RowKit

theorem pw_split : ∀ S : Nat, S < 7 → ∀ s : Nat, s < S + 1 → pw (6 - (s : Int)) = ((10 ^ (S - s) : Nat) : Int) * pw (6 - (S : Int)) := by decide
theorem pw_pos : ∀ S : Nat, S < 7 → 0 < pw (6 - (S : Int)) := by decide
theorem sv_abs (v : Int) : sv (decide (v < 0)) v.natAbs = v := by unfold sv; by_cases h : v < 0 <;> simp [h] <;> omega
theorem sv_not (v : Int) : sv (!decide (v < 0)) v.natAbs = -v := by unfold sv; by_cases h : v < 0 <;> simp [h] <;> omega
theorem sv_mul (b : Bool) (n k : Nat) : sv b (n * k) = sv b n * (k : Int) := by cases b <;> simp [sv, Int.neg_mul]
/-- The parts of a decimal. -/
structure Dc (a b v : Int) (s : Nat) : Prop where
  mu : mu a b = v * pw (6 - (s : Int))
  s6 : s ≤ 6
  v1 : (valD a b).1 = v
  v2 : (valD a b).2.toNat = s
  lo : -1000000000000000 ≤ v
  hi : v ≤ 1000000000000000
theorem Dc.of (a b : Int) : ∃ v s, Dc a b v s := by
  have h := valD_range a b
  refine ⟨(valD a b).1, (valD a b).2.toNat, ?_, by omega, rfl, rfl, h.2.2.1, h.2.2.2⟩
  rw [Int.toNat_of_nonneg h.1]
  rfl
theorem Dc.lt {a b v : Int} {s : Nat} (h : Dc a b v s) : v.natAbs < 256 ^ 20 := by
  have h1 := h.lo
  have h2 := h.hi
  exact Nat.lt_of_le_of_lt (show v.natAbs ≤ 1000000000000000 by omega) (by decide)
theorem mu_sum {a b v a' b' v' : Int} {s s' S : Nat} (h : Dc a b v s) (h' : Dc a' b' v' s') (hS : S = max s s') : (v * ((10 ^ (S - s) : Nat) : Int) + v' * ((10 ^ (S - s') : Nat) : Int)) * pw (6 - (S : Int)) = mu a b + mu a' b' := by
  have h1 := h.s6
  have h2 := h'.s6
  rw [h.mu, h'.mu, pw_split S (by omega) s (by omega), pw_split S (by omega) s' (by omega), Int.add_mul, Int.mul_assoc, Int.mul_assoc]
theorem mu_dif {a b v a' b' v' : Int} {s s' S : Nat} (h : Dc a b v s) (h' : Dc a' b' v' s') (hS : S = max s s') : (v * ((10 ^ (S - s) : Nat) : Int) + (-v') * ((10 ^ (S - s') : Nat) : Int)) * pw (6 - (S : Int)) = mu a b - mu a' b' := by
  have h1 := h.s6
  have h2 := h'.s6
  rw [h.mu, h'.mu, pw_split S (by omega) s (by omega), pw_split S (by omega) s' (by omega), Int.add_mul, Int.neg_mul, Int.neg_mul, Int.mul_assoc, Int.mul_assoc]
  exact Int.sub_eq_add_neg.symm
theorem cmp_sign {V p x y : Int} (hp : 0 < p) (h : V * p = x - y) : (V = 0 → cmpI x y = 0) ∧ (V < 0 → cmpI x y = -1) ∧ (0 < V → cmpI x y = 1) := by
  refine ⟨fun h0 => ?_, fun h0 => ?_, fun h0 => ?_⟩
  · rw [h0, Int.zero_mul] at h
    unfold cmpI
    rw [if_neg (by omega), if_neg (by omega)]
  · have := Int.mul_neg_of_neg_of_pos h0 hp
    unfold cmpI
    rw [if_pos (by omega)]
  · have := Int.mul_pos h0 hp
    unfold cmpI
    rw [if_neg (by omega), if_pos (by omega)]
theorem strip_ok : ∀ (s n : Nat), (strip s n).2 ≤ s ∧ (strip s n).1 * 10 ^ (s - (strip s n).2) = n ∧ ((strip s n).2 = 0 ∨ (strip s n).1 % 10 ≠ 0)
  | 0, n => by simp [strip]
  | s + 1, n => by
    unfold strip
    split
    · rename_i h
      obtain ⟨h1, h2, h3⟩ := strip_ok s (n / 10)
      refine ⟨by omega, ?_, h3⟩
      rw [show s + 1 - (strip s (n / 10)).2 = (s - (strip s (n / 10)).2) + 1 by omega, Nat.pow_succ, ← Nat.mul_assoc, h2]
      omega
    · rename_i h
      exact ⟨Nat.le_refl _, by simp, .inr h⟩
theorem fitS_join (neg : Bool) (n S : Nat) (hS : S ≤ 6) : fitS neg n S = joinS (sv neg n * pw (6 - (S : Int))) := by
  obtain ⟨h1, h2, h3⟩ := strip_ok S n
  obtain ⟨m, hm⟩ : ∃ m, m = (strip S n).1 := ⟨_, rfl⟩
  obtain ⟨t, ht⟩ : ∃ t, t = (strip S n).2 := ⟨_, rfl⟩
  unfold fitS joinS
  rw [← hm, ← ht] at h2 h3 ⊢
  rw [← ht] at h1
  have hn : normU (sv neg n * pw (6 - (S : Int))) = (sv neg m, (t : Int)) := by
    refine normU_of (by omega) (by omega) ?_ ?_
    · rw [pw_split S (by omega) t (by omega), ← h2, sv_mul, Int.mul_assoc]
    · rcases h3 with h3 | h3
      · left; omega
      · right; cases neg <;> simp [sv] <;> omega
  rw [hn]
  have hu : unitsB (sv neg m) = decide (m ≤ 1000000000000000) := by
    cases neg <;> simp [unitsB, sv] <;> omega
  rw [hu]
  by_cases hm15 : m ≤ 1000000000000000
  · rw [if_pos ⟨hm15, by omega⟩, decide_eq_true hm15]
    cases neg <;> rfl
  · rw [if_neg (fun e => hm15 e.1), decide_eq_false hm15]
    rfl
def IsPl (V : Int) (S : Nat) (v : Value) : Prop := ∃ (neg : Bool) (r : ByteArray) (n : Nat), v = .agg #[.bool neg, .string r, .int .i64 (S : Int)] ∧ isN r n ∧ sv neg n = V ∧ n < 256 ^ 50
set_option maxRecDepth 100000 in
set_option maxHeartbeats 4000000 in
theorem r04_Cmp (a b a' b' : Int) (w : World) : Calls Tryz.prog 61 #[.agg #[.int .i64 a, .int .i64 b], .agg #[.int .i64 a', .int .i64 b']] w (RetI w (cmpI (mu a b) (mu a' b'))) := by
  obtain ⟨v1, s1, hd1⟩ := Dc.of a b
  obtain ⟨v2, s2, hd2⟩ := Dc.of a' b'
  obtain ⟨S, hS⟩ : ∃ S, S = max s1 s2 := ⟨_, rfl⟩
  have hdif := mu_dif hd1 hd2 hS
  have hsg := cmp_sign (pw_pos S (by have := hd1.s6; have := hd2.s6; omega)) hdif
  have HSG := Lib.hid hsg
  have HD1 := Lib.hid hd1
  have HD2 := Lib.hid hd2
  have HS := Lib.hid hS
  obtain ⟨n1, hn1⟩ : ∃ n1, n1 = decide (v1 < 0) := ⟨_, rfl⟩
  obtain ⟨n2, hn2⟩ : ∃ n2, n2 = decide (v2 < 0) := ⟨_, rfl⟩
  have HN1 := Lib.hid hn1
  have HN2 := Lib.hid hn2
  clear hdif hsg hd1 hd2 hS hn1 hn2
  obtain ⟨w0, hw0⟩ : ∃ w0, w0 = (w.alloc (.cells #[.int .i64 a, .int .i64 b] 31)).alloc (.cells #[.int .i64 a', .int .i64 b'] 31) := ⟨_, rfl⟩
  have hb1 : Blk w0 w.heap.size 31 #[.int .i64 a, .int .i64 b] := by rw [hw0]; exact (Blk.new _ _ _).keep (Kept.alloc _ _ _)
  have hb2 : Blk w0 (w.heap.size + 1) 31 #[.int .i64 a', .int .i64 b'] := by
    rw [hw0]
    have := Blk.new (w.alloc (.cells #[.int .i64 a, .int .i64 b] 31)) 31 #[.int .i64 a', .int .i64 b']
    simpa using this
  have hx0 : Ext w w0 := by rw [hw0]; exact ((Ext.refl w).alloc _).alloc _
  have HW0 := Lib.hid hw0
  have HX0 := Lib.hid hx0
  have HB2 := Lib.hid hb2
  clear hw0 hx0 hb1 hb2
  go_enter Tryz.func61, Tryz.ntmps61
  go_wp2_with fail
  rw [← HW0.out]
  refine (r04_big a b w0).mono ?_
  rintro e1 w1 ⟨N1, rfl, hr1, hx1⟩
  rw [HD1.out.v1, HD1.out.v2, ← HN1.out]
  rw [HD1.out.v1] at hr1
  have HR1 := Lib.hid hr1
  obtain ⟨w2, hw2⟩ : ∃ w2, w2 = w1.alloc (.cells #[.bool n1, .string N1, .int .i64 (s1 : Int)] 120) := ⟨_, rfl⟩
  obtain ⟨gx, hgx⟩ : ∃ gx, gx = w1.heap.size := ⟨_, rfl⟩
  have hx12 : Ext w1 w2 := by rw [hw2]; exact (Ext.refl _).alloc _
  have HBX := Lib.hid (show Blk w2 gx 120 #[.bool n1, .string N1, .int .i64 (s1 : Int)] by rw [hw2, hgx]; exact Blk.new _ _ _)
  have HX2 := Lib.hid (HX0.out.trans (hx1.trans hx12))
  have hb2 := HB2.out.keep (hx1.kept _)
  have p0 := hb2.cell (i := 0) rfl
  have p1 := hb2.cell (i := 1) rfl
  have pl := hb2.lt
  have hgw : w.heap.size ≤ gx := by have := HX0.out.size; have := hx1.size; omega
  have HW2 := Lib.hid hw2
  have HGX := Lib.hid hgx
  clear hr1 hx1 hw2 hgx hx12 hb2 HB2 HX0 HW0
  go_wp2_with fail
  rw [← HW2.out, ← HGX.out]
  clear p0 p1 pl
  refine (r04_big a' b' w2).mono ?_
  rintro e3 w3 ⟨N2, rfl, hr2, hx3⟩
  rw [HD2.out.v1, HD2.out.v2, ← HN2.out]
  rw [HD2.out.v1] at hr2
  have HR2 := Lib.hid hr2
  obtain ⟨w4, hw4⟩ : ∃ w4, w4 = w3.alloc (.cells #[.bool (!n2), .string N2, .int .i64 (s2 : Int)] 120) := ⟨_, rfl⟩
  have hx34 : Ext w3 w4 := by rw [hw4]; exact (Ext.refl _).alloc _
  have HX4 := Lib.hid (HX2.out.trans (hx3.trans hx34))
  have hbx := HBX.out.keep (hx3.kept _)
  have q0 := hbx.cell (i := 0) rfl
  have q1 := hbx.cell (i := 1) rfl
  have q2 := hbx.cell (i := 2) rfl
  have ql := hbx.lt
  have HW4 := Lib.hid hw4
  clear hr2 hx3 hw4 hx34 hbx HX2 HW2 HBX
  go_wp2_with fail
  rw [← HW4.out]
  refine (r04_plus n1 (!n2) N1 N2 s1 s2 S HR1.out.2.2 HR2.out.2.2 (by rw [HR1.out.1]; exact HD1.out.lt) (by rw [HR2.out.1]; exact HD2.out.lt) HD1.out.s6 HD2.out.s6 HS.out w4).mono ?_
  rintro e5 w5 ⟨neg, r, n, rfl, hr, hsv, -, hx5⟩
  rw [HR1.out.1, HR2.out.1, sv_mul, sv_mul, HN1.out, HN2.out, sv_abs, sv_not] at hsv
  rw [← hsv] at HSG
  have hrz := can_nil hr.2.1
  rw [hr.1] at hrz
  have HX5 := Lib.hid (HX4.out.trans hx5)
  clear hsv hr hx5 q0 q1 q2 ql
  by_cases h0 : n = 0
  · have hf := HSG.out.1 (by subst h0; cases neg <;> rfl)
    have HF := Lib.hid hf
    have hs0 : ((r.size : Int) == 0) = true := by rw [hrz.2 h0]; rfl
    clear hf hrz
    go_wp2
    go_ret
    exact ⟨by rw [HF.out]; rfl, HX5.out.alloc _⟩
  · have hs0 : ((r.size : Int) == 0) = false := by rw [beq_eq_false_iff_ne]; intro e; exact h0 (hrz.1 (by omega))
    cases neg
    · have HF := Lib.hid (HSG.out.2.2 (by simp [sv]; omega))
      clear hrz
      go_wp2
      go_ret
      exact ⟨by rw [HF.out]; rfl, HX5.out.alloc _⟩
    · have HF := Lib.hid (HSG.out.2.1 (by simp [sv]; omega))
      clear hrz
      go_wp2
      go_ret
      exact ⟨by rw [HF.out]; rfl, HX5.out.alloc _⟩
set_option maxRecDepth 100000 in
set_option maxHeartbeats 4000000 in
theorem r04_Add (a b a' b' : Int) (w : World) : Calls Tryz.prog 60 #[.agg #[.int .i64 a, .int .i64 b], .agg #[.int .i64 a', .int .i64 b']] w (RetDB w (addS a b a' b')) := by
  obtain ⟨v1, s1, hd1⟩ := Dc.of a b
  obtain ⟨v2, s2, hd2⟩ := Dc.of a' b'
  obtain ⟨S, hS⟩ : ∃ S, S = max s1 s2 := ⟨_, rfl⟩
  have hsum := mu_sum hd1 hd2 hS
  have hS6 : S ≤ 6 := by have := hd1.s6; have := hd2.s6; omega
  have HD1 := Lib.hid hd1
  have HD2 := Lib.hid hd2
  have HS := Lib.hid hS
  obtain ⟨n1, hn1⟩ : ∃ n1, n1 = decide (v1 < 0) := ⟨_, rfl⟩
  obtain ⟨n2, hn2⟩ : ∃ n2, n2 = decide (v2 < 0) := ⟨_, rfl⟩
  have HN1 := Lib.hid hn1
  have HN2 := Lib.hid hn2
  obtain ⟨V, hV⟩ : ∃ V : Int, V = v1 * ((10 ^ (S - s1) : Nat) : Int) + v2 * ((10 ^ (S - s2) : Nat) : Int) := ⟨_, rfl⟩
  rw [← hV] at hsum
  have HSUM := Lib.hid (show joinS (V * pw (6 - (S : Int))) = addS a b a' b' by rw [hsum]; rfl)
  have HVV := Lib.hid hV
  obtain ⟨res, hres⟩ : ∃ res, res = addS a b a' b' := ⟨_, rfl⟩
  rw [← hres] at HSUM ⊢
  clear hsum hd1 hd2 hS hn1 hn2 hV hres
  obtain ⟨w0, hw0⟩ : ∃ w0, w0 = ((w.alloc (.cells #[.int .i64 a, .int .i64 b] 31)).alloc (.cells #[.int .i64 a', .int .i64 b'] 31)).alloc (.cells #[.int .i64 0, .int .i64 0] 31) := ⟨_, rfl⟩
  have hb1 : Blk w0 w.heap.size 31 #[.int .i64 a, .int .i64 b] := by rw [hw0]; exact ((Blk.new _ _ _).keep (Kept.alloc _ _ _)).keep (Kept.alloc _ _ _)
  have hb2 : Blk w0 (w.heap.size + 1) 31 #[.int .i64 a', .int .i64 b'] := by
    rw [hw0]
    have := (Blk.new (w.alloc (.cells #[.int .i64 a, .int .i64 b] 31)) 31 #[.int .i64 a', .int .i64 b']).keep (Kept.alloc _ _ (.cells #[.int .i64 0, .int .i64 0] 31))
    simpa using this
  have hb3 : Blk w0 (w.heap.size + 1 + 1) 31 #[.int .i64 0, .int .i64 0] := by
    rw [hw0]
    have := Blk.new ((w.alloc (.cells #[.int .i64 a, .int .i64 b] 31)).alloc (.cells #[.int .i64 a', .int .i64 b'] 31)) 31 #[.int .i64 0, .int .i64 0]
    simpa using this
  have hx0 : Ext w w0 := by rw [hw0]; exact (((Ext.refl w).alloc _).alloc _).alloc _
  obtain ⟨g1, hg1⟩ : ∃ g1, g1 = w.heap.size := ⟨_, rfl⟩
  obtain ⟨g2, hg2⟩ : ∃ g2, g2 = w.heap.size + 1 := ⟨_, rfl⟩
  obtain ⟨g3, hg3⟩ : ∃ g3, g3 = w.heap.size + 1 + 1 := ⟨_, rfl⟩
  have hne1 : g1 ≠ g3 := by omega
  have hne2 : g2 ≠ g3 := by omega
  have HW0 := Lib.hid hw0
  have HG1 := Lib.hid hg1
  have HG2 := Lib.hid hg2
  have HG3 := Lib.hid hg3
  have HGW : w.heap.size ≤ g3 := by omega
  rw [← hg1] at hb1
  rw [← hg2] at hb2
  rw [← hg3] at hb3
  have HC1 := Lib.hid hb1
  have HC2 := Lib.hid hb2
  have HC3 := Lib.hid hb3
  have HX0 := Lib.hid hx0
  clear hb1 hb2 hb3 hx0 hw0 hg1 hg2 hg3
  go_enter Tryz.func60, Tryz.ntmps60
  go_upto_region 1 with fail
  rw [← HW0.out, ← HG3.out, ← HG2.out, ← HG1.out]
  refine wp_region_chain (by kernel_rfl) (fun i => [i]) (by kernel_rfl) (LX (fun m b => m = 1008 ∧ b = g3)) (LX.refl _) (LX.trans _) (LM [(8, [1008])]) gh0 (LM.zero _) ?_
  apply Chain.pure (LX.refl _) (by rfl)
  · intro vals γ w' ρ hR hN hp hρ hc hf hg
    refine ⟨rfl, ?_⟩
    have e2 := hρ 2
    conv at e2 => rhs; whnf
    have hk := hR.kept0 (S := fun b => b = g1 ∨ b = g2) (fun b hb m hm => by rcases hb with e | e <;> omega)
    have k1 := HC1.out.keep (hk.mono fun b _ e => .inl e)
    have k2 := HC2.out.keep (hk.mono fun b _ e => .inr e)
    have k10 := k1.cell (i := 0) rfl
    have k11 := k1.cell (i := 1) rfl
    have k20 := k2.cell (i := 0) rfl
    have k21 := k2.cell (i := 1) rfl
    clear hk k1 k2
    clear hR hN hp hρ
    go_light
    go_simp
    exact ⟨rfl, rfl⟩
  · rfl
  refine Chain.step (FP fun v γ w' => ∃ r, v = .agg #[.bool n1, .string r, .int .i64 (s1 : Int)] ∧ isN r v1.natAbs) (by rfl) (FP.stab ?_) ?_ ?_
  · intro v γ w1 γ' w2 r h
    exact h
  · intro vals γ w' ρ hR hN hp hρ hc hf hg
    refine ⟨rfl, ?_⟩
    have e6 : ρ (.tmp 6) = _ := (hρ 6).trans (hp 0 (by decide))
    have HR := Lib.hid hR
    clear hR hN hp hρ
    go_light
    go_simp
    refine (r04_big a b w').mono ?_
    rintro e1 w3 ⟨r, he, h1, hx⟩
    exact ⟨_, he, γ, LX.of_ext _ γ hx, fun _ _ _ h => h, r, by rw [HD1.out.v1, HD1.out.v2, ← HN1.out]; rfl, by rw [HD1.out.v1] at h1; exact h1⟩
  apply Chain.pure (LX.refl _) (by rfl)
  · intro vals γ w' ρ hR hN hp hρ hc hf hg
    refine ⟨rfl, ?_⟩
    have e3 := hρ 3
    conv at e3 => rhs; whnf
    have hk := hR.kept0 (S := fun b => b = g1 ∨ b = g2) (fun b hb m hm => by rcases hb with e | e <;> omega)
    have k1 := HC1.out.keep (hk.mono fun b _ e => .inl e)
    have k2 := HC2.out.keep (hk.mono fun b _ e => .inr e)
    have k10 := k1.cell (i := 0) rfl
    have k11 := k1.cell (i := 1) rfl
    have k20 := k2.cell (i := 0) rfl
    have k21 := k2.cell (i := 1) rfl
    clear hk k1 k2
    clear hR hN hp hρ
    go_light
    go_simp
    exact ⟨rfl, rfl⟩
  · rfl
  refine Chain.step (FP fun v γ w' => ∃ r, v = .agg #[.bool n2, .string r, .int .i64 (s2 : Int)] ∧ isN r v2.natAbs) (by rfl) (FP.stab ?_) ?_ ?_
  · intro v γ w1 γ' w2 r h
    exact h
  · intro vals γ w' ρ hR hN hp hρ hc hf hg
    refine ⟨rfl, ?_⟩
    have e8 : ρ (.tmp 8) = _ := (hρ 8).trans (hp 2 (by decide))
    have HR := Lib.hid hR
    clear hR hN hp hρ
    go_light
    go_simp
    refine (r04_big a' b' w').mono ?_
    rintro e1 w3 ⟨r, he, h1, hx⟩
    exact ⟨_, he, γ, LX.of_ext _ γ hx, fun _ _ _ h => h, r, by rw [HD2.out.v1, HD2.out.v2, ← HN2.out]; rfl, by rw [HD2.out.v1] at h1; exact h1⟩
  refine Chain.step (FP fun v γ w' => IsPl V S v) (by rfl) (FP.stab ?_) ?_ ?_
  · intro v γ w1 γ' w2 r h
    exact h
  · intro vals γ w' ρ hR hN hp hρ hc hf hg
    refine ⟨rfl, ?_⟩
    obtain ⟨r1, hv1, hn1⟩ := hp 1 (by decide)
    have e7 := (hρ 7).trans hv1
    obtain ⟨r2, hv2, hn2⟩ := hp 3 (by decide)
    have e9 := (hρ 9).trans hv2
    have HR := Lib.hid hR
    have HI1 := Lib.hid hn1
    have HI2 := Lib.hid hn2
    clear hn1 hn2
    clear hR hN hp hρ
    go_light
    go_simp
    refine (r04_plus n1 n2 r1 r2 s1 s2 S HI1.out.2.2 HI2.out.2.2 (by rw [HI1.out.1]; exact HD1.out.lt) (by rw [HI2.out.1]; exact HD2.out.lt) HD1.out.s6 HD2.out.s6 HS.out w').mono ?_
    rintro e1 w3 ⟨neg, r, n, he, h1, h2, h3, hx⟩
    exact ⟨_, he, γ, LX.of_ext _ γ hx, fun _ _ _ h => h, ⟨neg, r, n, rfl, h1, by rw [HVV.out, h2, HI1.out.1, HI2.out.1, sv_mul, sv_mul, HN1.out, HN2.out, sv_abs, sv_abs], h3⟩⟩
  refine Chain.step (FP fun v γ w' => v = .tuple #[.agg #[.int .i64 res.1.1, .int .i64 res.1.2], .bool res.2]) (by rfl) (FP.stab ?_) ?_ ?_
  · intro v γ w1 γ' w2 r h
    exact h
  · intro vals γ w' ρ hR hN hp hρ hc hf hg
    refine ⟨rfl, ?_⟩
    obtain ⟨neg, r5, n, hv5, hn5⟩ := hp 4 (by decide)
    have e10 := (hρ 10).trans hv5
    have HR := Lib.hid hR
    have HI5 := Lib.hid hn5
    clear hn5
    clear hR hN hp hρ
    go_light
    go_simp
    refine (r04_fit quoC neg r5 S n HI5.out.1.1 (by omega) HI5.out.1.2.2 (Nat.lt_trans HI5.out.2.2 (Nat.pow_lt_pow_right (by decide) (by decide))) w').mono ?_
    rintro e1 w3 ⟨he, hx⟩
    exact ⟨_, he, γ, LX.of_ext _ γ hx, fun _ _ _ h => h, by rw [fitS_join _ _ _ hS6, HI5.out.2.1, HSUM.out]; rfl⟩
  apply Chain.pure (LX.refl _) (by rfl)
  · intro vals γ w' ρ hR hN hp hρ hc hf hg
    refine ⟨rfl, ?_⟩
    have e11 : ρ (.tmp 11) = _ := (hρ 11).trans (hp 5 (by decide))
    clear hR hN hp hρ
    go_light
    go_simp
    exact ⟨rfl, rfl⟩
  · rfl
  apply Chain.pure (LX.refl _) (by rfl)
  · intro vals γ w' ρ hR hN hp hρ hc hf hg
    refine ⟨rfl, ?_⟩
    have e11 : ρ (.tmp 11) = _ := (hρ 11).trans (hp 5 (by decide))
    clear hR hN hp hρ
    go_light
    go_simp
    exact ⟨rfl, rfl⟩
  · rfl
  refine Chain.step (fun _ γ w' => (Blk w' g3 31 #[.int .i64 res.1.1, .int .i64 res.1.2] ∧ γ 1008 = some none ∧ Free γ g3)) (by rfl) ?_ ?_ ?_
  · intro l γ w1 γ' w2 rr h
    obtain ⟨h1, h2, h3⟩ := h
    exact ⟨h1.keep (rr.keptS fun b _ e => ⟨by rw [e]; exact h3, fun m hm => by rw [hm.1, h2, rr.done _ h2]⟩), rr.done _ h2, rr.free h1.lt h3⟩
  · intro vals γ w' ρ hR hN hp hρ hc hf hg
    refine ⟨rfl, ?_⟩
    have e4 := hρ 4
    conv at e4 => rhs; whnf
    have e12 : ρ (.tmp 12) = _ := (hρ 12).trans (hp 6 (by decide))
    have HR := Lib.hid hR
    have hk0 := hR.key0 hN (k := 1008) (by decide) (by decide)
    have HK := Lib.hid hk0
    have hb0 := HC3.out.keep ((Kept.drew _ _).trans (hR.keptS (S := fun b => b = g3) fun b _ e => ⟨free0 b, fun m hm => by rw [hm.1]; exact hk0⟩))
    have HB0 := Lib.hid hb0
    have q0 := hb0.cell (i := 0) rfl
    have q1 := hb0.cell (i := 1) rfl
    have qf := hb0.frozen
    have ql := hb0.lt
    clear hR hN hp hρ hk0 hb0
    go_light
    go_simp
    refine ⟨γ.put 1008 none, LX.write HK.out rfl rfl rfl (by simp [World.setCell]) (fun b hb hm => ((((Only.refl g3 w').set 0 (.int .i64 res.1.1)).set 1 (.int .i64 res.1.2))).block b fun e => hm ⟨rfl, e⟩), LM.done (by decide) (.inr (by decide)), ?_⟩
    have hb1 := HB0.out
    exact ⟨by simpa using ((hb1.set 0 (.int .i64 res.1.1)).set 1 (.int .i64 res.1.2)), rfl, fun ⟨k', hk'⟩ => by unfold Gh.put at hk'; split at hk'; (cases hk'); exact absurd (HR.out.old k' _ hk' (by have := HC3.out.lt; exact this)) (by simp [gh0])⟩
  apply Chain.pure (LX.refl _) (by rfl)
  · intro vals γ w' ρ hR hN hp hρ hc hf hg
    refine ⟨rfl, ?_⟩
    have e13 : ρ (.tmp 13) = _ := (hρ 13).trans (hp 7 (by decide))
    clear hR hN hp hρ
    go_light
    go_simp
    exact ⟨rfl, rfl⟩
  · rfl
  intro vals γ w9 hR hG
  have v0 : vals 0 = _ := hG 0 (by decide)
  obtain ⟨q1, v1_, -⟩ := hG 1 (by decide)
  have v2 : vals 2 = _ := hG 2 (by decide)
  obtain ⟨q3, v3_, -⟩ := hG 3 (by decide)
  obtain ⟨q4, q5, q6, v4_, -⟩ := hG 4 (by decide)
  have v5 : vals 5 = _ := hG 5 (by decide)
  have v6 : vals 6 = _ := hG 6 (by decide)
  have v7 : vals 7 = _ := hG 7 (by decide)
  have v9 : vals 9 = _ := hG 9 (by decide)
  simp only [lexFrame, Act.put, List.setIfInBounds_toArray, List.set_cons_succ, List.set_cons_zero, Nat.zero_add, Nat.reduceAdd, v0, v1_, v2, v3_, v4_, v5, v6, v7, v9]
  clear v0 v1_ v2 v3_ v4_ v5 v6 v7 v9
  obtain ⟨hb9, -, -⟩ := hG 8 (by decide)
  have c0 := hb9.cell (i := 0) rfl
  have c1 := hb9.cell (i := 1) rfl
  have cl := hb9.lt
  have HX9 := Lib.hid (hR.extB HX0.out fun m b hm => by rw [hm.2]; exact HGW)
  clear hb9 hR hG
  go_wp2
  refine bodyPost_ret (v := .tuple #[.agg #[.int .i64 res.1.1, .int .i64 res.1.2], .bool res.2]) (by simp [results, Tryz.results60, go_sem, c0, c1, cl]) rfl ⟨rfl, HX9.out⟩
end Go.Proofs.YtcmmkeiiapbgcaaGreatDoor
/- Variables that a drawn region makes and stores, under the chain rules. No conditions. -/
namespace Go.Proofs.YtcmmkeiiapbgcaaGreatDoor
open Go Go.RowKit
section
variable {X : Nat → Nat → Prop} {γ γ' : Gh} {w w' : World}
/-- The value of an alloc: a variable of type t and n cells, to be stored. -/
def VarX (X : Nat → Nat → Prop) (k t n : Nat) (v : Value) (γ : Gh) (w : World) : Prop := ∃ g cs, v = .pointer (some ⟨g, 0, none⟩) ∧ cs.size = n ∧ Blk w g t cs ∧ (γ k = some (some g) ∨ γ k = some none) ∧ (∀ j, γ j = some (some g) → j = k) ∧ ∀ m, ¬ X m g
theorem VarX.stab {k t n : Nat} : ∀ v γ w γ' w', LX X γ w γ' w' → VarX X k t n v γ w → VarX X k t n v γ' w' := by
  rintro v γ w γ' w' r ⟨g, cs, h1, h2, h3, h4, h5, h6⟩
  obtain ⟨cs', e, h7⟩ := r.shape g t cs h3 h6
  refine ⟨g, cs', h1, e.trans h2, h7, ?_, fun j hj => h5 j (r.old j g hj h3.lt), h6⟩
  rcases h4 with h4 | h4
  · exact r.on k g h4
  · exact .inr (r.done k h4)
theorem VarX.new {k t n : Nat} (hf : ∀ j b, γ j = some (some b) → b < w.heap.size) {cs : Array Value} (hn : cs.size = n) (hX : ∀ m b, X m b → b < w.heap.size) : VarX X k t n (.pointer (some ⟨w.heap.size, 0, none⟩)) (γ.put k (some w.heap.size)) (w.alloc (.cells cs t)) := by
  refine ⟨_, cs, rfl, hn, Blk.new w t cs, .inl (by simp [Gh.put]), fun j hj => ?_, fun m hm => by have := hX m _ hm; omega⟩
  unfold Gh.put at hj
  split at hj
  · assumption
  · have := hf j _ hj
    omega
/-- The variable's block behind its store. -/
def VarXI (X : Nat → Nat → Prop) (t : Nat) (v : Value) (cs : Array Value) (γ : Gh) (w : World) : Prop := ∃ g, v = .pointer (some ⟨g, 0, none⟩) ∧ Blk w g t cs ∧ Free γ g ∧ ∀ m, ¬ X m g
theorem VarXI.lx {t : Nat} {v : Value} {cs : Array Value} (r : LX X γ w γ' w') (h : VarXI X t v cs γ w) : VarXI X t v cs γ' w' := by
  obtain ⟨g, h1, h2, h3, h4⟩ := h
  exact ⟨g, h1, h2.keep (r.keptS fun b _ e => ⟨by rw [e]; exact h3, fun m hm => absurd (e ▸ hm) (h4 m)⟩), r.free h2.lt h3, h4⟩
theorem VarX.stored {l : List (Nat × List Nat)} {s k t n : Nat} {v : Value} (h : VarX X k t n v γ w) (hs : k ∈ alF l s) (hn : LM l s γ) :
    ∃ g cs, v = .pointer (some ⟨g, 0, none⟩) ∧ cs.size = n ∧ Blk w g t cs ∧ γ k = some (some g) ∧ ∀ w' cs', Only g w w' → Blk w' g t cs' → cs'.size = n → LX X γ w (γ.put k none) w' ∧ VarXI X t v cs' (γ.put k none) w' := by
  obtain ⟨g, cs, h1, h2, h3, h4, h5, h6⟩ := h
  have hk : γ k = some (some g) := by
    rcases h4 with h4 | h4
    · exact h4
    · exact absurd h4 (hn.1 k hs)
  refine ⟨g, cs, h1, h2, h3, hk, fun w' cs' ho hb he => ⟨LX.store hk h5 ho h3 hb (he.trans h2.symm), g, h1, hb, ?_, h6⟩⟩
  rintro ⟨j, hj⟩
  unfold Gh.put at hj
  split at hj
  · cases hj
  · rename_i hne
    exact hne (h5 j hj)
end
end Go.Proofs.YtcmmkeiiapbgcaaGreatDoor
/- Selecting: table.copied, the reference's IsTable, and a table that a call puts together. Conditions: the arguments read as data. -/
namespace Go.Proofs.YtcmmkeiiapbgcaaGreatDoor
open Go Go.RowKit

set_option maxRecDepth 100000 in
set_option maxHeartbeats 1000000 in
theorem table_copied (q : Nat) (l : List Val) (A : Option Addr) (c : Nat) (w : World) (S : Nat → Prop) (h : Row w S q A l) : Calls Tryz.prog 74 #[.slice A l.length c] w (RetRow w q l) := by
  have hlen := h.len
  have HROW := Lib.hid h
  clear h
  obtain ⟨cur2, hmk2, hcur2⟩ := run_mk0 tiV l.length (by omega) (by decide)
  have HST := Lib.hid (show OwnVs (w.alloc (.cells cur2 33)) w.heap.size (fun b => w.heap.size ≤ b) q (some ⟨w.heap.size, 0, none⟩) l.length (l.take 0) from ⟨[], Own.made w _ _ _ cur2 (by unfold maxLen; omega) hcur2, VL.nil _⟩)
  clear hcur2
  go_enter Tryz.func74, Tryz.ntmps74
  go_wp2
  clear hmk2
  go_loopw [11, 3] (fun i v wi => ∃ (j : Nat) (A' : Option Addr) (c' : Nat), j ≤ l.length ∧ i = .int .i64 j ∧ v = .slice A' j c' ∧ Ext w wi ∧ OwnVs wi w.heap.size (fun b => w.heap.size ≤ b) q A' c' (l.take j)) (fun i _ _ => l.length - (intOf i).toNat)
  case atStart => exact ⟨0, _, _, Nat.zero_le _, rfl, rfl, (Ext.refl w).alloc _, HST.out⟩
  case round =>
    obtain ⟨j, A', c', hj, rfl, rfl, hbi, hoi⟩ := hrel
    have HBI := Lib.hid hbi
    have HOI := Lib.hid hoi
    have hszi := hbi.size
    by_cases hlt2 : j < l.length
    · obtain ⟨b2, o2, A5, c5, B5, e5, rfl, z2, ⟨p0, p1, p2, p3, p4, p5, p6⟩, ⟨hq, _, _⟩, hv⟩ := (HROW.out.keep (hbi.kept _)).at_ hlt2
      have HV := Lib.hid hv
      clear hv hbi hoi
      go_wp2_with fail
      refine (value_Copy (q - 1) _ _ _ _ _ _ S (HV.out.keep (Kept.alloc _ _ _))).mono ?_
      rintro e3 w3 ⟨A3, c3, B3, e3, rfl, hcc3, hv3, hx3⟩
      have HX3 := Lib.hid (((Ext.refl wr).alloc _).trans hx3)
      have hz3 : wr.heap.size < w3.heap.size := by have := hx3.size; simp at this; omega
      have hv3' := hv3.mono (T := fun b => wr.heap.size ≤ b) (fun i _ hi => by unfold Fresh at hi; simp at hi; omega)
      obtain ⟨xs, hown, hvl⟩ := HOI.out.ext (HX3.out.alloc (.cells (vcells l[j] A3 c3 B3 e3).toArray 33))
      have hlj : (l.take j).length = j := by rw [List.length_take]; omega
      have HVL := Lib.hid hvl
      rw [hlj] at hown
      have HOWN := Lib.hid hown
      have HLJ := Lib.hid hlj
      have HV3 := Lib.hid hv3'
      clear hvl hown hv3 hv3' hx3 hlj
      go_wp2_with (at_builtin; go_must (refine wpList_app rfl (.tmp 15) (.tmp 18) rfl tiV rfl HOWN.out rfl (Blk.rd (Blk.new _ _ _)) rfl vcells_one (by omega) (by decide) (by simp; omega) ?_); intro A4 c4 w4 hown4 hg4 hat4)
      go_roundw
      case rel =>
        refine ⟨j + 1, A4, c4, by omega, by go_num, rfl, ?_, ?_⟩
        · exact ((HBI.out.trans HX3.out).alloc _).grown hg4 (fun k hk => (HOWN.out.blk hk).1)
        · rw [List.take_succ_eq_append_getElem hlt2]
          refine OwnVs.push HVL.out (by rw [HLJ.out]; exact hown4) hg4 hat4 ⟨hq, hcc3⟩ ((HV3.out.keep (Kept.alloc _ _ _)).mono fun i _ hi => ⟨fun h0 => ?_, by omega⟩)
          have := (HOI.out.blk h0).2
          omega
      case measure => simp [intOf]; omega
    · have hjr : j = l.length := by omega
      subst hjr
      have HR := Lib.hid (show OwnVs wr w.heap.size (fun b => w.heap.size ≤ b) q A' c' l by have := HOI.out; rwa [List.take_of_length_le (Nat.le_refl _)] at this)
      clear hbi hoi
      go_wp2
      go_ret
      exact ⟨A', c', rfl, HR.out, HBI.out⟩

def isTabB (x : Val) : Bool := decide (x.kind = 5) && rightB x
set_option maxRecDepth 100000 in
theorem r09_IsTable (q : Nat) (x : Val) (A B : Option Addr) (c e : Nat) (w : World) (S : Nat → Prop) (h : RV w S q x A B) : Calls Tryz.prog 59 #[(.agg #[.int .i64 x.kind, .string x.s, .int .i64 x.dn, .int .i64 x.ds, .int .i64 x.n, .slice A x.cols.length c, .slice B x.rows.length e])] w (RetB w (isTabB x)) := by
  have H := Lib.hid h
  clear h
  cases hr : rightB x
  · have HF := Lib.hid (show isTabB x = false by simp [isTabB, hr])
    have HR := Lib.hid hr
    clear hr
    go_enter Tryz.func59, Tryz.ntmps59
    go_wp2_with fail
    refine (r06_Right q x A B c e _ S (H.out.keep (Kept.alloc _ _ _))).mono ?_
    rintro e1 w1 ⟨rfl, hx1⟩
    rw [HR.out]
    have HX1 := Lib.hid (((Ext.refl w).alloc _).trans hx1)
    clear hx1
    go_wp2
    go_ret
    exact ⟨by rw [HF.out]; rfl, HX1.out⟩
  · have HF := Lib.hid (show isTabB x = (x.kind == 5) by simp [isTabB, hr]; rfl)
    have HR := Lib.hid hr
    clear hr
    go_enter Tryz.func59, Tryz.ntmps59
    go_wp2_with fail
    refine (r06_Right q x A B c e _ S (H.out.keep (Kept.alloc _ _ _))).mono ?_
    rintro e1 w1 ⟨rfl, hx1⟩
    rw [HR.out]
    have HX1 := Lib.hid (((Ext.refl w).alloc _).trans hx1)
    have k0 := ((Blk.new w 33 #[.int .i64 x.kind, .string x.s, .int .i64 x.dn, .int .i64 x.ds, .int .i64 x.n, .slice A x.cols.length c, .slice B x.rows.length e]).keep (hx1.kept _)).cell (i := 0) rfl
    have kz := ((Blk.new w 33 #[.int .i64 x.kind, .string x.s, .int .i64 x.dn, .int .i64 x.ds, .int .i64 x.n, .slice A x.cols.length c, .slice B x.rows.length e]).keep (hx1.kept _)).lt
    clear hx1
    go_wp2
    go_ret
    exact ⟨by rw [HF.out]; rfl, HX1.out⟩

/-- A table that is put together in the variable go: its columns, and rows of the call's own; what was below lo, but for the variable, is as it was in w0. -/
structure OutT (w w0 : World) (lo : Nat) (X : Nat → Prop) (d go : Nat) (Ac : Option Addr) (cc : Nat) (cols : List ByteArray) (Ar : Option Addr) (cr : Nat) (rows : List (List Val)) (wr : World) : Prop where
  ext : Ext w wr
  kept : Kept (fun b => b < lo ∧ b ≠ go) w0 wr
  golo : w.heap.size ≤ go ∧ go < lo ∧ lo ≤ wr.heap.size
  out : Blk wr go 33 #[.int .i64 5, .string ⟨#[]⟩, .int .i64 0, .int .i64 0, .int .i64 0, .slice Ac cols.length cc, .slice Ar rows.length cr]
  cols : Strs wr (fun b => ob Ar ≠ some b ∧ X b ∧ b ≠ go) Ac cols
  rows : OwnRs wr lo (fun b => X b ∧ b ≠ go) d Ar cr rows
/-- Behind the append to the rows, ahead of the store. -/
structure OutTA (w w0 : World) (lo : Nat) (X : Nat → Prop) (d go : Nat) (Ac : Option Addr) (cc : Nat) (cols : List ByteArray) (Ar : Option Addr) (cr : Nat) (rows : List (List Val)) (wr : World) : Prop where
  ext : Ext w wr
  kept : Kept (fun b => b < lo ∧ b ≠ go) w0 wr
  golo : w.heap.size ≤ go ∧ go < lo ∧ lo ≤ wr.heap.size
  out : ∃ y, Blk wr go 33 #[.int .i64 5, .string ⟨#[]⟩, .int .i64 0, .int .i64 0, .int .i64 0, .slice Ac cols.length cc, y]
  cols : Strs wr (fun b => ob Ar ≠ some b ∧ X b ∧ b ≠ go) Ac cols
  rows : OwnRs wr lo (fun b => X b ∧ b ≠ go) d Ar cr rows
section
variable {w w0 wr wr' : World} {lo d go cc cr : Nat} {X : Nat → Prop} {Ac Ar : Option Addr} {cols : List ByteArray} {rows : List (List Val)}
theorem OutT.more (h : OutT w w0 lo X d go Ac cc cols Ar cr rows wr) (hx : Ext wr wr') : OutT w w0 lo X d go Ac cc cols Ar cr rows wr' :=
  ⟨h.ext.trans hx, h.kept.trans (hx.kept _), ⟨h.golo.1, h.golo.2.1, Nat.le_trans h.golo.2.2 hx.size⟩, h.out.keep (hx.kept _), h.cols.keep (hx.kept _), h.rows.ext hx⟩
/-- A row, readable apart from the rows' own memory, is put to the end. -/
theorem OutT.app (h : OutT w w0 lo X d go Ac cc cols Ar cr rows wr) {A4 B : Option Addr} {c4 e : Nat} {r : List Val} {hs : List Value} (ho : Own wr lo 45 1 Ar rows.length cr hs)
    (hv : ∀ (i : Nat) (r : List Val), rows[i]? = some r → ∃ (B : Option Addr) (e : Nat), hs[i]? = some (Value.slice B r.length e) ∧ r.length ≤ e ∧ Row wr (fun b => ob Ar ≠ some b ∧ X b ∧ b ≠ go) d B r)
    (hre : r.length ≤ e) (hr : Row wr (fun b => ob Ar ≠ some b ∧ X b ∧ b ≠ go) d B r) (hown : Own wr' lo 45 1 A4 (rows.length + 1) c4 (hs ++ [Value.slice B r.length e])) (hg : wr.grownBy wr' (ob Ar)) (hat : ob A4 = ob Ar ∨ ob A4 = some wr.heap.size) :
    OutTA w w0 lo X d go Ac cc cols A4 c4 (rows ++ [r]) wr' := by
  have hlow : ∀ b, ob Ar = some b → lo ≤ b := fun b hb => (ho.blk hb).1
  have hgo := h.golo
  have hk : ∀ S : Nat → Prop, (∀ b, S b → ob Ar ≠ some b) → Kept S wr wr' := fun S hS => Kept.of_grown hg fun b hb _ e => hS b hb e.symm
  refine ⟨h.ext.grown hg fun b hb => by have := hlow b hb; omega, h.kept.trans (hk _ fun b hb e => by have := hlow b e; omega), ⟨hgo.1, hgo.2.1, Nat.le_trans hgo.2.2 hg.size⟩, ⟨_, h.out.keep (hk _ fun b hb e => by have := hlow b e; omega)⟩, ?_, OwnRs.push (by simpa using ho.len) hv hown hg hat hre hr⟩
  have hc := h.cols.mono (T := fun b => (ob Ar ≠ some b) ∧ (ob A4 ≠ some b ∧ X b ∧ b ≠ go)) fun i hi hh => ⟨hh.1, fun e => by
    rcases hat with e' | e' <;> rw [e'] at e
    · exact hh.1 e
    · injection e with e; omega, hh.2⟩
  exact (hc.keep (hk _ fun b hb => hb.1)).mono fun b _ hb => hb.2
theorem OutTA.store (h : OutTA w w0 lo X d go Ac cc cols Ar cr rows wr) : OutT w w0 lo X d go Ac cc cols Ar cr rows (wr.setCell ⟨go, 6, none⟩ (.slice Ar rows.length cr)) := by
  obtain ⟨y, hy⟩ := h.out
  have ho := (Only.refl go wr).set 6 (.slice Ar rows.length cr)
  have hgo := h.golo
  refine ⟨h.ext.only ho hgo.1, h.kept.trans (ho.kept fun b _ hb => hb.2), by simpa [World.setCell] using hgo, hy.set 6 _, h.cols.keep (ho.kept fun b _ hb => hb.2.2), h.rows.keep (ho.kept fun b _ hb => ?_)⟩
  rcases hb with hb | hb
  · have := (h.rows.blk hb).1; omega
  · exact hb.2
theorem OutT.val (h : OutT w w0 lo X d go Ac cc cols Ar cr rows wr) {T : Nat → Prop} (hl : rows.length ≤ 4294967296) (h1 : ∀ b, lo ≤ b → T b) (h2 : ∀ b, X b → T b) : RV wr T d (tabV cols rows) Ac Ar :=
  RV.mk (Nat.zero_le _) (h.cols.mono fun b _ hb => h2 b hb.2.1) (h.rows.rows hl (fun b hb => h1 b (h.rows.blk hb).1) fun b hb => h2 b hb.1)
end
def whereRows (c : Nat) (v : Val) (rows : List (List Val)) : List (List Val) := rows.filter fun r => isB (r.getD c Val.zero) v
def whereS (t : Val) (col : ByteArray) (v : Val) : Val × Int :=
  if isTabB t = false then (Val.zero, 14) else if idxS t.cols col < 0 then (Val.zero, 13) else (tabV t.cols (whereRows (idxS t.cols col).toNat v t.rows), 0)
end Go.Proofs.YtcmmkeiiapbgcaaGreatDoor
