/- The law QuestionLeast: no plan with a horizon that is one less than the depth; the depth lies between the lower bound and the number of programs less 1. Conditions: the numbers read as data. -/
import Derived.Test.YtomdpipekmcojaaGreatDoorBt18
namespace Go.Proofs.YtomdpipekmcojaaGreatDoor
open Go Go.RowKit

theorem II.take {w : World} {S : Nat → Prop} {A : Option Addr} {l : List (List Int)} (h : II w S A l) (k : Nat) : II w S A (l.take k) := by
 obtain ⟨h0, hs, h1, h2, h3⟩ := h
 refine ⟨by rw [List.length_take]; omega, hs.take k, h1.take k, by simp [h2], fun i g hg => ?_⟩
 have hik : i < k := by
  rcases Nat.lt_or_ge i k with h | h
  ·exact h
  ·rw [List.getElem?_take, if_neg (by omega)] at hg; cases hg
 rw [List.getElem?_take, if_pos hik] at hg
 obtain ⟨B, e, h4, h5, h6⟩ := h3 i g hg
 exact ⟨B, e, by rw [List.getElem?_take, if_pos hik]; exact h4, h5, h6⟩
/- Groups and useful inputs of the reference are those of the program. No conditions. -/

section
variable {L : List (List Val)}
end
/- The reference's depths, first inputs and lower bound are those of the program. No conditions. -/

/-- All programs of a list have the same answers. -/
def alkR (l : List (List Val)) (L : List Nat) : Bool := (L.drop 1).all fun y => decide (l.getD (L.headD 0) [] = l.getD y [])
section
variable {l : List (List Val)}
theorem row_rk (hT : Tri l) (hN : Wide l (inpS l)) {x y : Nat} (hx : x < l.length) (hy : y < l.length) : l.getD x [] = l.getD y [] ↔ ∀ m, m < inpS l → rk l m x = rk l m y := by
 constructor
 ·intro h m hm
  refine ((places_ord hT hN hm).2 x hx y hy).2.1 ?_
  have e : ans l m x = ans l m y := by unfold ans; rw [h]
  simpa [eqA] using e
 ·intro h
  have gx : l.getD x [] = l[x] := getD_of _ _ _ hx
  have gy : l.getD y [] = l[y] := getD_of _ _ _ hy
  have lx : l[x].length = inpS l := hN _ (List.getElem_mem hx)
  have ly : l[y].length = inpS l := hN _ (List.getElem_mem hy)
  rw [gx, gy]
  refine List.ext_getElem (by omega) fun m hm1 hm2 => ?_
  have := ((places_ord hT hN (m := m) (by omega)).2 x hx y hy).2.2 (h m (by omega))
  simp only [eqA, decide_eq_true_eq] at this
  rwa [ans_of hx hm1, ans_of hy hm2] at this
theorem alk_dep (hT : Tri l) (hN : Wide l (inpS l)) {L : List Nat} (hL : ∀ x ∈ L, x < l.length) : alkR l L = decide (dep (spl l) (inpS l) L = 0) := by
 have h0 := dep_zero (spl_small l) (inpS l) L
 rw [Bool.eq_iff_iff, decide_eq_true_eq, h0]
 unfold alkR
 rw [List.all_eq_true]
 constructor
 ·intro h m hm
  rw [(spl_is l m L).one]
  have key : ∀ x ∈ L, rk l m (L.headD 0) = rk l m x := by
   match L, hL, h with
   | [], _, _ => intro x hx; cases hx
   | a :: L, hL, h =>
    intro x hx
    rcases List.mem_cons.1 hx with rfl | hx
    ·rfl
    ·have h1 := h x (by simpa using hx)
     rw [decide_eq_true_eq, show (a :: L).headD 0 = a from rfl, row_rk hT hN (hL a (by simp)) (hL x (by simp [hx]))] at h1
     exact h1 m hm
  intro x hx y hy
  rw [← key x hx, ← key y hy]
 ·intro h y hy
  match L, hL, h, hy with
  | [], _, _, hy => cases hy
  | a :: L, hL, h, hy =>
   have hy' : y ∈ L := by simpa using hy
   rw [decide_eq_true_eq]
   refine (row_rk hT hN (hL a (by simp)) (hL y (by simp [hy']))).2 fun m hm => ?_
   exact ((spl_is l m (a :: L)).one.1 (h m hm)) a (by simp) y (by simp [hy'])
end
/- The reference's lower bound is that of the program: plain facts. No conditions. -/

section
variable {l : List (List Val)}
end
/- The reference's Alike. Conditions: the arguments read as data; the programs are there. -/

theorem alk_no {l : List (List Val)} {L : List Nat} {y : Nat} (hy : y ∈ L.drop 1) (h : l.getD (L.headD 0) [] ≠ l.getD y []) : alkR l L = false := by
 unfold alkR
 rw [Bool.eq_false_iff]
 intro ha
 have := List.all_eq_true.1 ha y hy
 rw [decide_eq_true_eq] at this
 exact h this
set_option maxRecDepth 100000 in
set_option maxHeartbeats 2000000 in
theorem r25_Alike (d : Nat) (l : List (List Val)) (A : Option Addr) (c : Nat) (L : List Nat) (B : Option Addr) (e : Nat) (w : World) (S T : Nat → Prop) (hr : Rows w S d A l) (hn : Nums w T B L) (hL : ∀ x ∈ L, x < l.length) (hLl : L.length ≤ 1000) :
  Calls Tryz.prog 32 #[.slice A l.length c, .slice B L.length e] w (RetB w (alkR l L)) := by
 obtain ⟨nl, enl⟩ : ∃ n, n = l.length := ⟨_, rfl⟩
 obtain ⟨n, en⟩ : ∃ n, n = L.length := ⟨_, rfl⟩
 have HNL := Hd enl
 have HNN := Hd en
 have hll := hr.len
 have HR0 := Hd hr
 have HLN := Hd hn
 have HLM := Hd hL
 rw [← enl] at hll ⊢
 rw [← en] at hLl ⊢
 clear hr hn hL enl en
 go_enter Tryz.func32, Tryz.ntmps32
 go_wp2
 go_loopw [5, 6] (fun i _u wr => ∃ k : Nat, 1 ≤ k ∧ (1 < k → k ≤ n) ∧ i = .int .i64 (k : Int) ∧ ((L.take k).drop 1).all (fun y => decide (l.getD (L.headD 0) [] = l.getD y [])) = true ∧ Ext w wr) (fun i _ _ => n - (intOf i).toNat)
 case atStart =>
  refine ⟨1, Nat.le_refl _, fun h => absurd h (by omega), rfl, ?_, Ext.refl _⟩
  cases L <;> simp
 case round =>
  obtain ⟨k, hk1, hkn, rfl, hall, hx⟩ := hrel
  obtain ⟨ws, rfl⟩ : ∃ ws : World, ws = wr := ⟨_, rfl⟩
  have HX := Hd hx
  have HALL := Hd hall
  clear hx hall
  by_cases hlt : k < n
  ·have hkL : k < L.length := by rw [← HNN.out]; exact hlt
   have h0L : 0 < L.length := by omega
   obtain ⟨x, ex⟩ : ∃ x, x = L[0] := ⟨_, rfl⟩
   obtain ⟨y, ey⟩ : ∃ y, y = L[k] := ⟨_, rfl⟩
   have HHD := Hd (show L.headD 0 = x by
    cases L with
    | nil => simp at h0L
    | cons a L => rw [ex]; rfl)
   have HTK := Hd (show (L.take (k + 1)).drop 1 = (L.take k).drop 1 ++ [y] by
    rw [List.take_succ_eq_append_getElem hkL, ← ey, List.drop_append_of_le_length (by rw [List.length_take]; omega)])
   have HYM := Hd (show y ∈ L.drop 1 from List.mem_iff_getElem?.2 ⟨k - 1, by rw [List.getElem?_drop, show 1 + (k - 1) = k by omega, List.getElem?_eq_getElem hkL, ey]⟩)
   have hxl : x < l.length := by rw [ex]; exact HLM.out _ (List.getElem_mem h0L)
   have hyl : y < l.length := by rw [ey]; exact HLM.out _ (List.getElem_mem hkL)
   obtain ⟨bB, oB, hB, zB, cB⟩ := (HLN.out.keep (HX.out.kept _)).at_ hkL
   obtain ⟨bB2, oB2, hB2, zB2, c0⟩ := (HLN.out.keep (HX.out.kept _)).at_ h0L
   rw [hB] at hB2
   injection hB2 with hB2
   injection hB2 with hb1 hb2
   subst hB hb1 hb2
   rw [← ey] at cB
   rw [← ex, Nat.add_zero] at c0
   have hrows := HR0.out.keep (HX.out.kept S)
   obtain ⟨bA, oA, C1, e1, hA, zA, cX, -, hr1⟩ := hrows.at_ hxl
   obtain ⟨bA2, oA2, C2, e2, hA2, zA2, cY, -, hr2⟩ := hrows.at_ hyl
   rw [hA] at hA2
   injection hA2 with hA2
   injection hA2 with ha1 ha2
   subst hA ha1 ha2
   obtain ⟨rx, erx⟩ : ∃ r, r = l[x] := ⟨_, rfl⟩
   obtain ⟨ry, ery⟩ : ∃ r, r = l[y] := ⟨_, rfl⟩
   have HGX := Hd (show l.getD x [] = rx by rw [getD_of _ _ _ hxl, erx])
   have HGY := Hd (show l.getD y [] = ry by rw [getD_of _ _ _ hyl, ery])
   rw [← erx] at cX hr1
   rw [← ery] at cY hr2
   obtain ⟨bv, ebv⟩ : ∃ bv, bv = decide (rx = ry) := ⟨_, rfl⟩
   have HBV := Hd ebv
   have HSV := Hd (show ∀ w' : World, Ext ws w' → Calls Tryz.prog 34 #[.slice C1 rx.length e1, .slice C2 ry.length e2] w' (RetB w' bv) from fun w' hx => by
    rw [ebv]
    exact r06_Same d (fun _ => r06_Equal (d - 1)) C1 C2 e1 e2 rx ry w' S S (Row.keep hr1 (hx.kept _)) (Row.keep hr2 (hx.kept _)))
   obtain ⟨n1, en1⟩ : ∃ n1, n1 = rx.length := ⟨_, rfl⟩
   obtain ⟨n2, en2⟩ : ∃ n2, n2 = ry.length := ⟨_, rfl⟩
   rw [← en1] at cX HSV
   rw [← en2] at cY HSV
   have Q0 := Hd c0
   have Q1 := Hd cB
   have Q2 := Hd cX
   have Q3 := Hd cY
   have i0 : (0 : Int) ≤ (k : Int) := by omega
   have i1 : (k : Int) < (n : Int) := by omega
   have i2 : (0 : Int) < (n : Int) := by omega
   have i3 : (x : Int) < (nl : Int) := by rw [HNL.out]; omega
   have i4 : (y : Int) < (nl : Int) := by rw [HNL.out]; omega
   have i5 : (0 : Int) ≤ (x : Int) := by omega
   have i6 : (0 : Int) ≤ (y : Int) := by omega
   have i7 : 0 < n := by omega
   have i8 : x < nl := by rw [HNL.out]; exact hxl
   have i9 : y < nl := by rw [HNL.out]; exact hyl
   clear hrows hr1 hr2 erx ery en1 en2 ex ey c0 cB cX cY ebv hkL h0L
   go_upto_region 4 with fail
   refine wp_region_chain (by kernel_rfl) (fun i => [i]) (by kernel_rfl) (LZ (fun _ _ => False)) (LZ.refl _) (LZ.trans _) (LK []) gz0 (LK.zero _) ?_
   apply Chain.pure (LZ.refl _) (by rfl)
   ·intro vals γ w' ρ hR hN hp hρ hc hf hg
    refine ⟨rfl, ?_⟩
    have e0 := hρ 0
    conv at e0 => rhs; whnf
    clear hR hN hp hρ
    go_light
    go_simp
    exact ⟨rfl, rfl⟩
   ·rfl
   apply Chain.pure (LZ.refl _) (by rfl)
   ·intro vals γ w' ρ hR hN hp hρ hc hf hg
    refine ⟨rfl, ?_⟩
    have e1 := hρ 1
    conv at e1 => rhs; whnf
    clear hR hN hp hρ
    go_light
    go_simp
    exact ⟨rfl, rfl⟩
   ·rfl
   apply Chain.pure (LZ.refl _) (by rfl)
   ·intro vals γ w' ρ hR hN hp hρ hc hf hg
    refine ⟨rfl, ?_⟩
    have e14 : ρ (.tmp 14) = _ := (hρ 14).trans (hp 1 (by decide))
    clear hR hN hp hρ
    go_light
    go_simp
    exact ⟨rfl, rfl⟩
   ·rfl
   apply Chain.pure (LZ.refl _) (by rfl)
   ·intro vals γ w' ρ hR hN hp hρ hc hf hg
    refine ⟨rfl, ?_⟩
    have e15 : ρ (.tmp 15) = _ := (hρ 15).trans (hp 2 (by decide))
    have hxx := hR.ext0 (fun _ _ _ h => h.elim)
    have k0 := hxx.cell Q0.out
    have k1 := hxx.cell Q1.out
    have k2 := hxx.cell Q2.out
    have k3 := hxx.cell Q3.out
    clear hxx
    clear hR hN hp hρ
    go_light
    go_simp
    exact ⟨rfl, rfl⟩
   ·rfl
   apply Chain.pure (LZ.refl _) (by rfl)
   ·intro vals γ w' ρ hR hN hp hρ hc hf hg
    refine ⟨rfl, ?_⟩
    have e13 : ρ (.tmp 13) = _ := (hρ 13).trans (hp 0 (by decide))
    have e16 : ρ (.tmp 16) = _ := (hρ 16).trans (hp 3 (by decide))
    clear hR hN hp hρ
    go_light
    go_simp
    exact ⟨rfl, rfl⟩
   ·rfl
   apply Chain.pure (LZ.refl _) (by rfl)
   ·intro vals γ w' ρ hR hN hp hρ hc hf hg
    refine ⟨rfl, ?_⟩
    have e17 : ρ (.tmp 17) = _ := (hρ 17).trans (hp 4 (by decide))
    have hxx := hR.ext0 (fun _ _ _ h => h.elim)
    have k0 := hxx.cell Q0.out
    have k1 := hxx.cell Q1.out
    have k2 := hxx.cell Q2.out
    have k3 := hxx.cell Q3.out
    clear hxx
    clear hR hN hp hρ
    go_light
    go_simp
    exact ⟨rfl, rfl⟩
   ·rfl
   apply Chain.pure (LZ.refl _) (by rfl)
   ·intro vals γ w' ρ hR hN hp hρ hc hf hg
    refine ⟨rfl, ?_⟩
    have e0 := hρ 0
    conv at e0 => rhs; whnf
    clear hR hN hp hρ
    go_light
    go_simp
    exact ⟨rfl, rfl⟩
   ·rfl
   apply Chain.pure (LZ.refl _) (by rfl)
   ·intro vals γ w' ρ hR hN hp hρ hc hf hg
    refine ⟨rfl, ?_⟩
    have e1 := hρ 1
    conv at e1 => rhs; whnf
    clear hR hN hp hρ
    go_light
    go_simp
    exact ⟨rfl, rfl⟩
   ·rfl
   apply Chain.pure (LZ.refl _) (by rfl)
   ·intro vals γ w' ρ hR hN hp hρ hc hf hg
    refine ⟨rfl, ?_⟩
    have e5 := hρ 5
    conv at e5 => rhs; whnf
    clear hR hN hp hρ
    go_light
    go_simp
    exact ⟨rfl, rfl⟩
   ·rfl
   apply Chain.pure (LZ.refl _) (by rfl)
   ·intro vals γ w' ρ hR hN hp hρ hc hf hg
    refine ⟨rfl, ?_⟩
    have e20 : ρ (.tmp 20) = _ := (hρ 20).trans (hp 7 (by decide))
    have e21 : ρ (.tmp 21) = _ := (hρ 21).trans (hp 8 (by decide))
    clear hR hN hp hρ
    go_light
    go_simp
    exact ⟨rfl, rfl⟩
   ·rfl
   apply Chain.pure (LZ.refl _) (by rfl)
   ·intro vals γ w' ρ hR hN hp hρ hc hf hg
    refine ⟨rfl, ?_⟩
    have e22 : ρ (.tmp 22) = _ := (hρ 22).trans (hp 9 (by decide))
    have hxx := hR.ext0 (fun _ _ _ h => h.elim)
    have k0 := hxx.cell Q0.out
    have k1 := hxx.cell Q1.out
    have k2 := hxx.cell Q2.out
    have k3 := hxx.cell Q3.out
    clear hxx
    clear hR hN hp hρ
    go_light
    go_simp
    exact ⟨rfl, rfl⟩
   ·rfl
   apply Chain.pure (LZ.refl _) (by rfl)
   ·intro vals γ w' ρ hR hN hp hρ hc hf hg
    refine ⟨rfl, ?_⟩
    have e19 : ρ (.tmp 19) = _ := (hρ 19).trans (hp 6 (by decide))
    have e23 : ρ (.tmp 23) = _ := (hρ 23).trans (hp 10 (by decide))
    clear hR hN hp hρ
    go_light
    go_simp
    exact ⟨rfl, rfl⟩
   ·rfl
   apply Chain.pure (LZ.refl _) (by rfl)
   ·intro vals γ w' ρ hR hN hp hρ hc hf hg
    refine ⟨rfl, ?_⟩
    have e24 : ρ (.tmp 24) = _ := (hρ 24).trans (hp 11 (by decide))
    have hxx := hR.ext0 (fun _ _ _ h => h.elim)
    have k0 := hxx.cell Q0.out
    have k1 := hxx.cell Q1.out
    have k2 := hxx.cell Q2.out
    have k3 := hxx.cell Q3.out
    clear hxx
    clear hR hN hp hρ
    go_light
    go_simp
    exact ⟨rfl, rfl⟩
   ·rfl
   refine Chain.step (FP fun v γ w' => v = .bool bv) (by rfl) (FP.stab ?_) ?_ ?_
   ·intro v γ w1 γ' w2 r h
    exact h
   ·intro vals γ w' ρ hR hN hp hρ hc hf hg
    refine ⟨rfl, ?_⟩
    have e18 : ρ (.tmp 18) = _ := (hρ 18).trans (hp 5 (by decide))
    have e25 : ρ (.tmp 25) = _ := (hρ 25).trans (hp 12 (by decide))
    have HR := Hd hR
    have hxx := hR.ext0 (fun _ _ _ h => h.elim)
    have HXW := Hd hxx
    clear hxx
    clear hR hN hp hρ
    go_light
    go_simp
    refine (HSV.out w' HXW.out).mono ?_
    rintro e1 w3 ⟨he, hx⟩
    exact ⟨_, he, γ, LZ.of_ext _ γ hx, fun _ _ _ h => h, rfl⟩
   apply Chain.pure (LZ.refl _) (by rfl)
   ·intro vals γ w' ρ hR hN hp hρ hc hf hg
    refine ⟨rfl, ?_⟩
    have e26 : ρ (.tmp 26) = _ := (hρ 26).trans (hp 13 (by decide))
    clear hR hN hp hρ
    go_light
    go_simp
    exact ⟨rfl, rfl⟩
   ·rfl
   intro vals γ w9 hR hG
   have v0 : vals 0 = _ := hG 0 (by decide)
   have v1 : vals 1 = _ := hG 1 (by decide)
   have v2 : vals 2 = _ := hG 2 (by decide)
   have v3 : vals 3 = _ := hG 3 (by decide)
   have v4 : vals 4 = _ := hG 4 (by decide)
   have v5 : vals 5 = _ := hG 5 (by decide)
   have v6 : vals 6 = _ := hG 6 (by decide)
   have v7 : vals 7 = _ := hG 7 (by decide)
   have v8 : vals 8 = _ := hG 8 (by decide)
   have v9 : vals 9 = _ := hG 9 (by decide)
   have v10 : vals 10 = _ := hG 10 (by decide)
   have v11 : vals 11 = _ := hG 11 (by decide)
   have v12 : vals 12 = _ := hG 12 (by decide)
   have v13 : vals 13 = _ := hG 13 (by decide)
   have v14 : vals 14 = _ := hG 14 (by decide)
   simp only [lexFrame, Act.put, List.setIfInBounds_toArray, List.set_cons_succ, List.set_cons_zero, Nat.zero_add, Nat.reduceAdd, v0, v1, v2, v3, v4, v5, v6, v7, v8, v9, v10, v11, v12, v13, v14]
   clear v0 v1 v2 v3 v4 v5 v6 v7 v8 v9 v10 v11 v12 v13 v14
   have HX9 := Hd (show Ext ws w9 from hR.ext0 (fun _ _ _ h => h.elim))
   clear hR hG
   cases bv
   ·have HF := Hd (show alkR l L = false from alk_no HYM.out (by
     rw [HHD.out, HGX.out, HGY.out]
     intro h
     have := HBV.out
     rw [h] at this
     simp at this))
    go_wp2
    go_ret
    exact ⟨by rw [HF.out]; rfl, HX.out.trans HX9.out⟩
   ·have HE := Hd (show rx = ry by simpa using HBV.out.symm)
    go_wp2
    go_roundw
    case rel =>
     refine ⟨k + 1, by omega, fun _ => by omega, by go_num, ?_, HX.out.trans HX9.out⟩
     rw [HTK.out, List.all_append, HALL.out]
     simp only [List.all_cons, List.all_nil, Bool.and_true, Bool.true_and, decide_eq_true_eq]
     rw [HHD.out, HGX.out, HGY.out, HE.out]
    case measure => simp [intOf]; omega
  ·have HF := Hd (show alkR l L = true by
    have h1 := HALL.out
    rwa [List.take_of_length_le (by rw [← HNN.out]; omega)] at h1)
   go_wp2
   go_ret
   exact ⟨by rw [HF.out]; rfl, HX.out⟩
end Go.Proofs.YtomdpipekmcojaaGreatDoor
