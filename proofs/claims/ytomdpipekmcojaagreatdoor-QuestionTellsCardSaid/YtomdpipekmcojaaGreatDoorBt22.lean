/- The reference's Make. Conditions: the answers read as data, and hold no tables. -/
import Derived.Test.YtomdpipekmcojaaGreatDoorBt21
namespace Go.Proofs.YtomdpipekmcojaaGreatDoor
open Go Go.RowKit

/- The law QuestionMakes: plans are those of the reference, and are accepted. Conditions: the numbers read as data. -/

theorem makeF_len (l : List (List Val)) (h : Int) : (makeF l h).1.length ≤ l.length := by
 unfold makeF
 split
 ·show (planA l).length ≤ l.length
  by_cases e : allP l = []
  ·have h1 : dep (spl l) (inpS l) (allP l) = 0 := by
    have := dep_len (spl_small l) (inpS l) (allP l)
    rw [e] at this ⊢
    simp at this
    omega
   unfold planA
   rw [plan_eq (spl_small l), if_pos h1]
   simp
  ·have := plan_len l (inpS l) (ans l) _ (allP l) 0 (Nat.le_refl _) e
   unfold planA
   have h2 : (allP l).length = l.length := by simp [allP]
   omega
 ·simp
/- Who follows a plan with the replies of one program: plain facts. No conditions. -/

theorem followF_snoc {Y : List AskD} {v : Val} : ∀ (vs : List Val) {p q : Int}, followF Y vs p = (q, true) → followF Y (vs ++ [v]) p = followF Y [v] q
 | [], p, q, h => by
  have : p = q := congrArg Prod.fst h
  rw [this]; rfl
 | u :: vs, p, q, h => by
  rw [List.cons_append]
  unfold followF at h ⊢
  split
  ·rename_i h0; rw [if_pos h0] at h; cases congrArg Prod.snd h
  ·rename_i h0
   rw [if_neg h0] at h
   split
   ·rename_i h1; rw [if_pos h1] at h; cases congrArg Prod.snd h
   ·rename_i h1
    rw [if_neg h1] at h
    split
    ·rename_i h2; rw [if_pos h2] at h; cases congrArg Prod.snd h
    ·rename_i h2
     rw [if_neg h2] at h
     exact followF_snoc vs h
theorem idx_parts {q : Nat → Val} {v : Val} {v0 : Nat} : ∀ (hs : List Nat), v0 ∈ hs → (∀ u ∈ hs, q u = v ↔ u = v0) → ∃ j : Nat, hs[j]? = some v0 ∧ idxV (hs.map q) v = (j : Int)
 | [], h, _ => by cases h
 | u :: hs, h, hq => by
  by_cases e : u = v0
  ·refine ⟨0, by rw [e]; rfl, ?_⟩
   rw [List.map_cons]
   unfold idxV
   rw [if_pos ((hq u (by simp)).2 e)]
   rfl
  ·obtain ⟨j, h1, h2⟩ := idx_parts hs (by rcases List.mem_cons.1 h with h | h; exact absurd h.symm e; exact h) fun w hw => hq w (List.mem_cons_of_mem _ hw)
   refine ⟨j + 1, h1, ?_⟩
   rw [List.map_cons]
   unfold idxV
   rw [if_neg fun h => e ((hq u (by simp)).1 h), h2, if_neg (by omega)]
   omega
section
variable {l : List (List Val)}
/-- The part of one program, and where its answer stands. -/
theorem part_of (hT : Tri l) (hN : Wide l (inpS l)) {m o : Nat} {L : List Nat} (hm : m < inpS l) (hL : ∀ x ∈ L, x < l.length) (ho : o ∈ L) :
  ∃ j : Nat, (spl l m L)[j]? = some (L.filter fun k => decide (ans l m k = ans l m o)) ∧ idxV ((spl l m L).map fun g => ans l m (g.headD 0)) (ans l m o) = (j : Int) := by
 obtain ⟨hs, h1, h2, e⟩ := spl_is l m L
 have hor := (places_ord hT hN hm).2
 have hf : ∀ u, u = rk l m o → (L.filter fun x => rk l m x == u) = L.filter fun k => decide (ans l m k = ans l m o) := by
  intro u hu
  refine List.filter_congr fun k hk => ?_
  have h3 := (hor k (hL k hk) o (hL o ho)).2
  rw [Bool.eq_iff_iff, decide_eq_true_eq, beq_iff_eq, hu, ← h3]
  simp [eqA]
 obtain ⟨j, hj, hi⟩ := idx_parts (q := fun u => ans l m ((L.filter fun x => rk l m x == u).headD 0)) (v := ans l m o) (v0 := rk l m o) hs ((h2 _).2 ⟨o, ho, rfl⟩) (by
  intro u hu
  obtain ⟨x, hx, hxu⟩ := (h2 u).1 hu
  cases hc : L.filter fun x => rk l m x == u with
  | nil => rw [List.filter_eq_nil_iff] at hc; exact absurd (by simpa using hxu) (hc x hx)
  | cons y t =>
   have hy : y ∈ L.filter fun x => rk l m x == u := by rw [hc]; simp
   obtain ⟨hyL, hyu⟩ := List.mem_filter.1 hy
   have hyu' : rk l m y = u := by simpa using hyu
   show ans l m y = ans l m o ↔ u = rk l m o
   have h3 := (hor y (hL y hyL) o (hL o ho)).2
   rw [← hyu', ← h3]
   simp [eqA])
 refine ⟨j, ?_, ?_⟩
 ·rw [e, List.getElem?_map, hj]
  simp [hf _ rfl]
 ·rw [e, List.map_map]
  exact hi
/-- Where replies of the program o have led: to the questions of the programs L. -/
structure Fol (l : List (List Val)) (Y : List AskD) (o : Nat) (vs : List Val) (L : List Nat) : Prop where
 at_ : ∃ X Z, Y = X ++ plan (spl l) (inpS l) (ans l) L X.length ++ Z ∧ followS Y vs = (if dep (spl l) (inpS l) L = 0 then -1 else (X.length : Int), true)
 mem : o ∈ L
 sub : L.Sublist (allP l)
 len : vs.length + dep (spl l) (inpS l) L ≤ depA l
theorem Fol.lt {Y : List AskD} {o : Nat} {vs : List Val} {L : List Nat} (h : Fol l Y o vs L) : ∀ x ∈ L, x < l.length := fun x hx => List.mem_range.1 (h.sub.subset hx)
theorem Fol.start {o : Nat} (ho : o < l.length) : Fol l (planA l) o [] (allP l) := by
 refine ⟨⟨[], [], by simp [planA], ?_⟩, List.mem_range.2 ho, List.Sublist.refl _, by simp [depA]⟩
 unfold followS
 have h := plan_nil (v := ans l) (spl_small l) (inpS l) (allP l) 0
 show followF _ [] (if (plan (spl l) (inpS l) (ans l) (allP l) 0).length = 0 then -1 else 0) = _
 by_cases h0 : dep (spl l) (inpS l) (allP l) = 0
 ·rw [if_pos (h.2 h0), if_pos h0]; rfl
 ·rw [if_neg fun e => h0 (h.1 e), if_neg h0]; rfl
/-- The question there, and one reply more. -/
theorem Fol.step (hT : Tri l) (hR : rightA l = true) {Y : List AskD} {o : Nat} {vs : List Val} {L : List Nat} (h : Fol l Y o vs L) (hd : dep (spl l) (inpS l) L ≠ 0) :
  ∃ (p m : Nat) (a : AskD), followS Y vs = ((p : Int), true) ∧ p < Y.length ∧ Y[p]? = some a ∧ a.1 = (m : Int) ∧ m < inpS l ∧ m ∈ usefulS l ∧ Fol l Y o (vs ++ [ans l m o]) (L.filter fun k => decide (ans l m k = ans l m o)) := by
 have hN := rightA_wide hR
 obtain ⟨X, Z, hY, hfo⟩ := h.at_
 rw [if_neg hd] at hfo
 obtain ⟨hmN, hdm, -⟩ := inpF_at (spl_small l) (inpS l) L hd
 have h2 := two_parts (spl_small l) (N := inpS l) hd
 have hpe := plan_eq (v := ans l) (spl_small l) (inpS l) L X.length
 rw [if_neg hd] at hpe
 obtain ⟨m, em⟩ : ∃ m, m = inpF (spl l) (inpS l) L := ⟨_, rfl⟩
 rw [← em] at hmN hdm h2 hpe
 obtain ⟨j, hj, hidx⟩ := part_of hT hN hmN h.lt h.mem
 obtain ⟨hjl, hjg⟩ := List.getElem?_eq_some_iff.1 hj
 obtain ⟨gs, egs⟩ : ∃ gs, gs = spl l m L := ⟨_, rfl⟩
 obtain ⟨a, ea⟩ : ∃ a : AskD, a = ((m : Int), gs.map (fun g => ans l m (g.headD 0)), (planG (plan (spl l) (inpS l) (ans l)) gs (X.length + 1)).2) := ⟨_, rfl⟩
 have his := spl_is l m L
 rw [← egs] at hpe h2 his
 rw [← ea] at hpe
 have hya : Y[X.length]? = some a := by rw [hY, hpe]; simp
 obtain ⟨s1, s2, -⟩ := planG_split (plan (spl l) (inpS l) (ans l)) (gs := gs) (j := j) (by rw [egs]; exact hjl) (X.length + 1)
 obtain ⟨g, eg⟩ : ∃ g, g = L.filter fun k => decide (ans l m k = ans l m o) := ⟨_, rfl⟩
 have hgj : gs[j]'(by rw [egs]; exact hjl) = g := by
  have : gs[j]? = some g := by rw [egs, eg]; exact hj
  exact (List.getElem?_eq_some_iff.1 this).2
 rw [hgj] at s1 s2
 obtain ⟨pre, epre⟩ : ∃ pre, pre = (planG (plan (spl l) (inpS l) (ans l)) (gs.take j) (X.length + 1)).1 := ⟨_, rfl⟩
 obtain ⟨post, epost⟩ : ∃ post, post = (planG (plan (spl l) (inpS l) (ans l)) (gs.drop (j + 1)) (X.length + 1 + pre.length + (plan (spl l) (inpS l) (ans l) g (X.length + 1 + pre.length)).length)).1 := ⟨_, rfl⟩
 rw [← epre] at s1 s2
 rw [← epost] at s1
 rw [s1] at hpe
 have hgm : g ∈ gs := by rw [← hgj]; exact List.getElem_mem _
 have hog : o ∈ g := by rw [eg]; simp [h.mem]
 have hdg : dep (spl l) (inpS l) g + 1 ≤ dep (spl l) (inpS l) L := by
  rw [← hdm]
  unfold dW
  rw [← egs, if_neg (by omega)]
  have := (foldl_max_ge (f := fun g => dep (spl l) (inpS l) g) gs 0).2 g hgm
  omega
 have hYX : Y = (X ++ a :: pre) ++ plan (spl l) (inpS l) (ans l) g (X ++ a :: pre).length ++ (post ++ Z) := by
  rw [show (X ++ a :: pre).length = X.length + 1 + pre.length by simp; omega, hY, hpe]
  simp [List.append_assoc]
 have hpl : X.length < Y.length := (List.getElem?_eq_some_iff.1 hya).1
 refine ⟨X.length, m, a, hfo, hpl, hya, by rw [ea], hmN, ?_, eg ▸ ⟨⟨X ++ a :: pre, post ++ Z, hYX, ?_⟩, hog, by rw [eg]; exact (List.filter_sublist).trans h.sub, ?_⟩⟩
 ·unfold usefulS
  rw [if_pos hR, List.mem_filter]
  refine ⟨List.mem_range.2 hmN, ?_⟩
  cases hdv : divB l m l.length with
  | true => rfl
  | false =>
   exfalso
   unfold divB at hdv
   rw [List.any_eq_false] at hdv
   have hall : ∀ x ∈ L, ∀ y ∈ L, rk l m x = rk l m y := by
    intro x hx y hy
    have hxl := h.lt x hx
    have hyl := h.lt y hy
    have e1 := hdv x (List.mem_range.2 hxl)
    have e2 := hdv y (List.mem_range.2 hyl)
    simp only [decide_eq_true_eq, Decidable.not_not] at e1 e2
    exact ((places_ord hT hN hmN).2 x hxl y hyl).2.1 (by simp only [eqA, decide_eq_true_eq]; rw [e1, e2])
   have := his.one.2 hall
   omega
 ·unfold followS at hfo ⊢
  rw [followF_snoc _ hfo, followF_cons Y _ _ _ a hya]
  have ei : idxV a.2.1 (ans l m o) = (j : Int) := by rw [ea]; show idxV (gs.map _) _ = _; rw [egs]; exact hidx
  have en : a.2.2[j]? = some (if (plan (spl l) (inpS l) (ans l) g (X.length + 1 + pre.length)).length = 0 then -1 else ((X.length + 1 + pre.length : Nat) : Int)) := by rw [ea]; exact s2
  have hnl := (List.getElem?_eq_some_iff.1 en).1
  rw [ei, if_neg (by omega), Int.toNat_natCast, List.getD_eq_getElem?_getD, en, Option.getD_some]
  have hnil := plan_nil (v := ans l) (spl_small l) (inpS l) g (X.length + 1 + pre.length)
  have hXl : (X ++ a :: pre).length = X.length + 1 + pre.length := by simp; omega
  by_cases hd0 : dep (spl l) (inpS l) g = 0
  ·rw [if_pos (hnil.2 hd0), if_pos hd0, if_neg (by rintro ⟨e, _⟩; exact e rfl)]
   rfl
  ·have hne : ¬ (plan (spl l) (inpS l) (ans l) g (X.length + 1 + pre.length)).length = 0 := fun e => hd0 (hnil.1 e)
   have hlen := congrArg List.length hYX
   rw [hXl] at hlen
   simp only [List.length_append, List.length_cons] at hlen
   rw [if_neg hne, if_neg hd0, hXl, if_neg (by rintro ⟨_, e | e⟩ <;> omega)]
   rfl
 ·rw [List.length_append, List.length_singleton]
  have := h.len
  omega
/-- At the end all programs are alike. -/
theorem Fol.fin (hT : Tri l) (hR : rightA l = true) {Y : List AskD} {o : Nat} {vs : List Val} {L : List Nat} (h : Fol l Y o vs L) (hd : dep (spl l) (inpS l) L = 0) : followS Y vs = (-1, true) ∧ alkR l L = true := by
 obtain ⟨X, Z, hY, hfo⟩ := h.at_
 rw [if_pos hd] at hfo
 exact ⟨hfo, by rw [alk_dep hT (rightA_wide hR) h.lt, hd]; rfl⟩
end
/- The law QuestionTells: who follows a plan with the replies of one program reaches alike programs. Conditions: the numbers read as data. -/

/-- How long a slice is. -/
def slN : Value → Nat
 | .slice _ n _ => n
 | _ => 0
theorem zeroBT (w : World) : (zeroValue 4).run Tryz.prog w = .ok (.bool false) w := by kernel_rfl
set_option maxRecDepth 100000 in
set_option maxHeartbeats 4000000 in
theorem law_Tells (l : List (List Int)) (u : Nat) (hu : u < 256) (A : Option Addr) (c : Nat) (w : World) (S : Nat → Prop) (ht : Tens w) (h : II w S A l) (hac : l.length ≤ c) : Calls Tryz.prog 7 #[.slice A l.length c, .int .u8 (u : Int)] w (RetB w true) := by
 have hmm := @run_makeMap Tryz.prog
 have HT := Hd ht
 have HI := Hd h
 have hll := h.1
 obtain ⟨n, en⟩ : ∃ n, n = l.length := ⟨_, rfl⟩
 have HN := Hd en
 rw [← en] at hll hac ⊢
 clear ht h en
 go_enter Tryz.func7, Tryz.ntmps7
 go_wp2_with fail
 refine (l25_sanity w HT.out).mono ?_
 rintro e1 w1 ⟨rfl, hx1⟩
 have HX1 := Hd hx1
 have HMD := Hd (r25_Made l A c w1 S (HI.out.keep (HX1.out.kept S)))
 rw [← HN.out] at HMD
 clear hx1
 go_wp2_with fail
 refine HMD.out.mono ?_
 rintro e2 w2 ⟨L, A2, c2, rfl, hv, hwd, h12, ho, hx2⟩
 have HX2 := Hd hx2
 have h10 : min (hdI l) 10 ≤ 10 := by omega
 have HEE := Hd (errM_made hv hwd h12 h10)
 have HTR := Hd (made_cells hv).tri
 have HNT := Hd (made_cells hv).noT
 have HRT := Hd (made_right hv hwd)
 have hin10 : inpS L ≤ 10 := by have := made_inp hwd; omega
 have hcap : L.length ≤ c2 := by obtain ⟨xs, h1, _⟩ := ho; exact Own.cap h1
 have HRW := Hd ((ho.mono (T := fun b => b < w2.heap.size) fun b hb _ => hb).rows (T := fun b => b < w2.heap.size) (by omega) (fun b hb => (ho.blk hb).2) (fun b hb => hb))
 have hYl := makeF_len L 6
 obtain ⟨dp, edp⟩ : ∃ dp, dp = depA L := ⟨_, rfl⟩
 obtain ⟨N, eN⟩ : ∃ N, N = inpS L := ⟨_, rfl⟩
 obtain ⟨nL, enL⟩ : ∃ nL, nL = L.length := ⟨_, rfl⟩
 have HDP := Hd edp
 have HEN := Hd eN
 have HNL := Hd enL
 rw [← enL] at h12 hcap hYl ⊢
 rw [← eN] at hin10
 have HMK := Hd (question_Make 1 L A2 c2 6 w2 _ HRW.out (fun b hb => hb) HNT.out (by rw [← HNL.out]; omega) (by rw [← HEN.out]; omega) (by rw [← HNL.out]; exact hcap) (HT.out.kept ((HX1.out.trans HX2.out).kept fun _ => True) trivial))
 rw [← HNL.out] at HMK
 have HE6 := Hd (show errM L 6 = if 6 < dp then 16 else 0 by
  rw [HEE.out, ← HDP.out, if_neg (by omega)]
  by_cases h : 6 < dp
  ·rw [if_pos (by omega), if_pos h]
  ·rw [if_neg (by omega), if_neg h])
 clear hv hwd ho hx2 edp eN enL HMD
 go_wp2_with fail
 refine HMK.out.mono ?_
 rintro e3 w3 ⟨A3, c3, rfl, ho3, hx3⟩
 have HX3 := Hd hx3
 rw [HE6.out]
 by_cases h6 : 6 < dp
 ·rw [if_pos h6]
  clear ho3 hx3
  go_wp2
  go_ret
  exact ⟨rfl, (((HX1.out.trans HX2.out).trans HX3.out).alloc _)⟩
 ·rw [if_neg h6]
  have HMF := Hd (show makeF L 6 = (planA L, dp, lowF L) by unfold makeF; rw [HE6.out, if_neg h6, if_pos rfl, ← HDP.out])
  obtain ⟨Y, eY⟩ : ∃ Y, Y = (makeF L 6).1 := ⟨_, rfl⟩
  obtain ⟨lo, elo⟩ : ∃ x, x = (makeF L 6).2.2 := ⟨_, rfl⟩
  have HY := Hd (show Y = planA L by rw [eY, HMF.out])
  rw [show (makeF L 6).2.1 = dp by rw [HMF.out], ← elo, ← eY]
  rw [← eY] at hYl ho3
  obtain ⟨nY, enY⟩ : ∃ x, x = Y.length := ⟨_, rfl⟩
  have HNY := Hd enY
  have HO3 := Hd ho3
  rw [← enY] at hYl ⊢
  obtain ⟨b7, hb7⟩ : ∃ b, b = w3.heap.size := ⟨_, rfl⟩
  obtain ⟨w4, hw4⟩ : ∃ w, w = w3.alloc (.cells #[.slice A3 nY c3, .int .i64 (dp : Int), .int .i64 (lo : Int)] 29) := ⟨_, rfl⟩
  have HB7 := Hd (show Blk w4 b7 29 #[.slice A3 nY c3, .int .i64 (dp : Int), .int .i64 (lo : Int)] by rw [hw4, hb7]; exact Blk.new _ _ _)
  have HX34 := Hd (show Ext w3 w4 by rw [hw4]; exact (Ext.refl _).alloc _)
  have HX4 := Hd (HX3.out.trans HX34.out)
  have HXW := Hd (HX1.out.trans HX2.out)
  clear ho3 hx3 eY enY elo
  go_upto_region 4 with fail
  rw [← hw4, ← hb7]
  clear hw4 hb7
  by_cases hn0 : nL = 0
  ·have j0 : ((nL : Int) == 0) = true := by rw [beq_iff_eq]; omega
   go_wp2
   go_ret
   exact ⟨rfl, HXW.out.trans HX4.out⟩
  ·have j0 : ((nL : Int) == 0) = false := by rw [beq_eq_false_iff_ne]; omega
   obtain ⟨o, eo⟩ : ∃ o, o = u % nL := ⟨_, rfl⟩
   have hol : o < L.length := by rw [← HNL.out, eo]; exact Nat.mod_lt _ (by omega)
   have hon : o < nL := by rw [HNL.out]; exact hol
   have hmod : (u : Int) % (nL : Int) = (o : Int) := by rw [eo]; norm_cast
   have htmod : Int.tmod (u : Int) (nL : Int) = (o : Int) := by rw [eo]; norm_cast
   obtain ⟨bA, oA, C, eC, hA, zA, cA0, -, hr0⟩ := HRW.out.at_ hol
   subst hA
   have hrl : L[o].length = N := by rw [HEN.out]; exact (rightA_wide HRT.out) _ (List.getElem_mem hol)
   rw [hrl] at cA0
   obtain ⟨ro, ero⟩ : ∃ r, r = L[o] := ⟨_, rfl⟩
   rw [← ero] at hr0 hrl
   have HRO := Hd (show L.getD o [] = ro by rw [getD_of _ _ _ hol, ero])
   clear ero
   have HCA := Hd cA0
   have HR0 := Hd hr0
   have HRL := Hd hrl
   have cA := HX4.out.cell cA0
   obtain ⟨bm, hbm⟩ : ∃ b, b = w4.heap.size := ⟨_, rfl⟩
   obtain ⟨w5, hw5⟩ : ∃ w, w = w4.alloc (.map #[] 0) := ⟨_, rfl⟩
   have HM5 := Hd (show MapIs w5 bm encN [] by rw [hw5, hbm]; exact MapIs.made _ _)
   have HX45 := Hd (show Ext w4 w5 by rw [hw5]; exact (Ext.refl _).alloc _)
   have HX5 := Hd (HX4.out.trans HX45.out)
   have HBM := Hd (show w4.heap.size ≤ bm by rw [hbm]; exact Nat.le_refl _)
   have HUS := Hd (question_Useful 1 L (some ⟨bA, oA, none⟩) c2 w5 _ (HRW.out.keep (HX5.out.kept _)) HNT.out (by rw [← HEN.out]; omega))
   rw [← HNL.out] at HUS
   have HOL := Hd hol
   have HZA := Hd zA
   have i0 : (0 : Int) ≤ (o : Int) := by omega
   have i1 : (o : Int) < (nL : Int) := by omega
   clear cA0 hr0 hrl zA eo
   go_upto_region 8 with fail
   rw [← hw5, ← hbm]
   clear hw5 hbm cA
   go_wp2_with fail
   refine HUS.out.mono ?_
   rintro e6 w6 ⟨A6, c6, rfl, ho6, hx6⟩
   have HX6 := Hd (HX5.out.trans hx6)
   have HX56 := Hd hx6
   have HM6 := Hd (HM5.out.keep (hx6.kept _))
   obtain ⟨us, eus⟩ : ∃ us, us = usefulS L := ⟨_, rfl⟩
   rw [← eus] at ho6 ⊢
   have hul : us.length ≤ 10 := by
    rw [eus]
    unfold usefulS
    split
    ·refine Nat.le_trans (List.length_filter_le _ _) ?_
     rw [List.length_range, ← HEN.out]; exact hin10
    ·simp
   have HEU := Hd eus
   have HO6 := Hd (show Nums w6 (fun b => b ≠ bm) A6 us from ⟨(Own.rd ho6).mono fun b _ e => by have := (Own.blk ho6 e).1; have := HM5.out.lt; omega, by omega⟩)
   obtain ⟨nu, enu⟩ : ∃ nu, nu = us.length := ⟨_, rfl⟩
   have HNU := Hd enu
   rw [← enu] at hul ⊢
   clear ho6 hx6 eus enu HUS
   go_wp2
   go_loopw [12, 57] (fun _u i wr => ∃ (k : Nat) (M : List (Int × Value)), k ≤ nu ∧ i = .int .i64 (k : Int) ∧ MapIs wr bm encN M ∧ (∀ x ∈ us.take k, mget M (x : Int) = some (.bool true)) ∧ ButS (fun b => b = bm) w6 wr) (fun _ i _ => nu - (intOf i).toNat)
   case atStart => exact ⟨0, [], Nat.zero_le _, rfl, HM6.out, by simp, ButS.refl _ _⟩
   case round =>
    obtain ⟨k, M, hk, rfl, hM, hmg, hb⟩ := hrel
    obtain ⟨w7, rfl⟩ : ∃ w7 : World, w7 = wr := ⟨_, rfl⟩
    have HM := Hd hM
    have HMG := Hd hmg
    have HB := Hd hb
    clear hM hmg hb
    by_cases hlt : k < nu
    ·have hks : k < us.length := by rw [← HNU.out]; exact hlt
     obtain ⟨b2, o2, hA6, _, cx⟩ := (HO6.out.keep (HB.out.kept fun b _ e => e)).at_ hks
     subst hA6
     obtain ⟨x, ex⟩ : ∃ x, x = us[k] := ⟨_, rfl⟩
     rw [← ex] at cx
     have HTK := Hd (show us.take (k + 1) = us.take k ++ [x] by rw [List.take_succ_eq_append_getElem hks, ← ex])
     obtain ⟨w8, hu8, hM8, hg8⟩ := HM.out.put Tryz.underlying56 (klInt Tryz.underlying3) (x : Int) (.bool true)
     have HM8 := Hd hM8
     have HG8 := Hd hg8
     have i2 : (0 : Int) ≤ (k : Int) := by omega
     have i3 : (k : Int) < (nu : Int) := by omega
     clear hks ex hM8 hg8
     go_wp2
     go_roundw
     case rel =>
      refine ⟨k + 1, _, by omega, by go_num, HM8.out, fun y hy => ?_, HB.out.grown HG8.out fun b e => .inl (by injection e with e; exact e.symm)⟩
      rw [mget_put]
      by_cases hxy : (x : Int) = (y : Int)
      ·rw [if_pos hxy]
      ·rw [if_neg hxy]
       rw [HTK.out, List.mem_append, List.mem_singleton] at hy
       rcases hy with hy | hy
       ·exact HMG.out y hy
       ·exact absurd (by rw [hy]) hxy
     case measure => simp [intOf]; omega
    ·have HMU := Hd (show ∀ x ∈ usefulS L, mget M (x : Int) = some (.bool true) from fun x hx => HMG.out x (by rw [List.take_of_length_le (by rw [← HNU.out]; omega), HEU.out]; exact hx))
     have HXC := Hd (ButS.exts HX6.out HB.out fun b e => by rw [e]; exact Nat.le_trans HX4.out.size HBM.out)
     have hs7 := HXC.out.size
     have HBE := Hd (HB7.out.keep (((HX45.out.kept _).trans ((show Ext w5 w6 from HX56.out).kept _)).trans (HB.out.kept fun b _ e f => by have := HB7.out.lt; have := HBM.out; omega)))
     have hk7 : Kept (fun b => b < w4.heap.size) w4 w7 := (HX45.out.kept _).trans ((HX56.out.kept _).trans (HB.out.kept fun b _ e f => by have := HBM.out; omega))
     have HY7 := Hd ((((HO3.out.ext HX34.out).as_ (T := fun _ => True) (by rw [← HNY.out]; omega) (fun _ _ => trivial) fun _ _ => trivial).mono (T := fun b => b < w4.heap.size) fun b hb _ => hb).keep hk7)
     have hs24 := HX4.out.size
     have hk2 : Kept (fun b => b < w2.heap.size) w2 w7 := (HX4.out.kept _).trans (hk7.mono fun b _ e => by omega)
     have HR7 := Hd (HRW.out.keep hk2)
     have HO7 := Hd (Row.keep HR0.out hk2)
     have HS27 := Hd (hk2.1)
     clear HO6 hk7 hk2
     go_wp2_with fail
     refine (r25_All nL (by omega) w7).mono ?_
     rintro e8 w8 ⟨A8, c8, rfl, ho8, hx8⟩
     rw [List.length_range]
     have HAP := Hd (show allP L = List.range nL by unfold allP; rw [HNL.out])
     have HX8 := Hd hx8
     have HST := Hd (show ∃ (vs : List Val) (L' : List Nat) (A13 : Option Addr) (c13 : Nat) (A14 : Option Addr) (c14 : Nat), Value.slice none 0 0 = .slice A13 vs.length c13 ∧ Value.slice A8 nL c8 = .slice A14 L'.length c14 ∧ OwnVs w8 w8.heap.size (fun b => b < w2.heap.size) 1 A13 c13 vs ∧ OwnN w8 w7.heap.size A14 c14 L' ∧ (∀ b, ob A14 = some b → ob A13 ≠ some b) ∧ Fol L Y o vs L' ∧ Ext w8 w8 from
      ⟨[], allP L, none, 0, A8, c8, rfl, by rw [HAP.out, List.length_range], OwnVs.nil _ _ _ _, by rw [HAP.out]; exact ho8, fun b _ => by simp [ob], by rw [HY.out]; exact Fol.start HOL.out, Ext.refl _⟩)
     clear ho8 hx8
     go_wp2
     go_loopw [13, 14, 15, 16, 17, 18, 20] (fun v13 v14 _u15 _u16 _u17 _u18 _u20 wr => ∃ (vs : List Val) (L' : List Nat) (A13 : Option Addr) (c13 : Nat) (A14 : Option Addr) (c14 : Nat), v13 = .slice A13 vs.length c13 ∧ v14 = .slice A14 L'.length c14 ∧ OwnVs wr w8.heap.size (fun b => b < w2.heap.size) 1 A13 c13 vs ∧ OwnN wr w7.heap.size A14 c14 L' ∧ (∀ b, ob A14 = some b → ob A13 ≠ some b) ∧ Fol L Y o vs L' ∧ Ext w8 wr) (fun v13 _ _ _ _ _ _ _ => dp - slN v13)
     case atStart => exact HST.out
     case round =>
      clear HST
      obtain ⟨vs, L', A13, c13, A14, c14, rfl, rfl, hvs, hls, hne, hF, hx⟩ := hrel
      obtain ⟨ws, rfl⟩ : ∃ ws : World, ws = wr := ⟨_, rfl⟩
      have HX := Hd hx
      have hx7s : Ext w7 ws := HX8.out.trans hx
      have HX7S := Hd hx7s
      have hlen := hF.len
      have hLl : L'.length ≤ L.length := by have := hF.sub.length_le; simpa [allP] using this
      have hvr : Row ws (fun _ => True) 1 A13 vs := hvs.row (by rw [← HDP.out] at hlen; omega) (fun _ _ => trivial) fun _ _ => trivial
      have HFO := Hd (question_Follow 1 Y A3 c3 (dp : Int) (lo : Int) vs A13 c13 ws _ _ (HY7.out.keep (hx7s.kept _)) hvr)
      have HVS := Hd hvs
      have HLS := Hd hls
      have HF := Hd hF
      have HNE := Hd hne
      obtain ⟨nv, env⟩ : ∃ x, x = vs.length := ⟨_, rfl⟩
      obtain ⟨n', en'⟩ : ∃ x, x = L'.length := ⟨_, rfl⟩
      have HNV := Hd env
      have HN' := Hd en'
      rw [← HDP.out, ← env] at hlen
      rw [← en', ← HNL.out] at hLl
      rw [← HNY.out, ← env] at HFO
      rw [← env, ← en']
      have hb7 := HBE.out.keep (hx7s.kept _)
      have HBS := Hd hb7
      have q0 := hb7.cell (i := 0) rfl
      have q1 := hb7.cell (i := 1) rfl
      have q2 := hb7.cell (i := 2) rfl
      clear hx hvs hls hvr hne env en' hb7
      by_cases hd : dep (spl L) (inpS L) L' = 0
      ·obtain ⟨hfs, halk⟩ := hF.fin HTR.out HRT.out hd
       rw [hfs] at HFO
       have HAK := Hd (show ∀ w' : World, Ext ws w' → Calls Tryz.prog 32 #[.slice (some ⟨bA, oA, none⟩) nL c2, .slice A14 n' c14] w' (RetB w' true) from fun w' hx => by
        have h1 := r25_Alike 1 L (some ⟨bA, oA, none⟩) c2 L' A14 c14 w' _ (fun _ => True) (HR7.out.keep ((HX7S.out.trans hx).kept _)) ⟨((Own.rd HLS.out).mono fun _ _ _ => trivial).keep (hx.kept _), by rw [← HN'.out]; omega⟩ HF.out.lt (by rw [← HN'.out]; omega)
        rw [halk, ← HNL.out, ← HN'.out] at h1
        exact h1)
       have j1 : ¬ (nY : Int) ≤ -1 := by omega
       have j2 : ¬ (dp : Int) < (nv : Int) := by omega
       clear hfs halk hF hd hx7s
       go_wp2_with fail
       refine HFO.out.mono ?_
       rintro e9 w9 ⟨rfl, hx9⟩
       have HX9 := Hd hx9
       have q0 := hx9.cell q0
       have q1 := hx9.cell q1
       have q2 := hx9.cell q2
       clear hx9
       go_wp2_with fail
       refine (HAK.out w9 HX9.out).mono ?_
       rintro e10 w10 ⟨rfl, hx10⟩
       have HX10 := Hd hx10
       go_wp2
       go_ret
       exact ⟨rfl, HXW.out.trans (HXC.out.trans (HX7S.out.trans (HX9.out.trans HX10.out)))⟩
      ·obtain ⟨p, m, a, hfs, hpY, hya, ham, hmN, hmu, hF'⟩ := hF.step HTR.out HRT.out hd
       rw [hfs] at HFO
       have HF2 := Hd hF'
       obtain ⟨bY, oY, Ac, cc, Ar, cr, hA3, zY, ⟨cY0, -, -⟩, -, -⟩ := HY7.out.at_ hpY
       rw [show Y[p] = a from (List.getElem?_eq_some_iff.1 hya).2, ham] at cY0
       have hpn : p < nY := by rw [HNY.out]; exact hpY
       have hmn : m < N := by rw [HEN.out]; exact hmN
       have hmo : m < ro.length := by rw [HRL.out]; exact hmn
       subst hA3
       obtain ⟨g1, o1, A1, c1, B1, e1, hC, z1, ⟨x0, x1, x2, x3, x4, x5, x6⟩, hcap1, hrv⟩ := HO7.out.at_ hmo
       subst hC
       obtain ⟨vo, evo⟩ : ∃ v, v = ro[m] := ⟨_, rfl⟩
       have HVO := Hd (show ans L m o = vo by unfold ans; rw [HRO.out, getD_of _ _ _ hmo, evo])
       rw [← evo] at x0 x1 x2 x3 x4 x5 x6 hcap1 hrv
       have HRV := Hd hrv
       have HCAP := Hd hcap1
       have X0 := Hd x0
       have X1 := Hd x1
       have X2 := Hd x2
       have X3 := Hd x3
       have X4 := Hd x4
       have X5 := Hd x5
       have X6 := Hd x6
       have HMU2 := Hd (HMU.out m hmu)
       have HMN := Hd hmN
       have hnvd : nv < dp := by omega
       have j2 : ¬ (dp : Int) < (nv : Int) := by omega
       have j3 : ¬ (nY : Int) ≤ (p : Int) := by omega
       have j4 : ¬ (p : Int) < 0 := by omega
       have j5 : ¬ (m : Int) < 0 := by omega
       have j6 : ¬ (N : Int) ≤ (m : Int) := by omega
       have j7 : (0 : Int) ≤ (p : Int) := by omega
       have j8 : (p : Int) < (nY : Int) := by omega
       have j9 : (0 : Int) ≤ (m : Int) := by omega
       have j10 : (m : Int) < (N : Int) := by omega
       clear hfs hF' hF hd hya ham hmu hmN evo x0 x1 x2 x3 x4 x5 x6 hcap1 hrv
       go_wp2_with fail
       refine HFO.out.mono ?_
       rintro e9 w9 ⟨rfl, hx9⟩
       have HX9 := Hd hx9
       have hx79 := HX7S.out.trans hx9
       have q0 := hx9.cell q0
       have q1 := hx9.cell q1
       have q2 := hx9.cell q2
       have cY := hx79.cell cY0
       have x0 := hx79.cell X0.out
       have x1 := hx79.cell X1.out
       have x2 := hx79.cell X2.out
       have x3 := hx79.cell X3.out
       have x4 := hx79.cell X4.out
       have x5 := hx79.cell X5.out
       have x6 := hx79.cell X6.out
       have hlk := (HM.out.keep (hx79.kept _)).get Tryz.underlying56 (klInt Tryz.underlying3) (.bool false) zeroBT (m : Int)
       rw [HMU2.out, Option.getD_some] at hlk
       obtain ⟨xs, hown, hvl⟩ := HVS.out.ext (HX9.out.alloc (.cells (vcells vo A1 c1 B1 e1).toArray 47))
       rw [← HNV.out] at hown
       have HOV := Hd hown
       have HVL := Hd hvl
       have hs89 := (HX.out.trans hx9).size
       clear hx9 hx79 hown hvl hx7s HFO
       go_upto_region 23 with (at_builtin; go_must (refine wpList_app rfl (.tmp 111) (.tmp 116) rfl tiV rfl HOV.out rfl (Blk.rd (Blk.new _ _ _)) rfl vcells_one (by omega) (by decide) (by simp; omega) ?_); intro A15 c15 w10 hown10 hg10 hat10)
       have HX10 := Hd (show Ext w8 w10 from ((HX.out.trans HX9.out).alloc _).grown hg10 fun b e => (HVS.out.blk e).1)
       have HX710 := Hd (HX8.out.trans HX10.out)
       have HVS2 := Hd (show OwnVs w10 w8.heap.size (fun b => b < w2.heap.size) 1 A15 c15 (vs ++ [vo]) from OwnVs.push HVL.out (by rw [← HNV.out]; exact hown10) hg10 hat10 HCAP.out (((HRV.out.keep ((HX7S.out.trans HX9.out).kept _)).keep (Kept.alloc _ _ _)).mono fun b _ e => ⟨fun f => by
        have h1 := (HVS.out.blk f).1
        have h2 := HX8.out.size
        have h3 := HS27.out
        omega, e⟩))
       have HN10 := Hd (show Nums w10 (fun _ => True) A14 L' from ⟨((((Own.rd HLS.out).mono (T := fun b => ob A13 ≠ some b) fun b _ e => HNE.out b e).keep (HX9.out.kept _)).keep (Kept.alloc _ _ _)).keep (Kept.of_grown hg10 fun b e _ f => e f.symm) |>.mono fun _ _ _ => trivial, by rw [← HN'.out]; omega⟩)
       have hs710 := HX710.out.size
       have HS910 := Hd (show w9.heap.size ≤ w10.heap.size by have := hg10.size; simp at this; omega)
       clear hown10 hg10 hat10 hlk q0 q1 q2 cY cY0 x0 x1 x2 x3 x4 x5 x6 HOV HVL
       have HRS := Hd (HR7.out)
       have HOQ := Hd HO7.out
       go_wp2
       go_loopw [18, 20, 120] (fun v18 _u20 i wi => ∃ (k : Nat) (A18 : Option Addr) (c18 : Nat), k ≤ n' ∧ v18 = .slice A18 ((L'.take k).filter fun x => decide (ans L m x = vo)).length c18 ∧ i = .int .i64 (k : Int) ∧ OwnN wi w10.heap.size A18 c18 ((L'.take k).filter fun x => decide (ans L m x = vo)) ∧ Ext w10 wi) (fun _ _ i _ => n' - (intOf i).toNat)
       case atStart => exact ⟨0, none, 0, Nat.zero_le _, rfl, rfl, Own.nil _ _ _ _, Ext.refl _⟩
       case round =>
        obtain ⟨k, A18, c18, hk, rfl, rfl, ho, hx⟩ := hrel
        obtain ⟨wi, rfl⟩ : ∃ wi : World, wi = wr := ⟨_, rfl⟩
        have HXI := Hd hx
        obtain ⟨ls, els⟩ : ∃ ls, ls = (L'.take k).filter fun x => decide (ans L m x = vo) := ⟨_, rfl⟩
        have HEL := Hd els
        rw [← els] at ho ⊢
        have hls : ls.length ≤ k := by
         rw [els]
         refine Nat.le_trans (List.length_filter_le _ _) ?_
         rw [List.length_take]; omega
        obtain ⟨nl, enl⟩ : ∃ nl, nl = ls.length := ⟨_, rfl⟩
        have HNLS := Hd enl
        rw [← enl] at hls ⊢
        have hown := ho
        unfold OwnN at hown
        rw [← enl] at hown
        have HOW := Hd hown
        have HO := Hd ho
        have hx7i := HX710.out.trans hx
        have HX7I := Hd hx7i
        have hsi := hx.size
        clear hx els enl hown ho
        by_cases hlt : k < n'
        ·have hks : k < L'.length := by rw [← HN'.out]; exact hlt
         obtain ⟨x, ex⟩ : ∃ x, x = L'[k] := ⟨_, rfl⟩
         have hxl : x < L.length := HF.out.lt x (by rw [ex]; exact List.getElem_mem hks)
         obtain ⟨b4, o4, hA14, z4, cx⟩ := (HN10.out.keep (HXI.out.kept _)).at_ hks
         subst hA14
         rw [← ex] at cx
         have HTK := Hd (show (L'.take (k + 1)).filter (fun x => decide (ans L m x = vo)) = ls ++ if ans L m x = vo then [x] else [] by
          rw [List.take_succ_eq_append_getElem hks, List.filter_append, ← HEL.out, ← ex]
          congr 1
          by_cases h : ans L m x = vo
          ·rw [if_pos h]; simp [h]
          ·rw [if_neg h]; simp [h])
         obtain ⟨bA2, oA2, Cx, eCx, hA2, zA2, cAx, -, hrx⟩ := HR7.out.at_ hxl
         injection hA2 with hA2
         injection hA2 with ha1 ha2
         subst ha1 ha2
         obtain ⟨rx, erx⟩ : ∃ r, r = L[x] := ⟨_, rfl⟩
         rw [← erx] at cAx hrx
         have hrl2 : rx.length = N := by rw [HEN.out, erx]; exact (rightA_wide HRT.out) _ (List.getElem_mem hxl)
         rw [hrl2] at cAx
         have hmx : m < rx.length := by rw [hrl2]; exact hmn
         obtain ⟨g2, o2, A4, c4, B4, e4, hCx, zx, ⟨y0, y1, y2, y3, y4, y5, y6⟩, hcap4, hrvx⟩ := hrx.at_ hmx
         subst hCx
         obtain ⟨vx, evx⟩ : ∃ v, v = rx[m] := ⟨_, rfl⟩
         have HVX := Hd (show ans L m x = vx by unfold ans; rw [getD_of _ _ _ hxl, ← erx, getD_of _ _ _ hmx, evx])
         rw [← evx] at y0 y1 y2 y3 y4 y5 y6 hrvx
         obtain ⟨bv, ebv⟩ : ∃ bv, bv = decide (vx = vo) := ⟨_, rfl⟩
         have HBV := Hd ebv
         have HSV := Hd (show ∀ w' : World, Ext wi w' → Calls Tryz.prog 31 #[(.agg #[.int .i64 vx.kind, .string vx.s, .int .i64 vx.dn, .int .i64 vx.ds, .int .i64 vx.n, .slice A4 vx.cols.length c4, .slice B4 vx.rows.length e4]), (.agg #[.int .i64 vo.kind, .string vo.s, .int .i64 vo.dn, .int .i64 vo.ds, .int .i64 vo.n, .slice A1 vo.cols.length c1, .slice B1 vo.rows.length e1])] w' (RetB w' bv) from fun w' hx => by
          rw [ebv]
          exact r06_Equal 0 vx vo A4 B4 A1 B1 c4 e4 c1 e1 w' _ _ (hrvx.keep ((HX7I.out.trans hx).kept _)) (HRV.out.keep ((HX7I.out.trans hx).kept _)))
         have Q0 := Hd (hx7i.cell cAx)
         have Q1 := Hd (hx7i.cell y0)
         have Q2 := Hd (hx7i.cell y1)
         have Q3 := Hd (hx7i.cell y2)
         have Q4 := Hd (hx7i.cell y3)
         have Q5 := Hd (hx7i.cell y4)
         have Q6 := Hd (hx7i.cell y5)
         have Q7 := Hd (hx7i.cell y6)
         have Q8 := Hd (hx7i.cell X0.out)
         have Q9 := Hd (hx7i.cell X1.out)
         have Q10 := Hd (hx7i.cell X2.out)
         have Q11 := Hd (hx7i.cell X3.out)
         have Q12 := Hd (hx7i.cell X4.out)
         have Q13 := Hd (hx7i.cell X5.out)
         have Q14 := Hd (hx7i.cell X6.out)
         have k0 : (0 : Int) ≤ (k : Int) := by omega
         have k1 : (k : Int) < (n' : Int) := by omega
         have k2 : (0 : Int) ≤ (x : Int) := by omega
         have k3 : (x : Int) < (nL : Int) := by rw [HNL.out]; omega
         have k4 : x < nL := by rw [HNL.out]; exact hxl
         clear ebv hcap4 evx y0 y1 y2 y3 y4 y5 y6 hrvx cAx hrx erx hks ex hx7i hrl2 hmx
         go_upto_region 27 with fail
         clear cx
         refine wp_region_chain (by kernel_rfl) (fun i => [i]) (by kernel_rfl) (LZ (fun _ _ => False)) (LZ.refl _) (LZ.trans _) (LK []) gz0 (LK.zero _) ?_
         apply Chain.pure (LZ.refl _) (by rfl)
         ·intro vals γ w' ρ hR hN hp hρ hc hf hg
          refine ⟨rfl, ?_⟩
          have e6 := hρ 6
          conv at e6 => rhs; whnf
          clear hR hN hp hρ
          go_light
          go_simp
          exact ⟨rfl, rfl⟩
         ·rfl
         apply Chain.pure (LZ.refl _) (by rfl)
         ·intro vals γ w' ρ hR hN hp hρ hc hf hg
          refine ⟨rfl, ?_⟩
          have e20 := hρ 20
          conv at e20 => rhs; whnf
          clear hR hN hp hρ
          go_light
          go_simp
          exact ⟨rfl, rfl⟩
         ·rfl
         apply Chain.pure (LZ.refl _) (by rfl)
         ·intro vals γ w' ρ hR hN hp hρ hc hf hg
          refine ⟨rfl, ?_⟩
          have e124 : ρ (.tmp 124) = _ := (hρ 124).trans (hp 0 (by decide))
          have e125 : ρ (.tmp 125) = _ := (hρ 125).trans (hp 1 (by decide))
          clear hR hN hp hρ
          go_light
          go_simp
          exact ⟨rfl, rfl⟩
         ·rfl
         apply Chain.pure (LZ.refl _) (by rfl)
         ·intro vals γ w' ρ hR hN hp hρ hc hf hg
          refine ⟨rfl, ?_⟩
          have e126 : ρ (.tmp 126) = _ := (hρ 126).trans (hp 2 (by decide))
          have hxx := hR.ext0 (fun _ _ _ h => h.elim)
          have m0 := hxx.cell Q0.out
          have m1 := hxx.cell Q1.out
          have m2 := hxx.cell Q2.out
          have m3 := hxx.cell Q3.out
          have m4 := hxx.cell Q4.out
          have m5 := hxx.cell Q5.out
          have m6 := hxx.cell Q6.out
          have m7 := hxx.cell Q7.out
          have m8 := hxx.cell Q8.out
          have m9 := hxx.cell Q9.out
          have m10 := hxx.cell Q10.out
          have m11 := hxx.cell Q11.out
          have m12 := hxx.cell Q12.out
          have m13 := hxx.cell Q13.out
          have m14 := hxx.cell Q14.out
          clear hxx
          clear hR hN hp hρ
          go_light
          go_simp
          exact ⟨rfl, rfl⟩
         ·rfl
         apply Chain.pure (LZ.refl _) (by rfl)
         ·intro vals γ w' ρ hR hN hp hρ hc hf hg
          refine ⟨rfl, ?_⟩
          have e17 := hρ 17
          conv at e17 => rhs; whnf
          clear hR hN hp hρ
          go_light
          go_simp
          exact ⟨rfl, rfl⟩
         ·rfl
         apply Chain.pure (LZ.refl _) (by rfl)
         ·intro vals γ w' ρ hR hN hp hρ hc hf hg
          refine ⟨rfl, ?_⟩
          have e127 : ρ (.tmp 127) = _ := (hρ 127).trans (hp 3 (by decide))
          have e128 : ρ (.tmp 128) = _ := (hρ 128).trans (hp 4 (by decide))
          clear hR hN hp hρ
          go_light
          go_simp
          exact ⟨rfl, rfl⟩
         ·rfl
         apply Chain.pure (LZ.refl _) (by rfl)
         ·intro vals γ w' ρ hR hN hp hρ hc hf hg
          refine ⟨rfl, ?_⟩
          have e129 : ρ (.tmp 129) = _ := (hρ 129).trans (hp 5 (by decide))
          have hxx := hR.ext0 (fun _ _ _ h => h.elim)
          have m0 := hxx.cell Q0.out
          have m1 := hxx.cell Q1.out
          have m2 := hxx.cell Q2.out
          have m3 := hxx.cell Q3.out
          have m4 := hxx.cell Q4.out
          have m5 := hxx.cell Q5.out
          have m6 := hxx.cell Q6.out
          have m7 := hxx.cell Q7.out
          have m8 := hxx.cell Q8.out
          have m9 := hxx.cell Q9.out
          have m10 := hxx.cell Q10.out
          have m11 := hxx.cell Q11.out
          have m12 := hxx.cell Q12.out
          have m13 := hxx.cell Q13.out
          have m14 := hxx.cell Q14.out
          clear hxx
          clear hR hN hp hρ
          go_light
          go_simp
          exact ⟨rfl, rfl⟩
         ·rfl
         apply Chain.pure (LZ.refl _) (by rfl)
         ·intro vals γ w' ρ hR hN hp hρ hc hf hg
          refine ⟨rfl, ?_⟩
          have e9 := hρ 9
          conv at e9 => rhs; whnf
          clear hR hN hp hρ
          go_light
          go_simp
          exact ⟨rfl, rfl⟩
         ·rfl
         apply Chain.pure (LZ.refl _) (by rfl)
         ·intro vals γ w' ρ hR hN hp hρ hc hf hg
          refine ⟨rfl, ?_⟩
          have e17 := hρ 17
          conv at e17 => rhs; whnf
          clear hR hN hp hρ
          go_light
          go_simp
          exact ⟨rfl, rfl⟩
         ·rfl
         apply Chain.pure (LZ.refl _) (by rfl)
         ·intro vals γ w' ρ hR hN hp hρ hc hf hg
          refine ⟨rfl, ?_⟩
          have e131 : ρ (.tmp 131) = _ := (hρ 131).trans (hp 7 (by decide))
          have e132 : ρ (.tmp 132) = _ := (hρ 132).trans (hp 8 (by decide))
          clear hR hN hp hρ
          go_light
          go_simp
          exact ⟨rfl, rfl⟩
         ·rfl
         apply Chain.pure (LZ.refl _) (by rfl)
         ·intro vals γ w' ρ hR hN hp hρ hc hf hg
          refine ⟨rfl, ?_⟩
          have e133 : ρ (.tmp 133) = _ := (hρ 133).trans (hp 9 (by decide))
          have hxx := hR.ext0 (fun _ _ _ h => h.elim)
          have m0 := hxx.cell Q0.out
          have m1 := hxx.cell Q1.out
          have m2 := hxx.cell Q2.out
          have m3 := hxx.cell Q3.out
          have m4 := hxx.cell Q4.out
          have m5 := hxx.cell Q5.out
          have m6 := hxx.cell Q6.out
          have m7 := hxx.cell Q7.out
          have m8 := hxx.cell Q8.out
          have m9 := hxx.cell Q9.out
          have m10 := hxx.cell Q10.out
          have m11 := hxx.cell Q11.out
          have m12 := hxx.cell Q12.out
          have m13 := hxx.cell Q13.out
          have m14 := hxx.cell Q14.out
          clear hxx
          clear hR hN hp hρ
          go_light
          go_simp
          exact ⟨rfl, rfl⟩
         ·rfl
         refine Chain.step (FP fun v γ w' => v = .bool bv) (by rfl) (FP.stab ?_) ?_ ?_
         ·intro v γ w1 γ' w2 r h
          exact h
         ·intro vals γ w' ρ hR hN hp hρ hc hf hg
          refine ⟨rfl, ?_⟩
          have e130 : ρ (.tmp 130) = _ := (hρ 130).trans (hp 6 (by decide))
          have e134 : ρ (.tmp 134) = _ := (hρ 134).trans (hp 10 (by decide))
          have HR := Hd hR
          have hxx := hR.ext0 (fun _ _ _ h => h.elim)
          have HXW2 := Hd hxx
          clear hxx
          clear hR hN hp hρ
          go_light
          go_simp
          refine (HSV.out w' HXW2.out).mono ?_
          rintro e1 w3 ⟨he, hx⟩
          exact ⟨_, he, γ, LZ.of_ext _ γ hx, fun _ _ _ h => h, rfl⟩
         intro vals γ w9 hR hG
         have v0 : vals 0 = _ := hG 0 (by decide)
         have v1 : vals 1 = _ := hG 1 (by decide)
         have v2 : vals 2 = _ := hG 2 (by decide)
         have v3 : vals 3 = _ := hG 3 (by decide)
         have v4 : vals 4 = _ := hG 4 (by decide)
         have v5 : vals 5 = _ := hG 5 (by decide)
         have v6 : vals 6 = _ := hG 6 (by decide)
         have v7 : vals 7 = _ := hG 7 (by decide)
         have v8 : vals 8 = _ := hG 8 (by decide)
         have v9 : vals 9 = _ := hG 9 (by decide)
         have v10 : vals 10 = _ := hG 10 (by decide)
         have v11 : vals 11 = _ := hG 11 (by decide)
         simp only [lexFrame, Act.put, List.setIfInBounds_toArray, List.set_cons_succ, List.set_cons_zero, Nat.zero_add, Nat.reduceAdd, v0, v1, v2, v3, v4, v5, v6, v7, v8, v9, v10, v11]
         clear v0 v1 v2 v3 v4 v5 v6 v7 v8 v9 v10 v11
         have HXN := Hd (show Ext wi w9 from hR.ext0 (fun _ _ _ h => h.elim))
         clear hR hG
         have HX11 := Hd (HXI.out.trans HXN.out)
         cases bv
         ·have HNQ := Hd (show ¬ ans L m x = vo by rw [HVX.out]; simpa using HBV.out.symm)
          go_wp2
          go_roundw
          case rel =>
           refine ⟨k + 1, A18, c18, by omega, by rw [HTK.out, if_neg HNQ.out, List.append_nil, ← HNLS.out], by go_num, ?_, HX11.out⟩
           rw [HTK.out, if_neg HNQ.out, List.append_nil]
           exact Own.ext HO.out HXN.out
          case measure => simp [intOf]; omega
         ·have HQ2 := Hd (show ans L m x = vo by rw [HVX.out]; simpa using HBV.out.symm)
          have hsn := HXN.out.size
          go_wp2_with (at_builtin; go_must (refine wpList_app rfl (.tmp 136) (.tmp 138) rfl tiI rfl ((Own.ext HOW.out HXN.out).ext ((Ext.refl _).alloc _)) rfl (Blk.rd (Blk.new _ _ _)) rfl (by simp [Value.oneCell']) (by omega) (by decide) (by simp; omega) ?_); intro A5 c5 w5b hown5 hg5 hat5)
          go_roundw
          case rel =>
           refine ⟨k + 1, A5, c5, by omega, ?_, by go_num, ?_, (HX11.out.alloc _).grown hg5 (fun b hb => (Own.blk HOW.out hb).1)⟩
           ·rw [HTK.out, if_pos HQ2.out, List.length_append, ← HNLS.out]; rfl
           ·rw [HTK.out, if_pos HQ2.out]
            unfold OwnN
            rw [List.length_append, ← HNLS.out]
            simpa [nums] using hown5
          case measure => simp [intOf]; omega
        ·have HFI := Hd (show ls = L'.filter fun x => decide (ans L m x = ans L m o) by rw [HEL.out, List.take_of_length_le (by rw [← HN'.out]; omega), HVO.out])
         have hf2 := HF2.out
         rw [← HFI.out, HVO.out] at hf2
         have HF3 := Hd hf2
         clear hf2 hx7i
         go_wp2
         go_roundw
         case rel =>
          refine ⟨vs ++ [vo], ls, A15, c15, A18, c18, by rw [List.length_append, ← HNV.out]; rfl, by rw [← HNLS.out], HVS2.out.ext HXI.out, Own.lower HO.out (by omega), fun b hb hb2 => ?_, HF3.out, HX10.out.trans HXI.out⟩
          have h1 := (Own.blk HO.out hb).1
          have h2 := (HVS2.out.blk hb2).2
          omega
         case measure =>
          show dp - (nv + 1) < dp - nv
          omega
end Go.Proofs.YtomdpipekmcojaaGreatDoor
