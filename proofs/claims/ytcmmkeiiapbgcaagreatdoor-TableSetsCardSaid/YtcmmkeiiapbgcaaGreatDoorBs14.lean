/- The reference's Set. Conditions: the arguments read as data. -/
import Derived.Test.YtcmmkeiiapbgcaaGreatDoorBs13
namespace Go.Proofs.YtcmmkeiiapbgcaaGreatDoor
open Go Go.RowKit

/-- A slice literal is the call's own. -/
theorem Own.lit {w : World} {base g e sz n : Nat} {xs : List Value} (h : Blk w g e xs.toArray) (hg : base ≤ g) (hn : xs.length = n * sz := by rfl) (hm : n ≤ maxLen := by decide) : Own w base e sz (some ⟨g, 0, none⟩) n n xs :=
  ⟨hn, .inr ⟨g, n, xs.toArray, rfl, hg, h, Nat.le_refl _, hm, by simpa using hn, by rw [List.take_of_length_le (by simp [hn])]⟩⟩
theorem ob_lit {g y : Nat} (e : ob (some ⟨g, 0, none⟩) = some y) : g = y := by simpa [ob] using e
theorem LS.tl {w : World} {S : Nat → Prop} {d c j : Nat} {A : Option Addr} {l : List Look} (h : LS w S d A l) (hl : l.length ≤ c) (hj : j ≤ l.length) : LS w S d (if c = j then A else A.map fun x => x.add (j * 3)) (l.drop j) := by
  obtain ⟨h0, xs, h1, h2⟩ := h
  refine ⟨by rw [List.length_drop]; omega, xs.drop (j * 3), ?_, h2.drop j⟩
  have hx := h2.1
  split
  · rename_i hc
    left
    exact List.drop_of_length_le (by omega)
  · rcases h1 with h1 | ⟨b, o, rfl, h3, h4, h5⟩
    · left; rw [h1]; simp
    · have := Rd.tail (n := j * 3) (w := w) (S := S) (xs := xs) (g := b) (o := o) (.inr ⟨b, o, rfl, h3, h4, h5⟩)
      simpa [Addr.add_lit] using this
theorem LS.take {w : World} {S : Nat → Prop} {d : Nat} {A : Option Addr} {l : List Look} (h : LS w S d A l) (j : Nat) : LS w S d A (l.take j) := by
  obtain ⟨h0, xs, h1, h2⟩ := h
  exact ⟨by rw [List.length_take]; omega, xs.take (j * 3), h1.take _, h2.take j⟩
theorem nle_eq (x y : ByteArray) : (Op.bytesLess y.toList x.toList || y.toList == x.toList) = !nlt x y := by
  rw [bytes_beq]
  show (nlt y x || decide (y = x)) = !nlt x y
  cases h1 : nlt x y
  · cases h2 : nlt y x
    · simp [nlt_total h2 h1]
    · simp
  · rw [nlt_asymm h1]
    have : ¬ y = x := fun e => by rw [e, nlt_irrefl] at h1; cases h1
    simp [this]
def vR8 (gt : Nat) (bb : Nat) (o : Nat) (n : Nat) (cb : Nat) (k : Nat) (xn : ByteArray) (tn : ByteArray) (nb : Bool) : Nat → Value
  | 0 => .slice (some ⟨bb, o, none⟩) n cb
  | 1 => .int .i64 (k : Int)
  | 2 => .pointer (some ⟨bb, o + k * 3, none⟩)
  | 3 => .pointer (some ⟨bb, o + k * 3, none⟩)
  | 4 => .string xn
  | 5 => .pointer (some ⟨gt, 0, none⟩)
  | 6 => .string tn
  | 7 => .bool nb
  | _ => undef
def gR8 (gt : Nat) (bb : Nat) (o : Nat) (n : Nat) (cb : Nat) (k : Nat) (xn : ByteArray) (tn : ByteArray) (nb : Bool) (ix : Nat) (vl : List Value) (_γ : Gh) (_w' : World) : Prop := match vl with
  | [v] => v = vR8 gt bb o n cb k xn tn nb ix
  | _ => True
theorem gR8_st (gt : Nat) (bb : Nat) (o : Nat) (n : Nat) (cb : Nat) (k : Nat) (xn : ByteArray) (tn : ByteArray) (nb : Bool) : ∀ ix vl γ w γ' w', LR γ w γ' w' → gR8 gt bb o n cb k xn tn nb ix vl γ w → gR8 gt bb o n cb k xn tn nb ix vl γ' w' := by
  intro ix vl γ w γ' w' r h
  match vl, h with
  | [v], h =>
    unfold gR8 at h ⊢
    exact h
  | [], _ => trivial
  | _ :: _ :: _, _ => trivial
def vR18 (Ao : Option Addr) (bo : Nat) (oo : Nat) (m : Nat) (co : Nat) (br : Nat) (orr : Nat) (nr : Nat) (cr : Nat) (k : Nat) (j : Nat) (yn : ByteArray) (xn : ByteArray) (le : Bool) : Nat → Value
  | 0 => .int .i64 (j : Int)
  | 1 => .slice Ao m co
  | 2 => .int .i64 (m : Int)
  | 3 => .bool true
  | 4 => .bool true
  | 5 => .slice Ao m co
  | 6 => .int .i64 (j : Int)
  | 7 => .pointer (some ⟨bo, oo + j * 3, none⟩)
  | 8 => .pointer (some ⟨bo, oo + j * 3, none⟩)
  | 9 => .string yn
  | 10 => .slice (some ⟨br, orr, none⟩) nr cr
  | 11 => .int .i64 (k : Int)
  | 12 => .pointer (some ⟨br, orr + k * 3, none⟩)
  | 13 => .pointer (some ⟨br, orr + k * 3, none⟩)
  | 14 => .string xn
  | 15 => .bool le
  | 16 => .bool le
  | _ => undef
def gR18 (Ao : Option Addr) (bo : Nat) (oo : Nat) (m : Nat) (co : Nat) (br : Nat) (orr : Nat) (nr : Nat) (cr : Nat) (k : Nat) (j : Nat) (yn : ByteArray) (xn : ByteArray) (le : Bool) (ix : Nat) (vl : List Value) (_γ : Gh) (_w' : World) : Prop := match vl with
  | [v] => v = vR18 Ao bo oo m co br orr nr cr k j yn xn le ix
  | _ => True
theorem gR18_st (Ao : Option Addr) (bo : Nat) (oo : Nat) (m : Nat) (co : Nat) (br : Nat) (orr : Nat) (nr : Nat) (cr : Nat) (k : Nat) (j : Nat) (yn : ByteArray) (xn : ByteArray) (le : Bool) : ∀ ix vl γ w γ' w', LR γ w γ' w' → gR18 Ao bo oo m co br orr nr cr k j yn xn le ix vl γ w → gR18 Ao bo oo m co br orr nr cr k j yn xn le ix vl γ' w' := by
  intro ix vl γ w γ' w' r h
  match vl, h with
  | [v], h =>
    unfold gR18 at h ⊢
    exact h
  | [], _ => trivial
  | _ :: _ :: _, _ => trivial
def vR18N (Ao : Option Addr) (_bo : Nat) (_oo : Nat) (m : Nat) (co : Nat) (_br : Nat) (_orr : Nat) (_nr : Nat) (_cr : Nat) (_k : Nat) (j : Nat) (_yn : ByteArray) (_xn : ByteArray) (_le : Bool) : Nat → Value
  | 0 => .int .i64 (j : Int)
  | 1 => .slice Ao m co
  | 2 => .int .i64 (m : Int)
  | 3 => .bool false
  | 4 => .bool false
  | 5 => undef
  | 6 => undef
  | 7 => undef
  | 8 => undef
  | 9 => undef
  | 10 => undef
  | 11 => undef
  | 12 => undef
  | 13 => undef
  | 14 => undef
  | 15 => undef
  | 16 => .bool false
  | _ => undef
def gR18N (Ao : Option Addr) (bo : Nat) (oo : Nat) (m : Nat) (co : Nat) (br : Nat) (orr : Nat) (nr : Nat) (cr : Nat) (k : Nat) (j : Nat) (yn : ByteArray) (xn : ByteArray) (le : Bool) (ix : Nat) (vl : List Value) (_γ : Gh) (_w' : World) : Prop := match vl with
  | [v] => v = vR18N Ao bo oo m co br orr nr cr k j yn xn le ix
  | _ => True
theorem gR18N_st (Ao : Option Addr) (bo : Nat) (oo : Nat) (m : Nat) (co : Nat) (br : Nat) (orr : Nat) (nr : Nat) (cr : Nat) (k : Nat) (j : Nat) (yn : ByteArray) (xn : ByteArray) (le : Bool) : ∀ ix vl γ w γ' w', LR γ w γ' w' → gR18N Ao bo oo m co br orr nr cr k j yn xn le ix vl γ w → gR18N Ao bo oo m co br orr nr cr k j yn xn le ix vl γ' w' := by
  intro ix vl γ w γ' w' r h
  match vl, h with
  | [v], h =>
    unfold gR18N at h ⊢
    exact h
  | [], _ => trivial
  | _ :: _ :: _, _ => trivial
def StTInv (wr : World) (_d : Nat) (_X : Nat → Prop) (_x : Look) (_Ax : Option Addr) (_cx : Nat) (_Bx : Option Addr) (_ex : Nat) (_Ao : Option Addr) (_m _co : Nat) (_br _orr _nr _cr _k _j : Nat) (_od : List Look) (γ : Nat) (w' : World) : Prop := γ ≤ 3 ∧ Ext wr w'
def gStT (wr : World) (d : Nat) (X : Nat → Prop) (x : Look) (Ax : Option Addr) (cx : Nat) (Bx : Option Addr) (ex : Nat) (Ao : Option Addr) (m co : Nat) (br orr nr cr k j : Nat) (od : List Look) : Nat → List Value → Nat → World → Prop
  | 0, [v], _, _ => v = .slice (some ⟨br, orr, none⟩) nr cr
  | 1, [v], _, _ => v = .int .i64 (k : Int)
  | 2, [v], _, _ => v = .pointer (some ⟨br, orr + k * 3, none⟩)
  | 3, [v], _, _ => v = (.agg #[.string x.name, .slice Ax x.cols.length cx, .slice Bx x.rows.length ex])
  | 4, [v], γ, w' => ∃ (A3 : Option Addr) (c3 : Nat) (B3 : Option Addr) (e3 : Nat), v = (.agg #[.string x.name, .slice A3 x.cols.length c3, .slice B3 x.rows.length e3]) ∧ 1 ≤ γ ∧ (γ = 1 → (x.cols.length ≤ c3 ∧ x.rows.length ≤ e3) ∧ RL w' X d x A3 B3)
  | 5, [v], γ, w' => ∃ g : Nat, v = .slice (some ⟨g, 0, none⟩) 1 1 ∧ 2 ≤ γ ∧ (γ = 2 → ∃ (A3 : Option Addr) (c3 : Nat) (B3 : Option Addr) (e3 : Nat), Blk w' g 28 (lcells x A3 c3 B3 e3).toArray ∧ g ≤ g ∧ wr.heap.size ≤ g ∧ (x.cols.length ≤ c3 ∧ x.rows.length ≤ e3) ∧ RL w' (fun b => X b ∧ b ≠ g) d x A3 B3)
  | 6, [v], _, _ => v = .slice Ao m co
  | 7, [v], _, _ => v = .int .i64 (j : Int)
  | 8, [v], _, _ => v = .slice (if co = j then Ao else Ao.map fun x => x.add (j * 3)) (m - j) (co - j)
  | 9, [v], γ, w' => ∃ (A4 : Option Addr) (c4 : Nat), v = .slice A4 (1 + (m - j)) c4 ∧ 3 ≤ γ ∧ (γ = 3 → OwnLs w' wr.heap.size X d A4 c4 (x :: od) ∧ Ext wr w')
  | 10, [v], γ, w' => ∃ (A4 : Option Addr) (c4 : Nat), v = .slice A4 (1 + (m - j)) c4 ∧ 3 ≤ γ ∧ (γ = 3 → OwnLs w' wr.heap.size X d A4 c4 (x :: od) ∧ Ext wr w')
  | _, _, _, _ => True
theorem gStT_st (wr : World) (d : Nat) (X : Nat → Prop) (x : Look) (Ax : Option Addr) (cx : Nat) (Bx : Option Addr) (ex : Nat) (Ao : Option Addr) (m co : Nat) (br orr nr cr k j : Nat) (od : List Look) : ∀ i l' γ v γ' v', SR (StTInv wr d X x Ax cx Bx ex Ao m co br orr nr cr k j od) γ v γ' v' → gStT wr d X x Ax cx Bx ex Ao m co br orr nr cr k j od i l' γ v → gStT wr d X x Ax cx Bx ex Ao m co br orr nr cr k j od i l' γ' v' := by
  intro i l' γ v γ' v' r h
  have hle := r.le
  unfold gStT at h ⊢
  split at h
  all_goals first
    | exact h
    | (obtain ⟨h1, h2⟩ := h; exact ⟨h1, by omega⟩)
    | (obtain ⟨h1, h3, h4⟩ := h; exact ⟨h1, by omega, fun e => by rw [r.eq (by omega)]; exact h4 (by omega)⟩)
    | (obtain ⟨x0, h1, h3, h4⟩ := h; exact ⟨x0, h1, by omega, fun e => by rw [r.eq (by omega)]; exact h4 (by omega)⟩)
    | (obtain ⟨x0, x1, h1, h3, h4⟩ := h; exact ⟨x0, x1, h1, by omega, fun e => by rw [r.eq (by omega)]; exact h4 (by omega)⟩)
    | (obtain ⟨x0, x1, x2, h1, h3, h4⟩ := h; exact ⟨x0, x1, x2, h1, by omega, fun e => by rw [r.eq (by omega)]; exact h4 (by omega)⟩)
    | (obtain ⟨x0, x1, x2, x3, h1, h3, h4⟩ := h; exact ⟨x0, x1, x2, x3, h1, by omega, fun e => by rw [r.eq (by omega)]; exact h4 (by omega)⟩)
    | (obtain ⟨x0, x1, x2, x3, x4, h1, h3, h4⟩ := h; exact ⟨x0, x1, x2, x3, x4, h1, by omega, fun e => by rw [r.eq (by omega)]; exact h4 (by omega)⟩)
    | (obtain ⟨h3, h4⟩ := h; exact ⟨by omega, fun e => by rw [r.eq (by omega)]; exact h4 (by omega)⟩)
def dStT : Nat → List Nat := fun i => [i]
def stStT : List Nat := [100, 100, 100, 100, 1, 2, 100, 100, 100, 3, 100]

theorem set4_first {w8 w9 : World} {d j : Nat} {S' X : Nat → Prop} {A6 : Option Addr} {c6 B : Nat} {ys : List Value} {l : List Look} (_h0 : Own (w8.alloc (.cells #[] 28)) w8.heap.size 28 3 (some ⟨w8.heap.size, 0, none⟩) 0 0 []) (hl : LL (CL (w8.alloc (.cells #[] 28)) S' d) ys l) (hj : l.length = j) (hX : X = fun y => B ≤ y) (hown : Own w9 w8.heap.size 28 3 A6 j c6 ys) (hg : (w8.alloc (.cells #[] 28)).grownBy w9 (ob (some ⟨w8.heap.size, 0, none⟩))) (hat : ob A6 = ob (some ⟨w8.heap.size, 0, none⟩) ∨ ob A6 = some (w8.alloc (.cells #[] 28)).heap.size) (hS : ∀ y, S' y → B ≤ y ∧ y < w8.heap.size) : OwnLs w9 w8.heap.size X d A6 c6 l := by
  have := OwnLs.app (l := []) (m := l) (X := X) (xs := []) (w := w8.alloc (.cells #[] 28)) (A := some ⟨w8.heap.size, 0, none⟩) (LL.nil _) (hl.imp fun _ _ hh => hh.mono fun y _ hy => ⟨fun e => by have h1 := hS y hy; have e2 := ob_lit e; omega, by rw [hX]; exact (hS y hy).1⟩) (by rw [List.length_nil, Nat.zero_add, hj, List.nil_append]; exact hown) hg hat
  simpa using this
theorem set4_second {w9 : World} {d n2 B base2 c6 : Nat} {X : Nat → Prop} {A5 A6 : Option Addr} {qs zs : List Value} {l : List Look} (h2 : LL (CL w9 (fun y => ob A5 ≠ some y ∧ (X y ∧ y < B)) d) qs l) (h3 : Own w9 base2 28 3 A6 n2 c6 zs) (hB : B ≤ base2) : LL (CL w9 (fun y => ob A6 ≠ some y ∧ X y) d) qs l :=
  h2.imp fun _ _ hh => hh.mono fun y _ hy => ⟨fun e => by have h1 := (h3.blk e).1; have h4 := hy.2.2; omega, hy.2.1⟩
set_option maxRecDepth 100000 in
set_option maxHeartbeats 8000000 in
theorem r09_Set (d : Nat) (b : List Look) (t : Look) (Ab A B : Option Addr) (cb c e : Nat) (w : World) (S T : Nat → Prop) (hb : LS w S d Ab b) (hbl : b.length ≤ 18) (h : RL w T d t A B) (hcap : t.cols.length ≤ c ∧ t.rows.length ≤ e) :
    Calls Tryz.prog 35 #[.slice Ab b.length cb, (.agg #[.string t.name, .slice A t.cols.length c, .slice B t.rows.length e])] w (RetLsE w (Fresh w) d (setS b t)) := by
  have H := Lib.hid (h.mono (T := fun y => y < w.heap.size) fun i hi _ => hi)
  have HBS := Lib.hid (hb.mono (T := fun y => y < w.heap.size) fun i hi _ => hi)
  clear h hb
  obtain ⟨W0, hW0⟩ : ∃ W0, W0 = w.alloc (.cells #[.string t.name, .slice A t.cols.length c, .slice B t.rows.length e] 28) := ⟨_, rfl⟩
  have HW0 := Lib.hid hW0
  have HX0 := Lib.hid (show Ext w W0 by rw [hW0]; exact (Ext.refl w).alloc _)
  have HB0 := Lib.hid (show Blk W0 w.heap.size 28 #[.string t.name, .slice A t.cols.length c, .slice B t.rows.length e] by rw [hW0]; exact Blk.new _ _ _)
  have HS0 := Lib.hid (show W0.heap.size = w.heap.size + 1 by rw [hW0]; simp)
  clear hW0
  go_enter Tryz.func35, Tryz.ntmps35
  go_wp2_with fail
  rw [← HW0.out]
  refine (r09_Right d t A B c e W0 _ (H.out.keep (HX0.out.kept _))).mono ?_
  rintro e1 w1 ⟨rfl, hx1⟩
  have HX1 := Lib.hid (HX0.out.trans hx1)
  have HB1 := Lib.hid (HB0.out.keep (hx1.kept _))
  have hw1 : w.heap.size + 1 ≤ w1.heap.size := by have := hx1.size; have := HS0.out; omega
  clear hx1 HB0 HX0 HW0 HS0
  cases hT : lookR t
  · have HF := Lib.hid (show setS b t = ([], 1) by simp [setS, hT])
    clear hT
    go_wp2
    go_ret2
    rw [HF.out]
    exact ⟨none, 0, rfl, Nat.le_refl _, LS.nil, HX1.out⟩
  have HT := Lib.hid hT
  clear hT
  go_wp2
  go_loopw [8, 7] (fun i v wr => ∃ (k : Nat) (A' : Option Addr) (c' : Nat), k ≤ b.length ∧ i = .int .i64 k ∧ v = .slice A' (others t (b.take k)).length c' ∧ Ext w1 wr ∧ OwnLs wr w1.heap.size (fun y => y < w.heap.size) d A' c' (others t (b.take k))) (fun i _ _ => b.length - (intOf i).toNat)
  case atStart => exact ⟨0, none, 0, Nat.zero_le _, rfl, rfl, Ext.refl _, OwnLs.nil _ _ _ _⟩
  case round =>
    obtain ⟨k, A', c', hk, rfl, rfl, hx2, ho2⟩ := hrel
    have HX2 := Lib.hid hx2
    have HO2 := Lib.hid ho2
    have hz2 := hx2.size
    have HB2 := Lib.hid (HB1.out.keep (hx2.kept _))
    have hol := others_len t b k
    obtain ⟨os, hos⟩ : ∃ os, os = others t (b.take k) := ⟨_, rfl⟩
    rw [← hos] at HO2 hol
    rw [← hos]
    have HOS := Lib.hid hos
    clear hx2 ho2 hos
    by_cases hlt : k < b.length
    · obtain ⟨bb, o, Ac, cc, Ar, cr, hAb, zb, ⟨p0, p1, p2⟩, hcp, hrl⟩ := (HBS.out.keep ((HX1.out.trans HX2.out).kept _)).at_ hlt
      subst hAb
      obtain ⟨x, hx⟩ : ∃ x, x = b[k] := ⟨_, rfl⟩
      rw [← hx] at p0 p1 p2 hcp hrl
      have HX := Lib.hid hx
      have HRL := Lib.hid hrl
      have HCP := Lib.hid hcp
      have C0 := Lib.hid p0
      have C1 := Lib.hid p1
      have C2 := Lib.hid p2
      have D0 := Lib.hid (HB2.out.cell (i := 0) rfl)
      obtain ⟨nb, hnb⟩ : ∃ nb, nb = !decide (x.name = t.name) := ⟨_, rfl⟩
      have HNB := Lib.hid hnb
      have HQ1 := Lib.hid (show (x.name.toList == t.name.toList) = !nb by rw [bytes_beq, hnb]; simp)
      have HQ2 := Lib.hid (show (x.name.toList != t.name.toList) = nb by rw [bne, bytes_beq, hnb])
      obtain ⟨n, hn⟩ : ∃ n, n = b.length := ⟨_, rfl⟩
      have HN := Lib.hid hn
      have hkn : k < n := by omega
      obtain ⟨xn, hxn⟩ : ∃ xn, xn = x.name := ⟨_, rfl⟩
      obtain ⟨tn, htn⟩ : ∃ tn, tn = t.name := ⟨_, rfl⟩
      rw [← hxn] at C0 HQ1 HQ2
      rw [show (#[Value.string t.name, .slice A t.cols.length c, .slice B t.rows.length e] : Array Value)[0] = .string tn by rw [htn]; rfl] at D0
      rw [← htn] at HQ1 HQ2
      obtain ⟨gt, hgt⟩ : ∃ gt, gt = w.heap.size := ⟨_, rfl⟩
      have HGT := Lib.hid hgt
      rw [← hgt] at D0
      have HXN := Lib.hid hxn
      clear hx hrl hcp p0 p1 p2 hnb hxn htn
      go_upto_region 8 with fail
      rw [← hn, ← hgt]
      clear hn hgt
      refine wp_region_lin_lit (by kernel_rfl) (fun i => [i]) (by kernel_rfl) LR LR.refl LR.trans (LN (al0)) (gR8 gt bb o n cb k xn tn nb) (gR8_st _ _ _ _ _ _ _ _ _) gh0 (LN.zero _) ⟨?_, ?_, ?_, ?_, ?_, ?_, ?_, ?_, trivial⟩ ?_
      · refine LinStep.yes fun vals γ w' ρ hR hN hp hρ hc hf hg => ⟨rfl, ?_⟩
        have e0 : ρ (.tmp 0) = .slice (some ⟨bb, o, none⟩) n cb := hρ 0
        have hx := hR.drew_ext
        have HR := Lib.hid hR
        have HN := Lib.hid hN
        clear hR hN hp hρ hx
        go_light
        go_simp
        exact ⟨γ, LR.refl _ _, fun _ _ _ h => h, rfl⟩
      · refine LinStep.yes fun vals γ w' ρ hR hN hp hρ hc hf hg => ⟨rfl, ?_⟩
        have e8 : ρ (.tmp 8) = .int .i64 (k : Int) := hρ 8
        have hx := hR.drew_ext
        have HR := Lib.hid hR
        have HN := Lib.hid hN
        clear hR hN hp hρ hx
        go_light
        go_simp
        exact ⟨γ, LR.refl _ _, fun _ _ _ h => h, rfl⟩
      · refine LinStep.yes fun vals γ w' ρ hR hN hp hρ hc hf hg => ⟨rfl, ?_⟩
        have e23 : ρ (.tmp 23) = .slice (some ⟨bb, o, none⟩) n cb := (hρ 23).trans (hp 0 (by decide))
        have e24 : ρ (.tmp 24) = .int .i64 (k : Int) := (hρ 24).trans (hp 1 (by decide))
        have hx := hR.drew_ext
        have i0 : (0 : Int) ≤ (k : Int) := by omega
        have i1 : (k : Int) < (n : Int) := by omega
        have HR := Lib.hid hR
        have HN := Lib.hid hN
        clear hR hN hp hρ hx
        go_light
        go_simp
        exact ⟨γ, LR.refl _ _, fun _ _ _ h => h, rfl⟩
      · refine LinStep.yes fun vals γ w' ρ hR hN hp hρ hc hf hg => ⟨rfl, ?_⟩
        have e25 : ρ (.tmp 25) = .pointer (some ⟨bb, o + k * 3, none⟩) := (hρ 25).trans (hp 2 (by decide))
        have hx := hR.drew_ext
        have HR := Lib.hid hR
        have HN := Lib.hid hN
        clear hR hN hp hρ hx
        go_light
        go_simp
        exact ⟨γ, LR.refl _ _, fun _ _ _ h => h, rfl⟩
      · refine LinStep.yes fun vals γ w' ρ hR hN hp hρ hc hf hg => ⟨rfl, ?_⟩
        have e26 : ρ (.tmp 26) = .pointer (some ⟨bb, o + k * 3, none⟩) := (hρ 26).trans (hp 3 (by decide))
        have hx := hR.drew_ext
        have c0 := hx.cell C0.out
        have HR := Lib.hid hR
        have HN := Lib.hid hN
        clear hR hN hp hρ hx
        go_light
        go_simp
        exact ⟨γ, LR.refl _ _, fun _ _ _ h => h, rfl⟩
      · refine LinStep.yes fun vals γ w' ρ hR hN hp hρ hc hf hg => ⟨rfl, ?_⟩
        have e3 : ρ (.tmp 3) = .pointer (some ⟨gt, 0, none⟩) := hρ 3
        have hx := hR.drew_ext
        have HR := Lib.hid hR
        have HN := Lib.hid hN
        clear hR hN hp hρ hx
        go_light
        go_simp
        exact ⟨γ, LR.refl _ _, fun _ _ _ h => h, rfl⟩
      · refine LinStep.yes fun vals γ w' ρ hR hN hp hρ hc hf hg => ⟨rfl, ?_⟩
        have e28 : ρ (.tmp 28) = .pointer (some ⟨gt, 0, none⟩) := (hρ 28).trans (hp 5 (by decide))
        have hx := hR.drew_ext
        have d0 := hx.cell D0.out
        have HR := Lib.hid hR
        have HN := Lib.hid hN
        clear hR hN hp hρ hx
        go_light
        go_simp
        exact ⟨γ, LR.refl _ _, fun _ _ _ h => h, rfl⟩
      · refine LinStep.yes fun vals γ w' ρ hR hN hp hρ hc hf hg => ⟨rfl, ?_⟩
        have e27 : ρ (.tmp 27) = .string xn := (hρ 27).trans (hp 4 (by decide))
        have e29 : ρ (.tmp 29) = .string tn := (hρ 29).trans (hp 6 (by decide))
        have hx := hR.drew_ext
        have q1 := HQ1.out
        have q2 := HQ2.out
        have HR := Lib.hid hR
        have HN := Lib.hid hN
        clear hR hN hp hρ hx
        go_light
        go_simp
        exact ⟨γ, LR.refl _ _, fun _ _ _ h => h, rfl⟩
      · intro vals γ w6 hR hG
        have h7 : vals 7 = .bool nb := hG 7 (by decide)
        have hx6 := hR.drew_ext
        have HX6 := Lib.hid hx6
        have HO6 := Lib.hid (HO2.out.ext hx6)
        have c0 := hx6.cell C0.out
        have c1 := hx6.cell C1.out
        have c2 := hx6.cell C2.out
        have cz : bb < w6.heap.size := Nat.lt_of_lt_of_le zb hx6.size
        have HRL6 := Lib.hid (HRL.out.keep (hx6.kept _))
        have hz6 := hx6.size
        clear hR hG hx6
        simp only [lexFrame, Act.put, List.setIfInBounds_toArray, List.set_cons_succ, List.set_cons_zero, Nat.zero_add, Nat.reduceAdd, h7]
        generalize vals 0 = u0, vals 1 = u1, vals 2 = u2, vals 3 = u3, vals 4 = u4, vals 5 = u5, vals 6 = u6
        clear h7
        have hn := HN.out
        have hgt := HGT.out
        have hxn := HXN.out
        clear HN HGT HXN
        subst hn hgt hxn
        cases nb
        · have HNM := Lib.hid (show ¬ x.name ≠ t.name by have := HNB.out; simpa using this)
          go_wp2
          go_roundw
          case rel => exact ⟨k + 1, A', c', by omega, by go_num, by rw [others_snoc t b hlt, ← HX.out, if_neg HNM.out, List.append_nil, ← HOS.out], HX2.out.trans HX6.out, by rw [others_snoc t b hlt, ← HX.out, if_neg HNM.out, List.append_nil, ← HOS.out]; exact HO6.out⟩
          case measure => simp [intOf]; omega
        · have HNM := Lib.hid (show x.name ≠ t.name by have := HNB.out; simpa using this)
          have i0 : (0 : Int) ≤ (k : Int) := by omega
          have i1 : (k : Int) < (b.length : Int) := by omega
          have HX4 := Lib.hid ((Ext.refl w6).alloc (.cells (lcells x Ac cc Ar cr).toArray 28))
          obtain ⟨xs, hown, hvl⟩ := HO6.out.ext HX4.out
          have HVL := Lib.hid hvl
          have HOWN := Lib.hid hown
          have HNEW := Lib.hid (show LL (CL (w6.alloc (.cells (lcells x Ac cc Ar cr).toArray 28)) (fun y => ob A' ≠ some y ∧ y < w.heap.size) d) (lcells x Ac cc Ar cr) [x] from LL.one rfl ⟨Ac, cc, Ar, cr, rfl, HCP.out, (HRL6.out.keep (Kept.alloc _ _ _)).mono fun y _ hy => ⟨fun h0 => by have := (HO6.out.blk h0).1; omega, hy⟩⟩)
          clear hvl hown
          go_wp2_with (at_builtin; go_must (refine wpList_app rfl (.tmp 31) (.tmp 36) rfl tiL rfl HOWN.out rfl (Blk.rd (Blk.new _ _ _)) rfl lcells_one (by omega) (by decide) (by simp; omega) ?_); intro A4 c4 w4 hown4 hg4 hat4)
          go_roundw
          case rel =>
            have h9 : others t (b.take (k + 1)) = os ++ [x] := by rw [others_snoc t b hlt, ← HX.out, if_pos HNM.out, ← HOS.out]
            refine ⟨k + 1, A4, c4, by omega, by go_num, by rw [h9]; simp, ((HX2.out.trans HX6.out).trans HX4.out).grown hg4 (fun y hy => (HOWN.out.blk hy).1), ?_⟩
            rw [h9]
            exact OwnLs.app HVL.out HNEW.out hown4 hg4 hat4
          case measure => simp [intOf]; omega
    · have hkb : k = b.length := by omega
      subst hkb
      have HOB := Lib.hid (show os = others t b by have := HOS.out; rwa [List.take_of_length_le (Nat.le_refl _)] at this)
      have t0 := HB2.out.cell (i := 0) rfl
      have t1 := HB2.out.cell (i := 1) rfl
      have t2 := HB2.out.cell (i := 2) rfl
      have tz := HB2.out.lt
      by_cases hmany : os.length = b.length ∧ 6 ≤ b.length
      · obtain ⟨h1, h2⟩ := hmany
        have HF := Lib.hid (show setS b t = ([], 2) by
          unfold setS
          rw [HT.out, if_neg (by simp), if_pos ⟨by rw [← HOB.out]; exact h1, h2⟩])
        have k1 : ((os.length : Int) == (b.length : Int)) = true := by rw [beq_iff_eq]; omega
        have k2 : (6 : Int) ≤ (b.length : Int) := by omega
        have k3 : decide ((6 : Int) ≤ (b.length : Int)) = true := by simpa using k2
        clear h1
        go_wp2
        go_ret2
        rw [HF.out]
        exact ⟨none, 0, rfl, Nat.le_refl _, LS.nil, HX1.out.trans HX2.out⟩
      · have HF := Lib.hid (show setS b t = (sortL Look.name (os ++ [t]), 0) by
          unfold setS
          rw [HT.out, if_neg (by simp), if_neg (by rw [← HOB.out]; exact hmany), ← HOB.out])
        have hlow : os.length ≤ 18 := by omega
        have hcase : (((os.length : Int) == (b.length : Int)) = true ∧ ¬ (6 : Int) ≤ (b.length : Int)) ∨ ((os.length : Int) == (b.length : Int)) = false := by
          by_cases h1 : os.length = b.length
          · exact .inl ⟨by rw [beq_iff_eq]; omega, by omega⟩
          · exact .inr (by rw [← Bool.not_eq_true, beq_iff_eq]; omega)
        clear hmany
        have HX4 := Lib.hid ((Ext.refl wr).alloc (.cells (lcells t A c B e).toArray 28))
        obtain ⟨xs, hown, hvl⟩ := HO2.out.ext HX4.out
        have HVL := Lib.hid hvl
        have HOWN := Lib.hid hown
        have HNEW := Lib.hid (show LL (CL (wr.alloc (.cells (lcells t A c B e).toArray 28)) (fun y => ob A' ≠ some y ∧ y < w.heap.size) d) (lcells t A c B e) [t] from LL.one rfl ⟨A, c, B, e, rfl, hcap, ((H.out.keep ((HX1.out.trans HX2.out).kept _)).keep (Kept.alloc _ _ _)).mono fun y _ hy => ⟨fun h0 => by have := (HO2.out.blk h0).1; omega, hy⟩⟩)
        clear hvl hown
        rcases hcase with ⟨k1, k2⟩ | k1
        all_goals
          go_wp2_with (at_builtin; go_must (refine wpList_app rfl (.tmp 48) (.tmp 50) rfl tiL rfl HOWN.out rfl (Blk.rd (Blk.new _ _ _)) rfl lcells_one (by omega) (by decide) (by simp; omega) ?_); intro A4 c4 w5 hown4 hg4 hat4)
          have hol5 : OwnLs w5 w1.heap.size (fun y => y < w.heap.size) d A4 c4 (os ++ [t]) := OwnLs.app HVL.out HNEW.out hown4 hg4 hat4
          have HX5 := Lib.hid (((HX1.out.trans HX2.out).trans HX4.out).grown hg4 (fun y hy => by have := (HOWN.out.blk hy).1; omega))
          have hz5 : w1.heap.size ≤ w5.heap.size := by have h1 := HX2.out.size; have h3 := hg4.size; simp at h3; omega
          obtain ⟨rs, hrs⟩ : ∃ rs, rs = os ++ [t] := ⟨_, rfl⟩
          rw [← hrs] at hol5 HF
          have hrsl : rs.length = os.length + 1 := by rw [hrs]; simp
          have HRSL := Lib.hid hrsl
          have HRS := Lib.hid (hol5.ls (T := fun y => y < w5.heap.size) (by omega) (fun y hy => (hol5.blk hy).2) (fun y hy => by omega))
          obtain ⟨nr, hnr⟩ : ∃ nr, nr = os.length + 1 := ⟨_, rfl⟩
          rw [← hnr] at HRSL
          have hnr1 : nr ≤ 19 := by omega
          have hnr0 : 0 < nr := by omega
          rw [show os.length + 1 = nr from hnr.symm]
          clear hown4 hg4 hat4 hol5 hrs hrsl hnr t0 t1 t2 tz
          go_wp2
          go_loopw [10, 9] (fun i v wr => ∃ (k : Nat) (Ao : Option Addr) (co : Nat), k ≤ nr ∧ i = .int .i64 k ∧ v = .slice Ao k co ∧ k ≤ co ∧ Ext w5 wr ∧ LS wr (fun y => w5.heap.size ≤ y) d Ao (sortL Look.name (rs.take k))) (fun i _ _ => nr - (intOf i).toNat)
          case atStart => exact ⟨0, none, 0, Nat.zero_le _, rfl, rfl, Nat.le_refl _, Ext.refl _, LS.nil⟩
          case round =>
            obtain ⟨k, Ao, co, hk, rfl, rfl, hkco, hx6, hlo⟩ := hrel
            have HX6 := Lib.hid hx6
            have HLO := Lib.hid hlo
            clear hx6 hlo
            by_cases hlt2 : k < nr
            · have hkr : k < rs.length := by rw [HRSL.out]; exact hlt2
              obtain ⟨br, orr, Ax, cx, Bx, ex, hA4, zr, ⟨p0, p1, p2⟩, hcpx, hrlx⟩ := HRS.out.at_ hkr
              subst hA4
              obtain ⟨x, hx⟩ : ∃ x, x = rs[k] := ⟨_, rfl⟩
              rw [← hx] at p0 p1 p2 hcpx hrlx
              have HXK := Lib.hid hx
              have HP0 := Lib.hid p0
              have HP1 := Lib.hid p1
              have HP2 := Lib.hid p2
              have HXR5 := Lib.hid hrlx
              obtain ⟨out, hout⟩ : ∃ out, out = sortL Look.name (rs.take k) := ⟨_, rfl⟩
              have houtl : out.length = k := by rw [hout, len_sortL, List.length_take]; omega
              rw [← hout] at HLO
              have HOUT := Lib.hid hout
              have HOUTL := Lib.hid houtl
              have HOSS := Lib.hid (show SrtL Look.name out by rw [hout]; exact SrtL.sort _)
              clear hx p0 p1 p2 hcpx hrlx hout houtl
              go_wp2
              obtain ⟨wo, rfl⟩ : ∃ wo : World, wo = wr := ⟨_, rfl⟩
              go_loopw [11] (fun v wr => ∃ (j : Nat), j ≤ k ∧ v = .int .i64 j ∧ Ext wo wr ∧ ∀ i (hi : i < out.length), i < j → nlt x.name out[i].name = false) (fun v _ => k - (intOf v).toNat)
              case atStart => exact ⟨0, Nat.zero_le _, rfl, Ext.refl _, fun i hi h => absurd h (by omega)⟩
              case round =>
                obtain ⟨j, hjk, rfl, hx7, hpre⟩ := hrel
                have HX7 := Lib.hid hx7
                have HPRE := Lib.hid hpre
                clear hx7 hpre
                have HP0w := Lib.hid ((HX6.out.trans HX7.out).cell HP0.out)
                have XN := HP0w
                by_cases hjk2 : j < k
                · have hjo : j < out.length := by rw [HOUTL.out]; exact hjk2
                  obtain ⟨bo, oo, Ay, cy, By, ey, hAo, zo, ⟨r0, r1, r2⟩, hcpy, hrly⟩ := (HLO.out.keep (HX7.out.kept _)).at_ hjo
                  obtain ⟨y, hy⟩ : ∃ y, y = out[j] := ⟨_, rfl⟩
                  rw [← hy] at r0
                  have YN := Lib.hid r0
                  have HAO := Lib.hid hAo
                  have HYJ := Lib.hid hy
                  obtain ⟨le, hle⟩ : ∃ le, le = !nlt x.name y.name := ⟨_, rfl⟩
                  have HLE := Lib.hid hle
                  clear r0 r1 r2 hcpy hrly hy hle hAo
                  go_upto_region 18 with fail
                  refine wp_region_lin_lit (by kernel_rfl) (fun i => [i]) (by kernel_rfl) LR LR.refl LR.trans (LN (al0)) (gR18 Ao bo oo k co br orr nr c4 k j y.name x.name le) (gR18_st _ _ _ _ _ _ _ _ _ _ _ _ _ _) gh0 (LN.zero _) ⟨?_, ?_, ?_, ?_, ?_, ?_, ?_, ?_, ?_, ?_, ?_, ?_, ?_, ?_, ?_, ?_, ?_, trivial⟩ ?_
                  · refine LinStep.yes fun vals γ w' ρ hR hN hp hρ hc hf hg => ⟨rfl, ?_⟩
                    have e11 : ρ (.tmp 11) = .int .i64 (j : Int) := hρ 11
                    have hx := hR.drew_ext
                    have HR := Lib.hid hR
                    have HN := Lib.hid hN
                    clear hR hN hp hρ hx
                    go_light
                    go_simp
                    exact ⟨γ, LR.refl _ _, fun _ _ _ h => h, rfl⟩
                  · refine LinStep.yes fun vals γ w' ρ hR hN hp hρ hc hf hg => ⟨rfl, ?_⟩
                    have e9 : ρ (.tmp 9) = .slice Ao k co := hρ 9
                    have hx := hR.drew_ext
                    have HR := Lib.hid hR
                    have HN := Lib.hid hN
                    clear hR hN hp hρ hx
                    go_light
                    go_simp
                    exact ⟨γ, LR.refl _ _, fun _ _ _ h => h, rfl⟩
                  · refine LinStep.yes fun vals γ w' ρ hR hN hp hρ hc hf hg => ⟨rfl, ?_⟩
                    have e59 : ρ (.tmp 59) = .slice Ao k co := (hρ 59).trans (hp 1 (by decide))
                    have hx := hR.drew_ext
                    have HR := Lib.hid hR
                    have HN := Lib.hid hN
                    clear hR hN hp hρ hx
                    go_light
                    go_simp
                    exact ⟨γ, LR.refl _ _, fun _ _ _ h => h, rfl⟩
                  · refine LinStep.yes fun vals γ w' ρ hR hN hp hρ hc hf hg => ⟨rfl, ?_⟩
                    have e58 : ρ (.tmp 58) = .int .i64 (j : Int) := (hρ 58).trans (hp 0 (by decide))
                    have e60 : ρ (.tmp 60) = .int .i64 (k : Int) := (hρ 60).trans (hp 2 (by decide))
                    have hx := hR.drew_ext
                    have i1 : (j : Int) < (k : Int) := by omega
                    have i2 : j < k := by omega
                    have HR := Lib.hid hR
                    have HN := Lib.hid hN
                    clear hR hN hp hρ hx
                    go_light
                    go_simp
                    exact ⟨γ, LR.refl _ _, fun _ _ _ h => h, rfl⟩
                  · refine LinStep.yes fun vals γ w' ρ hR hN hp hρ hc hf hg => ⟨rfl, ?_⟩
                    have e61 : ρ (.tmp 61) = .bool true := (hρ 61).trans (hp 3 (by decide))
                    have hx := hR.drew_ext
                    have HR := Lib.hid hR
                    have HN := Lib.hid hN
                    clear hR hN hp hρ hx
                    go_light
                    go_simp
                    exact ⟨γ, LR.refl _ _, fun _ _ _ h => h, rfl⟩
                  · refine LinStep.yes fun vals γ w' ρ hR hN hp hρ hc hf hg => ⟨by show (boolOf (vals 4) == some true) = true; rw [show vals 4 = .bool true from hp 4 (by decide)]; rfl, ?_⟩
                    have e9 : ρ (.tmp 9) = .slice Ao k co := hρ 9
                    have hx := hR.drew_ext
                    have HR := Lib.hid hR
                    have HN := Lib.hid hN
                    clear hR hN hp hρ hx
                    go_light
                    go_simp
                    exact ⟨γ, LR.refl _ _, fun _ _ _ h => h, rfl⟩
                  · refine LinStep.yes fun vals γ w' ρ hR hN hp hρ hc hf hg => ⟨by show (boolOf (vals 4) == some true) = true; rw [show vals 4 = .bool true from hp 4 (by decide)]; rfl, ?_⟩
                    have e11 : ρ (.tmp 11) = .int .i64 (j : Int) := hρ 11
                    have hx := hR.drew_ext
                    have HR := Lib.hid hR
                    have HN := Lib.hid hN
                    clear hR hN hp hρ hx
                    go_light
                    go_simp
                    exact ⟨γ, LR.refl _ _, fun _ _ _ h => h, rfl⟩
                  · refine LinStep.yes fun vals γ w' ρ hR hN hp hρ hc hf hg => ⟨by show (boolOf (vals 4) == some true) = true; rw [show vals 4 = .bool true from hp 4 (by decide)]; rfl, ?_⟩
                    have e63 : ρ (.tmp 63) = .slice Ao k co := (hρ 63).trans (hp 5 (by decide))
                    have e64 : ρ (.tmp 64) = .int .i64 (j : Int) := (hρ 64).trans (hp 6 (by decide))
                    have hx := hR.drew_ext
                    rw [HAO.out] at e63
                    have i0 : (0 : Int) ≤ (j : Int) := by omega
                    have i1 : (j : Int) < (k : Int) := by omega
                    have HR := Lib.hid hR
                    have HN := Lib.hid hN
                    clear hR hN hp hρ hx
                    go_light
                    go_simp
                    exact ⟨γ, LR.refl _ _, fun _ _ _ h => h, rfl⟩
                  · refine LinStep.yes fun vals γ w' ρ hR hN hp hρ hc hf hg => ⟨by show (boolOf (vals 4) == some true) = true; rw [show vals 4 = .bool true from hp 4 (by decide)]; rfl, ?_⟩
                    have e65 : ρ (.tmp 65) = .pointer (some ⟨bo, oo + j * 3, none⟩) := (hρ 65).trans (hp 7 (by decide))
                    have hx := hR.drew_ext
                    have HR := Lib.hid hR
                    have HN := Lib.hid hN
                    clear hR hN hp hρ hx
                    go_light
                    go_simp
                    exact ⟨γ, LR.refl _ _, fun _ _ _ h => h, rfl⟩
                  · refine LinStep.yes fun vals γ w' ρ hR hN hp hρ hc hf hg => ⟨by show (boolOf (vals 4) == some true) = true; rw [show vals 4 = .bool true from hp 4 (by decide)]; rfl, ?_⟩
                    have e66 : ρ (.tmp 66) = .pointer (some ⟨bo, oo + j * 3, none⟩) := (hρ 66).trans (hp 8 (by decide))
                    have hx := hR.drew_ext
                    have c0 := hx.cell YN.out
                    have HR := Lib.hid hR
                    have HN := Lib.hid hN
                    clear hR hN hp hρ hx
                    go_light
                    go_simp
                    exact ⟨γ, LR.refl _ _, fun _ _ _ h => h, rfl⟩
                  · refine LinStep.yes fun vals γ w' ρ hR hN hp hρ hc hf hg => ⟨by show (boolOf (vals 4) == some true) = true; rw [show vals 4 = .bool true from hp 4 (by decide)]; rfl, ?_⟩
                    have e7 : ρ (.tmp 7) = .slice (some ⟨br, orr, none⟩) nr c4 := hρ 7
                    have hx := hR.drew_ext
                    have HR := Lib.hid hR
                    have HN := Lib.hid hN
                    clear hR hN hp hρ hx
                    go_light
                    go_simp
                    exact ⟨γ, LR.refl _ _, fun _ _ _ h => h, rfl⟩
                  · refine LinStep.yes fun vals γ w' ρ hR hN hp hρ hc hf hg => ⟨by show (boolOf (vals 4) == some true) = true; rw [show vals 4 = .bool true from hp 4 (by decide)]; rfl, ?_⟩
                    have e10 : ρ (.tmp 10) = .int .i64 (k : Int) := hρ 10
                    have hx := hR.drew_ext
                    have HR := Lib.hid hR
                    have HN := Lib.hid hN
                    clear hR hN hp hρ hx
                    go_light
                    go_simp
                    exact ⟨γ, LR.refl _ _, fun _ _ _ h => h, rfl⟩
                  · refine LinStep.yes fun vals γ w' ρ hR hN hp hρ hc hf hg => ⟨by show (boolOf (vals 4) == some true) = true; rw [show vals 4 = .bool true from hp 4 (by decide)]; rfl, ?_⟩
                    have e68 : ρ (.tmp 68) = .slice (some ⟨br, orr, none⟩) nr c4 := (hρ 68).trans (hp 10 (by decide))
                    have e69 : ρ (.tmp 69) = .int .i64 (k : Int) := (hρ 69).trans (hp 11 (by decide))
                    have hx := hR.drew_ext
                    have i0 : (0 : Int) ≤ (k : Int) := by omega
                    have i1 : (k : Int) < (nr : Int) := by omega
                    have HR := Lib.hid hR
                    have HN := Lib.hid hN
                    clear hR hN hp hρ hx
                    go_light
                    go_simp
                    exact ⟨γ, LR.refl _ _, fun _ _ _ h => h, rfl⟩
                  · refine LinStep.yes fun vals γ w' ρ hR hN hp hρ hc hf hg => ⟨by show (boolOf (vals 4) == some true) = true; rw [show vals 4 = .bool true from hp 4 (by decide)]; rfl, ?_⟩
                    have e70 : ρ (.tmp 70) = .pointer (some ⟨br, orr + k * 3, none⟩) := (hρ 70).trans (hp 12 (by decide))
                    have hx := hR.drew_ext
                    have HR := Lib.hid hR
                    have HN := Lib.hid hN
                    clear hR hN hp hρ hx
                    go_light
                    go_simp
                    exact ⟨γ, LR.refl _ _, fun _ _ _ h => h, rfl⟩
                  · refine LinStep.yes fun vals γ w' ρ hR hN hp hρ hc hf hg => ⟨by show (boolOf (vals 4) == some true) = true; rw [show vals 4 = .bool true from hp 4 (by decide)]; rfl, ?_⟩
                    have e71 : ρ (.tmp 71) = .pointer (some ⟨br, orr + k * 3, none⟩) := (hρ 71).trans (hp 13 (by decide))
                    have hx := hR.drew_ext
                    have c0 := hx.cell XN.out
                    have HR := Lib.hid hR
                    have HN := Lib.hid hN
                    clear hR hN hp hρ hx
                    go_light
                    go_simp
                    exact ⟨γ, LR.refl _ _, fun _ _ _ h => h, rfl⟩
                  · refine LinStep.yes fun vals γ w' ρ hR hN hp hρ hc hf hg => ⟨by show (boolOf (vals 4) == some true) = true; rw [show vals 4 = .bool true from hp 4 (by decide)]; rfl, ?_⟩
                    have e67 : ρ (.tmp 67) = .string y.name := (hρ 67).trans (hp 9 (by decide))
                    have e72 : ρ (.tmp 72) = .string x.name := (hρ 72).trans (hp 14 (by decide))
                    have hx := hR.drew_ext
                    have HR := Lib.hid hR
                    have HN := Lib.hid hN
                    clear hR hN hp hρ hx
                    go_light
                    go_simp
                    refine ⟨γ, LR.refl _ _, fun _ _ _ h => h, ?_⟩
                    show Value.bool _ = Value.bool le
                    rw [HLE.out, ← nle_eq]
                  · refine LinStep.yes fun vals γ w' ρ hR hN hp hρ hc hf hg => ⟨rfl, ?_⟩
                    have e62 : ρ (.tmp 62) = .bool true := (hρ 62).trans (hp 4 (by decide))
                    have e73 : ρ (.tmp 73) = .bool le := (hρ 73).trans (hp 15 (by decide))
                    have hx := hR.drew_ext
                    have HR := Lib.hid hR
                    have HN := Lib.hid hN
                    clear hR hN hp hρ hx
                    go_light
                    go_simp
                    exact ⟨γ, LR.refl _ _, fun _ _ _ h => h, rfl⟩
                  · intro vals γ w7 hR hG
                    have h16 : vals 16 = .bool le := hG 16 (by decide)
                    have hx8 := hR.drew_ext
                    have HX8 := Lib.hid (HX7.out.trans hx8)
                    clear hR hG hx8
                    simp only [lexFrame, Act.put, List.setIfInBounds_toArray, List.set_cons_succ, List.set_cons_zero, Nat.zero_add, Nat.reduceAdd, h16]
                    generalize vals 0 = u0, vals 1 = u1, vals 2 = u2, vals 3 = u3, vals 4 = u4, vals 5 = u5, vals 6 = u6, vals 7 = u7, vals 8 = u8, vals 9 = u9, vals 10 = u10, vals 11 = u11, vals 12 = u12, vals 13 = u13, vals 14 = u14, vals 15 = u15
                    clear h16
                    cases le
                    · have HDONE := Lib.hid (show insL Look.name x out = out.take j ++ x :: out.drop j by
                        have hyx : nlt x.name y.name = true := by have := HLE.out; simpa using this
                        conv => lhs; rw [← List.take_append_drop j out]
                        refine insL_at (fun z hz => ?_) (fun z hz => ?_)
                        · obtain ⟨i, hi, rfl⟩ := List.mem_iff_getElem.1 hz
                          rw [List.getElem_take]
                          rw [List.length_take] at hi
                          exact HPRE.out i (by omega) (by omega)
                        · rw [List.drop_eq_getElem_cons hjo] at hz
                          rw [List.head?_cons] at hz
                          injection hz with hz
                          rw [← hz, ← HYJ.out]
                          exact hyx)
                      have hz8 := HX8.out.size
                      have hw5o : w5.heap.size ≤ wo.heap.size := HX6.out.size
                      have C0 := Lib.hid ((HX6.out.trans HX8.out).cell HP0.out)
                      have C1 := Lib.hid ((HX6.out.trans HX8.out).cell HP1.out)
                      have C2 := Lib.hid ((HX6.out.trans HX8.out).cell HP2.out)
                      have HXR := Lib.hid (HXR5.out.keep ((HX6.out.trans HX8.out).kept _))
                      obtain ⟨X, hX⟩ : ∃ X : Nat → Prop, X = fun y => w5.heap.size ≤ y := ⟨_, rfl⟩
                      have HXX := Lib.hid (show ∀ b, w7.heap.size ≤ b → X b from fun b hb => by rw [hX]; exact Nat.le_trans (by omega) hb)
                      have HLO7 := Lib.hid ((HLO.out.mono (T := fun y => w5.heap.size ≤ y ∧ y < wo.heap.size) fun y hy hh => ⟨hh, hy⟩).keep (HX8.out.kept _))
                      have HOD := Lib.hid (HLO7.out.tl (c := co) (j := j) (by rw [HOUTL.out]; exact hkco) (by rw [HOUTL.out]; exact hjk))
                      obtain ⟨od, hod⟩ : ∃ od, od = out.drop j := ⟨_, rfl⟩
                      rw [← hod] at HOD
                      have HODL := Lib.hid (show od.length = k - j by rw [hod, List.length_drop, HOUTL.out])
                      have HODB := Lib.hid (show ∀ b, (w5.heap.size ≤ b ∧ b < wo.heap.size) → b < w7.heap.size from fun b hb => by omega)
                      have HODX := Lib.hid (show ∀ b, (w5.heap.size ≤ b ∧ b < wo.heap.size) → X b from fun b hb => by rw [hX]; exact hb.1)
                      have HODE := Lib.hid hod
                      have HXE := Lib.hid hX
                      clear hod hX
                      go_upto_region 20 with fail
                      refine wp_region_lin_lit (by kernel_rfl) dStT (by kernel_rfl) (SR (StTInv w7 d X x Ax cx Bx ex Ao k co br orr nr c4 k j od)) (SR.refl _) (SR.trans _) (SN stStT) (gStT w7 d X x Ax cx Bx ex Ao k co br orr nr c4 k j od) (gStT_st _ _ _ _ _ _ _ _ _ _ _ _ _ _ _ _ _ _) 0 (SN.zero (by decide)) ⟨?_, ?_, ?_, ?_, ?_, ?_, ?_, ?_, ?_, ?_, ?_, trivial⟩ ?_
                      · refine LinStep.yes fun vals γ w' ρ hR hN hp hρ hc hf hg => ⟨rfl, ?_⟩
                        have hi := hR.inv ⟨by omega, (Ext.refl w7).drew⟩
                        have e7 : ρ (.tmp 7) = .slice (some ⟨br, orr, none⟩) nr c4 := hρ 7
                        clear hR hN hp hρ hi
                        go_light
                        go_simp
                        exact ⟨γ, SR.refl _ _ _, fun _ _ _ h => h, rfl⟩
                      · refine LinStep.yes fun vals γ w' ρ hR hN hp hρ hc hf hg => ⟨rfl, ?_⟩
                        have hi := hR.inv ⟨by omega, (Ext.refl w7).drew⟩
                        have e10 : ρ (.tmp 10) = .int .i64 (k : Int) := hρ 10
                        clear hR hN hp hρ hi
                        go_light
                        go_simp
                        exact ⟨γ, SR.refl _ _ _, fun _ _ _ h => h, rfl⟩
                      · refine LinStep.yes fun vals γ w' ρ hR hN hp hρ hc hf hg => ⟨rfl, ?_⟩
                        have hi := hR.inv ⟨by omega, (Ext.refl w7).drew⟩
                        have e77 : ρ (.tmp 77) = _ := (hρ 77).trans (hp 0 (by decide))
                        have e78 : ρ (.tmp 78) = _ := (hρ 78).trans (hp 1 (by decide))
                        have i0 : (0 : Int) ≤ (k : Int) := by omega
                        have i1 : (k : Int) < (nr : Int) := by omega
                        clear hR hN hp hρ hi
                        go_light
                        go_simp
                        exact ⟨γ, SR.refl _ _ _, fun _ _ _ h => h, rfl⟩
                      · refine LinStep.yes fun vals γ w' ρ hR hN hp hρ hc hf hg => ⟨rfl, ?_⟩
                        have hi := hR.inv ⟨by omega, (Ext.refl w7).drew⟩
                        have e79 : ρ (.tmp 79) = _ := (hρ 79).trans (hp 2 (by decide))
                        have c0 := hi.2.cell C0.out
                        have c1 := hi.2.cell C1.out
                        have c2 := hi.2.cell C2.out
                        clear hR hN hp hρ hi
                        go_light
                        go_simp
                        exact ⟨γ, SR.refl _ _ _, fun _ _ _ h => h, rfl⟩
                      · refine LinStep.yes fun vals γ w' ρ hR hN hp hρ hc hf hg => ⟨rfl, ?_⟩
                        have hi := hR.inv ⟨by omega, (Ext.refl w7).drew⟩
                        have e80 : ρ (.tmp 80) = _ := (hρ 80).trans (hp 3 (by decide))
                        have h0 : γ = 0 := by have h : γ < 1 := hN; omega
                        subst h0
                        have HX := Lib.hid hi.2
                        clear hR hN hp hρ hi
                        go_light
                        go_simp
                        refine (r09_Copy d x Ax Bx cx ex w' _ (HXR.out.keep (HX.out.kept _))).mono ?_
                        rintro e' w3 ⟨A3, c3, B3, e3, he, h1, h2, h3, hx3⟩
                        exact ⟨_, he, 1, SR.up (by omega) ⟨by omega, HX.out.trans hx3⟩, SN.up (by omega) (by decide) rfl, A3, c3, B3, e3, rfl, by omega, fun _ => ⟨⟨h1.1.cap, h2.cap⟩, ⟨HXR.out.1, (h1.strs HXR.out.2.1.2.1 fun b hb => (h1.1.blk hb).1).mono fun b _ hb => HXX.out b (Nat.le_trans HX.out.size hb), (h2.rows HXR.out.2.2.len HXR.out.2.2.lens).mono fun b _ hb => HXX.out b (Nat.le_trans HX.out.size hb)⟩⟩⟩
                      · refine LinStep.yes fun vals γ w' ρ hR hN hp hρ hc hf hg => ⟨rfl, ?_⟩
                        have hi := hR.inv ⟨by omega, (Ext.refl w7).drew⟩
                        obtain ⟨A3, c3, B3, e3, g4, hr1, hrl⟩ := hp 4 (by decide)
                        have e81 : ρ (.tmp 81) = _ := (hρ 81).trans g4
                        have h0 : γ = 1 := by have h : γ < 2 := hN; omega
                        subst h0
                        have HX := Lib.hid hi.2
                        have HRL := Lib.hid (hrl rfl)
                        clear hR hN hp hρ hi g4 hrl
                        go_light
                        go_simp
                        have hx1 : Ext w' (w'.alloc (.cells (lcells x A3 c3 B3 e3).toArray 28)) := (Ext.refl _).alloc _
                        exact ⟨2, SR.up (by omega) ⟨by omega, HX.out.trans hx1⟩, SN.up (by omega) (by decide) rfl, w'.heap.size, rfl, by omega, fun _ => ⟨A3, c3, B3, e3, Blk.new _ _ _, Nat.le_refl _, HX.out.size, HRL.out.1, (HRL.out.2.mono (T := fun b => X b ∧ b ≠ w'.heap.size) fun b hb hX => ⟨hX, by omega⟩).keep (hx1.kept _)⟩⟩
                      · refine LinStep.yes fun vals γ w' ρ hR hN hp hρ hc hf hg => ⟨rfl, ?_⟩
                        have hi := hR.inv ⟨by omega, (Ext.refl w7).drew⟩
                        have e9 : ρ (.tmp 9) = .slice Ao k co := hρ 9
                        clear hR hN hp hρ hi
                        go_light
                        go_simp
                        exact ⟨γ, SR.refl _ _ _, fun _ _ _ h => h, rfl⟩
                      · refine LinStep.yes fun vals γ w' ρ hR hN hp hρ hc hf hg => ⟨rfl, ?_⟩
                        have hi := hR.inv ⟨by omega, (Ext.refl w7).drew⟩
                        have e11 : ρ (.tmp 11) = .int .i64 (j : Int) := hρ 11
                        clear hR hN hp hρ hi
                        go_light
                        go_simp
                        exact ⟨γ, SR.refl _ _ _, fun _ _ _ h => h, rfl⟩
                      · refine LinStep.yes fun vals γ w' ρ hR hN hp hρ hc hf hg => ⟨rfl, ?_⟩
                        have hi := hR.inv ⟨by omega, (Ext.refl w7).drew⟩
                        have e83 : ρ (.tmp 83) = _ := (hρ 83).trans (hp 6 (by decide))
                        have e84 : ρ (.tmp 84) = _ := (hρ 84).trans (hp 7 (by decide))
                        have i0 : (0 : Int) ≤ (j : Int) := by omega
                        have i1 : (j : Int) ≤ (k : Int) := by omega
                        have i2 : j ≤ k := by omega
                        have i3 : k ≤ co := by omega
                        have i4 : j ≤ co := by omega
                        clear hR hN hp hρ hi
                        go_light
                        go_simp
                        exact ⟨γ, SR.refl _ _ _, fun _ _ _ h => h, rfl⟩
                      · refine LinStep.yes fun vals γ w' ρ hR hN hp hρ hc hf hg => ⟨rfl, ?_⟩
                        have hi := hR.inv ⟨by omega, (Ext.refl w7).drew⟩
                        obtain ⟨g', g5, hr2, hbk⟩ := hp 5 (by decide)
                        have e82 : ρ (.tmp 82) = _ := (hρ 82).trans g5
                        have e85 : ρ (.tmp 85) = _ := (hρ 85).trans (hp 8 (by decide))
                        have h0 : γ = 2 := by have h : γ < 3 := hN; omega
                        subst h0
                        obtain ⟨A3, c3, B3, e3, hb1, -, hgw, hcp3, hrl3⟩ := hbk rfl
                        have hx := hi.2
                        have hlit := Own.lit (n := 1) (sz := 3) hb1 hgw
                        obtain ⟨hol, ys, hrd, hll⟩ := HOD.out.keep (hx.kept _)
                        refine lin_app (.tmp 82) (.tmp 85) rfl tiL e82 hlit e85 hrd (by rw [hll.1, HODL.out]) hll.cells (by omega) (by decide) hx.size ?_
                        intro A4 c4 w4 hown4 hg4 hat4
                        have happ := OwnLs.app (l := [x]) (m := od) (X := X) (LL.one rfl ⟨A3, c3, B3, e3, rfl, hcp3, hrl3.mono fun b _ hb => ⟨fun e => hb.2 (ob_lit e).symm, hb.1⟩⟩) (hll.imp fun _ _ hh => hh.mono fun b hb hb' => ⟨fun e => by have e2 := ob_lit e; have := HODB.out b hb'; omega, HODX.out b hb'⟩) (by rw [HODL.out]; exact hown4) hg4 hat4
                        have hxx := hx.grown hg4 (fun b hb => by have e2 := ob_lit hb; omega)
                        exact ⟨3, SR.up (by omega) ⟨by omega, hxx⟩, SN.up (by omega) (by decide) rfl, A4, c4, rfl, by omega, fun _ => ⟨happ, hxx⟩⟩
                      · refine LinStep.yes fun vals γ w' ρ hR hN hp hρ hc hf hg => ⟨rfl, ?_⟩
                        have hi := hR.inv ⟨by omega, (Ext.refl w7).drew⟩
                        obtain ⟨A4, c4, g16, hr2, hob⟩ := hp 9 (by decide)
                        have e86 : ρ (.tmp 86) = _ := (hρ 86).trans g16
                        have HOB := Lib.hid hob
                        clear hR hN hp hρ hi g16 hob
                        go_light
                        go_simp
                        exact ⟨γ, SR.refl _ _ _, fun _ _ _ h => h, A4, c4, rfl, hr2, HOB.out⟩
                      · intro vals γ w8 hR hG
                        have hi := hR.inv ⟨by omega, (Ext.refl w7).drew⟩
                        obtain ⟨A5, c5, hv10, h4, h5⟩ := hG 10 (by decide)
                        obtain ⟨hol8, hx8⟩ := h5 (by have := hi.1; omega)
                        have HOL8 := Lib.hid hol8
                        have HX9 := Lib.hid hx8
                        have hz9 := hx8.size
                        clear hR hG hi h4 h5 hol8 hx8
                        simp only [lexFrame, Act.put, List.setIfInBounds_toArray, List.set_cons_succ, List.set_cons_zero, Nat.zero_add, Nat.reduceAdd, hv10]
                        generalize vals 0 = u0, vals 1 = u1, vals 2 = u2, vals 3 = u3, vals 4 = u4, vals 5 = u5, vals 6 = u6, vals 7 = u7, vals 8 = u8, vals 9 = u9
                        clear hv10
                        have HLT := Lib.hid ((HLO7.out.take j).keep ((HX9.out.kept _).trans (Kept.alloc _ _ (.cells #[] 28))))
                        obtain ⟨-, ys, hrd, hll⟩ := HLT.out
                        have hlt9 : (out.take j).length = j := by rw [List.length_take, HOUTL.out]; omega
                        have HRD := Lib.hid hrd
                        have HLL := Lib.hid hll
                        have HYL := Lib.hid (show ys.length = j * 3 by rw [hll.1, hlt9])
                        have HYC := Lib.hid hll.cells
                        have HLT9 := Lib.hid hlt9
                        have HMD := Lib.hid (show Own (w8.alloc (.cells #[] 28)) w8.heap.size 28 3 (some ⟨w8.heap.size, 0, none⟩) 0 0 [] from World.ownsRow_made w8 #[] 0 (Nat.le_refl _) (by unfold maxLen; omega) rfl)
                        have hjk' : (j : Int) ≤ (co : Int) := by omega
                        have hj0 : (0 : Int) ≤ (j : Int) := by omega
                        have hjc : j ≤ co := by omega
                        have tok : True := trivial
                        clear hrd hll hlt9
                        go_wp2_with (first | (at_builtin; have _t := tok; go_must (refine wpList_app rfl (.tmp 87) (.tmp 90) rfl tiL rfl HMD.out rfl HRD.out HYL.out HYC.out (by omega) (by decide) (by simp) ?_); intro A6 c6 w9 hown6 hg6 hat6; simp only [Nat.zero_add, List.nil_append] at hown6; have HX10 := Lib.hid (app_new hg6); have hol6 : OwnLs w9 w8.heap.size X d A6 c6 (out.take j) := set4_first HMD.out HLL.out HLT9.out HXE.out hown6 hg6 hat6 (fun y hy => ⟨hy.1, by omega⟩); obtain ⟨zs, hz1, hz2⟩ := hol6; rw [HLT9.out] at hz1; have HZ1 := Lib.hid hz1; have HZ2 := Lib.hid hz2; obtain ⟨qs, hq1, hq2⟩ := (HOL8.out.mono (T := fun y => X y ∧ y < w8.heap.size) fun y hy hh => ⟨hh, hy⟩).ext HX10.out; have HQ1 := Lib.hid hq1; have HQ2 := Lib.hid hq2; have HQL := Lib.hid (show (x :: od).length = 1 + (k - j) by simp [HODL.out]; omega); have HQN := Lib.hid (show qs.length = (1 + (k - j)) * 3 by rw [hq2.1, HQL.out]); clear hown6 hg6 hat6 hz1 hz2 hq1 hq2 tok) | (at_builtin; go_must (refine wpList_app rfl (.tmp 91) (.tmp 92) rfl tiL rfl HZ1.out rfl HQ1.out.rd HQN.out HQ2.out.cells (by omega) (by decide) HX10.out.size ?_); intro A7 c7 w10 hown7 hg7 hat7))
                        go_roundw
                        case rel =>
                          have hlen : j + (1 + (k - j)) = k + 1 := by omega
                          have hfin := OwnLs.app (l := out.take j) (m := x :: od) (X := X) HZ2.out (set4_second HQ2.out HZ1.out (Nat.le_refl _)) (by rw [HLT9.out, HQL.out]; exact hown7) hg7 hat7
                          have hsort : sortL Look.name (rs.take (k + 1)) = out.take j ++ x :: od := by rw [List.take_succ_eq_append_getElem hkr, sortL_snoc, ← HOUT.out, ← HXK.out, HDONE.out, ← HODE.out]
                          have hl7 : (out.take j ++ x :: od).length = k + 1 := by rw [List.length_append, HLT9.out, HQL.out]; omega
                          refine ⟨k + 1, A7, c7, by omega, by go_num, by rw [← hlen], by rw [← hl7]; exact hfin.cap, (((HX6.out.trans HX8.out).trans HX9.out).trans HX10.out).grown hg7 (fun y hy => by have := (HZ1.out.blk hy).1; omega), ?_⟩
                          rw [hsort]
                          exact hfin.ls (by omega) (fun y hy => by have := (hfin.blk hy).1; omega) (fun y hy => by rw [HXE.out] at hy; exact hy)
                        case measure => simp [intOf]; omega
                    · go_wp2
                      go_roundw
                      case rel =>
                        refine ⟨j + 1, by omega, by go_num, HX8.out, fun i hi hij => ?_⟩
                        rcases Nat.lt_or_ge i j with h1 | h1
                        · exact HPRE.out i hi h1
                        · obtain rfl : i = j := by omega
                          rw [← HYJ.out]
                          have := HLE.out
                          simpa using this
                      case measure => simp [intOf]; omega
                · have hjk3 : j = k := by omega
                  have hjo : ¬ j < out.length := by rw [HOUTL.out]; exact hjk2
                  go_upto_region 18 with fail
                  obtain ⟨bo, oo, YNN⟩ : ∃ bo oo : Nat, True := ⟨0, 0, trivial⟩
                  refine wp_region_lin_lit (by kernel_rfl) (fun i => [i]) (by kernel_rfl) LR LR.refl LR.trans (LN (al0)) (gR18N Ao 0 0 k co br orr nr c4 k j x.name x.name false) (gR18N_st _ _ _ _ _ _ _ _ _ _ _ _ _ _) gh0 (LN.zero _) ⟨?_, ?_, ?_, ?_, ?_, ?_, ?_, ?_, ?_, ?_, ?_, ?_, ?_, ?_, ?_, ?_, ?_, trivial⟩ ?_
                  · refine LinStep.yes fun vals γ w' ρ hR hN hp hρ hc hf hg => ⟨rfl, ?_⟩
                    have e11 : ρ (.tmp 11) = .int .i64 (j : Int) := hρ 11
                    have hx := hR.drew_ext
                    have HR := Lib.hid hR
                    have HN := Lib.hid hN
                    clear hR hN hp hρ hx
                    go_light
                    go_simp
                    exact ⟨γ, LR.refl _ _, fun _ _ _ h => h, rfl⟩
                  · refine LinStep.yes fun vals γ w' ρ hR hN hp hρ hc hf hg => ⟨rfl, ?_⟩
                    have e9 : ρ (.tmp 9) = .slice Ao k co := hρ 9
                    have hx := hR.drew_ext
                    have HR := Lib.hid hR
                    have HN := Lib.hid hN
                    clear hR hN hp hρ hx
                    go_light
                    go_simp
                    exact ⟨γ, LR.refl _ _, fun _ _ _ h => h, rfl⟩
                  · refine LinStep.yes fun vals γ w' ρ hR hN hp hρ hc hf hg => ⟨rfl, ?_⟩
                    have e59 : ρ (.tmp 59) = .slice Ao k co := (hρ 59).trans (hp 1 (by decide))
                    have hx := hR.drew_ext
                    have HR := Lib.hid hR
                    have HN := Lib.hid hN
                    clear hR hN hp hρ hx
                    go_light
                    go_simp
                    exact ⟨γ, LR.refl _ _, fun _ _ _ h => h, rfl⟩
                  · refine LinStep.yes fun vals γ w' ρ hR hN hp hρ hc hf hg => ⟨rfl, ?_⟩
                    have e58 : ρ (.tmp 58) = .int .i64 (j : Int) := (hρ 58).trans (hp 0 (by decide))
                    have e60 : ρ (.tmp 60) = .int .i64 (k : Int) := (hρ 60).trans (hp 2 (by decide))
                    have hx := hR.drew_ext
                    have i1 : ¬ (j : Int) < (k : Int) := by omega
                    have i2 : ¬ j < k := by omega
                    have HR := Lib.hid hR
                    have HN := Lib.hid hN
                    clear hR hN hp hρ hx
                    go_light
                    go_simp
                    exact ⟨γ, LR.refl _ _, fun _ _ _ h => h, rfl⟩
                  · refine LinStep.yes fun vals γ w' ρ hR hN hp hρ hc hf hg => ⟨rfl, ?_⟩
                    have e61 : ρ (.tmp 61) = .bool false := (hρ 61).trans (hp 3 (by decide))
                    have hx := hR.drew_ext
                    have HR := Lib.hid hR
                    have HN := Lib.hid hN
                    clear hR hN hp hρ hx
                    go_light
                    go_simp
                    exact ⟨γ, LR.refl _ _, fun _ _ _ h => h, rfl⟩
                  · refine LinStep.no fun vals γ w' hp => ⟨by show (boolOf (vals 4) == some true) = false; rw [show vals 4 = .bool false from hp 4 (by decide)]; rfl, rfl⟩
                  · refine LinStep.no fun vals γ w' hp => ⟨by show (boolOf (vals 4) == some true) = false; rw [show vals 4 = .bool false from hp 4 (by decide)]; rfl, rfl⟩
                  · refine LinStep.no fun vals γ w' hp => ⟨by show (boolOf (vals 4) == some true) = false; rw [show vals 4 = .bool false from hp 4 (by decide)]; rfl, rfl⟩
                  · refine LinStep.no fun vals γ w' hp => ⟨by show (boolOf (vals 4) == some true) = false; rw [show vals 4 = .bool false from hp 4 (by decide)]; rfl, rfl⟩
                  · refine LinStep.no fun vals γ w' hp => ⟨by show (boolOf (vals 4) == some true) = false; rw [show vals 4 = .bool false from hp 4 (by decide)]; rfl, rfl⟩
                  · refine LinStep.no fun vals γ w' hp => ⟨by show (boolOf (vals 4) == some true) = false; rw [show vals 4 = .bool false from hp 4 (by decide)]; rfl, rfl⟩
                  · refine LinStep.no fun vals γ w' hp => ⟨by show (boolOf (vals 4) == some true) = false; rw [show vals 4 = .bool false from hp 4 (by decide)]; rfl, rfl⟩
                  · refine LinStep.no fun vals γ w' hp => ⟨by show (boolOf (vals 4) == some true) = false; rw [show vals 4 = .bool false from hp 4 (by decide)]; rfl, rfl⟩
                  · refine LinStep.no fun vals γ w' hp => ⟨by show (boolOf (vals 4) == some true) = false; rw [show vals 4 = .bool false from hp 4 (by decide)]; rfl, rfl⟩
                  · refine LinStep.no fun vals γ w' hp => ⟨by show (boolOf (vals 4) == some true) = false; rw [show vals 4 = .bool false from hp 4 (by decide)]; rfl, rfl⟩
                  · refine LinStep.no fun vals γ w' hp => ⟨by show (boolOf (vals 4) == some true) = false; rw [show vals 4 = .bool false from hp 4 (by decide)]; rfl, rfl⟩
                  · refine LinStep.yes fun vals γ w' ρ hR hN hp hρ hc hf hg => ⟨rfl, ?_⟩
                    have e62 : ρ (.tmp 62) = .bool false := (hρ 62).trans (hp 4 (by decide))
                    have hx := hR.drew_ext
                    have HR := Lib.hid hR
                    have HN := Lib.hid hN
                    clear hR hN hp hρ hx
                    go_light
                    go_simp
                    exact ⟨γ, LR.refl _ _, fun _ _ _ h => h, rfl⟩
                  · intro vals γ w7 hR hG
                    have h16 : vals 16 = .bool false := hG 16 (by decide)
                    have hx8 := hR.drew_ext
                    have HX8 := Lib.hid (HX7.out.trans hx8)
                    clear hR hG hx8
                    simp only [lexFrame, Act.put, List.setIfInBounds_toArray, List.set_cons_succ, List.set_cons_zero, Nat.zero_add, Nat.reduceAdd, h16]
                    generalize vals 0 = u0, vals 1 = u1, vals 2 = u2, vals 3 = u3, vals 4 = u4, vals 5 = u5, vals 6 = u6, vals 7 = u7, vals 8 = u8, vals 9 = u9, vals 10 = u10, vals 11 = u11, vals 12 = u12, vals 13 = u13, vals 14 = u14, vals 15 = u15
                    clear h16
                    have HDONE := Lib.hid (show insL Look.name x out = out.take j ++ x :: out.drop j by
                      conv => lhs; rw [← List.take_append_drop j out]
                      refine insL_at (fun z hz => ?_) (fun z hz => ?_)
                      · obtain ⟨i, hi, rfl⟩ := List.mem_iff_getElem.1 hz
                        rw [List.getElem_take]
                        rw [List.length_take] at hi
                        exact HPRE.out i (by omega) (by omega)
                      · rw [List.drop_of_length_le (by omega)] at hz
                        cases hz)
                    clear hjk3
                    have hz8 := HX8.out.size
                    have hw5o : w5.heap.size ≤ wo.heap.size := HX6.out.size
                    have C0 := Lib.hid ((HX6.out.trans HX8.out).cell HP0.out)
                    have C1 := Lib.hid ((HX6.out.trans HX8.out).cell HP1.out)
                    have C2 := Lib.hid ((HX6.out.trans HX8.out).cell HP2.out)
                    have HXR := Lib.hid (HXR5.out.keep ((HX6.out.trans HX8.out).kept _))
                    obtain ⟨X, hX⟩ : ∃ X : Nat → Prop, X = fun y => w5.heap.size ≤ y := ⟨_, rfl⟩
                    have HXX := Lib.hid (show ∀ b, w7.heap.size ≤ b → X b from fun b hb => by rw [hX]; exact Nat.le_trans (by omega) hb)
                    have HLO7 := Lib.hid ((HLO.out.mono (T := fun y => w5.heap.size ≤ y ∧ y < wo.heap.size) fun y hy hh => ⟨hh, hy⟩).keep (HX8.out.kept _))
                    have HOD := Lib.hid (HLO7.out.tl (c := co) (j := j) (by rw [HOUTL.out]; exact hkco) (by rw [HOUTL.out]; exact hjk))
                    obtain ⟨od, hod⟩ : ∃ od, od = out.drop j := ⟨_, rfl⟩
                    rw [← hod] at HOD
                    have HODL := Lib.hid (show od.length = k - j by rw [hod, List.length_drop, HOUTL.out])
                    have HODB := Lib.hid (show ∀ b, (w5.heap.size ≤ b ∧ b < wo.heap.size) → b < w7.heap.size from fun b hb => by omega)
                    have HODX := Lib.hid (show ∀ b, (w5.heap.size ≤ b ∧ b < wo.heap.size) → X b from fun b hb => by rw [hX]; exact hb.1)
                    have HODE := Lib.hid hod
                    have HXE := Lib.hid hX
                    clear hod hX
                    go_upto_region 20 with fail
                    refine wp_region_lin_lit (by kernel_rfl) dStT (by kernel_rfl) (SR (StTInv w7 d X x Ax cx Bx ex Ao k co br orr nr c4 k j od)) (SR.refl _) (SR.trans _) (SN stStT) (gStT w7 d X x Ax cx Bx ex Ao k co br orr nr c4 k j od) (gStT_st _ _ _ _ _ _ _ _ _ _ _ _ _ _ _ _ _ _) 0 (SN.zero (by decide)) ⟨?_, ?_, ?_, ?_, ?_, ?_, ?_, ?_, ?_, ?_, ?_, trivial⟩ ?_
                    · refine LinStep.yes fun vals γ w' ρ hR hN hp hρ hc hf hg => ⟨rfl, ?_⟩
                      have hi := hR.inv ⟨by omega, (Ext.refl w7).drew⟩
                      have e7 : ρ (.tmp 7) = .slice (some ⟨br, orr, none⟩) nr c4 := hρ 7
                      clear hR hN hp hρ hi
                      go_light
                      go_simp
                      exact ⟨γ, SR.refl _ _ _, fun _ _ _ h => h, rfl⟩
                    · refine LinStep.yes fun vals γ w' ρ hR hN hp hρ hc hf hg => ⟨rfl, ?_⟩
                      have hi := hR.inv ⟨by omega, (Ext.refl w7).drew⟩
                      have e10 : ρ (.tmp 10) = .int .i64 (k : Int) := hρ 10
                      clear hR hN hp hρ hi
                      go_light
                      go_simp
                      exact ⟨γ, SR.refl _ _ _, fun _ _ _ h => h, rfl⟩
                    · refine LinStep.yes fun vals γ w' ρ hR hN hp hρ hc hf hg => ⟨rfl, ?_⟩
                      have hi := hR.inv ⟨by omega, (Ext.refl w7).drew⟩
                      have e77 : ρ (.tmp 77) = _ := (hρ 77).trans (hp 0 (by decide))
                      have e78 : ρ (.tmp 78) = _ := (hρ 78).trans (hp 1 (by decide))
                      have i0 : (0 : Int) ≤ (k : Int) := by omega
                      have i1 : (k : Int) < (nr : Int) := by omega
                      clear hR hN hp hρ hi
                      go_light
                      go_simp
                      exact ⟨γ, SR.refl _ _ _, fun _ _ _ h => h, rfl⟩
                    · refine LinStep.yes fun vals γ w' ρ hR hN hp hρ hc hf hg => ⟨rfl, ?_⟩
                      have hi := hR.inv ⟨by omega, (Ext.refl w7).drew⟩
                      have e79 : ρ (.tmp 79) = _ := (hρ 79).trans (hp 2 (by decide))
                      have c0 := hi.2.cell C0.out
                      have c1 := hi.2.cell C1.out
                      have c2 := hi.2.cell C2.out
                      clear hR hN hp hρ hi
                      go_light
                      go_simp
                      exact ⟨γ, SR.refl _ _ _, fun _ _ _ h => h, rfl⟩
                    · refine LinStep.yes fun vals γ w' ρ hR hN hp hρ hc hf hg => ⟨rfl, ?_⟩
                      have hi := hR.inv ⟨by omega, (Ext.refl w7).drew⟩
                      have e80 : ρ (.tmp 80) = _ := (hρ 80).trans (hp 3 (by decide))
                      have h0 : γ = 0 := by have h : γ < 1 := hN; omega
                      subst h0
                      have HX := Lib.hid hi.2
                      clear hR hN hp hρ hi
                      go_light
                      go_simp
                      refine (r09_Copy d x Ax Bx cx ex w' _ (HXR.out.keep (HX.out.kept _))).mono ?_
                      rintro e' w3 ⟨A3, c3, B3, e3, he, h1, h2, h3, hx3⟩
                      exact ⟨_, he, 1, SR.up (by omega) ⟨by omega, HX.out.trans hx3⟩, SN.up (by omega) (by decide) rfl, A3, c3, B3, e3, rfl, by omega, fun _ => ⟨⟨h1.1.cap, h2.cap⟩, ⟨HXR.out.1, (h1.strs HXR.out.2.1.2.1 fun b hb => (h1.1.blk hb).1).mono fun b _ hb => HXX.out b (Nat.le_trans HX.out.size hb), (h2.rows HXR.out.2.2.len HXR.out.2.2.lens).mono fun b _ hb => HXX.out b (Nat.le_trans HX.out.size hb)⟩⟩⟩
                    · refine LinStep.yes fun vals γ w' ρ hR hN hp hρ hc hf hg => ⟨rfl, ?_⟩
                      have hi := hR.inv ⟨by omega, (Ext.refl w7).drew⟩
                      obtain ⟨A3, c3, B3, e3, g4, hr1, hrl⟩ := hp 4 (by decide)
                      have e81 : ρ (.tmp 81) = _ := (hρ 81).trans g4
                      have h0 : γ = 1 := by have h : γ < 2 := hN; omega
                      subst h0
                      have HX := Lib.hid hi.2
                      have HRL := Lib.hid (hrl rfl)
                      clear hR hN hp hρ hi g4 hrl
                      go_light
                      go_simp
                      have hx1 : Ext w' (w'.alloc (.cells (lcells x A3 c3 B3 e3).toArray 28)) := (Ext.refl _).alloc _
                      exact ⟨2, SR.up (by omega) ⟨by omega, HX.out.trans hx1⟩, SN.up (by omega) (by decide) rfl, w'.heap.size, rfl, by omega, fun _ => ⟨A3, c3, B3, e3, Blk.new _ _ _, Nat.le_refl _, HX.out.size, HRL.out.1, (HRL.out.2.mono (T := fun b => X b ∧ b ≠ w'.heap.size) fun b hb hX => ⟨hX, by omega⟩).keep (hx1.kept _)⟩⟩
                    · refine LinStep.yes fun vals γ w' ρ hR hN hp hρ hc hf hg => ⟨rfl, ?_⟩
                      have hi := hR.inv ⟨by omega, (Ext.refl w7).drew⟩
                      have e9 : ρ (.tmp 9) = .slice Ao k co := hρ 9
                      clear hR hN hp hρ hi
                      go_light
                      go_simp
                      exact ⟨γ, SR.refl _ _ _, fun _ _ _ h => h, rfl⟩
                    · refine LinStep.yes fun vals γ w' ρ hR hN hp hρ hc hf hg => ⟨rfl, ?_⟩
                      have hi := hR.inv ⟨by omega, (Ext.refl w7).drew⟩
                      have e11 : ρ (.tmp 11) = .int .i64 (j : Int) := hρ 11
                      clear hR hN hp hρ hi
                      go_light
                      go_simp
                      exact ⟨γ, SR.refl _ _ _, fun _ _ _ h => h, rfl⟩
                    · refine LinStep.yes fun vals γ w' ρ hR hN hp hρ hc hf hg => ⟨rfl, ?_⟩
                      have hi := hR.inv ⟨by omega, (Ext.refl w7).drew⟩
                      have e83 : ρ (.tmp 83) = _ := (hρ 83).trans (hp 6 (by decide))
                      have e84 : ρ (.tmp 84) = _ := (hρ 84).trans (hp 7 (by decide))
                      have i0 : (0 : Int) ≤ (j : Int) := by omega
                      have i1 : (j : Int) ≤ (k : Int) := by omega
                      have i2 : j ≤ k := by omega
                      have i3 : k ≤ co := by omega
                      have i4 : j ≤ co := by omega
                      clear hR hN hp hρ hi
                      go_light
                      go_simp
                      exact ⟨γ, SR.refl _ _ _, fun _ _ _ h => h, rfl⟩
                    · refine LinStep.yes fun vals γ w' ρ hR hN hp hρ hc hf hg => ⟨rfl, ?_⟩
                      have hi := hR.inv ⟨by omega, (Ext.refl w7).drew⟩
                      obtain ⟨g', g5, hr2, hbk⟩ := hp 5 (by decide)
                      have e82 : ρ (.tmp 82) = _ := (hρ 82).trans g5
                      have e85 : ρ (.tmp 85) = _ := (hρ 85).trans (hp 8 (by decide))
                      have h0 : γ = 2 := by have h : γ < 3 := hN; omega
                      subst h0
                      obtain ⟨A3, c3, B3, e3, hb1, -, hgw, hcp3, hrl3⟩ := hbk rfl
                      have hx := hi.2
                      have hlit := Own.lit (n := 1) (sz := 3) hb1 hgw
                      obtain ⟨hol, ys, hrd, hll⟩ := HOD.out.keep (hx.kept _)
                      refine lin_app (.tmp 82) (.tmp 85) rfl tiL e82 hlit e85 hrd (by rw [hll.1, HODL.out]) hll.cells (by omega) (by decide) hx.size ?_
                      intro A4 c4 w4 hown4 hg4 hat4
                      have happ := OwnLs.app (l := [x]) (m := od) (X := X) (LL.one rfl ⟨A3, c3, B3, e3, rfl, hcp3, hrl3.mono fun b _ hb => ⟨fun e => hb.2 (ob_lit e).symm, hb.1⟩⟩) (hll.imp fun _ _ hh => hh.mono fun b hb hb' => ⟨fun e => by have e2 := ob_lit e; have := HODB.out b hb'; omega, HODX.out b hb'⟩) (by rw [HODL.out]; exact hown4) hg4 hat4
                      have hxx := hx.grown hg4 (fun b hb => by have e2 := ob_lit hb; omega)
                      exact ⟨3, SR.up (by omega) ⟨by omega, hxx⟩, SN.up (by omega) (by decide) rfl, A4, c4, rfl, by omega, fun _ => ⟨happ, hxx⟩⟩
                    · refine LinStep.yes fun vals γ w' ρ hR hN hp hρ hc hf hg => ⟨rfl, ?_⟩
                      have hi := hR.inv ⟨by omega, (Ext.refl w7).drew⟩
                      obtain ⟨A4, c4, g16, hr2, hob⟩ := hp 9 (by decide)
                      have e86 : ρ (.tmp 86) = _ := (hρ 86).trans g16
                      have HOB := Lib.hid hob
                      clear hR hN hp hρ hi g16 hob
                      go_light
                      go_simp
                      exact ⟨γ, SR.refl _ _ _, fun _ _ _ h => h, A4, c4, rfl, hr2, HOB.out⟩
                    · intro vals γ w8 hR hG
                      have hi := hR.inv ⟨by omega, (Ext.refl w7).drew⟩
                      obtain ⟨A5, c5, hv10, h4, h5⟩ := hG 10 (by decide)
                      obtain ⟨hol8, hx8⟩ := h5 (by have := hi.1; omega)
                      have HOL8 := Lib.hid hol8
                      have HX9 := Lib.hid hx8
                      have hz9 := hx8.size
                      clear hR hG hi h4 h5 hol8 hx8
                      simp only [lexFrame, Act.put, List.setIfInBounds_toArray, List.set_cons_succ, List.set_cons_zero, Nat.zero_add, Nat.reduceAdd, hv10]
                      generalize vals 0 = u0, vals 1 = u1, vals 2 = u2, vals 3 = u3, vals 4 = u4, vals 5 = u5, vals 6 = u6, vals 7 = u7, vals 8 = u8, vals 9 = u9
                      clear hv10
                      have HLT := Lib.hid ((HLO7.out.take j).keep ((HX9.out.kept _).trans (Kept.alloc _ _ (.cells #[] 28))))
                      obtain ⟨-, ys, hrd, hll⟩ := HLT.out
                      have hlt9 : (out.take j).length = j := by rw [List.length_take, HOUTL.out]; omega
                      have HRD := Lib.hid hrd
                      have HLL := Lib.hid hll
                      have HYL := Lib.hid (show ys.length = j * 3 by rw [hll.1, hlt9])
                      have HYC := Lib.hid hll.cells
                      have HLT9 := Lib.hid hlt9
                      have HMD := Lib.hid (show Own (w8.alloc (.cells #[] 28)) w8.heap.size 28 3 (some ⟨w8.heap.size, 0, none⟩) 0 0 [] from World.ownsRow_made w8 #[] 0 (Nat.le_refl _) (by unfold maxLen; omega) rfl)
                      have hjk' : (j : Int) ≤ (co : Int) := by omega
                      have hj0 : (0 : Int) ≤ (j : Int) := by omega
                      have hjc : j ≤ co := by omega
                      have tok : True := trivial
                      clear hrd hll hlt9
                      go_wp2_with (first | (at_builtin; have _t := tok; go_must (refine wpList_app rfl (.tmp 87) (.tmp 90) rfl tiL rfl HMD.out rfl HRD.out HYL.out HYC.out (by omega) (by decide) (by simp) ?_); intro A6 c6 w9 hown6 hg6 hat6; simp only [Nat.zero_add, List.nil_append] at hown6; have HX10 := Lib.hid (app_new hg6); have hol6 : OwnLs w9 w8.heap.size X d A6 c6 (out.take j) := set4_first HMD.out HLL.out HLT9.out HXE.out hown6 hg6 hat6 (fun y hy => ⟨hy.1, by omega⟩); obtain ⟨zs, hz1, hz2⟩ := hol6; rw [HLT9.out] at hz1; have HZ1 := Lib.hid hz1; have HZ2 := Lib.hid hz2; obtain ⟨qs, hq1, hq2⟩ := (HOL8.out.mono (T := fun y => X y ∧ y < w8.heap.size) fun y hy hh => ⟨hh, hy⟩).ext HX10.out; have HQ1 := Lib.hid hq1; have HQ2 := Lib.hid hq2; have HQL := Lib.hid (show (x :: od).length = 1 + (k - j) by simp [HODL.out]; omega); have HQN := Lib.hid (show qs.length = (1 + (k - j)) * 3 by rw [hq2.1, HQL.out]); clear hown6 hg6 hat6 hz1 hz2 hq1 hq2 tok) | (at_builtin; go_must (refine wpList_app rfl (.tmp 91) (.tmp 92) rfl tiL rfl HZ1.out rfl HQ1.out.rd HQN.out HQ2.out.cells (by omega) (by decide) HX10.out.size ?_); intro A7 c7 w10 hown7 hg7 hat7))
                      go_roundw
                      case rel =>
                        have hlen : j + (1 + (k - j)) = k + 1 := by omega
                        have hfin := OwnLs.app (l := out.take j) (m := x :: od) (X := X) HZ2.out (set4_second HQ2.out HZ1.out (Nat.le_refl _)) (by rw [HLT9.out, HQL.out]; exact hown7) hg7 hat7
                        have hsort : sortL Look.name (rs.take (k + 1)) = out.take j ++ x :: od := by rw [List.take_succ_eq_append_getElem hkr, sortL_snoc, ← HOUT.out, ← HXK.out, HDONE.out, ← HODE.out]
                        have hl7 : (out.take j ++ x :: od).length = k + 1 := by rw [List.length_append, HLT9.out, HQL.out]; omega
                        refine ⟨k + 1, A7, c7, by omega, by go_num, by rw [← hlen], by rw [← hl7]; exact hfin.cap, (((HX6.out.trans HX8.out).trans HX9.out).trans HX10.out).grown hg7 (fun y hy => by have := (HZ1.out.blk hy).1; omega), ?_⟩
                        rw [hsort]
                        exact hfin.ls (by omega) (fun y hy => by have := (hfin.blk hy).1; omega) (fun y hy => by rw [HXE.out] at hy; exact hy)
                      case measure => simp [intOf]; omega
            · have hkn : k = nr := by omega
              subst hkn
              have HL9 := Lib.hid (show LS wr (fun y => w5.heap.size ≤ y) d Ao (sortL Look.name rs) by have h1 := HLO.out; rwa [List.take_of_length_le (by rw [HRSL.out]; exact Nat.le_refl _)] at h1)
              go_wp2
              go_ret2
              rw [HF.out]
              refine ⟨Ao, co, ?_, by rw [len_sortL, HRSL.out]; exact hkco, HL9.out.mono fun y _ hy => by unfold Fresh; omega, HX5.out.trans HX6.out⟩
              rw [len_sortL, HRSL.out]
              rfl
end Go.Proofs.YtcmmkeiiapbgcaaGreatDoor
