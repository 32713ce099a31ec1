/- The law TableImplied: true. Conditions: the arguments read as data; the table of tens is there. -/
import Derived.Test.YtcmmkeiiapbgcaaDoorImp2
import Derived.Test.YtcmmkeiiapbgcaaDoorLin3
import Derived.Test.YtcmmkeiiapbgcaaDoorSan5
import Derived.Test.YtcmmkeiiapbgcaaDoorAll
import Derived.Test.YtcmmkeiiapbgcaaDoorMade2
namespace Go.Proofs.YtcmmkeiiapbgcaaDoor
open Go Go.RowKit

theorem col_eq (cols : List ByteArray) (s : ByteArray) : decide ([s] = colS cols s) = memS cols s := by
  unfold colS
  cases memS cols s <;> simp
def vI8 (gt : Nat) (t : Look) (At : Option Addr) (ct : Nat) (Bt : Option Addr) (et : Nat) (all : List Dep) (ca : Nat) (k : Nat) (b : Nat) (o : Nat) (B' : Option Addr) (c' : Nat) (x : Dep) (hb : Bool) : Nat → Value
  | 0 => .pointer (some ⟨gt, 1, none⟩)
  | 1 => .slice At t.cols.length ct
  | 2 => .pointer (some ⟨gt, 2, none⟩)
  | 3 => .slice Bt t.rows.length et
  | 4 => .slice (some ⟨b, o, none⟩) all.length ca
  | 5 => .int .i64 (k : Int)
  | 6 => .pointer (some ⟨b, o + k * 2, none⟩)
  | 7 => .agg #[.slice B' x.frm.length c', .string x.to]
  | 8 => .bool hb
  | _ => undef
def gI8 (gt : Nat) (t : Look) (At : Option Addr) (ct : Nat) (Bt : Option Addr) (et : Nat) (all : List Dep) (ca : Nat) (k : Nat) (b : Nat) (o : Nat) (B' : Option Addr) (c' : Nat) (x : Dep) (hb : Bool) (i : Nat) (l : List Value) (γ : Gh) (w' : World) : Prop := match l with
  | [v] => v = vI8 gt t At ct Bt et all ca k b o B' c' x hb i
  | _ => True
theorem gI8_st (gt : Nat) (t : Look) (At : Option Addr) (ct : Nat) (Bt : Option Addr) (et : Nat) (all : List Dep) (ca : Nat) (k : Nat) (b : Nat) (o : Nat) (B' : Option Addr) (c' : Nat) (x : Dep) (hb : Bool) : ∀ i l γ w γ' w', LR γ w γ' w' → gI8 gt t At ct Bt et all ca k b o B' c' x hb i l γ w → gI8 gt t At ct Bt et all ca k b o B' c' x hb i l γ' w' := by
  intro i l γ w γ' w' r h
  match l, h with
  | [v], h =>
    unfold gI8 at h ⊢
    exact h
  | [], _ => trivial
  | _ :: _ :: _, _ => trivial
def vI22 (gt : Nat) (gd : Nat) (t : Look) (At : Option Addr) (ct : Nat) (one : Dep) (b : Nat) (o : Nat) (c1 : Nat) (k : Nat) (s : ByteArray) (mb : Bool) : Nat → Value
  | 0 => .bool true
  | 1 => .bool true
  | 2 => .pointer (some ⟨gd, 0, none⟩)
  | 3 => .slice (some ⟨b, o, none⟩) one.frm.length c1
  | 4 => .int .i64 (k : Int)
  | 5 => .pointer (some ⟨b, o + k, none⟩)
  | 6 => .string s
  | 8 => .pointer (some ⟨gt, 1, none⟩)
  | 9 => .slice At t.cols.length ct
  | 10 => .pointer (some ⟨gd, 0, none⟩)
  | 11 => .slice (some ⟨b, o, none⟩) one.frm.length c1
  | 12 => .int .i64 (k : Int)
  | 13 => .pointer (some ⟨b, o + k, none⟩)
  | 14 => .string s
  | 16 => .bool mb
  | 17 => .bool mb
  | 18 => .bool mb
  | _ => undef
def gI22 (gt : Nat) (gd : Nat) (t : Look) (At : Option Addr) (ct : Nat) (one : Dep) (b : Nat) (o : Nat) (c1 : Nat) (k : Nat) (s : ByteArray) (mb : Bool) (i : Nat) (l : List Value) (γ : Gh) (w' : World) : Prop := match l with
  | [v] => if i = 7 then (∃ g : Nat, v = .slice (some ⟨g, 0, none⟩) 1 1 ∧ Strs w' (Free γ) (some ⟨g, 0, none⟩) [s]) else if i = 15 then (∃ (A' : Option Addr) (c' : Nat), v = .slice A' (colS t.cols s).length c' ∧ Strs w' (Free γ) A' (colS t.cols s)) else v = vI22 gt gd t At ct one b o c1 k s mb i
  | _ => True
theorem gI22_st (gt : Nat) (gd : Nat) (t : Look) (At : Option Addr) (ct : Nat) (one : Dep) (b : Nat) (o : Nat) (c1 : Nat) (k : Nat) (s : ByteArray) (mb : Bool) : ∀ i l γ w γ' w', LR γ w γ' w' → gI22 gt gd t At ct one b o c1 k s mb i l γ w → gI22 gt gd t At ct one b o c1 k s mb i l γ' w' := by
  intro i l γ w γ' w' r h
  match l, h with
  | [v], h =>
    unfold gI22 at h ⊢
    by_cases h7 : i = 7
    · simp only [if_pos h7] at h ⊢
      obtain ⟨g, h1, h2⟩ := h
      exact ⟨g, h1, r.strs h2⟩
    simp only [if_neg h7] at h ⊢
    by_cases h15 : i = 15
    · simp only [if_pos h15] at h ⊢
      obtain ⟨a, b, h1, h2⟩ := h
      exact ⟨a, b, h1, r.strs h2⟩
    simp only [if_neg h15] at h ⊢
    exact h
  | [], _ => trivial
  | _ :: _ :: _, _ => trivial
def vI32 (gd : Nat) (one : Dep) (C1 : Option Addr) (c1 : Nat) (cl : List ByteArray) (b : Nat) (o : Nat) (c6 : Nat) (k : Nat) (s : ByteArray) : Nat → Value
  | 0 => .pointer (some ⟨gd, 0, none⟩)
  | 1 => .slice C1 one.frm.length c1
  | 2 => .slice (some ⟨b, o, none⟩) cl.length c6
  | 3 => .int .i64 (k : Int)
  | 4 => .pointer (some ⟨b, o + k, none⟩)
  | 5 => .string s
  | 6 => .agg #[.slice C1 one.frm.length c1, .string s]
  | _ => undef
def gI32 (gd : Nat) (one : Dep) (C1 : Option Addr) (c1 : Nat) (cl : List ByteArray) (b : Nat) (o : Nat) (c6 : Nat) (k : Nat) (s : ByteArray) (i : Nat) (l : List Value) (γ : Gh) (w' : World) : Prop := match l with
  | [v] => if i = 7 then (VarAt 7 33 2 v γ w') else v = vI32 gd one C1 c1 cl b o c6 k s i
  | [p, _] => VarIs 33 p #[.slice C1 one.frm.length c1, .string s] γ w'
  | _ => True
theorem gI32_st (gd : Nat) (one : Dep) (C1 : Option Addr) (c1 : Nat) (cl : List ByteArray) (b : Nat) (o : Nat) (c6 : Nat) (k : Nat) (s : ByteArray) : ∀ i l γ w γ' w', LR γ w γ' w' → gI32 gd one C1 c1 cl b o c6 k s i l γ w → gI32 gd one C1 c1 cl b o c6 k s i l γ' w' := by
  intro i l γ w γ' w' r h
  match l, h with
  | [v], h =>
    unfold gI32 at h ⊢
    by_cases h7 : i = 7
    · simp only [if_pos h7] at h ⊢
      exact VarAt.lr r h
    simp only [if_neg h7] at h ⊢
    exact h
  | [], _ => trivial
  | [p, _], h => exact VarIs.lr r h
  | _ :: _ :: _ :: _, _ => trivial
def vI33a (gt : Nat) (gx : Nat) (m2 : Nat) (t : Look) (At : Option Addr) (ct : Nat) (Bt : Option Addr) (et : Nat) (one : Dep) (C1 : Option Addr) (c1 : Nat) (cl : List ByteArray) (b : Nat) (o : Nat) (c6 : Nat) (k : Nat) (s : ByteArray) : Nat → Value
  | 0 => .bool false
  | 1 => .bool false
  | 2 => undef
  | 3 => undef
  | 4 => undef
  | 5 => undef
  | 6 => undef
  | 7 => undef
  | 8 => undef
  | 9 => undef
  | 10 => undef
  | 11 => .bool false
  | 12 => .bool false
  | 13 => undef
  | 14 => undef
  | 15 => undef
  | 16 => undef
  | 17 => undef
  | 18 => undef
  | 19 => undef
  | 20 => .bool false
  | 21 => .bool false
  | 22 => .map (some m2)
  | 23 => .slice (some ⟨b, o, none⟩) cl.length c6
  | 24 => .int .i64 (k : Int)
  | 25 => .pointer (some ⟨b, o + k, none⟩)
  | 26 => .string s
  | 27 => .bool true
  | 28 => .bool false
  | 29 => .bool false
  | _ => undef
def gI33a (gt : Nat) (gx : Nat) (m2 : Nat) (t : Look) (At : Option Addr) (ct : Nat) (Bt : Option Addr) (et : Nat) (one : Dep) (C1 : Option Addr) (c1 : Nat) (cl : List ByteArray) (b : Nat) (o : Nat) (c6 : Nat) (k : Nat) (s : ByteArray) (i : Nat) (l : List Value) (γ : Gh) (w' : World) : Prop := match l with
  | [v] => v = vI33a gt gx m2 t At ct Bt et one C1 c1 cl b o c6 k s i
  | _ => True
theorem gI33a_st (gt : Nat) (gx : Nat) (m2 : Nat) (t : Look) (At : Option Addr) (ct : Nat) (Bt : Option Addr) (et : Nat) (one : Dep) (C1 : Option Addr) (c1 : Nat) (cl : List ByteArray) (b : Nat) (o : Nat) (c6 : Nat) (k : Nat) (s : ByteArray) : ∀ i l γ w γ' w', LR γ w γ' w' → gI33a gt gx m2 t At ct Bt et one C1 c1 cl b o c6 k s i l γ w → gI33a gt gx m2 t At ct Bt et one C1 c1 cl b o c6 k s i l γ' w' := by
  intro i l γ w γ' w' r h
  match l, h with
  | [v], h =>
    unfold gI33a at h ⊢
    exact h
  | [], _ => trivial
  | _ :: _ :: _, _ => trivial
def vI33b (gt : Nat) (gx : Nat) (m2 : Nat) (t : Look) (At : Option Addr) (ct : Nat) (Bt : Option Addr) (et : Nat) (one : Dep) (C1 : Option Addr) (c1 : Nat) (cl : List ByteArray) (b : Nat) (o : Nat) (c6 : Nat) (k : Nat) (s : ByteArray) : Nat → Value
  | 0 => .bool true
  | 1 => .bool true
  | 2 => .pointer (some ⟨gt, 1, none⟩)
  | 3 => .slice At t.cols.length ct
  | 4 => .slice (some ⟨b, o, none⟩) cl.length c6
  | 5 => .int .i64 (k : Int)
  | 6 => .pointer (some ⟨b, o + k, none⟩)
  | 7 => .string s
  | 9 => .int .i64 0
  | 10 => .bool false
  | 11 => .bool false
  | 12 => .bool false
  | 13 => undef
  | 14 => undef
  | 15 => undef
  | 16 => undef
  | 17 => undef
  | 18 => undef
  | 19 => undef
  | 20 => .bool false
  | 21 => .bool false
  | 22 => .map (some m2)
  | 23 => .slice (some ⟨b, o, none⟩) cl.length c6
  | 24 => .int .i64 (k : Int)
  | 25 => .pointer (some ⟨b, o + k, none⟩)
  | 26 => .string s
  | 27 => .bool true
  | 28 => .bool false
  | 29 => .bool false
  | _ => undef
def gI33b (gt : Nat) (gx : Nat) (m2 : Nat) (t : Look) (At : Option Addr) (ct : Nat) (Bt : Option Addr) (et : Nat) (one : Dep) (C1 : Option Addr) (c1 : Nat) (cl : List ByteArray) (b : Nat) (o : Nat) (c6 : Nat) (k : Nat) (s : ByteArray) (i : Nat) (l : List Value) (γ : Gh) (w' : World) : Prop := match l with
  | [v] => if i = 8 then (∃ (A' : Option Addr) (c' : Nat), v = .slice A' (colS t.cols s).length c') else v = vI33b gt gx m2 t At ct Bt et one C1 c1 cl b o c6 k s i
  | _ => True
theorem gI33b_st (gt : Nat) (gx : Nat) (m2 : Nat) (t : Look) (At : Option Addr) (ct : Nat) (Bt : Option Addr) (et : Nat) (one : Dep) (C1 : Option Addr) (c1 : Nat) (cl : List ByteArray) (b : Nat) (o : Nat) (c6 : Nat) (k : Nat) (s : ByteArray) : ∀ i l γ w γ' w', LR γ w γ' w' → gI33b gt gx m2 t At ct Bt et one C1 c1 cl b o c6 k s i l γ w → gI33b gt gx m2 t At ct Bt et one C1 c1 cl b o c6 k s i l γ' w' := by
  intro i l γ w γ' w' r h
  match l, h with
  | [v], h =>
    unfold gI33b at h ⊢
    by_cases h8 : i = 8
    · simp only [if_pos h8] at h ⊢
      exact h
    simp only [if_neg h8] at h ⊢
    exact h
  | [], _ => trivial
  | _ :: _ :: _, _ => trivial
def vI33c (gt : Nat) (gx : Nat) (m2 : Nat) (t : Look) (At : Option Addr) (ct : Nat) (Bt : Option Addr) (et : Nat) (one : Dep) (C1 : Option Addr) (c1 : Nat) (cl : List ByteArray) (b : Nat) (o : Nat) (c6 : Nat) (k : Nat) (s : ByteArray) : Nat → Value
  | 0 => .bool true
  | 1 => .bool true
  | 2 => .pointer (some ⟨gt, 1, none⟩)
  | 3 => .slice At t.cols.length ct
  | 4 => .slice (some ⟨b, o, none⟩) cl.length c6
  | 5 => .int .i64 (k : Int)
  | 6 => .pointer (some ⟨b, o + k, none⟩)
  | 7 => .string s
  | 9 => .int .i64 1
  | 10 => .bool true
  | 11 => .bool true
  | 12 => .bool true
  | 13 => .pointer (some ⟨gt, 1, none⟩)
  | 14 => .slice At t.cols.length ct
  | 15 => .pointer (some ⟨gt, 2, none⟩)
  | 16 => .slice Bt t.rows.length et
  | 17 => .agg #[.slice C1 one.frm.length c1, .string s]
  | 18 => .bool true
  | 19 => .bool false
  | 20 => .bool false
  | 21 => .bool false
  | 22 => .map (some m2)
  | 23 => .slice (some ⟨b, o, none⟩) cl.length c6
  | 24 => .int .i64 (k : Int)
  | 25 => .pointer (some ⟨b, o + k, none⟩)
  | 26 => .string s
  | 27 => .bool true
  | 28 => .bool false
  | 29 => .bool false
  | _ => undef
def gI33c (gt : Nat) (gx : Nat) (m2 : Nat) (t : Look) (At : Option Addr) (ct : Nat) (Bt : Option Addr) (et : Nat) (one : Dep) (C1 : Option Addr) (c1 : Nat) (cl : List ByteArray) (b : Nat) (o : Nat) (c6 : Nat) (k : Nat) (s : ByteArray) (i : Nat) (l : List Value) (γ : Gh) (w' : World) : Prop := match l with
  | [v] => if i = 8 then (∃ (A' : Option Addr) (c' : Nat), v = .slice A' (colS t.cols s).length c') else v = vI33c gt gx m2 t At ct Bt et one C1 c1 cl b o c6 k s i
  | _ => True
theorem gI33c_st (gt : Nat) (gx : Nat) (m2 : Nat) (t : Look) (At : Option Addr) (ct : Nat) (Bt : Option Addr) (et : Nat) (one : Dep) (C1 : Option Addr) (c1 : Nat) (cl : List ByteArray) (b : Nat) (o : Nat) (c6 : Nat) (k : Nat) (s : ByteArray) : ∀ i l γ w γ' w', LR γ w γ' w' → gI33c gt gx m2 t At ct Bt et one C1 c1 cl b o c6 k s i l γ w → gI33c gt gx m2 t At ct Bt et one C1 c1 cl b o c6 k s i l γ' w' := by
  intro i l γ w γ' w' r h
  match l, h with
  | [v], h =>
    unfold gI33c at h ⊢
    by_cases h8 : i = 8
    · simp only [if_pos h8] at h ⊢
      exact h
    simp only [if_neg h8] at h ⊢
    exact h
  | [], _ => trivial
  | _ :: _ :: _, _ => trivial
set_option maxRecDepth 100000 in
set_option maxHeartbeats 2000000 in
theorem law_Implied (l : List Int) (deps : List (List Int)) (d : List Int) (A B C : Option Addr) (c cb cc : Nat) (w : World) (S : Nat → Prop) (ht : Tens w) (hl : IntsL w S A l) (hdeps : RIssL w S B deps) (hd : IntsL w S C d) :
    Calls Tryd.prog 3 #[.slice A l.length c, .slice B deps.length cb, .slice C d.length cc] w (RetB w true) := by
  have HT := Lib.hid ht
  have HL := Lib.hid hl
  have HDS := Lib.hid hdeps
  have HD := Lib.hid hd
  clear ht hl hdeps hd
  have hmm := @run_makeMap Tryd.prog
  have HMM := Lib.hid hmm
  clear hmm
  go_enter Tryd.func3, Tryd.ntmps3
  go_wp2_with fail
  refine (law_sanity _ HT.out).mono ?_
  rintro e1 w1 ⟨rfl, hx1⟩
  have HX1 := Lib.hid hx1
  clear hx1
  go_wp2_with fail
  refine (r09_Made ⟨#[116]⟩ l A c _ S (HL.out.keep (HX1.out.kept _)) (by decide)).mono ?_
  rintro e2 w2 ⟨t, hmt, At, ct, Bt, et, rfl, ⟨hct, het⟩, hrl, hx2⟩
  have HMT := Lib.hid hmt
  have HCT := Lib.hid hct
  have HX2 := Lib.hid (HX1.out.trans hx2)
  have HRL0 := Lib.hid hrl
  clear hmt hct het hrl hx2
  go_wp2_with fail
  have HX2a := Lib.hid (HX2.out.alloc (.cells #[.string t.name, .slice At t.cols.length ct, .slice Bt t.rows.length et] 28))
  refine (r09_All deps B cb _ S (HDS.out.keep (HX2a.out.kept _))).mono ?_
  rintro e3 w3 ⟨all, ha8, ha3, Aa, ca, rfl, hca, hra, hx3⟩
  have HX3 := Lib.hid (HX2a.out.trans hx3)
  have HGT3 := Lib.hid ((Blk.new w2 28 #[.string t.name, .slice At t.cols.length ct, .slice Bt t.rows.length et]).keep (hx3.kept _))
  have HRL3 := Lib.hid ((HRL0.out.keep (Kept.alloc _ _ (.cells #[.string t.name, .slice At t.cols.length ct, .slice Bt t.rows.length et] 28))).keep (hx3.kept _))
  have HRA3 := Lib.hid hra
  have HA3 := Lib.hid ha3
  clear hx3 hra ha3 hca HX2a
  go_wp2_with fail
  refine (r09_Depends d C cc _ S (HD.out.keep (HX3.out.kept _))).mono ?_
  rintro e4 w4 ⟨one, C1, c1, rfl, ho3, hoc, hot, hos, hx4⟩
  obtain ⟨w5, hw5⟩ : ∃ w5, w5 = w4.alloc (.cells #[.slice C1 one.frm.length c1, .string one.to] 33) := ⟨_, rfl⟩
  have hx45 : Ext w4 w5 := by rw [hw5]; exact (Ext.refl _).alloc _
  have HXW := Lib.hid ((HX3.out.trans hx4).trans hx45)
  have HGT := Lib.hid ((HGT3.out.keep (hx4.kept _)).keep (hx45.kept _))
  have HGD := Lib.hid (show Blk w5 w4.heap.size 33 #[.slice C1 one.frm.length c1, .string one.to] by rw [hw5]; exact Blk.new _ _ _)
  have HRL := Lib.hid ((HRL3.out.keep (hx4.kept _)).keep (hx45.kept _))
  have HRA := Lib.hid ((HRA3.out.keep (hx4.kept _)).keep (hx45.kept _))
  have HOS := Lib.hid (hos.keep (hx45.kept _))
  have HW5 := Lib.hid hw5
  have HOT := Lib.hid hot
  clear hx4 hos hx45 hw5 HX1 HX2 HX3 HGT3 HRL0 HRL3 HRA3 hot hoc
  go_wp2
  rw [← HW5.out]
  obtain ⟨gt, hgt⟩ : ∃ gt, gt = w2.heap.size := ⟨_, rfl⟩
  obtain ⟨gd, hgd⟩ : ∃ gd, gd = w4.heap.size := ⟨_, rfl⟩
  rw [← hgt] at HGT
  rw [← hgd] at HGD
  rw [← hgt, ← hgd]
  clear hgt hgd HW5
  go_loopw [12, 11] (fun i v wr => ∃ (k : Nat) (A' : Option Addr) (c' : Nat) (gs : List Dep), k ≤ all.length ∧ i = .int .i64 k ∧ gs = (all.take k).filter (fun d => holdsS t.cols t.rows d.frm d.to) ∧ v = .slice A' gs.length c' ∧ Ext w5 wr ∧ OwnDs wr w5.heap.size (fun b => b < w5.heap.size) A' c' gs) (fun i _ _ => all.length - (intOf i).toNat)
  case atStart => exact ⟨0, none, 0, [], Nat.zero_le _, rfl, rfl, rfl, Ext.refl _, OwnDs.nil _ _ _⟩
  case round =>
    obtain ⟨k, A', cg, gs, hk, rfl, hgs, rfl, hext, hown⟩ := hrel
    have HE := Lib.hid hext
    have HGS := Lib.hid hgs
    have HO := Lib.hid hown
    have hszw := hext.size
    clear hgs hext hown
    by_cases hlt : k < all.length
    · obtain ⟨b, o, B', c', hAa, z1, q1, q2, q3, q4, q5⟩ := HRA.out.at_ hlt
      subst hAa
      obtain ⟨x, hx⟩ : ∃ x, x = all[k] := ⟨_, rfl⟩
      rw [← hx] at q1 q2 q3 q4 q5
      have Q1 := Lib.hid (HE.out.cell q1)
      have Q2 := Lib.hid (HE.out.cell q2)
      have HQS := Lib.hid ((q5.mono (T := fun b => b < w5.heap.size) fun i hi _ => hi).keep (HE.out.kept _))
      have HQ34 := Lib.hid (And.intro q3 q4)
      clear q3 q4
      have HX := Lib.hid hx
      obtain ⟨hb, hhb⟩ : ∃ hb, hb = holdsS t.cols t.rows x.frm x.to := ⟨_, rfl⟩
      have HHB := Lib.hid hhb
      have HGT0 := HGT
      have HRL0 := HRL
      have HGT := Lib.hid (HGT0.out.keep (HE.out.kept _))
      have HRL := Lib.hid (HRL0.out.keep (HE.out.kept _))
      clear q1 q2 q5 hx hhb
      go_upto_region 8 with fail
      refine wp_region_lin_lit (by kernel_rfl) (fun i => [i]) (by kernel_rfl) LR LR.refl LR.trans (LN (al0)) (gI8 gt t At ct Bt et all ca k b o B' c' x hb) (gI8_st _ _ _ _ _ _ _ _ _ _ _ _ _ _ _) gh0 (LN.zero _) ⟨?_, ?_, ?_, ?_, ?_, ?_, ?_, ?_, ?_, trivial⟩ ?_
      · refine LinStep.yes fun vals γ w' ρ hR hN hp hρ hc hf hg => ⟨rfl, ?_⟩
        have e8 : ρ (.tmp 8) = .pointer (some ⟨gt, 0, none⟩) := hρ 8
        have hx := hR.drew_ext
        have HR := Lib.hid hR
        have HN := Lib.hid hN
        clear hR hN hp hρ hx
        go_light
        go_simp
        exact ⟨γ, LR.refl _ _, fun _ _ _ h => h, rfl⟩
      · refine LinStep.yes fun vals γ w' ρ hR hN hp hρ hc hf hg => ⟨rfl, ?_⟩
        have e36 : ρ (.tmp 36) = .pointer (some ⟨gt, 1, none⟩) := (hρ 36).trans (hp 0 (by decide))
        have hx := hR.drew_ext
        have c1 := (HGT.out.keep (hx.kept _)).cell (i := 1) rfl
        have HR := Lib.hid hR
        have HN := Lib.hid hN
        clear hR hN hp hρ hx
        go_light
        go_simp
        exact ⟨γ, LR.refl _ _, fun _ _ _ h => h, rfl⟩
      · refine LinStep.yes fun vals γ w' ρ hR hN hp hρ hc hf hg => ⟨rfl, ?_⟩
        have e8 : ρ (.tmp 8) = .pointer (some ⟨gt, 0, none⟩) := hρ 8
        have hx := hR.drew_ext
        have HR := Lib.hid hR
        have HN := Lib.hid hN
        clear hR hN hp hρ hx
        go_light
        go_simp
        exact ⟨γ, LR.refl _ _, fun _ _ _ h => h, rfl⟩
      · refine LinStep.yes fun vals γ w' ρ hR hN hp hρ hc hf hg => ⟨rfl, ?_⟩
        have e38 : ρ (.tmp 38) = .pointer (some ⟨gt, 2, none⟩) := (hρ 38).trans (hp 2 (by decide))
        have hx := hR.drew_ext
        have c2 := (HGT.out.keep (hx.kept _)).cell (i := 2) rfl
        have HR := Lib.hid hR
        have HN := Lib.hid hN
        clear hR hN hp hρ hx
        go_light
        go_simp
        exact ⟨γ, LR.refl _ _, fun _ _ _ h => h, rfl⟩
      · refine LinStep.yes fun vals γ w' ρ hR hN hp hρ hc hf hg => ⟨rfl, ?_⟩
        have e9 : ρ (.tmp 9) = .slice (some ⟨b, o, none⟩) all.length ca := hρ 9
        have hx := hR.drew_ext
        have HR := Lib.hid hR
        have HN := Lib.hid hN
        clear hR hN hp hρ hx
        go_light
        go_simp
        exact ⟨γ, LR.refl _ _, fun _ _ _ h => h, rfl⟩
      · refine LinStep.yes fun vals γ w' ρ hR hN hp hρ hc hf hg => ⟨rfl, ?_⟩
        have e12 : ρ (.tmp 12) = .int .i64 (k : Int) := hρ 12
        have hx := hR.drew_ext
        have HR := Lib.hid hR
        have HN := Lib.hid hN
        clear hR hN hp hρ hx
        go_light
        go_simp
        exact ⟨γ, LR.refl _ _, fun _ _ _ h => h, rfl⟩
      · refine LinStep.yes fun vals γ w' ρ hR hN hp hρ hc hf hg => ⟨rfl, ?_⟩
        have e40 : ρ (.tmp 40) = .slice (some ⟨b, o, none⟩) all.length ca := (hρ 40).trans (hp 4 (by decide))
        have e41 : ρ (.tmp 41) = .int .i64 (k : Int) := (hρ 41).trans (hp 5 (by decide))
        have hx := hR.drew_ext
        have HR := Lib.hid hR
        have HN := Lib.hid hN
        clear hR hN hp hρ hx
        go_light
        go_simp
        exact ⟨γ, LR.refl _ _, fun _ _ _ h => h, rfl⟩
      · refine LinStep.yes fun vals γ w' ρ hR hN hp hρ hc hf hg => ⟨rfl, ?_⟩
        have e42 : ρ (.tmp 42) = .pointer (some ⟨b, o + k * 2, none⟩) := (hρ 42).trans (hp 6 (by decide))
        have hx := hR.drew_ext
        have p1 := hx.cell Q1.out
        have p2 := hx.cell Q2.out
        have HR := Lib.hid hR
        have HN := Lib.hid hN
        clear hR hN hp hρ hx
        go_light
        go_simp
        exact ⟨γ, LR.refl _ _, fun _ _ _ h => h, rfl⟩
      · refine LinStep.yes fun vals γ w' ρ hR hN hp hρ hc hf hg => ⟨rfl, ?_⟩
        have e37 : ρ (.tmp 37) = .slice At t.cols.length ct := (hρ 37).trans (hp 1 (by decide))
        have e39 : ρ (.tmp 39) = .slice Bt t.rows.length et := (hρ 39).trans (hp 3 (by decide))
        have e43 : ρ (.tmp 43) = .agg #[.slice B' x.frm.length c', .string x.to] := (hρ 43).trans (hp 7 (by decide))
        have hx := hR.drew_ext
        have HR := Lib.hid hR
        have HN := Lib.hid hN
        clear hR hN hp hρ hx
        go_light
        go_simp
        refine (table_Holds 1 t.cols t.rows x.frm x.to At Bt B' ct et c' _ _ _ _ ((HRL.out.keep (HR.out.drew_ext.kept _)).2.1) ((HRL.out.keep (HR.out.drew_ext.kept _)).2.2) (HQS.out.keep (HR.out.drew_ext.kept _))).mono ?_
        rintro e' w3 ⟨he, hx⟩
        rw [← HHB.out] at he
        exact ⟨_, he, γ, LR.of_ext γ hx, fun _ _ _ h => h, rfl⟩
      · intro vals γ w' hR hG
        have h8 : vals 8 = .bool hb := hG 8 (by decide)
        have HX6 := Lib.hid hR.drew_ext
        clear hR hG
        simp only [lexFrame, Act.put, List.setIfInBounds_toArray, List.set_cons_succ, List.set_cons_zero, Nat.zero_add, Nat.reduceAdd, h8]
        generalize vals 0 = u0, vals 1 = u1, vals 2 = u2, vals 3 = u3, vals 4 = u4, vals 5 = u5, vals 6 = u6, vals 7 = u7
        clear h8
        have hsz6 := HX6.out.size
        have hfl : (all.take (k + 1)).filter (fun d => holdsS t.cols t.rows d.frm d.to) = gs ++ if hb = true then [x] else [] := by
          rw [List.take_succ_eq_append_getElem hlt, List.filter_append, ← HGS.out, ← HX.out]
          simp [List.filter_cons, ← HHB.out]
        have HFL := Lib.hid hfl
        clear hfl
        cases hb
        · go_wp2
          go_roundw
          case rel => exact ⟨k + 1, A', cg, gs, by omega, by go_num, by rw [HFL.out]; simp, rfl, HE.out.trans HX6.out, HO.out.ext HX6.out⟩
          case measure => simp [intOf]; omega
        · have p1 := HX6.out.cell Q1.out
          have p2 := HX6.out.cell Q2.out
          obtain ⟨hs, hhs, ho, hv⟩ := (HO.out.ext (HX6.out.alloc (.cells #[.slice B' x.frm.length c', .string x.to] 33))).add
          have HOWN := Lib.hid ho
          have HV := Lib.hid hv
          have HHS := Lib.hid hhs
          have hgl : gs.length ≤ 8 := by rw [HGS.out]; exact Nat.le_trans (List.length_filter_le _ _) (by rw [List.length_take]; omega)
          clear ho hv hhs
          go_wp2_with (at_builtin; go_must (refine wpList_app rfl (.tmp 45) (.tmp 50) rfl tiD rfl HOWN.out rfl (Blk.rd (Blk.new _ _ _)) rfl (by simp [Value.oneCell']) (by omega) (by decide) (by simp; omega) ?_); intro A4 c4 w7 hown4 hg4 hat4)
          go_roundw
          case rel =>
            refine ⟨k + 1, A4, c4, gs ++ [x], by omega, by go_num, by rw [HFL.out]; simp, by simp, Ext.grown ((HE.out.trans HX6.out).alloc _) hg4 (fun b hb => (HOWN.out.blk hb).1), ?_⟩
            refine OwnDs.push HHS.out HV.out hown4 hg4 hat4 HQ34.out.1 HQ34.out.2 (((HQS.out.keep (HX6.out.kept _)).keep (Kept.alloc _ _ _)).mono fun i _ hi => ⟨fun h0 => ?_, hi⟩)
            have := (HO.out.blk h0).1
            omega
          case measure => simp [intOf]; omega
    · obtain rfl : k = all.length := by omega
      have hgs2 : gs = all.filter (fun d => holdsS t.cols t.rows d.frm d.to) := by rw [HGS.out, List.take_of_length_le (Nat.le_refl _)]
      have hgl : gs.length ≤ 8 := by rw [hgs2]; exact Nat.le_trans (List.length_filter_le _ _) (by omega)
      have HG2 := Lib.hid hgs2
      have gd0 := HE.out.cell (HGD.out.cell (i := 0) rfl)
      clear hgs2 HGS
      go_wp2_with fail
      refine (table_Closure gs one.frm A' C1 cg c1 _ _ _ (HO.out.rdeps (T := fun _ => True) (by omega) (fun _ _ => trivial) (fun _ _ => trivial)) (HOS.out.keep (HE.out.kept _)) (by omega)).mono ?_
      rintro e6 w6 ⟨ks, hks, A6, c6, rfl, hc6, hs6, hx6⟩
      have HKS := Lib.hid hks
      obtain ⟨cl, hcl⟩ : ∃ cl, cl = sortS ks := ⟨_, rfl⟩
      rw [← hcl] at hc6 hs6
      rw [← hcl]
      have HCL := Lib.hid hcl
      have hcll : cl.length ≤ 11 := by rw [hcl, sortS_len]; have := hks.len; omega
      have HX6 := Lib.hid (HE.out.trans hx6)
      have HO6 := Lib.hid (HO.out.ext hx6)
      have HS6 := Lib.hid hs6
      clear hks hcl hc6 hs6 hx6 HE HO gd0
      have hmm := HMM.out
      go_wp2
      clear hmm
      have HSE := Lib.hid (show SetIs (w6.alloc (.map #[] 0)) w6.heap.size [] from MapIs.made w6 _)
      go_loopw [15] (fun i wr => ∃ (k : Nat) (ms : List ByteArray), k ≤ cl.length ∧ i = .int .i64 k ∧ Ext w6 wr ∧ SetIs wr w6.heap.size ms ∧ ∀ x, x ∈ ms ↔ x ∈ cl.take k) (fun i _ => cl.length - (intOf i).toNat)
      case atStart => exact ⟨0, [], Nat.zero_le _, rfl, (Ext.refl _).alloc _, HSE.out, by simp⟩
      case round =>
        clear HSE
        obtain ⟨k, ms, hk, rfl, hext, hset, hmem⟩ := hrel
        have HE := Lib.hid hext
        have HSE := Lib.hid hset
        have HME := Lib.hid hmem
        clear hext hset hmem
        by_cases hlt : k < cl.length
        · obtain ⟨b1, o1, hA1, z1, q1⟩ := (HS6.out.keep (HE.out.kept _)).at_ hlt
          subst hA1
          obtain ⟨w', ms', hup, hset', hg', hks⟩ := HSE.out.put cl[k]
          have HS' := Lib.hid hset'
          have HG' := Lib.hid hg'
          have HK' := Lib.hid hks
          clear hset' hg' hks
          go_wp2
          go_roundw
          case rel =>
            refine ⟨k + 1, ms', by omega, by go_num, HE.out.grown HG'.out (fun b hb => by injection hb with hb; omega), HS'.out, fun x => ?_⟩
            rw [List.take_succ_eq_append_getElem hlt, List.mem_append, List.mem_singleton]
            rcases HK'.out with ⟨hm, rfl⟩ | ⟨hn, rfl⟩
            · rw [HME.out]
              constructor
              · exact Or.inl
              · rintro (h | rfl)
                · exact h
                · exact (HME.out _).1 hm
            · rw [List.mem_append, List.mem_singleton, HME.out]
          case measure => simp [intOf]; omega
        · obtain rfl : k = cl.length := by omega
          have hall : ∀ x, x ∈ ms ↔ x ∈ cl := fun x => by rw [HME.out, List.take_of_length_le (Nat.le_refl _)]
          have HALL := Lib.hid hall
          clear hall HME
          go_wp2
          go_loopw [17, 16] (fun i v wr => ∃ (k : Nat) (th : Bool), k ≤ one.frm.length ∧ i = .int .i64 k ∧ v = .bool th ∧ th = (one.frm.take k).all (fun x => memS t.cols x) ∧ Ext w6 wr ∧ SetIs wr w6.heap.size ms) (fun i _ _ => one.frm.length - (intOf i).toNat)
          case atStart => exact ⟨0, true, Nat.zero_le _, rfl, rfl, rfl, HE.out, HSE.out⟩
          case round =>
            clear HE HSE
            obtain ⟨k, th, hk, rfl, rfl, hth, hext, hset⟩ := hrel
            have HE := Lib.hid hext
            have HSE := Lib.hid hset
            have HTH := Lib.hid hth
            clear hext hset hth
            have HX8 := Lib.hid (HX6.out.trans HE.out)
            have gd0 := HX8.out.cell (HGD.out.cell (i := 0) rfl)
            by_cases hlt : k < one.frm.length
            · obtain ⟨b, o, hA1, z1, q1⟩ := (HOS.out.keep (HX8.out.kept _)).at_ hlt
              have hsz := (HOS.out).sz hlt
              subst hA1
              obtain ⟨s, hs⟩ : ∃ s, s = one.frm[k] := ⟨_, rfl⟩
              rw [← hs] at q1 hsz
              have hget := HSE.out.get s
              rw [(memB_iff ms s).2 ((HALL.out s).2 (by rw [HCL.out]; exact mem_sortS.2 (HKS.out.base s (by rw [hs]; exact List.getElem_mem hlt))))] at hget
              have HSS := Lib.hid hs
              clear hs
              have htk : (one.frm.take (k + 1)).all (fun x => memS t.cols x) = (th && memS t.cols s) := by
                rw [List.take_succ_eq_append_getElem hlt, List.all_append, ← HTH.out, ← HSS.out]
                simp
              have HTK := Lib.hid htk
              clear htk
              cases th
              · go_upto_region 22 with fail
                clear hget
                go_quiet (fail)
                go_wp2
                go_roundw
                case rel => exact ⟨k + 1, false, by omega, by go_num, rfl, by rw [HTK.out]; rfl, HE.out.drewN _, HSE.out.keep (Kept.drewN _ _ _)⟩
                case measure => simp [intOf]; omega
              · go_upto_region 22 with fail
                clear hget
                have QF := Lib.hid q1
                have HSZ := Lib.hid hsz
                obtain ⟨mb, hmb⟩ : ∃ mb, mb = memS t.cols s := ⟨_, rfl⟩
                have HMB := Lib.hid hmb
                have HGT1 := HGT
                have HGD1 := HGD
                have HRL1 := HRL
                have HGT := Lib.hid (HGT1.out.keep (HX8.out.kept _))
                have HGD := Lib.hid (HGD1.out.keep (HX8.out.kept _))
                have HRL := Lib.hid (HRL1.out.keep (HX8.out.kept _))
                clear q1 hsz hmb gd0
                refine wp_region_lin_lit (by kernel_rfl) (fun i => [i]) (by kernel_rfl) LR LR.refl LR.trans (LN (al0)) (gI22 gt gd t At ct one b o c1 k s mb) (gI22_st _ _ _ _ _ _ _ _ _ _ _ _) gh0 (LN.zero _) ⟨?_, ?_, ?_, ?_, ?_, ?_, ?_, ?_, ?_, ?_, ?_, ?_, ?_, ?_, ?_, ?_, ?_, ?_, ?_, trivial⟩ ?_
                · refine LinStep.yes fun vals γ w' ρ hR hN hp hρ hc hf hg => ⟨rfl, ?_⟩
                  have e16 : ρ (.tmp 16) = .bool true := hρ 16
                  have hx := hR.drew_ext
                  have HR := Lib.hid hR
                  have HN := Lib.hid hN
                  clear hR hN hp hρ hx
                  go_light
                  go_simp
                  exact ⟨γ, LR.refl _ _, fun _ _ _ h => h, rfl⟩
                · refine LinStep.yes fun vals γ w' ρ hR hN hp hρ hc hf hg => ⟨rfl, ?_⟩
                  have e83 : ρ (.tmp 83) = .bool true := (hρ 83).trans (hp 0 (by decide))
                  have hx := hR.drew_ext
                  have HR := Lib.hid hR
                  have HN := Lib.hid hN
                  clear hR hN hp hρ hx
                  go_light
                  go_simp
                  exact ⟨γ, LR.refl _ _, fun _ _ _ h => h, rfl⟩
                · refine LinStep.yes fun vals γ w' ρ hR hN hp hρ hc hf hg => ⟨by show (boolOf (vals 1) == some true) = true; rw [show vals 1 = .bool true from hp 1 (by decide)]; rfl, ?_⟩
                  have e10 : ρ (.tmp 10) = .pointer (some ⟨gd, 0, none⟩) := hρ 10
                  have hx := hR.drew_ext
                  have HR := Lib.hid hR
                  have HN := Lib.hid hN
                  clear hR hN hp hρ hx
                  go_light
                  go_simp
                  exact ⟨γ, LR.refl _ _, fun _ _ _ h => h, rfl⟩
                · refine LinStep.yes fun vals γ w' ρ hR hN hp hρ hc hf hg => ⟨by show (boolOf (vals 1) == some true) = true; rw [show vals 1 = .bool true from hp 1 (by decide)]; rfl, ?_⟩
                  have e85 : ρ (.tmp 85) = .pointer (some ⟨gd, 0, none⟩) := (hρ 85).trans (hp 2 (by decide))
                  have hx := hR.drew_ext
                  have c0 := (HGD.out.keep (hx.kept _)).cell (i := 0) rfl
                  have HR := Lib.hid hR
                  have HN := Lib.hid hN
                  clear hR hN hp hρ hx
                  go_light
                  go_simp
                  exact ⟨γ, LR.refl _ _, fun _ _ _ h => h, rfl⟩
                · refine LinStep.yes fun vals γ w' ρ hR hN hp hρ hc hf hg => ⟨by show (boolOf (vals 1) == some true) = true; rw [show vals 1 = .bool true from hp 1 (by decide)]; rfl, ?_⟩
                  have e17 : ρ (.tmp 17) = .int .i64 (k : Int) := hρ 17
                  have hx := hR.drew_ext
                  have HR := Lib.hid hR
                  have HN := Lib.hid hN
                  clear hR hN hp hρ hx
                  go_light
                  go_simp
                  exact ⟨γ, LR.refl _ _, fun _ _ _ h => h, rfl⟩
                · refine LinStep.yes fun vals γ w' ρ hR hN hp hρ hc hf hg => ⟨by show (boolOf (vals 1) == some true) = true; rw [show vals 1 = .bool true from hp 1 (by decide)]; rfl, ?_⟩
                  have e86 : ρ (.tmp 86) = .slice (some ⟨b, o, none⟩) one.frm.length c1 := (hρ 86).trans (hp 3 (by decide))
                  have e87 : ρ (.tmp 87) = .int .i64 (k : Int) := (hρ 87).trans (hp 4 (by decide))
                  have hx := hR.drew_ext
                  have i0 : (0 : Int) ≤ (k : Int) := by omega
                  have i1 : (k : Int) < (one.frm.length : Int) := by omega
                  have HR := Lib.hid hR
                  have HN := Lib.hid hN
                  clear hR hN hp hρ hx
                  go_light
                  go_simp
                  exact ⟨γ, LR.refl _ _, fun _ _ _ h => h, rfl⟩
                · refine LinStep.yes fun vals γ w' ρ hR hN hp hρ hc hf hg => ⟨by show (boolOf (vals 1) == some true) = true; rw [show vals 1 = .bool true from hp 1 (by decide)]; rfl, ?_⟩
                  have e88 : ρ (.tmp 88) = .pointer (some ⟨b, o + k, none⟩) := (hρ 88).trans (hp 5 (by decide))
                  have hx := hR.drew_ext
                  have p1 := hx.cell QF.out
                  have HR := Lib.hid hR
                  have HN := Lib.hid hN
                  clear hR hN hp hρ hx
                  go_light
                  go_simp
                  exact ⟨γ, LR.refl _ _, fun _ _ _ h => h, rfl⟩
                · refine LinStep.yes fun vals γ w' ρ hR hN hp hρ hc hf hg => ⟨by show (boolOf (vals 1) == some true) = true; rw [show vals 1 = .bool true from hp 1 (by decide)]; rfl, ?_⟩
                  have e89 : ρ (.tmp 89) = .string s := (hρ 89).trans (hp 6 (by decide))
                  have hx := hR.drew_ext
                  have HR := Lib.hid hR
                  have HN := Lib.hid hN
                  clear hR hN hp hρ hx
                  go_light
                  go_simp
                  refine ⟨γ, LR.of_ext γ ((Ext.refl _).alloc _), fun _ _ _ h => h, _, rfl, ?_⟩
                  refine (Strs.of_blk (Blk.new w' 9 #[.string s]) rfl (by simp) (by intro x hx; simp at hx; subst hx; exact HSZ.out)).mono fun b _ hb => ?_
                  rintro ⟨k', hk'⟩
                  have := HR.out.inb0 k' _ hk'
                  omega
                · refine LinStep.yes fun vals γ w' ρ hR hN hp hρ hc hf hg => ⟨by show (boolOf (vals 1) == some true) = true; rw [show vals 1 = .bool true from hp 1 (by decide)]; rfl, ?_⟩
                  have e8 : ρ (.tmp 8) = .pointer (some ⟨gt, 0, none⟩) := hρ 8
                  have hx := hR.drew_ext
                  have HR := Lib.hid hR
                  have HN := Lib.hid hN
                  clear hR hN hp hρ hx
                  go_light
                  go_simp
                  exact ⟨γ, LR.refl _ _, fun _ _ _ h => h, rfl⟩
                · refine LinStep.yes fun vals γ w' ρ hR hN hp hρ hc hf hg => ⟨by show (boolOf (vals 1) == some true) = true; rw [show vals 1 = .bool true from hp 1 (by decide)]; rfl, ?_⟩
                  have e91 : ρ (.tmp 91) = .pointer (some ⟨gt, 1, none⟩) := (hρ 91).trans (hp 8 (by decide))
                  have hx := hR.drew_ext
                  have c1 := (HGT.out.keep (hx.kept _)).cell (i := 1) rfl
                  have HR := Lib.hid hR
                  have HN := Lib.hid hN
                  clear hR hN hp hρ hx
                  go_light
                  go_simp
                  exact ⟨γ, LR.refl _ _, fun _ _ _ h => h, rfl⟩
                · refine LinStep.yes fun vals γ w' ρ hR hN hp hρ hc hf hg => ⟨by show (boolOf (vals 1) == some true) = true; rw [show vals 1 = .bool true from hp 1 (by decide)]; rfl, ?_⟩
                  have e10 : ρ (.tmp 10) = .pointer (some ⟨gd, 0, none⟩) := hρ 10
                  have hx := hR.drew_ext
                  have HR := Lib.hid hR
                  have HN := Lib.hid hN
                  clear hR hN hp hρ hx
                  go_light
                  go_simp
                  exact ⟨γ, LR.refl _ _, fun _ _ _ h => h, rfl⟩
                · refine LinStep.yes fun vals γ w' ρ hR hN hp hρ hc hf hg => ⟨by show (boolOf (vals 1) == some true) = true; rw [show vals 1 = .bool true from hp 1 (by decide)]; rfl, ?_⟩
                  have e93 : ρ (.tmp 93) = .pointer (some ⟨gd, 0, none⟩) := (hρ 93).trans (hp 10 (by decide))
                  have hx := hR.drew_ext
                  have c0 := (HGD.out.keep (hx.kept _)).cell (i := 0) rfl
                  have HR := Lib.hid hR
                  have HN := Lib.hid hN
                  clear hR hN hp hρ hx
                  go_light
                  go_simp
                  exact ⟨γ, LR.refl _ _, fun _ _ _ h => h, rfl⟩
                · refine LinStep.yes fun vals γ w' ρ hR hN hp hρ hc hf hg => ⟨by show (boolOf (vals 1) == some true) = true; rw [show vals 1 = .bool true from hp 1 (by decide)]; rfl, ?_⟩
                  have e17 : ρ (.tmp 17) = .int .i64 (k : Int) := hρ 17
                  have hx := hR.drew_ext
                  have HR := Lib.hid hR
                  have HN := Lib.hid hN
                  clear hR hN hp hρ hx
                  go_light
                  go_simp
                  exact ⟨γ, LR.refl _ _, fun _ _ _ h => h, rfl⟩
                · refine LinStep.yes fun vals γ w' ρ hR hN hp hρ hc hf hg => ⟨by show (boolOf (vals 1) == some true) = true; rw [show vals 1 = .bool true from hp 1 (by decide)]; rfl, ?_⟩
                  have e94 : ρ (.tmp 94) = .slice (some ⟨b, o, none⟩) one.frm.length c1 := (hρ 94).trans (hp 11 (by decide))
                  have e95 : ρ (.tmp 95) = .int .i64 (k : Int) := (hρ 95).trans (hp 12 (by decide))
                  have hx := hR.drew_ext
                  have i0 : (0 : Int) ≤ (k : Int) := by omega
                  have i1 : (k : Int) < (one.frm.length : Int) := by omega
                  have HR := Lib.hid hR
                  have HN := Lib.hid hN
                  clear hR hN hp hρ hx
                  go_light
                  go_simp
                  exact ⟨γ, LR.refl _ _, fun _ _ _ h => h, rfl⟩
                · refine LinStep.yes fun vals γ w' ρ hR hN hp hρ hc hf hg => ⟨by show (boolOf (vals 1) == some true) = true; rw [show vals 1 = .bool true from hp 1 (by decide)]; rfl, ?_⟩
                  have e96 : ρ (.tmp 96) = .pointer (some ⟨b, o + k, none⟩) := (hρ 96).trans (hp 13 (by decide))
                  have hx := hR.drew_ext
                  have p1 := hx.cell QF.out
                  have HR := Lib.hid hR
                  have HN := Lib.hid hN
                  clear hR hN hp hρ hx
                  go_light
                  go_simp
                  exact ⟨γ, LR.refl _ _, fun _ _ _ h => h, rfl⟩
                · refine LinStep.yes fun vals γ w' ρ hR hN hp hρ hc hf hg => ⟨by show (boolOf (vals 1) == some true) = true; rw [show vals 1 = .bool true from hp 1 (by decide)]; rfl, ?_⟩
                  have e92 : ρ (.tmp 92) = .slice At t.cols.length ct := (hρ 92).trans (hp 9 (by decide))
                  have e97 : ρ (.tmp 97) = .string s := (hρ 97).trans (hp 14 (by decide))
                  have hx := hR.drew_ext
                  have HR := Lib.hid hR
                  have HN := Lib.hid hN
                  clear hR hN hp hρ hx
                  go_light
                  go_simp
                  refine (law_column At ct t.cols s _ _ ((HRL.out.keep (HR.out.drew_ext.kept _)).2.1) HSZ.out).mono ?_
                  rintro e' w3 ⟨A3, c3, he, hc3, hs3, hx3⟩
                  refine ⟨_, he, γ, LR.of_ext γ hx3, fun _ _ _ h => h, A3, c3, rfl, hs3.mono fun b _ hb => ?_⟩
                  rintro ⟨k', hk'⟩
                  have := HR.out.inb0 k' _ hk'
                  unfold Fresh at hb
                  omega
                · refine LinStep.yes fun vals γ w' ρ hR hN hp hρ hc hf hg => ⟨by show (boolOf (vals 1) == some true) = true; rw [show vals 1 = .bool true from hp 1 (by decide)]; rfl, ?_⟩
                  obtain ⟨g9, hv9, hs9⟩ := hp 7 (by decide)
                  have e90 : ρ (.tmp 90) = _ := (hρ 90).trans hv9
                  have HS9 := Lib.hid hs9
                  clear hv9 hs9
                  obtain ⟨A3, c3, hv15, hs15⟩ := hp 15 (by decide)
                  have e98 : ρ (.tmp 98) = _ := (hρ 98).trans hv15
                  have HS15 := Lib.hid hs15
                  clear hv15 hs15
                  have hx := hR.drew_ext
                  have HR := Lib.hid hR
                  have HN := Lib.hid hN
                  clear hR hN hp hρ hx
                  go_light
                  go_simp
                  refine (r06_Strings _ _ _ _ [s] (colS t.cols s) _ _ _ HS9.out HS15.out).mono ?_
                  rintro e' w3 ⟨he, n, rfl⟩
                  rw [col_eq, ← HMB.out] at he
                  exact ⟨_, he, γ, LR.of_ext γ ((Ext.refl _).drewN n), fun _ _ _ h => h, rfl⟩
                · refine LinStep.yes fun vals γ w' ρ hR hN hp hρ hc hf hg => ⟨rfl, ?_⟩
                  have e84 : ρ (.tmp 84) = .bool true := (hρ 84).trans (hp 1 (by decide))
                  have e99 : ρ (.tmp 99) = .bool mb := (hρ 99).trans (hp 16 (by decide))
                  have hx := hR.drew_ext
                  have HR := Lib.hid hR
                  have HN := Lib.hid hN
                  clear hR hN hp hρ hx
                  go_light
                  go_simp
                  exact ⟨γ, LR.refl _ _, fun _ _ _ h => h, rfl⟩
                · refine LinStep.yes fun vals γ w' ρ hR hN hp hρ hc hf hg => ⟨rfl, ?_⟩
                  have e100 : ρ (.tmp 100) = .bool mb := (hρ 100).trans (hp 17 (by decide))
                  have hx := hR.drew_ext
                  have HR := Lib.hid hR
                  have HN := Lib.hid hN
                  clear hR hN hp hρ hx
                  go_light
                  go_simp
                  exact ⟨γ, LR.refl _ _, fun _ _ _ h => h, rfl⟩
                · intro vals γ w' hR hG
                  have h18 : vals 18 = .bool mb := hG 18 (by decide)
                  have HX9 := Lib.hid hR.drew_ext
                  clear hR hG
                  simp only [lexFrame, Act.put, List.setIfInBounds_toArray, List.set_cons_succ, List.set_cons_zero, Nat.zero_add, Nat.reduceAdd, h18]
                  clear h18
                  go_wp2
                  go_roundw
                  case rel => exact ⟨k + 1, mb, by omega, by go_num, rfl, by rw [HTK.out, ← HMB.out]; rfl, HE.out.trans HX9.out, HSE.out.keep (HX9.out.kept _)⟩
                  case measure => simp [intOf]; omega
            · obtain rfl : k = one.frm.length := by omega
              have htf : th = one.frm.all (fun x => memS t.cols x) := by rw [HTH.out, List.take_of_length_le (Nat.le_refl _)]
              have HTF := Lib.hid htf
              obtain ⟨w8, rfl⟩ : ∃ w8, w8 = wr := ⟨_, rfl⟩
              have HX8a := Lib.hid (HX8.out.alloc (.map #[] 0))
              clear htf HTH
              have hmm := HMM.out
              have gd1 := HX8a.out.cell (HGD.out.cell (i := 0) rfl)
              go_wp2_with fail
              clear hmm gd0 gd1
              refine (table_Closure all one.frm Aa C1 ca c1 _ _ _ (HRA.out.keep (HX8a.out.kept _)) (HOS.out.keep (HX8a.out.kept _)) (by omega)).mono ?_
              rintro e9 w9 ⟨ks2, hks2, A9, c9, rfl, hc9, hs9, hx9⟩
              have HKS2 := Lib.hid hks2
              obtain ⟨cl2, hcl2⟩ : ∃ cl2, cl2 = sortS ks2 := ⟨_, rfl⟩
              rw [← hcl2] at hc9 hs9
              rw [← hcl2]
              have HCL2 := Lib.hid hcl2
              have hcll2 : cl2.length ≤ 11 := by rw [hcl2, sortS_len]; have := hks2.len; omega
              have HX9 := Lib.hid (((Ext.refl w8).alloc (.map #[] 0)).trans hx9)
              have hsz9 : w8.heap.size < w9.heap.size := by have := hx9.size; simp at this; omega
              have HS9 := Lib.hid (hs9.mono (T := fun b => w8.heap.size < b) fun b _ hb => by unfold Fresh at hb; simp at hb; omega)
              have HN0 := Lib.hid (show SetIs w9 w8.heap.size [] from SetIs.keep (MapIs.made w8 _) (hx9.kept _))
              clear hks2 hcl2 hc9 hs9 hx9 HSE HALL
              go_wp2
              go_loopw [107] (fun i wr => ∃ (k : Nat) (ns : List ByteArray), k ≤ cl2.length ∧ i = .int .i64 k ∧ Ext w8 wr ∧ w8.heap.size < wr.heap.size ∧ Strs wr (fun b => w8.heap.size < b) A9 cl2 ∧ SetIs wr w8.heap.size ns ∧ ∀ x, x ∈ ns ↔ x ∈ cl2.take k) (fun i _ => cl2.length - (intOf i).toNat)
              case atStart => exact ⟨0, [], Nat.zero_le _, rfl, HX9.out, hsz9, HS9.out, HN0.out, by simp⟩
              case round =>
                clear HN0 HX9 HS9 hsz9
                obtain ⟨k, ns, hk, rfl, hext, hsz, hs9, hset, hmem⟩ := hrel
                have HE8 := Lib.hid hext
                have HSE := Lib.hid hset
                have HME := Lib.hid hmem
                have HS9 := Lib.hid hs9
                clear hext hset hmem hs9
                by_cases hlt : k < cl2.length
                · obtain ⟨b1, o1, hA1, z1, q1⟩ := HS9.out.at_ hlt
                  subst hA1
                  obtain ⟨w', ns', hup, hset', hg', hks⟩ := HSE.out.put cl2[k]
                  have HS' := Lib.hid hset'
                  have HG' := Lib.hid hg'
                  have HK' := Lib.hid hks
                  clear hset' hg' hks
                  go_wp2
                  go_roundw
                  case rel =>
                    refine ⟨k + 1, ns', by omega, by go_num, HE8.out.grown HG'.out (fun b hb => by injection hb with hb; omega), by have := HG'.out.size; omega, HS9.out.keep (Kept.of_grown HG'.out fun b hb _ e => by injection e with e; omega), HS'.out, fun x => ?_⟩
                    rw [List.take_succ_eq_append_getElem hlt, List.mem_append, List.mem_singleton]
                    rcases HK'.out with ⟨hm, rfl⟩ | ⟨hn, rfl⟩
                    · rw [HME.out]
                      constructor
                      · exact Or.inl
                      · rintro (h | rfl)
                        · exact h
                        · exact (HME.out _).1 hm
                    · rw [List.mem_append, List.mem_singleton, HME.out]
                  case measure => simp [intOf]; omega
                · have hall : ∀ x, x ∈ ns ↔ x ∈ cl2 := fun x => by rw [HME.out, List.take_of_length_le (by omega)]
                  have HALL := Lib.hid hall
                  clear hall HME HS9
                  go_wp2
                  go_loopw [21] (fun i wr => ∃ (k : Nat), k ≤ cl.length ∧ i = .int .i64 k ∧ Ext w8 wr ∧ SetIs wr w8.heap.size ns) (fun i _ => cl.length - (intOf i).toNat)
                  case atStart => exact ⟨0, Nat.zero_le _, rfl, HE8.out, HSE.out⟩
                  case round =>
                    clear HE8 HSE hsz
                    obtain ⟨k, hk, rfl, hext, hset⟩ := hrel
                    have HE8 := Lib.hid hext
                    have HSE := Lib.hid hset
                    have HX5 := Lib.hid (HX8.out.trans hext)
                    have HX66 := Lib.hid (HE.out.trans hext)
                    clear hext hset
                    by_cases hlt : k < cl.length
                    · obtain ⟨b, o, hA1, z1, q1⟩ := (HS6.out.keep (HX66.out.kept _)).at_ hlt
                      have hszs := (HS6.out).sz hlt
                      subst hA1
                      obtain ⟨s, hs⟩ : ∃ s, s = cl[k] := ⟨_, rfl⟩
                      rw [← hs] at q1 hszs
                      have HSS := Lib.hid hs
                      have gd0 := HX5.out.cell (HGD.out.cell (i := 0) rfl)
                      have gz := (HGD.out.keep (HX5.out.kept _)).lt
                      clear hs
                      go_upto_region 32 with fail
                      have QF := Lib.hid q1
                      have HSZ := Lib.hid hszs
                      have HGT1 := HGT
                      have HGD1 := HGD
                      have HRL1 := HRL
                      have HGT := Lib.hid (HGT1.out.keep (HX5.out.kept _))
                      have HGD := Lib.hid (HGD1.out.keep (HX5.out.kept _))
                      have HRL := Lib.hid (HRL1.out.keep (HX5.out.kept _))
                      have HOS5 := Lib.hid (HOS.out.keep (HX5.out.kept _))
                      clear q1 hszs gd0 gz
                      refine wp_region_lin_lit (by kernel_rfl) (fun | 8 => [7, 8] | i => [i]) (by kernel_rfl) LR LR.refl LR.trans (LN (al1 8 7)) (gI32 gd one C1 c1 cl b o c6 k s) (gI32_st _ _ _ _ _ _ _ _ _ _) gh0 (LN.zero _) ⟨?_, ?_, ?_, ?_, ?_, ?_, ?_, ?_, ?_, trivial⟩ ?_
                      · refine LinStep.yes fun vals γ w' ρ hR hN hp hρ hc hf hg => ⟨rfl, ?_⟩
                        have e10 : ρ (.tmp 10) = .pointer (some ⟨gd, 0, none⟩) := hρ 10
                        have hx := hR.drew_ext
                        have HR := Lib.hid hR
                        have HN := Lib.hid hN
                        clear hR hN hp hρ hx
                        go_light
                        go_simp
                        exact ⟨γ, LR.refl _ _, fun _ _ _ h => h, rfl⟩
                      · refine LinStep.yes fun vals γ w' ρ hR hN hp hρ hc hf hg => ⟨rfl, ?_⟩
                        have e120 : ρ (.tmp 120) = .pointer (some ⟨gd, 0, none⟩) := (hρ 120).trans (hp 0 (by decide))
                        have hx := hR.drew_ext
                        have c0 := (HGD.out.keep (hx.kept _)).cell (i := 0) rfl
                        have HR := Lib.hid hR
                        have HN := Lib.hid hN
                        clear hR hN hp hρ hx
                        go_light
                        go_simp
                        exact ⟨γ, LR.refl _ _, fun _ _ _ h => h, rfl⟩
                      · refine LinStep.yes fun vals γ w' ρ hR hN hp hρ hc hf hg => ⟨rfl, ?_⟩
                        have e13 : ρ (.tmp 13) = .slice (some ⟨b, o, none⟩) cl.length c6 := hρ 13
                        have hx := hR.drew_ext
                        have HR := Lib.hid hR
                        have HN := Lib.hid hN
                        clear hR hN hp hρ hx
                        go_light
                        go_simp
                        exact ⟨γ, LR.refl _ _, fun _ _ _ h => h, rfl⟩
                      · refine LinStep.yes fun vals γ w' ρ hR hN hp hρ hc hf hg => ⟨rfl, ?_⟩
                        have e21 : ρ (.tmp 21) = .int .i64 (k : Int) := hρ 21
                        have hx := hR.drew_ext
                        have HR := Lib.hid hR
                        have HN := Lib.hid hN
                        clear hR hN hp hρ hx
                        go_light
                        go_simp
                        exact ⟨γ, LR.refl _ _, fun _ _ _ h => h, rfl⟩
                      · refine LinStep.yes fun vals γ w' ρ hR hN hp hρ hc hf hg => ⟨rfl, ?_⟩
                        have e122 : ρ (.tmp 122) = .slice (some ⟨b, o, none⟩) cl.length c6 := (hρ 122).trans (hp 2 (by decide))
                        have e123 : ρ (.tmp 123) = .int .i64 (k : Int) := (hρ 123).trans (hp 3 (by decide))
                        have hx := hR.drew_ext
                        have i0 : (0 : Int) ≤ (k : Int) := by omega
                        have i1 : (k : Int) < (cl.length : Int) := by omega
                        have HR := Lib.hid hR
                        have HN := Lib.hid hN
                        clear hR hN hp hρ hx
                        go_light
                        go_simp
                        exact ⟨γ, LR.refl _ _, fun _ _ _ h => h, rfl⟩
                      · refine LinStep.yes fun vals γ w' ρ hR hN hp hρ hc hf hg => ⟨rfl, ?_⟩
                        have e124 : ρ (.tmp 124) = .pointer (some ⟨b, o + k, none⟩) := (hρ 124).trans (hp 4 (by decide))
                        have hx := hR.drew_ext
                        have p1 := hx.cell QF.out
                        have HR := Lib.hid hR
                        have HN := Lib.hid hN
                        clear hR hN hp hρ hx
                        go_light
                        go_simp
                        exact ⟨γ, LR.refl _ _, fun _ _ _ h => h, rfl⟩
                      · refine LinStep.yes fun vals γ w' ρ hR hN hp hρ hc hf hg => ⟨rfl, ?_⟩
                        have e121 : ρ (.tmp 121) = .slice C1 one.frm.length c1 := (hρ 121).trans (hp 1 (by decide))
                        have e125 : ρ (.tmp 125) = .string s := (hρ 125).trans (hp 5 (by decide))
                        have hx := hR.drew_ext
                        have HR := Lib.hid hR
                        have HN := Lib.hid hN
                        clear hR hN hp hρ hx
                        go_light
                        go_simp
                        exact ⟨γ, LR.refl _ _, fun _ _ _ h => h, rfl⟩
                      · refine LinStep.yes fun vals γ w' ρ hR hN hp hρ hc hf hg => ⟨rfl, ?_⟩
                        have hx := hR.drew_ext
                        have HR := Lib.hid hR
                        have HN := Lib.hid hN
                        clear hR hN hp hρ hx
                        go_light
                        go_simp
                        exact ⟨γ.put 7 (some w'.heap.size), LR.new (HN.out.2 ⟨8, rfl⟩) _ _, LN.made, VarAt.new HR.out.inb0 rfl⟩
                      · refine LinStep.yes fun vals γ w' ρ hR hN hp hρ hc hf hg => ⟨rfl, ?_⟩
                        have e126 : ρ (.tmp 126) = .agg #[.slice C1 one.frm.length c1, .string s] := (hρ 126).trans (hp 6 (by decide))
                        obtain ⟨g, hv, ⟨x0, x1, k0, k1⟩, kf, kz, hk, hst⟩ := VarAt.store2 (hp 7 (by decide)) (s := 8) (al := al1 8 7) rfl hN
                        have e22 : ρ (.tmp 22) = _ := (hρ 22).trans hv
                        have HST := Lib.hid hst
                        have HK := Lib.hid hk
                        clear hv hst hk
                        have hx := hR.drew_ext
                        have HR := Lib.hid hR
                        have HN := Lib.hid hN
                        clear hR hN hp hρ hx
                        go_light
                        go_simp
                        exact ⟨γ.put 7 none, (HST.out _ _).1, LN.stored al1_inj rfl HK.out, (HST.out _ _).2⟩
                      · intro vals γ w' hR hG
                        obtain ⟨gx, hv, hbx, -⟩ := hG 8 (by decide)
                        have HX9 := Lib.hid hR.drew_ext
                        have HBX := Lib.hid hbx
                        clear hR hG hbx
                        simp only [lexFrame, Act.put, List.setIfInBounds_toArray, List.set_cons_succ, List.set_cons_zero, Nat.zero_add, Nat.reduceAdd, hv]
                        clear hv
                        go_upto_region 33 with fail
                        have HXX := HX9
                        have QF0 := QF
                        have HGT2 := HGT
                        have HRL2 := HRL
                        have QF := Lib.hid (HXX.out.cell QF0.out)
                        have HGT := Lib.hid (HGT2.out.keep (HXX.out.kept _))
                        have HRL := Lib.hid (HRL2.out.keep (HXX.out.kept _))
                        have HOSx := Lib.hid (HOS5.out.keep (HXX.out.kept _))
                        have HSEx := Lib.hid (HSE.out.keep (HXX.out.kept _))
                        have HMEM := Lib.hid (show memB ns s = true from (memB_iff ns s).2 ((HALL.out s).2 (by rw [HCL2.out]; exact mem_sortS.2 (HKS.out.grow HKS2.out (fun d hd => by rw [HG2.out] at hd; exact (List.mem_filter.1 hd).1) s (mem_sortS.1 (by rw [← HCL.out, HSS.out]; exact List.getElem_mem hlt))))))
                        clear HX9 QF0 HGT1 HGD1 HRL1 HGT2 HRL2
                        cases th
                        · skip
                          refine wp_region_lin_lit (by kernel_rfl) (fun i => [i]) (by kernel_rfl) LR LR.refl LR.trans (LN (al0)) (gI33a gt gx w8.heap.size t At ct Bt et one C1 c1 cl b o c6 k s) (gI33a_st _ _ _ _ _ _ _ _ _ _ _ _ _ _ _ _ _) gh0 (LN.zero _) ⟨?_, ?_, ?_, ?_, ?_, ?_, ?_, ?_, ?_, ?_, ?_, ?_, ?_, ?_, ?_, ?_, ?_, ?_, ?_, ?_, ?_, ?_, ?_, ?_, ?_, ?_, ?_, ?_, ?_, ?_, trivial⟩ ?_
                          · refine LinStep.yes fun vals γ w' ρ hR hN hp hρ hc hf hg => ⟨rfl, ?_⟩
                            have e16 : ρ (.tmp 16) = .bool false := hρ 16
                            have hx := hR.drew_ext
                            have HR := Lib.hid hR
                            have HN := Lib.hid hN
                            clear hR hN hp hρ hx
                            go_light
                            go_simp
                            exact ⟨γ, LR.refl _ _, fun _ _ _ h => h, rfl⟩
                          · refine LinStep.yes fun vals γ w' ρ hR hN hp hρ hc hf hg => ⟨rfl, ?_⟩
                            have e127 : ρ (.tmp 127) = .bool false := (hρ 127).trans (hp 0 (by decide))
                            have hx := hR.drew_ext
                            have HR := Lib.hid hR
                            have HN := Lib.hid hN
                            clear hR hN hp hρ hx
                            go_light
                            go_simp
                            exact ⟨γ, LR.refl _ _, fun _ _ _ h => h, rfl⟩
                          · refine LinStep.no fun vals γ w' hp => ⟨by show (boolOf (vals 1) == some true) = false; rw [show vals 1 = .bool false from hp 1 (by decide)]; rfl, rfl⟩
                          · refine LinStep.no fun vals γ w' hp => ⟨by show (boolOf (vals 1) == some true) = false; rw [show vals 1 = .bool false from hp 1 (by decide)]; rfl, rfl⟩
                          · refine LinStep.no fun vals γ w' hp => ⟨by show (boolOf (vals 1) == some true) = false; rw [show vals 1 = .bool false from hp 1 (by decide)]; rfl, rfl⟩
                          · refine LinStep.no fun vals γ w' hp => ⟨by show (boolOf (vals 1) == some true) = false; rw [show vals 1 = .bool false from hp 1 (by decide)]; rfl, rfl⟩
                          · refine LinStep.no fun vals γ w' hp => ⟨by show (boolOf (vals 1) == some true) = false; rw [show vals 1 = .bool false from hp 1 (by decide)]; rfl, rfl⟩
                          · refine LinStep.no fun vals γ w' hp => ⟨by show (boolOf (vals 1) == some true) = false; rw [show vals 1 = .bool false from hp 1 (by decide)]; rfl, rfl⟩
                          · refine LinStep.no fun vals γ w' hp => ⟨by show (boolOf (vals 1) == some true) = false; rw [show vals 1 = .bool false from hp 1 (by decide)]; rfl, rfl⟩
                          · refine LinStep.no fun vals γ w' hp => ⟨by show (boolOf (vals 1) == some true) = false; rw [show vals 1 = .bool false from hp 1 (by decide)]; rfl, rfl⟩
                          · refine LinStep.no fun vals γ w' hp => ⟨by show (boolOf (vals 1) == some true) = false; rw [show vals 1 = .bool false from hp 1 (by decide)]; rfl, rfl⟩
                          · refine LinStep.yes fun vals γ w' ρ hR hN hp hρ hc hf hg => ⟨rfl, ?_⟩
                            have e128 : ρ (.tmp 128) = .bool false := (hρ 128).trans (hp 1 (by decide))
                            have hx := hR.drew_ext
                            have HR := Lib.hid hR
                            have HN := Lib.hid hN
                            clear hR hN hp hρ hx
                            go_light
                            go_simp
                            exact ⟨γ, LR.refl _ _, fun _ _ _ h => h, rfl⟩
                          · refine LinStep.yes fun vals γ w' ρ hR hN hp hρ hc hf hg => ⟨rfl, ?_⟩
                            have e138 : ρ (.tmp 138) = .bool false := (hρ 138).trans (hp 11 (by decide))
                            have hx := hR.drew_ext
                            have HR := Lib.hid hR
                            have HN := Lib.hid hN
                            clear hR hN hp hρ hx
                            go_light
                            go_simp
                            exact ⟨γ, LR.refl _ _, fun _ _ _ h => h, rfl⟩
                          · refine LinStep.no fun vals γ w' hp => ⟨by show (boolOf (vals 12) == some true) = false; rw [show vals 12 = .bool false from hp 12 (by decide)]; rfl, rfl⟩
                          · refine LinStep.no fun vals γ w' hp => ⟨by show (boolOf (vals 12) == some true) = false; rw [show vals 12 = .bool false from hp 12 (by decide)]; rfl, rfl⟩
                          · refine LinStep.no fun vals γ w' hp => ⟨by show (boolOf (vals 12) == some true) = false; rw [show vals 12 = .bool false from hp 12 (by decide)]; rfl, rfl⟩
                          · refine LinStep.no fun vals γ w' hp => ⟨by show (boolOf (vals 12) == some true) = false; rw [show vals 12 = .bool false from hp 12 (by decide)]; rfl, rfl⟩
                          · refine LinStep.no fun vals γ w' hp => ⟨by show (boolOf (vals 12) == some true) = false; rw [show vals 12 = .bool false from hp 12 (by decide)]; rfl, rfl⟩
                          · refine LinStep.no fun vals γ w' hp => ⟨by show (boolOf (vals 12) == some true) = false; rw [show vals 12 = .bool false from hp 12 (by decide)]; rfl, rfl⟩
                          · refine LinStep.no fun vals γ w' hp => ⟨by show (boolOf (vals 12) == some true) = false; rw [show vals 12 = .bool false from hp 12 (by decide)]; rfl, rfl⟩
                          · refine LinStep.yes fun vals γ w' ρ hR hN hp hρ hc hf hg => ⟨rfl, ?_⟩
                            have e139 : ρ (.tmp 139) = .bool false := (hρ 139).trans (hp 12 (by decide))
                            have hx := hR.drew_ext
                            have HR := Lib.hid hR
                            have HN := Lib.hid hN
                            clear hR hN hp hρ hx
                            go_light
                            go_simp
                            exact ⟨γ, LR.refl _ _, fun _ _ _ h => h, rfl⟩
                          · refine LinStep.yes fun vals γ w' ρ hR hN hp hρ hc hf hg => ⟨rfl, ?_⟩
                            have e147 : ρ (.tmp 147) = .bool false := (hρ 147).trans (hp 20 (by decide))
                            have hx := hR.drew_ext
                            have HR := Lib.hid hR
                            have HN := Lib.hid hN
                            clear hR hN hp hρ hx
                            go_light
                            go_simp
                            exact ⟨γ, LR.refl _ _, fun _ _ _ h => h, rfl⟩
                          · refine LinStep.yes fun vals γ w' ρ hR hN hp hρ hc hf hg => ⟨by show (boolOf (vals 21) == some false) = true; rw [show vals 21 = .bool false from hp 21 (by decide)]; rfl, ?_⟩
                            have e18 : ρ (.tmp 18) = .map (some w8.heap.size) := hρ 18
                            have hx := hR.drew_ext
                            have HR := Lib.hid hR
                            have HN := Lib.hid hN
                            clear hR hN hp hρ hx
                            go_light
                            go_simp
                            exact ⟨γ, LR.refl _ _, fun _ _ _ h => h, rfl⟩
                          · refine LinStep.yes fun vals γ w' ρ hR hN hp hρ hc hf hg => ⟨by show (boolOf (vals 21) == some false) = true; rw [show vals 21 = .bool false from hp 21 (by decide)]; rfl, ?_⟩
                            have e13 : ρ (.tmp 13) = .slice (some ⟨b, o, none⟩) cl.length c6 := hρ 13
                            have hx := hR.drew_ext
                            have HR := Lib.hid hR
                            have HN := Lib.hid hN
                            clear hR hN hp hρ hx
                            go_light
                            go_simp
                            exact ⟨γ, LR.refl _ _, fun _ _ _ h => h, rfl⟩
                          · refine LinStep.yes fun vals γ w' ρ hR hN hp hρ hc hf hg => ⟨by show (boolOf (vals 21) == some false) = true; rw [show vals 21 = .bool false from hp 21 (by decide)]; rfl, ?_⟩
                            have e21 : ρ (.tmp 21) = .int .i64 (k : Int) := hρ 21
                            have hx := hR.drew_ext
                            have HR := Lib.hid hR
                            have HN := Lib.hid hN
                            clear hR hN hp hρ hx
                            go_light
                            go_simp
                            exact ⟨γ, LR.refl _ _, fun _ _ _ h => h, rfl⟩
                          · refine LinStep.yes fun vals γ w' ρ hR hN hp hρ hc hf hg => ⟨by show (boolOf (vals 21) == some false) = true; rw [show vals 21 = .bool false from hp 21 (by decide)]; rfl, ?_⟩
                            have e150 : ρ (.tmp 150) = .slice (some ⟨b, o, none⟩) cl.length c6 := (hρ 150).trans (hp 23 (by decide))
                            have e151 : ρ (.tmp 151) = .int .i64 (k : Int) := (hρ 151).trans (hp 24 (by decide))
                            have hx := hR.drew_ext
                            have i0 : (0 : Int) ≤ (k : Int) := by omega
                            have i1 : (k : Int) < (cl.length : Int) := by omega
                            have HR := Lib.hid hR
                            have HN := Lib.hid hN
                            clear hR hN hp hρ hx
                            go_light
                            go_simp
                            exact ⟨γ, LR.refl _ _, fun _ _ _ h => h, rfl⟩
                          · refine LinStep.yes fun vals γ w' ρ hR hN hp hρ hc hf hg => ⟨by show (boolOf (vals 21) == some false) = true; rw [show vals 21 = .bool false from hp 21 (by decide)]; rfl, ?_⟩
                            have e152 : ρ (.tmp 152) = .pointer (some ⟨b, o + k, none⟩) := (hρ 152).trans (hp 25 (by decide))
                            have hx := hR.drew_ext
                            have p1 := hx.cell QF.out
                            have HR := Lib.hid hR
                            have HN := Lib.hid hN
                            clear hR hN hp hρ hx
                            go_light
                            go_simp
                            exact ⟨γ, LR.refl _ _, fun _ _ _ h => h, rfl⟩
                          · refine LinStep.yes fun vals γ w' ρ hR hN hp hρ hc hf hg => ⟨by show (boolOf (vals 21) == some false) = true; rw [show vals 21 = .bool false from hp 21 (by decide)]; rfl, ?_⟩
                            have e149 : ρ (.tmp 149) = .map (some w8.heap.size) := (hρ 149).trans (hp 22 (by decide))
                            have e153 : ρ (.tmp 153) = .string s := (hρ 153).trans (hp 26 (by decide))
                            have hx := hR.drew_ext
                            have hget := (HSEx.out.keep (hx.kept _)).get s
                            rw [HMEM.out] at hget
                            have HR := Lib.hid hR
                            have HN := Lib.hid hN
                            clear hR hN hp hρ hx
                            go_light
                            go_simp
                            exact ⟨γ, LR.refl _ _, fun _ _ _ h => h, rfl⟩
                          · refine LinStep.yes fun vals γ w' ρ hR hN hp hρ hc hf hg => ⟨by show (boolOf (vals 21) == some false) = true; rw [show vals 21 = .bool false from hp 21 (by decide)]; rfl, ?_⟩
                            have e154 : ρ (.tmp 154) = .bool true := (hρ 154).trans (hp 27 (by decide))
                            have hx := hR.drew_ext
                            have HR := Lib.hid hR
                            have HN := Lib.hid hN
                            clear hR hN hp hρ hx
                            go_light
                            go_simp
                            exact ⟨γ, LR.refl _ _, fun _ _ _ h => h, rfl⟩
                          · refine LinStep.yes fun vals γ w' ρ hR hN hp hρ hc hf hg => ⟨rfl, ?_⟩
                            have e148 : ρ (.tmp 148) = .bool false := (hρ 148).trans (hp 21 (by decide))
                            have e155 : ρ (.tmp 155) = .bool false := (hρ 155).trans (hp 28 (by decide))
                            have hx := hR.drew_ext
                            have HR := Lib.hid hR
                            have HN := Lib.hid hN
                            clear hR hN hp hρ hx
                            go_light
                            go_simp
                            exact ⟨γ, LR.refl _ _, fun _ _ _ h => h, rfl⟩
                          · intro vals γ w9 hR hG
                            have h29 : vals 29 = .bool false := hG 29 (by decide)
                            have HX9 := Lib.hid hR.drew_ext
                            clear hR hG
                            simp only [lexFrame, Act.put, List.setIfInBounds_toArray, List.set_cons_succ, List.set_cons_zero, Nat.zero_add, Nat.reduceAdd, h29]
                            clear h29
                            go_wp2
                            go_roundw
                            case rel => exact ⟨k + 1, by omega, by go_num, (HE8.out.trans HXX.out).trans HX9.out, HSEx.out.keep (HX9.out.kept _)⟩
                            case measure => simp [intOf]; omega
                        · have hfr : ∀ x ∈ one.frm, x ∈ t.cols := fun x hx => (memS_iff t.cols x).1 (List.all_eq_true.1 HTF.out.symm x hx)
                          have HIMP := Lib.hid (holds_implied (HMT.out.reg) (fun d hd => by rw [HG2.out] at hd; exact (List.mem_filter.1 hd).2) hfr HKS.out (x := s) (mem_sortS.1 (by rw [← HCL.out, HSS.out]; exact List.getElem_mem hlt)))
                          clear hfr
                          cases hmb : memS t.cols s
                          · have HCOL := Lib.hid (show colS t.cols s = [] by unfold colS; rw [hmb]; rfl)
                            clear hmb
                            refine wp_region_lin_lit (by kernel_rfl) (fun i => [i]) (by kernel_rfl) LR LR.refl LR.trans (LN (al0)) (gI33b gt gx w8.heap.size t At ct Bt et one C1 c1 cl b o c6 k s) (gI33b_st _ _ _ _ _ _ _ _ _ _ _ _ _ _ _ _ _) gh0 (LN.zero _) ⟨?_, ?_, ?_, ?_, ?_, ?_, ?_, ?_, ?_, ?_, ?_, ?_, ?_, ?_, ?_, ?_, ?_, ?_, ?_, ?_, ?_, ?_, ?_, ?_, ?_, ?_, ?_, ?_, ?_, ?_, trivial⟩ ?_
                            · refine LinStep.yes fun vals γ w' ρ hR hN hp hρ hc hf hg => ⟨rfl, ?_⟩
                              have e16 : ρ (.tmp 16) = .bool true := hρ 16
                              have hx := hR.drew_ext
                              have HR := Lib.hid hR
                              have HN := Lib.hid hN
                              clear hR hN hp hρ hx
                              go_light
                              go_simp
                              exact ⟨γ, LR.refl _ _, fun _ _ _ h => h, rfl⟩
                            · refine LinStep.yes fun vals γ w' ρ hR hN hp hρ hc hf hg => ⟨rfl, ?_⟩
                              have e127 : ρ (.tmp 127) = .bool true := (hρ 127).trans (hp 0 (by decide))
                              have hx := hR.drew_ext
                              have HR := Lib.hid hR
                              have HN := Lib.hid hN
                              clear hR hN hp hρ hx
                              go_light
                              go_simp
                              exact ⟨γ, LR.refl _ _, fun _ _ _ h => h, rfl⟩
                            · refine LinStep.yes fun vals γ w' ρ hR hN hp hρ hc hf hg => ⟨by show (boolOf (vals 1) == some true) = true; rw [show vals 1 = .bool true from hp 1 (by decide)]; rfl, ?_⟩
                              have e8 : ρ (.tmp 8) = .pointer (some ⟨gt, 0, none⟩) := hρ 8
                              have hx := hR.drew_ext
                              have HR := Lib.hid hR
                              have HN := Lib.hid hN
                              clear hR hN hp hρ hx
                              go_light
                              go_simp
                              exact ⟨γ, LR.refl _ _, fun _ _ _ h => h, rfl⟩
                            · refine LinStep.yes fun vals γ w' ρ hR hN hp hρ hc hf hg => ⟨by show (boolOf (vals 1) == some true) = true; rw [show vals 1 = .bool true from hp 1 (by decide)]; rfl, ?_⟩
                              have e129 : ρ (.tmp 129) = .pointer (some ⟨gt, 1, none⟩) := (hρ 129).trans (hp 2 (by decide))
                              have hx := hR.drew_ext
                              have c1 := (HGT.out.keep (hx.kept _)).cell (i := 1) rfl
                              have HR := Lib.hid hR
                              have HN := Lib.hid hN
                              clear hR hN hp hρ hx
                              go_light
                              go_simp
                              exact ⟨γ, LR.refl _ _, fun _ _ _ h => h, rfl⟩
                            · refine LinStep.yes fun vals γ w' ρ hR hN hp hρ hc hf hg => ⟨by show (boolOf (vals 1) == some true) = true; rw [show vals 1 = .bool true from hp 1 (by decide)]; rfl, ?_⟩
                              have e13 : ρ (.tmp 13) = .slice (some ⟨b, o, none⟩) cl.length c6 := hρ 13
                              have hx := hR.drew_ext
                              have HR := Lib.hid hR
                              have HN := Lib.hid hN
                              clear hR hN hp hρ hx
                              go_light
                              go_simp
                              exact ⟨γ, LR.refl _ _, fun _ _ _ h => h, rfl⟩
                            · refine LinStep.yes fun vals γ w' ρ hR hN hp hρ hc hf hg => ⟨by show (boolOf (vals 1) == some true) = true; rw [show vals 1 = .bool true from hp 1 (by decide)]; rfl, ?_⟩
                              have e21 : ρ (.tmp 21) = .int .i64 (k : Int) := hρ 21
                              have hx := hR.drew_ext
                              have HR := Lib.hid hR
                              have HN := Lib.hid hN
                              clear hR hN hp hρ hx
                              go_light
                              go_simp
                              exact ⟨γ, LR.refl _ _, fun _ _ _ h => h, rfl⟩
                            · refine LinStep.yes fun vals γ w' ρ hR hN hp hρ hc hf hg => ⟨by show (boolOf (vals 1) == some true) = true; rw [show vals 1 = .bool true from hp 1 (by decide)]; rfl, ?_⟩
                              have e131 : ρ (.tmp 131) = .slice (some ⟨b, o, none⟩) cl.length c6 := (hρ 131).trans (hp 4 (by decide))
                              have e132 : ρ (.tmp 132) = .int .i64 (k : Int) := (hρ 132).trans (hp 5 (by decide))
                              have hx := hR.drew_ext
                              have i0 : (0 : Int) ≤ (k : Int) := by omega
                              have i1 : (k : Int) < (cl.length : Int) := by omega
                              have HR := Lib.hid hR
                              have HN := Lib.hid hN
                              clear hR hN hp hρ hx
                              go_light
                              go_simp
                              exact ⟨γ, LR.refl _ _, fun _ _ _ h => h, rfl⟩
                            · refine LinStep.yes fun vals γ w' ρ hR hN hp hρ hc hf hg => ⟨by show (boolOf (vals 1) == some true) = true; rw [show vals 1 = .bool true from hp 1 (by decide)]; rfl, ?_⟩
                              have e133 : ρ (.tmp 133) = .pointer (some ⟨b, o + k, none⟩) := (hρ 133).trans (hp 6 (by decide))
                              have hx := hR.drew_ext
                              have p1 := hx.cell QF.out
                              have HR := Lib.hid hR
                              have HN := Lib.hid hN
                              clear hR hN hp hρ hx
                              go_light
                              go_simp
                              exact ⟨γ, LR.refl _ _, fun _ _ _ h => h, rfl⟩
                            · refine LinStep.yes fun vals γ w' ρ hR hN hp hρ hc hf hg => ⟨by show (boolOf (vals 1) == some true) = true; rw [show vals 1 = .bool true from hp 1 (by decide)]; rfl, ?_⟩
                              have e130 : ρ (.tmp 130) = .slice At t.cols.length ct := (hρ 130).trans (hp 3 (by decide))
                              have e134 : ρ (.tmp 134) = .string s := (hρ 134).trans (hp 7 (by decide))
                              have hx := hR.drew_ext
                              have HR := Lib.hid hR
                              have HN := Lib.hid hN
                              clear hR hN hp hρ hx
                              go_light
                              go_simp
                              refine (law_column At ct t.cols s _ _ ((HRL.out.keep (HR.out.drew_ext.kept _)).2.1) HSZ.out).mono ?_
                              rintro e' w3 ⟨A3, c3, he, hc3, hs3, hx3⟩
                              exact ⟨_, he, γ, LR.of_ext γ hx3, fun _ _ _ h => h, A3, c3, rfl⟩
                            · refine LinStep.yes fun vals γ w' ρ hR hN hp hρ hc hf hg => ⟨by show (boolOf (vals 1) == some true) = true; rw [show vals 1 = .bool true from hp 1 (by decide)]; rfl, ?_⟩
                              obtain ⟨A3, c3, hv8⟩ := hp 8 (by decide)
                              have e135 : ρ (.tmp 135) = _ := (hρ 135).trans hv8
                              rw [HCOL.out] at e135
                              clear hv8
                              have hx := hR.drew_ext
                              have HR := Lib.hid hR
                              have HN := Lib.hid hN
                              clear hR hN hp hρ hx
                              go_light
                              go_simp
                              exact ⟨γ, LR.refl _ _, fun _ _ _ h => h, rfl⟩
                            · refine LinStep.yes fun vals γ w' ρ hR hN hp hρ hc hf hg => ⟨by show (boolOf (vals 1) == some true) = true; rw [show vals 1 = .bool true from hp 1 (by decide)]; rfl, ?_⟩
                              have e136 : ρ (.tmp 136) = .int .i64 0 := (hρ 136).trans (hp 9 (by decide))
                              have hx := hR.drew_ext
                              have HR := Lib.hid hR
                              have HN := Lib.hid hN
                              clear hR hN hp hρ hx
                              go_light
                              go_simp
                              exact ⟨γ, LR.refl _ _, fun _ _ _ h => h, rfl⟩
                            · refine LinStep.yes fun vals γ w' ρ hR hN hp hρ hc hf hg => ⟨rfl, ?_⟩
                              have e128 : ρ (.tmp 128) = .bool true := (hρ 128).trans (hp 1 (by decide))
                              have e137 : ρ (.tmp 137) = .bool false := (hρ 137).trans (hp 10 (by decide))
                              have hx := hR.drew_ext
                              have HR := Lib.hid hR
                              have HN := Lib.hid hN
                              clear hR hN hp hρ hx
                              go_light
                              go_simp
                              exact ⟨γ, LR.refl _ _, fun _ _ _ h => h, rfl⟩
                            · refine LinStep.yes fun vals γ w' ρ hR hN hp hρ hc hf hg => ⟨rfl, ?_⟩
                              have e138 : ρ (.tmp 138) = .bool false := (hρ 138).trans (hp 11 (by decide))
                              have hx := hR.drew_ext
                              have HR := Lib.hid hR
                              have HN := Lib.hid hN
                              clear hR hN hp hρ hx
                              go_light
                              go_simp
                              exact ⟨γ, LR.refl _ _, fun _ _ _ h => h, rfl⟩
                            · refine LinStep.no fun vals γ w' hp => ⟨by show (boolOf (vals 12) == some true) = false; rw [show vals 12 = .bool false from hp 12 (by decide)]; rfl, rfl⟩
                            · refine LinStep.no fun vals γ w' hp => ⟨by show (boolOf (vals 12) == some true) = false; rw [show vals 12 = .bool false from hp 12 (by decide)]; rfl, rfl⟩
                            · refine LinStep.no fun vals γ w' hp => ⟨by show (boolOf (vals 12) == some true) = false; rw [show vals 12 = .bool false from hp 12 (by decide)]; rfl, rfl⟩
                            · refine LinStep.no fun vals γ w' hp => ⟨by show (boolOf (vals 12) == some true) = false; rw [show vals 12 = .bool false from hp 12 (by decide)]; rfl, rfl⟩
                            · refine LinStep.no fun vals γ w' hp => ⟨by show (boolOf (vals 12) == some true) = false; rw [show vals 12 = .bool false from hp 12 (by decide)]; rfl, rfl⟩
                            · refine LinStep.no fun vals γ w' hp => ⟨by show (boolOf (vals 12) == some true) = false; rw [show vals 12 = .bool false from hp 12 (by decide)]; rfl, rfl⟩
                            · refine LinStep.no fun vals γ w' hp => ⟨by show (boolOf (vals 12) == some true) = false; rw [show vals 12 = .bool false from hp 12 (by decide)]; rfl, rfl⟩
                            · refine LinStep.yes fun vals γ w' ρ hR hN hp hρ hc hf hg => ⟨rfl, ?_⟩
                              have e139 : ρ (.tmp 139) = .bool false := (hρ 139).trans (hp 12 (by decide))
                              have hx := hR.drew_ext
                              have HR := Lib.hid hR
                              have HN := Lib.hid hN
                              clear hR hN hp hρ hx
                              go_light
                              go_simp
                              exact ⟨γ, LR.refl _ _, fun _ _ _ h => h, rfl⟩
                            · refine LinStep.yes fun vals γ w' ρ hR hN hp hρ hc hf hg => ⟨rfl, ?_⟩
                              have e147 : ρ (.tmp 147) = .bool false := (hρ 147).trans (hp 20 (by decide))
                              have hx := hR.drew_ext
                              have HR := Lib.hid hR
                              have HN := Lib.hid hN
                              clear hR hN hp hρ hx
                              go_light
                              go_simp
                              exact ⟨γ, LR.refl _ _, fun _ _ _ h => h, rfl⟩
                            · refine LinStep.yes fun vals γ w' ρ hR hN hp hρ hc hf hg => ⟨by show (boolOf (vals 21) == some false) = true; rw [show vals 21 = .bool false from hp 21 (by decide)]; rfl, ?_⟩
                              have e18 : ρ (.tmp 18) = .map (some w8.heap.size) := hρ 18
                              have hx := hR.drew_ext
                              have HR := Lib.hid hR
                              have HN := Lib.hid hN
                              clear hR hN hp hρ hx
                              go_light
                              go_simp
                              exact ⟨γ, LR.refl _ _, fun _ _ _ h => h, rfl⟩
                            · refine LinStep.yes fun vals γ w' ρ hR hN hp hρ hc hf hg => ⟨by show (boolOf (vals 21) == some false) = true; rw [show vals 21 = .bool false from hp 21 (by decide)]; rfl, ?_⟩
                              have e13 : ρ (.tmp 13) = .slice (some ⟨b, o, none⟩) cl.length c6 := hρ 13
                              have hx := hR.drew_ext
                              have HR := Lib.hid hR
                              have HN := Lib.hid hN
                              clear hR hN hp hρ hx
                              go_light
                              go_simp
                              exact ⟨γ, LR.refl _ _, fun _ _ _ h => h, rfl⟩
                            · refine LinStep.yes fun vals γ w' ρ hR hN hp hρ hc hf hg => ⟨by show (boolOf (vals 21) == some false) = true; rw [show vals 21 = .bool false from hp 21 (by decide)]; rfl, ?_⟩
                              have e21 : ρ (.tmp 21) = .int .i64 (k : Int) := hρ 21
                              have hx := hR.drew_ext
                              have HR := Lib.hid hR
                              have HN := Lib.hid hN
                              clear hR hN hp hρ hx
                              go_light
                              go_simp
                              exact ⟨γ, LR.refl _ _, fun _ _ _ h => h, rfl⟩
                            · refine LinStep.yes fun vals γ w' ρ hR hN hp hρ hc hf hg => ⟨by show (boolOf (vals 21) == some false) = true; rw [show vals 21 = .bool false from hp 21 (by decide)]; rfl, ?_⟩
                              have e150 : ρ (.tmp 150) = .slice (some ⟨b, o, none⟩) cl.length c6 := (hρ 150).trans (hp 23 (by decide))
                              have e151 : ρ (.tmp 151) = .int .i64 (k : Int) := (hρ 151).trans (hp 24 (by decide))
                              have hx := hR.drew_ext
                              have i0 : (0 : Int) ≤ (k : Int) := by omega
                              have i1 : (k : Int) < (cl.length : Int) := by omega
                              have HR := Lib.hid hR
                              have HN := Lib.hid hN
                              clear hR hN hp hρ hx
                              go_light
                              go_simp
                              exact ⟨γ, LR.refl _ _, fun _ _ _ h => h, rfl⟩
                            · refine LinStep.yes fun vals γ w' ρ hR hN hp hρ hc hf hg => ⟨by show (boolOf (vals 21) == some false) = true; rw [show vals 21 = .bool false from hp 21 (by decide)]; rfl, ?_⟩
                              have e152 : ρ (.tmp 152) = .pointer (some ⟨b, o + k, none⟩) := (hρ 152).trans (hp 25 (by decide))
                              have hx := hR.drew_ext
                              have p1 := hx.cell QF.out
                              have HR := Lib.hid hR
                              have HN := Lib.hid hN
                              clear hR hN hp hρ hx
                              go_light
                              go_simp
                              exact ⟨γ, LR.refl _ _, fun _ _ _ h => h, rfl⟩
                            · refine LinStep.yes fun vals γ w' ρ hR hN hp hρ hc hf hg => ⟨by show (boolOf (vals 21) == some false) = true; rw [show vals 21 = .bool false from hp 21 (by decide)]; rfl, ?_⟩
                              have e149 : ρ (.tmp 149) = .map (some w8.heap.size) := (hρ 149).trans (hp 22 (by decide))
                              have e153 : ρ (.tmp 153) = .string s := (hρ 153).trans (hp 26 (by decide))
                              have hx := hR.drew_ext
                              have hget := (HSEx.out.keep (hx.kept _)).get s
                              rw [HMEM.out] at hget
                              have HR := Lib.hid hR
                              have HN := Lib.hid hN
                              clear hR hN hp hρ hx
                              go_light
                              go_simp
                              exact ⟨γ, LR.refl _ _, fun _ _ _ h => h, rfl⟩
                            · refine LinStep.yes fun vals γ w' ρ hR hN hp hρ hc hf hg => ⟨by show (boolOf (vals 21) == some false) = true; rw [show vals 21 = .bool false from hp 21 (by decide)]; rfl, ?_⟩
                              have e154 : ρ (.tmp 154) = .bool true := (hρ 154).trans (hp 27 (by decide))
                              have hx := hR.drew_ext
                              have HR := Lib.hid hR
                              have HN := Lib.hid hN
                              clear hR hN hp hρ hx
                              go_light
                              go_simp
                              exact ⟨γ, LR.refl _ _, fun _ _ _ h => h, rfl⟩
                            · refine LinStep.yes fun vals γ w' ρ hR hN hp hρ hc hf hg => ⟨rfl, ?_⟩
                              have e148 : ρ (.tmp 148) = .bool false := (hρ 148).trans (hp 21 (by decide))
                              have e155 : ρ (.tmp 155) = .bool false := (hρ 155).trans (hp 28 (by decide))
                              have hx := hR.drew_ext
                              have HR := Lib.hid hR
                              have HN := Lib.hid hN
                              clear hR hN hp hρ hx
                              go_light
                              go_simp
                              exact ⟨γ, LR.refl _ _, fun _ _ _ h => h, rfl⟩
                            · intro vals γ w9 hR hG
                              have h29 : vals 29 = .bool false := hG 29 (by decide)
                              have HX9 := Lib.hid hR.drew_ext
                              clear hR hG
                              simp only [lexFrame, Act.put, List.setIfInBounds_toArray, List.set_cons_succ, List.set_cons_zero, Nat.zero_add, Nat.reduceAdd, h29]
                              clear h29
                              go_wp2
                              go_roundw
                              case rel => exact ⟨k + 1, by omega, by go_num, (HE8.out.trans HXX.out).trans HX9.out, HSEx.out.keep (HX9.out.kept _)⟩
                              case measure => simp [intOf]; omega
                          · have HCOL := Lib.hid (show colS t.cols s = [s] by unfold colS; rw [hmb]; rfl)
                            clear hmb
                            refine wp_region_lin_lit (by kernel_rfl) (fun i => [i]) (by kernel_rfl) LR LR.refl LR.trans (LN (al0)) (gI33c gt gx w8.heap.size t At ct Bt et one C1 c1 cl b o c6 k s) (gI33c_st _ _ _ _ _ _ _ _ _ _ _ _ _ _ _ _ _) gh0 (LN.zero _) ⟨?_, ?_, ?_, ?_, ?_, ?_, ?_, ?_, ?_, ?_, ?_, ?_, ?_, ?_, ?_, ?_, ?_, ?_, ?_, ?_, ?_, ?_, ?_, ?_, ?_, ?_, ?_, ?_, ?_, ?_, trivial⟩ ?_
                            · refine LinStep.yes fun vals γ w' ρ hR hN hp hρ hc hf hg => ⟨rfl, ?_⟩
                              have e16 : ρ (.tmp 16) = .bool true := hρ 16
                              have hx := hR.drew_ext
                              have HR := Lib.hid hR
                              have HN := Lib.hid hN
                              clear hR hN hp hρ hx
                              go_light
                              go_simp
                              exact ⟨γ, LR.refl _ _, fun _ _ _ h => h, rfl⟩
                            · refine LinStep.yes fun vals γ w' ρ hR hN hp hρ hc hf hg => ⟨rfl, ?_⟩
                              have e127 : ρ (.tmp 127) = .bool true := (hρ 127).trans (hp 0 (by decide))
                              have hx := hR.drew_ext
                              have HR := Lib.hid hR
                              have HN := Lib.hid hN
                              clear hR hN hp hρ hx
                              go_light
                              go_simp
                              exact ⟨γ, LR.refl _ _, fun _ _ _ h => h, rfl⟩
                            · refine LinStep.yes fun vals γ w' ρ hR hN hp hρ hc hf hg => ⟨by show (boolOf (vals 1) == some true) = true; rw [show vals 1 = .bool true from hp 1 (by decide)]; rfl, ?_⟩
                              have e8 : ρ (.tmp 8) = .pointer (some ⟨gt, 0, none⟩) := hρ 8
                              have hx := hR.drew_ext
                              have HR := Lib.hid hR
                              have HN := Lib.hid hN
                              clear hR hN hp hρ hx
                              go_light
                              go_simp
                              exact ⟨γ, LR.refl _ _, fun _ _ _ h => h, rfl⟩
                            · refine LinStep.yes fun vals γ w' ρ hR hN hp hρ hc hf hg => ⟨by show (boolOf (vals 1) == some true) = true; rw [show vals 1 = .bool true from hp 1 (by decide)]; rfl, ?_⟩
                              have e129 : ρ (.tmp 129) = .pointer (some ⟨gt, 1, none⟩) := (hρ 129).trans (hp 2 (by decide))
                              have hx := hR.drew_ext
                              have c1 := (HGT.out.keep (hx.kept _)).cell (i := 1) rfl
                              have HR := Lib.hid hR
                              have HN := Lib.hid hN
                              clear hR hN hp hρ hx
                              go_light
                              go_simp
                              exact ⟨γ, LR.refl _ _, fun _ _ _ h => h, rfl⟩
                            · refine LinStep.yes fun vals γ w' ρ hR hN hp hρ hc hf hg => ⟨by show (boolOf (vals 1) == some true) = true; rw [show vals 1 = .bool true from hp 1 (by decide)]; rfl, ?_⟩
                              have e13 : ρ (.tmp 13) = .slice (some ⟨b, o, none⟩) cl.length c6 := hρ 13
                              have hx := hR.drew_ext
                              have HR := Lib.hid hR
                              have HN := Lib.hid hN
                              clear hR hN hp hρ hx
                              go_light
                              go_simp
                              exact ⟨γ, LR.refl _ _, fun _ _ _ h => h, rfl⟩
                            · refine LinStep.yes fun vals γ w' ρ hR hN hp hρ hc hf hg => ⟨by show (boolOf (vals 1) == some true) = true; rw [show vals 1 = .bool true from hp 1 (by decide)]; rfl, ?_⟩
                              have e21 : ρ (.tmp 21) = .int .i64 (k : Int) := hρ 21
                              have hx := hR.drew_ext
                              have HR := Lib.hid hR
                              have HN := Lib.hid hN
                              clear hR hN hp hρ hx
                              go_light
                              go_simp
                              exact ⟨γ, LR.refl _ _, fun _ _ _ h => h, rfl⟩
                            · refine LinStep.yes fun vals γ w' ρ hR hN hp hρ hc hf hg => ⟨by show (boolOf (vals 1) == some true) = true; rw [show vals 1 = .bool true from hp 1 (by decide)]; rfl, ?_⟩
                              have e131 : ρ (.tmp 131) = .slice (some ⟨b, o, none⟩) cl.length c6 := (hρ 131).trans (hp 4 (by decide))
                              have e132 : ρ (.tmp 132) = .int .i64 (k : Int) := (hρ 132).trans (hp 5 (by decide))
                              have hx := hR.drew_ext
                              have i0 : (0 : Int) ≤ (k : Int) := by omega
                              have i1 : (k : Int) < (cl.length : Int) := by omega
                              have HR := Lib.hid hR
                              have HN := Lib.hid hN
                              clear hR hN hp hρ hx
                              go_light
                              go_simp
                              exact ⟨γ, LR.refl _ _, fun _ _ _ h => h, rfl⟩
                            · refine LinStep.yes fun vals γ w' ρ hR hN hp hρ hc hf hg => ⟨by show (boolOf (vals 1) == some true) = true; rw [show vals 1 = .bool true from hp 1 (by decide)]; rfl, ?_⟩
                              have e133 : ρ (.tmp 133) = .pointer (some ⟨b, o + k, none⟩) := (hρ 133).trans (hp 6 (by decide))
                              have hx := hR.drew_ext
                              have p1 := hx.cell QF.out
                              have HR := Lib.hid hR
                              have HN := Lib.hid hN
                              clear hR hN hp hρ hx
                              go_light
                              go_simp
                              exact ⟨γ, LR.refl _ _, fun _ _ _ h => h, rfl⟩
                            · refine LinStep.yes fun vals γ w' ρ hR hN hp hρ hc hf hg => ⟨by show (boolOf (vals 1) == some true) = true; rw [show vals 1 = .bool true from hp 1 (by decide)]; rfl, ?_⟩
                              have e130 : ρ (.tmp 130) = .slice At t.cols.length ct := (hρ 130).trans (hp 3 (by decide))
                              have e134 : ρ (.tmp 134) = .string s := (hρ 134).trans (hp 7 (by decide))
                              have hx := hR.drew_ext
                              have HR := Lib.hid hR
                              have HN := Lib.hid hN
                              clear hR hN hp hρ hx
                              go_light
                              go_simp
                              refine (law_column At ct t.cols s _ _ ((HRL.out.keep (HR.out.drew_ext.kept _)).2.1) HSZ.out).mono ?_
                              rintro e' w3 ⟨A3, c3, he, hc3, hs3, hx3⟩
                              exact ⟨_, he, γ, LR.of_ext γ hx3, fun _ _ _ h => h, A3, c3, rfl⟩
                            · refine LinStep.yes fun vals γ w' ρ hR hN hp hρ hc hf hg => ⟨by show (boolOf (vals 1) == some true) = true; rw [show vals 1 = .bool true from hp 1 (by decide)]; rfl, ?_⟩
                              obtain ⟨A3, c3, hv8⟩ := hp 8 (by decide)
                              have e135 : ρ (.tmp 135) = _ := (hρ 135).trans hv8
                              rw [HCOL.out] at e135
                              clear hv8
                              have hx := hR.drew_ext
                              have HR := Lib.hid hR
                              have HN := Lib.hid hN
                              clear hR hN hp hρ hx
                              go_light
                              go_simp
                              exact ⟨γ, LR.refl _ _, fun _ _ _ h => h, rfl⟩
                            · refine LinStep.yes fun vals γ w' ρ hR hN hp hρ hc hf hg => ⟨by show (boolOf (vals 1) == some true) = true; rw [show vals 1 = .bool true from hp 1 (by decide)]; rfl, ?_⟩
                              have e136 : ρ (.tmp 136) = .int .i64 1 := (hρ 136).trans (hp 9 (by decide))
                              have hx := hR.drew_ext
                              have HR := Lib.hid hR
                              have HN := Lib.hid hN
                              clear hR hN hp hρ hx
                              go_light
                              go_simp
                              exact ⟨γ, LR.refl _ _, fun _ _ _ h => h, rfl⟩
                            · refine LinStep.yes fun vals γ w' ρ hR hN hp hρ hc hf hg => ⟨rfl, ?_⟩
                              have e128 : ρ (.tmp 128) = .bool true := (hρ 128).trans (hp 1 (by decide))
                              have e137 : ρ (.tmp 137) = .bool true := (hρ 137).trans (hp 10 (by decide))
                              have hx := hR.drew_ext
                              have HR := Lib.hid hR
                              have HN := Lib.hid hN
                              clear hR hN hp hρ hx
                              go_light
                              go_simp
                              exact ⟨γ, LR.refl _ _, fun _ _ _ h => h, rfl⟩
                            · refine LinStep.yes fun vals γ w' ρ hR hN hp hρ hc hf hg => ⟨rfl, ?_⟩
                              have e138 : ρ (.tmp 138) = .bool true := (hρ 138).trans (hp 11 (by decide))
                              have hx := hR.drew_ext
                              have HR := Lib.hid hR
                              have HN := Lib.hid hN
                              clear hR hN hp hρ hx
                              go_light
                              go_simp
                              exact ⟨γ, LR.refl _ _, fun _ _ _ h => h, rfl⟩
                            · refine LinStep.yes fun vals γ w' ρ hR hN hp hρ hc hf hg => ⟨by show (boolOf (vals 12) == some true) = true; rw [show vals 12 = .bool true from hp 12 (by decide)]; rfl, ?_⟩
                              have e8 : ρ (.tmp 8) = .pointer (some ⟨gt, 0, none⟩) := hρ 8
                              have hx := hR.drew_ext
                              have HR := Lib.hid hR
                              have HN := Lib.hid hN
                              clear hR hN hp hρ hx
                              go_light
                              go_simp
                              exact ⟨γ, LR.refl _ _, fun _ _ _ h => h, rfl⟩
                            · refine LinStep.yes fun vals γ w' ρ hR hN hp hρ hc hf hg => ⟨by show (boolOf (vals 12) == some true) = true; rw [show vals 12 = .bool true from hp 12 (by decide)]; rfl, ?_⟩
                              have e140 : ρ (.tmp 140) = .pointer (some ⟨gt, 1, none⟩) := (hρ 140).trans (hp 13 (by decide))
                              have hx := hR.drew_ext
                              have c1 := (HGT.out.keep (hx.kept _)).cell (i := 1) rfl
                              have HR := Lib.hid hR
                              have HN := Lib.hid hN
                              clear hR hN hp hρ hx
                              go_light
                              go_simp
                              exact ⟨γ, LR.refl _ _, fun _ _ _ h => h, rfl⟩
                            · refine LinStep.yes fun vals γ w' ρ hR hN hp hρ hc hf hg => ⟨by show (boolOf (vals 12) == some true) = true; rw [show vals 12 = .bool true from hp 12 (by decide)]; rfl, ?_⟩
                              have e8 : ρ (.tmp 8) = .pointer (some ⟨gt, 0, none⟩) := hρ 8
                              have hx := hR.drew_ext
                              have HR := Lib.hid hR
                              have HN := Lib.hid hN
                              clear hR hN hp hρ hx
                              go_light
                              go_simp
                              exact ⟨γ, LR.refl _ _, fun _ _ _ h => h, rfl⟩
                            · refine LinStep.yes fun vals γ w' ρ hR hN hp hρ hc hf hg => ⟨by show (boolOf (vals 12) == some true) = true; rw [show vals 12 = .bool true from hp 12 (by decide)]; rfl, ?_⟩
                              have e142 : ρ (.tmp 142) = .pointer (some ⟨gt, 2, none⟩) := (hρ 142).trans (hp 15 (by decide))
                              have hx := hR.drew_ext
                              have c2 := (HGT.out.keep (hx.kept _)).cell (i := 2) rfl
                              have HR := Lib.hid hR
                              have HN := Lib.hid hN
                              clear hR hN hp hρ hx
                              go_light
                              go_simp
                              exact ⟨γ, LR.refl _ _, fun _ _ _ h => h, rfl⟩
                            · refine LinStep.yes fun vals γ w' ρ hR hN hp hρ hc hf hg => ⟨by show (boolOf (vals 12) == some true) = true; rw [show vals 12 = .bool true from hp 12 (by decide)]; rfl, ?_⟩
                              have e22 : ρ (.tmp 22) = .pointer (some ⟨gx, 0, none⟩) := hρ 22
                              have hx := hR.drew_ext
                              have hbx := HBX.out.keep (hx.kept _)
                              have x0 := hbx.cell (i := 0) rfl
                              have x1 := hbx.cell (i := 1) rfl
                              clear hbx
                              have HR := Lib.hid hR
                              have HN := Lib.hid hN
                              clear hR hN hp hρ hx
                              go_light
                              go_simp
                              exact ⟨γ, LR.refl _ _, fun _ _ _ h => h, rfl⟩
                            · refine LinStep.yes fun vals γ w' ρ hR hN hp hρ hc hf hg => ⟨by show (boolOf (vals 12) == some true) = true; rw [show vals 12 = .bool true from hp 12 (by decide)]; rfl, ?_⟩
                              have e141 : ρ (.tmp 141) = .slice At t.cols.length ct := (hρ 141).trans (hp 14 (by decide))
                              have e143 : ρ (.tmp 143) = .slice Bt t.rows.length et := (hρ 143).trans (hp 16 (by decide))
                              have e144 : ρ (.tmp 144) = .agg #[.slice C1 one.frm.length c1, .string s] := (hρ 144).trans (hp 17 (by decide))
                              have hx := hR.drew_ext
                              have HR := Lib.hid hR
                              have HN := Lib.hid hN
                              clear hR hN hp hρ hx
                              go_light
                              go_simp
                              refine (table_Holds 1 t.cols t.rows one.frm s At Bt C1 ct et c1 _ _ _ _ ((HRL.out.keep (HR.out.drew_ext.kept _)).2.1) ((HRL.out.keep (HR.out.drew_ext.kept _)).2.2) (HOSx.out.keep (HR.out.drew_ext.kept _))).mono ?_
                              rintro e' w3 ⟨he, hx⟩
                              rw [HIMP.out] at he
                              exact ⟨_, he, γ, LR.of_ext γ hx, fun _ _ _ h => h, rfl⟩
                            · refine LinStep.yes fun vals γ w' ρ hR hN hp hρ hc hf hg => ⟨by show (boolOf (vals 12) == some true) = true; rw [show vals 12 = .bool true from hp 12 (by decide)]; rfl, ?_⟩
                              have e145 : ρ (.tmp 145) = .bool true := (hρ 145).trans (hp 18 (by decide))
                              have hx := hR.drew_ext
                              have HR := Lib.hid hR
                              have HN := Lib.hid hN
                              clear hR hN hp hρ hx
                              go_light
                              go_simp
                              exact ⟨γ, LR.refl _ _, fun _ _ _ h => h, rfl⟩
                            · refine LinStep.yes fun vals γ w' ρ hR hN hp hρ hc hf hg => ⟨rfl, ?_⟩
                              have e139 : ρ (.tmp 139) = .bool true := (hρ 139).trans (hp 12 (by decide))
                              have e146 : ρ (.tmp 146) = .bool false := (hρ 146).trans (hp 19 (by decide))
                              have hx := hR.drew_ext
                              have HR := Lib.hid hR
                              have HN := Lib.hid hN
                              clear hR hN hp hρ hx
                              go_light
                              go_simp
                              exact ⟨γ, LR.refl _ _, fun _ _ _ h => h, rfl⟩
                            · refine LinStep.yes fun vals γ w' ρ hR hN hp hρ hc hf hg => ⟨rfl, ?_⟩
                              have e147 : ρ (.tmp 147) = .bool false := (hρ 147).trans (hp 20 (by decide))
                              have hx := hR.drew_ext
                              have HR := Lib.hid hR
                              have HN := Lib.hid hN
                              clear hR hN hp hρ hx
                              go_light
                              go_simp
                              exact ⟨γ, LR.refl _ _, fun _ _ _ h => h, rfl⟩
                            · refine LinStep.yes fun vals γ w' ρ hR hN hp hρ hc hf hg => ⟨by show (boolOf (vals 21) == some false) = true; rw [show vals 21 = .bool false from hp 21 (by decide)]; rfl, ?_⟩
                              have e18 : ρ (.tmp 18) = .map (some w8.heap.size) := hρ 18
                              have hx := hR.drew_ext
                              have HR := Lib.hid hR
                              have HN := Lib.hid hN
                              clear hR hN hp hρ hx
                              go_light
                              go_simp
                              exact ⟨γ, LR.refl _ _, fun _ _ _ h => h, rfl⟩
                            · refine LinStep.yes fun vals γ w' ρ hR hN hp hρ hc hf hg => ⟨by show (boolOf (vals 21) == some false) = true; rw [show vals 21 = .bool false from hp 21 (by decide)]; rfl, ?_⟩
                              have e13 : ρ (.tmp 13) = .slice (some ⟨b, o, none⟩) cl.length c6 := hρ 13
                              have hx := hR.drew_ext
                              have HR := Lib.hid hR
                              have HN := Lib.hid hN
                              clear hR hN hp hρ hx
                              go_light
                              go_simp
                              exact ⟨γ, LR.refl _ _, fun _ _ _ h => h, rfl⟩
                            · refine LinStep.yes fun vals γ w' ρ hR hN hp hρ hc hf hg => ⟨by show (boolOf (vals 21) == some false) = true; rw [show vals 21 = .bool false from hp 21 (by decide)]; rfl, ?_⟩
                              have e21 : ρ (.tmp 21) = .int .i64 (k : Int) := hρ 21
                              have hx := hR.drew_ext
                              have HR := Lib.hid hR
                              have HN := Lib.hid hN
                              clear hR hN hp hρ hx
                              go_light
                              go_simp
                              exact ⟨γ, LR.refl _ _, fun _ _ _ h => h, rfl⟩
                            · refine LinStep.yes fun vals γ w' ρ hR hN hp hρ hc hf hg => ⟨by show (boolOf (vals 21) == some false) = true; rw [show vals 21 = .bool false from hp 21 (by decide)]; rfl, ?_⟩
                              have e150 : ρ (.tmp 150) = .slice (some ⟨b, o, none⟩) cl.length c6 := (hρ 150).trans (hp 23 (by decide))
                              have e151 : ρ (.tmp 151) = .int .i64 (k : Int) := (hρ 151).trans (hp 24 (by decide))
                              have hx := hR.drew_ext
                              have i0 : (0 : Int) ≤ (k : Int) := by omega
                              have i1 : (k : Int) < (cl.length : Int) := by omega
                              have HR := Lib.hid hR
                              have HN := Lib.hid hN
                              clear hR hN hp hρ hx
                              go_light
                              go_simp
                              exact ⟨γ, LR.refl _ _, fun _ _ _ h => h, rfl⟩
                            · refine LinStep.yes fun vals γ w' ρ hR hN hp hρ hc hf hg => ⟨by show (boolOf (vals 21) == some false) = true; rw [show vals 21 = .bool false from hp 21 (by decide)]; rfl, ?_⟩
                              have e152 : ρ (.tmp 152) = .pointer (some ⟨b, o + k, none⟩) := (hρ 152).trans (hp 25 (by decide))
                              have hx := hR.drew_ext
                              have p1 := hx.cell QF.out
                              have HR := Lib.hid hR
                              have HN := Lib.hid hN
                              clear hR hN hp hρ hx
                              go_light
                              go_simp
                              exact ⟨γ, LR.refl _ _, fun _ _ _ h => h, rfl⟩
                            · refine LinStep.yes fun vals γ w' ρ hR hN hp hρ hc hf hg => ⟨by show (boolOf (vals 21) == some false) = true; rw [show vals 21 = .bool false from hp 21 (by decide)]; rfl, ?_⟩
                              have e149 : ρ (.tmp 149) = .map (some w8.heap.size) := (hρ 149).trans (hp 22 (by decide))
                              have e153 : ρ (.tmp 153) = .string s := (hρ 153).trans (hp 26 (by decide))
                              have hx := hR.drew_ext
                              have hget := (HSEx.out.keep (hx.kept _)).get s
                              rw [HMEM.out] at hget
                              have HR := Lib.hid hR
                              have HN := Lib.hid hN
                              clear hR hN hp hρ hx
                              go_light
                              go_simp
                              exact ⟨γ, LR.refl _ _, fun _ _ _ h => h, rfl⟩
                            · refine LinStep.yes fun vals γ w' ρ hR hN hp hρ hc hf hg => ⟨by show (boolOf (vals 21) == some false) = true; rw [show vals 21 = .bool false from hp 21 (by decide)]; rfl, ?_⟩
                              have e154 : ρ (.tmp 154) = .bool true := (hρ 154).trans (hp 27 (by decide))
                              have hx := hR.drew_ext
                              have HR := Lib.hid hR
                              have HN := Lib.hid hN
                              clear hR hN hp hρ hx
                              go_light
                              go_simp
                              exact ⟨γ, LR.refl _ _, fun _ _ _ h => h, rfl⟩
                            · refine LinStep.yes fun vals γ w' ρ hR hN hp hρ hc hf hg => ⟨rfl, ?_⟩
                              have e148 : ρ (.tmp 148) = .bool false := (hρ 148).trans (hp 21 (by decide))
                              have e155 : ρ (.tmp 155) = .bool false := (hρ 155).trans (hp 28 (by decide))
                              have hx := hR.drew_ext
                              have HR := Lib.hid hR
                              have HN := Lib.hid hN
                              clear hR hN hp hρ hx
                              go_light
                              go_simp
                              exact ⟨γ, LR.refl _ _, fun _ _ _ h => h, rfl⟩
                            · intro vals γ w9 hR hG
                              have h29 : vals 29 = .bool false := hG 29 (by decide)
                              have HX9 := Lib.hid hR.drew_ext
                              clear hR hG
                              simp only [lexFrame, Act.put, List.setIfInBounds_toArray, List.set_cons_succ, List.set_cons_zero, Nat.zero_add, Nat.reduceAdd, h29]
                              clear h29
                              go_wp2
                              go_roundw
                              case rel => exact ⟨k + 1, by omega, by go_num, (HE8.out.trans HXX.out).trans HX9.out, HSEx.out.keep (HX9.out.kept _)⟩
                              case measure => simp [intOf]; omega
                    · have HO9 := Lib.hid (HO6.out.ext HX66.out)
                      have HS10 := Lib.hid (HS6.out.keep (HX66.out.kept _))
                      go_wp2_with fail
                      refine (table_Closure gs cl A' A6 cg c6 _ _ _ (HO9.out.rdeps (T := fun _ => True) (by omega) (fun _ _ => trivial) (fun _ _ => trivial)) HS10.out (by omega)).mono ?_
                      rintro e10 w10 ⟨ks3, hks3, A10, c10, he, hc10, hs10, hx10⟩
                      have h3 : sortS ks3 = cl := by
                        rw [HCL.out] at hks3
                        rw [HKS.out.again hks3, HCL.out]
                      rw [h3] at he hs10
                      subst he
                      have HX10 := Lib.hid hx10
                      have HSA := Lib.hid hs10
                      have HSB := Lib.hid (HS10.out.keep (hx10.kept _))
                      clear hks3 hc10 hs10 hx10 h3
                      go_wp2_with fail
                      refine (r06_StringsSame A10 A6 c10 c6 cl _ _ _ HSA.out HSB.out).mono ?_
                      rintro e11 w11 ⟨rfl, n, rfl⟩
                      have HXF := Lib.hid (((HXW.out.trans HX5.out).trans HX10.out).drewN n)
                      go_wp2
                      go_ret
                      exact ⟨rfl, HXF.out⟩
end Go.Proofs.YtcmmkeiiapbgcaaDoor
