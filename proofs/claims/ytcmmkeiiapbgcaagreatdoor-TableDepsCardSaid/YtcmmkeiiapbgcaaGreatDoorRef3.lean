/- Inserting a text into an ordered list. Plain facts; no conditions. -/
import Derived.Test.YtcmmkeiiapbgcaaGreatDoorImp1
import Derived.Sort.Walk0
import Derived.Test.YtcmmkeiiapbgcaaGreatDoorRef1
namespace Go.Proofs.YtcmmkeiiapbgcaaGreatDoor
open Go Go.RowKit

def lessS (x y : ByteArray) : Bool := Op.bytesLess x.toList y.toList
theorem lessS_iff (x y : ByteArray) : lessS x y = true ↔ x.data.toList < y.data.toList := by
  unfold lessS
  rw [bytesLess_eq, decide_eq_true_iff, ByteArray.toList_eq, ByteArray.toList_eq]
theorem ba_ext {x y : ByteArray} (h : x.data.toList = y.data.toList) : x = y := by
  cases x; cases y
  simp at h
  rw [h]
def insS (s : ByteArray) : List ByteArray → List ByteArray
  | [] => [s]
  | x :: l => if lessS x s = true then x :: insS s l else if x = s then x :: l else s :: x :: l
def SS (l : List ByteArray) : Prop := l.Pairwise fun a b => a.data.toList < b.data.toList
theorem mem_insS (s y : ByteArray) : ∀ l : List ByteArray, y ∈ insS s l ↔ y = s ∨ y ∈ l
  | [] => by simp [insS]
  | x :: l => by
    have ih := mem_insS s y l
    unfold insS
    split
    · rw [List.mem_cons, ih, List.mem_cons]
      constructor
      · rintro (h | h | h)
        · exact .inr (.inl h)
        · exact .inl h
        · exact .inr (.inr h)
      · rintro (h | h | h)
        · exact .inr (.inl h)
        · exact .inl h
        · exact .inr (.inr h)
    · split
      · rename_i hx
        rw [List.mem_cons]
        constructor
        · exact .inr
        · rintro (h | h)
          · exact .inl (h.trans hx.symm)
          · exact h
      · rw [List.mem_cons]
theorem SS.ins {l : List ByteArray} (h : SS l) (s : ByteArray) : SS (insS s l) := by
  induction l with
  | nil => simp [SS, insS]
  | cons x l ih =>
    have h1 := List.pairwise_cons.1 h
    unfold insS
    split
    · rename_i hlt
      refine List.pairwise_cons.2 ⟨fun y hy => ?_, ih h1.2⟩
      rcases (mem_insS s y l).1 hy with rfl | hy
      · exact (lessS_iff _ _).1 hlt
      · exact h1.1 y hy
    · rename_i hlt
      split
      · exact h
      · rename_i hne
        have hsx : s.data.toList < x.data.toList := by
          have h3 : ¬ x.data.toList < s.data.toList := fun e => hlt ((lessS_iff _ _).2 e)
          exact Std.lt_of_le_of_ne (List.not_lt.1 h3) (fun e => hne (ba_ext e.symm))
        refine List.pairwise_cons.2 ⟨fun y hy => ?_, h⟩
        rcases List.mem_cons.1 hy with rfl | hy
        · exact hsx
        · exact List.lt_trans hsx (h1.1 y hy)
theorem SS.nodup {l : List ByteArray} (h : SS l) : l.Nodup := by
  refine List.Pairwise.imp ?_ h
  rintro a b hab rfl
  exact List.lt_irrefl _ hab
theorem SS.sort {l : List ByteArray} (h : SS l) : sortS l = l := by
  unfold sortS
  rw [List.mergeSort_of_pairwise]
  · rw [List.map_map]
    exact List.map_id _
  · rw [List.pairwise_map]
    exact h.imp fun hab => by simp only [decide_eq_true_eq]; exact List.le_of_lt hab
theorem insS_pre {s : ByteArray} : ∀ {l : List ByteArray} {k : Nat}, k ≤ l.length → (∀ j (h : j < l.length), j < k → lessS l[j] s = true) → insS s l = l.take k ++ insS s (l.drop k)
  | l, 0, _, _ => by simp
  | [], k + 1, hk, _ => by simp at hk
  | x :: l, k + 1, hk, h => by
    have h0 : lessS x s = true := h 0 (by simp) (by omega)
    have ih := insS_pre (s := s) (l := l) (k := k) (by simpa using hk) fun j hj hjk => by
      have := h (j + 1) (by simpa using hj) (by omega)
      simpa using this
    simp only [insS, h0, if_true, List.take_succ_cons, List.drop_succ_cons, List.cons_append]
    rw [ih]
theorem insS_here {s : ByteArray} {l : List ByteArray} {k : Nat} (hk : k < l.length) (h : ∀ j (h : j < l.length), j < k → lessS l[j] s = true) (hn : lessS l[k] s = false) : insS s l = if l[k] = s then l else l.take k ++ s :: l.drop k := by
  rw [insS_pre (Nat.le_of_lt hk) h, List.drop_eq_getElem_cons hk, insS, if_neg (by simp [hn])]
  split
  · rw [← List.drop_eq_getElem_cons hk, List.take_append_drop]
  · rfl
theorem insS_end {s : ByteArray} {l : List ByteArray} (h : ∀ j (h : j < l.length), j < l.length → lessS l[j] s = true) : insS s l = l ++ [s] := by
  rw [insS_pre (Nat.le_refl _) h, List.take_length, List.drop_length]
  rfl
end Go.Proofs.YtcmmkeiiapbgcaaGreatDoor
/- The reference's Insert. Conditions: the list reads as data. -/
namespace Go.Proofs.YtcmmkeiiapbgcaaGreatDoor
open Go Go.RowKit

def SlOK (A : Option Addr) (n c : Nat) : Prop := (A = none ∧ n = 0 ∧ c = 0) ∨ ∃ b o, A = some ⟨b, o, none⟩ ∧ n ≤ c
theorem Own.ok {w : World} {base e sz n c : Nat} {A : Option Addr} {xs : List Value} (h : Own w base e sz A n c xs) : SlOK A n c := by
  rcases h.2 with ⟨hv, hn⟩ | ⟨g, cap, cur, hv, _, _, hnc, _⟩
  · injection hv with h1 _ h2
    exact .inl ⟨h1, hn, h2⟩
  · injection hv with h1 _ h2
    exact .inr ⟨g, 0, h1, by rw [h2]; exact hnc⟩
def RetIns (B0 : Nat) (w : World) (l : List ByteArray) (e : Ending) (w' : World) : Prop := ∃ A' c', e = .returned (.slice A' l.length c') ∧ SlOK A' l.length c' ∧ Strs w' (fun b => B0 ≤ b) A' l ∧ Ext w w'
theorem Rd.drop {w : World} {S : Nat → Prop} {b o : Nat} {xs : List Value} (h : Rd w S (some ⟨b, o, none⟩) xs) (k : Nat) : Rd w S (some ⟨b, o + k, none⟩) (xs.drop k) := by
  rcases h with h | ⟨b', o', hA, hS, hlt, hc⟩
  · subst h; exact Or.inl (by simp)
  · injection hA with hA
    injection hA with h1 h2
    subst h1
    subst h2
    refine Or.inr ⟨b, o + k, rfl, hS, hlt, fun j u hj => ?_⟩
    rw [List.getElem?_drop] at hj
    have := hc _ u hj
    rwa [← Nat.add_assoc] at this
/-- The list that the appends leave. -/
theorem Strs.of_own {w : World} {base n c : Nat} {A : Option Addr} {l : List ByteArray} {xs : List Value} {B0 : Nat} (h : Own w base 9 1 A n c xs) (hB0 : B0 ≤ base) (hx : xs = l.map Value.string) (hl : l.length ≤ 4294967296) (hs : ∀ s ∈ l, s.size ≤ 4294967296) : Strs w (fun b => B0 ≤ b) A l :=
  ⟨by rw [← hx]; exact h.rd.mono fun b _ hb => Nat.le_trans hB0 (h.blk hb).1, hl, hs⟩
theorem str_one (l : List ByteArray) : ∀ u ∈ l.map Value.string, u.oneCell' = true := by
  intro u hu
  obtain ⟨x, _, rfl⟩ := List.mem_map.1 hu
  rfl
set_option maxRecDepth 100000 in
set_option maxHeartbeats 1000000 in
theorem r09_Insert (A : Option Addr) (c : Nat) (l : List ByteArray) (s : ByteArray) (w : World) (B0 : Nat) (hB0 : B0 ≤ w.heap.size) (h : Strs w (fun b => B0 ≤ b) A l) (hok : SlOK A l.length c) (hs : s.size ≤ 4294967296) (hl : l.length ≤ 1000000) :
    Calls Tryz.prog 71 #[.slice A l.length c, .string s] w (RetIns B0 w (insS s l)) := by
  have hn := h.2.1
  have HSZ := Lib.hid h.2.2
  have H := Lib.hid h
  have HOK := Lib.hid hok
  clear h hok
  go_enter Tryz.func71, Tryz.ntmps71
  go_wp2
  go_loop [5] (fun i => ∃ k : Nat, k ≤ l.length ∧ i = .int .i64 k ∧ ∀ j (h : j < l.length), j < k → lessS l[j] s = true) (fun i => l.length - (intOf i).toNat)
  case atStart => exact ⟨0, Nat.zero_le _, rfl, by intros; omega⟩
  case round =>
    obtain ⟨k, hk, rfl, hall⟩ := hrel
    have HA := Lib.hid hall
    clear hall
    by_cases hlt : k < l.length
    · obtain ⟨b1, o1, rfl, z1, c1⟩ := H.out.at_ hlt
      have hcap : l.length ≤ c := by
        rcases HOK.out with ⟨h, _⟩ | ⟨_, _, _, h⟩
        · cases h
        · exact h
      cases hls : lessS l[k] s
      · have ht1 : Op.bytesLess l[k].toList s.toList = false := hls
        by_cases heq : l[k] = s
        · have ht2 : (l[k].toList == s.toList) = true := by rw [bytes_beq]; simp [heq]
          have HI := Lib.hid (show insS s l = l by rw [insS_here hlt HA.out hls, if_pos heq])
          clear hls heq
          go_wp2
          go_ret
          exact ⟨_, c, by rw [HI.out]; rfl, by rw [HI.out]; exact HOK.out, by rw [HI.out]; exact H.out, Ext.refl w⟩
        · have ht2 : (l[k].toList == s.toList) = false := by rw [bytes_beq]; simp [heq]
          have HI := Lib.hid (show insS s l = l.take k ++ s :: l.drop k by rw [insS_here hlt HA.out hls, if_neg heq])
          clear hls heq
          have HO1 := Lib.hid (Own.of_blk (n := 1) (sz := 1) (base := w.heap.size) (Blk.new w 9 #[.string s]) rfl (by unfold maxLen; omega) (Nat.le_refl _))
          have HR1 := Lib.hid ((H.out.1.keep (Kept.alloc _ _ (.cells #[.string s] 9))).drop k)
          have hkc : k ≤ c := by omega
          go_upto_region 7 with (at_builtin; go_must (refine wpList_app rfl (.tmp 35) (.tmp 38) rfl tiS rfl HO1.out rfl HR1.out (by simp) (fun u hu => str_one l u (List.mem_of_mem_drop hu)) (by omega) (by decide) (by simp) ?_); intro A3 c3 w3 hown3 hg3 hat3)
          have HO3 := Lib.hid hown3
          have HX3 := Lib.hid (Ext.grown ((Ext.refl w).alloc _) hg3 (fun b hb => (HO1.out.blk hb).1))
          have HO4 := Lib.hid (show Own (w3.alloc (.cells #[] 9)) w3.heap.size 9 1 (some ⟨w3.heap.size, 0, none⟩) 0 0 [] from World.ownsRow_made w3 #[] 0 (Nat.le_refl _) (by unfold maxLen; omega) rfl)
          have HR4 := Lib.hid (((H.out.1.keep (HX3.out.kept _)).keep (Kept.alloc _ _ (.cells #[] 9))).take k)
          clear hown3 hg3 hat3
          have hone : ∀ u ∈ [Value.string s] ++ (l.map Value.string).drop k, u.oneCell' = true := fun u hu => by
            rcases List.mem_append.1 hu with hu | hu
            · simp at hu; subst hu; rfl
            · exact str_one l u (List.mem_of_mem_drop hu)
          have HONE := Lib.hid hone
          clear hone
          have tok : True := trivial
          go_wp2_with (first | (at_builtin; have _t := tok; go_must (refine wpList_app rfl (.tmp 40) (.tmp 43) rfl tiS rfl HO4.out rfl HR4.out (by simp; omega) (fun u hu => str_one l u (List.mem_of_mem_take hu)) (by omega) (by decide) (by simp) ?_); intro A4 c4 w4 hown4 hg4 hat4; simp only [Nat.zero_add, List.nil_append] at hown4; have HO44 := Lib.hid hown4; have HX4 := Lib.hid (Ext.grown ((Ext.refl w3).alloc _) hg4 (fun b hb => (HO4.out.blk hb).1)); have HR5 := Lib.hid ((HO3.out.rd.mono (T := fun b => b < w3.heap.size) fun b hb _ => hb).keep (HX4.out.kept _)); have hsz4 := HX4.out.size; clear hown4 hg4 hat4 tok) | (at_builtin; go_must (refine wpList_app rfl (.tmp 44) (.tmp 45) rfl tiS rfl HO44.out rfl HR5.out (by simp; omega) HONE.out (by omega) (by decide) (by omega) ?_); intro A5 c5 w5 hown5 hg5 hat5))
          go_ret
          have hll : (insS s l).length = k + (1 + (l.length - k)) := by rw [HI.out]; simp; omega
          refine ⟨A5, c5, by rw [hll]; rfl, by rw [hll]; exact hown5.ok, ?_, (HX3.out.trans HX4.out).grown hg5 (fun b hb => by have := (HO44.out.blk hb).1; have := HX3.out.size; omega)⟩
          refine Strs.of_own hown5 (Nat.le_trans hB0 HX3.out.size) (by rw [HI.out]; simp) (by rw [hll]; omega) fun y hy => ?_
          rcases (mem_insS s y l).1 hy with rfl | hy
          · exact hs
          · exact HSZ.out y hy
      · have ht1 : Op.bytesLess l[k].toList s.toList = true := hls
        have HLS := Lib.hid hls
        clear hls
        go_wp2
        go_round
        case rel =>
          refine ⟨k + 1, by omega, by go_num, fun j h hj => ?_⟩
          by_cases hjk : j = k
          · subst hjk; exact HLS.out
          · exact HA.out j h (by omega)
        case measure => simp [intOf]; omega
    · obtain rfl : k = l.length := by omega
      have HI := Lib.hid (show insS s l = l.take l.length ++ s :: l.drop l.length by rw [insS_end HA.out]; simp)
      have HO1 := Lib.hid (Own.of_blk (n := 1) (sz := 1) (base := w.heap.size) (Blk.new w 9 #[.string s]) rfl (by unfold maxLen; omega) (Nat.le_refl _))
      rcases HOK.out with ⟨rfl, h0, rfl⟩ | ⟨b1, o1, rfl, hcap⟩
      · have hl0 : l = [] := List.eq_nil_of_length_eq_zero h0
        subst hl0
        clear h0 hlt hk
        have HRN := Lib.hid (show ∀ B, Rd (w.alloc (.cells #[.string s] 9)) (fun _ => True) B [] from fun B => Or.inl rfl)
        go_upto_region 7 with (at_builtin; go_must (refine wpList_app rfl (.tmp 35) (.tmp 38) rfl tiS rfl HO1.out rfl (HRN.out _) (by simp) (by simp) (by omega) (by decide) (by simp) ?_); intro A3 c3 w3 hown3 hg3 hat3)
        simp only [List.append_nil, Nat.add_zero, Nat.sub_self] at hown3
        have HO3 := Lib.hid hown3
        have HX3 := Lib.hid (Ext.grown ((Ext.refl w).alloc _) hg3 (fun b hb => (HO1.out.blk hb).1))
        have HO4 := Lib.hid (show Own (w3.alloc (.cells #[] 9)) w3.heap.size 9 1 (some ⟨w3.heap.size, 0, none⟩) 0 0 [] from World.ownsRow_made w3 #[] 0 (Nat.le_refl _) (by unfold maxLen; omega) rfl)
        have HR4 := Lib.hid ((H.out.1.keep (HX3.out.kept _)).keep (Kept.alloc _ _ (.cells #[] 9)))
        clear hown3 hg3 hat3
        have tok : True := trivial
        go_wp2_with (first | (at_builtin; have _t := tok; go_must (refine wpList_app rfl (.tmp 40) (.tmp 43) rfl tiS rfl HO4.out rfl HR4.out (by simp) (str_one _) (by first | omega | (simp; done) | (simp; omega)) (by decide) (by simp) ?_); intro A4 c4 w4 hown4 hg4 hat4; simp only [Nat.zero_add, List.nil_append] at hown4; have HO44 := Lib.hid hown4; have HX4 := Lib.hid (Ext.grown ((Ext.refl w3).alloc _) hg4 (fun b hb => (HO4.out.blk hb).1)); have HR5 := Lib.hid ((HO3.out.rd.mono (T := fun b => b < w3.heap.size) fun b hb _ => hb).keep (HX4.out.kept _)); have hsz4 := HX4.out.size; clear hown4 hg4 hat4 tok) | (at_builtin; go_must (refine wpList_app rfl (.tmp 44) (.tmp 45) rfl tiS rfl HO44.out rfl HR5.out (by simp) (by simp [Value.oneCell']) (by first | omega | (simp; done) | (simp; omega)) (by decide) (by omega) ?_); intro A5 c5 w5 hown5 hg5 hat5))
        go_ret
        refine ⟨A5, c5, by rw [HI.out]; simp, by rw [HI.out]; simpa using hown5.ok, ?_, (HX3.out.trans HX4.out).grown hg5 (fun b hb => by have := (HO44.out.blk hb).1; have := HX3.out.size; omega)⟩
        refine Strs.of_own hown5 (Nat.le_trans hB0 HX3.out.size) (by rw [HI.out]; simp) (by rw [HI.out]; first | (simp; done) | (simp; omega)) fun y hy => ?_
        rcases (mem_insS s y _).1 hy with rfl | hy
        · exact hs
        · exact HSZ.out y hy
      · by_cases hcc : l.length < c
        · have hc1 : l.length ≤ c := hcap
          clear hcap hlt hk
          have HRN := Lib.hid (show ∀ B, Rd (w.alloc (.cells #[.string s] 9)) (fun _ => True) B [] from fun B => Or.inl rfl)
          go_upto_region 7 with (at_builtin; go_must (refine wpList_app rfl (.tmp 35) (.tmp 38) rfl tiS rfl HO1.out rfl (HRN.out _) (by simp) (by simp) (by omega) (by decide) (by simp) ?_); intro A3 c3 w3 hown3 hg3 hat3)
          simp only [List.append_nil, Nat.add_zero, Nat.sub_self] at hown3
          have HO3 := Lib.hid hown3
          have HX3 := Lib.hid (Ext.grown ((Ext.refl w).alloc _) hg3 (fun b hb => (HO1.out.blk hb).1))
          have HO4 := Lib.hid (show Own (w3.alloc (.cells #[] 9)) w3.heap.size 9 1 (some ⟨w3.heap.size, 0, none⟩) 0 0 [] from World.ownsRow_made w3 #[] 0 (Nat.le_refl _) (by unfold maxLen; omega) rfl)
          have HR4 := Lib.hid ((H.out.1.keep (HX3.out.kept _)).keep (Kept.alloc _ _ (.cells #[] 9)))
          clear hown3 hg3 hat3
          have tok : True := trivial
          go_wp2_with (first | (at_builtin; have _t := tok; go_must (refine wpList_app rfl (.tmp 40) (.tmp 43) rfl tiS rfl HO4.out rfl HR4.out (by simp) (str_one _) (by first | omega | (simp; done) | (simp; omega)) (by decide) (by simp) ?_); intro A4 c4 w4 hown4 hg4 hat4; simp only [Nat.zero_add, List.nil_append] at hown4; have HO44 := Lib.hid hown4; have HX4 := Lib.hid (Ext.grown ((Ext.refl w3).alloc _) hg4 (fun b hb => (HO4.out.blk hb).1)); have HR5 := Lib.hid ((HO3.out.rd.mono (T := fun b => b < w3.heap.size) fun b hb _ => hb).keep (HX4.out.kept _)); have hsz4 := HX4.out.size; clear hown4 hg4 hat4 tok) | (at_builtin; go_must (refine wpList_app rfl (.tmp 44) (.tmp 45) rfl tiS rfl HO44.out rfl HR5.out (by simp) (by simp [Value.oneCell']) (by first | omega | (simp; done) | (simp; omega)) (by decide) (by omega) ?_); intro A5 c5 w5 hown5 hg5 hat5))
          go_ret
          refine ⟨A5, c5, by rw [HI.out]; simp, by rw [HI.out]; simpa using hown5.ok, ?_, (HX3.out.trans HX4.out).grown hg5 (fun b hb => by have := (HO44.out.blk hb).1; have := HX3.out.size; omega)⟩
          refine Strs.of_own hown5 (Nat.le_trans hB0 HX3.out.size) (by rw [HI.out]; simp) (by rw [HI.out]; first | (simp; done) | (simp; omega)) fun y hy => ?_
          rcases (mem_insS s y _).1 hy with rfl | hy
          · exact hs
          · exact HSZ.out y hy
        · obtain rfl : c = l.length := by omega
          clear hcap hcc hlt hk
          have HRN := Lib.hid (show ∀ B, Rd (w.alloc (.cells #[.string s] 9)) (fun _ => True) B [] from fun B => Or.inl rfl)
          go_upto_region 7 with (at_builtin; go_must (refine wpList_app rfl (.tmp 35) (.tmp 38) rfl tiS rfl HO1.out rfl (HRN.out _) (by simp) (by simp) (by omega) (by decide) (by simp) ?_); intro A3 c3 w3 hown3 hg3 hat3)
          simp only [List.append_nil, Nat.add_zero, Nat.sub_self] at hown3
          have HO3 := Lib.hid hown3
          have HX3 := Lib.hid (Ext.grown ((Ext.refl w).alloc _) hg3 (fun b hb => (HO1.out.blk hb).1))
          have HO4 := Lib.hid (show Own (w3.alloc (.cells #[] 9)) w3.heap.size 9 1 (some ⟨w3.heap.size, 0, none⟩) 0 0 [] from World.ownsRow_made w3 #[] 0 (Nat.le_refl _) (by unfold maxLen; omega) rfl)
          have HR4 := Lib.hid ((H.out.1.keep (HX3.out.kept _)).keep (Kept.alloc _ _ (.cells #[] 9)))
          clear hown3 hg3 hat3
          have tok : True := trivial
          go_wp2_with (first | (at_builtin; have _t := tok; go_must (refine wpList_app rfl (.tmp 40) (.tmp 43) rfl tiS rfl HO4.out rfl HR4.out (by simp) (str_one _) (by first | omega | (simp; done) | (simp; omega)) (by decide) (by simp) ?_); intro A4 c4 w4 hown4 hg4 hat4; simp only [Nat.zero_add, List.nil_append] at hown4; have HO44 := Lib.hid hown4; have HX4 := Lib.hid (Ext.grown ((Ext.refl w3).alloc _) hg4 (fun b hb => (HO4.out.blk hb).1)); have HR5 := Lib.hid ((HO3.out.rd.mono (T := fun b => b < w3.heap.size) fun b hb _ => hb).keep (HX4.out.kept _)); have hsz4 := HX4.out.size; clear hown4 hg4 hat4 tok) | (at_builtin; go_must (refine wpList_app rfl (.tmp 44) (.tmp 45) rfl tiS rfl HO44.out rfl HR5.out (by simp) (by simp [Value.oneCell']) (by first | omega | (simp; done) | (simp; omega)) (by decide) (by omega) ?_); intro A5 c5 w5 hown5 hg5 hat5))
          go_ret
          refine ⟨A5, c5, by rw [HI.out]; simp, by rw [HI.out]; simpa using hown5.ok, ?_, (HX3.out.trans HX4.out).grown hg5 (fun b hb => by have := (HO44.out.blk hb).1; have := HX3.out.size; omega)⟩
          refine Strs.of_own hown5 (Nat.le_trans hB0 HX3.out.size) (by rw [HI.out]; simp) (by rw [HI.out]; first | (simp; done) | (simp; omega)) fun y hy => ?_
          rcases (mem_insS s y _).1 hy with rfl | hy
          · exact hs
          · exact HSZ.out y hy
end Go.Proofs.YtcmmkeiiapbgcaaGreatDoor
/- The reference's Closure: the ordered list of the least closed set. Conditions: the arguments read as data, and are few. -/
namespace Go.Proofs.YtcmmkeiiapbgcaaGreatDoor
open Go Go.RowKit

structure CR (l : List Dep) (frm out : List ByteArray) : Prop where
  sorted : SS out
  base : ∀ x ∈ frm, x ∈ out
  least : ∀ T : ByteArray → Prop, (∀ x ∈ frm, T x) → (∀ d ∈ l, (∀ x ∈ d.frm, T x) → T d.to) → ∀ x ∈ out, T x
def ClosedD (l : List Dep) (out : List ByteArray) : Prop := ∀ d ∈ l, (∀ x ∈ d.frm, x ∈ out) → d.to ∈ out
theorem CR.len {l : List Dep} {frm out : List ByteArray} (h : CR l frm out) : out.length ≤ frm.length + l.length := Part.len ⟨h.sorted.nodup, h.base, h.least⟩
theorem CR.ins {l : List Dep} {frm out : List ByteArray} (h : CR l frm out) {d : Dep} (hd : d ∈ l) (hf : ∀ x ∈ d.frm, x ∈ out) : CR l frm (insS d.to out) :=
  ⟨h.sorted.ins _, fun x hx => (mem_insS _ _ _).2 (.inr (h.base x hx)), fun T h1 h2 x hx => by
    rcases (mem_insS _ _ _).1 hx with rfl | hx
    · exact h2 d hd fun y hy => h.least T h1 h2 y (hf y hy)
    · exact h.least T h1 h2 x hx⟩
def cntD (l : List Dep) (out : List ByteArray) : Nat := l.countP fun d => memS out d.to
theorem cntD_le (l : List Dep) (out : List ByteArray) : cntD l out ≤ l.length := List.countP_le_length
theorem count_ltD {p q : Dep → Bool} (hle : ∀ j, p j = true → q j = true) {i : Dep} (hp : p i = false) (hq : q i = true) : ∀ l : List Dep, i ∈ l → l.countP p + 1 ≤ l.countP q
  | x :: l, h => by
    have mono : ∀ l : List Dep, l.countP p ≤ l.countP q := fun l => List.countP_mono_left fun x _ hx => hle x hx
    rcases List.mem_cons.1 h with rfl | h'
    · rw [List.countP_cons_of_pos hq, List.countP_cons_of_neg (by simp [hp])]
      have := mono l
      omega
    · have ih := count_ltD hle hp hq l h'
      by_cases hx : p x = true
      · rw [List.countP_cons_of_pos hx, List.countP_cons_of_pos (hle x hx)]; omega
      · rw [List.countP_cons_of_neg hx]
        have := List.countP_cons (p := q) (a := x) (l := l)
        omega
/-- What a round does. -/
theorem round_step {l : List Dep} {frm out0 out : List ByteArray} {r : Nat} (h0 : CR l frm out0) (h : CR l frm out) (hs : ∀ x ∈ out0, x ∈ out) (hd : ∀ d ∈ l, (∀ x ∈ d.frm, x ∈ out0) → d.to ∈ out) (hc : ClosedD l out0 ∨ r ≤ cntD l out0) : ClosedD l out ∨ r + 1 ≤ cntD l out := by
  by_cases hcl : ClosedD l out0
  · left
    have hm : ∀ x ∈ out, x ∈ out0 := h.least (· ∈ out0) h0.base hcl
    exact fun d hd' hf => hs _ (hcl d hd' fun x hx => hm x (hf x hx))
  · right
    have hr : r ≤ cntD l out0 := hc.resolve_left hcl
    obtain ⟨d, hdl, hf, hn⟩ : ∃ d, d ∈ l ∧ (∀ x ∈ d.frm, x ∈ out0) ∧ d.to ∉ out0 := by
      apply Classical.byContradiction
      intro hno
      exact hcl fun d hd' hf => Classical.byContradiction fun hn => hno ⟨d, hd', hf, hn⟩
    have := count_ltD (p := fun d => memS out0 d.to) (q := fun d => memS out d.to) (fun j hj => (memS_iff _ _).2 (hs _ ((memS_iff _ _).1 hj))) (i := d) (by rw [Bool.eq_false_iff]; exact fun e => hn ((memS_iff _ _).1 e)) ((memS_iff _ _).2 (hd d hdl hf)) l hdl
    unfold cntD at hr ⊢
    omega
def RetRC (w : World) (l : List Dep) (frm : List ByteArray) (e : Ending) (w' : World) : Prop := ∃ out, IsClosure l frm out ∧ SS out ∧ RetIns w.heap.size w out e w'
set_option maxRecDepth 100000 in
set_option maxHeartbeats 1000000 in
theorem r09_Closure (l : List Dep) (frm : List ByteArray) (A B : Option Addr) (ca cb : Nat) (w : World) (S T : Nat → Prop) (hA : RDeps w S A l) (hB : Strs w T B frm) (hsm : frm.length + l.length ≤ 100000) :
    Calls Tryz.prog 26 #[.slice A l.length ca, .slice B frm.length cb] w (RetRC w l frm) := by
  have HA := Lib.hid hA
  have HB := Lib.hid hB
  clear hA hB
  go_enter Tryz.func26, Tryz.ntmps26
  go_wp2
  go_loopw [6, 5] (fun i v wr => ∃ (k : Nat) (A' : Option Addr) (c' : Nat) (out : List ByteArray), k ≤ frm.length ∧ i = .int .i64 k ∧ v = .slice A' out.length c' ∧ out.length ≤ k ∧ SlOK A' out.length c' ∧ Strs wr (fun b => w.heap.size ≤ b) A' out ∧ Ext w wr ∧ SS out ∧ ∀ x, x ∈ out ↔ x ∈ frm.take k) (fun i _ _ => frm.length - (intOf i).toNat)
  case atStart => exact ⟨0, none, 0, [], Nat.zero_le _, rfl, rfl, Nat.le_refl _, .inl ⟨rfl, rfl, rfl⟩, Strs.nil, Ext.refl _, by simp [SS], by simp⟩
  case round =>
    obtain ⟨k, A', c', out, hk, rfl, rfl, hol, hok, hst, hext, hss, hmem⟩ := hrel
    have HOK := Lib.hid hok
    have HST := Lib.hid hst
    have HE := Lib.hid hext
    have HSS := Lib.hid hss
    have HME := Lib.hid hmem
    clear hok hst hext hss hmem
    by_cases hlt : k < frm.length
    · obtain ⟨b1, o1, hB1, z1, q1⟩ := (HB.out.keep (HE.out.kept _)).at_ hlt
      subst hB1
      go_wp2_with fail
      refine (r09_Insert A' c' out frm[k] _ w.heap.size HE.out.size HST.out HOK.out (HB.out.sz hlt) (by omega)).mono ?_
      rintro e1 w1 ⟨A1, c1, rfl, hok1, hst1, hx1⟩
      have HOK1 := Lib.hid hok1
      have HST1 := Lib.hid hst1
      have HX1 := Lib.hid hx1
      clear hok1 hst1 hx1
      go_wp2
      go_roundw
      case rel =>
        have hss1 := HSS.out.ins frm[k]
        have hlen : (insS frm[k] out).length ≤ k + 1 := by
          have := nodup_len hss1.nodup (m := frm[k] :: out) fun y hy => by rcases (mem_insS _ _ _).1 hy with rfl | hy; exact List.mem_cons_self; exact List.mem_cons_of_mem _ hy
          simp at this
          omega
        refine ⟨k + 1, A1, c1, insS frm[k] out, by omega, by go_num, rfl, hlen, HOK1.out, HST1.out, HE.out.trans HX1.out, hss1, fun x => ?_⟩
        rw [mem_insS, HME.out, List.take_succ_eq_append_getElem hlt, List.mem_append, List.mem_singleton]
        exact or_comm
      case measure => simp [intOf]; omega
    · have hcr : CR l frm out := ⟨HSS.out, fun x hx => (HME.out x).2 (by rw [List.take_of_length_le (by omega)]; exact hx), fun T h1 _ x hx => h1 x (List.mem_of_mem_take ((HME.out x).1 hx))⟩
      have HCR := Lib.hid hcr
      clear hcr HSS HME hol
      go_wp2
      go_loopw [7, 5] (fun i v wr => ∃ (r : Nat) (A' : Option Addr) (c' : Nat) (out : List ByteArray), r ≤ l.length + 1 ∧ i = .int .i64 r ∧ v = .slice A' out.length c' ∧ SlOK A' out.length c' ∧ Strs wr (fun b => w.heap.size ≤ b) A' out ∧ Ext w wr ∧ CR l frm out ∧ (ClosedD l out ∨ r ≤ cntD l out)) (fun i _ _ => l.length + 1 - (intOf i).toNat)
      case atStart => exact ⟨0, A', c', out, Nat.zero_le _, rfl, rfl, HOK.out, HST.out, HE.out, HCR.out, .inr (Nat.zero_le _)⟩
      case round =>
        clear HOK HST HE HCR
        obtain ⟨r, A', c', out0, hr, rfl, rfl, hok, hst, hext, hcr, hcl⟩ := hrel
        have HOK := Lib.hid hok
        have HST := Lib.hid hst
        have HE := Lib.hid hext
        have HCR := Lib.hid hcr
        have HCL := Lib.hid hcl
        clear hok hst hext hcr hcl
        by_cases hltr : r < l.length + 1
        · have hle : r ≤ l.length := by omega
          have hle2 : decide (r ≤ l.length) = true := by simpa using hle
          go_wp2
          clear hle2
          go_loopw [8, 5] (fun i v wr => ∃ (k : Nat) (A' : Option Addr) (c' : Nat) (out : List ByteArray), k ≤ l.length ∧ i = .int .i64 k ∧ v = .slice A' out.length c' ∧ SlOK A' out.length c' ∧ Strs wr (fun b => w.heap.size ≤ b) A' out ∧ Ext w wr ∧ CR l frm out ∧ (∀ x ∈ out0, x ∈ out) ∧ ∀ d ∈ l.take k, (∀ x ∈ d.frm, x ∈ out0) → d.to ∈ out) (fun i _ _ => l.length - (intOf i).toNat)
          case atStart => exact ⟨0, A', c', out0, Nat.zero_le _, rfl, rfl, HOK.out, HST.out, HE.out, HCR.out, fun _ h => h, by simp⟩
          case round =>
            clear HOK HST HE
            obtain ⟨k, A', c', out, hk, rfl, rfl, hok, hst, hext, hcr, hsub, hfd⟩ := hrel
            have HOK := Lib.hid hok
            have HST := Lib.hid hst
            have HE := Lib.hid hext
            have HCR1 := Lib.hid hcr
            have HSUB := Lib.hid hsub
            have HFD := Lib.hid hfd
            clear hok hst hext hcr hsub hfd
            by_cases hltk : k < l.length
            · obtain ⟨b2, o2, B2, c2, hA2, z2, p1, p2, p3, p4, p5⟩ := (HA.out.keep (HE.out.kept _)).at_ hltk
              subst hA2
              have HP5 := Lib.hid p5
              have hfl2 := p5.2.1
              clear p5
              go_wp2
              go_loop [10, 9] (fun i v => ∃ (j : Nat) (al : Bool), j ≤ l[k].frm.length ∧ i = .int .i64 j ∧ v = .bool al ∧ al = (l[k].frm.take j).all (memS out)) (fun i _ => l[k].frm.length - (intOf i).toNat)
              case atStart => exact ⟨0, true, Nat.zero_le _, rfl, rfl, rfl⟩
              case round =>
                obtain ⟨j, al, hj, rfl, rfl, hal⟩ := hrel
                have HAL := Lib.hid hal
                clear hal
                by_cases hltj : j < l[k].frm.length
                · have htk : (l[k].frm.take (j + 1)).all (memS out) = (al && memS out l[k].frm[j]) := by
                    rw [List.take_succ_eq_append_getElem hltj, List.all_append, ← HAL.out]
                    simp
                  have HTK := Lib.hid htk
                  clear htk
                  cases al
                  · go_wp2
                    go_round
                    case rel => exact ⟨j + 1, false, by omega, by go_num, rfl, by rw [HTK.out]; rfl⟩
                    case measure => simp [intOf]; omega
                  · obtain ⟨b3, o3, hB3, z3, q3⟩ := HP5.out.at_ hltj
                    subst hB3
                    go_wp2_with fail
                    refine (r09_index A' c' out l[k].frm[j] _ _ HST.out).mono ?_
                    rintro e1 w1 ⟨rfl, rfl⟩
                    go_wp2
                    go_round
                    case rel => exact ⟨j + 1, memS out l[k].frm[j], by omega, by go_num, rfl, by rw [HTK.out]; rfl⟩
                    case measure => simp [intOf]; omega
                · have hall : al = l[k].frm.all (memS out) := by rw [HAL.out, List.take_of_length_le (by omega)]
                  have HALL := Lib.hid hall
                  clear hall HAL
                  cases al
                  · go_wp2
                    go_roundw
                    case rel =>
                      refine ⟨k + 1, A', c', out, by omega, by go_num, rfl, HOK.out, HST.out, HE.out, HCR1.out, HSUB.out, fun d hd hf => ?_⟩
                      rw [List.take_succ_eq_append_getElem hltk] at hd
                      rcases List.mem_append.1 hd with hd | hd
                      · exact HFD.out d hd hf
                      · simp at hd
                        subst hd
                        have : l[k].frm.all (memS out) = true := List.all_eq_true.2 fun x hx => (memS_iff _ _).2 (HSUB.out x (hf x hx))
                        rw [← HALL.out] at this
                        cases this
                    case measure => simp [intOf]; omega
                  · have hin : ∀ x ∈ l[k].frm, x ∈ out := fun x hx => (memS_iff _ _).1 (List.all_eq_true.1 HALL.out.symm x hx)
                    have HIN := Lib.hid hin
                    have hlo := HCR1.out.len
                    clear hin
                    go_wp2_with fail
                    refine (r09_Insert A' c' out l[k].to _ w.heap.size HE.out.size HST.out HOK.out p4 (by omega)).mono ?_
                    rintro e1 w1 ⟨A1, c1, rfl, hok1, hst1, hx1⟩
                    have HOK1 := Lib.hid hok1
                    have HST1 := Lib.hid hst1
                    have HX1 := Lib.hid hx1
                    clear hok1 hst1 hx1
                    go_wp2
                    go_roundw
                    case rel =>
                      refine ⟨k + 1, A1, c1, insS l[k].to out, by omega, by go_num, rfl, HOK1.out, HST1.out, HE.out.trans HX1.out, HCR1.out.ins (List.getElem_mem hltk) HIN.out, fun x hx => (mem_insS _ _ _).2 (.inr (HSUB.out x hx)), fun d hd hf => ?_⟩
                      rw [List.take_succ_eq_append_getElem hltk] at hd
                      rcases List.mem_append.1 hd with hd | hd
                      · exact (mem_insS _ _ _).2 (.inr (HFD.out d hd hf))
                      · simp at hd
                        subst hd
                        exact (mem_insS _ _ _).2 (.inl rfl)
                    case measure => simp [intOf]; omega
            · have hst := round_step HCR.out HCR1.out HSUB.out (fun d hd => HFD.out d (by rw [List.take_of_length_le (by omega)]; exact hd)) HCL.out
              have HSTEP := Lib.hid hst
              clear hst
              go_wp2
              go_roundw
              case rel => exact ⟨r + 1, A', c', out, by omega, by go_num, rfl, HOK.out, HST.out, HE.out, HCR1.out, HSTEP.out⟩
              case measure => simp [intOf]; omega
        · have hclo : ClosedD l out0 := HCL.out.resolve_right fun h => by have := cntD_le l out0; omega
          have HCLO := Lib.hid hclo
          clear hclo
          go_wp2
          go_ret
          exact ⟨out0, ⟨HCR.out.sorted.nodup, HCR.out.base, HCLO.out, HCR.out.least⟩, HCR.out.sorted, A', c', rfl, HOK.out, HST.out, HE.out⟩
end Go.Proofs.YtcmmkeiiapbgcaaGreatDoor
