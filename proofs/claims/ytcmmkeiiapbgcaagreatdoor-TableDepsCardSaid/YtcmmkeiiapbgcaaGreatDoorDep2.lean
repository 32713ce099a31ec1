/- The reference's Depends: a dependency. Conditions: the numbers read as data. -/
import Derived.Test.YtcmmkeiiapbgcaaGreatDoorDep1
namespace Go.Proofs.YtcmmkeiiapbgcaaGreatDoor
open Go Go.RowKit

def RetDep (w : World) (e : Ending) (w' : World) : Prop := ∃ (d : Dep) (A : Option Addr) (c : Nat), e = .returned (.agg #[.slice A d.frm.length c, .string d.to]) ∧ d.frm.length ≤ 3 ∧ d.frm.length ≤ c ∧ d.to.size ≤ 4294967296 ∧ Strs w' (Fresh w) A d.frm ∧ Ext w w'
/-- The facts of the statement 'd.From = append(d.From, names[m.Next(5)])'. -/
def dInv (w : World) (A : Option Addr) (n c : Nat) (s : ByteArray) (A' : Option Addr) (c' : Nat) (fs : List ByteArray) (γ : Nat) (w' : World) : Prop := γ ≤ 4 ∧ (γ ≤ 2 → DC w A n c s A' c' fs w')
def gDep (w : World) (A : Option Addr) (n c : Nat) (s : ByteArray) (A' : Option Addr) (c' : Nat) (fs : List ByteArray) : Nat → List Value → Nat → World → Prop
  | 0, [v], _, _ => v = .pointer (some ⟨w.heap.size + 3, 0, none⟩)
  | 1, [v], _, _ => v = .slice A' fs.length c'
  | 2, [v], _, _ => v = .slice (some ⟨w.heap.size + 1 + 1, 0, none⟩) 5 5
  | 3, [v], _, _ => v = .pointer (some ⟨w.heap.size + 1, 0, none⟩)
  | 4, [v], γ, _ => ∃ r : Nat, v = .int .i64 (r : Int) ∧ r < 5 ∧ 1 ≤ γ
  | 5, [v], γ, _ => ∃ r : Nat, v = .pointer (some ⟨w.heap.size + 1 + 1, r, none⟩) ∧ r < 5 ∧ 1 ≤ γ
  | 6, [v], γ, _ => ∃ t : ByteArray, v = .string t ∧ t.size ≤ 20 ∧ 1 ≤ γ
  | 7, [v], γ, w' => ∃ (t : ByteArray) (g : Nat), v = .slice (some ⟨g, 0, none⟩) 1 1 ∧ t.size ≤ 20 ∧ 2 ≤ γ ∧ (γ = 2 → Blk w' g 9 #[.string t])
  | 8, [v], γ, w' => ∃ (A4 : Option Addr) (c4 : Nat) (t : ByteArray), v = .slice A4 (fs.length + 1) c4 ∧ 3 ≤ γ ∧ (γ = 3 → DA w A n c s A4 c4 (fs ++ [t]) w')
  | 9, [v], _, _ => v = .pointer (some ⟨w.heap.size + 3, 0, none⟩)
  | 10, [_], γ, w' => 4 ≤ γ ∧ (γ = 4 → ∃ (A4 : Option Addr) (c4 : Nat) (t : ByteArray), DC w A n c s A4 c4 (fs ++ [t]) w')
  | _, _, _, _ => True
theorem SR.cond {Inv : Nat → World → Prop} {γ : Nat} {w : World} {γ' : Nat} {w' : World} (h : SR Inv γ w γ' w') {s : Nat} {P : World → Prop} (h1 : s ≤ γ) (h2 : γ = s → P w) : γ' = s → P w' := by
  intro e
  have := h.le
  have e2 : γ = γ' := by omega
  rw [h.eq e2]
  exact h2 (by omega)
theorem gDep_st (w : World) (A : Option Addr) (n c : Nat) (s : ByteArray) (A' : Option Addr) (c' : Nat) (fs : List ByteArray) : ∀ i l γ v γ' v', SR (dInv w A n c s A' c' fs) γ v γ' v' → gDep w A n c s A' c' fs i l γ v → gDep w A n c s A' c' fs i l γ' v' := by
  intro i l γ v γ' v' r h
  have hle := r.le
  unfold gDep at h ⊢
  split at h
  all_goals first
    | exact h
    | (obtain ⟨x, h1, h2, h3⟩ := h; exact ⟨x, h1, h2, by omega⟩)
    | (obtain ⟨x, y, h1, h2, h3, h4⟩ := h; exact ⟨x, y, h1, h2, by omega, fun e => by rw [r.eq (by omega)]; exact h4 (by omega)⟩)
    | (obtain ⟨x, y, z, h1, h3, h4⟩ := h; exact ⟨x, y, z, h1, by omega, fun e => by rw [r.eq (by omega)]; exact h4 (by omega)⟩)
    | (obtain ⟨h3, h4⟩ := h; exact ⟨by omega, fun e => by rw [r.eq (by omega)]; exact h4 (by omega)⟩)
def dDep : Nat → List Nat := fun i => [i]
def stDep : List Nat := [100, 3, 100, 100, 1, 100, 2, 2, 3, 100, 4]
set_option maxRecDepth 100000 in
set_option maxHeartbeats 1000000 in
theorem r09_Depends (l : List Int) (A : Option Addr) (c : Nat) (w : World) (S : Nat → Prop) (hl : IntsL w S A l) :
    Calls Tryz.prog 22 #[.slice A l.length c] w (RetDep w) := by
  have HL := Lib.hid (hl.mono (T := fun b => b < w.heap.size) fun i hi _ => hi)
  clear hl
  go_enter Tryz.func22, Tryz.ntmps22
  go_wp2_with fail
  have hb0 := ((Blk.new w 52 #[.slice none 0 0, .string ⟨#[]⟩]).keep (Kept.alloc _ _ (.cells #[.slice A l.length c, .int .i64 0] 73))).keep (Kept.alloc _ _ (.cells names5 9))
  have hb1 := (blkAt (w.alloc (.cells #[.slice none 0 0, .string ⟨#[]⟩] 52)) 73 #[.slice A l.length c, .int .i64 0] (n := w.heap.size + 1) (by simp)).keep (Kept.alloc _ _ (.cells names5 9))
  have hb2 := blkAt ((w.alloc (.cells #[.slice none 0 0, .string ⟨#[]⟩] 52)).alloc (.cells #[.slice A l.length c, .int .i64 0] 73)) 9 names5 (n := w.heap.size + 1 + 1) (by simp)
  have hx0 : Ext w (((w.alloc (.cells #[.slice none 0 0, .string ⟨#[]⟩] 52)).alloc (.cells #[.slice A l.length c, .int .i64 0] 73)).alloc (.cells names5 9)) := (((Ext.refl w).alloc _).alloc _).alloc _
  have HB0 := Lib.hid hb0
  have HB1 := Lib.hid hb1
  have HB2 := Lib.hid hb2
  have HX0 := Lib.hid hx0
  clear hb0 hb1 hb2 hx0
  refine (Num_Next 5 (w.heap.size + 1) A l c 0 _ (fun b => b < w.heap.size) (by omega) (by omega) ⟨HB1.out, Nat.zero_le _⟩ (HL.out.keep (HX0.out.kept _)) (by omega)).mono ?_
  rintro e1 w1 ⟨r, K, rfl, hr0, hr5, hK, ho⟩
  obtain ⟨r, rfl⟩ : ∃ n : Nat, r = (n : Int) := ⟨r.toNat, by omega⟩
  obtain ⟨s, hs, hsz⟩ := names5_at r (by omega)
  have hn1 := HB2.out.keep (ho.kept (S := fun b => b = w.heap.size + 1 + 1) fun b _ e => by omega)
  have q1 := hn1.cell hs
  have hs1 : w1.heap.size = w.heap.size + 3 := by have := ho.size; simp at this; omega
  have HS1 := Lib.hid hs1
  have hx1 := HX0.out.only ho (by omega)
  have hg1 := HB0.out.keep (ho.kept (S := fun b => b = w.heap.size) fun b _ e => by omega)
  have hd1 : DC w A l.length c s none 0 [] (w1.alloc (.cells #[.slice none 0 0, .string s] 52)) :=
    ⟨hx1.alloc _, hg1.keep (Kept.alloc _ _ _), ⟨K, hK.keep (Kept.alloc _ _ _)⟩, hn1.keep (Kept.alloc _ _ _), blkAt _ _ _ hs1, OwnSs.nil _ _⟩
  have HD1 := Lib.hid hd1
  clear hd1 hx1 hg1 hn1 hs1 ho hK hs HB0 HB1 HB2 HX0
  go_wp2_with fail
  rw [HS1.out]
  obtain ⟨K1, hK1⟩ := HD1.out.num
  refine (Num_Next 4 (w.heap.size + 1) A l c K1 _ (fun b => b < w.heap.size) (by omega) (by omega) hK1 (HL.out.keep (HD1.out.ext.kept _)) (by omega)).mono ?_
  rintro e2 w2 ⟨m, K2, rfl, hm0, hm4, hK2, ho2⟩
  obtain ⟨m, rfl⟩ : ∃ n : Nat, m = (n : Int) := ⟨m.toNat, by omega⟩
  have HD2 := Lib.hid (HD1.out.next ho2 hK2)
  clear hK1 hK2 ho2 HD1 HS1 q1
  go_wp2
  go_loopw [7] (fun i wr => ∃ (k : Nat) (A' : Option Addr) (c' : Nat) (fs : List ByteArray), k ≤ m ∧ fs.length = k ∧ i = .int .i64 k ∧ DC w A l.length c s A' c' fs wr) (fun i _ => m - (intOf i).toNat)
  case atStart => exact ⟨0, none, 0, [], Nat.zero_le _, rfl, rfl, HD2.out⟩
  case round =>
    clear HD2
    obtain ⟨k, A', c', fs, hk, hfs, rfl, hdc⟩ := hrel
    by_cases hlt : k < m
    · have HD := Lib.hid hdc
      have HF := Lib.hid hfs
      clear hdc hfs
      go_upto_region 8 with fail
      refine wp_region_lin_lit (by kernel_rfl) dDep (by kernel_rfl) (SR (dInv w A l.length c s A' c' fs)) (SR.refl _) (SR.trans _) (SN stDep) (gDep w A l.length c s A' c' fs) (gDep_st _ _ _ _ _ _ _ _) 0 (SN.zero (by decide)) ⟨?_, ?_, ?_, ?_, ?_, ?_, ?_, ?_, ?_, ?_, ?_, trivial⟩ ?_
      · refine LinStep.yes fun vals γ w' ρ hR hN hp hρ hc hf hg => ⟨rfl, ?_⟩
        have hi := hR.inv ⟨by omega, fun _ => HD.out.more (Ext.refl _).drew⟩
        have e5 : ρ (.tmp 5) = .pointer (some ⟨w.heap.size + 3, 0, none⟩) := hρ 5
        clear hR hN hp hρ hi
        go_light
        go_simp
        exact ⟨γ, SR.refl _ _ _, fun _ _ _ h => h, rfl⟩
      · refine LinStep.yes fun vals γ w' ρ hR hN hp hρ hc hf hg => ⟨rfl, ?_⟩
        have hi := hR.inv ⟨by omega, fun _ => HD.out.more (Ext.refl _).drew⟩
        have e25 : ρ (.tmp 25) = _ := (hρ 25).trans (hp 0 (by decide))
        have hb := (hi.2 (by have h : γ < 3 := hN; omega)).gd
        have k0 := hb.cell (i := 0) rfl
        clear hR hN hp hρ hi hb
        go_light
        go_simp
        exact ⟨γ, SR.refl _ _ _, fun _ _ _ h => h, rfl⟩
      · refine LinStep.yes fun vals γ w' ρ hR hN hp hρ hc hf hg => ⟨rfl, ?_⟩
        have hi := hR.inv ⟨by omega, fun _ => HD.out.more (Ext.refl _).drew⟩
        have e4 : ρ (.tmp 4) = .slice (some ⟨w.heap.size + 1 + 1, 0, none⟩) 5 5 := hρ 4
        clear hR hN hp hρ hi
        go_light
        go_simp
        exact ⟨γ, SR.refl _ _ _, fun _ _ _ h => h, rfl⟩
      · refine LinStep.yes fun vals γ w' ρ hR hN hp hρ hc hf hg => ⟨rfl, ?_⟩
        have hi := hR.inv ⟨by omega, fun _ => HD.out.more (Ext.refl _).drew⟩
        have e3 : ρ (.tmp 3) = .pointer (some ⟨w.heap.size + 1, 0, none⟩) := hρ 3
        clear hR hN hp hρ hi
        go_light
        go_simp
        exact ⟨γ, SR.refl _ _ _, fun _ _ _ h => h, rfl⟩
      · refine LinStep.yes fun vals γ w' ρ hR hN hp hρ hc hf hg => ⟨rfl, ?_⟩
        have hi := hR.inv ⟨by omega, fun _ => HD.out.more (Ext.refl _).drew⟩
        have h0 : γ = 0 := by have h : γ < 1 := hN; omega
        subst h0
        have e28 : ρ (.tmp 28) = _ := (hρ 28).trans (hp 3 (by decide))
        have HI := Lib.hid (hi.2 (by omega))
        clear hR hN hp hρ hi
        go_light
        go_simp
        obtain ⟨K1, hK1⟩ := HI.out.num
        refine (Num_Next 5 (w.heap.size + 1) A l c K1 _ (fun b => b < w.heap.size) (by omega) (by omega) hK1 (HL.out.keep (HI.out.ext.kept _)) (by omega)).mono ?_
        rintro e2 w2 ⟨r, K2, rfl, hm0, hm4, hK2, ho2⟩
        obtain ⟨r, rfl⟩ : ∃ n : Nat, r = (n : Int) := ⟨r.toNat, by omega⟩
        exact ⟨_, rfl, 1, SR.up (by omega) ⟨by omega, fun _ => HI.out.next ho2 hK2⟩, SN.up (by omega) (by decide) rfl, r, rfl, by omega, by omega⟩
      · refine LinStep.yes fun vals γ w' ρ hR hN hp hρ hc hf hg => ⟨rfl, ?_⟩
        have hi := hR.inv ⟨by omega, fun _ => HD.out.more (Ext.refl _).drew⟩
        obtain ⟨r, g4, hr5, hr1⟩ := hp 4 (by decide)
        have e29 : ρ (.tmp 29) = _ := (hρ 29).trans g4
        have e27 : ρ (.tmp 27) = _ := (hρ 27).trans (hp 2 (by decide))
        have i0 : (0 : Int) ≤ (r : Int) := by omega
        have i1 : (r : Int) < 5 := by omega
        clear hR hN hp hρ hi g4
        go_light
        go_simp
        exact ⟨γ, SR.refl _ _ _, fun _ _ _ h => h, r, rfl, hr5, hr1⟩
      · refine LinStep.yes fun vals γ w' ρ hR hN hp hρ hc hf hg => ⟨rfl, ?_⟩
        have hi := hR.inv ⟨by omega, fun _ => HD.out.more (Ext.refl _).drew⟩
        obtain ⟨r, g5, hr5, hr1⟩ := hp 5 (by decide)
        have e30 : ρ (.tmp 30) = _ := (hρ 30).trans g5
        obtain ⟨t, ht, htz⟩ := names5_at r hr5
        have q := (hi.2 (by have h : γ < 2 := hN; omega)).gn.cell ht
        clear hR hN hp hρ hi g5 ht
        go_light
        go_simp
        exact ⟨γ, SR.refl _ _ _, fun _ _ _ h => h, t, rfl, htz, hr1⟩
      · refine LinStep.yes fun vals γ w' ρ hR hN hp hρ hc hf hg => ⟨rfl, ?_⟩
        have hi := hR.inv ⟨by omega, fun _ => HD.out.more (Ext.refl _).drew⟩
        obtain ⟨t, g6, htz, hr1⟩ := hp 6 (by decide)
        have h0 : γ = 1 := by have h : γ < 2 := hN; omega
        subst h0
        have e31 : ρ (.tmp 31) = _ := (hρ 31).trans g6
        have HI := Lib.hid (hi.2 (by omega))
        clear hR hN hp hρ hi g6
        go_light
        go_simp
        exact ⟨2, SR.up (by omega) ⟨by omega, fun _ => HI.out.more ((Ext.refl _).alloc _)⟩, SN.up (by omega) (by decide) rfl, t, _, rfl, htz, by omega, fun _ => Blk.new _ _ _⟩
      · refine LinStep.yes fun vals γ w' ρ hR hN hp hρ hc hf hg => ⟨rfl, ?_⟩
        have hi := hR.inv ⟨by omega, fun _ => HD.out.more (Ext.refl _).drew⟩
        obtain ⟨t, g, g7, htz, hr1, hbk⟩ := hp 7 (by decide)
        have h0 : γ = 2 := by have h : γ < 3 := hN; omega
        subst h0
        have e26 : ρ (.tmp 26) = _ := (hρ 26).trans (hp 1 (by decide))
        have e32 : ρ (.tmp 32) = _ := (hρ 32).trans g7
        have hd := hi.2 (by omega)
        refine lin_app (.tmp 26) (.tmp 32) rfl tiS e26 hd.own.1 e32 (hbk rfl).rd rfl (by simp [Value.oneCell']) (by have := HF.out; omega) (by decide) (by have h1 := hd.gd.lt; omega) ?_
        intro A4 c4 w4 hown4 hg4 hat4
        exact ⟨3, SR.up (by omega) ⟨by omega, fun h => absurd h (by omega)⟩, SN.up (by omega) (by decide) rfl, A4, c4, t, rfl, by omega, fun _ => hd.app hg4 hown4 (by omega)⟩
      · refine LinStep.yes fun vals γ w' ρ hR hN hp hρ hc hf hg => ⟨rfl, ?_⟩
        have hi := hR.inv ⟨by omega, fun _ => HD.out.more (Ext.refl _).drew⟩
        have e5 : ρ (.tmp 5) = .pointer (some ⟨w.heap.size + 3, 0, none⟩) := hρ 5
        clear hR hN hp hρ hi
        go_light
        go_simp
        exact ⟨γ, SR.refl _ _ _, fun _ _ _ h => h, rfl⟩
      · refine LinStep.yes fun vals γ w' ρ hR hN hp hρ hc hf hg => ⟨rfl, ?_⟩
        have hi := hR.inv ⟨by omega, fun _ => HD.out.more (Ext.refl _).drew⟩
        obtain ⟨A4, c4, t, g8, hr3, hda⟩ := hp 8 (by decide)
        have h0 : γ = 3 := by have h : γ < 4 := hN; omega
        subst h0
        have e33 : ρ (.tmp 33) = _ := (hρ 33).trans g8
        have e34 : ρ (.tmp 34) = _ := (hρ 34).trans (hp 9 (by decide))
        have HA := Lib.hid (hda rfl)
        obtain ⟨x, hx⟩ := (hda rfl).gd
        have k0 := hx.cell (i := 0) rfl
        have kf := hx.frozen
        have kz := hx.lt
        clear hR hN hp hρ hi g8 hda hx
        go_light
        go_simp
        refine ⟨4, SR.up (by omega) ⟨by omega, fun h => absurd h (by omega)⟩, SN.up (by omega) (by decide) rfl, by omega, fun _ => ⟨A4, c4, t, ?_⟩⟩
        have := HA.out.store
        simpa using this
      · intro vals γ w' hR hG
        have hi := hR.inv ⟨by omega, fun _ => HD.out.more (Ext.refl _).drew⟩
        obtain ⟨h4, h5⟩ := hG 10 (by decide)
        obtain ⟨A4, c4, t, hdc⟩ := h5 (by have := hi.1; omega)
        have HDC := Lib.hid hdc
        clear hR hG hi h4 h5 hdc
        simp only [lexFrame, Act.put, List.setIfInBounds_toArray, List.set_cons_succ, List.set_cons_zero, Nat.zero_add, Nat.reduceAdd]
        generalize vals 0 = u0, vals 1 = u1, vals 2 = u2, vals 3 = u3, vals 4 = u4, vals 5 = u5, vals 6 = u6, vals 7 = u7, vals 8 = u8, vals 9 = u9
        go_wp2
        go_roundw
        case rel => exact ⟨k + 1, A4, c4, fs ++ [t], by omega, by simp [HF.out], by go_num, HDC.out⟩
        case measure => simp [intOf]; omega
    · have HD := Lib.hid hdc
      have HF := Lib.hid hfs
      have g0 := hdc.gd.cell (i := 0) rfl
      have g1 := hdc.gd.cell (i := 1) rfl
      have z1 := hdc.gd.lt
      have r0 := hdc.gr.cell (i := 0) rfl
      have r1 := hdc.gr.cell (i := 1) rfl
      have rf := hdc.gr.frozen
      have rz := hdc.gr.lt
      clear hdc hfs
      go_wp2
      refine bodyPost_ret (v := .agg #[.slice A' fs.length c', .string s]) (by simp [results, Tryz.results22, go_sem, r0, r1, rf, rz]) rfl ⟨⟨fs, s⟩, A', c', rfl, by have := HF.out; show fs.length ≤ 3; omega, HD.out.own.1.cap, by show s.size ≤ _; omega, ?_, ?_⟩
      · have h1 : Strs wr (fun b => w.heap.size + 4 ≤ b) A' fs := HD.out.own.strs (by have := HF.out; omega) fun b hb => (HD.out.own.1.blk hb).1
        refine (h1.keep ?_).mono fun b _ hb => by unfold Fresh; omega
        iterate 2 with_reducible refine Kept.set2 ?_ (by show ¬ (_ ≤ _); omega)
        exact Kept.refl _ _
      · iterate 2 with_reducible refine Ext.set2 ?_ (by omega) _
        exact HD.out.ext
end Go.Proofs.YtcmmkeiiapbgcaaGreatDoor
