/- The reference's Made: a right table. Conditions: the numbers read as data. -/
import Derived.Test.YtcmmkeiiapbgcaaGreatDoorMade1
namespace Go.Proofs.YtcmmkeiiapbgcaaGreatDoor
open Go Go.RowKit

/-- The facts of the statement 't.Cols = append(t.Cols, names[k])'. -/
def cInv (w : World) (name : ByteArray) (A : Option Addr) (n c : Nat) (Ac : Option Addr) (cc : Nat) (cols : List ByteArray) (Ak : Option Addr) (ck : Nat) (ks : List Int) (t : ByteArray) (k : Nat) (γ : Nat) (w' : World) : Prop := γ ≤ 4 ∧ (γ ≤ 2 → M1 w name A n c Ac cc cols Ak ck ks w')
def gCol (w : World) (name : ByteArray) (A : Option Addr) (n c : Nat) (Ac : Option Addr) (cc : Nat) (cols : List ByteArray) (Ak : Option Addr) (ck : Nat) (ks : List Int) (t : ByteArray) (k : Nat) : Nat → List Value → Nat → World → Prop
  | 0, [v], _, _ => v = .pointer (some ⟨w.heap.size + 1 + 1, 1, none⟩)
  | 1, [v], _, _ => v = .slice Ac cols.length cc
  | 2, [v], γ, w' => ∃ g : Nat, v = .slice (some ⟨g, 0, none⟩) 4 4 ∧ 1 ≤ γ ∧ (γ = 1 → Blk w' g 9 names4A)
  | 3, [v], _, _ => v = .int .i64 (k : Int)
  | 4, [v], γ, w' => ∃ g : Nat, v = .pointer (some ⟨g, k, none⟩) ∧ 1 ≤ γ ∧ (γ = 1 → Blk w' g 9 names4A)
  | 5, [v], γ, _ => v = .string t ∧ 1 ≤ γ
  | 6, [v], γ, w' => ∃ g : Nat, v = .slice (some ⟨g, 0, none⟩) 1 1 ∧ 2 ≤ γ ∧ (γ = 2 → Blk w' g 9 #[.string t])
  | 7, [v], γ, w' => ∃ (A4 : Option Addr) (c4 : Nat), v = .slice A4 (cols.length + 1) c4 ∧ 3 ≤ γ ∧ (γ = 3 → M1A w name A n c A4 c4 (cols ++ [t]) Ak ck ks w')
  | 8, [v], _, _ => v = .pointer (some ⟨w.heap.size + 1 + 1, 1, none⟩)
  | 9, [_], γ, w' => 4 ≤ γ ∧ (γ = 4 → ∃ (A4 : Option Addr) (c4 : Nat), M1 w name A n c A4 c4 (cols ++ [t]) Ak ck ks w')
  | _, _, _, _ => True
theorem gCol_st (w : World) (name : ByteArray) (A : Option Addr) (n c : Nat) (Ac : Option Addr) (cc : Nat) (cols : List ByteArray) (Ak : Option Addr) (ck : Nat) (ks : List Int) (t : ByteArray) (k : Nat) : ∀ i l γ v γ' v', SR (cInv w name A n c Ac cc cols Ak ck ks t k) γ v γ' v' → gCol w name A n c Ac cc cols Ak ck ks t k i l γ v → gCol w name A n c Ac cc cols Ak ck ks t k i l γ' v' := by
  intro i l γ v γ' v' r h
  have hle := r.le
  unfold gCol at h ⊢
  split at h
  all_goals first
    | exact h
    | (obtain ⟨h1, h2⟩ := h; exact ⟨h1, by omega⟩)
    | (obtain ⟨x, h1, h3, h4⟩ := h; exact ⟨x, h1, by omega, fun e => by rw [r.eq (by omega)]; exact h4 (by omega)⟩)
    | (obtain ⟨x, y, h1, h3, h4⟩ := h; exact ⟨x, y, h1, by omega, fun e => by rw [r.eq (by omega)]; exact h4 (by omega)⟩)
    | (obtain ⟨h3, h4⟩ := h; exact ⟨by omega, fun e => by rw [r.eq (by omega)]; exact h4 (by omega)⟩)
def dCol : Nat → List Nat := fun i => [i]
def stCol : List Nat := [100, 3, 1, 100, 100, 2, 2, 3, 100, 4]
/-- The facts of the statement 'row = append(row, Cell(kinds[j], m.Next(5)))'. -/
def rInv (w : World) (name : ByteArray) (A : Option Addr) (n c H : Nat) (Ac : Option Addr) (cc : Nat) (cols : List ByteArray) (b ck : Nat) (ks : List Int) (Ar : Option Addr) (cr : Nat) (rows : List (List Val)) (T : Nat) (A' : Option Addr) (c' : Nat) (row : List Val) (j : Nat) (x : Int) (γ : Nat) (w' : World) : Prop := γ ≤ 4 ∧ (γ ≤ 3 → M2 w name A n c H Ac cc cols (some ⟨b, 0, none⟩) ks Ar cr rows T w' ∧ OwnVs w' T (fun b => T ≤ b) 1 A' c' row)
def gRow (w : World) (name : ByteArray) (A : Option Addr) (n c H : Nat) (Ac : Option Addr) (cc : Nat) (cols : List ByteArray) (b ck : Nat) (ks : List Int) (Ar : Option Addr) (cr : Nat) (rows : List (List Val)) (T : Nat) (A' : Option Addr) (c' : Nat) (row : List Val) (j : Nat) (x : Int) : Nat → List Value → Nat → World → Prop
  | 0, [v], _, _ => v = .slice A' row.length c'
  | 1, [v], _, _ => v = .slice (some ⟨b, 0, none⟩) ks.length ck
  | 2, [v], _, _ => v = .int .i64 (j : Int)
  | 3, [v], _, _ => v = .pointer (some ⟨b, j, none⟩)
  | 4, [v], _, _ => v = .int .i64 x
  | 5, [v], _, _ => v = .pointer (some ⟨w.heap.size + 1, 0, none⟩)
  | 6, [v], γ, _ => ∃ r : Nat, v = .int .i64 (r : Int) ∧ r < 5 ∧ 1 ≤ γ
  | 7, [v], γ, _ => ∃ (m : Nat) (y : Val), y = cellS x m ∧ v = (.agg #[.int .i64 y.kind, .string y.s, .int .i64 y.dn, .int .i64 y.ds, .int .i64 y.n, .slice none y.cols.length 0, .slice none y.rows.length 0]) ∧ m < 5 ∧ 2 ≤ γ
  | 8, [v], γ, w' => ∃ (m g : Nat), v = .slice (some ⟨g, 0, none⟩) 1 1 ∧ m < 5 ∧ 3 ≤ γ ∧ (γ = 3 → Blk w' g 33 (vcells (cellS x m) none 0 none 0).toArray)
  | 9, [v], γ, w' => ∃ (A4 : Option Addr) (c4 m : Nat), v = .slice A4 (row.length + 1) c4 ∧ m < 5 ∧ 4 ≤ γ ∧ (γ = 4 → M2 w name A n c H Ac cc cols (some ⟨b, 0, none⟩) ks Ar cr rows T w' ∧ OwnVs w' T (fun b => T ≤ b) 1 A4 c4 (row ++ [cellS x m]))
  | 10, [v], γ, w' => ∃ (A4 : Option Addr) (c4 m : Nat), v = .slice A4 (row.length + 1) c4 ∧ m < 5 ∧ 4 ≤ γ ∧ (γ = 4 → M2 w name A n c H Ac cc cols (some ⟨b, 0, none⟩) ks Ar cr rows T w' ∧ OwnVs w' T (fun b => T ≤ b) 1 A4 c4 (row ++ [cellS x m]))
  | _, _, _, _ => True
theorem gRow_st (w : World) (name : ByteArray) (A : Option Addr) (n c H : Nat) (Ac : Option Addr) (cc : Nat) (cols : List ByteArray) (b ck : Nat) (ks : List Int) (Ar : Option Addr) (cr : Nat) (rows : List (List Val)) (T : Nat) (A' : Option Addr) (c' : Nat) (row : List Val) (j : Nat) (x : Int) : ∀ i l γ v γ' v', SR (rInv w name A n c H Ac cc cols b ck ks Ar cr rows T A' c' row j x) γ v γ' v' → gRow w name A n c H Ac cc cols b ck ks Ar cr rows T A' c' row j x i l γ v → gRow w name A n c H Ac cc cols b ck ks Ar cr rows T A' c' row j x i l γ' v' := by
  intro i l γ v γ' v' r h
  have hle := r.le
  unfold gRow at h ⊢
  split at h
  all_goals first
    | exact h
    | (obtain ⟨x, h1, h2, h3⟩ := h; exact ⟨x, h1, h2, by omega⟩)
    | (obtain ⟨x, y, h1, h2, h3, h4⟩ := h; exact ⟨x, y, h1, h2, h3, by omega⟩)
    | (obtain ⟨x, y, h1, h2, h3, h4⟩ := h; exact ⟨x, y, h1, h2, by omega, fun e => by rw [r.eq (by omega)]; exact h4 (by omega)⟩)
    | (obtain ⟨x, y, z, h1, h2, h3, h4⟩ := h; exact ⟨x, y, z, h1, h2, by omega, fun e => by rw [r.eq (by omega)]; exact h4 (by omega)⟩)
def dRow : Nat → List Nat := fun i => [i]
def stRow : List Nat := [100, 100, 100, 100, 2, 100, 1, 2, 3, 4, 100]
theorem cellS_flat (x : Int) (m : Nat) : flatV (cellS x m) := by
  unfold cellS
  repeat' split
  all_goals first | exact ⟨rfl, rfl, Nat.zero_le _⟩ | exact ⟨rfl, rfl, by decide⟩
def kindsA : Array Value := #[.int .i64 1, .int .i64 2, .int .i64 1, .int .i64 3]
theorem kinds_at (k : Nat) (hk : k < 4) : ∃ x : Int, kindsA[k]? = some (.int .i64 x) ∧ (x = 1 ∨ x = 2 ∨ x = 3) := by
  match k, hk with
  | 0, _ => exact ⟨1, rfl, by omega⟩
  | 1, _ => exact ⟨2, rfl, by omega⟩
  | 2, _ => exact ⟨1, rfl, by omega⟩
  | 3, _ => exact ⟨3, rfl, by omega⟩
  | n + 4, h => omega
set_option maxRecDepth 100000 in
set_option maxHeartbeats 2000000 in
theorem r09_Made (name : ByteArray) (l : List Int) (A : Option Addr) (c : Nat) (w : World) (S : Nat → Prop) (hl : IntsL w S A l) (hname : name.size ≤ 4294967296) :
    Calls Tryz.prog 9 #[.string name, .slice A l.length c] w (RetMade w name) := by
  have HL := Lib.hid (hl.mono (T := fun b => b < w.heap.size) fun i hi _ => hi)
  clear hl
  go_enter Tryz.func9, Tryz.ntmps9
  go_wp2_with fail
  have hm0 : M1 w name A l.length c none 0 [] none 0 [] (((w.alloc (.cells #[.string ⟨#[]⟩, .slice none 0 0, .slice none 0 0] 28)).alloc (.cells #[.slice A l.length c, .int .i64 0] 73)).alloc (.cells #[.string name, .slice none 0 0, .slice none 0 0] 28)) :=
    ⟨(((Ext.refl w).alloc _).alloc _).alloc _, ((Blk.new w 28 #[.string ⟨#[]⟩, .slice none 0 0, .slice none 0 0]).keep (Kept.alloc _ _ _)).keep (Kept.alloc _ _ _), ⟨0, (blkAt _ _ _ (by simp)).keep (Kept.alloc _ _ _), Nat.zero_le _⟩, blkAt _ _ _ (by simp), OwnSs.nil _ _, OwnIs.nil _ _, fun b hb => by cases hb⟩
  have HM0 := Lib.hid hm0
  clear hm0
  obtain ⟨K0, hK0⟩ := HM0.out.num
  refine (Num_Next 4 (w.heap.size + 1) A l c K0 _ (fun b => b < w.heap.size) (by omega) (by omega) hK0 (HL.out.keep (HM0.out.ext.kept _)) (by omega)).mono ?_
  rintro e1 w1 ⟨r, K1, rfl, hr0, hr4, hK1, ho1⟩
  obtain ⟨r, rfl⟩ : ∃ n : Nat, r = (n : Int) := ⟨r.toNat, by omega⟩
  have HM1 := Lib.hid (HM0.out.next ho1 hK1)
  clear hK0 hK1 ho1 HM0
  go_wp2
  go_loopw [9, 8] (fun i v wr => ∃ (k : Nat) (Ac : Option Addr) (cc : Nat) (Ak : Option Addr) (ck : Nat) (ks : List Int), k ≤ 1 + r ∧ i = .int .i64 k ∧ ks.length = k ∧ v = .slice Ak k ck ∧ (∀ x ∈ ks, x = 1 ∨ x = 2 ∨ x = 3) ∧ M1 w name A l.length c Ac cc (names4.take k) Ak ck ks wr) (fun i _ _ => 1 + r - (intOf i).toNat)
  case atStart => exact ⟨0, none, 0, none, 0, [], Nat.zero_le _, rfl, rfl, rfl, by simp, HM1.out⟩
  case round =>
    clear HM1
    obtain ⟨k, Ac, cc, Ak, ck, ks, hk, rfl, hkl, rfl, hks, hm⟩ := hrel
    obtain ⟨cols, hcols⟩ : ∃ cols, cols = names4.take k := ⟨_, rfl⟩
    rw [← hcols] at hm
    have HM := Lib.hid hm
    have HKL := Lib.hid hkl
    have HKS := Lib.hid hks
    have HCO := Lib.hid hcols
    clear hm hkl hks hcols
    by_cases hlt : k < 1 + r
    · obtain ⟨hk4, ht, htz⟩ := names4_at k (by omega)
      obtain ⟨t, htt⟩ : ∃ t, t = names4[k] := ⟨_, rfl⟩
      rw [← htt] at ht htz
      have HT := Lib.hid ht
      have HTZ := Lib.hid htz
      have HTT := Lib.hid htt
      have HCL := Lib.hid (show cols.length = k by rw [HCO.out, List.length_take]; have : names4.length = 4 := rfl; omega)
      clear ht htz htt
      go_upto_region 8 with fail
      refine wp_region_lin_lit (by kernel_rfl) dCol (by kernel_rfl) (SR (cInv w name A l.length c Ac cc cols Ak ck ks t k)) (SR.refl _) (SR.trans _) (SN stCol) (gCol w name A l.length c Ac cc cols Ak ck ks t k) (gCol_st _ _ _ _ _ _ _ _ _ _ _ _ _) 0 (SN.zero (by decide)) ⟨?_, ?_, ?_, ?_, ?_, ?_, ?_, ?_, ?_, ?_, trivial⟩ ?_
      · refine LinStep.yes fun vals γ w' ρ hR hN hp hρ hc hf hg => ⟨rfl, ?_⟩
        have hi := hR.inv ⟨by omega, fun _ => HM.out.more (Ext.refl _).drew⟩
        have e6 : ρ (.tmp 6) = .pointer (some ⟨w.heap.size + 1 + 1, 0, none⟩) := hρ 6
        clear hR hN hp hρ hi
        go_light
        go_simp
        exact ⟨γ, SR.refl _ _ _, fun _ _ _ h => h, rfl⟩
      · refine LinStep.yes fun vals γ w' ρ hR hN hp hρ hc hf hg => ⟨rfl, ?_⟩
        have hi := hR.inv ⟨by omega, fun _ => HM.out.more (Ext.refl _).drew⟩
        have e27 : ρ (.tmp 27) = _ := (hρ 27).trans (hp 0 (by decide))
        have hb := (hi.2 (by have h : γ < 3 := hN; omega)).gt
        have k1 := hb.cell (i := 1) rfl
        clear hR hN hp hρ hi hb
        go_light
        go_simp
        exact ⟨γ, SR.refl _ _ _, fun _ _ _ h => h, rfl⟩
      · refine LinStep.yes fun vals γ w' ρ hR hN hp hρ hc hf hg => ⟨rfl, ?_⟩
        have hi := hR.inv ⟨by omega, fun _ => HM.out.more (Ext.refl _).drew⟩
        have h0 : γ = 0 := by have h : γ < 1 := hN; omega
        subst h0
        have HI := Lib.hid (hi.2 (by omega))
        clear hR hN hp hρ hi
        go_light
        go_simp
        exact ⟨1, SR.up (by omega) ⟨by omega, fun _ => HI.out.more ((Ext.refl _).alloc _)⟩, SN.up (by omega) (by decide) rfl, _, rfl, by omega, fun _ => Blk.new _ _ _⟩
      · refine LinStep.yes fun vals γ w' ρ hR hN hp hρ hc hf hg => ⟨rfl, ?_⟩
        have hi := hR.inv ⟨by omega, fun _ => HM.out.more (Ext.refl _).drew⟩
        have e9 : ρ (.tmp 9) = .int .i64 (k : Int) := hρ 9
        clear hR hN hp hρ hi
        go_light
        go_simp
        exact ⟨γ, SR.refl _ _ _, fun _ _ _ h => h, rfl⟩
      · refine LinStep.yes fun vals γ w' ρ hR hN hp hρ hc hf hg => ⟨rfl, ?_⟩
        have hi := hR.inv ⟨by omega, fun _ => HM.out.more (Ext.refl _).drew⟩
        obtain ⟨g, g2, hr1, hbk⟩ := hp 2 (by decide)
        have e29 : ρ (.tmp 29) = _ := (hρ 29).trans g2
        have e30 : ρ (.tmp 30) = _ := (hρ 30).trans (hp 3 (by decide))
        have i0 : (0 : Int) ≤ (k : Int) := by omega
        have i1 : (k : Int) < 4 := by omega
        have HBK := Lib.hid hbk
        clear hR hN hp hρ hi g2 hbk
        go_light
        go_simp
        exact ⟨γ, SR.refl _ _ _, fun _ _ _ h => h, g, rfl, hr1, HBK.out⟩
      · refine LinStep.yes fun vals γ w' ρ hR hN hp hρ hc hf hg => ⟨rfl, ?_⟩
        have hi := hR.inv ⟨by omega, fun _ => HM.out.more (Ext.refl _).drew⟩
        obtain ⟨g, g4, hr1, hbk⟩ := hp 4 (by decide)
        have e31 : ρ (.tmp 31) = _ := (hρ 31).trans g4
        have q := (hbk (by have h : γ < 2 := hN; omega)).cell HT.out
        clear hR hN hp hρ hi g4 hbk
        go_light
        go_simp
        exact ⟨γ, SR.refl _ _ _, fun _ _ _ h => h, rfl, hr1⟩
      · refine LinStep.yes fun vals γ w' ρ hR hN hp hρ hc hf hg => ⟨rfl, ?_⟩
        have hi := hR.inv ⟨by omega, fun _ => HM.out.more (Ext.refl _).drew⟩
        obtain ⟨g5, hr1⟩ := hp 5 (by decide)
        have h0 : γ = 1 := by have h : γ < 2 := hN; omega
        subst h0
        have e32 : ρ (.tmp 32) = _ := (hρ 32).trans g5
        have HI := Lib.hid (hi.2 (by omega))
        clear hR hN hp hρ hi g5
        go_light
        go_simp
        exact ⟨2, SR.up (by omega) ⟨by omega, fun _ => HI.out.more ((Ext.refl _).alloc _)⟩, SN.up (by omega) (by decide) rfl, _, rfl, by omega, fun _ => Blk.new _ _ _⟩
      · refine LinStep.yes fun vals γ w' ρ hR hN hp hρ hc hf hg => ⟨rfl, ?_⟩
        have hi := hR.inv ⟨by omega, fun _ => HM.out.more (Ext.refl _).drew⟩
        obtain ⟨g, g6, hr1, hbk⟩ := hp 6 (by decide)
        have h0 : γ = 2 := by have h : γ < 3 := hN; omega
        subst h0
        have e28 : ρ (.tmp 28) = _ := (hρ 28).trans (hp 1 (by decide))
        have e33 : ρ (.tmp 33) = _ := (hρ 33).trans g6
        have hd := hi.2 (by omega)
        refine lin_app (.tmp 28) (.tmp 33) rfl tiS e28 hd.ownC.1 e33 (hbk rfl).rd rfl (by simp [Value.oneCell']) (by have := HCL.out; omega) (by decide) (by have h1 := hd.gt.lt; omega) ?_
        intro A4 c4 w4 hown4 hg4 hat4
        exact ⟨3, SR.up (by omega) ⟨by omega, fun h => absurd h (by omega)⟩, SN.up (by omega) (by decide) rfl, A4, c4, rfl, by omega, fun _ => hd.app hg4 hown4 hat4 (by have := HTZ.out; omega)⟩
      · refine LinStep.yes fun vals γ w' ρ hR hN hp hρ hc hf hg => ⟨rfl, ?_⟩
        have hi := hR.inv ⟨by omega, fun _ => HM.out.more (Ext.refl _).drew⟩
        have e6 : ρ (.tmp 6) = .pointer (some ⟨w.heap.size + 1 + 1, 0, none⟩) := hρ 6
        clear hR hN hp hρ hi
        go_light
        go_simp
        exact ⟨γ, SR.refl _ _ _, fun _ _ _ h => h, rfl⟩
      · refine LinStep.yes fun vals γ w' ρ hR hN hp hρ hc hf hg => ⟨rfl, ?_⟩
        have hi := hR.inv ⟨by omega, fun _ => HM.out.more (Ext.refl _).drew⟩
        obtain ⟨A4, c4, g7, hr3, hda⟩ := hp 7 (by decide)
        have h0 : γ = 3 := by have h : γ < 4 := hN; omega
        subst h0
        have e34 : ρ (.tmp 34) = _ := (hρ 34).trans g7
        have e35 : ρ (.tmp 35) = _ := (hρ 35).trans (hp 8 (by decide))
        have HA := Lib.hid (hda rfl)
        obtain ⟨x, hx⟩ := (hda rfl).gt
        have k0 := hx.cell (i := 1) rfl
        have kf := hx.frozen
        have kz := hx.lt
        clear hR hN hp hρ hi g7 hda hx
        go_light
        go_simp
        refine ⟨4, SR.up (by omega) ⟨by omega, fun h => absurd h (by omega)⟩, SN.up (by omega) (by decide) rfl, by omega, fun _ => ⟨A4, c4, ?_⟩⟩
        have := HA.out.store
        simpa using this
      · intro vals γ w' hR hG
        have hi := hR.inv ⟨by omega, fun _ => HM.out.more (Ext.refl _).drew⟩
        obtain ⟨h4, h5⟩ := hG 9 (by decide)
        obtain ⟨A4, c4, hm1⟩ := h5 (by have := hi.1; omega)
        have HM1 := Lib.hid hm1
        clear hR hG hi h4 h5 hm1
        simp only [lexFrame, Act.put, List.setIfInBounds_toArray, List.set_cons_succ, List.set_cons_zero, Nat.zero_add, Nat.reduceAdd]
        generalize vals 0 = u0, vals 1 = u1, vals 2 = u2, vals 3 = u3, vals 4 = u4, vals 5 = u5, vals 6 = u6, vals 7 = u7, vals 8 = u8, vals 9 = u9
        go_wp2_with fail
        have HM2 := Lib.hid (HM1.out.more ((Ext.refl _).alloc (.cells kindsA 3)))
        obtain ⟨K2, hK2⟩ := HM2.out.num
        refine (Num_Next 2 (w.heap.size + 1) A l c K2 _ (fun b => b < w.heap.size) (by omega) (by omega) hK2 (HL.out.keep (HM2.out.ext.kept _)) (by omega)).mono ?_
        rintro e3 w3 ⟨r3, K3, rfl, hr30, hr32, hK3, ho3⟩
        obtain ⟨r3, rfl⟩ : ∃ n : Nat, r3 = (n : Int) := ⟨r3.toNat, by omega⟩
        have HM3 := Lib.hid (HM2.out.next ho3 hK3)
        obtain ⟨x, hx, hx3⟩ := kinds_at ((k + r3 * 2) % 4) (by omega)
        have hbk : Blk w3 w'.heap.size 3 kindsA := (Blk.new w' 3 kindsA).keep (ho3.kept fun b _ e => by have := HM1.out.gt.lt; omega)
        have q := hbk.cell hx
        have hmd : ((k : Int) + (r3 : Int) * 2) % 4 = (((k + r3 * 2) % 4 : Nat) : Int) := by omega
        obtain ⟨m, hmm⟩ : ∃ m, m = (k + r3 * 2) % 4 := ⟨_, rfl⟩
        rw [← hmm] at q hmd
        have hm4 : m < 4 := by omega
        have HX3 := Lib.hid hx3
        have hok := Own.ext HM3.out.ownK ((Ext.refl w3).alloc (.cells #[.int .i64 x] 3))
        rw [HKL.out] at hok
        have HOK := Lib.hid hok
        have hsz3 : w.heap.size + 3 ≤ w3.heap.size := by have := HM3.out.gt.lt; omega
        clear hK2 hK3 ho3 hbk hx hx3 hmm hok HM HM1 HM2
        go_wp2_with (at_builtin; go_must (refine wpList_app rfl (.tmp 36) (.tmp 46) rfl tiI rfl HOK.out rfl (Blk.rd (Blk.new _ _ _)) rfl (by simp [Value.oneCell']) (by omega) (by decide) (by simp; omega) ?_); intro A5 c5 w5 hown5 hg5 hat5)
        go_roundw
        case rel =>
          refine ⟨k + 1, A4, c4, A5, c5, ks ++ [x], by omega, by go_num, by simp [HKL.out], rfl, ?_, ?_⟩
          · intro y hy
            rcases List.mem_append.1 hy with hy | hy
            · exact HKS.out y hy
            · simp at hy; subst hy; exact HX3.out
          · have h1 := (HM3.out.more ((Ext.refl w3).alloc (.cells #[.int .i64 x] 3))).appK hg5 (by rw [HKL.out]; exact hown5) hat5
            rw [List.take_succ_eq_append_getElem hk4, ← HCO.out, ← HTT.out]
            exact h1
        case measure => simp [intOf]; omega
    · obtain rfl : k = 1 + r := by omega
      have h1 := HM.out.ownK
      have hkl := HKL.out
      rcases h1.2 with ⟨hv, hn⟩ | ⟨g, cap, cur, hv, hb, hh, hnc, hcm, hcs, ht⟩
      · exact absurd hn (by omega)
      · obtain ⟨rfl, rfl⟩ : Ak = some ⟨g, 0, none⟩ ∧ ck = cap := by injection hv with h1 _ h2; exact ⟨h1, h2⟩
        have hbk : Blk wr g 3 cur := hh
        obtain ⟨b, o, hA, -, -, hc⟩ := (Own.rd h1).some_ (by intro e; rw [List.map_eq_nil_iff] at e; rw [e] at hkl; simp at hkl; omega)
        obtain ⟨rfl, rfl⟩ : b = g ∧ o = 0 := by injection hA with hA; injection hA with h1 h2; exact ⟨h1.symm, h2.symm⟩
        obtain ⟨x0, q0⟩ : ∃ x0, wr.cell? ⟨b, 0, none⟩ = some x0 := ⟨_, hc 0 (.int .i64 (ks[0]'(by omega))) (by simp)⟩
        have qf := hbk.frozen
        have qz := hbk.lt
        have HS := Lib.hid (HM.out.start (by omega) (by rw [HCO.out, List.length_take]; omega))
        clear h1 hkl hv hb hh hnc hcm hcs ht hbk hA hc
        go_wp2_with fail
        obtain ⟨K2, hK2⟩ := HS.out.num
        refine (Num_Next 7 (w.heap.size + 1) A l c K2 _ (fun b => b < w.heap.size) (by omega) (by omega) hK2 (HL.out.keep (HS.out.ext.kept _)) (by omega)).mono ?_
        rintro e3 w3 ⟨R, K3, rfl, hR0, hR7, hK3, ho3⟩
        obtain ⟨R, rfl⟩ : ∃ n : Nat, R = (n : Int) := ⟨R.toNat, by omega⟩
        have HM3 := Lib.hid (HS.out.next ho3 hK3)
        obtain ⟨ks2, hks2⟩ : ∃ ks2, ks2 = ks.set 0 1 := ⟨_, rfl⟩
        rw [← hks2] at HM3
        have HK2 := Lib.hid hks2
        have HKL2 := Lib.hid (show ks2.length = 1 + r by rw [hks2, List.length_set]; exact HKL.out)
        obtain ⟨H, hH⟩ : ∃ H, H = wr.heap.size := ⟨_, rfl⟩
        rw [← hH] at HM3
        clear hK2 hK3 ho3 HS hks2 hH
        go_wp2
        go_loopw [11] (fun i wr => ∃ (k : Nat) (Ar : Option Addr) (cr : Nat) (rows : List (List Val)) (T : Nat), k ≤ R ∧ i = .int .i64 k ∧ rows.length = k ∧ (∀ x ∈ rows, rowK ks2 x) ∧ M2 w name A l.length c H Ac cc cols (some ⟨b, 0, none⟩) ks2 Ar cr rows T wr) (fun i _ => R - (intOf i).toNat)
        case atStart => exact ⟨0, none, 0, [], H, Nat.zero_le _, rfl, rfl, by simp, HM3.out⟩
        case round =>
          clear HM3
          obtain ⟨k, Ar, cr, rows, T, hk, rfl, hrl, hrk, hm⟩ := hrel
          have HM := Lib.hid hm
          have HRL := Lib.hid hrl
          have HRK := Lib.hid hrk
          clear hm hrl hrk
          by_cases hlt : k < R
          · go_wp2
            obtain ⟨wo, rfl⟩ : ∃ wo : World, wo = wr := ⟨_, rfl⟩
            have HMO := Lib.hid (HM.out.raise HM.out.high (Nat.le_refl _))
            clear HM
            go_loopw [13, 12] (fun i v wi => ∃ (j : Nat) (A' : Option Addr) (c' : Nat) (row : List Val), j ≤ 1 + r ∧ i = .int .i64 j ∧ row.length = j ∧ v = .slice A' j c' ∧ (∀ (q : Nat) (h : q < row.length) (h' : q < ks2.length), ∃ m : Nat, m < 5 ∧ row[q] = cellS ks2[q] m) ∧ M2 w name A l.length c H Ac cc cols (some ⟨b, 0, none⟩) ks2 Ar cr rows wo.heap.size wi ∧ OwnVs wi wo.heap.size (fun b => wo.heap.size ≤ b) 1 A' c' row) (fun i _ _ => 1 + r - (intOf i).toNat)
            case atStart => exact ⟨0, none, 0, [], Nat.zero_le _, rfl, rfl, rfl, fun q h => absurd h (by simp), HMO.out, OwnVs.nil _ _ _ _⟩
            case round =>
              clear HMO
              obtain ⟨j, A', c', row, hj, rfl, hrl, rfl, hrk, hm2, hov⟩ := hrel
              have HM2 := Lib.hid hm2
              have HROW := Lib.hid hrl
              have HRK2 := Lib.hid hrk
              have HOV := Lib.hid hov
              clear hm2 hrl hrk hov
              by_cases hltj : j < 1 + r
              · have hjk : j < ks2.length := by have := HKL2.out; omega
                obtain ⟨x, hx⟩ : ∃ x, x = ks2[j] := ⟨_, rfl⟩
                have HX := Lib.hid hx
                obtain ⟨T0, hT0⟩ : ∃ T0, T0 = wo.heap.size := ⟨_, rfl⟩
                rw [← hT0] at HM2 HOV
                have HT0 := Lib.hid hT0
                clear hx hT0
                go_upto_region 19 with fail
                refine wp_region_lin_lit (by kernel_rfl) dRow (by kernel_rfl) (SR (rInv w name A l.length c H Ac cc cols b ck ks2 Ar cr rows T0 A' c' row j x)) (SR.refl _) (SR.trans _) (SN stRow) (gRow w name A l.length c H Ac cc cols b ck ks2 Ar cr rows T0 A' c' row j x) (gRow_st _ _ _ _ _ _ _ _ _ _ _ _ _ _ _ _ _ _ _ _ _) 0 (SN.zero (by decide)) ⟨?_, ?_, ?_, ?_, ?_, ?_, ?_, ?_, ?_, ?_, ?_, trivial⟩ ?_
                · refine LinStep.yes fun vals γ w' ρ hR hN hp hρ hc hf hg => ⟨rfl, ?_⟩
                  have hi := hR.inv ⟨by omega, fun _ => ⟨HM2.out.more (Ext.refl _).drew, HOV.out.ext (Ext.refl _).drew⟩⟩
                  have e12 : ρ (.tmp 12) = .slice A' row.length c' := by rw [HROW.out]; exact hρ 12
                  clear hR hN hp hρ hi
                  go_light
                  go_simp
                  exact ⟨γ, SR.refl _ _ _, fun _ _ _ h => h, rfl⟩
                · refine LinStep.yes fun vals γ w' ρ hR hN hp hρ hc hf hg => ⟨rfl, ?_⟩
                  have hi := hR.inv ⟨by omega, fun _ => ⟨HM2.out.more (Ext.refl _).drew, HOV.out.ext (Ext.refl _).drew⟩⟩
                  have e8 : ρ (.tmp 8) = .slice (some ⟨b, 0, none⟩) ks2.length ck := by rw [HKL2.out]; exact hρ 8
                  clear hR hN hp hρ hi
                  go_light
                  go_simp
                  exact ⟨γ, SR.refl _ _ _, fun _ _ _ h => h, rfl⟩
                · refine LinStep.yes fun vals γ w' ρ hR hN hp hρ hc hf hg => ⟨rfl, ?_⟩
                  have hi := hR.inv ⟨by omega, fun _ => ⟨HM2.out.more (Ext.refl _).drew, HOV.out.ext (Ext.refl _).drew⟩⟩
                  have e13 : ρ (.tmp 13) = .int .i64 (j : Int) := hρ 13
                  clear hR hN hp hρ hi
                  go_light
                  go_simp
                  exact ⟨γ, SR.refl _ _ _, fun _ _ _ h => h, rfl⟩
                · refine LinStep.yes fun vals γ w' ρ hR hN hp hρ hc hf hg => ⟨rfl, ?_⟩
                  have hi := hR.inv ⟨by omega, fun _ => ⟨HM2.out.more (Ext.refl _).drew, HOV.out.ext (Ext.refl _).drew⟩⟩
                  have e63 : ρ (.tmp 63) = _ := (hρ 63).trans (hp 1 (by decide))
                  have e64 : ρ (.tmp 64) = _ := (hρ 64).trans (hp 2 (by decide))
                  have i0 : (0 : Int) ≤ (j : Int) := by omega
                  have i1 : (j : Int) < (ks2.length : Int) := by omega
                  clear hR hN hp hρ hi
                  go_light
                  go_simp
                  exact ⟨γ, SR.refl _ _ _, fun _ _ _ h => h, by simp [gRow, dRow, setV]⟩
                · refine LinStep.yes fun vals γ w' ρ hR hN hp hρ hc hf hg => ⟨rfl, ?_⟩
                  have hi := hR.inv ⟨by omega, fun _ => ⟨HM2.out.more (Ext.refl _).drew, HOV.out.ext (Ext.refl _).drew⟩⟩
                  have e65 : ρ (.tmp 65) = _ := (hρ 65).trans (hp 3 (by decide))
                  obtain ⟨b', o', hA, -, q⟩ := (hi.2 (by have h : γ < 2 := hN; omega)).1.ks.at_ hjk
                  obtain ⟨rfl, rfl⟩ : b' = b ∧ o' = 0 := by injection hA with hA; injection hA with h1 h2; exact ⟨h1.symm, h2.symm⟩
                  rw [Nat.zero_add, ← HX.out] at q
                  clear hR hN hp hρ hi hA
                  go_light
                  go_simp
                  exact ⟨γ, SR.refl _ _ _, fun _ _ _ h => h, rfl⟩
                · refine LinStep.yes fun vals γ w' ρ hR hN hp hρ hc hf hg => ⟨rfl, ?_⟩
                  have hi := hR.inv ⟨by omega, fun _ => ⟨HM2.out.more (Ext.refl _).drew, HOV.out.ext (Ext.refl _).drew⟩⟩
                  have e5 : ρ (.tmp 5) = .pointer (some ⟨w.heap.size + 1, 0, none⟩) := hρ 5
                  clear hR hN hp hρ hi
                  go_light
                  go_simp
                  exact ⟨γ, SR.refl _ _ _, fun _ _ _ h => h, rfl⟩
                · refine LinStep.yes fun vals γ w' ρ hR hN hp hρ hc hf hg => ⟨rfl, ?_⟩
                  have hi := hR.inv ⟨by omega, fun _ => ⟨HM2.out.more (Ext.refl _).drew, HOV.out.ext (Ext.refl _).drew⟩⟩
                  have h0 : γ = 0 := by have h : γ < 1 := hN; omega
                  subst h0
                  have e67 : ρ (.tmp 67) = _ := (hρ 67).trans (hp 5 (by decide))
                  have HI := Lib.hid (hi.2 (by omega))
                  clear hR hN hp hρ hi
                  go_light
                  go_simp
                  obtain ⟨K1, hK1⟩ := HI.out.1.num
                  refine (Num_Next 5 (w.heap.size + 1) A l c K1 _ (fun b => b < w.heap.size) (by omega) (by omega) hK1 (HL.out.keep (HI.out.1.ext.kept _)) (by omega)).mono ?_
                  rintro e2 w2 ⟨r5, K2, rfl, hm0, hm4, hK2, ho2⟩
                  obtain ⟨r5, rfl⟩ : ∃ n : Nat, r5 = (n : Int) := ⟨r5.toNat, by omega⟩
                  have hlow := HI.out.1.low
                  have hmid := HI.out.1.mid
                  exact ⟨_, rfl, 1, SR.up (by omega) ⟨by omega, fun _ => ⟨HI.out.1.next ho2 hK2, HI.out.2.keep (ho2.kept fun b _ hb => hb.elim (fun hb => by have := (HI.out.2.blk hb).1; omega) (fun hb => by omega))⟩⟩, SN.up (by omega) (by decide) rfl, r5, rfl, by omega, by omega⟩
                · refine LinStep.yes fun vals γ w' ρ hR hN hp hρ hc hf hg => ⟨rfl, ?_⟩
                  have hi := hR.inv ⟨by omega, fun _ => ⟨HM2.out.more (Ext.refl _).drew, HOV.out.ext (Ext.refl _).drew⟩⟩
                  obtain ⟨r5, g6, hr5, hr1⟩ := hp 6 (by decide)
                  have h0 : γ = 1 := by have h : γ < 2 := hN; omega
                  subst h0
                  have e66 : ρ (.tmp 66) = _ := (hρ 66).trans (hp 4 (by decide))
                  have e68 : ρ (.tmp 68) = _ := (hρ 68).trans g6
                  have HI := Lib.hid (hi.2 (by omega))
                  have HR5 := Lib.hid (show ((r5 : Int).tmod 5 + 5).tmod 5 = (r5 : Int) by rw [show (r5 : Int).tmod 5 = (r5 : Int) % 5 from Int.tmod_eq_emod_of_nonneg (by omega), Int.tmod_eq_emod_of_nonneg (by omega)]; omega)
                  clear hR hN hp hρ hi g6
                  go_light
                  go_simp
                  exact (r09_Cell x (r5 : Int) _ r5 HR5.out).mono fun e' w3 ⟨he, hx3⟩ => ⟨_, he, 2, SR.up (by omega) ⟨by omega, fun _ => ⟨HI.out.1.more hx3, HI.out.2.ext hx3⟩⟩, SN.up (by omega) (by decide) rfl, r5, _, rfl, rfl, hr5, by omega⟩
                · refine LinStep.yes fun vals γ w' ρ hR hN hp hρ hc hf hg => ⟨rfl, ?_⟩
                  have hi := hR.inv ⟨by omega, fun _ => ⟨HM2.out.more (Ext.refl _).drew, HOV.out.ext (Ext.refl _).drew⟩⟩
                  obtain ⟨m, y, hy, g7, hm5, hr1⟩ := hp 7 (by decide)
                  have h0 : γ = 2 := by have h : γ < 3 := hN; omega
                  subst h0
                  have e69 : ρ (.tmp 69) = _ := (hρ 69).trans g7
                  have HI := Lib.hid (hi.2 (by omega))
                  have HY := Lib.hid hy
                  clear hR hN hp hρ hi g7 hy
                  go_light
                  go_simp
                  refine ⟨3, SR.up (by omega) ⟨by omega, fun _ => ⟨HI.out.1.more ((Ext.refl _).alloc _), HI.out.2.ext ((Ext.refl _).alloc _)⟩⟩, SN.up (by omega) (by decide) rfl, m, _, rfl, hm5, by omega, fun _ => ?_⟩
                  rw [← HY.out]
                  exact Blk.new _ _ _
                · refine LinStep.yes fun vals γ w' ρ hR hN hp hρ hc hf hg => ⟨rfl, ?_⟩
                  have hi := hR.inv ⟨by omega, fun _ => ⟨HM2.out.more (Ext.refl _).drew, HOV.out.ext (Ext.refl _).drew⟩⟩
                  obtain ⟨m, g, g8, hm5, hr1, hbk⟩ := hp 8 (by decide)
                  have h0 : γ = 3 := by have h : γ < 4 := hN; omega
                  subst h0
                  have e62 : ρ (.tmp 62) = _ := (hρ 62).trans (hp 0 (by decide))
                  have e70 : ρ (.tmp 70) = _ := (hρ 70).trans g8
                  have hd := hi.2 (by omega)
                  obtain ⟨xs, hown, hvl⟩ := hd.2
                  have hfl := cellS_flat x m
                  have hhi := hd.1.high
                  refine lin_app (.tmp 62) (.tmp 70) rfl tiV e62 hown e70 (hbk rfl).rd rfl vcells_one (by have := HROW.out; omega) (by decide) hhi ?_
                  intro A4 c4 w4 hown4 hg4 hat4
                  exact ⟨4, SR.up (by omega) ⟨by omega, fun h => absurd h (by omega)⟩, SN.up (by omega) (by decide) rfl, A4, c4, m, rfl, hm5, by omega, fun _ => ⟨hd.1.grown hg4 fun b hb => (hown.blk hb).1, OwnVs.push hvl hown4 hg4 hat4 ⟨by omega, by rw [hfl.1]; exact Nat.zero_le _, by rw [hfl.2.1]; exact Nat.zero_le _⟩ (RV.mk hfl.2.2 (by rw [hfl.1]; exact Strs.nil) (by rw [hfl.2.1]; exact Rows.nil))⟩⟩
                · refine LinStep.yes fun vals γ w' ρ hR hN hp hρ hc hf hg => ⟨rfl, ?_⟩
                  have hi := hR.inv ⟨by omega, fun _ => ⟨HM2.out.more (Ext.refl _).drew, HOV.out.ext (Ext.refl _).drew⟩⟩
                  obtain ⟨A4, c4, m, g9, hm5, hr1, hbk⟩ := hp 9 (by decide)
                  have e71 : ρ (.tmp 71) = _ := (hρ 71).trans g9
                  have HBK := Lib.hid hbk
                  clear hR hN hp hρ hi g9 hbk
                  go_light
                  go_simp
                  exact ⟨γ, SR.refl _ _ _, fun _ _ _ h => h, A4, c4, m, rfl, hm5, hr1, HBK.out⟩
                · intro vals γ w' hR hG
                  have hi := hR.inv ⟨by omega, fun _ => ⟨HM2.out.more (Ext.refl _).drew, HOV.out.ext (Ext.refl _).drew⟩⟩
                  obtain ⟨A4, c4, m, h10, hm5, h4, h5⟩ := hG 10 (by decide)
                  rw [HROW.out] at h10
                  have HE := Lib.hid (h5 (by have := hi.1; omega))
                  clear hR hG hi h4 h5
                  simp only [lexFrame, Act.put, List.setIfInBounds_toArray, List.set_cons_succ, List.set_cons_zero, Nat.zero_add, Nat.reduceAdd, h10]
                  generalize vals 0 = u0, vals 1 = u1, vals 2 = u2, vals 3 = u3, vals 4 = u4, vals 5 = u5, vals 6 = u6, vals 7 = u7, vals 8 = u8, vals 9 = u9
                  clear h10
                  go_wp2
                  go_roundw
                  case rel =>
                    rw [HT0.out] at HE
                    refine ⟨j + 1, A4, c4, row ++ [cellS x m], by omega, by go_num, by simp [HROW.out], rfl, ?_, HE.out.1, HE.out.2⟩
                    intro q h h'
                    rcases Nat.lt_or_ge q row.length with hq | hq
                    · rw [List.getElem_append_left hq]
                      exact HRK2.out q hq h'
                    · have hqj : q = j := by simp at h; have := HROW.out; omega
                      subst hqj
                      refine ⟨m, hm5, ?_⟩
                      rw [List.getElem_append_right hq]
                      simp [HX.out]
                  case measure => simp [intOf]; omega
              · have hje : j = 1 + r := by omega
                have hrow3 : Row wr (fun b => wo.heap.size ≤ b) 1 A' row := HOV.out.row (by have := HROW.out; omega) (fun b hb => (HOV.out.blk hb).1) (fun b hb => hb)
                have HCAP := Lib.hid (show row.length ≤ c' by obtain ⟨xs0, ho0, _⟩ := HOV.out; exact ho0.cap)
                have hm4 := HM2.out.more ((Ext.refl wr).alloc (.cells #[.slice A' j c'] 45))
                have HM4 := Lib.hid hm4
                have HROW3 := Lib.hid (hrow3.keep (Kept.alloc _ wr (.cells #[.slice A' j c'] 45)))
                obtain ⟨hs, hown, hvl⟩ := hm4.own
                have HV := Lib.hid hvl
                have HHS := Lib.hid (show hs.length = rows.length by simpa using hown.len)
                have HO1 := Lib.hid hown
                rw [HRL.out] at hown
                have HOWN := Lib.hid hown
                have k2 := HM2.out.gt.cell (i := 2) rfl
                rw [show (#[Value.string name, .slice Ac cols.length cc, .slice Ar rows.length cr] : Array Value)[2] = .slice Ar k cr by rw [← HRL.out]; rfl] at k2
                have hhw : H ≤ wr.heap.size := Nat.le_trans HM2.out.mid HM2.out.high
                have HJE := Lib.hid hje
                clear hrow3 hm4 hown hvl HM2 HOV hje
                have hst4 : ∀ (A4 : Option Addr) (w4 : World), (wr.alloc (.cells #[.slice A' j c'] 45)).grownBy w4 (ob Ar) → Blk w4 (w.heap.size + 1 + 1) 28 #[.string name, .slice Ac cols.length cc, .slice Ar rows.length cr] := fun A4 w4 hg4 => HM4.out.gt.keep (Kept.of_grown hg4 fun b hb _ e => by
                  have h1 := (HOWN.out.blk e.symm).1
                  have h2 := HM4.out.low
                  omega)
                have HST := Lib.hid hst4
                clear hst4
                go_wp2_with (at_builtin; go_must (refine wpList_app rfl (.tmp 73) (.tmp 75) rfl tiR rfl HOWN.out rfl (Blk.rd (Blk.new _ _ _)) rfl (by simp [Value.oneCell']) (by omega) (by decide) (by simp; omega) ?_); intro A4 c4 w4 hown4 hg4 hat4; have hb4 := HST.out A4 w4 hg4; have k3 := hb4.cell (i := 2) rfl; have kf := hb4.frozen; have kz := hb4.lt; clear hb4)
                go_roundw
                case rel =>
                  have hfin := HM4.out.push (row := row) (A' := A') (c' := c') HHS.out HV.out HO1.out (by rw [HRL.out, HROW.out]; exact hown4) hg4 hat4 HCAP.out HROW3.out
                  have hlen : (rows ++ [row]).length = k + 1 := by simp [HRL.out]
                  refine ⟨k + 1, A4, c4, rows ++ [row], w4.heap.size, by omega, by go_num, hlen, ?_, ?_⟩
                  · intro y hy
                    rcases List.mem_append.1 hy with hy | hy
                    · exact HRK.out y hy
                    · simp at hy
                      subst hy
                      exact ⟨by rw [HROW.out, HKL2.out]; exact HJE.out, HRK2.out⟩
                  · rw [hlen] at hfin
                    exact hfin
                case measure => simp [intOf]; omega
          · have HD := HM
            have hdc := HM.out
            have g0 := hdc.gt.cell (i := 0) rfl
            have g1 := hdc.gt.cell (i := 1) rfl
            have g2 := hdc.gt.cell (i := 2) rfl
            have z1 := hdc.gt.lt
            have r0 := hdc.gr.cell (i := 0) rfl
            have r1 := hdc.gr.cell (i := 1) rfl
            have r2 := hdc.gr.cell (i := 2) rfl
            have rf := hdc.gr.frozen
            have rz := hdc.gr.lt
            clear hdc
            go_wp2
            refine bodyPost_ret (v := .agg #[.string name, .slice Ac cols.length cc, .slice Ar rows.length cr]) (by simp [results, Tryz.results9, go_sem, r0, r1, r2, rf, rz]) rfl ⟨⟨name, cols, rows⟩, ⟨rfl, ks2, ?_, ?_, ?_, ?_, ?_, ?_, HRK.out⟩, Ac, cc, Ar, cr, rfl, ⟨HD.out.capC, ?_⟩, ⟨hname, ?_, ?_⟩, ?_⟩
            · have := HKL2.out; omega
            · have := HKL2.out; omega
            · rw [HKL2.out]; exact HCO.out
            · rw [HK2.out]
              have := HKL.out
              match ks, this with
              | [], h => simp at h; omega
              | a :: l, _ => rfl
            · intro x hx
              rw [HK2.out] at hx
              rcases List.mem_or_eq_of_mem_set hx with h | h
              · exact HKS.out x h
              · exact Or.inl h
            · have := HRL.out; show rows.length ≤ 6; omega
            · obtain ⟨hs, h1, _⟩ := HD.out.own; exact h1.cap
            · have h1 := HD.out.cols.mono (T := fun b => w.heap.size + 3 ≤ b) fun b _ hb => hb.1
              refine (h1.keep ?_).mono fun b _ hb => by unfold Fresh; omega
              iterate 3 with_reducible refine Kept.set2 ?_ (by show ¬ (_ ≤ _); omega)
              exact Kept.refl _ _
            · have h1 := HD.out.own.rows (T := fun b => w.heap.size + 3 ≤ b) (by have := HRL.out; omega) (fun b hb => by have := (HD.out.own.blk hb).1; have := HD.out.low; omega) (fun b hb => by have := HD.out.low; omega)
              refine (h1.keep ?_).mono fun b _ hb => by unfold Fresh; omega
              iterate 3 with_reducible refine Kept.set2 ?_ (by show ¬ (_ ≤ _); omega)
              exact Kept.refl _ _
            · iterate 3 with_reducible refine Ext.set2 ?_ (by omega) _
              exact HD.out.ext
end Go.Proofs.YtcmmkeiiapbgcaaGreatDoor
