/- The reference's Made: a right table. Conditions: the numbers read as data. -/
import Derived.Test.YtcmmkeiiapbgcaaGreatDoorBm6
namespace Go.Proofs.YtcmmkeiiapbgcaaGreatDoor
open Go Go.RowKit

/-- The facts of the statement 't.Cols = append(t.Cols, names[k])'. -/
def cInv (w : World) (name : ByteArray) (A : Option Addr) (n c : Nat) (Ac : Option Addr) (cc : Nat) (cols : List ByteArray) (Ak : Option Addr) (ck : Nat) (ks : List Int) (_t : ByteArray) (_k : Nat) (γ : Nat) (w' : World) : Prop := γ ≤ 4 ∧ (γ ≤ 2 → M1 w name A n c Ac cc cols Ak ck ks w')
def gCol (w : World) (name : ByteArray) (A : Option Addr) (n c : Nat) (Ac : Option Addr) (cc : Nat) (cols : List ByteArray) (Ak : Option Addr) (ck : Nat) (ks : List Int) (t : ByteArray) (k : Nat) : Nat → List Value → Nat → World → Prop
  | 0, [v], _, _ => v = .pointer (some ⟨w.heap.size + 1 + 1, 1, none⟩)
  | 1, [v], _, _ => v = .slice Ac cols.length cc
  | 2, [v], γ, w' => ∃ g : Nat, v = .slice (some ⟨g, 0, none⟩) 4 4 ∧ 1 ≤ γ ∧ (γ = 1 → Blk w' g 9 names4A)
  | 3, [v], _, _ => v = .int .i64 (k : Int)
  | 4, [v], γ, w' => ∃ g : Nat, v = .pointer (some ⟨g, k, none⟩) ∧ 1 ≤ γ ∧ (γ = 1 → Blk w' g 9 names4A)
  | 5, [v], γ, _ => v = .string t ∧ 1 ≤ γ
  | 6, [v], γ, w' => ∃ g : Nat, v = .slice (some ⟨g, 0, none⟩) 1 1 ∧ 2 ≤ γ ∧ (γ = 2 → Blk w' g 9 #[.string t])
  | 7, [v], γ, w' => ∃ (A4 : Option Addr) (c4 : Nat), v = .slice A4 (cols.length + 1) c4 ∧ 3 ≤ γ ∧ (γ = 3 → M1A w name A n c A4 c4 (cols ++ [t]) Ak ck ks w')
  | 8, [v], _, _ => v = .pointer (some ⟨w.heap.size + 1 + 1, 1, none⟩)
  | 9, [_], γ, w' => 4 ≤ γ ∧ (γ = 4 → ∃ (A4 : Option Addr) (c4 : Nat), M1 w name A n c A4 c4 (cols ++ [t]) Ak ck ks w')
  | _, _, _, _ => True
theorem gCol_st (w : World) (name : ByteArray) (A : Option Addr) (n c : Nat) (Ac : Option Addr) (cc : Nat) (cols : List ByteArray) (Ak : Option Addr) (ck : Nat) (ks : List Int) (t : ByteArray) (k : Nat) : ∀ i l γ v γ' v', SR (cInv w name A n c Ac cc cols Ak ck ks t k) γ v γ' v' → gCol w name A n c Ac cc cols Ak ck ks t k i l γ v → gCol w name A n c Ac cc cols Ak ck ks t k i l γ' v' := by
  intro i l γ v γ' v' r h
  have hle := r.le
  unfold gCol at h ⊢
  split at h
  all_goals first
    | exact h
    | (obtain ⟨h1, h2⟩ := h; exact ⟨h1, by omega⟩)
    | (obtain ⟨x, h1, h3, h4⟩ := h; exact ⟨x, h1, by omega, fun e => by rw [r.eq (by omega)]; exact h4 (by omega)⟩)
    | (obtain ⟨x, y, h1, h3, h4⟩ := h; exact ⟨x, y, h1, by omega, fun e => by rw [r.eq (by omega)]; exact h4 (by omega)⟩)
    | (obtain ⟨h3, h4⟩ := h; exact ⟨by omega, fun e => by rw [r.eq (by omega)]; exact h4 (by omega)⟩)
def dCol : Nat → List Nat := fun i => [i]
def stCol : List Nat := [100, 3, 1, 100, 100, 2, 2, 3, 100, 4]
/-- The facts of the statement 'row = append(row, Cell(kinds[j], m.Next(5)))'. -/
def rInv (w : World) (name : ByteArray) (A : Option Addr) (n c H : Nat) (Ac : Option Addr) (cc : Nat) (cols : List ByteArray) (b _ck : Nat) (ks : List Int) (Ar : Option Addr) (cr : Nat) (rows : List (List Val)) (T : Nat) (A' : Option Addr) (c' : Nat) (row : List Val) (_j : Nat) (_x : Int) (γ : Nat) (w' : World) : Prop := γ ≤ 4 ∧ (γ ≤ 3 → M2 w name A n c H Ac cc cols (some ⟨b, 0, none⟩) ks Ar cr rows T w' ∧ OwnVs w' T (fun b => T ≤ b) 1 A' c' row)
def gRow (w : World) (name : ByteArray) (A : Option Addr) (n c H : Nat) (Ac : Option Addr) (cc : Nat) (cols : List ByteArray) (b ck : Nat) (ks : List Int) (Ar : Option Addr) (cr : Nat) (rows : List (List Val)) (T : Nat) (A' : Option Addr) (c' : Nat) (row : List Val) (j : Nat) (x : Int) : Nat → List Value → Nat → World → Prop
  | 0, [v], _, _ => v = .slice A' row.length c'
  | 1, [v], _, _ => v = .slice (some ⟨b, 0, none⟩) ks.length ck
  | 2, [v], _, _ => v = .int .i64 (j : Int)
  | 3, [v], _, _ => v = .pointer (some ⟨b, j, none⟩)
  | 4, [v], _, _ => v = .int .i64 x
  | 5, [v], _, _ => v = .pointer (some ⟨w.heap.size + 1, 0, none⟩)
  | 6, [v], γ, _ => ∃ r : Nat, v = .int .i64 (r : Int) ∧ r < 5 ∧ 1 ≤ γ
  | 7, [v], γ, _ => ∃ (m : Nat) (y : Val), y = cellS x m ∧ v = (.agg #[.int .i64 y.kind, .string y.s, .int .i64 y.dn, .int .i64 y.ds, .int .i64 y.n, .slice none y.cols.length 0, .slice none y.rows.length 0]) ∧ m < 5 ∧ 2 ≤ γ
  | 8, [v], γ, w' => ∃ (m g : Nat), v = .slice (some ⟨g, 0, none⟩) 1 1 ∧ m < 5 ∧ 3 ≤ γ ∧ (γ = 3 → Blk w' g 33 (vcells (cellS x m) none 0 none 0).toArray)
  | 9, [v], γ, w' => ∃ (A4 : Option Addr) (c4 m : Nat), v = .slice A4 (row.length + 1) c4 ∧ m < 5 ∧ 4 ≤ γ ∧ (γ = 4 → M2 w name A n c H Ac cc cols (some ⟨b, 0, none⟩) ks Ar cr rows T w' ∧ OwnVs w' T (fun b => T ≤ b) 1 A4 c4 (row ++ [cellS x m]))
  | 10, [v], γ, w' => ∃ (A4 : Option Addr) (c4 m : Nat), v = .slice A4 (row.length + 1) c4 ∧ m < 5 ∧ 4 ≤ γ ∧ (γ = 4 → M2 w name A n c H Ac cc cols (some ⟨b, 0, none⟩) ks Ar cr rows T w' ∧ OwnVs w' T (fun b => T ≤ b) 1 A4 c4 (row ++ [cellS x m]))
  | _, _, _, _ => True
theorem gRow_st (w : World) (name : ByteArray) (A : Option Addr) (n c H : Nat) (Ac : Option Addr) (cc : Nat) (cols : List ByteArray) (b ck : Nat) (ks : List Int) (Ar : Option Addr) (cr : Nat) (rows : List (List Val)) (T : Nat) (A' : Option Addr) (c' : Nat) (row : List Val) (j : Nat) (x : Int) : ∀ i l γ v γ' v', SR (rInv w name A n c H Ac cc cols b ck ks Ar cr rows T A' c' row j x) γ v γ' v' → gRow w name A n c H Ac cc cols b ck ks Ar cr rows T A' c' row j x i l γ v → gRow w name A n c H Ac cc cols b ck ks Ar cr rows T A' c' row j x i l γ' v' := by
  intro i l γ v γ' v' r h
  have hle := r.le
  unfold gRow at h ⊢
  split at h
  all_goals first
    | exact h
    | (obtain ⟨x, h1, h2, h3⟩ := h; exact ⟨x, h1, h2, by omega⟩)
    | (obtain ⟨x, y, h1, h2, h3, h4⟩ := h; exact ⟨x, y, h1, h2, h3, by omega⟩)
    | (obtain ⟨x, y, h1, h2, h3, h4⟩ := h; exact ⟨x, y, h1, h2, by omega, fun e => by rw [r.eq (by omega)]; exact h4 (by omega)⟩)
    | (obtain ⟨x, y, z, h1, h2, h3, h4⟩ := h; exact ⟨x, y, z, h1, h2, by omega, fun e => by rw [r.eq (by omega)]; exact h4 (by omega)⟩)
def dRow : Nat → List Nat := fun i => [i]
def stRow : List Nat := [100, 100, 100, 100, 2, 100, 1, 2, 3, 4, 100]
theorem cellS_flat (x : Int) (m : Nat) : flatV (cellS x m) := by
  unfold cellS
  repeat' split
  all_goals first | exact ⟨rfl, rfl, Nat.zero_le _⟩ | exact ⟨rfl, rfl, by decide⟩
def kindsA : Array Value := #[.int .i64 1, .int .i64 2, .int .i64 1, .int .i64 3]
theorem kinds_at (k : Nat) (hk : k < 4) : ∃ x : Int, kindsA[k]? = some (.int .i64 x) ∧ (x = 1 ∨ x = 2 ∨ x = 3) := by
  match k, hk with
  | 0, _ => exact ⟨1, rfl, by omega⟩
  | 1, _ => exact ⟨2, rfl, by omega⟩
  | 2, _ => exact ⟨1, rfl, by omega⟩
  | 3, _ => exact ⟨3, rfl, by omega⟩
  | n + 4, h => omega
set_option maxRecDepth 100000 in
set_option maxHeartbeats 2000000 in
theorem r09_Made (name : ByteArray) (l : List Int) (A : Option Addr) (c : Nat) (w : World) (S : Nat → Prop) (hl : IntsL w S A l) (hname : name.size ≤ 4294967296) :
    Calls Tryz.prog 9 #[.string name, .slice A l.length c] w (RetMade w name) := by
  have HL := Lib.hid (hl.mono (T := fun b => b < w.heap.size) fun i hi _ => hi)
  clear hl
  go_enter Tryz.func9, Tryz.ntmps9
  go_wp2_with fail
  have hm0 : M1 w name A l.length c none 0 [] none 0 [] (((w.alloc (.cells #[.string ⟨#[]⟩, .slice none 0 0, .slice none 0 0] 28)).alloc (.cells #[.slice A l.length c, .int .i64 0] 73)).alloc (.cells #[.string name, .slice none 0 0, .slice none 0 0] 28)) :=
    ⟨(((Ext.refl w).alloc _).alloc _).alloc _, ((Blk.new w 28 #[.string ⟨#[]⟩, .slice none 0 0, .slice none 0 0]).keep (Kept.alloc _ _ _)).keep (Kept.alloc _ _ _), ⟨0, (blkAt _ _ _ (by simp)).keep (Kept.alloc _ _ _), Nat.zero_le _⟩, blkAt _ _ _ (by simp), OwnSs.nil _ _, OwnIs.nil _ _, fun b hb => by cases hb⟩
  have HM0 := Lib.hid hm0
  clear hm0
  obtain ⟨K0, hK0⟩ := HM0.out.num
  refine (Num_Next 4 (w.heap.size + 1) A l c K0 _ (fun b => b < w.heap.size) (by omega) (by omega) hK0 (HL.out.keep (HM0.out.ext.kept _)) (by omega)).mono ?_
  rintro e1 w1 ⟨r, K1, rfl, hr0, hr4, hK1, ho1⟩
  obtain ⟨r, rfl⟩ : ∃ n : Nat, r = (n : Int) := ⟨r.toNat, by omega⟩
  have HM1 := Lib.hid (HM0.out.next ho1 hK1)
  clear hK0 hK1 ho1 HM0
  go_wp2
  go_loopw [9, 8] (fun i v wr => ∃ (k : Nat) (Ac : Option Addr) (cc : Nat) (Ak : Option Addr) (ck : Nat) (ks : List Int), k ≤ 1 + r ∧ i = .int .i64 k ∧ ks.length = k ∧ v = .slice Ak k ck ∧ (∀ x ∈ ks, x = 1 ∨ x = 2 ∨ x = 3) ∧ M1 w name A l.length c Ac cc (names4.take k) Ak ck ks wr) (fun i _ _ => 1 + r - (intOf i).toNat)
  case atStart => exact ⟨0, none, 0, none, 0, [], Nat.zero_le _, rfl, rfl, rfl, by simp, HM1.out⟩
  case round =>
    clear HM1
    obtain ⟨k, Ac, cc, Ak, ck, ks, hk, rfl, hkl, rfl, hks, hm⟩ := hrel
    obtain ⟨cols, hcols⟩ : ∃ cols, cols = names4.take k := ⟨_, rfl⟩
    rw [← hcols] at hm
    have HM := Lib.hid hm
    have HKL := Lib.hid hkl
    have HKS := Lib.hid hks
    have HCO := Lib.hid hcols
    clear hm hkl hks hcols
    by_cases hlt : k < 1 + r
    · obtain ⟨hk4, ht, htz⟩ := names4_at k (by omega)
      obtain ⟨t, htt⟩ : ∃ t, t = names4[k] := ⟨_, rfl⟩
      rw [← htt] at ht htz
      have HT := Lib.hid ht
      have HTZ := Lib.hid htz
      have HTT := Lib.hid htt
      have HCL := Lib.hid (show cols.length = k by rw [HCO.out, List.length_take]; have : names4.length = 4 := rfl; omega)
      clear ht htz htt
      go_upto_region 8 with fail
      refine wp_region_lin_lit (by kernel_rfl) dCol (by kernel_rfl) (SR (cInv w name A l.length c Ac cc cols Ak ck ks t k)) (SR.refl _) (SR.trans _) (SN stCol) (gCol w name A l.length c Ac cc cols Ak ck ks t k) (gCol_st _ _ _ _ _ _ _ _ _ _ _ _ _) 0 (SN.zero (by decide)) ⟨?_, ?_, ?_, ?_, ?_, ?_, ?_, ?_, ?_, ?_, trivial⟩ ?_
      · refine LinStep.yes fun vals γ w' ρ hR hN hp hρ hc hf hg => ⟨rfl, ?_⟩
        have hi := hR.inv ⟨by omega, fun _ => HM.out.more (Ext.refl _).drew⟩
        have e6 : ρ (.tmp 6) = .pointer (some ⟨w.heap.size + 1 + 1, 0, none⟩) := hρ 6
        clear hR hN hp hρ hi
        go_light
        go_simp
        exact ⟨γ, SR.refl _ _ _, fun _ _ _ h => h, rfl⟩
      · refine LinStep.yes fun vals γ w' ρ hR hN hp hρ hc hf hg => ⟨rfl, ?_⟩
        have hi := hR.inv ⟨by omega, fun _ => HM.out.more (Ext.refl _).drew⟩
        have e27 : ρ (.tmp 27) = _ := (hρ 27).trans (hp 0 (by decide))
        have hb := (hi.2 (by have h : γ < 3 := hN; omega)).gt
        have k1 := hb.cell (i := 1) rfl
        clear hR hN hp hρ hi hb
        go_light
        go_simp
        exact ⟨γ, SR.refl _ _ _, fun _ _ _ h => h, rfl⟩
      · refine LinStep.yes fun vals γ w' ρ hR hN hp hρ hc hf hg => ⟨rfl, ?_⟩
        have hi := hR.inv ⟨by omega, fun _ => HM.out.more (Ext.refl _).drew⟩
        have h0 : γ = 0 := by have h : γ < 1 := hN; omega
        subst h0
        have HI := Lib.hid (hi.2 (by omega))
        clear hR hN hp hρ hi
        go_light
        go_simp
        exact ⟨1, SR.up (by omega) ⟨by omega, fun _ => HI.out.more ((Ext.refl _).alloc _)⟩, SN.up (by omega) (by decide) rfl, _, rfl, by omega, fun _ => Blk.new _ _ _⟩
      · refine LinStep.yes fun vals γ w' ρ hR hN hp hρ hc hf hg => ⟨rfl, ?_⟩
        have hi := hR.inv ⟨by omega, fun _ => HM.out.more (Ext.refl _).drew⟩
        have e9 : ρ (.tmp 9) = .int .i64 (k : Int) := hρ 9
        clear hR hN hp hρ hi
        go_light
        go_simp
        exact ⟨γ, SR.refl _ _ _, fun _ _ _ h => h, rfl⟩
      · refine LinStep.yes fun vals γ w' ρ hR hN hp hρ hc hf hg => ⟨rfl, ?_⟩
        have hi := hR.inv ⟨by omega, fun _ => HM.out.more (Ext.refl _).drew⟩
        obtain ⟨g, g2, hr1, hbk⟩ := hp 2 (by decide)
        have e29 : ρ (.tmp 29) = _ := (hρ 29).trans g2
        have e30 : ρ (.tmp 30) = _ := (hρ 30).trans (hp 3 (by decide))
        have i0 : (0 : Int) ≤ (k : Int) := by omega
        have i1 : (k : Int) < 4 := by omega
        have HBK := Lib.hid hbk
        clear hR hN hp hρ hi g2 hbk
        go_light
        go_simp
        exact ⟨γ, SR.refl _ _ _, fun _ _ _ h => h, g, rfl, hr1, HBK.out⟩
      · refine LinStep.yes fun vals γ w' ρ hR hN hp hρ hc hf hg => ⟨rfl, ?_⟩
        have hi := hR.inv ⟨by omega, fun _ => HM.out.more (Ext.refl _).drew⟩
        obtain ⟨g, g4, hr1, hbk⟩ := hp 4 (by decide)
        have e31 : ρ (.tmp 31) = _ := (hρ 31).trans g4
        have q := (hbk (by have h : γ < 2 := hN; omega)).cell HT.out
        clear hR hN hp hρ hi g4 hbk
        go_light
        go_simp
        exact ⟨γ, SR.refl _ _ _, fun _ _ _ h => h, rfl, hr1⟩
      · refine LinStep.yes fun vals γ w' ρ hR hN hp hρ hc hf hg => ⟨rfl, ?_⟩
        have hi := hR.inv ⟨by omega, fun _ => HM.out.more (Ext.refl _).drew⟩
        obtain ⟨g5, hr1⟩ := hp 5 (by decide)
        have h0 : γ = 1 := by have h : γ < 2 := hN; omega
        subst h0
        have e32 : ρ (.tmp 32) = _ := (hρ 32).trans g5
        have HI := Lib.hid (hi.2 (by omega))
        clear hR hN hp hρ hi g5
        go_light
        go_simp
        exact ⟨2, SR.up (by omega) ⟨by omega, fun _ => HI.out.more ((Ext.refl _).alloc _)⟩, SN.up (by omega) (by decide) rfl, _, rfl, by omega, fun _ => Blk.new _ _ _⟩
      · refine LinStep.yes fun vals γ w' ρ hR hN hp hρ hc hf hg => ⟨rfl, ?_⟩
        have hi := hR.inv ⟨by omega, fun _ => HM.out.more (Ext.refl _).drew⟩
        obtain ⟨g, g6, hr1, hbk⟩ := hp 6 (by decide)
        have h0 : γ = 2 := by have h : γ < 3 := hN; omega
        subst h0
        have e28 : ρ (.tmp 28) = _ := (hρ 28).trans (hp 1 (by decide))
        have e33 : ρ (.tmp 33) = _ := (hρ 33).trans g6
        have hd := hi.2 (by omega)
        refine lin_app (.tmp 28) (.tmp 33) rfl tiS e28 hd.ownC.1 e33 (hbk rfl).rd rfl (by simp [Value.oneCell']) (by have := HCL.out; omega) (by decide) (by have h1 := hd.gt.lt; omega) ?_
        intro A4 c4 w4 hown4 hg4 hat4
        exact ⟨3, SR.up (by omega) ⟨by omega, fun h => absurd h (by omega)⟩, SN.up (by omega) (by decide) rfl, A4, c4, rfl, by omega, fun _ => hd.app hg4 hown4 hat4 (by have := HTZ.out; omega)⟩
      · refine LinStep.yes fun vals γ w' ρ hR hN hp hρ hc hf hg => ⟨rfl, ?_⟩
        have hi := hR.inv ⟨by omega, fun _ => HM.out.more (Ext.refl _).drew⟩
        have e6 : ρ (.tmp 6) = .pointer (some ⟨w.heap.size + 1 + 1, 0, none⟩) := hρ 6
        clear hR hN hp hρ hi
        go_light
        go_simp
        exact ⟨γ, SR.refl _ _ _, fun _ _ _ h => h, rfl⟩
      · refine LinStep.yes fun vals γ w' ρ hR hN hp hρ hc hf hg => ⟨rfl, ?_⟩
        have hi := hR.inv ⟨by omega, fun _ => HM.out.more (Ext.refl _).drew⟩
        obtain ⟨A4, c4, g7, hr3, hda⟩ := hp 7 (by decide)
        have h0 : γ = 3 := by have h : γ < 4 := hN; omega
        subst h0
        have e34 : ρ (.tmp 34) = _ := (hρ 34).trans g7
        have e35 : ρ (.tmp 35) = _ := (hρ 35).trans (hp 8 (by decide))
        have HA := Lib.hid (hda rfl)
        obtain ⟨x, hx⟩ := (hda rfl).gt
        have k0 := hx.cell (i := 1) rfl
        have kf := hx.frozen
        have kz := hx.lt
        clear hR hN hp hρ hi g7 hda hx
        go_light
        go_simp
        refine ⟨4, SR.up (by omega) ⟨by omega, fun h => absurd h (by omega)⟩, SN.up (by omega) (by decide) rfl, by omega, fun _ => ⟨A4, c4, ?_⟩⟩
        have := HA.out.store
        simpa using this
      · intro vals γ w' hR hG
        have hi := hR.inv ⟨by omega, fun _ => HM.out.more (Ext.refl _).drew⟩
        obtain ⟨h4, h5⟩ := hG 9 (by decide)
        obtain ⟨A4, c4, hm1⟩ := h5 (by have := hi.1; omega)
        have HM1 := Lib.hid hm1
        clear hR hG hi h4 h5 hm1
        simp only [lexFrame, Act.put, List.setIfInBounds_toArray, List.set_cons_succ, List.set_cons_zero, Nat.zero_add, Nat.reduceAdd]
        generalize vals 0 = u0, vals 1 = u1, vals 2 = u2, vals 3 = u3, vals 4 = u4, vals 5 = u5, vals 6 = u6, vals 7 = u7, vals 8 = u8, vals 9 = u9
        go_wp2_with fail
        have HM2 := Lib.hid (HM1.out.more ((Ext.refl _).alloc (.cells kindsA 3)))
        obtain ⟨K2, hK2⟩ := HM2.out.num
        refine (Num_Next 2 (w.heap.size + 1) A l c K2 _ (fun b => b < w.heap.size) (by omega) (by omega) hK2 (HL.out.keep (HM2.out.ext.kept _)) (by omega)).mono ?_
        rintro e3 w3 ⟨r3, K3, rfl, hr30, hr32, hK3, ho3⟩
        obtain ⟨r3, rfl⟩ : ∃ n : Nat, r3 = (n : Int) := ⟨r3.toNat, by omega⟩
        have HM3 := Lib.hid (HM2.out.next ho3 hK3)
        obtain ⟨x, hx, hx3⟩ := kinds_at ((k + r3 * 2) % 4) (by omega)
        have hbk : Blk w3 w'.heap.size 3 kindsA := (Blk.new w' 3 kindsA).keep (ho3.kept fun b _ e => by have := HM1.out.gt.lt; omega)
        have q := hbk.cell hx
        have hmd : ((k : Int) + (r3 : Int) * 2) % 4 = (((k + r3 * 2) % 4 : Nat) : Int) := by omega
        obtain ⟨m, hmm⟩ : ∃ m, m = (k + r3 * 2) % 4 := ⟨_, rfl⟩
        rw [← hmm] at q hmd
        have hm4 : m < 4 := by omega
        have HX3 := Lib.hid hx3
        have hok := Own.ext HM3.out.ownK ((Ext.refl w3).alloc (.cells #[.int .i64 x] 3))
        rw [HKL.out] at hok
        have HOK := Lib.hid hok
        have hsz3 : w.heap.size + 3 ≤ w3.heap.size := by have := HM3.out.gt.lt; omega
        clear hK2 hK3 ho3 hbk hx hx3 hmm hok HM HM1 HM2
        go_wp2_with (at_builtin; go_must (refine wpList_app rfl (.tmp 36) (.tmp 46) rfl tiI rfl HOK.out rfl (Blk.rd (Blk.new _ _ _)) rfl (by simp [Value.oneCell']) (by omega) (by decide) (by simp; omega) ?_); intro A5 c5 w5 hown5 hg5 hat5)
        go_roundw
        case rel =>
          refine ⟨k + 1, A4, c4, A5, c5, ks ++ [x], by omega, by go_num, by simp [HKL.out], rfl, ?_, ?_⟩
          · intro y hy
            rcases List.mem_append.1 hy with hy | hy
            · exact HKS.out y hy
            · simp at hy; subst hy; exact HX3.out
          · have h1 := (HM3.out.more ((Ext.refl w3).alloc (.cells #[.int .i64 x] 3))).appK hg5 (by rw [HKL.out]; exact hown5) hat5
            rw [List.take_succ_eq_append_getElem hk4, ← HCO.out, ← HTT.out]
            exact h1
        case measure => simp [intOf]; omega
    · obtain rfl : k = 1 + r := by omega
      have h1 := HM.out.ownK
      have hkl := HKL.out
      rcases h1.2 with ⟨hv, hn⟩ | ⟨g, cap, cur, hv, hb, hh, hnc, hcm, hcs, ht⟩
      · exact absurd hn (by omega)
      · obtain ⟨rfl, rfl⟩ : Ak = some ⟨g, 0, none⟩ ∧ ck = cap := by injection hv with h1 _ h2; exact ⟨h1, h2⟩
        have hbk : Blk wr g 3 cur := hh
        obtain ⟨b, o, hA, -, -, hc⟩ := (Own.rd h1).some_ (by intro e; rw [List.map_eq_nil_iff] at e; rw [e] at hkl; simp at hkl; omega)
        obtain ⟨rfl, rfl⟩ : b = g ∧ o = 0 := by injection hA with hA; injection hA with h1 h2; exact ⟨h1.symm, h2.symm⟩
        obtain ⟨x0, q0⟩ : ∃ x0, wr.cell? ⟨b, 0, none⟩ = some x0 := ⟨_, hc 0 (.int .i64 (ks[0]'(by omega))) (by simp)⟩
        have qf := hbk.frozen
        have qz := hbk.lt
        have HS := Lib.hid (HM.out.start (by omega) (by rw [HCO.out, List.length_take]; omega))
        clear h1 hkl hv hb hh hnc hcm hcs ht hbk hA hc
        go_wp2_with fail
        obtain ⟨K2, hK2⟩ := HS.out.num
        refine (Num_Next 7 (w.heap.size + 1) A l c K2 _ (fun b => b < w.heap.size) (by omega) (by omega) hK2 (HL.out.keep (HS.out.ext.kept _)) (by omega)).mono ?_
        rintro e3 w3 ⟨R, K3, rfl, hR0, hR7, hK3, ho3⟩
        obtain ⟨R, rfl⟩ : ∃ n : Nat, R = (n : Int) := ⟨R.toNat, by omega⟩
        have HM3 := Lib.hid (HS.out.next ho3 hK3)
        obtain ⟨ks2, hks2⟩ : ∃ ks2, ks2 = ks.set 0 1 := ⟨_, rfl⟩
        rw [← hks2] at HM3
        have HK2 := Lib.hid hks2
        have HKL2 := Lib.hid (show ks2.length = 1 + r by rw [hks2, List.length_set]; exact HKL.out)
        obtain ⟨H, hH⟩ : ∃ H, H = wr.heap.size := ⟨_, rfl⟩
        rw [← hH] at HM3
        clear hK2 hK3 ho3 HS hks2 hH
        go_wp2
        go_loopw [11] (fun i wr => ∃ (k : Nat) (Ar : Option Addr) (cr : Nat) (rows : List (List Val)) (T : Nat), k ≤ R ∧ i = .int .i64 k ∧ rows.length = k ∧ (∀ x ∈ rows, rowK ks2 x) ∧ M2 w name A l.length c H Ac cc cols (some ⟨b, 0, none⟩) ks2 Ar cr rows T wr) (fun i _ => R - (intOf i).toNat)
        case atStart => exact ⟨0, none, 0, [], H, Nat.zero_le _, rfl, rfl, by simp, HM3.out⟩
        case round =>
          clear HM3
          obtain ⟨k, Ar, cr, rows, T, hk, rfl, hrl, hrk, hm⟩ := hrel
          have HM := Lib.hid hm
          have HRL := Lib.hid hrl
          have HRK := Lib.hid hrk
          clear hm hrl hrk
          by_cases hlt : k < R
          · go_wp2
            obtain ⟨wo, rfl⟩ : ∃ wo : World, wo = wr := ⟨_, rfl⟩
            have HMO := Lib.hid (HM.out.raise HM.out.high (Nat.le_refl _))
            clear HM
            go_loopw [13, 12] (fun i v wi => ∃ (j : Nat) (A' : Option Addr) (c' : Nat) (row : List Val), j ≤ 1 + r ∧ i = .int .i64 j ∧ row.length = j ∧ v = .slice A' j c' ∧ (∀ (q : Nat) (h : q < row.length) (h' : q < ks2.length), ∃ m : Nat, m < 5 ∧ row[q] = cellS ks2[q] m) ∧ M2 w name A l.length c H Ac cc cols (some ⟨b, 0, none⟩) ks2 Ar cr rows wo.heap.size wi ∧ OwnVs wi wo.heap.size (fun b => wo.heap.size ≤ b) 1 A' c' row) (fun i _ _ => 1 + r - (intOf i).toNat)
            case atStart => exact ⟨0, none, 0, [], Nat.zero_le _, rfl, rfl, rfl, fun q h => absurd h (by simp), HMO.out, OwnVs.nil _ _ _ _⟩
            case round =>
              clear HMO
              obtain ⟨j, A', c', row, hj, rfl, hrl, rfl, hrk, hm2, hov⟩ := hrel
              have HM2 := Lib.hid hm2
              have HROW := Lib.hid hrl
              have HRK2 := Lib.hid hrk
              have HOV := Lib.hid hov
              clear hm2 hrl hrk hov
              by_cases hltj : j < 1 + r
              · have hjk : j < ks2.length := by have := HKL2.out; omega
                obtain ⟨x, hx⟩ : ∃ x, x = ks2[j] := ⟨_, rfl⟩
                have HX := Lib.hid hx
                obtain ⟨T0, hT0⟩ : ∃ T0, T0 = wo.heap.size := ⟨_, rfl⟩
                rw [← hT0] at HM2 HOV
                have HT0 := Lib.hid hT0
                clear hx hT0
                go_upto_region 19 with fail
                refine wp_region_lin_lit (by kernel_rfl) dRow (by kernel_rfl) (SR (rInv w name A l.length c H Ac cc cols b ck ks2 Ar cr rows T0 A' c' row j x)) (SR.refl _) (SR.trans _) (SN stRow) (gRow w name A l.length c H Ac cc cols b ck ks2 Ar cr rows T0 A' c' row j x) (gRow_st _ _ _ _ _ _ _ _ _ _ _ _ _ _ _ _ _ _ _ _ _) 0 (SN.zero (by decide)) ⟨?_, ?_, ?_, ?_, ?_, ?_, ?_, ?_, ?_, ?_, ?_, trivial⟩ ?_
                · refine LinStep.yes fun vals γ w' ρ hR hN hp hρ hc hf hg => ⟨rfl, ?_⟩
                  have hi := hR.inv ⟨by omega, fun _ => ⟨HM2.out.more (Ext.refl _).drew, HOV.out.ext (Ext.refl _).drew⟩⟩
                  have e12 : ρ (.tmp 12) = .slice A' row.length c' := by rw [HROW.out]; exact hρ 12
                  clear hR hN hp hρ hi
                  go_light
                  go_simp
                  exact ⟨γ, SR.refl _ _ _, fun _ _ _ h => h, rfl⟩
                · refine LinStep.yes fun vals γ w' ρ hR hN hp hρ hc hf hg => ⟨rfl, ?_⟩
                  have hi := hR.inv ⟨by omega, fun _ => ⟨HM2.out.more (Ext.refl _).drew, HOV.out.ext (Ext.refl _).drew⟩⟩
                  have e8 : ρ (.tmp 8) = .slice (some ⟨b, 0, none⟩) ks2.length ck := by rw [HKL2.out]; exact hρ 8
                  clear hR hN hp hρ hi
                  go_light
                  go_simp
                  exact ⟨γ, SR.refl _ _ _, fun _ _ _ h => h, rfl⟩
                · refine LinStep.yes fun vals γ w' ρ hR hN hp hρ hc hf hg => ⟨rfl, ?_⟩
                  have hi := hR.inv ⟨by omega, fun _ => ⟨HM2.out.more (Ext.refl _).drew, HOV.out.ext (Ext.refl _).drew⟩⟩
                  have e13 : ρ (.tmp 13) = .int .i64 (j : Int) := hρ 13
                  clear hR hN hp hρ hi
                  go_light
                  go_simp
                  exact ⟨γ, SR.refl _ _ _, fun _ _ _ h => h, rfl⟩
                · refine LinStep.yes fun vals γ w' ρ hR hN hp hρ hc hf hg => ⟨rfl, ?_⟩
                  have hi := hR.inv ⟨by omega, fun _ => ⟨HM2.out.more (Ext.refl _).drew, HOV.out.ext (Ext.refl _).drew⟩⟩
                  have e63 : ρ (.tmp 63) = _ := (hρ 63).trans (hp 1 (by decide))
                  have e64 : ρ (.tmp 64) = _ := (hρ 64).trans (hp 2 (by decide))
                  have i0 : (0 : Int) ≤ (j : Int) := by omega
                  have i1 : (j : Int) < (ks2.length : Int) := by omega
                  clear hR hN hp hρ hi
                  go_light
                  go_simp
                  exact ⟨γ, SR.refl _ _ _, fun _ _ _ h => h, by simp [gRow, dRow, setV]⟩
                · refine LinStep.yes fun vals γ w' ρ hR hN hp hρ hc hf hg => ⟨rfl, ?_⟩
                  have hi := hR.inv ⟨by omega, fun _ => ⟨HM2.out.more (Ext.refl _).drew, HOV.out.ext (Ext.refl _).drew⟩⟩
                  have e65 : ρ (.tmp 65) = _ := (hρ 65).trans (hp 3 (by decide))
                  obtain ⟨b', o', hA, -, q⟩ := (hi.2 (by have h : γ < 2 := hN; omega)).1.ks.at_ hjk
                  obtain ⟨rfl, rfl⟩ : b' = b ∧ o' = 0 := by injection hA with hA; injection hA with h1 h2; exact ⟨h1.symm, h2.symm⟩
                  rw [Nat.zero_add, ← HX.out] at q
                  clear hR hN hp hρ hi hA
                  go_light
                  go_simp
                  exact ⟨γ, SR.refl _ _ _, fun _ _ _ h => h, rfl⟩
                · refine LinStep.yes fun vals γ w' ρ hR hN hp hρ hc hf hg => ⟨rfl, ?_⟩
                  have hi := hR.inv ⟨by omega, fun _ => ⟨HM2.out.more (Ext.refl _).drew, HOV.out.ext (Ext.refl _).drew⟩⟩
                  have e5 : ρ (.tmp 5) = .pointer (some ⟨w.heap.size + 1, 0, none⟩) := hρ 5
                  clear hR hN hp hρ hi
                  go_light
                  go_simp
                  exact ⟨γ, SR.refl _ _ _, fun _ _ _ h => h, rfl⟩
                · refine LinStep.yes fun vals γ w' ρ hR hN hp hρ hc hf hg => ⟨rfl, ?_⟩
                  have hi := hR.inv ⟨by omega, fun _ => ⟨HM2.out.more (Ext.refl _).drew, HOV.out.ext (Ext.refl _).drew⟩⟩
                  have h0 : γ = 0 := by have h : γ < 1 := hN; omega
                  subst h0
                  have e67 : ρ (.tmp 67) = _ := (hρ 67).trans (hp 5 (by decide))
                  have HI := Lib.hid (hi.2 (by omega))
                  clear hR hN hp hρ hi
                  go_light
                  go_simp
                  obtain ⟨K1, hK1⟩ := HI.out.1.num
                  refine (Num_Next 5 (w.heap.size + 1) A l c K1 _ (fun b => b < w.heap.size) (by omega) (by omega) hK1 (HL.out.keep (HI.out.1.ext.kept _)) (by omega)).mono ?_
                  rintro e2 w2 ⟨r5, K2, rfl, hm0, hm4, hK2, ho2⟩
                  obtain ⟨r5, rfl⟩ : ∃ n : Nat, r5 = (n : Int) := ⟨r5.toNat, by omega⟩
                  have hlow := HI.out.1.low
                  have hmid := HI.out.1.mid
                  exact ⟨_, rfl, 1, SR.up (by omega) ⟨by omega, fun _ => ⟨HI.out.1.next ho2 hK2, HI.out.2.keep (ho2.kept fun b _ hb => hb.elim (fun hb => by have := (HI.out.2.blk hb).1; omega) (fun hb => by omega))⟩⟩, SN.up (by omega) (by decide) rfl, r5, rfl, by omega, by omega⟩
                · refine LinStep.yes fun vals γ w' ρ hR hN hp hρ hc hf hg => ⟨rfl, ?_⟩
                  have hi := hR.inv ⟨by omega, fun _ => ⟨HM2.out.more (Ext.refl _).drew, HOV.out.ext (Ext.refl _).drew⟩⟩
                  obtain ⟨r5, g6, hr5, hr1⟩ := hp 6 (by decide)
                  have h0 : γ = 1 := by have h : γ < 2 := hN; omega
                  subst h0
                  have e66 : ρ (.tmp 66) = _ := (hρ 66).trans (hp 4 (by decide))
                  have e68 : ρ (.tmp 68) = _ := (hρ 68).trans g6
                  have HI := Lib.hid (hi.2 (by omega))
                  have HR5 := Lib.hid (show ((r5 : Int).tmod 5 + 5).tmod 5 = (r5 : Int) by rw [show (r5 : Int).tmod 5 = (r5 : Int) % 5 from Int.tmod_eq_emod_of_nonneg (by omega), Int.tmod_eq_emod_of_nonneg (by omega)]; omega)
                  clear hR hN hp hρ hi g6
                  go_light
                  go_simp
                  exact (r09_Cell x (r5 : Int) _ r5 HR5.out).mono fun e' w3 ⟨he, hx3⟩ => ⟨_, he, 2, SR.up (by omega) ⟨by omega, fun _ => ⟨HI.out.1.more hx3, HI.out.2.ext hx3⟩⟩, SN.up (by omega) (by decide) rfl, r5, _, rfl, rfl, hr5, by omega⟩
                · refine LinStep.yes fun vals γ w' ρ hR hN hp hρ hc hf hg => ⟨rfl, ?_⟩
                  have hi := hR.inv ⟨by omega, fun _ => ⟨HM2.out.more (Ext.refl _).drew, HOV.out.ext (Ext.refl _).drew⟩⟩
                  obtain ⟨m, y, hy, g7, hm5, hr1⟩ := hp 7 (by decide)
                  have h0 : γ = 2 := by have h : γ < 3 := hN; omega
                  subst h0
                  have e69 : ρ (.tmp 69) = _ := (hρ 69).trans g7
                  have HI := Lib.hid (hi.2 (by omega))
                  have HY := Lib.hid hy
                  clear hR hN hp hρ hi g7 hy
                  go_light
                  go_simp
                  refine ⟨3, SR.up (by omega) ⟨by omega, fun _ => ⟨HI.out.1.more ((Ext.refl _).alloc _), HI.out.2.ext ((Ext.refl _).alloc _)⟩⟩, SN.up (by omega) (by decide) rfl, m, _, rfl, hm5, by omega, fun _ => ?_⟩
                  rw [← HY.out]
                  exact Blk.new _ _ _
                · refine LinStep.yes fun vals γ w' ρ hR hN hp hρ hc hf hg => ⟨rfl, ?_⟩
                  have hi := hR.inv ⟨by omega, fun _ => ⟨HM2.out.more (Ext.refl _).drew, HOV.out.ext (Ext.refl _).drew⟩⟩
                  obtain ⟨m, g, g8, hm5, hr1, hbk⟩ := hp 8 (by decide)
                  have h0 : γ = 3 := by have h : γ < 4 := hN; omega
                  subst h0
                  have e62 : ρ (.tmp 62) = _ := (hρ 62).trans (hp 0 (by decide))
                  have e70 : ρ (.tmp 70) = _ := (hρ 70).trans g8
                  have hd := hi.2 (by omega)
                  obtain ⟨xs, hown, hvl⟩ := hd.2
                  have hfl := cellS_flat x m
                  have hhi := hd.1.high
                  refine lin_app (.tmp 62) (.tmp 70) rfl tiV e62 hown e70 (hbk rfl).rd rfl vcells_one (by have := HROW.out; omega) (by decide) hhi ?_
                  intro A4 c4 w4 hown4 hg4 hat4
                  exact ⟨4, SR.up (by omega) ⟨by omega, fun h => absurd h (by omega)⟩, SN.up (by omega) (by decide) rfl, A4, c4, m, rfl, hm5, by omega, fun _ => ⟨hd.1.grown hg4 fun b hb => (hown.blk hb).1, OwnVs.push hvl hown4 hg4 hat4 ⟨by omega, by rw [hfl.1]; exact Nat.zero_le _, by rw [hfl.2.1]; exact Nat.zero_le _⟩ (RV.mk hfl.2.2 (by rw [hfl.1]; exact Strs.nil) (by rw [hfl.2.1]; exact Rows.nil))⟩⟩
                · refine LinStep.yes fun vals γ w' ρ hR hN hp hρ hc hf hg => ⟨rfl, ?_⟩
                  have hi := hR.inv ⟨by omega, fun _ => ⟨HM2.out.more (Ext.refl _).drew, HOV.out.ext (Ext.refl _).drew⟩⟩
                  obtain ⟨A4, c4, m, g9, hm5, hr1, hbk⟩ := hp 9 (by decide)
                  have e71 : ρ (.tmp 71) = _ := (hρ 71).trans g9
                  have HBK := Lib.hid hbk
                  clear hR hN hp hρ hi g9 hbk
                  go_light
                  go_simp
                  exact ⟨γ, SR.refl _ _ _, fun _ _ _ h => h, A4, c4, m, rfl, hm5, hr1, HBK.out⟩
                · intro vals γ w' hR hG
                  have hi := hR.inv ⟨by omega, fun _ => ⟨HM2.out.more (Ext.refl _).drew, HOV.out.ext (Ext.refl _).drew⟩⟩
                  obtain ⟨A4, c4, m, h10, hm5, h4, h5⟩ := hG 10 (by decide)
                  rw [HROW.out] at h10
                  have HE := Lib.hid (h5 (by have := hi.1; omega))
                  clear hR hG hi h4 h5
                  simp only [lexFrame, Act.put, List.setIfInBounds_toArray, List.set_cons_succ, List.set_cons_zero, Nat.zero_add, Nat.reduceAdd, h10]
                  generalize vals 0 = u0, vals 1 = u1, vals 2 = u2, vals 3 = u3, vals 4 = u4, vals 5 = u5, vals 6 = u6, vals 7 = u7, vals 8 = u8, vals 9 = u9
                  clear h10
                  go_wp2
                  go_roundw
                  case rel =>
                    rw [HT0.out] at HE
                    refine ⟨j + 1, A4, c4, row ++ [cellS x m], by omega, by go_num, by simp [HROW.out], rfl, ?_, HE.out.1, HE.out.2⟩
                    intro q h h'
                    rcases Nat.lt_or_ge q row.length with hq | hq
                    · rw [List.getElem_append_left hq]
                      exact HRK2.out q hq h'
                    · have hqj : q = j := by simp at h; have := HROW.out; omega
                      subst hqj
                      refine ⟨m, hm5, ?_⟩
                      rw [List.getElem_append_right hq]
                      simp [HX.out]
                  case measure => simp [intOf]; omega
              · have hje : j = 1 + r := by omega
                have hrow3 : Row wr (fun b => wo.heap.size ≤ b) 1 A' row := HOV.out.row (by have := HROW.out; omega) (fun b hb => (HOV.out.blk hb).1) (fun b hb => hb)
                have HCAP := Lib.hid (show row.length ≤ c' by obtain ⟨xs0, ho0, _⟩ := HOV.out; exact ho0.cap)
                have hm4 := HM2.out.more ((Ext.refl wr).alloc (.cells #[.slice A' j c'] 45))
                have HM4 := Lib.hid hm4
                have HROW3 := Lib.hid (hrow3.keep (Kept.alloc _ wr (.cells #[.slice A' j c'] 45)))
                obtain ⟨hs, hown, hvl⟩ := hm4.own
                have HV := Lib.hid hvl
                have HHS := Lib.hid (show hs.length = rows.length by simpa using hown.len)
                have HO1 := Lib.hid hown
                rw [HRL.out] at hown
                have HOWN := Lib.hid hown
                have k2 := HM2.out.gt.cell (i := 2) rfl
                rw [show (#[Value.string name, .slice Ac cols.length cc, .slice Ar rows.length cr] : Array Value)[2] = .slice Ar k cr by rw [← HRL.out]; rfl] at k2
                have hhw : H ≤ wr.heap.size := Nat.le_trans HM2.out.mid HM2.out.high
                have HJE := Lib.hid hje
                clear hrow3 hm4 hown hvl HM2 HOV hje
                have hst4 : ∀ (A4 : Option Addr) (w4 : World), (wr.alloc (.cells #[.slice A' j c'] 45)).grownBy w4 (ob Ar) → Blk w4 (w.heap.size + 1 + 1) 28 #[.string name, .slice Ac cols.length cc, .slice Ar rows.length cr] := fun A4 w4 hg4 => HM4.out.gt.keep (Kept.of_grown hg4 fun b hb _ e => by
                  have h1 := (HOWN.out.blk e.symm).1
                  have h2 := HM4.out.low
                  omega)
                have HST := Lib.hid hst4
                clear hst4
                go_wp2_with (at_builtin; go_must (refine wpList_app rfl (.tmp 73) (.tmp 75) rfl tiR rfl HOWN.out rfl (Blk.rd (Blk.new _ _ _)) rfl (by simp [Value.oneCell']) (by omega) (by decide) (by simp; omega) ?_); intro A4 c4 w4 hown4 hg4 hat4; have hb4 := HST.out A4 w4 hg4; have k3 := hb4.cell (i := 2) rfl; have kf := hb4.frozen; have kz := hb4.lt; clear hb4)
                go_roundw
                case rel =>
                  have hfin := HM4.out.push (row := row) (A' := A') (c' := c') HHS.out HV.out HO1.out (by rw [HRL.out, HROW.out]; exact hown4) hg4 hat4 HCAP.out HROW3.out
                  have hlen : (rows ++ [row]).length = k + 1 := by simp [HRL.out]
                  refine ⟨k + 1, A4, c4, rows ++ [row], w4.heap.size, by omega, by go_num, hlen, ?_, ?_⟩
                  · intro y hy
                    rcases List.mem_append.1 hy with hy | hy
                    · exact HRK.out y hy
                    · simp at hy
                      subst hy
                      exact ⟨by rw [HROW.out, HKL2.out]; exact HJE.out, HRK2.out⟩
                  · rw [hlen] at hfin
                    exact hfin
                case measure => simp [intOf]; omega
          · have HD := HM
            have hdc := HM.out
            have g0 := hdc.gt.cell (i := 0) rfl
            have g1 := hdc.gt.cell (i := 1) rfl
            have g2 := hdc.gt.cell (i := 2) rfl
            have z1 := hdc.gt.lt
            have r0 := hdc.gr.cell (i := 0) rfl
            have r1 := hdc.gr.cell (i := 1) rfl
            have r2 := hdc.gr.cell (i := 2) rfl
            have rf := hdc.gr.frozen
            have rz := hdc.gr.lt
            clear hdc
            go_wp2
            refine bodyPost_ret (v := .agg #[.string name, .slice Ac cols.length cc, .slice Ar rows.length cr]) (by simp [results, Tryz.results9, go_sem, r0, r1, r2]) rfl ⟨⟨name, cols, rows⟩, ⟨rfl, ks2, ?_, ?_, ?_, ?_, ?_, ?_, HRK.out⟩, Ac, cc, Ar, cr, rfl, ⟨HD.out.capC, ?_⟩, ⟨hname, ?_, ?_⟩, ?_⟩
            · have := HKL2.out; omega
            · have := HKL2.out; omega
            · rw [HKL2.out]; exact HCO.out
            · rw [HK2.out]
              have := HKL.out
              match ks, this with
              | [], h => simp at h; omega
              | a :: l, _ => rfl
            · intro x hx
              rw [HK2.out] at hx
              rcases List.mem_or_eq_of_mem_set hx with h | h
              · exact HKS.out x h
              · exact Or.inl h
            · have := HRL.out; show rows.length ≤ 6; omega
            · obtain ⟨hs, h1, _⟩ := HD.out.own; exact h1.cap
            · have h1 := HD.out.cols.mono (T := fun b => w.heap.size + 3 ≤ b) fun b _ hb => hb.1
              refine (h1.keep ?_).mono fun b _ hb => by unfold Fresh; omega
              iterate 3 with_reducible refine Kept.set2 ?_ (by show ¬ (_ ≤ _); omega)
              exact Kept.refl _ _
            · have h1 := HD.out.own.rows (T := fun b => w.heap.size + 3 ≤ b) (by have := HRL.out; omega) (fun b hb => by have := (HD.out.own.blk hb).1; have := HD.out.low; omega) (fun b hb => by have := HD.out.low; omega)
              refine (h1.keep ?_).mono fun b _ hb => by unfold Fresh; omega
              iterate 3 with_reducible refine Kept.set2 ?_ (by show ¬ (_ ≤ _); omega)
              exact Kept.refl _ _
            · iterate 3 with_reducible refine Ext.set2 ?_ (by omega) _
              exact HD.out.ext
end Go.Proofs.YtcmmkeiiapbgcaaGreatDoor
/- The reference's copies: the same data in new memory, which is the caller's own. Conditions: the arguments read as data. -/
namespace Go.Proofs.YtcmmkeiiapbgcaaGreatDoor
open Go Go.RowKit

def RetRow (w : World) (q : Nat) (l : List Val) (e : Ending) (w' : World) : Prop := ∃ (A : Option Addr) (c : Nat), e = .returned (.slice A l.length c) ∧ OwnVs w' w.heap.size (fun b => w.heap.size ≤ b) q A c l ∧ Ext w w'
def PC6 (d : Nat) : Prop := ∀ (x : Val) (A B : Option Addr) (c e : Nat) (w : World) (S : Nat → Prop), RV w S d x A B → Calls Tryz.prog 75 #[(.agg #[.int .i64 x.kind, .string x.s, .int .i64 x.dn, .int .i64 x.ds, .int .i64 x.n, .slice A x.cols.length c, .slice B x.rows.length e])] w (RetV w (Fresh w) d x)
set_option maxRecDepth 100000 in
set_option maxHeartbeats 1000000 in
theorem r06_CopyRow (q : Nat) (ih : 0 < q → PC6 (q - 1)) (l : List Val) (A : Option Addr) (c : Nat) (w : World) (S : Nat → Prop) (h : Row w S q A l) : Calls Tryz.prog 111 #[.slice A l.length c] w (RetRow w q l) := by
  have hlen := h.len
  have HROW := Lib.hid h
  have IH := Lib.hid ih
  clear h ih
  go_enter Tryz.func111, Tryz.ntmps111
  go_wp2
  go_loopw [3, 4] (fun v i wi => ∃ (j : Nat) (A' : Option Addr) (c' : Nat), j ≤ l.length ∧ i = .int .i64 j ∧ v = .slice A' j c' ∧ Ext w wi ∧ OwnVs wi w.heap.size (fun b => w.heap.size ≤ b) q A' c' (l.take j)) (fun _ i _ => l.length - (intOf i).toNat)
  case atStart => exact ⟨0, none, 0, Nat.zero_le _, rfl, rfl, Ext.refl _, OwnVs.nil _ _ _ _⟩
  case round =>
    obtain ⟨j, A', c', hj, rfl, rfl, hbi, hoi⟩ := hrel
    have HBI := Lib.hid hbi
    have HOI := Lib.hid hoi
    by_cases hlt2 : j < l.length
    · obtain ⟨b2, o2, A5, c5, B5, e5, rfl, z2, ⟨p0, p1, p2, p3, p4, p5, p6⟩, ⟨hq, _, _⟩, hv⟩ := (HROW.out.keep (hbi.kept _)).at_ hlt2
      have HV := Lib.hid hv
      have hszi := hbi.size
      clear hv hbi hoi
      go_wp2_with fail
      refine (IH.out hq _ _ _ _ _ _ S HV.out).mono ?_
      rintro e3 w3 ⟨A3, c3, B3, e3, rfl, hcc3, hv3, hx3⟩
      have HX3 := Lib.hid hx3
      have hz3 := hx3.size
      have hv3' := hv3.mono (T := fun b => wr.heap.size ≤ b) (fun i _ hi => hi)
      obtain ⟨xs, hown, hvl⟩ := HOI.out.ext (HX3.out.alloc (.cells (vcells l[j] A3 c3 B3 e3).toArray 33))
      have hlj : (l.take j).length = j := by rw [List.length_take]; omega
      have HVL := Lib.hid hvl
      rw [hlj] at hown
      have HOWN := Lib.hid hown
      have HLJ := Lib.hid hlj
      have HV3 := Lib.hid hv3'
      clear hvl hown hv3 hv3' hx3 hlj
      go_wp2_with (at_builtin; go_must (refine wpList_app rfl (.tmp 11) (.tmp 17) rfl tiV rfl HOWN.out rfl (Blk.rd (Blk.new _ _ _)) rfl vcells_one (by omega) (by decide) (by simp; omega) ?_); intro A4 c4 w4 hown4 hg4 hat4)
      go_roundw
      case rel =>
        refine ⟨j + 1, A4, c4, by omega, by go_num, rfl, ?_, ?_⟩
        · exact ((HBI.out.trans HX3.out).alloc _).grown hg4 (fun k hk => (HOWN.out.blk hk).1)
        · rw [List.take_succ_eq_append_getElem hlt2]
          refine OwnVs.push HVL.out (by rw [HLJ.out]; exact hown4) hg4 hat4 ⟨hq, hcc3⟩ ((HV3.out.keep (Kept.alloc _ _ _)).mono fun i _ hi => ⟨fun h0 => ?_, by omega⟩)
          have := (HOI.out.blk h0).2
          omega
      case measure => simp [intOf]; omega
    · have hjr : j = l.length := by omega
      subst hjr
      have HR := Lib.hid (show OwnVs wr w.heap.size (fun b => w.heap.size ≤ b) q A' c' l by have := HOI.out; rwa [List.take_of_length_le (Nat.le_refl _)] at this)
      go_wp2
      go_ret
      exact ⟨A', c', rfl, HR.out, HBI.out⟩

/-- Rows of the call's own, each in memory of its own; 'av': blocks apart from them. -/
def OwnRR (w : World) (base : Nat) (av : Nat → Prop) (q : Nat) (A : Option Addr) (c : Nat) (l : List (List Val)) : Prop :=
  ∃ (hs : List Value) (cut : Nat → Nat), Own w base 45 1 A l.length c hs ∧ (∀ i j, i ≤ j → cut i ≤ cut j) ∧ base ≤ cut 0 ∧ cut l.length ≤ w.heap.size ∧
    ∀ (i : Nat) (r : List Val), l[i]? = some r → ∃ (B : Option Addr) (e : Nat), hs[i]? = some (Value.slice B r.length e) ∧ OwnVs w (cut i) (fun b => cut i ≤ b ∧ b < cut (i + 1) ∧ ob A ≠ some b ∧ ¬ av b) q B e r ∧ ∀ b, ob B = some b → b < cut (i + 1) ∧ ob A ≠ some b ∧ ¬ av b
section
variable {w w' : World} {base q c c' : Nat} {av : Nat → Prop} {A A' : Option Addr} {l : List (List Val)}
theorem OwnVs.shift {base1 base2 d : Nat} {X1 X2 : Nat → Prop} {B : Option Addr} {e : Nat} {r : List Val} (h : OwnVs w base1 X1 d B e r) (hb : ∀ b, ob B = some b → base2 ≤ b) (hX : ∀ b, b < w.heap.size → X1 b → X2 b) : OwnVs w base2 X2 d B e r := by
  obtain ⟨xs, h1, h2⟩ := h
  refine ⟨xs, ⟨h1.1, ?_⟩, h2.imp fun _ _ hh => hh.mono fun i hi hh => ⟨hh.1, hX i hi hh.2⟩⟩
  rcases h1.2 with h3 | ⟨g, cap, cur, hv, _, rest⟩
  · exact .inl h3
  · exact .inr ⟨g, cap, cur, hv, hb g (by injection hv with hA; rw [hA]; rfl), rest⟩
theorem OwnRR.nil (w : World) (base : Nat) (av : Nat → Prop) (q : Nat) (hb : base ≤ w.heap.size) : OwnRR w base av q none 0 [] := ⟨[], fun _ => base, Own.nil _ _ _ _, fun _ _ _ => Nat.le_refl _, Nat.le_refl _, hb, by simp⟩
theorem OwnRR.ext (h : OwnRR w base av q A c l) (hx : Ext w w') : OwnRR w' base av q A c l := by
  obtain ⟨hs, cut, h1, h2, h3, h4, h5⟩ := h
  refine ⟨hs, cut, h1.ext hx, h2, h3, Nat.le_trans h4 hx.size, fun i r hr => ?_⟩
  obtain ⟨B, e, g1, g2, g3⟩ := h5 i r hr
  exact ⟨B, e, g1, g2.ext hx, g3⟩
theorem OwnRR.keep (h : OwnRR w base av q A c l) (hk : Kept (fun b => base ≤ b ∧ ¬ av b) w w') (ha : ∀ b, ob A = some b → ¬ av b) : OwnRR w' base av q A c l := by
  obtain ⟨hs, cut, h1, h2, h3, h4, h5⟩ := h
  refine ⟨hs, cut, h1.keep (hk.mono fun b _ hb => ⟨(h1.blk hb).1, ha b hb⟩), h2, h3, Nat.le_trans h4 hk.1, fun i r hr => ?_⟩
  obtain ⟨B, e, g1, g2, g3⟩ := h5 i r hr
  have hc := h2 0 i (Nat.zero_le _)
  refine ⟨B, e, g1, g2.keep (hk.mono fun b _ hb => ?_), g3⟩
  rcases hb with hb | hb
  · exact ⟨by have := (g2.blk hb).1; omega, (g3 b hb).2.2⟩
  · exact ⟨by omega, hb.2.2.2⟩
theorem OwnRR.blk (h : OwnRR w base av q A c l) {k : Nat} (hk : ob A = some k) : base ≤ k ∧ k < w.heap.size := by
  obtain ⟨xs, _, ho, _⟩ := h
  exact ho.blk hk
theorem OwnRR.cap (h : OwnRR w base av q A c l) : l.length ≤ c := by
  obtain ⟨xs, _, ho, _⟩ := h
  exact ho.cap
theorem OwnRR.rows (h : OwnRR w base av q A c l) (hl : l.length ≤ 4294967296) (hr : ∀ r ∈ l, r.length ≤ 4294967296) : Rows w (fun b => base ≤ b) q A l := by
  obtain ⟨hs, cut, h1, h2, h3, h4, h5⟩ := h
  refine ⟨hl, hs, h1.rd.mono fun i _ hi => (h1.blk hi).1, by simpa using h1.len, fun i r hi => ?_⟩
  obtain ⟨B, e, g1, g2, g3⟩ := h5 i r hi
  have hc := h2 0 i (Nat.zero_le _)
  have hcap : r.length ≤ e := by obtain ⟨xs, ho, _⟩ := g2; exact ho.cap
  exact ⟨B, e, g1, hcap, g2.row (hr r (List.mem_of_getElem? hi)) (fun b hb => by have := (g2.blk hb).1; omega) (fun b hb => by omega)⟩
/-- A new row, made in new memory, is put to the end. -/
theorem OwnRR.push {r : List Val} {B : Option Addr} {e lo : Nat} {hs : List Value} {cut : Nat → Nat} (hlo : cut l.length ≤ lo) (hlw : lo ≤ w.heap.size) (h2 : ∀ i j, i ≤ j → cut i ≤ cut j) (h3 : base ≤ cut 0) (hh : hs.length = l.length) (hA : ∀ b, ob A = some b → base ≤ b ∧ b < lo) (hav : ∀ b, av b → b < lo)
    (h5 : ∀ (i : Nat) (r : List Val), l[i]? = some r → ∃ (B : Option Addr) (e : Nat), hs[i]? = some (Value.slice B r.length e) ∧ OwnVs w (cut i) (fun b => cut i ≤ b ∧ b < cut (i + 1) ∧ ob A ≠ some b ∧ ¬ av b) q B e r ∧ ∀ b, ob B = some b → b < cut (i + 1) ∧ ob A ≠ some b ∧ ¬ av b)
    (hr : OwnVs w lo (fun b => lo ≤ b) q B e r) (hown : Own w' base 45 1 A' (l.length + 1) c' (hs ++ [Value.slice B r.length e])) (hg : w.grownBy w' (ob A)) (hat : ob A' = ob A ∨ ob A' = some w.heap.size) : OwnRR w' base av q A' c' (l ++ [r]) := by
  have hne : ∀ b, b < w.heap.size → ob A ≠ some b → ob A' ≠ some b := by
    intro b hb h1 h2
    rcases hat with e | e <;> rw [e] at h2
    · exact h1 h2
    · injection h2 with h2; omega
  have hk : Kept (fun b => ob A ≠ some b) w w' := Kept.of_grown hg fun b hb _ e => hb e.symm
  refine ⟨_, fun i => if i ≤ l.length then cut i else w.heap.size, by simpa using hown, ?_, ?_, ?_, ?_⟩
  · intro i j hij
    dsimp only
    have hll := h2 i l.length
    split <;> split
    · exact h2 i j hij
    · have := h2 i l.length (by omega); omega
    · omega
    · exact Nat.le_refl _
  · simpa using h3
  · simp only [List.length_append, List.length_cons, List.length_nil]
    rw [if_neg (by omega)]
    exact hg.size
  · intro i r' hi
    rcases Nat.lt_or_ge i l.length with hlt | hge
    · rw [List.getElem?_append_left hlt] at hi
      obtain ⟨B', e', g1, g2, g3⟩ := h5 i r' hi
      have hc := h2 (i + 1) l.length (by omega)
      refine ⟨B', e', by rw [List.getElem?_append_left (by omega)]; exact g1, ?_, ?_⟩
      · simp only [if_pos (show i ≤ l.length by omega), if_pos (show i + 1 ≤ l.length by omega)]
        refine (g2.keep (hk.mono fun b hb h => ?_)).shift (fun b hb => (g2.blk hb).1) ?_
        · rcases h with h | h
          · exact (g3 b h).2.1
          · exact h.2.2.1
        · intro b _ hb
          exact ⟨hb.1, hb.2.1, hne b (by omega) hb.2.2.1, hb.2.2.2⟩
      · intro b hb
        have := g3 b hb
        simp only [if_pos (show i + 1 ≤ l.length by omega)]
        exact ⟨this.1, hne b (by omega) this.2.1, this.2.2⟩
    · rw [List.getElem?_append_right hge] at hi
      have hj0 : i - l.length = 0 := by
        rcases Nat.eq_zero_or_pos (i - l.length) with h0 | h0
        · exact h0
        · rw [List.getElem?_eq_none (by simp; omega)] at hi
          cases hi
      rw [hj0] at hi
      simp at hi
      subst hi
      obtain rfl : i = l.length := by omega
      have hAlo : ∀ b, lo ≤ b → ob A ≠ some b := fun b hb e => by have := hA b e; omega
      refine ⟨B, e, by rw [List.getElem?_append_right (by omega), hh]; simp, ?_, ?_⟩
      · simp only [Nat.le_refl, if_true, if_neg (show ¬ l.length + 1 ≤ l.length by omega)]
        have h9 := (hr.shift (base2 := cut l.length) (X2 := fun b => (cut l.length ≤ b ∧ b < w.heap.size ∧ ob A' ≠ some b ∧ ¬ av b) ∧ ob A ≠ some b) (fun b hb => by have := (hr.blk hb).1; omega) fun b hbw hb => ⟨⟨by omega, hbw, hne b hbw (hAlo b hb), fun h => by have := hav b h; omega⟩, hAlo b hb⟩).keep (hk.mono fun b hb h => ?_)
        · exact h9.shift (fun b hb => (h9.blk hb).1) fun b _ hb => hb.1
        · rcases h with h | h
          · exact hAlo b (hr.blk h).1
          · exact h.2
      · intro b hb
        have := hr.blk hb
        simp only [if_neg (show ¬ l.length + 1 ≤ l.length by omega)]
        exact ⟨this.2, hne b this.2 (hAlo b this.1), fun h => by have := hav b h; omega⟩
end
/-- Where Copy stands: its memory, k rows being copied. -/
structure CR (w : World) (x : Val) (q : Nat) (A B : Option Addr) (c e : Nat) (Ac : Option Addr) (cc : Nat) (k : Nat) (Ar : Option Addr) (cr : Nat) (wr : World) : Prop where
  ext : Ext w wr
  box : Blk wr w.heap.size 33 #[.int .i64 x.kind, .string x.s, .int .i64 x.dn, .int .i64 x.ds, .int .i64 x.n, .slice A x.cols.length c, .slice B x.rows.length e]
  res : Blk wr (w.heap.size + 1) 33 #[.int .i64 0, .string ⟨#[]⟩, .int .i64 0, .int .i64 0, .int .i64 0, .slice none 0 0, .slice none 0 0]
  gout : Blk wr (w.heap.size + 1 + 1) 33 #[.int .i64 x.kind, .string x.s, .int .i64 x.dn, .int .i64 x.ds, .int .i64 x.n, .slice Ac x.cols.length cc, .slice Ar k cr]
  cols : OwnSs wr (w.heap.size + 3) Ac cc x.cols
  rows : OwnRR wr (w.heap.size + 3) (fun b => ob Ac = some b) q Ar cr (x.rows.take k)
  sep : ∀ b, ob Ac = some b → ob Ar ≠ some b
theorem CR.more {w : World} {x : Val} {q : Nat} {A B : Option Addr} {c e : Nat} {Ac : Option Addr} {cc : Nat} {k : Nat} {Ar : Option Addr} {cr : Nat} {wr wr' : World} (h : CR w x q A B c e Ac cc k Ar cr wr) (hx : Ext wr wr') : CR w x q A B c e Ac cc k Ar cr wr' :=
  ⟨h.ext.trans hx, h.box.keep (hx.kept _), h.res.keep (hx.kept _), h.gout.keep (hx.kept _), h.cols.ext hx, h.rows.ext hx, h.sep⟩
/-- Behind the append to the rows, ahead of the store. -/
structure CRA (w : World) (x : Val) (q : Nat) (A B : Option Addr) (c e : Nat) (Ac : Option Addr) (cc : Nat) (k : Nat) (Ar : Option Addr) (cr : Nat) (wr : World) : Prop where
  ext : Ext w wr
  box : Blk wr w.heap.size 33 #[.int .i64 x.kind, .string x.s, .int .i64 x.dn, .int .i64 x.ds, .int .i64 x.n, .slice A x.cols.length c, .slice B x.rows.length e]
  res : Blk wr (w.heap.size + 1) 33 #[.int .i64 0, .string ⟨#[]⟩, .int .i64 0, .int .i64 0, .int .i64 0, .slice none 0 0, .slice none 0 0]
  gout : ∃ y, Blk wr (w.heap.size + 1 + 1) 33 #[.int .i64 x.kind, .string x.s, .int .i64 x.dn, .int .i64 x.ds, .int .i64 x.n, .slice Ac x.cols.length cc, y]
  cols : OwnSs wr (w.heap.size + 3) Ac cc x.cols
  rows : OwnRR wr (w.heap.size + 3) (fun b => ob Ac = some b) q Ar cr (x.rows.take k)
  sep : ∀ b, ob Ac = some b → ob Ar ≠ some b
theorem CR.app {w : World} {x : Val} {q : Nat} {A B : Option Addr} {c e : Nat} {Ac : Option Addr} {cc : Nat} {k : Nat} {Ar : Option Addr} {cr : Nat} {wr wr' : World} (h : CR w x q A B c e Ac cc k Ar cr wr) {hs : List Value} {cut : Nat → Nat} {lo : Nat} {A3 A4 : Option Addr} {c3 c4 : Nat} (hk : k < x.rows.length)
    (ho : Own wr (w.heap.size + 3) 45 1 Ar (x.rows.take k).length cr hs) (h2 : ∀ i j, i ≤ j → cut i ≤ cut j) (h3 : w.heap.size + 3 ≤ cut 0) (h4 : cut (x.rows.take k).length ≤ lo) (hlw : lo ≤ wr.heap.size) (hAlo : ∀ b, ob Ar = some b → b < lo) (hClo : ∀ b, ob Ac = some b → b < lo)
    (h5 : ∀ (i : Nat) (r : List Val), (x.rows.take k)[i]? = some r → ∃ (B : Option Addr) (e : Nat), hs[i]? = some (Value.slice B r.length e) ∧ OwnVs wr (cut i) (fun b => cut i ≤ b ∧ b < cut (i + 1) ∧ ob Ar ≠ some b ∧ ¬ ob Ac = some b) q B e r ∧ ∀ b, ob B = some b → b < cut (i + 1) ∧ ob Ar ≠ some b ∧ ¬ ob Ac = some b)
    (hr : OwnVs wr lo (fun b => lo ≤ b) q A3 c3 x.rows[k]) (hg : wr.grownBy wr' (ob Ar)) (ho4 : Own wr' (w.heap.size + 3) 45 1 A4 (k + 1) c4 (hs ++ [Value.slice A3 x.rows[k].length c3])) (hat : ob A4 = ob Ar ∨ ob A4 = some wr.heap.size) : CRA w x q A B c e Ac cc (k + 1) A4 c4 wr' := by
  have hlk : (x.rows.take k).length = k := by rw [List.length_take]; omega
  have hkb : ∀ g, g < w.heap.size + 3 → Kept (fun b => b = g) wr wr' := fun g hg' => Kept.of_grown hg fun b hb _ e => by
    subst hb
    have := (ho.blk e.symm).1
    omega
  refine ⟨Ext.grown h.ext hg fun b hb => by have := (ho.blk hb).1; omega, h.box.keep (hkb _ (by omega)), h.res.keep (hkb _ (by omega)), ⟨_, h.gout.keep (hkb _ (by omega))⟩, ⟨h.cols.1.keep (Kept.of_grown hg fun b hb _ e => h.sep b hb e.symm), h.cols.2⟩, ?_, ?_⟩
  · rw [List.take_succ_eq_append_getElem hk]
    exact OwnRR.push h4 hlw h2 h3 (by simpa using ho.len) (fun b hb => ⟨(ho.blk hb).1, hAlo b hb⟩) hClo h5 hr (by rw [hlk]; exact ho4) hg hat
  · intro b hb hb'
    rcases hat with e | e
    · rw [e] at hb'; exact h.sep b hb hb'
    · rw [e] at hb'
      have := (h.cols.1.blk hb).2
      injection hb' with hb'
      omega
theorem CRA.store {w : World} {x : Val} {q : Nat} {A B : Option Addr} {c e : Nat} {Ac : Option Addr} {cc : Nat} {k : Nat} {Ar : Option Addr} {cr : Nat} {wr : World} (h : CRA w x q A B c e Ac cc k Ar cr wr) : CR w x q A B c e Ac cc k Ar cr (wr.setCell ⟨w.heap.size + 1 + 1, 6, none⟩ (.slice Ar k cr)) := by
  obtain ⟨y, hy⟩ := h.gout
  have ho := (Only.refl (w.heap.size + 1 + 1) wr).set 6 (.slice Ar k cr)
  refine ⟨h.ext.only ho (by omega), h.box.keep (ho.kept fun b _ e => by omega), h.res.keep (ho.kept fun b _ e => by omega), hy.set 6 _, ⟨ho.own h.cols.1 (by omega), h.cols.2⟩, h.rows.keep (ho.kept fun b _ hb => by omega) (fun b hb hb' => h.sep b hb' hb), h.sep⟩
end Go.Proofs.YtcmmkeiiapbgcaaGreatDoor
/- The reference's Copy: the same data in new memory, which is the caller's own. Conditions: the argument reads as data. -/
namespace Go.Proofs.YtcmmkeiiapbgcaaGreatDoor
open Go Go.RowKit

/-- What is known of the rows so far, ahead of the append of a new row. -/
def CRBrow (w : World) (x : Val) (q : Nat) (Ac : Option Addr) (k : Nat) (Ar : Option Addr) (r : List Val) (A3 : Option Addr) (c3 : Nat) (hs : List Value) (cut : Nat → Nat) (lo : Nat) (wr : World) : Prop :=
  (∀ i j, i ≤ j → cut i ≤ cut j) ∧ w.heap.size + 3 ≤ cut 0 ∧ cut (x.rows.take k).length ≤ lo ∧ lo ≤ wr.heap.size ∧ (∀ b, ob Ar = some b → b < lo) ∧ (∀ b, ob Ac = some b → b < lo) ∧
    (∀ (i : Nat) (r : List Val), (x.rows.take k)[i]? = some r → ∃ (B : Option Addr) (e : Nat), hs[i]? = some (Value.slice B r.length e) ∧ OwnVs wr (cut i) (fun b => cut i ≤ b ∧ b < cut (i + 1) ∧ ob Ar ≠ some b ∧ ¬ ob Ac = some b) q B e r ∧ ∀ b, ob B = some b → b < cut (i + 1) ∧ ob Ar ≠ some b ∧ ¬ ob Ac = some b) ∧
    OwnVs wr lo (fun b => lo ≤ b) q A3 c3 r
structure CRB (w : World) (x : Val) (q : Nat) (A B : Option Addr) (c e : Nat) (Ac : Option Addr) (cc : Nat) (k : Nat) (Ar : Option Addr) (cr : Nat) (r : List Val) (A3 : Option Addr) (c3 : Nat) (wr : World) : Prop where
  base : CR w x q A B c e Ac cc k Ar cr wr
  row : ∃ (hs : List Value) (cut : Nat → Nat) (lo : Nat), Own wr (w.heap.size + 3) 45 1 Ar (x.rows.take k).length cr hs ∧ CRBrow w x q Ac k Ar r A3 c3 hs cut lo wr
theorem CRB.of {w : World} {x : Val} {q : Nat} {A B : Option Addr} {c e : Nat} {Ac : Option Addr} {cc : Nat} {k : Nat} {Ar : Option Addr} {cr : Nat} {wr wr' : World} {r : List Val} {A3 : Option Addr} {c3 : Nat} (h : CR w x q A B c e Ac cc k Ar cr wr) (ho : OwnVs wr' wr.heap.size (fun b => wr.heap.size ≤ b) q A3 c3 r) (hx : Ext wr wr') : CRB w x q A B c e Ac cc k Ar cr r A3 c3 wr' := by
  obtain ⟨hs, cut, h1, h2, h3, h4, h5⟩ := h.rows
  refine ⟨h.more hx, hs, cut, wr.heap.size, h1.ext hx, h2, h3, h4, hx.size, fun b hb => (h1.blk hb).2, fun b hb => (h.cols.1.blk hb).2, fun i r hi => ?_, ho⟩
  obtain ⟨B, e, g1, g2, g3⟩ := h5 i r hi
  exact ⟨B, e, g1, g2.ext hx, g3⟩
theorem CRB.more {w : World} {x : Val} {q : Nat} {A B : Option Addr} {c e : Nat} {Ac : Option Addr} {cc : Nat} {k : Nat} {Ar : Option Addr} {cr : Nat} {wr wr' : World} {r : List Val} {A3 : Option Addr} {c3 : Nat} (h : CRB w x q A B c e Ac cc k Ar cr r A3 c3 wr) (hx : Ext wr wr') : CRB w x q A B c e Ac cc k Ar cr r A3 c3 wr' := by
  obtain ⟨hs, cut, lo, h1, h2, h3, h4, h5, h6, h7, h8, h9⟩ := h.row
  refine ⟨h.base.more hx, hs, cut, lo, h1.ext hx, h2, h3, h4, Nat.le_trans h5 hx.size, h6, h7, fun i r hi => ?_, h9.ext hx⟩
  obtain ⟨B, e, g1, g2, g3⟩ := h8 i r hi
  exact ⟨B, e, g1, g2.ext hx, g3⟩
theorem CRB.app {w : World} {x : Val} {q : Nat} {A B : Option Addr} {c e : Nat} {Ac : Option Addr} {cc : Nat} {k : Nat} {Ar : Option Addr} {cr : Nat} {wr wr' : World} {r : List Val} {A3 A4 : Option Addr} {c3 c4 : Nat} (h : CRB w x q A B c e Ac cc k Ar cr r A3 c3 wr) {hs : List Value} {cut : Nat → Nat} {lo : Nat} (hr : ∃ hk : k < x.rows.length, r = x.rows[k]) (hk : k < x.rows.length) (h1 : Own wr (w.heap.size + 3) 45 1 Ar (x.rows.take k).length cr hs) (hb : CRBrow w x q Ac k Ar r A3 c3 hs cut lo wr)
    (hg : wr.grownBy wr' (ob Ar)) (ho4 : Own wr' (w.heap.size + 3) 45 1 A4 (k + 1) c4 (hs ++ [Value.slice A3 r.length c3])) (hat : ob A4 = ob Ar ∨ ob A4 = some wr.heap.size) : CRA w x q A B c e Ac cc (k + 1) A4 c4 wr' := by
  obtain ⟨_, rfl⟩ := hr
  obtain ⟨h2, h3, h4, h5, h6, h7, h8, h9⟩ := hb
  exact h.base.app hk h1 h2 h3 h4 h5 h6 h7 h8 h9 hg ho4 hat
def CpyInv (w : World) (x : Val) (q : Nat) (A B : Option Addr) (c e : Nat) (Ac : Option Addr) (cc : Nat) (k : Nat) (Ar : Option Addr) (cr : Nat) (_r : List Val) (_b _o : Nat) (_C : Option Addr) (_ec : Nat) (γ : Nat) (w' : World) : Prop := γ ≤ 4 ∧ (Ext w w' ∧ Blk w' w.heap.size 33 #[.int .i64 x.kind, .string x.s, .int .i64 x.dn, .int .i64 x.ds, .int .i64 x.n, .slice A x.cols.length c, .slice B x.rows.length e]) ∧ (γ ≤ 2 → CR w x q A B c e Ac cc k Ar cr w')
def gCpy (w : World) (x : Val) (q : Nat) (A B : Option Addr) (c e : Nat) (Ac : Option Addr) (cc : Nat) (k : Nat) (Ar : Option Addr) (cr : Nat) (r : List Val) (b o : Nat) (C : Option Addr) (ec : Nat) : Nat → List Value → Nat → World → Prop
  | 0, [v], _, _ => v = .pointer (some ⟨w.heap.size + 1 + 1, 6, none⟩)
  | 1, [v], _, _ => v = .slice Ar k cr
  | 2, [v], _, _ => v = .pointer (some ⟨w.heap.size, 6, none⟩)
  | 3, [v], _, _ => v = .slice B x.rows.length e
  | 4, [v], _, _ => v = .int .i64 (k : Int)
  | 5, [v], _, _ => v = .pointer (some ⟨b, o + k, none⟩)
  | 6, [v], _, _ => v = .slice C r.length ec
  | 7, [v], γ, w' => ∃ (A3 : Option Addr) (c3 : Nat), v = .slice A3 r.length c3 ∧ 1 ≤ γ ∧ (γ = 1 → CRB w x q A B c e Ac cc k Ar cr r A3 c3 w')
  | 8, [v], γ, w' => ∃ (g : Nat) (A3 : Option Addr) (c3 : Nat), v = .slice (some ⟨g, 0, none⟩) 1 1 ∧ 2 ≤ γ ∧ (γ = 2 → Blk w' g 45 #[.slice A3 r.length c3] ∧ CRB w x q A B c e Ac cc k Ar cr r A3 c3 w')
  | 9, [v], γ, w' => ∃ (A4 : Option Addr) (c4 : Nat), v = .slice A4 (k + 1) c4 ∧ 3 ≤ γ ∧ (γ = 3 → CRA w x q A B c e Ac cc (k + 1) A4 c4 w')
  | 10, [v], _, _ => v = .pointer (some ⟨w.heap.size + 1 + 1, 6, none⟩)
  | 11, [_], γ, w' => 4 ≤ γ ∧ (γ = 4 → ∃ (A4 : Option Addr) (c4 : Nat), CR w x q A B c e Ac cc (k + 1) A4 c4 w')
  | _, _, _, _ => True
theorem gCpy_st (w : World) (x : Val) (q : Nat) (A B : Option Addr) (c e : Nat) (Ac : Option Addr) (cc : Nat) (k : Nat) (Ar : Option Addr) (cr : Nat) (r : List Val) (b o : Nat) (C : Option Addr) (ec : Nat) : ∀ i l' γ v γ' v', SR (CpyInv w x q A B c e Ac cc k Ar cr r b o C ec) γ v γ' v' → gCpy w x q A B c e Ac cc k Ar cr r b o C ec i l' γ v → gCpy w x q A B c e Ac cc k Ar cr r b o C ec i l' γ' v' := by
  intro i l' γ v γ' v' r h
  have hle := r.le
  unfold gCpy at h ⊢
  split at h
  all_goals first
    | exact h
    | (obtain ⟨h1, h2⟩ := h; exact ⟨h1, by omega⟩)
    | (obtain ⟨h1, h3, h4⟩ := h; exact ⟨h1, by omega, fun e => by rw [r.eq (by omega)]; exact h4 (by omega)⟩)
    | (obtain ⟨x0, h1, h3, h4⟩ := h; exact ⟨x0, h1, by omega, fun e => by rw [r.eq (by omega)]; exact h4 (by omega)⟩)
    | (obtain ⟨x0, x1, h1, h3, h4⟩ := h; exact ⟨x0, x1, h1, by omega, fun e => by rw [r.eq (by omega)]; exact h4 (by omega)⟩)
    | (obtain ⟨x0, x1, x2, h1, h3, h4⟩ := h; exact ⟨x0, x1, x2, h1, by omega, fun e => by rw [r.eq (by omega)]; exact h4 (by omega)⟩)
    | (obtain ⟨x0, x1, x2, x3, h1, h3, h4⟩ := h; exact ⟨x0, x1, x2, x3, h1, by omega, fun e => by rw [r.eq (by omega)]; exact h4 (by omega)⟩)
    | (obtain ⟨x0, x1, x2, x3, x4, h1, h3, h4⟩ := h; exact ⟨x0, x1, x2, x3, x4, h1, by omega, fun e => by rw [r.eq (by omega)]; exact h4 (by omega)⟩)
    | (obtain ⟨h3, h4⟩ := h; exact ⟨by omega, fun e => by rw [r.eq (by omega)]; exact h4 (by omega)⟩)
def dCpy : Nat → List Nat := fun i => [i]
def stCpy : List Nat := [100, 3, 100, 100, 100, 100, 100, 1, 2, 3, 100, 4]

/-- What is handed back: the same value; its memory is the caller's own. -/
def RetCp (w : World) (d : Nat) (x : Val) (e : Ending) (w' : World) : Prop := ∃ (Ac : Option Addr) (cc : Nat) (Ar : Option Addr) (cr : Nat), e = .returned (.agg #[.int .i64 x.kind, .string x.s, .int .i64 x.dn, .int .i64 x.ds, .int .i64 x.n, .slice Ac x.cols.length cc, .slice Ar x.rows.length cr]) ∧ OwnSs w' w.heap.size Ac cc x.cols ∧ OwnRR w' w.heap.size (fun b => ob Ac = some b) d Ar cr x.rows ∧ (∀ b, ob Ac = some b → ob Ar ≠ some b) ∧ Ext w w'
theorem OwnRR.lower {w : World} {base base' q c : Nat} {av : Nat → Prop} {A : Option Addr} {l : List (List Val)} (h : OwnRR w base av q A c l) (hb : base' ≤ base) : OwnRR w base' av q A c l := by
  obtain ⟨hs, cut, h1, h2, h3, h4, h5⟩ := h
  exact ⟨hs, cut, h1.lower hb, h2, Nat.le_trans hb h3, h4, h5⟩
theorem RetCp.v {w w' : World} {d : Nat} {x : Val} {e : Ending} (h : RetCp w d x e w') (hs : x.s.size ≤ 4294967296) (hc : x.cols.length ≤ 4294967296) (hl : x.rows.length ≤ 4294967296) (hr : ∀ r ∈ x.rows, r.length ≤ 4294967296) : RetV w (Fresh w) d x e w' := by
  obtain ⟨Ac, cc, Ar, cr, he, h1, h2, h3, h4⟩ := h
  exact ⟨Ac, cc, Ar, cr, he, ⟨h1.1.cap, h2.cap⟩, RV.mk hs (h1.strs hc fun b hb => (h1.1.blk hb).1) (h2.rows hl hr), h4⟩
theorem Rows.lens {w : World} {S : Nat → Prop} {d : Nat} {B : Option Addr} {l : List (List Val)} (h : Rows w S d B l) : ∀ r ∈ l, r.length ≤ 4294967296 := by
  intro r hr
  obtain ⟨i, hi, rfl⟩ := List.mem_iff_getElem.1 hr
  obtain ⟨_, _, _, _, _, _, _, _, h1⟩ := h.at_ hi
  exact h1.len
theorem RetCp.rv {w w' : World} {d : Nat} {x : Val} {e : Ending} {S : Nat → Prop} {A B : Option Addr} (h : RetCp w d x e w') (hx : RV w S d x A B) : RetV w (Fresh w) d x e w' := h.v hx.size hx.strs.2.1 hx.rows_.len hx.rows_.lens
theorem app_new {W3 w1 : World} {t : Nat} (hg : (W3.alloc (.cells #[] t)).grownBy w1 (ob (some ⟨W3.heap.size, 0, none⟩))) : Ext W3 w1 := ((Ext.refl W3).alloc _).grown hg (fun k hk => by simp [ob] at hk; omega)
def PC6O (d : Nat) : Prop := ∀ (x : Val) (A B : Option Addr) (c e : Nat) (w : World) (S : Nat → Prop), RV w S d x A B → Calls Tryz.prog 75 #[(.agg #[.int .i64 x.kind, .string x.s, .int .i64 x.dn, .int .i64 x.ds, .int .i64 x.n, .slice A x.cols.length c, .slice B x.rows.length e])] w (RetCp w d x)
set_option maxRecDepth 100000 in
set_option maxHeartbeats 2000000 in
theorem r06_Copy_step (q : Nat) (ih : 0 < q → PC6 (q - 1)) : PC6O q := by
  intro x A B c e w S hx
  have HX := Lib.hid (hx.mono (T := fun b => S b ∧ b < w.heap.size) fun i hi hs => ⟨hs, hi⟩)
  have IH := Lib.hid ih
  have hlen := hx.rows_.len
  have hcl := hx.strs.2.1
  have hx0 : Ext w (((w.alloc (.cells #[.int .i64 x.kind, .string x.s, .int .i64 x.dn, .int .i64 x.ds, .int .i64 x.n, .slice A x.cols.length c, .slice B x.rows.length e] 33)).alloc (.cells #[.int .i64 0, .string ⟨#[]⟩, .int .i64 0, .int .i64 0, .int .i64 0, .slice none 0 0, .slice none 0 0] 33)).alloc (.cells #[.int .i64 0, .string ⟨#[]⟩, .int .i64 0, .int .i64 0, .int .i64 0, .slice none 0 0, .slice none 0 0] 33)) := (((Ext.refl w).alloc _).alloc _).alloc _
  clear hx ih
  obtain ⟨W3, hW3⟩ : ∃ W3, W3 = (((w.alloc (.cells #[.int .i64 x.kind, .string x.s, .int .i64 x.dn, .int .i64 x.ds, .int .i64 x.n, .slice A x.cols.length c, .slice B x.rows.length e] 33)).alloc (.cells #[.int .i64 0, .string ⟨#[]⟩, .int .i64 0, .int .i64 0, .int .i64 0, .slice none 0 0, .slice none 0 0] 33)).alloc (.cells #[.int .i64 x.kind, .string x.s, .int .i64 x.dn, .int .i64 x.ds, .int .i64 x.n, .slice A x.cols.length c, .slice B x.rows.length e] 33)) := ⟨_, rfl⟩
  have hx3 : Ext w W3 := by rw [hW3]; exact (((Ext.refl w).alloc _).alloc _).alloc _
  have hs3 : W3.heap.size = w.heap.size + 3 := by rw [hW3]; simp
  have b0 : Blk W3 w.heap.size 33 #[.int .i64 x.kind, .string x.s, .int .i64 x.dn, .int .i64 x.ds, .int .i64 x.n, .slice A x.cols.length c, .slice B x.rows.length e] := by rw [hW3]; exact ((Blk.new _ _ _).keep (Kept.alloc _ _ _)).keep (Kept.alloc _ _ _)
  have b1 : Blk W3 (w.heap.size + 1) 33 #[.int .i64 0, .string ⟨#[]⟩, .int .i64 0, .int .i64 0, .int .i64 0, .slice none 0 0, .slice none 0 0] := by
    rw [hW3]
    have := (Blk.new (w.alloc (.cells #[.int .i64 x.kind, .string x.s, .int .i64 x.dn, .int .i64 x.ds, .int .i64 x.n, .slice A x.cols.length c, .slice B x.rows.length e] 33)) 33 #[.int .i64 0, .string ⟨#[]⟩, .int .i64 0, .int .i64 0, .int .i64 0, .slice none 0 0, .slice none 0 0]).keep (Kept.alloc _ _ (.cells #[.int .i64 x.kind, .string x.s, .int .i64 x.dn, .int .i64 x.ds, .int .i64 x.n, .slice A x.cols.length c, .slice B x.rows.length e] 33))
    simpa using this
  have b2 : Blk W3 (w.heap.size + 1 + 1) 33 #[.int .i64 x.kind, .string x.s, .int .i64 x.dn, .int .i64 x.ds, .int .i64 x.n, .slice A x.cols.length c, .slice B x.rows.length e] := by
    rw [hW3]
    have := Blk.new ((w.alloc (.cells #[.int .i64 x.kind, .string x.s, .int .i64 x.dn, .int .i64 x.ds, .int .i64 x.n, .slice A x.cols.length c, .slice B x.rows.length e] 33)).alloc (.cells #[.int .i64 0, .string ⟨#[]⟩, .int .i64 0, .int .i64 0, .int .i64 0, .slice none 0 0, .slice none 0 0] 33)) 33 #[.int .i64 x.kind, .string x.s, .int .i64 x.dn, .int .i64 x.ds, .int .i64 x.n, .slice A x.cols.length c, .slice B x.rows.length e]
    simpa using this
  have HX3 := Lib.hid hx3
  have HS3 := Lib.hid hs3
  have HB0 := Lib.hid b0
  have HB1 := Lib.hid b1
  have HB2 := Lib.hid b2
  have HW3 := Lib.hid hW3
  have HST := Lib.hid ((HX.out.strs.keep (hx3.kept _)).keep (Kept.alloc _ _ (.cells #[] 9)))
  clear hx3 hs3 b1 b2 hx0 hW3
  go_enter Tryz.func75, Tryz.ntmps75
  go_upto_region 2 with fail
  rw [← HW3.out]
  have k5 := HB0.out.cell (i := 5) rfl
  have hz3 : w.heap.size < W3.heap.size := by have := HS3.out; omega
  go_wp2_with (at_builtin; go_must (refine wpList_app rfl (.tmp 6) (.tmp 8) rfl tiS rfl (World.ownsRow_made W3 #[] 0 (Nat.le_refl _) (by unfold maxLen; omega) rfl) rfl HST.out.1 (by simp) (by simp [Value.oneCell']) (by omega) (by decide) (by simp) ?_); intro Ac cc w1 hown hg hat; have hx1 := app_new hg; have q5 := HB2.out.keep (hx1.kept _); have k50 := q5.cell (i := 5) rfl; have k60 := q5.cell (i := 6) rfl; have kf := q5.frozen; have kz := q5.lt; have Q5 := Lib.hid q5; have HX1 := Lib.hid hx1; have HOWN := Lib.hid hown; clear hg hat q5 hx1 hown)
  have HM0 := Lib.hid (show CR w x q A B c e Ac cc 0 none 0 ((w1.setCell ⟨w.heap.size + 1 + 1, 5, none⟩ (.slice Ac x.cols.length cc)).setCell ⟨w.heap.size + 1 + 1, 6, none⟩ (.slice none 0 0)) by
    have ho := ((Only.refl (w.heap.size + 1 + 1) w1).set 5 (.slice Ac x.cols.length cc)).set 6 (.slice none 0 0)
    have hx := HX3.out.trans HX1.out
    have hown := HOWN.out
    simp only [Nat.zero_add, List.nil_append] at hown
    rw [HS3.out] at hown
    refine ⟨hx.only ho (by omega), (HB0.out.keep (HX1.out.kept _)).keep (ho.kept fun b _ e => by omega), (HB1.out.keep (HX1.out.kept _)).keep (ho.kept fun b _ e => by omega), ?_, ⟨ho.own hown (by omega), HST.out.2.2⟩, ?_, fun b _ h => by cases h⟩
    · have := (Q5.out.set 5 (.slice Ac x.cols.length cc)).set 6 (.slice none 0 0)
      simpa using this
    · have hsz : w.heap.size + 3 ≤ ((w1.setCell ⟨w.heap.size + 1 + 1, 5, none⟩ (.slice Ac x.cols.length cc)).setCell ⟨w.heap.size + 1 + 1, 6, none⟩ (.slice none 0 0)).heap.size := by
        have := HX1.out.size
        have h2 := HS3.out
        simp [World.setCell]
        omega
      simpa using OwnRR.nil _ _ (fun b => ob Ac = some b) q hsz)
  clear HB0 HB1 HB2 HW3 HST HOWN Q5 HX1 HX3 HS3 k5 hz3 k50 k60 kf kz b0
  go_loopw [4] (fun i wr => ∃ (k : Nat) (Ar : Option Addr) (cr : Nat), k ≤ x.rows.length ∧ i = .int .i64 k ∧ CR w x q A B c e Ac cc k Ar cr wr) (fun i _ => x.rows.length - (intOf i).toNat)
  case atStart => exact ⟨0, none, 0, Nat.zero_le _, rfl, HM0.out⟩
  case round =>
    clear HM0
    obtain ⟨k, Ar, cr, hk, rfl, hm0⟩ := hrel
    have HM := Lib.hid hm0
    clear hm0
    have k6 := HM.out.box.cell (i := 6) rfl
    have hz := HM.out.box.lt
    by_cases hlt : k < x.rows.length
    · obtain ⟨b, o, C, ec, hB, hb, hc0, hcp, hrow⟩ := HX.out.rows_.at_ hlt
      obtain ⟨r, hr⟩ : ∃ r, r = x.rows[k] := ⟨_, rfl⟩
      rw [← hr] at hc0 hcp hrow
      have HC0 := Lib.hid hc0
      have HBE := Lib.hid hB
      have HROW := Lib.hid hrow
      have HRE := Lib.hid (show ∃ hk : k < x.rows.length, r = x.rows[k] from ⟨hlt, hr⟩)
      clear hc0 hB hrow hr
      go_upto_region 7 with fail
      refine wp_region_lin_lit (by kernel_rfl) dCpy (by kernel_rfl) (SR (CpyInv w x q A B c e Ac cc k Ar cr r b o C ec)) (SR.refl _) (SR.trans _) (SN stCpy) (gCpy w x q A B c e Ac cc k Ar cr r b o C ec) (gCpy_st _ _ _ _ _ _ _ _ _ _ _ _ _ _ _ _ _) 0 (SN.zero (by decide)) ⟨?_, ?_, ?_, ?_, ?_, ?_, ?_, ?_, ?_, ?_, ?_, ?_, trivial⟩ ?_
      · refine LinStep.yes fun vals γ w' ρ hR hN hp hρ hc hf hg => ⟨rfl, ?_⟩
        have hi := hR.inv ⟨by omega, ⟨HM.out.ext.drew, HM.out.box.keep (Kept.drew _ _)⟩, fun _ => HM.out.more (Ext.refl _).drew⟩
        have e3 : ρ (.tmp 3) = .pointer (some ⟨w.heap.size + 1 + 1, 0, none⟩) := hρ 3
        clear hR hN hp hρ hi
        go_light
        go_simp
        exact ⟨γ, SR.refl _ _ _, fun _ _ _ h => h, rfl⟩
      · refine LinStep.yes fun vals γ w' ρ hR hN hp hρ hc hf hg => ⟨rfl, ?_⟩
        have hi := hR.inv ⟨by omega, ⟨HM.out.ext.drew, HM.out.box.keep (Kept.drew _ _)⟩, fun _ => HM.out.more (Ext.refl _).drew⟩
        have e19 : ρ (.tmp 19) = _ := (hρ 19).trans (hp 0 (by decide))
        have hb := (hi.2.2 (by have h : γ < 3 := hN; omega)).gout
        have k1 := hb.cell (i := 6) rfl
        clear hR hN hp hρ hi hb
        go_light
        go_simp
        exact ⟨γ, SR.refl _ _ _, fun _ _ _ h => h, rfl⟩
      · refine LinStep.yes fun vals γ w' ρ hR hN hp hρ hc hf hg => ⟨rfl, ?_⟩
        have hi := hR.inv ⟨by omega, ⟨HM.out.ext.drew, HM.out.box.keep (Kept.drew _ _)⟩, fun _ => HM.out.more (Ext.refl _).drew⟩
        have e1 : ρ (.tmp 1) = .pointer (some ⟨w.heap.size, 0, none⟩) := hρ 1
        clear hR hN hp hρ hi
        go_light
        go_simp
        exact ⟨γ, SR.refl _ _ _, fun _ _ _ h => h, rfl⟩
      · refine LinStep.yes fun vals γ w' ρ hR hN hp hρ hc hf hg => ⟨rfl, ?_⟩
        have hi := hR.inv ⟨by omega, ⟨HM.out.ext.drew, HM.out.box.keep (Kept.drew _ _)⟩, fun _ => HM.out.more (Ext.refl _).drew⟩
        have e21 : ρ (.tmp 21) = _ := (hρ 21).trans (hp 2 (by decide))
        have k1 := hi.2.1.2.cell (i := 6) rfl
        clear hR hN hp hρ hi
        go_light
        go_simp
        exact ⟨γ, SR.refl _ _ _, fun _ _ _ h => h, rfl⟩
      · refine LinStep.yes fun vals γ w' ρ hR hN hp hρ hc hf hg => ⟨rfl, ?_⟩
        have hi := hR.inv ⟨by omega, ⟨HM.out.ext.drew, HM.out.box.keep (Kept.drew _ _)⟩, fun _ => HM.out.more (Ext.refl _).drew⟩
        have e4 : ρ (.tmp 4) = .int .i64 (k : Int) := hρ 4
        clear hR hN hp hρ hi
        go_light
        go_simp
        exact ⟨γ, SR.refl _ _ _, fun _ _ _ h => h, rfl⟩
      · refine LinStep.yes fun vals γ w' ρ hR hN hp hρ hc hf hg => ⟨rfl, ?_⟩
        have hi := hR.inv ⟨by omega, ⟨HM.out.ext.drew, HM.out.box.keep (Kept.drew _ _)⟩, fun _ => HM.out.more (Ext.refl _).drew⟩
        have e22 : ρ (.tmp 22) = _ := (hρ 22).trans (hp 3 (by decide))
        have e23 : ρ (.tmp 23) = _ := (hρ 23).trans (hp 4 (by decide))
        have i0 : (0 : Int) ≤ (k : Int) := by omega
        have i1 : (k : Int) < (x.rows.length : Int) := by omega
        rw [HBE.out] at e22
        clear hR hN hp hρ hi
        go_light
        go_simp
        exact ⟨γ, SR.refl _ _ _, fun _ _ _ h => h, rfl⟩
      · refine LinStep.yes fun vals γ w' ρ hR hN hp hρ hc hf hg => ⟨rfl, ?_⟩
        have hi := hR.inv ⟨by omega, ⟨HM.out.ext.drew, HM.out.box.keep (Kept.drew _ _)⟩, fun _ => HM.out.more (Ext.refl _).drew⟩
        have e24 : ρ (.tmp 24) = _ := (hρ 24).trans (hp 5 (by decide))
        have k1 := hi.2.1.1.cell HC0.out
        clear hR hN hp hρ hi
        go_light
        go_simp
        exact ⟨γ, SR.refl _ _ _, fun _ _ _ h => h, rfl⟩
      · refine LinStep.yes fun vals γ w' ρ hR hN hp hρ hc hf hg => ⟨rfl, ?_⟩
        have hi := hR.inv ⟨by omega, ⟨HM.out.ext.drew, HM.out.box.keep (Kept.drew _ _)⟩, fun _ => HM.out.more (Ext.refl _).drew⟩
        have e25 : ρ (.tmp 25) = _ := (hρ 25).trans (hp 6 (by decide))
        have h0 : γ = 0 := by have h : γ < 1 := hN; omega
        subst h0
        have HI := Lib.hid hi
        have HX := Lib.hid hi.2.1.1
        clear hR hN hp hρ hi
        go_light
        go_simp
        refine (r06_CopyRow q IH.out r C ec w' _ (HROW.out.keep (HX.out.kept _))).mono ?_
        rintro e' w3 ⟨A3, c3, he, ho3, hx3⟩
        have hcb := CRB.of (HI.out.2.2 (by omega)) ho3 hx3
        exact ⟨_, he, 1, SR.up (by omega) ⟨by omega, ⟨hcb.base.ext, hcb.base.box⟩, fun _ => hcb.base⟩, SN.up (by omega) (by decide) rfl, A3, c3, rfl, by omega, fun _ => hcb⟩
      · refine LinStep.yes fun vals γ w' ρ hR hN hp hρ hc hf hg => ⟨rfl, ?_⟩
        have hi := hR.inv ⟨by omega, ⟨HM.out.ext.drew, HM.out.box.keep (Kept.drew _ _)⟩, fun _ => HM.out.more (Ext.refl _).drew⟩
        obtain ⟨A3, c3, g7, hr1, hcb⟩ := hp 7 (by decide)
        have e26 : ρ (.tmp 26) = _ := (hρ 26).trans g7
        have h0 : γ = 1 := by have h : γ < 2 := hN; omega
        subst h0
        have HCB := Lib.hid ((hcb rfl).more ((Ext.refl w').alloc (.cells #[.slice A3 r.length c3] 45)))
        clear hR hN hp hρ hi hcb g7
        go_light
        go_simp
        exact ⟨2, SR.up (by omega) ⟨by omega, ⟨HCB.out.base.ext, HCB.out.base.box⟩, fun _ => HCB.out.base⟩, SN.up (by omega) (by decide) rfl, _, A3, c3, rfl, by omega, fun _ => ⟨Blk.new _ _ _, HCB.out⟩⟩
      · refine LinStep.yes fun vals γ w' ρ hR hN hp hρ hc hf hg => ⟨rfl, ?_⟩
        have hi := hR.inv ⟨by omega, ⟨HM.out.ext.drew, HM.out.box.keep (Kept.drew _ _)⟩, fun _ => HM.out.more (Ext.refl _).drew⟩
        obtain ⟨g', A3, c3, g8, hr2, hbk⟩ := hp 8 (by decide)
        have e27 : ρ (.tmp 27) = _ := (hρ 27).trans g8
        have e20 : ρ (.tmp 20) = _ := (hρ 20).trans (hp 1 (by decide))
        have h0 : γ = 2 := by have h : γ < 3 := hN; omega
        subst h0
        obtain ⟨hbk1, hbk2⟩ := hbk rfl
        obtain ⟨hs, cut, lo, r1, r2⟩ := hbk2.row
        have hlk : (x.rows.take k).length = k := by rw [List.length_take]; omega
        have r1' := r1
        rw [hlk] at r1'
        refine lin_app (.tmp 20) (.tmp 27) rfl tiR e20 r1' e27 hbk1.rd rfl (by simp [Value.oneCell']) (by omega) (by decide) (by have h1 := hbk2.base.gout.lt; omega) ?_
        intro A4 c4 w4 hown4 hg4 hat4
        have hcra := hbk2.app HRE.out hlt r1 r2 hg4 hown4 hat4
        exact ⟨3, SR.up (by omega) ⟨by omega, ⟨hcra.ext, hcra.box⟩, fun h => absurd h (by omega)⟩, SN.up (by omega) (by decide) rfl, A4, c4, rfl, by omega, fun _ => hcra⟩
      · refine LinStep.yes fun vals γ w' ρ hR hN hp hρ hc hf hg => ⟨rfl, ?_⟩
        have hi := hR.inv ⟨by omega, ⟨HM.out.ext.drew, HM.out.box.keep (Kept.drew _ _)⟩, fun _ => HM.out.more (Ext.refl _).drew⟩
        have e3 : ρ (.tmp 3) = .pointer (some ⟨w.heap.size + 1 + 1, 0, none⟩) := hρ 3
        clear hR hN hp hρ hi
        go_light
        go_simp
        exact ⟨γ, SR.refl _ _ _, fun _ _ _ h => h, rfl⟩
      · refine LinStep.yes fun vals γ w' ρ hR hN hp hρ hc hf hg => ⟨rfl, ?_⟩
        have hi := hR.inv ⟨by omega, ⟨HM.out.ext.drew, HM.out.box.keep (Kept.drew _ _)⟩, fun _ => HM.out.more (Ext.refl _).drew⟩
        obtain ⟨A4, c4, g9, hr3, hda⟩ := hp 9 (by decide)
        have e28 : ρ (.tmp 28) = _ := (hρ 28).trans g9
        have e29 : ρ (.tmp 29) = _ := (hρ 29).trans (hp 10 (by decide))
        have h0 : γ = 3 := by have h : γ < 4 := hN; omega
        subst h0
        have HA := Lib.hid (hda rfl)
        obtain ⟨y, hy⟩ := (hda rfl).gout
        have k0 := hy.cell (i := 6) rfl
        have kf := hy.frozen
        have kz := hy.lt
        clear hR hN hp hρ hi g9 hda hy
        go_light
        go_simp
        have hs := HA.out.store
        refine ⟨4, SR.up (by omega) ⟨by omega, ⟨?_, ?_⟩, fun h => absurd h (by omega)⟩, SN.up (by omega) (by decide) rfl, by omega, fun _ => ⟨A4, c4, ?_⟩⟩
        · simpa using hs.ext
        · simpa using hs.box
        · simpa using hs
      · intro vals γ w' hR hG
        have hi := hR.inv ⟨by omega, ⟨HM.out.ext.drew, HM.out.box.keep (Kept.drew _ _)⟩, fun _ => HM.out.more (Ext.refl _).drew⟩
        obtain ⟨h4, h5⟩ := hG 11 (by decide)
        obtain ⟨A4, c4, hm1⟩ := h5 (by have := hi.1; omega)
        have HM1 := Lib.hid hm1
        clear hR hG hi h4 h5 hm1 HM
        simp only [lexFrame, Act.put, List.setIfInBounds_toArray, List.set_cons_succ, List.set_cons_zero, Nat.zero_add, Nat.reduceAdd]
        generalize vals 0 = u0, vals 1 = u1, vals 2 = u2, vals 3 = u3, vals 4 = u4, vals 5 = u5, vals 6 = u6, vals 7 = u7, vals 8 = u8, vals 9 = u9, vals 10 = u10, vals 11 = u11
        go_wp2
        go_roundw
        case rel => exact ⟨k + 1, A4, c4, by omega, by go_num, HM1.out⟩
        case measure => simp [intOf]; omega
    · have hkr : k = x.rows.length := by omega
      subst hkr
      have hgt := HM.out.gout
      have hgr := HM.out.res
      have t0 := hgt.cell (i := 0) rfl
      have t1 := hgt.cell (i := 1) rfl
      have t2 := hgt.cell (i := 2) rfl
      have t3 := hgt.cell (i := 3) rfl
      have t4 := hgt.cell (i := 4) rfl
      have t5 := hgt.cell (i := 5) rfl
      have t6 := hgt.cell (i := 6) rfl
      have r0 := hgr.cell (i := 0) rfl
      have r1 := hgr.cell (i := 1) rfl
      have r2 := hgr.cell (i := 2) rfl
      have r3 := hgr.cell (i := 3) rfl
      have r4 := hgr.cell (i := 4) rfl
      have r5 := hgr.cell (i := 5) rfl
      have r6 := hgr.cell (i := 6) rfl
      have rf := hgr.frozen
      have rz := hgr.lt
      clear hgt hgr
      go_wp2
      refine bodyPost_ret (v := (.agg #[.int .i64 x.kind, .string x.s, .int .i64 x.dn, .int .i64 x.ds, .int .i64 x.n, .slice Ac x.cols.length cc, .slice Ar x.rows.length cr])) (by simp [results, Tryz.results75, go_sem, r0, r1, r2, r3, r4, r5, r6]) rfl ?_
      have hm := HM.out
      have hcb : ∀ b, ob Ac = some b → w.heap.size + 3 ≤ b := fun b h => (hm.cols.1.blk h).1
      have hrr := hm.rows
      rw [List.take_of_length_le (Nat.le_refl _)] at hrr
      refine ⟨Ac, cc, Ar, cr, rfl, ⟨?_, hm.cols.2⟩, ?_, hm.sep, ?_⟩
      · refine Own.lower (hm.cols.1.keep ?_) (by omega)
        iterate 7 with_reducible refine Kept.set2 ?_ (fun h => by have := hcb _ h; omega)
        with_reducible exact Kept.refl _ _
      · refine OwnRR.lower (hrr.keep ?_ fun b hb hb' => hm.sep b hb' hb) (by omega)
        iterate 7 with_reducible refine Kept.set2 ?_ (fun h => by have := h.1; omega)
        with_reducible exact Kept.refl _ _
      · iterate 7 with_reducible refine Ext.set2 ?_ (by omega) _
        with_reducible exact hm.ext
theorem r06_Copy (q : Nat) : PC6O q := by
  induction q with
  | zero => exact r06_Copy_step 0 (fun h => absurd h (by omega))
  | succ q ih => exact r06_Copy_step (q + 1) (fun _ x A B c e w S hx => (ih x A B c e w S hx).mono fun _ _ h => h.rv hx)
theorem r06_CopyV (q : Nat) : PC6 q := fun x A B c e w S hx => (r06_Copy q x A B c e w S hx).mono fun _ _ h => h.rv hx
end Go.Proofs.YtcmmkeiiapbgcaaGreatDoor
/- The reference's names, plain texts and right decimals: r06.Name, Plain, concordref04.Right. No conditions but a bound on the text's size. -/
namespace Go.Proofs.YtcmmkeiiapbgcaaGreatDoor
open Go Go.RowKit

def nameAt (j : Nat) (c : Int) : Bool := letterB c || (decide (j ≠ 0) && (decide (c = 95) || decide (48 ≤ c ∧ c ≤ 57)))
theorem head_bs {s : ByteArray} (hp : 0 < s.size) : (bs s).head? = some (s[0].toNat : Int) := by
  rw [List.head?_eq_getElem?, List.getElem?_eq_getElem (by rw [bs_len]; exact hp), bs_at s 0 hp]
theorem nameB_all {s : ByteArray} (h : ∀ j (h : j < s.size), nameAt j (s[j].toNat : Int) = true) : nameB s = decide (1 ≤ s.size ∧ s.size ≤ 20) := by
  unfold nameB
  by_cases h0 : s.size = 0
  · simp [h0]
  have hp : 0 < s.size := by omega
  have h1 : letterB (s[0].toNat : Int) = true := by simpa [nameAt] using h 0 hp
  rw [head_bs hp, all_take (bs s) nameC (fun j hj => by
    rw [bs_len] at hj; rw [bs_at s j hj]
    have := h j hj
    simp only [nameAt, Bool.or_eq_true, Bool.and_eq_true] at this
    simp only [nameC, Bool.or_eq_true]
    rcases this with h | ⟨_, h | h⟩
    · exact .inl (.inl h)
    · exact .inl (.inr h)
    · exact .inr h)]
  simp [h1]
theorem nameB_no {s : ByteArray} {k : Nat} (hk : k < s.size) (h : nameAt k (s[k].toNat : Int) = false) : nameB s = false := by
  unfold nameB
  by_cases h0 : k = 0
  · subst h0
    have h1 : letterB (s[0].toNat : Int) = false := by simpa [nameAt] using h
    rw [head_bs hk]
    simp [h1]
  · rw [all_not (bs s) nameC k (by rw [bs_len]; exact hk) (by
      rw [bs_at s k hk]
      simp only [nameAt, Bool.or_eq_false_iff, Bool.and_eq_false_iff, decide_eq_false_iff_not] at h
      obtain ⟨h1, h2 | ⟨h2, h3⟩⟩ := h
      · exact absurd h0 (by simpa using h2)
      · simp only [nameC, h1, Bool.false_or, Bool.or_eq_false_iff, decide_eq_false_iff_not]
        exact ⟨h2, h3⟩)]
    simp

set_option maxRecDepth 100000 in
set_option maxHeartbeats 400000 in
theorem r06_Plain (s : ByteArray) (hs : s.size ≤ 4294967296) (w : World) : Calls Tryz.prog 95 #[.string s] w (SameB w (textB s)) := by
  go_enter Tryz.func95, Tryz.ntmps95
  go_wp2
  go_loop [3] (fun i => ∃ k : Nat, k ≤ s.size ∧ i = .int .i64 k ∧ ∀ j (h : j < s.size), j < k → textC (s[j].toNat : Int) = true) (fun i => s.size - (intOf i).toNat)
  case atStart => exact ⟨0, Nat.zero_le _, rfl, by intros; omega⟩
  case round =>
    obtain ⟨k, hk, rfl, hall⟩ := hrel
    have HA := Lib.hid hall
    clear hall
    by_cases hlt : k < s.size
    · by_cases ht : 32 ≤ (s[k].toNat : Int) ∧ (s[k].toNat : Int) ≤ 126
      · obtain ⟨h1, h2⟩ := ht
        go_wp2
        go_round
        case rel =>
          refine ⟨k + 1, by omega, by go_num, fun j h hj => ?_⟩
          by_cases hjk : j = k
          · subst hjk
            simp [textC]
            omega
          · exact HA.out j h (by omega)
        case measure => simp [intOf]; omega
      · have hf : textB s = false := by
          unfold textB
          rw [all_not (bs s) textC k (by rw [bs_len]; exact hlt) (by rw [bs_at s k hlt]; simp only [textC, decide_eq_false_iff_not]; exact ht)]
          simp
        have HF := Lib.hid hf
        clear hf
        by_cases h1 : 32 ≤ (s[k].toNat : Int)
        all_goals
          go_wp2
          go_ret
          exact ⟨by rw [HF.out]; rfl, rfl⟩
    · have hf : textB s = decide (s.size ≤ 200) := by
        unfold textB
        rw [all_take (bs s) textC (fun j h => by rw [bs_len] at h; rw [bs_at s j h]; exact HA.out j h (by omega))]
        simp
      have HF := Lib.hid hf
      clear hf
      go_wp2
      go_ret
      exact ⟨by rw [HF.out]; simp; omega, rfl⟩

set_option maxRecDepth 100000 in
set_option maxHeartbeats 1000000 in
theorem r06_Name (s : ByteArray) (hs : s.size ≤ 4294967296) (w : World) : Calls Tryz.prog 53 #[.string s] w (SameB w (nameB s)) := by
  go_enter Tryz.func53, Tryz.ntmps53
  go_wp2
  go_loop [3] (fun i => ∃ k : Nat, k ≤ s.size ∧ i = .int .i64 k ∧ ∀ j (h : j < s.size), j < k → nameAt j (s[j].toNat : Int) = true) (fun i => s.size - (intOf i).toNat)
  case atStart => exact ⟨0, Nat.zero_le _, rfl, by intros; omega⟩
  case round =>
    obtain ⟨k, hk, rfl, hall⟩ := hrel
    have HA := Lib.hid hall
    clear hall
    by_cases hlt : k < s.size
    · have hc : (s[k].toNat : Int) < 48 ∨ (48 ≤ (s[k].toNat : Int) ∧ (s[k].toNat : Int) ≤ 57) ∨ (57 < (s[k].toNat : Int) ∧ (s[k].toNat : Int) < 65) ∨ (65 ≤ (s[k].toNat : Int) ∧ (s[k].toNat : Int) ≤ 90) ∨ (90 < (s[k].toNat : Int) ∧ (s[k].toNat : Int) < 95) ∨ (s[k].toNat : Int) = 95 ∨ (s[k].toNat : Int) = 96 ∨ (97 ≤ (s[k].toNat : Int) ∧ (s[k].toNat : Int) ≤ 122) ∨ 122 < (s[k].toNat : Int) := by omega
      by_cases hz : k = 0
      · subst hz
        rcases hc with h1 | ⟨h1, h2⟩ | ⟨h1, h2⟩ | ⟨h1, h2⟩ | ⟨h1, h2⟩ | h1 | h1 | ⟨h1, h2⟩ | h1
        all_goals
          first | have a1 : 97 ≤ (s[0].toNat : Int) := by omega | have a1 : ¬ 97 ≤ (s[0].toNat : Int) := by omega
          first | have a2 : (s[0].toNat : Int) ≤ 122 := by omega | have a2 : ¬ (s[0].toNat : Int) ≤ 122 := by omega
          first | have a3 : 65 ≤ (s[0].toNat : Int) := by omega | have a3 : ¬ 65 ≤ (s[0].toNat : Int) := by omega
          first | have a4 : (s[0].toNat : Int) ≤ 90 := by omega | have a4 : ¬ (s[0].toNat : Int) ≤ 90 := by omega
          first | have a5 : (s[0].toNat : Int) = 95 := by omega | have a5 : ¬ (s[0].toNat : Int) = 95 := by omega
          first | have a6 : (s[0].toNat : Int) < 48 := by omega | have a6 : ¬ (s[0].toNat : Int) < 48 := by omega
          first | have a7 : 57 < (s[0].toNat : Int) := by omega | have a7 : ¬ 57 < (s[0].toNat : Int) := by omega
          cases hn : nameAt 0 (s[0].toNat : Int)
          · have HF := Lib.hid (nameB_no hlt hn)
            first
            | (exfalso; simp only [nameAt, letterB, Bool.or_eq_false_iff, Bool.and_eq_false_iff, decide_eq_false_iff_not] at hn; omega)
            | (clear hn
               go_wp2
               all_goals first | (go_ret; exact ⟨by rw [HF.out]; rfl, rfl⟩) | (rename_i hx; exfalso; simp at hx; omega))
          · have HN := Lib.hid hn
            first
            | (exfalso; simp only [nameAt, letterB, Bool.or_eq_true, Bool.and_eq_true, decide_eq_true_iff] at hn; omega)
            | (clear hn
               go_wp2
               go_round
               case rel =>
                 refine ⟨0 + 1, by omega, by go_num, fun j h hj => ?_⟩
                 by_cases hjk : j = 0
                 · subst hjk
                   exact HN.out
                 · exact HA.out j h (by omega)
               case measure => simp [intOf]; omega)
      · rcases hc with h1 | ⟨h1, h2⟩ | ⟨h1, h2⟩ | ⟨h1, h2⟩ | ⟨h1, h2⟩ | h1 | h1 | ⟨h1, h2⟩ | h1
        all_goals
          first | have a1 : 97 ≤ (s[k].toNat : Int) := by omega | have a1 : ¬ 97 ≤ (s[k].toNat : Int) := by omega
          first | have a2 : (s[k].toNat : Int) ≤ 122 := by omega | have a2 : ¬ (s[k].toNat : Int) ≤ 122 := by omega
          first | have a3 : 65 ≤ (s[k].toNat : Int) := by omega | have a3 : ¬ 65 ≤ (s[k].toNat : Int) := by omega
          first | have a4 : (s[k].toNat : Int) ≤ 90 := by omega | have a4 : ¬ (s[k].toNat : Int) ≤ 90 := by omega
          first | have a5 : (s[k].toNat : Int) = 95 := by omega | have a5 : ¬ (s[k].toNat : Int) = 95 := by omega
          first | have a6 : (s[k].toNat : Int) < 48 := by omega | have a6 : ¬ (s[k].toNat : Int) < 48 := by omega
          first | have a7 : 57 < (s[k].toNat : Int) := by omega | have a7 : ¬ 57 < (s[k].toNat : Int) := by omega
          cases hn : nameAt k (s[k].toNat : Int)
          · have HF := Lib.hid (nameB_no hlt hn)
            first
            | (exfalso; simp only [nameAt, letterB, Bool.or_eq_false_iff, Bool.and_eq_false_iff, decide_eq_false_iff_not] at hn; omega)
            | (clear hn
               go_wp2
               all_goals first | (go_ret; exact ⟨by rw [HF.out]; rfl, rfl⟩) | (rename_i hx; exfalso; simp at hx; omega))
          · have HN := Lib.hid hn
            first
            | (exfalso; simp only [nameAt, letterB, Bool.or_eq_true, Bool.and_eq_true, decide_eq_true_iff] at hn; omega)
            | (clear hn
               go_wp2
               go_round
               case rel =>
                 refine ⟨k + 1, by omega, by go_num, fun j h hj => ?_⟩
                 by_cases hjk : j = k
                 · subst hjk
                   exact HN.out
                 · exact HA.out j h (by omega)
               case measure => simp [intOf]; omega)
    · have HF := Lib.hid (nameB_all (s := s) (fun j h => HA.out j h (by omega)))
      by_cases h0 : s.size = 0
      · have h0' : ¬ 1 ≤ (s.size : Int) := by omega
        go_wp2
        go_ret
        exact ⟨by rw [HF.out]; simp; omega, rfl⟩
      · have h0' : 1 ≤ (s.size : Int) := by omega
        go_wp2
        go_ret
        refine ⟨?_, rfl⟩
        rw [HF.out, show decide (1 ≤ s.size ∧ s.size ≤ 20) = decide ((s.size : Int) ≤ 20) from by rw [decide_eq_decide]; omega]
        rfl
end Go.Proofs.YtcmmkeiiapbgcaaGreatDoor
/- The reference's right decimals and lists of names: concordref04.Right, concordref06.Names. Conditions: the list reads as data. -/
namespace Go.Proofs.YtcmmkeiiapbgcaaGreatDoor
open Go Go.RowKit

set_option maxRecDepth 100000 in
set_option maxHeartbeats 400000 in
theorem r04_Right (n s : Int) (w : World) : Calls Tryz.prog 96 #[.agg #[.int .i64 n, .int .i64 s]] w (RetB w (decR n s)) := by
  go_enter Tryz.func96, Tryz.ntmps96
  go_wp2
  all_goals
    go_ret
    refine ⟨?_, (Ext.refl _).alloc _⟩
    simp only [decR, unitsB]
    simp
    first | done | omega | (rw [Bool.eq_iff_iff]; simp; omega)

def namesB (l : List ByteArray) : Bool := (List.range l.length).all (colOK l)
theorem memS_succ {l : List ByteArray} {j : Nat} (h : j < l.length) (v : ByteArray) : memS (l.take (j + 1)) v = (memS (l.take j) v || decide (l[j] = v)) := by
  rw [Bool.eq_iff_iff, Bool.or_eq_true, memS_iff, memS_iff, List.take_succ_eq_append_getElem h, List.mem_append, decide_eq_true_iff]
  simp [eq_comm]

set_option maxRecDepth 100000 in
set_option maxHeartbeats 1000000 in
theorem r06_Names (A : Option Addr) (c : Nat) (l : List ByteArray) (w : World) (S : Nat → Prop) (h : Strs w S A l) :
    Calls Tryz.prog 127 #[.slice A l.length c] w (QuietB w (namesB l)) := by
  have hn := h.2.1
  go_enter Tryz.func127, Tryz.ntmps127
  go_wp2
  go_loopw [3] (fun i wr => ∃ k : Nat, k ≤ l.length ∧ i = .int .i64 k ∧ (∃ n, wr = w.drewN n) ∧ ∀ j (h : j < l.length), j < k → colOK l j = true) (fun i _ => l.length - (intOf i).toNat)
  case atStart => exact ⟨0, Nat.zero_le _, rfl, ⟨0, rfl⟩, by intros; omega⟩
  case round =>
    obtain ⟨k, hk, rfl, ⟨n, rfl⟩, hall⟩ := hrel
    have HA := Lib.hid hall
    clear hall
    by_cases hlt : k < l.length
    · obtain ⟨b1, o1, rfl, z1, c1⟩ := h.at_ hlt
      have hsz := h.2.2 l[k] (List.getElem_mem hlt)
      generalize hf0 : nameB l[k] = f0
      have HF0 := Lib.hid hf0
      clear hf0
      go_wp2_with (go_at_call 53; refine (r06_Name _ hsz _).mono ?_; rintro e w' ⟨rfl, rfl⟩; rw [HF0.out])
      go_loopw [4, 5] (fun f i wr => ∃ j : Nat, j ≤ k ∧ i = .int .i64 j ∧ f = .bool (f0 && !memS (l.take j) l[k]) ∧ ∃ n, wr = w.drewN n) (fun _ i _ => k - (intOf i).toNat)
      case atStart => exact ⟨0, Nat.zero_le _, rfl, by simp [memS, idxS], ⟨n, rfl⟩⟩
      case round =>
        obtain ⟨j, hj, rfl, rfl, ⟨m, rfl⟩⟩ := hrel
        generalize hf1 : (f0 && !memS (l.take j) l[k]) = f1
        have HF1 := Lib.hid hf1
        clear hf1
        by_cases hjk : j < k
        · have hjl : j < l.length := by omega
          obtain ⟨b2, o2, he2, z2, c2⟩ := h.at_ hjl
          injection he2 with he2
          injection he2 with he2 he3
          subst he2 he3
          cases f1
          all_goals
            go_wp2
            go_quiet (fail)
            go_wp2
            go_roundw
            case rel =>
              refine ⟨j + 1, by omega, by go_num, ?_, ⟨_, rfl⟩⟩
              rw [memS_succ hjl]
              have := HF1.out
              simp_all [bytes_beq]
            case measure => simp [intOf]; omega
        · have hjk' : j = k := by omega
          subst hjk'
          cases f1
          · go_wp2
            go_ret
            refine ⟨?_, m, rfl⟩
            have hr : namesB l = false := range_not hlt (by rw [colOK, getD_of _ _ _ hlt, HF0.out]; exact HF1.out)
            rw [hr]
            rfl
          · go_wp2
            go_roundw
            case rel =>
              refine ⟨j + 1, by omega, by go_num, ⟨_, rfl⟩, fun i h hi => ?_⟩
              by_cases hij : i = j
              · subst hij
                rw [colOK, getD_of _ _ _ hlt, HF0.out]
                exact HF1.out
              · exact HA.out i h (by omega)
            case measure => simp [intOf]; omega
    · go_wp2
      go_ret
      refine ⟨?_, n, rfl⟩
      have hr : namesB l = true := range_all fun j hj => HA.out j hj (by omega)
      rw [hr]
      rfl
end Go.Proofs.YtcmmkeiiapbgcaaGreatDoor
