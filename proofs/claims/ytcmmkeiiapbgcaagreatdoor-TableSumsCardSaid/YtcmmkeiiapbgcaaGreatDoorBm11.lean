/- The reference's reader of numbers: tables (where at most one number is left), values; Made of two numbers. Conditions: the numbers read as data, and lie apart from the reader. -/
import Derived.Test.YtcmmkeiiapbgcaaGreatDoorBm10
namespace Go.Proofs.YtcmmkeiiapbgcaaGreatDoor
open Go Go.RowKit

def names3 : List ByteArray := [⟨#[97]⟩, ⟨#[98]⟩, ⟨#[99]⟩]
def names3A : Array Value := #[.string ⟨#[97]⟩, .string ⟨#[98]⟩, .string ⟨#[99]⟩]
theorem names3_at (k : Nat) (hk : k < 3) : ∃ h : k < names3.length, names3A[k]? = some (.string names3[k]) ∧ names3[k].size ≤ 20 := by
  match k, hk with
  | 0, _ => exact ⟨by decide, rfl, by decide⟩
  | 1, _ => exact ⟨by decide, rfl, by decide⟩
  | 2, _ => exact ⟨by decide, rfl, by decide⟩
  | n + 3, h => omega
/-- The memory of 'Table' while columns are made. -/
structure TB (w : World) (g : Nat) (A : Option Addr) (l : List Int) (c : Nat) (Ac : Option Addr) (cc : Nat) (cols : List ByteArray) (Ak : Option Addr) (ck : Nat) (ks : List Int) (wr : World) : Prop where
  but : But g w wr
  gr : Blk wr w.heap.size 33 #[.int .i64 0, .string ⟨#[]⟩, .int .i64 0, .int .i64 0, .int .i64 0, .slice none 0 0, .slice none 0 0]
  gt : Blk wr (w.heap.size + 1) 33 #[.int .i64 5, .string ⟨#[]⟩, .int .i64 0, .int .i64 0, .int .i64 0, .slice Ac cols.length cc, .slice none 0 0]
  num : ∃ K, l.length ≤ K ∧ NSt wr g A l c K
  ownC : OwnSs wr (w.heap.size + 2) Ac cc cols
  ownK : OwnIs wr (w.heap.size + 2) Ak ck ks
  sep : ∀ b, ob Ac = some b → ob Ak ≠ some b
structure TBA (w : World) (g : Nat) (A : Option Addr) (l : List Int) (c : Nat) (Ac : Option Addr) (cc : Nat) (cols : List ByteArray) (Ak : Option Addr) (ck : Nat) (ks : List Int) (wr : World) : Prop where
  but : But g w wr
  gr : Blk wr w.heap.size 33 #[.int .i64 0, .string ⟨#[]⟩, .int .i64 0, .int .i64 0, .int .i64 0, .slice none 0 0, .slice none 0 0]
  gt : ∃ x, Blk wr (w.heap.size + 1) 33 #[.int .i64 5, .string ⟨#[]⟩, .int .i64 0, .int .i64 0, .int .i64 0, x, .slice none 0 0]
  num : ∃ K, l.length ≤ K ∧ NSt wr g A l c K
  ownC : OwnSs wr (w.heap.size + 2) Ac cc cols
  ownK : OwnIs wr (w.heap.size + 2) Ak ck ks
  sep : ∀ b, ob Ac = some b → ob Ak ≠ some b
section
variable {w wr wr' : World} {g : Nat} {A Ac Ak : Option Addr} {c cc ck : Nat} {cols : List ByteArray} {l ks : List Int}
theorem TB.more (h : TB w g A l c Ac cc cols Ak ck ks wr) (hx : Ext wr wr') : TB w g A l c Ac cc cols Ak ck ks wr' := by
  obtain ⟨K, hl, hK⟩ := h.num
  exact ⟨h.but.trans (But.of_ext hx), h.gr.keep (hx.kept _), h.gt.keep (hx.kept _), ⟨K, hl, hK.ext hx⟩, h.ownC.ext hx, h.ownK.ext hx, h.sep⟩
theorem TB.next (h : TB w g A l c Ac cc cols Ak ck ks wr) (hg : g < w.heap.size) (hb : But g wr wr') {K : Nat} (hl : l.length ≤ K) (hK : NSt wr' g A l c K) : TB w g A l c Ac cc cols Ak ck ks wr' :=
  ⟨h.but.trans hb, hb.blk h.gr (by omega), hb.blk h.gt (by omega), ⟨K, hl, hK⟩, ⟨hb.own h.ownC.1 (by omega), h.ownC.2⟩, hb.own h.ownK (by omega), h.sep⟩
theorem TB.app {A4 : Option Addr} {c4 : Nat} {t : ByteArray} (h : TB w g A l c Ac cc cols Ak ck ks wr) (hgw : g < w.heap.size) (hD : ∀ b o, A = some ⟨b, o, none⟩ → l ≠ [] → b < w.heap.size) (hg : wr.grownBy wr' (ob Ac)) (ho : Own wr' (w.heap.size + 2) 9 1 A4 (cols.length + 1) c4 (cols.map Value.string ++ [.string t]))
    (hat : ob A4 = ob Ac ∨ ob A4 = some wr.heap.size) (ht : t.size ≤ 4294967296) : TBA w g A l c A4 c4 (cols ++ [t]) Ak ck ks wr' := by
  obtain ⟨K, hl, hK⟩ := h.num
  have hk : ∀ g, g < w.heap.size + 2 → Kept (fun b => b = g) wr wr' := fun g hg' => Kept.of_grown hg fun b hb _ e => by
    subst hb
    have := (h.ownC.1.blk e.symm).1
    omega
  refine ⟨h.but.grown hg fun b hb => by have := (h.ownC.1.blk hb).1; omega, h.gr.keep (hk _ (by omega)), ⟨_, h.gt.keep (hk _ (by omega))⟩, ⟨K, hl, hK.keep2 hgw hD (Kept.of_grown hg fun b hb _ e => by have := (h.ownC.1.blk e.symm).1; omega)⟩, ⟨?_, ?_⟩, ?_, ?_⟩
  · simpa using ho
  · intro x hx
    rcases List.mem_append.1 hx with hx | hx
    · exact h.ownC.2 x hx
    · simp at hx; subst hx; exact ht
  · exact Own.keep h.ownK (Kept.of_grown hg fun b hb _ e => h.sep b e.symm hb)
  · intro b hb hb'
    rcases hat with e | e
    · rw [e] at hb; exact h.sep b hb hb'
    · rw [e] at hb
      have := (Own.blk h.ownK hb').2
      injection hb with hb
      omega
theorem TBA.store (h : TBA w g A l c Ac cc cols Ak ck ks wr) (hgw : g < w.heap.size) (hD : ∀ b o, A = some ⟨b, o, none⟩ → l ≠ [] → b < w.heap.size) : TB w g A l c Ac cc cols Ak ck ks (wr.setCell ⟨w.heap.size + 1, 5, none⟩ (.slice Ac cols.length cc)) := by
  obtain ⟨K, hl, hK⟩ := h.num
  obtain ⟨x, hx⟩ := h.gt
  have ho := (Only.refl (w.heap.size + 1) wr).set 5 (.slice Ac cols.length cc)
  exact ⟨h.but.set (by omega), h.gr.keep (ho.kept fun b _ e => by omega), hx.set 5 _, ⟨K, hl, hK.keep2 hgw hD (ho.kept fun b _ e => by omega)⟩, ⟨ho.own h.ownC.1 (by omega), h.ownC.2⟩, ho.own h.ownK (by omega), h.sep⟩
theorem TB.appK {A4 : Option Addr} {c4 : Nat} {x : Int} (h : TB w g A l c Ac cc cols Ak ck ks wr) (hgw : g < w.heap.size) (hD : ∀ b o, A = some ⟨b, o, none⟩ → l ≠ [] → b < w.heap.size) (hg : wr.grownBy wr' (ob Ak)) (ho : Own wr' (w.heap.size + 2) 3 1 A4 (ks.length + 1) c4 (ks.map (Value.int .i64) ++ [.int .i64 x]))
    (hat : ob A4 = ob Ak ∨ ob A4 = some wr.heap.size) : TB w g A l c Ac cc cols A4 c4 (ks ++ [x]) wr' := by
  obtain ⟨K, hl, hK⟩ := h.num
  have hk : ∀ g, g < w.heap.size + 2 → Kept (fun b => b = g) wr wr' := fun g hg' => Kept.of_grown hg fun b hb _ e => by
    subst hb
    have := (Own.blk h.ownK e.symm).1
    omega
  refine ⟨h.but.grown hg fun b hb => by have := (Own.blk h.ownK hb).1; omega, h.gr.keep (hk _ (by omega)), h.gt.keep (hk _ (by omega)), ⟨K, hl, hK.keep2 hgw hD (Kept.of_grown hg fun b hb _ e => by have := (Own.blk h.ownK e.symm).1; omega)⟩, ⟨?_, h.ownC.2⟩, ?_, ?_⟩
  · exact h.ownC.1.keep (Kept.of_grown hg fun b hb _ e => h.sep b hb e.symm)
  · unfold OwnIs
    simpa using ho
  · intro b hb hb'
    rcases hat with e | e
    · rw [e] at hb'; exact h.sep b hb hb'
    · rw [e] at hb'
      have := (h.ownC.1.blk hb).2
      injection hb' with hb'
      omega
end
/-- The facts of the statement 'v.Cols = append(v.Cols, names[k])'. -/
def tInv (w : World) (g : Nat) (A : Option Addr) (l : List Int) (c : Nat) (Ac : Option Addr) (cc : Nat) (cols : List ByteArray) (Ak : Option Addr) (ck : Nat) (ks : List Int) (_t : ByteArray) (_k : Nat) (γ : Nat) (w' : World) : Prop := γ ≤ 4 ∧ (γ ≤ 2 → TB w g A l c Ac cc cols Ak ck ks w')
def gTab (w : World) (g : Nat) (A : Option Addr) (l : List Int) (c : Nat) (Ac : Option Addr) (cc : Nat) (cols : List ByteArray) (Ak : Option Addr) (ck : Nat) (ks : List Int) (t : ByteArray) (k : Nat) : Nat → List Value → Nat → World → Prop
  | 0, [v], _, _ => v = .pointer (some ⟨w.heap.size + 1, 5, none⟩)
  | 1, [v], _, _ => v = .slice Ac cols.length cc
  | 2, [v], γ, w' => ∃ g : Nat, v = .slice (some ⟨g, 0, none⟩) 3 3 ∧ 1 ≤ γ ∧ (γ = 1 → Blk w' g 9 names3A)
  | 3, [v], _, _ => v = .int .i64 (k : Int)
  | 4, [v], γ, w' => ∃ g : Nat, v = .pointer (some ⟨g, k, none⟩) ∧ 1 ≤ γ ∧ (γ = 1 → Blk w' g 9 names3A)
  | 5, [v], γ, _ => v = .string t ∧ 1 ≤ γ
  | 6, [v], γ, w' => ∃ g : Nat, v = .slice (some ⟨g, 0, none⟩) 1 1 ∧ 2 ≤ γ ∧ (γ = 2 → Blk w' g 9 #[.string t])
  | 7, [v], γ, w' => ∃ (A4 : Option Addr) (c4 : Nat), v = .slice A4 (cols.length + 1) c4 ∧ 3 ≤ γ ∧ (γ = 3 → TBA w g A l c A4 c4 (cols ++ [t]) Ak ck ks w')
  | 8, [v], _, _ => v = .pointer (some ⟨w.heap.size + 1, 5, none⟩)
  | 9, [_], γ, w' => 4 ≤ γ ∧ (γ = 4 → ∃ (A4 : Option Addr) (c4 : Nat), TB w g A l c A4 c4 (cols ++ [t]) Ak ck ks w')
  | _, _, _, _ => True
theorem gTab_st (w : World) (g : Nat) (A : Option Addr) (l : List Int) (c : Nat) (Ac : Option Addr) (cc : Nat) (cols : List ByteArray) (Ak : Option Addr) (ck : Nat) (ks : List Int) (t : ByteArray) (k : Nat) : ∀ i l' γ v γ' v', SR (tInv w g A l c Ac cc cols Ak ck ks t k) γ v γ' v' → gTab w g A l c Ac cc cols Ak ck ks t k i l' γ v → gTab w g A l c Ac cc cols Ak ck ks t k i l' γ' v' := by
  intro i l' γ v γ' v' r h
  have hle := r.le
  unfold gTab at h ⊢
  split at h
  all_goals first
    | exact h
    | (obtain ⟨h1, h2⟩ := h; exact ⟨h1, by omega⟩)
    | (obtain ⟨x, h1, h3, h4⟩ := h; exact ⟨x, h1, by omega, fun e => by rw [r.eq (by omega)]; exact h4 (by omega)⟩)
    | (obtain ⟨x, y, h1, h3, h4⟩ := h; exact ⟨x, y, h1, by omega, fun e => by rw [r.eq (by omega)]; exact h4 (by omega)⟩)
    | (obtain ⟨h3, h4⟩ := h; exact ⟨by omega, fun e => by rw [r.eq (by omega)]; exact h4 (by omega)⟩)
def dTab : Nat → List Nat := fun i => [i]
def stTab : List Nat := [100, 3, 1, 100, 100, 2, 2, 3, 100, 4]

def RetMV (w : World) (g : Nat) (e : Ending) (w' : World) : Prop := ∃ (x : Val) (A : Option Addr) (c : Nat) (B : Option Addr) (e' : Nat), e = .returned (.agg #[.int .i64 x.kind, .string x.s, .int .i64 x.dn, .int .i64 x.ds, .int .i64 x.n, .slice A x.cols.length c, .slice B x.rows.length e']) ∧ (x.cols.length ≤ c ∧ x.rows.length ≤ e') ∧ RV w' (Fresh w) 1 x A B ∧ But g w w'
set_option maxRecDepth 100000 in
set_option maxHeartbeats 4000000 in
theorem Num_Table (g : Nat) (A : Option Addr) (l : List Int) (c K : Nat) (w : World) (h : NSt w g A l c K) (hK1 : l.length ≤ K + 1) : Calls Tryz.prog 121 #[.pointer (some ⟨g, 0, none⟩)] w (RetMV w g) := by
  have hgw := h.1.1.lt
  have hne : w.heap.size ≠ g := by omega
  have HD := Lib.hid (TxR.data h)
  have hx0 : Ext w ((w.alloc (.cells #[.int .i64 0, .string ⟨#[]⟩, .int .i64 0, .int .i64 0, .int .i64 0, .slice none 0 0, .slice none 0 0] 33)).alloc (.cells #[.int .i64 5, .string ⟨#[]⟩, .int .i64 0, .int .i64 0, .int .i64 0, .slice none 0 0, .slice none 0 0] 33)) := ((Ext.refl w).alloc _).alloc _
  have HN := Lib.hid (h.ext hx0)
  have HB0 := Lib.hid (But.of_ext (g := g) hx0)
  have HG0 := Lib.hid ((Blk.new w 33 #[.int .i64 0, .string ⟨#[]⟩, .int .i64 0, .int .i64 0, .int .i64 0, .slice none 0 0, .slice none 0 0]).keep (Kept.alloc _ _ (.cells #[.int .i64 5, .string ⟨#[]⟩, .int .i64 0, .int .i64 0, .int .i64 0, .slice none 0 0, .slice none 0 0] 33)))
  have HG1 := Lib.hid (show Blk ((w.alloc (.cells #[.int .i64 0, .string ⟨#[]⟩, .int .i64 0, .int .i64 0, .int .i64 0, .slice none 0 0, .slice none 0 0] 33)).alloc (.cells #[.int .i64 5, .string ⟨#[]⟩, .int .i64 0, .int .i64 0, .int .i64 0, .slice none 0 0, .slice none 0 0] 33)) (w.heap.size + 1) 33 #[.int .i64 5, .string ⟨#[]⟩, .int .i64 0, .int .i64 0, .int .i64 0, .slice none 0 0, .slice none 0 0] by
    have := Blk.new (w.alloc (.cells #[.int .i64 0, .string ⟨#[]⟩, .int .i64 0, .int .i64 0, .int .i64 0, .slice none 0 0, .slice none 0 0] 33)) 33 #[.int .i64 5, .string ⟨#[]⟩, .int .i64 0, .int .i64 0, .int .i64 0, .slice none 0 0, .slice none 0 0]
    simpa using this)
  clear h hx0
  go_enter Tryz.func121, Tryz.ntmps121
  go_wp2_with fail
  refine (Num_Next2 4 g A l c K _ (by omega) (by omega) HN.out).mono ?_
  rintro e1 w1 ⟨m, K1, rfl, hm, hKK, hN1, hb1, hs1⟩
  have HM0 := Lib.hid (show TB w g A l c none 0 [] none 0 [] w1 from ⟨HB0.out.trans hb1, hb1.blk HG0.out hne, hb1.blk HG1.out (by omega), ⟨K1, by omega, hN1⟩, OwnSs.nil _ _, OwnIs.nil _ _, fun b hb => by cases hb⟩)
  clear hKK hN1 hb1 hs1 HN HB0 HG0 HG1
  go_wp2
  go_loopw [5, 6] (fun v i wr => ∃ (k : Nat) (Ac : Option Addr) (cc : Nat) (Ak : Option Addr) (ck : Nat) (ks : List Int), k ≤ m ∧ i = .int .i64 k ∧ ks.length = k ∧ v = .slice Ak k ck ∧ TB w g A l c Ac cc (names3.take k) Ak ck ks wr) (fun _ i _ => m - (intOf i).toNat)
  case atStart => exact ⟨0, none, 0, none, 0, [], Nat.zero_le _, rfl, rfl, rfl, HM0.out⟩
  case round =>
    clear HM0
    obtain ⟨k, Ac, cc, Ak, ck, ks, hk, rfl, hkl, rfl, hm0⟩ := hrel
    obtain ⟨cols, hcols⟩ : ∃ cols, cols = names3.take k := ⟨_, rfl⟩
    rw [← hcols] at hm0
    have HM := Lib.hid hm0
    have HKL := Lib.hid hkl
    have HCO := Lib.hid hcols
    clear hm0 hkl hcols
    have HCL := Lib.hid (show cols.length = k by rw [HCO.out, List.length_take]; have : names3.length = 3 := rfl; omega)
    by_cases hlt : k < m
    · obtain ⟨hk3, ht, htz⟩ := names3_at k (by omega)
      obtain ⟨t, htt⟩ : ∃ t, t = names3[k] := ⟨_, rfl⟩
      rw [← htt] at ht htz
      have HTT := Lib.hid ht
      have HTZ := Lib.hid htz
      have HTE := Lib.hid htt
      clear ht htz htt
      go_upto_region 7 with fail
      refine wp_region_lin_lit (by kernel_rfl) dTab (by kernel_rfl) (SR (tInv w g A l c Ac cc cols Ak ck ks t k)) (SR.refl _) (SR.trans _) (SN stTab) (gTab w g A l c Ac cc cols Ak ck ks t k) (gTab_st _ _ _ _ _ _ _ _ _ _ _ _ _) 0 (SN.zero (by decide)) ⟨?_, ?_, ?_, ?_, ?_, ?_, ?_, ?_, ?_, ?_, trivial⟩ ?_
      · refine LinStep.yes fun vals γ w' ρ hR hN hp hρ hc hf hg => ⟨rfl, ?_⟩
        have hi := hR.inv ⟨by omega, fun _ => HM.out.more (Ext.refl _).drew⟩
        have e3 : ρ (.tmp 3) = .pointer (some ⟨w.heap.size + 1, 0, none⟩) := hρ 3
        clear hR hN hp hρ hi
        go_light
        go_simp
        exact ⟨γ, SR.refl _ _ _, fun _ _ _ h => h, rfl⟩
      · refine LinStep.yes fun vals γ w' ρ hR hN hp hρ hc hf hg => ⟨rfl, ?_⟩
        have hi := hR.inv ⟨by omega, fun _ => HM.out.more (Ext.refl _).drew⟩
        have e19 : ρ (.tmp 19) = _ := (hρ 19).trans (hp 0 (by decide))
        have hb := (hi.2 (by have h : γ < 3 := hN; omega)).gt
        have k1 := hb.cell (i := 5) rfl
        clear hR hN hp hρ hi hb
        go_light
        go_simp
        exact ⟨γ, SR.refl _ _ _, fun _ _ _ h => h, rfl⟩
      · refine LinStep.yes fun vals γ w' ρ hR hN hp hρ hc hf hg => ⟨rfl, ?_⟩
        have hi := hR.inv ⟨by omega, fun _ => HM.out.more (Ext.refl _).drew⟩
        have h0 : γ = 0 := by have h : γ < 1 := hN; omega
        subst h0
        have HI := Lib.hid (hi.2 (by omega))
        clear hR hN hp hρ hi
        go_light
        go_simp
        exact ⟨1, SR.up (by omega) ⟨by omega, fun _ => HI.out.more ((Ext.refl _).alloc _)⟩, SN.up (by omega) (by decide) rfl, _, rfl, by omega, fun _ => Blk.new _ _ _⟩
      · refine LinStep.yes fun vals γ w' ρ hR hN hp hρ hc hf hg => ⟨rfl, ?_⟩
        have hi := hR.inv ⟨by omega, fun _ => HM.out.more (Ext.refl _).drew⟩
        have e6 : ρ (.tmp 6) = .int .i64 (k : Int) := hρ 6
        clear hR hN hp hρ hi
        go_light
        go_simp
        exact ⟨γ, SR.refl _ _ _, fun _ _ _ h => h, rfl⟩
      · refine LinStep.yes fun vals γ w' ρ hR hN hp hρ hc hf hg => ⟨rfl, ?_⟩
        have hi := hR.inv ⟨by omega, fun _ => HM.out.more (Ext.refl _).drew⟩
        obtain ⟨g', g2, hr1, hbk⟩ := hp 2 (by decide)
        have e21 : ρ (.tmp 21) = _ := (hρ 21).trans g2
        have e22 : ρ (.tmp 22) = _ := (hρ 22).trans (hp 3 (by decide))
        have i0 : (0 : Int) ≤ (k : Int) := by omega
        have i1 : (k : Int) < 3 := by omega
        have HBK := Lib.hid hbk
        clear hR hN hp hρ hi g2 hbk
        go_light
        go_simp
        exact ⟨γ, SR.refl _ _ _, fun _ _ _ h => h, g', rfl, hr1, HBK.out⟩
      · refine LinStep.yes fun vals γ w' ρ hR hN hp hρ hc hf hg => ⟨rfl, ?_⟩
        have hi := hR.inv ⟨by omega, fun _ => HM.out.more (Ext.refl _).drew⟩
        obtain ⟨g', g4, hr1, hbk⟩ := hp 4 (by decide)
        have e23 : ρ (.tmp 23) = _ := (hρ 23).trans g4
        have q := (hbk (by have h : γ < 2 := hN; omega)).cell HTT.out
        clear hR hN hp hρ hi g4 hbk
        go_light
        go_simp
        exact ⟨γ, SR.refl _ _ _, fun _ _ _ h => h, rfl, hr1⟩
      · refine LinStep.yes fun vals γ w' ρ hR hN hp hρ hc hf hg => ⟨rfl, ?_⟩
        have hi := hR.inv ⟨by omega, fun _ => HM.out.more (Ext.refl _).drew⟩
        obtain ⟨g5, hr1⟩ := hp 5 (by decide)
        have h0 : γ = 1 := by have h : γ < 2 := hN; omega
        subst h0
        have e24 : ρ (.tmp 24) = _ := (hρ 24).trans g5
        have HI := Lib.hid (hi.2 (by omega))
        clear hR hN hp hρ hi g5
        go_light
        go_simp
        exact ⟨2, SR.up (by omega) ⟨by omega, fun _ => HI.out.more ((Ext.refl _).alloc _)⟩, SN.up (by omega) (by decide) rfl, _, rfl, by omega, fun _ => Blk.new _ _ _⟩
      · refine LinStep.yes fun vals γ w' ρ hR hN hp hρ hc hf hg => ⟨rfl, ?_⟩
        have hi := hR.inv ⟨by omega, fun _ => HM.out.more (Ext.refl _).drew⟩
        obtain ⟨g', g6, hr1, hbk⟩ := hp 6 (by decide)
        have h0 : γ = 2 := by have h : γ < 3 := hN; omega
        subst h0
        have e20 : ρ (.tmp 20) = _ := (hρ 20).trans (hp 1 (by decide))
        have e25 : ρ (.tmp 25) = _ := (hρ 25).trans g6
        have hd := hi.2 (by omega)
        refine lin_app (.tmp 20) (.tmp 25) rfl tiS e20 hd.ownC.1 e25 (hbk rfl).rd rfl (by simp [Value.oneCell']) (by have := HCL.out; omega) (by decide) (by have h1 := hd.gt.lt; omega) ?_
        intro A4 c4 w4 hown4 hg4 hat4
        exact ⟨3, SR.up (by omega) ⟨by omega, fun h => absurd h (by omega)⟩, SN.up (by omega) (by decide) rfl, A4, c4, rfl, by omega, fun _ => hd.app hgw HD.out hg4 hown4 hat4 (by have := HTZ.out; omega)⟩
      · refine LinStep.yes fun vals γ w' ρ hR hN hp hρ hc hf hg => ⟨rfl, ?_⟩
        have hi := hR.inv ⟨by omega, fun _ => HM.out.more (Ext.refl _).drew⟩
        have e3 : ρ (.tmp 3) = .pointer (some ⟨w.heap.size + 1, 0, none⟩) := hρ 3
        clear hR hN hp hρ hi
        go_light
        go_simp
        exact ⟨γ, SR.refl _ _ _, fun _ _ _ h => h, rfl⟩
      · refine LinStep.yes fun vals γ w' ρ hR hN hp hρ hc hf hg => ⟨rfl, ?_⟩
        have hi := hR.inv ⟨by omega, fun _ => HM.out.more (Ext.refl _).drew⟩
        obtain ⟨A4, c4, g7, hr3, hda⟩ := hp 7 (by decide)
        have h0 : γ = 3 := by have h : γ < 4 := hN; omega
        subst h0
        have e26 : ρ (.tmp 26) = _ := (hρ 26).trans g7
        have e27 : ρ (.tmp 27) = _ := (hρ 27).trans (hp 8 (by decide))
        have HA := Lib.hid (hda rfl)
        obtain ⟨x, hx⟩ := (hda rfl).gt
        have k0 := hx.cell (i := 5) rfl
        have kf := hx.frozen
        have kz := hx.lt
        clear hR hN hp hρ hi g7 hda hx
        go_light
        go_simp
        refine ⟨4, SR.up (by omega) ⟨by omega, fun h => absurd h (by omega)⟩, SN.up (by omega) (by decide) rfl, by omega, fun _ => ⟨A4, c4, ?_⟩⟩
        have := HA.out.store hgw HD.out
        simpa using this
      · intro vals γ w' hR hG
        have hi := hR.inv ⟨by omega, fun _ => HM.out.more (Ext.refl _).drew⟩
        obtain ⟨h4, h5⟩ := hG 9 (by decide)
        obtain ⟨A4, c4, hm1⟩ := h5 (by have := hi.1; omega)
        have HM1 := Lib.hid hm1
        clear hR hG hi h4 h5 hm1
        simp only [lexFrame, Act.put, List.setIfInBounds_toArray, List.set_cons_succ, List.set_cons_zero, Nat.zero_add, Nat.reduceAdd]
        generalize vals 0 = u0, vals 1 = u1, vals 2 = u2, vals 3 = u3, vals 4 = u4, vals 5 = u5, vals 6 = u6, vals 7 = u7, vals 8 = u8, vals 9 = u9
        go_wp2_with fail
        obtain ⟨K2, hl2, hN2⟩ := HM1.out.num
        refine (Num_Next2 4 g A l c K2 _ (by omega) (by omega) hN2).mono ?_
        rintro e3 w3 ⟨r3, K3, rfl, hr3, hK3, hN3, hb3, hs3⟩
        have HM3 := Lib.hid (HM1.out.next hgw hb3 (by omega) hN3)
        clear hl2 hN2 hK3 hN3 hb3 hs3
        have hok := Own.ext HM3.out.ownK ((Ext.refl w3).alloc (.cells #[.int .i64 (1 + (r3 : Int))] 3))
        rw [HKL.out] at hok
        have HOK := Lib.hid hok
        have hsz3 : w.heap.size + 2 ≤ w3.heap.size := by have := HM3.out.gt.lt; omega
        clear hok HM HM1
        go_wp2_with (at_builtin; go_must (refine wpList_app rfl (.tmp 28) (.tmp 32) rfl tiI rfl HOK.out rfl (Blk.rd (Blk.new _ _ _)) rfl (by simp [Value.oneCell']) (by omega) (by decide) (by simp; omega) ?_); intro A5 c5 w5 hown5 hg5 hat5)
        go_roundw
        case rel =>
          refine ⟨k + 1, A4, c4, A5, c5, ks ++ [1 + (r3 : Int)], by omega, by go_num, by simp [HKL.out], rfl, ?_⟩
          have h1 := (HM3.out.more ((Ext.refl w3).alloc (.cells #[.int .i64 (1 + (r3 : Int))] 3))).appK hgw HD.out hg5 (by rw [HKL.out]; exact hown5) hat5
          rw [List.take_succ_eq_append_getElem hk3, ← HCO.out, ← HTE.out]
          exact h1
        case measure => simp [intOf]; omega
    · go_wp2_with fail
      obtain ⟨K2, hl2, hN2⟩ := HM.out.num
      refine (Num_Next2 5 g A l c K2 _ (by omega) (by omega) hN2).mono ?_
      rintro e3 w3 ⟨r3, K3, rfl, hr3, hK3, hN3, hb3, hs3⟩
      have hr0 : r3 = 0 := by omega
      subst hr0
      have HM3 := Lib.hid (HM.out.next hgw hb3 (by omega) hN3)
      clear hl2 hN2 hK3 hN3 hb3 hs3 HM
      go_wp2
      go_loop [8] (fun i => i = .int .i64 0) (fun _ => 0)
      case atStart => rfl
      case round =>
        subst hrel
        have hgt := HM3.out.gt
        have hgr := HM3.out.gr
        have t0 := hgt.cell (i := 0) rfl
        have r0 := hgr.cell (i := 0) rfl
        have t1 := hgt.cell (i := 1) rfl
        have r1 := hgr.cell (i := 1) rfl
        have t2 := hgt.cell (i := 2) rfl
        have r2 := hgr.cell (i := 2) rfl
        have t3 := hgt.cell (i := 3) rfl
        have r3 := hgr.cell (i := 3) rfl
        have t4 := hgt.cell (i := 4) rfl
        have r4 := hgr.cell (i := 4) rfl
        have t5 := hgt.cell (i := 5) rfl
        have r5 := hgr.cell (i := 5) rfl
        have t6 := hgt.cell (i := 6) rfl
        have r6 := hgr.cell (i := 6) rfl
        have rf := hgr.frozen
        have rz := hgr.lt
        have HCC := Lib.hid (show cols.length ≤ cc from HM3.out.ownC.1.cap)
        clear hgt hgr
        go_wp2
        refine bodyPost_ret (v := .agg #[.int .i64 5, .string ⟨#[]⟩, .int .i64 0, .int .i64 0, .int .i64 0, .slice Ac cols.length cc, .slice none 0 0]) (by simp [results, Tryz.results121, go_sem, r0, r1, r2, r3, r4, r5, r6]) rfl ⟨⟨5, ⟨#[]⟩, 0, 0, 0, cols, []⟩, Ac, cc, none, 0, rfl, ⟨HCC.out, Nat.le_refl _⟩, ?_, ?_⟩
        · refine RV.mk (Nat.zero_le _) ?_ Rows.nil
          have h1 := HM3.out.ownC.strs (T := fun b => w.heap.size + 2 ≤ b) (by have := HCL.out; omega) fun b hb => (HM3.out.ownC.1.blk hb).1
          refine (h1.keep ?_).mono fun b _ hb => by unfold Fresh; omega
          iterate 7 with_reducible refine Kept.set2 ?_ (by show ¬ (_ ≤ _); omega)
          with_reducible exact Kept.refl _ _
        · iterate 7 with_reducible refine But.set ?_ (by omega)
          with_reducible exact HM3.out.but

set_option maxRecDepth 100000 in
set_option maxHeartbeats 2000000 in
theorem Num_Value_5 (g : Nat) (A : Option Addr) (l : List Int) (c K : Nat) (w : World) (h : NSt w g A l c K) (hK1 : l.length ≤ K + 1) : Calls Tryz.prog 88 #[.pointer (some ⟨g, 0, none⟩), .int .i64 5] w (RetMV w g) := by
  have hgw := h.1.1.lt
  have hne : w.heap.size ≠ g := by omega
  have HN := Lib.hid (h.ext ((Ext.refl w).alloc (.cells #[.int .i64 0, .string ⟨#[]⟩, .int .i64 0, .int .i64 0, .int .i64 0, .slice none 0 0, .slice none 0 0] 33)))
  have HB := Lib.hid (But.of_ext (g := g) ((Ext.refl w).alloc (.cells #[.int .i64 0, .string ⟨#[]⟩, .int .i64 0, .int .i64 0, .int .i64 0, .slice none 0 0, .slice none 0 0] 33)))
  have HBR0 := Lib.hid (Blk.new w 33 #[.int .i64 0, .string ⟨#[]⟩, .int .i64 0, .int .i64 0, .int .i64 0, .slice none 0 0, .slice none 0 0])
  clear h
  go_enter Tryz.func88, Tryz.ntmps88
  go_wp2_with fail
  refine (Num_Table g A l c K _ HN.out hK1).mono ?_
  rintro e1 w1 ⟨x, A1, c1, B1, e1', rfl, hcp, hv, hb1⟩
  have HBR := Lib.hid (hb1.blk HBR0.out hne)
  have HV := Lib.hid hv
  have HB1 := Lib.hid (HB.out.trans hb1)
  clear hv hb1
  have r0 := HBR.out.cell (i := 0) rfl
  have r1 := HBR.out.cell (i := 1) rfl
  have r2 := HBR.out.cell (i := 2) rfl
  have r3 := HBR.out.cell (i := 3) rfl
  have r4 := HBR.out.cell (i := 4) rfl
  have r5 := HBR.out.cell (i := 5) rfl
  have r6 := HBR.out.cell (i := 6) rfl
  have rf := HBR.out.frozen
  have rz := HBR.out.lt
  go_wp2
  refine bodyPost_ret (v := (.agg #[.int .i64 x.kind, .string x.s, .int .i64 x.dn, .int .i64 x.ds, .int .i64 x.n, .slice A1 x.cols.length c1, .slice B1 x.rows.length e1'])) (by simp [results, Tryz.results88, go_sem, r0, r1, r2, r3, r4, r5, r6]) rfl ⟨x, A1, c1, B1, e1', rfl, hcp, ?_, ?_⟩
  · refine (HV.out.keep ?_).mono fun b _ hb => by unfold Fresh at hb ⊢; simp at hb; omega
    iterate 7 with_reducible refine Kept.set2 ?_ (by unfold Fresh; simp)
    with_reducible exact Kept.refl _ _
  · iterate 7 with_reducible refine But.set ?_ (by omega)
    with_reducible exact HB1.out
theorem Num_ValueM (kind : Int) (g : Nat) (A : Option Addr) (l : List Int) (c K : Nat) (w : World) (h : NSt w g A l c K) (hK1 : l.length ≤ K + 1) : Calls Tryz.prog 88 #[.pointer (some ⟨g, 0, none⟩), .int .i64 kind] w (RetMV w g) := by
  by_cases hk : kind = 5
  · subst hk; exact Num_Value_5 g A l c K w h hK1
  · refine (Num_Value_flat kind g A l c K w h hk).mono ?_
    rintro e1 w1 ⟨x, K', rfl, ⟨h1, h2, h3⟩, -, -, hb⟩
    exact ⟨x, none, 0, none, 0, rfl, ⟨by rw [h1]; exact Nat.le_refl _, by rw [h2]; exact Nat.le_refl _⟩, RV.mk h3 (by rw [h1]; exact Strs.nil) (by rw [h2]; exact Rows.nil), hb⟩
set_option maxRecDepth 100000 in
set_option maxHeartbeats 2000000 in
theorem r06_Made (l : List Int) (hl2 : l.length ≤ 2) (A : Option Addr) (c : Nat) (w : World) (S : Nat → Prop) (hl : IntsL w S A l) : Calls Tryz.prog 44 #[.slice A l.length c] w (fun e w' => ∃ x, RetV w (Fresh w) 1 x e w') := by
  have hx0 : Ext w ((w.alloc (.cells #[.int .i64 0, .string ⟨#[]⟩, .int .i64 0, .int .i64 0, .int .i64 0, .slice none 0 0, .slice none 0 0] 33)).alloc (.cells #[.slice A l.length c, .int .i64 0] 73)) := ((Ext.refl w).alloc _).alloc _
  have HX0 := Lib.hid hx0
  have HN := Lib.hid (show NSt ((w.alloc (.cells #[.int .i64 0, .string ⟨#[]⟩, .int .i64 0, .int .i64 0, .int .i64 0, .slice none 0 0, .slice none 0 0] 33)).alloc (.cells #[.slice A l.length c, .int .i64 0] 73)) (w.heap.size + 1) A l c 0 from ⟨⟨by
    have := Blk.new (w.alloc (.cells #[.int .i64 0, .string ⟨#[]⟩, .int .i64 0, .int .i64 0, .int .i64 0, .slice none 0 0, .slice none 0 0] 33)) 73 #[.slice A l.length c, .int .i64 0]
    simpa using this, Nat.zero_le _⟩, fun b => b < w.heap.size, by omega, (hl.mono (T := fun b => b < w.heap.size) fun i hi _ => hi).keep (hx0.kept _)⟩)
  have HBR0 := Lib.hid ((Blk.new w 33 #[.int .i64 0, .string ⟨#[]⟩, .int .i64 0, .int .i64 0, .int .i64 0, .slice none 0 0, .slice none 0 0]).keep (Kept.alloc _ _ (.cells #[.slice A l.length c, .int .i64 0] 73)))
  clear hl hx0
  go_enter Tryz.func44, Tryz.ntmps44
  go_wp2_with fail
  refine (Num_Next2 6 (w.heap.size + 1) A l c 0 _ (by omega) (by omega) HN.out).mono ?_
  rintro e1 w1 ⟨k, K1, rfl, hk, hK1, hN1, hb1, hs1⟩
  have HN1 := Lib.hid hN1
  have HK1 := Lib.hid (show l.length ≤ K1 + 1 by omega)
  have HB1 := Lib.hid hb1
  have HS1 := Lib.hid hs1
  clear hK1 hN1 hb1 hs1
  go_wp2_with fail
  refine (Num_ValueM (k : Int) (w.heap.size + 1) A l c K1 _ HN1.out HK1.out).mono ?_
  rintro e1 w2 ⟨x, A1, c1, B1, e1', rfl, hcp, hv, hb2⟩
  have HBR := Lib.hid (hb2.blk (HB1.out.blk HBR0.out (by omega)) (by omega))
  have HV := Lib.hid hv
  have HB2 := Lib.hid (But.exts HX0.out (HB1.out.trans hb2) (by omega))
  have hz : w.heap.size + 2 ≤ w1.heap.size := by have := HS1.out; simp at this; omega
  clear hv hb2
  have r0 := HBR.out.cell (i := 0) rfl
  have r1 := HBR.out.cell (i := 1) rfl
  have r2 := HBR.out.cell (i := 2) rfl
  have r3 := HBR.out.cell (i := 3) rfl
  have r4 := HBR.out.cell (i := 4) rfl
  have r5 := HBR.out.cell (i := 5) rfl
  have r6 := HBR.out.cell (i := 6) rfl
  have rf := HBR.out.frozen
  have rz := HBR.out.lt
  go_wp2
  refine bodyPost_ret (v := (.agg #[.int .i64 x.kind, .string x.s, .int .i64 x.dn, .int .i64 x.ds, .int .i64 x.n, .slice A1 x.cols.length c1, .slice B1 x.rows.length e1'])) (by simp [results, Tryz.results44, go_sem, r0, r1, r2, r3, r4, r5, r6]) rfl ⟨x, A1, c1, B1, e1', rfl, hcp, ?_, ?_⟩
  · refine (HV.out.keep ?_).mono fun b _ hb => by unfold Fresh at hb ⊢; omega
    iterate 7 with_reducible refine Kept.set2 ?_ (by unfold Fresh; omega)
    with_reducible exact Kept.refl _ _
  · iterate 7 with_reducible refine Ext.set2 ?_ (by omega) _
    with_reducible exact HB2.out
end Go.Proofs.YtcmmkeiiapbgcaaGreatDoor
/- The reference's Odd: rows and cells replaced. Conditions: the table reads as data, and is regular. -/
namespace Go.Proofs.YtcmmkeiiapbgcaaGreatDoor
open Go Go.RowKit
theorem Rows.tl {w : World} {S : Nat → Prop} {q cr : Nat} {A : Option Addr} {l : List (List Val)} (h : Rows w S q A l) (hl : l.length ≤ cr) : Rows w S q (if cr = 1 then A else A.map fun x => ⟨x.block, x.off + 1, none⟩) l.tail := by
  match l, h, hl with
  | [], _, _ => exact Rows.nil
  | r :: rs, h, hl =>
    obtain ⟨b, o, _, _, rfl, _⟩ := h.at_ (k := 0) (by simp)
    split
    · have : rs = [] := List.eq_nil_of_length_eq_zero (by simp at hl; omega)
      subst this
      exact Rows.nil
    · exact h.tail
theorem Row.tl {w : World} {S : Nat → Prop} {q cr : Nat} {A : Option Addr} {l : List Val} (h : Row w S q A l) (hl : l.length ≤ cr) : Row w S q (if cr = 1 then A else A.map fun x => ⟨x.block, x.off + 7, none⟩) l.tail := by
  match l, h, hl with
  | [], _, _ => exact Row.nil
  | r :: rs, h, hl =>
    obtain ⟨b, o, _, _, _, _, rfl, _⟩ := h.at_ (k := 0) (by simp)
    split
    · have : rs = [] := List.eq_nil_of_length_eq_zero (by simp at hl; omega)
      subst this
      exact Row.nil
    · exact h.tail

set_option maxRecDepth 100000 in
set_option maxHeartbeats 4000000 in
theorem odd_5 (t : Look) (A B : Option Addr) (c e : Nat) (q0 q1 q2 : Int) (w : World) (S : Nat → Prop) (h : RL w S 2 t A B) (ht : OkT t) (hm : (q0.tmod 8 + 8) % 8 = 5) : Calls Tryz.prog 11 #[(.agg #[.string t.name, .slice A t.cols.length c, .slice B t.rows.length e]), .agg #[.int .i64 q0, .int .i64 q1, .int .i64 q2]] w (RetOd w) := by
  have H := Lib.hid h
  obtain ⟨ht1, ht2, ht3, ht4⟩ := ht
  have HT4 := Lib.hid ht4
  obtain ⟨hb1, hb2⟩ := next_bd q0 8 (by omega)
  have hnm := h.1
  clear h ht4
  obtain ⟨W0, hW0⟩ : ∃ W0, W0 = ((w.alloc (.cells #[.string t.name, .slice A t.cols.length c, .slice B t.rows.length e] 28)).alloc (.cells #[.int .i64 q0, .int .i64 q1, .int .i64 q2] 23)).alloc (.cells #[.string ⟨#[]⟩, .slice none 0 0, .slice none 0 0] 28) := ⟨_, rfl⟩
  have HW0 := Lib.hid hW0
  have hx0 : Ext w W0 := by rw [hW0]; exact (((Ext.refl w).alloc _).alloc _).alloc _
  have b0 : Blk W0 w.heap.size 28 #[.string t.name, .slice A t.cols.length c, .slice B t.rows.length e] := by rw [hW0]; exact ((Blk.new _ _ _).keep (Kept.alloc _ _ _)).keep (Kept.alloc _ _ _)
  have b1 : Blk W0 (w.heap.size + 1) 23 #[.int .i64 q0, .int .i64 q1, .int .i64 q2] := by
    rw [hW0]
    have := (Blk.new (w.alloc (.cells #[.string t.name, .slice A t.cols.length c, .slice B t.rows.length e] 28)) 23 #[.int .i64 q0, .int .i64 q1, .int .i64 q2]).keep (Kept.alloc _ _ (.cells #[.string ⟨#[]⟩, .slice none 0 0, .slice none 0 0] 28))
    simpa using this
  have b2 : Blk W0 (w.heap.size + 1 + 1) 28 #[.string ⟨#[]⟩, .slice none 0 0, .slice none 0 0] := by
    rw [hW0]
    have := Blk.new ((w.alloc (.cells #[.string t.name, .slice A t.cols.length c, .slice B t.rows.length e] 28)).alloc (.cells #[.int .i64 q0, .int .i64 q1, .int .i64 q2] 23)) 28 #[.string ⟨#[]⟩, .slice none 0 0, .slice none 0 0]
    simpa using this
  have hs0 : W0.heap.size = w.heap.size + 3 := by rw [hW0]; simp
  have HX0 := Lib.hid hx0
  have HB0 := Lib.hid b0
  have HB1 := Lib.hid b1
  have HB2 := Lib.hid b2
  have HS0 := Lib.hid hs0
  clear hW0 hx0 b0 b1 b2 hs0
  go_enter Tryz.func11, Tryz.ntmps11
  go_wp2_with fail
  rw [← HW0.out]
  refine (r09_Copy 2 t A B c e W0 S (H.out.keep (HX0.out.kept S))).mono ?_
  rintro e1 w1 ⟨Ac, cc, Ar, cr, rfl, hoc, hor, hsep, hx1⟩
  rw [HS0.out] at hoc hor
  have HM1 := Lib.hid (show OD w q0 q1 q2 t.name Ac cc t.cols Ar cr t.rows (((w1.setCell ⟨w.heap.size, 0, none⟩ (.string t.name)).setCell ⟨w.heap.size, 1, none⟩ (.slice Ac t.cols.length cc)).setCell ⟨w.heap.size, 2, none⟩ (.slice Ar t.rows.length cr)) by
    have ho := (((Only.refl w.heap.size w1).set 0 (.string t.name)).set 1 (.slice Ac t.cols.length cc)).set 2 (.slice Ar t.rows.length cr)
    refine ⟨(HX0.out.trans hx1).only ho (by omega), ?_, (HB1.out.keep (hx1.kept _)).keep (ho.kept fun b _ e => by omega), (HB2.out.keep (hx1.kept _)).keep (ho.kept fun b _ e => by omega), ⟨ho.own hoc.1 (by omega), hoc.2⟩, hor.keep (ho.kept fun b _ e => by omega) (fun b hb hb' => hsep b hb' hb), hsep⟩
    have := (((HB0.out.keep (hx1.kept _)).set 0 (.string t.name)).set 1 (.slice Ac t.cols.length cc)).set 2 (.slice Ar t.rows.length cr)
    simpa using this)
  have q5 := HB0.out.keep (hx1.kept _)
  have k50 := q5.cell (i := 0) rfl
  have k51 := q5.cell (i := 1) rfl
  have k52 := q5.cell (i := 2) rfl
  have kf := q5.frozen
  have kz := q5.lt
  clear hoc hor hsep hx1 q5 HX0 HB0 HB1 HB2 HS0 HW0
  go_upto_region 2 with fail
  obtain ⟨w2, hw2⟩ : ∃ w2, w2 = (((w1.setCell ⟨w.heap.size, 0, none⟩ (.string t.name)).setCell ⟨w.heap.size, 1, none⟩ (.slice Ac t.cols.length cc)).setCell ⟨w.heap.size, 2, none⟩ (.slice Ar t.rows.length cr)) := ⟨_, rfl⟩
  rw [← hw2] at HM1
  rw [← hw2]
  clear hw2 k50 k51 k52 kf kz
  obtain ⟨cols, hcols⟩ : ∃ cols, cols = t.cols := ⟨_, rfl⟩
  obtain ⟨rows, hrows⟩ : ∃ rows, rows = t.rows := ⟨_, rfl⟩
  obtain ⟨nm, hnmE⟩ : ∃ nm, nm = t.name := ⟨_, rfl⟩
  rw [← hcols, ← hrows, ← hnmE] at HM1
  rw [← hcols] at ht1 ht2 HT4
  rw [← hrows] at ht3 HT4
  rw [← hnmE] at hnm
  clear hcols hrows hnmE
  have HM := HM1
  have d0 := HM1.out.box.cell (i := 0) rfl
  have d1 := HM1.out.box.cell (i := 1) rfl
  have d2 := HM1.out.box.cell (i := 2) rfl
  have df := HM1.out.box.frozen
  have dz := HM1.out.box.lt
  have g0 := HM1.out.qb.cell (i := 0) rfl
  have g1 := HM1.out.qb.cell (i := 1) rfl
  have g2 := HM1.out.qb.cell (i := 2) rfl
  have gz := HM1.out.qb.lt
  have HR4 := Lib.hid (show ∀ r ∈ rows, r.length ≤ 4294967296 from fun r hr => by rw [HT4.out r hr]; omega)
  by_cases h0 : 0 < rows.length
  · have hcap := HM.out.rows.cap
    have h1 : 1 ≤ rows.length := h0
    go_upto_region 27 with fail
    obtain ⟨wf, hwf⟩ : ∃ wf, wf = (w2.setCell ⟨w.heap.size, 2, none⟩ (.slice (if cr = 1 then Ar else Ar.map fun x => ⟨x.block, x.off + 1, none⟩) (rows.length - 1) (cr - 1))) := ⟨_, rfl⟩
    have HF := Lib.hid (show ∃ (t : Look) (A : Option Addr) (c : Nat) (B : Option Addr) (e : Nat), OF w t A c B e wf by rw [hwf]; exact ⟨⟨nm, cols, rows.tail⟩, Ac, cc, (if cr = 1 then Ar else Ar.map fun x => ⟨x.block, x.off + 1, none⟩), cr - 1, OF.of HM.out ((Only.refl w.heap.size w2).set 2 (.slice (if cr = 1 then Ar else Ar.map fun x => ⟨x.block, x.off + 1, none⟩) (rows.length - 1) (cr - 1))) (by have := HM.out.box.set 2 (.slice (if cr = 1 then Ar else Ar.map fun x => ⟨x.block, x.off + 1, none⟩) (rows.length - 1) (cr - 1)); simpa using this) ⟨hnm, HM.out.cols.strs (by omega) fun b hb => (HM.out.cols.1.blk hb).1, (HM.out.rows.rows (by omega) HR4.out).tl hcap⟩ ⟨HM.out.cols.1.cap, by simp; omega⟩⟩)
    rw [← hwf]
    clear hwf
    obtain ⟨t', A', c', B', e', hf⟩ := HF.out
    have HF := Lib.hid hf
    have f0 := hf.box.cell (i := 0) rfl
    have f1 := hf.box.cell (i := 1) rfl
    have f2 := hf.box.cell (i := 2) rfl
    have r0 := hf.res.cell (i := 0) rfl
    have r1 := hf.res.cell (i := 1) rfl
    have r2 := hf.res.cell (i := 2) rfl
    have rf := hf.res.frozen
    have rz := hf.res.lt
    clear hf d0 d1 d2 df dz g0 g1 g2 gz
    go_wp2
    all_goals refine bodyPost_ret (v := (.agg #[.string t'.name, .slice A' t'.cols.length c', .slice B' t'.rows.length e'])) (by simp [results, Tryz.results11, go_sem, r0, r1, r2]) rfl ⟨t', A', c', B', e', rfl, HF.out.cap, RL.mono (RL.keep HF.out.rl (K3 ?_)) fun b _ hb => by unfold Fresh; omega, E3 ?_⟩
    all_goals first | exact ⟨HF.out.ext, by omega⟩ | omega
  · have h1 : rows.length = 0 := by omega
    go_upto_region 27 with fail
    obtain ⟨wf, hwf⟩ : ∃ wf, wf = w2 := ⟨_, rfl⟩
    have HF := Lib.hid (show ∃ (t : Look) (A : Option Addr) (c : Nat) (B : Option Addr) (e : Nat), OF w t A c B e wf by rw [hwf]; exact ⟨_, _, _, _, _, HM.out.fin hnm (by omega) (by omega) HR4.out⟩)
    rw [← hwf]
    clear hwf
    obtain ⟨t', A', c', B', e', hf⟩ := HF.out
    have HF := Lib.hid hf
    have f0 := hf.box.cell (i := 0) rfl
    have f1 := hf.box.cell (i := 1) rfl
    have f2 := hf.box.cell (i := 2) rfl
    have r0 := hf.res.cell (i := 0) rfl
    have r1 := hf.res.cell (i := 1) rfl
    have r2 := hf.res.cell (i := 2) rfl
    have rf := hf.res.frozen
    have rz := hf.res.lt
    clear hf d0 d1 d2 df dz g0 g1 g2 gz
    go_wp2
    all_goals refine bodyPost_ret (v := (.agg #[.string t'.name, .slice A' t'.cols.length c', .slice B' t'.rows.length e'])) (by simp [results, Tryz.results11, go_sem, r0, r1, r2]) rfl ⟨t', A', c', B', e', rfl, HF.out.cap, RL.mono (RL.keep HF.out.rl (K3 ?_)) fun b _ hb => by unfold Fresh; omega, E3 ?_⟩
    all_goals first | exact ⟨HF.out.ext, by omega⟩ | omega
def OdCInv (_w w2 : World) (_Ar : Option Addr) (_cr _n : Nat) (_g : Nat) (_B : Option Addr) (_m _e0 : Nat) (γ : Nat) (w' : World) : Prop := γ ≤ 1 ∧ (γ ≤ 0 → Ext w2 w')
def gOdC (w w2 : World) (_Ar : Option Addr) (cr n : Nat) (g : Nat) (B : Option Addr) (m e0 : Nat) : Nat → List Value → Nat → World → Prop
  | 0, [v], _, _ => v = .pointer (some ⟨w.heap.size, 2, none⟩)
  | 1, [v], _, _ => v = .slice (some ⟨g, 0, none⟩) n cr
  | 2, [v], _, _ => v = .pointer (some ⟨w.heap.size, 2, none⟩)
  | 3, [v], _, _ => v = .slice (some ⟨g, 0, none⟩) n cr
  | 4, [v], _, _ => v = .pointer (some ⟨g, 0, none⟩)
  | 5, [v], _, _ => v = .slice B m e0
  | 6, [v], _, _ => v = .slice (if e0 = 1 then B else B.map fun x => ⟨x.block, x.off + 7, none⟩) (m - 1) (e0 - 1)
  | 7, [v], _, _ => v = .pointer (some ⟨g, 0, none⟩)
  | 8, [_], γ, w' => 1 ≤ γ ∧ (γ = 1 → ∃ w3, Ext w2 w3 ∧ w' = w3.setCell ⟨g, 0, none⟩ (.slice (if e0 = 1 then B else B.map fun x => ⟨x.block, x.off + 7, none⟩) (m - 1) (e0 - 1)))
  | _, _, _, _ => True
theorem gOdC_st (w w2 : World) (Ar : Option Addr) (cr n : Nat) (g : Nat) (B : Option Addr) (m e0 : Nat) : ∀ i l' γ v γ' v', SR (OdCInv w w2 Ar cr n g B m e0) γ v γ' v' → gOdC w w2 Ar cr n g B m e0 i l' γ v → gOdC w w2 Ar cr n g B m e0 i l' γ' v' := by
  intro i l' γ v γ' v' r h
  have hle := r.le
  unfold gOdC at h ⊢
  split at h
  all_goals first
    | exact h
    | (obtain ⟨h1, h2⟩ := h; exact ⟨h1, by omega⟩)
    | (obtain ⟨h1, h3, h4⟩ := h; exact ⟨h1, by omega, fun e => by rw [r.eq (by omega)]; exact h4 (by omega)⟩)
    | (obtain ⟨x0, h1, h3, h4⟩ := h; exact ⟨x0, h1, by omega, fun e => by rw [r.eq (by omega)]; exact h4 (by omega)⟩)
    | (obtain ⟨x0, x1, h1, h3, h4⟩ := h; exact ⟨x0, x1, h1, by omega, fun e => by rw [r.eq (by omega)]; exact h4 (by omega)⟩)
    | (obtain ⟨x0, x1, x2, h1, h3, h4⟩ := h; exact ⟨x0, x1, x2, h1, by omega, fun e => by rw [r.eq (by omega)]; exact h4 (by omega)⟩)
    | (obtain ⟨x0, x1, x2, x3, h1, h3, h4⟩ := h; exact ⟨x0, x1, x2, x3, h1, by omega, fun e => by rw [r.eq (by omega)]; exact h4 (by omega)⟩)
    | (obtain ⟨x0, x1, x2, x3, x4, h1, h3, h4⟩ := h; exact ⟨x0, x1, x2, x3, x4, h1, by omega, fun e => by rw [r.eq (by omega)]; exact h4 (by omega)⟩)
    | (obtain ⟨h3, h4⟩ := h; exact ⟨by omega, fun e => by rw [r.eq (by omega)]; exact h4 (by omega)⟩)
def dOdC : Nat → List Nat := fun i => [i]
def stOdC : List Nat := [100, 1, 100, 1, 100, 1, 100, 100, 1]

theorem odd7_fin {w w2 w3 w' : World} {q0 q1 q2 : Int} {nm : ByteArray} {Ac Ar : Option Addr} {cc cr : Nat} {cols : List ByteArray} {rows : List (List Val)} {n m g e0 : Nat} {B : Option Addr} {X : Nat → Prop} (h : OD w q0 q1 q2 nm Ac cc cols Ar cr rows w2) (hx : Ext w2 w3) (hw : w' = w3.setCell ⟨g, 0, none⟩ (.slice (if e0 = 1 then B else B.map fun x => ⟨x.block, x.off + 7, none⟩) (m - 1) (e0 - 1))) (_hn : n = rows.length) (hm : m = cols.length) (hA : Ar = some ⟨g, 0, none⟩) (h1 : nm.size ≤ 4294967296) (h2 : cols.length ≤ 4294967296) (h3 : rows.length ≤ 4294967296) (h4 : ∀ r ∈ rows, r.length ≤ 4294967296)
    (h0 : 0 < rows.length) (hm0 : rows[0].length = cols.length) (hv : OwnVs w2 (w.heap.size + 3) X 2 B e0 rows[0]) (hX : ∀ b, X b → w.heap.size + 3 ≤ b ∧ ob Ar ≠ some b) (hne : ∀ b, ob B = some b → ob Ar ≠ some b) (hme : m ≤ e0) : ∃ (t : Look) (A : Option Addr) (c : Nat) (B : Option Addr) (e : Nat), OF w t A c B e w' := by
  have hoA : ob Ar = some g := by rw [hA]; rfl
  have hgl := (h.rows.blk hoA).1
  have hrow := ((hv.ext hx).row (T := fun b => w.heap.size + 3 ≤ b ∧ ob Ar ≠ some b) (by omega) (fun b hb => ⟨(hv.blk hb).1, hne b hb⟩) hX).tl (cr := e0) (by omega)
  have hlt : rows[0].tail.length = m - 1 := by rw [List.length_tail, hm0, hm]
  have hrows := (h.rows.ext hx).setHead hA h0 h3 h4 (e' := e0 - 1) (by omega) hrow
  rw [hlt, ← hw] at hrows
  have hset : ∀ S : Nat → Prop, ¬ S g → Kept S w2 w' := fun S hS => by rw [hw]; exact (hx.kept S).trans (Kept.of_set hS)
  refine ⟨⟨nm, cols, rows.set 0 rows[0].tail⟩, Ac, cc, Ar, cr, OF.far h (hset _ (by omega)) ?_ (by simp) h1 ?_ hrows⟩
  · rw [hw]; exact (h.ext.trans hx).setCell (by show _ ≤ g; omega) _
  · have := (h.cols.strs (T := fun b => w.heap.size + 3 ≤ b ∧ b ≠ g) h2 fun b hb => ⟨(h.cols.1.blk hb).1, fun e => h.sep b hb (by rw [e]; exact hoA)⟩).keep (hset _ (by omega))
    exact this.mono fun b _ hb => hb.1
set_option maxRecDepth 100000 in
set_option maxHeartbeats 4000000 in
theorem odd_7 (t : Look) (A B : Option Addr) (c e : Nat) (q0 q1 q2 : Int) (w : World) (S : Nat → Prop) (h : RL w S 2 t A B) (ht : OkT t) (hm : (q0.tmod 8 + 8) % 8 = 7) : Calls Tryz.prog 11 #[(.agg #[.string t.name, .slice A t.cols.length c, .slice B t.rows.length e]), .agg #[.int .i64 q0, .int .i64 q1, .int .i64 q2]] w (RetOd w) := by
  have H := Lib.hid h
  obtain ⟨ht1, ht2, ht3, ht4⟩ := ht
  have HT4 := Lib.hid ht4
  obtain ⟨hb1, hb2⟩ := next_bd q0 8 (by omega)
  have hnm := h.1
  clear h ht4
  obtain ⟨W0, hW0⟩ : ∃ W0, W0 = ((w.alloc (.cells #[.string t.name, .slice A t.cols.length c, .slice B t.rows.length e] 28)).alloc (.cells #[.int .i64 q0, .int .i64 q1, .int .i64 q2] 23)).alloc (.cells #[.string ⟨#[]⟩, .slice none 0 0, .slice none 0 0] 28) := ⟨_, rfl⟩
  have HW0 := Lib.hid hW0
  have hx0 : Ext w W0 := by rw [hW0]; exact (((Ext.refl w).alloc _).alloc _).alloc _
  have b0 : Blk W0 w.heap.size 28 #[.string t.name, .slice A t.cols.length c, .slice B t.rows.length e] := by rw [hW0]; exact ((Blk.new _ _ _).keep (Kept.alloc _ _ _)).keep (Kept.alloc _ _ _)
  have b1 : Blk W0 (w.heap.size + 1) 23 #[.int .i64 q0, .int .i64 q1, .int .i64 q2] := by
    rw [hW0]
    have := (Blk.new (w.alloc (.cells #[.string t.name, .slice A t.cols.length c, .slice B t.rows.length e] 28)) 23 #[.int .i64 q0, .int .i64 q1, .int .i64 q2]).keep (Kept.alloc _ _ (.cells #[.string ⟨#[]⟩, .slice none 0 0, .slice none 0 0] 28))
    simpa using this
  have b2 : Blk W0 (w.heap.size + 1 + 1) 28 #[.string ⟨#[]⟩, .slice none 0 0, .slice none 0 0] := by
    rw [hW0]
    have := Blk.new ((w.alloc (.cells #[.string t.name, .slice A t.cols.length c, .slice B t.rows.length e] 28)).alloc (.cells #[.int .i64 q0, .int .i64 q1, .int .i64 q2] 23)) 28 #[.string ⟨#[]⟩, .slice none 0 0, .slice none 0 0]
    simpa using this
  have hs0 : W0.heap.size = w.heap.size + 3 := by rw [hW0]; simp
  have HX0 := Lib.hid hx0
  have HB0 := Lib.hid b0
  have HB1 := Lib.hid b1
  have HB2 := Lib.hid b2
  have HS0 := Lib.hid hs0
  clear hW0 hx0 b0 b1 b2 hs0
  go_enter Tryz.func11, Tryz.ntmps11
  go_wp2_with fail
  rw [← HW0.out]
  refine (r09_Copy 2 t A B c e W0 S (H.out.keep (HX0.out.kept S))).mono ?_
  rintro e1 w1 ⟨Ac, cc, Ar, cr, rfl, hoc, hor, hsep, hx1⟩
  rw [HS0.out] at hoc hor
  have HM1 := Lib.hid (show OD w q0 q1 q2 t.name Ac cc t.cols Ar cr t.rows (((w1.setCell ⟨w.heap.size, 0, none⟩ (.string t.name)).setCell ⟨w.heap.size, 1, none⟩ (.slice Ac t.cols.length cc)).setCell ⟨w.heap.size, 2, none⟩ (.slice Ar t.rows.length cr)) by
    have ho := (((Only.refl w.heap.size w1).set 0 (.string t.name)).set 1 (.slice Ac t.cols.length cc)).set 2 (.slice Ar t.rows.length cr)
    refine ⟨(HX0.out.trans hx1).only ho (by omega), ?_, (HB1.out.keep (hx1.kept _)).keep (ho.kept fun b _ e => by omega), (HB2.out.keep (hx1.kept _)).keep (ho.kept fun b _ e => by omega), ⟨ho.own hoc.1 (by omega), hoc.2⟩, hor.keep (ho.kept fun b _ e => by omega) (fun b hb hb' => hsep b hb' hb), hsep⟩
    have := (((HB0.out.keep (hx1.kept _)).set 0 (.string t.name)).set 1 (.slice Ac t.cols.length cc)).set 2 (.slice Ar t.rows.length cr)
    simpa using this)
  have q5 := HB0.out.keep (hx1.kept _)
  have k50 := q5.cell (i := 0) rfl
  have k51 := q5.cell (i := 1) rfl
  have k52 := q5.cell (i := 2) rfl
  have kf := q5.frozen
  have kz := q5.lt
  clear hoc hor hsep hx1 q5 HX0 HB0 HB1 HB2 HS0 HW0
  go_upto_region 2 with fail
  obtain ⟨w2, hw2⟩ : ∃ w2, w2 = (((w1.setCell ⟨w.heap.size, 0, none⟩ (.string t.name)).setCell ⟨w.heap.size, 1, none⟩ (.slice Ac t.cols.length cc)).setCell ⟨w.heap.size, 2, none⟩ (.slice Ar t.rows.length cr)) := ⟨_, rfl⟩
  rw [← hw2] at HM1
  rw [← hw2]
  clear hw2 k50 k51 k52 kf kz
  obtain ⟨cols, hcols⟩ : ∃ cols, cols = t.cols := ⟨_, rfl⟩
  obtain ⟨rows, hrows⟩ : ∃ rows, rows = t.rows := ⟨_, rfl⟩
  obtain ⟨nm, hnmE⟩ : ∃ nm, nm = t.name := ⟨_, rfl⟩
  rw [← hcols, ← hrows, ← hnmE] at HM1
  rw [← hcols] at ht1 ht2 HT4
  rw [← hrows] at ht3 HT4
  rw [← hnmE] at hnm
  clear hcols hrows hnmE
  have HM := HM1
  have d0 := HM1.out.box.cell (i := 0) rfl
  have d1 := HM1.out.box.cell (i := 1) rfl
  have d2 := HM1.out.box.cell (i := 2) rfl
  have df := HM1.out.box.frozen
  have dz := HM1.out.box.lt
  have g0 := HM1.out.qb.cell (i := 0) rfl
  have g1 := HM1.out.qb.cell (i := 1) rfl
  have g2 := HM1.out.qb.cell (i := 2) rfl
  have gz := HM1.out.qb.lt
  have HR4 := Lib.hid (show ∀ r ∈ rows, r.length ≤ 4294967296 from fun r hr => by rw [HT4.out r hr]; omega)
  by_cases h0 : 0 < rows.length
  · obtain ⟨hs, B1, e1, X, ho1, hk1, hv1, hX1, hne1, -⟩ := HM.out.rows.at_ h0 (by omega) HR4.out
    obtain ⟨g, o, hAr, -, hgz, hgc⟩ := ho1.rd.some_ (fun h => by rw [h] at hk1; simp at hk1)
    have hoff : Ar = some ⟨g, 0, none⟩ := by
      rcases ho1.2 with ⟨_, h⟩ | ⟨g', cap, cur, hv, _⟩
      · omega
      · injection hv with hv
        rw [hv] at hAr
        injection hAr with hAr
        injection hAr with hAr
        rw [hv, hAr]
    have ho0 : o = 0 := by rw [hoff] at hAr; injection hAr with hAr; injection hAr with _ hAr; exact hAr.symm
    subst ho0
    have hm0 : rows[0].length = cols.length := HT4.out _ (List.getElem_mem h0)
    have HHD := Lib.hid (show w2.cell? ⟨g, 0, none⟩ = some (.slice B1 cols.length e1) by have := hgc 0 _ hk1; rw [hm0] at this; exact this)
    have HM1M := Lib.hid ht1
    have HME := Lib.hid (show cols.length ≤ e1 by rw [← hm0]; obtain ⟨xs, ho, _⟩ := hv1; exact ho.cap)
    have HFR := Lib.hid (show ∀ w', Ext w2 w' → w'.frozen? ⟨g, 0, none⟩ = false by
      intro w' hx
      rcases ho1.2 with ⟨_, h⟩ | ⟨g', cap, cur, hv, _, hh, _⟩
      · omega
      · injection hv with hv
        rw [hoff] at hv
        injection hv with hv
        injection hv with hv
        subst hv
        have : Blk w' g 45 cur := (hx.block g hgz).trans hh
        exact this.frozen 0)
    have HAR := Lib.hid hoff
    have HV1 := Lib.hid hv1
    have HX1 := Lib.hid hX1
    have HN1 := Lib.hid hne1
    have HM0 := Lib.hid hm0
    have HD2 := Lib.hid d2
    have D2 := Lib.hid (show w2.cell? ⟨w.heap.size, 2, none⟩ = some (.slice (some ⟨g, 0, none⟩) rows.length cr) by rw [← hoff]; exact d2)
    clear ho1 hk1 hv1 hX1 hne1 hAr hgc hoff hm0
    go_upto_region 26 with fail
    obtain ⟨n, hn⟩ : ∃ n, n = rows.length := ⟨_, rfl⟩
    obtain ⟨m, hm'⟩ : ∃ m, m = cols.length := ⟨_, rfl⟩
    rw [← hn] at D2 h0
    rw [← hm'] at HHD HM1M HME
    have HNN := Lib.hid hn
    have HMM := Lib.hid hm'
    clear hn hm'
    obtain ⟨B, hB⟩ : ∃ B, B = B1 := ⟨_, rfl⟩
    subst hB
    obtain ⟨e0, he0⟩ : ∃ e0, e0 = e1 := ⟨_, rfl⟩
    subst he0
    refine wp_region_lin_lit (by kernel_rfl) dOdC (by kernel_rfl) (SR (OdCInv w w2 Ar cr n g B m e0)) (SR.refl _) (SR.trans _) (SN stOdC) (gOdC w w2 Ar cr n g B m e0) (gOdC_st _ _ _ _ _ _ _ _ _) 0 (SN.zero (by decide)) ⟨?_, ?_, ?_, ?_, ?_, ?_, ?_, ?_, ?_, trivial⟩ ?_
    · refine LinStep.yes fun vals γ w' ρ hR hN hp hρ hc hf hg => ⟨rfl, ?_⟩
      have hi := hR.inv ⟨by omega, fun _ => (Ext.refl w2).drew⟩
      have e2 : ρ (.tmp 2) = .pointer (some ⟨w.heap.size, 0, none⟩) := hρ 2
      clear hR hN hp hρ hi
      go_light
      go_simp
      exact ⟨γ, SR.refl _ _ _, fun _ _ _ h => h, rfl⟩
    · refine LinStep.yes fun vals γ w' ρ hR hN hp hρ hc hf hg => ⟨rfl, ?_⟩
      have hi := hR.inv ⟨by omega, fun _ => (Ext.refl w2).drew⟩
      have e130 : ρ (.tmp 130) = _ := (hρ 130).trans (hp 0 (by decide))
      have k1 := (hi.2 (by have h : γ < 1 := hN; omega)).cell D2.out
      clear hR hN hp hρ hi
      go_light
      go_simp
      exact ⟨γ, SR.refl _ _ _, fun _ _ _ h => h, rfl⟩
    · refine LinStep.yes fun vals γ w' ρ hR hN hp hρ hc hf hg => ⟨rfl, ?_⟩
      have hi := hR.inv ⟨by omega, fun _ => (Ext.refl w2).drew⟩
      have e2 : ρ (.tmp 2) = .pointer (some ⟨w.heap.size, 0, none⟩) := hρ 2
      clear hR hN hp hρ hi
      go_light
      go_simp
      exact ⟨γ, SR.refl _ _ _, fun _ _ _ h => h, rfl⟩
    · refine LinStep.yes fun vals γ w' ρ hR hN hp hρ hc hf hg => ⟨rfl, ?_⟩
      have hi := hR.inv ⟨by omega, fun _ => (Ext.refl w2).drew⟩
      have e132 : ρ (.tmp 132) = _ := (hρ 132).trans (hp 2 (by decide))
      have k1 := (hi.2 (by have h : γ < 1 := hN; omega)).cell D2.out
      clear hR hN hp hρ hi
      go_light
      go_simp
      exact ⟨γ, SR.refl _ _ _, fun _ _ _ h => h, rfl⟩
    · refine LinStep.yes fun vals γ w' ρ hR hN hp hρ hc hf hg => ⟨rfl, ?_⟩
      have hi := hR.inv ⟨by omega, fun _ => (Ext.refl w2).drew⟩
      have e133 : ρ (.tmp 133) = _ := (hρ 133).trans (hp 3 (by decide))
      have i1 : (0 : Int) < (n : Int) := by omega
      clear hR hN hp hρ hi
      go_light
      go_simp
      exact ⟨γ, SR.refl _ _ _, fun _ _ _ h => h, rfl⟩
    · refine LinStep.yes fun vals γ w' ρ hR hN hp hρ hc hf hg => ⟨rfl, ?_⟩
      have hi := hR.inv ⟨by omega, fun _ => (Ext.refl w2).drew⟩
      have e134 : ρ (.tmp 134) = _ := (hρ 134).trans (hp 4 (by decide))
      have k1 := (hi.2 (by have h : γ < 1 := hN; omega)).cell HHD.out
      clear hR hN hp hρ hi
      go_light
      go_simp
      exact ⟨γ, SR.refl _ _ _, fun _ _ _ h => h, rfl⟩
    · refine LinStep.yes fun vals γ w' ρ hR hN hp hρ hc hf hg => ⟨rfl, ?_⟩
      have hi := hR.inv ⟨by omega, fun _ => (Ext.refl w2).drew⟩
      have e135 : ρ (.tmp 135) = _ := (hρ 135).trans (hp 5 (by decide))
      have i1 : 1 ≤ m := HM1M.out
      have i2 : m ≤ e0 := HME.out
      have i3 : (1 : Int) ≤ (m : Int) := by omega
      have i4 : (m : Int) ≤ (e0 : Int) := by omega
      clear hR hN hp hρ hi
      go_light
      go_simp
      exact ⟨γ, SR.refl _ _ _, fun _ _ _ h => h, rfl⟩
    · refine LinStep.yes fun vals γ w' ρ hR hN hp hρ hc hf hg => ⟨rfl, ?_⟩
      have hi := hR.inv ⟨by omega, fun _ => (Ext.refl w2).drew⟩
      have e131 : ρ (.tmp 131) = _ := (hρ 131).trans (hp 1 (by decide))
      have i1 : (0 : Int) < (n : Int) := by omega
      clear hR hN hp hρ hi
      go_light
      go_simp
      exact ⟨γ, SR.refl _ _ _, fun _ _ _ h => h, rfl⟩
    · refine LinStep.yes fun vals γ w' ρ hR hN hp hρ hc hf hg => ⟨rfl, ?_⟩
      have hi := hR.inv ⟨by omega, fun _ => (Ext.refl w2).drew⟩
      have e137 : ρ (.tmp 137) = _ := (hρ 137).trans (hp 7 (by decide))
      have e136 : ρ (.tmp 136) = _ := (hρ 136).trans (hp 6 (by decide))
      have h0 : γ = 0 := by have h : γ < 1 := hN; omega
      subst h0
      have hx := hi.2 (by omega)
      have k1 := hx.cell HHD.out
      have kf := HFR.out w' hx
      have HX := Lib.hid hx
      clear hR hN hp hρ hi hx
      go_light
      go_simp
      exact ⟨1, SR.up (by omega) ⟨by omega, fun h => absurd h (by omega)⟩, SN.up (by omega) (by decide) rfl, by omega, fun _ => ⟨w', HX.out, rfl⟩⟩
    · intro vals γ w' hR hG
      have hi := hR.inv ⟨by omega, fun _ => (Ext.refl w2).drew⟩
      obtain ⟨h4, h5⟩ := hG 8 (by decide)
      obtain ⟨w3, hx3, hw3⟩ := h5 (by have := hi.1; omega)
      have HX3 := Lib.hid hx3
      have HW3 := Lib.hid hw3
      clear hR hG hi h4 h5 hx3 hw3
      simp only [lexFrame, Act.put, List.setIfInBounds_toArray, List.set_cons_succ, List.set_cons_zero, Nat.zero_add, Nat.reduceAdd]
      generalize vals 0 = u0, vals 1 = u1, vals 2 = u2, vals 3 = u3, vals 4 = u4, vals 5 = u5, vals 6 = u6, vals 7 = u7, vals 8 = u8
      go_upto_region 27 with fail
      obtain ⟨wf, hwf⟩ : ∃ wf, wf = w' := ⟨_, rfl⟩
      have HF := Lib.hid (show ∃ (t : Look) (A : Option Addr) (c : Nat) (B : Option Addr) (e : Nat), OF w t A c B e wf by rw [hwf]; exact odd7_fin HM.out HX3.out HW3.out HNN.out HMM.out HAR.out hnm (by omega) (by omega) HR4.out (by omega) HM0.out HV1.out HX1.out HN1.out HME.out)
      rw [← hwf]
      clear hwf
      obtain ⟨t', A', c', B', e', hf⟩ := HF.out
      have HF := Lib.hid hf
      have f0 := hf.box.cell (i := 0) rfl
      have f1 := hf.box.cell (i := 1) rfl
      have f2 := hf.box.cell (i := 2) rfl
      have r0 := hf.res.cell (i := 0) rfl
      have r1 := hf.res.cell (i := 1) rfl
      have r2 := hf.res.cell (i := 2) rfl
      have rf := hf.res.frozen
      have rz := hf.res.lt
      clear hf d0 d1 d2 df dz g0 g1 g2 gz
      go_wp2
      all_goals refine bodyPost_ret (v := (.agg #[.string t'.name, .slice A' t'.cols.length c', .slice B' t'.rows.length e'])) (by simp [results, Tryz.results11, go_sem, r0, r1, r2]) rfl ⟨t', A', c', B', e', rfl, HF.out.cap, RL.mono (RL.keep HF.out.rl (K3 ?_)) fun b _ hb => by unfold Fresh; omega, E3 ?_⟩
      all_goals first | exact ⟨HF.out.ext, by omega⟩ | omega
  · have h1 : rows.length = 0 := by omega
    go_upto_region 27 with fail
    obtain ⟨wf, hwf⟩ : ∃ wf, wf = w2 := ⟨_, rfl⟩
    have HF := Lib.hid (show ∃ (t : Look) (A : Option Addr) (c : Nat) (B : Option Addr) (e : Nat), OF w t A c B e wf by rw [hwf]; exact ⟨_, _, _, _, _, HM.out.fin hnm (by omega) (by omega) HR4.out⟩)
    rw [← hwf]
    clear hwf
    obtain ⟨t', A', c', B', e', hf⟩ := HF.out
    have HF := Lib.hid hf
    have f0 := hf.box.cell (i := 0) rfl
    have f1 := hf.box.cell (i := 1) rfl
    have f2 := hf.box.cell (i := 2) rfl
    have r0 := hf.res.cell (i := 0) rfl
    have r1 := hf.res.cell (i := 1) rfl
    have r2 := hf.res.cell (i := 2) rfl
    have rf := hf.res.frozen
    have rz := hf.res.lt
    clear hf d0 d1 d2 df dz g0 g1 g2 gz
    go_wp2
    all_goals refine bodyPost_ret (v := (.agg #[.string t'.name, .slice A' t'.cols.length c', .slice B' t'.rows.length e'])) (by simp [results, Tryz.results11, go_sem, r0, r1, r2]) rfl ⟨t', A', c', B', e', rfl, HF.out.cap, RL.mono (RL.keep HF.out.rl (K3 ?_)) fun b _ hb => by unfold Fresh; omega, E3 ?_⟩
    all_goals first | exact ⟨HF.out.ext, by omega⟩ | omega
end Go.Proofs.YtcmmkeiiapbgcaaGreatDoor
