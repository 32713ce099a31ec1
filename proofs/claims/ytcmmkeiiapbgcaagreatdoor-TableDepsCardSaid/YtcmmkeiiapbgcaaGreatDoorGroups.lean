/- The program's table.decides and table.groups. Conditions: the arguments read as lists of ints, of one length. -/
import Derived.Test.YtcmmkeiiapbgcaaGreatDoorHolds
import Derived.Test.YtcmmkeiiapbgcaaGreatDoorMap
namespace Go.Proofs.YtcmmkeiiapbgcaaGreatDoor
open Go Go.RowKit

section
variable {K : Type} [DecidableEq K]
theorem fnd_none_iff {x : K} {l : List (K × Value)} {j : Nat} : fnd x l j = none ↔ ∀ p ∈ l, p.1 ≠ x := by
  induction l generalizing j with
  | nil => simp [fnd]
  | cons p l ih =>
    unfold fnd
    by_cases hp : p.1 = x
    · simp [hp]
    · rw [if_neg hp, ih]
      simp [hp]
theorem fnd_append {x : K} {l l' : List (K × Value)} {j : Nat} : fnd x (l ++ l') j = match fnd x l j with | some r => some r | none => fnd x l' (j + l.length) := by
  induction l generalizing j with
  | nil => simp [fnd]
  | cons p l ih =>
    show (if p.1 = x then some (j, p.2) else fnd x (l ++ l') (j + 1)) = match (if p.1 = x then some (j, p.2) else fnd x l (j + 1)) with | some r => some r | none => fnd x l' (j + (l.length + 1))
    by_cases hp : p.1 = x
    · simp only [if_pos hp]
    · simp only [if_neg hp]
      rw [ih, show j + 1 + l.length = j + (l.length + 1) by omega]
theorem mget_put (m : List (K × Value)) (k k' : K) (v : Value) : mget (mput m k v) k' = if k = k' then some v else mget m k' := by
  unfold mget mput
  cases hf : fnd k m 0 with
  | none =>
    rw [fnd_append]
    by_cases hk : k = k'
    · subst hk
      rw [hf, if_pos rfl]
      simp [fnd]
    · rw [if_neg hk]
      cases hg : fnd k' m 0 with
      | none => simp [fnd, hk]
      | some r => simp
  | some r =>
    obtain ⟨i, u⟩ := r
    obtain ⟨_, hi⟩ := fnd_some hf
    simp at hi
    have hset : ∀ (l : List (K × Value)) (i j : Nat) (u : Value), l[i]? = some (k, u) → (∀ a, a < i → ∀ p, l[a]? = some p → p.1 ≠ k) → (fnd k' (l.set i (k, v)) j).map (·.2) = if k = k' then some v else (fnd k' l j).map (·.2) := by
      intro l
      induction l with
      | nil => intro i j u h; simp at h
      | cons p l ih =>
        intro i j u h hb
        cases i with
        | zero =>
          simp at h
          subst h
          simp only [List.set_cons_zero, fnd]
          by_cases hk : k = k' <;> simp [hk]
        | succ i =>
          simp only [List.set_cons_succ, fnd]
          have hp : p.1 ≠ k := hb 0 (by omega) p rfl
          by_cases hk : p.1 = k'
          · have : k ≠ k' := fun e => hp (by rw [hk, e])
            simp [hk, this]
          · rw [if_neg hk, if_neg hk]
            exact ih i (j + 1) u (by simpa using h) (fun a ha q hq => hb (a + 1) (by omega) q (by simpa using hq))
    refine hset m i 0 u hi ?_
    have hfirst : ∀ (l : List (K × Value)) (j i : Nat) (u : Value), fnd k l j = some (i, u) → ∀ a, a < i - j → ∀ p, l[a]? = some p → p.1 ≠ k := by
      intro l
      induction l with
      | nil => intro j i u h; simp [fnd] at h
      | cons q l ih =>
        intro j i u h a ha p hp
        unfold fnd at h
        by_cases hq : q.1 = k
        · rw [if_pos hq] at h
          simp at h
          omega
        · rw [if_neg hq] at h
          cases a with
          | zero => simp at hp; subst hp; exact hq
          | succ a => exact ih (j + 1) i u h a (by omega) p (by simpa using hp)
    exact fun a ha p hp => hfirst m 0 i u hf a (by omega) p hp
theorem mput_len (m : List (K × Value)) (k : K) (v : Value) : (mput m k v).length = if (mget m k).isSome then m.length else m.length + 1 := by
  unfold mput mget
  cases fnd k m 0 with
  | none => simp
  | some r => simp
end

def consB (gs cs : List Int) : Bool := (List.range gs.length).all fun i => (List.range i).all fun j => decide (gs.getD i 0 = gs.getD j 0 → cs.getD i 0 = cs.getD j 0)
theorem consB_false {gs cs : List Int} {i j : Nat} (hi : i < gs.length) (hj : j < i) (h1 : gs.getD i 0 = gs.getD j 0) (h2 : cs.getD i 0 ≠ cs.getD j 0) : consB gs cs = false := by
  unfold consB
  refine range_not hi (range_not hj ?_)
  rw [decide_eq_false_iff_not]
  exact fun h => h2 (h h1)
theorem consB_iff (gs cs : List Int) : consB gs cs = true ↔ ∀ i j, i < gs.length → j < i → gs.getD i 0 = gs.getD j 0 → cs.getD i 0 = cs.getD j 0 := by
  unfold consB
  simp only [List.all_eq_true, List.mem_range, decide_eq_true_eq]
  constructor
  · intro h i j hi hj; exact h i hi j hj
  · intro h i hi j hj; exact h i j hi hj

theorem zeroI (w : World) : (zeroValue 3).run Tryz.prog w = .ok (.int .i64 0) w := by kernel_rfl

set_option maxRecDepth 100000 in
set_option maxHeartbeats 400000 in
theorem table_decides (gs cs : List Int) (A B : Option Addr) (ca cb : Nat) (w : World) (S T : Nat → Prop) (hA : Ints w S A gs) (hB : Ints w T B cs) (hl : cs.length = gs.length) :
    Calls Tryz.prog 64 #[.slice A gs.length ca, .slice B cs.length cb] w (RetB w (consB gs cs)) := by
  have hgl := hA.2
  have HA := Lib.hid hA
  have HB := Lib.hid hB
  have HL := Lib.hid hl
  clear hA hB hl
  have hmm := @run_makeMap Tryz.prog
  go_enter Tryz.func64, Tryz.ntmps64
  go_wp2
  clear hmm
  go_loopw [13] (fun i wr => ∃ (k : Nat) (m : List (Int × Value)), k ≤ gs.length ∧ i = .int .i64 k ∧ Ext w wr ∧ MapIs wr w.heap.size (fun n : Int => Value.int .i64 n) m ∧
      (∀ j, j < k → mget m (gs.getD j 0) = some (.int .i64 (cs.getD j 0))) ∧ (∀ g v, mget m g = some v → ∃ j, j < k ∧ gs.getD j 0 = g) ∧ (∀ i j, i < k → j < i → gs.getD i 0 = gs.getD j 0 → cs.getD i 0 = cs.getD j 0)) (fun i _ => gs.length - (intOf i).toNat)
  case atStart => exact ⟨0, [], Nat.zero_le _, rfl, (Ext.refl w).alloc _, MapIs.made w _, by intros; omega, by intro g v h; simp [mget, fnd] at h, by intros; omega⟩
  case round =>
    obtain ⟨k, m, hk, rfl, hext, hmap, h1, h2, h3⟩ := hrel
    have HE := Lib.hid hext
    have HM := Lib.hid hmap
    have H1 := Lib.hid h1
    have H2 := Lib.hid h2
    have H3 := Lib.hid h3
    clear hmap h1 h2 h3
    by_cases hlt : k < gs.length
    · have hlt2 : k < cs.length := by rw [HL.out]; exact hlt
      obtain ⟨b1, o1, rfl, z1, c1⟩ := (HA.out.keep (hext.kept S)).at_ hlt
      obtain ⟨b2, o2, rfl, z2, c2⟩ := (HB.out.keep (hext.kept T)).at_ hlt2
      have hlk := HM.out.get2 Tryz.underlying125 (klInt Tryz.underlying3) (.int .i64 0) zeroI gs[k]
      have G1 := Lib.hid (getD_of gs k 0 hlt)
      have G2 := Lib.hid (getD_of cs k 0 hlt2)
      obtain ⟨w', hup, hmap', hg'⟩ := HM.out.put Tryz.underlying125 (klInt Tryz.underlying3) gs[k] (.int .i64 cs[k])
      have HM' := Lib.hid hmap'
      have HG' := Lib.hid hg'
      have hh2 : (cs.length : Int) = (gs.length : Int) := by rw [HL.out]
      have hlt3 : (k : Int) < (cs.length : Int) := by omega
      clear hmap' hg' hext hh2
      have hgood : (∀ v, mget m gs[k] = some v → v = .int .i64 cs[k]) → ∃ (k' : Nat) (m' : List (Int × Value)), k' ≤ gs.length ∧ (k' : Int) = (k : Int) + 1 ∧ Ext w w' ∧ MapIs w' w.heap.size (fun n : Int => Value.int .i64 n) m' ∧
          (∀ j, j < k' → mget m' (gs.getD j 0) = some (.int .i64 (cs.getD j 0))) ∧ (∀ g v, mget m' g = some v → ∃ j, j < k' ∧ gs.getD j 0 = g) ∧ (∀ i j, i < k' → j < i → gs.getD i 0 = gs.getD j 0 → cs.getD i 0 = cs.getD j 0) := by
        intro hv
        refine ⟨k + 1, _, by omega, by omega, HE.out.grown HG'.out (fun b hb => by injection hb with hb; omega), HM'.out, fun j hj => ?_, fun g v hg => ?_, fun i j hi hj he => ?_⟩
        · rw [mget_put]
          by_cases hjk : gs[k] = gs.getD j 0
          · rw [if_pos hjk]
            by_cases hj2 : j = k
            · subst hj2; rw [G2.out]
            · have := H1.out j (by omega)
              rw [← hjk] at this
              rw [hv _ this] at this
              have h5 := H1.out j (by omega)
              rw [← hjk, this] at h5
              exact h5
          · rw [if_neg hjk]
            by_cases hj2 : j = k
            · subst hj2; exact absurd G1.out.symm hjk
            · exact H1.out j (by omega)
        · rw [mget_put] at hg
          by_cases hgk : gs[k] = g
          · exact ⟨k, by omega, by rw [G1.out]; exact hgk⟩
          · rw [if_neg hgk] at hg
            obtain ⟨j, hj, hj2⟩ := H2.out g v hg
            exact ⟨j, by omega, hj2⟩
        · by_cases hik : i = k
          · subst hik
            have h5 := H1.out j hj
            rw [← he, G1.out] at h5
            have h6 := hv _ h5
            injection h6 with _ h6
            rw [G2.out]; exact h6.symm
          · exact H3.out i j (by omega) hj he
      have HGOOD := Lib.hid hgood
      clear hgood
      cases hmg : mget m gs[k] with
      | none =>
        have hlk2 : (Instr.lookup 125 (.map (some w.heap.size)) (.int .i64 gs[k]) true).run Tryz.prog wr = .ok (.tuple #[.int .i64 0, .bool false]) wr := by rw [hlk, hmg]; rfl
        have HMG := Lib.hid hmg
        clear hlk hmg
        go_wp2
        go_roundw
        case rel =>
          obtain ⟨k', m', e1, e2, e3⟩ := HGOOD.out (fun v hv => by rw [HMG.out] at hv; cases hv)
          exact ⟨k', m', e1, by rw [e2], e3⟩
        case measure => simp [intOf]; omega
      | some v =>
        have hvv : ∃ x : Int, v = .int .i64 x := by
          obtain ⟨j, hj, hj2⟩ := H2.out _ _ hmg
          have := H1.out j hj
          rw [hj2, hmg] at this
          injection this with this
          exact ⟨_, this⟩
        obtain ⟨x, rfl⟩ := hvv
        have hlk2 : (Instr.lookup 125 (.map (some w.heap.size)) (.int .i64 gs[k]) true).run Tryz.prog wr = .ok (.tuple #[.int .i64 x, .bool true]) wr := by rw [hlk, hmg]; rfl
        have HMG := Lib.hid hmg
        clear hlk hmg
        by_cases hx : x = cs[k]
        · have hx' : (x != cs[k]) = false := by simp [hx]
          have HXX := Lib.hid hx
          clear hx
          go_wp2
          go_roundw
          case rel =>
            obtain ⟨k', m', e1, e2, e3⟩ := HGOOD.out (fun v hv => by rw [HMG.out] at hv; injection hv with hv; rw [← hv, HXX.out])
            exact ⟨k', m', e1, by rw [e2], e3⟩
          case measure => simp [intOf]; omega
        · have hx' : (x != cs[k]) = true := by rw [bne_iff_ne]; exact hx
          have HF := Lib.hid (show consB gs cs = false by
            obtain ⟨j, hj, hj2⟩ := H2.out _ _ HMG.out
            have h5 := H1.out j hj
            rw [hj2, HMG.out] at h5
            injection h5 with h5
            injection h5 with _ h5
            exact consB_false hlt hj (by rw [G1.out, hj2]) (by rw [G2.out, ← h5]; exact fun e => hx e.symm))
          clear hx
          go_wp2
          go_ret
          exact ⟨by rw [HF.out]; rfl, HE.out⟩
    · have HF := Lib.hid (show consB gs cs = true by rw [consB_iff]; exact fun i j hi hj he => H3.out i j (by omega) hj he)
      clear hext
      go_wp2
      go_ret
      exact ⟨by rw [HF.out]; rfl, HE.out⟩
end Go.Proofs.YtcmmkeiiapbgcaaGreatDoor
