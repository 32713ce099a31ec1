/- The relation of worlds that the linear law of drawn regions is used with: what was there stays, but for the variables that the region itself makes. No conditions. -/
import Derived.Test.YtcmmkeiiapbgcaaGreatDoorLin
import Derived.Test.YtcmmkeiiapbgcaaGreatDoorFlat
namespace Go.Proofs.YtcmmkeiiapbgcaaGreatDoor
open Go Go.RowKit

def AllSteps (F : Nat → Oper → Prop) : List Oper → Nat → Prop
  | [], _ => True
  | o :: l, k => F k o ∧ AllSteps F l (k + 1)
theorem AllSteps.at_ {F : Nat → Oper → Prop} : ∀ {l : List Oper} {k : Nat}, AllSteps F l k → ∀ i o, l[i]? = some o → F (k + i) o
  | [], _, _, _, _, h => by simp at h
  | o :: l, k, h, 0, o', hi => by simp at hi; subst hi; exact h.1
  | o :: l, k, h, i + 1, o', hi => by have := h.2.at_ i o' (by simpa using hi); rwa [show k + 1 + i = k + (i + 1) by omega] at this
theorem allSteps {F : Nat → Oper → Prop} {l : List Oper} (h : AllSteps F l 0) : ∀ i o, l.toArray[i]? = some o → F i o := fun i o hi => by
  have := h.at_ i o (by simpa using hi)
  rwa [Nat.zero_add] at this

theorem wp_region_lin_lit {Γ : Type} {P : Program} {l : List Oper} {Q : Exit → Act → World → Prop} {id : Nat} {a0 : Act} {w0 : World} (hm : P.follows .mixedOrders = true) (D : Nat → List Nat) (hB : linB l.toArray D a0.tmps.size = true)
    (R : Γ → World → Γ → World → Prop) (hrefl : ∀ γ w, R γ w γ w) (htrans : ∀ γ w γ' w' γ'' w'', R γ w γ' w' → R γ' w' γ'' w'' → R γ w γ'' w'')
    (N : Nat → Γ → Prop) (G : Nat → List Value → Γ → World → Prop) (hst : ∀ i l γ w γ' w', R γ w γ' w' → G i l γ w → G i l γ' w') (γ0 : Γ) (hN : ∀ i, N i γ0)
    (hstep : AllSteps (LinStep P l.toArray D R N G a0 γ0 w0.drew) l 0)
    (hfin : ∀ vals γ w, R γ0 w0.drew γ w → (∀ i, i < l.length → G i ((D i).map vals) γ w) → Q .normal (lexFrame vals l 0 a0) w) :
    (Code.region id l.toArray true).wp P Q a0 w0 :=
  wp_region_lin hm D hB R hrefl htrans N G hst γ0 hN (allSteps hstep) (fun vals γ w h1 h2 => hfin vals γ w h1 fun i hi => h2 i (by simpa using hi))
theorem LinStep.yes {Γ : Type} {P : Program} {ops : Array Oper} {D : Nat → List Nat} {R : Γ → World → Γ → World → Prop} {N : Nat → Γ → Prop} {G : Nat → List Value → Γ → World → Prop} {a0 : Act} {γ0 : Γ} {w0 : World} {i : Nat} {o : Oper}
    (h : ∀ (vals : Nat → Value) (γ : Γ) (w : World) (ρ : Operand → Value), R γ0 w0 γ w → N i γ → (∀ j, j ∈ predsOf o → G j ((D j).map vals) γ w) → (∀ t, ρ (.tmp t) = linLook ops o a0 vals t) → (∀ v, ρ (.const v) = v) → (∀ f, ρ (.func f) = .func (.func f) #[] #[]) → (∀ g, ρ (.global g) = .pointer (some ⟨g, 0, none⟩)) →
      linWanted o vals = true ∧ linUpon P (fun v w' => ∃ γ', R γ w γ' w' ∧ (∀ j, j ≠ i → j ∉ predsOf o → N j γ → N j γ') ∧ G i ((D i).map (setV vals i v)) γ' w') ((execOp ρ o).run P w)) : LinStep P ops D R N G a0 γ0 w0 i o := by
  intro vals γ w hR hN hp
  obtain ⟨h1, h2⟩ := h vals γ w (linEnv ops o a0 vals) hR hN hp (fun _ => rfl) (fun _ => rfl) (fun _ => rfl) (fun _ => rfl)
  rw [if_pos h1]
  exact h2
/-- Effects in a forced order: the ghost counts them; between two effects the world stays; 'Inv' holds at each count. -/
structure SR (Inv : Nat → World → Prop) (γ : Nat) (w : World) (γ' : Nat) (w' : World) : Prop where
  le : γ ≤ γ'
  eq : γ = γ' → w' = w
  inv : Inv γ w → Inv γ' w'
theorem SR.refl (Inv : Nat → World → Prop) (γ : Nat) (w : World) : SR Inv γ w γ w := ⟨Nat.le_refl _, fun _ => rfl, id⟩
theorem SR.trans (Inv : Nat → World → Prop) (γ : Nat) (w : World) (γ' : Nat) (w' : World) (γ'' : Nat) (w'' : World) (h : SR Inv γ w γ' w') (k : SR Inv γ' w' γ'' w'') : SR Inv γ w γ'' w'' :=
  ⟨Nat.le_trans h.le k.le, fun e => by
    have h1 := h.le
    have h2 := k.le
    rw [k.eq (by omega), h.eq (by omega)], fun hi => k.inv (h.inv hi)⟩
theorem SR.up {Inv : Nat → World → Prop} {γ : Nat} {w : World} {γ' : Nat} {w' : World} (h : γ < γ') (hi : Inv γ' w') : SR Inv γ w γ' w' := ⟨Nat.le_of_lt h, fun e => absurd e (Nat.ne_of_lt h), fun _ => hi⟩
/-- Operation i is still to come: fewer than 'st i' effects have come. -/
def SN (st : List Nat) (i γ : Nat) : Prop := γ < st.getD i 100
theorem SN.zero {st : List Nat} (h : st.all (fun s => decide (0 < s)) = true) (i : Nat) : SN st i 0 := by
  unfold SN
  rcases Nat.lt_or_ge i st.length with hi | hi
  · rw [show st.getD i 100 = st[i] by simp [hi]]
    have := List.all_eq_true.1 h _ (List.getElem_mem hi)
    simpa using this
  · rw [show st.getD i 100 = 100 by simp [List.getElem?_eq_none hi]]; omega
theorem SN.up {st : List Nat} {i s : Nat} {p : List Nat} (hs : s < 100) (h : ((List.range st.length).all fun j => decide (j = i) || p.contains j || decide (st.getD j 100 ≠ s)) = true) {γ : Nat} (hg : γ + 1 = s) : ∀ j, j ≠ i → j ∉ p → SN st j γ → SN st j s := by
  intro j hj hp hn
  unfold SN at hn ⊢
  rcases Nat.lt_or_ge j st.length with hl | hl
  · have := List.all_eq_true.1 h j (List.mem_range.2 hl)
    simp only [Bool.or_eq_true, decide_eq_true_eq, List.contains_iff_mem] at this
    rcases this with (h1 | h1) | h1
    · exact absurd h1 hj
    · exact absurd h1 hp
    · omega
  · rw [show st.getD j 100 = 100 by simp [List.getElem?_eq_none hl]]; omega
/-- What becomes of a variable that the region makes, by the number of its store: not yet made, made in this block, stored. -/
abbrev Gh := Nat → Option (Option Nat)
def gh0 : Gh := fun _ => none
def Gh.put (γ : Gh) (k : Nat) (x : Option Nat) : Gh := fun j => if j = k then some x else γ j
/-- The blocks of variables that wait for their store. -/
def Gh.V (γ : Gh) (b : Nat) : Prop := ∃ k, γ k = some (some b)
def Free (γ : Gh) (b : Nat) : Prop := ¬ γ.V b
/-- Of operation i, which is still to come: the variable that it stores is not stored; the variable that it makes is not made. 'al': the alloc of a store. -/
def LN (al : Nat → Option Nat) (i : Nat) (γ : Gh) : Prop := (∀ k, al i = some k → γ k ≠ some none) ∧ ((∃ s, al s = some i) → γ i = none)
structure LR (γ : Gh) (w : World) (γ' : Gh) (w' : World) : Prop where
  os : w'.os = w.os
  tape : w'.tape = w.tape
  output : w'.output = w.output
  size : w.heap.size ≤ w'.heap.size
  kept : ∀ b, b < w.heap.size → Free γ b → w'.heap[b]? = w.heap[b]?
  shape : ∀ b t cs, Blk w b t cs → ∃ cs', cs'.size = cs.size ∧ Blk w' b t cs'
  old : ∀ k b, γ' k = some (some b) → b < w.heap.size → γ k = some (some b)
  on : ∀ k b, γ k = some (some b) → γ' k = some (some b) ∨ γ' k = some none
  done : ∀ k, γ k = some none → γ' k = some none
  inb : (∀ k b, γ k = some (some b) → b < w.heap.size) → ∀ k b, γ' k = some (some b) → b < w'.heap.size
theorem LR.refl (γ : Gh) (w : World) : LR γ w γ w := ⟨rfl, rfl, rfl, Nat.le_refl _, fun _ _ _ => rfl, fun _ _ cs h => ⟨cs, rfl, h⟩, fun _ _ h _ => h, fun _ _ h => .inl h, fun _ h => h, fun h => h⟩
theorem LR.free {γ : Gh} {w : World} {γ' : Gh} {w' : World} (h : LR γ w γ' w') {b : Nat} (hb : b < w.heap.size) (hf : Free γ b) : Free γ' b := fun ⟨k, hk⟩ => hf ⟨k, h.old k b hk hb⟩
theorem LR.trans (γ : Gh) (w : World) (γ' : Gh) (w' : World) (γ'' : Gh) (w'' : World) (h : LR γ w γ' w') (k : LR γ' w' γ'' w'') : LR γ w γ'' w'' where
  os := k.os.trans h.os
  tape := k.tape.trans h.tape
  output := k.output.trans h.output
  size := Nat.le_trans h.size k.size
  kept b hb hf := (k.kept b (Nat.lt_of_lt_of_le hb h.size) (h.free hb hf)).trans (h.kept b hb hf)
  shape b t cs hc := by
    obtain ⟨c1, e1, h1⟩ := h.shape b t cs hc
    obtain ⟨c2, e2, h2⟩ := k.shape b t c1 h1
    exact ⟨c2, e2.trans e1, h2⟩
  old i b hi hb := h.old i b (k.old i b hi (Nat.lt_of_lt_of_le hb h.size)) hb
  on i b hi := by
    rcases h.on i b hi with h1 | h1
    · exact k.on i b h1
    · exact .inr (k.done i h1)
  done i hi := k.done i (h.done i hi)
  inb hi := k.inb (h.inb hi)
theorem LR.of_ext (γ : Gh) {w w' : World} (h : Ext w w') : LR γ w γ w' :=
  ⟨h.os, h.tape, h.output, h.size, fun b hb _ => h.block b hb, fun b t cs hc => ⟨cs, rfl, hc.keep (h.kept _)⟩, fun _ _ h _ => h, fun _ _ h => .inl h, fun _ h => h, fun hi i b hb => Nat.lt_of_lt_of_le (hi i b hb) h.size⟩
theorem LR.ext {w : World} {γ : Gh} {w' : World} (h : LR gh0 w γ w') : Ext w w' := ⟨h.os, h.tape, h.output, h.size, fun b hb => h.kept b hb (fun ⟨k, hk⟩ => by cases hk)⟩
theorem LR.drew_ext {w : World} {γ : Gh} {w' : World} (h : LR gh0 w.drew γ w') : Ext w w' := (Ext.refl w).drew.trans h.ext
theorem LR.new {γ : Gh} {k : Nat} (hk : γ k = none) (w : World) (o : Obj) : LR γ w (γ.put k (some w.heap.size)) (w.alloc o) := by
  have h := (Ext.refl w).alloc o
  refine ⟨h.os, h.tape, h.output, h.size, fun b hb _ => h.block b hb, fun b t cs hc => ⟨cs, rfl, hc.keep (h.kept _)⟩, ?_, ?_, ?_, ?_⟩
  · intro j b hj hb
    unfold Gh.put at hj
    split at hj
    · simp at hj; omega
    · exact hj
  · intro j b hj
    left
    unfold Gh.put
    rw [if_neg (fun e => by subst e; rw [hk] at hj; cases hj)]
    exact hj
  · intro j hj
    unfold Gh.put
    rw [if_neg (fun e => by subst e; rw [hk] at hj; cases hj)]
    exact hj
  · intro hi j b hj
    unfold Gh.put at hj
    split at hj
    · simp at hj; subst hj; simp
    · have := hi j b hj; simp; omega
theorem LR.inb0 {w : World} {γ : Gh} {w' : World} (h : LR gh0 w γ w') : ∀ k b, γ k = some (some b) → b < w'.heap.size := h.inb fun k b hk => by cases hk
theorem LN.zero (al : Nat → Option Nat) (i : Nat) : LN al i gh0 := ⟨fun _ _ h => (by cases h), fun _ => rfl⟩
theorem LN.made {al : Nat → Option Nat} {γ : Gh} {i : Nat} {x : Nat} {p : List Nat} : ∀ j, j ≠ i → j ∉ p → LN al j γ → LN al j (γ.put i (some x)) := by
  rintro j hj - ⟨h1, h2⟩
  refine ⟨fun k hk => ?_, fun hs => ?_⟩
  · unfold Gh.put
    split
    · simp
    · exact h1 k hk
  · unfold Gh.put
    rw [if_neg hj]
    exact h2 hs
theorem LN.stored {al : Nat → Option Nat} (inj : ∀ j s k, al j = some k → al s = some k → j = s) {γ : Gh} {s k g : Nat} (hs : al s = some k) (hk : γ k = some (some g)) {p : List Nat} : ∀ j, j ≠ s → j ∉ p → LN al j γ → LN al j (γ.put k none) := by
  rintro j hj - ⟨h1, h2⟩
  refine ⟨fun k' hk' => ?_, fun hs' => ?_⟩
  · unfold Gh.put
    rw [if_neg (fun e => by subst e; exact hj (inj _ _ _ hk' hs))]
    exact h1 k' hk'
  · unfold Gh.put
    rw [if_neg (fun e => by subst e; rw [h2 hs'] at hk; cases hk)]
    exact h2 hs'
def al0 : Nat → Option Nat := fun _ => none
def al1 (s k : Nat) : Nat → Option Nat := fun j => if j = s then some k else none
theorem al0_inj : ∀ j s k, al0 j = some k → al0 s = some k → j = s := fun _ _ _ h => by cases h
theorem al1_inj {s k : Nat} : ∀ j s' k', al1 s k j = some k' → al1 s k s' = some k' → j = s' := by
  intro j s' k' h h'
  unfold al1 at h h'
  split at h
  · split at h'
    · omega
    · cases h'
  · cases h
/-- Only the block g has changed. -/
structure Only (g : Nat) (w w' : World) : Prop where
  os : w'.os = w.os
  tape : w'.tape = w.tape
  output : w'.output = w.output
  size : w'.heap.size = w.heap.size
  block : ∀ b, b ≠ g → w'.heap[b]? = w.heap[b]?
theorem Only.refl (g : Nat) (w : World) : Only g w w := ⟨rfl, rfl, rfl, rfl, fun _ _ => rfl⟩
theorem Only.set {g : Nat} {w w' : World} (h : Only g w w') (i : Nat) (u : Value) : Only g w (w'.setCell ⟨g, i, none⟩ u) :=
  ⟨h.os, h.tape, h.output, by simp [World.setCell, h.size], fun b hb => (Below.heap_setCell _ _ _ _ hb).trans (h.block b hb)⟩
theorem LR.store {γ : Gh} {w w' : World} {k g t : Nat} {cs cs' : Array Value} (hk : γ k = some (some g)) (hu : ∀ j, γ j = some (some g) → j = k) (ho : Only g w w') (hb : Blk w g t cs) (hb' : Blk w' g t cs') (hs : cs'.size = cs.size) :
    LR γ w (γ.put k none) w' := by
  refine ⟨ho.os, ho.tape, ho.output, Nat.le_of_eq ho.size.symm, fun b _ hf => ho.block b (fun e => hf ⟨k, by rw [hk, e]⟩), ?_, ?_, ?_, ?_, ?_⟩
  · intro b t' c hc
    by_cases hbg : b = g
    · subst hbg
      have := hb.symm.trans hc
      simp at this
      obtain ⟨rfl, rfl⟩ := this
      exact ⟨cs', hs, hb'⟩
    · exact ⟨c, rfl, (ho.block b hbg).trans hc⟩
  · intro j b hj _
    unfold Gh.put at hj
    split at hj
    · cases hj
    · exact hj
  · intro j b hj
    unfold Gh.put
    split
    · exact .inr rfl
    · exact .inl hj
  · intro j hj
    unfold Gh.put
    split
    · rfl
    · exact hj
  · intro hi j b hj
    unfold Gh.put at hj
    split at hj
    · cases hj
    · rw [ho.size]; exact hi j b hj
section
variable {γ γ' : Gh} {w w' : World} {A B : Option Addr} {d : Nat} {x : Val}
theorem LR.keptS (h : LR γ w γ' w') {S : Nat → Prop} (hS : ∀ b, b < w.heap.size → S b → Free γ b) : Kept S w w' := ⟨h.size, fun b hs hb => h.kept b hb (hS b hb hs)⟩
theorem LR.rv (h : LR γ w γ' w') (k : RV w (Free γ) d x A B) : RV w' (Free γ') d x A B := by
  have h1 : RV w (fun b => Free γ b ∧ Free γ' b) d x A B := k.mono fun b hb hf => ⟨hf, h.free hb hf⟩
  exact (h1.keep (h.keptS fun _ _ hb => hb.1)).mono fun _ _ hb => hb.2
theorem LR.strs {l : List ByteArray} (h : LR γ w γ' w') (k : Strs w (Free γ) A l) : Strs w' (Free γ') A l := by
  have h1 : Strs w (fun b => Free γ b ∧ Free γ' b) A l := k.mono fun b hb hf => ⟨hf, h.free hb hf⟩
  exact (h1.keep (h.keptS fun _ _ hb => hb.1)).mono fun _ _ hb => hb.2
theorem LR.rows {l : List (List Val)} (h : LR γ w γ' w') (k : Rows w (Free γ) d A l) : Rows w' (Free γ') d A l := by
  have h1 : Rows w (fun b => Free γ b ∧ Free γ' b) d A l := k.mono fun b hb hf => ⟨hf, h.free hb hf⟩
  exact (h1.keep (h.keptS fun _ _ hb => hb.1)).mono fun _ _ hb => hb.2
theorem LR.cell (h : LR γ w γ' w') {p : Addr} {u : Value} (hf : Free γ p.block) (hc : w.cell? p = some u) : w'.cell? p = some u := by
  have hp : p.block < w.heap.size := by
    unfold World.cell? at hc
    rcases Nat.lt_or_ge p.block w.heap.size with h1 | h1
    · exact h1
    · rw [Array.getElem?_eq_none h1] at hc; cases hc
  rw [World.cell?_of_block (w := w) (h.kept p.block hp hf)]
  exact hc
theorem LR.blk (h : LR γ w γ' w') {g t : Nat} {cs : Array Value} (hf : Free γ g) (hc : Blk w g t cs) : Blk w' g t cs := hc.keep (h.keptS fun b _ e => by subst e; exact hf)
/-- The value of an alloc: a variable of type t and n cells, to be stored by operation k. -/
def VarAt (k t n : Nat) (v : Value) (γ : Gh) (w : World) : Prop := ∃ g cs, v = .pointer (some ⟨g, 0, none⟩) ∧ cs.size = n ∧ Blk w g t cs ∧ (γ k = some (some g) ∨ γ k = some none) ∧ ∀ j, γ j = some (some g) → j = k
theorem VarAt.lr {k t n : Nat} {v : Value} (r : LR γ w γ' w') (h : VarAt k t n v γ w) : VarAt k t n v γ' w' := by
  obtain ⟨g, cs, h1, h2, h3, h4, h5⟩ := h
  obtain ⟨cs', e, h6⟩ := r.shape g t cs h3
  refine ⟨g, cs', h1, e.trans h2, h6, ?_, fun j hj => h5 j (r.old j g hj h3.lt)⟩
  rcases h4 with h4 | h4
  · exact r.on k g h4
  · exact .inr (r.done k h4)
/-- The variable's block behind its store. -/
def VarIs (t : Nat) (v : Value) (cs : Array Value) (γ : Gh) (w : World) : Prop := ∃ g, v = .pointer (some ⟨g, 0, none⟩) ∧ Blk w g t cs ∧ Free γ g
theorem VarIs.lr {t : Nat} {v : Value} {cs : Array Value} (r : LR γ w γ' w') (h : VarIs t v cs γ w) : VarIs t v cs γ' w' := by
  obtain ⟨g, h1, h2, h3⟩ := h
  exact ⟨g, h1, r.blk h3 h2, r.free h2.lt h3⟩
theorem VarAt.new {k t n : Nat} (hf : ∀ j b, γ j = some (some b) → b < w.heap.size) {cs : Array Value} (hn : cs.size = n) : VarAt k t n (.pointer (some ⟨w.heap.size, 0, none⟩)) (γ.put k (some w.heap.size)) (w.alloc (.cells cs t)) := by
  refine ⟨_, cs, rfl, hn, Blk.new w t cs, .inl (by simp [Gh.put]), fun j hj => ?_⟩
  unfold Gh.put at hj
  split at hj
  · assumption
  · have := hf j _ hj
    omega
theorem VarAt.stored {al : Nat → Option Nat} {s k t n : Nat} {v : Value} (h : VarAt k t n v γ w) (hs : al s = some k) (hn : LN al s γ) :
    ∃ g cs, v = .pointer (some ⟨g, 0, none⟩) ∧ cs.size = n ∧ Blk w g t cs ∧ γ k = some (some g) ∧ ∀ w' cs', Only g w w' → Blk w' g t cs' → cs'.size = n → LR γ w (γ.put k none) w' ∧ VarIs t v cs' (γ.put k none) w' := by
  obtain ⟨g, cs, h1, h2, h3, h4, h5⟩ := h
  have hk : γ k = some (some g) := by
    rcases h4 with h4 | h4
    · exact h4
    · exact absurd h4 (hn.1 k hs)
  refine ⟨g, cs, h1, h2, h3, hk, fun w' cs' ho hb he => ⟨LR.store hk h5 ho h3 hb (he.trans h2.symm), g, h1, hb, ?_⟩⟩
  rintro ⟨j, hj⟩
  unfold Gh.put at hj
  split at hj
  · cases hj
  · rename_i hne
    exact hne (h5 j hj)
theorem arr7 {cs : Array Value} (h : cs.size = 7) (a0 a1 a2 a3 a4 a5 a6 : Value) : ((((((cs.setIfInBounds 0 a0).setIfInBounds 1 a1).setIfInBounds 2 a2).setIfInBounds 3 a3).setIfInBounds 4 a4).setIfInBounds 5 a5).setIfInBounds 6 a6 = #[a0, a1, a2, a3, a4, a5, a6] := by
  obtain ⟨l⟩ := cs
  match l, h with
  | [_, _, _, _, _, _, _], _ => rfl
theorem VarAt.store7 {al : Nat → Option Nat} {s k t : Nat} {v : Value} (h : VarAt k t 7 v γ w) (hs : al s = some k) (hn : LN al s γ) :
    ∃ g, v = .pointer (some ⟨g, 0, none⟩) ∧ (∃ cs, cs.size = 7 ∧ Blk w g t cs) ∧ γ k = some (some g) ∧ ∀ a0 a1 a2 a3 a4 a5 a6, LR γ w (γ.put k none) (((((((w.setCell ⟨g, 0, none⟩ a0).setCell ⟨g, 1, none⟩ a1).setCell ⟨g, 2, none⟩ a2).setCell ⟨g, 3, none⟩ a3).setCell ⟨g, 4, none⟩ a4).setCell ⟨g, 5, none⟩ a5).setCell ⟨g, 6, none⟩ a6) ∧
      VarIs t v #[a0, a1, a2, a3, a4, a5, a6] (γ.put k none) (((((((w.setCell ⟨g, 0, none⟩ a0).setCell ⟨g, 1, none⟩ a1).setCell ⟨g, 2, none⟩ a2).setCell ⟨g, 3, none⟩ a3).setCell ⟨g, 4, none⟩ a4).setCell ⟨g, 5, none⟩ a5).setCell ⟨g, 6, none⟩ a6) := by
  obtain ⟨g, cs, h1, h2, h3, h4, h5⟩ := h.stored hs hn
  refine ⟨g, h1, ⟨cs, h2, h3⟩, h4, fun a0 a1 a2 a3 a4 a5 a6 => h5 _ _ (((((((Only.refl g w).set 0 a0).set 1 a1).set 2 a2).set 3 a3).set 4 a4).set 5 a5 |>.set 6 a6) ?_ rfl⟩
  have := ((((((h3.set 0 a0).set 1 a1).set 2 a2).set 3 a3).set 4 a4).set 5 a5).set 6 a6
  rwa [arr7 h2] at this
theorem blk7 {g t : Nat} (h : ∃ cs, cs.size = 7 ∧ Blk w g t cs) : (∃ x0 x1 x2 x3 x4 x5 x6, w.cell? ⟨g, 0, none⟩ = some x0 ∧ w.cell? ⟨g, 1, none⟩ = some x1 ∧ w.cell? ⟨g, 2, none⟩ = some x2 ∧ w.cell? ⟨g, 3, none⟩ = some x3 ∧ w.cell? ⟨g, 4, none⟩ = some x4 ∧ w.cell? ⟨g, 5, none⟩ = some x5 ∧ w.cell? ⟨g, 6, none⟩ = some x6) ∧ (∀ i, w.frozen? ⟨g, i, none⟩ = false) ∧ g < w.heap.size := by
  obtain ⟨⟨l⟩, h1, h2⟩ := h
  match l, h1 with
  | [x0, x1, x2, x3, x4, x5, x6], _ => exact ⟨⟨x0, x1, x2, x3, x4, x5, x6, h2.cell rfl, h2.cell rfl, h2.cell rfl, h2.cell rfl, h2.cell rfl, h2.cell rfl, h2.cell rfl⟩, h2.frozen, h2.lt⟩
end
end Go.Proofs.YtcmmkeiiapbgcaaGreatDoor
