/- A region that draws its order: one proof an operation serves every order, if each operation's own fact stands whatever the others do. No conditions. -/
import Derived.Test.YtcmmkeiiapbgcaaGreatDoorBase
namespace Go.Proofs.YtcmmkeiiapbgcaaGreatDoor
open Go Go.RowKit

/-- The operations for which o waits. -/
def predsOf (o : Oper) : List Nat := (o.after.toList.filter (Region.binds .any)).map (·.on)
/-- What an operation yields, and the world behind it. -/
def linUpon (P : Program) (K : Value → World → Prop) : Result Next → Prop
  | .ok (.value v) w' => K v w'
  | .ok .skip w' => K undef w'
  | .ok (.enter f args) w' => Calls P f args w' (fun e w'' => ∃ v, e = .returned v ∧ K v w'')
  | _ => False
/-- The slot t as operation o finds it. -/
def linLook (ops : Array Oper) (o : Oper) (a0 : Act) (vals : Nat → Value) (t : Nat) : Value :=
  match (predsOf o).find? (fun j => (ops[j]?).bind (·.dst) == some t) with
  | some j => vals j
  | none => a0.tmps.getD t undef
def linEnv (ops : Array Oper) (o : Oper) (a0 : Act) (vals : Nat → Value) : Operand → Value
  | .tmp t => linLook ops o a0 vals t
  | x => a0.eval x
def boolOf : Value → Option Bool
  | .bool b => some b
  | _ => none
def linWanted (o : Oper) (vals : Nat → Value) : Bool :=
  match o.guard with
  | none => true
  | some (g, want) => boolOf (vals g) == some want
def lexFrame (vals : Nat → Value) : List Oper → Nat → Act → Act
  | [], _, a => a
  | o :: l, k, a => lexFrame vals l (k + 1) (a.put o.dst (vals k))
def setV (vals : Nat → Value) (i : Nat) (v : Value) : Nat → Value := fun k => if k = i then v else vals k
/-- The closed facts of a region. -/
def linB (ops : Array Oper) (D : Nat → List Nat) (n : Nat) : Bool :=
  Region.noSelect ops && decide ((ops.toList.filterMap (·.dst)).Nodup) && (ops.toList.filterMap (·.dst)).all (fun d => decide (d < n)) &&
  (List.range ops.size).all fun i => match ops[i]? with
    | none => true
    | some o => (predsOf o).all (fun j => decide (j < i)) && (D i).all (fun j => decide (j = i) || (predsOf o).contains j) &&
      (match o.guard with | none => true | some (g, _) => (predsOf o).contains g && ((ops[g]?).bind (·.dst)).isSome) &&
      (o.looksAt ops).all fun t => (List.range ops.size).all fun j => match ops[j]? with
        | none => true
        | some oj => decide (oj.dst ≠ some t) || decide (j = i) || (predsOf o).contains j || (predsOf oj).contains i
/-- What is to be shown of operation i. -/
def LinStep {Γ : Type} (P : Program) (ops : Array Oper) (D : Nat → List Nat) (R : Γ → World → Γ → World → Prop) (N : Nat → Γ → Prop) (G : Nat → List Value → Γ → World → Prop) (a0 : Act) (γ0 : Γ) (w0 : World) (i : Nat) (o : Oper) : Prop :=
  ∀ (vals : Nat → Value) (γ : Γ) (w : World), R γ0 w0 γ w → N i γ → (∀ j, j ∈ predsOf o → G j ((D j).map vals) γ w) →
    if linWanted o vals then linUpon P (fun v w' => ∃ γ', R γ w γ' w' ∧ (∀ j, j ≠ i → j ∉ predsOf o → N j γ → N j γ') ∧ G i ((D i).map (setV vals i v)) γ' w') ((execOp (linEnv ops o a0 vals) o).run P w)
    else G i ((D i).map (setV vals i undef)) γ w

section
variable {P : Program} {ops : Array Oper} {Q : Exit → Act → World → Prop}

theorem linB_spec {D : Nat → List Nat} {n : Nat} (h : linB ops D n = true) :
    Region.noSelect ops = true ∧ (ops.toList.filterMap (·.dst)).Nodup ∧ (∀ (i : Nat) (o : Oper) (d : Nat), ops[i]? = some o → o.dst = some d → d < n) ∧
    (∀ (i : Nat) (o : Oper) (j : Nat), ops[i]? = some o → j ∈ predsOf o → j < i) ∧ (∀ (i : Nat) (o : Oper) (j : Nat), ops[i]? = some o → j ∈ D i → j = i ∨ j ∈ predsOf o) ∧
    (∀ (i : Nat) (o : Oper) (g : Nat) (b : Bool), ops[i]? = some o → o.guard = some (g, b) → g ∈ predsOf o ∧ ∃ (og : Oper) (t : Nat), ops[g]? = some og ∧ og.dst = some t) ∧
    (∀ (i : Nat) (o : Oper) (t j : Nat) (oj : Oper), ops[i]? = some o → t ∈ o.looksAt ops → ops[j]? = some oj → oj.dst = some t → j = i ∨ j ∈ predsOf o ∨ i ∈ predsOf oj) := by
  simp only [linB, Bool.and_eq_true, decide_eq_true_eq] at h
  obtain ⟨⟨⟨h1, h2⟩, h3⟩, h4⟩ := h
  rw [List.all_eq_true] at h3 h4
  have key : ∀ (i : Nat) (o : Oper), ops[i]? = some o → (((∀ j ∈ predsOf o, j < i) ∧ (∀ j ∈ D i, (decide (j = i) || (predsOf o).contains j) = true)) ∧
      (match o.guard with | none => true | some (g, _) => (predsOf o).contains g && ((ops[g]?).bind (·.dst)).isSome) = true) ∧
      ∀ t ∈ o.looksAt ops, ∀ j ∈ List.range ops.size, (match ops[j]? with
        | none => true
        | some oj => decide (oj.dst ≠ some t) || decide (j = i) || (predsOf o).contains j || (predsOf oj).contains i) = true := fun i o hi => by
    have hlt : i < ops.size := (Array.getElem?_eq_some_iff.1 hi).1
    have := h4 i (List.mem_range.2 hlt)
    simp only [hi, Bool.and_eq_true, List.all_eq_true, decide_eq_true_eq] at this
    exact this
  refine ⟨h1, h2, ?_, ?_, ?_, ?_, ?_⟩
  · intro i o d hi hd
    have : d ∈ ops.toList.filterMap (·.dst) := List.mem_filterMap.2 ⟨o, by simpa using Array.mem_of_getElem? hi, hd⟩
    simpa using h3 d this
  · intro i o j hi hj
    exact (key i o hi).1.1.1 j hj
  · intro i o j hi hj
    have := (key i o hi).1.1.2 j hj
    simpa using this
  · intro i o g b hi hg
    have := (key i o hi).1.2
    simp only [hg, Bool.and_eq_true, List.contains_iff_mem, Option.isSome_iff_exists] at this
    obtain ⟨h5, t, h6⟩ := this
    refine ⟨by simpa using h5, ?_⟩
    cases hgo : ops[g]? with
    | none => simp [hgo] at h6
    | some og => simp [hgo] at h6; exact ⟨og, t, rfl, h6⟩
  · intro i o t j oj hi ht hj hd
    have hlt : j < ops.size := (Array.getElem?_eq_some_iff.1 hj).1
    have := (key i o hi).2 t ht j (List.mem_range.2 hlt)
    simp only [hj, hd, Bool.or_eq_true, decide_eq_true_eq, List.contains_iff_mem] at this
    rcases this with ((h | h) | h) | h
    · exact absurd rfl h
    · exact .inl h
    · exact .inr (.inl (by simpa using h))
    · exact .inr (.inr (by simpa using h))

theorem dst_inj (h : (ops.toList.filterMap (·.dst)).Nodup) {i j : Nat} {oi oj : Oper} {t : Nat} (hi : ops[i]? = some oi) (hj : ops[j]? = some oj) (hdi : oi.dst = some t) (hdj : oj.dst = some t) : i = j := by
  have hi' : ops.toList[i]? = some oi := by simpa using hi
  have hj' : ops.toList[j]? = some oj := by simpa using hj
  clear hi hj
  generalize ops.toList = l at *
  induction l generalizing i j with
  | nil => simp at hi'
  | cons o l ih =>
    cases i with
    | zero =>
      cases j with
      | zero => rfl
      | succ j =>
        exfalso
        simp at hi' hj'
        subst hi'
        rw [List.filterMap_cons_some hdi, List.nodup_cons] at h
        exact h.1 (List.mem_filterMap.2 ⟨oj, List.mem_of_getElem? hj', hdj⟩)
    | succ i =>
      cases j with
      | zero =>
        exfalso
        simp at hi' hj'
        subst hj'
        rw [List.filterMap_cons_some hdj, List.nodup_cons] at h
        exact h.1 (List.mem_filterMap.2 ⟨oi, List.mem_of_getElem? hi', hdi⟩)
      | succ j =>
        have hn : (l.filterMap (·.dst)).Nodup := by
          cases hod : o.dst with
          | none => rwa [List.filterMap_cons_none hod] at h
          | some d => rw [List.filterMap_cons_some hod, List.nodup_cons] at h; exact h.2
        have hij : i = j := ih hn (by simpa using hi') (by simpa using hj')
        rw [hij]

theorem lexFrame_size (vals : Nat → Value) : ∀ (l : List Oper) (k : Nat) (a : Act), (lexFrame vals l k a).tmps.size = a.tmps.size ∧ (lexFrame vals l k a).defers = a.defers
  | [], _, _ => ⟨rfl, rfl⟩
  | o :: l, k, a => by
    have := lexFrame_size vals l (k + 1) (a.put o.dst (vals k))
    cases hd : o.dst <;> simp [lexFrame, hd, Act.put] at this ⊢ <;> exact this
theorem lexFrame_no (vals : Nat → Value) : ∀ (l : List Oper) (k : Nat) (a : Act) (t : Nat), (∀ o ∈ l, o.dst ≠ some t) → (lexFrame vals l k a).tmps[t]? = a.tmps[t]?
  | [], _, _, _, _ => rfl
  | o :: l, k, a, t, h => by
    have h1 := lexFrame_no vals l (k + 1) (a.put o.dst (vals k)) t (fun o' ho' => h o' (List.mem_cons_of_mem _ ho'))
    have h2 := h o List.mem_cons_self
    rw [lexFrame, h1]
    cases hd : o.dst with
    | none => rfl
    | some d =>
      have hne : d ≠ t := fun e => h2 (by rw [hd, e])
      simp [Act.put, Array.getElem?_setIfInBounds_ne hne]
theorem lexFrame_at (vals : Nat → Value) : ∀ (l : List Oper) (k : Nat) (a : Act) (j : Nat) (o : Oper) (t : Nat), (l.filterMap (·.dst)).Nodup → l[j]? = some o → o.dst = some t → t < a.tmps.size → (lexFrame vals l k a).tmps[t]? = some (vals (k + j))
  | [], _, _, _, _, _, _, h, _, _ => by simp at h
  | o :: l, k, a, 0, o', t, hn, h, hd, ht => by
    simp at h
    subst h
    rw [List.filterMap_cons_some hd, List.nodup_cons] at hn
    rw [lexFrame, lexFrame_no vals l (k + 1) _ t (fun o' ho' hd' => hn.1 (List.mem_filterMap.2 ⟨o', ho', hd'⟩))]
    simp [Act.put, hd, ht]
  | o :: l, k, a, j + 1, o', t, hn, h, hd, ht => by
    have hn' : (l.filterMap (·.dst)).Nodup := by
      cases hod : o.dst with
      | none => rwa [List.filterMap_cons_none hod] at hn
      | some d => rw [List.filterMap_cons_some hod, List.nodup_cons] at hn; exact hn.2
    have := lexFrame_at vals l (k + 1) (a.put o.dst (vals k)) j o' t hn' (by simpa using h) hd (by cases hod : o.dst <;> simpa [Act.put] using ht)
    rw [lexFrame, this, show k + 1 + j = k + (j + 1) by omega]

theorem count_lt {p q : Nat → Bool} (hle : ∀ j, q j = true → p j = true) {i : Nat} (hp : p i = true) (hq : q i = false) : ∀ l : List Nat, i ∈ l → l.countP q + 1 ≤ l.countP p
  | x :: l, h => by
    have mono : ∀ l : List Nat, l.countP q ≤ l.countP p := fun l => List.countP_mono_left fun x _ hx => hle x hx
    rcases List.mem_cons.1 h with rfl | h'
    · rw [List.countP_cons_of_pos hp, List.countP_cons_of_neg (by simp [hq])]
      have := mono l
      omega
    · have ih := count_lt hle hp hq l h'
      by_cases hx : q x = true
      · rw [List.countP_cons_of_pos hx, List.countP_cons_of_pos (hle x hx)]; omega
      · rw [List.countP_cons_of_neg hx]
        have := List.countP_cons (p := p) (a := x) (l := l)
        omega

/-- What stands between two operations. -/
structure LinInv {Γ : Type} (ops : Array Oper) (D : Nat → List Nat) (R : Γ → World → Γ → World → Prop) (N : Nat → Γ → Prop) (G : Nat → List Value → Γ → World → Prop) (a0 : Act) (γ0 : Γ) (w0 : World) (listed : Array Bool) (a : Act) (w : World) (vals : Nat → Value) (γ : Γ) : Prop where
  size : listed.size = ops.size
  asize : a.tmps.size = a0.tmps.size
  defers : a.defers = a0.defers
  at_ : ∀ (j : Nat) (o : Oper) (t : Nat), ops[j]? = some o → listed.getD j false = true → o.dst = some t → a.tmps[t]? = some (vals j)
  no : ∀ t : Nat, (∀ (j : Nat) (o : Oper), ops[j]? = some o → listed.getD j false = true → o.dst ≠ some t) → a.tmps[t]? = a0.tmps[t]?
  rel : R γ0 w0 γ w
  down : ∀ (j : Nat) (o : Oper), ops[j]? = some o → listed.getD j false = true → ∀ k, k ∈ predsOf o → listed.getD k false = true
  open_ : ∀ j, j < ops.size → listed.getD j false = false → N j γ
  facts : ∀ j, j < ops.size → listed.getD j false = true → G j ((D j).map vals) γ w

theorem getD_both {listed : Array Bool} {j : Nat} (h : j < listed.size) : listed.getD j true = listed.getD j false := by simp [h]

theorem wp_region_lin {Γ : Type} {id : Nat} {a0 : Act} {w0 : World} (hm : P.follows .mixedOrders = true) (D : Nat → List Nat) (hB : linB ops D a0.tmps.size = true)
    (R : Γ → World → Γ → World → Prop) (hrefl : ∀ γ w, R γ w γ w) (htrans : ∀ γ w γ' w' γ'' w'', R γ w γ' w' → R γ' w' γ'' w'' → R γ w γ'' w'')
    (N : Nat → Γ → Prop) (G : Nat → List Value → Γ → World → Prop) (hst : ∀ i l γ w γ' w', R γ w γ' w' → G i l γ w → G i l γ' w') (γ0 : Γ) (hN : ∀ i, N i γ0)
    (hstep : ∀ i o, ops[i]? = some o → LinStep P ops D R N G a0 γ0 w0.drew i o)
    (hfin : ∀ vals γ w, R γ0 w0.drew γ w → (∀ i, i < ops.size → G i ((D i).map vals) γ w) → Q .normal (lexFrame vals ops.toList 0 a0) w) :
    (Code.region id ops true).wp P Q a0 w0 := by
  obtain ⟨hsel, hnd, hlt, hacyc, hD, hguard, hlook⟩ := linB_spec hB
  have main : ∀ (fuel : Nat) (listed : Array Bool) (a : Act) (w : World) (vals : Nat → Value) (γ : Γ), LinInv ops D R N G a0 γ0 w0.drew listed a w vals γ →
      (List.range ops.size).countP (fun i => !listed.getD i true) ≤ fuel → wpAny P .any ops Q fuel listed a w := by
    intro fuel
    have fin : ∀ (listed : Array Bool) (a : Act) (w : World) (vals : Nat → Value) (γ : Γ), LinInv ops D R N G a0 γ0 w0.drew listed a w vals γ → (∀ j, j < ops.size → listed.getD j false = true) → Q .normal a w := by
      intro listed a w vals γ I hall
      have ha : a = lexFrame vals ops.toList 0 a0 := by
        have hs := lexFrame_size vals ops.toList 0 a0
        have ht : a.tmps = (lexFrame vals ops.toList 0 a0).tmps := by
          apply Array.ext_getElem?
          intro t
          by_cases hex : ∃ (j : Nat) (o : Oper), ops[j]? = some o ∧ o.dst = some t
          · obtain ⟨j, o, hj, hd⟩ := hex
            have hjl : j < ops.size := (Array.getElem?_eq_some_iff.1 hj).1
            rw [I.at_ j o t hj (hall j hjl) hd, lexFrame_at vals ops.toList 0 a0 j o t hnd (by simpa using hj) hd (hlt j o t hj hd), Nat.zero_add]
          · have hno : ∀ (j : Nat) (o : Oper), ops[j]? = some o → o.dst ≠ some t := fun j o hj hd => hex ⟨j, o, hj, hd⟩
            rw [I.no t (fun j o hj _ => hno j o hj), lexFrame_no vals ops.toList 0 a0 t (fun o ho => by
              obtain ⟨j, hj⟩ := List.mem_iff_getElem?.1 ho
              exact hno j o (by simpa using hj))]
        have hdf : a.defers = (lexFrame vals ops.toList 0 a0).defers := by rw [I.defers, hs.2]
        cases a
        cases hl : lexFrame vals ops.toList 0 a0
        rw [hl] at ht hdf
        simp at ht hdf
        rw [ht, hdf]
      rw [ha]
      exact hfin vals γ w I.rel fun i hi => I.facts i hi (hall i hi)
    have ready_nil : ∀ (listed : Array Bool), listed.size = ops.size → Region.ready .any ops listed = [] → ∀ j, j < ops.size → listed.getD j false = true := by
      intro listed hsz hr j
      induction j using Nat.strongRecOn with
      | _ j ih =>
        intro hj
        cases hl : listed.getD j false with
        | true => rfl
        | false =>
          exfalso
          have hmem : j ∈ Region.ready .any ops listed := by
            refine mem_ready.2 ⟨by rw [getD_both (by omega)]; exact hl, ops[j], by simp [hj], fun e he hb => ?_⟩
            have hp : e.on ∈ predsOf ops[j] := List.mem_map.2 ⟨e, List.mem_filter.2 ⟨by simpa using he, hb⟩, rfl⟩
            have hlt' := hacyc j ops[j] e.on (by simp [hj]) hp
            exact ih e.on hlt' (by omega)
          rw [hr] at hmem
          cases hmem
    induction fuel with
    | zero =>
      intro listed a w vals γ I hc
      have hall : ∀ j, j < ops.size → listed.getD j false = true := by
        intro j hj
        have h0 : (List.range ops.size).countP (fun i => !listed.getD i true) = 0 := by omega
        rw [List.countP_eq_zero] at h0
        have := h0 j (List.mem_range.2 hj)
        rw [getD_both (by rw [I.size]; exact hj)] at this
        simpa using this
      refine ⟨?_, fin listed a w vals γ I hall⟩
      cases hr : Region.ready .any ops listed with
      | nil => rfl
      | cons i l =>
        exfalso
        have hi : i ∈ Region.ready .any ops listed := by rw [hr]; exact List.mem_cons_self
        obtain ⟨h0, o, ho, _⟩ := mem_ready.1 hi
        have hil : i < ops.size := (Array.getElem?_eq_some_iff.1 ho).1
        rw [getD_both (by rw [I.size]; exact hil), hall i hil] at h0
        cases h0
    | succ fuel ih =>
      intro listed a w vals γ I hc
      refine ⟨fun hr => fin listed a w vals γ I (ready_nil listed I.size hr), fun i hi => ?_⟩
      obtain ⟨h0, o, ho, hpre⟩ := mem_ready.1 hi
      have hil : i < ops.size := (Array.getElem?_eq_some_iff.1 ho).1
      have hisz : i < listed.size := by rw [I.size]; exact hil
      have hun : listed.getD i false = false := by rw [← getD_both hisz]; exact h0
      have hpl : ∀ j, j ∈ predsOf o → listed.getD j false = true := by
        intro j hj
        obtain ⟨e, he, rfl⟩ := List.mem_map.1 hj
        obtain ⟨he1, he2⟩ := List.mem_filter.1 he
        exact hpre e (by simpa using he1) he2
      have hslot : ∀ t, t ∈ o.looksAt ops → a.tmps.getD t undef = linLook ops o a0 vals t := by
        intro t ht
        unfold linLook
        cases hf : (predsOf o).find? (fun j => (ops[j]?).bind (·.dst) == some t) with
        | some j =>
          have hj := List.mem_of_find?_eq_some hf
          have hd := List.find?_some hf
          simp only [beq_iff_eq] at hd
          cases hoj : ops[j]? with
          | none => simp [hoj] at hd
          | some oj =>
            simp only [hoj, Option.bind_some] at hd
            simp [I.at_ j oj t hoj (hpl j hj) hd]
        | none =>
          rw [List.find?_eq_none] at hf
          have : a.tmps[t]? = a0.tmps[t]? := I.no t (fun j oj hj hjl hd => by
            rcases hlook i o t j oj ho ht hj hd with rfl | h | h
            · rw [hun] at hjl; cases hjl
            · exact hf j h (by simp [hj, hd])
            · have := I.down j oj hj hjl i h
              rw [hun] at this; cases this)
          simp [this]
      have henv : execOp a.eval o = execOp (linEnv ops o a0 vals) o := by
        refine execOp_congr o (fun cs b => Region.noSelect_spec hsel i o cs b ho) fun x hx => ?_
        cases x with
        | tmp t => exact hslot t (List.mem_append_left _ (List.mem_filterMap.2 ⟨.tmp t, by simpa using hx, rfl⟩))
        | _ => rfl
      have hwant : Region.wanted o (yielded ops a.tmps) = linWanted o vals := by
        unfold Region.wanted linWanted
        cases hg : o.guard with
        | none => rfl
        | some gb =>
          obtain ⟨g, b⟩ := gb
          obtain ⟨hgp, og, t, hog, hdt⟩ := hguard i o g b ho hg
          have h1 := I.at_ g og t hog (hpl g hgp) hdt
          simp only [yielded, hog, Option.bind_some, hdt, h1]
          congr 1
          unfold boolOf
          split <;> simp_all
      have hpf : ∀ j, j ∈ predsOf o → G j ((D j).map vals) γ w := fun j hj => I.facts j (by have := hacyc i o j ho hj; omega) (hpl j hj)
      have hS := hstep i o ho vals γ w I.rel (I.open_ i hil hun) hpf
      have next : ∀ (v : Value) (γ' : Γ) (w' : World), R γ w γ' w' → (∀ j, j ≠ i → j ∉ predsOf o → N j γ → N j γ') → G i ((D i).map (setV vals i v)) γ' w' → wpAny P .any ops Q fuel (listed.setIfInBounds i true) (a.put o.dst v) w' := by
        intro v γ' w' hR hN' hG
        have hget : ∀ j, j ≠ i → (listed.setIfInBounds i true).getD j false = listed.getD j false := fun j hj => getD_set_ne false (Ne.symm hj)
        have hgeti : (listed.setIfInBounds i true).getD i false = true := by simp [hisz]
        refine ih _ _ _ (setV vals i v) γ' ⟨by simp [I.size], ?_, ?_, ?_, ?_, htrans _ _ _ _ _ _ I.rel hR, ?_, ?_, ?_⟩ ?_
        · cases hd : o.dst <;> simp [Act.put, I.asize]
        · cases hd : o.dst <;> simp [Act.put, I.defers]
        · intro j oj t hj hjl hd
          by_cases hji : j = i
          · subst hji
            obtain rfl : o = oj := Option.some.inj (ho.symm.trans hj)
            have hlt' : t < a.tmps.size := by rw [I.asize]; exact hlt j o t ho hd
            simp [Act.put, hd, hlt', setV]
          · rw [hget j hji] at hjl
            have h1 := I.at_ j oj t hj hjl hd
            simp only [setV, if_neg hji]
            cases hod : o.dst with
            | none => exact h1
            | some d =>
              have hne : d ≠ t := fun e => hji (dst_inj hnd hj ho hd (by rw [hod, e]))
              simp only [Act.put]
              rw [Array.getElem?_setIfInBounds_ne hne]
              exact h1
        · intro t hno
          have hdt : o.dst ≠ some t := hno i o ho hgeti
          have h1 := I.no t (fun j oj hj hjl => hno j oj hj (by
            by_cases hji : j = i
            · subst hji; exact hgeti
            · rw [hget j hji]; exact hjl))
          cases hod : o.dst with
          | none => exact h1
          | some d =>
            have hne : d ≠ t := fun e => hdt (by rw [hod, e])
            simp only [Act.put]
            rw [Array.getElem?_setIfInBounds_ne hne]
            exact h1
        · intro j oj hj hjl k hk
          by_cases hji : j = i
          · subst hji
            obtain rfl : o = oj := Option.some.inj (ho.symm.trans hj)
            exact getD_set_true (hpl k hk)
          · rw [hget j hji] at hjl
            exact getD_set_true (I.down j oj hj hjl k hk)
        · intro j hj hjl
          by_cases hji : j = i
          · subst hji; rw [hgeti] at hjl; cases hjl
          · rw [hget j hji] at hjl
            exact hN' j hji (fun hp => by rw [hpl j hp] at hjl; cases hjl) (I.open_ j hj hjl)
        · intro j hj hjl
          by_cases hji : j = i
          · subst hji; exact hG
          · rw [hget j hji] at hjl
            have h1 := hst _ _ _ _ _ _ hR (I.facts j hj hjl)
            have hmap : (D j).map (setV vals i v) = (D j).map vals := by
              apply List.map_congr_left
              intro k hk
              have hki : k ≠ i := by
                intro e
                subst e
                rcases hD j ops[j] k (by simp [hj]) hk with h | h
                · exact hji h.symm
                · have := I.down j ops[j] (by simp [hj]) hjl k h
                  rw [hun] at this; cases this
              simp [setV, hki]
            rw [hmap]
            exact h1
        · have := count_lt (p := fun k => !listed.getD k true) (q := fun k => !(listed.setIfInBounds i true).getD k true) (i := i) (fun k hk => by
            by_cases hki : k = i
            · subst hki; simp [hisz] at hk
            · rw [getD_set_ne true (Ne.symm hki)] at hk; exact hk) (by simpa using h0) (by simp [hisz]) (List.range ops.size) (List.mem_range.2 hil)
          omega
      unfold wpOp
      simp only [ho]
      rw [hwant]
      by_cases hw : linWanted o vals = true
      · rw [if_pos hw] at hS ⊢
        refine .inl ?_
        unfold Oper.wp
        rw [henv]
        generalize (execOp (linEnv ops o a0 vals) o).run P w = r at hS
        cases r with
        | ok n w' =>
          cases n <;> simp only [linUpon] at hS <;> simp only [Oper.upon]
          case value v => obtain ⟨γ', h1, hn, h2⟩ := hS; exact next v γ' w' h1 hn h2
          case skip => obtain ⟨γ', h1, hn, h2⟩ := hS; exact next undef γ' w' h1 hn h2
          case enter f args => exact hS.mono fun e w'' ⟨v, he, γ', h1, hn, h2⟩ => by subst he; exact next v γ' w'' h1 hn h2
        | halt x w' => simp only [linUpon] at hS
      · rw [if_neg hw] at hS ⊢
        exact next undef γ w (hrefl _ _) (fun _ _ _ h => h) hS
  refine wp_region_any hm (main ops.size _ a0 w0.drew (fun _ => undef) γ0 ⟨by simp, rfl, rfl, ?_, fun _ _ => rfl, hrefl _ _, ?_, fun j _ _ => hN j, ?_⟩ ?_)
  · intro j o t hj hl _
    have : j < ops.size := (Array.getElem?_eq_some_iff.1 hj).1
    simp [this] at hl
  · intro j o hj hl
    have : j < ops.size := (Array.getElem?_eq_some_iff.1 hj).1
    simp [this] at hl
  · intro j hj hl
    simp [hj] at hl
  · have := List.countP_le_length (p := fun i => !(Array.replicate ops.size false).getD i true) (l := List.range ops.size)
    simpa using this
end
end Go.Proofs.YtcmmkeiiapbgcaaGreatDoor
