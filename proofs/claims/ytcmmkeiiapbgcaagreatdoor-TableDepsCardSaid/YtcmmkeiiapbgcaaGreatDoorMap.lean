/- Maps as lists of pairs: lookup, update and length, for keys that are ints, texts or pairs of ints. No conditions. -/
import Derived.Test.YtcmmkeiiapbgcaaGreatDoorTab2
import Derived.MapKept
import Derived.Maps.Keyed
namespace Go.Proofs.YtcmmkeiiapbgcaaGreatDoor
open Go Go.RowKit Go.MapKept

def fnd {K : Type} [DecidableEq K] (x : K) : List (K × Value) → Nat → Option (Nat × Value)
  | [], _ => none
  | p :: l, i => if p.1 = x then some (i, p.2) else fnd x l (i + 1)
theorem fnd_some {K : Type} [DecidableEq K] {x : K} {l : List (K × Value)} {j i : Nat} {v : Value} (h : fnd x l j = some (i, v)) : j ≤ i ∧ l[i - j]? = some (x, v) := by
  induction l generalizing j with
  | nil => simp [fnd] at h
  | cons p l ih =>
    unfold fnd at h
    split at h
    · rename_i hp
      simp at h
      obtain ⟨rfl, rfl⟩ := h
      exact ⟨Nat.le_refl _, by simp [← hp]⟩
    · obtain ⟨h1, h2⟩ := ih h
      refine ⟨by omega, ?_⟩
      rw [show i - j = (i - (j + 1)) + 1 by omega, List.getElem?_cons_succ]
      exact h2
theorem fnd_no {K : Type} [DecidableEq K] {x : K} {l : List (K × Value)} {j : Nat} (h : fnd x l j = none) : ∀ p ∈ l, p.1 ≠ x := by
  induction l generalizing j with
  | nil => simp
  | cons p l ih =>
    unfold fnd at h
    split at h
    · cases h
    · rename_i hp
      intro q hq
      rcases List.mem_cons.1 hq with rfl | hq
      · exact hp
      · exact ih h q hq
def mget {K : Type} [DecidableEq K] (m : List (K × Value)) (k : K) : Option Value := (fnd k m 0).map (·.2)
def mput {K : Type} [DecidableEq K] (m : List (K × Value)) (k : K) (v : Value) : List (K × Value) :=
  match fnd k m 0 with
  | some (i, _) => m.set i (k, v)
  | none => m ++ [(k, v)]
/-- What keys of a type do, as values enc. -/
structure KL (P : Program) (kt : TypeId) {K : Type} [DecidableEq K] (enc : K → Value) : Prop where
  check : ∀ (w : World) (em : Bool) (x : K), (Instr.checkKey em 10000 kt (enc x)).run P w = .ok () w
  find : ∀ (w : World) (x : K) (l : List (K × Value)) (es : List MapEntry), es.map (fun e => (e.key, e.val)) = l.map (fun p => (enc p.1, p.2)) → (Instr.findKey kt (enc x) es).run P w = .ok (fnd x l 0) w
  stays : ∀ (w : World) (x : K), (Instr.keyThatStays (enc x) (enc x)).run P w = .ok (enc x) w
  inj : ∀ x y : K, enc x = enc y → x = y
/-- Block b is a map with these pairs, the eldest first. -/
def MapIs {K : Type} (w : World) (b : Nat) (enc : K → Value) (m : List (K × Value)) : Prop :=
  ∃ es clock, w.heap[b]? = some (.map es clock) ∧ es.toList.map (fun e => (e.key, e.val)) = m.map (fun p => (enc p.1, p.2)) ∧ Stamped es clock
theorem go_map {P : Program} {w : World} {b : Nat} {es : Array MapEntry} {cl : Nat} (h : w.heap[b]? = some (.map es cl)) : (getObj b).run P w = .ok (.map es cl) w := by simp [getObj, Sem.run, h]
theorem set_map {P : Program} {w : World} {b : Nat} {es : Array MapEntry} {cl : Nat} (o : Obj) (h : w.heap[b]? = some (.map es cl)) : (setObj b o).run P w = .ok () { w with heap := w.heap.setIfInBounds b o } := by simp [setObj, Sem.run, h]
section
variable {P : Program} {K : Type} {enc : K → Value} {w w' : World} {b : Nat} {m : List (K × Value)}
theorem MapIs.keep (h : MapIs w b enc m) (hk : Kept (fun i => i = b) w w') : MapIs w' b enc m := by
  obtain ⟨es, cl, h1, h2, hst⟩ := h
  refine ⟨es, cl, ?_, h2, hst⟩
  have hlt : b < w.heap.size := by
    rcases Nat.lt_or_ge b w.heap.size with h3 | h3
    · exact h3
    · rw [Array.getElem?_eq_none h3] at h1; cases h1
  rw [hk.2 b rfl hlt]; exact h1
theorem MapIs.lt (h : MapIs w b enc m) : b < w.heap.size := by
  obtain ⟨es, cl, h1, _, _⟩ := h
  rcases Nat.lt_or_ge b w.heap.size with h3 | h3
  · exact h3
  · rw [Array.getElem?_eq_none h3] at h1; cases h1
theorem MapIs.made (w : World) (enc : K → Value) : MapIs (w.alloc (.map #[] 0)) w.heap.size enc [] := ⟨#[], 0, heap_alloc_new w _, rfl, stamped_empty 0⟩
theorem MapIs.len (h : MapIs w b enc m) {t kt et : TypeId} (ht : P.underlying t = some (.map kt et)) (ty : TypeId) : (Builtin.len_ #[t] ty #[.map (some b)]).run P w = .ok (.int .i64 (m.length : Int)) w := by
  obtain ⟨es, cl, h1, h2, hst⟩ := h
  have hl : es.size = m.length := by
    have := congrArg List.length h2
    simpa using this
  simp [Builtin.len_, run_underlying ht, go_map h1, goInt, hl]
theorem MapIs.get [DecidableEq K] (h : MapIs w b enc m) {t kt et : TypeId} (ht : P.underlying t = some (.map kt et)) (kl : KL P kt enc) (z : Value) (hz : ∀ w : World, (zeroValue et).run P w = .ok z w) (x : K) :
    (Instr.lookup t (.map (some b)) (enc x) false).run P w = .ok ((mget m x).getD z) w := by
  obtain ⟨es, cl, h1, h2, hst⟩ := h
  have hf := kl.find w x m es.toList h2
  unfold mget
  cases hq : fnd x m 0 with
  | none => rw [hq] at hf; simp [Instr.lookup, run_underlying ht, go_map h1, kl.check, hf, hz]
  | some p => rw [hq] at hf; simp [Instr.lookup, run_underlying ht, go_map h1, kl.check, hf]
theorem MapIs.get2 [DecidableEq K] (h : MapIs w b enc m) {t kt et : TypeId} (ht : P.underlying t = some (.map kt et)) (kl : KL P kt enc) (z : Value) (hz : ∀ w : World, (zeroValue et).run P w = .ok z w) (x : K) :
    (Instr.lookup t (.map (some b)) (enc x) true).run P w = .ok (.tuple #[(mget m x).getD z, .bool (mget m x).isSome]) w := by
  obtain ⟨es, cl, h1, h2, hst⟩ := h
  have hf := kl.find w x m es.toList h2
  unfold mget
  cases hq : fnd x m 0 with
  | none => rw [hq] at hf; simp [Instr.lookup, run_underlying ht, go_map h1, kl.check, hf, hz]
  | some p => rw [hq] at hf; simp [Instr.lookup, run_underlying ht, go_map h1, kl.check, hf]
theorem MapIs.put [DecidableEq K] (h : MapIs w b enc m) {t kt et : TypeId} (ht : P.underlying t = some (.map kt et)) (kl : KL P kt enc) (x : K) (v : Value) :
    ∃ w', (Instr.mapUpdate t (.map (some b)) (enc x) v).run P w = .ok () w' ∧ MapIs w' b enc (mput m x v) ∧ w.grownBy w' (some b) := by
  obtain ⟨es, cl, h1, h2, hst⟩ := h
  have hf := kl.find w x m es.toList h2
  have hlt : b < w.heap.size := by
    rcases Nat.lt_or_ge b w.heap.size with h3 | h3
    · exact h3
    · rw [Array.getElem?_eq_none h3] at h1; cases h1
  have hg : ∀ o : Obj, w.grownBy { w with heap := w.heap.setIfInBounds b o } (some b) := fun o =>
    ⟨rfl, rfl, rfl, by simp, fun k _ hk => by rw [Array.getElem?_setIfInBounds, if_neg (fun e => hk (by rw [e]))]⟩
  unfold mput
  cases hq : fnd x m 0 with
  | none =>
    rw [hq] at hf
    refine ⟨{ w with heap := w.heap.setIfInBounds b (.map (es.push { key := enc x, val := v, born := cl }) (cl + 1)) }, by simp [Instr.mapUpdate, run_underlying ht, go_map h1, kl.check, hf, set_map _ h1], ⟨es.push { key := enc x, val := v, born := cl }, cl + 1, by simp [hlt], by simp [h2], stamped_push hst (fun e he hk => ?_)⟩, hg _⟩
    have h5 : (e.key, e.val) ∈ es.toList.map (fun e => (e.key, e.val)) := List.mem_map_of_mem he
    rw [h2] at h5
    obtain ⟨p, hp, hpe⟩ := List.mem_map.1 h5
    injection hpe with hpe _
    exact fnd_no hq p hp (kl.inj _ _ (hpe.trans hk))
  | some p =>
    obtain ⟨i, u⟩ := p
    rw [hq] at hf
    obtain ⟨_, hi⟩ := fnd_some hq
    simp at hi
    have hes : (es.toList.map (fun e => (e.key, e.val)))[i]? = some (enc x, u) := by rw [h2]; simp [hi]
    have hil : i < es.size := by
      have := (List.getElem?_eq_some_iff.1 hes).1
      simpa using this
    have hek : es[i].key = enc x := by
      simp [List.getElem?_map, hil] at hes
      exact hes.1
    refine ⟨{ w with heap := w.heap.setIfInBounds b (.map (es.modify i fun e => { e with key := enc x, val := v }) cl) }, by simp [Instr.mapUpdate, run_underlying ht, go_map h1, kl.check, hf, set_map _ h1, hil, hek, kl.stays], ⟨es.modify i fun e => { e with key := enc x, val := v }, cl, by simp [hlt], ?_, stamped_modify hst i _ (fun _ _ => rfl) (fun e _ he => by
      rw [Array.getElem?_eq_getElem hil] at he
      injection he with he
      show enc x = e.key
      rw [← he, hek])⟩, hg _⟩
    have : (es.modify i fun e => { e with key := enc x, val := v }).toList.map (fun e => (e.key, e.val)) = (es.toList.map (fun e => (e.key, e.val))).set i (enc x, v) := by
      apply List.ext_getElem?
      intro j
      simp only [List.getElem?_map, Array.getElem?_toList, Array.getElem?_modify, List.getElem?_set, List.length_map, Array.length_toList]
      by_cases hij : i = j
      · subst hij; simp [hil]
      · simp [hij]
    rw [this, h2, List.map_set]
end

theorem ba_beq (a b : ByteArray) : (a == b) = decide (a = b) := by
  cases a with | mk x => cases b with | mk y =>
  show (x == y) = _
  by_cases h : x = y
  · subst h; simp
  · simp [h]
theorem klInt {P : Program} {kt : TypeId} (hk : P.underlying kt = some (.int .i64)) : KL P kt (fun n : Int => Value.int .i64 n) where
  check := fun w em x => by
    have h : ∀ n, (Instr.checkKey em (n + 1) kt (Value.int .i64 x)).run P w = .ok () w := fun n => by simp [Instr.checkKey, run_underlying hk]
    exact h 9999
  find := fun w x l es h => by
    have hn : ∀ (es : List MapEntry) (l : List (Int × Value)) (i : Nat), es.map (fun e => (e.key, e.val)) = l.map (fun p => (Value.int .i64 p.1, p.2)) → Instr.findNow (.int .i64) (.int .i64 x) es i = some (fnd x l i) := by
      intro es
      induction es with
      | nil => intro l i h; cases l <;> simp at h; rfl
      | cons e es ih =>
        intro l i h
        cases l with
        | nil => simp at h
        | cons p l =>
          simp at h
          obtain ⟨⟨h1, h2⟩, h3⟩ := h
          unfold Instr.findNow fnd
          rw [h1]
          by_cases hx : p.1 = x
          · have hs : Instr.sameNow (.int .i64) (.int .i64 x) (.int .i64 p.1) = some true := by simp [Instr.sameNow, hx]
            rw [hs, if_pos hx, h2]
          · have hx' : ¬ x = p.1 := fun e => hx e.symm
            have hs : Instr.sameNow (.int .i64) (.int .i64 x) (.int .i64 p.1) = some false := by simp [Instr.sameNow, hx']
            rw [hs, if_neg hx]
            exact ih l (i + 1) (by simpa using h3)
    simp [Instr.findKey, run_underlying hk, hn es l 0 h]
  stays := fun w x => by simp [Instr.keyThatStays, Instr.sameBits]
  inj := fun x y h => by injection h
theorem klStr {P : Program} {kt : TypeId} (hk : P.underlying kt = some .string) : KL P kt (fun s : ByteArray => Value.string s) where
  check := fun w em x => by
    have h : ∀ n, (Instr.checkKey em (n + 1) kt (Value.string x)).run P w = .ok () w := fun n => by simp [Instr.checkKey, run_underlying hk]
    exact h 9999
  find := fun w x l es h => by
    have hn : ∀ (es : List MapEntry) (l : List (ByteArray × Value)) (i : Nat), es.map (fun e => (e.key, e.val)) = l.map (fun p => (Value.string p.1, p.2)) → Instr.findNow .string (.string x) es i = some (fnd x l i) := by
      intro es
      induction es with
      | nil => intro l i h; cases l <;> simp at h; rfl
      | cons e es ih =>
        intro l i h
        cases l with
        | nil => simp at h
        | cons p l =>
          simp at h
          obtain ⟨⟨h1, h2⟩, h3⟩ := h
          unfold Instr.findNow fnd
          rw [h1]
          by_cases hx : p.1 = x
          · have hs : Instr.sameNow .string (.string x) (.string p.1) = some true := by simp [Instr.sameNow, ba_beq, hx]
            rw [hs, if_pos hx, h2]
          · have hx' : ¬ x = p.1 := fun e => hx e.symm
            have hs : Instr.sameNow .string (.string x) (.string p.1) = some false := by simp [Instr.sameNow, ba_beq, hx']
            rw [hs, if_neg hx]
            exact ih l (i + 1) (by simpa using h3)
    simp [Instr.findKey, run_underlying hk, hn es l 0 h]
  stays := fun w x => by simp [Instr.keyThatStays, Instr.sameBits, ba_beq]
  inj := fun x y h => by injection h

theorem pair_equal {P : Program} {kt it : TypeId} (hk : P.underlying kt = some (.array 2 it)) (hi : P.underlying it = some (.int .i64)) (hs : ∀ w : World, (sizeOf it).run P w = .ok 1 w) (w : World) (a b c d : Int) :
    (Op.equal kt (.agg #[.int .i64 a, .int .i64 b]) (.agg #[.int .i64 c, .int .i64 d])).run P w = .ok (decide ((a, b) = (c, d))) w := by
  have hint : ∀ (n : Nat) (x y : Int), (Op.equalIn (n + 1) it (.int .i64 x) (.int .i64 y)).run P w = .ok (x == y) w := fun n x y => by simp [Op.equalIn, run_underlying hi]
  have hp : ∀ (x y : Int) (i : Nat) (v : Value), (#[Value.int .i64 x, .int .i64 y])[i]? = some v → (part it #[.int .i64 x, .int .i64 y] i).run P w = .ok v w := fun x y i v hv => by simp [part, isAgg, run_underlying hi, hv]
  have h : ∀ n : Nat, (Op.equalIn (n + 2) kt (.agg #[.int .i64 a, .int .i64 b]) (.agg #[.int .i64 c, .int .i64 d])).run P w = .ok (decide ((a, b) = (c, d))) w := by
    intro n
    rw [Op.equalIn]
    simp only [Sem.run_bind, run_underlying hk, Result.andThen_ok, hs, Std.Legacy.Range.forIn_eq_forIn_range', Std.Legacy.Range.size, Nat.sub_zero, Nat.add_sub_cancel, Nat.div_one, List.range'_succ, List.range'_zero, List.forIn_cons, List.forIn_nil]
    simp only [Nat.zero_mul, Nat.zero_add, Nat.one_mul, hp a b 0 _ rfl, hp c d 0 _ rfl, hp a b 1 _ rfl, hp c d 1 _ rfl, hint, Result.andThen_ok, Sem.run_bind]
    by_cases h1 : a = c
    · subst h1
      by_cases h2 : b = d
      · subst h2
        simp [hint, hp a b 1 _ rfl]
      · simp [hint, hp a b 1 _ rfl, hp a d 1 _ rfl, h2]
    · simp [hint, h1]
  exact h 9998
theorem klPair {P : Program} {kt it : TypeId} (hk : P.underlying kt = some (.array 2 it)) (hi : P.underlying it = some (.int .i64)) (hs : ∀ w : World, (sizeOf it).run P w = .ok 1 w) :
    KL P kt (fun p : Int × Int => Value.agg #[.int .i64 p.1, .int .i64 p.2]) where
  check := fun w em x => by
    have hp : ∀ (x y : Int) (i : Nat) (v : Value), (#[Value.int .i64 x, .int .i64 y])[i]? = some v → (part it #[.int .i64 x, .int .i64 y] i).run P w = .ok v w := fun x y i v hv => by simp [part, isAgg, run_underlying hi, hv]
    have hc : ∀ (n : Nat) (y : Int), (Instr.checkKey em (n + 1) it (.int .i64 y)).run P w = .ok () w := fun n y => by simp [Instr.checkKey, run_underlying hi]
    have h : ∀ n, (Instr.checkKey em (n + 2) kt (Value.agg #[.int .i64 x.1, .int .i64 x.2])).run P w = .ok () w := fun n => by
      rw [Instr.checkKey]
      simp only [Sem.run_bind, run_underlying hk, Result.andThen_ok, hs, Std.Legacy.Range.forIn_eq_forIn_range', Std.Legacy.Range.size, Nat.sub_zero, Nat.add_sub_cancel, Nat.div_one, List.range'_succ, List.range'_zero, List.forIn_cons, List.forIn_nil]
      simp [hs, hp x.1 x.2 0 _ rfl, hp x.1 x.2 1 _ rfl, hc]
    exact h 9998
  find := fun w x l es h => by
    have ha : ∀ (es : List MapEntry) (l : List ((Int × Int) × Value)) (i : Nat), es.map (fun e => (e.key, e.val)) = l.map (fun p => (Value.agg #[.int .i64 p.1.1, .int .i64 p.1.2], p.2)) → (Instr.findAsking kt (.agg #[.int .i64 x.1, .int .i64 x.2]) es i).run P w = .ok (fnd x l i) w := by
      intro es
      induction es with
      | nil => intro l i h; cases l <;> simp at h; simp [Instr.findAsking, fnd]
      | cons e es ih =>
        intro l i h
        cases l with
        | nil => simp at h
        | cons p l =>
          simp at h
          obtain ⟨⟨h1, h2⟩, h3⟩ := h
          unfold Instr.findAsking fnd
          rw [h1]
          simp only [Sem.run_bind, pair_equal hk hi hs w x.1 x.2 p.1.1 p.1.2, Result.andThen_ok]
          by_cases hx : p.1 = x
          · rw [if_pos hx, ← hx, decide_eq_true rfl]
            simp [h2]
          · rw [if_neg hx, decide_eq_false (fun e => hx e.symm)]
            simp only [Bool.false_eq_true, if_false]
            exact ih l (i + 1) (by simpa using h3)
    cases es with
    | nil =>
      cases l <;> simp at h
      simp [Instr.findKey, run_underlying hk, Instr.findNow, fnd]
    | cons e es =>
      have hn : Instr.findNow (.array 2 it) (.agg #[.int .i64 x.1, .int .i64 x.2]) (e :: es) 0 = none := by simp [Instr.findNow, Instr.sameNow]
      simp only [Instr.findKey, Sem.run_bind, run_underlying hk, Result.andThen_ok, hn]
      exact ha (e :: es) l 0 h
  stays := fun w x => by
    have h : ∀ n, Instr.sameBits (n + 1) (.agg #[.int .i64 x.1, .int .i64 x.2]) (.agg #[.int .i64 x.1, .int .i64 x.2]) = true := fun n => by simp [Instr.sameBits]
    unfold Instr.keyThatStays
    rw [h 9999]
    simp
  inj := fun x y h => by
    injection h with h
    injection h with h
    simp at h
    exact Prod.ext h.1 h.2
end Go.Proofs.YtcmmkeiiapbgcaaGreatDoor
