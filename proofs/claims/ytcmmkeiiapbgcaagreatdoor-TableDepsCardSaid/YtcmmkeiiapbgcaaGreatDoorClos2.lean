/- The program's table.Closure: the sorted list of the least set that contains the columns and is closed under the dependencies. Conditions: the arguments read as data; there are at most 4294967296 of them together. -/
import Derived.Test.YtcmmkeiiapbgcaaGreatDoorClos
namespace Go.Proofs.YtcmmkeiiapbgcaaGreatDoor
open Go Go.RowKit

theorem nodup_len {α : Type} [DecidableEq α] : ∀ {l m : List α}, l.Nodup → (∀ x ∈ l, x ∈ m) → l.length ≤ m.length
  | [], _, _, _ => Nat.zero_le _
  | x :: l, m, hn, hs => by
    have hx : x ∈ m := hs x (List.mem_cons_self)
    have h1 := List.nodup_cons.1 hn
    have := nodup_len (l := l) (m := m.erase x) h1.2 (fun y hy => by
      have hne : y ≠ x := fun e => h1.1 (e ▸ hy)
      exact (List.mem_erase_of_ne hne).2 (hs y (List.mem_cons_of_mem _ hy)))
    rw [List.length_erase_of_mem hx] at this
    have hp : 0 < m.length := List.length_pos_of_mem hx
    simp
    omega
/-- What the set is while it is being closed. -/
structure Part (l : List Dep) (frm ks : List ByteArray) : Prop where
  nodup : ks.Nodup
  base : ∀ x ∈ frm, x ∈ ks
  least : ∀ T : ByteArray → Prop, (∀ x ∈ frm, T x) → (∀ d ∈ l, (∀ x ∈ d.frm, T x) → T d.to) → ∀ x ∈ ks, T x
theorem Part.len {l : List Dep} {frm ks : List ByteArray} (h : Part l frm ks) : ks.length ≤ frm.length + l.length := by
  have := nodup_len h.nodup (m := frm ++ l.map Dep.to) (h.least (fun x => x ∈ frm ++ l.map Dep.to) (fun x hx => List.mem_append_left _ hx) (fun d hd _ => List.mem_append_right _ (List.mem_map_of_mem hd)))
  simpa using this
theorem Part.add {l : List Dep} {frm ks : List ByteArray} (h : Part l frm ks) {d : Dep} (hd : d ∈ l) (hf : ∀ x ∈ d.frm, x ∈ ks) (hx : d.to ∉ ks) : Part l frm (ks ++ [d.to]) := by
  refine ⟨?_, fun x hx => List.mem_append_left _ (h.base x hx), fun T h1 h2 x hx => ?_⟩
  · rw [List.nodup_append]
    refine ⟨h.nodup, by simp, ?_⟩
    intro a ha b hb
    simp at hb
    subst hb
    exact fun e => hx (e ▸ ha)
  · rcases List.mem_append.1 hx with hx | hx
    · exact h.least T h1 h2 x hx
    · simp at hx
      subst hx
      exact h2 d hd (fun y hy => h.least T h1 h2 y (hf y hy))
theorem any_mem {l ks : List ByteArray} : (l.any fun x => !memB ks x) = false ↔ ∀ x ∈ l, x ∈ ks := by
  rw [List.any_eq_false]
  constructor
  · intro h x hx
    have := h x hx
    rw [← memB_iff]
    simpa using this
  · intro h x hx
    have := (memB_iff ks x).2 (h x hx)
    simp [this]
def RetC (w : World) (l : List Dep) (frm : List ByteArray) (e : Ending) (w' : World) : Prop := ∃ ks, IsClosure l frm ks ∧ RetSs w (sortS ks) e w'

set_option maxRecDepth 100000 in
set_option maxHeartbeats 1000000 in
theorem table_Closure (l : List Dep) (frm : List ByteArray) (A B : Option Addr) (ca cb : Nat) (w : World) (S T : Nat → Prop) (hA : RDeps w S A l) (hB : Strs w T B frm) (hsm : frm.length + l.length ≤ 4294967296) :
    Calls Tryz.prog 25 #[.slice A l.length ca, .slice B frm.length cb] w (RetC w l frm) := by
  have hal := hA.1
  have hbl := hB.2.1
  have HA := Lib.hid hA
  have HB := Lib.hid hB
  clear hA hB
  have hmm := @run_makeMap Tryz.prog
  go_enter Tryz.func25, Tryz.ntmps25
  go_wp2
  go_step3
  go_wp2
  clear hmm
  have HBX := Lib.hid (Blk.new (w.alloc (.map #[] 0)) 90 #[.map (some w.heap.size)])
  have HSET := Lib.hid (show SetIs ((w.alloc (.map #[] 0)).alloc (.cells #[.map (some w.heap.size)] 90)) w.heap.size [] from (MapIs.made w _).keep (Kept.alloc _ _ _))
  go_loopw [15] (fun i wr => ∃ (k : Nat) (ks : List ByteArray), k ≤ frm.length ∧ i = .int .i64 k ∧ Ext w wr ∧ w.heap.size + 1 < wr.heap.size ∧ wr.cell? ⟨w.heap.size + 1, 0, none⟩ = some (.map (some w.heap.size)) ∧ SetIs wr w.heap.size ks ∧
      ks.Nodup ∧ (∀ j (h : j < frm.length), j < k → frm[j] ∈ ks) ∧ (∀ x ∈ ks, x ∈ frm)) (fun i _ => frm.length - (intOf i).toNat)
  case atStart => exact ⟨0, [], Nat.zero_le _, rfl, ((Ext.refl w).alloc _).alloc _, by simp, by simp, HSET.out, by simp, by intros; omega, by simp⟩
  case round =>
    obtain ⟨k, ks, hk, rfl, hext, hsz, hbox, hset, h1, h2, h3⟩ := hrel
    have HE := Lib.hid hext
    have HS := Lib.hid hset
    have H1 := Lib.hid h1
    have H2 := Lib.hid h2
    have H3 := Lib.hid h3
    clear hset h1 h2 h3
    by_cases hlt : k < frm.length
    · obtain ⟨b1, o1, rfl, z1, c1⟩ := (HB.out.keep (hext.kept T)).at_ hlt
      obtain ⟨w', ks', hup, hset', hg', hks⟩ := HS.out.put frm[k]
      have HS' := Lib.hid hset'
      have HG' := Lib.hid hg'
      have HKS := Lib.hid hks
      have HBX2 := Lib.hid hbox
      clear hset' hg' hks hext
      go_wp2
      go_roundw
      case rel =>
        refine ⟨k + 1, ks', by omega, by go_num, HE.out.grown HG'.out (fun b hb => by injection hb with hb; omega), by have := HG'.out.size; omega, ?_, HS'.out, ?_, fun j h hj => ?_, fun x hx => ?_⟩
        · rw [World.cell?_of_block (HG'.out.block (w.heap.size + 1) hsz (fun e => by injection e with e; omega))]
          exact HBX2.out
        · rcases HKS.out with ⟨_, rfl⟩ | ⟨hn, rfl⟩
          · exact H1.out
          · rw [List.nodup_append]
            refine ⟨H1.out, by simp, ?_⟩
            intro a ha b hb
            simp at hb
            subst hb
            exact fun e => hn (e ▸ ha)
        · rcases HKS.out with ⟨hm, rfl⟩ | ⟨hn, rfl⟩
          · by_cases hjk : j = k
            · subst hjk; exact hm
            · exact H2.out j h (by omega)
          · by_cases hjk : j = k
            · subst hjk; simp
            · exact List.mem_append_left _ (H2.out j h (by omega))
        · rcases HKS.out with ⟨hm, rfl⟩ | ⟨hn, rfl⟩
          · exact H3.out x hx
          · rcases List.mem_append.1 hx with hx | hx
            · exact H3.out x hx
            · simp at hx
              subst hx
              exact List.getElem_mem hlt
      case measure => simp [intOf]; omega
    · have hpart : Part l frm ks := ⟨H1.out, fun x hx => by
        obtain ⟨i, hi, rfl⟩ := List.mem_iff_getElem.1 hx
        exact H2.out i hi (by omega), fun T h1 _ x hx => h1 x (H3.out x hx)⟩
      have HP := Lib.hid hpart
      have HBX2 := Lib.hid hbox
      have HSZ := Lib.hid hsz
      clear hpart hext hbox hsz
      go_wp2
      go_step3
      go_wp2
      go_loopg [9] (frm.length + l.length + 1) (fun gk _ wr => ∃ ks : List ByteArray, frm.length + l.length + 1 ≤ gk + ks.length ∧ Ext w wr ∧ w.heap.size + 1 < wr.heap.size ∧ wr.cell? ⟨w.heap.size + 1, 0, none⟩ = some (.map (some w.heap.size)) ∧ SetIs wr w.heap.size ks ∧ Part l frm ks)
      case atStart => exact ⟨ks, by omega, HE.out, HSZ.out, HBX2.out, HS.out, HP.out⟩
      case round =>
        clear HE HS H1 H2 H3 HP HBX2 HSZ HBX HSET hlt hk
        obtain ⟨ks0, hgk, hext, hsz, hbox, hset, hpart⟩ := hrel
        have hkl := hpart.len
        have HE := Lib.hid hext
        have HS := Lib.hid hset
        have HP := Lib.hid hpart
        have hlen := hset.len 3
        have HBX := Lib.hid hbox
        have HGK := Lib.hid hgk
        clear hset hpart hext hgk
        go_wp2
        clear hlen
        obtain ⟨wo, rfl⟩ : ∃ wo : World, wo = wr := ⟨_, rfl⟩
        clear hbox
        go_loopw [27] (fun i wi => ∃ (j : Nat) (ks : List ByteArray), j ≤ l.length ∧ i = .int .i64 j ∧ Ext w wi ∧ w.heap.size + 1 < wi.heap.size ∧ wi.cell? ⟨w.heap.size + 1, 0, none⟩ = some (.map (some w.heap.size)) ∧ SetIs wi w.heap.size ks ∧ Part l frm ks ∧ ks0.length ≤ ks.length ∧
            (ks.length = ks0.length → ks = ks0 ∧ ∀ m (h : m < l.length), m < j → (∀ x ∈ l[m].frm, x ∈ ks0) → l[m].to ∈ ks0)) (fun i _ => l.length - (intOf i).toNat)
        case atStart => exact ⟨0, ks0, Nat.zero_le _, rfl, HE.out, hsz, HBX.out, HS.out, HP.out, Nat.le_refl _, fun _ => ⟨rfl, by intros; omega⟩⟩
        case round =>
          obtain ⟨j, ks, hj, rfl, hexi, hszi, hbxi, hsti, hpti, hle, hsame⟩ := hrel
          have HEI := Lib.hid hexi
          have HSI := Lib.hid hsti
          have HPI := Lib.hid hpti
          have HSAME := Lib.hid hsame
          have HBI := Lib.hid hbxi
          have hkl2 := hpti.len
          clear hsti hpti hsame
          by_cases hlt : j < l.length
          · obtain ⟨b1, o1, B2, c2, rfl, z1, p0, p1, hcp, hts, hstr⟩ := (HA.out.keep (hexi.kept S)).at_ hlt
            have HSTR := Lib.hid hstr
            clear hstr hexi
            have HCF := Lib.hid (slices_ContainsFuncS l[j].frm B2 c2 (w.heap.size + 1) w.heap.size ks (wr.alloc (.cells #[.slice B2 l[j].frm.length c2, .string l[j].to] 52)) S (HSTR.out.keep (Kept.alloc _ _ _)) (((Ext.refl wr).alloc _).cell HBI.out) (HSI.out.keep (Kept.alloc _ _ _)))
            cases hany : (l[j].frm.any fun x => !memB ks x)
            · have hall := any_mem.1 hany
              have HALL := Lib.hid hall
              have HANY := Lib.hid hany
              clear hall hany
              obtain ⟨w', ks', hup, hset', hg', hks⟩ := (HSI.out.keep (Kept.alloc _ wr (.cells #[.slice B2 l[j].frm.length c2, .string l[j].to] 52)) : SetIs _ _ _).put l[j].to
              have HS' := Lib.hid hset'
              have HG' := Lib.hid hg'
              have HKS := Lib.hid hks
              clear hset' hg' hks
              go_wp2_with (go_at_call 68; refine HCF.out.mono ?_; rintro e1 w1 ⟨rfl, rfl⟩; rw [HANY.out])
              go_roundw
              case rel =>
                have hszw := HG'.out.size
                simp at hszw
                refine ⟨j + 1, ks', by omega, by go_num, (HEI.out.alloc _).grown HG'.out (fun b hb => by injection hb with hb; omega), by omega, ?_, HS'.out, ?_, ?_, ?_⟩
                · rw [World.cell?_of_block (HG'.out.block (w.heap.size + 1) (by simp; omega) (fun e => by injection e with e; omega))]
                  exact ((Ext.refl wr).alloc _).cell HBI.out
                · rcases HKS.out with ⟨_, rfl⟩ | ⟨hn, rfl⟩
                  · exact HPI.out
                  · exact HPI.out.add (List.getElem_mem hlt) HALL.out hn
                · rcases HKS.out with ⟨_, rfl⟩ | ⟨hn, rfl⟩
                  · exact hle
                  · simp; omega
                · intro hsl
                  rcases HKS.out with ⟨hm, rfl⟩ | ⟨hn, rfl⟩
                  · obtain ⟨e1, e2⟩ := HSAME.out hsl
                    refine ⟨e1, fun m h hm2 hf => ?_⟩
                    by_cases hmj : m = j
                    · subst hmj; rw [← e1]; exact hm
                    · exact e2 m h (by omega) hf
                  · simp at hsl
                    omega
              case measure => simp [intOf]; omega
            · have HANY := Lib.hid hany
              clear hany
              go_wp2_with (go_at_call 68; refine HCF.out.mono ?_; rintro e1 w1 ⟨rfl, rfl⟩; rw [HANY.out])
              go_roundw
              case rel =>
                refine ⟨j + 1, ks, by omega, by go_num, HEI.out.alloc _, by simp; omega, ((Ext.refl wr).alloc _).cell HBI.out, HSI.out.keep (Kept.alloc _ _ _), HPI.out, hle, fun hsl => ?_⟩
                obtain ⟨e1, e2⟩ := HSAME.out hsl
                refine ⟨e1, fun m h hm2 hf => ?_⟩
                by_cases hmj : m = j
                · subst hmj
                  exfalso
                  rw [← e1] at hf
                  have := any_mem.2 hf
                  rw [HANY.out] at this
                  cases this
                · exact e2 m h (by omega) hf
              case measure => simp [intOf]; omega
          · have hlen := HSI.out.len 3
            clear hexi
            by_cases heq : ks.length = ks0.length
            · have heq' : ((ks.length : Int) == (ks0.length : Int)) = true := by simp [heq]
              obtain ⟨rfl, hcl⟩ := HSAME.out heq
              have HCL := Lib.hid (show IsClosure l frm ks from ⟨HPI.out.nodup, HPI.out.base, fun d hd hf => by
                obtain ⟨i, hi, rfl⟩ := List.mem_iff_getElem.1 hd
                exact hcl i hi (by omega) hf, HPI.out.least⟩)
              have hksz : ∀ x ∈ ks, x.size ≤ 4294967296 := HPI.out.least _ (fun x hx => HB.out.2.2 x hx) (fun d hd _ => by
                obtain ⟨i, hi, rfl⟩ := List.mem_iff_getElem.1 hd
                obtain ⟨_, _, _, _, _, _, _, _, _, h9, _⟩ := HA.out.at_ hi
                exact h9)
              have HKSZ := Lib.hid hksz
              clear heq hcl hksz
              go_wp2_with fail
              refine (maps_Keys w.heap.size _).mono ?_
              rintro e1 w1 ⟨rfl, rfl⟩
              go_wp2_with fail
              refine (slices_Sorted w.heap.size (ks.map fun k => (k, Value.bool true)) _ HSI.out (by simp) (by simpa using HKSZ.out) (by simp; omega)).mono ?_
              have hmk : (ks.map fun k => (k, Value.bool true)).map (·.1) = ks := by simp [Function.comp_def]
              rw [hmk]
              clear hmk
              rintro e1 w1 ⟨A9, c9, rfl, hc9, hs9, hx9⟩
              have HX9 := Lib.hid hx9
              clear hx9 hlen
              go_wp2
              rw [Exit.noGoto_ret]
              go_ret
              exact ⟨ks, HCL.out, A9, c9, rfl, hc9, hs9.mono (T := Fresh w) (fun i _ hi => by unfold Fresh at hi ⊢; simp at hi; omega), HEI.out.trans (((Ext.refl wr).alloc _).trans HX9.out)⟩
            · have heq' : ((ks.length : Int) == (ks0.length : Int)) = false := by
                rw [beq_eq_false_iff_ne]
                omega
              go_wp2
              go_roundg (gk - 1)
              case measure => have := HGK.out; omega
              case rel => exact ⟨ks, by have := HGK.out; omega, HEI.out, hszi, HBI.out, HSI.out, HPI.out⟩
end Go.Proofs.YtcmmkeiiapbgcaaGreatDoor
