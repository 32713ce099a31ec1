/- The program's table.groups: rows get one number exactly if they are in the same class of each list. Conditions: the lists read as ints, each of length n. -/
import Derived.Test.YtcmmkeiiapbgcaaGreatDoorGroups
import Derived.BigRegion
namespace Go.Proofs.YtcmmkeiiapbgcaaGreatDoor
open Go Go.RowKit

/-- Lists of ints in memory. -/
def RIss (w : World) (S : Nat → Prop) (A : Option Addr) (l : List (List Int)) : Prop :=
  l.length ≤ 4294967296 ∧ ∃ hs : List Value, Rd w S A hs ∧ hs.length = l.length ∧ ∀ (i : Nat) (r : List Int), l[i]? = some r → ∃ (B : Option Addr) (e : Nat), hs[i]? = some (.slice B r.length e) ∧ r.length ≤ e ∧ Ints w S B r
theorem RIss.keep {w w' : World} {S : Nat → Prop} {A : Option Addr} {l : List (List Int)} (h : RIss w S A l) (k : Kept S w w') : RIss w' S A l := by
  obtain ⟨h0, hs, h1, h2, h3⟩ := h
  refine ⟨h0, hs, h1.keep k, h2, fun i r hr => ?_⟩
  obtain ⟨B, e, g1, g2, g3⟩ := h3 i r hr
  exact ⟨B, e, g1, g2, g3.keep k⟩
theorem RIss.at_ {w : World} {S : Nat → Prop} {A : Option Addr} {l : List (List Int)} (h : RIss w S A l) {k : Nat} (hk : k < l.length) :
    ∃ b o B e, A = some ⟨b, o, none⟩ ∧ b < w.heap.size ∧ w.cell? ⟨b, o + k, none⟩ = some (.slice B l[k].length e) ∧ l[k].length ≤ e ∧ Ints w S B l[k] := by
  obtain ⟨_, hs, h1, h2, h3⟩ := h
  obtain ⟨B, e, g1, g2, g3⟩ := h3 k l[k] (List.getElem?_eq_getElem hk)
  obtain ⟨b, o, hA, hb, hc⟩ := h1.at_ g1
  exact ⟨b, o, B, e, hA, hb, hc, g2, g3⟩
structure GroupsOf (n : Nat) (ls : List (List Int)) (gs : List Int) : Prop where
  len : gs.length = n
  same : ∀ i j, i < n → j < n → (gs.getD i 0 = gs.getD j 0 ↔ ∀ l ∈ ls, l.getD i 0 = l.getD j 0)
def RetG (w : World) (n : Nat) (ls : List (List Int)) (e : Ending) (w' : World) : Prop := ∃ gs, GroupsOf n ls gs ∧ RetIs w gs e w'
theorem made_replicate (z : Value) (n : Nat) (hz : z.cells = #[z]) : madeCells z.cells n = Array.replicate n z := by
  rw [hz]
  apply Array.ext
  · simp [madeCells]
  · intro i h5 h6
    simp [madeCells, Nat.mod_one]
theorem run_mkI (n : Nat) (hn : n ≤ 4294967296) : ∀ w : World, (Instr.makeSlice 22 (.int .i64 (n : Int)) (.int .i64 (n : Int))).run Tryz.prog w = .ok (.slice (some ⟨w.heap.size, 0, none⟩) n n) (w.alloc (.cells (Array.replicate n (.int .i64 0)) 3)) := by
  intro w
  obtain ⟨i0, h1, h2, h3, h4⟩ := info_parts infoI
  have hr := run_make (P := Tryz.prog) w 22 3 i0 (.int .i64 0) Tryz.underlying22 h1 h2 .i64 .i64 n n (by omega) (by omega) (by rw [h4]; omega) (by omega)
  rw [h3, Nat.mul_one, Int.toNat_natCast, made_replicate _ _ rfl] at hr
  exact hr
/-- What groups knows while it goes through a list: m numbers the pairs that it has met. -/
structure GRel (n r : Nat) (gs cls cur : List Int) (m : List ((Int × Int) × Value)) : Prop where
  len : cur.length = n
  done : ∀ j, j < r → mget m (gs.getD j 0, cls.getD j 0) = some (.int .i64 (cur.getD j 0))
  rest : ∀ j, r ≤ j → j < n → cur.getD j 0 = gs.getD j 0
  inj : ∀ p q v, mget m p = some v → mget m q = some v → p = q
  range : ∀ p v, mget m p = some v → ∃ i : Nat, i < m.length ∧ v = .int .i64 (i : Int)

theorem getD_set {l : List Int} {r j : Nat} {g : Int} : (l.set r g).getD j 0 = if r = j ∧ j < l.length then g else l.getD j 0 := by
  simp only [List.getD_eq_getElem?_getD, List.getElem?_set]
  by_cases h : r = j
  · subst h
    by_cases h2 : r < l.length
    · simp [h2]
    · simp [h2]
  · simp [h]
theorem GRel.new {n r : Nat} {gs cls cur : List Int} {m : List ((Int × Int) × Value)} (h : GRel n r gs cls cur m) (hr : r < n) (hm : mget m (gs.getD r 0, cls.getD r 0) = none) : GRel n (r + 1) gs cls (cur.set r (m.length : Int)) (mput m (gs.getD r 0, cls.getD r 0) (.int .i64 (m.length : Int))) := by
  have hl := h.len
  refine ⟨by simp [hl], fun j hj => ?_, fun j hj hn => ?_, fun p q v hp hq => ?_, fun p v hp => ?_⟩
  · rw [mget_put, getD_set]
    by_cases hjr : j = r
    · subst hjr
      rw [if_pos rfl, if_pos ⟨rfl, by omega⟩]
    · have hd := h.done j (by omega)
      rw [if_neg (fun e => by rw [← e, hm] at hd; cases hd), if_neg (fun e => hjr e.1.symm)]
      exact hd
  · rw [getD_set, if_neg (fun e => by omega)]
    exact h.rest j (by omega) hn
  · rw [mget_put] at hp hq
    by_cases h1 : (gs.getD r 0, cls.getD r 0) = p
    · rw [if_pos h1] at hp
      by_cases h2 : (gs.getD r 0, cls.getD r 0) = q
      · rw [← h1, h2]
      · rw [if_neg h2, ← hp] at hq
        obtain ⟨i, hi, he⟩ := h.range _ _ hq
        injection he with _ he
        omega
    · rw [if_neg h1] at hp
      by_cases h2 : (gs.getD r 0, cls.getD r 0) = q
      · rw [if_pos h2] at hq
        rw [← hq] at hp
        obtain ⟨i, hi, he⟩ := h.range _ _ hp
        injection he with _ he
        omega
      · rw [if_neg h2] at hq
        exact h.inj _ _ _ hp hq
  · rw [mget_put] at hp
    rw [mput_len, hm]
    by_cases h1 : (gs.getD r 0, cls.getD r 0) = p
    · rw [if_pos h1] at hp
      injection hp with hp
      exact ⟨m.length, by simp, hp.symm⟩
    · rw [if_neg h1] at hp
      obtain ⟨i, hi, he⟩ := h.range _ _ hp
      exact ⟨i, by simp; omega, he⟩
theorem GRel.old {n r i : Nat} {gs cls cur : List Int} {m : List ((Int × Int) × Value)} (h : GRel n r gs cls cur m) (hr : r < n) (hm : mget m (gs.getD r 0, cls.getD r 0) = some (.int .i64 (i : Int))) : GRel n (r + 1) gs cls (cur.set r (i : Int)) m := by
  have hl := h.len
  refine ⟨by simp [hl], fun j hj => ?_, fun j hj hn => ?_, h.inj, h.range⟩
  · rw [getD_set]
    by_cases hjr : j = r
    · subst hjr
      rw [if_pos ⟨rfl, by omega⟩]
      exact hm
    · rw [if_neg (fun e => hjr e.1.symm)]
      exact h.done j (by omega)
  · rw [getD_set, if_neg (fun e => by omega)]
    exact h.rest j (by omega) hn
theorem GRel.fin {n k : Nat} {ls : List (List Int)} {gs cur : List Int} {m : List ((Int × Int) × Value)} (hk : k < ls.length) (h : GRel n n gs ls[k] cur m) (hg : GroupsOf n (ls.take k) gs) : GroupsOf n (ls.take (k + 1)) cur := by
  refine ⟨h.len, fun i j hi hj => ?_⟩
  have d1 := h.done i hi
  have d2 := h.done j hj
  have e : cur.getD i 0 = cur.getD j 0 ↔ (gs.getD i 0 = gs.getD j 0 ∧ ls[k].getD i 0 = ls[k].getD j 0) := by
    constructor
    · intro he
      rw [he] at d1
      have := h.inj _ _ _ d1 d2
      injection this with h1 h2
      exact ⟨h1, h2⟩
    · rintro ⟨h1, h2⟩
      rw [h1, h2, d2] at d1
      injection d1 with d1
      injection d1 with _ d1
      exact d1.symm
  rw [e, hg.same i j hi hj, List.take_succ_eq_append_getElem hk]
  constructor
  · rintro ⟨h1, h2⟩ l hl
    rcases List.mem_append.1 hl with hl | hl
    · exact h1 l hl
    · simp at hl
      subst hl
      exact h2
  · intro h1
    exact ⟨fun l hl => h1 l (List.mem_append_left _ hl), h1 _ (List.mem_append_right _ (List.mem_singleton.2 rfl))⟩

set_option maxRecDepth 100000 in
set_option maxHeartbeats 1000000 in
theorem table_groups (n : Nat) (ls : List (List Int)) (A : Option Addr) (ca : Nat) (w : World) (S : Nat → Prop) (hA : RIss w S A ls) (hl : ∀ l ∈ ls, l.length = n) (hn : n ≤ 4294967296) :
    Calls Tryz.prog 65 #[.int .i64 (n : Int), .slice A ls.length ca] w (RetG w n ls) := by
  have hal := hA.1
  have HA := Lib.hid hA
  have HL := Lib.hid hl
  clear hA hl
  have hmk := run_mkI n hn
  have hmm := @run_makeMap Tryz.prog
  go_enter Tryz.func65, Tryz.ntmps65
  go_wp2
  clear hmk
  have hst := Blk.new w 3 (Array.replicate n (.int .i64 0))
  have hst2 : ((List.replicate n (0 : Int)).map (Value.int .i64)).toArray = Array.replicate n (.int .i64 0) := by simp
  rw [← hst2] at hst
  have HST := Lib.hid hst
  rw [hst2] at HST
  clear hst hst2
  go_loopw [17] (fun i wr => ∃ (k : Nat) (gs : List Int), k ≤ ls.length ∧ i = .int .i64 k ∧ Ext w wr ∧ Blk wr w.heap.size 3 (gs.map (Value.int .i64)).toArray ∧ GroupsOf n (ls.take k) gs) (fun i _ => ls.length - (intOf i).toNat)
  case atStart => exact ⟨0, List.replicate n 0, Nat.zero_le _, rfl, (Ext.refl w).alloc _, by have h9 := HST.out; simpa using h9, by simp, by intro i j hi hj; simp [hi, hj]⟩
  case round =>
    clear HST
    obtain ⟨k, gs, hk, rfl, hext, hblk, hgr⟩ := hrel
    have HE := Lib.hid hext
    have HBK := Lib.hid hblk
    have HGR := Lib.hid hgr
    have hgl := hgr.len
    have hwz := hblk.lt
    clear hblk hgr
    by_cases hlt : k < ls.length
    · obtain ⟨b1, o1, B2, c2, rfl, z0, p0', hcp, hint⟩ := HA.out.at_ hlt
      have p0 := hext.cell p0'
      have z1 : b1 < wr.heap.size := by omega
      have hcl : ls[k].length = n := HL.out _ (List.getElem_mem hlt)
      have HINT := Lib.hid hint
      have HGL := Lib.hid hgl
      have HCL := Lib.hid hcl
      clear hint hext hgl hcl
      go_wp2
      obtain ⟨wo, rfl⟩ : ∃ wo : World, wo = wr := ⟨_, rfl⟩
      have HMP := Lib.hid (MapIs.made wo (fun p : Int × Int => Value.agg #[.int .i64 p.1, .int .i64 p.2]))
      clear hmm
      go_loopw [24] (fun i wi => ∃ (r : Nat) (cur : List Int) (m : List ((Int × Int) × Value)), r ≤ n ∧ i = .int .i64 r ∧ Ext w wi ∧ wo.heap.size < wi.heap.size ∧ Blk wi w.heap.size 3 (cur.map (Value.int .i64)).toArray ∧ MapIs wi wo.heap.size (fun p : Int × Int => Value.agg #[.int .i64 p.1, .int .i64 p.2]) m ∧ m.length ≤ r ∧ GRel n r gs ls[k] cur m) (fun i _ => n - (intOf i).toNat)
      case atStart => exact ⟨0, gs, [], Nat.zero_le _, rfl, HE.out.alloc _, by simp, HBK.out.keep (Kept.alloc _ _ _), HMP.out, Nat.le_refl _, HGL.out, by intros; omega, fun _ _ _ => rfl, by intro p q v h; simp [mget, fnd] at h, by intro p v h; simp [mget, fnd] at h⟩
      case round =>
        clear HMP
        obtain ⟨r, cur, m, hr, rfl, hexi, hszi, hbli, hmpi, hml, hrl⟩ := hrel
        have HEI := Lib.hid hexi
        have HBI := Lib.hid hbli
        have HMI := Lib.hid hmpi
        have HRI := Lib.hid hrl
        have hcurl := hrl.len
        have HCUR := Lib.hid hcurl
        clear hcurl hrl
        by_cases hlt2 : r < n
        · have hrc : r < ls[k].length := by rw [HCL.out]; exact hlt2
          obtain ⟨b2, o2, rfl, z2, d2⟩ := (HINT.out.keep (hexi.kept S)).at_ hrc
          have hcell : wr.cell? ⟨w.heap.size, r, none⟩ = some (.int .i64 (gs.getD r 0)) := by
            rw [← HRI.out.rest r (Nat.le_refl _) hlt2]
            refine hbli.cell ?_
            have : r < cur.length := by rw [HCUR.out]; exact hlt2
            simp [this]
          have hz5 := hbli.lt
          obtain ⟨a, ha⟩ : ∃ a, a = gs.getD r 0 := ⟨_, rfl⟩
          obtain ⟨b, hb⟩ : ∃ b, b = ls[k][r] := ⟨_, rfl⟩
          have hb2 : b = ls[k].getD r 0 := by rw [hb]; exact (getD_of ls[k] r 0 hrc).symm
          rw [← ha] at hcell
          rw [← hb] at d2
          have HAB := Lib.hid (And.intro ha hb2)
          have hne : w.heap.size ≠ wr.heap.size := by omega
          have hr1 : (r : Int) < (n : Int) := by omega
          have hr2 : (r : Int) < (ls[k].length : Int) := by omega
          have hr3 : (0 : Int) ≤ (r : Int) := by omega
          clear hexi hbli hmpi ha hb hb2
          go_wp2
          go_region
          have hkw : ∀ X : Nat → Prop, Kept X wr (wr.alloc (.cells #[.int .i64 a, .int .i64 b] 128)).drew := fun X => (Kept.alloc _ _ _).trans (Kept.drew _ _)
          have HBI2 := Lib.hid (HBI.out.keep (hkw _))
          have HMI2 := Lib.hid (HMI.out.keep (hkw _))
          have HBB := Lib.hid ((Blk.new wr 128 #[.int .i64 a, .int .i64 b]).keep (Kept.drew _ _))
          have HEI2 := Lib.hid ((HEI.out.alloc (.cells #[.int .i64 a, .int .i64 b] 128)).drew)
          have hsW : (wr.alloc (.cells #[.int .i64 a, .int .i64 b] 128)).drew.heap.size = wr.heap.size + 1 := by simp
          clear hkw hcell d2
          generalize (wr.alloc (.cells #[.int .i64 a, .int .i64 b] 128)).drew = W at *
          have hszW : wo.heap.size < W.heap.size := by omega
          have hzW : wr.heap.size < W.heap.size := by omega
          clear hsW
          have hlk : (Instr.lookup 127 (.map (some wo.heap.size)) (.agg #[.int .i64 a, .int .i64 b]) true).run Tryz.prog W = .ok (.tuple #[(mget m (a, b)).getD (.int .i64 0), .bool (mget m (a, b)).isSome]) W := MapIs.get2 HMI2.out Tryz.underlying127 (klPair Tryz.underlying128 Tryz.underlying3 (fun w => by kernel_rfl)) (.int .i64 0) zeroI (a, b)
          have x0 := HBB.out.cell (i := 0) rfl
          have x1 := HBB.out.cell (i := 1) rfl
          have hgc : W.cell? ⟨w.heap.size, r, none⟩ = some (.int .i64 (cur.getD r 0)) := by
            refine HBI2.out.cell ?_
            have : r < cur.length := by rw [HCUR.out]; exact hlt2
            simp [this]
          have hgf := HBI2.out.frozen r
          have hgz := HBI2.out.lt
          have hfin : ∀ (W' : World) (m' : List ((Int × Int) × Value)) (g : Int), W.grownBy W' (some wo.heap.size) → MapIs W' wo.heap.size (fun p : Int × Int => Value.agg #[.int .i64 p.1, .int .i64 p.2]) m' → m'.length ≤ r + 1 → GRel n (r + 1) gs ls[k] (cur.set r g) m' →
              ∃ (cur' : List Int) (m'' : List ((Int × Int) × Value)), Ext w (W'.setCell ⟨w.heap.size, r, none⟩ (.int .i64 g)) ∧ wo.heap.size < (W'.setCell ⟨w.heap.size, r, none⟩ (.int .i64 g)).heap.size ∧ Blk (W'.setCell ⟨w.heap.size, r, none⟩ (.int .i64 g)) w.heap.size 3 (cur'.map (Value.int .i64)).toArray ∧ MapIs (W'.setCell ⟨w.heap.size, r, none⟩ (.int .i64 g)) wo.heap.size (fun p : Int × Int => Value.agg #[.int .i64 p.1, .int .i64 p.2]) m'' ∧ m''.length ≤ r + 1 ∧ GRel n (r + 1) gs ls[k] cur' m'' := by
            intro W' m' g hg hm hl2 hrl2
            have hsz' := hg.size
            refine ⟨cur.set r g, m', (HEI2.out.grown hg (fun b hb => by injection hb with hb; omega)).set2 (Nat.le_refl _) _, by simp [World.setCell]; omega, ?_, hm.keep (Kept.set2 (Kept.refl _ _) (by show ¬ (_ = _); omega)), hl2, hrl2⟩
            have := (HBI2.out.keep (w' := W') (Kept.of_grown hg (by rintro b rfl _ e; injection e with e; omega))).set r (.int .i64 g)
            have he : (cur.map (Value.int .i64)).toArray.setIfInBounds r (.int .i64 g) = ((cur.set r g).map (Value.int .i64)).toArray := by simp [List.map_set]
            rw [he] at this
            exact this
          have HFIN := Lib.hid hfin
          clear hfin
          cases hmg : mget m (a, b) with
          | none =>
            rw [hmg] at hlk
            obtain ⟨w5, hup, hmap5, hg5⟩ := HMI2.out.put Tryz.underlying127 (klPair Tryz.underlying128 Tryz.underlying3 (fun w => by kernel_rfl)) (a, b) (.int .i64 (m.length : Int))
            have hlen5 := MapIs.len HMI2.out (P := Tryz.prog) Tryz.underlying127 3
            have HMG := Lib.hid hmg
            have HM5 := Lib.hid hmap5
            have HG5 := Lib.hid hg5
            have hc5 : w5.cell? ⟨w.heap.size, r, none⟩ = some (.int .i64 (cur.getD r 0)) := by rw [World.cell?_of_block (hg5.block w.heap.size hgz (fun e => by injection e with e; omega))]; exact hgc
            have hf5 : w5.frozen? ⟨w.heap.size, r, none⟩ = false := by rw [World.frozen?_of_block (hg5.block w.heap.size hgz (fun e => by injection e with e; omega))]; exact hgf
            simp only [Option.getD_none, Option.isSome_none] at hlk
            simp only at hup
            clear hmg hmap5 hg5 hgc hgf
            go_wp2
            go_roundw
            case rel =>
              have hk5 : mget m (gs.getD r 0, ls[k].getD r 0) = none := by rw [← HAB.out.1, ← HAB.out.2]; exact HMG.out
              have hm5 := HM5.out
              rw [HAB.out.1, HAB.out.2] at hm5
              obtain ⟨cur', m'', e1⟩ := HFIN.out w5 _ (m.length : Int) HG5.out hm5 (by rw [mput_len, hk5]; simp; omega) (HRI.out.new hlt2 hk5)
              exact ⟨r + 1, cur', m'', by omega, by go_num, e1⟩
            case measure => simp [intOf]; omega
          | some v =>
            obtain ⟨i, hi, rfl⟩ := HRI.out.range _ _ hmg
            rw [hmg] at hlk
            have HMG := Lib.hid hmg
            simp only [Option.getD_some, Option.isSome_some] at hlk
            clear hmg
            go_wp2
            go_roundw
            case rel =>
              have hk5 : mget m (gs.getD r 0, ls[k].getD r 0) = some (.int .i64 (i : Int)) := by rw [← HAB.out.1, ← HAB.out.2]; exact HMG.out
              obtain ⟨cur', m'', e1⟩ := HFIN.out W m (i : Int) (World.grownBy.refl W _) HMI2.out (by omega) (HRI.out.old hlt2 hk5)
              exact ⟨r + 1, cur', m'', by omega, by go_num, e1⟩
            case measure => simp [intOf]; omega
        · obtain rfl : r = n := by omega
          clear hexi hbli hmpi
          go_wp2
          go_roundw
          case rel => exact ⟨k + 1, cur, by omega, by go_num, HEI.out, HBI.out, GRel.fin hlt HRI.out HGR.out⟩
          case measure => simp [intOf]; omega
    · obtain rfl : k = ls.length := by omega
      have hgg := HGR.out
      rw [List.take_of_length_le (Nat.le_refl _)] at hgg
      have HGG := Lib.hid hgg
      have HGL := Lib.hid hgl
      clear hgg hgl hext
      go_wp2
      go_ret
      refine ⟨gs, HGG.out, some ⟨w.heap.size, 0, none⟩, n, by rw [HGL.out]; rfl, by rw [HGL.out]; exact Nat.le_refl _, ⟨?_, by rw [HGL.out]; exact hn⟩, HE.out⟩
      have := HBK.out.rd.mono (T := Fresh w) (fun i _ hi => by unfold Fresh; omega)
      simpa using this
end Go.Proofs.YtcmmkeiiapbgcaaGreatDoor
