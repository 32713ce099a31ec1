/- The reference's All: dependencies, 8 at most. Conditions: the numbers read as data. -/
import Derived.Test.YtcmmkeiiapbgcaaGreatDoorDep2
import Derived.Test.YtcmmkeiiapbgcaaGreatDoorKeys5
namespace Go.Proofs.YtcmmkeiiapbgcaaGreatDoor
open Go Go.RowKit

def RetAll (w : World) (e : Ending) (w' : World) : Prop := ∃ ds : List Dep, ds.length ≤ 8 ∧ (∀ d ∈ ds, d.frm.length ≤ 3) ∧ RetDs w ds e w'
set_option maxRecDepth 100000 in
set_option maxHeartbeats 1000000 in
theorem r09_All (ls : List (List Int)) (A : Option Addr) (c : Nat) (w : World) (S : Nat → Prop) (hl : RIssL w S A ls) :
    Calls Tryz.prog 21 #[.slice A ls.length c] w (RetAll w) := by
  have hlen := hl.1
  have HL := Lib.hid hl
  clear hl
  go_enter Tryz.func21, Tryz.ntmps21
  go_wp2
  go_loopw [4, 3] (fun i v wr => ∃ (k : Nat) (A' : Option Addr) (c' : Nat) (ds : List Dep), k ≤ 8 ∧ k ≤ ls.length ∧ ds.length = k ∧ i = .int .i64 k ∧ v = .slice A' k c' ∧ Ext w wr ∧ (∀ d ∈ ds, d.frm.length ≤ 3) ∧ OwnDs wr w.heap.size (Fresh w) A' c' ds) (fun i _ _ => 8 - (intOf i).toNat)
  case atStart => exact ⟨0, none, 0, [], by omega, Nat.zero_le _, rfl, rfl, rfl, Ext.refl w, by simp, OwnDs.nil _ _ _⟩
  case round =>
    obtain ⟨k, A', c', ds, hk8, hk, hds, rfl, rfl, hext, h3, hown⟩ := hrel
    have HE := Lib.hid hext
    have HDS := Lib.hid hds
    have H3 := Lib.hid h3
    have HO := Lib.hid hown
    have hszw := hext.size
    clear hds h3 hown hext
    by_cases hlt : k < ls.length
    · by_cases hlt8 : k < 8
      · obtain ⟨b, o, B, e, rfl, hb, hc, hce, hi⟩ := (HL.out.keep (HE.out.kept _)).at_ hlt
        have HI := Lib.hid hi
        clear hi
        go_wp2_with fail
        refine (r09_Depends _ _ _ _ S HI.out).mono ?_
        rintro e1 w1 ⟨d, A1, c1, rfl, hd3, hdc, hdt, hds, hx1⟩
        have HX1 := Lib.hid hx1
        have HSS := Lib.hid hds
        have hz1 := hx1.size
        obtain ⟨hs, hhs, ho, hv⟩ := (HO.out.ext (hx1.alloc (.cells #[.slice A1 d.frm.length c1, .string d.to] 52))).add
        rw [HDS.out] at ho
        have HOWN := Lib.hid ho
        have HV := Lib.hid hv
        have HHS := Lib.hid hhs
        clear hx1 hds ho hv hhs
        go_wp2_with (at_builtin; go_must (refine wpList_app rfl (.tmp 15) (.tmp 21) rfl tiD rfl HOWN.out rfl (Blk.rd (Blk.new _ _ _)) rfl (by simp [Value.oneCell']) (by omega) (by decide) (by simp; omega) ?_); intro A4 c4 w4 hown4 hg4 hat4)
        go_roundw
        case rel =>
          refine ⟨k + 1, A4, c4, ds ++ [d], by omega, by omega, by simp [HDS.out], by go_num, rfl, Ext.grown ((HE.out.trans HX1.out).alloc _) hg4 (fun b hb => (HOWN.out.blk hb).1), ?_, ?_⟩
          · intro x hx
            rcases List.mem_append.1 hx with hx | hx
            · exact H3.out x hx
            · simp at hx; subst hx; exact hd3
          · refine OwnDs.push HHS.out HV.out (by rw [HDS.out]; exact hown4) hg4 hat4 hdc hdt ((HSS.out.keep (Kept.alloc _ _ _)).mono fun i _ hi => ⟨fun h0 => ?_, ?_⟩)
            · have := (HO.out.blk h0).2
              unfold Fresh at hi
              omega
            · unfold Fresh at hi ⊢
              omega
        case measure => simp [intOf]; omega
      · go_wp2
        go_ret
        exact ⟨ds, by have := HDS.out; omega, H3.out, A', c', by rw [HDS.out]; rfl, by obtain ⟨hs, _, h1, _⟩ := HO.out.add; exact h1.cap, HO.out.rdeps (by have := HDS.out; omega) (fun b hb => (HO.out.blk hb).1) (fun _ h => h), HE.out⟩
    · go_wp2
      go_ret
      exact ⟨ds, by have := HDS.out; omega, H3.out, A', c', by rw [HDS.out]; rfl, by obtain ⟨hs, _, h1, _⟩ := HO.out.add; exact h1.cap, HO.out.rdeps (by have := HDS.out; omega) (fun b hb => (HO.out.blk hb).1) (fun _ h => h), HE.out⟩
end Go.Proofs.YtcmmkeiiapbgcaaGreatDoor
