/- Small functions of the law: text, number; the reference's Deps on equal lists. Conditions: the arguments read as data. -/
import Derived.Test.YtcmmkeiiapbgcaaGreatDoorKeys5
import Derived.Test.YtcmmkeiiapbgcaaGreatDoorSum
namespace Go.Proofs.YtcmmkeiiapbgcaaGreatDoor
open Go Go.RowKit

theorem quietB {P : Program} {f : FuncId} {args : Array Value} {w : World} {n : Nat} {v : Bool} (h : Calls P f args (w.drewN n) (QuietB (w.drewN n) v)) :
    Calls P f args (w.drewN n) fun e w'' => e = .returned (.bool v) ∧ ∃ m, w'' = w.drewN m := h.mono fun _ _ ⟨he, m, hm⟩ => ⟨he, n + m, by rw [hm, World.drewN_drewN]⟩
def textV (s : ByteArray) : Val := ⟨1, s, 0, 0, 0, [], []⟩
def RetV0 (w : World) (x : Val) (e : Ending) (w' : World) : Prop := e = .returned (.agg #[.int .i64 x.kind, .string x.s, .int .i64 x.dn, .int .i64 x.ds, .int .i64 x.n, .slice none x.cols.length 0, .slice none x.rows.length 0]) ∧ Ext w w'
set_option maxRecDepth 100000 in
theorem law_text (s : ByteArray) (w : World) : Calls Tryz.prog 38 #[.string s] w (RetV0 w (textV s)) := by
  go_enter Tryz.func38, Tryz.ntmps38
  go_wp2
  refine bodyPost_ret (v := .agg #[.int .i64 1, .string s, .int .i64 0, .int .i64 0, .int .i64 0, .slice none 0 0, .slice none 0 0]) (by simp [results, Tryz.results38, go_sem]) rfl ⟨rfl, ?_⟩
  exact (Ext.refl w).alloc _
set_option maxRecDepth 100000 in
theorem law_number (n : Int) (w : World) : Calls Tryz.prog 40 #[.int .i64 n] w (RetV0 w (numV n 0)) := by
  go_enter Tryz.func40, Tryz.ntmps40
  go_wp2
  refine bodyPost_ret (v := .agg #[.int .i64 2, .string ⟨#[]⟩, .int .i64 n, .int .i64 0, .int .i64 0, .slice none 0 0, .slice none 0 0]) (by simp [results, Tryz.results40, go_sem]) rfl ⟨rfl, ?_⟩
  exact (Ext.refl w).alloc _
theorem r06_StringsSame (A B : Option Addr) (c d : Nat) (x : List ByteArray) (w : World) (S T : Nat → Prop) (hx : Strs w S A x) (hy : Strs w T B x) :
    Calls Tryz.prog 27 #[.slice A x.length c, .slice B x.length d] w (QuietB w true) := by
  have := r06_Strings A B c d x x w S T hx hy
  simpa using this
set_option maxRecDepth 100000 in
set_option maxHeartbeats 400000 in
theorem r09_Deps (l : List Dep) (A B : Option Addr) (ca cb : Nat) (w : World) (S T : Nat → Prop) (hA : RDeps w S A l) (hB : RDeps w T B l) :
    Calls Tryz.prog 41 #[.slice A l.length ca, .slice B l.length cb] w (QuietB w true) := by
  have hl := hA.1
  have HA := Lib.hid hA
  have HB := Lib.hid hB
  clear hA hB
  go_enter Tryz.func41, Tryz.ntmps41
  go_wp2
  go_loopw [5] (fun i wr => ∃ k : Nat, k ≤ l.length ∧ i = .int .i64 k ∧ (∃ n, wr = w.drewN n)) (fun i _ => l.length - (intOf i).toNat)
  case atStart => exact ⟨0, Nat.zero_le _, rfl, ⟨0, rfl⟩⟩
  case round =>
    obtain ⟨k, hk, rfl, ⟨n, hwr⟩⟩ := hrel
    have HWR := Lib.hid hwr
    have HKA := Lib.hid (HA.out.keep (show Kept S w wr by rw [hwr]; exact Kept.drewN _ _ _))
    have HKB := Lib.hid (HB.out.keep (show Kept T w wr by rw [hwr]; exact Kept.drewN _ _ _))
    clear hwr
    by_cases hlt : k < l.length
    · obtain ⟨b1, o1, B1, c1, rfl, z1, p1, p2, p3, p4, p5⟩ := HKA.out.at_ hlt
      obtain ⟨b2, o2, B2, c2, rfl, z2, q1, q2, q3, q4, q5⟩ := HKB.out.at_ hlt
      have H1 := Lib.hid p5
      have H2 := Lib.hid q5
      have hne : (l[k].to.toList == l[k].to.toList) = true := by simp
      clear p5 q5
      go_wp2
      go_quiet ((go_at_call 27; exact quietB (r06_StringsSame B1 B2 c1 c2 _ _ S T (H1.out.keep (Kept.drewN _ _ _)) (H2.out.keep (Kept.drewN _ _ _)))))
      go_wp2
      go_roundw
      case rel => exact ⟨k + 1, by omega, by go_num, ⟨_, by rw [HWR.out]; exact World.drewN_drewN _ _ _⟩⟩
      case measure => simp [intOf]; omega
    · go_wp2
      go_ret
      exact ⟨rfl, n, HWR.out⟩
end Go.Proofs.YtcmmkeiiapbgcaaGreatDoor
