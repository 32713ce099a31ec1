/- The reference's Cell: one of four values of a kind, or the empty one. No conditions. -/
import Derived.Test.YtcmmkeiiapbgcaaGreatDoorDep1
namespace Go.Proofs.YtcmmkeiiapbgcaaGreatDoor
open Go Go.RowKit

def sRome : ByteArray := ⟨#[82, 111, 109, 101]⟩
def sOslo2 : ByteArray := ⟨#[79, 115, 108, 111]⟩
def sBergen : ByteArray := ⟨#[66, 101, 114, 103, 101, 110]⟩
def sIt : ByteArray := ⟨#[105, 116]⟩
def dateV (n : Int) : Val := ⟨3, ⟨#[]⟩, 0, 0, n, [], []⟩
/-- The cell of a kind with a number below 5. -/
def cellS (kind : Int) (n : Nat) : Val :=
  if n = 4 then Val.zero
  else if kind = 2 then (if n = 0 then numV 1 0 else if n = 1 then numV (-25) 1 else if n = 2 then numV 3 0 else numV 1000000000000000 0)
  else if kind = 3 then dateV (738000 + n)
  else textV (if n = 0 then sRome else if n = 1 then sOslo2 else if n = 2 then sBergen else sIt)
theorem tmod5 (a : Int) (h : 0 ≤ a) : a.tmod 5 = a % 5 := Int.tmod_eq_emod_of_nonneg h
set_option maxRecDepth 100000 in
set_option maxHeartbeats 1000000 in
theorem cell_number_0 (n : Int) (w : World) (hme : (n.tmod 5 + 5) % 5 = 0)  : Calls Tryz.prog 10 #[.int .i64 2, .int .i64 n] w (RetV0 w (cellS 2 0)) := by
  obtain ⟨b1, b2⟩ := next_bd n 5 (by omega)
  go_enter Tryz.func10, Tryz.ntmps10
  go_wp2
  refine bodyPost_ret (v := .agg #[.int .i64 2, .string ⟨#[]⟩, .int .i64 (1), .int .i64 0, .int .i64 0, .slice none 0 0, .slice none 0 0]) (by simp [results, Tryz.results10, go_sem]) rfl ⟨by simp [cellS, numV, dateV], ?_⟩
  exact ((Ext.refl w).alloc _).alloc _
set_option maxRecDepth 100000 in
set_option maxHeartbeats 1000000 in
theorem cell_number_1 (n : Int) (w : World) (hme : (n.tmod 5 + 5) % 5 = 1)  : Calls Tryz.prog 10 #[.int .i64 2, .int .i64 n] w (RetV0 w (cellS 2 1)) := by
  obtain ⟨b1, b2⟩ := next_bd n 5 (by omega)
  go_enter Tryz.func10, Tryz.ntmps10
  go_wp2
  refine bodyPost_ret (v := .agg #[.int .i64 2, .string ⟨#[]⟩, .int .i64 (-25), .int .i64 1, .int .i64 0, .slice none 0 0, .slice none 0 0]) (by simp [results, Tryz.results10, go_sem]) rfl ⟨by simp [cellS, numV, dateV], ?_⟩
  exact ((Ext.refl w).alloc _).alloc _
set_option maxRecDepth 100000 in
set_option maxHeartbeats 1000000 in
theorem cell_number_2 (n : Int) (w : World) (hme : (n.tmod 5 + 5) % 5 = 2)  : Calls Tryz.prog 10 #[.int .i64 2, .int .i64 n] w (RetV0 w (cellS 2 2)) := by
  obtain ⟨b1, b2⟩ := next_bd n 5 (by omega)
  go_enter Tryz.func10, Tryz.ntmps10
  go_wp2
  refine bodyPost_ret (v := .agg #[.int .i64 2, .string ⟨#[]⟩, .int .i64 (3), .int .i64 0, .int .i64 0, .slice none 0 0, .slice none 0 0]) (by simp [results, Tryz.results10, go_sem]) rfl ⟨by simp [cellS, numV, dateV], ?_⟩
  exact ((Ext.refl w).alloc _).alloc _
set_option maxRecDepth 100000 in
set_option maxHeartbeats 1000000 in
theorem cell_number_3 (n : Int) (w : World) (hme : (n.tmod 5 + 5) % 5 = 3)  : Calls Tryz.prog 10 #[.int .i64 2, .int .i64 n] w (RetV0 w (cellS 2 3)) := by
  obtain ⟨b1, b2⟩ := next_bd n 5 (by omega)
  go_enter Tryz.func10, Tryz.ntmps10
  go_wp2
  refine bodyPost_ret (v := .agg #[.int .i64 2, .string ⟨#[]⟩, .int .i64 (1000000000000000), .int .i64 0, .int .i64 0, .slice none 0 0, .slice none 0 0]) (by simp [results, Tryz.results10, go_sem]) rfl ⟨by simp [cellS, numV, dateV], ?_⟩
  exact ((Ext.refl w).alloc _).alloc _
theorem cell_number (n : Int) (w : World) (m : Nat) (hm : m < 4) (hme : (n.tmod 5 + 5) % 5 = (m : Int))  : Calls Tryz.prog 10 #[.int .i64 2, .int .i64 n] w (RetV0 w (cellS 2 m)) := by
  match m, hm, hme with
  | 0, _, h => exact cell_number_0 n w h
  | 1, _, h => exact cell_number_1 n w h
  | 2, _, h => exact cell_number_2 n w h
  | 3, _, h => exact cell_number_3 n w h
set_option maxRecDepth 100000 in
set_option maxHeartbeats 1000000 in
theorem cell_date_0 (n : Int) (w : World) (hme : (n.tmod 5 + 5) % 5 = 0)  : Calls Tryz.prog 10 #[.int .i64 3, .int .i64 n] w (RetV0 w (cellS 3 0)) := by
  obtain ⟨b1, b2⟩ := next_bd n 5 (by omega)
  go_enter Tryz.func10, Tryz.ntmps10
  go_wp2
  refine bodyPost_ret (v := .agg #[.int .i64 3, .string ⟨#[]⟩, .int .i64 0, .int .i64 0, .int .i64 738000, .slice none 0 0, .slice none 0 0]) (by simp [results, Tryz.results10, go_sem]) rfl ⟨by simp [cellS, numV, dateV], ?_⟩
  exact (Ext.refl w).alloc _
set_option maxRecDepth 100000 in
set_option maxHeartbeats 1000000 in
theorem cell_date_1 (n : Int) (w : World) (hme : (n.tmod 5 + 5) % 5 = 1)  : Calls Tryz.prog 10 #[.int .i64 3, .int .i64 n] w (RetV0 w (cellS 3 1)) := by
  obtain ⟨b1, b2⟩ := next_bd n 5 (by omega)
  go_enter Tryz.func10, Tryz.ntmps10
  go_wp2
  refine bodyPost_ret (v := .agg #[.int .i64 3, .string ⟨#[]⟩, .int .i64 0, .int .i64 0, .int .i64 738001, .slice none 0 0, .slice none 0 0]) (by simp [results, Tryz.results10, go_sem]) rfl ⟨by simp [cellS, numV, dateV], ?_⟩
  exact (Ext.refl w).alloc _
set_option maxRecDepth 100000 in
set_option maxHeartbeats 1000000 in
theorem cell_date_2 (n : Int) (w : World) (hme : (n.tmod 5 + 5) % 5 = 2)  : Calls Tryz.prog 10 #[.int .i64 3, .int .i64 n] w (RetV0 w (cellS 3 2)) := by
  obtain ⟨b1, b2⟩ := next_bd n 5 (by omega)
  go_enter Tryz.func10, Tryz.ntmps10
  go_wp2
  refine bodyPost_ret (v := .agg #[.int .i64 3, .string ⟨#[]⟩, .int .i64 0, .int .i64 0, .int .i64 738002, .slice none 0 0, .slice none 0 0]) (by simp [results, Tryz.results10, go_sem]) rfl ⟨by simp [cellS, numV, dateV], ?_⟩
  exact (Ext.refl w).alloc _
set_option maxRecDepth 100000 in
set_option maxHeartbeats 1000000 in
theorem cell_date_3 (n : Int) (w : World) (hme : (n.tmod 5 + 5) % 5 = 3)  : Calls Tryz.prog 10 #[.int .i64 3, .int .i64 n] w (RetV0 w (cellS 3 3)) := by
  obtain ⟨b1, b2⟩ := next_bd n 5 (by omega)
  go_enter Tryz.func10, Tryz.ntmps10
  go_wp2
  refine bodyPost_ret (v := .agg #[.int .i64 3, .string ⟨#[]⟩, .int .i64 0, .int .i64 0, .int .i64 738003, .slice none 0 0, .slice none 0 0]) (by simp [results, Tryz.results10, go_sem]) rfl ⟨by simp [cellS, numV, dateV], ?_⟩
  exact (Ext.refl w).alloc _
theorem cell_date (n : Int) (w : World) (m : Nat) (hm : m < 4) (hme : (n.tmod 5 + 5) % 5 = (m : Int))  : Calls Tryz.prog 10 #[.int .i64 3, .int .i64 n] w (RetV0 w (cellS 3 m)) := by
  match m, hm, hme with
  | 0, _, h => exact cell_date_0 n w h
  | 1, _, h => exact cell_date_1 n w h
  | 2, _, h => exact cell_date_2 n w h
  | 3, _, h => exact cell_date_3 n w h
set_option maxRecDepth 100000 in
set_option maxHeartbeats 1000000 in
theorem cell_text_0 (kind : Int) (n : Int) (w : World) (hme : (n.tmod 5 + 5) % 5 = 0) (hk2 : (kind == 2) = false) (hk3 : (kind == 3) = false) : Calls Tryz.prog 10 #[.int .i64 kind, .int .i64 n] w (RetV0 w (cellS kind 0)) := by
  obtain ⟨b1, b2⟩ := next_bd n 5 (by omega)
  have HK2 := Lib.hid (show kind ≠ 2 by simpa using hk2)
  have HK3 := Lib.hid (show kind ≠ 3 by simpa using hk3)
  go_enter Tryz.func10, Tryz.ntmps10
  go_wp2
  refine bodyPost_ret (v := .agg #[.int .i64 1, .string sRome, .int .i64 0, .int .i64 0, .int .i64 0, .slice none 0 0, .slice none 0 0]) (by simp [results, Tryz.results10, go_sem, sRome, sOslo2, sBergen, sIt]) rfl ⟨by simp [cellS, textV, HK2.out, HK3.out], ?_⟩
  exact ((Ext.refl w).alloc _).alloc _
set_option maxRecDepth 100000 in
set_option maxHeartbeats 1000000 in
theorem cell_text_1 (kind : Int) (n : Int) (w : World) (hme : (n.tmod 5 + 5) % 5 = 1) (hk2 : (kind == 2) = false) (hk3 : (kind == 3) = false) : Calls Tryz.prog 10 #[.int .i64 kind, .int .i64 n] w (RetV0 w (cellS kind 1)) := by
  obtain ⟨b1, b2⟩ := next_bd n 5 (by omega)
  have HK2 := Lib.hid (show kind ≠ 2 by simpa using hk2)
  have HK3 := Lib.hid (show kind ≠ 3 by simpa using hk3)
  go_enter Tryz.func10, Tryz.ntmps10
  go_wp2
  refine bodyPost_ret (v := .agg #[.int .i64 1, .string sOslo2, .int .i64 0, .int .i64 0, .int .i64 0, .slice none 0 0, .slice none 0 0]) (by simp [results, Tryz.results10, go_sem, sRome, sOslo2, sBergen, sIt]) rfl ⟨by simp [cellS, textV, HK2.out, HK3.out], ?_⟩
  exact ((Ext.refl w).alloc _).alloc _
set_option maxRecDepth 100000 in
set_option maxHeartbeats 1000000 in
theorem cell_text_2 (kind : Int) (n : Int) (w : World) (hme : (n.tmod 5 + 5) % 5 = 2) (hk2 : (kind == 2) = false) (hk3 : (kind == 3) = false) : Calls Tryz.prog 10 #[.int .i64 kind, .int .i64 n] w (RetV0 w (cellS kind 2)) := by
  obtain ⟨b1, b2⟩ := next_bd n 5 (by omega)
  have HK2 := Lib.hid (show kind ≠ 2 by simpa using hk2)
  have HK3 := Lib.hid (show kind ≠ 3 by simpa using hk3)
  go_enter Tryz.func10, Tryz.ntmps10
  go_wp2
  refine bodyPost_ret (v := .agg #[.int .i64 1, .string sBergen, .int .i64 0, .int .i64 0, .int .i64 0, .slice none 0 0, .slice none 0 0]) (by simp [results, Tryz.results10, go_sem, sRome, sOslo2, sBergen, sIt]) rfl ⟨by simp [cellS, textV, HK2.out, HK3.out], ?_⟩
  exact ((Ext.refl w).alloc _).alloc _
set_option maxRecDepth 100000 in
set_option maxHeartbeats 1000000 in
theorem cell_text_3 (kind : Int) (n : Int) (w : World) (hme : (n.tmod 5 + 5) % 5 = 3) (hk2 : (kind == 2) = false) (hk3 : (kind == 3) = false) : Calls Tryz.prog 10 #[.int .i64 kind, .int .i64 n] w (RetV0 w (cellS kind 3)) := by
  obtain ⟨b1, b2⟩ := next_bd n 5 (by omega)
  have HK2 := Lib.hid (show kind ≠ 2 by simpa using hk2)
  have HK3 := Lib.hid (show kind ≠ 3 by simpa using hk3)
  go_enter Tryz.func10, Tryz.ntmps10
  go_wp2
  refine bodyPost_ret (v := .agg #[.int .i64 1, .string sIt, .int .i64 0, .int .i64 0, .int .i64 0, .slice none 0 0, .slice none 0 0]) (by simp [results, Tryz.results10, go_sem, sRome, sOslo2, sBergen, sIt]) rfl ⟨by simp [cellS, textV, HK2.out, HK3.out], ?_⟩
  exact ((Ext.refl w).alloc _).alloc _
theorem cell_text (kind : Int) (n : Int) (w : World) (m : Nat) (hm : m < 4) (hme : (n.tmod 5 + 5) % 5 = (m : Int)) (hk2 : (kind == 2) = false) (hk3 : (kind == 3) = false) : Calls Tryz.prog 10 #[.int .i64 kind, .int .i64 n] w (RetV0 w (cellS kind m)) := by
  match m, hm, hme with
  | 0, _, h => exact cell_text_0 kind n w h hk2 hk3
  | 1, _, h => exact cell_text_1 kind n w h hk2 hk3
  | 2, _, h => exact cell_text_2 kind n w h hk2 hk3
  | 3, _, h => exact cell_text_3 kind n w h hk2 hk3
set_option maxRecDepth 100000 in
set_option maxHeartbeats 1000000 in
theorem cell_none (kind n : Int) (w : World) (hme : (n.tmod 5 + 5) % 5 = 4) : Calls Tryz.prog 10 #[.int .i64 kind, .int .i64 n] w (RetV0 w (cellS kind 4)) := by
  obtain ⟨b1, b2⟩ := next_bd n 5 (by omega)
  go_enter Tryz.func10, Tryz.ntmps10
  go_wp2
  refine bodyPost_ret (v := .agg #[.int .i64 0, .string ⟨#[]⟩, .int .i64 0, .int .i64 0, .int .i64 0, .slice none 0 0, .slice none 0 0]) (by simp [results, Tryz.results10, go_sem]) rfl ⟨by simp [cellS, Val.zero], ?_⟩
  exact (Ext.refl w).alloc _
theorem r09_Cell (kind n : Int) (w : World) (m : Nat) (hm : (n.tmod 5 + 5).tmod 5 = (m : Int)) : Calls Tryz.prog 10 #[.int .i64 kind, .int .i64 n] w (RetV0 w (cellS kind m)) := by
  obtain ⟨b1, b2⟩ := next_bd n 5 (by omega)
  have hm5 : m < 5 := by have := (next_r n 5 (by omega)).2; omega
  rw [tmod5 _ (by omega)] at hm
  by_cases h4 : m = 4
  · subst h4
    exact cell_none kind n w hm
  · by_cases h2 : kind = 2
    · subst h2; exact cell_number n w m (by omega) hm
    · by_cases h3 : kind = 3
      · subst h3; exact cell_date n w m (by omega) hm
      · exact cell_text kind n w m (by omega) hm (by simpa using h2) (by simpa using h3)
end Go.Proofs.YtcmmkeiiapbgcaaGreatDoor
