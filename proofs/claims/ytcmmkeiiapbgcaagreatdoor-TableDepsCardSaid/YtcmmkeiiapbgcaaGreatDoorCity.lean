/- The law's table of cities. No conditions. -/
import Derived.Test.YtcmmkeiiapbgcaaGreatDoorFlat
namespace Go.Proofs.YtcmmkeiiapbgcaaGreatDoor
open Go Go.RowKit

def sCity : ByteArray := ⟨#[99, 105, 116, 121]⟩
def sZip : ByteArray := ⟨#[122, 105, 112]⟩
def sCountry : ByteArray := ⟨#[99, 111, 117, 110, 116, 114, 121]⟩
def rowC (ys : List Val) : Array Value := (ys.flatMap fun y => vcells y none 0 none 0).toArray
def citiesT : Look := ⟨⟨#[116]⟩, [sCity, sZip, sCountry], [[textV ⟨#[82, 111, 109, 101]⟩, numV 1 0, textV ⟨#[105, 116]⟩], [textV ⟨#[79, 115, 108, 111]⟩, numV 2 0, textV ⟨#[110, 111]⟩], [textV ⟨#[66, 101, 114, 103, 101, 110]⟩, numV 3 0, textV ⟨#[110, 111]⟩]]⟩
theorem flat_text (s : ByteArray) (h : s.size ≤ 4294967296) : flatV (textV s) := ⟨rfl, rfl, h⟩
theorem flat_num (n s : Int) : flatV (numV n s) := ⟨rfl, rfl, by show (0 : Nat) ≤ 4294967296; omega⟩

theorem row3 (a b : ByteArray) (n : Int) (ha : a.size ≤ 4294967296) (hb : b.size ≤ 4294967296) {w : World} {g t : Nat} (h : Blk w g t (rowC [textV a, numV n 0, textV b])) : Row w (fun b => b = g) 1 (some ⟨g, 0, none⟩) [textV a, numV n 0, textV b] := by
  refine Row.flat h rfl (fun y hy => ?_) (by omega) (by simp)
  simp only [List.mem_cons, List.not_mem_nil, or_false] at hy
  rcases hy with rfl | rfl | rfl
  · exact flat_text _ ha
  · exact flat_num _ _
  · exact flat_text _ hb
theorem cities_mem {v : World} {k1 a b : Nat} {S : Nat → Prop} (B1 : Blk v k1 9 #[.string sCity, .string sZip, .string sCountry]) (C1 : Blk v a 33 (rowC [textV ⟨#[82, 111, 109, 101]⟩, numV 1 0, textV ⟨#[105, 116]⟩])) (C2 : Blk v b 33 (rowC [textV ⟨#[79, 115, 108, 111]⟩, numV 2 0, textV ⟨#[110, 111]⟩]))
    (h1 : S k1) (h2 : S a) (h3 : S b) (h4 : S v.heap.size) (h5 : S (v.heap.size + 1)) :
    RL ((v.alloc (.cells (rowC [textV ⟨#[66, 101, 114, 103, 101, 110]⟩, numV 3 0, textV ⟨#[110, 111]⟩]) 33)).alloc (.cells #[.slice (some ⟨a, 0, none⟩) 3 3, .slice (some ⟨b, 0, none⟩) 3 3, .slice (some ⟨v.heap.size, 0, none⟩) 3 3] 45)) S 1 citiesT (some ⟨k1, 0, none⟩) (some ⟨v.heap.size + 1, 0, none⟩) := by
  have x : Ext v ((v.alloc (.cells (rowC [textV ⟨#[66, 101, 114, 103, 101, 110]⟩, numV 3 0, textV ⟨#[110, 111]⟩]) 33)).alloc (.cells #[.slice (some ⟨a, 0, none⟩) 3 3, .slice (some ⟨b, 0, none⟩) 3 3, .slice (some ⟨v.heap.size, 0, none⟩) 3 3] 45)) := ((Ext.refl v).alloc _).alloc _
  have C3 := (Blk.new v 33 (rowC [textV ⟨#[66, 101, 114, 103, 101, 110]⟩, numV 3 0, textV ⟨#[110, 111]⟩])).keep (Kept.alloc _ _ (.cells #[.slice (some ⟨a, 0, none⟩) 3 3, .slice (some ⟨b, 0, none⟩) 3 3, .slice (some ⟨v.heap.size, 0, none⟩) 3 3] 45))
  have D := Blk.new (v.alloc (.cells (rowC [textV ⟨#[66, 101, 114, 103, 101, 110]⟩, numV 3 0, textV ⟨#[110, 111]⟩]) 33)) 45 #[.slice (some ⟨a, 0, none⟩) 3 3, .slice (some ⟨b, 0, none⟩) 3 3, .slice (some ⟨v.heap.size, 0, none⟩) 3 3]
  rw [show (v.alloc (.cells (rowC [textV ⟨#[66, 101, 114, 103, 101, 110]⟩, numV 3 0, textV ⟨#[110, 111]⟩]) 33)).heap.size = v.heap.size + 1 by simp] at D
  refine ⟨by decide, (Strs.of_blk (B1.keep (x.kept _)) rfl (by decide) (by decide)).mono (fun i _ hi => hi ▸ h1), Rows.build D rfl h5 (by decide) ?_⟩
  intro i r hi
  match i, hi with
  | 0, hi => cases hi; exact ⟨_, 3, rfl, Nat.le_refl _, (row3 _ _ _ (by decide) (by decide) (C1.keep (x.kept _))).mono (fun i _ hi => hi ▸ h2)⟩
  | 1, hi => cases hi; exact ⟨_, 3, rfl, Nat.le_refl _, (row3 _ _ _ (by decide) (by decide) (C2.keep (x.kept _))).mono (fun i _ hi => hi ▸ h3)⟩
  | 2, hi => cases hi; exact ⟨_, 3, rfl, Nat.le_refl _, (row3 _ _ _ (by decide) (by decide) C3).mono (fun i _ hi => hi ▸ h4)⟩
  | n + 3, hi => simp [citiesT] at hi

set_option maxRecDepth 100000 in
set_option maxHeartbeats 1000000 in
theorem law_cities (w : World) : Calls Tryz.prog 37 #[] w (RetL w citiesT) := by
  go_enter Tryz.func37, Tryz.ntmps37
  go_wp2_with fail
  refine (law_text _ _).mono ?_
  rintro e1 w1 ⟨rfl, hx1⟩
  have HX1 := Lib.hid hx1
  have hs1 := hx1.size
  clear hx1
  go_wp2_with fail
  refine (law_number _ _).mono ?_
  rintro e2 w2 ⟨rfl, hx2⟩
  have HX2 := Lib.hid hx2
  have hs2 := hx2.size
  clear hx2
  go_wp2_with fail
  refine (law_text _ _).mono ?_
  rintro e3 w3 ⟨rfl, hx3⟩
  have HX3 := Lib.hid hx3
  have hs3 := hx3.size
  clear hx3
  go_wp2_with fail
  refine (law_text _ _).mono ?_
  rintro e4 w4 ⟨rfl, hx4⟩
  have HX4 := Lib.hid hx4
  have hs4 := hx4.size
  clear hx4
  go_wp2_with fail
  refine (law_number _ _).mono ?_
  rintro e5 w5 ⟨rfl, hx5⟩
  have HX5 := Lib.hid hx5
  have hs5 := hx5.size
  clear hx5
  go_wp2_with fail
  refine (law_text _ _).mono ?_
  rintro e6 w6 ⟨rfl, hx6⟩
  have HX6 := Lib.hid hx6
  have hs6 := hx6.size
  clear hx6
  go_wp2_with fail
  refine (law_text _ _).mono ?_
  rintro e7 w7 ⟨rfl, hx7⟩
  have HX7 := Lib.hid hx7
  have hs7 := hx7.size
  clear hx7
  go_wp2_with fail
  refine (law_number _ _).mono ?_
  rintro e8 w8 ⟨rfl, hx8⟩
  have HX8 := Lib.hid hx8
  have hs8 := hx8.size
  clear hx8
  go_wp2_with fail
  refine (law_text _ _).mono ?_
  rintro e9 w9 ⟨rfl, hx9⟩
  have HX9 := Lib.hid hx9
  have hs9 := hx9.size
  clear hx9
  have x0 : Ext w w1 := ((Ext.refl w).alloc _).alloc _ |>.trans HX1.out
  have x14 : Ext w1 w4 := HX2.out.trans (HX3.out.trans (((Ext.refl _).alloc _).trans HX4.out))
  have x47 : Ext w4 w7 := HX5.out.trans (HX6.out.trans (((Ext.refl _).alloc _).trans HX7.out))
  have x79 : Ext w7 w9 := HX8.out.trans HX9.out
  have b0 : Blk w9 w.heap.size 28 #[.string ⟨#[]⟩, .slice none 0 0, .slice none 0 0] := ((((Blk.new w 28 #[.string ⟨#[]⟩, .slice none 0 0, .slice none 0 0]).keep (Kept.alloc _ _ _)).keep (HX1.out.kept _)).keep ((x14.trans (x47.trans x79)).kept _))
  have b1 : Blk w9 (w.heap.size + 1) 9 #[.string sCity, .string sZip, .string sCountry] := by
    have := ((Blk.new (w.alloc (.cells #[.string ⟨#[]⟩, .slice none 0 0, .slice none 0 0] 28)) 9 #[.string sCity, .string sZip, .string sCountry]).keep (HX1.out.kept _)).keep ((x14.trans (x47.trans x79)).kept _)
    simpa using this
  have c1 : Blk w9 w3.heap.size 33 (rowC [textV ⟨#[82, 111, 109, 101]⟩, numV 1 0, textV ⟨#[105, 116]⟩]) := ((Blk.new w3 33 (rowC [textV ⟨#[82, 111, 109, 101]⟩, numV 1 0, textV ⟨#[105, 116]⟩])).keep (HX4.out.kept _)).keep ((x47.trans x79).kept _)
  have c2 : Blk w9 w6.heap.size 33 (rowC [textV ⟨#[79, 115, 108, 111]⟩, numV 2 0, textV ⟨#[110, 111]⟩]) := ((Blk.new w6 33 (rowC [textV ⟨#[79, 115, 108, 111]⟩, numV 2 0, textV ⟨#[110, 111]⟩])).keep (HX7.out.kept _)).keep (x79.kept _)
  have hz1 : w.heap.size + 1 < w1.heap.size := by have := hs1; simp at this; omega
  have hz4 := x14.size
  have hz7 := x47.size
  have hz9 := x79.size
  have hz3 : w1.heap.size ≤ w3.heap.size := by omega
  have hz36 : w3.heap.size < w6.heap.size := by have := hs4; simp at this; omega
  have hz69 : w6.heap.size < w9.heap.size := by have := hs7; simp at this; omega
  have HX := Lib.hid (x0.trans (x14.trans (x47.trans x79)))
  have HB1 := Lib.hid b1
  have HC1 := Lib.hid c1
  have HC2 := Lib.hid c2
  have HB0 := Lib.hid b0
  have r0 := b0.cell (i := 0) rfl
  have r1 := b0.cell (i := 1) rfl
  have r2 := b0.cell (i := 2) rfl
  have rf := b0.frozen
  have rz := b0.lt
  clear hs1 hs2 hs3 hs4 hs5 hs6 hs7 hs8 hs9 x0 x14 x47 x79 b0 b1 c1 c2 HX1 HX2 HX3 HX4 HX5 HX6 HX7 HX8 HX9 hz4 hz7 hz9
  go_wp2
  refine bodyPost_ret (v := .agg #[.string ⟨#[116]⟩, .slice (some ⟨w.heap.size + 1, 0, none⟩) 3 3, .slice (some ⟨w9.heap.size + 1, 0, none⟩) 3 3]) (by simp [results, Tryz.results37, go_sem, r0, r1, r2, rf, rz]) rfl ⟨_, 3, _, 3, rfl, ⟨Nat.le_refl _, Nat.le_refl _⟩, ?_, ?_⟩
  · obtain ⟨v, hv⟩ : ∃ v, v = ((w9.setCell ⟨w.heap.size, 0, none⟩ (Value.string ⟨#[116]⟩)).setCell ⟨w.heap.size, 1, none⟩ (Value.slice (some ⟨w.heap.size + 1, 0, none⟩) 3 3)).setCell ⟨w.heap.size, 2, none⟩ (Value.slice (some ⟨w9.heap.size + 1, 0, none⟩) 3 3) := ⟨_, rfl⟩
    have hsz : v.heap.size = w9.heap.size := by rw [hv]; simp [World.setCell]
    have hk : Kept (fun b => w.heap.size < b) w9 v := by
      rw [hv]
      iterate 3 with_reducible refine Kept.set2 ?_ (by simp)
      exact Kept.refl _ _
    have hm := cities_mem (S := Fresh w) (HB1.out.keep (hk.mono fun i _ hi => by subst hi; omega)) (HC1.out.keep (hk.mono fun i _ hi => by subst hi; omega)) (HC2.out.keep (hk.mono fun i _ hi => by subst hi; omega)) (by unfold Fresh; omega) (by unfold Fresh; omega) (by unfold Fresh; omega) (by unfold Fresh; omega) (by unfold Fresh; omega)
    rw [hsz, hv] at hm
    exact hm
  · refine Ext.alloc (Ext.alloc ?_ _) _
    iterate 3 with_reducible refine Ext.set2 ?_ (by omega) _
    exact HX.out
end Go.Proofs.YtcmmkeiiapbgcaaGreatDoor
