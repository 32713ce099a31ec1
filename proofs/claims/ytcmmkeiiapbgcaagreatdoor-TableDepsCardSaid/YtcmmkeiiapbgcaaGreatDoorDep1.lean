/- What the making of a dependency keeps in memory; append as one operation of a drawn region. No conditions. -/
import Derived.Test.YtcmmkeiiapbgcaaGreatDoorNext
import Derived.Test.YtcmmkeiiapbgcaaGreatDoorCity
namespace Go.Proofs.YtcmmkeiiapbgcaaGreatDoor
open Go Go.RowKit

theorem blkAt (w : World) (t : Nat) (cs : Array Value) {n : Nat} (hn : w.heap.size = n) : Blk (w.alloc (.cells cs t)) n t cs := hn ▸ Blk.new w t cs
def sSince : ByteArray := ⟨#[115, 105, 110, 99, 101]⟩
def sX : ByteArray := ⟨#[120]⟩
def names5 : Array Value := #[.string sCity, .string sZip, .string sCountry, .string sSince, .string sX]
theorem names5_at (r : Nat) (hr : r < 5) : ∃ s : ByteArray, names5[r]? = some (.string s) ∧ s.size ≤ 20 := by
  match r, hr with
  | 0, _ => exact ⟨_, rfl, by decide⟩
  | 1, _ => exact ⟨_, rfl, by decide⟩
  | 2, _ => exact ⟨_, rfl, by decide⟩
  | 3, _ => exact ⟨_, rfl, by decide⟩
  | 4, _ => exact ⟨_, rfl, by decide⟩
  | n + 5, h => omega
/-- append, as a step of the linear law. -/
theorem lin_app {P : Program} {o : Oper} {ρ : Operand → Value} {K : Value → World → Prop} {w : World} {base e sz n c : Nat} {A : Option Addr} {xs : List Value} (s x : Operand) {t by_ : Nat}
    (ho : o.op = .call { callee := .builtin .append, args := #[s, x], argTypes := #[t, t] }) (ti : TI P t e sz by_) (hs : ρ s = .slice A n c) (hown : Own w base e sz A n c xs)
    {S : Nat → Prop} {B : Option Addr} {m c2 : Nat} {news : List Value} (hx : ρ x = .slice B m c2) (hr : Rd w S B news) (hl : news.length = m * sz) (h1 : ∀ u ∈ news, u.oneCell' = true)
    (h63 : (n + m) * by_ ≤ 140737488355328) (hby : 0 < by_) (hbase : base ≤ w.heap.size)
    (h : ∀ A' c' w', Own w' base e sz A' (n + m) c' (xs ++ news) → w.grownBy w' (ob A) → (ob A' = ob A ∨ ob A' = some w.heap.size) → K (.slice A' (n + m) c') w') :
    linUpon P K ((execOp ρ o).run P w) := by
  obtain ⟨A', c', w', hrun, h2, h3, h4⟩ := run_app w o.type ti hown (c2 := c2) hr hl h1 h63 hby hbase
  unfold execOp
  simp only [ho, resolve, invoke, builtin, Sem.run_bind, Sem.run_pure, Result.andThen_ok, List.map_toArray, List.map_cons, List.map_nil, hs, hx, hrun]
  exact h A' c' w' h2 h3 h4
/-- The memory of 'Depends'. -/
structure DC (w : World) (A : Option Addr) (n c : Nat) (s : ByteArray) (A' : Option Addr) (c' : Nat) (fs : List ByteArray) (wr : World) : Prop where
  ext : Ext w wr
  gr : Blk wr w.heap.size 52 #[.slice none 0 0, .string ⟨#[]⟩]
  num : ∃ K, NumIs wr (w.heap.size + 1) A n c K
  gn : Blk wr (w.heap.size + 1 + 1) 9 names5
  gd : Blk wr (w.heap.size + 3) 52 #[.slice A' fs.length c', .string s]
  own : OwnSs wr (w.heap.size + 4) A' c' fs
theorem DC.more {w wr wr' : World} {A A' : Option Addr} {n c c' : Nat} {s : ByteArray} {fs : List ByteArray} (h : DC w A n c s A' c' fs wr) (hx : Ext wr wr') : DC w A n c s A' c' fs wr' := by
  obtain ⟨K, hK⟩ := h.num
  exact ⟨h.ext.trans hx, h.gr.keep (hx.kept _), ⟨K, hK.keep (hx.kept _)⟩, h.gn.keep (hx.kept _), h.gd.keep (hx.kept _), h.own.ext hx⟩
theorem Only.own {g : Nat} {w w' : World} (h : Only g w w') {base e sz n c : Nat} {A : Option Addr} {xs : List Value} (ho : Own w base e sz A n c xs) (hg : g < base) : Own w' base e sz A n c xs :=
  ho.keep (h.kept fun b _ hb => by have := (ho.blk hb).1; omega)
theorem DC.next {w wr wr' : World} {A A' : Option Addr} {n c c' : Nat} {s : ByteArray} {fs : List ByteArray} (h : DC w A n c s A' c' fs wr) (ho : Only (w.heap.size + 1) wr wr') {K : Nat} (hK : NumIs wr' (w.heap.size + 1) A n c K) : DC w A n c s A' c' fs wr' :=
  ⟨h.ext.only ho (by omega), h.gr.keep (ho.kept fun b _ e => by omega), ⟨K, hK⟩, h.gn.keep (ho.kept fun b _ e => by omega), h.gd.keep (ho.kept fun b _ e => by omega), ho.own h.own.1 (by omega), h.own.2⟩
/-- Behind the append, ahead of the store. -/
structure DA (w : World) (A : Option Addr) (n c : Nat) (s : ByteArray) (A' : Option Addr) (c' : Nat) (fs : List ByteArray) (wr : World) : Prop where
  ext : Ext w wr
  gr : Blk wr w.heap.size 52 #[.slice none 0 0, .string ⟨#[]⟩]
  num : ∃ K, NumIs wr (w.heap.size + 1) A n c K
  gn : Blk wr (w.heap.size + 1 + 1) 9 names5
  gd : ∃ x, Blk wr (w.heap.size + 3) 52 #[x, .string s]
  own : OwnSs wr (w.heap.size + 4) A' c' fs
theorem DC.app {w wr wr' : World} {A A' A4 : Option Addr} {n c c' c4 : Nat} {s t : ByteArray} {fs : List ByteArray} (h : DC w A n c s A' c' fs wr) (hg : wr.grownBy wr' (ob A')) (ho : Own wr' (w.heap.size + 4) 9 1 A4 (fs.length + 1) c4 (fs.map Value.string ++ [.string t])) (ht : t.size ≤ 4294967296) : DA w A n c s A4 c4 (fs ++ [t]) wr' := by
  obtain ⟨K, hK⟩ := h.num
  have hk : ∀ g, g < w.heap.size + 4 → Kept (fun b => b = g) wr wr' := fun g hg' => Kept.of_grown hg fun b hb _ e => by
    subst hb
    have := (h.own.1.blk e.symm).1
    omega
  refine ⟨Ext.grown h.ext hg fun b hb => by have := (h.own.1.blk hb).1; omega, h.gr.keep (hk _ (by omega)), ⟨K, hK.keep (hk _ (by omega))⟩, h.gn.keep (hk _ (by omega)), ⟨_, h.gd.keep (hk _ (by omega))⟩, ?_, ?_⟩
  · simpa using ho
  · intro x hx
    rcases List.mem_append.1 hx with hx | hx
    · exact h.own.2 x hx
    · simp at hx; subst hx; exact ht
theorem DA.store {w wr : World} {A A' : Option Addr} {n c c' : Nat} {s : ByteArray} {fs : List ByteArray} (h : DA w A n c s A' c' fs wr) : DC w A n c s A' c' fs (wr.setCell ⟨w.heap.size + 3, 0, none⟩ (.slice A' fs.length c')) := by
  obtain ⟨K, hK⟩ := h.num
  obtain ⟨x, hx⟩ := h.gd
  have ho := (Only.refl (w.heap.size + 3) wr).set 0 (.slice A' fs.length c')
  exact ⟨h.ext.only ho (by omega), h.gr.keep (ho.kept fun b _ e => by omega), ⟨K, hK.keep (ho.kept fun b _ e => by omega)⟩, h.gn.keep (ho.kept fun b _ e => by omega), hx.set 0 _, ho.own h.own.1 (by omega), h.own.2⟩
end Go.Proofs.YtcmmkeiiapbgcaaGreatDoor
