/- Lemmas. No conditions. -/
import Derived.Test.YtidacnalcdhckaaGreatDoorOq33
import Derived.Test.YtidacnalcdhckaaGreatDoorOq38
import Derived.Test.YtidacnalcdhckaaGreatDoorOq39
import Derived.Deep.DeepCutAuto
namespace Go.Proofs.YtidacnalcdhckaaGreatDoor
open Go Go.RowKit Tryz

abbrev Qv:=(World→Prop) × (Nat→Nat→Prop)
def LV(Q:Qv)(γ:Gz)(w:World)(γ':Gz)(w':World):Prop:=LZ Q.2 γ w γ' w'∧(Q.1 w→Q.1 w')
theorem LV.refl(Q:Qv)(γ:Gz)(w:World):LV Q γ w γ w:=⟨LZ.refl _ _ _,fun h=>h⟩
theorem LV.trans(Q:Qv)(γ:Gz)(w:World)(γ':Gz)(w':World)(γ'':Gz)(w'':World)(h:LV Q γ w γ' w')(k:LV Q γ' w' γ'' w''):LV Q γ w γ'' w'':=⟨LZ.trans _ _ _ _ _ _ _ h.1 k.1,fun q=>k.2 (h.2 q)⟩
theorem IRA(Q:Qv)(γ:Gz){w w':World}(hv:Q.1 w→Q.1 w')(h:Ext w w'):LV Q γ w γ w':=⟨H4A _ γ h,hv⟩
instance (Q:Qv):Rf (LV Q):=⟨LV.refl Q⟩
def MkV(N g:Nat)(A:OA)(l:List Int)(c:Nat)(w':World):Prop:=(∃ K,NumIs w' g A l.length c K)∧IntsL w' (fun b=>b<N) A l
theorem MkV.keep{N g c:Nat}{A:OA}{l:List Int}{w w':World}(h:MkV N g A l c w)(k:Kept (fun b=>b<N∨b=g) w w'):MkV N g A l c w':=by
 obtain ⟨⟨K,h1⟩,h2⟩:=h;exact ⟨⟨K,h1.keep (k.mono fun b _ hb=>.inr hb)⟩,h2.keep (k.mono fun b _ hb=>.inl hb)⟩
theorem MkV.ext{N g c:Nat}{A:OA}{l:List Int}{w w':World}(h:MkV N g A l c w)(k:Ext w w'):MkV N g A l c w':=h.keep (k.kept _)
end Go.Proofs.YtidacnalcdhckaaGreatDoor
