/- From the row's reading of the arguments to the words of the walks of the Question laws. No conditions. -/
import Derived.Test.YtomdpipekmcojaaGreatDoorBk24
import Derived.Test.YtomdpipekmcojaaGreatDoorRows
import Derived.Test.YtomdpipekmcojaaGreatDoorTie
import Derived.Test.YtomdpipekmcojaaGreatDoorCards
import Derived.ProofKit
import Derived.LaidMore
import Derived.OpenShut
import Derived.ShutString
import Derived.ChangeOld
import Derived.Stop.Joined
import Derived.SevenTiedAt
import Derived.Deep.Matrix
namespace Go.Proofs.YtomdpipekmcojaaGreatDoor
open Go Go.ChangeShapes Go.WideShapes Go.ChangeAt Go.WideMaps Go.WideElems Go.RowKit

theorem own:ownKnob Tryz.prog.godebug=none:=by kernel_rfl
theorem laidOut:laidOutB Tryz.prog=true:=by kernel_rfl
theorem gTens:Tryz.prog.globalNamed "concord/decimal.tens" = some 0:=by kernel_rfl
theorem tTens:(Tryz.prog.globals[0]?).map (·.type)=some 236:=by kernel_rfl
theorem spot_none {W:World} {a:Addr} {v:Value} (h:W.cell? a=some v):a.spot=none:=by
 unfold World.cell? at h;split at h
 ·split at h
  ·cases h
  ·rename_i hs; simpa using hs
 ·cases h
theorem add_none {a:Addr} (h:a.spot=none) (n:Nat):a.add n=⟨a.block,a.off+n,none⟩:=by
 obtain ⟨b,o,s⟩:=a;simp at h;subst h;unfold Addr.add;split
 ·rename_i h0; subst h0; rfl
 ·rfl
theorem rd_cells {W:World} {a:Addr} {xs:List Value} (h:∀ j u,xs[j]?=some u→W.cell? (a.add j)=some u):Rd W (fun _=>True) (some a) xs:=by
 rcases xs with _ | ⟨x,xs⟩
 ·exact Or.inl rfl
 ·have hs:a.spot=none:=spot_none (a:=a) (v:=x) (by have:=h 0 x rfl; simpa [Addr.add] using this);refine Or.inr ⟨a.block,a.off,?_,trivial,?_,fun j u hj => ?_⟩
  ·obtain ⟨b,o,s⟩:=a; simp at hs; subst hs; rfl
  ·have h0:=h 0 x rfl;rw [add_none hs] at h0;unfold World.cell? at h0
   rcases Nat.lt_or_ge a.block W.heap.size with h1 | h1
   ·exact h1
   ·simp only [Array.getElem?_eq_none h1] at h0; cases h0
  ·rw [← add_none hs]; exact h j u hj
theorem intsL_of {W:World} {a:Addr} {zs:List Int} {len:Nat} (hc:∀ i,i<zs.length→W.cell? (a.add i)=some (.int .i64 (zs.getD i 0))) (hm:zs.length≤maxLen):Rd W (fun _=>True) (some a) ((zs.take len).map (Value.int .i64))∧(zs.take len).length≤9223372036854775807:=by
 unfold maxLen at hm;refine ⟨rd_cells fun j u hj => ?_,by rw [List.length_take]; omega⟩;rw [List.getElem?_map] at hj;cases hz:(zs.take len)[j]? with
 | none=>rw [hz] at hj; cases hj
 | some z =>
  rw [hz] at hj;simp at hj;subst hj;have hlt:=(List.getElem?_eq_some_iff.1 hz).1;rw [List.length_take] at hlt;rw [hc j (by omega)];rw [List.getElem?_take,if_pos (by omega)] at hz;simp [hz]
theorem open_l {H:Type} {enc:TypeId × Value→H} {W:World} {base:Nat} {a:Option Addr} {len cap fuel:Nat} {held:Bool} {x:DataW H × List MemPlace} (h:DataW.trod enc Tryz.prog W base (fun _=>true) held fuel 26 (Value.slice a len cap).cells.toList=some x) :
  ∃ l:List Int,l.length=len∧Rd W (fun _=>True) a (l.map (Value.int .i64))∧l.length≤9223372036854775807∧l.length≤cap:=by
 rcases open_ints Tryz.underlying26 Tryz.underlying3 (by kernel_rfl) h with ⟨hcs,_⟩ | ⟨y,l,c,zs,hcs,_,hl,hm,hz,_,hcell,hwz⟩
 ·simp [Value.cells] at hcs;obtain ⟨rfl,rfl,rfl⟩:=hcs;exact ⟨[],rfl,Or.inl rfl,by simp,Nat.zero_le _⟩
 ·simp [Value.cells] at hcs;obtain ⟨rfl,rfl,rfl⟩:=hcs;simp only [if_true] at hz;exact ⟨zs.take len,by rw [List.length_take]; omega,(intsL_of hcell (by omega)).1,(intsL_of (len:=len) hcell (by omega)).2,by rw [List.length_take]; omega⟩
end Go.Proofs.YtomdpipekmcojaaGreatDoor
/- From the row's reading of the arguments to the words of the walks: rows of ints, the table of tens. No conditions. -/
namespace Go.Proofs.YtomdpipekmcojaaGreatDoor
open Go Go.ChangeShapes Go.WideShapes Go.ChangeAt Go.WideMaps Go.WideElems Go.RowKit

theorem open_ll {H:Type} {enc:TypeId × Value→H} {W:World} {base:Nat} {a:Option Addr} {len cap fuel:Nat} {held:Bool} {x:DataW H × List MemPlace} (h:DataW.trod enc Tryz.prog W base (fun _=>true) held fuel 22 (Value.slice a len cap).cells.toList=some x) :
  ∃ l:List (List Int),l.length=len∧II W (fun _=>True) a l∧l.length≤cap:=by
 rcases Deep.open_int_rows Tryz.underlying22 Tryz.underlying26 Tryz.underlying3 (by kernel_rfl) (by kernel_rfl) h with ⟨hcs,_⟩ | ⟨y,l,c,A,L,C,Z,hcs,_,hl,hm,_,hr⟩
 ·simp [Value.cells] at hcs;obtain ⟨rfl,rfl,rfl⟩:=hcs;exact ⟨[],rfl,⟨by simp,[],Or.inl rfl,rfl,by simp⟩,Nat.zero_le _⟩
 ·simp [Value.cells] at hcs;obtain ⟨rfl,rfl,rfl⟩:=hcs;unfold maxLen at hm;refine ⟨(List.range len).map fun r=>(Z r).take (L r),by simp,⟨by simp; omega,(List.range len).map fun r=>Value.slice (A r) (L r) (C r),rd_cells fun j u hj => ?_,by simp,fun i r hi => ?_⟩,by simp; omega⟩
  ·rw [List.getElem?_map] at hj
   rcases Nat.lt_or_ge j len with hlt | hge
   ·rw [List.getElem?_range hlt] at hj;simp at hj;subst hj;exact (hr j (by omega)).1
   ·rw [List.getElem?_eq_none (by simpa using hge)] at hj;cases hj
  ·rw [List.getElem?_map] at hi
   rcases Nat.lt_or_ge i len with hlt | hge
   ·rw [List.getElem?_range hlt] at hi;simp at hi;subst hi;obtain ⟨h1,h2,h3,h4,h5,h6,h7⟩:=hr i (by omega);have hll:((Z i).take (L i)).length=L i:=(by rw [List.length_take]; omega);refine ⟨A i,C i,?_,?_⟩
    ·rw [hll,List.getElem?_map,List.getElem?_range hlt]; rfl
    ·cases hA:A i with
     | none =>
      have hc:=h6 hA;have:Z i=[]:=List.eq_nil_of_length_eq_zero (by omega);rw [this];exact ⟨Or.inl (by simp),by simp⟩
     | some a' =>
      obtain ⟨_,h8⟩:=h7 a' hA;exact intsL_of (fun i' hi'=>h8 i' (by omega)) (by omega)
   ·rw [List.getElem?_eq_none (by simpa using hge)] at hi;cases hi
theorem of_laid {W:World} (h:laidMetH Tryz.prog [("concord/decimal.tens",Rows.laid_concord_decimal_tens)] W):Tens W:=by
 rw [MakeChecks.laidMetH_plain _ _ _ (by kernel_rfl)] at h;obtain ⟨ps,⟨g1,t1,cs1,f1,p1,q1,hg1,ht1,hv1,hd1,_,_⟩,_,_⟩:=h;obtain rfl:=Option.some.inj (gTens.symm.trans hg1);obtain rfl:=Option.some.inj (tTens.symm.trans ht1);obtain ⟨xs,m1,rfl,hx1,hlen,hn3,hel⟩:=DataW.trod_array Tryz.underlying236 hd1;have c3:Tryz.prog.cellsOf 3=1:=(by kernel_rfl);simp only [Prod.mk.injEq] at hx1;have key:∀ i (hi:i<7),W.cell? ⟨0,i,none⟩=cs1[i]?:=fun i _=>World.var?_cell hg1 hv1 i;have hD:(Rows.laid_concord_decimal_tens:DataW Unit)=DataW.agg (xs.map (·.1)):=hx1.1;unfold Rows.laid_concord_decimal_tens at hD;injection hD with hD;have one:∀ i (hi:i<7) (n:Int),([.lit (.int .i64 1),.lit (.int .i64 10),.lit (.int .i64 100),.lit (.int .i64 1000),.lit (.int .i64 10000),.lit (.int .i64 100000),.lit (.int .i64 1000000)]:List (DataW Unit))[i]?=some (.lit (.int .i64 n))→W.cell? ⟨0,i,none⟩=some (.int .i64 n):=by
  intro i hi n hn;rw [hD,List.getElem?_map] at hn;have h1:=hel i hi;cases hx:xs[i]? with
  | none=>rw [hx] at hn; cases hn
  | some x =>
   rw [hx] at hn h1;simp at hn;obtain ⟨k,e1,e2,_⟩:=DataW.trod_int Tryz.underlying3 h1;rw [e2] at hn;simp at hn;subst hn;rw [c3,Nat.mul_one] at e1;rw [key i hi];have:=congrArg (·[0]?) e1
   simpa [List.getElem?_take,List.getElem?_drop] using this
 exact ⟨one 0 (by decide) 1 rfl,one 1 (by decide) 10 rfl,one 2 (by decide) 100 rfl,one 3 (by decide) 1000 rfl,one 4 (by decide) 10000 rfl,one 5 (by decide) 100000 rfl,one 6 (by decide) 1000000 rfl⟩
theorem door_met (os:Os) (args:Array Value):laidMetH Tryz.prog [("concord/decimal.tens",Rows.laid_concord_decimal_tens)] ((World.doorLaid Tryz.prog 400 os).forCall (fun _ _=>0) ⟨#[],args,[]⟩).memory :=
 laidMetH_of_parts3 (fuel:=8) (laidMet_of_run' 8 (by kernel_rfl) (by kernel_rfl)) (by kernel_rfl) (by kernel_rfl)
end Go.Proofs.YtomdpipekmcojaaGreatDoor
