/- The reference's Quo of small numbers, fit and Make of decimals. Conditions: bounds on sizes. -/
import Derived.Test.YtomdpipekmcojaaGreatDoorBk3
import Derived.Sort.Walk0
namespace Go.Proofs.YtomdpipekmcojaaGreatDoor
open Go Go.RowKit

/- A drawn region, taken operation by operation: what is known of each value is found on the way. No conditions. -/

abbrev Ft (Γ:Type):=List Value→Γ→World→Prop
def gOf {Γ:Type} (Φs:List (Ft Γ)) (i:Nat) (vl:List Value) (γ:Γ) (w:World):Prop:=(Φs.getD i fun _ _ _=>True) vl γ w
def Stab {Γ:Type} (R:Γ→World→Γ→World→Prop) (Φ:Ft Γ):Prop:=∀ l γ w γ' w',R γ w γ' w'→Φ l γ w→Φ l γ' w'
def Chain {Γ:Type} (P:Program) (ops:Array Oper) (D:Nat→List Nat) (R:Γ→World→Γ→World→Prop) (N:Nat→Γ→Prop) (a0:Act) (γ0:Γ) (w0:World) (Qf:List (Ft Γ)→Prop):Nat→List (Ft Γ)→List Oper→Prop
 | _,done,[]=>Qf done.reverse
 | k,done,o :: rest=>∃ Φ:Ft Γ,Stab R Φ∧LinStep P ops D R N (gOf (Φ :: done).reverse) a0 γ0 w0 k o∧Chain P ops D R N a0 γ0 w0 Qf (k+1) (Φ :: done) rest
section
variable {Γ:Type} {P:Program} {ops:Array Oper} {D:Nat→List Nat} {R:Γ→World→Γ→World→Prop} {N:Nat→Γ→Prop} {a0:Act} {γ0:Γ} {w0:World} {Qf:List (Ft Γ)→Prop}
theorem gOf_lt {Φs:List (Ft Γ)} {i k:Nat} (h:i<k):gOf (Φs.take k) i=gOf Φs i:=by
 funext vl γ w
 unfold gOf;rw [List.getD_eq_getElem?_getD,List.getD_eq_getElem?_getD,List.getElem?_take,if_pos h]
theorem Chain.full:∀ {rest:List Oper} {k:Nat} {done:List (Ft Γ)},done.length=k→(∀ Φ∈done,Stab R Φ)→Chain P ops D R N a0 γ0 w0 Qf k done rest →
  ∃ Φs:List (Ft Γ),Φs.take k=done.reverse∧(∀ Φ∈Φs,Stab R Φ)∧Qf Φs∧∀ i o,rest[i]?=some o→LinStep P ops D R N (gOf (Φs.take (k+i+1))) a0 γ0 w0 (k+i) o
 | [],k,done,hk,hd,h=>⟨done.reverse,by rw [← hk,← List.length_reverse]; exact List.take_length,fun Φ hΦ=>hd Φ (by simpa using hΦ),h,by simp⟩
 | o :: rest,k,done,hk,hd,h=>by
  obtain ⟨Φ,h1,h2,h3⟩:=h;obtain ⟨Φs,e1,e2,e3,e4⟩:=Chain.full (rest:=rest) (k:=k+1) (done:=Φ :: done) (by simp [hk]) (fun Ψ hΨ=>by
   rcases List.mem_cons.1 hΨ with rfl | hΨ
   ·exact h1
   ·exact hd Ψ hΨ) h3
  refine ⟨Φs,?_,e2,e3,fun i o' hi => ?_⟩
  ·have:=congrArg (List.take k) e1;rw [List.take_take,Nat.min_eq_left (by omega),List.reverse_cons] at this;rw [this,List.take_append_of_le_length (by simp [hk]),← hk,← List.length_reverse];exact List.take_length
  ·cases i with
   | zero =>
    simp at hi;subst hi;rw [Nat.add_zero,e1];exact h2
   | succ i =>
    have:=e4 i o' (by simpa using hi);rwa [show k+1+i=k+(i+1) by omega] at this
theorem LinStep.congr {G G':Nat→List Value→Γ→World→Prop} {i:Nat} {o:Oper} (hp:∀ j∈predsOf o,G j=G' j) (hi:G i=G' i) (h:LinStep P ops D R N G a0 γ0 w0 i o):LinStep P ops D R N G' a0 γ0 w0 i o:=by
 intro vals γ w hR hN hpp;have:=h vals γ w hR hN (fun j hj=>by rw [hp j hj]; exact hpp j hj);rw [hi] at this;exact this
end
theorem wp_region_chain {Γ:Type} {P:Program} {l:List Oper} {Q:Exit→Act→World→Prop} {id:Nat} {a0:Act} {w0:World} (hm:P.follows .mixedOrders=true) (D:Nat→List Nat) (hB:linB l.toArray D a0.tmps.size=true)
  (R:Γ→World→Γ→World→Prop) (hrefl:∀ γ w,R γ w γ w) (htrans:∀ γ w γ' w' γ'' w'',R γ w γ' w'→R γ' w' γ'' w''→R γ w γ'' w'')
  (N:Nat→Γ→Prop) (γ0:Γ) (hN:∀ i,N i γ0)
  (h:Chain P l.toArray D R N a0 γ0 w0.drew (fun Φs=>∀ vals γ w,R γ0 w0.drew γ w→(∀ i,i<l.length→gOf Φs i ((D i).map vals) γ w)→Q .normal (lexFrame vals l 0 a0) w) 0 [] l) :
  (Code.region id l.toArray true).wp P Q a0 w0:=by
 obtain ⟨Φs,-,h2,h3,h4⟩:=Chain.full (k:=0) (done:=[]) rfl (fun _ h=>by cases h) h;obtain ⟨-,-,-,hac,-⟩:=linB_spec hB;refine wp_region_lin hm D hB R hrefl htrans N (gOf Φs) (fun i l γ w γ' w' r hg => ?_) γ0 hN (fun i o hi => ?_) (fun vals γ w hr hg=>h3 vals γ w hr fun i hi=>hg i (by simpa using hi))
 ·unfold gOf at hg ⊢;rw [List.getD_eq_getElem?_getD] at hg ⊢;cases hf:Φs[i]? with
  | none=>trivial
  | some Φ =>
   rw [hf] at hg;exact h2 Φ (List.mem_of_getElem? hf) l γ w γ' w' r hg
 ·have:=h4 i o (by simpa using hi);simp only [Nat.zero_add] at this;exact this.congr (fun j hj=>gOf_lt (by have:=hac i o j hi hj; omega)) (gOf_lt (by omega))

def FV {Γ:Type} (x:Value):Ft Γ:=fun vl _ _=>match vl with | [v]=>v=x | _=>True
def FP {Γ:Type} (Φ:Value→Γ→World→Prop):Ft Γ:=fun vl γ w=>match vl with | [v]=>Φ v γ w | _=>True
theorem FV.stab {Γ:Type} {R:Γ→World→Γ→World→Prop} (x:Value):Stab R (FV x):=fun _ _ _ _ _ _ h=>h
theorem FP.stab {Γ:Type} {R:Γ→World→Γ→World→Prop} {Φ:Value→Γ→World→Prop} (h:∀ v γ w γ' w',R γ w γ' w'→Φ v γ w→Φ v γ' w'):Stab R (FP Φ):=fun l γ w γ' w' r hf=>by
 unfold FP at hf ⊢
 match l,hf with
 | [],_=>trivial
 | [v],hf=>exact h v γ w γ' w' r hf
 | _ :: _ :: _,_=>trivial

section
variable {Γ:Type} {P:Program} {ops:Array Oper} {D:Nat→List Nat} {R:Γ→World→Γ→World→Prop} {N:Nat→Γ→Prop} {a0:Act} {γ0:Γ} {w0:World} {Qf:List (Ft Γ)→Prop} {done:List (Ft Γ)} {o:Oper} {rest:List Oper}
theorem gOf_weak {Φ:Ft Γ} {j:Nat} {vl:List Value} {γ:Γ} {w:World} (h:gOf (Φ :: done).reverse j vl γ w):gOf done.reverse j vl γ w:=by
 unfold gOf at h ⊢;rw [List.getD_eq_getElem?_getD,List.reverse_cons] at h;rw [List.getD_eq_getElem?_getD]
 rcases Nat.lt_or_ge j done.reverse.length with hj | hj
 ·rwa [List.getElem?_append_left hj] at h
 ·rw [List.getElem?_eq_none hj]; trivial
theorem gOf_last {Φ:Ft Γ} : gOf (Φ :: done).reverse done.length=Φ:=by
 funext vl γ w
 unfold gOf;rw [List.getD_eq_getElem?_getD,List.reverse_cons,List.getElem?_append_right (by simp)];simp
def Finds (ops:Array Oper) (D:Nat→List Nat) (R:Γ→World→Γ→World→Prop) (N:Nat→Γ→Prop) (a0:Act) (γ0:Γ) (w0:World) (k:Nat) (done:List (Ft Γ)) (o:Oper) (vals:Nat→Value) (γ:Γ) (w:World) (ρ:Operand→Value) (C:Prop):Prop :=
 R γ0 w0 γ w→N k γ→(∀ j,j∈predsOf o→gOf done.reverse j ((D j).map vals) γ w)→(∀ t,ρ (.tmp t)=linLook ops o a0 vals t)→(∀ v,ρ (.const v)=v)→(∀ f,ρ (.func f)=.func (.func f) #[] #[])→(∀ g,ρ (.global g)=.pointer (some ⟨g,0,none⟩))→C
theorem Chain.step {k:Nat} (Φ:Ft Γ) (hk:done.length=k) (hst:Stab R Φ)
  (h:∀ vals γ w ρ,Finds ops D R N a0 γ0 w0 k done o vals γ w ρ (linWanted o vals=true∧linUpon P (fun v w'=>∃ γ',R γ w γ' w'∧(∀ j,j≠k→j ∉ predsOf o→N j γ→N j γ')∧Φ ((D k).map (setV vals k v)) γ' w') ((execOp ρ o).run P w)))
  (next:Chain P ops D R N a0 γ0 w0 Qf (k+1) (Φ :: done) rest):Chain P ops D R N a0 γ0 w0 Qf k done (o :: rest):=by
 refine ⟨Φ,hst,fun vals γ w hR hN hp => ?_,next⟩;obtain ⟨h1,h2⟩:=h vals γ w (linEnv ops o a0 vals) hR hN (fun j hj=>gOf_weak (hp j hj)) (fun _=>rfl) (fun _=>rfl) (fun _=>rfl) (fun _=>rfl);rw [if_pos h1];have e:gOf (Φ :: done).reverse k=Φ:=(by rw [← hk]; exact gOf_last);rw [e];exact h2
theorem Chain.pure {k:Nat} {x:Value} (hrefl:∀ γ w,R γ w γ w) (hk:done.length=k)
  (h:∀ vals γ w ρ,Finds ops D R N a0 γ0 w0 k done o vals γ w ρ (linWanted o vals=true∧linUpon P (fun v w'=>v=x∧w'=w) ((execOp ρ o).run P w)))
  (hD:D k=[k]) (next:Chain P ops D R N a0 γ0 w0 Qf (k+1) (FV x :: done) rest):Chain P ops D R N a0 γ0 w0 Qf k done (o :: rest):=by
 refine Chain.step (FV x) hk (FV.stab x) (fun vals γ w ρ hR hN hp h1 h2 h3 h4 => ?_) next;obtain ⟨g1,g2⟩:=h vals γ w ρ hR hN hp h1 h2 h3 h4;refine ⟨g1,?_⟩;have key:∀ v w',v=x∧w'=w→∃ γ',R γ w γ' w'∧(∀ j,j≠k→j ∉ predsOf o→N j γ→N j γ')∧FV x ((D k).map (setV vals k v)) γ' w':=by
  rintro v w' ⟨rfl,rfl⟩;refine ⟨γ,hrefl _ _,fun _ _ _ h=>h,?_⟩;rw [hD];simp [FV,setV]
 revert g2
 cases (execOp ρ o).run P w with
 | ok n w' =>
  cases n with
  | value v=>exact key v w'
  | skip=>exact key undef w'
  | enter f args=>exact fun g2=>g2.mono fun e w'' ⟨v,e1,e2⟩=>⟨v,e1,key v w'' e2⟩
  | _=>exact id
 | _=>exact id
theorem Chain.no {k:Nat} (hk:done.length=k) (hD:D k=[k]) (h:∀ vals γ w,(∀ j,j∈predsOf o→gOf done.reverse j ((D j).map vals) γ w)→linWanted o vals=false)
  (next:Chain P ops D R N a0 γ0 w0 Qf (k+1) (FV undef :: done) rest):Chain P ops D R N a0 γ0 w0 Qf k done (o :: rest):=by
 refine ⟨FV undef,FV.stab _,fun vals γ w hR hN hp => ?_,next⟩;have h1:=h vals γ w fun j hj=>gOf_weak (hp j hj);rw [if_neg (by rw [h1]; simp)];have e:gOf ((FV undef:Ft Γ) :: done).reverse k=FV undef:=(by rw [← hk]; exact gOf_last);rw [e,hD];simp [FV,setV]
end

structure LX (X:Nat→Nat→Prop) (γ:Gh) (w:World) (γ':Gh) (w':World):Prop where
 os:w'.os=w.os
 tape:w'.tape=w.tape
 output:w'.output=w.output
 size:w.heap.size≤w'.heap.size
 kept:∀ b,b<w.heap.size→Free γ b→(∀ m,X m b→γ' m=γ m)→w'.heap[b]?=w.heap[b]?
 shape:∀ b t cs,Blk w b t cs→(∀ m,¬ X m b)→∃ cs',cs'.size=cs.size∧Blk w' b t cs'
 old:∀ k b,γ' k=some (some b)→b<w.heap.size→γ k=some (some b)
 on:∀ k b,γ k=some (some b)→γ' k=some (some b)∨γ' k=some none
 done:∀ k,γ k=some none→γ' k=some none
 big:∀ k b,1000≤k→γ' k=some (some b)→γ k=some (some b)
 inb:(∀ k b,γ k=some (some b)→b<w.heap.size)→∀ k b,γ' k=some (some b)→b<w'.heap.size
section
variable {X:Nat→Nat→Prop} {γ γ' γ'':Gh} {w w' w'':World}
theorem LX.refl (X:Nat→Nat→Prop) (γ:Gh) (w:World):LX X γ w γ w:=⟨rfl,rfl,rfl,Nat.le_refl _,fun _ _ _ _=>rfl,fun _ _ cs h _=>⟨cs,rfl,h⟩,fun _ _ h _=>h,fun _ _ h=>.inl h,fun _ h=>h,fun _ _ _ h=>h,fun h=>h⟩
theorem LX.free (h:LX X γ w γ' w') {b:Nat} (hb:b<w.heap.size) (hf:Free γ b):Free γ' b:=fun ⟨k,hk⟩=>hf ⟨k,h.old k b hk hb⟩
theorem LX.mid (h:LX X γ w γ' w') (k:LX X γ' w' γ'' w'') {m:Nat} (e:γ'' m=γ m):γ' m=γ m∧γ'' m=γ' m:=by
 cases h0:γ m with
 | none =>
  rw [h0] at e;cases h1:γ' m with
  | none=>exact ⟨rfl,e⟩
  | some x =>
   cases x with
   | none=>rw [k.done m h1] at e; cases e
   | some b=>rcases k.on m b h1 with h2 | h2 <;> (rw [h2] at e; cases e)
 | some x =>
  cases x with
  | none =>
   have h1:=h.done m h0;exact ⟨h1,(k.done m h1).trans h1.symm⟩
  | some b =>
   rw [h0] at e
   rcases h.on m b h0 with h1 | h1
   ·exact ⟨h1,e.trans h1.symm⟩
   ·rw [k.done m h1] at e; cases e
theorem LX.trans (X:Nat→Nat→Prop) (γ:Gh) (w:World) (γ':Gh) (w':World) (γ'':Gh) (w'':World) (h:LX X γ w γ' w') (k:LX X γ' w' γ'' w''):LX X γ w γ'' w'' where
 os:=k.os.trans h.os
 tape:=k.tape.trans h.tape
 output:=k.output.trans h.output
 size:=Nat.le_trans h.size k.size
 kept b hb hf hm:=(k.kept b (Nat.lt_of_lt_of_le hb h.size) (h.free hb hf) (fun m hX=>(h.mid k (hm m hX)).2)).trans (h.kept b hb hf fun m hX=>(h.mid k (hm m hX)).1)
 shape b t cs hc hX:=by
  obtain ⟨c1,e1,h1⟩:=h.shape b t cs hc hX;obtain ⟨c2,e2,h2⟩:=k.shape b t c1 h1 hX;exact ⟨c2,e2.trans e1,h2⟩
 old i b hi hb:=h.old i b (k.old i b hi (Nat.lt_of_lt_of_le hb h.size)) hb
 on i b hi:=by
  rcases h.on i b hi with h1 | h1
  ·exact k.on i b h1
  ·exact .inr (k.done i h1)
 done i hi:=k.done i (h.done i hi)
 big i b hi hb:=h.big i b hi (k.big i b hi hb)
 inb hi:=k.inb (h.inb hi)
theorem LX.of_ext (X:Nat→Nat→Prop) (γ:Gh) (h:Ext w w'):LX X γ w γ w' :=
 ⟨h.os,h.tape,h.output,h.size,fun b hb _ _=>h.block b hb,fun _b _t cs hc _=>⟨cs,rfl,hc.keep (h.kept _)⟩,fun _ _ h _=>h,fun _ _ h=>.inl h,fun _ h=>h,fun _ _ _ h=>h,fun hi i b hb=>Nat.lt_of_lt_of_le (hi i b hb) h.size⟩
theorem LX.new {k:Nat} (hl:k<1000) (hk:γ k=none) (w:World) (o:Obj):LX X γ w (γ.put k (some w.heap.size)) (w.alloc o):=by
 have h:=(Ext.refl w).alloc o;refine ⟨h.os,h.tape,h.output,h.size,fun b hb _ _=>h.block b hb,fun b t cs hc _=>⟨cs,rfl,hc.keep (h.kept _)⟩,?_,?_,?_,?_,?_⟩
 ·intro j b hj hb;unfold Gh.put at hj;split at hj
  ·simp at hj; omega
  ·exact hj
 ·intro j b hj;left;unfold Gh.put;rw [if_neg (fun e=>by subst e; rw [hk] at hj; cases hj)];exact hj
 ·intro j hj;unfold Gh.put;rw [if_neg (fun e=>by subst e; rw [hk] at hj; cases hj)];exact hj
 ·intro j b hj hb;unfold Gh.put at hb;split at hb
  ·omega
  ·exact hb
 ·intro hi j b hj;unfold Gh.put at hj;split at hj
  ·simp at hj; subst hj; simp
  ·have:=hi j b hj; simp; omega
theorem LX.inb0 (h:LX X gh0 w γ' w'):∀ k b,γ' k=some (some b)→b<w'.heap.size:=h.inb fun k b hk=>by cases hk
theorem LX.keptS (h:LX X γ w γ' w') {S:Nat→Prop} (hS:∀ b,b<w.heap.size→S b→Free γ b∧∀ m,X m b→γ' m=γ m):Kept S w w':=⟨h.size,fun b hs hb=>h.kept b hb (hS b hb hs).1 (hS b hb hs).2⟩
theorem free0 (b:Nat):Free gh0 b:=fun ⟨_,hk⟩=>by cases hk
theorem LX.kept0 (h:LX X gh0 w.drew γ' w') {S:Nat→Prop} (hS:∀ b,S b→∀ m,¬ X m b):Kept S w w':=(Kept.drew S w).trans (h.keptS fun b _ hb=>⟨free0 b,fun m hX=>absurd hX (hS b hb m)⟩)
theorem LX.ext0 (h:LX X gh0 w.drew γ' w') (hX:∀ m b,X m b→γ' m=none):Ext w w':=(Ext.refl w).drew.trans ⟨h.os,h.tape,h.output,h.size,fun b hb=>h.kept b hb (free0 b) fun m hm=>hX m b hm⟩
theorem LX.store {k g t:Nat} {cs cs':Array Value} (hk:γ k=some (some g)) (hu:∀ j,γ j=some (some g)→j=k) (ho:Only g w w') (hb:Blk w g t cs) (hb':Blk w' g t cs') (hs:cs'.size=cs.size) :
  LX X γ w (γ.put k none) w':=by
 refine ⟨ho.os,ho.tape,ho.output,Nat.le_of_eq ho.size.symm,fun b _ hf _=>ho.block b (fun e=>hf ⟨k,by rw [hk,e]⟩),?_,?_,?_,?_,?_,?_⟩
 ·intro b t' c hc _;by_cases hbg:b=g
  ·subst hbg;have:=hb.symm.trans hc;simp at this;obtain ⟨rfl,rfl⟩:=this;exact ⟨cs',hs,hb'⟩
  ·exact ⟨c,rfl,(ho.block b hbg).trans hc⟩
 ·intro j b hj _;unfold Gh.put at hj;split at hj
  ·cases hj
  ·exact hj
 ·intro j b hj;unfold Gh.put;split
  ·exact .inr rfl
  ·exact .inl hj
 ·intro j hj;unfold Gh.put;split
  ·rfl
  ·exact hj
 ·intro j b _ hj;unfold Gh.put at hj;split at hj
  ·cases hj
  ·exact hj
 ·intro hi j b hj;unfold Gh.put at hj;split at hj
  ·cases hj
  ·rw [ho.size]; exact hi j b hj
theorem LX.write {m:Nat} (hm:γ m=none) (hos:w'.os=w.os) (ht:w'.tape=w.tape) (hou:w'.output=w.output) (hz:w.heap.size≤w'.heap.size) (hb:∀ b,b<w.heap.size→¬ X m b→w'.heap[b]?=w.heap[b]?):LX X γ w (γ.put m none) w':=by
 refine ⟨hos,ht,hou,hz,fun b hl _ hX=>hb b hl fun h => ?_,fun b t cs hc hX=>⟨cs,rfl,(hb b hc.lt (hX m)).trans hc⟩,?_,?_,?_,?_,?_⟩
 ·have:=hX m h;rw [hm] at this;simp [Gh.put] at this
 ·intro j b hj _;unfold Gh.put at hj;split at hj
  ·cases hj
  ·exact hj
 ·intro j b hj;unfold Gh.put;split
  ·exact .inr rfl
  ·exact .inl hj
 ·intro j hj;unfold Gh.put;split
  ·rfl
  ·exact hj
 ·intro j b _ hj;unfold Gh.put at hj;split at hj
  ·cases hj
  ·exact hj
 ·intro hi j b hj;unfold Gh.put at hj;split at hj
  ·cases hj
  ·exact Nat.lt_of_lt_of_le (hi j b hj) hz
end
def alF (l:List (Nat × List Nat)):Nat→List Nat:=fun j=>(l.lookup j).getD []
def LM (l:List (Nat × List Nat)) (i:Nat) (γ:Gh):Prop:=(∀ k∈alF l i,γ k≠some none)∧(i<1000→(∃ s,i∈alF l s)→γ i=none)
theorem LM.zero (l:List (Nat × List Nat)) (i:Nat):LM l i gh0:=⟨fun _ _ h=>(by cases h),fun _ _=>rfl⟩
theorem alF_ok {l:List (Nat × List Nat)} {k s:Nat} {p:List Nat} (h:(l.all fun q => !(q.2.contains k) || decide (q.1=s) || p.contains q.1)=true):∀ j,k∈alF l j→j=s∨j∈p:=by
 intro j hj;unfold alF at hj;cases hl:l.lookup j with
 | none=>rw [hl] at hj; simp at hj
 | some x =>
  rw [hl] at hj;have hm:(j,x)∈l:=by
   clear h hj
   induction l with
   | nil=>simp at hl
   | cons q l ih =>
    rw [List.lookup_cons] at hl;split at hl
    ·rename_i he;obtain rfl:=Option.some.inj hl;have:j=q.1:=(by simpa using he);rw [this]; exact List.mem_cons_self
    ·exact List.mem_cons_of_mem _ (ih hl)
  have:=List.all_eq_true.1 h (j,x) hm;simp only [Bool.or_eq_true,Bool.not_eq_true',decide_eq_true_eq,List.contains_iff_mem] at this;have hk:k∈x:=(by simpa using hj)
  rcases this with (h1 | h1) | h1
  ·rw [← Bool.not_eq_true,List.contains_iff_mem] at h1; exact absurd hk h1
  ·exact .inl h1
  ·exact .inr h1
theorem LM.made {l:List (Nat × List Nat)} {γ:Gh} {i x:Nat} {p:List Nat} : ∀ j,j≠i→j ∉ p→LM l j γ→LM l j (γ.put i (some x)):=by
 rintro j hj-⟨h1,h2⟩;refine ⟨fun k hk => ?_,fun hl hs => ?_⟩
 ·unfold Gh.put;split
  ·simp
  ·exact h1 k hk
 ·unfold Gh.put;rw [if_neg hj];exact h2 hl hs
theorem LM.done {l:List (Nat × List Nat)} {γ:Gh} {s k:Nat} {p:List Nat} (h:(l.all fun q => !(q.2.contains k) || decide (q.1=s) || p.contains q.1)=true) (hk:(∃ g,γ k=some (some g))∨1000≤k):∀ j,j≠s→j ∉ p→LM l j γ→LM l j (γ.put k none):=by
 rintro j hj hp ⟨h1,h2⟩;refine ⟨fun k' hk' => ?_,fun hl hs' => ?_⟩
 ·unfold Gh.put;rw [if_neg (fun e=>by
   subst e
   rcases alF_ok h j hk' with h3 | h3
   ·exact hj h3
   ·exact hp h3)]
  exact h1 k' hk'
 ·unfold Gh.put;rw [if_neg (fun e=>by
   subst e
   rcases hk with ⟨g,hk⟩ | hk
   ·rw [h2 hl hs'] at hk; cases hk
   ·omega)]
  exact h2 hl hs'
section
variable {X:Nat→Nat→Prop} {γ γ':Gh} {w w':World}
theorem LX.key0 (h:LX X gh0 w γ w') {l:List (Nat × List Nat)} {i k:Nat} (hN:LM l i γ) (hk:k∈alF l i) (h1:1000≤k):γ k=none:=by
 cases hg:γ k with
 | none=>rfl
 | some x =>
  cases x with
  | none=>exact absurd hg (hN.1 k hk)
  | some b=>have:=h.big k b h1 hg; cases this
end
/- The reference's digits: trim. Conditions: the digits read as data. -/

def dval:List Nat→Nat
 | []=>0
 | d :: l=>d+16777216*dval l
def dgs (l:List Nat):Prop:=∀ d∈l,d<16777216
def trd (l:List Nat):Prop:=l.getLast?≠some 0
def nums (l:List Nat):List Int:=l.map fun d:Nat=>(d:Int)
theorem nums_len (l:List Nat):(nums l).length=l.length:=by simp [nums]
theorem dval_snoc0:∀ (l:List Nat),dval (l++[0])=dval l
 | []=>rfl
 | d :: l=>by simp only [List.cons_append,dval,dval_snoc0 l]
/- The reference's digits: of, minus, times, cmp. Conditions: the digits read as data. -/

theorem dval_snoc (l:List Nat) (d:Nat):dval (l++[d])=dval l+16777216 ^ l.length*d:=by
 induction l with
 | nil=>simp [dval]
 | cons e l ih =>
  simp only [List.cons_append,dval,ih,List.length_cons,Nat.pow_succ];rw [Nat.mul_add,Nat.mul_comm (16777216 ^ l.length) 16777216,Nat.mul_assoc];omega
theorem dval_lt:∀ l:List Nat,dgs l→dval l<16777216 ^ l.length
 | [],_=>by simp [dval]
 | d :: l,h=>by
  have h1:=h d List.mem_cons_self;have h2:=dval_lt l fun x hx=>h x (List.mem_cons_of_mem _ hx);simp only [dval,List.length_cons,Nat.pow_succ];omega
theorem dgs_snoc {l:List Nat} {d:Nat} (h:dgs l) (hd:d<16777216):dgs (l++[d]):=fun x hx=>by
 rcases List.mem_append.1 hx with hx | hx
 ·exact h x hx
 ·rw [List.mem_singleton.1 hx]; exact hd
theorem dval_take (l:List Nat) (k:Nat):dval (l.take (k+1))=dval (l.take k)+16777216 ^ k*l.getD k 0:=by
 rcases Nat.lt_or_ge k l.length with h | h
 ·rw [List.take_succ_eq_append_getElem h,dval_snoc,List.length_take,Nat.min_eq_left (by omega)];simp [h]
 ·rw [List.take_of_length_le (by omega),List.take_of_length_le h];simp [h]
theorem dgs_getD {l:List Nat} (h:dgs l) (k:Nat):l.getD k 0<16777216:=by
 rcases Nat.lt_or_ge k l.length with hk | hk
 ·simp [hk]; exact h _ (List.getElem_mem hk)
 ·simp [hk]
theorem OwnIs.read {w:World} {base c:Nat} {A:Option Addr} {l:List Nat} (h:Own w base 3 1 A l.length c ((nums l).map (Value.int .i64))) (hl:l.length≤4294967296) {T:Nat→Prop} (hT:∀ b,base≤b→T b):Ints w T A (nums l) :=
 ⟨(Own.rd h).mono fun b _ hb=>hT b (h.blk hb).1,by rw [nums_len]; exact hl⟩
theorem Ints.pre {w:World} {S:Nat→Prop} {A:Option Addr} {l m:List Nat} (h:Ints w S A (nums m)) (hp:l <+: m):Ints w S A (nums l):=by
 obtain ⟨h1,h2⟩:=h;have hl:l=m.take l.length:=(List.prefix_iff_eq_take.1 hp);refine ⟨?_,by rw [nums_len] at h2 ⊢; exact Nat.le_trans hp.length_le h2⟩;rw [hl];have:=h1.take l.length
 simpa [nums,List.map_take] using this
structure MinI (u v m:List Nat) (k bw:Nat):Prop where
 len:m.length=k
 eq:dval (u.take k)+bw*16777216 ^ k=dval m+dval (v.take k)
 ds:dgs m
 bit:bw≤1
theorem MinI.step {u v m:List Nat} {k bw:Nat} (h:MinI u v m k bw) (hu:dgs u) (hv:dgs v) {d:Int} (hd:d=(u.getD k 0:Int)-bw-v.getD k 0) :
  (0≤d→MinI u v (m++[d.toNat]) (k+1) 0)∧(d<0→MinI u v (m++[(d+16777216).toNat]) (k+1) 1):=by
 have h1:=dgs_getD hu k;have h2:=dgs_getD hv k;have h3:=h.bit;have h4:=h.eq;have hp:(0:Nat)<16777216 ^ k:=Nat.pow_pos (by decide);constructor
 ·intro h0;refine ⟨by simp [h.len],?_,dgs_snoc h.ds (by omega),by omega⟩;rw [dval_take,dval_take,dval_snoc,h.len,Nat.zero_mul,Nat.add_zero];have e:u.getD k 0=d.toNat+bw+v.getD k 0:=(by omega);rw [e,Nat.mul_add,Nat.mul_add,Nat.mul_comm _ bw];omega
 ·intro h0;refine ⟨by simp [h.len],?_,dgs_snoc h.ds (by omega),by omega⟩;rw [dval_take,dval_take,dval_snoc,h.len,Nat.pow_succ];have e:u.getD k 0+16777216=(d+16777216).toNat+bw+v.getD k 0:=(by omega);have e2:16777216 ^ k*u.getD k 0+16777216 ^ k*16777216=16777216 ^ k*(d+16777216).toNat+bw*16777216 ^ k+16777216 ^ k*v.getD k 0:=by
   rw [← Nat.mul_add,e,Nat.mul_add,Nat.mul_add,Nat.mul_comm _ bw]
  omega
theorem MinI.fin {u v m:List Nat} {bw:Nat} (h:MinI u v m u.length bw) (hv:v.length≤u.length) (hle:dval v≤dval u):dval m=dval u-dval v:=by
 have h1:=h.eq;have h2:=dval_lt m h.ds;rw [List.take_length,List.take_of_length_le hv,h.len] at *;have h3:=h.bit
 rcases Nat.eq_zero_or_pos bw with h0 | h0
 ·subst h0; omega
 ·obtain rfl:bw=1:=by omega
  omega

/- The reference's digits: times, cmp, digit. Conditions: the digits read as data. -/

structure TimI (u:List Nat) (d:Nat) (m:List Nat) (k cy:Nat):Prop where
 len:m.length=k
 eq:dval (u.take k)*d=dval m+cy*16777216 ^ k
 ds:dgs m
 lt:cy<16777216
theorem TimI.step {u m:List Nat} {d k cy:Nat} (h:TimI u d m k cy) (hu:dgs u) (hd:d<16777216) {s:Nat} (hs:s=u.getD k 0*d+cy):s<281474976710656∧TimI u d (m++[s % 16777216]) (k+1) (s / 16777216):=by
 have h1:=dgs_getD hu k;have h2:u.getD k 0*d≤16777215*16777215:=Nat.mul_le_mul (by omega) (by omega);have h3:=h.lt;refine ⟨by omega,by simp [h.len],?_,dgs_snoc h.ds (Nat.mod_lt _ (by decide)),by omega⟩;rw [dval_take,Nat.add_mul,h.eq,dval_snoc,h.len,Nat.pow_succ];have e:s=16777216*(s / 16777216)+s % 16777216:=(Nat.div_add_mod _ _).symm;have e2:16777216 ^ k*s=16777216 ^ k*(u.getD k 0*d)+cy*16777216 ^ k:=(by rw [hs,Nat.mul_add,Nat.mul_comm _ cy]);have e3:16777216 ^ k*s=s / 16777216*(16777216 ^ k*16777216)+16777216 ^ k*(s % 16777216):=by
  rw [Nat.mul_comm (s / 16777216),Nat.mul_assoc,← Nat.mul_add,← e]
 rw [Nat.mul_assoc];omega

theorem drop_getD {u:List Nat} {k:Nat} (hk:k<u.length):u.drop k=u.getD k 0 :: u.drop (k+1):=by
 rw [List.drop_eq_getElem_cons hk];simp [hk]
/- The reference's digits of a number of bytes: of. Conditions: bounds on sizes. -/

structure OfI (l:List UInt8) (m:List Nat):Prop where
 eq:dval m+16777216 ^ m.length*nvl (l.take (l.length-3*m.length))=nvl l
 ds:dgs m
theorem pow24 (k:Nat):(16777216:Nat) ^ k=256 ^ (3*k):=by rw [show (16777216:Nat)=256 ^ 3 by decide,← Nat.pow_mul]
theorem OfI.step {l:List UInt8} {m:List Nat} (h:OfI l m) {e:Nat} (he:e+3*m.length=l.length):OfI l (m++[nvl ((l.take e).drop (e-3))]):=by
 have h1:nvl ((l.take e).drop (e-3))<16777216:=by
  have:=nvl_lt ((l.take e).drop (e-3));have h2:(256:Nat) ^ ((l.take e).drop (e-3)).length≤256 ^ 3:=Nat.pow_le_pow_right (by decide) (by simp; omega);omega
 refine ⟨?_,dgs_snoc h.ds h1⟩;have h2:=h.eq;rw [show l.length-3*m.length=e by omega] at h2;rw [dval_snoc,List.length_append,List.length_singleton,show l.length-3*(m.length+1)=e-3 by omega,← h2];have h3:=nvl_app ((l.take e).take (e-3)) ((l.take e).drop (e-3));rw [List.take_append_drop,List.take_take,Nat.min_eq_left (by omega)] at h3;rw [h3,Nat.mul_add,Nat.pow_succ];have h4:((l.take e).drop (e-3)).length=e-(e-3):=(by simp; omega);rw [h4]
 rcases Nat.lt_or_ge e 3 with h5 | h5
 ·rw [show e-3=0 by omega];simp [nvl]
 ·rw [show e-(e-3)=3 by omega,show (256:Nat) ^ 3=16777216 by decide,Nat.mul_comm (nvl _) 16777216,Nat.mul_assoc];omega
theorem OfI.fin {s:ByteArray} {m:List Nat} (h:OfI s.data.toList m) (hc:canB s) (h1:s.size≤3*m.length) (h2:3*m.length≤s.size+2):dval m=nval s∧trd m:=by
 have hl:s.data.toList.length=s.size:=(by simp);have h3:=h.eq;rw [show s.data.toList.length-3*m.length=0 by omega,List.take_zero] at h3;have hv:dval m=nval s:=(by rw [show nval s=nvl s.data.toList from rfl,← h3]; simp [nvl]);refine ⟨hv,?_⟩;intro ht
 rcases List.eq_nil_or_concat m with rfl | ⟨m',d,rfl⟩
 ·simp at ht
 ·rw [List.concat_eq_append] at *;have hd:d=0:=(by simpa using ht);subst hd;rw [dval_snoc0] at hv;have h4:=dval_lt m' fun x hx=>h.ds x (by simp [hx]);rw [hv,pow24] at h4;have h5:=(can_size hc (k:=3*m'.length)).2 h4;simp at h2;omega
end Go.Proofs.YtomdpipekmcojaaGreatDoor
