/- A region that draws its order: one proof an operation serves every order, if each operation's own fact stands whatever the others do. No conditions. -/
import Derived.Test.YthmckfloppblcaaGreatDoorBj3
import Derived.Deep.DeepCutAuto
import Derived.Deep.Light
import Derived.IntWalk
import Derived.Ground.NamesProg
import Derived.Shelf.Strings.Prefix
import Derived.Shelf.Strings.Repeat
import Derived.Shelf.Strings.Replace
import Derived.Shelf.Strings.BuilderK
import Derived.Shelf.Strconv.Itoa3
import Derived.Test.YthmckfloppblcaaGreatDoorProg
set_option maxRecDepth 100000
set_option maxHeartbeats 1000000
namespace Go.Proofs.YthmckfloppblcaaGreatDoor
open Go Go.RowKit

def predsOf (o:Oper):List Nat:=(o.after.toList.filter (Region.binds .any)).map (·.on)
def linUpon (P:Program) (K:Value→World→Prop):Result Next→Prop
 | .ok (.value v) w'=>K v w'
 | .ok .skip w'=>K undef w'
 | .ok (.enter f args) w'=>Calls P f args w' (fun e w''=>∃ v,e=.returned v∧K v w'')
 | _=>False
def linLook (ops:Array Oper) (o:Oper) (a0:Act) (vals:Nat→Value) (t:Nat):Value :=
 match (predsOf o).find? (fun j=>(ops[j]?).bind (·.dst)==some t) with
 | some j=>vals j
 | none=>a0.tmps.getD t undef
def linEnv (ops:Array Oper) (o:Oper) (a0:Act) (vals:Nat→Value):Operand→Value
 | .tmp t=>linLook ops o a0 vals t
 | x=>a0.eval x
def boolOf:Value→Option Bool
 | .bool b=>some b
 | _=>none
def linWanted (o:Oper) (vals:Nat→Value):Bool :=
 match o.guard with
 | none=>true
 | some (g,want)=>boolOf (vals g)==some want
def lexFrame (vals:Nat→Value):List Oper→Nat→Act→Act
 | [],_,a=>a
 | o :: l,k,a=>lexFrame vals l (k+1) (a.put o.dst (vals k))
def setV (vals:Nat→Value) (i:Nat) (v:Value):Nat→Value:=fun k=>if k=i then v else vals k
def linB (ops:Array Oper) (D:Nat→List Nat) (n:Nat):Bool :=
 Region.noSelect ops && decide ((ops.toList.filterMap (·.dst)).Nodup) && (ops.toList.filterMap (·.dst)).all (fun d=>decide (d<n)) &&
 (List.range ops.size).all fun i=>match ops[i]? with
  | none=>true
  | some o=>(predsOf o).all (fun j=>decide (j<i)) && (D i).all (fun j=>decide (j=i) || (predsOf o).contains j) &&
   (match o.guard with | none=>true | some (g,_)=>(predsOf o).contains g && ((ops[g]?).bind (·.dst)).isSome) &&
   (o.looksAt ops).all fun t=>(List.range ops.size).all fun j=>match ops[j]? with
    | none=>true
    | some oj=>decide (oj.dst≠some t) || decide (j=i) || (predsOf o).contains j || (predsOf oj).contains i
def LinStep {Γ:Type} (P:Program) (ops:Array Oper) (D:Nat→List Nat) (R:Γ→World→Γ→World→Prop) (N:Nat→Γ→Prop) (G:Nat→List Value→Γ→World→Prop) (a0:Act) (γ0:Γ) (w0:World) (i:Nat) (o:Oper):Prop :=
 ∀ (vals:Nat→Value) (γ:Γ) (w:World),R γ0 w0 γ w→N i γ→(∀ j,j∈predsOf o→G j ((D j).map vals) γ w) →
  if linWanted o vals then linUpon P (fun v w'=>∃ γ',R γ w γ' w'∧(∀ j,j≠i→j ∉ predsOf o→N j γ→N j γ')∧G i ((D i).map (setV vals i v)) γ' w') ((execOp (linEnv ops o a0 vals) o).run P w)
  else G i ((D i).map (setV vals i undef)) γ w

section
variable {P:Program} {ops:Array Oper} {Q:Exit→Act→World→Prop}

theorem linB_spec {D:Nat→List Nat} {n:Nat} (h:linB ops D n=true) :
  Region.noSelect ops=true∧(ops.toList.filterMap (·.dst)).Nodup∧(∀ (i:Nat) (o:Oper) (d:Nat),ops[i]?=some o→o.dst=some d→d<n) ∧
  (∀ (i:Nat) (o:Oper) (j:Nat),ops[i]?=some o→j∈predsOf o→j<i)∧(∀ (i:Nat) (o:Oper) (j:Nat),ops[i]?=some o→j∈D i→j=i∨j∈predsOf o) ∧
  (∀ (i:Nat) (o:Oper) (g:Nat) (b:Bool),ops[i]?=some o→o.guard=some (g,b)→g∈predsOf o∧∃ (og:Oper) (t:Nat),ops[g]?=some og∧og.dst=some t) ∧
  (∀ (i:Nat) (o:Oper) (t j:Nat) (oj:Oper),ops[i]?=some o→t∈o.looksAt ops→ops[j]?=some oj→oj.dst=some t→j=i∨j∈predsOf o∨i∈predsOf oj):=by
 simp only [linB,Bool.and_eq_true,decide_eq_true_eq] at h;obtain ⟨⟨⟨h1,h2⟩,h3⟩,h4⟩:=h;rw [List.all_eq_true] at h3 h4;have key:∀ (i:Nat) (o:Oper),ops[i]?=some o→(((∀ j∈predsOf o,j<i)∧(∀ j∈D i,(decide (j=i) || (predsOf o).contains j)=true)) ∧
   (match o.guard with | none=>true | some (g,_)=>(predsOf o).contains g && ((ops[g]?).bind (·.dst)).isSome)=true) ∧
   ∀ t∈o.looksAt ops,∀ j∈List.range ops.size,(match ops[j]? with
    | none=>true
    | some oj=>decide (oj.dst≠some t) || decide (j=i) || (predsOf o).contains j || (predsOf oj).contains i)=true:=fun i o hi=>by
  have hlt:i<ops.size:=(Array.getElem?_eq_some_iff.1 hi).1;have:=h4 i (List.mem_range.2 hlt);simp only [hi,Bool.and_eq_true,List.all_eq_true,decide_eq_true_eq] at this;exact this
 refine ⟨h1,h2,?_,?_,?_,?_,?_⟩
 ·intro i o d hi hd;have:d∈ops.toList.filterMap (·.dst):=List.mem_filterMap.2 ⟨o,by simpa using Array.mem_of_getElem? hi,hd⟩
  simpa using h3 d this
 ·intro i o j hi hj;exact (key i o hi).1.1.1 j hj
 ·intro i o j hi hj;have:=(key i o hi).1.1.2 j hj
  simpa using this
 ·intro i o g b hi hg;have:=(key i o hi).1.2;simp only [hg,Bool.and_eq_true,List.contains_iff_mem,Option.isSome_iff_exists] at this;obtain ⟨h5,t,h6⟩:=this;refine ⟨by simpa using h5,?_⟩;cases hgo:ops[g]? with
  | none=>simp [hgo] at h6
  | some og=>simp [hgo] at h6; exact ⟨og,t,rfl,h6⟩
 ·intro i o t j oj hi ht hj hd;have hlt:j<ops.size:=(Array.getElem?_eq_some_iff.1 hj).1;have:=(key i o hi).2 t ht j (List.mem_range.2 hlt);simp only [hj,hd,Bool.or_eq_true,decide_eq_true_eq,List.contains_iff_mem] at this
  rcases this with ((h | h) | h) | h
  ·exact absurd rfl h
  ·exact .inl h
  ·exact .inr (.inl (by simpa using h))
  ·exact .inr (.inr (by simpa using h))

theorem dst_inj (h:(ops.toList.filterMap (·.dst)).Nodup) {i j:Nat} {oi oj:Oper} {t:Nat} (hi:ops[i]?=some oi) (hj:ops[j]?=some oj) (hdi:oi.dst=some t) (hdj:oj.dst=some t):i=j:=by
 have hi':ops.toList[i]?=some oi:=(by simpa using hi);have hj':ops.toList[j]?=some oj:=(by simpa using hj);clear hi hj;generalize ops.toList=l at *
 induction l generalizing i j with
 | nil=>simp at hi'
 | cons o l ih =>
  cases i with
  | zero =>
   cases j with
   | zero=>rfl
   | succ j =>
    exfalso;simp at hi' hj';subst hi';rw [List.filterMap_cons_some hdi,List.nodup_cons] at h;exact h.1 (List.mem_filterMap.2 ⟨oj,List.mem_of_getElem? hj',hdj⟩)
  | succ i =>
   cases j with
   | zero =>
    exfalso;simp at hi' hj';subst hj';rw [List.filterMap_cons_some hdj,List.nodup_cons] at h;exact h.1 (List.mem_filterMap.2 ⟨oi,List.mem_of_getElem? hi',hdi⟩)
   | succ j =>
    have hn:(l.filterMap (·.dst)).Nodup:=by
     cases hod:o.dst with
     | none=>rwa [List.filterMap_cons_none hod] at h
     | some d=>rw [List.filterMap_cons_some hod,List.nodup_cons] at h; exact h.2
    have hij:i=j:=ih hn (by simpa using hi') (by simpa using hj');rw [hij]

theorem lexFrame_size (vals:Nat→Value):∀ (l:List Oper) (k:Nat) (a:Act),(lexFrame vals l k a).tmps.size=a.tmps.size∧(lexFrame vals l k a).defers=a.defers
 | [],_,_=>⟨rfl,rfl⟩
 | o :: l,k,a=>by
  have:=lexFrame_size vals l (k+1) (a.put o.dst (vals k));cases hd:o.dst <;> simp [lexFrame,hd,Act.put] at this ⊢ <;> exact this
theorem lexFrame_no (vals:Nat→Value):∀ (l:List Oper) (k:Nat) (a:Act) (t:Nat),(∀ o∈l,o.dst≠some t)→(lexFrame vals l k a).tmps[t]?=a.tmps[t]?
 | [],_,_,_,_=>rfl
 | o :: l,k,a,t,h=>by
  have h1:=lexFrame_no vals l (k+1) (a.put o.dst (vals k)) t (fun o' ho'=>h o' (List.mem_cons_of_mem _ ho'));have h2:=h o List.mem_cons_self;rw [lexFrame,h1];cases hd:o.dst with
  | none=>rfl
  | some d =>
   have hne:d≠t:=fun e=>h2 (by rw [hd,e]);simp [Act.put,Array.getElem?_setIfInBounds_ne hne]
theorem lexFrame_at (vals:Nat→Value):∀ (l:List Oper) (k:Nat) (a:Act) (j:Nat) (o:Oper) (t:Nat),(l.filterMap (·.dst)).Nodup→l[j]?=some o→o.dst=some t→t<a.tmps.size→(lexFrame vals l k a).tmps[t]?=some (vals (k+j))
 | [],_,_,_,_,_,_,h,_,_=>by simp at h
 | o :: l,k,a,0,o',t,hn,h,hd,ht=>by
  simp at h;subst h;rw [List.filterMap_cons_some hd,List.nodup_cons] at hn;rw [lexFrame,lexFrame_no vals l (k+1) _ t (fun o' ho' hd'=>hn.1 (List.mem_filterMap.2 ⟨o',ho',hd'⟩))];simp [Act.put,hd,ht]
 | o :: l,k,a,j+1,o',t,hn,h,hd,ht=>by
  have hn':(l.filterMap (·.dst)).Nodup:=by
   cases hod:o.dst with
   | none=>rwa [List.filterMap_cons_none hod] at hn
   | some d=>rw [List.filterMap_cons_some hod,List.nodup_cons] at hn; exact hn.2
  have:=lexFrame_at vals l (k+1) (a.put o.dst (vals k)) j o' t hn' (by simpa using h) hd (by cases hod:o.dst <;> simpa [Act.put] using ht);rw [lexFrame,this,show k+1+j=k+(j+1) by omega]

theorem count_lt {p q:Nat→Bool} (hle:∀ j,q j=true→p j=true) {i:Nat} (hp:p i=true) (hq:q i=false):∀ l:List Nat,i∈l→l.countP q+1≤l.countP p
 | x :: l,h=>by
  have mono:∀ l:List Nat,l.countP q≤l.countP p:=fun l=>List.countP_mono_left fun x _ hx=>hle x hx
  rcases List.mem_cons.1 h with rfl | h'
  ·rw [List.countP_cons_of_pos hp,List.countP_cons_of_neg (by simp [hq])];have:=mono l;omega
  ·have ih:=count_lt hle hp hq l h';by_cases hx:q x=true
   ·rw [List.countP_cons_of_pos hx,List.countP_cons_of_pos (hle x hx)]; omega
   ·rw [List.countP_cons_of_neg hx];have:=List.countP_cons (p:=p) (a:=x) (l:=l);omega

structure LinInv {Γ:Type} (ops:Array Oper) (D:Nat→List Nat) (R:Γ→World→Γ→World→Prop) (N:Nat→Γ→Prop) (G:Nat→List Value→Γ→World→Prop) (a0:Act) (γ0:Γ) (w0:World) (listed:Array Bool) (a:Act) (w:World) (vals:Nat→Value) (γ:Γ):Prop where
 size:listed.size=ops.size
 asize:a.tmps.size=a0.tmps.size
 defers:a.defers=a0.defers
 at_:∀ (j:Nat) (o:Oper) (t:Nat),ops[j]?=some o→listed.getD j false=true→o.dst=some t→a.tmps[t]?=some (vals j)
 no:∀ t:Nat,(∀ (j:Nat) (o:Oper),ops[j]?=some o→listed.getD j false=true→o.dst≠some t)→a.tmps[t]?=a0.tmps[t]?
 rel:R γ0 w0 γ w
 down:∀ (j:Nat) (o:Oper),ops[j]?=some o→listed.getD j false=true→∀ k,k∈predsOf o→listed.getD k false=true
 open_:∀ j,j<ops.size→listed.getD j false=false→N j γ
 facts:∀ j,j<ops.size→listed.getD j false=true→G j ((D j).map vals) γ w

theorem getD_both {listed:Array Bool} {j:Nat} (h:j<listed.size):listed.getD j true=listed.getD j false:=by simp [h]

theorem wp_region_lin {Γ:Type} {id:Nat} {a0:Act} {w0:World} (hm:P.follows .mixedOrders=true) (D:Nat→List Nat) (hB:linB ops D a0.tmps.size=true)
  (R:Γ→World→Γ→World→Prop) (hrefl:∀ γ w,R γ w γ w) (htrans:∀ γ w γ' w' γ'' w'',R γ w γ' w'→R γ' w' γ'' w''→R γ w γ'' w'')
  (N:Nat→Γ→Prop) (G:Nat→List Value→Γ→World→Prop) (hst:∀ i l γ w γ' w',R γ w γ' w'→G i l γ w→G i l γ' w') (γ0:Γ) (hN:∀ i,N i γ0)
  (hstep:∀ i o,ops[i]?=some o→LinStep P ops D R N G a0 γ0 w0.drew i o)
  (hfin:∀ vals γ w,R γ0 w0.drew γ w→(∀ i,i<ops.size→G i ((D i).map vals) γ w)→Q .normal (lexFrame vals ops.toList 0 a0) w) :
  (Code.region id ops true).wp P Q a0 w0:=by
 obtain ⟨hsel,hnd,hlt,hacyc,hD,hguard,hlook⟩:=linB_spec hB;have main:∀ (fuel:Nat) (listed:Array Bool) (a:Act) (w:World) (vals:Nat→Value) (γ:Γ),LinInv ops D R N G a0 γ0 w0.drew listed a w vals γ →
   (List.range ops.size).countP (fun i => !listed.getD i true)≤fuel→wpAny P .any ops Q fuel listed a w:=by
  intro fuel;have fin:∀ (listed:Array Bool) (a:Act) (w:World) (vals:Nat→Value) (γ:Γ),LinInv ops D R N G a0 γ0 w0.drew listed a w vals γ→(∀ j,j<ops.size→listed.getD j false=true)→Q .normal a w:=by
   intro listed a w vals γ I hall;have ha:a=lexFrame vals ops.toList 0 a0:=by
    have hs:=lexFrame_size vals ops.toList 0 a0;have ht:a.tmps=(lexFrame vals ops.toList 0 a0).tmps:=by
     apply Array.ext_getElem?;intro t;by_cases hex:∃ (j:Nat) (o:Oper),ops[j]?=some o∧o.dst=some t
     ·obtain ⟨j,o,hj,hd⟩:=hex;have hjl:j<ops.size:=(Array.getElem?_eq_some_iff.1 hj).1;rw [I.at_ j o t hj (hall j hjl) hd,lexFrame_at vals ops.toList 0 a0 j o t hnd (by simpa using hj) hd (hlt j o t hj hd),Nat.zero_add]
     ·have hno:∀ (j:Nat) (o:Oper),ops[j]?=some o→o.dst≠some t:=fun j o hj hd=>hex ⟨j,o,hj,hd⟩;rw [I.no t (fun j o hj _=>hno j o hj),lexFrame_no vals ops.toList 0 a0 t (fun o ho=>by
       obtain ⟨j,hj⟩:=List.mem_iff_getElem?.1 ho;exact hno j o (by simpa using hj))]
    have hdf:a.defers=(lexFrame vals ops.toList 0 a0).defers:=(by rw [I.defers,hs.2]);cases a;cases hl:lexFrame vals ops.toList 0 a0;rw [hl] at ht hdf;simp at ht hdf;rw [ht,hdf]
   rw [ha];exact hfin vals γ w I.rel fun i hi=>I.facts i hi (hall i hi)
  have ready_nil:∀ (listed:Array Bool),listed.size=ops.size→Region.ready .any ops listed=[]→∀ j,j<ops.size→listed.getD j false=true:=by
   intro listed hsz hr j
   induction j using Nat.strongRecOn with
   | _ j ih =>
    intro hj;cases hl:listed.getD j false with
    | true=>rfl
    | false =>
     exfalso;have hmem:j∈Region.ready .any ops listed:=by
      refine mem_ready.2 ⟨by rw [getD_both (by omega)]; exact hl,ops[j],by simp [hj],fun e he hb => ?_⟩;have hp:e.on∈predsOf ops[j]:=List.mem_map.2 ⟨e,List.mem_filter.2 ⟨by simpa using he,hb⟩,rfl⟩;have hlt':=hacyc j ops[j] e.on (by simp [hj]) hp;exact ih e.on hlt' (by omega)
     rw [hr] at hmem;cases hmem
  induction fuel with
  | zero =>
   intro listed a w vals γ I hc;have hall:∀ j,j<ops.size→listed.getD j false=true:=by
    intro j hj;have h0:(List.range ops.size).countP (fun i => !listed.getD i true)=0:=(by omega);rw [List.countP_eq_zero] at h0;have:=h0 j (List.mem_range.2 hj);rw [getD_both (by rw [I.size]; exact hj)] at this
    simpa using this
   refine ⟨?_,fin listed a w vals γ I hall⟩;cases hr:Region.ready .any ops listed with
   | nil=>rfl
   | cons i l =>
    exfalso;have hi:i∈Region.ready .any ops listed:=(by rw [hr]; exact List.mem_cons_self);obtain ⟨h0,o,ho,_⟩:=mem_ready.1 hi;have hil:i<ops.size:=(Array.getElem?_eq_some_iff.1 ho).1;rw [getD_both (by rw [I.size]; exact hil),hall i hil] at h0;cases h0
  | succ fuel ih =>
   intro listed a w vals γ I hc;refine ⟨fun hr=>fin listed a w vals γ I (ready_nil listed I.size hr),fun i hi => ?_⟩;obtain ⟨h0,o,ho,hpre⟩:=mem_ready.1 hi;have hil:i<ops.size:=(Array.getElem?_eq_some_iff.1 ho).1;have hisz:i<listed.size:=(by rw [I.size]; exact hil);have hun:listed.getD i false=false:=(by rw [← getD_both hisz]; exact h0);have hpl:∀ j,j∈predsOf o→listed.getD j false=true:=by
    intro j hj;obtain ⟨e,he,rfl⟩:=List.mem_map.1 hj;obtain ⟨he1,he2⟩:=List.mem_filter.1 he;exact hpre e (by simpa using he1) he2
   have hslot:∀ t,t∈o.looksAt ops→a.tmps.getD t undef=linLook ops o a0 vals t:=by
    intro t ht;unfold linLook;cases hf:(predsOf o).find? (fun j=>(ops[j]?).bind (·.dst)==some t) with
    | some j =>
     have hj:=List.mem_of_find?_eq_some hf;have hd:=List.find?_some hf;simp only [beq_iff_eq] at hd;cases hoj:ops[j]? with
     | none=>simp [hoj] at hd
     | some oj =>
      simp only [hoj,Option.bind_some] at hd;simp [I.at_ j oj t hoj (hpl j hj) hd]
    | none =>
     rw [List.find?_eq_none] at hf;have:a.tmps[t]?=a0.tmps[t]?:=I.no t (fun j oj hj hjl hd=>by
      rcases hlook i o t j oj ho ht hj hd with rfl | h | h
      ·rw [hun] at hjl; cases hjl
      ·exact hf j h (by simp [hj,hd])
      ·have:=I.down j oj hj hjl i h;rw [hun] at this; cases this)
     simp [this]
   have henv:execOp a.eval o=execOp (linEnv ops o a0 vals) o:=by
    refine execOp_congr o (fun cs b=>Region.noSelect_spec hsel i o cs b ho) fun x hx => ?_;cases x with
    | tmp t=>exact hslot t (List.mem_append_left _ (List.mem_filterMap.2 ⟨.tmp t,by simpa using hx,rfl⟩))
    | _=>rfl
   have hwant:Region.wanted o (yielded ops a.tmps)=linWanted o vals:=by
    unfold Region.wanted linWanted;cases hg:o.guard with
    | none=>rfl
    | some gb =>
     obtain ⟨g,b⟩:=gb;obtain ⟨hgp,og,t,hog,hdt⟩:=hguard i o g b ho hg;have h1:=I.at_ g og t hog (hpl g hgp) hdt;simp only [yielded,hog,Option.bind_some,hdt,h1];congr 1;unfold boolOf;split <;> simp_all
   have hpf:∀ j,j∈predsOf o→G j ((D j).map vals) γ w:=fun j hj=>I.facts j (by have:=hacyc i o j ho hj; omega) (hpl j hj);have hS:=hstep i o ho vals γ w I.rel (I.open_ i hil hun) hpf;have next:∀ (v:Value) (γ':Γ) (w':World),R γ w γ' w'→(∀ j,j≠i→j ∉ predsOf o→N j γ→N j γ')→G i ((D i).map (setV vals i v)) γ' w'→wpAny P .any ops Q fuel (listed.setIfInBounds i true) (a.put o.dst v) w':=by
    intro v γ' w' hR hN' hG;have hget:∀ j,j≠i→(listed.setIfInBounds i true).getD j false=listed.getD j false:=fun j hj=>getD_set_ne false (Ne.symm hj);have hgeti:(listed.setIfInBounds i true).getD i false=true:=(by simp [hisz]);refine ih _ _ _ (setV vals i v) γ' ⟨by simp [I.size],?_,?_,?_,?_,htrans _ _ _ _ _ _ I.rel hR,?_,?_,?_⟩ ?_
    ·cases hd:o.dst <;> simp [Act.put,I.asize]
    ·cases hd:o.dst <;> simp [Act.put,I.defers]
    ·intro j oj t hj hjl hd;by_cases hji:j=i
     ·subst hji;obtain rfl:o=oj:=Option.some.inj (ho.symm.trans hj);have hlt':t<a.tmps.size:=(by rw [I.asize]; exact hlt j o t ho hd);simp [Act.put,hd,hlt',setV]
     ·rw [hget j hji] at hjl;have h1:=I.at_ j oj t hj hjl hd;simp only [setV,if_neg hji];cases hod:o.dst with
      | none=>exact h1
      | some d =>
       have hne:d≠t:=fun e=>hji (dst_inj hnd hj ho hd (by rw [hod,e]));simp only [Act.put];rw [Array.getElem?_setIfInBounds_ne hne];exact h1
    ·intro t hno;have hdt:o.dst≠some t:=hno i o ho hgeti;have h1:=I.no t (fun j oj hj hjl=>hno j oj hj (by
      by_cases hji:j=i
      ·subst hji; exact hgeti
      ·rw [hget j hji]; exact hjl))
     cases hod:o.dst with
     | none=>exact h1
     | some d =>
      have hne:d≠t:=fun e=>hdt (by rw [hod,e]);simp only [Act.put];rw [Array.getElem?_setIfInBounds_ne hne];exact h1
    ·intro j oj hj hjl k hk;by_cases hji:j=i
     ·subst hji;obtain rfl:o=oj:=Option.some.inj (ho.symm.trans hj);exact getD_set_true (hpl k hk)
     ·rw [hget j hji] at hjl;exact getD_set_true (I.down j oj hj hjl k hk)
    ·intro j hj hjl;by_cases hji:j=i
     ·subst hji; rw [hgeti] at hjl; cases hjl
     ·rw [hget j hji] at hjl;exact hN' j hji (fun hp=>by rw [hpl j hp] at hjl; cases hjl) (I.open_ j hj hjl)
    ·intro j hj hjl;by_cases hji:j=i
     ·subst hji; exact hG
     ·rw [hget j hji] at hjl;have h1:=hst _ _ _ _ _ _ hR (I.facts j hj hjl);have hmap:(D j).map (setV vals i v)=(D j).map vals:=by
       apply List.map_congr_left;intro k hk;have hki:k≠i:=by
        intro e;subst e
        rcases hD j ops[j] k (by simp [hj]) hk with h | h
        ·exact hji h.symm
        ·have:=I.down j ops[j] (by simp [hj]) hjl k h;rw [hun] at this; cases this
       simp [setV,hki]
      rw [hmap];exact h1
    ·have:=count_lt (p:=fun k => !listed.getD k true) (q:=fun k => !(listed.setIfInBounds i true).getD k true) (i:=i) (fun k hk=>by
      by_cases hki:k=i
      ·subst hki; simp [hisz] at hk
      ·rw [getD_set_ne true (Ne.symm hki)] at hk; exact hk) (by simpa using h0) (by simp [hisz]) (List.range ops.size) (List.mem_range.2 hil)
     omega
   unfold wpOp;simp only [ho];rw [hwant];by_cases hw:linWanted o vals=true
   ·rw [if_pos hw] at hS ⊢;refine .inl ?_;unfold Oper.wp;rw [henv];generalize (execOp (linEnv ops o a0 vals) o).run P w=r at hS;cases r with
    | ok n w' =>
     cases n <;> simp only [linUpon] at hS <;> simp only [Oper.upon]
     case value v=>obtain ⟨γ',h1,hn,h2⟩:=hS; exact next v γ' w' h1 hn h2
     case skip=>obtain ⟨γ',h1,hn,h2⟩:=hS; exact next undef γ' w' h1 hn h2
     case enter f args=>exact hS.mono fun e w'' ⟨v,he,γ',h1,hn,h2⟩=>by subst he; exact next v γ' w'' h1 hn h2
    | halt x w'=>simp only [linUpon] at hS
   ·rw [if_neg hw] at hS ⊢;exact next undef γ w (hrefl _ _) (fun _ _ _ h=>h) hS
 refine wp_region_any hm (main ops.size _ a0 w0.drew (fun _=>undef) γ0 ⟨by simp,rfl,rfl,?_,fun _ _=>rfl,hrefl _ _,?_,fun j _ _=>hN j,?_⟩ ?_)
 ·intro j o t hj hl _;have:j<ops.size:=(Array.getElem?_eq_some_iff.1 hj).1;simp [this] at hl
 ·intro j o hj hl;have:j<ops.size:=(Array.getElem?_eq_some_iff.1 hj).1;simp [this] at hl
 ·intro j hj hl;simp [hj] at hl
 ·have:=List.countP_le_length (p:=fun i => !(Array.replicate ops.size false).getD i true) (l:=List.range ops.size)
  simpa using this
end

def AllSteps (F:Nat→Oper→Prop):List Oper→Nat→Prop
 | [],_=>True
 | o :: l,k=>F k o∧AllSteps F l (k+1)
theorem AllSteps.at_ {F:Nat→Oper→Prop} : ∀ {l:List Oper} {k:Nat},AllSteps F l k→∀ i o,l[i]?=some o→F (k+i) o
 | [],_,_,_,_,h=>by simp at h
 | o :: l,k,h,0,o',hi=>by simp at hi; subst hi; exact h.1
 | o :: l,k,h,i+1,o',hi=>by have:=h.2.at_ i o' (by simpa using hi); rwa [show k+1+i=k+(i+1) by omega] at this
theorem allSteps {F:Nat→Oper→Prop} {l:List Oper} (h:AllSteps F l 0):∀ i o,l.toArray[i]?=some o→F i o:=fun i o hi=>by
 have:=h.at_ i o (by simpa using hi);rwa [Nat.zero_add] at this

theorem wp_region_lin_lit {Γ:Type} {P:Program} {l:List Oper} {Q:Exit→Act→World→Prop} {id:Nat} {a0:Act} {w0:World} (hm:P.follows .mixedOrders=true) (D:Nat→List Nat) (hB:linB l.toArray D a0.tmps.size=true)
  (R:Γ→World→Γ→World→Prop) (hrefl:∀ γ w,R γ w γ w) (htrans:∀ γ w γ' w' γ'' w'',R γ w γ' w'→R γ' w' γ'' w''→R γ w γ'' w'')
  (N:Nat→Γ→Prop) (G:Nat→List Value→Γ→World→Prop) (hst:∀ i l γ w γ' w',R γ w γ' w'→G i l γ w→G i l γ' w') (γ0:Γ) (hN:∀ i,N i γ0)
  (hstep:AllSteps (LinStep P l.toArray D R N G a0 γ0 w0.drew) l 0)
  (hfin:∀ vals γ w,R γ0 w0.drew γ w→(∀ i,i<l.length→G i ((D i).map vals) γ w)→Q .normal (lexFrame vals l 0 a0) w) :
  (Code.region id l.toArray true).wp P Q a0 w0 :=
 wp_region_lin hm D hB R hrefl htrans N G hst γ0 hN (allSteps hstep) (fun vals γ w h1 h2=>hfin vals γ w h1 fun i hi=>h2 i (by simpa using hi))
theorem LinStep.yes {Γ:Type} {P:Program} {ops:Array Oper} {D:Nat→List Nat} {R:Γ→World→Γ→World→Prop} {N:Nat→Γ→Prop} {G:Nat→List Value→Γ→World→Prop} {a0:Act} {γ0:Γ} {w0:World} {i:Nat} {o:Oper}
  (h:∀ (vals:Nat→Value) (γ:Γ) (w:World) (ρ:Operand→Value),R γ0 w0 γ w→N i γ→(∀ j,j∈predsOf o→G j ((D j).map vals) γ w)→(∀ t,ρ (.tmp t)=linLook ops o a0 vals t)→(∀ v,ρ (.const v)=v)→(∀ f,ρ (.func f)=.func (.func f) #[] #[])→(∀ g,ρ (.global g)=.pointer (some ⟨g,0,none⟩)) →
   linWanted o vals=true∧linUpon P (fun v w'=>∃ γ',R γ w γ' w'∧(∀ j,j≠i→j ∉ predsOf o→N j γ→N j γ')∧G i ((D i).map (setV vals i v)) γ' w') ((execOp ρ o).run P w)):LinStep P ops D R N G a0 γ0 w0 i o:=by
 intro vals γ w hR hN hp;obtain ⟨h1,h2⟩:=h vals γ w (linEnv ops o a0 vals) hR hN hp (fun _=>rfl) (fun _=>rfl) (fun _=>rfl) (fun _=>rfl);rw [if_pos h1];exact h2
structure SR (Inv:Nat→World→Prop) (γ:Nat) (w:World) (γ':Nat) (w':World):Prop where
 le:γ≤γ'
 eq:γ=γ'→w'=w
 inv:Inv γ w→Inv γ' w'
theorem SR.refl (Inv:Nat→World→Prop) (γ:Nat) (w:World):SR Inv γ w γ w:=⟨Nat.le_refl _,fun _=>rfl,id⟩
theorem SR.trans (Inv:Nat→World→Prop) (γ:Nat) (w:World) (γ':Nat) (w':World) (γ'':Nat) (w'':World) (h:SR Inv γ w γ' w') (k:SR Inv γ' w' γ'' w''):SR Inv γ w γ'' w'' :=
 ⟨Nat.le_trans h.le k.le,fun e=>by
  have h1:=h.le;have h2:=k.le;rw [k.eq (by omega),h.eq (by omega)],fun hi=>k.inv (h.inv hi)⟩
theorem SR.up {Inv:Nat→World→Prop} {γ:Nat} {w:World} {γ':Nat} {w':World} (h:γ<γ') (hi:Inv γ' w'):SR Inv γ w γ' w':=⟨Nat.le_of_lt h,fun e=>absurd e (Nat.ne_of_lt h),fun _=>hi⟩
def SN (st:List Nat) (i γ:Nat):Prop:=γ<st.getD i 100
theorem SN.zero {st:List Nat} (h:st.all (fun s=>decide (0<s))=true) (i:Nat):SN st i 0:=by
 unfold SN
 rcases Nat.lt_or_ge i st.length with hi | hi
 ·rw [show st.getD i 100=st[i] by simp [hi]];have:=List.all_eq_true.1 h _ (List.getElem_mem hi)
  simpa using this
 ·rw [show st.getD i 100=100 by simp [List.getElem?_eq_none hi]]; omega
theorem SN.up {st:List Nat} {i s:Nat} {p:List Nat} (hs:s<100) (h:((List.range st.length).all fun j=>decide (j=i) || p.contains j || decide (st.getD j 100≠s))=true) {γ:Nat} (hg:γ+1=s):∀ j,j≠i→j ∉ p→SN st j γ→SN st j s:=by
 intro j hj hp hn;unfold SN at hn ⊢
 rcases Nat.lt_or_ge j st.length with hl | hl
 ·have:=List.all_eq_true.1 h j (List.mem_range.2 hl);simp only [Bool.or_eq_true,decide_eq_true_eq,List.contains_iff_mem] at this
  rcases this with (h1 | h1) | h1
  ·exact absurd h1 hj
  ·exact absurd h1 hp
  ·omega
 ·rw [show st.getD j 100=100 by simp [List.getElem?_eq_none hl]]; omega
abbrev Gh:=Nat→Option (Option Nat)
def gh0:Gh:=fun _=>none
def Gh.put (γ:Gh) (k:Nat) (x:Option Nat):Gh:=fun j=>if j=k then some x else γ j
def Gh.V (γ:Gh) (b:Nat):Prop:=∃ k,γ k=some (some b)
def Free (γ:Gh) (b:Nat):Prop:=¬ γ.V b
def LN (al:Nat→Option Nat) (i:Nat) (γ:Gh):Prop:=(∀ k,al i=some k→γ k≠some none)∧((∃ s,al s=some i)→γ i=none)
structure LR (γ:Gh) (w:World) (γ':Gh) (w':World):Prop where
 os:w'.os=w.os
 tape:w'.tape=w.tape
 output:w'.output=w.output
 size:w.heap.size≤w'.heap.size
 kept:∀ b,b<w.heap.size→Free γ b→w'.heap[b]?=w.heap[b]?
 shape:∀ b t cs,Blk w b t cs→∃ cs',cs'.size=cs.size∧Blk w' b t cs'
 old:∀ k b,γ' k=some (some b)→b<w.heap.size→γ k=some (some b)
 on:∀ k b,γ k=some (some b)→γ' k=some (some b)∨γ' k=some none
 done:∀ k,γ k=some none→γ' k=some none
 inb:(∀ k b,γ k=some (some b)→b<w.heap.size)→∀ k b,γ' k=some (some b)→b<w'.heap.size
theorem LR.refl (γ:Gh) (w:World):LR γ w γ w:=⟨rfl,rfl,rfl,Nat.le_refl _,fun _ _ _=>rfl,fun _ _ cs h=>⟨cs,rfl,h⟩,fun _ _ h _=>h,fun _ _ h=>.inl h,fun _ h=>h,fun h=>h⟩
theorem LR.free {γ:Gh} {w:World} {γ':Gh} {w':World} (h:LR γ w γ' w') {b:Nat} (hb:b<w.heap.size) (hf:Free γ b):Free γ' b:=fun ⟨k,hk⟩=>hf ⟨k,h.old k b hk hb⟩
theorem LR.trans (γ:Gh) (w:World) (γ':Gh) (w':World) (γ'':Gh) (w'':World) (h:LR γ w γ' w') (k:LR γ' w' γ'' w''):LR γ w γ'' w'' where
 os:=k.os.trans h.os
 tape:=k.tape.trans h.tape
 output:=k.output.trans h.output
 size:=Nat.le_trans h.size k.size
 kept b hb hf:=(k.kept b (Nat.lt_of_lt_of_le hb h.size) (h.free hb hf)).trans (h.kept b hb hf)
 shape b t cs hc:=by
  obtain ⟨c1,e1,h1⟩:=h.shape b t cs hc;obtain ⟨c2,e2,h2⟩:=k.shape b t c1 h1;exact ⟨c2,e2.trans e1,h2⟩
 old i b hi hb:=h.old i b (k.old i b hi (Nat.lt_of_lt_of_le hb h.size)) hb
 on i b hi:=by
  rcases h.on i b hi with h1 | h1
  ·exact k.on i b h1
  ·exact .inr (k.done i h1)
 done i hi:=k.done i (h.done i hi)
 inb hi:=k.inb (h.inb hi)
theorem LR.of_ext (γ:Gh) {w w':World} (h:Ext w w'):LR γ w γ w' :=
 ⟨h.os,h.tape,h.output,h.size,fun b hb _=>h.block b hb,fun _b _t cs hc=>⟨cs,rfl,hc.keep (h.kept _)⟩,fun _ _ h _=>h,fun _ _ h=>.inl h,fun _ h=>h,fun hi i b hb=>Nat.lt_of_lt_of_le (hi i b hb) h.size⟩
theorem LR.ext {w:World} {γ:Gh} {w':World} (h:LR gh0 w γ w'):Ext w w':=⟨h.os,h.tape,h.output,h.size,fun b hb=>h.kept b hb (fun ⟨k,hk⟩=>by cases hk)⟩
theorem LR.drew_ext {w:World} {γ:Gh} {w':World} (h:LR gh0 w.drew γ w'):Ext w w':=(Ext.refl w).drew.trans h.ext
theorem LR.new {γ:Gh} {k:Nat} (hk:γ k=none) (w:World) (o:Obj):LR γ w (γ.put k (some w.heap.size)) (w.alloc o):=by
 have h:=(Ext.refl w).alloc o;refine ⟨h.os,h.tape,h.output,h.size,fun b hb _=>h.block b hb,fun b t cs hc=>⟨cs,rfl,hc.keep (h.kept _)⟩,?_,?_,?_,?_⟩
 ·intro j b hj hb;unfold Gh.put at hj;split at hj
  ·simp at hj; omega
  ·exact hj
 ·intro j b hj;left;unfold Gh.put;rw [if_neg (fun e=>by subst e; rw [hk] at hj; cases hj)];exact hj
 ·intro j hj;unfold Gh.put;rw [if_neg (fun e=>by subst e; rw [hk] at hj; cases hj)];exact hj
 ·intro hi j b hj;unfold Gh.put at hj;split at hj
  ·simp at hj; subst hj; simp
  ·have:=hi j b hj; simp; omega
theorem LR.inb0 {w:World} {γ:Gh} {w':World} (h:LR gh0 w γ w'):∀ k b,γ k=some (some b)→b<w'.heap.size:=h.inb fun k b hk=>by cases hk
theorem LN.zero (al:Nat→Option Nat) (i:Nat):LN al i gh0:=⟨fun _ _ h=>(by cases h),fun _=>rfl⟩
theorem LN.made {al:Nat→Option Nat} {γ:Gh} {i:Nat} {x:Nat} {p:List Nat} : ∀ j,j≠i→j ∉ p→LN al j γ→LN al j (γ.put i (some x)):=by
 rintro j hj-⟨h1,h2⟩;refine ⟨fun k hk => ?_,fun hs => ?_⟩
 ·unfold Gh.put;split
  ·simp
  ·exact h1 k hk
 ·unfold Gh.put;rw [if_neg hj];exact h2 hs
theorem LN.stored {al:Nat→Option Nat} (inj:∀ j s k,al j=some k→al s=some k→j=s) {γ:Gh} {s k g:Nat} (hs:al s=some k) (hk:γ k=some (some g)) {p:List Nat} : ∀ j,j≠s→j ∉ p→LN al j γ→LN al j (γ.put k none):=by
 rintro j hj-⟨h1,h2⟩;refine ⟨fun k' hk' => ?_,fun hs' => ?_⟩
 ·unfold Gh.put;rw [if_neg (fun e=>by subst e; exact hj (inj _ _ _ hk' hs))];exact h1 k' hk'
 ·unfold Gh.put;rw [if_neg (fun e=>by subst e; rw [h2 hs'] at hk; cases hk)];exact h2 hs'
def al0:Nat→Option Nat:=fun _=>none
def al1 (s k:Nat):Nat→Option Nat:=fun j=>if j=s then some k else none
theorem al1_inj {s k:Nat} : ∀ j s' k',al1 s k j=some k'→al1 s k s'=some k'→j=s':=by
 intro j s' k' h h';unfold al1 at h h';split at h
 ·split at h'
  ·omega
  ·cases h'
 ·cases h
structure Only (g:Nat) (w w':World):Prop where
 os:w'.os=w.os
 tape:w'.tape=w.tape
 output:w'.output=w.output
 size:w'.heap.size=w.heap.size
 block:∀ b,b≠g→w'.heap[b]?=w.heap[b]?
theorem Only.refl (g:Nat) (w:World):Only g w w:=⟨rfl,rfl,rfl,rfl,fun _ _=>rfl⟩
theorem Only.set {g:Nat} {w w':World} (h:Only g w w') (i:Nat) (u:Value):Only g w (w'.setCell ⟨g,i,none⟩ u) :=
 ⟨h.os,h.tape,h.output,by simp [World.setCell,h.size],fun b hb=>(Below.heap_setCell _ _ _ _ hb).trans (h.block b hb)⟩
theorem LR.store {γ:Gh} {w w':World} {k g t:Nat} {cs cs':Array Value} (hk:γ k=some (some g)) (hu:∀ j,γ j=some (some g)→j=k) (ho:Only g w w') (hb:Blk w g t cs) (hb':Blk w' g t cs') (hs:cs'.size=cs.size) :
  LR γ w (γ.put k none) w':=by
 refine ⟨ho.os,ho.tape,ho.output,Nat.le_of_eq ho.size.symm,fun b _ hf=>ho.block b (fun e=>hf ⟨k,by rw [hk,e]⟩),?_,?_,?_,?_,?_⟩
 ·intro b t' c hc;by_cases hbg:b=g
  ·subst hbg;have:=hb.symm.trans hc;simp at this;obtain ⟨rfl,rfl⟩:=this;exact ⟨cs',hs,hb'⟩
  ·exact ⟨c,rfl,(ho.block b hbg).trans hc⟩
 ·intro j b hj _;unfold Gh.put at hj;split at hj
  ·cases hj
  ·exact hj
 ·intro j b hj;unfold Gh.put;split
  ·exact .inr rfl
  ·exact .inl hj
 ·intro j hj;unfold Gh.put;split
  ·rfl
  ·exact hj
 ·intro hi j b hj;unfold Gh.put at hj;split at hj
  ·cases hj
  ·rw [ho.size]; exact hi j b hj
section
variable {γ γ':Gh} {w w':World} {A B:Option Addr} {d:Nat} {x:Val}
theorem LR.keptS (h:LR γ w γ' w') {S:Nat→Prop} (hS:∀ b,b<w.heap.size→S b→Free γ b):Kept S w w':=⟨h.size,fun b hs hb=>h.kept b hb (hS b hb hs)⟩
theorem LR.rv (h:LR γ w γ' w') (k:RV w (Free γ) d x A B):RV w' (Free γ') d x A B:=by
 have h1:RV w (fun b=>Free γ b∧Free γ' b) d x A B:=k.mono fun b hb hf=>⟨hf,h.free hb hf⟩;exact (h1.keep (h.keptS fun _ _ hb=>hb.1)).mono fun _ _ hb=>hb.2
theorem LR.strs {l:List ByteArray} (h:LR γ w γ' w') (k:Strs w (Free γ) A l):Strs w' (Free γ') A l:=by
 have h1:Strs w (fun b=>Free γ b∧Free γ' b) A l:=k.mono fun b hb hf=>⟨hf,h.free hb hf⟩;exact (h1.keep (h.keptS fun _ _ hb=>hb.1)).mono fun _ _ hb=>hb.2
theorem LR.rows {l:List (List Val)} (h:LR γ w γ' w') (k:Rows w (Free γ) d A l):Rows w' (Free γ') d A l:=by
 have h1:Rows w (fun b=>Free γ b∧Free γ' b) d A l:=k.mono fun b hb hf=>⟨hf,h.free hb hf⟩;exact (h1.keep (h.keptS fun _ _ hb=>hb.1)).mono fun _ _ hb=>hb.2
theorem LR.cell (h:LR γ w γ' w') {p:Addr} {u:Value} (hf:Free γ p.block) (hc:w.cell? p=some u):w'.cell? p=some u:=by
 have hp:p.block<w.heap.size:=by
  unfold World.cell? at hc
  rcases Nat.lt_or_ge p.block w.heap.size with h1 | h1
  ·exact h1
  ·rw [Array.getElem?_eq_none h1] at hc; cases hc
 rw [World.cell?_of_block (w:=w) (h.kept p.block hp hf)];exact hc
theorem LR.blk (h:LR γ w γ' w') {g t:Nat} {cs:Array Value} (hf:Free γ g) (hc:Blk w g t cs):Blk w' g t cs:=hc.keep (h.keptS fun b _ e=>by subst e; exact hf)
def VarAt (k t n:Nat) (v:Value) (γ:Gh) (w:World):Prop:=∃ g cs,v=.pointer (some ⟨g,0,none⟩)∧cs.size=n∧Blk w g t cs∧(γ k=some (some g)∨γ k=some none)∧∀ j,γ j=some (some g)→j=k
theorem VarAt.lr {k t n:Nat} {v:Value} (r:LR γ w γ' w') (h:VarAt k t n v γ w):VarAt k t n v γ' w':=by
 obtain ⟨g,cs,h1,h2,h3,h4,h5⟩:=h;obtain ⟨cs',e,h6⟩:=r.shape g t cs h3;refine ⟨g,cs',h1,e.trans h2,h6,?_,fun j hj=>h5 j (r.old j g hj h3.lt)⟩
 rcases h4 with h4 | h4
 ·exact r.on k g h4
 ·exact .inr (r.done k h4)
def VarIs (t:Nat) (v:Value) (cs:Array Value) (γ:Gh) (w:World):Prop:=∃ g,v=.pointer (some ⟨g,0,none⟩)∧Blk w g t cs∧Free γ g
theorem VarIs.lr {t:Nat} {v:Value} {cs:Array Value} (r:LR γ w γ' w') (h:VarIs t v cs γ w):VarIs t v cs γ' w':=by
 obtain ⟨g,h1,h2,h3⟩:=h;exact ⟨g,h1,r.blk h3 h2,r.free h2.lt h3⟩
theorem VarAt.new {k t n:Nat} (hf:∀ j b,γ j=some (some b)→b<w.heap.size) {cs:Array Value} (hn:cs.size=n):VarAt k t n (.pointer (some ⟨w.heap.size,0,none⟩)) (γ.put k (some w.heap.size)) (w.alloc (.cells cs t)):=by
 refine ⟨_,cs,rfl,hn,Blk.new w t cs,.inl (by simp [Gh.put]),fun j hj => ?_⟩;unfold Gh.put at hj;split at hj
 ·assumption
 ·have:=hf j _ hj;omega
theorem VarAt.stored {al:Nat→Option Nat} {s k t n:Nat} {v:Value} (h:VarAt k t n v γ w) (hs:al s=some k) (hn:LN al s γ) :
  ∃ g cs,v=.pointer (some ⟨g,0,none⟩)∧cs.size=n∧Blk w g t cs∧γ k=some (some g)∧∀ w' cs',Only g w w'→Blk w' g t cs'→cs'.size=n→LR γ w (γ.put k none) w'∧VarIs t v cs' (γ.put k none) w':=by
 obtain ⟨g,cs,h1,h2,h3,h4,h5⟩:=h;have hk:γ k=some (some g):=by
  rcases h4 with h4 | h4
  ·exact h4
  ·exact absurd h4 (hn.1 k hs)
 refine ⟨g,cs,h1,h2,h3,hk,fun w' cs' ho hb he=>⟨LR.store hk h5 ho h3 hb (he.trans h2.symm),g,h1,hb,?_⟩⟩;rintro ⟨j,hj⟩;unfold Gh.put at hj;split at hj
 ·cases hj
 ·rename_i hne;exact hne (h5 j hj)
theorem arr7 {cs:Array Value} (h:cs.size=7) (a0 a1 a2 a3 a4 a5 a6:Value):((((((cs.setIfInBounds 0 a0).setIfInBounds 1 a1).setIfInBounds 2 a2).setIfInBounds 3 a3).setIfInBounds 4 a4).setIfInBounds 5 a5).setIfInBounds 6 a6=#[a0,a1,a2,a3,a4,a5,a6]:=by
 obtain ⟨l⟩:=cs
 match l,h with
 | [_,_,_,_,_,_,_],_=>rfl
theorem VarAt.store7 {al:Nat→Option Nat} {s k t:Nat} {v:Value} (h:VarAt k t 7 v γ w) (hs:al s=some k) (hn:LN al s γ) :
  ∃ g,v=.pointer (some ⟨g,0,none⟩)∧(∃ cs,cs.size=7∧Blk w g t cs)∧γ k=some (some g)∧∀ a0 a1 a2 a3 a4 a5 a6,LR γ w (γ.put k none) (((((((w.setCell ⟨g,0,none⟩ a0).setCell ⟨g,1,none⟩ a1).setCell ⟨g,2,none⟩ a2).setCell ⟨g,3,none⟩ a3).setCell ⟨g,4,none⟩ a4).setCell ⟨g,5,none⟩ a5).setCell ⟨g,6,none⟩ a6) ∧
   VarIs t v #[a0,a1,a2,a3,a4,a5,a6] (γ.put k none) (((((((w.setCell ⟨g,0,none⟩ a0).setCell ⟨g,1,none⟩ a1).setCell ⟨g,2,none⟩ a2).setCell ⟨g,3,none⟩ a3).setCell ⟨g,4,none⟩ a4).setCell ⟨g,5,none⟩ a5).setCell ⟨g,6,none⟩ a6):=by
 obtain ⟨g,cs,h1,h2,h3,h4,h5⟩:=h.stored hs hn;refine ⟨g,h1,⟨cs,h2,h3⟩,h4,fun a0 a1 a2 a3 a4 a5 a6=>h5 _ _ (((((((Only.refl g w).set 0 a0).set 1 a1).set 2 a2).set 3 a3).set 4 a4).set 5 a5 |>.set 6 a6) ?_ rfl⟩;have:=((((((h3.set 0 a0).set 1 a1).set 2 a2).set 3 a3).set 4 a4).set 5 a5).set 6 a6;rwa [arr7 h2] at this
theorem blk7 {g t:Nat} (h:∃ cs,cs.size=7∧Blk w g t cs):(∃ x0 x1 x2 x3 x4 x5 x6,w.cell? ⟨g,0,none⟩=some x0∧w.cell? ⟨g,1,none⟩=some x1∧w.cell? ⟨g,2,none⟩=some x2∧w.cell? ⟨g,3,none⟩=some x3∧w.cell? ⟨g,4,none⟩=some x4∧w.cell? ⟨g,5,none⟩=some x5∧w.cell? ⟨g,6,none⟩=some x6)∧(∀ i,w.frozen? ⟨g,i,none⟩=false)∧g<w.heap.size:=by
 obtain ⟨⟨l⟩,h1,h2⟩:=h
 match l,h1 with
 | [x0,x1,x2,x3,x4,x5,x6],_=>exact ⟨⟨x0,x1,x2,x3,x4,x5,x6,h2.cell rfl,h2.cell rfl,h2.cell rfl,h2.cell rfl,h2.cell rfl,h2.cell rfl,h2.cell rfl⟩,h2.frozen,h2.lt⟩
end

theorem LinStep.no {Γ:Type} {P:Program} {ops:Array Oper} {D:Nat→List Nat} {R:Γ→World→Γ→World→Prop} {N:Nat→Γ→Prop} {G:Nat→List Value→Γ→World→Prop} {a0:Act} {γ0:Γ} {w0:World} {i:Nat} {o:Oper}
  (h:∀ (vals:Nat→Value) (γ:Γ) (w:World),(∀ j,j∈predsOf o→G j ((D j).map vals) γ w)→linWanted o vals=false∧G i ((D i).map (setV vals i undef)) γ w):LinStep P ops D R N G a0 γ0 w0 i o:=by
 intro vals γ w hR hN hp;obtain ⟨h1,h2⟩:=h vals γ w hp;rw [if_neg (by rw [h1]; simp)];exact h2
theorem Only.drew {g:Nat} {w w':World} (h:Only g w w'):Only g w w'.drew:=⟨h.os,h.tape,h.output,h.size,h.block⟩
theorem Only.drewN {g:Nat} {w w':World} (h:Only g w w') (n:Nat):Only g w (w'.drewN n):=⟨h.os,h.tape,h.output,h.size,h.block⟩
theorem Only.trans {g:Nat} {w w' w'':World} (h:Only g w w') (k:Only g w' w''):Only g w w'':=⟨k.os.trans h.os,k.tape.trans h.tape,k.output.trans h.output,k.size.trans h.size,fun b hb=>(k.block b hb).trans (h.block b hb)⟩
theorem Only.kept {g:Nat} {w w':World} (h:Only g w w') {S:Nat→Prop} (hS:∀ b,b<w.heap.size→S b→b≠g):Kept S w w':=⟨Nat.le_of_eq h.size.symm,fun b hb hl=>h.block b (hS b hl hb)⟩
theorem Only.below {g B:Nat} {w w':World} (h:Only g w w') (hB:B≤g):Below B w w':=⟨h.os,h.tape,h.output,Nat.le_of_eq h.size.symm,fun b hb=>h.block b (by omega)⟩
theorem Ext.only {g:Nat} {a w w':World} (h:Ext a w) (k:Only g w w') (hg:a.heap.size≤g):Ext a w':=Below.trans h (k.below hg)
theorem Only.own {g:Nat} {w w':World} (h:Only g w w') {base e sz n c:Nat} {A:Option Addr} {xs:List Value} (ho:Own w base e sz A n c xs) (hg:g<base):Own w' base e sz A n c xs :=
 ho.keep (h.kept fun b _ hb=>by have:=(ho.blk hb).1; omega)
theorem lin_app {P:Program} {o:Oper} {ρ:Operand→Value} {K:Value→World→Prop} {w:World} {base e sz n c:Nat} {A:Option Addr} {xs:List Value} (s x:Operand) {t by_:Nat}
  (ho:o.op=.call { callee:=.builtin .append,args:=#[s,x],argTypes:=#[t,t] }) (ti:TI P t e sz by_) (hs:ρ s=.slice A n c) (hown:Own w base e sz A n c xs)
  {S:Nat→Prop} {B:Option Addr} {m c2:Nat} {news:List Value} (hx:ρ x=.slice B m c2) (hr:Rd w S B news) (hl:news.length=m*sz) (h1:∀ u∈news,u.oneCell'=true)
  (h63:(n+m)*by_≤140737488355328) (hby:0<by_) (hbase:base≤w.heap.size)
  (h:∀ A' c' w',Own w' base e sz A' (n+m) c' (xs++news)→w.grownBy w' (ob A)→(ob A'=ob A∨ob A'=some w.heap.size)→K (.slice A' (n+m) c') w') :
  linUpon P K ((execOp ρ o).run P w):=by
 obtain ⟨A',c',w',hrun,h2,h3,h4⟩:=run_app w o.type ti hown (c2:=c2) hr hl h1 h63 hby hbase;unfold execOp;simp only [ho,resolve,invoke,builtin,Sem.run_bind,Sem.run_pure,Result.andThen_ok,List.map_toArray,List.map_cons,List.map_nil,hs,hx,hrun];exact h A' c' w' h2 h3 h4

def IntsL (w:World) (S:Nat→Prop) (A:Option Addr) (l:List Int):Prop:=Rd w S A (l.map (Value.int .i64))∧l.length≤9223372036854775807
theorem IntsL.keep {w w':World} {S:Nat→Prop} {A:Option Addr} {l:List Int} (h:IntsL w S A l) (k:Kept S w w'):IntsL w' S A l:=⟨h.1.keep k,h.2⟩
theorem IntsL.mono {w:World} {S T:Nat→Prop} {A:Option Addr} {l:List Int} (h:IntsL w S A l) (k:∀ i,i<w.heap.size→S i→T i):IntsL w T A l:=⟨h.1.mono k,h.2⟩
theorem IntsL.at_ {w:World} {S:Nat→Prop} {A:Option Addr} {l:List Int} (h:IntsL w S A l) {k:Nat} (hk:k<l.length):∃ b o,A=some ⟨b,o,none⟩∧b<w.heap.size∧w.cell? ⟨b,o+k,none⟩=some (.int .i64 l[k]) :=
 h.1.at_ (by simp [hk])
def RIssL (w:World) (S:Nat→Prop) (A:Option Addr) (l:List (List Int)):Prop :=
 l.length≤9223372036854775807∧∃ hs:List Value,Rd w S A hs∧hs.length=l.length∧∀ (i:Nat) (r:List Int),l[i]?=some r→∃ (B:Option Addr) (e:Nat),hs[i]?=some (.slice B r.length e)∧r.length≤e∧IntsL w S B r
theorem RIssL.keep {w w':World} {S:Nat→Prop} {A:Option Addr} {l:List (List Int)} (h:RIssL w S A l) (k:Kept S w w'):RIssL w' S A l:=by
 obtain ⟨h0,hs,h1,h2,h3⟩:=h;refine ⟨h0,hs,h1.keep k,h2,fun i r hr => ?_⟩;obtain ⟨B,e,g1,g2,g3⟩:=h3 i r hr;exact ⟨B,e,g1,g2,g3.keep k⟩
theorem RIssL.at_ {w:World} {S:Nat→Prop} {A:Option Addr} {l:List (List Int)} (h:RIssL w S A l) {k:Nat} (hk:k<l.length) :
  ∃ b o B e,A=some ⟨b,o,none⟩∧b<w.heap.size∧w.cell? ⟨b,o+k,none⟩=some (.slice B l[k].length e)∧l[k].length≤e∧IntsL w S B l[k]:=by
 obtain ⟨_,hs,h1,h2,h3⟩:=h;obtain ⟨B,e,g1,g2,g3⟩:=h3 k l[k] (List.getElem?_eq_getElem hk);obtain ⟨b,o,hA,hb,hc⟩:=h1.at_ g1;exact ⟨b,o,B,e,hA,hb,hc,g2,g3⟩
def NumIs (w:World) (g:Nat) (A:Option Addr) (n c K:Nat):Prop:=Blk w g 70 #[.slice A n c,.int .i64 (K:Int)]∧K≤n
theorem NumIs.keep {w w':World} {g:Nat} {A:Option Addr} {n c K:Nat} (h:NumIs w g A n c K) (k:Kept (fun b=>b=g) w w'):NumIs w' g A n c K:=⟨h.1.keep k,h.2⟩
def RetNx (w:World) (g:Nat) (A:Option Addr) (len c:Nat) (n:Int) (e:Ending) (w':World):Prop:=∃ (r:Int) (K:Nat),e=.returned (.int .i64 r)∧0≤r∧r<n∧NumIs w' g A len c K∧Only g w w'
theorem next_bd (a n:Int) (hn:1≤n):-n<a.tmod n∧a.tmod n<n:=by
 have h1:=Int.tmod_lt_of_pos a (b:=n) (by omega);have h2:=Int.tmod_lt_of_pos (-a) (b:=n) (by omega);rw [Int.neg_tmod] at h2;omega
theorem next_r (a n:Int) (hn:1≤n):0≤(a.tmod n+n).tmod n∧(a.tmod n+n).tmod n<n:=by
 obtain ⟨h1,h2⟩:=next_bd a n hn;rw [Int.tmod_eq_emod_of_nonneg (by omega)];exact ⟨Int.emod_nonneg _ (by omega),Int.emod_lt_of_pos _ (by omega)⟩
theorem Num_Next (n:Int) (g:Nat) (A:Option Addr) (l:List Int) (c K:Nat) (w:World) (S:Nat→Prop) (hn1:1≤n) (hn2:n≤4000000000000000) (hm:NumIs w g A l.length c K) (hl:IntsL w S A l) (hS:¬ S g) :
  Calls Tryz.prog 30 #[.pointer (some ⟨g,0,none⟩),.int .i64 n] w (RetNx w g A l.length c n):=by
 have hlen:=hl.2;have hK:=hm.2;have k0:=hm.1.cell (i:=0) rfl;have k1:=hm.1.cell (i:=1) rfl;have kf:=hm.1.frozen;have kz:=hm.1.lt;have HM:=Hd hm;have HL:=Hd hl;clear hm hl;by_cases hlt:K<l.length
 ·obtain ⟨b,o,rfl,hb,hc⟩:=HL.o.at_ hlt;have hbg:b≠g:=by
   rcases HL.o.1 with h | ⟨b',o',h1,h2,_⟩
   ·rw [List.map_eq_nil_iff] at h; subst h; simp at hlt
   ·injection h1 with h1; injection h1 with h1; subst h1; rintro rfl; exact hS h2
  have hge:decide (l.length≤K)=false:=(by simpa using hlt);have hnn:decide (n<1)=false:=(by simpa using hn1);obtain ⟨r1,r2⟩:=next_r l[K] n hn1;obtain ⟨b1,b2⟩:=next_bd l[K] n hn1
  go_enter Tryz.func30,Tryz.ntmps30
  go_wp2
  go_quiet (fail)
  go_wp2;obtain ⟨w2,hw2⟩:∃ w2,w2=(w.drewN nq).setCell ⟨g,1,none⟩ (.int .i64 ((K:Int)+1)):=⟨_,rfl⟩;rw [← hw2];have ho:Only g w w2:=(by rw [hw2]; exact ((Only.refl g w).drewN nq).set _ _);have hb2:Blk w2 g 70 #[.slice (some ⟨b,o,none⟩) l.length c,.int .i64 ((K:Int)+1)]:=by
   rw [hw2];exact (HM.o.1.keep (Kept.drewN _ _ _)).set 1 _
  have hc2:w2.cell? ⟨b,o+K,none⟩=some (.int .i64 l[K]):=(World.cell?_of_block (w:=w) (ho.block b hbg)).trans hc;clear hw2 k0 k1 kf hc;have k0:=hb2.cell (i:=0) rfl;have k1:=hb2.cell (i:=1) rfl;have HO:=Hd ho;have HB2:=Hd hb2;clear ho hb2 HM HL;have q1:IntKind.i64.wrap ((K:Int)+1-1)=(K:Int):=(by rw [IntWalk.i64_in _ (by omega)]; omega);have q2:(0:Int)≤(K:Int):=(by omega);have q3:(K:Int)<(l.length:Int):=(by omega);have q4:IntKind.i64.wrap (l[K].tmod n)=l[K].tmod n:=IntWalk.i64_in _ (by omega);have q5:IntKind.i64.wrap (l[K].tmod n+n)=l[K].tmod n+n:=IntWalk.i64_in _ (by omega);have q6:IntKind.i64.wrap ((l[K].tmod n+n).tmod n)=(l[K].tmod n+n).tmod n:=IntWalk.i64_in _ (by omega);have q7:(n==0)=false:=(by simp; omega)
  go_quiet (fail)
  go_wp2;go_ret;refine ⟨_,K+1,rfl,Int.emod_nonneg _ (by omega),Int.emod_lt_of_pos _ (by omega),⟨?_,by omega⟩,HO.o.drewN _⟩;have:=fun m=>HB2.o.keep (w':=w2.drewN m) (Kept.drewN _ _ _);rw [show (((K+1:Nat)):Int)=(K:Int)+1 by omega];exact this _
 ·have hge:decide (l.length≤K)=true:=(by simpa using hlt);clear hlt
  go_enter Tryz.func30,Tryz.ntmps30
  go_wp2
  go_quiet (fail)
  go_wp2;go_ret;exact ⟨0,K,rfl,Int.le_refl _,by omega,HM.o.keep (Kept.drewN _ _ _),(Only.refl g w).drewN _⟩

def Tens (w:World):Prop:=w.cell? ⟨0,0,none⟩=some (.int .i64 1)∧w.cell? ⟨0,1,none⟩=some (.int .i64 10)∧w.cell? ⟨0,2,none⟩=some (.int .i64 100)∧w.cell? ⟨0,3,none⟩=some (.int .i64 1000) ∧
 w.cell? ⟨0,4,none⟩=some (.int .i64 10000)∧w.cell? ⟨0,5,none⟩=some (.int .i64 100000)∧w.cell? ⟨0,6,none⟩=some (.int .i64 1000000)
theorem Tens.ext {w w':World} (h:Tens w) (hx:Ext w w'):Tens w':=⟨hx.cell h.1,hx.cell h.2.1,hx.cell h.2.2.1,hx.cell h.2.2.2.1,hx.cell h.2.2.2.2.1,hx.cell h.2.2.2.2.2.1,hx.cell h.2.2.2.2.2.2⟩
theorem Tens.pos {w:World} (h:Tens w):0<w.heap.size:=by
 rcases Nat.lt_or_ge 0 w.heap.size with h1 | h1
 ·exact h1
 ·have:=h.1;simp [World.cell?,Array.getElem?_eq_none h1] at this

def valD (n s:Int):Int × Int:=if decR n s=true then (n,s) else (0,0)
def RetD (w:World) (r:Int × Int) (e:Ending) (w':World):Prop:=e=.returned (.agg #[.int .i64 r.1,.int .i64 r.2])∧Ext w w'
theorem decimal_value (n s:Int) (w:World):Calls Tryz.prog 112 #[.agg #[.int .i64 n,.int .i64 s]] w (RetD w (valD n s)):=by
 go_enter Tryz.func112,Tryz.ntmps112
 go_wp2_with fail
 refine (decimal_Right n s _).mono ?_;rintro e1 w1 ⟨rfl,hx1⟩;obtain ⟨hc1,hf1⟩:=bcell hx1;have hz1:=hx1.size;simp at hc1 hf1 hz1;have hz2:w.heap.size<w1.heap.size:=(by omega);have hz3:w.heap.size+1<w1.heap.size:=(by omega);have HX:=Hd ((((Ext.refl w).alloc _).alloc _).trans hx1);cases hd:decR n s
 ·have HF:=Hd (show valD n s=(0,0) by simp [valD,hd]);clear hd hx1;go_wp2;rw [HF.o];refine bodyPost_ret (v:=.agg #[.int .i64 0,.int .i64 0]) (by simp [results,Tryz.results112,go_sem,hc1]) rfl ⟨rfl,?_⟩
  iterate 2 with_reducible refine Ext.set2 ?_ (by omega) _
  with_reducible exact HX.o
 ·have HF:=Hd (show valD n s=(n,s) by simp [valD,hd]);clear hd hx1;go_wp2;rw [HF.o];refine bodyPost_ret (v:=.agg #[.int .i64 n,.int .i64 s]) (by simp [results,Tryz.results112,go_sem,hc1]) rfl ⟨rfl,?_⟩
  iterate 2 with_reducible refine Ext.set2 ?_ (by omega) _
  with_reducible exact HX.o

def pw (s:Int):Int:=if s=0 then 1 else if s=1 then 10 else if s=2 then 100 else if s=3 then 1000 else if s=4 then 10000 else if s=5 then 100000 else 1000000
def mu (n s:Int):Int:=(valD n s).1*pw (6-(valD n s).2)
def Ret2 (w:World) (a b:Int) (e:Ending) (w':World):Prop:=e=.returned (.tuple #[.int .i64 a,.int .i64 b])∧Ext w w'
theorem valD_range (n s:Int):0≤(valD n s).2∧(valD n s).2≤6∧-1000000000000000≤(valD n s).1∧(valD n s).1≤1000000000000000:=by
 unfold valD;split
 ·rename_i h;simp [decR,unitsB] at h;exact ⟨h.1.1.1,h.1.1.2,h.1.2.1,h.1.2.2⟩
 ·simp
theorem split_q (a d m:Int) (hm:0<m) (h:d*m=1000000):(a*m).tdiv 1000000=a.tdiv d∧(a*m).tmod 1000000=a.tmod d*m:=by
 rw [← h,Int.mul_comm a m,Int.mul_comm d m];exact ⟨Int.mul_tdiv_mul_of_pos _ _ hm,by rw [Int.mul_tmod_mul_of_pos _ _ hm,Int.mul_comm]⟩
theorem tmod_bd (a d m:Int) (hm:0<m) (hd:0<d) (h:d*m=1000000):-1000000<a.tmod d*m∧a.tmod d*m<1000000:=by
 have h1:=Int.tmod_lt_of_pos a hd;have h2:-d<a.tmod d:=by
  have:=Int.lt_tmod_of_pos a hd;omega
 constructor
 ·have:-d*m<a.tmod d*m:=Int.mul_lt_mul_of_pos_right h2 hm;rw [Int.neg_mul,h] at this; exact this
 ·have:a.tmod d*m<d*m:=Int.mul_lt_mul_of_pos_right h1 hm;rw [h] at this; exact this
theorem split_ret (m a d k:Int) (hm:m=a*k) (hk:0<k) (hd:0<d) (h:d*k=1000000) :
  Ending.returned (.tuple #[.int .i64 (a.tdiv d),.int .i64 (wrap64 (a.tmod d*k))])=.returned (.tuple #[.int .i64 (m.tdiv 1000000),.int .i64 (m.tmod 1000000)]):=by
 obtain ⟨h1,h2⟩:=split_q a d k hk h;obtain ⟨b1,b2⟩:=tmod_bd a d k hk hd h;rw [hm,h1,h2,IntWalk.wrap64_in _ ⟨by omega,by omega⟩]
theorem decimal_split (n s:Int) (w:World) (ht:Tens w):Calls Tryz.prog 82 #[.agg #[.int .i64 n,.int .i64 s]] w (Ret2 w ((mu n s).tdiv 1000000) ((mu n s).tmod 1000000)):=by
 have HT:=Hd ht;clear ht
 go_enter Tryz.func82,Tryz.ntmps82
 go_wp2_with fail
 refine (decimal_value n s _).mono ?_;rintro e1 w1 ⟨rfl,hx1⟩;obtain ⟨hc1,hf1⟩:=bcell hx1;have hz1:=hx1.size;simp at hc1 hf1 hz1;have hz2:w.heap.size<w1.heap.size:=(by omega);have HX:=Hd (((Ext.refl w).alloc _).trans hx1);have hr:=valD_range n s;have HM:=Hd (show mu n s=(valD n s).1*pw (6-(valD n s).2) from rfl);clear hx1;generalize valD n s=p at *;obtain ⟨a,b⟩:=p;simp only at hr HM ⊢;obtain ⟨hr1,hr2,hr3,hr4⟩:=hr;have hb:b=0∨b=1∨b=2∨b=3∨b=4∨b=5∨b=6:=(by omega);obtain ⟨t0,t1,t2,t3,t4,t5,t6⟩:=HT.o.ext HX.o;have hp:=HT.o.pos;have hne:0≠w.heap.size:=(by omega);have hne2:w.heap.size≠0:=(by omega);have b0:w1.cell? ⟨w.heap.size,0,none⟩=some (.int .i64 n):=(by rw [hc1 _ _ (by omega)]; simp [go_sem]);have b1:w1.cell? ⟨w.heap.size,1,none⟩=some (.int .i64 s):=(by rw [hc1 _ _ (by omega)]; simp [go_sem]);have f0:w1.frozen? ⟨w.heap.size,0,none⟩=false:=(by rw [hf1 _ _ (by omega)]; simp [go_sem]);have f1:w1.frozen? ⟨w.heap.size,1,none⟩=false:=(by rw [hf1 _ _ (by omega)]; simp [go_sem]);clear hc1 hf1
 rcases hb with rfl | rfl | rfl | rfl | rfl | rfl | rfl
 all_goals
  go_wp2
  go_quiet (fail)
  go_wp2;go_ret2;refine ⟨?_,?_⟩
  rotate_left
  ·with_reducible refine Ext.drewN ?_ _
   iterate 2 with_reducible refine Ext.set2 ?_ (by omega) _
   with_reducible exact HX.o
  have hm:=HM.o;simp [pw] at hm
 ·rw [hm];simp [Int.mul_tdiv_cancel]
 ·exact split_ret _ a 10 100000 hm (by decide) (by decide) (by decide)
 ·exact split_ret _ a 100 10000 hm (by decide) (by decide) (by decide)
 ·exact split_ret _ a 1000 1000 hm (by decide) (by decide) (by decide)
 ·exact split_ret _ a 10000 100 hm (by decide) (by decide) (by decide)
 ·exact split_ret _ a 100000 10 hm (by decide) (by decide) (by decide)
 ·rw [hm];have hb:=tmod_bd a 1000000 1 (by decide) (by decide) (by decide);rw [Int.mul_one] at hb;show Ending.returned (.tuple #[.int .i64 (a.tdiv 1000000),.int .i64 (wrap64 (a.tmod 1000000))])=_;rw [IntWalk.wrap64_in _ ⟨by omega,by omega⟩]

def normU (u:Int):Int × Int :=
 if u % 10≠0 then (u,6) else if u % 100≠0 then (u / 10,5) else if u % 1000≠0 then (u / 100,4) else if u % 10000≠0 then (u / 1000,3)
 else if u % 100000≠0 then (u / 10000,2) else if u % 1000000≠0 then (u / 100000,1) else (u / 1000000,0)
def joinS (u:Int):(Int × Int) × Bool:=if unitsB (normU u).1=true then (normU u,true) else ((0,0),false)
theorem normU_of {u n s:Int} (h0:0≤s) (h6:s≤6) (h:n*pw (6-s)=u) (hn:s=0∨n % 10≠0):normU u=(n,s):=by
 have hs:s=0∨s=1∨s=2∨s=3∨s=4∨s=5∨s=6:=by omega
 rcases hs with rfl | rfl | rfl | rfl | rfl | rfl | rfl <;> simp [pw] at h <;> subst h <;> unfold normU
 ·rw [if_neg (by omega),if_neg (by omega),if_neg (by omega),if_neg (by omega),if_neg (by omega),if_neg (by omega)]; congr 1; omega
 ·rw [if_neg (by omega),if_neg (by omega),if_neg (by omega),if_neg (by omega),if_neg (by omega),if_pos (by omega)]; congr 1; omega
 ·rw [if_neg (by omega),if_neg (by omega),if_neg (by omega),if_neg (by omega),if_pos (by omega)]; congr 1; omega
 ·rw [if_neg (by omega),if_neg (by omega),if_neg (by omega),if_pos (by omega)]; congr 1; omega
 ·rw [if_neg (by omega),if_neg (by omega),if_pos (by omega)]; congr 1; omega
 ·rw [if_neg (by omega),if_pos (by omega)]; congr 1; omega
 ·rw [if_pos (by omega)]
theorem tdm (b m:Int) (hm:0<m):m*b.tdiv m+b.tmod m=b∧-m<b.tmod m∧b.tmod m<m∧(0≤b→0≤b.tmod m)∧(b≤0→b.tmod m≤0):=by
 refine ⟨Int.mul_tdiv_add_tmod b m,?_,Int.tmod_lt_of_pos b hm,fun h=>Int.tmod_nonneg m h,fun h => ?_⟩
 ·have:=Int.lt_tmod_of_pos b hm;omega
 ·have:=Int.tmod_nonneg m (show 0≤-b by omega);rw [Int.neg_tmod] at this;omega
def RetDB (w:World) (r:(Int × Int) × Bool) (e:Ending) (w':World):Prop:=e=.returned (.tuple #[.agg #[.int .i64 r.1.1,.int .i64 r.1.2],.bool r.2])∧Ext w w'
theorem tens_at {w:World} (h:Tens w) (m:Nat) (hm:m≤6):w.cell? ⟨0,m,none⟩=some (.int .i64 (pw (m:Int))):=by
 obtain ⟨h0,h1,h2,h3,h4,h5,h6⟩:=h;have hs:m=0∨m=1∨m=2∨m=3∨m=4∨m=5∨m=6:=(by omega)
 rcases hs with rfl | rfl | rfl | rfl | rfl | rfl | rfl <;> first | exact h0 | exact h1 | exact h2 | exact h3 | exact h4 | exact h5 | exact h6
theorem pw_bd (m:Nat) (hm:m≤6):1≤pw (m:Int)∧pw (m:Int)≤1000000:=by
 have hs:m=0∨m=1∨m=2∨m=3∨m=4∨m=5∨m=6:=by omega
 rcases hs with rfl | rfl | rfl | rfl | rfl | rfl | rfl <;> decide
theorem quo_bd (m:Nat) (hm:m≤6):1000000000≤1000000000000000 / pw (m:Int)∧1000000000000000 / pw (m:Int)≤1000000000000000:=by
 have hs:m=0∨m=1∨m=2∨m=3∨m=4∨m=5∨m=6:=by omega
 rcases hs with rfl | rfl | rfl | rfl | rfl | rfl | rfl <;> decide
theorem prod_bd (W:Int) (m:Nat) (hm:m≤6) (h1:-(1000000000000000 / pw (m:Int))≤W) (h2:W≤1000000000000000 / pw (m:Int)):-1000000000000000≤W*pw (m:Int)∧W*pw (m:Int)≤1000000000000000:=by
 have hs:m=0∨m=1∨m=2∨m=3∨m=4∨m=5∨m=6:=by omega
 rcases hs with rfl | rfl | rfl | rfl | rfl | rfl | rfl <;> simp [pw] at h1 h2 ⊢ <;> omega
theorem join_bd (p R:Int) (m:Nat) (hm:m≤6) (h:p*pw (6-(m:Int))=R) (h1:-1000000<R) (h2:R<1000000):-1000000<p∧p<1000000:=by
 have hs:m=0∨m=1∨m=2∨m=3∨m=4∨m=5∨m=6:=by omega
 rcases hs with rfl | rfl | rfl | rfl | rfl | rfl | rfl <;> simp [pw] at h <;> omega
theorem join_step (p R:Int) (m:Nat) (hm:m≤6) (h0:0<m) (h:p*pw (6-(m:Int))=R) (hx:10*p.tdiv 10+p.tmod 10=p) (hz:p.tmod 10=0):p.tdiv 10*pw (6-((m-1:Nat):Int))=R:=by
 have hs:m=1∨m=2∨m=3∨m=4∨m=5∨m=6:=by omega
 rcases hs with rfl | rfl | rfl | rfl | rfl | rfl <;> simp [pw] at h ⊢ <;> omega
theorem tmod10 (p:Int):p.tmod 10=0↔p % 10=0:=by
 rw [← Int.dvd_iff_tmod_eq_zero,← Int.dvd_iff_emod_eq_zero]
theorem join_norm (W R p:Int) (m:Nat) (a b:Int) (hm:m≤6) (h:p*pw (6-(m:Int))=R) (hw:W*1000000+R=a*1000000+b) (hn:(m:Int)=0∨p.tmod 10≠0) :
  normU (a*1000000+b)=(W*pw (m:Int)+p,(m:Int)):=by
 rw [← hw,← h];rw [Ne,tmod10] at hn;have hs:m=0∨m=1∨m=2∨m=3∨m=4∨m=5∨m=6:=(by omega)
 rcases hs with rfl | rfl | rfl | rfl | rfl | rfl | rfl
 all_goals
  refine normU_of (by omega) (by omega) ?_ ?_
  ·simp [pw] <;> omega
  ·simp [pw] at hn ⊢ <;> omega
theorem join_no (W R p:Int) (m:Nat) (a b:Int) (hm:m≤6) (h:p*pw (6-(m:Int))=R) (h1:-1000000<R) (h2:R<1000000) (_hsg:(0<W→0≤R)∧(W<0→R≤0))
  (hn:normU (a*1000000+b)=(W*pw (m:Int)+p,(m:Int))) (ho:W< -(1000000000000000 / pw (m:Int))∨1000000000000000 / pw (m:Int)<W):joinS (a*1000000+b)=((0,0),false):=by
 have hu:unitsB (W*pw (m:Int)+p)=false:=by
  have hs:m=0∨m=1∨m=2∨m=3∨m=4∨m=5∨m=6:=by omega
  rcases hs with rfl | rfl | rfl | rfl | rfl | rfl | rfl <;> simp [pw] at h ho ⊢ <;> simp [unitsB] <;> omega
 unfold joinS;rw [hn,hu];rfl
end Go.Proofs.YthmckfloppblcaaGreatDoor
namespace Go.Proofs.YthmckfloppblcaaGreatDoor
end Go.Proofs.YthmckfloppblcaaGreatDoor
namespace Go.Proofs
open Go Go.RowKit Go.Shelf
def Tryz.lt105_ren:Go.Shelf.Ren:=⟨fun | 105=>198 | 212=>204 | 99=>199 | 165=>124 | 166=>98 | 170=>205 | 169=>101 | 263=>207 | 264=>208 | 206=>206 | 240=>123 | 241=>151 | 276=>150 | 277=>178 | n=>n,fun | 9=>9 | 3=>3 | 4=>4 | 20=>20 | 0=>0 | 46=>146 | 109=>235 | 5=>5 | 72=>134 | 76=>137 | 51=>168 | 146=>233 | 53=>152 | 148=>241 | 70=>131 | 37=>132 | 75=>136 | 127=>157 | 164=>191 | 80=>126 | n=>n,fun | n=>n⟩
theorem Tryz.lt105:Go.Proofs.Lays.n105 Tryz.prog Tryz.lt105_ren:={
 mixed:=by kernel_rfl
 f99:=Tryz.func199.trans (congrArg some (by kernel_rfl))
 f105:=Tryz.func198.trans (congrArg some (by kernel_rfl))
 f165:=Tryz.func124.trans (congrArg some (by kernel_rfl))
 f166:=Tryz.func98.trans (congrArg some (by kernel_rfl))
 f169:=Tryz.func101.trans (congrArg some (by kernel_rfl))
 f170:=Tryz.func205.trans (congrArg some (by kernel_rfl))
 f206:=Tryz.func206.trans (congrArg some (by kernel_rfl))
 f212:=Tryz.func204.trans (congrArg some (by kernel_rfl))
 f240:=Tryz.func123.trans (congrArg some (by kernel_rfl))
 f241:=Tryz.func151.trans (congrArg some (by kernel_rfl))
 f263:=Tryz.func207.trans (congrArg some (by kernel_rfl))
 f264:=Tryz.func208.trans (congrArg some (by kernel_rfl))
 f276:=Tryz.func150.trans (congrArg some (by kernel_rfl))
 f277:=Tryz.func178.trans (congrArg some (by kernel_rfl))
 t0:=Tryz.underlying0
 a0:=Tryz.isAgg0
 z0:=Tryz.sizeOf0
 v0:=Tryz.zeroValue0
 t3:=Tryz.underlying3
 a3:=Tryz.isAgg3
 z3:=Tryz.sizeOf3
 v3:=Tryz.zeroValue3
 t4:=Tryz.underlying4
 a4:=Tryz.isAgg4
 z4:=Tryz.sizeOf4
 v4:=Tryz.zeroValue4
 t5:=Tryz.underlying5
 a5:=Tryz.isAgg5
 z5:=Tryz.sizeOf5
 v5:=Tryz.zeroValue5
 t9:=Tryz.underlying9
 a9:=Tryz.isAgg9
 z9:=Tryz.sizeOf9
 v9:=Tryz.zeroValue9
 t20:=Tryz.underlying20
 a20:=Tryz.isAgg20
 z20:=Tryz.sizeOf20
 v20:=Tryz.zeroValue20
 t37:=Tryz.underlying132
 a37:=Tryz.isAgg132
 z37:=Tryz.sizeOf132
 v37:=Tryz.zeroValue132
 t46:=Tryz.underlying146
 a46:=Tryz.isAgg146
 z46:=Tryz.sizeOf146
 v46:=Tryz.zeroValue146
 t51:=Tryz.underlying168
 a51:=Tryz.isAgg168
 z51:=Tryz.sizeOf168
 v51:=Tryz.zeroValue168
 t53:=Tryz.underlying152
 a53:=Tryz.isAgg152
 z53:=Tryz.sizeOf152
 v53:=Tryz.zeroValue152
 t70:=Tryz.underlying131
 a70:=Tryz.isAgg131
 z70:=Tryz.sizeOf131
 v70:=Tryz.zeroValue131
 t72:=Tryz.underlying134
 a72:=Tryz.isAgg134
 z72:=Tryz.sizeOf134
 v72:=Tryz.zeroValue134
 t75:=Tryz.underlying136
 a75:=Tryz.isAgg136
 z75:=Tryz.sizeOf136
 v75:=Tryz.zeroValue136
 t76:=Tryz.underlying137
 a76:=Tryz.isAgg137
 z76:=Tryz.sizeOf137
 v76:=Tryz.zeroValue137
 t109:=Tryz.underlying235
 a109:=Tryz.isAgg235
 z109:=Tryz.sizeOf235
 v109:=Tryz.zeroValue235
 t127:=Tryz.underlying157
 a127:=Tryz.isAgg157
 z127:=Tryz.sizeOf157
 v127:=Tryz.zeroValue157
 t146:=Tryz.underlying233
 a146:=Tryz.isAgg233
 z146:=Tryz.sizeOf233
 v146:=Tryz.zeroValue233
 t148:=Tryz.underlying241
 a148:=Tryz.isAgg241
 z148:=Tryz.sizeOf241
 v148:=Tryz.zeroValue241
 t164:=Tryz.underlying191
 a164:=Tryz.isAgg191
 z164:=Tryz.sizeOf191
 v164:=Tryz.zeroValue191 }
def Tryz.lt155_ren:Go.Shelf.Ren:=⟨fun | 155=>95 | 154=>119 | 138=>142 | 165=>124 | 143=>143 | 166=>98 | 197=>144 | 169=>101 | 195=>167 | 218=>168 | 240=>123 | 241=>151 | 219=>169 | 260=>170 | 276=>150 | 277=>178 | 217=>193 | 225=>194 | 224=>195 | 267=>196 | 266=>202 | 314=>203 | n=>n,fun | 9=>9 | 3=>3 | 4=>4 | 72=>134 | 0=>0 | 76=>137 | 105=>178 | 21=>21 | 5=>5 | 70=>131 | 20=>20 | 37=>132 | 75=>136 | 127=>157 | 164=>191 | 46=>146 | 119=>226 | 139=>229 | 138=>228 | 146=>233 | 51=>168 | 80=>126 | n=>n,fun | 1=>2 | 3=>3 | 4=>4 | n=>n⟩
theorem Tryz.lt155:Go.Proofs.Lays.n155 Tryz.prog Tryz.lt155_ren:={
 mixed:=by kernel_rfl
 f138:=Tryz.func142.trans (congrArg some (by kernel_rfl))
 f143:=Tryz.func143.trans (congrArg some (by kernel_rfl))
 f154:=Tryz.func119.trans (congrArg some (by kernel_rfl))
 f155:=Tryz.func95.trans (congrArg some (by kernel_rfl))
 f165:=Tryz.func124.trans (congrArg some (by kernel_rfl))
 f166:=Tryz.func98.trans (congrArg some (by kernel_rfl))
 f169:=Tryz.func101.trans (congrArg some (by kernel_rfl))
 f195:=Tryz.func167.trans (congrArg some (by kernel_rfl))
 f197:=Tryz.func144.trans (congrArg some (by kernel_rfl))
 f217:=Tryz.func193.trans (congrArg some (by kernel_rfl))
 f218:=Tryz.func168.trans (congrArg some (by kernel_rfl))
 f219:=Tryz.func169.trans (congrArg some (by kernel_rfl))
 f224:=Tryz.func195.trans (congrArg some (by kernel_rfl))
 f225:=Tryz.func194.trans (congrArg some (by kernel_rfl))
 f240:=Tryz.func123.trans (congrArg some (by kernel_rfl))
 f241:=Tryz.func151.trans (congrArg some (by kernel_rfl))
 f260:=Tryz.func170.trans (congrArg some (by kernel_rfl))
 f266:=Tryz.func202.trans (congrArg some (by kernel_rfl))
 f267:=Tryz.func196.trans (congrArg some (by kernel_rfl))
 f276:=Tryz.func150.trans (congrArg some (by kernel_rfl))
 f277:=Tryz.func178.trans (congrArg some (by kernel_rfl))
 f314:=Tryz.func203.trans (congrArg some (by kernel_rfl))
 t0:=Tryz.underlying0
 a0:=Tryz.isAgg0
 z0:=Tryz.sizeOf0
 v0:=Tryz.zeroValue0
 t3:=Tryz.underlying3
 a3:=Tryz.isAgg3
 z3:=Tryz.sizeOf3
 v3:=Tryz.zeroValue3
 t4:=Tryz.underlying4
 a4:=Tryz.isAgg4
 z4:=Tryz.sizeOf4
 v4:=Tryz.zeroValue4
 t5:=Tryz.underlying5
 a5:=Tryz.isAgg5
 z5:=Tryz.sizeOf5
 v5:=Tryz.zeroValue5
 t9:=Tryz.underlying9
 a9:=Tryz.isAgg9
 z9:=Tryz.sizeOf9
 v9:=Tryz.zeroValue9
 t20:=Tryz.underlying20
 a20:=Tryz.isAgg20
 z20:=Tryz.sizeOf20
 v20:=Tryz.zeroValue20
 t21:=Tryz.underlying21
 a21:=Tryz.isAgg21
 z21:=Tryz.sizeOf21
 v21:=Tryz.zeroValue21
 t37:=Tryz.underlying132
 a37:=Tryz.isAgg132
 z37:=Tryz.sizeOf132
 v37:=Tryz.zeroValue132
 t46:=Tryz.underlying146
 a46:=Tryz.isAgg146
 z46:=Tryz.sizeOf146
 v46:=Tryz.zeroValue146
 t51:=Tryz.underlying168
 a51:=Tryz.isAgg168
 z51:=Tryz.sizeOf168
 v51:=Tryz.zeroValue168
 t70:=Tryz.underlying131
 a70:=Tryz.isAgg131
 z70:=Tryz.sizeOf131
 v70:=Tryz.zeroValue131
 t72:=Tryz.underlying134
 a72:=Tryz.isAgg134
 z72:=Tryz.sizeOf134
 v72:=Tryz.zeroValue134
 t75:=Tryz.underlying136
 a75:=Tryz.isAgg136
 z75:=Tryz.sizeOf136
 v75:=Tryz.zeroValue136
 t76:=Tryz.underlying137
 a76:=Tryz.isAgg137
 z76:=Tryz.sizeOf137
 v76:=Tryz.zeroValue137
 t105:=Tryz.underlying178
 a105:=Tryz.isAgg178
 z105:=Tryz.sizeOf178
 v105:=Tryz.zeroValue178
 t119:=Tryz.underlying226
 a119:=Tryz.isAgg226
 z119:=Tryz.sizeOf226
 t127:=Tryz.underlying157
 a127:=Tryz.isAgg157
 z127:=Tryz.sizeOf157
 v127:=Tryz.zeroValue157
 t138:=Tryz.underlying228
 a138:=Tryz.isAgg228
 z138:=Tryz.sizeOf228
 v138:=Tryz.zeroValue228
 t139:=Tryz.underlying229
 a139:=Tryz.isAgg229
 z139:=Tryz.sizeOf229
 v139:=Tryz.zeroValue229
 t146:=Tryz.underlying233
 a146:=Tryz.isAgg233
 z146:=Tryz.sizeOf233
 v146:=Tryz.zeroValue233
 t164:=Tryz.underlying191
 a164:=Tryz.isAgg191
 z164:=Tryz.sizeOf191
 v164:=Tryz.zeroValue191
 g1:=by kernel_rfl
 g3:=by kernel_rfl
 g4:=by kernel_rfl }
def Tryz.lt171_ren:Go.Shelf.Ren:=⟨fun | 171=>94 | 243=>118 | 246=>141 | 283=>163 | 284=>164 | 285=>165 | 286=>166 | 129=>137 | 317=>189 | 318=>190 | 319=>191 | 320=>192 | 337=>200 | 338=>201 | n=>n,fun | 3=>3 | 9=>9 | 2=>2 | 4=>4 | 171=>203 | 0=>0 | 53=>152 | 37=>132 | 5=>5 | 173=>205 | 212=>224 | 51=>168 | 20=>20 | 213=>225 | 46=>146 | 232=>238 | 233=>239 | n=>n,fun | 17=>1 | 18=>6 | 19=>7 | n=>n⟩
theorem Tryz.lt171:Go.Proofs.LaysM.n171 Tryz.prog Tryz.lt171_ren:={
 mixed:=by kernel_rfl
 f129:=Tryz.func137.trans (congrArg some (by kernel_rfl))
 f171:=Tryz.func94.trans (congrArg some (by kernel_rfl))
 f243:=Tryz.func118.trans (congrArg some (by kernel_rfl))
 f246:=Tryz.func141.trans (congrArg some (by kernel_rfl))
 f283:=Tryz.func163.trans (congrArg some (by kernel_rfl))
 f284:=Tryz.func164.trans (congrArg some (by kernel_rfl))
 f285:=Tryz.func165.trans (congrArg some (by kernel_rfl))
 f286:=Tryz.func166.trans (congrArg some (by kernel_rfl))
 f317:=Tryz.func189.trans (congrArg some (by kernel_rfl))
 f318:=Tryz.func190.trans (congrArg some (by kernel_rfl))
 f319:=Tryz.func191.trans (congrArg some (by kernel_rfl))
 f320:=Tryz.func192.trans (congrArg some (by kernel_rfl))
 f337:=Tryz.func200.trans (congrArg some (by kernel_rfl))
 f338:=Tryz.func201.trans (congrArg some (by kernel_rfl))
 t0:=Tryz.underlying0
 a0:=Tryz.isAgg0
 z0:=Tryz.sizeOf0
 v0:=Tryz.zeroValue0
 t2:=Tryz.underlying2
 a2:=Tryz.isAgg2
 z2:=Tryz.sizeOf2
 v2:=Tryz.zeroValue2
 t3:=Tryz.underlying3
 a3:=Tryz.isAgg3
 z3:=Tryz.sizeOf3
 v3:=Tryz.zeroValue3
 t4:=Tryz.underlying4
 a4:=Tryz.isAgg4
 z4:=Tryz.sizeOf4
 v4:=Tryz.zeroValue4
 t5:=Tryz.underlying5
 a5:=Tryz.isAgg5
 z5:=Tryz.sizeOf5
 v5:=Tryz.zeroValue5
 t9:=Tryz.underlying9
 a9:=Tryz.isAgg9
 z9:=Tryz.sizeOf9
 v9:=Tryz.zeroValue9
 t20:=Tryz.underlying20
 a20:=Tryz.isAgg20
 z20:=Tryz.sizeOf20
 v20:=Tryz.zeroValue20
 t37:=Tryz.underlying132
 a37:=Tryz.isAgg132
 z37:=Tryz.sizeOf132
 v37:=Tryz.zeroValue132
 t46:=Tryz.underlying146
 a46:=Tryz.isAgg146
 z46:=Tryz.sizeOf146
 v46:=Tryz.zeroValue146
 t51:=Tryz.underlying168
 a51:=Tryz.isAgg168
 z51:=Tryz.sizeOf168
 v51:=Tryz.zeroValue168
 t53:=Tryz.underlying152
 a53:=Tryz.isAgg152
 z53:=Tryz.sizeOf152
 v53:=Tryz.zeroValue152
 t171:=Tryz.underlying203
 a171:=Tryz.isAgg203
 z171:=Tryz.sizeOf203
 v171:=Tryz.zeroValue203
 t173:=Tryz.underlying205
 a173:=Tryz.isAgg205
 z173:=Tryz.sizeOf205
 v173:=Tryz.zeroValue205
 t212:=Tryz.underlying224
 a212:=Tryz.isAgg224
 z212:=Tryz.sizeOf224
 v212:=Tryz.zeroValue224
 t213:=Tryz.underlying225
 a213:=Tryz.isAgg225
 z213:=Tryz.sizeOf225
 t232:=Tryz.underlying238
 a232:=Tryz.isAgg238
 z232:=Tryz.sizeOf238
 v232:=Tryz.zeroValue238
 t233:=Tryz.underlying239
 a233:=Tryz.isAgg239
 z233:=Tryz.sizeOf239
 v233:=Tryz.zeroValue239
 g17:=by kernel_rfl
 g18:=by kernel_rfl
 g19:=by kernel_rfl
 i0:=by kernel_rfl
 i2:=by kernel_rfl
 i3:=by kernel_rfl
 i4:=by kernel_rfl
 i5:=by kernel_rfl
 i9:=by kernel_rfl
 i20:=by kernel_rfl
 i37:=by kernel_rfl
 i46:=by kernel_rfl
 i51:=by kernel_rfl
 i53:=by kernel_rfl
 i171:=by kernel_rfl
 i173:=by kernel_rfl
 i212:=by kernel_rfl
 i232:=by kernel_rfl
 i233:=by kernel_rfl
 m17:=by kernel_rfl
 m18:=by kernel_rfl
 m19:=by kernel_rfl }
def Tryz.lt283_ren:Go.Shelf.Ren:=⟨fun | 283=>163 | n=>n,fun | 3=>3 | 9=>9 | 4=>4 | n=>n,fun | n=>n⟩
theorem Tryz.lt283:Go.Proofs.Lays.n283 Tryz.prog Tryz.lt283_ren:={
 mixed:=by kernel_rfl
 f283:=Tryz.func163.trans (congrArg some (by kernel_rfl))
 t3:=Tryz.underlying3
 a3:=Tryz.isAgg3
 z3:=Tryz.sizeOf3
 v3:=Tryz.zeroValue3
 t4:=Tryz.underlying4
 a4:=Tryz.isAgg4
 z4:=Tryz.sizeOf4
 v4:=Tryz.zeroValue4
 t9:=Tryz.underlying9
 a9:=Tryz.isAgg9
 z9:=Tryz.sizeOf9
 v9:=Tryz.zeroValue9 }
def Tryz.lt285_ren:Go.Shelf.Ren:=⟨fun | 285=>165 | n=>n,fun | 37=>132 | 53=>152 | 3=>3 | 4=>4 | 51=>168 | 9=>9 | 5=>5 | 0=>0 | n=>n,fun | n=>n⟩
theorem Tryz.lt285:Go.Proofs.Lays.n285 Tryz.prog Tryz.lt285_ren:={
 mixed:=by kernel_rfl
 f285:=Tryz.func165.trans (congrArg some (by kernel_rfl))
 t0:=Tryz.underlying0
 a0:=Tryz.isAgg0
 z0:=Tryz.sizeOf0
 v0:=Tryz.zeroValue0
 t3:=Tryz.underlying3
 a3:=Tryz.isAgg3
 z3:=Tryz.sizeOf3
 v3:=Tryz.zeroValue3
 t4:=Tryz.underlying4
 a4:=Tryz.isAgg4
 z4:=Tryz.sizeOf4
 v4:=Tryz.zeroValue4
 t5:=Tryz.underlying5
 a5:=Tryz.isAgg5
 z5:=Tryz.sizeOf5
 v5:=Tryz.zeroValue5
 t9:=Tryz.underlying9
 a9:=Tryz.isAgg9
 z9:=Tryz.sizeOf9
 v9:=Tryz.zeroValue9
 t37:=Tryz.underlying132
 a37:=Tryz.isAgg132
 z37:=Tryz.sizeOf132
 v37:=Tryz.zeroValue132
 t51:=Tryz.underlying168
 a51:=Tryz.isAgg168
 z51:=Tryz.sizeOf168
 v51:=Tryz.zeroValue168
 t53:=Tryz.underlying152
 a53:=Tryz.isAgg152
 z53:=Tryz.sizeOf152
 v53:=Tryz.zeroValue152 }
theorem Tryz.xt105:Builder.Extra Tryz.prog Tryz.lt105_ren:={
 sizeBuilder:=by kernel_rfl
 liesBuilder:=by kernel_rfl
 t5:=Tryz.lt105.t5
 a5:=Tryz.lt105.a5
 z5:=Tryz.lt105.z5
 v5:=Tryz.lt105.v5
 infoByte:=by kernel_rfl
 cellsByte:=by kernel_rfl
 sizeByte:=by kernel_rfl
 neB5:=by decide }
theorem Tryz.xt155:Builder.Extra Tryz.prog Tryz.lt155_ren:={
 sizeBuilder:=by kernel_rfl
 liesBuilder:=by kernel_rfl
 t5:=Tryz.lt155.t5
 a5:=Tryz.lt155.a5
 z5:=Tryz.lt155.z5
 v5:=Tryz.lt155.v5
 infoByte:=by kernel_rfl
 cellsByte:=by kernel_rfl
 sizeByte:=by kernel_rfl
 neB5:=by decide }
theorem Tryz.lt99:Lays.n99 Tryz.prog Tryz.lt105_ren:={ Tryz.lt105 with }
end Go.Proofs
namespace Go.Proofs.YthmckfloppblcaaGreatDoor
open Go Go.RowKit

def nameAt (j:Nat) (c:Int):Bool:=letterB c || (decide (j≠0) && (decide (c=95) || decide (48≤c∧c≤57)))
theorem head_bs {s:ByteArray} (hp:0<s.size):(bs s).head?=some (s[0].toNat:Int):=by
  rw [List.head?_eq_getElem?,List.getElem?_eq_getElem (by rw [bs_len]; exact hp),bs_at s 0 hp]
theorem nameB_all {s:ByteArray} (h:∀ j (h:j<s.size),nameAt j (s[j].toNat:Int)=true):nameB s=decide (1≤s.size∧s.size≤20):=by
  unfold nameB
  by_cases h0:s.size=0
  · simp [h0]
  have hp:0<s.size:=by omega
  have h1:letterB (s[0].toNat:Int)=true:=by simpa [nameAt] using h 0 hp
  rw [head_bs hp,all_take (bs s) nameC (fun j hj=>by
    rw [bs_len] at hj; rw [bs_at s j hj]
    have:=h j hj
    simp only [nameAt,Bool.or_eq_true,Bool.and_eq_true] at this
    simp only [nameC,Bool.or_eq_true]
    rcases this with h | ⟨_,h | h⟩
    · exact .inl (.inl h)
    · exact .inl (.inr h)
    · exact .inr h)]
  simp [h1]
theorem nameB_no {s:ByteArray} {k:Nat} (hk:k<s.size) (h:nameAt k (s[k].toNat:Int)=false):nameB s=false:=by
  unfold nameB
  by_cases h0:k=0
  · subst h0
    have h1:letterB (s[0].toNat:Int)=false:=by simpa [nameAt] using h
    rw [head_bs hk]
    simp [h1]
  · rw [all_not (bs s) nameC k (by rw [bs_len]; exact hk) (by
      rw [bs_at s k hk]
      simp only [nameAt,Bool.or_eq_false_iff,Bool.and_eq_false_iff,decide_eq_false_iff_not] at h
      obtain ⟨h1,h2 | ⟨h2,h3⟩⟩:=h
      · exact absurd h0 (by simpa using h2)
      · simp only [nameC,h1,Bool.false_or,Bool.or_eq_false_iff,decide_eq_false_iff_not]
        exact ⟨h2,h3⟩)]
    simp

theorem r06_Plain (s:ByteArray) (hs:s.size≤4294967296) (w:World):Calls Tryz.prog 102 #[.string s] w (SameB w (textB s)):=by
  go_enter Tryz.func102,Tryz.ntmps102
  go_wp2
  go_loop [3] (fun i=>∃ k:Nat,k≤s.size∧i=.int .i64 k∧∀ j (h:j<s.size),j<k→textC (s[j].toNat:Int)=true) (fun i=>s.size-(intOf i).toNat)
  case atStart=>exact ⟨0,Nat.zero_le _,rfl,by intros; omega⟩
  case round =>
    obtain ⟨k,hk,rfl,hall⟩:=hrel
    have HA:=Hd hall
    clear hall
    by_cases hlt:k<s.size
    · by_cases ht:32≤(s[k].toNat:Int)∧(s[k].toNat:Int)≤126
      · obtain ⟨h1,h2⟩:=ht
        go_wp2
        go_round
        case rel =>
          refine ⟨k+1,by omega,by go_num,fun j h hj => ?_⟩
          by_cases hjk:j=k
          · subst hjk
            simp [textC]
            omega
          · exact HA.o j h (by omega)
        case measure=>simp [intOf]; omega
      · have hf:textB s=false:=by
          unfold textB
          rw [all_not (bs s) textC k (by rw [bs_len]; exact hlt) (by rw [bs_at s k hlt]; simp only [textC,decide_eq_false_iff_not]; exact ht)]
          simp
        have HF:=Hd hf
        clear hf
        by_cases h1:32≤(s[k].toNat:Int)
        all_goals
          go_wp2
          go_ret
          exact ⟨by rw [HF.o]; rfl,rfl⟩
    · have hf:textB s=decide (s.size≤200):=by
        unfold textB
        rw [all_take (bs s) textC (fun j h=>by rw [bs_len] at h; rw [bs_at s j h]; exact HA.o j h (by omega))]
        simp
      have HF:=Hd hf
      clear hf
      go_wp2
      go_ret
      exact ⟨by rw [HF.o]; simp; omega,rfl⟩

theorem r06_Name (s:ByteArray) (hs:s.size≤4294967296) (w:World):Calls Tryz.prog 152 #[.string s] w (SameB w (nameB s)):=by
  go_enter Tryz.func152,Tryz.ntmps152
  go_wp2
  go_loop [3] (fun i=>∃ k:Nat,k≤s.size∧i=.int .i64 k∧∀ j (h:j<s.size),j<k→nameAt j (s[j].toNat:Int)=true) (fun i=>s.size-(intOf i).toNat)
  case atStart=>exact ⟨0,Nat.zero_le _,rfl,by intros; omega⟩
  case round =>
    obtain ⟨k,hk,rfl,hall⟩:=hrel
    have HA:=Hd hall
    clear hall
    by_cases hlt:k<s.size
    · have hc:(s[k].toNat:Int)<48∨(48≤(s[k].toNat:Int)∧(s[k].toNat:Int)≤57)∨(57<(s[k].toNat:Int)∧(s[k].toNat:Int)<65)∨(65≤(s[k].toNat:Int)∧(s[k].toNat:Int)≤90)∨(90<(s[k].toNat:Int)∧(s[k].toNat:Int)<95)∨(s[k].toNat:Int)=95∨(s[k].toNat:Int)=96∨(97≤(s[k].toNat:Int)∧(s[k].toNat:Int)≤122)∨122<(s[k].toNat:Int):=by omega
      by_cases hz:k=0
      · subst hz
        rcases hc with h1 | ⟨h1,h2⟩ | ⟨h1,h2⟩ | ⟨h1,h2⟩ | ⟨h1,h2⟩ | h1 | h1 | ⟨h1,h2⟩ | h1
        all_goals
          first | have a1:97≤(s[0].toNat:Int):=by omega | have a1:¬ 97≤(s[0].toNat:Int):=by omega
          first | have a2:(s[0].toNat:Int)≤122:=by omega | have a2:¬ (s[0].toNat:Int)≤122:=by omega
          first | have a3:65≤(s[0].toNat:Int):=by omega | have a3:¬ 65≤(s[0].toNat:Int):=by omega
          first | have a4:(s[0].toNat:Int)≤90:=by omega | have a4:¬ (s[0].toNat:Int)≤90:=by omega
          first | have a5:(s[0].toNat:Int)=95:=by omega | have a5:¬ (s[0].toNat:Int)=95:=by omega
          first | have a6:(s[0].toNat:Int)<48:=by omega | have a6:¬ (s[0].toNat:Int)<48:=by omega
          first | have a7:57<(s[0].toNat:Int):=by omega | have a7:¬ 57<(s[0].toNat:Int):=by omega
          cases hn:nameAt 0 (s[0].toNat:Int)
          · have HF:=Hd (nameB_no hlt hn)
            first
            | (exfalso; simp only [nameAt,letterB,Bool.or_eq_false_iff,Bool.and_eq_false_iff,decide_eq_false_iff_not] at hn; omega)
            | (clear hn
               go_wp2
               all_goals first | (go_ret; exact ⟨by rw [HF.o]; rfl,rfl⟩) | (rename_i hx; exfalso; simp at hx; omega))
          · have HN:=Hd hn
            first
            | (exfalso; simp only [nameAt,letterB,Bool.or_eq_true,Bool.and_eq_true,decide_eq_true_iff] at hn; omega)
            | (clear hn
               go_wp2
               go_round
               case rel =>
                 refine ⟨0+1,by omega,by go_num,fun j h hj => ?_⟩
                 by_cases hjk:j=0
                 · subst hjk
                   exact HN.o
                 · exact HA.o j h (by omega)
               case measure=>simp [intOf]; omega)
      · rcases hc with h1 | ⟨h1,h2⟩ | ⟨h1,h2⟩ | ⟨h1,h2⟩ | ⟨h1,h2⟩ | h1 | h1 | ⟨h1,h2⟩ | h1
        all_goals
          first | have a1:97≤(s[k].toNat:Int):=by omega | have a1:¬ 97≤(s[k].toNat:Int):=by omega
          first | have a2:(s[k].toNat:Int)≤122:=by omega | have a2:¬ (s[k].toNat:Int)≤122:=by omega
          first | have a3:65≤(s[k].toNat:Int):=by omega | have a3:¬ 65≤(s[k].toNat:Int):=by omega
          first | have a4:(s[k].toNat:Int)≤90:=by omega | have a4:¬ (s[k].toNat:Int)≤90:=by omega
          first | have a5:(s[k].toNat:Int)=95:=by omega | have a5:¬ (s[k].toNat:Int)=95:=by omega
          first | have a6:(s[k].toNat:Int)<48:=by omega | have a6:¬ (s[k].toNat:Int)<48:=by omega
          first | have a7:57<(s[k].toNat:Int):=by omega | have a7:¬ 57<(s[k].toNat:Int):=by omega
          cases hn:nameAt k (s[k].toNat:Int)
          · have HF:=Hd (nameB_no hlt hn)
            first
            | (exfalso; simp only [nameAt,letterB,Bool.or_eq_false_iff,Bool.and_eq_false_iff,decide_eq_false_iff_not] at hn; omega)
            | (clear hn
               go_wp2
               all_goals first | (go_ret; exact ⟨by rw [HF.o]; rfl,rfl⟩) | (rename_i hx; exfalso; simp at hx; omega))
          · have HN:=Hd hn
            first
            | (exfalso; simp only [nameAt,letterB,Bool.or_eq_true,Bool.and_eq_true,decide_eq_true_iff] at hn; omega)
            | (clear hn
               go_wp2
               go_round
               case rel =>
                 refine ⟨k+1,by omega,by go_num,fun j h hj => ?_⟩
                 by_cases hjk:j=k
                 · subst hjk
                   exact HN.o
                 · exact HA.o j h (by omega)
               case measure=>simp [intOf]; omega)
    · have HF:=Hd (nameB_all (s:=s) (fun j h=>HA.o j h (by omega)))
      by_cases h0:s.size=0
      · have h0':¬ 1≤(s.size:Int):=by omega
        go_wp2
        go_ret
        exact ⟨by rw [HF.o]; simp; omega,rfl⟩
      · have h0':1≤(s.size:Int):=by omega
        go_wp2
        go_ret
        refine ⟨?_,rfl⟩
        rw [HF.o,show decide (1≤s.size∧s.size≤20)=decide ((s.size:Int)≤20) from by rw [decide_eq_decide]; omega]
        rfl
end Go.Proofs.YthmckfloppblcaaGreatDoor
