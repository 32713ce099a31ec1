/- Lemmas. No conditions. -/
import Derived.Test.YtidacnalcdhckaaGreatDoorYq3
import Derived.Deep.DeepCutAuto
import Derived.Deep.Light
import Derived.IntWalk
import Derived.Ground.NamesProg
import Derived.Shelf.Strings.OnBuilder
import Derived.Shelf.Strings.Prefix
import Derived.Shelf.Strings.Repeat
import Derived.Shelf.Strings.BuilderK
import Derived.Shelf.Strconv.Itoa3
import Derived.Test.YtidacnalcdhckaaGreatDoorProg
set_option maxRecDepth 100000
set_option maxHeartbeats 1000000
namespace Go.Proofs.YtidacnalcdhckaaGreatDoor
open Go Go.RowKit Tryz
variable {qP:Prop}

def AV(o:Oper):List Nat:=(o.after.toList.filter (Region.binds .any)).map (·.on)
def linUpon(P:Program)(K:Value->World->Prop):Result Next->Prop
 |.ok (.value v) w'=>K v w'
 |.ok .skip w'=>K undef w'
 |.ok (.enter f args) w'=>Calls P f args w' (λe w''=>∃ v,e=.returned v/\K v w'')
 |_=>False
def Fi(ops:Array Oper)(o:Oper)(a0:Act)(vals:Nat->Value)(t:Nat):Value :=
 match (AV o).find? (λj=>(ops[j]?).bind (·.dst)==some t) with
 |some j=>vals j
 |none=>a0.tmps.getD t undef
def Hm(ops:Array Oper)(o:Oper)(a0:Act)(vals:Nat->Value):Operand->Value
 |.tmp t=>Fi ops o a0 vals t
 |x=>a0.eval x
def NM:Value->Option Bool
 |.bool b=>some b
 |_=>none
def Ay(o:Oper)(vals:Nat->Value):Bool :=
 match o.guard with
 |none=>true
 |some (g,want)=>NM (vals g)==some want
def Ah(vals:Nat->Value):List Oper->Nat->Act->Act
 |[],_,a=>a
 |o::l,k,a=>Ah vals l (k+1) (a.put o.dst (vals k))
def F3(vals:Nat->Value)(i:Nat)(v:Value):Nat->Value:=λk=>if k=i then v else vals k
def R8(ops:Array Oper)(D:Nat->List Nat)(n:Nat):Bool :=
 Region.noSelect ops&&decide ((ops.toList.filterMap (·.dst)).Nodup)&&(ops.toList.filterMap (·.dst)).all (λd=>decide (d<n)) &&
 (List.range ops.size).all λi=>match ops[i]? with
  |none=>true
  |some o=>(AV o).all (λj=>decide (j<i))&&(D i).all (λj=>decide (j=i)||(AV o).contains j) &&
   (match o.guard with|none=>true|some (g,_)=>(AV o).contains g&&((ops[g]?).bind (·.dst)).isSome) &&
   (o.looksAt ops).all λt=>(List.range ops.size).all λj=>match ops[j]? with
    |none=>true
    |some oj=>decide (oj.dst≠some t)||decide (j=i)||(AV o).contains j||(AV oj).contains i
def LinStep{Γ:Type}(P:Program)(ops:Array Oper)(D:Nat->List Nat)(R:Γ->World->Γ->World->Prop)(N:Nat->Γ->Prop)(G:Nat->List Value->Γ->World->Prop)(a0:Act)(γ0:Γ)(w0:World)(i:Nat)(o:Oper):Prop :=
 ∀ (vals:Nat->Value) (γ:Γ) (w:World),R γ0 w0 γ w->N i γ->(∀ j,j∈AV o->G j ((D j).map vals) γ w) ->
  if Ay o vals then linUpon P (λv w'=>∃ γ',R γ w γ' w'/\(∀ j,j≠i->j ∉ AV o->N j γ->N j γ')/\G i ((D i).map (F3 vals i v)) γ' w') ((execOp (Hm ops o a0 vals) o).run P w)
  else G i ((D i).map (F3 vals i undef)) γ w

section
variable {P:Program}{ops:Array Oper}{Q:Exit->Act->World->Prop}

theorem GH{D:Nat->List Nat}{n:Nat}(h:R8 ops D n=true) :
  Region.noSelect ops=true/\(ops.toList.filterMap (·.dst)).Nodup/\(∀ (i:Nat) (o:Oper) (d:Nat),ops[i]?=some o->o.dst=some d->d<n) /\
  (∀ (i:Nat) (o:Oper) (j:Nat),ops[i]?=some o->j∈AV o->j<i)/\(∀ (i:Nat) (o:Oper) (j:Nat),ops[i]?=some o->j∈D i->j=i\/j∈AV o) /\
  (∀ (i:Nat) (o:Oper) (g:Nat) (b:Bool),ops[i]?=some o->o.guard=some (g,b)->g∈AV o/\∃ (og:Oper) (t:Nat),ops[g]?=some og/\og.dst=some t) /\
  (∀ (i:Nat) (o:Oper) (t j:Nat) (oj:Oper),ops[i]?=some o->t∈o.looksAt ops->ops[j]?=some oj->oj.dst=some t->j=i\/j∈AV o\/i∈AV oj):=by
 simp only [R8,Bool.and_eq_true,decide_eq_true_eq] at h;obtain ⟨⟨⟨h1,h2⟩,h3⟩,h4⟩:=h;rw [List.all_eq_true] at h3 h4;have key:∀ (i:Nat) (o:Oper),ops[i]?=some o->(((∀ j∈AV o,j<i)/\(∀ j∈D i,(decide (j=i)||(AV o).contains j)=true)) /\
   (match o.guard with | none=>true | some (g,_)=>(AV o).contains g&&((ops[g]?).bind (·.dst)).isSome)=true) /\
   ∀ t∈o.looksAt ops,∀ j∈List.range ops.size,(match ops[j]? with
    |none=>true
    | some oj=>decide (oj.dst≠some t)||decide (j=i)||(AV o).contains j||(AV oj).contains i)=true:=λi o hi=>by
  have hlt:i<ops.size:=(Array.getElem?_eq_some_iff.1 hi).1;have:=h4 i (List.mem_range.2 hlt);simp only [hi,Bool.and_eq_true,List.all_eq_true,decide_eq_true_eq] at this;exact this
 refine ⟨h1,h2,?_,?_,?_,?_,?_⟩
 ·intro i o d hi hd;have:d∈ops.toList.filterMap (·.dst):=List.mem_filterMap.2 ⟨o,by simpa using Array.mem_of_getElem? hi,hd⟩
  simpa using h3 d this
 ·intro i o j hi hj;exact (key i o hi).1.1.1 j hj
 ·intro i o j hi hj;have:=(key i o hi).1.1.2 j hj
  simpa using this
 ·intro i o g b hi hg;have:=(key i o hi).1.2;simp only [hg,Bool.and_eq_true,List.contains_iff_mem,Option.isSome_iff_exists] at this;obtain ⟨h5,t,h6⟩:=this;refine ⟨by simpa using h5,?_⟩;cases hgo:ops[g]? with
  |none=>simp [hgo] at h6
  |some og=>simp [hgo] at h6;exact ⟨og,t,rfl,h6⟩
 ·intro i o t j oj hi ht hj hd;have hlt:j<ops.size:=(Array.getElem?_eq_some_iff.1 hj).1;have:=(key i o hi).2 t ht j (List.mem_range.2 hlt);simp only [hj,hd,Bool.or_eq_true,decide_eq_true_eq,List.contains_iff_mem] at this
  rcases this with ((h|h)|h)|h
  ·exact absurd rfl h
  ·exact .inl h
  ·exact .inr (.inl BU)
  ·exact .inr (.inr BU)

theorem Bp(h:qP:=by simpa using hi):qP:=h
theorem FMA(h:(ops.toList.filterMap (·.dst)).Nodup){i j:Nat}{oi oj:Oper}{t:Nat}(hi:ops[i]?=some oi)(hj:ops[j]?=some oj)(hdi:oi.dst=some t)(hdj:oj.dst=some t):i=j:=by
 have O:ops.toList[i]?=some oi:=Bp;have U:ops.toList[j]?=some oj:=ET;clear hi hj;generalize ops.toList=l at *
 induction l generalizing i j with
 |nil=>simp at O
 |cons o l ih =>
  cases i with
  |zero =>
   cases j with
   |zero=>rfl
   |succ j =>
    exfalso;simp at O U;subst O;rw [List.filterMap_cons_some hdi,List.nodup_cons] at h;exact h.1 (List.mem_filterMap.2 ⟨oj,List.mem_of_getElem? U,hdj⟩)
  |succ i =>
   cases j with
   |zero =>
    exfalso;simp at O U;subst U;rw [List.filterMap_cons_some hdj,List.nodup_cons] at h;exact h.1 (List.mem_filterMap.2 ⟨oi,List.mem_of_getElem? O,hdi⟩)
   |succ j =>
    have hn:(l.filterMap (·.dst)).Nodup:=by
     cases hod:o.dst with
     |none=>rwa [List.filterMap_cons_none hod] at h
     |some d=>rw [List.filterMap_cons_some hod,List.nodup_cons] at h;exact h.2
    have hij:i=j:=ih hn (by simpa using O) (by simpa using U);rw [hij]

theorem KS(vals:Nat->Value):∀ (l:List Oper) (k:Nat) (a:Act),(Ah vals l k a).tmps.size=a.tmps.size/\(Ah vals l k a).defers=a.defers
 |[],_,_=>⟨rfl,rfl⟩
 |o::l,k,a=>by
  have:=KS vals l (k+1) (a.put o.dst (vals k));cases hd:o.dst<;>simp [Ah,hd,Act.put] at this|-<;>exact this
theorem Jb(vals:Nat->Value):∀ (l:List Oper) (k:Nat) (a:Act) (t:Nat),(∀ o∈l,o.dst≠some t)->(Ah vals l k a).tmps[t]?=a.tmps[t]?
 |[],_,_,_,_=>rfl
 |o::l,k,a,t,h=>by
  have h1:=Jb vals l (k+1) (a.put o.dst (vals k)) t (λo' ho'=>h o' (List.mem_cons_of_mem _ ho'));have h2:=h o List.mem_cons_self;rw [Ah,h1];cases hd:o.dst with
  |none=>rfl
  |some d =>
   have hne:d≠t:=λe=>h2 (by rw [hd,e]);simp [Act.put,Array.getElem?_setIfInBounds_ne hne]
theorem N8(vals:Nat->Value):∀ (l:List Oper) (k:Nat) (a:Act) (j:Nat) (o:Oper) (t:Nat),(l.filterMap (·.dst)).Nodup->l[j]?=some o->o.dst=some t->t<a.tmps.size->(Ah vals l k a).tmps[t]?=some (vals (k+j))
 |[],_,_,_,_,_,_,h,_,_=>by simp at h
 |o::l,k,a,0,o',t,hn,h,hd,ht=>by
  simp at h;subst h;rw [List.filterMap_cons_some hd,List.nodup_cons] at hn;rw [Ah,Jb vals l (k+1) _ t (λo' ho' hd'=>hn.1 (List.mem_filterMap.2 ⟨o',ho',hd'⟩))];simp [Act.put,hd,ht]
 |o::l,k,a,j+1,o',t,hn,h,hd,ht=>by
  have hn':(l.filterMap (·.dst)).Nodup:=by
   cases hod:o.dst with
   |none=>rwa [List.filterMap_cons_none hod] at hn
   |some d=>rw [List.filterMap_cons_some hod,List.nodup_cons] at hn;exact hn.2
  have:=N8 vals l (k+1) (a.put o.dst (vals k)) j o' t hn' BU hd (by cases hod:o.dst<;>simpa [Act.put] using ht);rw [Ah,this,show k+1+j=k+(j+1) by omega]

theorem Pm(h:qP:=by
 rw [List.countP_cons_of_pos hx,List.countP_cons_of_pos (hle x hx)];omega):qP:=h
theorem Xz{p q:Nat->Bool}(hle:∀ j,q j=true->p j=true){i:Nat}(hp:p i=true)(hq:q i=false):∀ l:List Nat,i∈l->l.countP q+1<=l.countP p
 |x::l,h=>by
  have mono:∀ l:List Nat,l.countP q<=l.countP p:=λl=>List.countP_mono_left λx _ hx=>hle x hx
  rcases List.mem_cons.1 h with rfl|h'
  ·rw [List.countP_cons_of_pos hp,List.countP_cons_of_neg (by simp [hq])];have:=mono l;omega
  ·have ih:=Xz hle hp hq l h';by_cases hx:q x=true
   ·exact Pm
   ·rw [List.countP_cons_of_neg hx];have:=List.countP_cons (p:=p) (a:=x) (l:=l);omega

structure LinInv{Γ:Type}(ops:Array Oper)(D:Nat->List Nat)(R:Γ->World->Γ->World->Prop)(N:Nat->Γ->Prop)(G:Nat->List Value->Γ->World->Prop)(a0:Act)(γ0:Γ)(w0:World)(listed:Array Bool)(a:Act)(w:World)(vals:Nat->Value)(γ:Γ):Prop where
 size:listed.size=ops.size
 asize:a.tmps.size=a0.tmps.size
 defers:a.defers=a0.defers
 at_:∀ (j:Nat) (o:Oper) (t:Nat),ops[j]?=some o->listed.getD j false=true->o.dst=some t->a.tmps[t]?=some (vals j)
 no:∀ t:Nat,(∀ (j:Nat) (o:Oper),ops[j]?=some o->listed.getD j false=true->o.dst≠some t)->a.tmps[t]?=a0.tmps[t]?
 rel:R γ0 w0 γ w
 down:∀ (j:Nat) (o:Oper),ops[j]?=some o->listed.getD j false=true->∀ k,k∈AV o->listed.getD k false=true
 open_:∀ j,j<ops.size->listed.getD j false=false->N j γ
 facts:∀ j,j<ops.size->listed.getD j false=true->G j ((D j).map vals) γ w

theorem GB{listed:Array Bool}{j:Nat}(h:j<listed.size):listed.getD j true=listed.getD j false:=by simp [h]

theorem BBA(h:qP:=by
 obtain ⟨j,o,hj,hd⟩:=hex;have hjl:j<ops.size:=(Array.getElem?_eq_some_iff.1 hj).1;rw [I.at_ j o t hj (hall j hjl) hd,N8 vals ops.toList 0 a0 j o t hnd (by simpa using hj) hd (hlt j o t hj hd),Nat.zero_add]):qP:=h
theorem Z4(h:qP:=by
 obtain ⟨j,hj⟩:=List.mem_iff_getElem?.1 ho;exact hno j o (by simpa using hj)):qP:=h
theorem ACA(h:qP:=by
 have hno:∀ (j:Nat) (o:Oper),ops[j]?=some o->o.dst≠some t:=λj o hj hd=>hex ⟨j,o,hj,hd⟩;rw [I.no t (λj o hj _=>hno j o hj),Jb vals ops.toList 0 a0 t (λo ho=>by
  exact Z4)]):qP:=h
theorem Zh(h:qP:=by
 apply Array.ext_getElem?;intro t;by_cases hex:∃ (j:Nat) (o:Oper),ops[j]?=some o/\o.dst=some t
 ·exact BBA
 ·exact ACA):qP:=h
theorem AfA(h:qP:=by
 have hs:=KS vals ops.toList 0 a0;have ht:a.tmps=(Ah vals ops.toList 0 a0).tmps:=by
  exact Zh
 have hdf:a.defers=(Ah vals ops.toList 0 a0).defers:=(by rw [I.defers,hs.2]);cases a;cases hl:Ah vals ops.toList 0 a0;rw [hl] at ht hdf;simp at ht hdf;rw [ht,hdf]):qP:=h
theorem MJ(h:qP:=by
 intro listed a w vals γ I hall;have ha:a=Ah vals ops.toList 0 a0:=by
  exact AfA
 rw [ha];exact hfin vals γ w I.rel λi hi=>I.facts i hi (hall i hi)):qP:=h
theorem AKA(h:qP:=by
 refine mem_ready.2 ⟨by rw [GB (by omega)];exact hl,ops[j],by simp [hj],λe he hb => ?_⟩;have hp:e.on∈AV ops[j]:=List.mem_map.2 ⟨e,List.mem_filter.2 ⟨by simpa using he,hb⟩,rfl⟩;have hlt':=hacyc j ops[j] e.on (by simp [hj]) hp;exact ih e.on hlt' (by omega)):qP:=h
theorem Y1(h:qP:=by
 exfalso;have hmem:j∈Region.ready .any ops listed:=by
  exact AKA
 rw [hr] at hmem;cases hmem):qP:=h
theorem BvA(h:qP:=by
 intro hj;cases hl:listed.getD j false with
 |true=>rfl
 |false =>
  exact Y1):qP:=h
theorem Mc(h:qP:=by
 intro listed hsz hr j
 induction j using Nat.strongRecOn with
 |_ j ih =>
  exact BvA):qP:=h
theorem BOA(h:qP:=by
 intro j hj;have h0:(List.range ops.size).countP (λi => !listed.getD i true)=0:=(by omega);rw [List.countP_eq_zero] at h0;have:=h0 j (List.mem_range.2 hj);rw [GB (by rw [I.size];exact hj)] at this
 simpa using this):qP:=h
theorem AvA(h:qP:=by
 exfalso;have hi:i∈Region.ready .any ops listed:=(by rw [hr];exact List.mem_cons_self);obtain ⟨h0,o,ho,_⟩:=mem_ready.1 hi;have hil:i<ops.size:=(Array.getElem?_eq_some_iff.1 ho).1;rw [GB (by rw [I.size];exact hil),hall i hil] at h0;cases h0):qP:=h
theorem MY(h:qP:=by
 intro listed a w vals γ I hc;have hall:∀ j,j<ops.size->listed.getD j false=true:=by
  exact BOA
 refine ⟨?_,fin listed a w vals γ I hall⟩;cases hr:Region.ready .any ops listed with
 |nil=>rfl
 |cons i l =>
  exact AvA):qP:=h
theorem LG(h:qP:=by
 intro j hj;obtain ⟨e,he,rfl⟩:=List.mem_map.1 hj;obtain ⟨he1,he2⟩:=List.mem_filter.1 he;exact hpre e (by simpa using he1) he2):qP:=h
theorem Zw(h:qP:=by
 simp only [hoj,Option.bind_some] at hd;simp [I.at_ j oj t hoj (hpl j hj) hd]):qP:=h
theorem AhA(h:qP:=by
 have:=I.down j oj hj hjl i h;rw [hun] at this;cases this):qP:=h
theorem BcA(h:qP:=by
 rcases hlook i o t j oj ho ht hj hd with rfl|h|h
 ·rw [hun] at hjl;cases hjl
 ·exact hf j h (by simp [hj,hd])
 ·exact AhA):qP:=h
theorem Zl(h:qP:=by
 rw [List.find?_eq_none] at hf;have:a.tmps[t]?=a0.tmps[t]?:=I.no t (λj oj hj hjl hd=>by
  exact BcA)
 simp [this]):qP:=h
theorem Md(h:qP:=by
 intro t ht;unfold Fi;cases hf:(AV o).find? (λj=>(ops[j]?).bind (·.dst)==some t) with
 |some j =>
  have hj:=List.mem_of_find?_eq_some hf;have hd:=List.find?_some hf;simp only [beq_iff_eq] at hd;cases hoj:ops[j]? with
  |none=>simp [hoj] at hd
  |some oj =>
   exact Zw
 |none =>
  exact Zl):qP:=h
theorem Lm(h:qP:=by
 refine execOp_congr o (λcs b=>Region.noSelect_spec hsel i o cs b ho) λx hx => ?_;cases x with
 |tmp t=>exact hslot t (List.mem_append_left _ (List.mem_filterMap.2 ⟨.tmp t,by simpa using hx,rfl⟩))
 | _=>rfl):qP:=h
theorem A6A(h:qP:=by
 obtain ⟨g,b⟩:=gb;obtain ⟨hgp,og,t,hog,hdt⟩:=hguard i o g b ho hg;have h1:=I.at_ g og t hog (hpl g hgp) hdt;simp only [yielded,hog,Option.bind_some,hdt,h1];congr 1;unfold NM;split<;>simp_all):qP:=h
theorem LF(h:qP:=by
 unfold Region.wanted Ay;cases hg:o.guard with
 |none=>rfl
 |some gb =>
  exact A6A):qP:=h
theorem ZS(h:qP:=by
 cases hd:o.dst<;>simp [Act.put,I.asize]):qP:=h
theorem Y3(h:qP:=by
 cases hd:o.dst<;>simp [Act.put,I.defers]):qP:=h
theorem ZV(h:qP:=by
 subst hji;obtain rfl:o=oj:=Option.some.inj (ho.symm.trans hj);have hlt':t<a.tmps.size:=(by rw [I.asize];exact hlt j o t ho hd);simp [Act.put,hd,hlt',F3]):qP:=h
theorem AUA(h:qP:=by
 rw [hget j hji] at hjl;have h1:=I.at_ j oj t hj hjl hd;simp only [F3,if_neg hji];cases hod:o.dst with
 |none=>exact h1
 |some d =>
  have hne:d≠t:=λe=>hji (FMA hnd hj ho hd (by rw [hod,e]));simp only [Act.put];rw [Array.getElem?_setIfInBounds_ne hne];exact h1):qP:=h
theorem BdA(h:qP:=by
 intro j oj t hj hjl hd;by_cases hji:j=i
 ·exact ZV
 ·exact AUA):qP:=h
theorem Zc(h:qP:=by
 by_cases hji:j=i
 ·subst hji;exact hgeti
 ·rw [hget j hji];exact hjl):qP:=h
theorem A9A(h:qP:=by
 intro t hno;have hdt:o.dst≠some t:=hno i o ho hgeti;have h1:=I.no t (λj oj hj hjl=>hno j oj hj (by
  exact Zc))
 cases hod:o.dst with
 |none=>exact h1
 |some d =>
  have hne:d≠t:=λe=>hdt (by rw [hod,e]);simp only [Act.put];rw [Array.getElem?_setIfInBounds_ne hne];exact h1):qP:=h
theorem A5A(h:qP:=by
 subst hji;obtain rfl:o=oj:=Option.some.inj (ho.symm.trans hj);exact getD_set_true (hpl k hk)):qP:=h
theorem AtA(h:qP:=by
 rw [hget j hji] at hjl;exact getD_set_true (I.down j oj hj hjl k hk)):qP:=h
theorem AjA(h:qP:=by
 intro j oj hj hjl k hk;by_cases hji:j=i
 ·exact A5A
 ·exact AtA):qP:=h
theorem Ze(h:qP:=by
 subst hji;rw [hgeti] at hjl;cases hjl):qP:=h
theorem Y0(h:qP:=by
 rw [hget j hji] at hjl;exact hN' j hji (λhp=>by rw [hpl j hp] at hjl;cases hjl) (I.open_ j hj hjl)):qP:=h
theorem ADA(h:qP:=by
 intro j hj hjl;by_cases hji:j=i
 ·exact Ze
 ·exact Y0):qP:=h
theorem Zt(h:qP:=by
 have:=I.down j ops[j] (by simp [hj]) hjl k h;rw [hun] at this;cases this):qP:=h
theorem A8A(h:qP:=by
 intro e;subst e
 rcases hD j ops[j] k (by simp [hj]) hk with h|h
 ·exact hji h.symm
 ·exact Zt):qP:=h
theorem ZO(h:qP:=by
 apply List.map_congr_left;intro k hk;have hki:k≠i:=by
  exact A8A
 simp [F3,hki]):qP:=h
theorem AnA(h:qP:=by
 rw [hget j hji] at hjl;have h1:=hst _ _ _ _ _ _ hR (I.facts j hj hjl);have hmap:(D j).map (F3 vals i v)=(D j).map vals:=by
  exact ZO
 rw [hmap];exact h1):qP:=h
theorem ZJ(h:qP:=by
 intro j hj hjl;by_cases hji:j=i
 ·subst hji;exact hG
 ·exact AnA):qP:=h
theorem AqA(h:qP:=by
 rw [getD_set_ne true (Ne.symm hki)] at hk;exact hk):qP:=h
theorem AxA(h:qP:=by
 by_cases hki:k=i
 ·subst hki;simp [hisz] at hk
 ·exact AqA):qP:=h
theorem ZE(h:qP:=by
 have:=Xz (p:=λk => !listed.getD k true) (q:=λk => !(listed.setIfInBounds i true).getD k true) (i:=i) (λk hk=>by
  exact AxA) (by simpa using h0) (by simp [hisz]) (List.range ops.size) (List.mem_range.2 hil)
 omega):qP:=h
theorem MK(h:qP:=by
 intro v γ' w' hR hN' hG;have hget:∀ j,j≠i->(listed.setIfInBounds i true).getD j false=listed.getD j false:=λj hj=>getD_set_ne false (Ne.symm hj);have hgeti:(listed.setIfInBounds i true).getD i false=true:=(by simp [hisz]);refine ih _ _ _ (F3 vals i v) γ' ⟨by simp [I.size],?_,?_,?_,?_,htrans _ _ _ _ _ _ I.rel hR,?_,?_,?_⟩ ?_
 ·exact ZS
 ·exact Y3
 ·exact BdA
 ·exact A9A
 ·exact AjA
 ·exact ADA
 ·exact ZJ
 ·exact ZE):qP:=h
theorem RP(h:qP:=by
 have:j<ops.size:=(Array.getElem?_eq_some_iff.1 hj).1;simp [this] at hl):qP:=h
theorem R3(h:qP:=by
 intro j o t hj hl _;exact RP):qP:=h
theorem RE(h:qP:=by
 intro j o hj hl;exact RP):qP:=h
theorem Uh(h:qP:=by
 have:=List.countP_le_length (p:=λi => !(Array.replicate ops.size false).getD i true) (l:=List.range ops.size)
 simpa using this):qP:=h
theorem KM{Γ:Type}{id:Nat}{a0:Act}{w0:World}(hm:P.follows .mixedOrders=true)(D:Nat->List Nat)(hB:R8 ops D a0.tmps.size=true)
  (R:Γ->World->Γ->World->Prop) (hrefl:∀ γ w,R γ w γ w) (htrans:∀ γ w γ' w' γ'' w'',R γ w γ' w'->R γ' w' γ'' w''->R γ w γ'' w'')
  (N:Nat->Γ->Prop) (G:Nat->List Value->Γ->World->Prop) (hst:∀ i l γ w γ' w',R γ w γ' w'->G i l γ w->G i l γ' w') (γ0:Γ) (hN:∀ i,N i γ0)
  (hstep:∀ i o,ops[i]?=some o->LinStep P ops D R N G a0 γ0 w0.drew i o)
  (hfin:∀ vals γ w,R γ0 w0.drew γ w->(∀ i,i<ops.size->G i ((D i).map vals) γ w)->Q .normal (Ah vals ops.toList 0 a0) w) :
  (Code.region id ops true).wp P Q a0 w0:=by
 obtain ⟨hsel,hnd,hlt,hacyc,hD,hguard,hlook⟩:=GH hB;have main:∀ (O:Nat) (listed:Array Bool) (a:Act) (w:World) (vals:Nat->Value) (γ:Γ),LinInv ops D R N G a0 γ0 w0.drew listed a w vals γ ->
   (List.range ops.size).countP (λi => !listed.getD i true)<=O->wpAny P .any ops Q O listed a w:=by
  intro O;have fin:∀ (listed:Array Bool) (a:Act) (w:World) (vals:Nat->Value) (γ:Γ),LinInv ops D R N G a0 γ0 w0.drew listed a w vals γ->(∀ j,j<ops.size->listed.getD j false=true)->Q .normal a w:=by
   exact MJ
  have U:∀ (listed:Array Bool),listed.size=ops.size->Region.ready .any ops listed=[]->∀ j,j<ops.size->listed.getD j false=true:=by
   exact Mc
  induction O with
  |zero =>
   exact MY
  |succ O ih =>
   intro listed a w vals γ I hc;refine ⟨λhr=>fin listed a w vals γ I (U listed I.size hr),λi hi => ?_⟩;obtain ⟨h0,o,ho,hpre⟩:=mem_ready.1 hi;have hil:i<ops.size:=(Array.getElem?_eq_some_iff.1 ho).1;have hisz:i<listed.size:=(by rw [I.size];exact hil);have hun:listed.getD i false=false:=(by rw [<-GB hisz];exact h0);have hpl:∀ j,j∈AV o->listed.getD j false=true:=by
    exact LG
   have hslot:∀ t,t∈o.looksAt ops->a.tmps.getD t undef=Fi ops o a0 vals t:=by
    exact Md
   have Z:execOp a.eval o=execOp (Hm ops o a0 vals) o:=by
    exact Lm
   have Y:Region.wanted o (yielded ops a.tmps)=Ay o vals:=by
    exact LF
   have a8:∀ j,j∈AV o->G j ((D j).map vals) γ w:=λj hj=>I.facts j (by have:=hacyc i o j ho hj;omega) (hpl j hj);have hS:=hstep i o ho vals γ w I.rel (I.open_ i hil hun) a8;have next:∀ (v:Value) (γ':Γ) (w':World),R γ w γ' w'->(∀ j,j≠i->j ∉ AV o->N j γ->N j γ')->G i ((D i).map (F3 vals i v)) γ' w'->wpAny P .any ops Q O (listed.setIfInBounds i true) (a.put o.dst v) w':=by
    exact MK
   unfold wpOp;simp only [ho];rw [Y];by_cases hw:Ay o vals=true
   ·rw [if_pos hw] at hS|-;refine .inl ?_;unfold Oper.wp;rw [Z];generalize (execOp (Hm ops o a0 vals) o).run P w=r at hS;cases r with
    |ok n w' =>
     cases n<;>simp only [linUpon] at hS<;>simp only [Oper.upon]
     case value v=>obtain ⟨γ',h1,hn,h2⟩:=hS;exact next v γ' w' h1 hn h2
     case skip=>obtain ⟨γ',h1,hn,h2⟩:=hS;exact next undef γ' w' h1 hn h2
     case enter f args=>exact hS.mono λe w'' ⟨v,he,γ',h1,hn,h2⟩=>by subst he;exact next v γ' w'' h1 hn h2
    |halt x w'=>simp only [linUpon] at hS
   ·rw [if_neg hw] at hS|-;exact next undef γ w (hrefl _ _) (λ_ _ _ h=>h) hS
 refine wp_region_any hm (main ops.size _ a0 w0.drew (λ_=>undef) γ0 ⟨AC,rfl,rfl,?_,λ_ _=>rfl,hrefl _ _,?_,λj _ _=>hN j,?_⟩ ?_)
 ·exact R3
 ·exact RE
 ·intro j hj hl;simp [hj] at hl
 ·exact Uh
end

def AllSteps(F:Nat->Oper->Prop):List Oper->Nat->Prop
 |[],_=>True
 |o::l,k=>F k o/\AllSteps F l (k+1)
theorem AllSteps.at_{F:Nat->Oper->Prop} : ∀ {l:List Oper} {k:Nat},AllSteps F l k->∀ i o,l[i]?=some o->F (k+i) o
 |[],_,_,_,_,h=>by simp at h
 |o::l,k,h,0,o',hi=>by simp at hi;subst hi;exact h.1
 |o::l,k,h,i+1,o',hi=>by have:=h.2.at_ i o' Bp;rwa [show k+1+i=k+(i+1) by omega] at this
theorem ELA{F:Nat->Oper->Prop}{l:List Oper}(h:AllSteps F l 0):∀ i o,l.toArray[i]?=some o->F i o:=λi o hi=>by
 have:=h.at_ i o Bp;rwa [Nat.zero_add] at this

theorem BZ{Γ:Type}{P:Program}{l:List Oper}{Q:Exit->Act->World->Prop}{id:Nat}{a0:Act}{w0:World}(hm:P.follows .mixedOrders=true)(D:Nat->List Nat)(hB:R8 l.toArray D a0.tmps.size=true)
  (R:Γ->World->Γ->World->Prop) (hrefl:∀ γ w,R γ w γ w) (htrans:∀ γ w γ' w' γ'' w'',R γ w γ' w'->R γ' w' γ'' w''->R γ w γ'' w'')
  (N:Nat->Γ->Prop) (G:Nat->List Value->Γ->World->Prop) (hst:∀ i l γ w γ' w',R γ w γ' w'->G i l γ w->G i l γ' w') (γ0:Γ) (hN:∀ i,N i γ0)
  (hstep:AllSteps (LinStep P l.toArray D R N G a0 γ0 w0.drew) l 0)
  (hfin:∀ vals γ w,R γ0 w0.drew γ w->(∀ i,i<l.length->G i ((D i).map vals) γ w)->Q .normal (Ah vals l 0 a0) w) :
  (Code.region id l.toArray true).wp P Q a0 w0 :=
 KM hm D hB R hrefl htrans N G hst γ0 hN (ELA hstep) (λvals γ w h1 h2=>hfin vals γ w h1 λi hi=>h2 i Bp)
theorem LinStep.yes{Γ:Type}{P:Program}{ops:Array Oper}{D:Nat->List Nat}{R:Γ->World->Γ->World->Prop}{N:Nat->Γ->Prop}{G:Nat->List Value->Γ->World->Prop}{a0:Act}{γ0:Γ}{w0:World}{i:Nat}{o:Oper}
  (h:∀ (vals:Nat->Value) (γ:Γ) (w:World) (ρ:Operand->Value),R γ0 w0 γ w->N i γ->(∀ j,j∈AV o->G j ((D j).map vals) γ w)->(∀ t,ρ (.tmp t)=Fi ops o a0 vals t)->(∀ v,ρ (.const v)=v)->(∀ f,ρ (.func f)=.func (.func f) #[] #[])->(∀ g,ρ (.global g)=.pointer (some ⟨g,0,none⟩)) ->
   Ay o vals=true/\linUpon P (λv w'=>∃ γ',R γ w γ' w'/\(∀ j,j≠i->j ∉ AV o->N j γ->N j γ')/\G i ((D i).map (F3 vals i v)) γ' w') ((execOp ρ o).run P w)):LinStep P ops D R N G a0 γ0 w0 i o:=by
 intro vals γ w hR hN hp;obtain ⟨h1,h2⟩:=h vals γ w (Hm ops o a0 vals) hR hN hp (λ_=>rfl) (λ_=>rfl) (λ_=>rfl) (λ_=>rfl);rw [if_pos h1];exact h2
structure SR(Inv:Nat->World->Prop)(γ:Nat)(w:World)(γ':Nat)(w':World):Prop where
 le:γ<=γ'
 eq:γ=γ'->w'=w
 inv:Inv γ w->Inv γ' w'
theorem SR.refl(Inv:Nat->World->Prop)(γ:Nat)(w:World):SR Inv γ w γ w:=⟨Al,λ_=>rfl,id⟩
theorem SR.trans(Inv:Nat->World->Prop)(γ:Nat)(w:World)(γ':Nat)(w':World)(γ'':Nat)(w'':World)(h:SR Inv γ w γ' w')(k:SR Inv γ' w' γ'' w''):SR Inv γ w γ'' w'' :=
 ⟨Nat.le_trans h.le k.le,λe=>by
  have h1:=h.le;have h2:=k.le;rw [k.eq AA,h.eq AA],λhi=>k.inv (h.inv hi)⟩
theorem SR.up{Inv:Nat->World->Prop}{γ:Nat}{w:World}{γ':Nat}{w':World}(h:γ<γ')(hi:Inv γ' w'):SR Inv γ w γ' w':=⟨Nat.le_of_lt h,λe=>absurd e (Nat.ne_of_lt h),λ_=>hi⟩
def SN(st:List Nat)(i γ:Nat):Prop:=γ<st.getD i 100
theorem SN.zero{st:List Nat}(h:st.all (λs=>decide (0<s))=true)(i:Nat):SN st i 0:=by
 unfold SN
 rcases Nat.lt_or_ge i st.length with hi|hi
 ·rw [show st.getD i 100=st[i] by simp [hi]];have:=List.all_eq_true.1 h _ (List.getElem_mem hi)
  simpa using this
 ·rw [show st.getD i 100=100 by simp [List.getElem?_eq_none hi]];omega
theorem SN.up{st:List Nat}{i s:Nat}{p:List Nat}(hs:s<100)(h:((List.range st.length).all λj=>decide (j=i)||p.contains j||decide (st.getD j 100≠s))=true){γ:Nat}(hg:γ+1=s):∀ j,j≠i->j ∉ p->SN st j γ->SN st j s:=by
 intro j hj hp hn;unfold SN at hn|-
 rcases Nat.lt_or_ge j st.length with hl|hl
 ·have:=List.all_eq_true.1 h j (List.mem_range.2 hl);simp only [Bool.or_eq_true,decide_eq_true_eq,List.contains_iff_mem] at this
  rcases this with (h1|h1)|h1
  ·exact absurd h1 hj
  ·exact absurd h1 hp
  ·omega
 ·rw [show st.getD j 100=100 by simp [List.getElem?_eq_none hl]];omega
abbrev Gh:=Nat->Option (Option Nat)
def gh0:Gh:=λ_=>none
def Gh.put(γ:Gh)(k:Nat)(x:Option Nat):Gh:=λj=>if j=k then some x else γ j
def Gh.V(γ:Gh)(b:Nat):Prop:=∃ k,γ k=some (some b)
def Ec(γ:Gh)(b:Nat):Prop:=¬γ.V b
def LN(al:Nat->Option Nat)(i:Nat)(γ:Gh):Prop:=(∀ k,al i=some k->γ k≠some none)/\((∃ s,al s=some i)->γ i=none)
structure LR(γ:Gh)(w:World)(γ':Gh)(w':World):Prop where
 os:w'.os=w.os
 tape:w'.tape=w.tape
 output:w'.output=w.output
 size:w.heap.size<=w'.heap.size
 kept:∀ b,b<w.heap.size->Ec γ b->w'.heap[b]?=w.heap[b]?
 shape:∀ b t cs,Blk w b t cs->∃ cs',cs'.size=cs.size/\Blk w' b t cs'
 old:∀ k b,γ' k=some (some b)->b<w.heap.size->γ k=some (some b)
 on:∀ k b,γ k=some (some b)->γ' k=some (some b)\/γ' k=some none
 done:∀ k,γ k=some none->γ' k=some none
 inb:(∀ k b,γ k=some (some b)->b<w.heap.size)->∀ k b,γ' k=some (some b)->b<w'.heap.size
theorem LR.refl(γ:Gh)(w:World):LR γ w γ w:=⟨rfl,rfl,rfl,Al,λ_ _ _=>rfl,λ_ _ cs h=>⟨cs,rfl,h⟩,λ_ _ h _=>h,λ_ _ h=>.inl h,λ_ h=>h,λh=>h⟩
theorem LR.free{γ:Gh}{w:World}{γ':Gh}{w':World}(h:LR γ w γ' w'){b:Nat}(hb:b<w.heap.size)(hf:Ec γ b):Ec γ' b:=λ⟨k,hk⟩=>hf ⟨k,h.old k b hk hb⟩
theorem PC(h:qP:=by
 rcases h.on i b hi with h1|h1
 ·exact k.on i b h1
 ·exact .inr (k.done i h1)):qP:=h
theorem LR.trans(γ:Gh)(w:World)(γ':Gh)(w':World)(γ'':Gh)(w'':World)(h:LR γ w γ' w')(k:LR γ' w' γ'' w''):LR γ w γ'' w'' where
 os:=k.os.trans h.os
 tape:=k.tape.trans h.tape
 output:=k.output.trans h.output
 size:=Nat.le_trans h.size k.size
 kept b hb hf:=(k.kept b (Nat.lt_of_lt_of_le hb h.size) (h.free hb hf)).trans (h.kept b hb hf)
 shape b t cs hc:=by
  obtain ⟨c1,e1,h1⟩:=h.shape b t cs hc;obtain ⟨c2,e2,h2⟩:=k.shape b t c1 h1;exact ⟨c2,e2.trans e1,h2⟩
 old i b hi hb:=h.old i b (k.old i b hi (Nat.lt_of_lt_of_le hb h.size)) hb
 on i b hi:=by
  exact PC
 done i hi:=k.done i (h.done i hi)
 inb hi:=k.inb (h.inb hi)
theorem IFA(γ:Gh){w w':World}(h:Ext w w'):LR γ w γ w' :=
 ⟨h.os,h.tape,h.output,h.size,λb hb _=>h.block b hb,λ_b _t cs hc=>⟨cs,rfl,hc.keep (h.kept _)⟩,λ_ _ h _=>h,λ_ _ h=>.inl h,λ_ h=>h,λhi i b hb=>Nat.lt_of_lt_of_le (hi i b hb) h.size⟩
theorem LR.ext{w:World}{γ:Gh}{w':World}(h:LR gh0 w γ w'):Ext w w':=⟨h.os,h.tape,h.output,h.size,λb hb=>h.kept b hb (λ⟨k,hk⟩=>by cases hk)⟩
theorem LR.drew_ext{w:World}{γ:Gh}{w':World}(h:LR gh0 w.drew γ w'):Ext w w':=(Ext.refl w).drew.trans h.ext
theorem Sc(h:qP:=by
 intro j b hj hb;unfold Gh.put at hj;split at hj
 ·simp at hj;omega
 ·exact hj):qP:=h
theorem SE(h:qP:=by
 intro j b hj;left;unfold Gh.put;rw [if_neg (λe=>by subst e;rw [hk] at hj;cases hj)];exact hj):qP:=h
theorem Tr(h:qP:=by
 intro j hj;unfold Gh.put;rw [if_neg (λe=>by subst e;rw [hk] at hj;cases hj)];exact hj):qP:=h
theorem Rl(h:qP:=by
 intro hi j b hj;unfold Gh.put at hj;split at hj
 ·simp at hj;subst hj;simp
 ·have:=hi j b hj;simp;omega):qP:=h
theorem LR.new{γ:Gh}{k:Nat}(hk:γ k=none)(w:World)(o:Obj):LR γ w (γ.put k (some w.heap.size)) (w.alloc o):=by
 have h:=(Ext.refl w).alloc o;refine ⟨h.os,h.tape,h.output,h.size,λb hb _=>h.block b hb,λb t cs hc=>⟨cs,rfl,hc.keep (h.kept _)⟩,?_,?_,?_,?_⟩
 ·exact Sc
 ·exact SE
 ·exact Tr
 ·exact Rl
theorem LR.inb0{w:World}{γ:Gh}{w':World}(h:LR gh0 w γ w'):∀ k b,γ k=some (some b)->b<w'.heap.size:=h.inb λk b hk=>by cases hk
theorem Ck(h:qP:=by cases h):qP:=h
theorem LN.zero(al:Nat->Option Nat)(i:Nat):LN al i gh0:=⟨λ_ _ h=>Ck,λ_=>rfl⟩
theorem LN.made{al:Nat->Option Nat}{γ:Gh}{i:Nat}{x:Nat}{p:List Nat} : ∀ j,j≠i->j ∉ p->LN al j γ->LN al j (γ.put i (some x)):=by
 rintro j hj-⟨h1,h2⟩;refine ⟨λk hk => ?_,λhs => ?_⟩
 ·unfold Gh.put;split
  ·simp
  ·exact h1 k hk
 ·unfold Gh.put;rw [if_neg hj];exact h2 hs
theorem LN.stored{al:Nat->Option Nat}(inj:∀ j s k,al j=some k->al s=some k->j=s){γ:Gh}{s k g:Nat}(hs:al s=some k)(hk:γ k=some (some g)){p:List Nat} : ∀ j,j≠s->j ∉ p->LN al j γ->LN al j (γ.put k none):=by
 rintro j hj-⟨h1,h2⟩;refine ⟨λk' hk' => ?_,λhs' => ?_⟩
 ·unfold Gh.put;rw [if_neg (λe=>by subst e;exact hj (inj _ _ _ hk' hs))];exact h1 k' hk'
 ·unfold Gh.put;rw [if_neg (λe=>by subst e;rw [h2 hs'] at hk;cases hk)];exact h2 hs'
def al0:Nat->Option Nat:=λ_=>none
structure Only(g:Nat)(w w':World):Prop where
 os:w'.os=w.os
 tape:w'.tape=w.tape
 output:w'.output=w.output
 size:w'.heap.size=w.heap.size
 block:∀ b,b≠g->w'.heap[b]?=w.heap[b]?
theorem Only.refl(g:Nat)(w:World):Only g w w:=⟨rfl,rfl,rfl,rfl,λ_ _=>rfl⟩
theorem Only.set{g:Nat}{w w':World}(h:Only g w w')(i:Nat)(u:Value):Only g w (w'.setCell ⟨g,i,none⟩ u) :=
 ⟨h.os,h.tape,h.output,by simp [World.setCell,h.size],λb hb=>(Below.heap_setCell _ _ _ _ hb).trans (h.block b hb)⟩
theorem AeA(h:qP:=by
 subst hbg;have:=hb.symm.trans hc;simp at this;obtain ⟨rfl,rfl⟩:=this;exact ⟨cs',hs,hb'⟩):qP:=h
theorem RW(h:qP:=by
 by_cases hbg:b=g
 ·exact AeA
 ·exact ⟨c,rfl,(ho.block b hbg).trans hc⟩):qP:=h
theorem Oh(h:qP:=by
 unfold Gh.put at hj;split at hj
 ·cases hj
 ·exact hj):qP:=h
theorem Lz(h:qP:=by
 intro j b hj _;exact Oh):qP:=h
theorem KW(h:qP:=by
 intro j b hj;unfold Gh.put;split
 ·exact .inr rfl
 ·exact .inl hj):qP:=h
theorem KY(h:qP:=by
 intro j hj;unfold Gh.put;split
 ·rfl
 ·exact hj):qP:=h
theorem TM(h:qP:=by
 intro hi j b hj;unfold Gh.put at hj;split at hj
 ·cases hj
 ·rw [ho.size];exact hi j b hj):qP:=h
theorem LR.store{γ:Gh}{w w':World}{k g t:Nat}{cs cs':Array Value}(hk:γ k=some (some g))(hu:∀ j,γ j=some (some g)->j=k)(ho:Only g w w')(hb:Blk w g t cs)(hb':Blk w' g t cs')(hs:cs'.size=cs.size) :
  LR γ w (γ.put k none) w':=by
 refine ⟨ho.os,ho.tape,ho.output,Nat.le_of_eq ho.size.symm,λb _ hf=>ho.block b (λe=>hf ⟨k,by rw [hk,e]⟩),?_,?_,?_,?_,?_⟩
 ·intro b O c hc;exact RW
 ·exact Lz
 ·exact KW
 ·exact KY
 ·exact TM
section
variable {γ γ':Gh}{w w':World}{A B:OA}{d:Nat}{x:Val}
theorem LR.keptS(h:LR γ w γ' w'){S:NP}(hS:∀ b,b<w.heap.size->S b->Ec γ b):Kept S w w':=⟨h.size,λb hs hb=>h.kept b hb (hS b hb hs)⟩
theorem RI(h:qP:=by
 exact (h1.keep (h.keptS λ_ _ hb=>hb.1)).mono λ_ _ hb=>hb.2):qP:=h
theorem LR.strs{l:List BA}(h:LR γ w γ' w')(k:Strs w (Ec γ) A l):Strs w' (Ec γ') A l:=by
 have h1:Strs w (λb=>Ec γ b/\Ec γ' b) A l:=k.mono λb hb hf=>⟨hf,h.free hb hf⟩;exact RI
theorem LR.rows{l:List (List Val)}(h:LR γ w γ' w')(k:Rows w (Ec γ) d A l):Rows w' (Ec γ') d A l:=by
 have h1:Rows w (λb=>Ec γ b/\Ec γ' b) d A l:=k.mono λb hb hf=>⟨hf,h.free hb hf⟩;exact RI
theorem LR.cell(h:LR γ w γ' w'){p:Addr}{u:Value}(hf:Ec γ p.block)(hc:w.cell? p=some u):w'.cell? p=some u:=by
 have hp:p.block<w.heap.size:=by
  exact Zbea95ee93
 rw [World.cell?_of_block (w:=w) (h.kept p.block hp hf)];exact hc
theorem LR.blk(h:LR γ w γ' w'){g t:Nat}{cs:Array Value}(hf:Ec γ g)(hc:Blk w g t cs):Blk w' g t cs:=hc.keep (h.keptS λb _ e=>by subst e;exact hf)
def VarAt(k t n:Nat)(v:Value)(γ:Gh)(w:World):Prop:=∃ g cs,v=.pointer (some ⟨g,0,none⟩)/\cs.size=n/\Blk w g t cs/\(γ k=some (some g)\/γ k=some none)/\∀ j,γ j=some (some g)->j=k
def HDA(t:Nat)(v:Value)(cs:Array Value)(γ:Gh)(w:World):Prop:=∃ g,v=.pointer (some ⟨g,0,none⟩)/\Blk w g t cs/\Ec γ g
theorem VT(h:qP:=by
 unfold Gh.put at hj;split at hj
 ·assumption
 ·have:=hf j _ hj;omega):qP:=h
theorem VarAt.new{k t n:Nat}(hf:∀ j b,γ j=some (some b)->b<w.heap.size){cs:Array Value}(hn:cs.size=n):VarAt k t n (.pointer (some ⟨w.heap.size,0,none⟩)) (γ.put k (some w.heap.size)) (w.alloc (.cells cs t)):=by
 refine ⟨_,cs,rfl,hn,Blk.new w t cs,.inl (by simp [Gh.put]),λj hj => ?_⟩;exact VT
theorem Pa(h:qP:=by
 rintro ⟨j,hj⟩;unfold Gh.put at hj;split at hj
 ·cases hj
 ·rename_i hne;exact hne (h5 j hj)):qP:=h
theorem TC(h:qP:=by
 rcases h4 with h4|h4
 ·exact h4
 ·exact absurd h4 (hn.1 k hs)):qP:=h
theorem VarAt.stored{al:Nat->Option Nat}{s k t n:Nat}{v:Value}(h:VarAt k t n v γ w)(hs:al s=some k)(hn:LN al s γ) :
  ∃ g cs,v=.pointer (some ⟨g,0,none⟩)/\cs.size=n/\Blk w g t cs/\γ k=some (some g)/\∀ w' cs',Only g w w'->Blk w' g t cs'->cs'.size=n->LR γ w (γ.put k none) w'/\HDA t v cs' (γ.put k none) w':=by
 obtain ⟨g,cs,h1,h2,h3,h4,h5⟩:=h;have hk:γ k=some (some g):=by
  exact TC
 refine ⟨g,cs,h1,h2,h3,hk,λw' cs' ho hb he=>⟨LR.store hk h5 ho h3 hb (he.trans h2.symm),g,h1,hb,?_⟩⟩;exact Pa
end

theorem LinStep.no{Γ:Type}{P:Program}{ops:Array Oper}{D:Nat->List Nat}{R:Γ->World->Γ->World->Prop}{N:Nat->Γ->Prop}{G:Nat->List Value->Γ->World->Prop}{a0:Act}{γ0:Γ}{w0:World}{i:Nat}{o:Oper}
  (h:∀ (vals:Nat->Value) (γ:Γ) (w:World),(∀ j,j∈AV o->G j ((D j).map vals) γ w)->Ay o vals=false/\G i ((D i).map (F3 vals i undef)) γ w):LinStep P ops D R N G a0 γ0 w0 i o:=by
 intro vals γ w hR hN hp;obtain ⟨h1,h2⟩:=h vals γ w hp;rw [if_neg (by rw [h1];simp)];exact h2
theorem Only.drew{g:Nat}{w w':World}(h:Only g w w'):Only g w w'.drew:=⟨h.os,h.tape,h.output,h.size,h.block⟩
theorem Only.drewN{g:Nat}{w w':World}(h:Only g w w')(n:Nat):Only g w (w'.drewN n):=⟨h.os,h.tape,h.output,h.size,h.block⟩
theorem Only.trans{g:Nat}{w w' w'':World}(h:Only g w w')(k:Only g w' w''):Only g w w'':=⟨k.os.trans h.os,k.tape.trans h.tape,k.output.trans h.output,k.size.trans h.size,λb hb=>(k.block b hb).trans (h.block b hb)⟩
theorem Only.kept{g:Nat}{w w':World}(h:Only g w w'){S:NP}(hS:∀ b,b<w.heap.size->S b->b≠g):Kept S w w':=⟨Nat.le_of_eq h.size.symm,λb hb hl=>h.block b (hS b hl hb)⟩
theorem Only.below{g B:Nat}{w w':World}(h:Only g w w')(hB:B<=g):Below B w w':=⟨h.os,h.tape,h.output,Nat.le_of_eq h.size.symm,λb hb=>h.block b AA⟩
theorem Ext.only{g:Nat}{a w w':World}(h:Ext a w)(k:Only g w w')(hg:a.heap.size<=g):Ext a w':=Below.trans h (k.below hg)
theorem Only.own{g:Nat}{w w':World}(h:Only g w w'){base e sz n c:Nat}{A:OA}{xs:List Value}(ho:Own w base e sz A n c xs)(hg:g<base):Own w' base e sz A n c xs :=
 ho.keep (h.kept λb _ hb=>by have:=(ho.blk hb).1;omega)
theorem VN(h:qP:=by
 obtain ⟨A',c',w',hrun,h2,h3,h4⟩:=CAA w o.type ti hown (c2:=c2) hr hl h1 h63 hby hbase;unfold execOp;simp only [ho,resolve,invoke,builtin,Sem.run_bind,Sem.run_pure,Result.andThen_ok,List.map_toArray,List.map_cons,List.map_nil,hs,hx,hrun];exact h A' c' w' h2 h3 h4):qP:=h
theorem FNA{P:Program}{o:Oper}{ρ:Operand->Value}{K:Value->World->Prop}{w:World}{base e sz n c:Nat}{A:OA}{xs:List Value}(s x:Operand){t by_:Nat}
  (ho:o.op=.call { callee:=.builtin .append,args:=#[s,x],argTypes:=#[t,t] }) (ti:TI P t e sz by_) (hs:ρ s=.slice A n c) (hown:Own w base e sz A n c xs)
  {S:NP} {B:OA} {m c2:Nat} {news:List Value} (hx:ρ x=.slice B m c2) (hr:Rd w S B news) (hl:news.length=m*sz) (h1:∀ u∈news,u.oneCell'=true)
  (h63:(n+m)*by_<=140737488355328) (hby:0<by_) (hbase:base<=w.heap.size)
  (h:∀ A' c' w',Own w' base e sz A' (n+m) c' (xs++news)->w.grownBy w' (ob A)->(ob A'=ob A\/ob A'=some w.heap.size)->K (.slice A' (n+m) c') w') :
  linUpon P K ((execOp ρ o).run P w):=by
 exact VN

def IntsL(w:World)(S:NP)(A:OA)(l:List Int):Prop:=Rd w S A (l.map (Value.int .i64))/\l.length<=9223372036854775807
theorem IntsL.keep{w w':World}{S:NP}{A:OA}{l:List Int}(h:IntsL w S A l)(k:Kept S w w'):IntsL w' S A l:=⟨h.1.keep k,h.2⟩
theorem IntsL.mono{w:World}{S T:NP}{A:OA}{l:List Int}(h:IntsL w S A l)(k:∀ i,i<w.heap.size->S i->T i):IntsL w T A l:=⟨h.1.mono k,h.2⟩
theorem IntsL.at_{w:World}{S:NP}{A:OA}{l:List Int}(h:IntsL w S A l){k:Nat}(hk:k<l.length):∃ b o,A=some ⟨b,o,none⟩/\b<w.heap.size/\w.cell? ⟨b,o+k,none⟩=some (.I l[k]) :=
 h.1.at_ AF
def RIssL(w:World)(S:NP)(A:OA)(l:List (List Int)):Prop :=
 l.length<=9223372036854775807/\∃ hs:List Value,Rd w S A hs/\hs.length=l.length/\∀ (i:Nat) (r:List Int),l[i]?=some r->∃ (B:OA) (e:Nat),hs[i]?=some (.slice B r.length e)/\r.length<=e/\IntsL w S B r
theorem RIssL.keep{w w':World}{S:NP}{A:OA}{l:List (List Int)}(h:RIssL w S A l)(k:Kept S w w'):RIssL w' S A l:=by
 exact UJ
theorem RIssL.at_{w:World}{S:NP}{A:OA}{l:List (List Int)}(h:RIssL w S A l){k:Nat}(hk:k<l.length) :
  ∃ b o B e,A=some ⟨b,o,none⟩/\b<w.heap.size/\w.cell? ⟨b,o+k,none⟩=some (.slice B l[k].length e)/\l[k].length<=e/\IntsL w S B l[k]:=by
 exact VD
def NumIs(w:World)(g:Nat)(A:OA)(n c K:Nat):Prop:=Blk w g 65 #[.slice A n c,.I (K:Int)]/\K<=n
theorem NumIs.keep{w w':World}{g:Nat}{A:OA}{n c K:Nat}(h:NumIs w g A n c K)(k:Kept (λb=>b=g) w w'):NumIs w' g A n c K:=⟨h.1.keep k,h.2⟩
theorem BzA(a n:Int)(hn:1<=n):-n<a.tmod n/\a.tmod n<n:=by
 have h1:=Int.tmod_lt_of_pos a (b:=n) AA;have h2:=Int.tmod_lt_of_pos (-a) (b:=n) AA;rw [Int.neg_tmod] at h2;omega
theorem FyA(a n:Int)(hn:1<=n):0<=(a.tmod n+n).tmod n/\(a.tmod n+n).tmod n<n:=by
 obtain ⟨h1,h2⟩:=BzA a n hn;rw [Int.tmod_eq_emod_of_nonneg AA];exact ⟨Int.emod_nonneg _ AA,Int.emod_lt_of_pos _ AA⟩

def Tens(w:World):Prop:=w.cell? ⟨0,0,none⟩=some (.I 1)/\w.cell? ⟨0,1,none⟩=some (.I 10)/\w.cell? ⟨0,2,none⟩=some (.I 100)/\w.cell? ⟨0,3,none⟩=some (.I 1000) /\
 w.cell? ⟨0,4,none⟩=some (.I 10000)/\w.cell? ⟨0,5,none⟩=some (.I 100000)/\w.cell? ⟨0,6,none⟩=some (.I 1000000)
theorem Tens.ext{w w':World}(h:Tens w)(hx:Ext w w'):Tens w':=⟨hx.cell h.1,hx.cell h.2.1,hx.cell h.2.2.1,hx.cell h.2.2.2.1,hx.cell h.2.2.2.2.1,hx.cell h.2.2.2.2.2.1,hx.cell h.2.2.2.2.2.2⟩
theorem Tens.pos{w:World}(h:Tens w):0<w.heap.size:=by
 rcases Nat.lt_or_ge 0 w.heap.size with h1|h1
 ·exact h1
 ·have:=h.1;simp [World.cell?,Array.getElem?_eq_none h1] at this

def Bg(n s:Int):Int × Int:=if Dz n s=true then (n,s) else (0,0)
def HvA(w:World)(r:Int × Int)(e:Ending)(w':World):Prop:=e=.returned (.agg #[.I r.1,.I r.2])/\Ext w w'
theorem BT(h:qP:=by
 iterate 2 with_reducible refine Ext.set2 ?_ (by omega) _
 with_reducible exact HX.o):qP:=h
theorem KN(n s:Int)(w:World):Cl 210 #[.agg #[.I n,.I s]] w (HvA w (Bg n s)):=by
 go_enter func210,ntmps210
 go_wp2_with fail
 refine (Ff n s _).mono ?_;rintro e1 w1 ⟨rfl,hx1⟩;obtain ⟨O,U⟩:=Wm hx1;have Y:=hx1.size;simp at O U Y;have a8:w.heap.size<w1.heap.size:=AA;have Z:w.heap.size+1<w1.heap.size:=AA;have HX:=Hd ((exbb w).trans hx1);cases hd:Dz n s
 ·have HF:=Hd (show Bg n s=(0,0) by simp [Bg,hd]);clear hd hx1;go_wp2;rw [HF.o];refine bodyPost_ret (v:=.agg #[.I 0,.I 0]) (by simp [results,results210,go_sem,O]) rfl ⟨rfl,?_⟩;exact BT
 ·have HF:=Hd (show Bg n s=(n,s) by simp [Bg,hd]);clear hd hx1;go_wp2;rw [HF.o];refine bodyPost_ret (v:=.agg #[.I n,.I s]) (by simp [results,results210,go_sem,O]) rfl ⟨rfl,?_⟩;exact BT

def pw(s:Int):Int:=if s=0 then 1 else if s=1 then 10 else if s=2 then 100 else if s=3 then 1000 else if s=4 then 10000 else if s=5 then 100000 else 1000000
def mu(n s:Int):Int:=(Bg n s).1*pw (6-(Bg n s).2)
def H0A(w:World)(a b:Int)(e:Ending)(w':World):Prop:=e=.returned (.tuple #[.I a,.I b])/\Ext w w'
theorem GX(n s:Int):0<=(Bg n s).2/\(Bg n s).2<=6/\-1000000000000000<=(Bg n s).1/\(Bg n s).1<=1000000000000000:=by
 unfold Bg;split
 ·rename_i h;simp [Dz,Fx] at h;exact ⟨h.1.1.1,h.1.1.2,h.1.2.1,h.1.2.2⟩
 ·simp
theorem FJA(a d m:Int)(hm:0<m)(h:d*m=1000000):(a*m).tdiv 1000000=a.tdiv d/\(a*m).tmod 1000000=a.tmod d*m:=by
 rw [<-h,Int.mul_comm a m,Int.mul_comm d m];exact ⟨Int.mul_tdiv_mul_of_pos _ _ hm,by rw [Int.mul_tmod_mul_of_pos _ _ hm,Int.mul_comm]⟩
theorem B8A(a d m:Int)(hm:0<m)(hd:0<d)(h:d*m=1000000):-1000000<a.tmod d*m/\a.tmod d*m<1000000:=by
 have h1:=Int.tmod_lt_of_pos a hd;have h2:-d<a.tmod d:=by
  have:=Int.lt_tmod_of_pos a hd;omega
 constructor
 ·have:-d*m<a.tmod d*m:=Int.mul_lt_mul_of_pos_right h2 hm;rw [Int.neg_mul,h] at this;exact this
 ·have:a.tmod d*m<d*m:=Int.mul_lt_mul_of_pos_right h1 hm;rw [h] at this;exact this
theorem Hp(m a d k:Int)(hm:m=a*k)(hk:0<k)(hd:0<d)(h:d*k=1000000) :
  Ending.returned (.tuple #[.I (a.tdiv d),.I (wrap64 (a.tmod d*k))])=.returned (.tuple #[.I (m.tdiv 1000000),.I (m.tmod 1000000)]):=by
 obtain ⟨h1,h2⟩:=FJA a d k hk h;obtain ⟨b1,b2⟩:=B8A a d k hk hd h;rw [hm,h1,h2,IntWalk.wrap64_in _ ⟨AA,AA⟩]
theorem KK(n s:Int)(w:World)(ht:Tens w):Cl 191 #[.agg #[.I n,.I s]] w (H0A w ((mu n s).tdiv 1000000) ((mu n s).tmod 1000000)):=by
 have HT:=Hd ht;clear ht
 go_enter func191,ntmps191
 go_wp2_with fail
 refine (KN n s _).mono ?_;rintro e1 w1 ⟨rfl,hx1⟩;obtain ⟨U,O⟩:=Wm hx1;have Y:=hx1.size;simp at U O Y;have a9:w.heap.size<w1.heap.size:=AA;have HX:=Hd ((exaa w).trans hx1);have hr:=GX n s;have HM:=Hd (show mu n s=(Bg n s).1*pw (6-(Bg n s).2) from rfl);clear hx1;generalize Bg n s=p at *;obtain ⟨a,b⟩:=p;simp only at hr HM|-;obtain ⟨b5,a8,b4,b3⟩:=hr;have hb:b=0\/b=1\/b=2\/b=3\/b=4\/b=5\/b=6:=AA;obtain ⟨t0,t1,t2,t3,t4,t5,t6⟩:=HT.o.ext HX.o;have hp:=HT.o.pos;have hne:0≠w.heap.size:=AA;have Z:w.heap.size≠0:=AA;have b0:w1.cell? ⟨w.heap.size,0,none⟩=some (.I n):=(by rw [U _ _ AA];simp [go_sem]);have b1:w1.cell? ⟨w.heap.size,1,none⟩=some (.I s):=(by rw [U _ _ AA];simp [go_sem]);have f0:w1.frozen? ⟨w.heap.size,0,none⟩=false:=(by rw [O _ _ AA];simp [go_sem]);have f1:w1.frozen? ⟨w.heap.size,1,none⟩=false:=(by rw [O _ _ AA];simp [go_sem]);clear U O
 rcases hb with rfl|rfl|rfl|rfl|rfl|rfl|rfl
 all_goals
  go_wp2
  go_quiet (fail)
  go_wp2;go_ret2;refine ⟨?_,?_⟩
  rotate_left
  ·with_reducible refine Ext.drewN ?_ _
   exact BT
  have hm:=HM.o;simp [pw] at hm
 ·rw [hm];simp [Int.mul_tdiv_cancel]
 ·exact Hp _ a 10 100000 hm AB AB AB
 ·exact Hp _ a 100 10000 hm AB AB AB
 ·exact Hp _ a 1000 1000 hm AB AB AB
 ·exact Hp _ a 10000 100 hm AB AB AB
 ·exact Hp _ a 100000 10 hm AB AB AB
 ·rw [hm];have hb:=B8A a 1000000 1 AB AB AB;rw [Int.mul_one] at hb;show Ending.returned (.tuple #[.I (a.tdiv 1000000),.I (wrap64 (a.tmod 1000000))])=_;rw [IntWalk.wrap64_in _ ⟨AA,AA⟩]

theorem tdm(b m:Int)(hm:0<m):m*b.tdiv m+b.tmod m=b/\-m<b.tmod m/\b.tmod m<m/\(0<=b->0<=b.tmod m)/\(b<=0->b.tmod m<=0):=by
 refine ⟨Int.mul_tdiv_add_tmod b m,?_,Int.tmod_lt_of_pos b hm,λh=>Int.tmod_nonneg m h,λh => ?_⟩
 ·have:=Int.lt_tmod_of_pos b hm;omega
 ·have:=Int.tmod_nonneg m (show 0<=-b by omega);rw [Int.neg_tmod] at this;omega
def FnA(w:World)(r:(Int × Int) × Bool)(e:Ending)(w':World):Prop:=e=.returned (.tuple #[.agg #[.I r.1.1,.I r.1.2],.bool r.2])/\Ext w w'
end Go.Proofs.YtidacnalcdhckaaGreatDoor
namespace Go.Proofs.YtidacnalcdhckaaGreatDoor
end Go.Proofs.YtidacnalcdhckaaGreatDoor
namespace Go.Proofs
open Go Go.RowKit Go.Shelf Tryz
variable {qP:Prop}
def Tryz.lt156_ren:Go.Shelf.Ren:=⟨fun|156=>100|165=>168|166=>169|169=>170|240=>214|241=>215|276=>246|277=>247|n=>n,fun|31=>26|9=>9|3=>3|4=>4|0=>0|20=>20|72=>157|76=>161|70=>155|37=>85|75=>160|127=>197|164=>230|5=>5|80=>108|n=>n,fun|n=>n⟩
theorem Tryz.lt156:Go.Proofs.Lays.n156 Tryz.prog Tryz.lt156_ren:={
 mixed:=by kernel_rfl
 f156:=Tryz.func100.trans (congrArg some (by kernel_rfl))
 f165:=Tryz.func168.trans (congrArg some (by kernel_rfl))
 f166:=Tryz.func169.trans (congrArg some (by kernel_rfl))
 f169:=Tryz.func170.trans (congrArg some (by kernel_rfl))
 f240:=Tryz.func214.trans (congrArg some (by kernel_rfl))
 f241:=Tryz.func215.trans (congrArg some (by kernel_rfl))
 f276:=Tryz.func246.trans (congrArg some (by kernel_rfl))
 f277:=Tryz.func247.trans (congrArg some (by kernel_rfl))
 t0:=Tryz.underlying0
 a0:=Tryz.isAgg0
 z0:=Tryz.sizeOf0
 v0:=Tryz.zeroValue0
 t3:=Tryz.underlying3
 a3:=Tryz.isAgg3
 z3:=Tryz.sizeOf3
 v3:=Tryz.zeroValue3
 t4:=Tryz.underlying4
 a4:=Tryz.isAgg4
 z4:=Tryz.sizeOf4
 v4:=Tryz.zeroValue4
 t9:=Tryz.underlying9
 a9:=Tryz.isAgg9
 z9:=Tryz.sizeOf9
 v9:=Tryz.zeroValue9
 t20:=Tryz.underlying20
 a20:=Tryz.isAgg20
 z20:=Tryz.sizeOf20
 v20:=Tryz.zeroValue20
 t31:=Tryz.underlying26
 a31:=Tryz.isAgg26
 z31:=Tryz.sizeOf26
 v31:=Tryz.zeroValue26
 t37:=Tryz.underlying85
 a37:=Tryz.isAgg85
 z37:=Tryz.sizeOf85
 v37:=Tryz.zeroValue85
 t70:=Tryz.underlying155
 a70:=Tryz.isAgg155
 z70:=Tryz.sizeOf155
 v70:=Tryz.zeroValue155
 t72:=Tryz.underlying157
 a72:=Tryz.isAgg157
 z72:=Tryz.sizeOf157
 v72:=Tryz.zeroValue157
 t75:=Tryz.underlying160
 a75:=Tryz.isAgg160
 z75:=Tryz.sizeOf160
 v75:=Tryz.zeroValue160
 t76:=Tryz.underlying161
 a76:=Tryz.isAgg161
 z76:=Tryz.sizeOf161
 v76:=Tryz.zeroValue161
 t127:=Tryz.underlying197
 a127:=Tryz.isAgg197
 z127:=Tryz.sizeOf197
 v127:=Tryz.zeroValue197
 t164:=Tryz.underlying230
 a164:=Tryz.isAgg230
 z164:=Tryz.sizeOf230
 v164:=Tryz.zeroValue230 }
def Tryz.lt171_ren:Go.Shelf.Ren:=⟨fun|171=>99|243=>167|246=>213|283=>242|284=>243|285=>244|286=>245|129=>270|317=>275|318=>276|319=>277|320=>278|337=>290|338=>291|n=>n,fun|3=>3|9=>9|2=>2|4=>4|171=>225|0=>0|53=>194|37=>85|5=>5|173=>228|212=>254|51=>250|20=>20|213=>255|46=>79|232=>268|233=>269|n=>n,fun|17=>1|18=>3|19=>4|n=>n⟩
theorem Tryz.lt171:Go.Proofs.LaysM.n171 Tryz.prog Tryz.lt171_ren:={
 mixed:=by kernel_rfl
 f129:=Tryz.func270.trans (congrArg some (by kernel_rfl))
 f171:=Tryz.func99.trans (congrArg some (by kernel_rfl))
 f243:=Tryz.func167.trans (congrArg some (by kernel_rfl))
 f246:=Tryz.func213.trans (congrArg some (by kernel_rfl))
 f283:=Tryz.func242.trans (congrArg some (by kernel_rfl))
 f284:=Tryz.func243.trans (congrArg some (by kernel_rfl))
 f285:=Tryz.func244.trans (congrArg some (by kernel_rfl))
 f286:=Tryz.func245.trans (congrArg some (by kernel_rfl))
 f317:=Tryz.func275.trans (congrArg some (by kernel_rfl))
 f318:=Tryz.func276.trans (congrArg some (by kernel_rfl))
 f319:=Tryz.func277.trans (congrArg some (by kernel_rfl))
 f320:=Tryz.func278.trans (congrArg some (by kernel_rfl))
 f337:=Tryz.func290.trans (congrArg some (by kernel_rfl))
 f338:=Tryz.func291.trans (congrArg some (by kernel_rfl))
 t0:=Tryz.underlying0
 a0:=Tryz.isAgg0
 z0:=Tryz.sizeOf0
 v0:=Tryz.zeroValue0
 t2:=Tryz.underlying2
 a2:=Tryz.isAgg2
 z2:=Tryz.sizeOf2
 v2:=Tryz.zeroValue2
 t3:=Tryz.underlying3
 a3:=Tryz.isAgg3
 z3:=Tryz.sizeOf3
 v3:=Tryz.zeroValue3
 t4:=Tryz.underlying4
 a4:=Tryz.isAgg4
 z4:=Tryz.sizeOf4
 v4:=Tryz.zeroValue4
 t5:=Tryz.underlying5
 a5:=Tryz.isAgg5
 z5:=Tryz.sizeOf5
 v5:=Tryz.zeroValue5
 t9:=Tryz.underlying9
 a9:=Tryz.isAgg9
 z9:=Tryz.sizeOf9
 v9:=Tryz.zeroValue9
 t20:=Tryz.underlying20
 a20:=Tryz.isAgg20
 z20:=Tryz.sizeOf20
 v20:=Tryz.zeroValue20
 t37:=Tryz.underlying85
 a37:=Tryz.isAgg85
 z37:=Tryz.sizeOf85
 v37:=Tryz.zeroValue85
 t46:=Tryz.underlying79
 a46:=Tryz.isAgg79
 z46:=Tryz.sizeOf79
 v46:=Tryz.zeroValue79
 t51:=Tryz.underlying250
 a51:=Tryz.isAgg250
 z51:=Tryz.sizeOf250
 v51:=Tryz.zeroValue250
 t53:=Tryz.underlying194
 a53:=Tryz.isAgg194
 z53:=Tryz.sizeOf194
 v53:=Tryz.zeroValue194
 t171:=Tryz.underlying225
 a171:=Tryz.isAgg225
 z171:=Tryz.sizeOf225
 v171:=Tryz.zeroValue225
 t173:=Tryz.underlying228
 a173:=Tryz.isAgg228
 z173:=Tryz.sizeOf228
 v173:=Tryz.zeroValue228
 t212:=Tryz.underlying254
 a212:=Tryz.isAgg254
 z212:=Tryz.sizeOf254
 v212:=Tryz.zeroValue254
 t213:=Tryz.underlying255
 a213:=Tryz.isAgg255
 z213:=Tryz.sizeOf255
 t232:=Tryz.underlying268
 a232:=Tryz.isAgg268
 z232:=Tryz.sizeOf268
 v232:=Tryz.zeroValue268
 t233:=Tryz.underlying269
 a233:=Tryz.isAgg269
 z233:=Tryz.sizeOf269
 v233:=Tryz.zeroValue269
 g17:=by kernel_rfl
 g18:=by kernel_rfl
 g19:=by kernel_rfl
 i0:=by kernel_rfl
 i2:=by kernel_rfl
 i3:=by kernel_rfl
 i4:=by kernel_rfl
 i5:=by kernel_rfl
 i9:=by kernel_rfl
 i20:=by kernel_rfl
 i37:=by kernel_rfl
 i46:=by kernel_rfl
 i51:=by kernel_rfl
 i53:=by kernel_rfl
 i171:=by kernel_rfl
 i173:=by kernel_rfl
 i212:=by kernel_rfl
 i232:=by kernel_rfl
 i233:=by kernel_rfl
 m17:=by kernel_rfl
 m18:=by kernel_rfl
 m19:=by kernel_rfl }
def Tryz.lt283_ren:Go.Shelf.Ren:=⟨fun|283=>242|n=>n,fun|3=>3|9=>9|4=>4|n=>n,fun|n=>n⟩
theorem Tryz.lt283:Go.Proofs.Lays.n283 Tryz.prog Tryz.lt283_ren:={
 mixed:=by kernel_rfl
 f283:=Tryz.func242.trans (congrArg some (by kernel_rfl))
 t3:=Tryz.underlying3
 a3:=Tryz.isAgg3
 z3:=Tryz.sizeOf3
 v3:=Tryz.zeroValue3
 t4:=Tryz.underlying4
 a4:=Tryz.isAgg4
 z4:=Tryz.sizeOf4
 v4:=Tryz.zeroValue4
 t9:=Tryz.underlying9
 a9:=Tryz.isAgg9
 z9:=Tryz.sizeOf9
 v9:=Tryz.zeroValue9 }
def Tryz.lt285_ren:Go.Shelf.Ren:=⟨fun|285=>244|n=>n,fun|37=>85|53=>194|3=>3|4=>4|51=>250|9=>9|5=>5|0=>0|n=>n,fun|n=>n⟩
theorem Tryz.lt285:Go.Proofs.Lays.n285 Tryz.prog Tryz.lt285_ren:={
 mixed:=by kernel_rfl
 f285:=Tryz.func244.trans (congrArg some (by kernel_rfl))
 t0:=Tryz.underlying0
 a0:=Tryz.isAgg0
 z0:=Tryz.sizeOf0
 v0:=Tryz.zeroValue0
 t3:=Tryz.underlying3
 a3:=Tryz.isAgg3
 z3:=Tryz.sizeOf3
 v3:=Tryz.zeroValue3
 t4:=Tryz.underlying4
 a4:=Tryz.isAgg4
 z4:=Tryz.sizeOf4
 v4:=Tryz.zeroValue4
 t5:=Tryz.underlying5
 a5:=Tryz.isAgg5
 z5:=Tryz.sizeOf5
 v5:=Tryz.zeroValue5
 t9:=Tryz.underlying9
 a9:=Tryz.isAgg9
 z9:=Tryz.sizeOf9
 v9:=Tryz.zeroValue9
 t37:=Tryz.underlying85
 a37:=Tryz.isAgg85
 z37:=Tryz.sizeOf85
 v37:=Tryz.zeroValue85
 t51:=Tryz.underlying250
 a51:=Tryz.isAgg250
 z51:=Tryz.sizeOf250
 v51:=Tryz.zeroValue250
 t53:=Tryz.underlying194
 a53:=Tryz.isAgg194
 z53:=Tryz.sizeOf194
 v53:=Tryz.zeroValue194 }
def Tryz.lt99_ren:Go.Shelf.Ren:=⟨fun|99=>131|206=>189|n=>n,fun|9=>9|4=>4|3=>3|n=>n,fun|n=>n⟩
theorem Tryz.lt99:Go.Proofs.Lays.n99 Tryz.prog Tryz.lt99_ren:={
 mixed:=by kernel_rfl
 f99:=Tryz.func131.trans (congrArg some (by kernel_rfl))
 f206:=Tryz.func189.trans (congrArg some (by kernel_rfl))
 t3:=Tryz.underlying3
 a3:=Tryz.isAgg3
 z3:=Tryz.sizeOf3
 v3:=Tryz.zeroValue3
 t4:=Tryz.underlying4
 a4:=Tryz.isAgg4
 z4:=Tryz.sizeOf4
 v4:=Tryz.zeroValue4
 t9:=Tryz.underlying9
 a9:=Tryz.isAgg9
 z9:=Tryz.sizeOf9
 v9:=Tryz.zeroValue9 }
def Tryz.lt100_ren:Go.Shelf.Ren:=⟨fun|100=>132|207=>190|n=>n,fun|9=>9|4=>4|3=>3|n=>n,fun|n=>n⟩
theorem Tryz.lt100:Go.Proofs.Lays.n100 Tryz.prog Tryz.lt100_ren:={
 mixed:=by kernel_rfl
 f100:=Tryz.func132.trans (congrArg some (by kernel_rfl))
 f207:=Tryz.func190.trans (congrArg some (by kernel_rfl))
 t3:=Tryz.underlying3
 a3:=Tryz.isAgg3
 z3:=Tryz.sizeOf3
 v3:=Tryz.zeroValue3
 t4:=Tryz.underlying4
 a4:=Tryz.isAgg4
 z4:=Tryz.sizeOf4
 v4:=Tryz.zeroValue4
 t9:=Tryz.underlying9
 a9:=Tryz.isAgg9
 z9:=Tryz.sizeOf9
 v9:=Tryz.zeroValue9 }
theorem Tryz.xt156:Builder.Extra Tryz.prog Tryz.lt156_ren:={
 sizeBuilder:=by kernel_rfl
 liesBuilder:=by kernel_rfl
 t5:=by kernel_rfl
 a5:=by intro w;kernel_rfl
 z5:=by intro w;kernel_rfl
 v5:=by intro w;kernel_rfl
 infoByte:=by kernel_rfl
 cellsByte:=by kernel_rfl
 sizeByte:=by kernel_rfl
 neB5:=by decide }
end Go.Proofs
