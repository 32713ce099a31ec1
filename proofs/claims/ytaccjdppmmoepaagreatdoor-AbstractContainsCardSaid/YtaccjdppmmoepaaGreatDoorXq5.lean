/- Lemmas. No conditions. -/
import Derived.Test.YtaccjdppmmoepaaGreatDoorXq4
import Derived.Deep.Light
import Derived.Sort.Walk0
set_option maxRecDepth 100000
set_option maxHeartbeats 4000000
namespace Go.Proofs.YtaccjdppmmoepaaGreatDoor
open Go Go.RowKit Tryz
variable {qP:Prop}

class Rf{Γ:Type}(R:Γ->World->Γ->World->Prop):Prop where
 r:∀ F w,R F w F w
class Re{Γ:Type}(R:Γ->World->Γ->World->Prop):Prop where
 e:∀ F w J,Ext w J->R F w F J
instance (X:Nat->Nat->Prop):Rf (LX X):=⟨LX.refl X⟩
instance (X:Nat->Nat->Prop):Re (LX X):=⟨λF _ _ h=>IDA X F h⟩
class Rx{Γ:Type}(R:Γ->World->Γ->World->Prop)(γ0:Γ):Prop where
 x:∀ F w J,R γ0 w.drew F J->Ext w J
instance:Rx (LX (λ_ _=>False)) gh0:=⟨λ_ _ _ h=>h.ext0 λ_ _ h=>h.elim⟩
def FQA{Γ:Type}(ops:Array Oper)(D:Nat->List Nat)(G:Nat->List Value->Γ->World->Prop)(o:Oper)(a0:Act)(V:Nat->Value)(F:Γ)(w:World)(L:Operand->Value):List Nat->Prop
 |[]=>True
 | t::l=>(match (AV o).find? (λj=>(ops[j]?).bind (·.dst)==some t) with
   |some j=>match D j with
    |[i]=>match decide (i=j) with
     |true=>G j [L (.tmp t)] F w
     |false=>True
    |_=>True
   | none=>L (.tmp t)=a0.tmps.getD t undef)/\FQA ops D G o a0 V F w L l
def B5A{Γ:Type}(D:Nat->List Nat)(done:List (Ft Γ))(o:Oper)(V:Nat->Value)(F:Γ)(w:World):Prop :=
 match o.guard with
 |none=>True
 |some (g,_)=>match (AV o).contains g with|true=>gOf done.reverse g ((D g).map V) F w|false=>True
section
variable {Γ:Type}{P:Program}{ops:Array Oper}{D:Nat->List Nat}{R:Γ->World->Γ->World->Prop}{N:Nat->Γ->Prop}{a0:Act}{γ0:Γ}{w0:World}{Qf:List (Ft Γ)->Prop}{done:List (Ft Γ)}{o:Oper}{rest:List Oper}{k:Nat}{x:Value}
theorem XD{G:Nat->List Value->Γ->World->Prop}{V:Nat->Value}{F:Γ}{w:World}{L:Operand->Value}(hp:∀ j,j∈AV o->G j ((D j).map V) F w)(hρ:∀ t,L (.tmp t)=Fi ops o a0 V t):∀ l,FQA ops D G o a0 V F w L l
 |[]=>trivial
 |t::l=>by
  refine ⟨?_,XD hp hρ l⟩;have ht:=hρ t;unfold Fi at ht;cases h:(AV o).find? (λj=>(ops[j]?).bind (·.dst)==some t) with
  |none=>rw [h] at ht;exact ht
  |some j =>
   rw [h] at ht;show match D j with|[i]=>(match decide (i=j) with|true=>G j [L (.tmp t)] F w|false=>True)|_=>True
   have hj:=hp j (List.mem_of_find?_eq_some h);split
   ·rename_i i hd;rw [hd] at hj;split
    ·rename_i he;obtain rfl:=of_decide_eq_true he;rw [ht];exact hj
    ·trivial
   ·trivial
theorem Yh{V:Nat->Value}{F:Γ}{w:World}(hp:∀ j,j∈AV o->gOf done.reverse j ((D j).map V) F w):B5A D done o V F w:=by
 unfold B5A;split
 ·trivial
 ·split
  ·rename_i h;exact hp _ BU
  ·trivial
def FindsZ(ops:Array Oper)(D:Nat->List Nat)(R:Γ->World->Γ->World->Prop)(N:Nat->Γ->Prop)(a0:Act)(γ0:Γ)(w0:World)(k:Nat)(done:List (Ft Γ))(o:Oper)(V:Nat->Value)(F:Γ)(w:World)(L:Operand->Value)(C:Prop):Prop :=
 Hid (R γ0 w0 F w)->Hid (N k F)->Hid (∀ j,j∈AV o->gOf done.reverse j ((D j).map V) F w)->Hid (∀ t,L (.tmp t)=Fi ops o a0 V t)->FQA ops D (gOf done.reverse) o a0 V F w L (o.looksAt ops)->B5A D done o V F w->(∀ v,L (.const v)=v)->(∀ f,L (.func f)=.func (.func f) #[] #[])->(∀ g,L (.global g)=.pointer (some ⟨g,0,none⟩))->C
theorem FindsZ.go{V:Nat->Value}{F:Γ}{w:World}{L:Operand->Value}{C:Prop}(h:FindsZ ops D R N a0 γ0 w0 k done o V F w L C):Xy ops D R N a0 γ0 w0 k done o V F w L C :=
 λhR hN hp hρ h1 h2 h3=>h (Hd hR) (Hd hN) (Hd hp) (Hd hρ) (XD hp hρ _) (Yh hp) h1 h2 h3
theorem Qk{p:Prop}(h:p:=by
  intro _ _ _
  (conv at zg=>whnf)
  refine ⟨by first|rfl|(show (NM _==some _)=true;rw [zg];rfl),?_⟩
  repeat ((conv at zs=>whnf);(try have e:L (.tmp _)=_:=zs.1);replace zs:=zs.2)
  clear hR hN hp hρ zs zg;go_light;go_simp;exact ⟨rfl,rfl⟩):p:=h
theorem Qm [hr:Rf R](h:∀ V F w L,FindsZ ops D R N a0 γ0 w0 k done o V F w L (AY o V=true/\Bu P (λv J=>v=x/\J=w) ((execOp L o).run P w)))
  (next:Chain P ops D R N a0 γ0 w0 Qf (k+1) (FV x::done) rest) (hk:done.length=k:=by rfl) (hD:D k=[k]:=by rfl):Chain P ops D R N a0 γ0 w0 Qf k done (o::rest) :=
 H9A hr.r hk (λV F w L=>(h V F w L).go) hD next
theorem HyA(L:Operand->Value){x:Operand}{a:Addr}{v:Value}{w J:World}(_:L x=.pointer (some a))(h:Ext w J)(c:Hid (w.cell? a=some v)):J.cell? a=some v:=h.cell c.o
theorem Jn(n:Nat)(L:Operand->Value){x:Operand}{a:Addr}{v:Value}{w J:World}(_:L x=.pointer (some a))(h:Ext w J)(c:Hid (w.cell? ⟨a.block,a.off+n,a.spot⟩=some v)):J.cell? ⟨a.block,a.off+n,a.spot⟩=some v:=h.cell c.o
theorem Qp [hr:Rf R](next:Chain P ops D R N a0 γ0 w0 Qf (k+1) (FV x::done) rest)(hk:done.length=k:=by rfl)(hD:D k=[k]:=by rfl)
  (h:∀ V F w L,FindsZ ops D R N a0 γ0 w0 k done o V F w L (AY o V=true/\Bu P (λv J=>v=x/\J=w) ((execOp L o).run P w)):=by
   intro V F J L hR hN hp hρ zs zg hc hf hg
   (conv at zg=>whnf)
   refine ⟨by first|rfl|(show (NM _==some _)=true;rw [zg];rfl),?_⟩
   repeat ((conv at zs=>whnf);(try have e:L (.tmp _)=_:=zs.1);replace zs:=zs.2)
   try
    show Bu _ _ ((execOp _ (Oper.mk _ (Op.load _ _) _ _ _ _)).run _ _)
    first
    |have hxx:=Rx.x _ _ _ hR.o
    | have hxx:=hR.o.ext0 (λm b _ hm=>by first
      |(rw [hm.1];exact hN.o.key (by decide))
      | (rcases hm with ⟨rfl,_⟩ | ⟨rfl,_⟩<;>exact hN.o.key (by decide)))
    try (have m:=HyA L (by assumption) hxx (by assumption);try (have m:=Jn 1 L (by assumption) hxx (by with_reducible assumption);try dsimp only [Nat.reduceAdd] at m;try (have m:=Jn 2 L (by assumption) hxx (by with_reducible assumption);try dsimp only [Nat.reduceAdd] at m;try (have m:=Jn 3 L (by assumption) hxx (by with_reducible assumption);try dsimp only [Nat.reduceAdd] at m;try (have m:=Jn 4 L (by assumption) hxx (by with_reducible assumption);try dsimp only [Nat.reduceAdd] at m;try (have m:=Jn 5 L (by assumption) hxx (by with_reducible assumption);try dsimp only [Nat.reduceAdd] at m;try (have m:=Jn 6 L (by assumption) hxx (by with_reducible assumption);try dsimp only [Nat.reduceAdd] at m;try (have m:=Jn 7 L (by assumption) hxx (by with_reducible assumption);try dsimp only [Nat.reduceAdd] at m;try (have m:=Jn 8 L (by assumption) hxx (by with_reducible assumption);try dsimp only [Nat.reduceAdd] at m;try (have m:=Jn 9 L (by assumption) hxx (by with_reducible assumption);try dsimp only [Nat.reduceAdd] at m;try (have m:=Jn 10 L (by assumption) hxx (by with_reducible assumption);try dsimp only [Nat.reduceAdd] at m;try (have m:=Jn 11 L (by assumption) hxx (by with_reducible assumption);try dsimp only [Nat.reduceAdd] at m))))))))))))
    clear hxx
   clear hR hN hp hρ zs zg;go_light;go_simp;exact ⟨rfl,rfl⟩):Chain P ops D R N a0 γ0 w0 Qf k done (o::rest):=Qm h next hk hD
theorem Qn(next:Chain P ops D R N a0 γ0 w0 Qf (k+1) (FV undef::done) rest)(hk:done.length=k:=by rfl)(hD:D k=[k]:=by rfl)
  (h:∀ V F w,B5A D done o V F w->AY o V=false:=by
   intro V F J zg
   (conv at zg=>whnf)
   show (NM _==some _)=false;rw [zg];rfl):Chain P ops D R N a0 γ0 w0 Qf k done (o::rest):=Chain.no hk hD (λV F w hp=>h V F w (Yh hp)) next
theorem Qr{p q:Prop}(k:q)(h:Hid q->p:=by
  intro k _ _ _
  (conv at zg=>whnf)
  refine ⟨by first|rfl|(show (NM _==some _)=true;rw [zg];rfl),?_⟩
  repeat ((conv at zs=>whnf);(try have e:L (.tmp _)=_:=zs.1);replace zs:=zs.2)
  go_light;go_simp;exact k.o):p:=h (Hd k)
theorem Qs(Φ:Ft Γ)(hst:O8 R Φ)(h:∀ V F w L,FindsZ ops D R N a0 γ0 w0 k done o V F w L (AY o V=true/\Bu P (λv J=>∃ γ',R F w γ' J/\(∀ j,j≠k->j ∉ AV o->N j F->N j γ')/\Φ ((D k).map (F3 V k v)) γ' J) ((execOp L o).run P w)))
  (next:Chain P ops D R N a0 γ0 w0 Qf (k+1) (Φ::done) rest) (hk:done.length=k:=by rfl):Chain P ops D R N a0 γ0 w0 Qf k done (o::rest) :=
 Chain.step Φ hk hst (λV F w L=>(h V F w L).go) next
theorem Qg(x:Value)(h:∀ V F w L,FindsZ ops D R N a0 γ0 w0 k done o V F w L (AY o V=true/\Bu P (λv J=>∃ γ',R F w γ' J/\(∀ j,j≠k->j ∉ AV o->N j F->N j γ')/\v=x) ((execOp L o).run P w)))
  (next:Chain P ops D R N a0 γ0 w0 Qf (k+1) (FV x::done) rest) (hk:done.length=k:=by rfl) (hD:D k=[k]:=by rfl):Chain P ops D R N a0 γ0 w0 Qf k done (o::rest) :=
 Chain.step (FV x) hk (IPA x) (λV F w L hR hN hp h1 h2 h3 h4=>by
  have:=(h V F w L).go hR hN hp h1 h2 h3 h4;refine ⟨this.1,?_⟩;have e:(λv J=>∃ γ',R F w γ' J/\(∀ j,j≠k->j ∉ AV o->N j F->N j γ')/\FV x ((D k).map (F3 V k v)) γ' J)=(λv J=>∃ γ',R F w γ' J/\(∀ j,j≠k->j ∉ AV o->N j F->N j γ')/\v=x):=by
   funext v J
   rw [hD];simp [FV,F3]
  rw [e];exact this.2) next
instance:Rf LR:=⟨LR.refl⟩
theorem Lp{G:Nat->List Value->Γ->World->Prop} [Rf R](h:∀ V F w L,Hid (R γ0 w0 F w)->Hid (N k F)->FQA ops D G o a0 V F w L (o.looksAt ops)->(∀ v,L (.const v)=v)->(∀ f,L (.func f)=.func (.func f) #[] #[])->(∀ g,L (.global g)=.pointer (some ⟨g,0,none⟩))->AY o V=true/\Bu P (λv J=>∃ γ',R F w γ' J/\(∀ j,j≠k->j ∉ AV o->N j F->N j γ')/\G k ((D k).map (F3 V k v)) γ' J) ((execOp L o).run P w):=by
   intro V F J L hR hN zs hc hf hg;refine ⟨rfl,?_⟩
   repeat ((conv at zs=>whnf);(try (have e:L (.tmp _)=_:=zs.1;try (conv at e=>rhs;whnf)));replace zs:=zs.2)
   clear hR hN zs;go_light;go_simp;exact ⟨F,Rf.r _ _,λ_ _ _ h=>h,rfl⟩):LinStep P ops D R N G a0 γ0 w0 k o :=
 LinStep.yes λV F w L hR hN hp hρ hc hf hg=>h V F w L (Hd hR) (Hd hN) (XD hp hρ _) hc hf hg
theorem Qc{H:World->Prop} [Rf R] [Re R](H':∀ J,H J)(next:Chain P ops D R N a0 γ0 w0 Qf (k+1) (FV x::done) rest)(hk:done.length=k:=by rfl)(hD:D k=[k]:=by rfl)
  (h:∀ V F w L,H w->FindsZ ops D R N a0 γ0 w0 k done o V F w L (AY o V=true/\Bu P (λv J=>∃ γ',R F w γ' J/\(∀ j,j≠k->j ∉ AV o->N j F->N j γ')/\v=x) ((execOp L o).run P w)):=by
   intro V F J L hH hR hN hp hρ zs zg;have HH:=Hd hH;clear hH;refine Qr ?_;refine Calls.mono HH.o ?_;rintro e1 w3 ⟨he,hx⟩
   first
   |exact ⟨_,he,F,Re.e _ _ _ hx,λ_ _ _ h=>h,rfl⟩
   | (subst hx;exact ⟨_,he,F,Rf.r _ _,λ_ _ _ h=>h,rfl⟩)):Chain P ops D R N a0 γ0 w0 Qf k done (o::rest) :=
 Qg x (λV F w L=>h V F w L (H' w)) next hk hD
theorem Qd{w1:World}{H:World->Prop} [Rf R] [Re R] [Rx R γ0](H':∀ J,Hid (Ext w1 J)->H J)(next:Chain P ops D R N a0 γ0 w1.drew Qf (k+1) (FV x::done) rest)(hk:done.length=k:=by rfl)(hD:D k=[k]:=by rfl)
  (h:∀ V F w L,H w->FindsZ ops D R N a0 γ0 w1.drew k done o V F w L (AY o V=true/\Bu P (λv J=>∃ γ',R F w γ' J/\(∀ j,j≠k->j ∉ AV o->N j F->N j γ')/\v=x) ((execOp L o).run P w)):=by
   intro V F J L hH hR hN hp hρ zs zg;have HH:=Hd hH;clear hH;refine Qr ?_;refine Calls.mono HH.o ?_;rintro e1 w3 ⟨he,hx⟩
   first
   |exact ⟨_,he,F,Re.e _ _ _ hx,λ_ _ _ h=>h,rfl⟩
   | (subst hx;exact ⟨_,he,F,Rf.r _ _,λ_ _ _ h=>h,rfl⟩)):Chain P ops D R N a0 γ0 w1.drew Qf k done (o::rest) :=
 Qg x (λV F w L hR=>h V F w L (H' w (Hd (Rx.x _ _ _ hR.o))) hR) next hk hD
def OO(D:Nat->List Nat)(V:Nat->Value)(F:Γ)(w:World)(K:Act->Prop):List (Ft Γ)->List Oper->Nat->Act->Prop
 |_,[],_,a=>K a
 |[],o::l,k,a=>OO D V F w K [] l (k+1) (a.put o.dst (V k))
 |Φ::Φs,o::l,k,a=>Φ ((D k).map V) F w->OO D V F w K Φs l (k+1) (a.put o.dst (V k))
theorem W4{D:Nat->List Nat}{V:Nat->Value}{F:Γ}{w:World}{K:Act->Prop} : ∀ (l:List Oper) (Φs:List (Ft Γ)) (k:Nat) (a:Act),(∀ i,i<l.length->gOf Φs i ((D (k+i)).map V) F w)->OO D V F w K Φs l k a->K (Ah V l k a)
 |[],_,_,_,_,h=>by unfold OO at h;exact h
 |o::l,[],k,a,hG,h=>by
  unfold OO at h;exact W4 l [] (k+1) _ (λi hi=>by simp [gOf]) h
 |o::l,Φ::Φs,k,a,hG,h=>by
  unfold OO at h;have h0:Φ ((D k).map V) F w:=(by simpa [gOf] using hG 0 AC);refine W4 l Φs (k+1) _ (λi hi => ?_) (h h0);have:=hG (i+1) Bp;rw [show k+1+i=k+(i+1) by omega]
  simpa [gOf] using this
theorem FXA{D:Nat->List Nat}{V:Nat->Value}{F:Γ}{w:World}{Q:Exit->Act->World->Prop}{l:List Oper}{Φs:List (Ft Γ)}{a:Act}(hG:∀ i,i<l.length->gOf Φs i ((D i).map V) F w)(h:OO D V F w (λa=>Q .normal a w) Φs l 0 a):Q .normal (Ah V l 0 a) w :=
 W4 (K:=λa=>Q .normal a w) l Φs 0 a (λi hi=>by simpa using hG i hi) h
theorem Ql{D:Nat->List Nat}{V:Nat->Value}{F:Γ}{w:World}{K:Act->Prop}{Φs:List (Ft Γ)}{l:List Oper}{o:Oper}{k:Nat}{a:Act}{x:Value}(h:OO D V F w K Φs l (k+1) (a.put o.dst x))(hD:D k=[k]:=by rfl):OO D V F w K (FV x::Φs) (o::l) k a:=by
 unfold OO;rw [hD];intro h1;have h1:V k=x:=h1;rw [h1];exact h
theorem Qw{D:Nat->List Nat}{V:Nat->Value}{F:Γ}{w:World}{K:Act->Prop}{k:Nat}{a:Act}{Φs:List (Ft Γ)}(h:K a):OO D V F w K Φs [] k a:=by
 unfold OO;exact h
end
theorem Qx{p q:Prop}(k:q)(h:q->p:=by
  intro k;refine FXA hG ?_
  repeat first|refine Ql ?_|(intro _)
  refine Qw ?_;simp only [Act.put,List.setIfInBounds_toArray,List.set_cons_succ,List.set_cons_zero];exact k):p:=h k
theorem Qb{P:Program}{l:List Oper}{Q:Exit->Act->World->Prop}{id:Nat}{a0:Act}{w0:World}(D:Nat->List Nat)(X:Nat->Nat->Prop)(al:List (Nat × List Nat))
  (h:Chain P l.toArray D (LX X) (LM al) a0 gh0 w0.drew (λΦs=>∀ V F w,LX X gh0 w0.drew F w->(∀ i,i<l.length->gOf Φs i ((D i).map V) F w)->Q .normal (Ah V l 0 a0) w) 0 [] l)
  (hm:P.follows .mixedOrders=true:=by kernel_rfl) (hB:R8 l.toArray D a0.tmps.size=true:=by kernel_rfl):(Code.region id l.toArray true).wp P Q a0 w0 :=
 B6 hm D hB (LX X) (LX.refl X) (LX.trans X) (LM al) gh0 (LM.zero al) h

def isN(s:BA)(n:Nat):Prop:=AO s=n/\V7 s/\s.size<=4294967296
def GjA(w:World)(q r:Nat)(e:Ending)(J:World):Prop:=∃ s t,e=.returned (.tuple #[.string s,.string t,.bool true])/\isN s q/\isN t r/\Ext w J
def G7A(M:Nat):Prop:=∀ (a b:BA) (w:World),a.size<=4294967296->b.size<=4294967296->AO a<M->AO b=10->Cl 237 #[.string a,.string b] w (GjA w (AO a / 10) (AO a % 10))
theorem DkA(x y:Nat):(x:Int).tmod (y:Int)=((x % y:Nat):Int):=by rw [Int.tmod_eq_emod_of_nonneg (by omega)];simp
def vQ7(x:Nat)(y:Nat):Nat->Value
 |0=>.I (x:Int)
 |1=>.I (y:Int)
 |2=>.I ((x / y:Nat):Int)
 |4=>.I (x:Int)
 |5=>.I (y:Int)
 |6=>.I ((x % y:Nat):Int)
 |10=>.bool true
 |_=>undef
def gQ7(x:Nat)(y:Nat)(ix:Nat)(vl:List Value)(_γ:Gh)(_w':World):Prop:=match vl with
 |[v]=>if ix=3 then (∃ r,v=.string r/\isN r (x / y)) else if ix=7 then (∃ r,v=.string r/\isN r (x % y)) else if ix=8 then (∃ r,v=.string r/\isN r (x / y)) else if ix=9 then (∃ r,v=.string r/\isN r (x % y)) else v=vQ7 x y ix
 |_=>True
theorem Tf(h:qP:=by
 by_cases h8:ix=8
 ·simp only [if_pos h8] at h|-;exact h
 simp only [if_neg h8] at h|-;by_cases h9:ix=9
 ·simp only [if_pos h9] at h|-;exact h
 simp only [if_neg h9] at h|-;exact h):qP:=h
theorem GGA(x:Nat)(y:Nat):∀ ix vl F w γ' J,LR F w γ' J->gQ7 x y ix vl F w->gQ7 x y ix vl γ' J:=by
 intro ix vl F w γ' J r h
 match vl,h with
 |[v],h =>
  unfold gQ7 at h|-;by_cases h3:ix=3
  ·simp only [if_pos h3] at h|-;exact h
  simp only [if_neg h3] at h|-;by_cases h7:ix=7
  ·simp only [if_pos h7] at h|-;exact h
  simp only [if_neg h7] at h|-;exact Tf
 |[],_=>trivial
 |_::_::_,_=>trivial

theorem Qz(h:qP:=by
 first|refine hof.mono ?_|(rw [Int.natCast_ediv] at hof;refine hof.mono ?_)|(rw [Int.natCast_emod] at hof;refine hof.mono ?_)
 rintro e' w3 ⟨r,he,h1,h2,h3,hx⟩;exact ⟨_,he,F,IFA F hx,λ_ _ _ h=>h,r,rfl,h1,h2,h3⟩):qP:=h
theorem TP(h:qP:=by
 exact ⟨F,LR.refl _ _,λ_ _ _ h=>h,rfl⟩):qP:=h
theorem JA(h:qP:=by
 have HN1:=Hd hn;clear hr hn;have hx:=hR.drew_ext;have HR:=Hd hR;have HN:=Hd hN;clear hR hN hp hρ hx;go_light;go_simp;exact ⟨F,LR.refl _ _,λ_ _ _ h=>h,r,rfl,HN1.o⟩):qP:=h
theorem Vx(a b:BA)(ha:a.size<=4294967296)(hb:b.size<=4294967296)(ha7:AO a<256^7)(hb7:AO b<256^7)(hb0:0<AO b)(w:World):Cl 237 #[.string a,.string b] w (GjA w (AO a / AO b) (AO a % AO b)):=by
 have HA:=Hd (GD ha7)
 go_enter func237,ntmps237
 go_wp2_with fail
 refine (DJ b hb _).mono ?_;rintro e1 w1 ⟨c,⟨rfl,rfl⟩,hv,hc,hsz⟩;have b9:=If hc;have hc0:((c.size:Int)==0)=false:=by
  rw [beq_eq_false_iff_ne];omega
 have b5:c.size<=4294967296:=AA;have HB:=Hd (GD (s:=c) (k:=7) (by rw [hv];exact hb7));have HV:=Hd hv;rw [show (256:Nat)^7=72057594037927936 by decide] at ha7 hb7;rw [<-hv] at hb7 hb0;clear b9 hc hv hsz
 go_wp2_with fail
 refine (DH a ha 7 AA _).mono ?_;rintro e1 w1 ⟨he,rfl⟩;rw [HA.o] at he;subst he
 go_wp2_with fail
 refine (DH c b5 7 AA _).mono ?_;rintro e1 w1 ⟨he,rfl⟩;rw [HB.o] at he;subst he;obtain ⟨x,hx⟩:=eqx (AO a);obtain ⟨y,hy⟩:=eqx (AO c);have b0:=Hd hx;have b3:=Hd hy;rw [<-hx] at ha7;rw [<-hy] at hb7 hb0;rw [<-hx,<-hy];clear hx hy;have b7:x / y<=x:=Nat.div_le_self _ _;have d3:x % y<y:=Nat.mod_lt _ hb0;obtain ⟨a9,Z,Y⟩:=Hd3 (show x / y<=9223372036854775807 by omega) (show x % y<=9223372036854775807 by omega) (show ¬y=0 by omega);have hw:∀ d:Nat,d<=72057594037927936->IntKind.i64.wrap (d:Int)=(d:Int):=λd hd=>IntWalk.i64_in _ AA;have b6:=Hd (show IntKind.i64.wrap ((x:Int) / (y:Int))=((x / y:Nat):Int) by rw [<-Int.natCast_ediv];exact hw _ AA);have b8:=Hd (show IntKind.i64.wrap ((x:Int) % (y:Int))=((x % y:Nat):Int) by rw [<-Int.natCast_emod];exact hw _ AA);clear hw b7 d3
 go_upto_region 7 with fail
 refine BZ AD (λi=>[i]) AD LR LR.refl LR.trans (LN (al0)) (gQ7 x y) (GGA _ _) gh0 (LN.zero _) ⟨?_,?_,?_,?_,?_,?_,?_,?_,?_,?_,?_,trivial⟩ ?_
 ·exact Lp
 ·exact Lp
 ·refine LinStep.yes λV F J L hR hN hp hρ hc hf hg=>⟨rfl,?_⟩;have e35:L (.tmp 35)=.I (x:Int):=(hρ 35).trans (hp 0 AB);have e36:L (.tmp 36)=.I (y:Int):=(hρ 36).trans (hp 1 AB);have hx:=hR.drew_ext;have HR:=Hd hR;have HN:=Hd hN;clear hR hN hp hρ hx;go_light;go_simp;rw [if_neg Y.o]
  first|rw [b6.o]|rw [b8.o]
  exact ⟨F,LR.refl _ _,λ_ _ _ h=>h,rfl⟩
 ·refine LinStep.yes λV F J L hR hN hp hρ hc hf hg=>⟨rfl,?_⟩;have e37:L (.tmp 37)=.I ((x / y:Nat):Int):=(hρ 37).trans (hp 2 AB);have hx:=hR.drew_ext;have HR:=Hd hR;have HN:=Hd hN;clear hR hN hp hρ hx;go_light;go_simp;have hof:=Hj (x / y) (by first|exact a9.o|exact Z.o) J;exact Qz
 ·exact Lp
 ·exact Lp
 ·refine LinStep.yes λV F J L hR hN hp hρ hc hf hg=>⟨rfl,?_⟩;have e39:L (.tmp 39)=.I (x:Int):=(hρ 39).trans (hp 4 AB);have e40:L (.tmp 40)=.I (y:Int):=(hρ 40).trans (hp 5 AB);have hx:=hR.drew_ext;have HR:=Hd hR;have HN:=Hd hN;clear hR hN hp hρ hx;go_light;go_simp;rw [if_neg Y.o,DkA];exact TP
 ·refine LinStep.yes λV F J L hR hN hp hρ hc hf hg=>⟨rfl,?_⟩;have e41:L (.tmp 41)=.I ((x % y:Nat):Int):=(hρ 41).trans (hp 6 AB);have hx:=hR.drew_ext;have HR:=Hd hR;have HN:=Hd hN;clear hR hN hp hρ hx;go_light;go_simp;have hof:=Hj (x % y) (by first|exact a9.o|exact Z.o) J;exact Qz
 ·refine LinStep.yes λV F J L hR hN hp hρ hc hf hg=>⟨rfl,?_⟩;obtain ⟨r,hr,hn⟩:=hp 3 AB;have e38:L (.tmp 38)=_:=(hρ 38).trans hr;exact JA
 ·refine LinStep.yes λV F J L hR hN hp hρ hc hf hg=>⟨rfl,?_⟩;obtain ⟨r,hr,hn⟩:=hp 7 AB;have e42:L (.tmp 42)=_:=(hρ 42).trans hr;exact JA
 ·exact Lp
 ·intro V F w9 hR hG;obtain ⟨r1,hv8,b4⟩:=hG 8 AB;obtain ⟨r2,a8,U⟩:=hG 9 AB;have O:V 10=.bool true:=hG 10 AB;obtain ⟨HX9,H8,H9⟩:=Hd3 hR.drew_ext b4 U;clear hR hG b4 U;simp only [Ah,Act.put,List.setIfInBounds_toArray,List.set_cons_succ,List.set_cons_zero,Nat.zero_add,Nat.reduceAdd,hv8,a8,O];clear hv8 a8 O;go_wp2;refine bodyPost_ret (v:=.tuple #[.string r1,.string r2,.bool true]) (by simp [results,results237,go_sem]) rfl ⟨r1,r2,rfl,?_,?_,HX9.o⟩
  ·rw [<-b0.o,<-HV.o,<-b3.o];exact H8.o
  ·rw [<-b0.o,<-HV.o,<-b3.o];exact H9.o
theorem A3A:G7A (256^7):=by
 intro a b w ha hb h7 O;have:=Vx a b ha hb h7 (by rw [O];decide) AA w;rwa [O] at this
def vF2(g:Nat)(N:BA):Nat->Value
 |0=>.pointer (some ⟨g,1,none⟩)
 |1=>.string N
 |7=>.bool true
 |10=>.bool true
 |_=>undef
def gF2(g:Nat)(N:BA)(ix:Nat)(vl:List Value)(_γ:Gh)(_w':World):Prop:=match vl with
 |[v]=>if ix=2 then (∃ r,v=.string r/\isN r (10)) else if ix=3 then (∃ r t,v=.tuple #[.string r,.string t,.bool true]/\isN r (AO N / 10)/\isN t (AO N % 10)) else if ix=4 then (∃ r t,v=.tuple #[.string r,.string t,.bool true]/\isN r (AO N / 10)/\isN t (AO N % 10)) else if ix=5 then (∃ r,v=.string r/\isN r (AO N / 10)) else if ix=6 then (∃ r,v=.string r/\isN r (AO N % 10)) else if ix=8 then (∃ r,v=.string r/\isN r (AO N / 10)) else if ix=9 then (∃ r,v=.string r/\isN r (AO N % 10)) else v=vF2 g N ix
 |_=>True
theorem F3A(g:Nat)(N:BA):∀ ix vl F w γ' J,LR F w γ' J->gF2 g N ix vl F w->gF2 g N ix vl γ' J:=by
 intro ix vl F w γ' J r h
 match vl,h with
 |[v],h =>
  unfold gF2 at h|-;by_cases h2:ix=2
  ·simp only [if_pos h2] at h|-;exact h
  simp only [if_neg h2] at h|-;by_cases h3:ix=3
  ·simp only [if_pos h3] at h|-;exact h
  simp only [if_neg h3] at h|-;by_cases h4:ix=4
  ·simp only [if_pos h4] at h|-;exact h
  simp only [if_neg h4] at h|-;by_cases h5:ix=5
  ·simp only [if_pos h5] at h|-;exact h
  simp only [if_neg h5] at h|-;by_cases h6:ix=6
  ·simp only [if_pos h6] at h|-;exact h
  simp only [if_neg h6] at h|-;exact Tf
 |[],_=>trivial
 |_::_::_,_=>trivial

def F0:Nat->Nat->Nat × Nat
 |0,n=>(n,0)
 |s+1,n=>if n % 10=0 then F0 s (n / 10) else (n,s+1)
def KF(neg:Bool)(n s:Nat):(Int × Int) × Bool :=
 if (F0 s n).1<=1000000000000000/\(F0 s n).2<=6 then ((if neg then -((F0 s n).1:Int) else ((F0 s n).1:Int),((F0 s n).2:Int)),true) else ((0,0),false)
theorem IW(h:qP:=by
 iterate 2 with_reducible refine Ext.set2 ?_ (by omega) _
 with_reducible exact HEX.o):qP:=h
theorem AuA(h:qP:=by
 go_wp2;rw [HF.o];refine bodyPost_ret (v:=.tuple #[.agg #[.I (AO N:Int),.I (s:Int)],.bool true]) (by simp [results,results205,go_sem,r0,r1]) rfl ⟨rfl,?_⟩;exact IW):qP:=h
theorem Y8(h:qP:=by
 go_wp2;rw [HF.o];refine bodyPost_ret (v:=.tuple #[.agg #[.I (-(AO N:Int)),.I (s:Int)],.bool true]) (by simp [results,results205,go_sem,r0,r1]) rfl ⟨rfl,?_⟩;exact IW):qP:=h
theorem PP(h:qP:=by
 have n6:¬(6:Int)<(s:Int):=(by omega);have HF:=Hd (show KF neg n0 s0=((if neg then -(AO N:Int) else (AO N:Int),(s:Int)),true) by simp [KF,HST.o,h15,hs6]);cases neg
 ·exact AuA
 ·exact Y8):qP:=h
theorem LE(h:qP:=by
 go_wp2;rw [HF.o];refine bodyPost_ret (v:=.tuple #[.agg #[.I 0,.I 0],.bool false]) (by simp [results,results205,go_sem,r0,r1]) rfl ⟨rfl,?_⟩;exact IW):qP:=h
theorem Rv(h:qP:=by
 have n15:(1000000000000000:Int)<(AO N:Int):=(by omega);have HF:=Hd (show KF neg n0 s0=((0,0),false) by simp [KF,HST.o,h15]);exact LE):qP:=h
theorem Za(h:qP:=by
 have h15:¬AO N<=1000000000000000:=(by omega);simp [KF,HST.o,h15]):qP:=h
theorem Vw(h:qP:=by
 rw [show JY N=.returned (.tuple #[.I 0,.bool false]) by simp [JY,h63]] at he;subst he;have HF:=Hd (show KF neg n0 s0=((0,0),false) by
  exact Za)
 exact LE):qP:=h
theorem Dl(h:qP:=by
 have HR:=Hd hR;have HN:=Hd hN;clear hR hN hp hρ hx;go_light;go_simp;exact TP):qP:=h
theorem FY(h:qP:=by
 with_reducible exact Kept.refl _ _):qP:=h
theorem E3A{M:Nat}(hQ:G7A M)(neg:Bool)(N0:BA)(s0:Nat)(n0:Nat)(hn0:AO N0=n0)(hs0:s0<=4294967296)(h32:N0.size<=4294967296)(hM:n0<M)(w:World) :
  Cl 205 #[.agg #[.bool neg,.string N0,.I (s0:Int)]] w (FnA w (KF neg n0 s0)):=by
 go_enter func205,ntmps205
 go_wp2;have b8:=Hd (show Blk ((w.alloc (.cells #[.bool neg,.string N0,.I (s0:Int)] 159)).alloc (.cells #[.I 0,.I 0] 28)) w.heap.size 159 #[.bool neg,.string N0,.I (s0:Int)] from (Blk.new _ _ _).keep (Kept.alloc _ _ _));have HS1:=Hd (show Blk ((w.alloc (.cells #[.bool neg,.string N0,.I (s0:Int)] 159)).alloc (.cells #[.I 0,.I 0] 28)) (w.heap.size+1) 28 #[.I 0,.I 0] by
  have:=Blk.new (w.alloc (.cells #[.bool neg,.string N0,.I (s0:Int)] 159)) 28 #[.I 0,.I 0]
  simpa using this)
 go_loopw [4] (λ_ wr=>∃ (N:BA) (s:Nat),s<=s0/\N.size<=4294967296/\AO N<M/\F0 s (AO N)=F0 s0 n0/\Ext w wr/\Blk wr w.heap.size 159 #[.bool neg,.string N,.I (s:Int)]/\Blk wr (w.heap.size+1) 28 #[.I 0,.I 0]) (λ_ wr=>(intOf ((wr.cell? ⟨w.heap.size,2,none⟩).getD undef)).toNat)
 case atStart=>exact ⟨N0,s0,Al,h32,by rw [hn0];exact hM,by rw [hn0],(exaa w).alloc _,b8.o,HS1.o⟩
 case round =>
  clear b8 HS1;obtain ⟨N,s,hss,a8,b5,hst,hex,hbx,b9⟩:=hrel;obtain ⟨Y,HEX,O,U⟩:=Hd4 hst hex hbx b9;clear hst hex hbx b9;by_cases hz:s=0
  ·subst hz;have HST:=Hd (show F0 s0 n0=(AO N,0) by rw [<-Y.o];rfl);obtain ⟨s,hs⟩:∃ s:Nat,s=0:=⟨_,rfl⟩;rw [<-hs] at HST O;have hsn:¬(0:Int)<(s:Int):=AA;have HSZ:=Hd hs;clear Y hs;obtain ⟨k0,k1,k2⟩:=O.o.qs3;obtain ⟨r0,r1⟩:=U.o.qs2;have rf:=U.o.frozen;have rz:=U.o.lt;have hsz:=HEX.o.size
   go_wp2_with fail
   refine (XS N a8 _).mono ?_;rintro e1 w1 ⟨he,rfl⟩;by_cases h63:AO N<9223372036854775808
   ·rw [show JY N=.returned (.tuple #[.I (AO N:Int),.bool true]) by simp [JY,h63]] at he;subst he;by_cases h15:AO N<=1000000000000000
    ·have n15:¬(1000000000000000:Int)<(AO N:Int):=AA;by_cases hs6:s<=6
     ·exact PP
     ·exfalso;omega
    ·exact Rv
   ·exact Vw
  ·have hsp:(0:Int)<(s:Int):=AA;have k2:=O.o.q2;have HM2:=Hd k2
   go_upto_region 2 with fail
   clear k2;obtain ⟨g,hg⟩:=eqx w.heap.size;rw [<-hg] at O|-;have HG:=Hd hg;clear hg;refine BZ AD (λi=>[i]) AD LR LR.refl LR.trans (LN (al0)) (gF2 g N) (F3A _ _) gh0 (LN.zero _) ⟨?_,?_,?_,?_,?_,?_,?_,?_,?_,?_,?_,trivial⟩ ?_
   ·exact Lp
   ·refine LinStep.yes λV F J L hR hN hp hρ hc hf hg=>⟨rfl,?_⟩;have e13:L (.tmp 13)=.pointer (some ⟨g,1,none⟩):=(hρ 13).trans (hp 0 AB);have hx:=hR.drew_ext;have c1:=(O.o.keep (hx.kept _)).q1;exact Dl
   ·refine LinStep.yes λV F J L hR hN hp hρ hc hf hg=>⟨rfl,?_⟩;have hx:=hR.drew_ext;have HR:=Hd hR;have HN:=Hd hN;clear hR hN hp hρ hx;go_light;go_simp;refine (Hj 10 AA J).mono ?_;rintro e' w3 ⟨r,he,h1,h2,h3,hx⟩;exact ⟨_,he,F,IFA F hx,λ_ _ _ h=>h,r,rfl,h1,h2,h3⟩
   ·refine LinStep.yes λV F J L hR hN hp hρ hc hf hg=>⟨rfl,?_⟩;have e14:L (.tmp 14)=.string N:=(hρ 14).trans (hp 1 AB);obtain ⟨r,hr,hn⟩:=hp 2 AB;have e15:L (.tmp 15)=_:=(hρ 15).trans hr;have HN1:=Hd hn;clear hr hn;have hx:=hR.drew_ext;have HR:=Hd hR;have HN:=Hd hN;clear hR hN hp hρ hx;go_light;go_simp;refine (hQ N r J a8 HN1.o.2.2 b5 HN1.o.1).mono ?_;rintro e' w3 ⟨s1,t1,he,h1,h2,hx⟩;exact ⟨_,he,F,IFA F hx,λ_ _ _ h=>h,s1,t1,rfl,h1,h2⟩
   ·refine LinStep.yes λV F J L hR hN hp hρ hc hf hg=>⟨rfl,?_⟩;obtain ⟨r,t,hr,hn⟩:=hp 3 AB;have e16:L (.tmp 16)=_:=(hρ 16).trans hr;have HN1:=Hd hn;clear hr hn;have hx:=hR.drew_ext;have HR:=Hd hR;have HN:=Hd hN;clear hR hN hp hρ hx;go_light;go_simp;exact ⟨F,LR.refl _ _,λ_ _ _ h=>h,r,t,rfl,HN1.o⟩
   ·refine LinStep.yes λV F J L hR hN hp hρ hc hf hg=>⟨rfl,?_⟩;obtain ⟨r,t,hr,hn⟩:=hp 4 AB;have b6:L (.tmp 12)=_:=(hρ 12).trans hr;have HN1:=Hd hn;clear hr hn;have hx:=hR.drew_ext;have HR:=Hd hR;have HN:=Hd hN;clear hR hN hp hρ hx;go_light;go_simp;exact ⟨F,LR.refl _ _,λ_ _ _ h=>h,r,rfl,HN1.o.1⟩
   ·refine LinStep.yes λV F J L hR hN hp hρ hc hf hg=>⟨rfl,?_⟩;obtain ⟨r,t,hr,hn⟩:=hp 4 AB;have b6:L (.tmp 12)=_:=(hρ 12).trans hr;have HN1:=Hd hn;clear hr hn;have hx:=hR.drew_ext;have HR:=Hd hR;have HN:=Hd hN;clear hR hN hp hρ hx;go_light;go_simp;exact ⟨F,LR.refl _ _,λ_ _ _ h=>h,t,rfl,HN1.o.2⟩
   ·refine LinStep.yes λV F J L hR hN hp hρ hc hf hg=>⟨rfl,?_⟩;obtain ⟨r,t,hr,hn⟩:=hp 4 AB;have b6:L (.tmp 12)=_:=(hρ 12).trans hr;have HN1:=Hd hn;clear hr hn;have hx:=hR.drew_ext;exact Dl
   ·refine LinStep.yes λV F J L hR hN hp hρ hc hf hg=>⟨rfl,?_⟩;obtain ⟨r,hr,hn⟩:=hp 5 AB;have e17:L (.tmp 17)=_:=(hρ 17).trans hr;exact JA
   ·refine LinStep.yes λV F J L hR hN hp hρ hc hf hg=>⟨rfl,?_⟩;obtain ⟨r,hr,hn⟩:=hp 6 AB;have e18:L (.tmp 18)=_:=(hρ 18).trans hr;exact JA
   ·exact Lp
   ·intro V F w9 hR hG;obtain ⟨q,hv8,d3⟩:=hG 8 AB;obtain ⟨r,b7,Z⟩:=hG 9 AB;have b0:V 10=.bool true:=hG 10 AB;obtain ⟨HX9,H8,H9⟩:=Hd3 hR.drew_ext d3 Z;have hr9:=If Z.2.1;rw [Z.1] at hr9;have hr32:=Z.2.2;clear hR hG d3 Z;simp only [Ah,Act.put,List.setIfInBounds_toArray,List.set_cons_succ,List.set_cons_zero,Nat.zero_add,Nat.reduceAdd,hv8,b7,b0];generalize V 0=u0,V 1=u1,V 2=u2,V 3=u3,V 4=u4,V 5=u5,V 6=u6,V 7=u7;clear hv8 b7 b0;rw [HG.o] at O|-;have b4:=HEX;have a9:=O;have b3:=U;clear HEX O U;obtain ⟨HEX,O,U⟩:=Hd3 (b4.o.trans HX9.o) (a9.o.keep (HX9.o.kept _)) (b3.o.keep (HX9.o.kept _));clear b4 a9 b3 HX9;by_cases hr0:AO N % 10=0
    ·have hrz:¬(0:Int)<(r.size:Int):=(by have:=hr9.2 hr0;omega);have k1:=O.o.q1;have k2:=O.o.q2;have kf:=O.o.frozen;have kz:=O.o.lt;have HR0:=Hd hr0;clear hr0 hr9;go_wp2;go_roundw
     case rel =>
      obtain ⟨s',rfl⟩:∃ s',s=s'+1:=⟨s-1,AA⟩;have hsz:=HEX.o.size;refine ⟨q,s',AA,H8.o.2.2,?_,?_,?_,?_,?_⟩
      ·rw [H8.o.1];exact Nat.lt_of_le_of_lt (Nat.div_le_self _ _) b5
      ·rw [H8.o.1,<-Y.o,F0,if_pos HR0.o]
      ·exact IW
      ·have:=(O.o.set 1 (.string q)).set 2 (.I (s':Int))
       simpa using this
      ·refine U.o.keep ?_
       iterate 2 with_reducible refine Kept.set2 ?_ (by show ¬(_=_);omega)
       exact FY
     case measure =>
      have h1:=(O.o.set 1 (.string q)).set 2 (.I ((s:Int)-1));have h2:=h1.q2;have h3:=HM2.o;rw [h2,h3];simp [intOf];omega
    ·have hrz:(0:Int)<(r.size:Int):=by
      rcases Nat.eq_zero_or_pos r.size with h|h
      ·exact absurd (hr9.1 h) hr0
      ·omega
     have HST:=Hd (show F0 s0 n0=(AO N,s) by
      obtain ⟨s',rfl⟩:∃ s',s=s'+1:=⟨s-1,AA⟩;rw [<-Y.o,F0,if_neg hr0])
     clear hr0 hr9 Y;obtain ⟨k0,k1,k2⟩:=O.o.qs3;obtain ⟨r0,r1⟩:=U.o.qs2;have rf:=U.o.frozen;have rz:=U.o.lt;have hsz:=HEX.o.size
     go_wp2_with fail
     refine (XS N a8 _).mono ?_;rintro e1 w1 ⟨he,rfl⟩;by_cases h63:AO N<9223372036854775808
     ·rw [show JY N=.returned (.tuple #[.I (AO N:Int),.bool true]) by simp [JY,h63]] at he;subst he;by_cases h15:AO N<=1000000000000000
      ·have n15:¬(1000000000000000:Int)<(AO N:Int):=AA;by_cases hs6:s<=6
       ·exact PP
       ·have n6:(6:Int)<(s:Int):=AA;have HF:=Hd (show KF neg n0 s0=((0,0),false) by simp [KF,HST.o,hs6]);exact LE
      ·exact Rv
     ·exact Vw

theorem Yb(n:Int)(s:Nat)(h1:-1000000000000000<=n)(h2:n<=1000000000000000)(hs:s<=18)(w:World):Cl 159 #[.I n,.I (s:Int)] w (FnA w (KF (decide (n<0)) n.natAbs s)):=by
 have n1:¬(s:Int)<0:=AA;have Z:¬(18:Int)<(s:Int):=AA
 go_enter func159,ntmps159
 go_wp2_with fail
 refine (Nt n AA AA _).mono ?_;rintro e1 w1 ⟨r,rfl,g1,g2,g3,O⟩;obtain ⟨U,HX1,HB1⟩:=Hd3 g1 O ((Blk.new w 28 #[.I 0,.I 0]).keep (O.kept _));clear g1 g2 O
 go_wp2_with fail
 refine (E3A A3A (decide (n<0)) r s n.natAbs U.o AA g3 (by rw [show (256:Nat)^7=72057594037927936 by decide];omega) _).mono ?_;rintro e1 w2 ⟨rfl,hx2⟩;have HX2:=Hd ((exaa w).trans (HX1.o.trans hx2));have hb2:=HB1.o.keep (hx2.kept _);obtain ⟨r0,r1⟩:=hb2.qs2;have rf:=hb2.frozen;have Y:=hb2.lt;clear hb2 hx2;go_wp2;refine bodyPost_ret (v:=.tuple #[.agg #[.I (KF (decide (n<0)) n.natAbs s).1.1,.I (KF (decide (n<0)) n.natAbs s).1.2],.bool (KF (decide (n<0)) n.natAbs s).2]) (by simp [results,results159,go_sem,r0,r1]) rfl ⟨rfl,?_⟩
 iterate 2 with_reducible refine Ext.set2 ?_ AA _
 with_reducible exact HX2.o

def Av:List Nat->Nat
 |[]=>0
 |d::l=>d+16777216*Av l
def dgs(l:List Nat):Prop:=∀ d∈l,d<16777216
def trd(l:List Nat):Prop:=l.getLast?≠some 0
def Ds(l:List Nat):List Int:=l.map λd:Nat=>(d:Int)
theorem Gs(l:List Nat):(Ds l).length=l.length:=by simp [Ds]
def Dy:List Nat->List Nat
 |[]=>[]
 |d::l=>if Dy l=[]/\d=0 then [] else d::Dy l
theorem Nz:∀ (l:List Nat),Dy (l++[0])=Dy l
 |[]=>by simp [Dy]
 |d::l=>by simp only [List.cons_append,Dy,Nz l]
theorem Ts{d:Nat}(h:d≠0):∀ (l:List Nat),Dy (l++[d])=l++[d]
 |[]=>by simp [Dy,h]
 |e::l=>by
  simp only [List.cons_append,Dy,Ts h l];simp
theorem SA:∀ (l:List Nat),Av (l++[0])=Av l
 |[]=>rfl
 |d::l=>by simp only [List.cons_append,Av,SA l]
theorem YL:∀ (l:List Nat),Av (Dy l)=Av l/\trd (Dy l)/\(dgs l->dgs (Dy l))/\(Dy l).length<=l.length/\Dy l <+: l
 |[]=>⟨rfl,by simp [trd,Dy],λh=>h,Al,List.prefix_refl _⟩
 |d::l=>by
  obtain ⟨h1,h2,h3,h4,h5⟩:=YL l;unfold Dy;split
  ·rename_i h;obtain ⟨e1,rfl⟩:=h;rw [e1] at h1;refine ⟨?_,by simp [trd],λ_=>by simp [dgs],AC,AC⟩;simp only [Av] at h1|-;omega
  ·rename_i h;refine ⟨by simp only [Av,h1],?_,λhd => ?_,by simpa using h4,by simpa using h5⟩
   ·unfold trd at h2|-;cases ht:Dy l with
    |nil =>
     rw [ht] at h
     simpa using h
    |cons e m=>rw [ht] at h2;simpa [List.getLast?_cons_cons] using h2
   ·intro x hx
    rcases List.mem_cons.1 hx with rfl|hx
    ·exact hd x List.mem_cons_self
    ·exact h3 (λy hy=>hd y (List.mem_cons_of_mem _ hy)) x hx
theorem EYA(l:List Nat)(A:OA)(c:Nat)(w:World)(S:NP)(h:Ints w S A (Ds l))(hcap:l.length<=c) :
  Cl 268 #[.slice A l.length c] w (λe J=>e=.returned (.slice A (Dy l).length c)/\w=J):=by
 have H:=Hd h;have Y:l.length<=4294967296:=(by have:=h.2;rwa [Gs] at this);clear h
 go_enter func268,ntmps268
 go_wp2
 go_loop [0] (λv=>∃ k:Nat,k<=l.length/\Dy (l.take k)=Dy l/\v=.slice A k c) (λv=>match v with|.slice _ n _=>n|_=>0)
 case atStart=>exact ⟨l.length,Al,by rw [List.take_length],rfl⟩
 case round =>
  obtain ⟨k,hk,U,rfl⟩:=hrel;have HT:=Hd U;clear U;cases k with
  |zero =>
   go_wp2;go_ret;have:=HT.o;simp only [List.take_zero,Dy] at this;exact ⟨by rw [<-this];rfl,rfl⟩
  |succ j =>
   obtain ⟨b,o,hA,hb,hc⟩:=H.o.at_ (k:=j) (by rw [Gs];omega);subst hA;obtain ⟨d,hd⟩:=eqx (l[j]);have Z:w.cell? ⟨b,o+j,none⟩=some (.I (d:Int)):=(by rw [hc,hd];simp [Ds]);have O:l.take (j+1)=l.take j++[d]:=(by rw [List.take_succ_eq_append_getElem AA,hd]);have HK:=Hd O;clear hc O hd;by_cases h0:d=0
   ·have e0:((d:Int)==0)=true:=(by simp [h0]);have a8:(j:Int)<=(c:Int):=AA;have HZ:=Hd h0;clear h0;go_wp2
    go_round
    case rel=>exact ⟨j,AA,by rw [<-HT.o,HK.o,HZ.o,Nz],AC⟩
    case measure=>simp
   ·have e0:((d:Int)==0)=false:=(by simp [h0]);go_wp2;go_ret;refine ⟨?_,rfl⟩;have:=HT.o;rw [HK.o,Ts h0,<-HK.o] at this;rw [<-this];simp only [List.length_take,Array.getD];simp;omega

theorem Ex(l:List Nat)(d:Nat):Av (l++[d])=Av l+16777216^l.length*d:=by
 induction l with
 |nil=>simp [Av]
 |cons e l ih =>
  simp only [List.cons_append,Av,ih,List.length_cons,Nat.pow_succ];rw [Nat.mul_add,Nat.mul_comm (16777216^l.length) 16777216,Nat.mul_assoc];omega
theorem OW:∀ l:List Nat,dgs l->Av l<16777216^l.length
 |[],_=>by simp [Av]
 |d::l,h=>by
  have h1:=h d List.mem_cons_self;have h2:=OW l λx hx=>h x (List.mem_cons_of_mem _ hx);simp only [Av,List.length_cons,Nat.pow_succ];omega
theorem Jj{l:List Nat}{d:Nat}(h:dgs l)(hd:d<16777216):dgs (l++[d]):=λx hx=>by
 rcases List.mem_append.1 hx with hx|hx
 ·exact h x hx
 ·rw [List.mem_singleton.1 hx];exact hd
theorem Du(l:List Nat)(k:Nat):Av (l.take (k+1))=Av (l.take k)+16777216^k*l.getD k 0:=by
 rcases Nat.lt_or_ge k l.length with h|h
 ·rw [List.take_succ_eq_append_getElem h,Ex,List.length_take,Nat.min_eq_left AA];simp [h]
 ·rw [List.take_of_length_le AA,List.take_of_length_le h];simp [h]
theorem G8{l:List Nat}(h:dgs l)(k:Nat):l.getD k 0<16777216:=by
 rcases Nat.lt_or_ge k l.length with hk|hk
 ·simp [hk];exact h _ (List.getElem_mem hk)
 ·simp [hk]
theorem B4A{l:List Nat}(h:trd l)(hn:l≠[]):16777216^(l.length-1)<=Av l:=by
 rcases List.eq_nil_or_concat l with rfl|⟨m,d,rfl⟩
 ·exact absurd rfl hn
 ·rw [List.concat_eq_append] at h|-;have hd:d≠0:=(by simpa [trd] using h);rw [Ex,List.length_append];have:16777216^m.length*1<=16777216^m.length*d:=Nat.mul_le_mul_left _ AA;simp;omega
theorem GVA{u v:List Nat}(hv:trd v)(hu:dgs u)(h:Av v<=Av u):v.length<=u.length:=by
 rcases Nat.lt_or_ge u.length v.length with hlt|O
 ·have h1:=OW u hu;have h2:=B4A hv (by intro e;rw [e] at hlt;simp at hlt);have h3:16777216^u.length<=16777216^(v.length-1):=Nat.pow_le_pow_right AB AA;omega
 ·exact O
def FmA(w:World)(n:Nat)(e:Ending)(J:World):Prop:=∃ (A:OA) (c:Nat) (l:List Nat),e=.returned (.slice A l.length c)/\Av l=n/\dgs l/\trd l/\l.length<=c/\Ints J (λb=>w.heap.size<=b) A (Ds l)/\Ext w J
theorem J4(l:List Nat)(d:Nat):(Ds (l++[d])).map (Value.int .i64)=(Ds l).map (Value.int .i64)++[.I (d:Int)]:=by simp [Ds]
theorem IMA{w:World}{base c:Nat}{A:OA}{l:List Nat}(h:Own w base 3 1 A l.length c ((Ds l).map (Value.int .i64)))(hl:l.length<=4294967296){T:NP}(hT:∀ b,base<=b->T b):Ints w T A (Ds l) :=
 ⟨(Own.rd h).mono λb _ hb=>hT b (h.blk hb).1,by rw [Gs];exact hl⟩
theorem Dq{w:World}{S:NP}{A:OA}{l:List Nat}(h:Ints w S A (Ds l)){k:Nat}(hk:k<l.length):∃ b o,A=some ⟨b,o,none⟩/\b<w.heap.size/\w.cell? ⟨b,o+k,none⟩=some (.I ((l.getD k 0:Nat):Int)):=by
 obtain ⟨b,o,h1,h2,h3⟩:=h.at_ (k:=k) (by rw [Gs];exact hk);refine ⟨b,o,h1,h2,?_⟩;rw [h3];simp [Ds,hk]

theorem Ints.pre{w:World}{S:NP}{A:OA}{l m:List Nat}(h:Ints w S A (Ds m))(hp:l <+: m):Ints w S A (Ds l):=by
 obtain ⟨h1,h2⟩:=h;have hl:l=m.take l.length:=(List.prefix_iff_eq_take.1 hp);refine ⟨?_,by rw [Gs] at h2|-;exact Nat.le_trans hp.length_le h2⟩;rw [hl];have:=h1.take l.length
 simpa [Ds,List.map_take] using this
structure MinI(u v m:List Nat)(k bw:Nat):Prop where
 len:m.length=k
 eq:Av (u.take k)+bw*16777216^k=Av m+Av (v.take k)
 ds:dgs m
 bit:bw<=1
theorem DY(h:qP:=by simp [h.len]):qP:=h
theorem MinI.step{u v m:List Nat}{k bw:Nat}(h:MinI u v m k bw)(hu:dgs u)(hv:dgs v){d:Int}(hd:d=(u.getD k 0:Int)-bw-v.getD k 0) :
  (0<=d->MinI u v (m++[d.toNat]) (k+1) 0)/\(d<0->MinI u v (m++[(d+16777216).toNat]) (k+1) 1):=by
 have h1:=G8 hu k;have h2:=G8 hv k;have h3:=h.bit;have h4:=h.eq;have hp:(0:Nat)<16777216^k:=Nat.pow_pos AB;constructor
 ·intro h0;refine ⟨DY,?_,Jj h.ds AA,AA⟩;rw [Du,Du,Ex,h.len,Nat.zero_mul,Nat.add_zero];have e:u.getD k 0=d.toNat+bw+v.getD k 0:=AA;rw [e,Nat.mul_add,Nat.mul_add,Nat.mul_comm _ bw];omega
 ·intro h0;refine ⟨DY,?_,Jj h.ds AA,AA⟩;rw [Du,Du,Ex,h.len,Nat.pow_succ];have e:u.getD k 0+16777216=(d+16777216).toNat+bw+v.getD k 0:=AA;have e2:16777216^k*u.getD k 0+16777216^k*16777216=16777216^k*(d+16777216).toNat+bw*16777216^k+16777216^k*v.getD k 0:=by
   rw [<-Nat.mul_add,e,Nat.mul_add,Nat.mul_add,Nat.mul_comm _ bw]
  omega
theorem MinI.fin{u v m:List Nat}{bw:Nat}(h:MinI u v m u.length bw)(hv:v.length<=u.length)(hle:Av v<=Av u):Av m=Av u-Av v:=by
 have h1:=h.eq;have h2:=OW m h.ds;rw [List.take_length,List.take_of_length_le hv,h.len] at *;have h3:=h.bit
 rcases Nat.eq_zero_or_pos bw with h0|h0
 ·subst h0;omega
 ·obtain rfl:bw=1:=AA;omega

theorem AWA(h:qP:=by
 refine ⟨k+1,A4,c4,1,_,by omega,HST.o.2 (by omega),rfl,by go_num,by go_num,(HX.o.alloc _).grown hg4 λb hb=>(HO.o.blk hb).1,?_⟩;rw [J4];have e:(((d+16777216).toNat:Nat):Int)=d+16777216:=(by omega);rw [e,hd]
 simpa using hown4):qP:=h
theorem Oc(h:qP:=by
 go_wp2_with (at_builtin;go_must (refine AL rfl (.tmp 35) (.tmp 37) rfl tiI rfl (HO.o.ext (exaa wr)) rfl (Blk.rd (Blk.new _ _ _)) rfl (by simp [Value.oneCell']) (by omega) (by decide) (by simp;omega) ?_);intro A4 c4 w4 hown4 hg4 hat4)
 go_roundw
 case rel =>
  exact AWA
 case measure=>simp [intOf];omega):qP:=h
theorem BTA(h:qP:=by
 refine ⟨k+1,A4,c4,0,_,by omega,HST.o.1 (by omega),rfl,by go_num,by go_num,(HX.o.alloc _).grown hg4 λb hb=>(HO.o.blk hb).1,?_⟩;rw [J4];have e:((d.toNat:Nat):Int)=d:=(by omega);rw [e,hd]
 simpa using hown4):qP:=h
theorem Tj(h:qP:=by
 go_wp2_with (at_builtin;go_must (refine AL rfl (.tmp 35) (.tmp 37) rfl tiI rfl (HO.o.ext (exaa wr)) rfl (Blk.rd (Blk.new _ _ _)) rfl (by simp [Value.oneCell']) (by omega) (by decide) (by simp;omega) ?_);intro A4 c4 w4 hown4 hg4 hat4)
 go_roundw
 case rel =>
  exact BTA
 case measure=>simp [intOf];omega):qP:=h
theorem ChA(u v:List Nat)(A B:OA)(c e:Nat)(w:World)(S T:NP)(hu:Ints w S A (Ds u))(hv:Ints w T B (Ds v))(hdu:dgs u)(hdv:dgs v)(htv:trd v)(hle:Av v<=Av u) :
  Cl 246 #[.slice A u.length c,.slice B v.length e] w (FmA w (Av u-Av v)):=by
 have HU:=Hd hu;have HV:=Hd hv;have hul:u.length<=4294967296:=(by have:=hu.2;rwa [Gs] at this);have b4:=GVA htv hdu hle;obtain ⟨b0,Z,HLE⟩:=Hd3 hdu hdv hle;clear hu hv hdu hdv htv hle
 go_enter func246,ntmps246
 go_wp2
 go_loopw [5,6,7] (λo b i wr=>∃ (k:Nat) (A':OA) (c' bw:Nat) (m:List Nat),k<=u.length/\MinI u v m k bw/\o=.slice A' k c'/\b=.I (bw:Int)/\i=.I (k:Int)/\Ext w wr/\Own wr w.heap.size 3 1 A' k c' ((Ds m).map (Value.int .i64))) (λ_ _ i _=>u.length-(intOf i).toNat)
 case atStart=>exact ⟨0,none,0,0,[],AN,⟨rfl,rfl,by simp [dgs],AA⟩,rfl,rfl,rfl,Ext.refl _,Own.nil _ _ _ _⟩
 case round =>
  obtain ⟨k,A',c',bw,m,hk,O,rfl,rfl,rfl,hx,ho⟩:=hrel;obtain ⟨HX,HO,HM⟩:=Hd3 hx ho O;have hbw:=O.bit;have hsz:=hx.size;clear hx ho O;by_cases hlt:k<u.length
  ·obtain ⟨b1,o1,hA,hb1,b5⟩:=Dq (HU.o.keep (HX.o.kept _)) hlt;subst hA;obtain ⟨d1,U⟩:=eqx (u.getD k 0);have hl1:d1<16777216:=(by rw [U];exact G8 b0.o k);rw [<-U] at b5;have HD1:=Hd U;obtain ⟨d2,Y⟩:=eqx (v.getD k 0);have hl2:d2<16777216:=(by rw [Y];exact G8 Z.o k);have HD2:=Hd Y;obtain ⟨d,hd⟩:∃ d:Int,d=(d1:Int)-bw-d2:=⟨_,rfl⟩;have hst:=HM.o.step b0.o Z.o (d:=d) (by rw [hd,U,Y]);have HST:=Hd hst;clear U Y hst;by_cases hkv:k<v.length
   ·obtain ⟨b2,o2,hB,hb2,a8⟩:=Dq (HV.o.keep (HX.o.kept _)) hkv;subst hB;have hc3:wr.cell? ⟨b2,o2+k,none⟩=some (.I (d2:Int)):=(by rw [a8,HD2.o]);clear a8;by_cases hneg:(d1:Int)-bw-d2<0
    ·exact Oc
    ·exact Tj
   ·have b3:d2=0:=(by rw [HD2.o,List.getD_eq_getElem?_getD,List.getElem?_eq_none AA];rfl);subst b3;by_cases hneg:(d1:Int)-bw<0
    ·exact Oc
    ·exact Tj
  ·have hk2:k=u.length:=AA;have a9:=HM.o.len;have hf:Av m=Av u-Av v:=by
    have O:=HM.o;rw [hk2] at O;exact O.fin b4 HLE.o
   obtain ⟨h1,h2,h3,h4,h5⟩:=YL m;have H5:=Hd h5;have hcp:=HO.o.cap;obtain ⟨H3,HR,HF,H2⟩:=Hd4 (h3 HM.o.ds) (IMA (l:=m) (by rw [a9];exact HO.o) AA (T:=λb=>w.heap.size<=b) λ_ h=>h) (h1.trans hf) h2;have hkn:¬m.length<u.length:=AA;obtain rfl:=a9;clear hf h1 h2 h3 h5 hk2
   go_wp2_with fail
   refine (EYA m A' c' _ _ HR.o hcp).mono ?_;rintro e1 w1 ⟨rfl,rfl⟩;go_wp2;go_ret;exact ⟨A',c',Dy m,rfl,HF.o,H3.o,H2.o,AA,HR.o.pre H5.o,HX.o⟩

structure TimI(u:List Nat)(d:Nat)(m:List Nat)(k cy:Nat):Prop where
 len:m.length=k
 eq:Av (u.take k)*d=Av m+cy*16777216^k
 ds:dgs m
 lt:cy<16777216
theorem RX(h:qP:=by
 rw [Nat.mul_comm (s / 16777216),Nat.mul_assoc,<-Nat.mul_add,<-e]):qP:=h
theorem TimI.step{u m:List Nat}{d k cy:Nat}(h:TimI u d m k cy)(hu:dgs u)(hd:d<16777216){s:Nat}(hs:s=u.getD k 0*d+cy):s<281474976710656/\TimI u d (m++[s % 16777216]) (k+1) (s / 16777216):=by
 have h1:=G8 hu k;have h2:u.getD k 0*d<=16777215*16777215:=Nat.mul_le_mul AA AA;have h3:=h.lt;refine ⟨AA,DY,?_,Jj h.ds (Nat.mod_lt _ AB),AA⟩;rw [Du,Nat.add_mul,h.eq,Ex,h.len,Nat.pow_succ];have e:s=16777216*(s / 16777216)+s % 16777216:=(Nat.div_add_mod _ _).symm;have e2:16777216^k*s=16777216^k*(u.getD k 0*d)+cy*16777216^k:=(by rw [hs,Nat.mul_add,Nat.mul_comm _ cy]);have e3:16777216^k*s=s / 16777216*(16777216^k*16777216)+16777216^k*(s % 16777216):=by
  exact RX
 rw [Nat.mul_assoc];omega

theorem NU{u:List Nat}{k:Nat}(hk:k<u.length):u.drop k=u.getD k 0::u.drop (k+1):=by
 rw [List.drop_eq_getElem_cons hk];simp [hk]

structure OfI(l:List UInt8)(m:List Nat):Prop where
 eq:Av m+16777216^m.length*nvl (l.take (l.length-3*m.length))=nvl l
 ds:dgs m
theorem FgA(k:Nat):(16777216:Nat)^k=256^(3*k):=by rw [show (16777216:Nat)=256^3 by decide,<-Nat.pow_mul]
theorem OfI.step{l:List UInt8}{m:List Nat}(h:OfI l m){e:Nat}(he:e+3*m.length=l.length):OfI l (m++[nvl ((l.take e).drop (e-3))]):=by
 have h1:nvl ((l.take e).drop (e-3))<16777216:=by
  have:=Io ((l.take e).drop (e-3));have h2:(256:Nat)^((l.take e).drop (e-3)).length<=256^3:=Nat.pow_le_pow_right AB AI;omega
 refine ⟨?_,Jj h.ds h1⟩;have h2:=h.eq;rw [show l.length-3*m.length=e by omega] at h2;rw [Ex,List.length_append,List.length_singleton,show l.length-3*(m.length+1)=e-3 by omega,<-h2];have h3:=Xb ((l.take e).take (e-3)) ((l.take e).drop (e-3));rw [List.take_append_drop,List.take_take,Nat.min_eq_left AA] at h3;rw [h3,Nat.mul_add,Nat.pow_succ];have h4:((l.take e).drop (e-3)).length=e-(e-3):=AI;rw [h4]
 rcases Nat.lt_or_ge e 3 with h5|h5
 ·rw [show e-3=0 by omega];simp [nvl]
 ·rw [show e-(e-3)=3 by omega,show (256:Nat)^3=16777216 by decide,Nat.mul_comm (nvl _) 16777216,Nat.mul_assoc];omega
theorem OfI.fin{s:BA}{m:List Nat}(h:OfI s.data.toList m)(hc:V7 s)(h1:s.size<=3*m.length)(h2:3*m.length<=s.size+2):Av m=AO s/\trd m:=by
 have hl:s.data.toList.length=s.size:=AC;have h3:=h.eq;rw [show s.data.toList.length-3*m.length=0 by omega,List.take_zero] at h3;have hv:Av m=AO s:=(by rw [show AO s=nvl s.data.toList from rfl,<-h3];simp [nvl]);refine ⟨hv,?_⟩;intro ht
 rcases List.eq_nil_or_concat m with rfl|⟨O,d,rfl⟩
 ·simp at ht
 ·rw [List.concat_eq_append] at *;have hd:d=0:=(by simpa using ht);subst hd;rw [SA] at hv;have h4:=OW O λx hx=>h.ds x (by simp [hx]);rw [hv,FgA] at h4;have h5:=(Ep hc (k:=3*O.length)).2 h4;simp at h2;omega
theorem U1(s:BA){st k:Nat}(h1:st<=k)(h2:k<s.size):(s.data.toList.take (k+1)).drop st=(s.data.toList.take k).drop st++[s[k]]:=by
 rw [List.take_succ_eq_append_getElem Dj,Eo s k h2,List.drop_append_of_le_length AI]

theorem Na(s:BA)(hs:s.size<=4294967296)(w:World):Cl 243 #[.string s] w (FmA w (AO s)):=by
 go_enter func243,ntmps243
 go_wp2_with fail
 refine (DJ s hs _).mono ?_;rintro e1 w1 ⟨r,⟨rfl,rfl⟩,hv,hc,hsz⟩;have HV:=Hd hv;have HC:=Hd hc;have hr:r.size<=4294967296:=AA;have U:r.data.toList.length=r.size:=AC;have HRL:=Hd U;clear hv hc hsz U;go_wp2
 go_loopw [3,4] (λo e wr=>∃ (A':OA) (c':Nat) (m:List Nat),OfI r.data.toList m/\3*m.length<=r.size+2/\o=.slice A' m.length c'/\e=.I ((r.size:Int)-3*m.length)/\Ext w wr/\Own wr w.heap.size 3 1 A' m.length c' ((Ds m).map (Value.int .i64))) (λ_ e _=>(intOf e+2).toNat)
 case atStart=>exact ⟨none,0,[],⟨by simp only [Av,List.length_nil,Nat.pow_zero,Nat.mul_zero,Nat.sub_zero,List.take_length];omega,by simp [dgs]⟩,AC,rfl,AC,Ext.refl _,Own.nil _ _ _ _⟩
 case round =>
  obtain ⟨A',c',m,hm,b6,rfl,rfl,hx,ho⟩:=hrel;obtain ⟨HX,HO,HM⟩:=Hd3 hx ho hm;have hsz:=hx.size;clear hx ho hm;by_cases hlt:3*m.length<r.size
  ·obtain ⟨e,he⟩:∃ e:Nat,e+3*m.length=r.size:=⟨r.size-3*m.length,AA⟩;have he2:(r.size:Int)-3*m.length=(e:Int):=AA;rw [he2];obtain ⟨st,hst⟩:=eqx (e-3);have Z:max ((e:Int)-3) 0=(st:Int):=AA;have b3:=Hd Z;have HST:=Hd hst;have a9:st<=e:=AA;have b8:e<=st+3:=AA;have Y:=Hd he;have d3:e<=r.size:=AA;have b9:0<e:=AA;have hle:=HM.o.step (e:=e) (by rw [HRL.o];exact he);have HLE:=Hd hle;have a8:∀ k,st<=k->k<=e->nvl ((r.data.toList.take k).drop st)<16777216:=λk h1 h2=>by
    have h3:=Io ((r.data.toList.take k).drop st);have h4:(256:Nat)^((r.data.toList.take k).drop st).length<=256^3:=Nat.pow_le_pow_right AB AI;omega
   have HGO:=Hd a8;clear he2 hst Z hle a8;go_wp2;rw [b3.o]
   go_loop [5,6] (λd k'=>∃ k:Nat,st<=k/\k<=e/\d=.I (nvl ((r.data.toList.take k).drop st):Int)/\k'=.I (k:Int)) (λ_ k'=>e-(intOf k').toNat)
   case atStart=>exact ⟨st,Al,a9,by rw [List.drop_of_length_le AI];rfl,rfl⟩
   case round =>
    obtain ⟨k,hk1,hk2,rfl,rfl⟩:=hrel;have b5:=HGO.o k hk1 hk2;obtain ⟨d,hd⟩:=eqx (nvl ((r.data.toList.take k).drop st));rw [<-hd] at b5|-;have HD:=Hd hd;clear hd;by_cases hke:k<e
    ·have b0:k<r.size:=AA;have hb2:=HGO.o (k+1) AA AA;have O:=U1 r hk1 b0;rw [O,Mk,<-HD.o] at hb2;have b4:=Hd O;clear O;go_wp2
     go_round
     case rel=>exact ⟨k+1,AA,AA,by rw [b4.o,Mk,<-HD.o];go_num,AE⟩
     case measure=>simp [intOf];omega
    ·obtain rfl:k=e:=AA;rw [HST.o] at HD
     go_wp2_with (at_builtin;go_must (refine AL rfl (.tmp 30) (.tmp 32) rfl tiI rfl (HO.o.ext (exaa wr)) rfl (Blk.rd (Blk.new _ _ _)) rfl AP AA AB AI ?_);intro A4 c4 w4 hown4 hg4 hat4)
     go_roundw
     case rel =>
      refine ⟨A4,c4,m++[d],by rw [HD.o];exact HLE.o,by have:=Y.o;simp;omega,AC,by have:=Y.o;simp;omega,(HX.o.alloc _).grown hg4 λb hb=>(HO.o.blk hb).1,?_⟩;rw [J4]
      simpa using hown4
     case measure=>simp [intOf];omega
  ·obtain ⟨hv,ht⟩:=HM.o.fin HC.o AA b6;have hcp:=HO.o.cap;obtain ⟨HF,HT,HD,HR⟩:=Hd4 (hv.trans HV.o) ht HM.o.ds (IMA HO.o AA (T:=λb=>w.heap.size<=b) λ_ h=>h);have b7:(r.size:Int)-3*m.length<=0:=AA;clear hv ht;go_wp2;go_ret;exact ⟨A',c',m,rfl,HF.o,HD.o,HT.o,hcp,HR.o,HX.o⟩

theorem Kept.cell{S:NP}{w J:World}(h:Kept S w J){p:Addr}{u:Value}(hs:S p.block)(hc:w.cell? p=some u):J.cell? p=some u:=by
 have hp:p.block<w.heap.size:=by
  exact Zbea95ee93
 exact (World.cell?_of_block (w:=w) (h.2 p.block hs hp)).trans hc
def by3(d:Nat):List Value:=[.int .u8 (IntKind.u8.wrap ((d:Int) / 65536)),.int .u8 (IntKind.u8.wrap ((d:Int) / 256)),.int .u8 (IntKind.u8.wrap (d:Int))]
theorem XL(n:Int):IntKind.u8.wrap n=n % 256:=by simp [IntKind.wrap,IntKind.signed,IntKind.bits]
def Rc:List Nat->List Int
 |[]=>[]
 |d::l=>Rc l++[IntKind.u8.wrap ((d:Int) / 65536),IntKind.u8.wrap ((d:Int) / 256),IntKind.u8.wrap (d:Int)]
theorem Yx:∀ l:List Nat,(Rc l).length=3*l.length
 |[]=>rfl
 |d::l=>by simp [Rc,Yx l];omega
theorem Wg:∀ l:List Nat,dgs l->AO (strOfNums (Rc l))=Av l
 |[],_=>by simp [AO,strOfNums,Rc,nvl,Av]
 |d::l,h=>by
  have ih:=Wg l λx hx=>h x (List.mem_cons_of_mem _ hx);have hd:=h d List.mem_cons_self;unfold AO at ih|-;rw [strOfNums_data] at ih|-;simp only [Rc,List.map_append,List.map_cons,List.map_nil];rw [Xb,ih];have h1:∀ n:Nat,n<256->(UInt8.ofNat (n:Int).toNat).toNat=n:=λn hn=>by rw [Int.toNat_natCast,UInt8.toNat_ofNat'];omega
  have e1:((d:Int) / 65536 % 256)=((d / 65536 % 256:Nat):Int):=AC;have e2:((d:Int) / 256 % 256)=((d / 256 % 256:Nat):Int):=AC;have e3:((d:Int) % 256)=((d % 256:Nat):Int):=AC;rw [XL,XL,XL,e1,e2,e3];simp only [nvl,List.foldl_cons,List.foldl_nil,List.length_cons,List.length_nil,Av];rw [h1 _ AA,h1 _ AA,h1 _ AA];omega
theorem Mb(h:qP:=by
 have c1:=(hR.o.kept0 (S:=λb=>b<w.heap.size) (λb hb m hm=>by have:=HB.o m b hm;omega)).cell (p:=⟨b1,o1+j,none⟩) hbw HC1.o;exact Qk):qP:=h
theorem TB(h:qP:=by
 rintro v F w1 γ' w2 r ⟨A4,c4,h1,h2,h3,h4⟩;exact ⟨A4,c4,h1,h2.keep (r.keptS λb _ e=>⟨h4 b e,λm hm=>by rw [hm.1,h3,r.done _ h3]⟩),r.done _ h3,λb hb=>r.free (h2.blk hb).2 (h4 b hb)⟩):qP:=h
theorem AG(h:qP:=by rfl):qP:=h
theorem CF(h:qP:=by rw [hm.1];exact hk0):qP:=h
theorem IP(h:qP:=by have:=HN.o;omega):qP:=h
theorem MO(l:List Nat)(A:OA)(c:Nat)(w:World)(S:NP)(hl:Ints w S A (Ds l))(hd:dgs l)(hlen:l.length<=1000000) :
  Cl 244 #[.slice A l.length c] w (Ng w (Av l)):=by
 have HL:=Hd (hl.mono (T:=λb=>b<w.heap.size) λb hb _=>hb);have HD:=Hd hd;clear hl hd
 go_enter func244,ntmps244
 go_wp2
 go_loopw [3,4] (λo i wr=>∃ (j:Nat) (A':OA) (c' n:Nat),j<=l.length/\n=3*(l.length-j)/\o=.slice A' n c'/\i=.I ((j:Int)-1)/\Ext w wr/\Own wr w.heap.size 5 1 A' n c' ((Rc (l.drop j)).map (Value.int .u8))) (λ_ i _=>(intOf i+1).toNat)
 case atStart=>exact ⟨l.length,none,0,0,Al,AA,rfl,rfl,Ext.refl _,by rw [List.drop_length];exact Own.nil _ _ _ _⟩
 case round =>
  obtain ⟨j,A',c',n,hj,hn,rfl,rfl,hx,ho⟩:=hrel;have HX:=Hd hx;have HO:=Hd ho;have hsz:=hx.size;have HN:=Hd hn;have d8:n<=3000000:=AA;clear hx ho hn;cases j with
  |zero =>
   obtain ⟨L_,Z⟩:=eqx (Rc l);have O:L_.length=n:=(by rw [Z,Yx,HN.o];omega);have ho:=HO.o;rw [List.drop_zero,<-Z] at ho;have HV:=Hd (show AO (strOfNums L_)=Av l by rw [Z];exact Wg l HD.o)
   rcases ho.2 with ⟨hv,h0⟩|⟨g,cap,cur,hv,hb,hh,b6,b5,hcs,ht⟩
   ·obtain ⟨rfl,rfl⟩:A'=none/\c'=0:=GU;subst h0;have a9:L_=[]:=List.eq_nil_of_length_eq_zero O;have b8:=run_convert_bytes_nil (P:=prog) wr 68 5 underlying68 underlying5 0 0 157 underlying157;have b9:=Hd (show AO ByteArray.empty=Av l by rw [<-HV.o,a9];rfl);clear ho hv Z O a9
    go_wp2_with fail
    refine (DJ ByteArray.empty AC _).mono ?_;rintro e1 w1 ⟨r,⟨rfl,rfl⟩,hv,hc,hsz⟩;obtain ⟨HR,HC,HS⟩:=Hd3 (hv.trans b9.o) hc (show r.size<=4294967296 by have:ByteArray.empty.size=0:=rfl;omega);clear hv hc hsz;go_wp2;go_ret;exact ⟨r,rfl,HR.o,HC.o,HS.o,HX.o⟩
   obtain ⟨rfl,rfl⟩:A'=some ⟨g,0,none⟩/\c'=cap:=GU;have b8:=run_convert_bytes_arg (P:=prog) wr 68 5 underlying68 underlying5 g 0 n c' L_ O (λi hi=>by
    obtain ⟨b,o,hA,-,hc⟩:=(Own.rd ho).at_ (k:=i) (u:=.int .u8 (L_.getD i 0)) (by
     rw [List.getElem?_map,List.getElem?_eq_getElem (by rw [O];exact hi)];simp [List.getD,List.getElem?_eq_getElem (show i<L_.length by rw [O];exact hi)])
    exact Ly) 157 underlying157
   clear ho hv hb hh b6 b5 hcs ht Z
   go_wp2_with fail
   refine (DJ (strOfNums L_) (by rw [strOfNums_size,O];omega) _).mono ?_;rintro e1 w1 ⟨r,⟨rfl,rfl⟩,hv,hc,hsz⟩;rw [strOfNums_size,O] at hsz;have HR:=Hd (hv.trans HV.o);have HC:=Hd hc;clear hv hc O;go_wp2;go_ret;exact ⟨r,rfl,HR.o,HC.o,AA,HX.o⟩
  |succ j =>
   obtain ⟨b1,o1,hA,hb1,Y⟩:=Dq (HL.o.keep (HX.o.kept _)) (k:=j) AA;subst hA;have hbw:b1<w.heap.size:=by
    obtain ⟨b,o,h1,h2,-⟩:=(Dq HL.o (k:=j) AA);injection h1 with h1;injection h1 with h1;omega
   obtain ⟨d,U⟩:=eqx (l.getD j 0);have d4:d<16777216:=(by rw [U];exact G8 HD.o j);rw [<-U] at Y;have HC1:=Hd Y;have d3:=Hd U;have a8:((j+1:Nat):Int)-1=(j:Int):=AA;rw [a8];have i0:(0:Int)<=(j:Int):=AA;have i1:(j:Int)<(l.length:Int):=AA;have HB:=Hd (show ∀ m b,(m=1019/\ob A'=some b)->w.heap.size<=b from λm b h=>(HO.o.blk h.2).1);clear a8 Y U
   go_upto_region 5 with fail
   refine Qb (λi=>[i]) (λm b=>m=1019/\ob A'=some b) [(19,[1019])] ?_
   iterate 4 refine Qp ?_
   refine Qm (λV F J L hR hN hp hρ zs zg=>by
    exact Mb) ?_
   iterate 5 refine Qp ?_
   refine Qm (λV F J L hR hN hp hρ zs zg=>by
    exact Mb) ?_
   iterate 5 refine Qp ?_
   refine Qm (λV F J L hR hN hp hρ zs zg=>by
    exact Mb) ?_
   refine Qp ?_;refine Qs (FP λv F J=>∃ g:Nat,v=.slice (some ⟨g,0,none⟩) 3 3/\Blk J g 5 (by3 d).toArray/\Ec F g/\wr.heap.size<=g) (H1A ?_) ?_ ?_
   ·rintro v F w1 γ' w2 r ⟨g,h1,h2,h3,h4⟩;exact ⟨g,h1,h2.keep (r.keptS λb _ e=>⟨e ▸ h3,λm hm=>by have:=HO.o.blk hm.2;omega⟩),r.free h2.lt h3,h4⟩
   ·intro V F J L hR hN hp hρ zs zg;have HR:=hR;refine Qr ?_;exact ⟨F,IDA _ F (exaa _),λ_ _ _ h=>h,_,rfl,Blk.new _ _ _,λ⟨k',hk'⟩=>by have:=HR.o.inb0 k' _ hk';omega,HR.o.size⟩
   refine Chain.step (FP λv F J=>∃ (A4:OA) (c4:Nat),v=.slice A4 (n+3) c4/\Own J w.heap.size 5 1 A4 (n+3) c4 ((Rc (l.drop (j+1))).map (Value.int .u8)++by3 d)/\F 1019=some none/\∀ b,ob A4=some b->Ec F b) AG (H1A ?_) ?_ ?_
   ·exact TB
   ·intro V F J L hR hN hp hρ hc hf hg;refine ⟨rfl,?_⟩;have b7:L (.tmp 12)=_:=(hρ 12).trans (hp 0 AB);obtain ⟨g,hv,hb,hf,hg⟩:=hp 18 AB;have e30:=(hρ 30).trans hv;have hk0:=hR.key0 hN (k:=1019) AB AB;have ho:=HO.o.keep ((Kept.drew _ wr).trans (hR.keptS (S:=λb=>ob A'=some b) λb _ hb=>⟨Nu b,λm hm=>CF⟩));refine Cw (.tmp 12) (.tmp 30) rfl GUA b7 ho e30 (Blk.rd hb) rfl (by simp [by3,Value.oneCell']) AA AB (by have:=hR.size;have e:wr.drew.heap.size=wr.heap.size:=rfl;omega) ?_;intro A4 c4 w4 hown4 hg4 hat4;refine ⟨F.put 1019 none,ILA hk0 hg4.os hg4.tape hg4.output hg4.size (λb hb hm=>hg4.block b hb λe=>hm ⟨rfl,e.symm⟩),LM.done AB (.inr AB),A4,c4,rfl,hown4,rfl,λb hb => ?_⟩;rintro ⟨k',hk'⟩;have hk2:F k'=some (some b):=(by unfold Gh.put at hk';split at hk';(cases hk');exact hk');have hl:=hR.inb0 k' b hk2
    rcases hat4 with e|e
    ·have:=hR.old k' b hk2 (by have:=(HO.o.blk (e ▸ hb)).2;exact this);cases this
    ·rw [hb] at e;injection e with e;omega
   refine Qs (FP λv F J=>∃ (A4:OA) (c4:Nat),v=.slice A4 (n+3) c4/\Own J w.heap.size 5 1 A4 (n+3) c4 ((Rc (l.drop (j+1))).map (Value.int .u8)++by3 d)/\F 1019=some none/\∀ b,ob A4=some b->Ec F b) (H1A ?_) ?_ ?_
   ·exact TB
   ·intro V F J L hR hN hp hρ zs zg;have hg:=hp.o 19 AB;have e31:=hρ.o 31;(conv at e31=>rhs;whnf);have HG:=Hd hg;clear hg;refine Qr ?_;exact ⟨F,LX.refl _ _ _,λ_ _ _ h=>h,HG.o⟩
   intro V F w9 hR hG;obtain ⟨d5,b3,-⟩:=hG 18 AB;obtain ⟨d7,d6,b4,-⟩:=hG 19 AB;obtain ⟨A4,c4,b0,hown4,-⟩:=hG 20 AB;refine Qx ?_;simp only [b3,b4,b0];clear b3 b4 b0;have HX9:=Hd (hR.extB HX.o HB.o);clear hR hG;go_wp2;go_roundw
   case rel =>
    refine ⟨j,A4,c4,n+3,AA,IP,rfl,AE,HX9.o,?_⟩;rw [NU (u:=l) (k:=j) AA,<-d3.o]
    simpa [Rc,by3] using hown4
   case measure=>simp [intOf]
