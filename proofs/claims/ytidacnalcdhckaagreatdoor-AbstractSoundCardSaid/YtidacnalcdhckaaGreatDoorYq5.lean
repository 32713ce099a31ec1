/- Lemmas. No conditions. -/
import Derived.Test.YtidacnalcdhckaaGreatDoorYq4
import Derived.Deep.Light
import Derived.Sort.Walk0
set_option maxRecDepth 100000
set_option maxHeartbeats 4000000
namespace Go.Proofs.YtidacnalcdhckaaGreatDoor
open Go Go.RowKit Tryz
variable {qP:Prop}

class Rf{Γ:Type}(R:Γ→World→Γ→World→Prop):Prop where
 r:∀ γ w,R γ w γ w
class Re{Γ:Type}(R:Γ→World→Γ→World→Prop):Prop where
 e:∀ γ w w',Ext w w'→R γ w γ w'
instance (X:Nat→Nat→Prop):Rf (LX X):=⟨LX.refl X⟩
instance (X:Nat→Nat→Prop):Re (LX X):=⟨fun γ _ _ h=>E6A X γ h⟩
class Rx{Γ:Type}(R:Γ→World→Γ→World→Prop)(γ0:Γ):Prop where
 x:∀ γ w w',R γ0 w.drew γ w'→Ext w w'
instance:Rx (LX (fun _ _=>False)) gh0:=⟨fun _ _ _ h=>h.ext0 fun _ _ h=>h.elim⟩
def TN{Γ:Type}(ops:Array Oper)(D:Nat→List Nat)(G:Nat→List Value→Γ→World→Prop)(o:Oper)(a0:Act)(vals:Nat→Value)(γ:Γ)(w:World)(ρ:Operand→Value):List Nat→Prop
 |[]=>True
 |t::l=>(match (AJ o).find? (fun j=>(ops[j]?).bind (·.dst)==some t) with
   |some j=>match D j with
    |[i]=>match decide (i=j) with
     |true=>G j [ρ (.tmp t)] γ w
     |false=>True
    |_=>True
   |none=>ρ (.tmp t)=a0.tmps.getD t undef)∧TN ops D G o a0 vals γ w ρ l
def O8{Γ:Type}(D:Nat→List Nat)(done:List (Ft Γ))(o:Oper)(vals:Nat→Value)(γ:Γ)(w:World):Prop :=
 match o.guard with
 |none=>True
 |some (g,_)=>match (AJ o).contains g with|true=>gOf done.reverse g ((D g).map vals) γ w|false=>True
section
variable {Γ:Type}{P:Program}{ops:Array Oper}{D:Nat→List Nat}{R:Γ→World→Γ→World→Prop}{N:Nat→Γ→Prop}{a0:Act}{γ0:Γ}{w0:World}{Qf:List (Ft Γ)→Prop}{done:List (Ft Γ)}{o:Oper}{rest:List Oper}{k:Nat}{x:Value}
theorem MN{G:Nat→List Value→Γ→World→Prop}{vals:Nat→Value}{γ:Γ}{w:World}{ρ:Operand→Value}(hp:∀ j,j∈AJ o→G j ((D j).map vals) γ w)(hρ:∀ t,ρ (.tmp t)=De ops o a0 vals t):∀ l,TN ops D G o a0 vals γ w ρ l
 |[]=>trivial
 |t::l=>by
  refine ⟨?_,MN hp hρ l⟩;have ht:=hρ t;unfold De at ht;cases h:(AJ o).find? (fun j=>(ops[j]?).bind (·.dst)==some t) with
  |none=>rw [h] at ht;exact ht
  |some j =>
   rw [h] at ht;show match D j with|[i]=>(match decide (i=j) with|true=>G j [ρ (.tmp t)] γ w|false=>True)|_=>True
   have hj:=hp j (List.mem_of_find?_eq_some h);split
   ·rename_i i hd;rw [hd] at hj;split
    ·rename_i he;obtain rfl:=of_decide_eq_true he;rw [ht];exact hj
    ·trivial
   ·trivial
theorem NX{vals:Nat→Value}{γ:Γ}{w:World}(hp:∀ j,j∈AJ o→gOf done.reverse j ((D j).map vals) γ w):O8 D done o vals γ w:=by
 unfold O8;split
 ·trivial
 ·split
  ·rename_i h;exact hp _ Y27
  ·trivial
def FindsZ(ops:Array Oper)(D:Nat→List Nat)(R:Γ→World→Γ→World→Prop)(N:Nat→Γ→Prop)(a0:Act)(γ0:Γ)(w0:World)(k:Nat)(done:List (Ft Γ))(o:Oper)(vals:Nat→Value)(γ:Γ)(w:World)(ρ:Operand→Value)(C:Prop):Prop :=
 Hid (R γ0 w0 γ w)→Hid (N k γ)→Hid (∀ j,j∈AJ o→gOf done.reverse j ((D j).map vals) γ w)→Hid (∀ t,ρ (.tmp t)=De ops o a0 vals t)→TN ops D (gOf done.reverse) o a0 vals γ w ρ (o.looksAt ops)→O8 D done o vals γ w→(∀ v,ρ (.const v)=v)→(∀ f,ρ (.func f)=.func (.func f) #[] #[])→(∀ g,ρ (.global g)=.pointer (some ⟨g,0,none⟩))→C
theorem FindsZ.go{vals:Nat→Value}{γ:Γ}{w:World}{ρ:Operand→Value}{C:Prop}(h:FindsZ ops D R N a0 γ0 w0 k done o vals γ w ρ C):M9 ops D R N a0 γ0 w0 k done o vals γ w ρ C :=
 fun hR hN hp hρ h1 h2 h3=>h (Hd hR) (Hd hN) (Hd hp) (Hd hρ) (MN hp hρ _) (NX hp) h1 h2 h3
theorem Y40(h:qP:=by first|rfl|(show (IZ _==some _)=true;rw [zg];rfl)):qP:=h
theorem Qk{p:Prop}(h:p:=by
  intro _ _ _
  (conv at zg=>whnf)
  refine ⟨Y40,?_⟩
  repeat ((conv at zs=>whnf);(try have e:ρ (.tmp _)=_:=zs.1);replace zs:=zs.2)
  clear hR hN hp hρ zs zg;go_light;go_simp;exact ⟨rfl,rfl⟩):p:=h
theorem Y41(h:qP:=by rfl):qP:=h
theorem Qm [hr:Rf R](h:∀ vals γ w ρ,FindsZ ops D R N a0 γ0 w0 k done o vals γ w ρ (Ad o vals=true∧BN P (fun v w'=>v=x∧w'=w) ((execOp ρ o).run P w)))
  (next:Chain P ops D R N a0 γ0 w0 Qf (k+1) (FV x::done) rest) (hk:done.length=k:=Y41) (hD:D k=[k]:=Y41):Chain P ops D R N a0 γ0 w0 Qf k done (o::rest) :=
 E2A hr.r hk (fun vals γ w ρ=>(h vals γ w ρ).go) hD next
theorem DxA(ρ:Operand→Value){x:Operand}{a:Addr}{v:Value}{w w':World}(_:ρ x=.pointer (some a))(h:Ext w w')(c:Hid (w.cell? a=some v)):w'.cell? a=some v:=h.cell c.o
theorem Fo(n:Nat)(ρ:Operand→Value){x:Operand}{a:Addr}{v:Value}{w w':World}(_:ρ x=.pointer (some a))(h:Ext w w')(c:Hid (w.cell? ⟨a.block,a.off+n,a.spot⟩=some v)):w'.cell? ⟨a.block,a.off+n,a.spot⟩=some v:=h.cell c.o
theorem Y42(h:qP:=by assumption):qP:=h
theorem Y43(h:qP:=by with_reducible assumption):qP:=h
theorem Qp [hr:Rf R](next:Chain P ops D R N a0 γ0 w0 Qf (k+1) (FV x::done) rest)(hk:done.length=k:=by rfl)(hD:D k=[k]:=by rfl)
  (h:∀ vals γ w ρ,FindsZ ops D R N a0 γ0 w0 k done o vals γ w ρ (Ad o vals=true∧BN P (fun v w'=>v=x∧w'=w) ((execOp ρ o).run P w)):=by
   intro vals γ w' ρ hR hN hp hρ zs zg hc hf hg
   (conv at zg=>whnf)
   refine ⟨Y40,?_⟩
   repeat ((conv at zs=>whnf);(try have e:ρ (.tmp _)=_:=zs.1);replace zs:=zs.2)
   try
    show BN _ _ ((execOp _ (Oper.mk _ (Op.load _ _) _ _ _ _)).run _ _)
    first
    |have hxx:=Rx.x _ _ _ hR.o
    |have hxx:=hR.o.ext0 (fun m b _ hm=>by first
      |(rw [hm.1];exact hN.o.key Y17)
      |(rcases hm with ⟨rfl,_⟩|⟨rfl,_⟩<;>exact hN.o.key Y17))
    try (have m:=DxA ρ Y42 hxx Y42;try (have m:=Fo 1 ρ Y42 hxx Y43;try dsimp only [Nat.reduceAdd] at m;try (have m:=Fo 2 ρ Y42 hxx Y43;try dsimp only [Nat.reduceAdd] at m;try (have m:=Fo 3 ρ Y42 hxx Y43;try dsimp only [Nat.reduceAdd] at m;try (have m:=Fo 4 ρ Y42 hxx Y43;try dsimp only [Nat.reduceAdd] at m;try (have m:=Fo 5 ρ Y42 hxx Y43;try dsimp only [Nat.reduceAdd] at m;try (have m:=Fo 6 ρ Y42 hxx Y43;try dsimp only [Nat.reduceAdd] at m;try (have m:=Fo 7 ρ Y42 hxx Y43;try dsimp only [Nat.reduceAdd] at m;try (have m:=Fo 8 ρ Y42 hxx Y43;try dsimp only [Nat.reduceAdd] at m;try (have m:=Fo 9 ρ Y42 hxx Y43;try dsimp only [Nat.reduceAdd] at m;try (have m:=Fo 10 ρ Y42 hxx Y43;try dsimp only [Nat.reduceAdd] at m;try (have m:=Fo 11 ρ Y42 hxx Y43;try dsimp only [Nat.reduceAdd] at m))))))))))))
    clear hxx
   clear hR hN hp hρ zs zg;go_light;go_simp;exact ⟨rfl,rfl⟩):Chain P ops D R N a0 γ0 w0 Qf k done (o::rest):=Qm h next hk hD
theorem Qn(next:Chain P ops D R N a0 γ0 w0 Qf (k+1) (FV undef::done) rest)(hk:done.length=k:=by rfl)(hD:D k=[k]:=by rfl)
  (h:∀ vals γ w,O8 D done o vals γ w→Ad o vals=false:=by
   intro vals γ w' zg
   (conv at zg=>whnf)
   show (IZ _==some _)=false;rw [zg];rfl):Chain P ops D R N a0 γ0 w0 Qf k done (o::rest):=Chain.no hk hD (fun vals γ w hp=>h vals γ w (NX hp)) next
theorem Qr{p q:Prop}(k:q)(h:Hid q→p:=by
  intro k _ _ _
  (conv at zg=>whnf)
  refine ⟨Y40,?_⟩
  repeat ((conv at zs=>whnf);(try have e:ρ (.tmp _)=_:=zs.1);replace zs:=zs.2)
  go_light;go_simp;exact k.o):p:=h (Hd k)
theorem Qs(Φ:Ft Γ)(hst:Jt R Φ)(h:∀ vals γ w ρ,FindsZ ops D R N a0 γ0 w0 k done o vals γ w ρ (Ad o vals=true∧BN P (fun v w'=>∃ γ',R γ w γ' w'∧(∀ j,j≠k→j ∉ AJ o→N j γ→N j γ')∧Φ ((D k).map (EE vals k v)) γ' w') ((execOp ρ o).run P w)))
  (next:Chain P ops D R N a0 γ0 w0 Qf (k+1) (Φ::done) rest) (hk:done.length=k:=Y41):Chain P ops D R N a0 γ0 w0 Qf k done (o::rest) :=
 Chain.step Φ hk hst (fun vals γ w ρ=>(h vals γ w ρ).go) next
theorem Qg(x:Value)(h:∀ vals γ w ρ,FindsZ ops D R N a0 γ0 w0 k done o vals γ w ρ (Ad o vals=true∧BN P (fun v w'=>∃ γ',R γ w γ' w'∧(∀ j,j≠k→j ∉ AJ o→N j γ→N j γ')∧v=x) ((execOp ρ o).run P w)))
  (next:Chain P ops D R N a0 γ0 w0 Qf (k+1) (FV x::done) rest) (hk:done.length=k:=Y41) (hD:D k=[k]:=Y41):Chain P ops D R N a0 γ0 w0 Qf k done (o::rest) :=
 Chain.step (FV x) hk (FIA x) (fun vals γ w ρ hR hN hp h1 h2 h3 h4=>by
  have:=(h vals γ w ρ).go hR hN hp h1 h2 h3 h4;refine ⟨this.1,?_⟩;have e:(fun v w'=>∃ γ',R γ w γ' w'∧(∀ j,j≠k→j ∉ AJ o→N j γ→N j γ')∧FV x ((D k).map (EE vals k v)) γ' w')=(fun v w'=>∃ γ',R γ w γ' w'∧(∀ j,j≠k→j ∉ AJ o→N j γ→N j γ')∧v=x):=by
   funext v w'
   rw [hD];simp [FV,EE]
  rw [e];exact this.2) next
instance:Rf LR:=⟨LR.refl⟩
theorem Lp{G:Nat→List Value→Γ→World→Prop} [Rf R](h:∀ vals γ w ρ,Hid (R γ0 w0 γ w)→Hid (N k γ)→TN ops D G o a0 vals γ w ρ (o.looksAt ops)→(∀ v,ρ (.const v)=v)→(∀ f,ρ (.func f)=.func (.func f) #[] #[])→(∀ g,ρ (.global g)=.pointer (some ⟨g,0,none⟩))→Ad o vals=true∧BN P (fun v w'=>∃ γ',R γ w γ' w'∧(∀ j,j≠k→j ∉ AJ o→N j γ→N j γ')∧G k ((D k).map (EE vals k v)) γ' w') ((execOp ρ o).run P w):=by
   intro vals γ w' ρ hR hN zs hc hf hg;refine ⟨rfl,?_⟩
   repeat ((conv at zs=>whnf);(try (have e:ρ (.tmp _)=_:=zs.1;try (conv at e=>rhs;whnf)));replace zs:=zs.2)
   clear hR hN zs;go_light;go_simp;exact ⟨γ,Rf.r _ _,fun _ _ _ h=>h,rfl⟩):LinStep P ops D R N G a0 γ0 w0 k o :=
 LinStep.yes fun vals γ w ρ hR hN hp hρ hc hf hg=>h vals γ w ρ (Hd hR) (Hd hN) (MN hp hρ _) hc hf hg
theorem Qc{H:World→Prop} [Rf R] [Re R](H':∀ w',H w')(next:Chain P ops D R N a0 γ0 w0 Qf (k+1) (FV x::done) rest)(hk:done.length=k:=by rfl)(hD:D k=[k]:=by rfl)
  (h:∀ vals γ w ρ,H w→FindsZ ops D R N a0 γ0 w0 k done o vals γ w ρ (Ad o vals=true∧BN P (fun v w'=>∃ γ',R γ w γ' w'∧(∀ j,j≠k→j ∉ AJ o→N j γ→N j γ')∧v=x) ((execOp ρ o).run P w)):=by
   intro vals γ w' ρ hH hR hN hp hρ zs zg;have HH:=Hd hH;clear hH;refine Qr ?_;refine Calls.mono HH.o ?_;rintro e1 w3 ⟨he,hx⟩
   first
   |exact ⟨_,he,γ,Re.e _ _ _ hx,fun _ _ _ h=>h,rfl⟩
   |(subst hx;exact ⟨_,he,γ,Rf.r _ _,fun _ _ _ h=>h,rfl⟩)):Chain P ops D R N a0 γ0 w0 Qf k done (o::rest) :=
 Qg x (fun vals γ w ρ=>h vals γ w ρ (H' w)) next hk hD
theorem Qd{w1:World}{H:World→Prop} [Rf R] [Re R] [Rx R γ0](H':∀ w',Hid (Ext w1 w')→H w')(next:Chain P ops D R N a0 γ0 w1.drew Qf (k+1) (FV x::done) rest)(hk:done.length=k:=by rfl)(hD:D k=[k]:=by rfl)
  (h:∀ vals γ w ρ,H w→FindsZ ops D R N a0 γ0 w1.drew k done o vals γ w ρ (Ad o vals=true∧BN P (fun v w'=>∃ γ',R γ w γ' w'∧(∀ j,j≠k→j ∉ AJ o→N j γ→N j γ')∧v=x) ((execOp ρ o).run P w)):=by
   intro vals γ w' ρ hH hR hN hp hρ zs zg;have HH:=Hd hH;clear hH;refine Qr ?_;refine Calls.mono HH.o ?_;rintro e1 w3 ⟨he,hx⟩
   first
   |exact ⟨_,he,γ,Re.e _ _ _ hx,fun _ _ _ h=>h,rfl⟩
   |(subst hx;exact ⟨_,he,γ,Rf.r _ _,fun _ _ _ h=>h,rfl⟩)):Chain P ops D R N a0 γ0 w1.drew Qf k done (o::rest) :=
 Qg x (fun vals γ w ρ hR=>h vals γ w ρ (H' w (Hd (Rx.x _ _ _ hR.o))) hR) next hk hD
def I1(D:Nat→List Nat)(vals:Nat→Value)(γ:Γ)(w:World)(K:Act→Prop):List (Ft Γ)→List Oper→Nat→Act→Prop
 |_,[],_,a=>K a
 |[],o::l,k,a=>I1 D vals γ w K [] l (k+1) (a.put o.dst (vals k))
 |Φ::Φs,o::l,k,a=>Φ ((D k).map vals) γ w→I1 D vals γ w K Φs l (k+1) (a.put o.dst (vals k))
theorem MF{D:Nat→List Nat}{vals:Nat→Value}{γ:Γ}{w:World}{K:Act→Prop} : ∀ (l:List Oper) (Φs:List (Ft Γ)) (k:Nat) (a:Act),(∀ i,i<l.length→gOf Φs i ((D (k+i)).map vals) γ w)→I1 D vals γ w K Φs l k a→K (AR vals l k a)
 |[],_,_,_,_,h=>by unfold I1 at h;exact h
 |o::l,[],k,a,hG,h=>by
  unfold I1 at h;exact MF l [] (k+1) _ (fun i hi=>by simp [gOf]) h
 |o::l,Φ::Φs,k,a,hG,h=>by
  unfold I1 at h;have h0:Φ ((D k).map vals) γ w:=(by simpa [gOf] using hG 0 Y3);refine MF l Φs (k+1) _ (fun i hi => ?_) (h h0);have:=hG (i+1) Y34;rw [show k+1+i=k+(i+1) by omega]
  simpa [gOf] using this
theorem T7{D:Nat→List Nat}{vals:Nat→Value}{γ:Γ}{w:World}{Q:Exit→Act→World→Prop}{l:List Oper}{Φs:List (Ft Γ)}{a:Act}(hG:∀ i,i<l.length→gOf Φs i ((D i).map vals) γ w)(h:I1 D vals γ w (fun a=>Q .normal a w) Φs l 0 a):Q .normal (AR vals l 0 a) w :=
 MF (K:=fun a=>Q .normal a w) l Φs 0 a (fun i hi=>by simpa using hG i hi) h
theorem Ql{D:Nat→List Nat}{vals:Nat→Value}{γ:Γ}{w:World}{K:Act→Prop}{Φs:List (Ft Γ)}{l:List Oper}{o:Oper}{k:Nat}{a:Act}{x:Value}(h:I1 D vals γ w K Φs l (k+1) (a.put o.dst x))(hD:D k=[k]:=Y41):I1 D vals γ w K (FV x::Φs) (o::l) k a:=by
 unfold I1;rw [hD];intro h1;have h1:vals k=x:=h1;rw [h1];exact h
theorem Qw{D:Nat→List Nat}{vals:Nat→Value}{γ:Γ}{w:World}{K:Act→Prop}{k:Nat}{a:Act}{Φs:List (Ft Γ)}(h:K a):I1 D vals γ w K Φs [] k a:=by
 unfold I1;exact h
end
theorem Qx{p q:Prop}(k:q)(h:q→p:=by
  intro k;refine T7 hG ?_
  repeat first|refine Ql ?_|(intro _)
  refine Qw ?_;simp only [Act.put,List.setIfInBounds_toArray,List.set_cons_succ,List.set_cons_zero];exact k):p:=h k
theorem Qb{P:Program}{l:List Oper}{Q:Exit→Act→World→Prop}{id:Nat}{a0:Act}{w0:World}(D:Nat→List Nat)(X:Nat→Nat→Prop)(al:List (Nat × List Nat))
  (h:Chain P l.toArray D (LX X) (LM al) a0 gh0 w0.drew (fun Φs=>∀ vals γ w,LX X gh0 w0.drew γ w→(∀ i,i<l.length→gOf Φs i ((D i).map vals) γ w)→Q .normal (AR vals l 0 a0) w) 0 [] l)
  (hm:P.follows .mixedOrders=true:=Y11) (hB:KB l.toArray D a0.tmps.size=true:=Y11):(Code.region id l.toArray true).wp P Q a0 w0 :=
 BT hm D hB (LX X) (LX.refl X) (LX.trans X) (LM al) gh0 (LM.zero al) h

def isN(s:BA)(n:Nat):Prop:=AF s=n∧KH s∧s.size≤4294967296
def BxA(w:World)(q r:Nat)(e:Ending)(w':World):Prop:=∃ s t,e=.returned (.tuple #[.string s,.string t,.bool true])∧isN s q∧isN t r∧Ext w w'
def Xu(M:Nat):Prop:=∀ (a b:BA) (w:World),a.size≤4294967296→b.size≤4294967296→AF a<M→AF b=10→Cl 248 #[.string a,.string b] w (BxA w (AF a / 10) (AF a % 10))
theorem RD(x y:Nat):(x:Int).tmod (y:Int)=((x % y:Nat):Int):=by rw [Int.tmod_eq_emod_of_nonneg (by omega)];simp
def vQ7(x:Nat)(y:Nat):Nat→Value
 |0=>.I (x:Int)
 |1=>.I (y:Int)
 |2=>.I ((x / y:Nat):Int)
 |4=>.I (x:Int)
 |5=>.I (y:Int)
 |6=>.I ((x % y:Nat):Int)
 |10=>.bool true
 |_=>undef
def gQ7(x:Nat)(y:Nat)(ix:Nat)(vl:List Value)(_γ:Gh)(_w':World):Prop:=match vl with
 |[v]=>if ix=3 then (∃ r,v=.string r∧isN r (x / y)) else if ix=7 then (∃ r,v=.string r∧isN r (x % y)) else if ix=8 then (∃ r,v=.string r∧isN r (x / y)) else if ix=9 then (∃ r,v=.string r∧isN r (x % y)) else v=vQ7 x y ix
 |_=>True
theorem XA(h:qP:=by
 by_cases h8:ix=8
 ·simp only [if_pos h8] at h⊢;exact h
 simp only [if_neg h8] at h⊢;by_cases h9:ix=9
 ·simp only [if_pos h9] at h⊢;exact h
 simp only [if_neg h9] at h⊢;exact h):qP:=h
theorem Va(x:Nat)(y:Nat):∀ ix vl γ w γ' w',LR γ w γ' w'→gQ7 x y ix vl γ w→gQ7 x y ix vl γ' w':=by
 intro ix vl γ w γ' w' r h
 match vl,h with
 |[v],h =>
  unfold gQ7 at h⊢;by_cases h3:ix=3
  ·simp only [if_pos h3] at h⊢;exact h
  simp only [if_neg h3] at h⊢;by_cases h7:ix=7
  ·simp only [if_pos h7] at h⊢;exact h
  simp only [if_neg h7] at h⊢;exact XA
 |[],_=>trivial
 |_::_::_,_=>trivial

theorem W5(h:qP:=by
 first|refine hof.mono ?_|(rw [Int.natCast_ediv] at hof;refine hof.mono ?_)|(rw [Int.natCast_emod] at hof;refine hof.mono ?_)
 rintro e' w3 ⟨r,he,h1,h2,h3,hx⟩;exact ⟨_,he,γ,E8A γ hx,fun _ _ _ h=>h,r,rfl,h1,h2,h3⟩):qP:=h
theorem X9(h:qP:=by
 exact ⟨γ,LR.refl _ _,fun _ _ _ h=>h,rfl⟩):qP:=h
theorem To(h:qP:=by
 have HN1:=Hd hn;clear hr hn;have hx:=hR.drew_ext;have HR:=Hd hR;have HN:=Hd hN;clear hR hN hp hρ hx;go_light;go_simp;exact ⟨γ,LR.refl _ _,fun _ _ _ h=>h,r,rfl,HN1.o⟩):qP:=h
theorem KT(a b:BA)(ha:a.size≤4294967296)(hb:b.size≤4294967296)(ha7:AF a<256^7)(hb7:AF b<256^7)(hb0:0<AF b)(w:World):Cl 248 #[.string a,.string b] w (BxA w (AF a / AF b) (AF a % AF b)):=by
 have HA:=Hd (EO ha7)
 go_enter func248,ntmps248
 go_wp2_with fail
 refine (CG b hb _).mono ?_;rintro e1 w1 ⟨c,⟨rfl,rfl⟩,hv,hc,hsz⟩;have hcz:=FS hc;have hc0:((c.size:Int)==0)=false:=by
  rw [beq_eq_false_iff_ne];omega
 have hc32:c.size≤4294967296:=Y4;have HB:=Hd (EO (s:=c) (k:=7) (by rw [hv];exact hb7));have HV:=Hd hv;rw [show (256:Nat)^7=72057594037927936 by decide] at ha7 hb7;rw [←hv] at hb7 hb0;clear hcz hc hv hsz
 go_wp2_with fail
 refine (CI a ha 7 Y4 _).mono ?_;rintro e1 w1 ⟨he,rfl⟩;rw [HA.o] at he;subst he
 go_wp2_with fail
 refine (CI c hc32 7 Y4 _).mono ?_;rintro e1 w1 ⟨he,rfl⟩;rw [HB.o] at he;subst he;obtain ⟨x,hx⟩:=eqx (AF a);obtain ⟨y,hy⟩:=eqx (AF c);have HXE:=Hd hx;have HYE:=Hd hy;rw [←hx] at ha7;rw [←hy] at hb7 hb0;rw [←hx,←hy];clear hx hy;have hdv:x / y≤x:=Nat.div_le_self _ _;have hmd:x % y<y:=Nat.mod_lt _ hb0;obtain ⟨HDV,HMD,HY0⟩:=Hd3 (show x / y≤9223372036854775807 by omega) (show x % y≤9223372036854775807 by omega) (show ¬y=0 by omega);have hw:∀ d:Nat,d≤72057594037927936→IntKind.i64.wrap (d:Int)=(d:Int):=fun d hd=>IntWalk.i64_in _ Y4;have HW1:=Hd (show IntKind.i64.wrap ((x:Int) / (y:Int))=((x / y:Nat):Int) by rw [←Int.natCast_ediv];exact hw _ Y4);have HW2:=Hd (show IntKind.i64.wrap ((x:Int) % (y:Int))=((x % y:Nat):Int) by rw [←Int.natCast_emod];exact hw _ Y4);clear hw hdv hmd
 go_upto_region 7 with fail
 refine BB Y11 (fun i=>[i]) Y11 LR LR.refl LR.trans (LN (al0)) (gQ7 x y) (Va _ _) gh0 (LN.zero _) ⟨?_,?_,?_,?_,?_,?_,?_,?_,?_,?_,?_,trivial⟩ ?_
 ·exact Lp
 ·exact Lp
 ·refine LinStep.yes fun vals γ w' ρ hR hN hp hρ hc hf hg=>⟨rfl,?_⟩;have e35:ρ (.tmp 35)=.I (x:Int):=(hρ 35).trans (hp 0 Y17);have e36:ρ (.tmp 36)=.I (y:Int):=(hρ 36).trans (hp 1 Y17);have hx:=hR.drew_ext;have HR:=Hd hR;have HN:=Hd hN;clear hR hN hp hρ hx;go_light;go_simp;rw [if_neg HY0.o]
  first|rw [HW1.o]|rw [HW2.o]
  exact ⟨γ,LR.refl _ _,fun _ _ _ h=>h,rfl⟩
 ·refine LinStep.yes fun vals γ w' ρ hR hN hp hρ hc hf hg=>⟨rfl,?_⟩;have e37:ρ (.tmp 37)=.I ((x / y:Nat):Int):=(hρ 37).trans (hp 2 Y17);have hx:=hR.drew_ext;have HR:=Hd hR;have HN:=Hd hN;clear hR hN hp hρ hx;go_light;go_simp;have hof:=Ex (x / y) (by first|exact HDV.o|exact HMD.o) w';exact W5
 ·exact Lp
 ·exact Lp
 ·refine LinStep.yes fun vals γ w' ρ hR hN hp hρ hc hf hg=>⟨rfl,?_⟩;have e39:ρ (.tmp 39)=.I (x:Int):=(hρ 39).trans (hp 4 Y17);have e40:ρ (.tmp 40)=.I (y:Int):=(hρ 40).trans (hp 5 Y17);have hx:=hR.drew_ext;have HR:=Hd hR;have HN:=Hd hN;clear hR hN hp hρ hx;go_light;go_simp;rw [if_neg HY0.o,RD];exact X9
 ·refine LinStep.yes fun vals γ w' ρ hR hN hp hρ hc hf hg=>⟨rfl,?_⟩;have e41:ρ (.tmp 41)=.I ((x % y:Nat):Int):=(hρ 41).trans (hp 6 Y17);have hx:=hR.drew_ext;have HR:=Hd hR;have HN:=Hd hN;clear hR hN hp hρ hx;go_light;go_simp;have hof:=Ex (x % y) (by first|exact HDV.o|exact HMD.o) w';exact W5
 ·refine LinStep.yes fun vals γ w' ρ hR hN hp hρ hc hf hg=>⟨rfl,?_⟩;obtain ⟨r,hr,hn⟩:=hp 3 Y17;have e38:ρ (.tmp 38)=_:=(hρ 38).trans hr;exact To
 ·refine LinStep.yes fun vals γ w' ρ hR hN hp hρ hc hf hg=>⟨rfl,?_⟩;obtain ⟨r,hr,hn⟩:=hp 7 Y17;have e42:ρ (.tmp 42)=_:=(hρ 42).trans hr;exact To
 ·exact Lp
 ·intro vals γ w9 hR hG;obtain ⟨r1,hv8,hn8⟩:=hG 8 Y17;obtain ⟨r2,hv9,hn9⟩:=hG 9 Y17;have hv10:vals 10=.bool true:=hG 10 Y17;obtain ⟨HX9,H8,H9⟩:=Hd3 hR.drew_ext hn8 hn9;clear hR hG hn8 hn9;simp only [AR,Act.put,List.setIfInBounds_toArray,List.set_cons_succ,List.set_cons_zero,Nat.zero_add,Nat.reduceAdd,hv8,hv9,hv10];clear hv8 hv9 hv10;go_wp2;refine bodyPost_ret (v:=.tuple #[.string r1,.string r2,.bool true]) (by simp [results,results248,go_sem]) rfl ⟨r1,r2,rfl,?_,?_,HX9.o⟩
  ·rw [←HXE.o,←HV.o,←HYE.o];exact H8.o
  ·rw [←HXE.o,←HV.o,←HYE.o];exact H9.o
theorem O1:Xu (256^7):=by
 intro a b w ha hb h7 h10;have:=KT a b ha hb h7 (by rw [h10];decide) Y4 w;rwa [h10] at this
def vF2(g:Nat)(N:BA):Nat→Value
 |0=>.pointer (some ⟨g,1,none⟩)
 |1=>.string N
 |7=>.bool true
 |10=>.bool true
 |_=>undef
def gF2(g:Nat)(N:BA)(ix:Nat)(vl:List Value)(_γ:Gh)(_w':World):Prop:=match vl with
 |[v]=>if ix=2 then (∃ r,v=.string r∧isN r (10)) else if ix=3 then (∃ r t,v=.tuple #[.string r,.string t,.bool true]∧isN r (AF N / 10)∧isN t (AF N % 10)) else if ix=4 then (∃ r t,v=.tuple #[.string r,.string t,.bool true]∧isN r (AF N / 10)∧isN t (AF N % 10)) else if ix=5 then (∃ r,v=.string r∧isN r (AF N / 10)) else if ix=6 then (∃ r,v=.string r∧isN r (AF N % 10)) else if ix=8 then (∃ r,v=.string r∧isN r (AF N / 10)) else if ix=9 then (∃ r,v=.string r∧isN r (AF N % 10)) else v=vF2 g N ix
 |_=>True
theorem WW(g:Nat)(N:BA):∀ ix vl γ w γ' w',LR γ w γ' w'→gF2 g N ix vl γ w→gF2 g N ix vl γ' w':=by
 intro ix vl γ w γ' w' r h
 match vl,h with
 |[v],h =>
  unfold gF2 at h⊢;by_cases h2:ix=2
  ·simp only [if_pos h2] at h⊢;exact h
  simp only [if_neg h2] at h⊢;by_cases h3:ix=3
  ·simp only [if_pos h3] at h⊢;exact h
  simp only [if_neg h3] at h⊢;by_cases h4:ix=4
  ·simp only [if_pos h4] at h⊢;exact h
  simp only [if_neg h4] at h⊢;by_cases h5:ix=5
  ·simp only [if_pos h5] at h⊢;exact h
  simp only [if_neg h5] at h⊢;by_cases h6:ix=6
  ·simp only [if_pos h6] at h⊢;exact h
  simp only [if_neg h6] at h⊢;exact XA
 |[],_=>trivial
 |_::_::_,_=>trivial

def EC:Nat→Nat→Nat × Nat
 |0,n=>(n,0)
 |s+1,n=>if n % 10=0 then EC s (n / 10) else (n,s+1)
def GJ(neg:Bool)(n s:Nat):(Int × Int) × Bool :=
 if (EC s n).1≤1000000000000000∧(EC s n).2≤6 then ((if neg then -((EC s n).1:Int) else ((EC s n).1:Int),((EC s n).2:Int)),true) else ((0,0),false)
theorem UZ(h:qP:=by
 iterate 2 with_reducible refine Ext.set2 ?_ Y4 _
 with_reducible exact HEX.o):qP:=h
theorem CfA(h:qP:=by
 go_wp2;rw [HF.o];refine bodyPost_ret (v:=.tuple #[.agg #[.I (AF N:Int),.I (s:Int)],.bool true]) (by simp [results,results216,go_sem,r0,r1]) rfl ⟨rfl,?_⟩;exact UZ):qP:=h
theorem DJA(h:qP:=by
 go_wp2;rw [HF.o];refine bodyPost_ret (v:=.tuple #[.agg #[.I (-(AF N:Int)),.I (s:Int)],.bool true]) (by simp [results,results216,go_sem,r0,r1]) rfl ⟨rfl,?_⟩;exact UZ):qP:=h
theorem ZC(h:qP:=by
 have n6:¬(6:Int)<(s:Int):=Y4;have HF:=Hd (show GJ neg n0 s0=((if neg then -(AF N:Int) else (AF N:Int),(s:Int)),true) by simp [GJ,HST.o,h15,hs6]);cases neg
 ·exact CfA
 ·exact DJA):qP:=h
theorem VY(h:qP:=by
 go_wp2;rw [HF.o];refine bodyPost_ret (v:=.tuple #[.agg #[.I 0,.I 0],.bool false]) (by simp [results,results216,go_sem,r0,r1]) rfl ⟨rfl,?_⟩;exact UZ):qP:=h
theorem ZO(h:qP:=by
 have n15:(1000000000000000:Int)<(AF N:Int):=Y4;have HF:=Hd (show GJ neg n0 s0=((0,0),false) by simp [GJ,HST.o,h15]);exact VY):qP:=h
theorem D4A(h:qP:=by
 have h15:¬AF N≤1000000000000000:=Y4;simp [GJ,HST.o,h15]):qP:=h
theorem A9A(h:qP:=by
 rw [show Ff N=.returned (.tuple #[.I 0,.bool false]) by simp [Ff,h63]] at he;subst he;have HF:=Hd (show GJ neg n0 s0=((0,0),false) by
  exact D4A)
 exact VY):qP:=h
theorem Me(h:qP:=by
 have HR:=Hd hR;have HN:=Hd hN;clear hR hN hp hρ hx;go_light;go_simp;exact X9):qP:=h
theorem QR(h:qP:=by
 with_reducible exact Kept.refl _ _):qP:=h
theorem Sy{M:Nat}(hQ:Xu M)(neg:Bool)(N0:BA)(s0:Nat)(n0:Nat)(hn0:AF N0=n0)(hs0:s0≤4294967296)(h32:N0.size≤4294967296)(hM:n0<M)(w:World) :
  Cl 216 #[.agg #[.bool neg,.string N0,.I (s0:Int)]] w (Ul w (GJ neg n0 s0)):=by
 go_enter func216,ntmps216
 go_wp2;have HS0:=Hd (show Blk ((w.alloc (.cells #[.bool neg,.string N0,.I (s0:Int)] 168)).alloc (.cells #[.I 0,.I 0] 25)) w.heap.size 168 #[.bool neg,.string N0,.I (s0:Int)] from (Blk.new _ _ _).keep (Kept.alloc _ _ _));have HS1:=Hd (show Blk ((w.alloc (.cells #[.bool neg,.string N0,.I (s0:Int)] 168)).alloc (.cells #[.I 0,.I 0] 25)) (w.heap.size+1) 25 #[.I 0,.I 0] by
  have:=Blk.new (w.alloc (.cells #[.bool neg,.string N0,.I (s0:Int)] 168)) 25 #[.I 0,.I 0]
  simpa using this)
 go_loopw [4] (fun _ wr=>∃ (N:BA) (s:Nat),s≤s0∧N.size≤4294967296∧AF N<M∧EC s (AF N)=EC s0 n0∧Ext w wr∧Blk wr w.heap.size 168 #[.bool neg,.string N,.I (s:Int)]∧Blk wr (w.heap.size+1) 25 #[.I 0,.I 0]) (fun _ wr=>(intOf ((wr.cell? ⟨w.heap.size,2,none⟩).getD undef)).toNat)
 case atStart=>exact ⟨N0,s0,AS,h32,by rw [hn0];exact hM,by rw [hn0],(exaa w).alloc _,HS0.o,HS1.o⟩
 case round =>
  clear HS0 HS1;obtain ⟨N,s,hss,hN32,hNM,hst,hex,hbx,hbr⟩:=hrel;obtain ⟨HST0,HEX,HBX,HBR⟩:=Hd4 hst hex hbx hbr;clear hst hex hbx hbr;by_cases hz:s=0
  ·subst hz;have HST:=Hd (show EC s0 n0=(AF N,0) by rw [←HST0.o];rfl);obtain ⟨s,hs⟩:∃ s:Nat,s=0:=⟨_,rfl⟩;rw [←hs] at HST HBX;have hsn:¬(0:Int)<(s:Int):=Y4;have HSZ:=Hd hs;clear HST0 hs;obtain ⟨k0,k1,k2⟩:=HBX.o.qs3;obtain ⟨r0,r1⟩:=HBR.o.qs2;have rf:=HBR.o.frozen;have rz:=HBR.o.lt;have hsz:=HEX.o.size
   go_wp2_with fail
   refine (MY N hN32 _).mono ?_;rintro e1 w1 ⟨he,rfl⟩;by_cases h63:AF N<9223372036854775808
   ·rw [show Ff N=.returned (.tuple #[.I (AF N:Int),.bool true]) by simp [Ff,h63]] at he;subst he;by_cases h15:AF N≤1000000000000000
    ·have n15:¬(1000000000000000:Int)<(AF N:Int):=Y4;by_cases hs6:s≤6
     ·exact ZC
     ·exfalso;omega
    ·exact ZO
   ·exact A9A
  ·have hsp:(0:Int)<(s:Int):=Y4;have k2:=HBX.o.q2;have HM2:=Hd k2
   go_upto_region 2 with fail
   clear k2;obtain ⟨g,hg⟩:=eqx w.heap.size;rw [←hg] at HBX⊢;have HG:=Hd hg;clear hg;refine BB Y11 (fun i=>[i]) Y11 LR LR.refl LR.trans (LN (al0)) (gF2 g N) (WW _ _) gh0 (LN.zero _) ⟨?_,?_,?_,?_,?_,?_,?_,?_,?_,?_,?_,trivial⟩ ?_
   ·exact Lp
   ·refine LinStep.yes fun vals γ w' ρ hR hN hp hρ hc hf hg=>⟨rfl,?_⟩;have e13:ρ (.tmp 13)=.pointer (some ⟨g,1,none⟩):=(hρ 13).trans (hp 0 Y17);have hx:=hR.drew_ext;have c1:=(HBX.o.keep (hx.kept _)).q1;exact Me
   ·refine LinStep.yes fun vals γ w' ρ hR hN hp hρ hc hf hg=>⟨rfl,?_⟩;have hx:=hR.drew_ext;have HR:=Hd hR;have HN:=Hd hN;clear hR hN hp hρ hx;go_light;go_simp;refine (Ex 10 Y4 w').mono ?_;rintro e' w3 ⟨r,he,h1,h2,h3,hx⟩;exact ⟨_,he,γ,E8A γ hx,fun _ _ _ h=>h,r,rfl,h1,h2,h3⟩
   ·refine LinStep.yes fun vals γ w' ρ hR hN hp hρ hc hf hg=>⟨rfl,?_⟩;have e14:ρ (.tmp 14)=.string N:=(hρ 14).trans (hp 1 Y17);obtain ⟨r,hr,hn⟩:=hp 2 Y17;have e15:ρ (.tmp 15)=_:=(hρ 15).trans hr;have HN1:=Hd hn;clear hr hn;have hx:=hR.drew_ext;have HR:=Hd hR;have HN:=Hd hN;clear hR hN hp hρ hx;go_light;go_simp;refine (hQ N r w' hN32 HN1.o.2.2 hNM HN1.o.1).mono ?_;rintro e' w3 ⟨s1,t1,he,h1,h2,hx⟩;exact ⟨_,he,γ,E8A γ hx,fun _ _ _ h=>h,s1,t1,rfl,h1,h2⟩
   ·refine LinStep.yes fun vals γ w' ρ hR hN hp hρ hc hf hg=>⟨rfl,?_⟩;obtain ⟨r,t,hr,hn⟩:=hp 3 Y17;have e16:ρ (.tmp 16)=_:=(hρ 16).trans hr;have HN1:=Hd hn;clear hr hn;have hx:=hR.drew_ext;have HR:=Hd hR;have HN:=Hd hN;clear hR hN hp hρ hx;go_light;go_simp;exact ⟨γ,LR.refl _ _,fun _ _ _ h=>h,r,t,rfl,HN1.o⟩
   ·refine LinStep.yes fun vals γ w' ρ hR hN hp hρ hc hf hg=>⟨rfl,?_⟩;obtain ⟨r,t,hr,hn⟩:=hp 4 Y17;have e12:ρ (.tmp 12)=_:=(hρ 12).trans hr;have HN1:=Hd hn;clear hr hn;have hx:=hR.drew_ext;have HR:=Hd hR;have HN:=Hd hN;clear hR hN hp hρ hx;go_light;go_simp;exact ⟨γ,LR.refl _ _,fun _ _ _ h=>h,r,rfl,HN1.o.1⟩
   ·refine LinStep.yes fun vals γ w' ρ hR hN hp hρ hc hf hg=>⟨rfl,?_⟩;obtain ⟨r,t,hr,hn⟩:=hp 4 Y17;have e12:ρ (.tmp 12)=_:=(hρ 12).trans hr;have HN1:=Hd hn;clear hr hn;have hx:=hR.drew_ext;have HR:=Hd hR;have HN:=Hd hN;clear hR hN hp hρ hx;go_light;go_simp;exact ⟨γ,LR.refl _ _,fun _ _ _ h=>h,t,rfl,HN1.o.2⟩
   ·refine LinStep.yes fun vals γ w' ρ hR hN hp hρ hc hf hg=>⟨rfl,?_⟩;obtain ⟨r,t,hr,hn⟩:=hp 4 Y17;have e12:ρ (.tmp 12)=_:=(hρ 12).trans hr;have HN1:=Hd hn;clear hr hn;have hx:=hR.drew_ext;exact Me
   ·refine LinStep.yes fun vals γ w' ρ hR hN hp hρ hc hf hg=>⟨rfl,?_⟩;obtain ⟨r,hr,hn⟩:=hp 5 Y17;have e17:ρ (.tmp 17)=_:=(hρ 17).trans hr;exact To
   ·refine LinStep.yes fun vals γ w' ρ hR hN hp hρ hc hf hg=>⟨rfl,?_⟩;obtain ⟨r,hr,hn⟩:=hp 6 Y17;have e18:ρ (.tmp 18)=_:=(hρ 18).trans hr;exact To
   ·exact Lp
   ·intro vals γ w9 hR hG;obtain ⟨q,hv8,hn8⟩:=hG 8 Y17;obtain ⟨r,hv9,hn9⟩:=hG 9 Y17;have hv10:vals 10=.bool true:=hG 10 Y17;obtain ⟨HX9,H8,H9⟩:=Hd3 hR.drew_ext hn8 hn9;have hr9:=FS hn9.2.1;rw [hn9.1] at hr9;have hr32:=hn9.2.2;clear hR hG hn8 hn9;simp only [AR,Act.put,List.setIfInBounds_toArray,List.set_cons_succ,List.set_cons_zero,Nat.zero_add,Nat.reduceAdd,hv8,hv9,hv10];generalize vals 0=u0,vals 1=u1,vals 2=u2,vals 3=u3,vals 4=u4,vals 5=u5,vals 6=u6,vals 7=u7;clear hv8 hv9 hv10;rw [HG.o] at HBX⊢;have HEX0:=HEX;have HBX0:=HBX;have HBR0:=HBR;clear HEX HBX HBR;obtain ⟨HEX,HBX,HBR⟩:=Hd3 (HEX0.o.trans HX9.o) (HBX0.o.keep (HX9.o.kept _)) (HBR0.o.keep (HX9.o.kept _));clear HEX0 HBX0 HBR0 HX9;by_cases hr0:AF N % 10=0
    ·have hrz:¬(0:Int)<(r.size:Int):=(by have:=hr9.2 hr0;omega);have k1:=HBX.o.q1;have k2:=HBX.o.q2;have kf:=HBX.o.frozen;have kz:=HBX.o.lt;have HR0:=Hd hr0;clear hr0 hr9;go_wp2;go_roundw
     case rel =>
      obtain ⟨s',rfl⟩:∃ s',s=s'+1:=⟨s-1,Y4⟩;have hsz:=HEX.o.size;refine ⟨q,s',Y4,H8.o.2.2,?_,?_,?_,?_,?_⟩
      ·rw [H8.o.1];exact Nat.lt_of_le_of_lt (Nat.div_le_self _ _) hNM
      ·rw [H8.o.1,←HST0.o,EC,if_pos HR0.o]
      ·exact UZ
      ·have:=(HBX.o.set 1 (.string q)).set 2 (.I (s':Int))
       simpa using this
      ·refine HBR.o.keep ?_
       iterate 2 with_reducible refine Kept.set2 ?_ (by show ¬(_=_);omega)
       exact QR
     case measure =>
      have h1:=(HBX.o.set 1 (.string q)).set 2 (.I ((s:Int)-1));have h2:=h1.q2;have h3:=HM2.o;rw [h2,h3];simp [intOf];omega
    ·have hrz:(0:Int)<(r.size:Int):=by
      rcases Nat.eq_zero_or_pos r.size with h|h
      ·exact absurd (hr9.1 h) hr0
      ·omega
     have HST:=Hd (show EC s0 n0=(AF N,s) by
      obtain ⟨s',rfl⟩:∃ s',s=s'+1:=⟨s-1,Y4⟩;rw [←HST0.o,EC,if_neg hr0])
     clear hr0 hr9 HST0;obtain ⟨k0,k1,k2⟩:=HBX.o.qs3;obtain ⟨r0,r1⟩:=HBR.o.qs2;have rf:=HBR.o.frozen;have rz:=HBR.o.lt;have hsz:=HEX.o.size
     go_wp2_with fail
     refine (MY N hN32 _).mono ?_;rintro e1 w1 ⟨he,rfl⟩;by_cases h63:AF N<9223372036854775808
     ·rw [show Ff N=.returned (.tuple #[.I (AF N:Int),.bool true]) by simp [Ff,h63]] at he;subst he;by_cases h15:AF N≤1000000000000000
      ·have n15:¬(1000000000000000:Int)<(AF N:Int):=Y4;by_cases hs6:s≤6
       ·exact ZC
       ·have n6:(6:Int)<(s:Int):=Y4;have HF:=Hd (show GJ neg n0 s0=((0,0),false) by simp [GJ,HST.o,hs6]);exact VY
      ·exact ZO
     ·exact A9A

theorem Nf(n:Int)(s:Nat)(h1:-1000000000000000≤n)(h2:n≤1000000000000000)(hs:s≤18)(w:World):Cl 172 #[.I n,.I (s:Int)] w (Ul w (GJ (decide (n<0)) n.natAbs s)):=by
 have n1:¬(s:Int)<0:=Y4;have n2:¬(18:Int)<(s:Int):=Y4
 go_enter func172,ntmps172
 go_wp2_with fail
 refine (It n Y4 Y4 _).mono ?_;rintro e1 w1 ⟨r,rfl,g1,g2,g3,g4⟩;obtain ⟨G1,HX1,HB1⟩:=Hd3 g1 g4 ((Blk.new w 25 #[.I 0,.I 0]).keep (g4.kept _));clear g1 g2 g4
 go_wp2_with fail
 refine (Sy O1 (decide (n<0)) r s n.natAbs G1.o Y4 g3 (by rw [show (256:Nat)^7=72057594037927936 by decide];omega) _).mono ?_;rintro e1 w2 ⟨rfl,hx2⟩;have HX2:=Hd ((exaa w).trans (HX1.o.trans hx2));have hb2:=HB1.o.keep (hx2.kept _);obtain ⟨r0,r1⟩:=hb2.qs2;have rf:=hb2.frozen;have rz:=hb2.lt;clear hb2 hx2;go_wp2;refine bodyPost_ret (v:=.tuple #[.agg #[.I (GJ (decide (n<0)) n.natAbs s).1.1,.I (GJ (decide (n<0)) n.natAbs s).1.2],.bool (GJ (decide (n<0)) n.natAbs s).2]) (by simp [results,results172,go_sem,r0,r1]) rfl ⟨rfl,?_⟩
 iterate 2 with_reducible refine Ext.set2 ?_ Y4 _
 with_reducible exact HX2.o

def AY:List Nat→Nat
 |[]=>0
 |d::l=>d+16777216*AY l
def dgs(l:List Nat):Prop:=∀ d∈l,d<16777216
def trd(l:List Nat):Prop:=l.getLast?≠some 0
def Cg(l:List Nat):List Int:=l.map fun d:Nat=>(d:Int)
theorem EY(l:List Nat):(Cg l).length=l.length:=by simp [Cg]
def Ck:List Nat→List Nat
 |[]=>[]
 |d::l=>if Ck l=[]∧d=0 then [] else d::Ck l
theorem Iv:∀ (l:List Nat),Ck (l++[0])=Ck l
 |[]=>by simp [Ck]
 |d::l=>by simp only [List.cons_append,Ck,Iv l]
theorem Jj{d:Nat}(h:d≠0):∀ (l:List Nat),Ck (l++[d])=l++[d]
 |[]=>by simp [Ck,h]
 |e::l=>by
  simp only [List.cons_append,Ck,Jj h l];simp
theorem Jh:∀ (l:List Nat),AY (l++[0])=AY l
 |[]=>rfl
 |d::l=>by simp only [List.cons_append,AY,Jh l]
theorem NE:∀ (l:List Nat),AY (Ck l)=AY l∧trd (Ck l)∧(dgs l→dgs (Ck l))∧(Ck l).length≤l.length∧Ck l <+: l
 |[]=>⟨rfl,by simp [trd,Ck],fun h=>h,AS,List.prefix_refl _⟩
 |d::l=>by
  obtain ⟨h1,h2,h3,h4,h5⟩:=NE l;unfold Ck;split
  ·rename_i h;obtain ⟨e1,rfl⟩:=h;rw [e1] at h1;refine ⟨?_,by simp [trd],fun _=>by simp [dgs],Y3,Y3⟩;simp only [AY] at h1⊢;omega
  ·rename_i h;refine ⟨by simp only [AY,h1],?_,fun hd => ?_,by simpa using h4,by simpa using h5⟩
   ·unfold trd at h2⊢;cases ht:Ck l with
    |nil =>
     rw [ht] at h
     simpa using h
    |cons e m=>rw [ht] at h2;simpa [List.getLast?_cons_cons] using h2
   ·intro x hx
    rcases List.mem_cons.1 hx with rfl|hx
    ·exact hd x List.mem_cons_self
    ·exact h3 (fun y hy=>hd y (List.mem_cons_of_mem _ hy)) x hx
theorem Sj(l:List Nat)(A:OA)(c:Nat)(w:World)(S:NP)(h:Ints w S A (Cg l))(hcap:l.length≤c) :
  Cl 279 #[.slice A l.length c] w (fun e w'=>e=.returned (.slice A (Ck l).length c)∧w=w'):=by
 have H:=Hd h;have hlen:l.length≤4294967296:=(by have:=h.2;rwa [EY] at this);clear h
 go_enter func279,ntmps279
 go_wp2
 go_loop [0] (fun v=>∃ k:Nat,k≤l.length∧Ck (l.take k)=Ck l∧v=.slice A k c) (fun v=>match v with|.slice _ n _=>n|_=>0)
 case atStart=>exact ⟨l.length,AS,by rw [List.take_length],rfl⟩
 case round =>
  obtain ⟨k,hk,htk,rfl⟩:=hrel;have HT:=Hd htk;clear htk;cases k with
  |zero =>
   go_wp2;go_ret;have:=HT.o;simp only [List.take_zero,Ck] at this;exact ⟨by rw [←this];rfl,rfl⟩
  |succ j =>
   obtain ⟨b,o,hA,hb,hc⟩:=H.o.at_ (k:=j) (by rw [EY];omega);subst hA;obtain ⟨d,hd⟩:=eqx (l[j]);have hc':w.cell? ⟨b,o+j,none⟩=some (.I (d:Int)):=(by rw [hc,hd];simp [Cg]);have htake:l.take (j+1)=l.take j++[d]:=(by rw [List.take_succ_eq_append_getElem Y4,hd]);have HK:=Hd htake;clear hc htake hd;by_cases h0:d=0
   ·have e0:((d:Int)==0)=true:=Y25;have hjc:(j:Int)≤(c:Int):=Y4;have HZ:=Hd h0;clear h0;go_wp2
    go_round
    case rel=>exact ⟨j,Y4,by rw [←HT.o,HK.o,HZ.o,Iv],Y3⟩
    case measure=>simp
   ·have e0:((d:Int)==0)=false:=Y25;go_wp2;go_ret;refine ⟨?_,rfl⟩;have:=HT.o;rw [HK.o,Jj h0,←HK.o] at this;rw [←this];simp only [List.length_take,Array.getD];simp;omega

theorem DT(l:List Nat)(d:Nat):AY (l++[d])=AY l+16777216^l.length*d:=by
 induction l with
 |nil=>simp [AY]
 |cons e l ih =>
  simp only [List.cons_append,AY,ih,List.length_cons,Nat.pow_succ];rw [Nat.mul_add,Nat.mul_comm (16777216^l.length) 16777216,Nat.mul_assoc];omega
theorem JI:∀ l:List Nat,dgs l→AY l<16777216^l.length
 |[],_=>by simp [AY]
 |d::l,h=>by
  have h1:=h d List.mem_cons_self;have h2:=JI l fun x hx=>h x (List.mem_cons_of_mem _ hx);simp only [AY,List.length_cons,Nat.pow_succ];omega
theorem Fs{l:List Nat}{d:Nat}(h:dgs l)(hd:d<16777216):dgs (l++[d]):=fun x hx=>by
 rcases List.mem_append.1 hx with hx|hx
 ·exact h x hx
 ·rw [List.mem_singleton.1 hx];exact hd
theorem Ca(l:List Nat)(k:Nat):AY (l.take (k+1))=AY (l.take k)+16777216^k*l.getD k 0:=by
 rcases Nat.lt_or_ge k l.length with h|h
 ·rw [List.take_succ_eq_append_getElem h,DT,List.length_take,Nat.min_eq_left Y4];simp [h]
 ·rw [List.take_of_length_le Y4,List.take_of_length_le h];simp [h]
theorem BP{l:List Nat}(h:dgs l)(k:Nat):l.getD k 0<16777216:=by
 rcases Nat.lt_or_ge k l.length with hk|hk
 ·simp [hk];exact h _ (List.getElem_mem hk)
 ·simp [hk]
theorem PD{l:List Nat}(h:trd l)(hn:l≠[]):16777216^(l.length-1)≤AY l:=by
 rcases List.eq_nil_or_concat l with rfl|⟨m,d,rfl⟩
 ·exact absurd rfl hn
 ·rw [List.concat_eq_append] at h⊢;have hd:d≠0:=(by simpa [trd] using h);rw [DT,List.length_append];have:16777216^m.length*1≤16777216^m.length*d:=Nat.mul_le_mul_left _ Y4;simp;omega
theorem Wb{u v:List Nat}(hv:trd v)(hu:dgs u)(h:AY v≤AY u):v.length≤u.length:=by
 rcases Nat.lt_or_ge u.length v.length with hlt|hge
 ·have h1:=JI u hu;have h2:=PD hv (by intro e;rw [e] at hlt;simp at hlt);have h3:16777216^u.length≤16777216^(v.length-1):=Nat.pow_le_pow_right Y17 Y4;omega
 ·exact hge
def Ua(w:World)(n:Nat)(e:Ending)(w':World):Prop:=∃ (A:OA) (c:Nat) (l:List Nat),e=.returned (.slice A l.length c)∧AY l=n∧dgs l∧trd l∧l.length≤c∧Ints w' (fun b=>w.heap.size≤b) A (Cg l)∧Ext w w'
theorem GB(l:List Nat)(d:Nat):(Cg (l++[d])).map (Value.int .i64)=(Cg l).map (Value.int .i64)++[.I (d:Int)]:=by simp [Cg]
theorem FFA{w:World}{base c:Nat}{A:OA}{l:List Nat}(h:Own w base 3 1 A l.length c ((Cg l).map (Value.int .i64)))(hl:l.length≤4294967296){T:NP}(hT:∀ b,base≤b→T b):Ints w T A (Cg l) :=
 ⟨(Own.rd h).mono fun b _ hb=>hT b (h.blk hb).1,by rw [EY];exact hl⟩
theorem Ce{w:World}{S:NP}{A:OA}{l:List Nat}(h:Ints w S A (Cg l)){k:Nat}(hk:k<l.length):∃ b o,A=some ⟨b,o,none⟩∧b<w.heap.size∧w.cell? ⟨b,o+k,none⟩=some (.I ((l.getD k 0:Nat):Int)):=by
 obtain ⟨b,o,h1,h2,h3⟩:=h.at_ (k:=k) (by rw [EY];exact hk);refine ⟨b,o,h1,h2,?_⟩;rw [h3];simp [Cg,hk]

theorem Ints.pre{w:World}{S:NP}{A:OA}{l m:List Nat}(h:Ints w S A (Cg m))(hp:l <+: m):Ints w S A (Cg l):=by
 obtain ⟨h1,h2⟩:=h;have hl:l=m.take l.length:=(List.prefix_iff_eq_take.1 hp);refine ⟨?_,by rw [EY] at h2⊢;exact Nat.le_trans hp.length_le h2⟩;rw [hl];have:=h1.take l.length
 simpa [Cg,List.map_take] using this
structure MinI(u v m:List Nat)(k bw:Nat):Prop where
 len:m.length=k
 eq:AY (u.take k)+bw*16777216^k=AY m+AY (v.take k)
 ds:dgs m
 bit:bw≤1
theorem Y44(h:qP:=by simp [h.len]):qP:=h
theorem MinI.step{u v m:List Nat}{k bw:Nat}(h:MinI u v m k bw)(hu:dgs u)(hv:dgs v){d:Int}(hd:d=(u.getD k 0:Int)-bw-v.getD k 0) :
  (0≤d→MinI u v (m++[d.toNat]) (k+1) 0)∧(d<0→MinI u v (m++[(d+16777216).toNat]) (k+1) 1):=by
 have h1:=BP hu k;have h2:=BP hv k;have h3:=h.bit;have h4:=h.eq;have hp:(0:Nat)<16777216^k:=Nat.pow_pos Y17;constructor
 ·intro h0;refine ⟨Y44,?_,Fs h.ds Y4,Y4⟩;rw [Ca,Ca,DT,h.len,Nat.zero_mul,Nat.add_zero];have e:u.getD k 0=d.toNat+bw+v.getD k 0:=Y4;rw [e,Nat.mul_add,Nat.mul_add,Nat.mul_comm _ bw];omega
 ·intro h0;refine ⟨Y44,?_,Fs h.ds Y4,Y4⟩;rw [Ca,Ca,DT,h.len,Nat.pow_succ];have e:u.getD k 0+16777216=(d+16777216).toNat+bw+v.getD k 0:=Y4;have e2:16777216^k*u.getD k 0+16777216^k*16777216=16777216^k*(d+16777216).toNat+bw*16777216^k+16777216^k*v.getD k 0:=by
   rw [←Nat.mul_add,e,Nat.mul_add,Nat.mul_add,Nat.mul_comm _ bw]
  omega
theorem MinI.fin{u v m:List Nat}{bw:Nat}(h:MinI u v m u.length bw)(hv:v.length≤u.length)(hle:AY v≤AY u):AY m=AY u-AY v:=by
 have h1:=h.eq;have h2:=JI m h.ds;rw [List.take_length,List.take_of_length_le hv,h.len] at *;have h3:=h.bit
 rcases Nat.eq_zero_or_pos bw with h0|h0
 ·subst h0;omega
 ·obtain rfl:bw=1:=Y4;omega

theorem DmA(h:qP:=by
 refine ⟨k+1,A4,c4,1,_,Y4,HST.o.2 Y4,rfl,Y5,Y5,(HX.o.alloc _).grown hg4 fun b hb=>(HO.o.blk hb).1,?_⟩;rw [GB];have e:(((d+16777216).toNat:Nat):Int)=d+16777216:=Y4;rw [e,hd]
 simpa using hown4):qP:=h
theorem BnA(h:qP:=by
 go_wp2_with (at_builtin;go_must (refine AC rfl (.tmp 35) (.tmp 37) rfl tiI rfl (HO.o.ext (exaa wr)) rfl (Blk.rd (Blk.new _ _ _)) rfl Y18 Y4 Y17 Y16 ?_);intro A4 c4 w4 hown4 hg4 hat4)
 go_roundw
 case rel =>
  exact DmA
 case measure=>simp [intOf];omega):qP:=h
theorem D9A(h:qP:=by
 refine ⟨k+1,A4,c4,0,_,Y4,HST.o.1 Y4,rfl,Y5,Y5,(HX.o.alloc _).grown hg4 fun b hb=>(HO.o.blk hb).1,?_⟩;rw [GB];have e:((d.toNat:Nat):Int)=d:=Y4;rw [e,hd]
 simpa using hown4):qP:=h
theorem A0A(h:qP:=by
 go_wp2_with (at_builtin;go_must (refine AC rfl (.tmp 35) (.tmp 37) rfl tiI rfl (HO.o.ext (exaa wr)) rfl (Blk.rd (Blk.new _ _ _)) rfl Y18 Y4 Y17 Y16 ?_);intro A4 c4 w4 hown4 hg4 hat4)
 go_roundw
 case rel =>
  exact D9A
 case measure=>simp [intOf];omega):qP:=h
theorem Pj(u v:List Nat)(A B:OA)(c e:Nat)(w:World)(S T:NP)(hu:Ints w S A (Cg u))(hv:Ints w T B (Cg v))(hdu:dgs u)(hdv:dgs v)(htv:trd v)(hle:AY v≤AY u) :
  Cl 257 #[.slice A u.length c,.slice B v.length e] w (Ua w (AY u-AY v)):=by
 have HU:=Hd hu;have HV:=Hd hv;have hul:u.length≤4294967296:=(by have:=hu.2;rwa [EY] at this);have hvl:=Wb htv hdu hle;obtain ⟨HDU,HDV,HLE⟩:=Hd3 hdu hdv hle;clear hu hv hdu hdv htv hle
 go_enter func257,ntmps257
 go_wp2
 go_loopw [5,6,7] (fun o b i wr=>∃ (k:Nat) (A':OA) (c' bw:Nat) (m:List Nat),k≤u.length∧MinI u v m k bw∧o=.slice A' k c'∧b=.I (bw:Int)∧i=.I (k:Int)∧Ext w wr∧Own wr w.heap.size 3 1 A' k c' ((Cg m).map (Value.int .i64))) (fun _ _ i _=>u.length-(intOf i).toNat)
 case atStart=>exact ⟨0,none,0,0,[],AE,⟨rfl,rfl,by simp [dgs],Y4⟩,rfl,rfl,rfl,Ext.refl _,Own.nil _ _ _ _⟩
 case round =>
  obtain ⟨k,A',c',bw,m,hk,hmi,rfl,rfl,rfl,hx,ho⟩:=hrel;obtain ⟨HX,HO,HM⟩:=Hd3 hx ho hmi;have hbw:=hmi.bit;have hsz:=hx.size;clear hx ho hmi;by_cases hlt:k<u.length
  ·obtain ⟨b1,o1,hA,hb1,hc1⟩:=Ce (HU.o.keep (HX.o.kept _)) hlt;subst hA;obtain ⟨d1,hd1⟩:=eqx (u.getD k 0);have hl1:d1<16777216:=(by rw [hd1];exact BP HDU.o k);rw [←hd1] at hc1;have HD1:=Hd hd1;obtain ⟨d2,hd2⟩:=eqx (v.getD k 0);have hl2:d2<16777216:=(by rw [hd2];exact BP HDV.o k);have HD2:=Hd hd2;obtain ⟨d,hd⟩:∃ d:Int,d=(d1:Int)-bw-d2:=⟨_,rfl⟩;have hst:=HM.o.step HDU.o HDV.o (d:=d) (by rw [hd,hd1,hd2]);have HST:=Hd hst;clear hd1 hd2 hst;by_cases hkv:k<v.length
   ·obtain ⟨b2,o2,hB,hb2,hc2⟩:=Ce (HV.o.keep (HX.o.kept _)) hkv;subst hB;have hc3:wr.cell? ⟨b2,o2+k,none⟩=some (.I (d2:Int)):=(by rw [hc2,HD2.o]);clear hc2;by_cases hneg:(d1:Int)-bw-d2<0
    ·exact BnA
    ·exact A0A
   ·have h20:d2=0:=(by rw [HD2.o,List.getD_eq_getElem?_getD,List.getElem?_eq_none Y4];rfl);subst h20;by_cases hneg:(d1:Int)-bw<0
    ·exact BnA
    ·exact A0A
  ·have hk2:k=u.length:=Y4;have hml:=HM.o.len;have hf:AY m=AY u-AY v:=by
    have hmi:=HM.o;rw [hk2] at hmi;exact hmi.fin hvl HLE.o
   obtain ⟨h1,h2,h3,h4,h5⟩:=NE m;have H5:=Hd h5;have hcp:=HO.o.cap;obtain ⟨H3,HR,HF,H2⟩:=Hd4 (h3 HM.o.ds) (FFA (l:=m) (by rw [hml];exact HO.o) Y4 (T:=fun b=>w.heap.size≤b) fun _ h=>h) (h1.trans hf) h2;have hkn:¬m.length<u.length:=Y4;obtain rfl:=hml;clear hf h1 h2 h3 h5 hk2
   go_wp2_with fail
   refine (Sj m A' c' _ _ HR.o hcp).mono ?_;rintro e1 w1 ⟨rfl,rfl⟩;go_wp2;go_ret;exact ⟨A',c',Ck m,rfl,HF.o,H3.o,H2.o,Y4,HR.o.pre H5.o,HX.o⟩

structure TimI(u:List Nat)(d:Nat)(m:List Nat)(k cy:Nat):Prop where
 len:m.length=k
 eq:AY (u.take k)*d=AY m+cy*16777216^k
 ds:dgs m
 lt:cy<16777216
theorem AdA(h:qP:=by
 rw [Nat.mul_comm (s / 16777216),Nat.mul_assoc,←Nat.mul_add,←e]):qP:=h
theorem TimI.step{u m:List Nat}{d k cy:Nat}(h:TimI u d m k cy)(hu:dgs u)(hd:d<16777216){s:Nat}(hs:s=u.getD k 0*d+cy):s<281474976710656∧TimI u d (m++[s % 16777216]) (k+1) (s / 16777216):=by
 have h1:=BP hu k;have h2:u.getD k 0*d≤16777215*16777215:=Nat.mul_le_mul Y4 Y4;have h3:=h.lt;refine ⟨Y4,Y44,?_,Fs h.ds (Nat.mod_lt _ Y17),Y4⟩;rw [Ca,Nat.add_mul,h.eq,DT,h.len,Nat.pow_succ];have e:s=16777216*(s / 16777216)+s % 16777216:=(Nat.div_add_mod _ _).symm;have e2:16777216^k*s=16777216^k*(u.getD k 0*d)+cy*16777216^k:=(by rw [hs,Nat.mul_add,Nat.mul_comm _ cy]);have e3:16777216^k*s=s / 16777216*(16777216^k*16777216)+16777216^k*(s % 16777216):=by
  exact AdA
 rw [Nat.mul_assoc];omega

theorem IG{u:List Nat}{k:Nat}(hk:k<u.length):u.drop k=u.getD k 0::u.drop (k+1):=by
 rw [List.drop_eq_getElem_cons hk];simp [hk]

structure OfI(l:List UInt8)(m:List Nat):Prop where
 eq:AY m+16777216^m.length*nvl (l.take (l.length-3*m.length))=nvl l
 ds:dgs m
theorem Un(k:Nat):(16777216:Nat)^k=256^(3*k):=by rw [show (16777216:Nat)=256^3 by decide,←Nat.pow_mul]
theorem OfI.step{l:List UInt8}{m:List Nat}(h:OfI l m){e:Nat}(he:e+3*m.length=l.length):OfI l (m++[nvl ((l.take e).drop (e-3))]):=by
 have h1:nvl ((l.take e).drop (e-3))<16777216:=by
  have:=FT ((l.take e).drop (e-3));have h2:(256:Nat)^((l.take e).drop (e-3)).length≤256^3:=Nat.pow_le_pow_right Y17 Y16;omega
 refine ⟨?_,Fs h.ds h1⟩;have h2:=h.eq;rw [show l.length-3*m.length=e by omega] at h2;rw [DT,List.length_append,List.length_singleton,show l.length-3*(m.length+1)=e-3 by omega,←h2];have h3:=MZ ((l.take e).take (e-3)) ((l.take e).drop (e-3));rw [List.take_append_drop,List.take_take,Nat.min_eq_left Y4] at h3;rw [h3,Nat.mul_add,Nat.pow_succ];have h4:((l.take e).drop (e-3)).length=e-(e-3):=Y16;rw [h4]
 rcases Nat.lt_or_ge e 3 with h5|h5
 ·rw [show e-3=0 by omega];simp [nvl]
 ·rw [show e-(e-3)=3 by omega,show (256:Nat)^3=16777216 by decide,Nat.mul_comm (nvl _) 16777216,Nat.mul_assoc];omega
theorem OfI.fin{s:BA}{m:List Nat}(h:OfI s.data.toList m)(hc:KH s)(h1:s.size≤3*m.length)(h2:3*m.length≤s.size+2):AY m=AF s∧trd m:=by
 have hl:s.data.toList.length=s.size:=Y3;have h3:=h.eq;rw [show s.data.toList.length-3*m.length=0 by omega,List.take_zero] at h3;have hv:AY m=AF s:=(by rw [show AF s=nvl s.data.toList from rfl,←h3];simp [nvl]);refine ⟨hv,?_⟩;intro ht
 rcases List.eq_nil_or_concat m with rfl|⟨m',d,rfl⟩
 ·simp at ht
 ·rw [List.concat_eq_append] at *;have hd:d=0:=(by simpa using ht);subst hd;rw [Jh] at hv;have h4:=JI m' fun x hx=>h.ds x (by simp [hx]);rw [hv,Un] at h4;have h5:=(DH hc (k:=3*m'.length)).2 h4;simp at h2;omega
theorem Jk(s:BA){st k:Nat}(h1:st≤k)(h2:k<s.size):(s.data.toList.take (k+1)).drop st=(s.data.toList.take k).drop st++[s[k]]:=by
 rw [List.take_succ_eq_append_getElem Y37,DN s k h2,List.drop_append_of_le_length Y16]

theorem IK(s:BA)(hs:s.size≤4294967296)(w:World):Cl 254 #[.string s] w (Ua w (AF s)):=by
 go_enter func254,ntmps254
 go_wp2_with fail
 refine (CG s hs _).mono ?_;rintro e1 w1 ⟨r,⟨rfl,rfl⟩,hv,hc,hsz⟩;have HV:=Hd hv;have HC:=Hd hc;have hr:r.size≤4294967296:=Y4;have hrl:r.data.toList.length=r.size:=Y3;have HRL:=Hd hrl;clear hv hc hsz hrl;go_wp2
 go_loopw [3,4] (fun o e wr=>∃ (A':OA) (c':Nat) (m:List Nat),OfI r.data.toList m∧3*m.length≤r.size+2∧o=.slice A' m.length c'∧e=.I ((r.size:Int)-3*m.length)∧Ext w wr∧Own wr w.heap.size 3 1 A' m.length c' ((Cg m).map (Value.int .i64))) (fun _ e _=>(intOf e+2).toNat)
 case atStart=>exact ⟨none,0,[],⟨by simp only [AY,List.length_nil,Nat.pow_zero,Nat.mul_zero,Nat.sub_zero,List.take_length];omega,by simp [dgs]⟩,Y3,rfl,Y3,Ext.refl _,Own.nil _ _ _ _⟩
 case round =>
  obtain ⟨A',c',m,hm,hml,rfl,rfl,hx,ho⟩:=hrel;obtain ⟨HX,HO,HM⟩:=Hd3 hx ho hm;have hsz:=hx.size;clear hx ho hm;by_cases hlt:3*m.length<r.size
  ·obtain ⟨e,he⟩:∃ e:Nat,e+3*m.length=r.size:=⟨r.size-3*m.length,Y4⟩;have he2:(r.size:Int)-3*m.length=(e:Int):=Y4;rw [he2];obtain ⟨st,hst⟩:=eqx (e-3);have hmx:max ((e:Int)-3) 0=(st:Int):=Y4;have HMX:=Hd hmx;have HST:=Hd hst;have hst1:st≤e:=Y4;have hst3:e≤st+3:=Y4;have HHE:=Hd he;have her:e≤r.size:=Y4;have he0:0<e:=Y4;have hle:=HM.o.step (e:=e) (by rw [HRL.o];exact he);have HLE:=Hd hle;have hgo:∀ k,st≤k→k≤e→nvl ((r.data.toList.take k).drop st)<16777216:=fun k h1 h2=>by
    have h3:=FT ((r.data.toList.take k).drop st);have h4:(256:Nat)^((r.data.toList.take k).drop st).length≤256^3:=Nat.pow_le_pow_right Y17 Y16;omega
   have HGO:=Hd hgo;clear he2 hst hmx hle hgo;go_wp2;rw [HMX.o]
   go_loop [5,6] (fun d k'=>∃ k:Nat,st≤k∧k≤e∧d=.I (nvl ((r.data.toList.take k).drop st):Int)∧k'=.I (k:Int)) (fun _ k'=>e-(intOf k').toNat)
   case atStart=>exact ⟨st,AS,hst1,by rw [List.drop_of_length_le Y16];rfl,rfl⟩
   case round =>
    obtain ⟨k,hk1,hk2,rfl,rfl⟩:=hrel;have hbd:=HGO.o k hk1 hk2;obtain ⟨d,hd⟩:=eqx (nvl ((r.data.toList.take k).drop st));rw [←hd] at hbd⊢;have HD:=Hd hd;clear hd;by_cases hke:k<e
    ·have hkr:k<r.size:=Y4;have hb2:=HGO.o (k+1) Y4 Y4;have hsn:=Jk r hk1 hkr;rw [hsn,Hs,←HD.o] at hb2;have HSN:=Hd hsn;clear hsn;go_wp2
     go_round
     case rel=>exact ⟨k+1,Y4,Y4,by rw [HSN.o,Hs,←HD.o];go_num,Y5⟩
     case measure=>simp [intOf];omega
    ·obtain rfl:k=e:=Y4;rw [HST.o] at HD
     go_wp2_with (at_builtin;go_must (refine AC rfl (.tmp 30) (.tmp 32) rfl tiI rfl (HO.o.ext (exaa wr)) rfl (Blk.rd (Blk.new _ _ _)) rfl Y18 Y4 Y17 Y16 ?_);intro A4 c4 w4 hown4 hg4 hat4)
     go_roundw
     case rel =>
      refine ⟨A4,c4,m++[d],by rw [HD.o];exact HLE.o,by have:=HHE.o;simp;omega,Y3,by have:=HHE.o;simp;omega,(HX.o.alloc _).grown hg4 fun b hb=>(HO.o.blk hb).1,?_⟩;rw [GB]
      simpa using hown4
     case measure=>simp [intOf];omega
  ·obtain ⟨hv,ht⟩:=HM.o.fin HC.o Y4 hml;have hcp:=HO.o.cap;obtain ⟨HF,HT,HD,HR⟩:=Hd4 (hv.trans HV.o) ht HM.o.ds (FFA HO.o Y4 (T:=fun b=>w.heap.size≤b) fun _ h=>h);have hneg:(r.size:Int)-3*m.length≤0:=Y4;clear hv ht;go_wp2;go_ret;exact ⟨A',c',m,rfl,HF.o,HD.o,HT.o,hcp,HR.o,HX.o⟩

theorem Kept.cell{S:NP}{w w':World}(h:Kept S w w'){p:Addr}{u:Value}(hs:S p.block)(hc:w.cell? p=some u):w'.cell? p=some u:=by
 have hp:p.block<w.heap.size:=by
  exact Z1
 exact (World.cell?_of_block (w:=w) (h.2 p.block hs hp)).trans hc
def by3(d:Nat):List Value:=[.int .u8 (IntKind.u8.wrap ((d:Int) / 65536)),.int .u8 (IntKind.u8.wrap ((d:Int) / 256)),.int .u8 (IntKind.u8.wrap (d:Int))]
theorem MW(n:Int):IntKind.u8.wrap n=n % 256:=by simp [IntKind.wrap,IntKind.signed,IntKind.bits]
def Ji:List Nat→List Int
 |[]=>[]
 |d::l=>Ji l++[IntKind.u8.wrap ((d:Int) / 65536),IntKind.u8.wrap ((d:Int) / 256),IntKind.u8.wrap (d:Int)]
theorem NG:∀ l:List Nat,(Ji l).length=3*l.length
 |[]=>rfl
 |d::l=>by simp [Ji,NG l];omega
theorem Kv:∀ l:List Nat,dgs l→AF (strOfNums (Ji l))=AY l
 |[],_=>by simp [AF,strOfNums,Ji,nvl,AY]
 |d::l,h=>by
  have ih:=Kv l fun x hx=>h x (List.mem_cons_of_mem _ hx);have hd:=h d List.mem_cons_self;unfold AF at ih⊢;rw [strOfNums_data] at ih⊢;simp only [Ji,List.map_append,List.map_cons,List.map_nil];rw [MZ,ih];have h1:∀ n:Nat,n<256→(UInt8.ofNat (n:Int).toNat).toNat=n:=fun n hn=>by rw [Int.toNat_natCast,UInt8.toNat_ofNat'];omega
  have e1:((d:Int) / 65536 % 256)=((d / 65536 % 256:Nat):Int):=Y3;have e2:((d:Int) / 256 % 256)=((d / 256 % 256:Nat):Int):=Y3;have e3:((d:Int) % 256)=((d % 256:Nat):Int):=Y3;rw [MW,MW,MW,e1,e2,e3];simp only [nvl,List.foldl_cons,List.foldl_nil,List.length_cons,List.length_nil,AY];rw [h1 _ Y4,h1 _ Y4,h1 _ Y4];omega
theorem Vi(h:qP:=by
 have c1:=(hR.o.kept0 (S:=fun b=>b<w.heap.size) (fun b hb m hm=>by have:=HB.o m b hm;omega)).cell (p:=⟨b1,o1+j,none⟩) hbw HC1.o;exact Qk):qP:=h
theorem Zi(h:qP:=by
 rintro v γ w1 γ' w2 r ⟨A4,c4,h1,h2,h3,h4⟩;exact ⟨A4,c4,h1,h2.keep (r.keptS fun b _ e=>⟨h4 b e,fun m hm=>by rw [hm.1,h3,r.done _ h3]⟩),r.done _ h3,fun b hb=>r.free (h2.blk hb).2 (h4 b hb)⟩):qP:=h
theorem Y45(h:qP:=by rw [hm.1];exact hk0):qP:=h
theorem Y46(h:qP:=by have:=HN.o;omega):qP:=h
theorem Gc(l:List Nat)(A:OA)(c:Nat)(w:World)(S:NP)(hl:Ints w S A (Cg l))(hd:dgs l)(hlen:l.length≤1000000) :
  Cl 255 #[.slice A l.length c] w (Ie w (AY l)):=by
 have HL:=Hd (hl.mono (T:=fun b=>b<w.heap.size) fun b hb _=>hb);have HD:=Hd hd;clear hl hd
 go_enter func255,ntmps255
 go_wp2
 go_loopw [3,4] (fun o i wr=>∃ (j:Nat) (A':OA) (c' n:Nat),j≤l.length∧n=3*(l.length-j)∧o=.slice A' n c'∧i=.I ((j:Int)-1)∧Ext w wr∧Own wr w.heap.size 5 1 A' n c' ((Ji (l.drop j)).map (Value.int .u8))) (fun _ i _=>(intOf i+1).toNat)
 case atStart=>exact ⟨l.length,none,0,0,AS,Y4,rfl,rfl,Ext.refl _,by rw [List.drop_length];exact Own.nil _ _ _ _⟩
 case round =>
  obtain ⟨j,A',c',n,hj,hn,rfl,rfl,hx,ho⟩:=hrel;have HX:=Hd hx;have HO:=Hd ho;have hsz:=hx.size;have HN:=Hd hn;have hn3:n≤3000000:=Y4;clear hx ho hn;cases j with
  |zero =>
   obtain ⟨L,hL⟩:=eqx (Ji l);have hLn:L.length=n:=(by rw [hL,NG,HN.o];omega);have ho:=HO.o;rw [List.drop_zero,←hL] at ho;have HV:=Hd (show AF (strOfNums L)=AY l by rw [hL];exact Kv l HD.o)
   rcases ho.2 with ⟨hv,h0⟩|⟨g,cap,cur,hv,hb,hh,hnc,hcm,hcs,ht⟩
   ·obtain ⟨rfl,rfl⟩:A'=none∧c'=0:=Y39;subst h0;have hL0:L=[]:=List.eq_nil_of_length_eq_zero hLn;have hcv:=run_convert_bytes_nil (P:=prog) wr 85 5 underlying85 underlying5 0 0 166 underlying166;have HV2:=Hd (show AF ByteArray.empty=AY l by rw [←HV.o,hL0];rfl);clear ho hv hL hLn hL0
    go_wp2_with fail
    refine (CG ByteArray.empty Y3 _).mono ?_;rintro e1 w1 ⟨r,⟨rfl,rfl⟩,hv,hc,hsz⟩;obtain ⟨HR,HC,HS⟩:=Hd3 (hv.trans HV2.o) hc (show r.size≤4294967296 by have:ByteArray.empty.size=0:=rfl;omega);clear hv hc hsz;go_wp2;go_ret;exact ⟨r,rfl,HR.o,HC.o,HS.o,HX.o⟩
   obtain ⟨rfl,rfl⟩:A'=some ⟨g,0,none⟩∧c'=cap:=Y39;have hcv:=run_convert_bytes_arg (P:=prog) wr 85 5 underlying85 underlying5 g 0 n c' L hLn (fun i hi=>by
    obtain ⟨b,o,hA,-,hc⟩:=(Own.rd ho).at_ (k:=i) (u:=.int .u8 (L.getD i 0)) (by
     rw [List.getElem?_map,List.getElem?_eq_getElem (by rw [hLn];exact hi)];simp [List.getD,List.getElem?_eq_getElem (show i<L.length by rw [hLn];exact hi)])
    exact WG) 166 underlying166
   clear ho hv hb hh hnc hcm hcs ht hL
   go_wp2_with fail
   refine (CG (strOfNums L) (by rw [strOfNums_size,hLn];omega) _).mono ?_;rintro e1 w1 ⟨r,⟨rfl,rfl⟩,hv,hc,hsz⟩;rw [strOfNums_size,hLn] at hsz;have HR:=Hd (hv.trans HV.o);have HC:=Hd hc;clear hv hc hLn;go_wp2;go_ret;exact ⟨r,rfl,HR.o,HC.o,Y4,HX.o⟩
  |succ j =>
   obtain ⟨b1,o1,hA,hb1,hc1⟩:=Ce (HL.o.keep (HX.o.kept _)) (k:=j) Y4;subst hA;have hbw:b1<w.heap.size:=by
    obtain ⟨b,o,h1,h2,-⟩:=(Ce HL.o (k:=j) Y4);injection h1 with h1;injection h1 with h1;omega
   obtain ⟨d,hdd⟩:=eqx (l.getD j 0);have hd24:d<16777216:=(by rw [hdd];exact BP HD.o j);rw [←hdd] at hc1;have HC1:=Hd hc1;have HDD:=Hd hdd;have hj1:((j+1:Nat):Int)-1=(j:Int):=Y4;rw [hj1];have i0:(0:Int)≤(j:Int):=Y4;have i1:(j:Int)<(l.length:Int):=Y4;have HB:=Hd (show ∀ m b,(m=1019∧ob A'=some b)→w.heap.size≤b from fun m b h=>(HO.o.blk h.2).1);clear hj1 hc1 hdd
   go_upto_region 5 with fail
   refine Qb (fun i=>[i]) (fun m b=>m=1019∧ob A'=some b) [(19,[1019])] ?_
   iterate 4 refine Qp ?_
   refine Qm (fun vals γ w' ρ hR hN hp hρ zs zg=>by
    exact Vi) ?_
   iterate 5 refine Qp ?_
   refine Qm (fun vals γ w' ρ hR hN hp hρ zs zg=>by
    exact Vi) ?_
   iterate 5 refine Qp ?_
   refine Qm (fun vals γ w' ρ hR hN hp hρ zs zg=>by
    exact Vi) ?_
   refine Qp ?_;refine Qs (FP fun v γ w'=>∃ g:Nat,v=.slice (some ⟨g,0,none⟩) 3 3∧Blk w' g 5 (by3 d).toArray∧C4 γ g∧wr.heap.size≤g) (EuA ?_) ?_ ?_
   ·rintro v γ w1 γ' w2 r ⟨g,h1,h2,h3,h4⟩;exact ⟨g,h1,h2.keep (r.keptS fun b _ e=>⟨e ▸ h3,fun m hm=>by have:=HO.o.blk hm.2;omega⟩),r.free h2.lt h3,h4⟩
   ·intro vals γ w' ρ hR hN hp hρ zs zg;have HR:=hR;refine Qr ?_;exact ⟨γ,E6A _ γ (exaa _),fun _ _ _ h=>h,_,rfl,Blk.new _ _ _,fun ⟨k',hk'⟩=>by have:=HR.o.inb0 k' _ hk';omega,HR.o.size⟩
   refine Chain.step (FP fun v γ w'=>∃ (A4:OA) (c4:Nat),v=.slice A4 (n+3) c4∧Own w' w.heap.size 5 1 A4 (n+3) c4 ((Ji (l.drop (j+1))).map (Value.int .u8)++by3 d)∧γ 1019=some none∧∀ b,ob A4=some b→C4 γ b) Y41 (EuA ?_) ?_ ?_
   ·exact Zi
   ·intro vals γ w' ρ hR hN hp hρ hc hf hg;refine ⟨rfl,?_⟩;have e12:ρ (.tmp 12)=_:=(hρ 12).trans (hp 0 Y17);obtain ⟨g,hv,hb,hf,hg⟩:=hp 18 Y17;have e30:=(hρ 30).trans hv;have hk0:=hR.key0 hN (k:=1019) Y17 Y17;have ho:=HO.o.keep ((Kept.drew _ wr).trans (hR.keptS (S:=fun b=>ob A'=some b) fun b _ hb=>⟨Is b,fun m hm=>Y45⟩));refine Bw (.tmp 12) (.tmp 30) rfl VR e12 ho e30 (Blk.rd hb) rfl (by simp [by3,Value.oneCell']) Y4 Y17 (by have:=hR.size;have e:wr.drew.heap.size=wr.heap.size:=rfl;omega) ?_;intro A4 c4 w4 hown4 hg4 hat4;refine ⟨γ.put 1019 none,FCA hk0 hg4.os hg4.tape hg4.output hg4.size (fun b hb hm=>hg4.block b hb fun e=>hm ⟨rfl,e.symm⟩),LM.done Y17 (.inr Y17),A4,c4,rfl,hown4,rfl,fun b hb => ?_⟩;rintro ⟨k',hk'⟩;have hk2:γ k'=some (some b):=(by unfold Gh.put at hk';split at hk';(cases hk');exact hk');have hl:=hR.inb0 k' b hk2
    rcases hat4 with e|e
    ·have:=hR.old k' b hk2 (by have:=(HO.o.blk (e ▸ hb)).2;exact this);cases this
    ·rw [hb] at e;injection e with e;omega
   refine Qs (FP fun v γ w'=>∃ (A4:OA) (c4:Nat),v=.slice A4 (n+3) c4∧Own w' w.heap.size 5 1 A4 (n+3) c4 ((Ji (l.drop (j+1))).map (Value.int .u8)++by3 d)∧γ 1019=some none∧∀ b,ob A4=some b→C4 γ b) (EuA ?_) ?_ ?_
   ·exact Zi
   ·intro vals γ w' ρ hR hN hp hρ zs zg;have hg:=hp.o 19 Y17;have e31:=hρ.o 31;(conv at e31=>rhs;whnf);have HG:=Hd hg;clear hg;refine Qr ?_;exact ⟨γ,LX.refl _ _ _,fun _ _ _ h=>h,HG.o⟩
   intro vals γ w9 hR hG;obtain ⟨g18,v18,-⟩:=hG 18 Y17;obtain ⟨A19,c19,v19,-⟩:=hG 19 Y17;obtain ⟨A4,c4,v20,hown4,-⟩:=hG 20 Y17;refine Qx ?_;simp only [v18,v19,v20];clear v18 v19 v20;have HX9:=Hd (hR.extB HX.o HB.o);clear hR hG;go_wp2;go_roundw
   case rel =>
    refine ⟨j,A4,c4,n+3,Y4,Y46,rfl,Y5,HX9.o,?_⟩;rw [IG (u:=l) (k:=j) Y4,←HDD.o]
    simpa [Ji,by3] using hown4
   case measure=>simp [intOf]
end Go.Proofs.YtidacnalcdhckaaGreatDoor
