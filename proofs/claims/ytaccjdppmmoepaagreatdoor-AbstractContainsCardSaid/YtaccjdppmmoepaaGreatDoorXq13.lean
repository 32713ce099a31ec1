/- Lemmas. No conditions. -/
import Derived.Test.YtaccjdppmmoepaaGreatDoorXq12
import Derived.RangeFuncNested
import Derived.RangeFuncBound
import Derived.RangeFuncCalls
import Derived.RangeFuncLeaves
import Derived.Shelf.Abstract
import Derived.Shelf.RegionOpen
import Derived.WalkKit
import Derived.OwnWalkIn
import Derived.TacticsInMore
import Derived.LoopNIn
import Derived.LoopIn
import Derived.RangeFuncOwn
set_option maxRecDepth 100000
set_option maxHeartbeats 4000000
namespace Go.Proofs.YtaccjdppmmoepaaGreatDoor
open Go Go.RowKit Tryz
variable {qP:Prop}

def Jd(n0:Nat)(P:Program)(K:Value->World->Prop):Result Next->Prop
 |.ok (.value v) J=>K v J
 |.ok .skip J=>K undef J
 |.ok (.enter f args) J=>Calls P f args J λe w''=>∃ v,e=.returned v/\K v w''
 |.ok (.round l f tmps assign body) J=>RoundIn Fence.wide (n0-1) P l f tmps assign body J λe w''=>∃ v,e=.returned v/\K v w''
 |_=>False
def LinStepY{Γ:Type}(n0:Nat)(P:Program)(ops:Array Oper)(D:Nat->List Nat)(R:Γ->World->Γ->World->Prop)(N:Nat->Γ->Prop)(G:Nat->List Value->Γ->World->Prop)(a0:Act)(γ0:Γ)(w0:World)(i:Nat)(o:Oper):Prop :=
 ∀ (V:Nat->Value) (F:Γ) (w:World),R γ0 w0 F w->N i F->(∀ j,j∈AV o->G j ((D j).map V) F w) ->
  if AY o V then Jd n0 P (λv J=>∃ γ',R F w γ' J/\(∀ j,j≠i->j ∉ AV o->N j F->N j γ')/\G i ((D i).map (F3 V i v)) γ' J) ((execOp (Hm ops o a0 V) o).run P w)
  else G i ((D i).map (F3 V i undef)) F w

section
variable {P:Program}{ops:Array Oper}{Q:Exit->Act->World->Prop}
theorem NZ{Γ:Type}{n0:Nat}{id:Nat}{a0:Act}{w0:World}(hnf:ops.all J3=true)(hm:P.follows .mixedOrders=true)(D:Nat->List Nat)(hB:R8 ops D a0.tmps.size=true)
  (R:Γ->World->Γ->World->Prop) (hrefl:∀ F w,R F w F w) (htrans:∀ F w γ' J γ'' w'',R F w γ' J->R γ' J γ'' w''->R F w γ'' w'')
  (N:Nat->Γ->Prop) (G:Nat->List Value->Γ->World->Prop) (hst:∀ i l F w γ' J,R F w γ' J->G i l F w->G i l γ' J) (γ0:Γ) (hN:∀ i,N i γ0)
  (hstep:∀ i o,ops[i]?=some o->LinStepY n0 P ops D R N G a0 γ0 w0.drew i o)
  (hfin:∀ V F w,R γ0 w0.drew F w->(∀ i,i<ops.size->G i ((D i).map V) F w)->Q .normal (Ah V ops.toList 0 a0) w) :
  (Code.region id ops true).wpIn Fence.wide n0 P Q a0 w0:=by
 obtain ⟨hsel,hnd,hlt,hacyc,hD,hguard,hlook⟩:=GH hB;have main:∀ (O:Nat) (listed:Array Bool) (a:Act) (w:World) (V:Nat->Value) (F:Γ),LinInv ops D R N G a0 γ0 w0.drew listed a w V F ->
   (List.range ops.size).countP (λi => !listed.getD i true)<=O->wpAnyIn Fence.wide n0 P .any ops Q O listed a w:=by
  intro O;have fin:∀ (listed:Array Bool) (a:Act) (w:World) (V:Nat->Value) (F:Γ),LinInv ops D R N G a0 γ0 w0.drew listed a w V F->(∀ j,j<ops.size->listed.getD j false=true)->Q .normal a w:=by
   exact MJ
  have U:∀ (listed:Array Bool),listed.size=ops.size->Region.ready .any ops listed=[]->∀ j,j<ops.size->listed.getD j false=true:=by
   exact Mc
  induction O with
  |zero =>
   exact MY
  |succ O ih =>
   intro listed a w V F I hc;refine ⟨λhr=>fin listed a w V F I (U listed I.size hr),λi hi => ?_⟩;obtain ⟨h0,o,ho,hpre⟩:=mem_ready.1 hi;have hil:i<ops.size:=(Array.getElem?_eq_some_iff.1 ho).1;have hisz:i<listed.size:=(by rw [I.size];exact hil);have hun:listed.getD i false=false:=(by rw [<-GB hisz];exact h0);have hpl:∀ j,j∈AV o->listed.getD j false=true:=by
    exact LG
   have hslot:∀ t,t∈o.looksAt ops->a.tmps.getD t undef=Fi ops o a0 V t:=by
    exact Md
   have Z:execOp a.eval o=execOp (Hm ops o a0 V) o:=by
    exact Lm
   have Y:Region.wanted o (yielded ops a.tmps)=AY o V:=by
    exact LF
   have a8:∀ j,j∈AV o->G j ((D j).map V) F w:=λj hj=>I.facts j (by have:=hacyc i o j ho hj;omega) (hpl j hj);have hS:=hstep i o ho V F w I.rel (I.open_ i hil hun) a8;have next:∀ (v:Value) (γ':Γ) (J:World),R F w γ' J->(∀ j,j≠i->j ∉ AV o->N j F->N j γ')->G i ((D i).map (F3 V i v)) γ' J->wpAnyIn Fence.wide n0 P .any ops Q O (listed.setIfInBounds i true) (a.put o.dst v) J:=by
    exact MK
   unfold wpOpIn;simp only [ho];rw [Y];by_cases hw:AY o V=true
   ·rw [if_pos hw] at hS|-;refine ⟨λ_ _=>trivial,?_⟩;rw [Oper.semAt_plain _ _ _ (NJ hnf ho),Z];generalize (execOp (Hm ops o a0 V) o).run P w=r at hS;cases r with
    |ok n J =>
     cases n<;>simp only [Jd] at hS<;>simp only [Oper.uponIn]
     case value v=>obtain ⟨γ',h1,hn,h2⟩:=hS;exact next v γ' J h1 hn h2
     case skip=>obtain ⟨γ',h1,hn,h2⟩:=hS;exact next undef γ' J h1 hn h2
     case enter f args =>
      exact Qq
     case round l f tmps assign body =>
      refine ⟨λh=>Ck,hS.mono ?_⟩;exact Oo
    |halt x J=>simp only [Jd] at hS
   ·exact PB
 exact SW
end
def ChainY{Γ:Type}(n0:Nat)(P:Program)(ops:Array Oper)(D:Nat->List Nat)(R:Γ->World->Γ->World->Prop)(N:Nat->Γ->Prop)(a0:Act)(γ0:Γ)(w0:World)(Qf:List (Ft Γ)->Prop):Nat->List (Ft Γ)->List Oper->Prop
 |_,done,[]=>Qf done.reverse
 |k,done,o::rest=>∃ Φ:Ft Γ,O8 R Φ/\LinStepY n0 P ops D R N (gOf (Φ::done).reverse) a0 γ0 w0 k o/\ChainY n0 P ops D R N a0 γ0 w0 Qf (k+1) (Φ::done) rest
section
variable {Γ:Type}{n0:Nat}{P:Program}{ops:Array Oper}{D:Nat->List Nat}{R:Γ->World->Γ->World->Prop}{N:Nat->Γ->Prop}{a0:Act}{γ0:Γ}{w0:World}{Qf:List (Ft Γ)->Prop}
theorem ChainY.full:∀ {rest:List Oper} {k:Nat} {done:List (Ft Γ)},done.length=k->(∀ Φ∈done,O8 R Φ)->ChainY n0 P ops D R N a0 γ0 w0 Qf k done rest ->
  ∃ Φs:List (Ft Γ),Φs.take k=done.reverse/\(∀ Φ∈Φs,O8 R Φ)/\Qf Φs/\∀ i o,rest[i]?=some o->LinStepY n0 P ops D R N (gOf (Φs.take (k+i+1))) a0 γ0 w0 (k+i) o
 |[],k,done,hk,hd,h=>⟨done.reverse,by rw [<-hk,<-List.length_reverse];exact List.take_length,λΦ hΦ=>hd Φ (by simpa using hΦ),h,AC⟩
 |o::rest,k,done,hk,hd,h=>by
  obtain ⟨Φ,h1,h2,h3⟩:=h;obtain ⟨Φs,e1,e2,e3,e4⟩:=ChainY.full (rest:=rest) (k:=k+1) (done:=Φ::done) AF (λΨ hΨ=>by
   exact UR) h3
  exact VF
theorem LinStepY.congr{G G':Nat->List Value->Γ->World->Prop}{i:Nat}{o:Oper}(hp:∀ j∈AV o,G j=G' j)(hi:G i=G' i)(h:LinStepY n0 P ops D R N G a0 γ0 w0 i o):LinStepY n0 P ops D R N G' a0 γ0 w0 i o:=by
 exact SQ
end
theorem Gg{Γ:Type}{P:Program}{n0:Nat}{l:List Oper}{Q:Exit->Act->World->Prop}{id:Nat}{a0:Act}{w0:World}(hnf:l.toArray.all J3=true)(hm:P.follows .mixedOrders=true)(D:Nat->List Nat)(hB:R8 l.toArray D a0.tmps.size=true)
  (R:Γ->World->Γ->World->Prop) (hrefl:∀ F w,R F w F w) (htrans:∀ F w γ' J γ'' w'',R F w γ' J->R γ' J γ'' w''->R F w γ'' w'')
  (N:Nat->Γ->Prop) (γ0:Γ) (hN:∀ i,N i γ0)
  (h:ChainY n0 P l.toArray D R N a0 γ0 w0.drew (λΦs=>∀ V F w,R γ0 w0.drew F w->(∀ i,i<l.length->gOf Φs i ((D i).map V) F w)->Q .normal (Ah V l 0 a0) w) 0 [] l) :
  (Code.region id l.toArray true).wpIn Fence.wide n0 P Q a0 w0:=by
 obtain ⟨Φs,-,h2,h3,h4⟩:=ChainY.full (k:=0) (done:=[]) rfl (λ_ h=>Ck) h;obtain ⟨-,-,-,hac,-⟩:=GH hB;refine NZ hnf hm D hB R hrefl htrans N (gOf Φs) (λi l F w γ' J r hg => ?_) γ0 hN (λi o hi => ?_) (λV F w hr hg=>h3 V F w hr λi hi=>hg i Bp)
 ·exact La
 ·exact Me

section
variable {Γ:Type}{n0:Nat}{P:Program}{ops:Array Oper}{D:Nat->List Nat}{R:Γ->World->Γ->World->Prop}{N:Nat->Γ->Prop}{a0:Act}{γ0:Γ}{w0:World}{Qf:List (Ft Γ)->Prop}{done:List (Ft Γ)}{o:Oper}{rest:List Oper}
theorem ChainY.step{k:Nat}(Φ:Ft Γ)(hk:done.length=k)(hst:O8 R Φ)
  (h:∀ V F w L,Xy ops D R N a0 γ0 w0 k done o V F w L (AY o V=true/\Jd n0 P (λv J=>∃ γ',R F w γ' J/\(∀ j,j≠k->j ∉ AV o->N j F->N j γ')/\Φ ((D k).map (F3 V k v)) γ' J) ((execOp L o).run P w)))
  (next:ChainY n0 P ops D R N a0 γ0 w0 Qf (k+1) (Φ::done) rest):ChainY n0 P ops D R N a0 γ0 w0 Qf k done (o::rest):=by
 exact Rb
theorem H5A{k:Nat}{x:Value}(hrefl:∀ F w,R F w F w)(hk:done.length=k)
  (h:∀ V F w L,Xy ops D R N a0 γ0 w0 k done o V F w L (AY o V=true/\Jd n0 P (λv J=>v=x/\J=w) ((execOp L o).run P w)))
  (hD:D k=[k]) (next:ChainY n0 P ops D R N a0 γ0 w0 Qf (k+1) (FV x::done) rest):ChainY n0 P ops D R N a0 γ0 w0 Qf k done (o::rest):=by
 refine ChainY.step (FV x) hk (IPA x) (λV F w L hR hN hp h1 h2 h3 h4 => ?_) next;obtain ⟨g1,g2⟩:=h V F w L hR hN hp h1 h2 h3 h4;refine ⟨g1,?_⟩;have key:∀ v J,v=x/\J=w->∃ γ',R F w γ' J/\(∀ j,j≠k->j ∉ AV o->N j F->N j γ')/\FV x ((D k).map (F3 V k v)) γ' J:=by
  exact QB
 revert g2
 cases (execOp L o).run P w with
 |ok n J =>
  cases n with
  |value v=>exact key v J
  |skip=>exact key undef J
  |enter f args=>exact λg2=>g2.mono λe w'' ⟨v,e1,e2⟩=>⟨v,e1,key v w'' e2⟩
  |round l f tmps assign body=>exact λg2=>g2.mono λe w'' ⟨v,e1,e2⟩=>⟨v,e1,key v w'' e2⟩
  |_=>exact id
 |_=>exact id
end

def Rdy(r:Loop)(l D:Nat)(W:World):Prop:=W.heap[l]?=some (.loop r)/\W.heap[D]?=some (.deferred (some []))/\D<l
def HzA{β:Type}(B:Nat)(J_:β->World->Prop):Prop:=∀ (s:β) (W:World) (l:Nat) (o o':Obj),B<=l->J_ s W->W.heap[l]?=some o->o.isCells=false->J_ s (W.putObj l o')
theorem Rdy.others{r:Loop}{l D:Nat}{W W':World}(h:Rdy r l D W)(k:KeepsOthers W W'):Rdy r l D W':=⟨k.same _ _ h.1 rfl,k.same _ _ h.2.1 rfl,h.2.2⟩
section
variable {F_:Fence}{n:Nat}{P:Program}
end
end Go.Proofs.YtaccjdppmmoepaaGreatDoor
namespace Go.Proofs.YtaccjdppmmoepaaGreatDoor
open Go Go.RowKit Go.Shelf Tryz
variable {qP:Prop}
attribute [local go_sem] Oper.semAt_some

end Go.Proofs.YtaccjdppmmoepaaGreatDoor
namespace Go.Proofs.YtaccjdppmmoepaaGreatDoor
open Go Go.RowKit Go.Shelf Tryz
variable {qP:Prop}{W W' w:World}{b g i l t:Nat}{cs:Array Value}
attribute [local go_sem] Oper.semAt_some

structure RgJ(w:World)(g:Nat)(i:Nat)(W:World):Prop where
 ext:Ext w W
 res:Blk W g 4 #[.bool false]
 yr:Blk W (g+1) 3 #[.I (if 1<=i then 1 else 0)]
 mo:Blk W (g+1+1) 3 #[.I (if 3<=i then 1 else 0)]
 da:Blk W (g+1+1+1) 3 #[.I (if 5<=i then 1 else 0)]
 sh:Blk W (g+1+1+1+1) 4 #[.bool false]
theorem Blk.calm{o o':Obj}(h:Blk W b t cs)(hl:W.heap[l]?=some o)(ho:o.isCells=false):Blk (W.putObj l o') b t cs:=by
 have hbl:b≠l:=by
  intro e;subst e;unfold Blk at h;rw [h] at hl;injection hl with hl;subst hl;cases ho
 unfold Blk at h|-;rw [World.putObj_heap_other hbl];exact h
theorem RgJ.calm(w:World)(g:Nat):HzA w.heap.size (RgJ w g):=by
 intro i W l o o' hB h hl ho;exact ⟨⟨h.ext.os,h.ext.tape,h.ext.output,by simp only [World.putObj_size];exact h.ext.size,λb hb=>by rw [World.putObj_heap_other AA];exact h.ext.block b hb⟩,h.res.calm hl ho,h.yr.calm hl ho,h.mo.calm hl ho,h.da.calm hl ho,h.sh.calm hl ho⟩
theorem RgJ.keep(h:RgJ w g i W)(hx:Ext w W')(k:∀ b,b<W.heap.size->b<g+5->W'.heap[b]?=W.heap[b]?)(hs:W.heap.size<=W'.heap.size):RgJ w g i W':=by
 have hk:Kept (λb=>b<g+5) W W':=⟨hs,λb hb hl=>k b hl hb⟩;exact ⟨hx,h.res.keep (hk.mono λb _ e=>AA),h.yr.keep (hk.mono λb _ e=>AA),h.mo.keep (hk.mono λb _ e=>AA),h.da.keep (hk.mono λb _ e=>AA),h.sh.keep (hk.mono λb _ e=>AA)⟩
theorem RgJ.more(h:RgJ w g i W)(hx:Ext W W'):RgJ w g i W':=h.keep (h.ext.trans hx) (λb hb _=>hx.block b hb) hx.size
theorem Ext.putObj{a b:World}(h:Ext a b)(hl:a.heap.size<=l)(o:Obj):Ext a (b.putObj l o):=⟨h.os,h.tape,h.output,by simp only [World.putObj_size];exact h.size,λk hk=>by rw [World.putObj_heap_other AA];exact h.block k hk⟩
theorem Ext.others(h:Ext W W'):KeepsOthers W W':=⟨h.size,λk _ hk _=>(h.block k (Array.getElem?_eq_some_iff.1 hk).1).trans hk⟩
theorem Blk.off{u:Value}(h:Blk W b t cs)(hne:b≠g):Blk (W.setCell ⟨g,i,none⟩ u) b t cs:=h.keep (Kept.set2 (Kept.refl _ _) (λe=>hne e.symm))
theorem Rdy.ext{r:Loop}{D:Nat}(h:Rdy r l D W)(hx:Ext W W'):Rdy r l D W':=by
 have h1:=(Array.getElem?_eq_some_iff.1 h.1).1;have h2:=h.2.2;exact ⟨(hx.block l h1).trans h.1,(hx.block D AA).trans h.2.1,h2⟩
theorem IOA(hb:b=w.heap.size):Blk (w.alloc (.cells cs t)) b t cs:=by rw [hb];exact Blk.new _ _ _
end Go.Proofs.YtaccjdppmmoepaaGreatDoor
namespace Go.Proofs.YtaccjdppmmoepaaGreatDoor
open Go Go.RowKit Go.Shelf Tryz
variable {qP:Prop}{w J:World}
attribute [local go_sem] Oper.semAt_some

theorem OY{p:Addr}{u:Value}(h:w.cell? p=some u):p.block<w.heap.size:=by
 unfold World.cell? at h
 rcases Nat.lt_or_ge p.block w.heap.size with h1|h1
 ·exact h1
 ·rw [Array.getElem?_eq_none h1] at h;cases h
def RY(C:World->Prop)(F:Nat)(w:World)(γ':Nat)(J:World):Prop:=(γ'=F/\J=w)\/(F=0/\γ'=1/\C J)
theorem RY.refl(C:World->Prop)(F:Nat)(w:World):RY C F w F w:=.inl ⟨rfl,rfl⟩
theorem RY.trans(C:World->Prop)(F:Nat)(w:World)(γ':Nat)(J:World)(γ'':Nat)(w'':World)(h:RY C F w γ' J)(k:RY C γ' J γ'' w''):RY C F w γ'' w'':=by
 rcases h with ⟨rfl,rfl⟩|⟨h1,h2,h3⟩
 ·exact k
 ·rcases k with ⟨rfl,rfl⟩|⟨k1,k2,k3⟩
  ·exact .inr ⟨h1,h2,h3⟩
  ·omega
theorem RY.at_{C:World->Prop}{F:Nat}(h:RY C 0 w F J)(h0:C w):C J:=by
 rcases h with ⟨-,rfl⟩|⟨-,-,h⟩
 ·exact h0
 ·exact h
theorem RY.same{C:World->Prop}(h:RY C 0 w 0 J):J=w:=by
 rcases h with ⟨-,rfl⟩|⟨-,h,-⟩
 ·rfl
 ·cases h
def NY(i:Nat)(F:Nat):Prop:=i=7->F=0
def KT(back:Bool)(n k p:Nat):Prop:=if back then p+k+1=n else p=k
theorem Tv(h:qP:=by
 have hk3:Kept T wT w3:=by
  split at h
  ·exact HJK.o _ _ h
  ·exact HJXK.o _ _ h
 rw [eCW];exact ⟨hk3.cell HTB.o.1 CA.o,hk3.cell HTB.o.2.1 CB.o⟩):qP:=h
theorem EV(h:qP:=by
 clear hR hN hp hρ;go_light;go_simp;exact ⟨rfl,rfl⟩):qP:=h
theorem Su(h:qP:=by
 intro V F J L hR hN hp hρ hc hf hg;refine ⟨rfl,?_⟩;have e0:=hρ 0;(conv at e0=>rhs;whnf);exact EV):qP:=h
theorem Sl(h:qP:=by
 obtain ⟨m0,m1⟩:=HCW.o _ (hR.at_ HC0.o);exact EV):qP:=h
theorem SX(h:qP:=by
 intro V F J L hR hN hp hρ hc hf hg;refine ⟨rfl,?_⟩;have e1:=hρ 1;(conv at e1=>rhs;whnf);exact Sl):qP:=h
theorem QQ(h:qP:=by
 intro V F J L hR hN hp hρ hc hf hg;refine ⟨rfl,?_⟩;have e6:=hρ 6;(conv at e6=>rhs;whnf);exact EV):qP:=h
theorem TN(h:qP:=by
 intro V F J L hR hN hp hρ hc hf hg;refine ⟨rfl,?_⟩;have e30:L (.tmp 30)=_:=(hρ 30).trans (hp 1 (by decide));have e31:L (.tmp 31)=_:=(hρ 31).trans (hp 2 (by decide));exact EV):qP:=h
theorem PV(h:qP:=by
 intro V F J L hR hN hp hρ hc hf hg;refine ⟨rfl,?_⟩;have e2:=hρ 2;(conv at e2=>rhs;whnf);exact Sl):qP:=h
theorem S7(h:qP:=by
 intro V F J L hR hN hp hρ hc hf hg;refine ⟨rfl,?_⟩;have e7:=hρ 7;(conv at e7=>rhs;whnf);exact EV):qP:=h
theorem Oq(h:qP:=by
 intro V F J L hR hN hp hρ hc hf hg;refine ⟨rfl,?_⟩;have e33:L (.tmp 33)=_:=(hρ 33).trans (hp 4 (by decide));have e34:L (.tmp 34)=_:=(hρ 34).trans (hp 5 (by decide));exact EV):qP:=h
theorem QS(h:qP:=by
 rintro v F w1 γ' w2 r ⟨h1,h2,h3⟩
 rcases r with ⟨e1,e2⟩|⟨e1,-,-⟩
 ·exact ⟨h1,e1.trans h2,by rw [e2];exact h3⟩
 ·omega):qP:=h
theorem PR(h:qP:=by
 intro V F J L hR hN hp hρ hc hf hg;refine ⟨rfl,?_⟩;have e29:L (.tmp 29)=_:=(hρ 29).trans (hp 0 (by decide));have e32:L (.tmp 32)=_:=(hρ 32).trans (hp 3 (by decide));have e35:L (.tmp 35)=_:=(hρ 35).trans (hp 6 (by decide));have hg0:=hN rfl;subst hg0;have hws:=hR.same;subst hws;have hy:=HY.o;clear hR hN hp hρ;go_light;go_simp;refine HRR.o.mono ?_;rintro e1 w3 ⟨he,hpost⟩;refine ⟨_,he,1,.inr ⟨rfl,rfl,?_⟩,λj hj _ _ e=>absurd e hj,rfl,rfl,hpost⟩;exact HCP.o w3 hpost):qP:=h
theorem Pq(h:qP:=by
 intro V F J L hR hN hp hρ hc hf hg;refine ⟨rfl,?_⟩;have e36:L (.tmp 36)=_:=(hρ 36).trans (hp 7 (by decide)).1;exact EV):qP:=h
theorem Le(h:qP:=by rw [IntKind.wrap_i64];omega):qP:=h
theorem BeA(m:Nat)(_hm:1<=m)(l ba bb bk:Nat)(wT W0:World)(T:NP)(a b:BA)(back:Bool)(ha:a.size<=4294967296)(hb:b.size<=4294967296)
  (hT:T ba/\T bb/\T bk) (ca:wT.cell? ⟨ba,0,none⟩=some (.string a)) (cb:wT.cell? ⟨bb,0,none⟩=some (.string b)) (ck:wT.cell? ⟨bk,0,none⟩=some (.bool back))
  (ans:Nat->Bool) (J_ Jx:Nat->World->Prop) (hJx:∀ k W W',J_ k W->Ext W W'->J_ k W') (hJk:∀ k W,J_ k W->Kept T wT W) (hJxk:∀ k W,Jx k W->Kept T wT W)
  (hround:∀ k W p q (hp:p<a.size) (hq:q<b.size),J_ k W->KT back a.size k p->KT back b.size k q ->
   YieldAt Fence.wide (m-1) prog l #[.int .u8 (a[p].toNat:Int),.int .u8 (b[q].toNat:Int)] W λe W'=>e=.returned (.bool (ans k))/\(if ans k=true then J_ (k+1) W' else Jx k W'))
  (h0:J_ 0 W0) :
  CallsIn Fence.wide m prog 232 #[.func (.yield l) #[] #[],.pointer (some ⟨ba,0,none⟩),.pointer (some ⟨bb,0,none⟩),.pointer (some ⟨bk,0,none⟩)] W0 λe W'=>(∃ v,e=.returned v)/\(J_ (min a.size b.size) W'\/∃ k,k<min a.size b.size/\ans k=false/\Jx k W'):=by
 obtain ⟨HTB,CA,CB,CK,HJX,HJK,HJXK,HRD⟩:=Hd8 hT ca cb ck hJx hJk hJxk hround;have HJ0:=Hd h0;have k0:=hJk 0 W0 h0;have ca0:=k0.cell hT.1 ca;have cb0:=k0.cell hT.2.1 cb;have za:=OY ca0;have zb:=OY cb0;obtain ⟨n,en⟩:=eqx (min a.size b.size);have hmin:min (a.size:Int) (b.size:Int)=(n:Int):=AA;have HN:=Hd (show n<=a.size/\n<=b.size/\n=min a.size b.size from ⟨AA,AA,en⟩);rw [<-en];clear en hT ca cb ck hJx hJk hJxk hround h0 k0;refine callsIn_of_wp func232 rfl trivial ?_ rfl;simp only [ntmps232,List.size_toArray,List.length_cons,List.length_nil,Nat.reduceAdd,Nat.reduceSub,Array.replicate_succ,Array.replicate_zero,List.push_toArray,List.append_toArray,List.nil_append,List.cons_append]
 gi_wp2
 clear ca0 cb0 za zb hmin
 gi_loopw [13] (λv13 wr=>∃ k:Nat,k<=n/\v13=.I (k:Int)/\J_ k wr) (λv13 _=>n-(intOf v13).toNat)
 case atStart=>exact ⟨0,AN,rfl,HJ0.o⟩
 case round =>
  obtain ⟨k,hk,rfl,hjw⟩:=hrel;have a8:=Hd hjw;have U:=Hd (HJK.o k wr hjw);clear hjw;have ck0:=U.o.cell HTB.o.2.2 CK.o;have zk:=OY ck0;have hna:=HN.o.1;have hnb:=HN.o.2.1;by_cases hlt:k<n
  ·have hi1:(k:Int)<(n:Int):=AA;have hi0:(0:Int)<=(k:Int):=AA;cases back with
   |false =>
    have hp:k<a.size:=AA;have hq:k<b.size:=AA;have CAW:=Hd (U.o.cell HTB.o.1 CA.o);have CBW:=Hd (U.o.cell HTB.o.2.1 CB.o);obtain ⟨O,eCW⟩:∃ O:World->Prop,O=λJ=>J.cell? ⟨ba,0,none⟩=some (.string a)/\J.cell? ⟨bb,0,none⟩=some (.string b):=⟨_,rfl⟩;have HC0:=Hd (show O wr.drew by rw [eCW];exact ⟨((Ext.refl wr).drew).cell CAW.o,((Ext.refl wr).drew).cell CBW.o⟩);have HCP:=Hd (show ∀ w3,(if ans k=true then J_ (k+1) w3 else Jx k w3)->O w3 from λw3 h=>by
     exact Tv)
    have HCW:=Hd (show ∀ w3,O w3->w3.cell? ⟨ba,0,none⟩=some (.string a)/\w3.cell? ⟨bb,0,none⟩=some (.string b) from λw3 h=>by rw [eCW] at h;exact h);clear eCW;obtain ⟨fn,tmps,assign,body,hy,Y⟩:=HRD.o k wr.drew k k hp hq (HJX.o _ _ _ a8.o ((Ext.refl wr).drew)) rfl rfl;have HY:=Hd hy;have HRR:=Hd Y;clear hy Y
    gi_wp2
    refine Gg AD AD (λi=>[i]) AD (RY O) (RY.refl O) (RY.trans O) NY 0 (λ_ _=>rfl) ?_;apply H5A (RY.refl O) AG
    ·exact Su
    ·rfl
    apply H5A (RY.refl O) AG
    ·exact SX
    ·rfl
    apply H5A (RY.refl O) AG
    ·exact QQ
    ·rfl
    apply H5A (RY.refl O) AG
    ·exact TN
    ·rfl
    apply H5A (RY.refl O) AG
    ·exact PV
    ·rfl
    apply H5A (RY.refl O) AG
    ·exact S7
    ·rfl
    apply H5A (RY.refl O) AG
    ·exact Oq
    ·rfl
    refine ChainY.step (FP λv F J=>v=.bool (ans k)/\F=1/\(if ans k=true then J_ (k+1) J else Jx k J)) AG (H1A ?_) ?_ ?_
    ·exact QS
    ·exact PR
    apply H5A (RY.refl O) AG
    ·exact Pq
    ·rfl
    intro V F w9 hR hG;have v0:V 0=_:=hG 0 AB;have v1:V 1=_:=hG 1 AB;have v2:V 2=_:=hG 2 AB;have v3:V 3=_:=hG 3 AB;have v4:V 4=_:=hG 4 AB;have v5:V 5=_:=hG 5 AB;have v6:V 6=_:=hG 6 AB;obtain ⟨v7,-,Z⟩:=hG 7 AB;have HPJ:=Hd Z;have v8:V 8=_:=hG 8 AB;simp only [Ah,Act.put,List.setIfInBounds_toArray,List.set_cons_succ,List.set_cons_zero,Nat.zero_add,Nat.reduceAdd,v0,v1,v2,v3,v4,v5,v6,v7,v8];clear v0 v1 v2 v3 v4 v5 v6 v7 v8 hR hG Z;obtain ⟨s,es⟩:=eqx (ans k);rw [<-es] at HPJ|-;have HS:=Hd es;clear es;cases s with
    |true =>
     gi_wp2
     exact ⟨⟨k+1,AA,AC,by have:=HPJ.o;rwa [if_pos rfl] at this⟩,by simp [intOf];omega⟩
    |false =>
     gi_wp2
     refine bodyPost_ret (results_none results232 _ _ _) rfl ⟨⟨_,rfl⟩,.inr ⟨k,hlt,HS.o.symm,?_⟩⟩;have:=HPJ.o;rwa [if_neg AC] at this
   |true =>
    obtain ⟨p,ep⟩:∃ p,p+k+1=a.size:=⟨a.size-1-k,AA⟩;obtain ⟨q,eq⟩:∃ q,q+k+1=b.size:=⟨b.size-1-k,AA⟩;have HP1:=Hd (show KT true a.size k p from ep);have HP2:=Hd (show KT true b.size k q from eq);have hp:p<a.size:=AA;have hq:q<b.size:=AA;have hu1:(a.size:Int)-1-(k:Int)=(p:Int):=AA;have hu2:(b.size:Int)-1-(k:Int)=(q:Int):=AA;have hz1:IntKind.i64.wrap ((a.size:Int)-1)=(a.size:Int)-1:=Le;have hz2:IntKind.i64.wrap ((b.size:Int)-1)=(b.size:Int)-1:=Le;have hz3:IntKind.i64.wrap ((a.size:Int)-1-(k:Int))=(p:Int):=(by rw [hu1];rw [IntKind.wrap_i64];omega);have hz4:IntKind.i64.wrap ((b.size:Int)-1-(k:Int))=(q:Int):=(by rw [hu2];rw [IntKind.wrap_i64];omega);clear ep eq hu1 hu2;have CAW:=Hd (U.o.cell HTB.o.1 CA.o);have CBW:=Hd (U.o.cell HTB.o.2.1 CB.o)
    gi_wp2
    refine Ks AD AD (λi=>[i]) AD (LZ (λ_ _=>False)) (LZ.refl _) (LZ.trans _) (LK []) gz0 (LK.zero _) ?_
    iterate 12 refine Qp ?_
    intro V F w9 hR hG;refine Qx ?_;have HX5:=Hd (show Ext wr w9 from hR.ext0 (λ_ _ _ h=>h.elim));clear hR hG;have HKZ:=Hd (HJK.o k w9 (HJX.o _ _ _ a8.o HX5.o));clear hz1 hz2 hz3 hz4;have CAZ:=Hd (HKZ.o.cell HTB.o.1 CA.o);have CBZ:=Hd (HKZ.o.cell HTB.o.2.1 CB.o);obtain ⟨O,eCW⟩:∃ O:World->Prop,O=λJ=>J.cell? ⟨ba,0,none⟩=some (.string a)/\J.cell? ⟨bb,0,none⟩=some (.string b):=⟨_,rfl⟩;have HC0:=Hd (show O w9.drew by rw [eCW];exact ⟨((Ext.refl w9).drew).cell CAZ.o,((Ext.refl w9).drew).cell CBZ.o⟩);have HCP:=Hd (show ∀ w3,(if ans k=true then J_ (k+1) w3 else Jx k w3)->O w3 from λw3 h=>by
     exact Tv)
    have HCW:=Hd (show ∀ w3,O w3->w3.cell? ⟨ba,0,none⟩=some (.string a)/\w3.cell? ⟨bb,0,none⟩=some (.string b) from λw3 h=>by rw [eCW] at h;exact h);clear eCW;obtain ⟨fn,tmps,assign,body,hy,Y⟩:=HRD.o k w9.drew p q hp hq (HJX.o _ _ _ a8.o (HX5.o.drew)) HP1.o HP2.o;have HY:=Hd hy;have HRR:=Hd Y;clear hy Y
    gi_wp2
    refine Gg AD AD (λi=>[i]) AD (RY O) (RY.refl O) (RY.trans O) NY 0 (λ_ _=>rfl) ?_;apply H5A (RY.refl O) AG
    ·exact Su
    ·rfl
    apply H5A (RY.refl O) AG
    ·exact SX
    ·rfl
    apply H5A (RY.refl O) AG
    ·exact QQ
    ·rfl
    apply H5A (RY.refl O) AG
    ·exact TN
    ·rfl
    apply H5A (RY.refl O) AG
    ·exact PV
    ·rfl
    apply H5A (RY.refl O) AG
    ·exact S7
    ·rfl
    apply H5A (RY.refl O) AG
    ·exact Oq
    ·rfl
    refine ChainY.step (FP λv F J=>v=.bool (ans k)/\F=1/\(if ans k=true then J_ (k+1) J else Jx k J)) AG (H1A ?_) ?_ ?_
    ·exact QS
    ·exact PR
    apply H5A (RY.refl O) AG
    ·exact Pq
    ·rfl
    intro V F wz hR hG;have v0:V 0=_:=hG 0 AB;have v1:V 1=_:=hG 1 AB;have v2:V 2=_:=hG 2 AB;have v3:V 3=_:=hG 3 AB;have v4:V 4=_:=hG 4 AB;have v5:V 5=_:=hG 5 AB;have v6:V 6=_:=hG 6 AB;obtain ⟨v7,-,Z⟩:=hG 7 AB;have HPJ:=Hd Z;have v8:V 8=_:=hG 8 AB;simp only [Ah,Act.put,List.setIfInBounds_toArray,List.set_cons_succ,List.set_cons_zero,Nat.zero_add,Nat.reduceAdd,v0,v1,v2,v3,v4,v5,v6,v7,v8];clear v0 v1 v2 v3 v4 v5 v6 v7 v8 hR hG Z;obtain ⟨s,es⟩:=eqx (ans k);rw [<-es] at HPJ|-;have HS:=Hd es;clear es;cases s with
    |true =>
     gi_wp2
     exact ⟨⟨k+1,AA,AC,by have:=HPJ.o;rwa [if_pos rfl] at this⟩,by simp [intOf];omega⟩
    |false =>
     gi_wp2
     refine bodyPost_ret (results_none results232 _ _ _) rfl ⟨⟨_,rfl⟩,.inr ⟨k,hlt,HS.o.symm,?_⟩⟩;have:=HPJ.o;rwa [if_neg AC] at this
  ·have hke:k=n:=AA;subst hke;have hi1:¬((k:Int)<(k:Int)):=AA
   gi_wp2
   go_end0
   exact ⟨⟨_,rfl⟩,.inl a8.o⟩
end Go.Proofs.YtaccjdppmmoepaaGreatDoor
namespace Go.Proofs.YtaccjdppmmoepaaGreatDoor
open Go Go.RowKit Go.Shelf Tryz
variable {qP:Prop}
attribute [local go_sem] Oper.semAt_some

abbrev EBA(fn D id:Nat)(tmps:Array Value)(ps:Array Tmp)(assign body:Code)(go:Bool):Loop:={ state:=if go then .ready else .done,pending:=if go then none else some (.exit id),fn:=fn,tmps:=tmps,params:=ps,assign:=assign,body:=body,defers:=D }
section
variable {F_:Fence}{n:Nat}{P:Program}
theorem Ye{JJ:World->Prop}{Mid:Act->World->Prop}{l D fn m id:Nat}{tmps:Array Value}{ps:Array Tmp}{assign body:Code}{args:Array Value}{W:World}{go:Bool}(hfn:F_.fn fn)
  (hr:Rdy (EBA fn D id tmps ps assign body true) l D W) (hps:args.size=ps.size)
  (hmid:∀ (a:Act) (W:World) (o o':Obj),Mid a W->W.heap[l]?=some o->o.isCells=false->Mid a (W.putObj l o')) (hJ:∀ (W:World) (o o':Obj),JJ W->W.heap[l]?=some o->o.isCells=false->JJ (W.putObj l o'))
  (hassign:assign.wpIn (F_.inRound l) m P (Exit.then (λa₁ W₁=>Mid a₁ W₁/\KeepsOthers W W₁) (λ_ _ _=>False)) { tmps:=(ps.zip args).foldl (λt (p,v)=>t.setIfInBounds p v) tmps,defers:=[] } W)
  (hbody:∀ (a₁:Act) (W₁:World),Mid a₁ W₁->body.wpIn (F_.inRound l) m P (λe _ W₃=>e=(if go then .normal else .exit id)/\KeepsOthers W₁ W₃/\JJ W₃) a₁ W₁) :
  YieldAt F_ m P l args W λe W'=>e=.returned (.bool go)/\JJ W'/\Rdy (EBA fn D id tmps ps assign body go) l D W':=by
 obtain ⟨hl,hk,a8⟩:=hr;refine ⟨fn,_,assign,body,run_yield hl hps,roundIn_of_wpIn hfn (wpIn_mono hassign ?_)⟩;intro e a W1 hp;cases e with
 |normal =>
  obtain ⟨hm,hk1⟩:=hp;have U:=hk1.same _ _ hl rfl;have hd1:=hk1.same _ _ hk rfl;refine ⟨_,run_beginRound U rfl,wpIn_mono (hbody a _ (hmid a W1 _ _ hm U rfl)) ?_⟩;rintro e3 a3 W3 ⟨he,hk3,Y⟩;have hlt:l<W1.heap.size:=(Array.getElem?_eq_some_iff.1 U).1;have O:=hk3.same l _ (World.putObj_heap_same hlt) rfl;have Z:=hk3.same D _ ((World.putObj_heap_other AA).trans hd1) rfl;have hlt3:l<W3.heap.size:=(Array.getElem?_eq_some_iff.1 O).1;cases go with
  |true =>
   simp only [if_true] at he;subst he;exact ⟨_,_,run_endRound none O,rfl,hJ W3 _ _ Y O rfl,World.putObj_heap_same hlt3,(World.putObj_heap_other AA).trans Z,a8⟩
  |false =>
   simp only [Bool.false_eq_true,if_false] at he;subst he;exact ⟨_,_,run_endRound (some (.exit id)) O,rfl,hJ W3 _ _ Y O rfl,World.putObj_heap_same hlt3,(World.putObj_heap_other AA).trans Z,a8⟩
 |ret=>exact hp.elim
 |exit id=>exact hp.elim
 |goto t=>exact hp.elim
 |panic c=>exact hp.elim
 |outgrown=>exact hp.elim
theorem V4{J0 J1 Jx:World->Prop}{g:Operand}{ps:Array Tmp}{assign body:Code}{Q:Exit->Act->World->Prop}{a:Act}{w:World}(id:Nat)
  (hro:F_.round=none) (h1:1<=n) {gf:Nat} {lb:Array Value} (hg:a.eval g=.func (.func gf) #[] lb) (hFg:F_.fn gf) (eg:∀ args w,(callFunc gf args).run P w=.ok (.enter gf args) w)
  (hJ1:∀ (W:World) (o o':Obj),J1 W->W.heap[w.heap.size+1]?=some o->o.isCells=false->J1 (W.putObj (w.heap.size+1) o')) (hJx:∀ (W:World) (o o':Obj),Jx W->W.heap[w.heap.size+1]?=some o->o.isCells=false->Jx (W.putObj (w.heap.size+1) o'))
  (h00:∀ r:Loop,J0 ((w.alloc (.deferred (some []))).alloc (.loop r)))
  (hiter:∀ (fn:Nat) (r:Bool->Loop) (W:World),F_.fn fn->r=EBA fn w.heap.size id a.tmps ps assign body->J0 W->Rdy (r true) (w.heap.size+1) w.heap.size W ->
   CallsIn F_ (n-1) P gf (#[.func (.yield (w.heap.size+1)) #[] #[]]++lb) W λe W'=>(∃ v,e=.returned v)/\((J1 W'/\Rdy (r true) (w.heap.size+1) w.heap.size W')\/(Jx W'/\Rdy (r false) (w.heap.size+1) w.heap.size W')))
  (hdone:∀ (W:World),J1 W->W.heap[w.heap.size]?=some (.deferred (some []))->Q .normal { a with defers:={ target:=.collected w.heap.size,args:=#[] }::a.defers } W)
  (hstop:∀ (W:World),Jx W->W.heap[w.heap.size]?=some (.deferred (some []))->(Code.exit id).wpIn F_ n P Q { a with defers:={ target:=.collected w.heap.size,args:=#[] }::a.defers } W) :
  (Code.rangeFunc g ps assign body).wpIn F_ n P Q a w:=by
 refine wpIn_rangeFunc ?_;intro fn a8;rw [hro];obtain ⟨U,O⟩:=eqx ((w.alloc (.deferred (some []))).alloc (.loop { state:=.ready,pending:=none,fn:=fn,tmps:=a.tmps,params:=ps,assign:=assign,body:=body,defers:=w.heap.size }));have Z:U.heap[w.heap.size+1]?=some (.loop { state:=.ready,pending:=none,fn:=fn,tmps:=a.tmps,params:=ps,assign:=assign,body:=body,defers:=w.heap.size }):=by
  have:=World.alloc_heap_new (w.alloc (.deferred (some []))) (.loop { state:=.ready,pending:=none,fn:=fn,tmps:=a.tmps,params:=ps,assign:=assign,body:=body,defers:=w.heap.size });rw [O];rwa [World.size_alloc] at this
 have hK1:U.heap[w.heap.size]?=some (.deferred (some [])):=by
  rw [O];exact (Below.heap_alloc _ _ _ AC).trans (World.alloc_heap_new w _)
 refine ⟨w.heap.size+1,[{ target:=.collected w.heap.size,args:=#[] }],U,{ target:=.fn (.func gf) lb,args:=#[.func (.yield (w.heap.size+1)) #[] #[]] },U,gf,#[.func (.yield (w.heap.size+1)) #[] #[]]++lb,U,by rw [O];exact run_enterLoop_outer _ _ _ _ _,?_,?_,?_,λ_=>h1,?_⟩
 ·simp only [resolve,hg];simp [go_sem]
 ·intro f' Y;simp [Target.leads] at Y;subst Y;exact hFg
 ·simp [invoke,go_sem,eg]
 ·refine (hiter fn _ U a8 rfl (by rw [O];exact h00 _) ⟨Z,hK1,AA⟩).mono ?_;rintro e W2 ⟨⟨v,rfl⟩,⟨hj,hl,hk,a9⟩|⟨hj,hl,hk,a9⟩⟩
  ·exact ⟨none,_,run_endLoop hl AC,hdone _ (hJ1 _ _ _ hj hl rfl) ((World.putObj_heap_other AA).trans hk)⟩
  ·exact ⟨some (.exit id),_,run_endLoop hl AC,hstop _ (hJx _ _ _ hj hl rfl) ((World.putObj_heap_other AA).trans hk)⟩
end
theorem Ya(a b:BA)(back:Bool)(w:World):Cl 199 #[.string a,.string b,.bool back] w (λe J=>e=.returned (.func (.func 232) #[] #[.pointer (some ⟨w.heap.size,0,none⟩),.pointer (some ⟨w.heap.size+1,0,none⟩),.pointer (some ⟨w.heap.size+2,0,none⟩)])/\J=((w.alloc (.cells #[.string a] 9)).alloc (.cells #[.string b] 9)).alloc (.cells #[.bool back] 4)):=by
 go_enter func199,ntmps199
 exact Ea
theorem Kept.putObjY(W:World)(l:Nat)(o:Obj):Kept (λb=>b≠l) W (W.putObj l o):=⟨by simp [World.putObj_size],λb hb _=>World.putObj_heap_other hb⟩
def dL(back:Bool)(s:BA):List UInt8:=if back then s.data.toList.reverse else s.data.toList
def Vu(a b:BA)(back:Bool)(k:Nat):Bool:=decide ((dL back a)[k]?=(dL back b)[k]?)
def Mi(a b:BA)(back:Bool):Nat:=if back then (Hv a.data.toList b.data.toList).length else (ES a.data.toList b.data.toList).length
theorem Oz(h:qP:=by
 rcases h4 with h|h|h
 ·exact .inl h
 ·exact .inr (.inl h)
 ·exact .inr (.inr (by simpa [Vu,dL] using h))):qP:=h
theorem WW(a b:BA)(back:Bool)(n:Nat)(h1:n<=a.size)(h2:n<=b.size)(h3:∀ j,j<n->Vu a b back j=true)(h4:n=a.size\/n=b.size\/Vu a b back n=false):Mi a b back=n:=by
 have la:a.data.toList.length=a.size:=rfl;have lb:b.data.toList.length=b.size:=rfl;cases back with
 |false =>
  have h:=GF a.data.toList b.data.toList n h1 h2 (λj hj=>by have:=h3 j hj;simpa [Vu,dL] using this) (by
   exact Oz)
  unfold Mi;rw [if_neg AC,h,List.length_take];omega
 |true =>
  have h:=J6 a.data.toList b.data.toList n h1 h2 (λj hj=>by have:=h3 j hj;simpa [Vu,dL] using this) (by
   exact Oz)
  unfold Mi;rw [if_pos rfl,h,List.length_drop];omega
theorem FhA{back:Bool}{s:BA}{k p:Nat}(hp:p<s.size)(h:KT back s.size k p):(dL back s)[k]?=some s[p]:=by
 cases back with
 |false =>
  have e:p=k:=(by simpa [KT] using h);subst e;exact Nj hp
 |true =>
  have e:p+k+1=s.size:=(by simpa [KT] using h);exact O7 e
theorem FVA{back:Bool}{a b:BA}{k p q:Nat}(hp:p<a.size)(hq:q<b.size)(h1:KT back a.size k p)(h2:KT back b.size k q):Vu a b back k=((a[p].toNat:Int)==(b[q].toNat:Int)):=by
 unfold Vu;rw [FhA hp h1,FhA hq h2,Mt];simp
structure CoJ(w w1:World)(g:Nat)(a b:BA)(back:Bool)(k:Nat)(W:World):Prop where
 ext:Ext w W
 o:Blk W g 3 #[.I (k:Int)]
 kept:Kept (λx=>g<x/\x<w1.heap.size) w1 W
 all:∀ j,j<k->Vu a b back j=true
theorem CoJ.more{w w1 W W':World}{g k:Nat}{a b:BA}{back:Bool}(h:CoJ w w1 g a b back k W)(hx:Ext W W'):CoJ w w1 g a b back k W' :=
 ⟨h.ext.trans hx,h.o.keep (hx.kept _),h.kept.trans (hx.kept _),h.all⟩
theorem CoJ.calm{w w1 W:World}{g k l:Nat}{a b:BA}{back:Bool}(h:CoJ w w1 g a b back k W)(hw:w.heap.size<=l)(hl:w1.heap.size<=l){o o':Obj}(ho:W.heap[l]?=some o)(hc:o.isCells=false):CoJ w w1 g a b back k (W.putObj l o') :=
 ⟨h.ext.putObj hw o',h.o.calm ho hc,h.kept.trans ((Kept.putObjY W l o').mono λb _ hb=>AA),h.all⟩
theorem ML(h:qP:=by
 intro W o o' h hl ho;exact h.calm (by have:=HS1.o;omega) (by omega) hl ho):qP:=h
theorem PI(h:qP:=by
 rintro A W o o' ⟨e,h⟩ hl ho;exact ⟨e,h.calm (by have:=HS1.o;omega) (by omega) hl ho⟩):qP:=h
theorem VG(h:qP:=by
 rintro e9 W9 ⟨he,hj9,hr9⟩;rw [hs];exact ⟨he,⟨hj9,hr9⟩⟩):qP:=h
theorem NL(a b:BA)(back:Bool)(ha:a.size<=4294967296)(hb:b.size<=4294967296)(w:World):Cl 139 #[.string a,.string b,.bool back] w (λe J=>e=.returned (.I (Mi a b back:Nat))/\Ext w J):=by
 refine (callsIn_wide (n:=4)).1 ?_;refine callsIn_of_wp_marks func139 rfl trivial ?_ rfl;simp only [ntmps139,List.size_toArray,List.length_cons,List.length_nil,Nat.reduceAdd,Nat.reduceSub,Array.replicate_succ,Array.replicate_zero,List.push_toArray,List.append_toArray,List.nil_append,List.cons_append]
 gi_wp2
 refine ⟨trivial,(callsIn_wide.2 (Ya a b back _)).mono ?_⟩;rintro e1 w1 ⟨rfl,hw1⟩;have hsz:(w.alloc (.cells #[.I 0] 3)).heap.size=w.heap.size+1:=AC;simp only [hsz];obtain ⟨HJ0,HS1,HB1,HB2,HB3⟩:=Hd5 (show CoJ w w1 w.heap.size a b back 0 w1 from ⟨by rw [hw1];exact (excc w).alloc _,by rw [hw1];exact (Blk.new w _ _).keep ((excc _).kept _),Kept.refl _ _,λj hj=>AA⟩) (show w1.heap.size=w.heap.size+4 by rw [hw1];simp) (show Blk w1 (w.heap.size+1) 9 #[.string a] by rw [hw1];exact (IOA AC).keep ((exbb _).kept _)) (show Blk w1 (w.heap.size+2) 9 #[.string b] by rw [hw1];exact (IOA AC).keep ((exaa _).kept _)) (show Blk w1 (w.heap.size+3) 4 #[.bool back] by rw [hw1];exact IOA AC);clear hw1 hsz
 gi_wp2
 refine V4 0 (J0:=CoJ w w1 w.heap.size a b back 0) (J1:=CoJ w w1 w.heap.size a b back (min a.size b.size)) (Jx:=λW=>∃ k,k<min a.size b.size/\Vu a b back k=false/\CoJ w w1 w.heap.size a b back k W) rfl AB (gf:=232) rfl trivial (enters_of func232 AD rfl) ?c1 ?cx ?h00 ?hiter ?hdone ?hstop
 case c1 =>
  exact ML
 case cx =>
  rintro W o o' ⟨k,h1,h2,h⟩ hl ho;exact ⟨k,h1,h2,h.calm (by have:=HS1.o;omega) AA hl ho⟩
 case h00 =>
  intro r;exact HJ0.o.more (exbb w1)
 case hdone =>
  intro W hj hd;have Y:=Hd hj;have c0:=hj.o.q0;have z0:=hj.o.lt;clear hj
  gi_wp2
  refine ⟨AC,.inl ⟨_,_,rfl,run_takeDeferred hd,?_⟩⟩;refine ⟨.I (min a.size b.size:Nat),by simp [results,results139,go_sem],?_⟩;refine ⟨?_,Y.o.ext.putObj (by have:=HS1.o;omega) _⟩;rw [WW a b back (min a.size b.size) AA AA Y.o.all AA]
 case hstop =>
  rintro W ⟨k,h1,h2,hj⟩ hd;have Y:=Hd hj;have c0:=hj.o.q0;have z0:=hj.o.lt;clear hj
  gi_wp2
  refine ⟨AC,.inl ⟨_,_,rfl,run_takeDeferred hd,?_⟩⟩;refine ⟨.I (k:Nat),by simp [results,results139,go_sem],?_⟩;refine ⟨?_,Y.o.ext.putObj (by have:=HS1.o;omega) _⟩;rw [WW a b back k AA AA Y.o.all (.inr (.inr h2))]
 case hiter =>
  rintro fn r W b3 er hj0 hr0;refine (BeA 3 AB (w1.heap.size+1) (w.heap.size+1) (w.heap.size+1+1) (w.heap.size+1+2) w1 W (λx=>w.heap.size<x/\x<w1.heap.size) a b back ha hb ?hT (HB1.o.q0) (HB2.o.q0) (HB3.o.q0) (Vu a b back)
   (λk W=>CoJ w w1 w.heap.size a b back k W/\Rdy (r true) (w1.heap.size+1) w1.heap.size W) (λk W=>CoJ w w1 w.heap.size a b back k W/\Rdy (r false) (w1.heap.size+1) w1.heap.size W) ?jx ?jk ?jxk ?round ⟨hj0,hr0⟩).mono ?fin
  case hT=>have:=HS1.o;omega
  case jx =>
   rintro k W1 W2 ⟨h,hr⟩ hx;exact ⟨h.more hx,hr.ext hx⟩
  case jk=>exact λk W1 h=>h.1.kept
  case jxk=>exact λk W1 h=>h.1.kept
  case fin =>
   rintro e8 W8 ⟨hv,⟨a9,Z⟩|⟨k,hk,a8,a9,Z⟩⟩
   ·exact ⟨hv,.inl ⟨a9,Z⟩⟩
   ·exact ⟨hv,.inr ⟨⟨k,hk,a8,a9⟩,Z⟩⟩
  case round =>
   rintro k W1 p q hp hq ⟨hj,hr⟩ h1 h2;subst er;have Y:=Hd hj;have b0:=Hd (show k<a.size/\k<b.size by
    unfold KT at h1 h2;split at h1<;>split at h2<;>first | omega | contradiction)
   have hs:=FVA hp hq h1 h2;clear hj h1 h2;cases hc:((a[p].toNat:Int)==(b[q].toNat:Int)) with
   |true =>
     rw [hc] at hs;refine YieldAt.mono (Ye (m:=3-1) (id:=0) (go:=true) (JJ:=CoJ w w1 w.heap.size a b back (k+1)) (Mid:=λA W=>A = { tmps:=#[.string a,.string b,.bool back,undef,undef,undef,.I 0,.pointer (some ⟨w.heap.size,0,none⟩),.int .u8 (a[p].toNat:Int),.int .u8 (b[q].toNat:Int),.string a,.string b,.bool back,.func (.func 232) #[] #[.pointer (some ⟨w.heap.size+1,0,none⟩),.pointer (some ⟨w.heap.size+1+1,0,none⟩),.pointer (some ⟨w.heap.size+1+2,0,none⟩)],.int .u8 (a[p].toNat:Int),.int .u8 (b[q].toNat:Int),undef,undef,undef,undef,undef,undef],defers:=[] }/\CoJ w w1 w.heap.size a b back k W) b3 hr rfl ?mid ?calm2 ?assign ?body) ?post
     case mid =>
      exact PI
     case calm2 =>
      exact ML
     case post =>
      exact VG
     case assign =>
      gi_wp2
      exact ⟨Y.o,(Ext.refl _).others⟩
     case body =>
      rintro A W2 ⟨rfl,O⟩;have U:=Hd O;have q0:=O.o.q0;have qf:=O.o.frozen;have ql:=O.o.lt;have a8:k<a.size/\k<b.size:=b0.o;clear O
      gi_wp2
      have hxt:Ext w (W2.setCell ⟨w.heap.size,0,none⟩ (.I ((k:Int)+1))):=U.o.ext.set2 (Al) _;refine ⟨KeepsOthers.setCell _ _ _,hxt,?_,U.o.kept.trans (Kept.set2 (Kept.refl _ _) λh=>AA),λj hj => ?_⟩
      ·exact U.o.o.set 0 _
      ·by_cases hjk:j=k
       ·subst hjk;exact hs
       ·exact U.o.all j AA
   |false =>
     rw [hc] at hs;refine YieldAt.mono (Ye (m:=3-1) (id:=0) (go:=false) (JJ:=CoJ w w1 w.heap.size a b back k) (Mid:=λA W=>A = { tmps:=#[.string a,.string b,.bool back,undef,undef,undef,.I 0,.pointer (some ⟨w.heap.size,0,none⟩),.int .u8 (a[p].toNat:Int),.int .u8 (b[q].toNat:Int),.string a,.string b,.bool back,.func (.func 232) #[] #[.pointer (some ⟨w.heap.size+1,0,none⟩),.pointer (some ⟨w.heap.size+1+1,0,none⟩),.pointer (some ⟨w.heap.size+1+2,0,none⟩)],.int .u8 (a[p].toNat:Int),.int .u8 (b[q].toNat:Int),undef,undef,undef,undef,undef,undef],defers:=[] }/\CoJ w w1 w.heap.size a b back k W) b3 hr rfl ?mid ?calm2 ?assign ?body) ?post
     case mid =>
      exact PI
     case calm2 =>
      exact ML
     case post =>
      exact VG
     case assign =>
      gi_wp2
      exact ⟨Y.o,(Ext.refl _).others⟩
     case body =>
      rintro A W2 ⟨rfl,O⟩;have U:=Hd O;have q0:=O.o.q0;have qf:=O.o.frozen;have ql:=O.o.lt;have a8:k<a.size/\k<b.size:=b0.o;clear O
      gi_wp2
      exact ⟨(Ext.refl _).others,U.o⟩

theorem EqA(a b:BA):a.extract 0 (Mi a b false)=bA (ES a.data.toList b.data.toList):=by
 rw [F8];unfold Mi;rw [if_neg AC,<-List.prefix_iff_eq_take.1 (FK _ _)]
theorem AHA(a b:BA):Mi a b false<=a.size:=by
 unfold Mi;rw [if_neg AC];exact (FK _ _).length_le
theorem EoA(a b:BA):a.extract (a.size-Mi a b true) a.size=bA (Hv a.data.toList b.data.toList):=by
 rw [Et];unfold Mi;rw [if_pos rfl];congr 1;exact (List.suffix_iff_eq_drop.1 (J8 _ _)).symm
theorem AaA(a b:BA):Mi a b true<=a.size:=by
 unfold Mi;rw [if_pos rfl];exact (J8 _ _).length_le
theorem JI(h:qP:=by
 iterate 5 with_reducible refine Ext.set2 ?_ HG4.o _
 with_reducible exact HX3.o):qP:=h
theorem Ka(h:qP:=by simp [results,results67,go_sem,r0,r1,r2,r3,r4]):qP:=h
theorem SD(a b:Sh)(h1:a.b.size<=1000000000)(h2:a.e.size<=1000000000)(h3:b.b.size<=1000000000)(h4:b.e.size<=1000000000)(w:World):Cl 67 #[(Sq a),(Sq b)] w (G0 w (BW a b)):=by
 obtain ⟨w0,hw0⟩:=eqx (((w.alloc (.cells (Sp a) 26)).alloc (.cells (Sp b) 26)).alloc (.cells #[.I 0,.I 0,.I 0,.string ⟨#[]⟩,.string ⟨#[]⟩] 26));have hx0:Ext w w0:=CC;have hb2:Blk w0 w.heap.size 26 (Sp a):=FH;have O:Blk w0 (w.heap.size+1) 26 (Sp b):=Fc;have hb4:Blk w0 (w.heap.size+2) 26 #[.I 0,.I 0,.I 0,.string ⟨#[]⟩,.string ⟨#[]⟩]:=GP;obtain ⟨g2,hg2⟩:=eqx w.heap.size;obtain ⟨g3,hg3⟩:=eqx (w.heap.size+1);obtain ⟨g4,hg4⟩:=eqx (w.heap.size+2);rw [<-hg2] at hb2;rw [<-hg3] at O;rw [<-hg4] at hb4;have HG4:=Hd (show w.heap.size<=g4 by omega);obtain ⟨la,hla⟩:=eqx (AQ a);obtain ⟨lb,hlb⟩:=eqx (AQ b);obtain ⟨ma,hma⟩:=eqx (BE a);obtain ⟨mb,hmb⟩:=eqx (BE b);obtain ⟨cc,hcc⟩:=eqx (bits .or .i64 (BL a) (BL b));obtain ⟨sp,hsp⟩:=eqx (bA (ES a.B b.B));obtain ⟨ss,hss⟩:=eqx (bA (Hv a.E b.E));obtain ⟨HLA,HLB,HMA,HMB⟩:=Hd4 (show ∀ J,Cl 136 #[(Sq a)] J (DG J la) from λJ=>by rw [hla];exact Df a J) (show ∀ J,Cl 136 #[(Sq b)] J (DG J lb) from λJ=>by rw [hlb];exact Df b J) (show ∀ J,Cl 137 #[(Sq a)] J (DG J ma) from λJ=>by rw [hma];exact Ed a J) (show ∀ J,Cl 137 #[(Sq b)] J (DG J mb) from λJ=>by rw [hmb];exact Ed b J);obtain ⟨oa,hoa⟩:=eqx (BL a);obtain ⟨ob,hob⟩:=eqx (BL b);obtain ⟨n1,hn1⟩:=eqx (Mi a.b b.b false);obtain ⟨n2,hn2⟩:=eqx (Mi a.e b.e true);obtain ⟨u2,hu2⟩:=eqx (a.e.size-n2);obtain ⟨HOA,HOB,HN1,HN2,HNO⟩:=Hd5 (show ∀ J,Cl 138 #[(Sq a)] J (DG J oa) from λJ=>by rw [hoa];exact FD a J) (show ∀ J,Cl 138 #[(Sq b)] J (DG J ob) from λJ=>by rw [hob];exact FD b J) (show ∀ J,Cl 139 #[.string a.b,.string b.b,.bool false] J (DG J (n1:Int)) from λJ=>by rw [hn1];exact NL a.b b.b false AA AA J) (show ∀ J,Cl 139 #[.string a.e,.string b.e,.bool true] J (DG J (n2:Int)) from λJ=>by rw [hn2];exact NL a.e b.e true AA AA J) (λJ=>Hf J);have hp0:n1<=a.b.size:=(by rw [hn1];exact AHA _ _);have hs0:n2<=a.e.size:=(by rw [hn2];exact AaA _ _);have hp1:(n1:Int)<=(a.b.size:Int):=AA;have hp2:(0:Int)<=(n1:Int):=AA;have hs1:(u2:Int)<=(a.e.size:Int):=AA;have hs2:(0:Int)<=(u2:Int):=AA;have hs3:IntKind.i64.wrap ((a.e.size:Int)-(n2:Int))=(u2:Int):=Le;have hxp:a.b.extract 0 n1=sp:=(by rw [hn1,hsp];exact EqA a.b b.b);have hxs:a.e.extract u2 a.e.size=ss:=(by rw [hu2,hn2,hss];exact EoA a.e b.e);obtain ⟨HEA,HEB,HJ⟩:=Hd3 (λJ=>KA a AA AA J) (λJ=>KA b AA AA J) (show BW a b=if AT a=true then (if AT b=true then H3A else b) else if AT b=true then a else ⟨min la lb,max ma mb,cc,sp,ss⟩ from by rw [hla,hlb,hma,hmb,hcc,hsp,hss];rfl);have hor:bits .or .i64 oa ob=cc:=(by rw [hcc,hoa,hob]);generalize AT a=b1 at *;generalize AT b=b2 at *;obtain ⟨HX0,HW0,HE2,HE3,HE4,HB2_0,HB3_0,HB4_0⟩:=Hd8 hx0 hw0 hg2 hg3 hg4 hb2 O hb4;obtain ⟨q0,q1,q2,q3,q4⟩:=hb2.qs5;obtain ⟨q5,q6,q7,q8,q9⟩:=O.qs5;clear hx0 hw0 hb2 O hb4 hg2 hg3 hg4 hla hlb hma hmb hcc hsp hss hoa hob hn1 hn2 hu2 hp0 hs0
 go_enter func67,ntmps67
 go_upto_region 1 with fail
 rw [<-HW0.o,show w.heap.size+1+1=g4 from HE4.o.symm,<-HE3.o,<-HE2.o];cases b1
 ·go_wp2_with fail
  refine (HEA.o _).mono ?_;rintro e1 w1 ⟨rfl,hx⟩;have HX1:=Hd (HX0.o.trans hx);have hb2:=HB2_0.o.keep (hx.kept _);have O:=HB3_0.o.keep (hx.kept _);have hb4:=HB4_0.o.keep (hx.kept _);obtain ⟨b3,b0,a9⟩:=Hd3 hb2 O hb4;clear q0 q1 q2 q3 q4 q5 q6 q7 q8 q9;obtain ⟨q0,q1,q2,q3,q4⟩:=hb2.qs5;obtain ⟨q5,q6,q7,q8,q9⟩:=O.qs5;clear hx hb2 O hb4
  go_wp2_with fail
  refine (HEA.o _).mono ?_;rintro e2 w2 ⟨rfl,hx⟩;have HX2:=Hd (HX1.o.trans hx);have hb2:=b3.o.keep (hx.kept _);have O:=b0.o.keep (hx.kept _);have hb4:=a9.o.keep (hx.kept _);obtain ⟨Z,Y,HB4_2⟩:=Hd3 hb2 O hb4;clear q0 q1 q2 q3 q4 q5 q6 q7 q8 q9;obtain ⟨q0,q1,q2,q3,q4⟩:=hb2.qs5;obtain ⟨q5,q6,q7,q8,q9⟩:=O.qs5;clear hx hb2 O hb4
  go_wp2_with fail
  refine (HEB.o _).mono ?_;rintro e3 w3 ⟨rfl,hx⟩;have HX3:=Hd (HX2.o.trans hx);have hb2:=Z.o.keep (hx.kept _);have O:=Y.o.keep (hx.kept _);have hb4:=HB4_2.o.keep (hx.kept _);obtain ⟨HB2_3,HB3_3,U⟩:=Hd3 hb2 O hb4;clear q0 q1 q2 q3 q4 q5 q6 q7 q8 q9;obtain ⟨q0,q1,q2,q3,q4⟩:=hb2.qs5;obtain ⟨q5,q6,q7,q8,q9⟩:=O.qs5;clear hx hb2 O hb4;cases b2
  ·obtain ⟨k0,k1,k2,k3,k4,k5,k6,k7⟩:=Hd8 q0 q1 q2 q3 q4 q5 q6 q7;have k8:=Hd q8;have k9:=Hd q9;clear q0 q1 q2 q3 q4 q5 q6 q7 q8 q9
   go_upto_region 7 with fail
   refine Qa (λm b=>(m=1036/\b=g4)) (lk 37 [1036]) ?_;refine Qp ?_;refine Qc (λJ=>HLA.o J) ?_;refine Qp ?_;refine Qc (λJ=>HLB.o J) ?_
   iterate 2 refine Qp ?_
   refine Qc (λJ=>HMA.o J) ?_;refine Qp ?_;refine Qc (λJ=>HMB.o J) ?_
   iterate 2 refine Qp ?_
   refine Qc (λJ=>HOA.o J) ?_;refine Qp ?_;refine Qc (λJ=>HOB.o J) ?_
   iterate 7 refine Qp ?_
   refine Qc (λJ=>HN1.o J) ?_
   iterate 10 refine Qp ?_
   refine Qc (λJ=>HN2.o J) ?_
   iterate 3 refine Qp ?_
   refine Qs (λ_ F J=>Blk J g4 26 #[.I (min la lb),.I (max ma mb),.I cc,.string sp,.string ss]/\F 1036=true) ?_ ?_ ?_
   ·exact FE
   ·intro V F J L hR hN hp hρ zs zg;have a8:=hN.o.key (k:=1036) AB;have hb0:=U.o.keep (hR.o.kept0 (S:=λb=>b=g4) λb _ e m hm=>by
     rw [hm.1];exact a8)
    have HB0:=Hd hb0;have HK:=Hd a8;obtain ⟨q0,q1,q2,q3,q4⟩:=hb0.qs5;have qf:=hb0.frozen;have ql:=hb0.lt;clear hb0 a8;refine Qr ?_;refine ⟨F.put 1036,H2A HK.o rfl rfl rfl Y78171d3d0 (λb hb hm=>((((((Only.refl g4 J).set 0 (.I (min la lb))).set 1 (.I (max ma mb))).set 2 (.I cc)).set 3 (.string sp)).set 4 (.string ss)).block b λe=>hm (⟨rfl,e⟩)),LK.done AB,?_,AU⟩;exact Q6
   intro V F w9 hR hG;refine Qx ?_;obtain ⟨hb36,-⟩:=hG 36 AB;have HB36N:=Hd hb36;clear hb36;have HXN:=Hd (show Ext w w9 from Au HX3.o (hR.buts (S:=λb=>b=g4) (λm b _ hm _=>hm.2)) (λb hb=>by
    rw [hb];exact HG4.o))
   clear hR hG;obtain ⟨s0,s1,s2,s3,s4⟩:=HB36N.o.qs5;go_wp2;rw [HJ.o,if_neg AC,if_neg AC];exact bodyPost_ret (v:=.agg #[.I (min la lb),.I (max ma mb),.I cc,.string sp,.string ss]) (by simp [results,results67,go_sem,s0,s1,s2,s3,s4]) rfl ⟨rfl,HXN.o⟩
  ·obtain ⟨r0,r1,r2,r3,r4⟩:=U.o.qs5;have qf:=U.o.frozen;have ql:=U.o.lt
   go_wp2_with fail
   rw [HJ.o,if_neg AC,if_pos trivial];refine bodyPost_ret (v:=(Sq a)) Ka rfl ⟨rfl,?_⟩;exact JI
 ·go_wp2_with fail
  refine (HEA.o _).mono ?_;rintro e1 w1 ⟨rfl,hx⟩;have HX1:=Hd (HX0.o.trans hx);have hb2:=HB2_0.o.keep (hx.kept _);have O:=HB3_0.o.keep (hx.kept _);have hb4:=HB4_0.o.keep (hx.kept _);obtain ⟨b3,b0,a9⟩:=Hd3 hb2 O hb4;clear q0 q1 q2 q3 q4 q5 q6 q7 q8 q9;obtain ⟨q0,q1,q2,q3,q4⟩:=hb2.qs5;obtain ⟨q5,q6,q7,q8,q9⟩:=O.qs5;clear hx hb2 O hb4
  go_wp2_with fail
  refine (HEB.o _).mono ?_;rintro e2 w2 ⟨rfl,hx⟩;have HX2:=Hd (HX1.o.trans hx);have hb2:=b3.o.keep (hx.kept _);have O:=b0.o.keep (hx.kept _);have hb4:=a9.o.keep (hx.kept _);obtain ⟨Z,Y,HB4_2⟩:=Hd3 hb2 O hb4;clear q0 q1 q2 q3 q4 q5 q6 q7 q8 q9;obtain ⟨q0,q1,q2,q3,q4⟩:=hb2.qs5;obtain ⟨q5,q6,q7,q8,q9⟩:=O.qs5;clear hx hb2 O hb4;cases b2
  ·go_wp2_with fail
   refine (HEA.o _).mono ?_;rintro e3 w3 ⟨rfl,hx⟩;have HX3:=Hd (HX2.o.trans hx);have hb2:=Z.o.keep (hx.kept _);have O:=Y.o.keep (hx.kept _);have hb4:=HB4_2.o.keep (hx.kept _);obtain ⟨HB2_3,HB3_3,U⟩:=Hd3 hb2 O hb4;clear q0 q1 q2 q3 q4 q5 q6 q7 q8 q9;obtain ⟨q0,q1,q2,q3,q4⟩:=hb2.qs5;obtain ⟨q5,q6,q7,q8,q9⟩:=O.qs5;clear hx hb2 O hb4;obtain ⟨r0,r1,r2,r3,r4⟩:=U.o.qs5;have qf:=U.o.frozen;have ql:=U.o.lt
   go_wp2_with fail
   rw [HJ.o,if_pos trivial,if_neg AC];refine bodyPost_ret (v:=(Sq b)) Ka rfl ⟨rfl,?_⟩;exact JI
  ·go_wp2_with fail
   refine (HNO.o _).mono ?_;rintro e3 w3 ⟨rfl,hx⟩;have HX3:=Hd (HX2.o.trans hx);have hb2:=Z.o.keep (hx.kept _);have O:=Y.o.keep (hx.kept _);have hb4:=HB4_2.o.keep (hx.kept _);obtain ⟨HB2_3,HB3_3,U⟩:=Hd3 hb2 O hb4;clear q0 q1 q2 q3 q4 q5 q6 q7 q8 q9;obtain ⟨q0,q1,q2,q3,q4⟩:=hb2.qs5;obtain ⟨q5,q6,q7,q8,q9⟩:=O.qs5;clear hx hb2 O hb4;obtain ⟨r0,r1,r2,r3,r4⟩:=U.o.qs5;have qf:=U.o.frozen;have ql:=U.o.lt
   go_wp2_with fail
   rw [HJ.o,if_pos trivial,if_pos trivial];refine bodyPost_ret (v:=(Sq H3A)) Ka rfl ⟨rfl,?_⟩;exact JI

def CKA(w w0:World)(g:Nat)(A':OA)(c':Nat)(D':OA)(e':Nat)(b:Bool)(r1 r:Abs)(e:Ending)(J:World):Prop :=
 e=.returned (.bool b)/\(∃ s,s=(if b=true then r1 else r)/\Blk J g 36 (Ap s A' c' D' e'))/\Ext w0 J/\w.heap.size<=J.heap.size
theorem VE(h:qP:=by
 go_wp2_with fail
 go_ret;exact ⟨by rw [HP.o];rfl,⟨_,by rw [HP.o];rfl,HBR2.o⟩,HX2.o,HZ2.o.size⟩):qP:=h
theorem GS(h:qP:=by rw [hw1];exact (Ext.refl w).alloc _):qP:=h
theorem GN(h:qP:=by rw [hw1,hg4];exact Blk.new _ _ _):qP:=h
theorem BgA(a r:Abs)(A D A' D':OA)(c e c' e' g:Nat)(w w0:World)(hx:Ext w0 w)(hg:w0.heap.size<=g)(hb:Blk w g 36 (Ap r A' c' D' e'))(h1:a.tx.b.size<=1000000000)(h2:a.tx.e.size<=1000000000) :
  Cl 92 #[.pointer (some ⟨g,0,none⟩),(Aq a A c D e),.I 1] w (CKA w w0 g A' c' D' e' (Bw a 1) (Dp a 1 r) r):=by
 obtain ⟨w1,hw1⟩:=eqx (w.alloc (.cells (Ap a A c D e) 36));obtain ⟨g4,hg4⟩:=eqx w.heap.size;have hx1:Ext w w1:=GS;have a8:Blk w1 g4 36 (Ap a A c D e):=GN;obtain ⟨Y,U,HX1,HW,HG,HGE,a9,HEM⟩:=Hd8 a8 (hb.keep (hx1.kept _)) (hx.trans hx1) hw1 hg4 hg hx1 (λJ=>KA a.tx AA AA J);have HP:=Hd (show Bw a 1 = !AT a.tx from rfl);obtain ⟨em,hem⟩:=eqx (AT a.tx);rw [<-hem] at HEM HP;obtain ⟨j,hj⟩:=eqx (BW a.tx a.tx);have HJ:=Hd (show ∀ J,Cl 67 #[(Sq a.tx),(Sq a.tx)] J (G0 J j) from λJ=>by rw [hj];exact SD a.tx a.tx h1 h2 h1 h2 J);have b0:=Hd hj;clear hem hj hx hg hb hx1 a8 hw1 hg4;have q1:=Y.o.q1;have q2:=Y.o.q2;have q3:=Y.o.q3;have q4:=Y.o.q4;have q5:=Y.o.q5;have r1:=U.o.q1;have r2:=U.o.q2;have r3:=U.o.q3;have r4:=U.o.q4;have r5:=U.o.q5
 go_enter func92,ntmps92
 go_upto_region 3 with fail
 rw [<-HW.o,<-HG.o];cases em
 ·go_wp2_with fail
  refine (HEM.o _).mono ?_;rintro e2 w2 ⟨rfl,hx⟩;obtain ⟨HX2,HZ2,O,HBR2⟩:=Hd4 (HX1.o.trans hx) (a9.o.trans hx) (Y.o.keep (hx.kept _)) (U.o.keep (hx.kept _));clear hx q1 q2 q3 q4 q5 r1 r2 r3 r4 r5;have q1:=O.o.q1;have q2:=O.o.q2;have q3:=O.o.q3;have q4:=O.o.q4;have q5:=O.o.q5;have r1:=HBR2.o.q1;have r2:=HBR2.o.q2;have r3:=HBR2.o.q3;have r4:=HBR2.o.q4;have r5:=HBR2.o.q5
  go_wp2_with fail
  refine (HJ.o _).mono ?_;rintro e3 w3 ⟨rfl,hx⟩;obtain ⟨HX3,HZ3,Z,HBR3⟩:=Hd4 (HX2.o.trans hx) (HZ2.o.trans hx) (O.o.keep (hx.kept _)) (HBR2.o.keep (hx.kept _));clear hx q1 q2 q3 q4 q5 r1 r2 r3 r4 r5;have q1:=Z.o.q1;have q2:=Z.o.q2;have q3:=Z.o.q3;have q4:=Z.o.q4;have q5:=Z.o.q5;have r1:=HBR3.o.q1;have r2:=HBR3.o.q2;have r3:=HBR3.o.q3;have r4:=HBR3.o.q4;have r5:=HBR3.o.q5;have rf:=HBR3.o.frozen;have rl:=HBR3.o.lt
  go_wp2_with fail
  go_ret;refine ⟨by rw [HP.o];rfl,⟨_,rfl,?_⟩,?_,by have:=HZ3.o.size;simpa [World.setCell] using this⟩
  ·rw [HP.o];have hbb:=(((((HBR3.o.set 1 (.I j.least)).set 2 (.I j.most)).set 3 (.I j.cls)).set 4 (.string j.b)).set 5 (.string j.e))
   simpa [Dp,<-b0.o] using hbb
  ·iterate 5 with_reducible refine Ext.set2 ?_ HGE.o _
   with_reducible exact HX3.o
 ·go_wp2_with fail
  refine (HEM.o _).mono ?_;rintro e2 w2 ⟨rfl,hx⟩;obtain ⟨HX2,HZ2,O,HBR2⟩:=Hd4 (HX1.o.trans hx) (a9.o.trans hx) (Y.o.keep (hx.kept _)) (U.o.keep (hx.kept _));clear hx q1 q2 q3 q4 q5 r1 r2 r3 r4 r5;have q1:=O.o.q1;have q2:=O.o.q2;have q3:=O.o.q3;have q4:=O.o.q4;have q5:=O.o.q5;have r1:=HBR2.o.q1;have r2:=HBR2.o.q2;have r3:=HBR2.o.q3;have r4:=HBR2.o.q4;have r5:=HBR2.o.q5;exact VE
theorem Zi(a r:Abs)(A D A' D':OA)(c e c' e' g:Nat)(w w0:World)(hx:Ext w0 w)(hg:w0.heap.size<=g)(hb:Blk w g 36 (Ap r A' c' D' e'))(ht:Tens w0) :
  Cl 92 #[.pointer (some ⟨g,0,none⟩),(Aq a A c D e),.I 2] w (CKA w w0 g A' c' D' e' (Bw a 2) (Dp a 2 r) r):=by
 obtain ⟨w1,hw1⟩:=eqx (w.alloc (.cells (Ap a A c D e) 36));obtain ⟨g4,hg4⟩:=eqx w.heap.size;have hx1:Ext w w1:=GS;have hba:Blk w1 g4 36 (Ap a A c D e):=GN;obtain ⟨Y,U,HX1,HW,HG,HGE,HZ1,HEM⟩:=Hd8 hba (hb.keep (hx1.kept _)) (hx.trans hx1) hw1 hg4 hg hx1 (show ∀ J,Ext w1 J->Cl 118 #[(Rq a.nu)] J (Ae J (BF a.nu)) from λJ hx'=>Ct a.nu J (ht.ext ((hx.trans hx1).trans hx')));have HP:=Hd (show Bw a 2 = !BF a.nu from rfl);obtain ⟨em,hem⟩:=eqx (BF a.nu);rw [<-hem] at HEM HP;obtain ⟨j,hj⟩:=eqx (Cc a.nu a.nu);have HJ:=Hd (show ∀ J,Ext w1 J->Cl 68 #[(Rq a.nu),(Rq a.nu)] J (Em J j) from λJ hx'=>by rw [hj];exact KG a.nu a.nu J (ht.ext ((hx.trans hx1).trans hx')));have HJJ:=Hd hj;clear hem hj ht hx hg hb hx1 hba hw1 hg4;have q6:=Y.o.q6;have q7:=Y.o.q7;have q8:=Y.o.q8;have q9:=Y.o.q9;have r6:=U.o.q6;have r7:=U.o.q7;have r8:=U.o.q8;have r9:=U.o.q9
 go_enter func92,ntmps92
 go_upto_region 7 with fail
 rw [<-HW.o,<-HG.o];cases em
 ·go_wp2_with fail
  refine (HEM.o _ (Ext.refl _)).mono ?_;rintro e2 w2 ⟨rfl,hx⟩;obtain ⟨HX2,HU2,HZ2,O,HBR2⟩:=Hd5 (HX1.o.trans hx) hx (HZ1.o.trans hx) (Y.o.keep (hx.kept _)) (U.o.keep (hx.kept _));clear hx q6 q7 q8 q9 r6 r7 r8 r9;have q6:=O.o.q6;have q7:=O.o.q7;have q8:=O.o.q8;have q9:=O.o.q9;have r6:=HBR2.o.q6;have r7:=HBR2.o.q7;have r8:=HBR2.o.q8;have r9:=HBR2.o.q9
  go_wp2_with fail
  refine (HJ.o _ HU2.o).mono ?_;rintro e3 w3 ⟨rfl,hx⟩;obtain ⟨HX3,HZ3,Z,HBR3⟩:=Hd4 (HX2.o.trans hx) (HZ2.o.trans hx) (O.o.keep (hx.kept _)) (HBR2.o.keep (hx.kept _));clear hx q6 q7 q8 q9 r6 r7 r8 r9;have q6:=Z.o.q6;have q7:=Z.o.q7;have q8:=Z.o.q8;have q9:=Z.o.q9;have r6:=HBR3.o.q6;have r7:=HBR3.o.q7;have r8:=HBR3.o.q8;have r9:=HBR3.o.q9;have rf:=HBR3.o.frozen;have rl:=HBR3.o.lt
  go_wp2_with fail
  go_ret;refine ⟨by rw [HP.o];rfl,⟨_,rfl,?_⟩,?_,by have:=HZ3.o.size;simpa [World.setCell] using this⟩
  ·rw [HP.o];have hbb:=((((HBR3.o.set 6 (.I j.ln)).set 7 (.I j.ls)).set 8 (.I j.hn)).set 9 (.I j.hs))
   simpa [Dp,<-HJJ.o] using hbb
  ·iterate 4 with_reducible refine Ext.set2 ?_ HGE.o _
   with_reducible exact HX3.o
 ·go_wp2_with fail
  refine (HEM.o _ (Ext.refl _)).mono ?_;rintro e2 w2 ⟨rfl,hx⟩;obtain ⟨HX2,HU2,HZ2,O,HBR2⟩:=Hd5 (HX1.o.trans hx) hx (HZ1.o.trans hx) (Y.o.keep (hx.kept _)) (U.o.keep (hx.kept _));clear hx q6 q7 q8 q9 r6 r7 r8 r9;have q6:=O.o.q6;have q7:=O.o.q7;have q8:=O.o.q8;have q9:=O.o.q9;have r6:=HBR2.o.q6;have r7:=HBR2.o.q7;have r8:=HBR2.o.q8;have r9:=HBR2.o.q9;exact VE
theorem Pb(h:qP:=by
 intro V F J L hR hN hp hρ zs zg;have HR:=hR;have HN:=hN;refine Qr ?_;exact ⟨F.put 4 (some J.heap.size),LX.new (by decide) (HN.o.2 (by decide) ⟨5,by decide⟩) _ _,INA,VarX.new HR.o.inb0 rfl (λ_ _ h=>h.elim)⟩):qP:=h
theorem SB(h:qP:=by
 intro l F w1 γ' w2 rr h
 match l,h with
 |[],_=>trivial
 |[_],_=>trivial
 |[p,q],h=>exact IQA rr h
 | _::_::_::_,_=>trivial):qP:=h
theorem AgA(h:qP:=by
 obtain ⟨HST,HK,HB⟩:=Hd3 hst hk hb;obtain ⟨q0,q1⟩:=hb.qs2;have qf:=hb.frozen;have ql:=hb.lt;clear hR hN hp hρ hst hk hb hv;go_light;go_simp;obtain ⟨g1,g2⟩:=HST.o _ #[.I d1,.I d2] (((Only.refl g J).set 0 (.I d1)).set 1 (.I d2)) ((HB.o.set 0 (.I d1)).set 1 (.I d2)) rfl;exact ⟨F.put 4 none,g1,LM.done (by decide) (.inl ⟨g,HK.o⟩),g2⟩):qP:=h
theorem PF(h:qP:=by
 match cl,hcs with
 |[x0,x1],_ =>
  exact AgA):qP:=h
theorem EY(h:qP:=by rw [HPT.o];rfl):qP:=h
theorem ZA(a r:Abs)(A D A' D':OA)(c e c' e' g:Nat)(w w0:World)(hx:Ext w0 w)(hg:w0.heap.size<=g)(hb:Blk w g 36 (Ap r A' c' D' e')) :
  Cl 92 #[.pointer (some ⟨g,0,none⟩),(Aq a A c D e),.I 3] w (CKA w w0 g A' c' D' e' (Bw a 3) (Dp a 3 r) r):=by
 obtain ⟨w1,hw1⟩:=eqx (w.alloc (.cells (Ap a A c D e) 36));obtain ⟨g4,hg4⟩:=eqx w.heap.size;have hx1:Ext w w1:=GS;have Y:Blk w1 g4 36 (Ap a A c D e):=GN;obtain ⟨b4,a8,HX1,HW,HG,HGE,b3,HAL⟩:=Hd8 Y (hb.keep (hx1.kept _)) (hx.trans hx1) hw1 hg4 hg hx1 (show ∀ J,Cl 35 #[] J (Cd J (0,3652058)) from Ho);obtain ⟨d1,O⟩:=eqx ((Cy a).1);obtain ⟨d2,U⟩:=eqx ((Cy a).2);obtain ⟨HP,b0,HMS,k0,k1⟩:=Hd5 (show Bw a 3=decide (d1<=d2) by rw [O,U];rfl) (show Dp a 3 r = { r with dl:=d1,dh:=d2 } by rw [O,U];rfl) (show ∀ J,Cl 74 #[.agg #[.I a.dl,.I a.dh],.agg #[.I 0,.I 3652058]] J (Cd J (d1,d2)) from λJ=>by rw [show (d1,d2)=CZ (a.dl,a.dh) (0,3652058) by rw [O,U];rfl];exact DM _ _ _ _ J) (Y.q10) (Y.q11);clear hx hg hb hx1 Y hw1 hg4 O U
 go_enter func92,ntmps92
 go_upto_region 11 with fail
 rw [<-HW.o,<-HG.o];refine Qb (fun|5=>[4,5]|i=>[i]) (λ_ _=>False) [(5,[4])] ?_
 iterate 2 refine Qp ?_
 refine Qc (x:=.agg #[.I 0,.I 3652058]) (λJ=>HAL.o J) ?_;refine Qc (x:=.agg #[.I d1,.I d2]) (λJ=>HMS.o J) ?_;refine Qs (FP (VarX (λ_ _=>False) 4 32 2)) (H1A IAA) ?_ ?_
 ·exact Pb
 refine Chain.step (λvl F J=>match vl with|[p,_]=>VarXI (λ_ _=>False) 32 p #[.I d1,.I d2] F J|_=>True) AG ?_ ?_ ?_
 ·exact SB
 ·intro V F J L hR hN hp hρ hc hf hg;refine ⟨rfl,?_⟩;have e44:L (.tmp 44)=_:=(hρ 44).trans (hp 3 AB);obtain ⟨g,⟨cl⟩,hv,hcs,hb,hk,hst⟩:=VarX.stored (hp 4 AB) (s:=5) (l:=[(5,[4])]) AB hN;have e7:=(hρ 7).trans hv;exact PF
 intro V F w9 hR hG;obtain ⟨g5,v4,Z,-,-⟩:=hG 5 AB;refine Qx ?_;simp only [v4];have HX9:=Hd (show Ext w1 w9 from hR.ext0 (λ_ _ h=>h.elim));have HB5:=Hd Z;clear hR hG Z v4;obtain ⟨HX2,HBR2,HZ2⟩:=Hd3 (HX1.o.trans HX9.o) (a8.o.keep (HX9.o.kept _)) (b3.o.trans HX9.o);obtain ⟨s0,s1⟩:=HB5.o.qs2;have r10:=HBR2.o.q10;have r11:=HBR2.o.q11;by_cases hle:d1<=d2
 ·have a9:¬d2<d1:=AA;have HPT:=Hd (show Bw a 3=true by rw [HP.o,decide_eq_true hle]);have rf:=HBR2.o.frozen;have rl:=HBR2.o.lt
  go_wp2_with fail
  go_ret;refine ⟨EY,⟨_,rfl,?_⟩,?_,by have:=HZ2.o.size;simpa [World.setCell] using this⟩
  ·rw [HPT.o,b0.o];have hbb:=(HBR2.o.set 10 (.I d1)).set 11 (.I d2)
   simpa using hbb
  ·iterate 2 with_reducible refine Ext.set2 ?_ HGE.o _
   with_reducible exact HX2.o
 ·have a9:d2<d1:=AA;have HPT:=Hd (show Bw a 3=false by rw [HP.o,decide_eq_false hle])
  go_wp2_with fail
  go_ret;exact ⟨EY,⟨_,EY,HBR2.o⟩,HX2.o,HZ2.o.size⟩
theorem Z7(a r:Abs)(A D A' D':OA)(c e c' e' g:Nat)(w w0:World)(hx:Ext w0 w)(hg:w0.heap.size<=g)(hb:Blk w g 36 (Ap r A' c' D' e'))(hbo:r.bo=0) :
  Cl 92 #[.pointer (some ⟨g,0,none⟩),(Aq a A c D e),.I 4] w (CKA w w0 g A' c' D' e' (Bw a 4) (Dp a 4 r) r):=by
 obtain ⟨w1,hw1⟩:=eqx (w.alloc (.cells (Ap a A c D e) 36));obtain ⟨g4,hg4⟩:=eqx w.heap.size;have hx1:Ext w w1:=GS;have U:Blk w1 g4 36 (Ap a A c D e):=GN;obtain ⟨Z,O,HX1,HW,HG,HGE,Y⟩:=Hd7 U (hb.keep (hx1.kept _)) (hx.trans hx1) hw1 hg4 hg hx1;obtain ⟨j,hj⟩:=eqx (boI a);obtain ⟨HP,a9,a8⟩:=Hd3 (show Bw a 4=decide (j≠0) by rw [hj];rfl) (show Dp a 4 r = { r with bo:=j } by rw [hj];rfl) hbo;have hjj:bits .and .i64 a.bo 3=j:=hj.symm;clear hx hg hb hx1 U hw1 hg4 hj hbo;have q12:=Z.o.q12;have r12:=O.o.q12;have rf:=O.o.frozen;have rl:=O.o.lt;by_cases hz:j=0
 ·have HPT:=Hd (show Bw a 4=false by rw [HP.o,hz];rfl)
  go_enter func92,ntmps92
  go_upto_region 16 with fail
  rw [<-HW.o,<-HG.o]
  go_wp2_with fail
  go_ret;refine ⟨by rw [HPT.o];simp,⟨r,EY,?_⟩,Ext.set2 HX1.o HGE.o _,by have:=Y.o.size;simpa [World.setCell] using this⟩;have hbb:=O.o.set 12 (.I 0);have hbo:=a8.o
  simpa [hbo,hz,Ap] using hbb
 ·have HPT:=Hd (show Bw a 4=true by rw [HP.o,decide_eq_true hz])
  go_enter func92,ntmps92
  go_upto_region 16 with fail
  rw [<-HW.o,<-HG.o]
  go_wp2_with fail
  go_ret;refine ⟨by rw [HPT.o];simp [hz],⟨Dp a 4 r,EY,?_⟩,Ext.set2 HX1.o HGE.o _,by have:=Y.o.size;simpa [World.setCell] using this⟩;rw [a9.o];have hbb:=O.o.set 12 (.I j)
  simpa using hbb
