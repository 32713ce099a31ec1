/- Lemmas. No conditions. -/
import Derived.Test.YtidacnalcdhckaaGreatDoorOq20
import Derived.RangeFuncNested
import Derived.RangeFuncBound
import Derived.RangeFuncCalls
import Derived.RangeFuncLeaves
import Derived.Shelf.Abstract
import Derived.Shelf.RegionOpen
import Derived.WalkKit
import Derived.OwnWalkIn
import Derived.TacticsInMore
import Derived.LoopNIn
import Derived.LoopIn
set_option maxRecDepth 100000
set_option maxHeartbeats 4000000
namespace Go.Proofs.YtidacnalcdhckaaGreatDoor
open Go Go.RowKit Tryz
variable {qP:Prop}

def Jd(n0:Nat)(P:Program)(K:Value→World→Prop):Result Next→Prop
 |.ok (.value v) w'=>K v w'
 |.ok .skip w'=>K undef w'
 |.ok (.enter f args) w'=>Calls P f args w' fun e w''=>∃ v,e=.returned v∧K v w''
 |.ok (.round l f tmps assign body) w'=>RoundIn Fence.wide (n0-1) P l f tmps assign body w' fun e w''=>∃ v,e=.returned v∧K v w''
 |_=>False
def LinStepY{Γ:Type}(n0:Nat)(P:Program)(ops:Array Oper)(D:Nat→List Nat)(R:Γ→World→Γ→World→Prop)(N:Nat→Γ→Prop)(G:Nat→List Value→Γ→World→Prop)(a0:Act)(γ0:Γ)(w0:World)(i:Nat)(o:Oper):Prop :=
 ∀ (vals:Nat→Value) (γ:Γ) (w:World),R γ0 w0 γ w→N i γ→(∀ j,j∈AV o→G j ((D j).map vals) γ w) →
  if AY o vals then Jd n0 P (fun v w'=>∃ γ',R γ w γ' w'∧(∀ j,j≠i→j ∉ AV o→N j γ→N j γ')∧G i ((D i).map (F3 vals i v)) γ' w') ((execOp (Hm ops o a0 vals) o).run P w)
  else G i ((D i).map (F3 vals i undef)) γ w

section
variable {P:Program}{ops:Array Oper}{Q:Exit→Act→World→Prop}
theorem NZ{Γ:Type}{n0:Nat}{id:Nat}{a0:Act}{w0:World}(hnf:ops.all J3=true)(hm:P.follows .mixedOrders=true)(D:Nat→List Nat)(hB:R8 ops D a0.tmps.size=true)
  (R:Γ→World→Γ→World→Prop) (hrefl:∀ γ w,R γ w γ w) (htrans:∀ γ w γ' w' γ'' w'',R γ w γ' w'→R γ' w' γ'' w''→R γ w γ'' w'')
  (N:Nat→Γ→Prop) (G:Nat→List Value→Γ→World→Prop) (hst:∀ i l γ w γ' w',R γ w γ' w'→G i l γ w→G i l γ' w') (γ0:Γ) (hN:∀ i,N i γ0)
  (hstep:∀ i o,ops[i]?=some o→LinStepY n0 P ops D R N G a0 γ0 w0.drew i o)
  (hfin:∀ vals γ w,R γ0 w0.drew γ w→(∀ i,i<ops.size→G i ((D i).map vals) γ w)→Q .normal (Ah vals ops.toList 0 a0) w) :
  (Code.region id ops true).wpIn Fence.wide n0 P Q a0 w0:=by
 obtain ⟨hsel,hnd,hlt,hacyc,hD,hguard,hlook⟩:=GH hB;have main:∀ (fuel:Nat) (listed:Array Bool) (a:Act) (w:World) (vals:Nat→Value) (γ:Γ),LinInv ops D R N G a0 γ0 w0.drew listed a w vals γ →
   (List.range ops.size).countP (fun i => !listed.getD i true)≤fuel→wpAnyIn Fence.wide n0 P .any ops Q fuel listed a w:=by
  intro fuel;have fin:∀ (listed:Array Bool) (a:Act) (w:World) (vals:Nat→Value) (γ:Γ),LinInv ops D R N G a0 γ0 w0.drew listed a w vals γ→(∀ j,j<ops.size→listed.getD j false=true)→Q .normal a w:=by
   exact MJ
  have ready_nil:∀ (listed:Array Bool),listed.size=ops.size→Region.ready .any ops listed=[]→∀ j,j<ops.size→listed.getD j false=true:=by
   exact Mc
  induction fuel with
  |zero =>
   exact MY
  |succ fuel ih =>
   intro listed a w vals γ I hc;refine ⟨fun hr=>fin listed a w vals γ I (ready_nil listed I.size hr),fun i hi => ?_⟩;obtain ⟨h0,o,ho,hpre⟩:=mem_ready.1 hi;have hil:i<ops.size:=(Array.getElem?_eq_some_iff.1 ho).1;have hisz:i<listed.size:=(by rw [I.size];exact hil);have hun:listed.getD i false=false:=(by rw [←GB hisz];exact h0);have hpl:∀ j,j∈AV o→listed.getD j false=true:=by
    exact LG
   have hslot:∀ t,t∈o.looksAt ops→a.tmps.getD t undef=Fi ops o a0 vals t:=by
    exact Md
   have henv:execOp a.eval o=execOp (Hm ops o a0 vals) o:=by
    exact Lm
   have hwant:Region.wanted o (yielded ops a.tmps)=AY o vals:=by
    exact LF
   have hpf:∀ j,j∈AV o→G j ((D j).map vals) γ w:=fun j hj=>I.facts j (by have:=hacyc i o j ho hj;omega) (hpl j hj);have hS:=hstep i o ho vals γ w I.rel (I.open_ i hil hun) hpf;have next:∀ (v:Value) (γ':Γ) (w':World),R γ w γ' w'→(∀ j,j≠i→j ∉ AV o→N j γ→N j γ')→G i ((D i).map (F3 vals i v)) γ' w'→wpAnyIn Fence.wide n0 P .any ops Q fuel (listed.setIfInBounds i true) (a.put o.dst v) w':=by
    exact MK
   unfold wpOpIn;simp only [ho];rw [hwant];by_cases hw:AY o vals=true
   ·rw [if_pos hw] at hS⊢;refine ⟨fun _ _=>trivial,?_⟩;rw [Oper.semAt_plain _ _ _ (NJ hnf ho),henv];generalize (execOp (Hm ops o a0 vals) o).run P w=r at hS;cases r with
    |ok n w' =>
     cases n<;>simp only [Jd] at hS<;>simp only [Oper.uponIn]
     case value v=>obtain ⟨γ',h1,hn,h2⟩:=hS;exact next v γ' w' h1 hn h2
     case skip=>obtain ⟨γ',h1,hn,h2⟩:=hS;exact next undef γ' w' h1 hn h2
     case enter f args =>
      exact Qq
     case round l f tmps assign body =>
      refine ⟨fun h=>Ck,hS.mono ?_⟩;exact Oo
    |halt x w'=>simp only [Jd] at hS
   ·exact PB
 exact SW
end
def ChainY{Γ:Type}(n0:Nat)(P:Program)(ops:Array Oper)(D:Nat→List Nat)(R:Γ→World→Γ→World→Prop)(N:Nat→Γ→Prop)(a0:Act)(γ0:Γ)(w0:World)(Qf:List (Ft Γ)→Prop):Nat→List (Ft Γ)→List Oper→Prop
 |_,done,[]=>Qf done.reverse
 |k,done,o::rest=>∃ Φ:Ft Γ,O8 R Φ∧LinStepY n0 P ops D R N (gOf (Φ::done).reverse) a0 γ0 w0 k o∧ChainY n0 P ops D R N a0 γ0 w0 Qf (k+1) (Φ::done) rest
section
variable {Γ:Type}{n0:Nat}{P:Program}{ops:Array Oper}{D:Nat→List Nat}{R:Γ→World→Γ→World→Prop}{N:Nat→Γ→Prop}{a0:Act}{γ0:Γ}{w0:World}{Qf:List (Ft Γ)→Prop}
theorem ChainY.full:∀ {rest:List Oper} {k:Nat} {done:List (Ft Γ)},done.length=k→(∀ Φ∈done,O8 R Φ)→ChainY n0 P ops D R N a0 γ0 w0 Qf k done rest →
  ∃ Φs:List (Ft Γ),Φs.take k=done.reverse∧(∀ Φ∈Φs,O8 R Φ)∧Qf Φs∧∀ i o,rest[i]?=some o→LinStepY n0 P ops D R N (gOf (Φs.take (k+i+1))) a0 γ0 w0 (k+i) o
 |[],k,done,hk,hd,h=>⟨done.reverse,by rw [←hk,←List.length_reverse];exact List.take_length,fun Φ hΦ=>hd Φ (by simpa using hΦ),h,AC⟩
 |o::rest,k,done,hk,hd,h=>by
  obtain ⟨Φ,h1,h2,h3⟩:=h;obtain ⟨Φs,e1,e2,e3,e4⟩:=ChainY.full (rest:=rest) (k:=k+1) (done:=Φ::done) AF (fun Ψ hΨ=>by
   exact UR) h3
  exact VF
theorem LinStepY.congr{G G':Nat→List Value→Γ→World→Prop}{i:Nat}{o:Oper}(hp:∀ j∈AV o,G j=G' j)(hi:G i=G' i)(h:LinStepY n0 P ops D R N G a0 γ0 w0 i o):LinStepY n0 P ops D R N G' a0 γ0 w0 i o:=by
 exact SQ
end
theorem Gg{Γ:Type}{P:Program}{n0:Nat}{l:List Oper}{Q:Exit→Act→World→Prop}{id:Nat}{a0:Act}{w0:World}(hnf:l.toArray.all J3=true)(hm:P.follows .mixedOrders=true)(D:Nat→List Nat)(hB:R8 l.toArray D a0.tmps.size=true)
  (R:Γ→World→Γ→World→Prop) (hrefl:∀ γ w,R γ w γ w) (htrans:∀ γ w γ' w' γ'' w'',R γ w γ' w'→R γ' w' γ'' w''→R γ w γ'' w'')
  (N:Nat→Γ→Prop) (γ0:Γ) (hN:∀ i,N i γ0)
  (h:ChainY n0 P l.toArray D R N a0 γ0 w0.drew (fun Φs=>∀ vals γ w,R γ0 w0.drew γ w→(∀ i,i<l.length→gOf Φs i ((D i).map vals) γ w)→Q .normal (Ah vals l 0 a0) w) 0 [] l) :
  (Code.region id l.toArray true).wpIn Fence.wide n0 P Q a0 w0:=by
 obtain ⟨Φs,-,h2,h3,h4⟩:=ChainY.full (k:=0) (done:=[]) rfl (fun _ h=>Ck) h;obtain ⟨-,-,-,hac,-⟩:=GH hB;refine NZ hnf hm D hB R hrefl htrans N (gOf Φs) (fun i l γ w γ' w' r hg => ?_) γ0 hN (fun i o hi => ?_) (fun vals γ w hr hg=>h3 vals γ w hr fun i hi=>hg i Bp)
 ·exact La
 ·exact Me

section
variable {Γ:Type}{n0:Nat}{P:Program}{ops:Array Oper}{D:Nat→List Nat}{R:Γ→World→Γ→World→Prop}{N:Nat→Γ→Prop}{a0:Act}{γ0:Γ}{w0:World}{Qf:List (Ft Γ)→Prop}{done:List (Ft Γ)}{o:Oper}{rest:List Oper}
theorem ChainY.step{k:Nat}(Φ:Ft Γ)(hk:done.length=k)(hst:O8 R Φ)
  (h:∀ vals γ w ρ,Xy ops D R N a0 γ0 w0 k done o vals γ w ρ (AY o vals=true∧Jd n0 P (fun v w'=>∃ γ',R γ w γ' w'∧(∀ j,j≠k→j ∉ AV o→N j γ→N j γ')∧Φ ((D k).map (F3 vals k v)) γ' w') ((execOp ρ o).run P w)))
  (next:ChainY n0 P ops D R N a0 γ0 w0 Qf (k+1) (Φ::done) rest):ChainY n0 P ops D R N a0 γ0 w0 Qf k done (o::rest):=by
 exact Rb
theorem H5A{k:Nat}{x:Value}(hrefl:∀ γ w,R γ w γ w)(hk:done.length=k)
  (h:∀ vals γ w ρ,Xy ops D R N a0 γ0 w0 k done o vals γ w ρ (AY o vals=true∧Jd n0 P (fun v w'=>v=x∧w'=w) ((execOp ρ o).run P w)))
  (hD:D k=[k]) (next:ChainY n0 P ops D R N a0 γ0 w0 Qf (k+1) (FV x::done) rest):ChainY n0 P ops D R N a0 γ0 w0 Qf k done (o::rest):=by
 refine ChainY.step (FV x) hk (IPA x) (fun vals γ w ρ hR hN hp h1 h2 h3 h4 => ?_) next;obtain ⟨g1,g2⟩:=h vals γ w ρ hR hN hp h1 h2 h3 h4;refine ⟨g1,?_⟩;have key:∀ v w',v=x∧w'=w→∃ γ',R γ w γ' w'∧(∀ j,j≠k→j ∉ AV o→N j γ→N j γ')∧FV x ((D k).map (F3 vals k v)) γ' w':=by
  exact QB
 revert g2
 cases (execOp ρ o).run P w with
 |ok n w' =>
  cases n with
  |value v=>exact key v w'
  |skip=>exact key undef w'
  |enter f args=>exact fun g2=>g2.mono fun e w'' ⟨v,e1,e2⟩=>⟨v,e1,key v w'' e2⟩
  |round l f tmps assign body=>exact fun g2=>g2.mono fun e w'' ⟨v,e1,e2⟩=>⟨v,e1,key v w'' e2⟩
  |_=>exact id
 |_=>exact id
end

def Rdy(r:Loop)(l D:Nat)(W:World):Prop:=W.heap[l]?=some (.loop r)∧W.heap[D]?=some (.deferred (some []))∧D<l
def HzA{β:Type}(B:Nat)(J:β→World→Prop):Prop:=∀ (s:β) (W:World) (l:Nat) (o o':Obj),B≤l→J s W→W.heap[l]?=some o→o.isCells=false→J s (W.putObj l o')
theorem Rdy.others{r:Loop}{l D:Nat}{W W':World}(h:Rdy r l D W)(k:KeepsOthers W W'):Rdy r l D W':=⟨k.same _ _ h.1 rfl,k.same _ _ h.2.1 rfl,h.2.2⟩
section
variable {F:Fence}{n:Nat}{P:Program}
end
end Go.Proofs.YtidacnalcdhckaaGreatDoor
namespace Go.Proofs.YtidacnalcdhckaaGreatDoor
open Go Go.RowKit Go.Shelf Tryz
variable {qP:Prop}
attribute [local go_sem] Oper.semAt_some

end Go.Proofs.YtidacnalcdhckaaGreatDoor
namespace Go.Proofs.YtidacnalcdhckaaGreatDoor
open Go Go.RowKit Go.Shelf Tryz
variable {qP:Prop}
attribute [local go_sem] Oper.semAt_some

structure RgJ(w:World)(g:Nat)(i:Nat)(W:World):Prop where
 ext:Ext w W
 res:Blk W g 4 #[.bool false]
 yr:Blk W (g+1) 3 #[.I (if 1≤i then 1 else 0)]
 mo:Blk W (g+1+1) 3 #[.I (if 3≤i then 1 else 0)]
 da:Blk W (g+1+1+1) 3 #[.I (if 5≤i then 1 else 0)]
 sh:Blk W (g+1+1+1+1) 4 #[.bool false]
theorem Blk.calm{W:World}{b t l:Nat}{cs:Array Value}{o o':Obj}(h:Blk W b t cs)(hl:W.heap[l]?=some o)(ho:o.isCells=false):Blk (W.putObj l o') b t cs:=by
 have hbl:b≠l:=by
  intro e;subst e;unfold Blk at h;rw [h] at hl;injection hl with hl;subst hl;cases ho
 unfold Blk at h⊢;rw [World.putObj_heap_other hbl];exact h
theorem RgJ.calm(w:World)(g:Nat):HzA w.heap.size (RgJ w g):=by
 intro i W l o o' hB h hl ho;exact ⟨⟨h.ext.os,h.ext.tape,h.ext.output,by simp only [World.putObj_size];exact h.ext.size,fun b hb=>by rw [World.putObj_heap_other AA];exact h.ext.block b hb⟩,h.res.calm hl ho,h.yr.calm hl ho,h.mo.calm hl ho,h.da.calm hl ho,h.sh.calm hl ho⟩
theorem RgJ.keep{w W W':World}{g i:Nat}(h:RgJ w g i W)(hx:Ext w W')(k:∀ b,b<W.heap.size→b<g+5→W'.heap[b]?=W.heap[b]?)(hs:W.heap.size≤W'.heap.size):RgJ w g i W':=by
 have hk:Kept (fun b=>b<g+5) W W':=⟨hs,fun b hb hl=>k b hl hb⟩;exact ⟨hx,h.res.keep (hk.mono fun b _ e=>AA),h.yr.keep (hk.mono fun b _ e=>AA),h.mo.keep (hk.mono fun b _ e=>AA),h.da.keep (hk.mono fun b _ e=>AA),h.sh.keep (hk.mono fun b _ e=>AA)⟩
theorem RgJ.more{w W W':World}{g i:Nat}(h:RgJ w g i W)(hx:Ext W W'):RgJ w g i W':=h.keep (h.ext.trans hx) (fun b hb _=>hx.block b hb) hx.size
theorem Ext.putObj{a b:World}(h:Ext a b){l:Nat}(hl:a.heap.size≤l)(o:Obj):Ext a (b.putObj l o):=⟨h.os,h.tape,h.output,by simp only [World.putObj_size];exact h.size,fun k hk=>by rw [World.putObj_heap_other AA];exact h.block k hk⟩
theorem Ext.others{W W':World}(h:Ext W W'):KeepsOthers W W':=⟨h.size,fun k _ hk _=>(h.block k (Array.getElem?_eq_some_iff.1 hk).1).trans hk⟩
theorem Blk.off{W:World}{b t g i:Nat}{cs:Array Value}{u:Value}(h:Blk W b t cs)(hne:b≠g):Blk (W.setCell ⟨g,i,none⟩ u) b t cs:=h.keep (Kept.set2 (Kept.refl _ _) (fun e=>hne e.symm))
theorem Rdy.ext{r:Loop}{l D:Nat}{W W':World}(h:Rdy r l D W)(hx:Ext W W'):Rdy r l D W':=by
 have h1:=(Array.getElem?_eq_some_iff.1 h.1).1;have h2:=h.2.2;exact ⟨(hx.block l h1).trans h.1,(hx.block D AA).trans h.2.1,h2⟩
theorem IOA{w:World}{t b:Nat}{cs:Array Value}(hb:b=w.heap.size):Blk (w.alloc (.cells cs t)) b t cs:=by rw [hb];exact Blk.new _ _ _
end Go.Proofs.YtidacnalcdhckaaGreatDoor
namespace Go.Proofs.YtidacnalcdhckaaGreatDoor
open Go Go.RowKit Go.Shelf Tryz
variable {qP:Prop}
attribute [local go_sem] Oper.semAt_some

theorem OY{w:World}{p:Addr}{u:Value}(h:w.cell? p=some u):p.block<w.heap.size:=by
 unfold World.cell? at h
 rcases Nat.lt_or_ge p.block w.heap.size with h1|h1
 ·exact h1
 ·rw [Array.getElem?_eq_none h1] at h;cases h
def RY(C:World→Prop)(γ:Nat)(w:World)(γ':Nat)(w':World):Prop:=(γ'=γ∧w'=w)∨(γ=0∧γ'=1∧C w')
theorem RY.refl(C:World→Prop)(γ:Nat)(w:World):RY C γ w γ w:=.inl ⟨rfl,rfl⟩
theorem RY.trans(C:World→Prop)(γ:Nat)(w:World)(γ':Nat)(w':World)(γ'':Nat)(w'':World)(h:RY C γ w γ' w')(k:RY C γ' w' γ'' w''):RY C γ w γ'' w'':=by
 rcases h with ⟨rfl,rfl⟩|⟨h1,h2,h3⟩
 ·exact k
 ·rcases k with ⟨rfl,rfl⟩|⟨k1,k2,k3⟩
  ·exact .inr ⟨h1,h2,h3⟩
  ·omega
theorem RY.at_{C:World→Prop}{w w':World}{γ:Nat}(h:RY C 0 w γ w')(h0:C w):C w':=by
 rcases h with ⟨-,rfl⟩|⟨-,-,h⟩
 ·exact h0
 ·exact h
theorem RY.same{C:World→Prop}{w w':World}(h:RY C 0 w 0 w'):w'=w:=by
 rcases h with ⟨-,rfl⟩|⟨-,h,-⟩
 ·rfl
 ·cases h
def NY(i:Nat)(γ:Nat):Prop:=i=7→γ=0
def KT(back:Bool)(n k p:Nat):Prop:=if back then p+k+1=n else p=k
theorem Tv(h:qP:=by
 have hk3:Kept T wT w3:=by
  split at h
  ·exact HJK.o _ _ h
  ·exact HJXK.o _ _ h
 rw [eCW];exact ⟨hk3.cell HTB.o.1 CA.o,hk3.cell HTB.o.2.1 CB.o⟩):qP:=h
theorem EV(h:qP:=by
 clear hR hN hp hρ;go_light;go_simp;exact ⟨rfl,rfl⟩):qP:=h
theorem Su(h:qP:=by
 intro vals γ w' ρ hR hN hp hρ hc hf hg;refine ⟨rfl,?_⟩;have e0:=hρ 0;(conv at e0=>rhs;whnf);exact EV):qP:=h
theorem Sl(h:qP:=by
 obtain ⟨m0,m1⟩:=HCW.o _ (hR.at_ HC0.o);exact EV):qP:=h
theorem SX(h:qP:=by
 intro vals γ w' ρ hR hN hp hρ hc hf hg;refine ⟨rfl,?_⟩;have e1:=hρ 1;(conv at e1=>rhs;whnf);exact Sl):qP:=h
theorem QQ(h:qP:=by
 intro vals γ w' ρ hR hN hp hρ hc hf hg;refine ⟨rfl,?_⟩;have e6:=hρ 6;(conv at e6=>rhs;whnf);exact EV):qP:=h
theorem TN(h:qP:=by
 intro vals γ w' ρ hR hN hp hρ hc hf hg;refine ⟨rfl,?_⟩;have e30:ρ (.tmp 30)=_:=(hρ 30).trans (hp 1 (by decide));have e31:ρ (.tmp 31)=_:=(hρ 31).trans (hp 2 (by decide));exact EV):qP:=h
theorem PV(h:qP:=by
 intro vals γ w' ρ hR hN hp hρ hc hf hg;refine ⟨rfl,?_⟩;have e2:=hρ 2;(conv at e2=>rhs;whnf);exact Sl):qP:=h
theorem S7(h:qP:=by
 intro vals γ w' ρ hR hN hp hρ hc hf hg;refine ⟨rfl,?_⟩;have e7:=hρ 7;(conv at e7=>rhs;whnf);exact EV):qP:=h
theorem Oq(h:qP:=by
 intro vals γ w' ρ hR hN hp hρ hc hf hg;refine ⟨rfl,?_⟩;have e33:ρ (.tmp 33)=_:=(hρ 33).trans (hp 4 (by decide));have e34:ρ (.tmp 34)=_:=(hρ 34).trans (hp 5 (by decide));exact EV):qP:=h
theorem QS(h:qP:=by
 rintro v γ w1 γ' w2 r ⟨h1,h2,h3⟩
 rcases r with ⟨e1,e2⟩|⟨e1,-,-⟩
 ·exact ⟨h1,e1.trans h2,by rw [e2];exact h3⟩
 ·omega):qP:=h
theorem PR(h:qP:=by
 intro vals γ w' ρ hR hN hp hρ hc hf hg;refine ⟨rfl,?_⟩;have e29:ρ (.tmp 29)=_:=(hρ 29).trans (hp 0 (by decide));have e32:ρ (.tmp 32)=_:=(hρ 32).trans (hp 3 (by decide));have e35:ρ (.tmp 35)=_:=(hρ 35).trans (hp 6 (by decide));have hg0:=hN rfl;subst hg0;have hws:=hR.same;subst hws;have hy:=HY.o;clear hR hN hp hρ;go_light;go_simp;refine HRR.o.mono ?_;rintro e1 w3 ⟨he,hpost⟩;refine ⟨_,he,1,.inr ⟨rfl,rfl,?_⟩,fun j hj _ _ e=>absurd e hj,rfl,rfl,hpost⟩;exact HCP.o w3 hpost):qP:=h
theorem Pq(h:qP:=by
 intro vals γ w' ρ hR hN hp hρ hc hf hg;refine ⟨rfl,?_⟩;have e36:ρ (.tmp 36)=_:=(hρ 36).trans (hp 7 (by decide)).1;exact EV):qP:=h
theorem BeA(m:Nat)(_hm:1≤m)(l ba bb bk:Nat)(wT W0:World)(T:NP)(a b:BA)(back:Bool)(ha:a.size≤4294967296)(hb:b.size≤4294967296)
  (hT:T ba∧T bb∧T bk) (ca:wT.cell? ⟨ba,0,none⟩=some (.string a)) (cb:wT.cell? ⟨bb,0,none⟩=some (.string b)) (ck:wT.cell? ⟨bk,0,none⟩=some (.bool back))
  (ans:Nat→Bool) (J Jx:Nat→World→Prop) (hJx:∀ k W W',J k W→Ext W W'→J k W') (hJk:∀ k W,J k W→Kept T wT W) (hJxk:∀ k W,Jx k W→Kept T wT W)
  (hround:∀ k W p q (hp:p<a.size) (hq:q<b.size),J k W→KT back a.size k p→KT back b.size k q →
   YieldAt Fence.wide (m-1) prog l #[.int .u8 (a[p].toNat:Int),.int .u8 (b[q].toNat:Int)] W fun e W'=>e=.returned (.bool (ans k))∧(if ans k=true then J (k+1) W' else Jx k W'))
  (h0:J 0 W0) :
  CallsIn Fence.wide m prog 237 #[.func (.yield l) #[] #[],.pointer (some ⟨ba,0,none⟩),.pointer (some ⟨bb,0,none⟩),.pointer (some ⟨bk,0,none⟩)] W0 fun e W'=>(∃ v,e=.returned v)∧(J (min a.size b.size) W'∨∃ k,k<min a.size b.size∧ans k=false∧Jx k W'):=by
 obtain ⟨HTB,CA,CB,CK,HJX,HJK,HJXK,HRD⟩:=Hd8 hT ca cb ck hJx hJk hJxk hround;have HJ0:=Hd h0;have k0:=hJk 0 W0 h0;have ca0:=k0.cell hT.1 ca;have cb0:=k0.cell hT.2.1 cb;have za:=OY ca0;have zb:=OY cb0;obtain ⟨n,en⟩:=eqx (min a.size b.size);have hmin:min (a.size:Int) (b.size:Int)=(n:Int):=AA;have HN:=Hd (show n≤a.size∧n≤b.size∧n=min a.size b.size from ⟨AA,AA,en⟩);rw [←en];clear en hT ca cb ck hJx hJk hJxk hround h0 k0;refine callsIn_of_wp func237 rfl trivial ?_ rfl;simp only [ntmps237,List.size_toArray,List.length_cons,List.length_nil,Nat.reduceAdd,Nat.reduceSub,Array.replicate_succ,Array.replicate_zero,List.push_toArray,List.append_toArray,List.nil_append,List.cons_append]
 gi_wp2
 clear ca0 cb0 za zb hmin
 gi_loopw [13] (fun v13 wr=>∃ k:Nat,k≤n∧v13=.I (k:Int)∧J k wr) (fun v13 _=>n-(intOf v13).toNat)
 case atStart=>exact ⟨0,AN,rfl,HJ0.o⟩
 case round =>
  obtain ⟨k,hk,rfl,hjw⟩:=hrel;have HJW:=Hd hjw;have HKW:=Hd (HJK.o k wr hjw);clear hjw;have ck0:=HKW.o.cell HTB.o.2.2 CK.o;have zk:=OY ck0;have hna:=HN.o.1;have hnb:=HN.o.2.1;by_cases hlt:k<n
  ·have hi1:(k:Int)<(n:Int):=AA;have hi0:(0:Int)≤(k:Int):=AA;cases back with
   |false =>
    have hp:k<a.size:=AA;have hq:k<b.size:=AA;have CAW:=Hd (HKW.o.cell HTB.o.1 CA.o);have CBW:=Hd (HKW.o.cell HTB.o.2.1 CB.o);obtain ⟨CW,eCW⟩:∃ CW:World→Prop,CW=fun w'=>w'.cell? ⟨ba,0,none⟩=some (.string a)∧w'.cell? ⟨bb,0,none⟩=some (.string b):=⟨_,rfl⟩;have HC0:=Hd (show CW wr.drew by rw [eCW];exact ⟨((Ext.refl wr).drew).cell CAW.o,((Ext.refl wr).drew).cell CBW.o⟩);have HCP:=Hd (show ∀ w3,(if ans k=true then J (k+1) w3 else Jx k w3)→CW w3 from fun w3 h=>by
     exact Tv)
    have HCW:=Hd (show ∀ w3,CW w3→w3.cell? ⟨ba,0,none⟩=some (.string a)∧w3.cell? ⟨bb,0,none⟩=some (.string b) from fun w3 h=>by rw [eCW] at h;exact h);clear eCW;obtain ⟨fn,tmps,assign,body,hy,hR2⟩:=HRD.o k wr.drew k k hp hq (HJX.o _ _ _ HJW.o ((Ext.refl wr).drew)) rfl rfl;have HY:=Hd hy;have HRR:=Hd hR2;clear hy hR2
    gi_wp2
    refine Gg AD AD (fun i=>[i]) AD (RY CW) (RY.refl CW) (RY.trans CW) NY 0 (fun _ _=>rfl) ?_;apply H5A (RY.refl CW) AG
    ·exact Su
    ·rfl
    apply H5A (RY.refl CW) AG
    ·exact SX
    ·rfl
    apply H5A (RY.refl CW) AG
    ·exact QQ
    ·rfl
    apply H5A (RY.refl CW) AG
    ·exact TN
    ·rfl
    apply H5A (RY.refl CW) AG
    ·exact PV
    ·rfl
    apply H5A (RY.refl CW) AG
    ·exact S7
    ·rfl
    apply H5A (RY.refl CW) AG
    ·exact Oq
    ·rfl
    refine ChainY.step (FP fun v γ w'=>v=.bool (ans k)∧γ=1∧(if ans k=true then J (k+1) w' else Jx k w')) AG (H1A ?_) ?_ ?_
    ·exact QS
    ·exact PR
    apply H5A (RY.refl CW) AG
    ·exact Pq
    ·rfl
    intro vals γ w9 hR hG;have v0:vals 0=_:=hG 0 AB;have v1:vals 1=_:=hG 1 AB;have v2:vals 2=_:=hG 2 AB;have v3:vals 3=_:=hG 3 AB;have v4:vals 4=_:=hG 4 AB;have v5:vals 5=_:=hG 5 AB;have v6:vals 6=_:=hG 6 AB;obtain ⟨v7,-,hpj⟩:=hG 7 AB;have HPJ:=Hd hpj;have v8:vals 8=_:=hG 8 AB;simp only [Ah,Act.put,List.setIfInBounds_toArray,List.set_cons_succ,List.set_cons_zero,Nat.zero_add,Nat.reduceAdd,v0,v1,v2,v3,v4,v5,v6,v7,v8];clear v0 v1 v2 v3 v4 v5 v6 v7 v8 hR hG hpj;obtain ⟨s,es⟩:=eqx (ans k);rw [←es] at HPJ⊢;have HS:=Hd es;clear es;cases s with
    |true =>
     gi_wp2
     exact ⟨⟨k+1,AA,AC,by have:=HPJ.o;rwa [if_pos rfl] at this⟩,by simp [intOf];omega⟩
    |false =>
     gi_wp2
     refine bodyPost_ret (results_none results237 _ _ _) rfl ⟨⟨_,rfl⟩,.inr ⟨k,hlt,HS.o.symm,?_⟩⟩;have:=HPJ.o;rwa [if_neg AC] at this
   |true =>
    obtain ⟨p,ep⟩:∃ p,p+k+1=a.size:=⟨a.size-1-k,AA⟩;obtain ⟨q,eq⟩:∃ q,q+k+1=b.size:=⟨b.size-1-k,AA⟩;have HP1:=Hd (show KT true a.size k p from ep);have HP2:=Hd (show KT true b.size k q from eq);have hp:p<a.size:=AA;have hq:q<b.size:=AA;have hu1:(a.size:Int)-1-(k:Int)=(p:Int):=AA;have hu2:(b.size:Int)-1-(k:Int)=(q:Int):=AA;have hz1:IntKind.i64.wrap ((a.size:Int)-1)=(a.size:Int)-1:=(by rw [IntKind.wrap_i64];omega);have hz2:IntKind.i64.wrap ((b.size:Int)-1)=(b.size:Int)-1:=(by rw [IntKind.wrap_i64];omega);have hz3:IntKind.i64.wrap ((a.size:Int)-1-(k:Int))=(p:Int):=(by rw [hu1];rw [IntKind.wrap_i64];omega);have hz4:IntKind.i64.wrap ((b.size:Int)-1-(k:Int))=(q:Int):=(by rw [hu2];rw [IntKind.wrap_i64];omega);clear ep eq hu1 hu2;have CAW:=Hd (HKW.o.cell HTB.o.1 CA.o);have CBW:=Hd (HKW.o.cell HTB.o.2.1 CB.o)
    gi_wp2
    refine Ks AD AD (fun i=>[i]) AD (LZ (fun _ _=>False)) (LZ.refl _) (LZ.trans _) (LK []) gz0 (LK.zero _) ?_
    iterate 12 refine Qp ?_
    intro vals γ w9 hR hG;refine Qx ?_;have HX5:=Hd (show Ext wr w9 from hR.ext0 (fun _ _ _ h=>h.elim));clear hR hG;have HKZ:=Hd (HJK.o k w9 (HJX.o _ _ _ HJW.o HX5.o));clear hz1 hz2 hz3 hz4;have CAZ:=Hd (HKZ.o.cell HTB.o.1 CA.o);have CBZ:=Hd (HKZ.o.cell HTB.o.2.1 CB.o);obtain ⟨CW,eCW⟩:∃ CW:World→Prop,CW=fun w'=>w'.cell? ⟨ba,0,none⟩=some (.string a)∧w'.cell? ⟨bb,0,none⟩=some (.string b):=⟨_,rfl⟩;have HC0:=Hd (show CW w9.drew by rw [eCW];exact ⟨((Ext.refl w9).drew).cell CAZ.o,((Ext.refl w9).drew).cell CBZ.o⟩);have HCP:=Hd (show ∀ w3,(if ans k=true then J (k+1) w3 else Jx k w3)→CW w3 from fun w3 h=>by
     exact Tv)
    have HCW:=Hd (show ∀ w3,CW w3→w3.cell? ⟨ba,0,none⟩=some (.string a)∧w3.cell? ⟨bb,0,none⟩=some (.string b) from fun w3 h=>by rw [eCW] at h;exact h);clear eCW;obtain ⟨fn,tmps,assign,body,hy,hR2⟩:=HRD.o k w9.drew p q hp hq (HJX.o _ _ _ HJW.o (HX5.o.drew)) HP1.o HP2.o;have HY:=Hd hy;have HRR:=Hd hR2;clear hy hR2
    gi_wp2
    refine Gg AD AD (fun i=>[i]) AD (RY CW) (RY.refl CW) (RY.trans CW) NY 0 (fun _ _=>rfl) ?_;apply H5A (RY.refl CW) AG
    ·exact Su
    ·rfl
    apply H5A (RY.refl CW) AG
    ·exact SX
    ·rfl
    apply H5A (RY.refl CW) AG
    ·exact QQ
    ·rfl
    apply H5A (RY.refl CW) AG
    ·exact TN
    ·rfl
    apply H5A (RY.refl CW) AG
    ·exact PV
    ·rfl
    apply H5A (RY.refl CW) AG
    ·exact S7
    ·rfl
    apply H5A (RY.refl CW) AG
    ·exact Oq
    ·rfl
    refine ChainY.step (FP fun v γ w'=>v=.bool (ans k)∧γ=1∧(if ans k=true then J (k+1) w' else Jx k w')) AG (H1A ?_) ?_ ?_
    ·exact QS
    ·exact PR
    apply H5A (RY.refl CW) AG
    ·exact Pq
    ·rfl
    intro vals γ wz hR hG;have v0:vals 0=_:=hG 0 AB;have v1:vals 1=_:=hG 1 AB;have v2:vals 2=_:=hG 2 AB;have v3:vals 3=_:=hG 3 AB;have v4:vals 4=_:=hG 4 AB;have v5:vals 5=_:=hG 5 AB;have v6:vals 6=_:=hG 6 AB;obtain ⟨v7,-,hpj⟩:=hG 7 AB;have HPJ:=Hd hpj;have v8:vals 8=_:=hG 8 AB;simp only [Ah,Act.put,List.setIfInBounds_toArray,List.set_cons_succ,List.set_cons_zero,Nat.zero_add,Nat.reduceAdd,v0,v1,v2,v3,v4,v5,v6,v7,v8];clear v0 v1 v2 v3 v4 v5 v6 v7 v8 hR hG hpj;obtain ⟨s,es⟩:=eqx (ans k);rw [←es] at HPJ⊢;have HS:=Hd es;clear es;cases s with
    |true =>
     gi_wp2
     exact ⟨⟨k+1,AA,AC,by have:=HPJ.o;rwa [if_pos rfl] at this⟩,by simp [intOf];omega⟩
    |false =>
     gi_wp2
     refine bodyPost_ret (results_none results237 _ _ _) rfl ⟨⟨_,rfl⟩,.inr ⟨k,hlt,HS.o.symm,?_⟩⟩;have:=HPJ.o;rwa [if_neg AC] at this
  ·have hke:k=n:=AA;subst hke;have hi1:¬((k:Int)<(k:Int)):=AA
   gi_wp2
   go_end0
   exact ⟨⟨_,rfl⟩,.inl HJW.o⟩
end Go.Proofs.YtidacnalcdhckaaGreatDoor
