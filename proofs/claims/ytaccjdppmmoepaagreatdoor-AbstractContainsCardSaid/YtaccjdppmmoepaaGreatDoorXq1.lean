/- Lemmas. No conditions. -/
import Derived.Test.YtaccjdppmmoepaaGreatDoorProg
import Derived.Tactics
import Derived.Tactics2
import Derived.WalkKit
import Derived.LoopTactic
import Derived.RegionTactic
import Derived.Deep.QuietTactic
import Derived.BigQuiet
import Derived.Below
import Derived.Laws.OwnMore
import Derived.Deep.AppendLies
import Derived.Deep.Draws
import Derived.Deep.RegionHeld3
import Derived.StillTailTactics
import Derived.Maps.AppendAt
import Derived.OwnWalk
import Derived.Outline
import Derived.KernelRfl
import Derived.Lib.Hide
import Derived.Laws.MakeOwn
import Derived.WalkSpells
set_option maxRecDepth 100000
set_option maxHeartbeats 400000
namespace Go.Proofs.YtaccjdppmmoepaaGreatDoor
open Go Go.RowKit Tryz
variable {qP:Prop}
theorem Hd {p : Prop} (h : p) : Go.RowKit.Hid p := h
end Go.Proofs.YtaccjdppmmoepaaGreatDoor
namespace Go.RowKit
theorem Hid.o {p : Prop} (h : Hid p) : p := h.out
end Go.RowKit
namespace Go.Proofs.YtaccjdppmmoepaaGreatDoor
open Go Go.RowKit Tryz
variable {qP:Prop}
end Go.Proofs.YtaccjdppmmoepaaGreatDoor
namespace Go
abbrev Value.I(x:Int):Value:=.int .i64 x
end Go
namespace Go.Proofs.YtaccjdppmmoepaaGreatDoor
open Go Go.RowKit Tryz
variable {qP:Prop}
abbrev OA:=Option Addr
abbrev BA:=ByteArray
abbrev NP:=Nat->Prop
abbrev Az:Array Value:=List.toArray [.int .i64 0,.int .i64 0,.int .i64 0,.int .i64 0,.string ⟨#[]⟩,.string ⟨#[]⟩,.int .i64 0,.int .i64 0,.int .i64 0,.int .i64 0,.int .i64 0,.int .i64 0,.int .i64 0,.int .i64 0,.int .i64 0,.slice none 0 0,.slice none 0 0,.bool false]
abbrev Vz:Array Value:=List.toArray [.int .i64 0,.string ⟨#[]⟩,.int .i64 0,.int .i64 0,.int .i64 0,.slice none 0 0,.slice none 0 0]
abbrev Cl:=Calls Tryz.prog
theorem Hd3{p0 p1 p2:Prop}(a0:p0)(a1:p1)(a2:p2):Hid p0/\Hid p1/\Hid p2:=⟨Hd a0,Hd a1,Hd a2⟩
theorem Hd4{p0 p1 p2 p3:Prop}(a0:p0)(a1:p1)(a2:p2)(a3:p3):Hid p0/\Hid p1/\Hid p2/\Hid p3:=⟨Hd a0,Hd a1,Hd a2,Hd a3⟩
theorem Hd5{p0 p1 p2 p3 p4:Prop}(a0:p0)(a1:p1)(a2:p2)(a3:p3)(a4:p4):Hid p0/\Hid p1/\Hid p2/\Hid p3/\Hid p4:=⟨Hd a0,Hd a1,Hd a2,Hd a3,Hd a4⟩
theorem Hd6{p0 p1 p2 p3 p4 p5:Prop}(a0:p0)(a1:p1)(a2:p2)(a3:p3)(a4:p4)(a5:p5):Hid p0/\Hid p1/\Hid p2/\Hid p3/\Hid p4/\Hid p5:=⟨Hd a0,Hd a1,Hd a2,Hd a3,Hd a4,Hd a5⟩
theorem Hd7{p0 p1 p2 p3 p4 p5 p6:Prop}(a0:p0)(a1:p1)(a2:p2)(a3:p3)(a4:p4)(a5:p5)(a6:p6):Hid p0/\Hid p1/\Hid p2/\Hid p3/\Hid p4/\Hid p5/\Hid p6:=⟨Hd a0,Hd a1,Hd a2,Hd a3,Hd a4,Hd a5,Hd a6⟩
theorem Hd8{p0 p1 p2 p3 p4 p5 p6 p7:Prop}(a0:p0)(a1:p1)(a2:p2)(a3:p3)(a4:p4)(a5:p5)(a6:p6)(a7:p7):Hid p0/\Hid p1/\Hid p2/\Hid p3/\Hid p4/\Hid p5/\Hid p6/\Hid p7:=⟨Hd a0,Hd a1,Hd a2,Hd a3,Hd a4,Hd a5,Hd a6,Hd a7⟩
theorem Qt{p q:Prop}(k:q)(h:Hid q->p:=by
    intro k
    try simp only [List.setIfInBounds_toArray,Act.put,List.set_cons_succ,List.set_cons_zero,Nat.zero_add,Nat.reduceAdd]
    exact k.o):p:=h (Hd k)
theorem Bl{a b:Nat}(h:a=b):b<=a:=by rw [h];exact Nat.le_refl b
theorem AN{n:Nat} : 0<=n:=Nat.zero_le n
theorem Al{n:Nat} : n<=n:=Nat.le_refl n
theorem eqx{α:Sort _}(a:α):∃ z,z=a:=⟨a,rfl⟩

structure Val where
  kind:Int
  s:BA
  dn:Int
  ds:Int
  n:Int
  cols:List BA
  rows:List (List Val)
abbrev Vp(x:Val)(A:Option Addr)(c:Nat)(B:Option Addr)(e:Nat):Array Value:=List.toArray [.int .i64 x.kind,.string x.s,.int .i64 x.dn,.int .i64 x.ds,.int .i64 x.n,.slice A x.cols.length c,.slice B x.rows.length e]
abbrev Vq(x:Val)(A:Option Addr)(c:Nat)(B:Option Addr)(e:Nat):Value:=.agg (Vp x A c B e)

mutual
def Val.beqV:Val->Val->Bool
  |⟨k,s,a,b,n,c,r⟩,⟨k',s',a',b',n',c',r'⟩=>decide (k=k')&&decide (s=s')&&decide (a=a')&&decide (b=b')&&decide (n=n')&&decide (c=c')&&Val.beqRs r r'
def Val.beqRs:List (List Val)->List (List Val)->Bool
  |[],[]=>true
  |x::l,y::m=>Val.beqR x y&&Val.beqRs l m
  |_,_=>false
def Val.beqR:List Val->List Val->Bool
  |[],[]=>true
  |x::l,y::m=>Val.beqV x y&&Val.beqR l m
  |_,_=>false
 end
mutual
theorem Val.beqV_eq:∀ x y:Val,Val.beqV x y=true↔x=y
  |⟨k,s,a,b,n,c,r⟩,⟨k',s',a',b',n',c',r'⟩=>by
    have:=Val.beqRs_eq r r'
    simp [Val.beqV,this,and_assoc]
theorem Val.beqRs_eq:∀ x y:List (List Val),Val.beqRs x y=true↔x=y
  |[],[]=>by simp [Val.beqRs]
  |[],_::_=>by simp [Val.beqRs]
  |_::_,[]=>by simp [Val.beqRs]
  |x::l,y::m=>by
    have h1:=Val.beqR_eq x y
    have h2:=Val.beqRs_eq l m
    simp [Val.beqRs,h1,h2]
theorem Val.beqR_eq:∀ x y:List Val,Val.beqR x y=true↔x=y
  |[],[]=>by simp [Val.beqR]
  |[],_::_=>by simp [Val.beqR]
  |_::_,[]=>by simp [Val.beqR]
  |x::l,y::m=>by
    have h1:=Val.beqV_eq x y
    have h2:=Val.beqR_eq l m
    simp [Val.beqR,h1,h2]
 end
instance:DecidableEq Val:=λx y=>decidable_of_iff _ (Val.beqV_eq x y)

def Ext(w J:World):Prop:=Below w.heap.size w J
theorem Ext.refl(w:World):Ext w w:=Below.refl _ _
theorem Ext.trans{a b c:World}(h:Ext a b)(k:Ext b c):Ext a c:=Below.trans h (Below.mono k h.size)
theorem Ext.drew{a b:World}(h:Ext a b):Ext a b.drew:=Below.drew h
theorem Ext.drewN{a b:World}(h:Ext a b)(n:Nat):Ext a (b.drewN n):=⟨h.os,h.tape,h.output,h.size,h.block⟩
theorem Ext.alloc{a b:World}(h:Ext a b)(o:Obj):Ext a (b.alloc o):=Below.alloc h h.size o
theorem exaa(w:World){o:Obj} : Ext w (w.alloc o):=(Ext.refl w).alloc o
theorem exbb(w:World){o p:Obj} : Ext w ((w.alloc o).alloc p):=(exaa w).alloc p
theorem excc(w:World){o p q:Obj} : Ext w (((w.alloc o).alloc p).alloc q):=(exbb w).alloc q
theorem Ext.setCell{a b:World}(h:Ext a b){p:Addr}(hp:a.heap.size<=p.block)(u:Value):Ext a (b.setCell p u):=Below.setCell h hp u
theorem Ext.grown{a b c:World}{row:Option Nat}(h:Ext a b)(hg:b.grownBy c row)(hr:∀ k,row=some k->a.heap.size<=k):Ext a c:=Below.grown h hg h.size hr
theorem Ext.mono{w J:World}(h:Ext w J){B:Nat}(hB:B<=w.heap.size):Below B w J:=Below.mono h hB
theorem Z6940d40c6(h:qP:=by
  rw [Array.getElem?_eq_none h1] at hc;cases hc):qP:=h
theorem Zbea95ee93(h:qP:=by
  unfold World.cell? at hc
  rcases Nat.lt_or_ge p.block w.heap.size with h1|h1
  · exact h1
  · exact Z6940d40c6):qP:=h
theorem Ext.cell{w J:World}(h:Ext w J){p:Addr}{u:Value}(hc:w.cell? p=some u):J.cell? p=some u:=by
  have hp:p.block<w.heap.size:=by
    exact Zbea95ee93
  rw [Below.cell h hp];exact hc

def Kept(S:NP)(w J:World):Prop:=w.heap.size<=J.heap.size/\∀ b,S b->b<w.heap.size->J.heap[b]?=w.heap[b]?
theorem Ext.kept{w J:World}(h:Ext w J)(S:NP):Kept S w J:=⟨h.size,λb _ hb=>h.block b hb⟩
theorem Kept.refl(S:NP)(w:World):Kept S w w:=⟨Al,λ_ _ _=>rfl⟩
theorem Kept.drew(S:NP)(w:World):Kept S w w.drew:=⟨Al,λ_ _ _=>rfl⟩
theorem Kept.drewN(S:NP)(w:World)(n:Nat):Kept S w (w.drewN n):=⟨Al,λ_ _ _=>rfl⟩
theorem Kept.alloc(S:NP)(w:World)(o:Obj):Kept S w (w.alloc o):=((Ext.refl w).alloc o).kept S
theorem Kept.trans{S:NP}{a b c:World}(h:Kept S a b)(k:Kept S b c):Kept S a c :=
  ⟨Nat.le_trans h.1 k.1,λi hi hl=>(k.2 i hi (Nat.lt_of_lt_of_le hl h.1)).trans (h.2 i hi hl)⟩
theorem Kept.mono{S T:NP}{a b:World}(h:Kept S a b)(k:∀ i,i<a.heap.size->T i->S i):Kept T a b:=⟨h.1,λi hi hl=>h.2 i (k i hl hi) hl⟩
theorem Kept.of_grown{w J:World}{row:Option Nat}{S:NP}(h:w.grownBy J row)(hS:∀ b,S b->b<w.heap.size->some b≠row):Kept S w J :=
  ⟨h.size,λb hb hl=>h.block b hl (hS b hb hl)⟩
theorem Y78171d3d0(h:qP:=by simp [World.setCell]):qP:=h
theorem Kept.of_set{w:World}{p:Addr}{u:Value}{S:NP}(hS:¬S p.block):Kept S w (w.setCell p u) :=
  ⟨Y78171d3d0,λb hb _=>Below.heap_setCell w p u b (λe=>hS (e ▸ hb))⟩
theorem Kept.set2{w J:World}{g i:Nat}{u:Value}{S:NP}(h:Kept S w J)(hS:¬S g):Kept S w (J.setCell ⟨g,i,none⟩ u):=h.trans (Kept.of_set hS)
theorem Ext.set2{a b:World}(h:Ext a b){g i:Nat}(hp:a.heap.size<=g)(u:Value):Ext a (b.setCell ⟨g,i,none⟩ u):=h.setCell hp u

def Rd(w:World)(S:NP)(A:OA)(xs:List Value):Prop :=
  xs=[]\/∃ b o,A=some ⟨b,o,none⟩/\S b/\b<w.heap.size/\∀ j u,xs[j]?=some u->w.cell? ⟨b,o+j,none⟩=some u
section
variable {w J:World}{S T:NP}{A:OA}{xs:List Value}
theorem Rd.nil:Rd w S A []:=Or.inl rfl
theorem Rd.keep(h:Rd w S A xs)(k:Kept S w J):Rd J S A xs:=by
  rcases h with h|⟨b,o,h1,h2,h3,h4⟩
  · exact Or.inl h
  · exact Or.inr ⟨b,o,h1,h2,Nat.lt_of_lt_of_le h3 k.1,λj u hj=>(World.cell?_of_block (w:=w) (k.2 b h2 h3)).trans (h4 j u hj)⟩
theorem Rd.mono(h:Rd w S A xs)(k:∀ i,i<w.heap.size->S i->T i):Rd w T A xs:=by
  rcases h with h|⟨b,o,h1,h2,h3,h4⟩
  · exact Or.inl h
  · exact Or.inr ⟨b,o,h1,k b h3 h2,h3,h4⟩
theorem Rd.at_(h:Rd w S A xs){k:Nat}{u:Value}(hk:xs[k]?=some u):∃ b o,A=some ⟨b,o,none⟩/\b<w.heap.size/\w.cell? ⟨b,o+k,none⟩=some u:=by
  rcases h with h|⟨b,o,h1,_,h3,h4⟩
  · subst h;simp at hk
  · exact ⟨b,o,h1,h3,h4 k u hk⟩
theorem Rd.some_(h:Rd w S A xs)(hk:xs≠[]):∃ b o,A=some ⟨b,o,none⟩/\S b/\b<w.heap.size/\∀ j u,xs[j]?=some u->w.cell? ⟨b,o+j,none⟩=some u:=by
  rcases h with h|h
  · exact absurd h hk
  · exact h
theorem Z86a2bf972(h:qP:=by
  rw [Array.getElem?_eq_none h1] at hh;cases hh):qP:=h
theorem Z9472c5183(h:qP:=by
  rcases Nat.lt_or_ge g w.heap.size with h1|h1
  · exact h1
  · exact Z86a2bf972):qP:=h
theorem Rd.of_own{base e sz n c:Nat}(h:w.ownsRow base e sz (.slice A n c) n xs):Rd w (λb=>base<=b) A xs:=by
  rcases h.2 with ⟨hv,hn⟩|⟨g,cap,cur,hv,hb,hh,O,U,hcs,ht⟩
  · left
    have:=h.1
    rw [hn] at this
    exact List.eq_nil_of_length_eq_zero (by simpa using this)
  · right
    have hA:A=some ⟨g,0,none⟩:=by injection hv
    have hlt:g<w.heap.size:=by
      exact Z9472c5183
    refine ⟨g,0,hA,hb,hlt,λj u hj => ?_⟩
    have:=h.cells (g:=g) (by rw [hA];rfl) j u hj
    simpa [Addr.add_lit] using this
theorem Rd.take(h:Rd w S A xs)(k:Nat):Rd w S A (xs.take k):=by
  rcases h with h|⟨b,o,h1,h2,h3,h4⟩
  · subst h;simp [Rd]
  · refine Or.inr ⟨b,o,h1,h2,h3,λj u hj=>h4 j u ?_⟩
    rw [List.getElem?_take] at hj
    split at hj
    · exact hj
    · cases hj
end

def Strs(w:World)(S:NP)(A:OA)(l:List BA):Prop :=
  Rd w S A (l.map Value.string)/\l.length<=4294967296/\∀ s∈l,s.size<=4294967296
def Ints(w:World)(S:NP)(A:OA)(l:List Int):Prop :=
  Rd w S A (l.map (Value.int .i64))/\l.length<=4294967296
def En(x:Val)(A:OA)(c:Nat)(B:OA)(e:Nat):List Value :=
  [.I x.kind,.string x.s,.I x.dn,.I x.ds,.I x.n,.slice A x.cols.length c,.slice B x.rows.length e]
def RVs(R:Val->List Value->Prop)(w:World)(S:NP)(A:OA)(l:List Val):Prop :=
  l.length<=4294967296/\∃ xs:List Value,Rd w S A xs/\xs.length=l.length*7/\∀ (j:Nat) (y:Val),l[j]?=some y->R y ((xs.drop (j*7)).take 7)
def RRs(R:Val->List Value->Prop)(w:World)(S:NP)(A:OA)(l:List (List Val)):Prop :=
  l.length<=4294967296/\∃ hs:List Value,Rd w S A hs/\hs.length=l.length/\∀ (i:Nat) (r:List Val),l[i]?=some r->∃ (B:OA) (e:Nat),hs[i]?=some (Value.slice B r.length e)/\r.length<=e/\RVs R w S B r
def RV(w:World)(S:NP):Nat->Val->OA->OA->Prop
  |0,x,A,B=>x.s.size<=4294967296/\Strs w S A x.cols/\RRs (λ_ _=>False) w S B x.rows
  |d+1,x,A,B=>x.s.size<=4294967296/\Strs w S A x.cols/\RRs (λy cs=>∃ A c B e,cs=En y A c B e/\(y.cols.length<=c/\y.rows.length<=e)/\RV w S d y A B) w S B x.rows
def Rows(w:World)(S:NP)(d:Nat)(B:OA)(l:List (List Val)):Prop :=
  RRs (λy cs=>∃ A c B e,cs=En y A c B e/\(0<d/\y.cols.length<=c/\y.rows.length<=e)/\RV w S (d-1) y A B) w S B l
def Row(w:World)(S:NP)(d:Nat)(B:OA)(l:List Val):Prop :=
  RVs (λy cs=>∃ A c B e,cs=En y A c B e/\(0<d/\y.cols.length<=c/\y.rows.length<=e)/\RV w S (d-1) y A B) w S B l

section
variable {w J:World}{S T:NP}{A B:OA}{d:Nat}{x:Val}
theorem Strs.keep{l:List BA}(h:Strs w S A l)(k:Kept S w J):Strs J S A l:=⟨h.1.keep k,h.2⟩
theorem Strs.mono{l:List BA}(h:Strs w S A l)(k:∀ i,i<w.heap.size->S i->T i):Strs w T A l:=⟨h.1.mono k,h.2⟩
theorem AF(h:qP:=by simp [hk]):qP:=h
theorem Strs.at_{l:List BA}(h:Strs w S A l){k:Nat}(hk:k<l.length):∃ b o,A=some ⟨b,o,none⟩/\b<w.heap.size/\w.cell? ⟨b,o+k,none⟩=some (.string l[k]) :=
  h.1.at_ AF
theorem Strs.sz{l:List BA}(h:Strs w S A l){k:Nat}(hk:k<l.length):l[k].size<=4294967296:=h.2.2 _ (List.getElem_mem hk)
theorem AC(h:qP:=by simp):qP:=h
theorem Strs.nil:Strs w S A []:=⟨Or.inl rfl,AC,AC⟩
theorem Ints.keep{l:List Int}(h:Ints w S A l)(k:Kept S w J):Ints J S A l:=⟨h.1.keep k,h.2⟩
theorem Ints.mono{l:List Int}(h:Ints w S A l)(k:∀ i,i<w.heap.size->S i->T i):Ints w T A l:=⟨h.1.mono k,h.2⟩
theorem Ints.at_{l:List Int}(h:Ints w S A l){k:Nat}(hk:k<l.length):∃ b o,A=some ⟨b,o,none⟩/\b<w.heap.size/\w.cell? ⟨b,o+k,none⟩=some (.I l[k]) :=
  h.1.at_ AF
theorem Ints.nil:Ints w S A []:=⟨Or.inl rfl,AC⟩
theorem RVs.imp{R R':Val->List Value->Prop}{l:List Val}(h:RVs R w S A l)(f:∀ y cs,R y cs->R' y cs):RVs R' w S A l:=by
  obtain ⟨h0,xs,h1,h2,h3⟩:=h
  exact ⟨h0,xs,h1,h2,λj y hj=>f _ _ (h3 j y hj)⟩
theorem RRs.imp{R R':Val->List Value->Prop}{l:List (List Val)}(h:RRs R w S A l)(f:∀ y cs,R y cs->R' y cs):RRs R' w S A l:=by
  obtain ⟨h0,xs,h1,h2,h3⟩:=h
  refine ⟨h0,xs,h1,h2,λj y hj => ?_⟩
  obtain ⟨B,e,hb,hcp,hr⟩:=h3 j y hj
  exact ⟨B,e,hb,hcp,hr.imp f⟩
theorem RVs.keep{R:Val->List Value->Prop}{l:List Val}(h:RVs R w S A l)(k:Kept S w J):RVs R J S A l:=by
  obtain ⟨h0,xs,h1,h2,h3⟩:=h
  exact ⟨h0,xs,h1.keep k,h2,h3⟩
theorem RVs.mono{R:Val->List Value->Prop}{l:List Val}(h:RVs R w S A l)(k:∀ i,i<w.heap.size->S i->T i):RVs R w T A l:=by
  obtain ⟨h0,xs,h1,h2,h3⟩:=h
  exact ⟨h0,xs,h1.mono k,h2,h3⟩
theorem RRs.keep{R:Val->List Value->Prop}{l:List (List Val)}(h:RRs R w S A l)(k:Kept S w J):RRs R J S A l:=by
  obtain ⟨h0,xs,h1,h2,h3⟩:=h
  refine ⟨h0,xs,h1.keep k,h2,λj y hj => ?_⟩
  obtain ⟨B,e,hb,hcp,hr⟩:=h3 j y hj
  exact ⟨B,e,hb,hcp,hr.keep k⟩
theorem RRs.mono{R:Val->List Value->Prop}{l:List (List Val)}(h:RRs R w S A l)(k:∀ i,i<w.heap.size->S i->T i):RRs R w T A l:=by
  obtain ⟨h0,xs,h1,h2,h3⟩:=h
  refine ⟨h0,xs,h1.mono k,h2,λj y hj => ?_⟩
  obtain ⟨B,e,hb,hcp,hr⟩:=h3 j y hj
  exact ⟨B,e,hb,hcp,hr.mono k⟩
theorem St(h:qP:=by
  rintro y cs ⟨A,c,B,e,rfl,hcp,hy⟩
  exact ⟨A,c,B,e,rfl,hcp,ih hy⟩):qP:=h
theorem RV.keep(h:RV w S d x A B)(k:Kept S w J):RV J S d x A B:=by
  induction d generalizing x A B with
  |zero=>exact ⟨h.1,h.2.1.keep k,h.2.2.keep k⟩
  |succ d ih =>
    refine ⟨h.1,h.2.1.keep k,(h.2.2.keep k).imp ?_⟩
    exact St
theorem RV.mono(h:RV w S d x A B)(k:∀ i,i<w.heap.size->S i->T i):RV w T d x A B:=by
  induction d generalizing x A B with
  |zero=>exact ⟨h.1,h.2.1.mono k,h.2.2.mono k⟩
  |succ d ih =>
    refine ⟨h.1,h.2.1.mono k,(h.2.2.mono k).imp ?_⟩
    exact St
theorem RV.size(h:RV w S d x A B):x.s.size<=4294967296:=by cases d<;>exact h.1
theorem RV.strs(h:RV w S d x A B):Strs w S A x.cols:=by cases d<;>exact h.2.1
theorem AA(h:qP:=by omega):qP:=h
theorem RV.rows_(h:RV w S d x A B):Rows w S d B x.rows:=by
  cases d with
  |zero=>exact h.2.2.imp (λ_ _ h=>h.elim)
  |succ d=>exact h.2.2.imp (λy cs ⟨A,c,B,e,h1,hcp,h2⟩=>⟨A,c,B,e,h1,⟨AA,hcp⟩,h2⟩)
theorem RV.mk(h1:x.s.size<=4294967296)(h2:Strs w S A x.cols)(h3:Rows w S d B x.rows):RV w S d x A B:=by
  cases d with
  |zero=>exact ⟨h1,h2,h3.imp (λy cs ⟨A,c,B,e,_,g1,_⟩=>absurd g1.1 AA)⟩
  |succ d=>exact ⟨h1,h2,h3.imp (λy cs ⟨A,c,B,e,g1,g0,g2⟩=>⟨A,c,B,e,g1,g0.2,g2⟩)⟩
theorem RV.up(h:RV w S d x A B){d':Nat}(hd:d<=d'):RV w S d' x A B:=by
  induction d generalizing x A B d' with
  |zero =>
    refine RV.mk h.1 h.2.1 (h.2.2.imp (λ_ _ h=>h.elim))
  |succ d ih =>
    refine RV.mk h.1 h.2.1 (h.2.2.imp ?_)
    rintro y cs ⟨A,c,B,e,rfl,hcp,hy⟩
    exact ⟨A,c,B,e,rfl,⟨AA,hcp⟩,ih hy AA⟩
theorem Rows.keep{l:List (List Val)}(h:Rows w S d B l)(k:Kept S w J):Rows J S d B l :=
  (RRs.keep h k).imp (λ_ _ ⟨A,c,B,e,h1,h2,h3⟩=>⟨A,c,B,e,h1,h2,h3.keep k⟩)
theorem Rows.mono{l:List (List Val)}(h:Rows w S d B l)(k:∀ i,i<w.heap.size->S i->T i):Rows w T d B l :=
  (RRs.mono h k).imp (λ_ _ ⟨A,c,B,e,h1,h2,h3⟩=>⟨A,c,B,e,h1,h2,h3.mono k⟩)
theorem Row.keep{l:List Val}(h:Row w S d B l)(k:Kept S w J):Row J S d B l :=
  (RVs.keep h k).imp (λ_ _ ⟨A,c,B,e,h1,h2,h3⟩=>⟨A,c,B,e,h1,h2,h3.keep k⟩)
theorem Row.mono{l:List Val}(h:Row w S d B l)(k:∀ i,i<w.heap.size->S i->T i):Row w T d B l :=
  (RVs.mono h k).imp (λ_ _ ⟨A,c,B,e,h1,h2,h3⟩=>⟨A,c,B,e,h1,h2,h3.mono k⟩)
theorem Rows.len{l:List (List Val)}(h:Rows w S d B l):l.length<=4294967296:=h.1
theorem Row.len{l:List Val}(h:Row w S d B l):l.length<=4294967296:=h.1
theorem Rows.at_{l:List (List Val)}(h:Rows w S d B l){k:Nat}(hk:k<l.length) :
    ∃ b o C e,B=some ⟨b,o,none⟩/\b<w.heap.size/\w.cell? ⟨b,o+k,none⟩=some (.slice C l[k].length e)/\l[k].length<=e/\Row w S d C l[k]:=by
  obtain ⟨_,hs,h1,h2,h3⟩:=h
  obtain ⟨C,e,h4,hcp,h5⟩:=h3 k l[k] (List.getElem?_eq_getElem hk)
  obtain ⟨b,o,hB,hb,hc⟩:=h1.at_ h4
  exact ⟨b,o,C,e,hB,hb,hc,hcp,h5⟩
theorem Row.at_{l:List Val}(h:Row w S d B l){k:Nat}(hk:k<l.length) :
    ∃ b o A c C e,B=some ⟨b,o,none⟩/\b<w.heap.size/\(w.cell? ⟨b,o+k*7,none⟩=some (.I l[k].kind)/\w.cell? ⟨b,o+k*7+1,none⟩=some (.string l[k].s)/\w.cell? ⟨b,o+k*7+2,none⟩=some (.I l[k].dn)/\w.cell? ⟨b,o+k*7+3,none⟩=some (.I l[k].ds)/\w.cell? ⟨b,o+k*7+4,none⟩=some (.I l[k].n)/\w.cell? ⟨b,o+k*7+5,none⟩=some (.slice A l[k].cols.length c)/\w.cell? ⟨b,o+k*7+6,none⟩=some (.slice C l[k].rows.length e))/\(0<d/\l[k].cols.length<=c/\l[k].rows.length<=e)/\RV w S (d-1) l[k] A C:=by
  obtain ⟨_,xs,h1,h2,h3⟩:=h
  obtain ⟨A,c,C,e,h4,h5,h6⟩:=h3 k l[k] (List.getElem?_eq_getElem hk)
  have hx:∀ i u,(En l[k] A c C e)[i]?=some u->xs[k*7+i]?=some u:=by
    intro i u hi
    have hlt:i<7:=by
      have:=(List.getElem?_eq_some_iff.1 hi).1
      simpa [En] using this
    rw [<-h4,List.getElem?_take,if_pos hlt,List.getElem?_drop] at hi
    exact hi
  have hne:xs≠[]:=by
    intro h0
    have:=hx 0 _ rfl
    simp [h0] at this
  obtain ⟨b,o,hB,_,hb,hc⟩:=h1.some_ hne
  have hh:∀ i u,(En l[k] A c C e)[i]?=some u->w.cell? ⟨b,o+k*7+i,none⟩=some u:=λi u hi=>by
    have:=hc _ u (hx i u hi)
    rwa [<-Nat.add_assoc] at this
  exact ⟨b,o,A,c,C,e,hB,hb,⟨hh 0 _ rfl,hh 1 _ rfl,hh 2 _ rfl,hh 3 _ rfl,hh 4 _ rfl,hh 5 _ rfl,hh 6 _ rfl⟩,h5,h6⟩
end

def Ae(w:World)(b:Bool)(e:Ending)(J:World):Prop:=e=.returned (.bool b)/\Ext w J
def QuietB(w:World)(b:Bool)(e:Ending)(J:World):Prop:=e=.returned (.bool b)/\∃ n,J=w.drewN n
theorem QuietB.ret{w:World}{b:Bool}{e:Ending}{J:World}(h:QuietB w b e J):Ae w b e J:=by
 obtain ⟨he,n,rfl⟩:=h;exact ⟨he,(Ext.refl w).drewN n⟩
theorem Wm{W w1:World}(hb:Ext W w1):(∀ b o,b<W.heap.size->w1.cell? ⟨b,o,none⟩=W.cell? ⟨b,o,none⟩)/\(∀ b o,b<W.heap.size->w1.frozen? ⟨b,o,none⟩=W.frozen? ⟨b,o,none⟩) :=
 ⟨λb o h=>Below.cell (p:=⟨b,o,none⟩) hb h,λb o h=>Below.frozen (p:=⟨b,o,none⟩) hb h⟩
theorem Bj(a b:BA):(a.toList==b.toList)=decide (a=b):=by
 rw [Bool.eq_iff_iff,beq_iff_eq,decide_eq_true_iff,ByteArray.toList_eq,ByteArray.toList_eq];constructor
 ·intro h;cases a;cases b;simp at h;rw [h]
 ·rintro rfl;rfl

theorem YC{α:Type}{x y:List α}(hl:x.length=y.length)(h:∀ j (h:j<x.length) (h':j<y.length),x[j]=y[j]):x=y :=
 List.ext_getElem hl (λi h1 h2=>h i h1 h2)

theorem BWA(h:qP:=by
 rename_i ht;go_ret;refine ⟨?_,n+_,World.drewN_drewN _ _ _⟩;have:x≠y:=(by rintro rfl;simp at ht);simp [this]):qP:=h
theorem Z9(h:qP:=by
 subst hjk;simp only [Bool.not_eq_eq_eq_not,Bool.not_false,Bj,decide_eq_true_eq] at ht;exact ht):qP:=h
theorem BtA(h:qP:=by
 refine ⟨k+1,by omega,by go_num,⟨_,rfl⟩,λj h h' hj => ?_⟩;by_cases hjk:j=k
 ·exact Z9
 ·exact HA.o j h h' (by omega)):qP:=h
theorem Z6(h:qP:=by
 rename_i ht;go_roundw
 case rel =>
  exact BtA
 case measure=>simp [intOf];omega):qP:=h
theorem Y9(h:qP:=by
 have hky:k<y.length:=(by have:=HL.o;omega);obtain ⟨b1,o1,rfl,z1,c1⟩:=hx.at_ hlt;obtain ⟨b2,o2,rfl,z2,c2⟩:=hy.at_ hky;go_wp2
 go_quiet (fail)
 go_wp2
 ·exact BWA
 ·exact Z6):qP:=h
theorem RJ(h:qP:=by
 have:x=y:=YC HL.o (λj h h'=>HA.o j h h' (by omega));simp [this]):qP:=h
theorem Zu(h:qP:=by
 go_wp2;go_ret;refine ⟨?_,n,rfl⟩;exact RJ):qP:=h
theorem QX(h:qP:=by
 obtain ⟨k,hk,rfl,⟨n,rfl⟩,hall⟩:=hrel;have HA:=Hd hall;clear hall;by_cases hlt:k<x.length
 ·exact Y9
 ·exact Zu):qP:=h
theorem Ox(h:qP:=by
 go_wp2;go_ret;refine ⟨?_,0,rfl⟩;have:=H2.o;simp [this]):qP:=h
theorem DX(h:qP:=by simp [hl]):qP:=h
theorem AK(h:qP:=by intros;omega):qP:=h
theorem Ke(h:qP:=by rw [bne_iff_ne];omega):qP:=h
theorem C7(h:qP:=by rw [e]):qP:=h
theorem Jq(A B:OA)(c d:Nat)(x y:List BA)(w:World)(S T:NP)(hx:Strs w S A x)(hy:Strs w T B y) :
  Cl 51 #[.slice A x.length c,.slice B y.length d] w (QuietB w (decide (x=y))):=by
 have hn:=hx.2.1;have hm:=hy.2.1;by_cases hl:x.length=y.length
 ·have h1:((x.length:Int) != (y.length:Int))=false:=DX;have HL:=Hd hl;clear hl
  go_enter func51,ntmps51
  go_wp2
  go_loopw [5] (λi wr=>∃ k:Nat,k<=x.length/\i=.I k/\(∃ n,wr=w.drewN n)/\∀ j (h:j<x.length) (h':j<y.length),j<k->x[j]=y[j]) (λi _=>x.length-(intOf i).toNat)
  case atStart=>exact ⟨0,AN,rfl,⟨0,rfl⟩,AK⟩
  case round =>
   exact QX
 ·have h1:((x.length:Int) != (y.length:Int))=true:=Ke;have h2:x≠y:=λe=>hl C7;have H2:=Hd h2;clear h2 hl
  go_enter func51,ntmps51
  exact Ox

theorem Val.eq_of{x y:Val}(h:x.kind=y.kind/\x.s.toList=y.s.toList/\x.dn=y.dn/\x.ds=y.ds/\x.n=y.n)(hc:x.cols=y.cols)(hr:x.rows=y.rows):x=y:=by
 obtain ⟨h1,h2,h3,h4,h5⟩:=h;have O:x.s=y.s:=by
  have:=Bj x.s y.s;rw [h2,beq_self_eq_true] at this;exact of_decide_eq_true this.symm
 cases x;cases y;simp_all

def REq(d:Nat):Prop:=∀ (x y:Val) (A B A' B':OA) (c e c' e':Nat) (w:World) (S T:NP),RV w S d x A B->RV w T d y A' B' ->
 Cl 24 #[(Vq x A c B e),(Vq y A' c' B' e')] w (Ae w (decide (x=y)))

theorem Zk(h:qP:=by
 refine ⟨k+1,by omega,by go_num,HX.o,λj h h' hj => ?_⟩;by_cases hjk:j=k
 ·subst hjk;exact HV.o
 ·exact HA.o j h h' (by omega)):qP:=h
theorem UG(h:qP:=by
 have HV:=Hd he;clear he hx1;go_wp2;go_roundw
 case rel =>
  exact Zk
 case measure=>simp [intOf];omega):qP:=h
theorem T6(h:qP:=by
 rw [decide_eq_true he];have HX:=Hd (HE.o.drew.trans hx1);exact UG):qP:=h
theorem Ul(h:qP:=by
 have HV:=Hd he;clear he hx1;go_wp2;go_ret;refine ⟨?_,HX.o⟩;have:x≠y:=(by rintro rfl;exact HV.o rfl);simp [this]):qP:=h
theorem Uk(h:qP:=by
 rw [decide_eq_false he];have HX:=Hd (HE.o.drew.trans hx1);exact Ul):qP:=h
theorem I7(h:qP:=by
 have HE:=Hd hext;clear hext;go_wp2;go_ret;refine ⟨?_,HE.o⟩;exact RJ):qP:=h
theorem IB(h:qP:=by
 go_wp2;go_ret;refine ⟨?_,Ext.refl _⟩;have:=H2.o;simp [this]):qP:=h
theorem GT(h:qP:=by have:=HL.o;omega):qP:=h
theorem AD(h:qP:=by kernel_rfl):qP:=h
theorem DtA(q:Nat)(ih:0<q->REq (q-1))(A B:OA)(c d:Nat)(x y:List Val)(w:World)(S T:NP)(hx:Row w S q A x)(hy:Row w T q B y) :
  Cl 149 #[.slice A x.length c,.slice B y.length d] w (Ae w (decide (x=y))):=by
 have hn:=hx.len;have hm:=hy.len;by_cases hl:x.length=y.length
 ·have h1:((x.length:Int) != (y.length:Int))=false:=DX;have HL:=Hd hl;clear hl
  go_enter func149,ntmps149
  go_wp2
  go_loopw [5,6] (λi _ wr=>∃ k:Nat,k<=x.length/\i=.I k/\Ext w wr/\∀ j (h:j<x.length) (h':j<y.length),j<k->x[j]=y[j]) (λi _ _=>x.length-(intOf i).toNat)
  case atStart=>exact ⟨0,AN,rfl,Ext.refl _,AK⟩
  case round =>
   obtain ⟨k,hk,rfl,hext,hall⟩:=hrel;have HA:=Hd hall;clear hall;by_cases hlt:k<x.length
   ·have hky:k<y.length:=GT;obtain ⟨b1,o1,A1,c1,B1,e1,rfl,z1,⟨p0,p1,p2,p3,p4,p5,p6⟩,⟨hq,_,_⟩,O⟩:=(hx.keep (hext.kept S)).at_ hlt;obtain ⟨b2,o2,A2,c2,B2,e2,rfl,z2,⟨q0,q1,q2,q3,q4,q5,q6⟩,_,U⟩:=(hy.keep (hext.kept T)).at_ hky;have HE:=Hd hext;clear hext;go_wp2
    go_still_tail 8,AD
    go_wp2_with fail
    refine (ih hq _ _ _ _ _ _ _ _ _ _ _ _ _ (O.keep (Kept.drew _ _)) (U.keep (Kept.drew _ _))).mono ?_;rintro e J ⟨rfl,hx1⟩;by_cases he:x[k]=y[k]
    ·exact T6
    ·exact Uk
   ·exact I7
 ·have h1:((x.length:Int) != (y.length:Int))=true:=Ke;have h2:x≠y:=λe=>hl C7;have H2:=Hd h2;clear h2 hl
  go_enter func149,ntmps149
  exact IB

theorem XE(q:Nat)(ih:0<q->REq (q-1))(A B:OA)(c d:Nat)(x y:List (List Val))(w:World)(S T:NP)(hx:Rows w S q A x)(hy:Rows w T q B y) :
  Cl 77 #[.slice A x.length c,.slice B y.length d] w (Ae w (decide (x=y))):=by
 have hn:=hx.len;have hm:=hy.len;by_cases hl:x.length=y.length
 ·have h1:((x.length:Int) != (y.length:Int))=false:=DX;have HL:=Hd hl;clear hl
  go_enter func77,ntmps77
  go_wp2
  go_loopw [5,6] (λi _ wr=>∃ k:Nat,k<=x.length/\i=.I k/\Ext w wr/\∀ j (h:j<x.length) (h':j<y.length),j<k->x[j]=y[j]) (λi _ _=>x.length-(intOf i).toNat)
  case atStart=>exact ⟨0,AN,rfl,Ext.refl _,AK⟩
  case round =>
   obtain ⟨k,hk,rfl,hext,hall⟩:=hrel;have HA:=Hd hall;clear hall;by_cases hlt:k<x.length
   ·have hky:k<y.length:=GT;obtain ⟨b1,o1,A1,c1,rfl,z1,p0,_,O⟩:=(hx.keep (hext.kept S)).at_ hlt;obtain ⟨b2,o2,A2,c2,rfl,z2,q0,_,U⟩:=(hy.keep (hext.kept T)).at_ hky;have HE:=Hd hext;clear hext;go_wp2
    go_still_tail 8,AD
    go_wp2_with fail
    refine (DtA q ih _ _ _ _ _ _ _ _ _ (O.keep (Kept.drew _ _)) (U.keep (Kept.drew _ _))).mono ?_;rintro e J ⟨rfl,hx1⟩;by_cases he:x[k]=y[k]
    ·exact T6
    ·exact Uk
   ·exact I7
 ·have h1:((x.length:Int) != (y.length:Int))=true:=Ke;have h2:x≠y:=λe=>hl C7;have H2:=Hd h2;clear h2 hl
  go_enter func77,ntmps77
  exact IB

theorem BiA(h:qP:=by
 rw [decide_eq_true hr];have HR:=Hd hr;clear hr hx2;go_wp2;go_ret;exact ⟨by rw [decide_eq_true (Val.eq_of HF.o HC.o HR.o)];rfl,HW.o⟩):qP:=h
theorem Zm(h:qP:=by
 rw [decide_eq_false hr];have HR:=Hd hr;clear hr hx2;go_wp2;go_ret;exact ⟨by rw [decide_eq_false (λe=>HR.o (by rw [e]))];rfl,HW.o⟩):qP:=h
theorem Q9(h:qP:=by
 rintro e w2 ⟨rfl,hx2⟩;have HW:=Hd (Ext.trans ((exbb w).drewN _) hx2);by_cases hr:x.rows=y.rows
 ·exact BiA
 ·exact Zm):qP:=h
theorem TL(h:qP:=by
 go_wp2;go_ret;exact ⟨by rw [decide_eq_false (λe=>HC.o (by rw [e]))];rfl,(exbb _).drewN _⟩):qP:=h
theorem Jz(q:Nat)(ih:0<q->REq (q-1)):REq q:=by
 intro x y A B A' B' c e c' e' w S T hx hy;have O:=Hd ih;clear ih;have HX:=Hd hx;have HY:=Hd hy;clear hx hy
 go_enter func24,ntmps24
 go_wp2_with fail
 case isTrue =>
  refine (Jq _ _ _ _ _ _ _ S T (HX.o.strs.keep ((exbb _).kept _)) (HY.o.strs.keep ((exbb _).kept _))).mono ?_;rintro e w1 ⟨rfl,n,rfl⟩;have HF:=Hd (show x.kind=y.kind/\x.s.toList=y.s.toList/\x.dn=y.dn/\x.ds=y.ds/\x.n=y.n from ⟨‹_›,‹_›,‹_›,‹_›,‹_›⟩);by_cases hc:x.cols=y.cols
  ·rw [decide_eq_true hc];have HC:=Hd hc;clear hc
   go_wp2_with fail
   refine (XE q O.o _ _ _ _ _ _ _ S T (HX.o.rows_.keep (((exbb _).drewN _).kept _)) (HY.o.rows_.keep (((exbb _).drewN _).kept _))).mono ?_;exact Q9
  ·rw [decide_eq_false hc];have HC:=Hd hc;clear hc;exact TL
 all_goals
  have hne:x≠y:=(by rintro rfl;simp_all);go_ret;exact ⟨by simp [hne],(exaa _).alloc _⟩

theorem Dn(q:Nat):REq q:=by
 induction q with
 |zero=>exact Jz 0 (λh=>absurd h AA)
 |succ q ih=>exact Jz (q+1) (λ_=>ih)

theorem M9(A B:OA)(c d:Nat)(x y:List BA)(w:World)(S T:NP)(hx:Strs w S A x)(hy:Strs w T B y) :
  Cl 218 #[.slice A x.length c,.slice B y.length d] w (QuietB w (decide (x=y))):=by
 have hn:=hx.2.1;have hm:=hy.2.1;by_cases hl:x.length=y.length
 ·have h1:((x.length:Int) != (y.length:Int))=false:=DX;have HL:=Hd hl;clear hl
  go_enter func218,ntmps218
  go_wp2
  go_loopw [13] (λi wr=>∃ k:Nat,k<=x.length/\i=.I k/\(∃ n,wr=w.drewN n)/\∀ j (h:j<x.length) (h':j<y.length),j<k->x[j]=y[j]) (λi _=>x.length-(intOf i).toNat)
  case atStart=>exact ⟨0,AN,rfl,⟨0,rfl⟩,AK⟩
  case round =>
   exact QX
 ·have h1:((x.length:Int) != (y.length:Int))=true:=Ke;have h2:x≠y:=λe=>hl C7;have H2:=Hd h2;clear h2 hl
  go_enter func218,ntmps218
  exact Ox

def PEq(d:Nat):Prop:=∀ (x y:Val) (A B A' B':OA) (c e c' e':Nat) (w:World) (S T:NP),RV w S d x A B->RV w T d y A' B' ->
 Cl 193 #[(Vq x A c B e),(Vq y A' c' B' e')] w (Ae w (decide (x=y)))

theorem AEA(h:qP:=by
 rw [decide_eq_true he];exact UG):qP:=h
theorem Zs(h:qP:=by
 rw [decide_eq_false he];exact Ul):qP:=h
theorem UX(h:qP:=by
 by_cases he:x[k]=y[k]
 ·exact AEA
 ·exact Zs):qP:=h
theorem Np(q:Nat)(ih:0<q->PEq (q-1))(A B:OA)(c d:Nat)(x y:List Val)(w:World)(S T:NP)(hx:Row w S q A x)(hy:Row w T q B y) :
  Cl 265 #[.slice A x.length c,.slice B y.length d,.func (.func 193) #[] #[]] w (Ae w (decide (x=y))):=by
 have hn:=hx.len;have hm:=hy.len;by_cases hl:x.length=y.length
 ·have h1:((x.length:Int) != (y.length:Int))=false:=DX;have HL:=Hd hl;clear hl
  go_enter func265,ntmps265
  go_wp2
  go_loopw [17] (λi wr=>∃ k:Nat,k<=x.length/\i=.I k/\Ext w wr/\∀ j (h:j<x.length) (h':j<y.length),j<k->x[j]=y[j]) (λi _=>x.length-(intOf i).toNat)
  case atStart=>exact ⟨0,AN,rfl,Ext.refl _,AK⟩
  case round =>
   obtain ⟨k,hk,rfl,hext,hall⟩:=hrel;have HA:=Hd hall;clear hall;by_cases hlt:k<x.length
   ·have hky:k<y.length:=GT;obtain ⟨b1,o1,A1,c1,B1,e1,rfl,z1,⟨p0,p1,p2,p3,p4,p5,p6⟩,⟨hq,_,_⟩,O⟩:=(hx.keep (hext.kept S)).at_ hlt;obtain ⟨b2,o2,A2,c2,B2,e2,rfl,z2,⟨q0,q1,q2,q3,q4,q5,q6⟩,_,U⟩:=(hy.keep (hext.kept T)).at_ hky;have HE:=Hd hext;clear hext
    go_wp2_with fail
    refine (ih hq _ _ _ _ _ _ _ _ _ _ _ S T (O.keep ((exbb _).kept _)) (U.keep ((exbb _).kept _))).mono ?_;rintro e J ⟨rfl,hx1⟩;have HX:=Hd (HE.o.trans ((exbb wr).trans hx1));exact UX
   ·exact I7
 ·have h1:((x.length:Int) != (y.length:Int))=true:=Ke;have h2:x≠y:=λe=>hl C7;have H2:=Hd h2;clear h2 hl
  go_enter func265,ntmps265
  exact IB

theorem OH(q:Nat)(ih:0<q->PEq (q-1))(A B:OA)(c d:Nat)(x y:List Val)(w:World)(S T:NP)(hx:Row w S q A x)(hy:Row w T q B y) :
  Cl 230 #[.slice A x.length c,.slice B y.length d] w (Ae w (decide (x=y))):=by
 have HX:=Hd hx;have HY:=Hd hy;clear hx hy
 go_enter func230,ntmps230
 go_wp2_with fail
 refine (Np q ih _ _ _ _ _ _ _ S T HX.o HY.o).mono ?_;rintro e J ⟨rfl,hx1⟩;have HX1:=Hd hx1;clear hx1;go_wp2;go_ret;exact ⟨rfl,HX1.o⟩

theorem Mj(q:Nat)(ih:0<q->PEq (q-1))(A B:OA)(c d:Nat)(x y:List (List Val))(w:World)(S T:NP)(hx:Rows w S q A x)(hy:Rows w T q B y) :
  Cl 229 #[.slice A x.length c,.slice B y.length d,.func (.func 230) #[] #[]] w (Ae w (decide (x=y))):=by
 have hn:=hx.len;have hm:=hy.len;by_cases hl:x.length=y.length
 ·have h1:((x.length:Int) != (y.length:Int))=false:=DX;have HL:=Hd hl;clear hl
  go_enter func229,ntmps229
  go_wp2
  go_loopw [17] (λi wr=>∃ k:Nat,k<=x.length/\i=.I k/\Ext w wr/\∀ j (h:j<x.length) (h':j<y.length),j<k->x[j]=y[j]) (λi _=>x.length-(intOf i).toNat)
  case atStart=>exact ⟨0,AN,rfl,Ext.refl _,AK⟩
  case round =>
   obtain ⟨k,hk,rfl,hext,hall⟩:=hrel;have HA:=Hd hall;clear hall;by_cases hlt:k<x.length
   ·have hky:k<y.length:=GT;obtain ⟨b1,o1,A1,c1,rfl,z1,p0,_,O⟩:=(hx.keep (hext.kept S)).at_ hlt;obtain ⟨b2,o2,A2,c2,rfl,z2,q0,_,U⟩:=(hy.keep (hext.kept T)).at_ hky;have HE:=Hd hext;clear hext
    go_wp2_with fail
    refine (OH q ih _ _ _ _ _ _ _ S T O U).mono ?_;rintro e J ⟨rfl,hx1⟩;have HX:=Hd (HE.o.trans hx1);exact UX
   ·exact I7
 ·have h1:((x.length:Int) != (y.length:Int))=true:=Ke;have h2:x≠y:=λe=>hl C7;have H2:=Hd h2;clear h2 hl
  go_enter func229,ntmps229
  exact IB

theorem Ht(q:Nat)(ih:0<q->PEq (q-1)):PEq q:=by
 intro x y A B A' B' c e c' e' w S T hx hy;have U:=Hd ih;clear ih;have HX:=Hd hx;have HY:=Hd hy;clear hx hy
 go_enter func193,ntmps193
 go_wp2_with fail
 rotate_left
 ·refine (M9 _ _ _ _ _ _ _ S T (HX.o.strs.keep ((exbb _).kept _)) (HY.o.strs.keep ((exbb _).kept _))).mono ?_;rintro e w1 ⟨rfl,n,rfl⟩;have O:x.n=y.n:=(by simp_all);have HF:=Hd (show x.kind=y.kind/\x.s.toList=y.s.toList/\x.dn=y.dn/\x.ds=y.ds/\x.n=y.n from ⟨‹_›,‹_›,‹_›,‹_›,‹_›⟩);by_cases hc:x.cols=y.cols
  ·rw [decide_eq_true hc];have HC:=Hd hc;clear hc O
   go_wp2_with fail
   refine (Mj q U.o _ _ _ _ _ _ _ S T (HX.o.rows_.keep (((exbb _).drewN _).kept _)) (HY.o.rows_.keep (((exbb _).drewN _).kept _))).mono ?_;exact Q9
  ·rw [decide_eq_false hc];have HC:=Hd hc;clear hc O;exact TL
 all_goals
  have hne:x≠y:=(by rintro rfl;simp_all);go_ret;exact ⟨by simp [hne],(exaa _).alloc _⟩

theorem YK(q:Nat):PEq q:=by
 induction q with
 |zero=>exact Ht 0 (λh=>absurd h AA)
 |succ q ih=>exact Ht (q+1) (λ_=>ih)

def Own(w:World)(base e sz:Nat)(A:OA)(n c:Nat)(xs:List Value):Prop:=w.ownsRow base e sz (.slice A n c) n xs
def ob(A:OA):Option Nat:=A.map (·.block)
theorem CLA(A:OA)(n c:Nat):(Value.slice A n c).ownBlock=ob A:=by cases A<;>rfl
def TI(P:Program)(t e sz by_:Nat):Prop:=P.underlying t=some (.slice e)/\∃ i z,P.info? e=some i/\i.zero=some z/\i.size=sz/\i.bytes=by_/\z.cells.size=sz/\0<sz
section
variable {w J:World}{base e sz n c:Nat}{A:OA}{xs:List Value}
theorem Own.nil(w:World)(base e sz:Nat):Own w base e sz none 0 0 []:=World.ownsRow_nil w base e sz
theorem Own.len(h:Own w base e sz A n c xs):xs.length=n*sz:=h.1
theorem Own.blk(h:Own w base e sz A n c xs){k:Nat}(hk:ob A=some k):base<=k/\k<w.heap.size:=World.ownsRow.lt h k (by rw [CLA];exact hk)
theorem Own.cap(h:Own w base e sz A n c xs):n<=c:=by
 rcases h.2 with ⟨hv,hn⟩|⟨g,cap,cur,hv,_,_,O,_⟩
 ·rw [hn];exact AN
 ·injection hv with _ _ h2;rw [h2];exact O
theorem Own.kept{row:Option Nat}(h:Own w base e sz A n c xs)(hg:w.grownBy J row)(hne:ob A=none\/ob A≠row):Own J base e sz A n c xs :=
 World.ownsRow.kept h hg (by rw [CLA];exact hne)
theorem Own.ext(h:Own w base e sz A n c xs)(hx:Ext w J):Own J base e sz A n c xs:=by
 refine ⟨h.1,?_⟩
 rcases h.2 with h2|⟨g,cap,cur,hv,hb,hh,r⟩
 ·exact Or.inl h2
 ·refine Or.inr ⟨g,cap,cur,hv,hb,?_,r⟩;have hlt:g<w.heap.size:=by
   exact Z9472c5183
  rw [hx.block g hlt];exact hh
theorem Own.rd(h:Own w base e sz A n c xs):Rd w (λb=>ob A=some b) A xs:=by
 rcases Rd.of_own h with h0|⟨b,o,h1,h2,h3,h4⟩
 ·exact Or.inl h0
 ·exact Or.inr ⟨b,o,h1,by subst h1;rfl,h3,h4⟩
theorem Own.set(h:Own w base e sz A n c xs){p:Addr}(hp:ob A≠some p.block)(u:Value):Own (w.setCell p u) base e sz A n c xs:=by
 refine ⟨h.1,?_⟩
 rcases h.2 with h2|⟨g,cap,cur,hv,hb,hh,r⟩
 ·exact Or.inl h2
 ·refine Or.inr ⟨g,cap,cur,hv,hb,?_,r⟩;rw [Below.heap_setCell _ _ _ _ (λe=>hp (by
   have hA:A=some ⟨g,0,none⟩:=(by injection hv);subst hA;exact congrArg some e))]
  exact hh
theorem Own.keep(h:Own w base e sz A n c xs)(hk:Kept (λb=>ob A=some b) w J):Own J base e sz A n c xs:=by
 refine ⟨h.1,?_⟩
 rcases h.2 with h2|⟨g,cap,cur,hv,hb,hh,r⟩
 ·exact Or.inl h2
 ·refine Or.inr ⟨g,cap,cur,hv,hb,?_,r⟩;have hA:A=some ⟨g,0,none⟩:=(by injection hv);have hlt:g<w.heap.size:=by
   exact Z9472c5183
  rw [hk.2 g (by rw [hA];rfl) hlt];exact hh
theorem ITA(w:World)(e sz cap:Nat)(cur:Array Value)(hm:cap<=maxLen)(hs:cur.size=cap*sz) :
  Own (w.alloc (.cells cur e)) w.heap.size e sz (some ⟨w.heap.size,0,none⟩) 0 cap [] :=
 World.ownsRow_made w cur cap (Al) hm hs
theorem Own.lower{base':Nat}(h:Own w base e sz A n c xs)(hb:base'<=base):Own w base' e sz A n c xs:=by
 refine ⟨h.1,?_⟩
 rcases h.2 with h2|⟨g,cap,cur,hv,hb',r⟩
 ·exact Or.inl h2
 ·exact Or.inr ⟨g,cap,cur,hv,Nat.le_trans hb hb',r⟩

theorem GJ(h:qP:=by simpa using hl):qP:=h
theorem Dg(h:qP:=by simpa using hown):qP:=h
theorem Bd(h:qP:=by unfold maxLen;omega):qP:=h
theorem CAA{P:Program}(w:World){t by_:Nat}(ty:TypeId)(ti:TI P t e sz by_)(hown:Own w base e sz A n c xs){S:NP}{B:OA}{m c2:Nat}{news:List Value}
  (hr:Rd w S B news) (hl:news.length=m*sz) (h1:∀ u∈news,u.oneCell'=true) (h63:(n+m)*by_<=140737488355328) (hby:0<by_) (hbase:base<=w.heap.size) :
  ∃ A' c' J,(Builtin.append_ #[t,t] ty #[.slice A n c,.slice B m c2]).run P w=.ok (.slice A' (n+m) c') J/\Own J base e sz A' (n+m) c' (xs++news)/\w.grownBy J (ob A) /\
   (ob A'=ob A\/ob A'=some w.heap.size):=by
 obtain ⟨ht,i,z,hi,hz,Y,O,Z,hsz⟩:=ti;have a9:n+m<=140737488355328:=by
  have:(n+m)*1<=(n+m)*by_:=Nat.mul_le_mul_left _ hby;omega
 have U:∀ {J:World} {v:Value},J.ownsRow base e sz v (n+m) (xs++news)->∃ A' c',v=.slice A' (n+m) c':=by
  intro J v h
  rcases h.2 with ⟨rfl,h0⟩|⟨g,cap,cur,rfl,_⟩
  ·exact ⟨none,0,by rw [h0]⟩
  ·exact ⟨_,_,rfl⟩
 by_cases hm:m=0
 ·subst hm;have hn:news=[]:=List.eq_nil_of_length_eq_zero GJ;subst hn;refine ⟨A,c,w,?_,Dg,⟨rfl,rfl,rfl,Al,λ_ _ _=>rfl⟩,.inl rfl⟩
  rcases hown.2 with ⟨hv,h0⟩|⟨g,cap,cur,hv,_,_,a8,_⟩
  ·injection hv with h1 _ h2;subst h1;subst h2;subst h0;cases B<;>simp [Builtin.append_,run_underlying ht,sizeOf,typeInfo,hi,Builtin.lenOf,Builtin.firstCells,loadCells,loadCellsFrom]
  ·injection hv with h1 _ h2;subst h1;subst h2;cases B<;>simp [Builtin.append_,run_underlying ht,sizeOf,typeInfo,hi,Builtin.lenOf,Builtin.firstCells,a8,storeCells,loadCells,loadCellsFrom]
 ·have hne:news≠[]:=by
   intro h0;subst h0;have:=Nat.mul_eq_zero.1 (show m*sz=0 from hl.symm);omega
  obtain ⟨b,o,rfl,_,_,hc⟩:=hr.some_ hne;obtain ⟨v',J,hrun,h2,h3,_,h5⟩:=run_append_own_at (P:=P) w base t ty e i z sz by_ ht hi hz Y O Z hsz (.slice A n c) n xs hown ⟨b,o,none⟩ m c2 news hl
   (λj u hj=>by rw [Addr.add_lit];exact hc j u hj) h1 Bd h63 hbase
  obtain ⟨A',c',rfl⟩:=U h2;rw [CLA] at h3 h5;rw [CLA] at h5;exact ⟨A',c',J,hrun,h2,h3,h5⟩

theorem AL{P:Program}{ops:Array Oper}{rest:List Oper}{o:Oper}{a:Act}{Q:Exit->Act->World->Prop}(hgd:o.guard=none)(s x:Operand){t by_:Nat}
  (ho:o.op=.call { callee:=.builtin .append,args:=#[s,x],argTypes:=#[t,t] }) (ti:TI P t e sz by_) (hs:a.eval s=.slice A n c) (hown:Own w base e sz A n c xs)
  {S:NP} {B:OA} {m c2:Nat} {news:List Value} (hx:a.eval x=.slice B m c2) (hr:Rd w S B news) (hl:news.length=m*sz) (h1:∀ u∈news,u.oneCell'=true)
  (h63:(n+m)*by_<=140737488355328) (hby:0<by_) (hbase:base<=w.heap.size)
  (h:∀ A' c' J,Own J base e sz A' (n+m) c' (xs++news)->w.grownBy J (ob A)->(ob A'=ob A\/ob A'=some w.heap.size)->wpList P ops Q rest (a.put o.dst (.slice A' (n+m) c')) J) :
  wpList P ops Q (o::rest) a w:=by
 obtain ⟨A',c',J,hrun,h2,h3,h4⟩:=CAA w o.type ti hown (c2:=c2) hr hl h1 h63 hby hbase;refine wpList_plain hgd λK hK => ?_;unfold Oper.wp execOp;simp only [ho,resolve,invoke,builtin,Sem.run_bind,Sem.run_pure,Result.andThen_ok,List.map_toArray,List.map_cons,List.map_nil,hs,hx,hrun];exact hK _ _ (h A' c' J h2 h3 h4)
end

def Blk(w:World)(g t:Nat)(cs:Array Value):Prop:=w.heap[g]?=some (.cells cs t (0,0))
theorem Blk.lt{w:World}{g t:Nat}{cs:Array Value}(h:Blk w g t cs):g<w.heap.size:=by
 rcases Nat.lt_or_ge g w.heap.size with hlt|O
 ·exact hlt
 ·unfold Blk at h;rw [Array.getElem?_eq_none O] at h;cases h
theorem Blk.cell{w:World}{g t:Nat}{cs:Array Value}(h:Blk w g t cs){i:Nat}{u:Value}(hi:cs[i]?=some u):w.cell? ⟨g,i,none⟩=some u:=by
 unfold Blk at h;simp [World.cell?,h,hi]
theorem Blk.q0{w:World}{g t:Nat}{cs:Array Value}{v:Value}(h:Blk w g t cs)(e:cs[0]?=some v:=by exact rfl):w.cell? ⟨g,0,none⟩=some v:=h.cell e
theorem Blk.q1{w:World}{g t:Nat}{cs:Array Value}{v:Value}(h:Blk w g t cs)(e:cs[1]?=some v:=by exact rfl):w.cell? ⟨g,1,none⟩=some v:=h.cell e
theorem Blk.q2{w:World}{g t:Nat}{cs:Array Value}{v:Value}(h:Blk w g t cs)(e:cs[2]?=some v:=by exact rfl):w.cell? ⟨g,2,none⟩=some v:=h.cell e
theorem Blk.q3{w:World}{g t:Nat}{cs:Array Value}{v:Value}(h:Blk w g t cs)(e:cs[3]?=some v:=by exact rfl):w.cell? ⟨g,3,none⟩=some v:=h.cell e
theorem Blk.q4{w:World}{g t:Nat}{cs:Array Value}{v:Value}(h:Blk w g t cs)(e:cs[4]?=some v:=by exact rfl):w.cell? ⟨g,4,none⟩=some v:=h.cell e
theorem Blk.q5{w:World}{g t:Nat}{cs:Array Value}{v:Value}(h:Blk w g t cs)(e:cs[5]?=some v:=by exact rfl):w.cell? ⟨g,5,none⟩=some v:=h.cell e
theorem Blk.q6{w:World}{g t:Nat}{cs:Array Value}{v:Value}(h:Blk w g t cs)(e:cs[6]?=some v:=by exact rfl):w.cell? ⟨g,6,none⟩=some v:=h.cell e
theorem Blk.q7{w:World}{g t:Nat}{cs:Array Value}{v:Value}(h:Blk w g t cs)(e:cs[7]?=some v:=by exact rfl):w.cell? ⟨g,7,none⟩=some v:=h.cell e
theorem Blk.q8{w:World}{g t:Nat}{cs:Array Value}{v:Value}(h:Blk w g t cs)(e:cs[8]?=some v:=by exact rfl):w.cell? ⟨g,8,none⟩=some v:=h.cell e
theorem Blk.q9{w:World}{g t:Nat}{cs:Array Value}{v:Value}(h:Blk w g t cs)(e:cs[9]?=some v:=by exact rfl):w.cell? ⟨g,9,none⟩=some v:=h.cell e
theorem Blk.q10{w:World}{g t:Nat}{cs:Array Value}{v:Value}(h:Blk w g t cs)(e:cs[10]?=some v:=by exact rfl):w.cell? ⟨g,10,none⟩=some v:=h.cell e
theorem Blk.q11{w:World}{g t:Nat}{cs:Array Value}{v:Value}(h:Blk w g t cs)(e:cs[11]?=some v:=by exact rfl):w.cell? ⟨g,11,none⟩=some v:=h.cell e
theorem Blk.q12{w:World}{g t:Nat}{cs:Array Value}{v:Value}(h:Blk w g t cs)(e:cs[12]?=some v:=by exact rfl):w.cell? ⟨g,12,none⟩=some v:=h.cell e
theorem Blk.q13{w:World}{g t:Nat}{cs:Array Value}{v:Value}(h:Blk w g t cs)(e:cs[13]?=some v:=by exact rfl):w.cell? ⟨g,13,none⟩=some v:=h.cell e
theorem Blk.q14{w:World}{g t:Nat}{cs:Array Value}{v:Value}(h:Blk w g t cs)(e:cs[14]?=some v:=by exact rfl):w.cell? ⟨g,14,none⟩=some v:=h.cell e
theorem Blk.q15{w:World}{g t:Nat}{cs:Array Value}{v:Value}(h:Blk w g t cs)(e:cs[15]?=some v:=by exact rfl):w.cell? ⟨g,15,none⟩=some v:=h.cell e
theorem Blk.q16{w:World}{g t:Nat}{cs:Array Value}{v:Value}(h:Blk w g t cs)(e:cs[16]?=some v:=by exact rfl):w.cell? ⟨g,16,none⟩=some v:=h.cell e
theorem Blk.q17{w:World}{g t:Nat}{cs:Array Value}{v:Value}(h:Blk w g t cs)(e:cs[17]?=some v:=by exact rfl):w.cell? ⟨g,17,none⟩=some v:=h.cell e
theorem Blk.qs2{w:World}{g t:Nat}{cs:Array Value}{v0 v1:Value}(h:Blk w g t cs)(e0:cs[0]?=some v0:=by exact rfl)(e1:cs[1]?=some v1:=by exact rfl):w.cell? ⟨g,0,none⟩=some v0/\w.cell? ⟨g,1,none⟩=some v1:=⟨h.cell e0,h.cell e1⟩
theorem Blk.qs3{w:World}{g t:Nat}{cs:Array Value}{v0 v1 v2:Value}(h:Blk w g t cs)(e0:cs[0]?=some v0:=by exact rfl)(e1:cs[1]?=some v1:=by exact rfl)(e2:cs[2]?=some v2:=by exact rfl):w.cell? ⟨g,0,none⟩=some v0/\w.cell? ⟨g,1,none⟩=some v1/\w.cell? ⟨g,2,none⟩=some v2:=⟨h.cell e0,h.cell e1,h.cell e2⟩
theorem Blk.qs4{w:World}{g t:Nat}{cs:Array Value}{v0 v1 v2 v3:Value}(h:Blk w g t cs)(e0:cs[0]?=some v0:=by exact rfl)(e1:cs[1]?=some v1:=by exact rfl)(e2:cs[2]?=some v2:=by exact rfl)(e3:cs[3]?=some v3:=by exact rfl):w.cell? ⟨g,0,none⟩=some v0/\w.cell? ⟨g,1,none⟩=some v1/\w.cell? ⟨g,2,none⟩=some v2/\w.cell? ⟨g,3,none⟩=some v3:=⟨h.cell e0,h.cell e1,h.cell e2,h.cell e3⟩
theorem Blk.qs5{w:World}{g t:Nat}{cs:Array Value}{v0 v1 v2 v3 v4:Value}(h:Blk w g t cs)(e0:cs[0]?=some v0:=by exact rfl)(e1:cs[1]?=some v1:=by exact rfl)(e2:cs[2]?=some v2:=by exact rfl)(e3:cs[3]?=some v3:=by exact rfl)(e4:cs[4]?=some v4:=by exact rfl):w.cell? ⟨g,0,none⟩=some v0/\w.cell? ⟨g,1,none⟩=some v1/\w.cell? ⟨g,2,none⟩=some v2/\w.cell? ⟨g,3,none⟩=some v3/\w.cell? ⟨g,4,none⟩=some v4:=⟨h.cell e0,h.cell e1,h.cell e2,h.cell e3,h.cell e4⟩
theorem Blk.qs7{w:World}{g t:Nat}{cs:Array Value}{v0 v1 v2 v3 v4 v5 v6:Value}(h:Blk w g t cs)(e0:cs[0]?=some v0:=by exact rfl)(e1:cs[1]?=some v1:=by exact rfl)(e2:cs[2]?=some v2:=by exact rfl)(e3:cs[3]?=some v3:=by exact rfl)(e4:cs[4]?=some v4:=by exact rfl)(e5:cs[5]?=some v5:=by exact rfl)(e6:cs[6]?=some v6:=by exact rfl):w.cell? ⟨g,0,none⟩=some v0/\w.cell? ⟨g,1,none⟩=some v1/\w.cell? ⟨g,2,none⟩=some v2/\w.cell? ⟨g,3,none⟩=some v3/\w.cell? ⟨g,4,none⟩=some v4/\w.cell? ⟨g,5,none⟩=some v5/\w.cell? ⟨g,6,none⟩=some v6:=⟨h.cell e0,h.cell e1,h.cell e2,h.cell e3,h.cell e4,h.cell e5,h.cell e6⟩
theorem Blk.frozen{w:World}{g t:Nat}{cs:Array Value}(h:Blk w g t cs)(i:Nat):w.frozen? ⟨g,i,none⟩=false:=by
 unfold Blk at h;simp [World.frozen?,h]
theorem Blk.keep{w J:World}{g t:Nat}{cs:Array Value}(h:Blk w g t cs)(hk:Kept (λb=>b=g) w J):Blk J g t cs:=(hk.2 g rfl h.lt).trans h
theorem Blk.new(w:World)(t:Nat)(cs:Array Value):Blk (w.alloc (.cells cs t)) w.heap.size t cs:=heap_alloc_new w _
theorem Blk.set{w:World}{g t:Nat}{cs:Array Value}(h:Blk w g t cs)(i:Nat)(u:Value):Blk (w.setCell ⟨g,i,none⟩ u) g t (cs.setIfInBounds i u):=by
 unfold Blk at h|-;simp [World.setCell,Array.getElem?_modify,h]
theorem ET(h:qP:=by simpa using hj):qP:=h
theorem Blk.rd{w:World}{g t:Nat}{cs:Array Value}(h:Blk w g t cs):Rd w (λb=>b=g) (some ⟨g,0,none⟩) cs.toList :=
 Or.inr ⟨g,0,rfl,rfl,h.lt,λj u hj=>by rw [Nat.zero_add];exact h.cell ET⟩
theorem IEA{w J:World}{B:Nat}{S:NP}(h:Below B w J)(hS:∀ b,S b->b<w.heap.size->b<B):Kept S w J:=⟨h.size,λb hb hl=>h.block b (hS b hb hl)⟩

def VL(R:Val->List Value->Prop)(xs:List Value)(l:List Val):Prop:=xs.length=l.length*7/\∀ (j:Nat) (y:Val),l[j]?=some y->R y ((xs.drop (j*7)).take 7)
theorem VL.nil(R:Val->List Value->Prop):VL R [] []:=⟨rfl,AC⟩
theorem VL.imp{R R':Val->List Value->Prop}{xs:List Value}{l:List Val}(h:VL R xs l)(f:∀ y cs,R y cs->R' y cs):VL R' xs l:=⟨h.1,λj y hj=>f _ _ (h.2 j y hj)⟩
theorem Sy(h:qP:=by
 rw [List.getElem?_append_left hlt] at hj;have hz:=h.2 j z hj;have hx:=h.1;rw [List.drop_append_of_le_length (by omega),List.take_append_of_le_length (by simp;omega)];exact hz):qP:=h
theorem AI(h:qP:=by simp;omega):qP:=h
theorem VL.snoc{R:Val->List Value->Prop}{xs cs:List Value}{l:List Val}{y:Val}(h:VL R xs l)(hc:cs.length=7)(hy:R y cs):VL R (xs++cs) (l++[y]):=by
 refine ⟨by simp [h.1,hc];omega,λj z hj => ?_⟩
 rcases Nat.lt_or_ge j l.length with hlt|O
 ·exact Sy
 ·rw [List.getElem?_append_right O] at hj;have hj0:j-l.length=0:=by
   rcases Nat.eq_zero_or_pos (j-l.length) with h0|h0
   ·exact h0
   ·rw [List.getElem?_eq_none AI] at hj;cases hj
  rw [hj0] at hj;simp at hj;subst hj;have:j=l.length:=AA;subst this;rw [<-h.1,List.drop_left,List.take_of_length_le AA];exact hy
theorem VL.append{R:Val->List Value->Prop}{xs ys:List Value}{l m:List Val}(h:VL R xs l)(k:VL R ys m):VL R (xs++ys) (l++m):=by
 refine ⟨by simp [h.1,k.1];omega,λj z hj => ?_⟩
 rcases Nat.lt_or_ge j l.length with hlt|O
 ·exact Sy
 ·rw [List.getElem?_append_right O] at hj;have hz:=k.2 _ z hj;have hx:=h.1;rw [show j*7=xs.length+(j-l.length)*7 by omega,<-List.drop_drop,List.drop_left];exact hz
theorem RVs.iff{R:Val->List Value->Prop}{w:World}{S:NP}{A:OA}{l:List Val} : RVs R w S A l↔l.length<=4294967296/\∃ xs,Rd w S A xs/\VL R xs l:=Iff.rfl

def CV(w:World)(S:NP)(d:Nat)(y:Val)(cs:List Value):Prop:=∃ A c B e,cs=En y A c B e/\(0<d/\y.cols.length<=c/\y.rows.length<=e)/\RV w S (d-1) y A B
theorem CV.keep{w J:World}{S:NP}{d:Nat}{y:Val}{cs:List Value}(h:CV w S d y cs)(k:Kept S w J):CV J S d y cs:=by
 obtain ⟨A,c,B,e,h1,h2,h3⟩:=h;exact ⟨A,c,B,e,h1,h2,h3.keep k⟩
theorem CV.mono{w:World}{S T:NP}{d:Nat}{y:Val}{cs:List Value}(h:CV w S d y cs)(k:∀ i,i<w.heap.size->S i->T i):CV w T d y cs:=by
 obtain ⟨A,c,B,e,h1,h2,h3⟩:=h;exact ⟨A,c,B,e,h1,h2,h3.mono k⟩
theorem RV.move{w J:World}{S T:NP}{d:Nat}{x:Val}{A B:OA}(h:RV w S d x A B)(k:Kept S w J)(m:∀ i,i<w.heap.size->S i->T i):RV J T d x A B :=
 ((h.mono (T:=λb=>S b/\T b) λi hi hs=>⟨hs,m i hi hs⟩).keep (k.mono λ_ _ hh=>hh.1)).mono λ_ _ hh=>hh.2
theorem Row.move{w J:World}{S T:NP}{d:Nat}{l:List Val}{B:OA}(h:Row w S d B l)(k:Kept S w J)(m:∀ i,i<w.heap.size->S i->T i):Row J T d B l :=
 ((Row.mono h (T:=λb=>S b/\T b) λi hi hs=>⟨hs,m i hi hs⟩).keep (k.mono λ_ _ hh=>hh.1)).mono λ_ _ hh=>hh.2
theorem CV.move{w J:World}{S T:NP}{d:Nat}{y:Val}{cs:List Value}(h:CV w S d y cs)(k:Kept S w J)(m:∀ i,i<w.heap.size->S i->T i):CV J T d y cs:=by
 obtain ⟨A,c,B,e,h1,h2,h3⟩:=h;exact ⟨A,c,B,e,h1,h2,h3.move k m⟩
theorem BIA{x:Val}{A B:OA}{c e:Nat} : ∀ u∈En x A c B e,u.oneCell'=true:=by
 intro u hu;simp [En] at hu
 rcases hu with rfl|rfl|rfl|rfl|rfl|rfl|rfl<;>rfl
theorem CV.one{w:World}{S:NP}{d:Nat}{y:Val}{cs:List Value}(h:CV w S d y cs):cs.length=7/\∀ u∈cs,u.oneCell'=true:=by
 obtain ⟨A,c,B,e,rfl,_⟩:=h;exact ⟨rfl,BIA⟩
theorem VL.one{w:World}{S:NP}{d:Nat}{xs:List Value}{l:List Val}(h:VL (CV w S d) xs l):∀ u∈xs,u.oneCell'=true:=by
 intro u hu;obtain ⟨i,hi,rfl⟩:=List.mem_iff_getElem.1 hu;have hx:=h.1;have hj:i / 7<l.length:=AA;have h7:=(h.2 (i / 7) _ (List.getElem?_eq_getElem hj)).one.2;refine h7 _ (List.mem_iff_getElem.2 ⟨i % 7,?_,?_⟩)
 ·simp;omega
 ·rw [List.getElem_take,List.getElem_drop];congr 1;omega

def OwnVs(w:World)(base:Nat)(X:NP)(d:Nat)(A:OA)(c:Nat)(l:List Val):Prop :=
 ∃ xs,Own w base 40 7 A l.length c xs/\VL (CV w (λb=>ob A≠some b/\X b) d) xs l
def OwnRs(w:World)(base:Nat)(X:NP)(d:Nat)(A:OA)(c:Nat)(l:List (List Val)):Prop :=
 ∃ hs,Own w base 45 1 A l.length c hs/\∀ (i:Nat) (r:List Val),l[i]?=some r->∃ (B:OA) (e:Nat),hs[i]?=some (Value.slice B r.length e)/\r.length<=e/\Row w (λb=>ob A≠some b/\X b) d B r
def OwnSs(w:World)(base:Nat)(A:OA)(c:Nat)(l:List BA):Prop:=Own w base 9 1 A l.length c (l.map Value.string)/\∀ s∈l,s.size<=4294967296
def OwnIs(w:World)(base:Nat)(A:OA)(c:Nat)(l:List Int):Prop:=Own w base 3 1 A l.length c (l.map (Value.int .i64))

section
variable {w J:World}{base c c' d:Nat}{X T:NP}{A A':OA}
theorem OwnVs.nil(w:World)(base:Nat)(X:NP)(d:Nat):OwnVs w base X d none 0 []:=⟨[],Own.nil _ _ _ _,VL.nil _⟩
theorem OwnVs.ext{l:List Val}(h:OwnVs w base X d A c l)(hx:Ext w J):OwnVs J base X d A c l:=by
 obtain ⟨xs,h1,h2⟩:=h;exact ⟨xs,h1.ext hx,h2.imp λ_ _ hh=>hh.keep (hx.kept _)⟩
theorem OwnVs.keep{l:List Val}(h:OwnVs w base X d A c l)(hk:Kept (λb=>ob A=some b\/X b) w J):OwnVs J base X d A c l:=by
 obtain ⟨xs,h1,h2⟩:=h;exact ⟨xs,h1.keep (hk.mono λ_ _ hh=>Or.inl hh),h2.imp λ_ _ hh=>hh.keep (hk.mono λ_ _ hh=>Or.inr hh.2)⟩
theorem Zf(h:qP:=by
 intro h;injection h with h;omega):qP:=h
theorem GO(h:qP:=by
 rintro i hi ⟨h1,h2⟩;refine ⟨?_,h2⟩
 rcases hat with e|e<;>rw [e]
 ·exact h1
 ·exact Zf):qP:=h
theorem OwnVs.push{l:List Val}{y:Val}{A1 B1:OA}{c1 e1:Nat}{xs:List Value}(hv:VL (CV w (λb=>ob A≠some b/\X b) d) xs l)(hown:Own J base 40 7 A' (l.length+1) c' (xs++En y A1 c1 B1 e1))
  (hg:w.grownBy J (ob A)) (hat:ob A'=ob A\/ob A'=some w.heap.size) (hd:0<d/\y.cols.length<=c1/\y.rows.length<=e1) (hy:RV w (λb=>ob A≠some b/\X b) (d-1) y A1 B1):OwnVs J base X d A' c' (l++[y]):=by
 have hk:Kept (λb=>ob A≠some b/\X b) w J:=Kept.of_grown hg (λb hb _ e=>hb.1 e.symm);have hm:∀ i,i<w.heap.size->(ob A≠some i/\X i)->(ob A'≠some i/\X i):=by
  exact GO
 refine ⟨_,Dg,?_⟩;exact VL.snoc (hv.imp λ_ _ hh=>hh.move hk hm) rfl ⟨_,_,_,_,rfl,hd,hy.move hk hm⟩
theorem OwnVs.row{l:List Val}(h:OwnVs w base X d A c l)(hl:l.length<=4294967296)(h1:∀ b,ob A=some b->T b)(h2:∀ b,X b->T b):Row w T d A l:=by
 obtain ⟨xs,ho,hv⟩:=h;exact ⟨hl,xs,ho.rd.mono λi _ hi=>h1 i hi,hv.1,λj y hj=>(hv.2 j y hj).mono λi _ hi=>h2 i hi.2⟩
theorem ID(h:qP:=by
 obtain ⟨xs,ho,_⟩:=h;exact ho.blk hk):qP:=h
theorem OwnVs.blk{l:List Val}(h:OwnVs w base X d A c l){k:Nat}(hk:ob A=some k):base<=k/\k<w.heap.size:=by
 exact ID
theorem OwnVs.lower{base':Nat}{l:List Val}(h:OwnVs w base X d A c l)(hb:base'<=base):OwnVs w base' X d A c l:=by
 obtain ⟨xs,h1,h2⟩:=h;exact ⟨xs,h1.lower hb,h2⟩
theorem OwnRs.nil(w:World)(base:Nat)(X:NP)(d:Nat):OwnRs w base X d none 0 []:=⟨[],Own.nil _ _ _ _,AC⟩
theorem OwnRs.ext{l:List (List Val)}(h:OwnRs w base X d A c l)(hx:Ext w J):OwnRs J base X d A c l:=by
 obtain ⟨hs,h1,h2⟩:=h;refine ⟨hs,h1.ext hx,λi r hr => ?_⟩;obtain ⟨B,e,h3,hcp,h4⟩:=h2 i r hr;exact ⟨B,e,h3,hcp,Row.keep h4 (hx.kept _)⟩
theorem OwnRs.keep{l:List (List Val)}(h:OwnRs w base X d A c l)(hk:Kept (λb=>ob A=some b\/X b) w J):OwnRs J base X d A c l:=by
 obtain ⟨hs,h1,h2⟩:=h;refine ⟨hs,h1.keep (hk.mono λ_ _ hh=>Or.inl hh),λi r hr => ?_⟩;obtain ⟨B,e,h3,hcp,h4⟩:=h2 i r hr;exact ⟨B,e,h3,hcp,Row.keep h4 (hk.mono λ_ _ hh=>Or.inr hh.2)⟩
theorem OwnRs.mono{l:List (List Val)}(h:OwnRs w base X d A c l)(hm:∀ b,b<w.heap.size->X b->T b):OwnRs w base T d A c l:=by
 obtain ⟨hs,h1,h2⟩:=h;refine ⟨hs,h1,λi r hr => ?_⟩;obtain ⟨B,e,h3,hcp,h4⟩:=h2 i r hr;exact ⟨B,e,h3,hcp,Row.mono h4 λi hi hh=>⟨hh.1,hm i hi hh.2⟩⟩
theorem OwnVs.mono{l:List Val}(h:OwnVs w base X d A c l)(hm:∀ b,b<w.heap.size->X b->T b):OwnVs w base T d A c l:=by
 obtain ⟨xs,h1,h2⟩:=h;exact ⟨xs,h1,h2.imp λ_ _ hh=>hh.mono λi hi hh=>⟨hh.1,hm i hi hh.2⟩⟩
theorem BfA(h:qP:=by
 rw [List.getElem?_eq_none (by simp;omega)] at hr;cases hr):qP:=h
theorem Lt(h:qP:=by
 rcases Nat.eq_zero_or_pos (i-l.length) with h0|h0
 ·exact h0
 ·exact BfA):qP:=h
theorem OwnRs.push{l:List (List Val)}{r:List Val}{B:OA}{e:Nat}{hs:List Value}(ho:hs.length=l.length)
  (hv:∀ (i:Nat) (r:List Val),l[i]?=some r->∃ (B:OA) (e:Nat),hs[i]?=some (Value.slice B r.length e)/\r.length<=e/\Row w (λb=>ob A≠some b/\X b) d B r)
  (hown:Own J base 45 1 A' (l.length+1) c' (hs++[Value.slice B r.length e])) (hg:w.grownBy J (ob A)) (hat:ob A'=ob A\/ob A'=some w.heap.size)
  (hre:r.length<=e) (hy:Row w (λb=>ob A≠some b/\X b) d B r):OwnRs J base X d A' c' (l++[r]):=by
 have hk:Kept (λb=>ob A≠some b/\X b) w J:=Kept.of_grown hg (λb hb _ e=>hb.1 e.symm);have hm:∀ i,i<w.heap.size->(ob A≠some i/\X i)->(ob A'≠some i/\X i):=by
  exact GO
 refine ⟨_,Dg,λi r' hr => ?_⟩
 rcases Nat.lt_or_ge i l.length with hlt|O
 ·rw [List.getElem?_append_left hlt] at hr;obtain ⟨B',e',h3,hcp,h4⟩:=hv i r' hr;exact ⟨B',e',by rw [List.getElem?_append_left AA];exact h3,hcp,Row.move h4 hk hm⟩
 ·rw [List.getElem?_append_right O] at hr;have hj0:i-l.length=0:=by
   exact Lt
  rw [hj0] at hr;simp at hr;subst hr;exact ⟨B,e,by rw [List.getElem?_append_right AA,ho,hj0];rfl,hre,Row.move hy hk hm⟩
theorem OwnRs.rows{l:List (List Val)}(h:OwnRs w base X d A c l)(hl:l.length<=4294967296)(h1:∀ b,ob A=some b->T b)(h2:∀ b,X b->T b):Rows w T d A l:=by
 obtain ⟨hs,ho,hv⟩:=h;refine ⟨hl,hs,ho.rd.mono λi _ hi=>h1 i hi,by simpa using ho.len,λi r hr => ?_⟩;obtain ⟨B,e,h3,hcp,h4⟩:=hv i r hr;exact ⟨B,e,h3,hcp,Row.mono h4 λi _ hi=>h2 i hi.2⟩
theorem OwnRs.blk{l:List (List Val)}(h:OwnRs w base X d A c l){k:Nat}(hk:ob A=some k):base<=k/\k<w.heap.size:=by
 exact ID
theorem OwnSs.nil(w:World)(base:Nat):OwnSs w base none 0 []:=⟨Own.nil _ _ _ _,AC⟩
theorem OwnSs.ext{l:List BA}(h:OwnSs w base A c l)(hx:Ext w J):OwnSs J base A c l:=⟨h.1.ext hx,h.2⟩
theorem OwnSs.strs{l:List BA}(h:OwnSs w base A c l)(hl:l.length<=4294967296)(h1:∀ b,ob A=some b->T b):Strs w T A l:=⟨h.1.rd.mono λi _ hi=>h1 i hi,hl,h.2⟩
theorem OwnIs.nil(w:World)(base:Nat):OwnIs w base none 0 []:=Own.nil _ _ _ _
theorem OwnIs.ext{l:List Int}(h:OwnIs w base A c l)(hx:Ext w J):OwnIs J base A c l:=Own.ext h hx
theorem OwnIs.ints{l:List Int}(h:OwnIs w base A c l)(hl:l.length<=4294967296)(h1:∀ b,ob A=some b->T b):Ints w T A l:=⟨(Own.rd h).mono λi _ hi=>h1 i hi,hl⟩
end
theorem IKA{P:Program}{t e sz by_:Nat}{z:Value}(h:P.underlying t=some (.slice e))(hi:(P.info? e).map (λi=>(i.zero,i.size,i.bytes))=some (some z,sz,by_))(hz:z.cells.size=sz)(h0:0<sz):TI P t e sz by_:=by
 obtain ⟨i0,h1,h2,h3,h4⟩:=info_parts hi;exact ⟨h,i0,z,h1,h2,h3,h4,hz,h0⟩
theorem HAA:(prog.info? 40).map (λi=>(i.zero,i.size,i.bytes))=some (some (.agg Vz),7,96):=by kernel_rfl
theorem GeA:(prog.info? 45).map (λi=>(i.zero,i.size,i.bytes))=some (some (.slice none 0 0),1,24):=by kernel_rfl
theorem GxA:(prog.info? 9).map (λi=>(i.zero,i.size,i.bytes))=some (some (.string ⟨#[]⟩),1,16):=by kernel_rfl
theorem EXA:(prog.info? 3).map (λi=>(i.zero,i.size,i.bytes))=some (some (.I 0),1,8):=by kernel_rfl
theorem AB(h:qP:=by decide):qP:=h
theorem tiV:TI prog 45 40 7 96:=IKA underlying45 HAA rfl AB
theorem tiR:TI prog 38 45 1 24:=IKA underlying38 GeA rfl AB
theorem tiS:TI prog 33 9 1 16:=IKA underlying33 GxA rfl AB
theorem tiI:TI prog 22 3 1 8:=IKA underlying22 EXA rfl AB

theorem GIA{P:Program}{t e sz by_:Nat}(ti:TI P t e sz by_)(n c:Nat)(hnc:n<=c)(hb:by_*c<=281474976710656)(hby:0<by_) :
  ∃ cur:Array Value,(∀ w:World,(Instr.makeSlice t (.I (n:Int)) (.I (c:Int))).run P w=.ok (.slice (some ⟨w.heap.size,0,none⟩) n c) (w.alloc (.cells cur e)))/\cur.size=c*sz:=by
 obtain ⟨ht,i,z,hi,hz,U,O,Y,hsz⟩:=ti;refine ⟨madeCells z.cells (c*i.size),λw => ?_,by simp [madeCells,U]⟩;have hc:c<=281474976710656:=by
  have:1*c<=by_*c:=Nat.mul_le_mul_right _ hby;omega
 have hb':(i.bytes:Int)*(c:Int)<=281474976710656:=by
  rw [O];have h:((by_*c:Nat):Int)<=281474976710656:=AA;rwa [Int.natCast_mul] at h
 have hr:=run_make (P:=P) w t e i z ht hi hz .i64 .i64 n c AA AA hb' AA;simp only [Int.toNat_natCast] at hr;exact hr
theorem B2A{P:Program}{t e sz by_:Nat}(ti:TI P t e sz by_)(c:Nat)(hb:by_*c<=281474976710656)(hby:0<by_) :
  ∃ cur:Array Value,(∀ w:World,(Instr.makeSlice t (.I 0) (.I (c:Int))).run P w=.ok (.slice (some ⟨w.heap.size,0,none⟩) 0 c) (w.alloc (.cells cur e)))/\cur.size=c*sz:=by
 have:=GIA ti 0 c (AN) hb hby
 simpa using this

def BO(w:World):Nat->Prop:=λb=>w.heap.size<=b
def CEA(w:World)(l:List BA)(e:Ending)(J:World):Prop:=∃ A' c',e=.returned (.slice A' l.length c')/\l.length<=c'/\Strs J (BO w) A' l/\Ext w J
def HuA(w:World)(S:NP)(d:Nat)(x:Val)(e:Ending)(J:World):Prop:=∃ A c B e',e=.returned (Vq x A c B e')/\(x.cols.length<=c/\x.rows.length<=e')/\RV J S d x A B/\Ext w J

theorem UT(h:qP:=by
 rcases h.1 with h0|⟨b,o,h1,_⟩
 ·simpa using h0
 ·cases h1):qP:=h
theorem AP(h:qP:=by simp [Value.oneCell']):qP:=h
theorem Wx(A:OA)(c:Nat)(l:List BA)(w:World)(S:NP)(h:Strs w S A l) :
  Cl 145 #[.slice A l.length c] w (CEA w l):=by
 have hn:=h.2.1
 rcases A with _|a
 ·have hl:l=[]:=by
   exact UT
  subst hl;have O:=λw:World=>Lib.run_eql_slice_nil w 33 9 none 0 c 0 0 underlying33;simp only [List.length_nil] at O|-
  go_enter func145,ntmps145
  go_wp2;go_ret;exact ⟨none,0,rfl,Al,Strs.nil,Ext.refl _⟩
 ·have O:=λw:World=>Lib.run_eql_slice_nil w 33 9 (some a) l.length c 0 0 underlying33
  go_enter func145,ntmps145
  go_wp2_with (at_builtin;refine AL rfl (.tmp 5) (.tmp 6) rfl tiS rfl ((World.ownsRow_made w #[] 0 (Al) Bd rfl)) rfl (h.1.keep (Kept.alloc _ _ _)) AC AP AA AB AC ?_;intro A' c' w1 hown hg hat)
  go_ret;simp only [Nat.zero_add,List.nil_append] at hown;exact ⟨A',c',rfl,hown.cap,⟨Rd.of_own hown,h.2⟩,(exaa w).grown hg (λk hk=>by simp [ob] at hk;omega)⟩

structure CopyRel(w:World)(x:Val)(q:Nat)(B:OA)(e:Nat)(A1:OA)(c1:Nat)(k:Nat)(A:OA)(c:Nat)(H:Nat)(wr:World):Prop where
 ext:Ext w wr
 low:w.heap.size+2<=H
 high:H<=wr.heap.size
 box:Blk wr w.heap.size 40 (Vp x A1 c1 B e)
 res:Blk wr (w.heap.size+1) 40 Vz
 cols:Strs wr (λb=>w.heap.size+2<=b/\b<H/\ob A≠some b) A1 x.cols
 rows:OwnRs wr (w.heap.size+2) (λb=>w.heap.size+2<=b/\b<H) q A c (x.rows.take k)
 own:∀ b,ob A=some b->b<H
theorem CopyRel.below{w:World}{x:Val}{q:Nat}{B:OA}{e:Nat}{A1:OA}{c1:Nat}{k:Nat}{A:OA}{c:Nat}{H:Nat}{wr wr':World}
  (h:CopyRel w x q B e A1 c1 k A c H wr) (hb:Below H wr wr'):CopyRel w x q B e A1 c1 k A c H wr':=by
 have hl:=h.low;exact ⟨Below.trans h.ext (hb.mono AA),h.low,Nat.le_trans h.high hb.size,h.box.keep (IEA hb (by intro b e _;omega)),h.res.keep (IEA hb (by intro b e _;omega)),
  h.cols.keep (IEA hb (by intro b e _;omega)),h.rows.keep (IEA hb (by
   rintro b (e|e) _
   ·exact h.own b e
   ·exact e.2)),h.own⟩


def Cq(c:Int):Bool:=decide (97<=c/\c<=122\/65<=c/\c<=90)
def Jp(c:Int):Bool:=Cq c||decide (c=95)||decide (48<=c/\c<=57)
def C4(c:Int):Bool:=decide (32<=c/\c<=126)
def bs(s:BA):List Int:=s.data.toList.map λc=>(c.toNat:Int)
theorem GY(s:BA):(bs s).length=s.size:=by simp [bs]
theorem M8(s:BA)(k:Nat)(h:k<s.size):(bs s)[k]'(by rw [GY];exact h)=(s[k].toNat:Int):=by simp [bs];rfl
def Ba(s:BA):Bool:=decide (1<=s.size/\s.size<=20)&&((bs s).head?.any Cq)&&(bs s).all Jp
def Ca(s:BA):Bool:=decide (s.size<=200)&&(bs s).all C4
def SameB(w:World)(b:Bool)(e:Ending)(J:World):Prop:=e=.returned (.bool b)/\w=J
theorem SameB.ret{w:World}{b:Bool}{e:Ending}{J:World}(h:SameB w b e J):Ae w b e J:=by
 obtain ⟨he,rfl⟩:=h;exact ⟨he,Ext.refl w⟩

theorem F6(c:Int)(w:World):Cl 219 #[.int .u8 c] w (SameB w (Cq c)):=by
 go_enter func219,ntmps219
 go_wp2
 all_goals
  go_ret;refine ⟨?_,rfl⟩;simp only [Cq];simp
  first|done|(rw [Bool.eq_iff_iff];simp;omega)|omega

theorem VU(h:qP:=by
 intro x hx;obtain ⟨i,hi,rfl⟩:=List.mem_iff_getElem.1 hx;exact h i hi):qP:=h
theorem CH{α:Type}(l:List α)(p:α->Bool):(∀ j (h:j<l.length),p l[j]=true)->l.all p=true:=by
 intro h;rw [List.all_eq_true];exact VU
theorem CX{α:Type}(l:List α)(p:α->Bool)(j:Nat)(h:j<l.length)(hp:p l[j]=false):l.all p=false:=by
 rw [List.all_eq_false];exact ⟨l[j],List.getElem_mem h,by simp [hp]⟩

theorem BGA(h:qP:=by
 refine ⟨k+1,by omega,by go_num,λj h hj => ?_⟩;by_cases hjk:j=k
 ·subst hjk;simp [C4];omega
 ·exact HA.o j h (by omega)):qP:=h
theorem ZP(h:qP:=by
 obtain ⟨h1,h2⟩:=ht;go_wp2
 go_round
 case rel =>
  exact BGA
 case measure=>simp [intOf];omega):qP:=h
theorem BrA(h:qP:=by
 unfold Ca;rw [CX (bs s) C4 k (by rw [GY];exact hlt) (by rw [M8 s k hlt];simp only [C4,decide_eq_false_iff_not];exact ht)];simp):qP:=h
theorem Y6(h:qP:=by
 have hf:Ca s=false:=by
  exact BrA
 have HF:=Hd hf;clear hf;by_cases h1:32<=(s[k].toNat:Int)
 all_goals
  go_wp2;go_ret;exact ⟨by rw [HF.o];rfl,rfl⟩):qP:=h
theorem AkA(h:qP:=by
 by_cases ht:32<=(s[k].toNat:Int)/\(s[k].toNat:Int)<=126
 ·exact ZP
 ·exact Y6):qP:=h
theorem BAA(h:qP:=by
 unfold Ca;rw [CH (bs s) C4 (λj h=>by rw [GY] at h;rw [M8 s j h];exact HA.o j h (by omega))];simp):qP:=h
theorem PS(h:qP:=by
 go_wp2;go_ret;exact ⟨by rw [HF.o];simp;omega,rfl⟩):qP:=h
theorem A0A(h:qP:=by
 have hf:Ca s=decide (s.size<=200):=by
  exact BAA
 have HF:=Hd hf;clear hf;exact PS):qP:=h
theorem Uu(h:qP:=by
 obtain ⟨k,hk,rfl,hall⟩:=hrel;have HA:=Hd hall;clear hall;by_cases hlt:k<s.size
 ·exact AkA
 ·exact A0A):qP:=h
theorem M1(s:BA)(hs:s.size<=4294967296)(w:World):Cl 94 #[.string s] w (SameB w (Ca s)):=by
 go_enter func94,ntmps94
 go_wp2
 go_loop [6] (λi=>∃ k:Nat,k<=s.size/\i=.I k/\∀ j (h:j<s.size),j<k->C4 (s[j].toNat:Int)=true) (λi=>s.size-(intOf i).toNat)
 case atStart=>exact ⟨0,AN,rfl,AK⟩
 case round =>
  exact Uu

theorem Ea(h:qP:=by
 go_wp2;go_ret;exact ⟨rfl,rfl⟩):qP:=h
theorem FR(h:qP:=by
 go_ret;exact ⟨by rw [HF.o];rfl,rfl⟩):qP:=h
theorem Bf(h:qP:=by
 go_wp2;exact FR):qP:=h
theorem VX(h:qP:=by
 have:(bs s).head?=some (s[0].toNat:Int):=(by rw [List.head?_eq_getElem?,List.getElem?_eq_getElem (by rw [GY];exact hp),M8 s 0 hp]);rw [this];simp [hl]):qP:=h
theorem BsA(h:qP:=by
 refine ⟨k+1,by omega,by go_num,λj h hj => ?_⟩;by_cases hjk:j=k
 ·subst hjk;exact HN.o
 ·exact HA.o j h (by omega)):qP:=h
theorem SV(h:qP:=by
 go_wp2_with (go_at_call 219;refine (F6 _ _).mono ?_;rintro e J ⟨rfl,rfl⟩;rw [HK1.o])
 go_round
 case rel =>
  exact BsA
 case measure=>simp [intOf];omega):qP:=h
theorem Ti(h:qP:=by
 clear h1 h2;exact SV):qP:=h
theorem T8(h:qP:=by
 have HF:=Hd hf;clear hf;exact Bf):qP:=h
theorem BB(h:qP:=by rw [HF.o];rfl):qP:=h
theorem DZ(h:qP:=by simp [h2]):qP:=h
theorem I6(s:BA)(hs:s.size<=4294967296)(w:World):Cl 171 #[.string s] w (SameB w (Ba s)):=by
 by_cases h0:s.size=0
 ·have he:s=⟨#[]⟩:=by
   cases s;simp [ByteArray.size] at h0;rw [h0]
  subst he
  go_enter func171,ntmps171
  exact Ea
 have e1:s.toList=[]->False:=λh=>h0 (by have h2:=congrArg List.length h;rw [ByteArray.toList_eq,Array.length_toList] at h2;exact h2);have e2:(s.toList.isEmpty)=false:=(by simpa using e1);by_cases h20:20<s.size
 ·have hf:Ba s=false:=(by unfold Ba;simp;omega);have HF:=Hd hf;have U:(20:Int)<(s.size:Int):=AA;clear hf
  go_enter func171,ntmps171
  exact Bf
 ·have hp:0<s.size:=AA;cases hl:Cq (s[0].toNat:Int)
  ·have hf:Ba s=false:=by
    unfold Ba;exact VX
   have HF:=Hd hf;have HL:=Hd hl;clear hf hl
   go_enter func171,ntmps171
   go_wp2_with (go_at_call 219;refine (F6 _ _).mono ?_;rintro e J ⟨rfl,rfl⟩;rw [HL.o])
   exact FR
  ·have O:(bs s).head?.any Cq=true:=by
    exact VX
   have Y:=Hd O;have HL:=Hd hl;clear O hl;have U:(s.size:Int)<=20:=AA
   go_enter func171,ntmps171
   go_wp2_with (go_at_call 219;refine (F6 _ _).mono ?_;rintro e J ⟨rfl,rfl⟩;rw [HL.o])
   go_loop [19] (λi=>∃ k:Nat,k<=s.size/\i=.I k/\∀ j (h:j<s.size),j<k->Jp (s[j].toNat:Int)=true) (λi=>s.size-(intOf i).toNat)
   case atStart=>exact ⟨0,AN,rfl,AK⟩
   case round =>
    obtain ⟨k,hk,rfl,hall⟩:=hrel;have HA:=Hd hall;clear hall;by_cases hlt:k<s.size
    ·cases hn:Jp (s[k].toNat:Int)
     ·have hf:Ba s=false:=by
       unfold Ba;rw [CX (bs s) Jp k (by rw [GY];exact hlt) (by rw [M8 s k hlt];exact hn)];simp
      have HF:=Hd hf;have a8:Cq (s[k].toNat:Int)=false/\¬((s[k].toNat:Int)=95)/\¬(48<=(s[k].toNat:Int)/\(s[k].toNat:Int)<=57):=by
       have h9:=hn;simp [Jp] at h9;exact ⟨h9.1.1,h9.1.2,λh=>AA⟩
      obtain ⟨hk1,hk2,hk3⟩:=a8;have HK1:=Hd hk1;have hk4:((s[k].toNat:Int) != 95)=true:=(by rw [bne_iff_ne];exact hk2);clear hf hn hk1;by_cases hk5:(s[k].toNat:Int)<48
      all_goals
       go_wp2_with (go_at_call 219;refine (F6 _ _).mono ?_;rintro e J ⟨rfl,rfl⟩;rw [HK1.o])
       go_ret;exact ⟨BB,rfl⟩
     ·have HN:=Hd hn;have Z:Cq (s[k].toNat:Int)=true\/Cq (s[k].toNat:Int)=false/\((s[k].toNat:Int)=95\/((s[k].toNat:Int)≠95/\48<=(s[k].toNat:Int)/\(s[k].toNat:Int)<=57)):=by
       cases hq:Cq (s[k].toNat:Int)
       ·right;refine ⟨rfl,?_⟩;simp [Jp,hq] at hn;omega
       ·left;rfl
      clear hn
      rcases Z with h1|⟨h1,h2|⟨h2,h3,h4⟩⟩
      ·have HK1:=Hd h1;clear h1;exact SV
      ·have HK1:=Hd h1;have h5:((s[k].toNat:Int) != 95)=false:=DZ;exact Ti
      ·have HK1:=Hd h1;have h5:((s[k].toNat:Int) != 95)=true:=(by rw [bne_iff_ne];exact h2);exact Ti
    ·have hf:Ba s=true:=by
      unfold Ba;rw [Y.o,CH (bs s) Jp (λj h=>by rw [GY] at h;rw [M8 s j h];exact HA.o j h AA)];simp;omega
     exact T8
