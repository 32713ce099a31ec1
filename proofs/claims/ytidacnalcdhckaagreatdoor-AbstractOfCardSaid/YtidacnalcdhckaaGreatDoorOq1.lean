/- Lemmas. No conditions. -/
import Derived.Test.YtidacnalcdhckaaGreatDoorProg
import Derived.Tactics
import Derived.Tactics2
import Derived.WalkKit
import Derived.LoopTactic
import Derived.RegionTactic
import Derived.Deep.QuietTactic
import Derived.BigQuiet
import Derived.Below
import Derived.Laws.OwnMore
import Derived.Deep.AppendLies
import Derived.Deep.Draws
import Derived.Deep.RegionHeld3
import Derived.StillTailTactics
import Derived.Maps.AppendAt
import Derived.OwnWalk
import Derived.Outline
import Derived.KernelRfl
import Derived.Lib.Hide
set_option maxRecDepth 100000
set_option maxHeartbeats 400000
namespace Go.Proofs.YtidacnalcdhckaaGreatDoor
open Go Go.RowKit Tryz
variable {qP:Prop}
theorem Hd {p : Prop} (h : p) : Go.RowKit.Hid p := h
end Go.Proofs.YtidacnalcdhckaaGreatDoor
namespace Go.RowKit
theorem Hid.o {p : Prop} (h : Hid p) : p := h.out
end Go.RowKit
namespace Go.Proofs.YtidacnalcdhckaaGreatDoor
open Go Go.RowKit Tryz
variable {qP:Prop}
end Go.Proofs.YtidacnalcdhckaaGreatDoor
namespace Go
abbrev Value.I(x:Int):Value:=.int .i64 x
end Go
namespace Go.Proofs.YtidacnalcdhckaaGreatDoor
open Go Go.RowKit Tryz
variable {qP:Prop}
abbrev OA:=Option Addr
abbrev BA:=ByteArray
abbrev NP:=Nat→Prop
abbrev Az:Array Value:=List.toArray [.int .i64 0,.int .i64 0,.int .i64 0,.int .i64 0,.string ⟨#[]⟩,.string ⟨#[]⟩,.int .i64 0,.int .i64 0,.int .i64 0,.int .i64 0,.int .i64 0,.int .i64 0,.int .i64 0,.int .i64 0,.int .i64 0,.slice none 0 0,.slice none 0 0,.bool false]
abbrev Vz:Array Value:=List.toArray [.int .i64 0,.string ⟨#[]⟩,.int .i64 0,.int .i64 0,.int .i64 0,.slice none 0 0,.slice none 0 0]
abbrev Cl:=Calls Tryz.prog
theorem Hd3{p0 p1 p2:Prop}(a0:p0)(a1:p1)(a2:p2):Hid p0∧Hid p1∧Hid p2:=⟨Hd a0,Hd a1,Hd a2⟩
theorem Hd4{p0 p1 p2 p3:Prop}(a0:p0)(a1:p1)(a2:p2)(a3:p3):Hid p0∧Hid p1∧Hid p2∧Hid p3:=⟨Hd a0,Hd a1,Hd a2,Hd a3⟩
theorem Hd5{p0 p1 p2 p3 p4:Prop}(a0:p0)(a1:p1)(a2:p2)(a3:p3)(a4:p4):Hid p0∧Hid p1∧Hid p2∧Hid p3∧Hid p4:=⟨Hd a0,Hd a1,Hd a2,Hd a3,Hd a4⟩
theorem Hd6{p0 p1 p2 p3 p4 p5:Prop}(a0:p0)(a1:p1)(a2:p2)(a3:p3)(a4:p4)(a5:p5):Hid p0∧Hid p1∧Hid p2∧Hid p3∧Hid p4∧Hid p5:=⟨Hd a0,Hd a1,Hd a2,Hd a3,Hd a4,Hd a5⟩
theorem Hd7{p0 p1 p2 p3 p4 p5 p6:Prop}(a0:p0)(a1:p1)(a2:p2)(a3:p3)(a4:p4)(a5:p5)(a6:p6):Hid p0∧Hid p1∧Hid p2∧Hid p3∧Hid p4∧Hid p5∧Hid p6:=⟨Hd a0,Hd a1,Hd a2,Hd a3,Hd a4,Hd a5,Hd a6⟩
theorem Hd8{p0 p1 p2 p3 p4 p5 p6 p7:Prop}(a0:p0)(a1:p1)(a2:p2)(a3:p3)(a4:p4)(a5:p5)(a6:p6)(a7:p7):Hid p0∧Hid p1∧Hid p2∧Hid p3∧Hid p4∧Hid p5∧Hid p6∧Hid p7:=⟨Hd a0,Hd a1,Hd a2,Hd a3,Hd a4,Hd a5,Hd a6,Hd a7⟩
theorem Qt{p q:Prop}(k:q)(h:Hid q→p:=by
    intro k
    try simp only [List.setIfInBounds_toArray,Act.put,List.set_cons_succ,List.set_cons_zero,Nat.zero_add,Nat.reduceAdd]
    exact k.o):p:=h (Hd k)
theorem Bl{a b:Nat}(h:a=b):b≤a:=by rw [h];exact Nat.le_refl b
theorem AN{n:Nat} : 0≤n:=Nat.zero_le n
theorem Al{n:Nat} : n≤n:=Nat.le_refl n
theorem eqx{α:Sort _}(a:α):∃ z,z=a:=⟨a,rfl⟩

structure Val where
  kind:Int
  s:BA
  dn:Int
  ds:Int
  n:Int
  cols:List BA
  rows:List (List Val)
abbrev Vp(x:Val)(A:Option Addr)(c:Nat)(B:Option Addr)(e:Nat):Array Value:=List.toArray [.int .i64 x.kind,.string x.s,.int .i64 x.dn,.int .i64 x.ds,.int .i64 x.n,.slice A x.cols.length c,.slice B x.rows.length e]
abbrev Vq(x:Val)(A:Option Addr)(c:Nat)(B:Option Addr)(e:Nat):Value:=.agg (Vp x A c B e)

mutual
def Val.beqV:Val→Val→Bool
  |⟨k,s,a,b,n,c,r⟩,⟨k',s',a',b',n',c',r'⟩=>decide (k=k')&&decide (s=s')&&decide (a=a')&&decide (b=b')&&decide (n=n')&&decide (c=c')&&Val.beqRs r r'
def Val.beqRs:List (List Val)→List (List Val)→Bool
  |[],[]=>true
  |x::l,y::m=>Val.beqR x y&&Val.beqRs l m
  |_,_=>false
def Val.beqR:List Val→List Val→Bool
  |[],[]=>true
  |x::l,y::m=>Val.beqV x y&&Val.beqR l m
  |_,_=>false
 end
mutual
theorem Val.beqV_eq:∀ x y:Val,Val.beqV x y=true↔x=y
  |⟨k,s,a,b,n,c,r⟩,⟨k',s',a',b',n',c',r'⟩=>by
    have:=Val.beqRs_eq r r'
    simp [Val.beqV,this,and_assoc]
theorem Val.beqRs_eq:∀ x y:List (List Val),Val.beqRs x y=true↔x=y
  |[],[]=>by simp [Val.beqRs]
  |[],_::_=>by simp [Val.beqRs]
  |_::_,[]=>by simp [Val.beqRs]
  |x::l,y::m=>by
    have h1:=Val.beqR_eq x y
    have h2:=Val.beqRs_eq l m
    simp [Val.beqRs,h1,h2]
theorem Val.beqR_eq:∀ x y:List Val,Val.beqR x y=true↔x=y
  |[],[]=>by simp [Val.beqR]
  |[],_::_=>by simp [Val.beqR]
  |_::_,[]=>by simp [Val.beqR]
  |x::l,y::m=>by
    have h1:=Val.beqV_eq x y
    have h2:=Val.beqR_eq l m
    simp [Val.beqR,h1,h2]
 end
instance:DecidableEq Val:=fun x y=>decidable_of_iff _ (Val.beqV_eq x y)

def Ext(w w':World):Prop:=Below w.heap.size w w'
theorem Ext.refl(w:World):Ext w w:=Below.refl _ _
theorem Ext.trans{a b c:World}(h:Ext a b)(k:Ext b c):Ext a c:=Below.trans h (Below.mono k h.size)
theorem Ext.drew{a b:World}(h:Ext a b):Ext a b.drew:=Below.drew h
theorem Ext.drewN{a b:World}(h:Ext a b)(n:Nat):Ext a (b.drewN n):=⟨h.os,h.tape,h.output,h.size,h.block⟩
theorem Ext.alloc{a b:World}(h:Ext a b)(o:Obj):Ext a (b.alloc o):=Below.alloc h h.size o
theorem exaa(w:World){o:Obj} : Ext w (w.alloc o):=(Ext.refl w).alloc o
theorem exbb(w:World){o p:Obj} : Ext w ((w.alloc o).alloc p):=(exaa w).alloc p
theorem excc(w:World){o p q:Obj} : Ext w (((w.alloc o).alloc p).alloc q):=(exbb w).alloc q
theorem Ext.setCell{a b:World}(h:Ext a b){p:Addr}(hp:a.heap.size≤p.block)(u:Value):Ext a (b.setCell p u):=Below.setCell h hp u
theorem Ext.grown{a b c:World}{row:Option Nat}(h:Ext a b)(hg:b.grownBy c row)(hr:∀ k,row=some k→a.heap.size≤k):Ext a c:=Below.grown h hg h.size hr
theorem Ext.mono{w w':World}(h:Ext w w'){B:Nat}(hB:B≤w.heap.size):Below B w w':=Below.mono h hB
theorem Z6940d40c6(h:qP:=by
  rw [Array.getElem?_eq_none h1] at hc;cases hc):qP:=h
theorem Zbea95ee93(h:qP:=by
  unfold World.cell? at hc
  rcases Nat.lt_or_ge p.block w.heap.size with h1|h1
  · exact h1
  · exact Z6940d40c6):qP:=h
theorem Ext.cell{w w':World}(h:Ext w w'){p:Addr}{u:Value}(hc:w.cell? p=some u):w'.cell? p=some u:=by
  have hp:p.block<w.heap.size:=by
    exact Zbea95ee93
  rw [Below.cell h hp];exact hc

def Kept(S:NP)(w w':World):Prop:=w.heap.size≤w'.heap.size∧∀ b,S b→b<w.heap.size→w'.heap[b]?=w.heap[b]?
theorem Ext.kept{w w':World}(h:Ext w w')(S:NP):Kept S w w':=⟨h.size,fun b _ hb=>h.block b hb⟩
theorem Kept.refl(S:NP)(w:World):Kept S w w:=⟨Al,fun _ _ _=>rfl⟩
theorem Kept.drew(S:NP)(w:World):Kept S w w.drew:=⟨Al,fun _ _ _=>rfl⟩
theorem Kept.drewN(S:NP)(w:World)(n:Nat):Kept S w (w.drewN n):=⟨Al,fun _ _ _=>rfl⟩
theorem Kept.alloc(S:NP)(w:World)(o:Obj):Kept S w (w.alloc o):=((Ext.refl w).alloc o).kept S
theorem Kept.trans{S:NP}{a b c:World}(h:Kept S a b)(k:Kept S b c):Kept S a c :=
  ⟨Nat.le_trans h.1 k.1,fun i hi hl=>(k.2 i hi (Nat.lt_of_lt_of_le hl h.1)).trans (h.2 i hi hl)⟩
theorem Kept.mono{S T:NP}{a b:World}(h:Kept S a b)(k:∀ i,i<a.heap.size→T i→S i):Kept T a b:=⟨h.1,fun i hi hl=>h.2 i (k i hl hi) hl⟩
theorem Kept.of_grown{w w':World}{row:Option Nat}{S:NP}(h:w.grownBy w' row)(hS:∀ b,S b→b<w.heap.size→some b≠row):Kept S w w' :=
  ⟨h.size,fun b hb hl=>h.block b hl (hS b hb hl)⟩
theorem Y78171d3d0(h:qP:=by simp [World.setCell]):qP:=h
theorem Kept.of_set{w:World}{p:Addr}{u:Value}{S:NP}(hS:¬S p.block):Kept S w (w.setCell p u) :=
  ⟨Y78171d3d0,fun b hb _=>Below.heap_setCell w p u b (fun e=>hS (e ▸ hb))⟩
theorem Kept.set2{w w':World}{g i:Nat}{u:Value}{S:NP}(h:Kept S w w')(hS:¬S g):Kept S w (w'.setCell ⟨g,i,none⟩ u):=h.trans (Kept.of_set hS)
theorem Ext.set2{a b:World}(h:Ext a b){g i:Nat}(hp:a.heap.size≤g)(u:Value):Ext a (b.setCell ⟨g,i,none⟩ u):=h.setCell hp u

def Rd(w:World)(S:NP)(A:OA)(xs:List Value):Prop :=
  xs=[]∨∃ b o,A=some ⟨b,o,none⟩∧S b∧b<w.heap.size∧∀ j u,xs[j]?=some u→w.cell? ⟨b,o+j,none⟩=some u
section
variable {w w':World}{S T:NP}{A:OA}{xs:List Value}
theorem Rd.nil:Rd w S A []:=Or.inl rfl
theorem Rd.keep(h:Rd w S A xs)(k:Kept S w w'):Rd w' S A xs:=by
  rcases h with h|⟨b,o,h1,h2,h3,h4⟩
  · exact Or.inl h
  · exact Or.inr ⟨b,o,h1,h2,Nat.lt_of_lt_of_le h3 k.1,fun j u hj=>(World.cell?_of_block (w:=w) (k.2 b h2 h3)).trans (h4 j u hj)⟩
theorem Rd.mono(h:Rd w S A xs)(k:∀ i,i<w.heap.size→S i→T i):Rd w T A xs:=by
  rcases h with h|⟨b,o,h1,h2,h3,h4⟩
  · exact Or.inl h
  · exact Or.inr ⟨b,o,h1,k b h3 h2,h3,h4⟩
theorem Rd.at_(h:Rd w S A xs){k:Nat}{u:Value}(hk:xs[k]?=some u):∃ b o,A=some ⟨b,o,none⟩∧b<w.heap.size∧w.cell? ⟨b,o+k,none⟩=some u:=by
  rcases h with h|⟨b,o,h1,_,h3,h4⟩
  · subst h;simp at hk
  · exact ⟨b,o,h1,h3,h4 k u hk⟩
theorem Rd.some_(h:Rd w S A xs)(hk:xs≠[]):∃ b o,A=some ⟨b,o,none⟩∧S b∧b<w.heap.size∧∀ j u,xs[j]?=some u→w.cell? ⟨b,o+j,none⟩=some u:=by
  rcases h with h|h
  · exact absurd h hk
  · exact h
theorem Z86a2bf972(h:qP:=by
  rw [Array.getElem?_eq_none h1] at hh;cases hh):qP:=h
theorem Z9472c5183(h:qP:=by
  rcases Nat.lt_or_ge g w.heap.size with h1|h1
  · exact h1
  · exact Z86a2bf972):qP:=h
theorem Rd.of_own{base e sz n c:Nat}(h:w.ownsRow base e sz (.slice A n c) n xs):Rd w (fun b=>base≤b) A xs:=by
  rcases h.2 with ⟨hv,hn⟩|⟨g,cap,cur,hv,hb,hh,hnc,hcm,hcs,ht⟩
  · left
    have:=h.1
    rw [hn] at this
    exact List.eq_nil_of_length_eq_zero (by simpa using this)
  · right
    have hA:A=some ⟨g,0,none⟩:=by injection hv
    have hlt:g<w.heap.size:=by
      exact Z9472c5183
    refine ⟨g,0,hA,hb,hlt,fun j u hj => ?_⟩
    have:=h.cells (g:=g) (by rw [hA];rfl) j u hj
    simpa [Addr.add_lit] using this
theorem Rd.take(h:Rd w S A xs)(k:Nat):Rd w S A (xs.take k):=by
  rcases h with h|⟨b,o,h1,h2,h3,h4⟩
  · subst h;simp [Rd]
  · refine Or.inr ⟨b,o,h1,h2,h3,fun j u hj=>h4 j u ?_⟩
    rw [List.getElem?_take] at hj
    split at hj
    · exact hj
    · cases hj
end

def Strs(w:World)(S:NP)(A:OA)(l:List BA):Prop :=
  Rd w S A (l.map Value.string)∧l.length≤4294967296∧∀ s∈l,s.size≤4294967296
def Ints(w:World)(S:NP)(A:OA)(l:List Int):Prop :=
  Rd w S A (l.map (Value.int .i64))∧l.length≤4294967296
def En(x:Val)(A:OA)(c:Nat)(B:OA)(e:Nat):List Value :=
  [.I x.kind,.string x.s,.I x.dn,.I x.ds,.I x.n,.slice A x.cols.length c,.slice B x.rows.length e]
def RVs(R:Val→List Value→Prop)(w:World)(S:NP)(A:OA)(l:List Val):Prop :=
  l.length≤4294967296∧∃ xs:List Value,Rd w S A xs∧xs.length=l.length*7∧∀ (j:Nat) (y:Val),l[j]?=some y→R y ((xs.drop (j*7)).take 7)
def RRs(R:Val→List Value→Prop)(w:World)(S:NP)(A:OA)(l:List (List Val)):Prop :=
  l.length≤4294967296∧∃ hs:List Value,Rd w S A hs∧hs.length=l.length∧∀ (i:Nat) (r:List Val),l[i]?=some r→∃ (B:OA) (e:Nat),hs[i]?=some (Value.slice B r.length e)∧r.length≤e∧RVs R w S B r
def RV(w:World)(S:NP):Nat→Val→OA→OA→Prop
  |0,x,A,B=>x.s.size≤4294967296∧Strs w S A x.cols∧RRs (fun _ _=>False) w S B x.rows
  |d+1,x,A,B=>x.s.size≤4294967296∧Strs w S A x.cols∧RRs (fun y cs=>∃ A c B e,cs=En y A c B e∧(y.cols.length≤c∧y.rows.length≤e)∧RV w S d y A B) w S B x.rows
def Rows(w:World)(S:NP)(d:Nat)(B:OA)(l:List (List Val)):Prop :=
  RRs (fun y cs=>∃ A c B e,cs=En y A c B e∧(0<d∧y.cols.length≤c∧y.rows.length≤e)∧RV w S (d-1) y A B) w S B l
def Row(w:World)(S:NP)(d:Nat)(B:OA)(l:List Val):Prop :=
  RVs (fun y cs=>∃ A c B e,cs=En y A c B e∧(0<d∧y.cols.length≤c∧y.rows.length≤e)∧RV w S (d-1) y A B) w S B l

section
variable {w w':World}{S T:NP}{A B:OA}{d:Nat}{x:Val}
theorem Strs.keep{l:List BA}(h:Strs w S A l)(k:Kept S w w'):Strs w' S A l:=⟨h.1.keep k,h.2⟩
theorem Strs.mono{l:List BA}(h:Strs w S A l)(k:∀ i,i<w.heap.size→S i→T i):Strs w T A l:=⟨h.1.mono k,h.2⟩
theorem AF(h:qP:=by simp [hk]):qP:=h
theorem Strs.at_{l:List BA}(h:Strs w S A l){k:Nat}(hk:k<l.length):∃ b o,A=some ⟨b,o,none⟩∧b<w.heap.size∧w.cell? ⟨b,o+k,none⟩=some (.string l[k]) :=
  h.1.at_ AF
theorem Strs.sz{l:List BA}(h:Strs w S A l){k:Nat}(hk:k<l.length):l[k].size≤4294967296:=h.2.2 _ (List.getElem_mem hk)
theorem AC(h:qP:=by simp):qP:=h
theorem Strs.nil:Strs w S A []:=⟨Or.inl rfl,AC,AC⟩
theorem Ints.keep{l:List Int}(h:Ints w S A l)(k:Kept S w w'):Ints w' S A l:=⟨h.1.keep k,h.2⟩
theorem Ints.mono{l:List Int}(h:Ints w S A l)(k:∀ i,i<w.heap.size→S i→T i):Ints w T A l:=⟨h.1.mono k,h.2⟩
theorem Ints.at_{l:List Int}(h:Ints w S A l){k:Nat}(hk:k<l.length):∃ b o,A=some ⟨b,o,none⟩∧b<w.heap.size∧w.cell? ⟨b,o+k,none⟩=some (.I l[k]) :=
  h.1.at_ AF
theorem Ints.nil:Ints w S A []:=⟨Or.inl rfl,AC⟩
theorem RVs.imp{R R':Val→List Value→Prop}{l:List Val}(h:RVs R w S A l)(f:∀ y cs,R y cs→R' y cs):RVs R' w S A l:=by
  obtain ⟨h0,xs,h1,h2,h3⟩:=h
  exact ⟨h0,xs,h1,h2,fun j y hj=>f _ _ (h3 j y hj)⟩
theorem RRs.imp{R R':Val→List Value→Prop}{l:List (List Val)}(h:RRs R w S A l)(f:∀ y cs,R y cs→R' y cs):RRs R' w S A l:=by
  obtain ⟨h0,xs,h1,h2,h3⟩:=h
  refine ⟨h0,xs,h1,h2,fun j y hj => ?_⟩
  obtain ⟨B,e,hb,hcp,hr⟩:=h3 j y hj
  exact ⟨B,e,hb,hcp,hr.imp f⟩
theorem RVs.keep{R:Val→List Value→Prop}{l:List Val}(h:RVs R w S A l)(k:Kept S w w'):RVs R w' S A l:=by
  obtain ⟨h0,xs,h1,h2,h3⟩:=h
  exact ⟨h0,xs,h1.keep k,h2,h3⟩
theorem RVs.mono{R:Val→List Value→Prop}{l:List Val}(h:RVs R w S A l)(k:∀ i,i<w.heap.size→S i→T i):RVs R w T A l:=by
  obtain ⟨h0,xs,h1,h2,h3⟩:=h
  exact ⟨h0,xs,h1.mono k,h2,h3⟩
theorem RRs.keep{R:Val→List Value→Prop}{l:List (List Val)}(h:RRs R w S A l)(k:Kept S w w'):RRs R w' S A l:=by
  obtain ⟨h0,xs,h1,h2,h3⟩:=h
  refine ⟨h0,xs,h1.keep k,h2,fun j y hj => ?_⟩
  obtain ⟨B,e,hb,hcp,hr⟩:=h3 j y hj
  exact ⟨B,e,hb,hcp,hr.keep k⟩
theorem RRs.mono{R:Val→List Value→Prop}{l:List (List Val)}(h:RRs R w S A l)(k:∀ i,i<w.heap.size→S i→T i):RRs R w T A l:=by
  obtain ⟨h0,xs,h1,h2,h3⟩:=h
  refine ⟨h0,xs,h1.mono k,h2,fun j y hj => ?_⟩
  obtain ⟨B,e,hb,hcp,hr⟩:=h3 j y hj
  exact ⟨B,e,hb,hcp,hr.mono k⟩
theorem St(h:qP:=by
  rintro y cs ⟨A,c,B,e,rfl,hcp,hy⟩
  exact ⟨A,c,B,e,rfl,hcp,ih hy⟩):qP:=h
theorem RV.keep(h:RV w S d x A B)(k:Kept S w w'):RV w' S d x A B:=by
  induction d generalizing x A B with
  |zero=>exact ⟨h.1,h.2.1.keep k,h.2.2.keep k⟩
  |succ d ih =>
    refine ⟨h.1,h.2.1.keep k,(h.2.2.keep k).imp ?_⟩
    exact St
theorem RV.mono(h:RV w S d x A B)(k:∀ i,i<w.heap.size→S i→T i):RV w T d x A B:=by
  induction d generalizing x A B with
  |zero=>exact ⟨h.1,h.2.1.mono k,h.2.2.mono k⟩
  |succ d ih =>
    refine ⟨h.1,h.2.1.mono k,(h.2.2.mono k).imp ?_⟩
    exact St
theorem RV.size(h:RV w S d x A B):x.s.size≤4294967296:=by cases d<;>exact h.1
theorem RV.strs(h:RV w S d x A B):Strs w S A x.cols:=by cases d<;>exact h.2.1
theorem AA(h:qP:=by omega):qP:=h
theorem RV.rows_(h:RV w S d x A B):Rows w S d B x.rows:=by
  cases d with
  |zero=>exact h.2.2.imp (fun _ _ h=>h.elim)
  |succ d=>exact h.2.2.imp (fun y cs ⟨A,c,B,e,h1,hcp,h2⟩=>⟨A,c,B,e,h1,⟨AA,hcp⟩,h2⟩)
theorem RV.mk(h1:x.s.size≤4294967296)(h2:Strs w S A x.cols)(h3:Rows w S d B x.rows):RV w S d x A B:=by
  cases d with
  |zero=>exact ⟨h1,h2,h3.imp (fun y cs ⟨A,c,B,e,_,g1,_⟩=>absurd g1.1 AA)⟩
  |succ d=>exact ⟨h1,h2,h3.imp (fun y cs ⟨A,c,B,e,g1,g0,g2⟩=>⟨A,c,B,e,g1,g0.2,g2⟩)⟩
theorem RV.up(h:RV w S d x A B){d':Nat}(hd:d≤d'):RV w S d' x A B:=by
  induction d generalizing x A B d' with
  |zero =>
    refine RV.mk h.1 h.2.1 (h.2.2.imp (fun _ _ h=>h.elim))
  |succ d ih =>
    refine RV.mk h.1 h.2.1 (h.2.2.imp ?_)
    rintro y cs ⟨A,c,B,e,rfl,hcp,hy⟩
    exact ⟨A,c,B,e,rfl,⟨AA,hcp⟩,ih hy AA⟩
theorem Rows.keep{l:List (List Val)}(h:Rows w S d B l)(k:Kept S w w'):Rows w' S d B l :=
  (RRs.keep h k).imp (fun _ _ ⟨A,c,B,e,h1,h2,h3⟩=>⟨A,c,B,e,h1,h2,h3.keep k⟩)
theorem Rows.mono{l:List (List Val)}(h:Rows w S d B l)(k:∀ i,i<w.heap.size→S i→T i):Rows w T d B l :=
  (RRs.mono h k).imp (fun _ _ ⟨A,c,B,e,h1,h2,h3⟩=>⟨A,c,B,e,h1,h2,h3.mono k⟩)
theorem Row.keep{l:List Val}(h:Row w S d B l)(k:Kept S w w'):Row w' S d B l :=
  (RVs.keep h k).imp (fun _ _ ⟨A,c,B,e,h1,h2,h3⟩=>⟨A,c,B,e,h1,h2,h3.keep k⟩)
theorem Row.mono{l:List Val}(h:Row w S d B l)(k:∀ i,i<w.heap.size→S i→T i):Row w T d B l :=
  (RVs.mono h k).imp (fun _ _ ⟨A,c,B,e,h1,h2,h3⟩=>⟨A,c,B,e,h1,h2,h3.mono k⟩)
theorem Rows.len{l:List (List Val)}(h:Rows w S d B l):l.length≤4294967296:=h.1
theorem Row.len{l:List Val}(h:Row w S d B l):l.length≤4294967296:=h.1
theorem Rows.at_{l:List (List Val)}(h:Rows w S d B l){k:Nat}(hk:k<l.length) :
    ∃ b o C e,B=some ⟨b,o,none⟩∧b<w.heap.size∧w.cell? ⟨b,o+k,none⟩=some (.slice C l[k].length e)∧l[k].length≤e∧Row w S d C l[k]:=by
  obtain ⟨_,hs,h1,h2,h3⟩:=h
  obtain ⟨C,e,h4,hcp,h5⟩:=h3 k l[k] (List.getElem?_eq_getElem hk)
  obtain ⟨b,o,hB,hb,hc⟩:=h1.at_ h4
  exact ⟨b,o,C,e,hB,hb,hc,hcp,h5⟩
theorem Row.at_{l:List Val}(h:Row w S d B l){k:Nat}(hk:k<l.length) :
    ∃ b o A c C e,B=some ⟨b,o,none⟩∧b<w.heap.size∧(w.cell? ⟨b,o+k*7,none⟩=some (.I l[k].kind)∧w.cell? ⟨b,o+k*7+1,none⟩=some (.string l[k].s)∧w.cell? ⟨b,o+k*7+2,none⟩=some (.I l[k].dn)∧w.cell? ⟨b,o+k*7+3,none⟩=some (.I l[k].ds)∧w.cell? ⟨b,o+k*7+4,none⟩=some (.I l[k].n)∧w.cell? ⟨b,o+k*7+5,none⟩=some (.slice A l[k].cols.length c)∧w.cell? ⟨b,o+k*7+6,none⟩=some (.slice C l[k].rows.length e))∧(0<d∧l[k].cols.length≤c∧l[k].rows.length≤e)∧RV w S (d-1) l[k] A C:=by
  obtain ⟨_,xs,h1,h2,h3⟩:=h
  obtain ⟨A,c,C,e,h4,h5,h6⟩:=h3 k l[k] (List.getElem?_eq_getElem hk)
  have hx:∀ i u,(En l[k] A c C e)[i]?=some u→xs[k*7+i]?=some u:=by
    intro i u hi
    have hlt:i<7:=by
      have:=(List.getElem?_eq_some_iff.1 hi).1
      simpa [En] using this
    rw [←h4,List.getElem?_take,if_pos hlt,List.getElem?_drop] at hi
    exact hi
  have hne:xs≠[]:=by
    intro h0
    have:=hx 0 _ rfl
    simp [h0] at this
  obtain ⟨b,o,hB,_,hb,hc⟩:=h1.some_ hne
  have hh:∀ i u,(En l[k] A c C e)[i]?=some u→w.cell? ⟨b,o+k*7+i,none⟩=some u:=fun i u hi=>by
    have:=hc _ u (hx i u hi)
    rwa [←Nat.add_assoc] at this
  exact ⟨b,o,A,c,C,e,hB,hb,⟨hh 0 _ rfl,hh 1 _ rfl,hh 2 _ rfl,hh 3 _ rfl,hh 4 _ rfl,hh 5 _ rfl,hh 6 _ rfl⟩,h5,h6⟩
end

def Ae(w:World)(b:Bool)(e:Ending)(w':World):Prop:=e=.returned (.bool b)∧Ext w w'
def QuietB(w:World)(b:Bool)(e:Ending)(w':World):Prop:=e=.returned (.bool b)∧∃ n,w'=w.drewN n
theorem QuietB.ret{w:World}{b:Bool}{e:Ending}{w':World}(h:QuietB w b e w'):Ae w b e w':=by
 obtain ⟨he,n,rfl⟩:=h;exact ⟨he,(Ext.refl w).drewN n⟩
theorem Wm{W w1:World}(hb:Ext W w1):(∀ b o,b<W.heap.size→w1.cell? ⟨b,o,none⟩=W.cell? ⟨b,o,none⟩)∧(∀ b o,b<W.heap.size→w1.frozen? ⟨b,o,none⟩=W.frozen? ⟨b,o,none⟩) :=
 ⟨fun b o h=>Below.cell (p:=⟨b,o,none⟩) hb h,fun b o h=>Below.frozen (p:=⟨b,o,none⟩) hb h⟩
theorem Bj(a b:BA):(a.toList==b.toList)=decide (a=b):=by
 rw [Bool.eq_iff_iff,beq_iff_eq,decide_eq_true_iff,ByteArray.toList_eq,ByteArray.toList_eq];constructor
 ·intro h;cases a;cases b;simp at h;rw [h]
 ·rintro rfl;rfl

theorem YC{α:Type}{x y:List α}(hl:x.length=y.length)(h:∀ j (h:j<x.length) (h':j<y.length),x[j]=y[j]):x=y :=
 List.ext_getElem hl (fun i h1 h2=>h i h1 h2)

theorem BWA(h:qP:=by
 rename_i ht;go_ret;refine ⟨?_,n+_,World.drewN_drewN _ _ _⟩;have:x≠y:=(by rintro rfl;simp at ht);simp [this]):qP:=h
theorem Z9(h:qP:=by
 subst hjk;simp only [Bool.not_eq_eq_eq_not,Bool.not_false,Bj,decide_eq_true_eq] at ht;exact ht):qP:=h
theorem BtA(h:qP:=by
 refine ⟨k+1,by omega,by go_num,⟨_,rfl⟩,fun j h h' hj => ?_⟩;by_cases hjk:j=k
 ·exact Z9
 ·exact HA.o j h h' (by omega)):qP:=h
theorem Z6(h:qP:=by
 rename_i ht;go_roundw
 case rel =>
  exact BtA
 case measure=>simp [intOf];omega):qP:=h
theorem Y9(h:qP:=by
 have hky:k<y.length:=(by have:=HL.o;omega);obtain ⟨b1,o1,rfl,z1,c1⟩:=hx.at_ hlt;obtain ⟨b2,o2,rfl,z2,c2⟩:=hy.at_ hky;go_wp2
 go_quiet (fail)
 go_wp2
 ·exact BWA
 ·exact Z6):qP:=h
theorem RJ(h:qP:=by
 have:x=y:=YC HL.o (fun j h h'=>HA.o j h h' (by omega));simp [this]):qP:=h
theorem Zu(h:qP:=by
 go_wp2;go_ret;refine ⟨?_,n,rfl⟩;exact RJ):qP:=h
theorem QX(h:qP:=by
 obtain ⟨k,hk,rfl,⟨n,rfl⟩,hall⟩:=hrel;have HA:=Hd hall;clear hall;by_cases hlt:k<x.length
 ·exact Y9
 ·exact Zu):qP:=h
theorem Ox(h:qP:=by
 go_wp2;go_ret;refine ⟨?_,0,rfl⟩;have:=H2.o;simp [this]):qP:=h
theorem DX(h:qP:=by simp [hl]):qP:=h
theorem AK(h:qP:=by intros;omega):qP:=h
theorem C9(h:qP:=by rw [bne_iff_ne];omega):qP:=h
theorem C7(h:qP:=by rw [e]):qP:=h
theorem Jq(A B:OA)(c d:Nat)(x y:List BA)(w:World)(S T:NP)(hx:Strs w S A x)(hy:Strs w T B y) :
  Cl 49 #[.slice A x.length c,.slice B y.length d] w (QuietB w (decide (x=y))):=by
 have hn:=hx.2.1;have hm:=hy.2.1;by_cases hl:x.length=y.length
 ·have h1:((x.length:Int) != (y.length:Int))=false:=DX;have HL:=Hd hl;clear hl
  go_enter func49,ntmps49
  go_wp2
  go_loopw [5] (fun i wr=>∃ k:Nat,k≤x.length∧i=.I k∧(∃ n,wr=w.drewN n)∧∀ j (h:j<x.length) (h':j<y.length),j<k→x[j]=y[j]) (fun i _=>x.length-(intOf i).toNat)
  case atStart=>exact ⟨0,AN,rfl,⟨0,rfl⟩,AK⟩
  case round =>
   exact QX
 ·have h1:((x.length:Int) != (y.length:Int))=true:=C9;have h2:x≠y:=fun e=>hl C7;have H2:=Hd h2;clear h2 hl
  go_enter func49,ntmps49
  exact Ox

theorem Val.eq_of{x y:Val}(h:x.kind=y.kind∧x.s.toList=y.s.toList∧x.dn=y.dn∧x.ds=y.ds∧x.n=y.n)(hc:x.cols=y.cols)(hr:x.rows=y.rows):x=y:=by
 obtain ⟨h1,h2,h3,h4,h5⟩:=h;have h2':x.s=y.s:=by
  have:=Bj x.s y.s;rw [h2,beq_self_eq_true] at this;exact of_decide_eq_true this.symm
 cases x;cases y;simp_all

def REq(d:Nat):Prop:=∀ (x y:Val) (A B A' B':OA) (c e c' e':Nat) (w:World) (S T:NP),RV w S d x A B→RV w T d y A' B' →
 Cl 16 #[(Vq x A c B e),(Vq y A' c' B' e')] w (Ae w (decide (x=y)))

theorem Zk(h:qP:=by
 refine ⟨k+1,by omega,by go_num,HX.o,fun j h h' hj => ?_⟩;by_cases hjk:j=k
 ·subst hjk;exact HV.o
 ·exact HA.o j h h' (by omega)):qP:=h
theorem UG(h:qP:=by
 have HV:=Hd he;clear he hx1;go_wp2;go_roundw
 case rel =>
  exact Zk
 case measure=>simp [intOf];omega):qP:=h
theorem T6(h:qP:=by
 rw [decide_eq_true he];have HX:=Hd (HE.o.drew.trans hx1);exact UG):qP:=h
theorem Ul(h:qP:=by
 have HV:=Hd he;clear he hx1;go_wp2;go_ret;refine ⟨?_,HX.o⟩;have:x≠y:=(by rintro rfl;exact HV.o rfl);simp [this]):qP:=h
theorem Uk(h:qP:=by
 rw [decide_eq_false he];have HX:=Hd (HE.o.drew.trans hx1);exact Ul):qP:=h
theorem I7(h:qP:=by
 have HE:=Hd hext;clear hext;go_wp2;go_ret;refine ⟨?_,HE.o⟩;exact RJ):qP:=h
theorem IB(h:qP:=by
 go_wp2;go_ret;refine ⟨?_,Ext.refl _⟩;have:=H2.o;simp [this]):qP:=h
theorem GT(h:qP:=by have:=HL.o;omega):qP:=h
theorem AD(h:qP:=by kernel_rfl):qP:=h
theorem DtA(q:Nat)(ih:0<q→REq (q-1))(A B:OA)(c d:Nat)(x y:List Val)(w:World)(S T:NP)(hx:Row w S q A x)(hy:Row w T q B y) :
  Cl 123 #[.slice A x.length c,.slice B y.length d] w (Ae w (decide (x=y))):=by
 have hn:=hx.len;have hm:=hy.len;by_cases hl:x.length=y.length
 ·have h1:((x.length:Int) != (y.length:Int))=false:=DX;have HL:=Hd hl;clear hl
  go_enter func123,ntmps123
  go_wp2
  go_loopw [5,6] (fun i _ wr=>∃ k:Nat,k≤x.length∧i=.I k∧Ext w wr∧∀ j (h:j<x.length) (h':j<y.length),j<k→x[j]=y[j]) (fun i _ _=>x.length-(intOf i).toNat)
  case atStart=>exact ⟨0,AN,rfl,Ext.refl _,AK⟩
  case round =>
   obtain ⟨k,hk,rfl,hext,hall⟩:=hrel;have HA:=Hd hall;clear hall;by_cases hlt:k<x.length
   ·have hky:k<y.length:=GT;obtain ⟨b1,o1,A1,c1,B1,e1,rfl,z1,⟨p0,p1,p2,p3,p4,p5,p6⟩,⟨hq,_,_⟩,hv1⟩:=(hx.keep (hext.kept S)).at_ hlt;obtain ⟨b2,o2,A2,c2,B2,e2,rfl,z2,⟨q0,q1,q2,q3,q4,q5,q6⟩,_,hv2⟩:=(hy.keep (hext.kept T)).at_ hky;have HE:=Hd hext;clear hext;go_wp2
    go_still_tail 8,AD
    go_wp2_with fail
    refine (ih hq _ _ _ _ _ _ _ _ _ _ _ _ _ (hv1.keep (Kept.drew _ _)) (hv2.keep (Kept.drew _ _))).mono ?_;rintro e w' ⟨rfl,hx1⟩;by_cases he:x[k]=y[k]
    ·exact T6
    ·exact Uk
   ·exact I7
 ·have h1:((x.length:Int) != (y.length:Int))=true:=C9;have h2:x≠y:=fun e=>hl C7;have H2:=Hd h2;clear h2 hl
  go_enter func123,ntmps123
  exact IB

theorem XE(q:Nat)(ih:0<q→REq (q-1))(A B:OA)(c d:Nat)(x y:List (List Val))(w:World)(S T:NP)(hx:Rows w S q A x)(hy:Rows w T q B y) :
  Cl 50 #[.slice A x.length c,.slice B y.length d] w (Ae w (decide (x=y))):=by
 have hn:=hx.len;have hm:=hy.len;by_cases hl:x.length=y.length
 ·have h1:((x.length:Int) != (y.length:Int))=false:=DX;have HL:=Hd hl;clear hl
  go_enter func50,ntmps50
  go_wp2
  go_loopw [5,6] (fun i _ wr=>∃ k:Nat,k≤x.length∧i=.I k∧Ext w wr∧∀ j (h:j<x.length) (h':j<y.length),j<k→x[j]=y[j]) (fun i _ _=>x.length-(intOf i).toNat)
  case atStart=>exact ⟨0,AN,rfl,Ext.refl _,AK⟩
  case round =>
   obtain ⟨k,hk,rfl,hext,hall⟩:=hrel;have HA:=Hd hall;clear hall;by_cases hlt:k<x.length
   ·have hky:k<y.length:=GT;obtain ⟨b1,o1,A1,c1,rfl,z1,p0,_,hv1⟩:=(hx.keep (hext.kept S)).at_ hlt;obtain ⟨b2,o2,A2,c2,rfl,z2,q0,_,hv2⟩:=(hy.keep (hext.kept T)).at_ hky;have HE:=Hd hext;clear hext;go_wp2
    go_still_tail 8,AD
    go_wp2_with fail
    refine (DtA q ih _ _ _ _ _ _ _ _ _ (hv1.keep (Kept.drew _ _)) (hv2.keep (Kept.drew _ _))).mono ?_;rintro e w' ⟨rfl,hx1⟩;by_cases he:x[k]=y[k]
    ·exact T6
    ·exact Uk
   ·exact I7
 ·have h1:((x.length:Int) != (y.length:Int))=true:=C9;have h2:x≠y:=fun e=>hl C7;have H2:=Hd h2;clear h2 hl
  go_enter func50,ntmps50
  exact IB

theorem BiA(h:qP:=by
 rw [decide_eq_true hr];have HR:=Hd hr;clear hr hx2;go_wp2;go_ret;exact ⟨by rw [decide_eq_true (Val.eq_of HF.o HC.o HR.o)];rfl,HW.o⟩):qP:=h
theorem Zm(h:qP:=by
 rw [decide_eq_false hr];have HR:=Hd hr;clear hr hx2;go_wp2;go_ret;exact ⟨by rw [decide_eq_false (fun e=>HR.o (by rw [e]))];rfl,HW.o⟩):qP:=h
theorem Q9(h:qP:=by
 rintro e w2 ⟨rfl,hx2⟩;have HW:=Hd (Ext.trans ((exbb w).drewN _) hx2);by_cases hr:x.rows=y.rows
 ·exact BiA
 ·exact Zm):qP:=h
theorem TL(h:qP:=by
 go_wp2;go_ret;exact ⟨by rw [decide_eq_false (fun e=>HC.o (by rw [e]))];rfl,(exbb _).drewN _⟩):qP:=h
theorem Jz(q:Nat)(ih:0<q→REq (q-1)):REq q:=by
 intro x y A B A' B' c e c' e' w S T hx hy;have IH:=Hd ih;clear ih;have HX:=Hd hx;have HY:=Hd hy;clear hx hy
 go_enter func16,ntmps16
 go_wp2_with fail
 case isTrue =>
  refine (Jq _ _ _ _ _ _ _ S T (HX.o.strs.keep ((exbb _).kept _)) (HY.o.strs.keep ((exbb _).kept _))).mono ?_;rintro e w1 ⟨rfl,n,rfl⟩;have HF:=Hd (show x.kind=y.kind∧x.s.toList=y.s.toList∧x.dn=y.dn∧x.ds=y.ds∧x.n=y.n from ⟨‹_›,‹_›,‹_›,‹_›,‹_›⟩);by_cases hc:x.cols=y.cols
  ·rw [decide_eq_true hc];have HC:=Hd hc;clear hc
   go_wp2_with fail
   refine (XE q IH.o _ _ _ _ _ _ _ S T (HX.o.rows_.keep (((exbb _).drewN _).kept _)) (HY.o.rows_.keep (((exbb _).drewN _).kept _))).mono ?_;exact Q9
  ·rw [decide_eq_false hc];have HC:=Hd hc;clear hc;exact TL
 all_goals
  have hne:x≠y:=(by rintro rfl;simp_all);go_ret;exact ⟨by simp [hne],(exaa _).alloc _⟩

theorem Dn(q:Nat):REq q:=by
 induction q with
 |zero=>exact Jz 0 (fun h=>absurd h AA)
 |succ q ih=>exact Jz (q+1) (fun _=>ih)

theorem M9(A B:OA)(c d:Nat)(x y:List BA)(w:World)(S T:NP)(hx:Strs w S A x)(hy:Strs w T B y) :
  Cl 231 #[.slice A x.length c,.slice B y.length d] w (QuietB w (decide (x=y))):=by
 have hn:=hx.2.1;have hm:=hy.2.1;by_cases hl:x.length=y.length
 ·have h1:((x.length:Int) != (y.length:Int))=false:=DX;have HL:=Hd hl;clear hl
  go_enter func231,ntmps231
  go_wp2
  go_loopw [13] (fun i wr=>∃ k:Nat,k≤x.length∧i=.I k∧(∃ n,wr=w.drewN n)∧∀ j (h:j<x.length) (h':j<y.length),j<k→x[j]=y[j]) (fun i _=>x.length-(intOf i).toNat)
  case atStart=>exact ⟨0,AN,rfl,⟨0,rfl⟩,AK⟩
  case round =>
   exact QX
 ·have h1:((x.length:Int) != (y.length:Int))=true:=C9;have h2:x≠y:=fun e=>hl C7;have H2:=Hd h2;clear h2 hl
  go_enter func231,ntmps231
  exact Ox

def PEq(d:Nat):Prop:=∀ (x y:Val) (A B A' B':OA) (c e c' e':Nat) (w:World) (S T:NP),RV w S d x A B→RV w T d y A' B' →
 Cl 198 #[(Vq x A c B e),(Vq y A' c' B' e')] w (Ae w (decide (x=y)))

theorem AEA(h:qP:=by
 rw [decide_eq_true he];exact UG):qP:=h
theorem Zs(h:qP:=by
 rw [decide_eq_false he];exact Ul):qP:=h
theorem UX(h:qP:=by
 by_cases he:x[k]=y[k]
 ·exact AEA
 ·exact Zs):qP:=h
theorem Np(q:Nat)(ih:0<q→PEq (q-1))(A B:OA)(c d:Nat)(x y:List Val)(w:World)(S T:NP)(hx:Row w S q A x)(hy:Row w T q B y) :
  Cl 272 #[.slice A x.length c,.slice B y.length d,.func (.func 198) #[] #[]] w (Ae w (decide (x=y))):=by
 have hn:=hx.len;have hm:=hy.len;by_cases hl:x.length=y.length
 ·have h1:((x.length:Int) != (y.length:Int))=false:=DX;have HL:=Hd hl;clear hl
  go_enter func272,ntmps272
  go_wp2
  go_loopw [17] (fun i wr=>∃ k:Nat,k≤x.length∧i=.I k∧Ext w wr∧∀ j (h:j<x.length) (h':j<y.length),j<k→x[j]=y[j]) (fun i _=>x.length-(intOf i).toNat)
  case atStart=>exact ⟨0,AN,rfl,Ext.refl _,AK⟩
  case round =>
   obtain ⟨k,hk,rfl,hext,hall⟩:=hrel;have HA:=Hd hall;clear hall;by_cases hlt:k<x.length
   ·have hky:k<y.length:=GT;obtain ⟨b1,o1,A1,c1,B1,e1,rfl,z1,⟨p0,p1,p2,p3,p4,p5,p6⟩,⟨hq,_,_⟩,hv1⟩:=(hx.keep (hext.kept S)).at_ hlt;obtain ⟨b2,o2,A2,c2,B2,e2,rfl,z2,⟨q0,q1,q2,q3,q4,q5,q6⟩,_,hv2⟩:=(hy.keep (hext.kept T)).at_ hky;have HE:=Hd hext;clear hext
    go_wp2_with fail
    refine (ih hq _ _ _ _ _ _ _ _ _ _ _ S T (hv1.keep ((exbb _).kept _)) (hv2.keep ((exbb _).kept _))).mono ?_;rintro e w' ⟨rfl,hx1⟩;have HX:=Hd (HE.o.trans ((exbb wr).trans hx1));exact UX
   ·exact I7
 ·have h1:((x.length:Int) != (y.length:Int))=true:=C9;have h2:x≠y:=fun e=>hl C7;have H2:=Hd h2;clear h2 hl
  go_enter func272,ntmps272
  exact IB

theorem OH(q:Nat)(ih:0<q→PEq (q-1))(A B:OA)(c d:Nat)(x y:List Val)(w:World)(S T:NP)(hx:Row w S q A x)(hy:Row w T q B y) :
  Cl 235 #[.slice A x.length c,.slice B y.length d] w (Ae w (decide (x=y))):=by
 have HX:=Hd hx;have HY:=Hd hy;clear hx hy
 go_enter func235,ntmps235
 go_wp2_with fail
 refine (Np q ih _ _ _ _ _ _ _ S T HX.o HY.o).mono ?_;rintro e w' ⟨rfl,hx1⟩;have HX1:=Hd hx1;clear hx1;go_wp2;go_ret;exact ⟨rfl,HX1.o⟩

theorem Mj(q:Nat)(ih:0<q→PEq (q-1))(A B:OA)(c d:Nat)(x y:List (List Val))(w:World)(S T:NP)(hx:Rows w S q A x)(hy:Rows w T q B y) :
  Cl 234 #[.slice A x.length c,.slice B y.length d,.func (.func 235) #[] #[]] w (Ae w (decide (x=y))):=by
 have hn:=hx.len;have hm:=hy.len;by_cases hl:x.length=y.length
 ·have h1:((x.length:Int) != (y.length:Int))=false:=DX;have HL:=Hd hl;clear hl
  go_enter func234,ntmps234
  go_wp2
  go_loopw [17] (fun i wr=>∃ k:Nat,k≤x.length∧i=.I k∧Ext w wr∧∀ j (h:j<x.length) (h':j<y.length),j<k→x[j]=y[j]) (fun i _=>x.length-(intOf i).toNat)
  case atStart=>exact ⟨0,AN,rfl,Ext.refl _,AK⟩
  case round =>
   obtain ⟨k,hk,rfl,hext,hall⟩:=hrel;have HA:=Hd hall;clear hall;by_cases hlt:k<x.length
   ·have hky:k<y.length:=GT;obtain ⟨b1,o1,A1,c1,rfl,z1,p0,_,hv1⟩:=(hx.keep (hext.kept S)).at_ hlt;obtain ⟨b2,o2,A2,c2,rfl,z2,q0,_,hv2⟩:=(hy.keep (hext.kept T)).at_ hky;have HE:=Hd hext;clear hext
    go_wp2_with fail
    refine (OH q ih _ _ _ _ _ _ _ S T hv1 hv2).mono ?_;rintro e w' ⟨rfl,hx1⟩;have HX:=Hd (HE.o.trans hx1);exact UX
   ·exact I7
 ·have h1:((x.length:Int) != (y.length:Int))=true:=C9;have h2:x≠y:=fun e=>hl C7;have H2:=Hd h2;clear h2 hl
  go_enter func234,ntmps234
  exact IB

theorem Ht(q:Nat)(ih:0<q→PEq (q-1)):PEq q:=by
 intro x y A B A' B' c e c' e' w S T hx hy;have IH:=Hd ih;clear ih;have HX:=Hd hx;have HY:=Hd hy;clear hx hy
 go_enter func198,ntmps198
 go_wp2_with fail
 rotate_left
 ·refine (M9 _ _ _ _ _ _ _ S T (HX.o.strs.keep ((exbb _).kept _)) (HY.o.strs.keep ((exbb _).kept _))).mono ?_;rintro e w1 ⟨rfl,n,rfl⟩;have hnn:x.n=y.n:=(by simp_all);have HF:=Hd (show x.kind=y.kind∧x.s.toList=y.s.toList∧x.dn=y.dn∧x.ds=y.ds∧x.n=y.n from ⟨‹_›,‹_›,‹_›,‹_›,‹_›⟩);by_cases hc:x.cols=y.cols
  ·rw [decide_eq_true hc];have HC:=Hd hc;clear hc hnn
   go_wp2_with fail
   refine (Mj q IH.o _ _ _ _ _ _ _ S T (HX.o.rows_.keep (((exbb _).drewN _).kept _)) (HY.o.rows_.keep (((exbb _).drewN _).kept _))).mono ?_;exact Q9
  ·rw [decide_eq_false hc];have HC:=Hd hc;clear hc hnn;exact TL
 all_goals
  have hne:x≠y:=(by rintro rfl;simp_all);go_ret;exact ⟨by simp [hne],(exaa _).alloc _⟩

theorem YK(q:Nat):PEq q:=by
 induction q with
 |zero=>exact Ht 0 (fun h=>absurd h AA)
 |succ q ih=>exact Ht (q+1) (fun _=>ih)
end Go.Proofs.YtidacnalcdhckaaGreatDoor
