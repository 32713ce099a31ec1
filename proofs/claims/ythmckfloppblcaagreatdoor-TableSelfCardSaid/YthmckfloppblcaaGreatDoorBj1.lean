/- The words of memory and of data that all walks of this seat use: a value of the program (Val), slices that read as lists, with the blocks in which they lie. No conditions. -/
import Derived.Test.YthmckfloppblcaaGreatDoorProg
import Derived.Tactics
import Derived.Tactics2
import Derived.WalkKit
import Derived.LoopTactic
import Derived.RegionTactic
import Derived.Deep.QuietTactic
import Derived.BigQuiet
import Derived.Below
import Derived.Laws.OwnMore
import Derived.Deep.AppendLies
import Derived.Deep.Draws
import Derived.Deep.RegionHeld3
import Derived.StillTailTactics
import Derived.Maps.AppendAt
import Derived.OwnWalk
import Derived.Outline
import Derived.KernelRfl
import Derived.Lib.Hide
import Derived.Laws.MakeOwn
import Derived.WalkSpells
set_option maxRecDepth 100000
set_option maxHeartbeats 400000
namespace Go.Proofs.YthmckfloppblcaaGreatDoor
open Go Go.RowKit
theorem Hd {p : Prop} (h : p) : Go.RowKit.Hid p := h
end Go.Proofs.YthmckfloppblcaaGreatDoor
namespace Go.RowKit
theorem Hid.o {p : Prop} (h : Hid p) : p := h.out
end Go.RowKit
namespace Go.Proofs.YthmckfloppblcaaGreatDoor
open Go Go.RowKit

structure Val where
  kind:Int
  s:ByteArray
  dn:Int
  ds:Int
  n:Int
  cols:List ByteArray
  rows:List (List Val)

mutual
def Val.beqV:Val→Val→Bool
  | ⟨k,s,a,b,n,c,r⟩,⟨k',s',a',b',n',c',r'⟩=>decide (k=k') && decide (s=s') && decide (a=a') && decide (b=b') && decide (n=n') && decide (c=c') && Val.beqRs r r'
def Val.beqRs:List (List Val)→List (List Val)→Bool
  | [],[]=>true
  | x :: l,y :: m=>Val.beqR x y && Val.beqRs l m
  | _,_=>false
def Val.beqR:List Val→List Val→Bool
  | [],[]=>true
  | x :: l,y :: m=>Val.beqV x y && Val.beqR l m
  | _,_=>false
 end
mutual
theorem Val.beqV_eq:∀ x y:Val,Val.beqV x y=true↔x=y
  | ⟨k,s,a,b,n,c,r⟩,⟨k',s',a',b',n',c',r'⟩=>by
    have:=Val.beqRs_eq r r'
    simp [Val.beqV,this,and_assoc]
theorem Val.beqRs_eq:∀ x y:List (List Val),Val.beqRs x y=true↔x=y
  | [],[]=>by simp [Val.beqRs]
  | [],_ :: _=>by simp [Val.beqRs]
  | _ :: _,[]=>by simp [Val.beqRs]
  | x :: l,y :: m=>by
    have h1:=Val.beqR_eq x y
    have h2:=Val.beqRs_eq l m
    simp [Val.beqRs,h1,h2]
theorem Val.beqR_eq:∀ x y:List Val,Val.beqR x y=true↔x=y
  | [],[]=>by simp [Val.beqR]
  | [],_ :: _=>by simp [Val.beqR]
  | _ :: _,[]=>by simp [Val.beqR]
  | x :: l,y :: m=>by
    have h1:=Val.beqV_eq x y
    have h2:=Val.beqR_eq l m
    simp [Val.beqR,h1,h2]
 end
instance:DecidableEq Val:=fun x y=>decidable_of_iff _ (Val.beqV_eq x y)

def Ext (w w':World):Prop:=Below w.heap.size w w'
theorem Ext.refl (w:World):Ext w w:=Below.refl _ _
theorem Ext.trans {a b c:World} (h:Ext a b) (k:Ext b c):Ext a c:=Below.trans h (Below.mono k h.size)
theorem Ext.drew {a b:World} (h:Ext a b):Ext a b.drew:=Below.drew h
theorem Ext.drewN {a b:World} (h:Ext a b) (n:Nat):Ext a (b.drewN n):=⟨h.os,h.tape,h.output,h.size,h.block⟩
theorem Ext.alloc {a b:World} (h:Ext a b) (o:Obj):Ext a (b.alloc o):=Below.alloc h h.size o
theorem Ext.setCell {a b:World} (h:Ext a b) {p:Addr} (hp:a.heap.size≤p.block) (u:Value):Ext a (b.setCell p u):=Below.setCell h hp u
theorem Ext.grown {a b c:World} {row:Option Nat} (h:Ext a b) (hg:b.grownBy c row) (hr:∀ k,row=some k→a.heap.size≤k):Ext a c:=Below.grown h hg h.size hr
theorem Ext.mono {w w':World} (h:Ext w w') {B:Nat} (hB:B≤w.heap.size):Below B w w':=Below.mono h hB
theorem Ext.cell {w w':World} (h:Ext w w') {p:Addr} {u:Value} (hc:w.cell? p=some u):w'.cell? p=some u:=by
  have hp:p.block<w.heap.size:=by
    unfold World.cell? at hc
    rcases Nat.lt_or_ge p.block w.heap.size with h1 | h1
    · exact h1
    · rw [Array.getElem?_eq_none h1] at hc; cases hc
  rw [Below.cell h hp]; exact hc

def Kept (S:Nat→Prop) (w w':World):Prop:=w.heap.size≤w'.heap.size∧∀ b,S b→b<w.heap.size→w'.heap[b]?=w.heap[b]?
theorem Ext.kept {w w':World} (h:Ext w w') (S:Nat→Prop):Kept S w w':=⟨h.size,fun b _ hb=>h.block b hb⟩
theorem Kept.refl (S:Nat→Prop) (w:World):Kept S w w:=⟨Nat.le_refl _,fun _ _ _=>rfl⟩
theorem Kept.drew (S:Nat→Prop) (w:World):Kept S w w.drew:=⟨Nat.le_refl _,fun _ _ _=>rfl⟩
theorem Kept.drewN (S:Nat→Prop) (w:World) (n:Nat):Kept S w (w.drewN n):=⟨Nat.le_refl _,fun _ _ _=>rfl⟩
theorem Kept.alloc (S:Nat→Prop) (w:World) (o:Obj):Kept S w (w.alloc o):=((Ext.refl w).alloc o).kept S
theorem Kept.trans {S:Nat→Prop} {a b c:World} (h:Kept S a b) (k:Kept S b c):Kept S a c :=
  ⟨Nat.le_trans h.1 k.1,fun i hi hl=>(k.2 i hi (Nat.lt_of_lt_of_le hl h.1)).trans (h.2 i hi hl)⟩
theorem Kept.mono {S T:Nat→Prop} {a b:World} (h:Kept S a b) (k:∀ i,i<a.heap.size→T i→S i):Kept T a b:=⟨h.1,fun i hi hl=>h.2 i (k i hl hi) hl⟩
theorem Kept.of_grown {w w':World} {row:Option Nat} {S:Nat→Prop} (h:w.grownBy w' row) (hS:∀ b,S b→b<w.heap.size→some b≠row):Kept S w w' :=
  ⟨h.size,fun b hb hl=>h.block b hl (hS b hb hl)⟩
theorem Kept.of_set {w:World} {p:Addr} {u:Value} {S:Nat→Prop} (hS:¬ S p.block):Kept S w (w.setCell p u) :=
  ⟨by simp [World.setCell],fun b hb _=>Below.heap_setCell w p u b (fun e=>hS (e ▸ hb))⟩
theorem Kept.set2 {w w':World} {g i:Nat} {u:Value} {S:Nat→Prop} (h:Kept S w w') (hS:¬ S g):Kept S w (w'.setCell ⟨g,i,none⟩ u):=h.trans (Kept.of_set hS)
theorem Ext.set2 {a b:World} (h:Ext a b) {g i:Nat} (hp:a.heap.size≤g) (u:Value):Ext a (b.setCell ⟨g,i,none⟩ u):=h.setCell hp u

def Rd (w:World) (S:Nat→Prop) (A:Option Addr) (xs:List Value):Prop :=
  xs=[]∨∃ b o,A=some ⟨b,o,none⟩∧S b∧b<w.heap.size∧∀ j u,xs[j]?=some u→w.cell? ⟨b,o+j,none⟩=some u
section
variable {w w':World} {S T:Nat→Prop} {A:Option Addr} {xs:List Value}
theorem Rd.nil:Rd w S A []:=Or.inl rfl
theorem Rd.keep (h:Rd w S A xs) (k:Kept S w w'):Rd w' S A xs:=by
  rcases h with h | ⟨b,o,h1,h2,h3,h4⟩
  · exact Or.inl h
  · exact Or.inr ⟨b,o,h1,h2,Nat.lt_of_lt_of_le h3 k.1,fun j u hj=>(World.cell?_of_block (w:=w) (k.2 b h2 h3)).trans (h4 j u hj)⟩
theorem Rd.mono (h:Rd w S A xs) (k:∀ i,i<w.heap.size→S i→T i):Rd w T A xs:=by
  rcases h with h | ⟨b,o,h1,h2,h3,h4⟩
  · exact Or.inl h
  · exact Or.inr ⟨b,o,h1,k b h3 h2,h3,h4⟩
theorem Rd.at_ (h:Rd w S A xs) {k:Nat} {u:Value} (hk:xs[k]?=some u):∃ b o,A=some ⟨b,o,none⟩∧b<w.heap.size∧w.cell? ⟨b,o+k,none⟩=some u:=by
  rcases h with h | ⟨b,o,h1,_,h3,h4⟩
  · subst h; simp at hk
  · exact ⟨b,o,h1,h3,h4 k u hk⟩
theorem Rd.some_ (h:Rd w S A xs) (hk:xs≠[]):∃ b o,A=some ⟨b,o,none⟩∧S b∧b<w.heap.size∧∀ j u,xs[j]?=some u→w.cell? ⟨b,o+j,none⟩=some u:=by
  rcases h with h | h
  · exact absurd h hk
  · exact h
theorem Rd.of_own {base e sz n c:Nat} (h:w.ownsRow base e sz (.slice A n c) n xs):Rd w (fun b=>base≤b) A xs:=by
  rcases h.2 with ⟨hv,hn⟩ | ⟨g,cap,cur,hv,hb,hh,hnc,hcm,hcs,ht⟩
  · left
    have:=h.1
    rw [hn] at this
    exact List.eq_nil_of_length_eq_zero (by simpa using this)
  · right
    have hA:A=some ⟨g,0,none⟩:=by injection hv
    have hlt:g<w.heap.size:=by
      rcases Nat.lt_or_ge g w.heap.size with h1 | h1
      · exact h1
      · rw [Array.getElem?_eq_none h1] at hh; cases hh
    refine ⟨g,0,hA,hb,hlt,fun j u hj => ?_⟩
    have:=h.cells (g:=g) (by rw [hA]; rfl) j u hj
    simpa [Addr.add_lit] using this
theorem Rd.take (h:Rd w S A xs) (k:Nat):Rd w S A (xs.take k):=by
  rcases h with h | ⟨b,o,h1,h2,h3,h4⟩
  · subst h; simp [Rd]
  · refine Or.inr ⟨b,o,h1,h2,h3,fun j u hj=>h4 j u ?_⟩
    rw [List.getElem?_take] at hj
    split at hj
    · exact hj
    · cases hj
end

def Strs (w:World) (S:Nat→Prop) (A:Option Addr) (l:List ByteArray):Prop :=
  Rd w S A (l.map Value.string)∧l.length≤4294967296∧∀ s∈l,s.size≤4294967296
def Ints (w:World) (S:Nat→Prop) (A:Option Addr) (l:List Int):Prop :=
  Rd w S A (l.map (Value.int .i64))∧l.length≤4294967296
def vcells (x:Val) (A:Option Addr) (c:Nat) (B:Option Addr) (e:Nat):List Value :=
  [.int .i64 x.kind,.string x.s,.int .i64 x.dn,.int .i64 x.ds,.int .i64 x.n,.slice A x.cols.length c,.slice B x.rows.length e]
def RVs (R:Val→List Value→Prop) (w:World) (S:Nat→Prop) (A:Option Addr) (l:List Val):Prop :=
  l.length≤4294967296∧∃ xs:List Value,Rd w S A xs∧xs.length=l.length*7∧∀ (j:Nat) (y:Val),l[j]?=some y→R y ((xs.drop (j*7)).take 7)
def RRs (R:Val→List Value→Prop) (w:World) (S:Nat→Prop) (A:Option Addr) (l:List (List Val)):Prop :=
  l.length≤4294967296∧∃ hs:List Value,Rd w S A hs∧hs.length=l.length∧∀ (i:Nat) (r:List Val),l[i]?=some r→∃ (B:Option Addr) (e:Nat),hs[i]?=some (Value.slice B r.length e)∧r.length≤e∧RVs R w S B r
def RV (w:World) (S:Nat→Prop):Nat→Val→Option Addr→Option Addr→Prop
  | 0,x,A,B=>x.s.size≤4294967296∧Strs w S A x.cols∧RRs (fun _ _=>False) w S B x.rows
  | d+1,x,A,B=>x.s.size≤4294967296∧Strs w S A x.cols∧RRs (fun y cs=>∃ A c B e,cs=vcells y A c B e∧(y.cols.length≤c∧y.rows.length≤e)∧RV w S d y A B) w S B x.rows
def Rows (w:World) (S:Nat→Prop) (d:Nat) (B:Option Addr) (l:List (List Val)):Prop :=
  RRs (fun y cs=>∃ A c B e,cs=vcells y A c B e∧(0<d∧y.cols.length≤c∧y.rows.length≤e)∧RV w S (d-1) y A B) w S B l
def Row (w:World) (S:Nat→Prop) (d:Nat) (B:Option Addr) (l:List Val):Prop :=
  RVs (fun y cs=>∃ A c B e,cs=vcells y A c B e∧(0<d∧y.cols.length≤c∧y.rows.length≤e)∧RV w S (d-1) y A B) w S B l

section
variable {w w':World} {S T:Nat→Prop} {A B:Option Addr} {d:Nat} {x:Val}
theorem Strs.keep {l:List ByteArray} (h:Strs w S A l) (k:Kept S w w'):Strs w' S A l:=⟨h.1.keep k,h.2⟩
theorem Strs.mono {l:List ByteArray} (h:Strs w S A l) (k:∀ i,i<w.heap.size→S i→T i):Strs w T A l:=⟨h.1.mono k,h.2⟩
theorem Strs.at_ {l:List ByteArray} (h:Strs w S A l) {k:Nat} (hk:k<l.length):∃ b o,A=some ⟨b,o,none⟩∧b<w.heap.size∧w.cell? ⟨b,o+k,none⟩=some (.string l[k]) :=
  h.1.at_ (by simp [hk])
theorem Strs.sz {l:List ByteArray} (h:Strs w S A l) {k:Nat} (hk:k<l.length):l[k].size≤4294967296:=h.2.2 _ (List.getElem_mem hk)
theorem Strs.nil:Strs w S A []:=⟨Or.inl rfl,by simp,by simp⟩
theorem Ints.keep {l:List Int} (h:Ints w S A l) (k:Kept S w w'):Ints w' S A l:=⟨h.1.keep k,h.2⟩
theorem Ints.mono {l:List Int} (h:Ints w S A l) (k:∀ i,i<w.heap.size→S i→T i):Ints w T A l:=⟨h.1.mono k,h.2⟩
theorem Ints.at_ {l:List Int} (h:Ints w S A l) {k:Nat} (hk:k<l.length):∃ b o,A=some ⟨b,o,none⟩∧b<w.heap.size∧w.cell? ⟨b,o+k,none⟩=some (.int .i64 l[k]) :=
  h.1.at_ (by simp [hk])
theorem Ints.nil:Ints w S A []:=⟨Or.inl rfl,by simp⟩
theorem RVs.imp {R R':Val→List Value→Prop} {l:List Val} (h:RVs R w S A l) (f:∀ y cs,R y cs→R' y cs):RVs R' w S A l:=by
  obtain ⟨h0,xs,h1,h2,h3⟩:=h
  exact ⟨h0,xs,h1,h2,fun j y hj=>f _ _ (h3 j y hj)⟩
theorem RRs.imp {R R':Val→List Value→Prop} {l:List (List Val)} (h:RRs R w S A l) (f:∀ y cs,R y cs→R' y cs):RRs R' w S A l:=by
  obtain ⟨h0,xs,h1,h2,h3⟩:=h
  refine ⟨h0,xs,h1,h2,fun j y hj => ?_⟩
  obtain ⟨B,e,hb,hcp,hr⟩:=h3 j y hj
  exact ⟨B,e,hb,hcp,hr.imp f⟩
theorem RVs.keep {R:Val→List Value→Prop} {l:List Val} (h:RVs R w S A l) (k:Kept S w w'):RVs R w' S A l:=by
  obtain ⟨h0,xs,h1,h2,h3⟩:=h
  exact ⟨h0,xs,h1.keep k,h2,h3⟩
theorem RVs.mono {R:Val→List Value→Prop} {l:List Val} (h:RVs R w S A l) (k:∀ i,i<w.heap.size→S i→T i):RVs R w T A l:=by
  obtain ⟨h0,xs,h1,h2,h3⟩:=h
  exact ⟨h0,xs,h1.mono k,h2,h3⟩
theorem RRs.keep {R:Val→List Value→Prop} {l:List (List Val)} (h:RRs R w S A l) (k:Kept S w w'):RRs R w' S A l:=by
  obtain ⟨h0,xs,h1,h2,h3⟩:=h
  refine ⟨h0,xs,h1.keep k,h2,fun j y hj => ?_⟩
  obtain ⟨B,e,hb,hcp,hr⟩:=h3 j y hj
  exact ⟨B,e,hb,hcp,hr.keep k⟩
theorem RRs.mono {R:Val→List Value→Prop} {l:List (List Val)} (h:RRs R w S A l) (k:∀ i,i<w.heap.size→S i→T i):RRs R w T A l:=by
  obtain ⟨h0,xs,h1,h2,h3⟩:=h
  refine ⟨h0,xs,h1.mono k,h2,fun j y hj => ?_⟩
  obtain ⟨B,e,hb,hcp,hr⟩:=h3 j y hj
  exact ⟨B,e,hb,hcp,hr.mono k⟩
theorem RV.keep (h:RV w S d x A B) (k:Kept S w w'):RV w' S d x A B:=by
  induction d generalizing x A B with
  | zero=>exact ⟨h.1,h.2.1.keep k,h.2.2.keep k⟩
  | succ d ih =>
    refine ⟨h.1,h.2.1.keep k,(h.2.2.keep k).imp ?_⟩
    rintro y cs ⟨A,c,B,e,rfl,hcp,hy⟩
    exact ⟨A,c,B,e,rfl,hcp,ih hy⟩
theorem RV.mono (h:RV w S d x A B) (k:∀ i,i<w.heap.size→S i→T i):RV w T d x A B:=by
  induction d generalizing x A B with
  | zero=>exact ⟨h.1,h.2.1.mono k,h.2.2.mono k⟩
  | succ d ih =>
    refine ⟨h.1,h.2.1.mono k,(h.2.2.mono k).imp ?_⟩
    rintro y cs ⟨A,c,B,e,rfl,hcp,hy⟩
    exact ⟨A,c,B,e,rfl,hcp,ih hy⟩
theorem RV.size (h:RV w S d x A B):x.s.size≤4294967296:=by cases d <;> exact h.1
theorem RV.strs (h:RV w S d x A B):Strs w S A x.cols:=by cases d <;> exact h.2.1
theorem RV.rows_ (h:RV w S d x A B):Rows w S d B x.rows:=by
  cases d with
  | zero=>exact h.2.2.imp (fun _ _ h=>h.elim)
  | succ d=>exact h.2.2.imp (fun y cs ⟨A,c,B,e,h1,hcp,h2⟩=>⟨A,c,B,e,h1,⟨by omega,hcp⟩,h2⟩)
theorem RV.mk (h1:x.s.size≤4294967296) (h2:Strs w S A x.cols) (h3:Rows w S d B x.rows):RV w S d x A B:=by
  cases d with
  | zero=>exact ⟨h1,h2,h3.imp (fun y cs ⟨A,c,B,e,_,g1,_⟩=>absurd g1.1 (by omega))⟩
  | succ d=>exact ⟨h1,h2,h3.imp (fun y cs ⟨A,c,B,e,g1,g0,g2⟩=>⟨A,c,B,e,g1,g0.2,g2⟩)⟩
theorem RV.up (h:RV w S d x A B) {d':Nat} (hd:d≤d'):RV w S d' x A B:=by
  induction d generalizing x A B d' with
  | zero =>
    refine RV.mk h.1 h.2.1 (h.2.2.imp (fun _ _ h=>h.elim))
  | succ d ih =>
    refine RV.mk h.1 h.2.1 (h.2.2.imp ?_)
    rintro y cs ⟨A,c,B,e,rfl,hcp,hy⟩
    exact ⟨A,c,B,e,rfl,⟨by omega,hcp⟩,ih hy (by omega)⟩
theorem Rows.keep {l:List (List Val)} (h:Rows w S d B l) (k:Kept S w w'):Rows w' S d B l :=
  (RRs.keep h k).imp (fun _ _ ⟨A,c,B,e,h1,h2,h3⟩=>⟨A,c,B,e,h1,h2,h3.keep k⟩)
theorem Rows.mono {l:List (List Val)} (h:Rows w S d B l) (k:∀ i,i<w.heap.size→S i→T i):Rows w T d B l :=
  (RRs.mono h k).imp (fun _ _ ⟨A,c,B,e,h1,h2,h3⟩=>⟨A,c,B,e,h1,h2,h3.mono k⟩)
theorem Row.keep {l:List Val} (h:Row w S d B l) (k:Kept S w w'):Row w' S d B l :=
  (RVs.keep h k).imp (fun _ _ ⟨A,c,B,e,h1,h2,h3⟩=>⟨A,c,B,e,h1,h2,h3.keep k⟩)
theorem Row.mono {l:List Val} (h:Row w S d B l) (k:∀ i,i<w.heap.size→S i→T i):Row w T d B l :=
  (RVs.mono h k).imp (fun _ _ ⟨A,c,B,e,h1,h2,h3⟩=>⟨A,c,B,e,h1,h2,h3.mono k⟩)
theorem Rows.len {l:List (List Val)} (h:Rows w S d B l):l.length≤4294967296:=h.1
theorem Row.len {l:List Val} (h:Row w S d B l):l.length≤4294967296:=h.1
theorem Rows.at_ {l:List (List Val)} (h:Rows w S d B l) {k:Nat} (hk:k<l.length) :
    ∃ b o C e,B=some ⟨b,o,none⟩∧b<w.heap.size∧w.cell? ⟨b,o+k,none⟩=some (.slice C l[k].length e)∧l[k].length≤e∧Row w S d C l[k]:=by
  obtain ⟨_,hs,h1,h2,h3⟩:=h
  obtain ⟨C,e,h4,hcp,h5⟩:=h3 k l[k] (List.getElem?_eq_getElem hk)
  obtain ⟨b,o,hB,hb,hc⟩:=h1.at_ h4
  exact ⟨b,o,C,e,hB,hb,hc,hcp,h5⟩
theorem Row.at_ {l:List Val} (h:Row w S d B l) {k:Nat} (hk:k<l.length) :
    ∃ b o A c C e,B=some ⟨b,o,none⟩∧b<w.heap.size∧(w.cell? ⟨b,o+k*7,none⟩=some (.int .i64 l[k].kind)∧w.cell? ⟨b,o+k*7+1,none⟩=some (.string l[k].s)∧w.cell? ⟨b,o+k*7+2,none⟩=some (.int .i64 l[k].dn)∧w.cell? ⟨b,o+k*7+3,none⟩=some (.int .i64 l[k].ds)∧w.cell? ⟨b,o+k*7+4,none⟩=some (.int .i64 l[k].n)∧w.cell? ⟨b,o+k*7+5,none⟩=some (.slice A l[k].cols.length c)∧w.cell? ⟨b,o+k*7+6,none⟩=some (.slice C l[k].rows.length e))∧(0<d∧l[k].cols.length≤c∧l[k].rows.length≤e)∧RV w S (d-1) l[k] A C:=by
  obtain ⟨_,xs,h1,h2,h3⟩:=h
  obtain ⟨A,c,C,e,h4,h5,h6⟩:=h3 k l[k] (List.getElem?_eq_getElem hk)
  have hx:∀ i u,(vcells l[k] A c C e)[i]?=some u→xs[k*7+i]?=some u:=by
    intro i u hi
    have hlt:i<7:=by
      have:=(List.getElem?_eq_some_iff.1 hi).1
      simpa [vcells] using this
    rw [← h4,List.getElem?_take,if_pos hlt,List.getElem?_drop] at hi
    exact hi
  have hne:xs≠[]:=by
    intro h0
    have:=hx 0 _ rfl
    simp [h0] at this
  obtain ⟨b,o,hB,_,hb,hc⟩:=h1.some_ hne
  have hh:∀ i u,(vcells l[k] A c C e)[i]?=some u→w.cell? ⟨b,o+k*7+i,none⟩=some u:=fun i u hi=>by
    have:=hc _ u (hx i u hi)
    rwa [← Nat.add_assoc] at this
  exact ⟨b,o,A,c,C,e,hB,hb,⟨hh 0 _ rfl,hh 1 _ rfl,hh 2 _ rfl,hh 3 _ rfl,hh 4 _ rfl,hh 5 _ rfl,hh 6 _ rfl⟩,h5,h6⟩
end

def RetB (w:World) (b:Bool) (e:Ending) (w':World):Prop:=e=.returned (.bool b)∧Ext w w'
def QuietB (w:World) (b:Bool) (e:Ending) (w':World):Prop:=e=.returned (.bool b)∧∃ n,w'=w.drewN n
theorem QuietB.ret {w:World} {b:Bool} {e:Ending} {w':World} (h:QuietB w b e w'):RetB w b e w':=by
 obtain ⟨he,n,rfl⟩:=h;exact ⟨he,(Ext.refl w).drewN n⟩
theorem bcell {W w1:World} (hb:Ext W w1):(∀ b o,b<W.heap.size→w1.cell? ⟨b,o,none⟩=W.cell? ⟨b,o,none⟩)∧(∀ b o,b<W.heap.size→w1.frozen? ⟨b,o,none⟩=W.frozen? ⟨b,o,none⟩) :=
 ⟨fun b o h=>Below.cell (p:=⟨b,o,none⟩) hb h,fun b o h=>Below.frozen (p:=⟨b,o,none⟩) hb h⟩
theorem bytes_beq (a b:ByteArray):(a.toList==b.toList)=decide (a=b):=by
 rw [Bool.eq_iff_iff,beq_iff_eq,decide_eq_true_iff,ByteArray.toList_eq,ByteArray.toList_eq];constructor
 ·intro h;cases a;cases b;simp at h;rw [h]
 ·rintro rfl;rfl

theorem take_all_eq {α:Type} {x y:List α} (hl:x.length=y.length) (h:∀ j (h:j<x.length) (h':j<y.length),x[j]=y[j]):x=y :=
 List.ext_getElem hl (fun i h1 h2=>h i h1 h2)

theorem r06_Strings (A B:Option Addr) (c d:Nat) (x y:List ByteArray) (w:World) (S T:Nat→Prop) (hx:Strs w S A x) (hy:Strs w T B y) :
  Calls Tryz.prog 17 #[.slice A x.length c,.slice B y.length d] w (QuietB w (decide (x=y))):=by
 have hn:=hx.2.1;have hm:=hy.2.1;by_cases hl:x.length=y.length
 ·have h1:((x.length:Int) != (y.length:Int))=false:=(by simp [hl]);have HL:=Hd hl;clear hl
  go_enter Tryz.func17,Tryz.ntmps17
  go_wp2
  go_loopw [5] (fun i wr=>∃ k:Nat,k≤x.length∧i=.int .i64 k∧(∃ n,wr=w.drewN n)∧∀ j (h:j<x.length) (h':j<y.length),j<k→x[j]=y[j]) (fun i _=>x.length-(intOf i).toNat)
  case atStart=>exact ⟨0,Nat.zero_le _,rfl,⟨0,rfl⟩,by intros; omega⟩
  case round =>
   obtain ⟨k,hk,rfl,⟨n,rfl⟩,hall⟩:=hrel;have HA:=Hd hall;clear hall;by_cases hlt:k<x.length
   ·have hky:k<y.length:=(by have:=HL.o; omega);obtain ⟨b1,o1,rfl,z1,c1⟩:=hx.at_ hlt;obtain ⟨b2,o2,rfl,z2,c2⟩:=hy.at_ hky;go_wp2
    go_quiet (fail)
    go_wp2
    ·rename_i ht;go_ret;refine ⟨?_,n+_,World.drewN_drewN _ _ _⟩;have:x≠y:=(by rintro rfl; simp at ht);simp [this]
    ·rename_i ht;go_roundw
     case rel =>
      refine ⟨k+1,by omega,by go_num,⟨_,rfl⟩,fun j h h' hj => ?_⟩;by_cases hjk:j=k
      ·subst hjk;simp only [Bool.not_eq_eq_eq_not,Bool.not_false,bytes_beq,decide_eq_true_eq] at ht;exact ht
      ·exact HA.o j h h' (by omega)
     case measure=>simp [intOf]; omega
   ·go_wp2;go_ret;refine ⟨?_,n,rfl⟩;have:x=y:=take_all_eq HL.o (fun j h h'=>HA.o j h h' (by omega));simp [this]
 ·have h1:((x.length:Int) != (y.length:Int))=true:=(by rw [bne_iff_ne]; omega);have h2:x≠y:=fun e=>hl (by rw [e]);have H2:=Hd h2;clear h2 hl
  go_enter Tryz.func17,Tryz.ntmps17
  go_wp2;go_ret;refine ⟨?_,0,rfl⟩;have:=H2.o;simp [this]

theorem Val.eq_of {x y:Val} (h:x.kind=y.kind∧x.s.toList=y.s.toList∧x.dn=y.dn∧x.ds=y.ds∧x.n=y.n) (hc:x.cols=y.cols) (hr:x.rows=y.rows):x=y:=by
 obtain ⟨h1,h2,h3,h4,h5⟩:=h;have h2':x.s=y.s:=by
  have:=bytes_beq x.s y.s;rw [h2,beq_self_eq_true] at this;exact of_decide_eq_true this.symm
 cases x;cases y;simp_all

def REq (d:Nat):Prop:=∀ (x y:Val) (A B A' B':Option Addr) (c e c' e':Nat) (w:World) (S T:Nat→Prop),RV w S d x A B→RV w T d y A' B' →
 Calls Tryz.prog 13 #[(.agg #[.int .i64 x.kind,.string x.s,.int .i64 x.dn,.int .i64 x.ds,.int .i64 x.n,.slice A x.cols.length c,.slice B x.rows.length e]),(.agg #[.int .i64 y.kind,.string y.s,.int .i64 y.dn,.int .i64 y.ds,.int .i64 y.n,.slice A' y.cols.length c',.slice B' y.rows.length e'])] w (RetB w (decide (x=y)))

theorem r06_Same (q:Nat) (ih:0<q→REq (q-1)) (A B:Option Addr) (c d:Nat) (x y:List Val) (w:World) (S T:Nat→Prop) (hx:Row w S q A x) (hy:Row w T q B y) :
  Calls Tryz.prog 69 #[.slice A x.length c,.slice B y.length d] w (RetB w (decide (x=y))):=by
 have hn:=hx.len;have hm:=hy.len;by_cases hl:x.length=y.length
 ·have h1:((x.length:Int) != (y.length:Int))=false:=(by simp [hl]);have HL:=Hd hl;clear hl
  go_enter Tryz.func69,Tryz.ntmps69
  go_wp2
  go_loopw [5,6] (fun i _ wr=>∃ k:Nat,k≤x.length∧i=.int .i64 k∧Ext w wr∧∀ j (h:j<x.length) (h':j<y.length),j<k→x[j]=y[j]) (fun i _ _=>x.length-(intOf i).toNat)
  case atStart=>exact ⟨0,Nat.zero_le _,rfl,Ext.refl _,by intros; omega⟩
  case round =>
   obtain ⟨k,hk,rfl,hext,hall⟩:=hrel;have HA:=Hd hall;clear hall;by_cases hlt:k<x.length
   ·have hky:k<y.length:=(by have:=HL.o; omega);obtain ⟨b1,o1,A1,c1,B1,e1,rfl,z1,⟨p0,p1,p2,p3,p4,p5,p6⟩,⟨hq,_,_⟩,hv1⟩:=(hx.keep (hext.kept S)).at_ hlt;obtain ⟨b2,o2,A2,c2,B2,e2,rfl,z2,⟨q0,q1,q2,q3,q4,q5,q6⟩,_,hv2⟩:=(hy.keep (hext.kept T)).at_ hky;have HE:=Hd hext;clear hext;go_wp2
    go_still_tail 8,(by kernel_rfl)
    go_wp2_with fail
    refine (ih hq _ _ _ _ _ _ _ _ _ _ _ _ _ (hv1.keep (Kept.drew _ _)) (hv2.keep (Kept.drew _ _))).mono ?_;rintro e w' ⟨rfl,hx1⟩;by_cases he:x[k]=y[k]
    ·rw [decide_eq_true he];have HX:=Hd (HE.o.drew.trans hx1);have HV:=Hd he;clear he hx1;go_wp2;go_roundw
     case rel =>
      refine ⟨k+1,by omega,by go_num,HX.o,fun j h h' hj => ?_⟩;by_cases hjk:j=k
      ·subst hjk; exact HV.o
      ·exact HA.o j h h' (by omega)
     case measure=>simp [intOf]; omega
    ·rw [decide_eq_false he];have HX:=Hd (HE.o.drew.trans hx1);have HV:=Hd he;clear he hx1;go_wp2;go_ret;refine ⟨?_,HX.o⟩;have:x≠y:=(by rintro rfl; exact HV.o rfl);simp [this]
   ·have HE:=Hd hext;clear hext;go_wp2;go_ret;refine ⟨?_,HE.o⟩;have:x=y:=take_all_eq HL.o (fun j h h'=>HA.o j h h' (by omega));simp [this]
 ·have h1:((x.length:Int) != (y.length:Int))=true:=(by rw [bne_iff_ne]; omega);have h2:x≠y:=fun e=>hl (by rw [e]);have H2:=Hd h2;clear h2 hl
  go_enter Tryz.func69,Tryz.ntmps69
  go_wp2;go_ret;refine ⟨?_,Ext.refl _⟩;have:=H2.o;simp [this]

theorem r06_SameRows (q:Nat) (ih:0<q→REq (q-1)) (A B:Option Addr) (c d:Nat) (x y:List (List Val)) (w:World) (S T:Nat→Prop) (hx:Rows w S q A x) (hy:Rows w T q B y) :
  Calls Tryz.prog 41 #[.slice A x.length c,.slice B y.length d] w (RetB w (decide (x=y))):=by
 have hn:=hx.len;have hm:=hy.len;by_cases hl:x.length=y.length
 ·have h1:((x.length:Int) != (y.length:Int))=false:=(by simp [hl]);have HL:=Hd hl;clear hl
  go_enter Tryz.func41,Tryz.ntmps41
  go_wp2
  go_loopw [5,6] (fun i _ wr=>∃ k:Nat,k≤x.length∧i=.int .i64 k∧Ext w wr∧∀ j (h:j<x.length) (h':j<y.length),j<k→x[j]=y[j]) (fun i _ _=>x.length-(intOf i).toNat)
  case atStart=>exact ⟨0,Nat.zero_le _,rfl,Ext.refl _,by intros; omega⟩
  case round =>
   obtain ⟨k,hk,rfl,hext,hall⟩:=hrel;have HA:=Hd hall;clear hall;by_cases hlt:k<x.length
   ·have hky:k<y.length:=(by have:=HL.o; omega);obtain ⟨b1,o1,A1,c1,rfl,z1,p0,_,hv1⟩:=(hx.keep (hext.kept S)).at_ hlt;obtain ⟨b2,o2,A2,c2,rfl,z2,q0,_,hv2⟩:=(hy.keep (hext.kept T)).at_ hky;have HE:=Hd hext;clear hext;go_wp2
    go_still_tail 8,(by kernel_rfl)
    go_wp2_with fail
    refine (r06_Same q ih _ _ _ _ _ _ _ _ _ (hv1.keep (Kept.drew _ _)) (hv2.keep (Kept.drew _ _))).mono ?_;rintro e w' ⟨rfl,hx1⟩;by_cases he:x[k]=y[k]
    ·rw [decide_eq_true he];have HX:=Hd (HE.o.drew.trans hx1);have HV:=Hd he;clear he hx1;go_wp2;go_roundw
     case rel =>
      refine ⟨k+1,by omega,by go_num,HX.o,fun j h h' hj => ?_⟩;by_cases hjk:j=k
      ·subst hjk; exact HV.o
      ·exact HA.o j h h' (by omega)
     case measure=>simp [intOf]; omega
    ·rw [decide_eq_false he];have HX:=Hd (HE.o.drew.trans hx1);have HV:=Hd he;clear he hx1;go_wp2;go_ret;refine ⟨?_,HX.o⟩;have:x≠y:=(by rintro rfl; exact HV.o rfl);simp [this]
   ·have HE:=Hd hext;clear hext;go_wp2;go_ret;refine ⟨?_,HE.o⟩;have:x=y:=take_all_eq HL.o (fun j h h'=>HA.o j h h' (by omega));simp [this]
 ·have h1:((x.length:Int) != (y.length:Int))=true:=(by rw [bne_iff_ne]; omega);have h2:x≠y:=fun e=>hl (by rw [e]);have H2:=Hd h2;clear h2 hl
  go_enter Tryz.func41,Tryz.ntmps41
  go_wp2;go_ret;refine ⟨?_,Ext.refl _⟩;have:=H2.o;simp [this]

theorem r06_Equal_step (q:Nat) (ih:0<q→REq (q-1)):REq q:=by
 intro x y A B A' B' c e c' e' w S T hx hy;have IH:=Hd ih;clear ih;have HX:=Hd hx;have HY:=Hd hy;clear hx hy
 go_enter Tryz.func13,Tryz.ntmps13
 go_wp2_with fail
 case isTrue =>
  refine (r06_Strings _ _ _ _ _ _ _ S T (HX.o.strs.keep ((((Ext.refl _).alloc _).alloc _).kept _)) (HY.o.strs.keep ((((Ext.refl _).alloc _).alloc _).kept _))).mono ?_;rintro e w1 ⟨rfl,n,rfl⟩;have HF:=Hd (show x.kind=y.kind∧x.s.toList=y.s.toList∧x.dn=y.dn∧x.ds=y.ds∧x.n=y.n from ⟨‹_›,‹_›,‹_›,‹_›,‹_›⟩);by_cases hc:x.cols=y.cols
  ·rw [decide_eq_true hc];have HC:=Hd hc;clear hc
   go_wp2_with fail
   refine (r06_SameRows q IH.o _ _ _ _ _ _ _ S T (HX.o.rows_.keep (((((Ext.refl _).alloc _).alloc _).drewN _).kept _)) (HY.o.rows_.keep (((((Ext.refl _).alloc _).alloc _).drewN _).kept _))).mono ?_;rintro e w2 ⟨rfl,hx2⟩;have HW:=Hd (Ext.trans ((((Ext.refl w).alloc _).alloc _).drewN _) hx2);by_cases hr:x.rows=y.rows
   ·rw [decide_eq_true hr];have HR:=Hd hr;clear hr hx2;go_wp2;go_ret;exact ⟨by rw [decide_eq_true (Val.eq_of HF.o HC.o HR.o)]; rfl,HW.o⟩
   ·rw [decide_eq_false hr];have HR:=Hd hr;clear hr hx2;go_wp2;go_ret;exact ⟨by rw [decide_eq_false (fun e=>HR.o (by rw [e]))]; rfl,HW.o⟩
  ·rw [decide_eq_false hc];have HC:=Hd hc;clear hc;go_wp2;go_ret;exact ⟨by rw [decide_eq_false (fun e=>HC.o (by rw [e]))]; rfl,(((Ext.refl _).alloc _).alloc _).drewN _⟩
 all_goals
  have hne:x≠y:=(by rintro rfl; simp_all);go_ret;exact ⟨by simp [hne],((Ext.refl _).alloc _).alloc _⟩

theorem r06_Equal (q:Nat):REq q:=by
 induction q with
 | zero=>exact r06_Equal_step 0 (fun h=>absurd h (by omega))
 | succ q ih=>exact r06_Equal_step (q+1) (fun _=>ih)

theorem slices_Equal (A B:Option Addr) (c d:Nat) (x y:List ByteArray) (w:World) (S T:Nat→Prop) (hx:Strs w S A x) (hy:Strs w T B y) :
  Calls Tryz.prog 105 #[.slice A x.length c,.slice B y.length d] w (QuietB w (decide (x=y))):=by
 have hn:=hx.2.1;have hm:=hy.2.1;by_cases hl:x.length=y.length
 ·have h1:((x.length:Int) != (y.length:Int))=false:=(by simp [hl]);have HL:=Hd hl;clear hl
  go_enter Tryz.func105,Tryz.ntmps105
  go_wp2
  go_loopw [13] (fun i wr=>∃ k:Nat,k≤x.length∧i=.int .i64 k∧(∃ n,wr=w.drewN n)∧∀ j (h:j<x.length) (h':j<y.length),j<k→x[j]=y[j]) (fun i _=>x.length-(intOf i).toNat)
  case atStart=>exact ⟨0,Nat.zero_le _,rfl,⟨0,rfl⟩,by intros; omega⟩
  case round =>
   obtain ⟨k,hk,rfl,⟨n,rfl⟩,hall⟩:=hrel;have HA:=Hd hall;clear hall;by_cases hlt:k<x.length
   ·have hky:k<y.length:=(by have:=HL.o; omega);obtain ⟨b1,o1,rfl,z1,c1⟩:=hx.at_ hlt;obtain ⟨b2,o2,rfl,z2,c2⟩:=hy.at_ hky;go_wp2
    go_quiet (fail)
    go_wp2
    ·rename_i ht;go_ret;refine ⟨?_,n+_,World.drewN_drewN _ _ _⟩;have:x≠y:=(by rintro rfl; simp at ht);simp [this]
    ·rename_i ht;go_roundw
     case rel =>
      refine ⟨k+1,by omega,by go_num,⟨_,rfl⟩,fun j h h' hj => ?_⟩;by_cases hjk:j=k
      ·subst hjk;simp only [Bool.not_eq_eq_eq_not,Bool.not_false,bytes_beq,decide_eq_true_eq] at ht;exact ht
      ·exact HA.o j h h' (by omega)
     case measure=>simp [intOf]; omega
   ·go_wp2;go_ret;refine ⟨?_,n,rfl⟩;have:x=y:=take_all_eq HL.o (fun j h h'=>HA.o j h h' (by omega));simp [this]
 ·have h1:((x.length:Int) != (y.length:Int))=true:=(by rw [bne_iff_ne]; omega);have h2:x≠y:=fun e=>hl (by rw [e]);have H2:=Hd h2;clear h2 hl
  go_enter Tryz.func105,Tryz.ntmps105
  go_wp2;go_ret;refine ⟨?_,0,rfl⟩;have:=H2.o;simp [this]

def PEq (d:Nat):Prop:=∀ (x y:Val) (A B A' B':Option Addr) (c e c' e':Nat) (w:World) (S T:Nat→Prop),RV w S d x A B→RV w T d y A' B' →
 Calls Tryz.prog 70 #[(.agg #[.int .i64 x.kind,.string x.s,.int .i64 x.dn,.int .i64 x.ds,.int .i64 x.n,.slice A x.cols.length c,.slice B x.rows.length e]),(.agg #[.int .i64 y.kind,.string y.s,.int .i64 y.dn,.int .i64 y.ds,.int .i64 y.n,.slice A' y.cols.length c',.slice B' y.rows.length e'])] w (RetB w (decide (x=y)))

theorem slices_EqualFunc (q:Nat) (ih:0<q→PEq (q-1)) (A B:Option Addr) (c d:Nat) (x y:List Val) (w:World) (S T:Nat→Prop) (hx:Row w S q A x) (hy:Row w T q B y) :
  Calls Tryz.prog 126 #[.slice A x.length c,.slice B y.length d,.func (.func 70) #[] #[]] w (RetB w (decide (x=y))):=by
 have hn:=hx.len;have hm:=hy.len;by_cases hl:x.length=y.length
 ·have h1:((x.length:Int) != (y.length:Int))=false:=(by simp [hl]);have HL:=Hd hl;clear hl
  go_enter Tryz.func126,Tryz.ntmps126
  go_wp2
  go_loopw [17] (fun i wr=>∃ k:Nat,k≤x.length∧i=.int .i64 k∧Ext w wr∧∀ j (h:j<x.length) (h':j<y.length),j<k→x[j]=y[j]) (fun i _=>x.length-(intOf i).toNat)
  case atStart=>exact ⟨0,Nat.zero_le _,rfl,Ext.refl _,by intros; omega⟩
  case round =>
   obtain ⟨k,hk,rfl,hext,hall⟩:=hrel;have HA:=Hd hall;clear hall;by_cases hlt:k<x.length
   ·have hky:k<y.length:=(by have:=HL.o; omega);obtain ⟨b1,o1,A1,c1,B1,e1,rfl,z1,⟨p0,p1,p2,p3,p4,p5,p6⟩,⟨hq,_,_⟩,hv1⟩:=(hx.keep (hext.kept S)).at_ hlt;obtain ⟨b2,o2,A2,c2,B2,e2,rfl,z2,⟨q0,q1,q2,q3,q4,q5,q6⟩,_,hv2⟩:=(hy.keep (hext.kept T)).at_ hky;have HE:=Hd hext;clear hext
    go_wp2_with fail
    refine (ih hq _ _ _ _ _ _ _ _ _ _ _ S T (hv1.keep ((((Ext.refl _).alloc _).alloc _).kept _)) (hv2.keep ((((Ext.refl _).alloc _).alloc _).kept _))).mono ?_;rintro e w' ⟨rfl,hx1⟩;have HX:=Hd (HE.o.trans ((((Ext.refl wr).alloc _).alloc _).trans hx1));by_cases he:x[k]=y[k]
    ·rw [decide_eq_true he];have HV:=Hd he;clear he hx1;go_wp2;go_roundw
     case rel =>
      refine ⟨k+1,by omega,by go_num,HX.o,fun j h h' hj => ?_⟩;by_cases hjk:j=k
      ·subst hjk; exact HV.o
      ·exact HA.o j h h' (by omega)
     case measure=>simp [intOf]; omega
    ·rw [decide_eq_false he];have HV:=Hd he;clear he hx1;go_wp2;go_ret;refine ⟨?_,HX.o⟩;have:x≠y:=(by rintro rfl; exact HV.o rfl);simp [this]
   ·have HE:=Hd hext;clear hext;go_wp2;go_ret;refine ⟨?_,HE.o⟩;have:x=y:=take_all_eq HL.o (fun j h h'=>HA.o j h h' (by omega));simp [this]
 ·have h1:((x.length:Int) != (y.length:Int))=true:=(by rw [bne_iff_ne]; omega);have h2:x≠y:=fun e=>hl (by rw [e]);have H2:=Hd h2;clear h2 hl
  go_enter Tryz.func126,Tryz.ntmps126
  go_wp2;go_ret;refine ⟨?_,Ext.refl _⟩;have:=H2.o;simp [this]

theorem value_equalRows (q:Nat) (ih:0<q→PEq (q-1)) (A B:Option Addr) (c d:Nat) (x y:List Val) (w:World) (S T:Nat→Prop) (hx:Row w S q A x) (hy:Row w T q B y) :
  Calls Tryz.prog 107 #[.slice A x.length c,.slice B y.length d] w (RetB w (decide (x=y))):=by
 have HX:=Hd hx;have HY:=Hd hy;clear hx hy
 go_enter Tryz.func107,Tryz.ntmps107
 go_wp2_with fail
 refine (slices_EqualFunc q ih _ _ _ _ _ _ _ S T HX.o HY.o).mono ?_;rintro e w' ⟨rfl,hx1⟩;have HX1:=Hd hx1;clear hx1;go_wp2;go_ret;exact ⟨rfl,HX1.o⟩

theorem slices_EqualFunc2 (q:Nat) (ih:0<q→PEq (q-1)) (A B:Option Addr) (c d:Nat) (x y:List (List Val)) (w:World) (S T:Nat→Prop) (hx:Rows w S q A x) (hy:Rows w T q B y) :
  Calls Tryz.prog 106 #[.slice A x.length c,.slice B y.length d,.func (.func 107) #[] #[]] w (RetB w (decide (x=y))):=by
 have hn:=hx.len;have hm:=hy.len;by_cases hl:x.length=y.length
 ·have h1:((x.length:Int) != (y.length:Int))=false:=(by simp [hl]);have HL:=Hd hl;clear hl
  go_enter Tryz.func106,Tryz.ntmps106
  go_wp2
  go_loopw [17] (fun i wr=>∃ k:Nat,k≤x.length∧i=.int .i64 k∧Ext w wr∧∀ j (h:j<x.length) (h':j<y.length),j<k→x[j]=y[j]) (fun i _=>x.length-(intOf i).toNat)
  case atStart=>exact ⟨0,Nat.zero_le _,rfl,Ext.refl _,by intros; omega⟩
  case round =>
   obtain ⟨k,hk,rfl,hext,hall⟩:=hrel;have HA:=Hd hall;clear hall;by_cases hlt:k<x.length
   ·have hky:k<y.length:=(by have:=HL.o; omega);obtain ⟨b1,o1,A1,c1,rfl,z1,p0,_,hv1⟩:=(hx.keep (hext.kept S)).at_ hlt;obtain ⟨b2,o2,A2,c2,rfl,z2,q0,_,hv2⟩:=(hy.keep (hext.kept T)).at_ hky;have HE:=Hd hext;clear hext
    go_wp2_with fail
    refine (value_equalRows q ih _ _ _ _ _ _ _ S T hv1 hv2).mono ?_;rintro e w' ⟨rfl,hx1⟩;have HX:=Hd (HE.o.trans hx1);by_cases he:x[k]=y[k]
    ·rw [decide_eq_true he];have HV:=Hd he;clear he hx1;go_wp2;go_roundw
     case rel =>
      refine ⟨k+1,by omega,by go_num,HX.o,fun j h h' hj => ?_⟩;by_cases hjk:j=k
      ·subst hjk; exact HV.o
      ·exact HA.o j h h' (by omega)
     case measure=>simp [intOf]; omega
    ·rw [decide_eq_false he];have HV:=Hd he;clear he hx1;go_wp2;go_ret;refine ⟨?_,HX.o⟩;have:x≠y:=(by rintro rfl; exact HV.o rfl);simp [this]
   ·have HE:=Hd hext;clear hext;go_wp2;go_ret;refine ⟨?_,HE.o⟩;have:x=y:=take_all_eq HL.o (fun j h h'=>HA.o j h h' (by omega));simp [this]
 ·have h1:((x.length:Int) != (y.length:Int))=true:=(by rw [bne_iff_ne]; omega);have h2:x≠y:=fun e=>hl (by rw [e]);have H2:=Hd h2;clear h2 hl
  go_enter Tryz.func106,Tryz.ntmps106
  go_wp2;go_ret;refine ⟨?_,Ext.refl _⟩;have:=H2.o;simp [this]

theorem value_Equal_step (q:Nat) (ih:0<q→PEq (q-1)):PEq q:=by
 intro x y A B A' B' c e c' e' w S T hx hy;have IH:=Hd ih;clear ih;have HX:=Hd hx;have HY:=Hd hy;clear hx hy
 go_enter Tryz.func70,Tryz.ntmps70
 go_wp2_with fail
 rotate_left
 ·refine (slices_Equal _ _ _ _ _ _ _ S T (HX.o.strs.keep ((((Ext.refl _).alloc _).alloc _).kept _)) (HY.o.strs.keep ((((Ext.refl _).alloc _).alloc _).kept _))).mono ?_;rintro e w1 ⟨rfl,n,rfl⟩;have hnn:x.n=y.n:=(by simp_all);have HF:=Hd (show x.kind=y.kind∧x.s.toList=y.s.toList∧x.dn=y.dn∧x.ds=y.ds∧x.n=y.n from ⟨‹_›,‹_›,‹_›,‹_›,‹_›⟩);by_cases hc:x.cols=y.cols
  ·rw [decide_eq_true hc];have HC:=Hd hc;clear hc hnn
   go_wp2_with fail
   refine (slices_EqualFunc2 q IH.o _ _ _ _ _ _ _ S T (HX.o.rows_.keep (((((Ext.refl _).alloc _).alloc _).drewN _).kept _)) (HY.o.rows_.keep (((((Ext.refl _).alloc _).alloc _).drewN _).kept _))).mono ?_;rintro e w2 ⟨rfl,hx2⟩;have HW:=Hd (Ext.trans ((((Ext.refl w).alloc _).alloc _).drewN _) hx2);by_cases hr:x.rows=y.rows
   ·rw [decide_eq_true hr];have HR:=Hd hr;clear hr hx2;go_wp2;go_ret;exact ⟨by rw [decide_eq_true (Val.eq_of HF.o HC.o HR.o)]; rfl,HW.o⟩
   ·rw [decide_eq_false hr];have HR:=Hd hr;clear hr hx2;go_wp2;go_ret;exact ⟨by rw [decide_eq_false (fun e=>HR.o (by rw [e]))]; rfl,HW.o⟩
  ·rw [decide_eq_false hc];have HC:=Hd hc;clear hc hnn;go_wp2;go_ret;exact ⟨by rw [decide_eq_false (fun e=>HC.o (by rw [e]))]; rfl,(((Ext.refl _).alloc _).alloc _).drewN _⟩
 all_goals
  have hne:x≠y:=(by rintro rfl; simp_all);go_ret;exact ⟨by simp [hne],((Ext.refl _).alloc _).alloc _⟩

theorem value_Equal (q:Nat):PEq q:=by
 induction q with
 | zero=>exact value_Equal_step 0 (fun h=>absurd h (by omega))
 | succ q ih=>exact value_Equal_step (q+1) (fun _=>ih)

def Own (w:World) (base e sz:Nat) (A:Option Addr) (n c:Nat) (xs:List Value):Prop:=w.ownsRow base e sz (.slice A n c) n xs
def ob (A:Option Addr):Option Nat:=A.map (·.block)
theorem ob_eq (A:Option Addr) (n c:Nat):(Value.slice A n c).ownBlock=ob A:=by cases A <;> rfl
def TI (P:Program) (t e sz by_:Nat):Prop:=P.underlying t=some (.slice e)∧∃ i z,P.info? e=some i∧i.zero=some z∧i.size=sz∧i.bytes=by_∧z.cells.size=sz∧0<sz
section
variable {w w':World} {base e sz n c:Nat} {A:Option Addr} {xs:List Value}
theorem Own.nil (w:World) (base e sz:Nat):Own w base e sz none 0 0 []:=World.ownsRow_nil w base e sz
theorem Own.len (h:Own w base e sz A n c xs):xs.length=n*sz:=h.1
theorem Own.blk (h:Own w base e sz A n c xs) {k:Nat} (hk:ob A=some k):base≤k∧k<w.heap.size:=World.ownsRow.lt h k (by rw [ob_eq]; exact hk)
theorem Own.cap (h:Own w base e sz A n c xs):n≤c:=by
 rcases h.2 with ⟨hv,hn⟩ | ⟨g,cap,cur,hv,_,_,hnc,_⟩
 ·rw [hn]; exact Nat.zero_le _
 ·injection hv with _ _ h2;rw [h2]; exact hnc
theorem Own.kept {row:Option Nat} (h:Own w base e sz A n c xs) (hg:w.grownBy w' row) (hne:ob A=none∨ob A≠row):Own w' base e sz A n c xs :=
 World.ownsRow.kept h hg (by rw [ob_eq]; exact hne)
theorem Own.ext (h:Own w base e sz A n c xs) (hx:Ext w w'):Own w' base e sz A n c xs:=by
 refine ⟨h.1,?_⟩
 rcases h.2 with h2 | ⟨g,cap,cur,hv,hb,hh,r⟩
 ·exact Or.inl h2
 ·refine Or.inr ⟨g,cap,cur,hv,hb,?_,r⟩;have hlt:g<w.heap.size:=by
   rcases Nat.lt_or_ge g w.heap.size with h1 | h1
   ·exact h1
   ·rw [Array.getElem?_eq_none h1] at hh; cases hh
  rw [hx.block g hlt]; exact hh
theorem Own.rd (h:Own w base e sz A n c xs):Rd w (fun b=>ob A=some b) A xs:=by
 rcases Rd.of_own h with h0 | ⟨b,o,h1,h2,h3,h4⟩
 ·exact Or.inl h0
 ·exact Or.inr ⟨b,o,h1,by subst h1; rfl,h3,h4⟩
theorem Own.set (h:Own w base e sz A n c xs) {p:Addr} (hp:ob A≠some p.block) (u:Value):Own (w.setCell p u) base e sz A n c xs:=by
 refine ⟨h.1,?_⟩
 rcases h.2 with h2 | ⟨g,cap,cur,hv,hb,hh,r⟩
 ·exact Or.inl h2
 ·refine Or.inr ⟨g,cap,cur,hv,hb,?_,r⟩;rw [Below.heap_setCell _ _ _ _ (fun e=>hp (by
   have hA:A=some ⟨g,0,none⟩:=(by injection hv);subst hA;exact congrArg some e))]
  exact hh
theorem Own.keep (h:Own w base e sz A n c xs) (hk:Kept (fun b=>ob A=some b) w w'):Own w' base e sz A n c xs:=by
 refine ⟨h.1,?_⟩
 rcases h.2 with h2 | ⟨g,cap,cur,hv,hb,hh,r⟩
 ·exact Or.inl h2
 ·refine Or.inr ⟨g,cap,cur,hv,hb,?_,r⟩;have hA:A=some ⟨g,0,none⟩:=(by injection hv);have hlt:g<w.heap.size:=by
   rcases Nat.lt_or_ge g w.heap.size with h1 | h1
   ·exact h1
   ·rw [Array.getElem?_eq_none h1] at hh; cases hh
  rw [hk.2 g (by rw [hA]; rfl) hlt]; exact hh
theorem Own.made (w:World) (e sz cap:Nat) (cur:Array Value) (hm:cap≤maxLen) (hs:cur.size=cap*sz) :
  Own (w.alloc (.cells cur e)) w.heap.size e sz (some ⟨w.heap.size,0,none⟩) 0 cap [] :=
 World.ownsRow_made w cur cap (Nat.le_refl _) hm hs
theorem Own.lower {base':Nat} (h:Own w base e sz A n c xs) (hb:base'≤base):Own w base' e sz A n c xs:=by
 refine ⟨h.1,?_⟩
 rcases h.2 with h2 | ⟨g,cap,cur,hv,hb',r⟩
 ·exact Or.inl h2
 ·exact Or.inr ⟨g,cap,cur,hv,Nat.le_trans hb hb',r⟩

theorem run_app {P:Program} (w:World) {t by_:Nat} (ty:TypeId) (ti:TI P t e sz by_) (hown:Own w base e sz A n c xs) {S:Nat→Prop} {B:Option Addr} {m c2:Nat} {news:List Value}
  (hr:Rd w S B news) (hl:news.length=m*sz) (h1:∀ u∈news,u.oneCell'=true) (h63:(n+m)*by_≤140737488355328) (hby:0<by_) (hbase:base≤w.heap.size) :
  ∃ A' c' w',(Builtin.append_ #[t,t] ty #[.slice A n c,.slice B m c2]).run P w=.ok (.slice A' (n+m) c') w'∧Own w' base e sz A' (n+m) c' (xs++news)∧w.grownBy w' (ob A) ∧
   (ob A'=ob A∨ob A'=some w.heap.size):=by
 obtain ⟨ht,i,z,hi,hz,hsize,hbytes,hzs,hsz⟩:=ti;have hnm:n+m≤140737488355328:=by
  have:(n+m)*1≤(n+m)*by_:=Nat.mul_le_mul_left _ hby;omega
 have hform:∀ {w':World} {v:Value},w'.ownsRow base e sz v (n+m) (xs++news)→∃ A' c',v=.slice A' (n+m) c':=by
  intro w' v h
  rcases h.2 with ⟨rfl,h0⟩ | ⟨g,cap,cur,rfl,_⟩
  ·exact ⟨none,0,by rw [h0]⟩
  ·exact ⟨_,_,rfl⟩
 by_cases hm:m=0
 ·subst hm;have hn:news=[]:=List.eq_nil_of_length_eq_zero (by simpa using hl);subst hn;refine ⟨A,c,w,?_,by simpa using hown,⟨rfl,rfl,rfl,Nat.le_refl _,fun _ _ _=>rfl⟩,.inl rfl⟩
  rcases hown.2 with ⟨hv,h0⟩ | ⟨g,cap,cur,hv,_,_,hnc,_⟩
  ·injection hv with h1 _ h2;subst h1;subst h2;subst h0;cases B <;> simp [Builtin.append_,run_underlying ht,sizeOf,typeInfo,hi,Builtin.lenOf,Builtin.firstCells,loadCells,loadCellsFrom]
  ·injection hv with h1 _ h2;subst h1;subst h2;cases B <;> simp [Builtin.append_,run_underlying ht,sizeOf,typeInfo,hi,Builtin.lenOf,Builtin.firstCells,hnc,storeCells,loadCells,loadCellsFrom]
 ·have hne:news≠[]:=by
   intro h0;subst h0;have:=Nat.mul_eq_zero.1 (show m*sz=0 from hl.symm);omega
  obtain ⟨b,o,rfl,_,_,hc⟩:=hr.some_ hne;obtain ⟨v',w',hrun,h2,h3,_,h5⟩:=run_append_own_at (P:=P) w base t ty e i z sz by_ ht hi hz hsize hbytes hzs hsz (.slice A n c) n xs hown ⟨b,o,none⟩ m c2 news hl
   (fun j u hj=>by rw [Addr.add_lit]; exact hc j u hj) h1 (by unfold maxLen; omega) h63 hbase
  obtain ⟨A',c',rfl⟩:=hform h2;rw [ob_eq] at h3 h5;rw [ob_eq] at h5;exact ⟨A',c',w',hrun,h2,h3,h5⟩

theorem wpList_app {P:Program} {ops:Array Oper} {rest:List Oper} {o:Oper} {a:Act} {Q:Exit→Act→World→Prop} (hgd:o.guard=none) (s x:Operand) {t by_:Nat}
  (ho:o.op=.call { callee:=.builtin .append,args:=#[s,x],argTypes:=#[t,t] }) (ti:TI P t e sz by_) (hs:a.eval s=.slice A n c) (hown:Own w base e sz A n c xs)
  {S:Nat→Prop} {B:Option Addr} {m c2:Nat} {news:List Value} (hx:a.eval x=.slice B m c2) (hr:Rd w S B news) (hl:news.length=m*sz) (h1:∀ u∈news,u.oneCell'=true)
  (h63:(n+m)*by_≤140737488355328) (hby:0<by_) (hbase:base≤w.heap.size)
  (h:∀ A' c' w',Own w' base e sz A' (n+m) c' (xs++news)→w.grownBy w' (ob A)→(ob A'=ob A∨ob A'=some w.heap.size)→wpList P ops Q rest (a.put o.dst (.slice A' (n+m) c')) w') :
  wpList P ops Q (o :: rest) a w:=by
 obtain ⟨A',c',w',hrun,h2,h3,h4⟩:=run_app w o.type ti hown (c2:=c2) hr hl h1 h63 hby hbase;refine wpList_plain hgd fun K hK => ?_;unfold Oper.wp execOp;simp only [ho,resolve,invoke,builtin,Sem.run_bind,Sem.run_pure,Result.andThen_ok,List.map_toArray,List.map_cons,List.map_nil,hs,hx,hrun];exact hK _ _ (h A' c' w' h2 h3 h4)
end

def Blk (w:World) (g t:Nat) (cs:Array Value):Prop:=w.heap[g]?=some (.cells cs t (0,0))
theorem Blk.lt {w:World} {g t:Nat} {cs:Array Value} (h:Blk w g t cs):g<w.heap.size:=by
 rcases Nat.lt_or_ge g w.heap.size with hlt | hge
 ·exact hlt
 ·unfold Blk at h; rw [Array.getElem?_eq_none hge] at h; cases h
theorem Blk.cell {w:World} {g t:Nat} {cs:Array Value} (h:Blk w g t cs) {i:Nat} {u:Value} (hi:cs[i]?=some u):w.cell? ⟨g,i,none⟩=some u:=by
 unfold Blk at h;simp [World.cell?,h,hi]
theorem Blk.frozen {w:World} {g t:Nat} {cs:Array Value} (h:Blk w g t cs) (i:Nat):w.frozen? ⟨g,i,none⟩=false:=by
 unfold Blk at h;simp [World.frozen?,h]
theorem Blk.keep {w w':World} {g t:Nat} {cs:Array Value} (h:Blk w g t cs) (hk:Kept (fun b=>b=g) w w'):Blk w' g t cs:=(hk.2 g rfl h.lt).trans h
theorem Blk.new (w:World) (t:Nat) (cs:Array Value):Blk (w.alloc (.cells cs t)) w.heap.size t cs:=heap_alloc_new w _
theorem Blk.set {w:World} {g t:Nat} {cs:Array Value} (h:Blk w g t cs) (i:Nat) (u:Value):Blk (w.setCell ⟨g,i,none⟩ u) g t (cs.setIfInBounds i u):=by
 unfold Blk at h ⊢;simp [World.setCell,Array.getElem?_modify,h]
theorem Blk.rd {w:World} {g t:Nat} {cs:Array Value} (h:Blk w g t cs):Rd w (fun b=>b=g) (some ⟨g,0,none⟩) cs.toList :=
 Or.inr ⟨g,0,rfl,rfl,h.lt,fun j u hj=>by rw [Nat.zero_add]; exact h.cell (by simpa using hj)⟩
theorem Kept.of_below {w w':World} {B:Nat} {S:Nat→Prop} (h:Below B w w') (hS:∀ b,S b→b<w.heap.size→b<B):Kept S w w':=⟨h.size,fun b hb hl=>h.block b (hS b hb hl)⟩

def VL (R:Val→List Value→Prop) (xs:List Value) (l:List Val):Prop:=xs.length=l.length*7∧∀ (j:Nat) (y:Val),l[j]?=some y→R y ((xs.drop (j*7)).take 7)
theorem VL.nil (R:Val→List Value→Prop):VL R [] []:=⟨rfl,by simp⟩
theorem VL.imp {R R':Val→List Value→Prop} {xs:List Value} {l:List Val} (h:VL R xs l) (f:∀ y cs,R y cs→R' y cs):VL R' xs l:=⟨h.1,fun j y hj=>f _ _ (h.2 j y hj)⟩
theorem VL.snoc {R:Val→List Value→Prop} {xs cs:List Value} {l:List Val} {y:Val} (h:VL R xs l) (hc:cs.length=7) (hy:R y cs):VL R (xs++cs) (l++[y]):=by
 refine ⟨by simp [h.1,hc]; omega,fun j z hj => ?_⟩
 rcases Nat.lt_or_ge j l.length with hlt | hge
 ·rw [List.getElem?_append_left hlt] at hj;have hz:=h.2 j z hj;have hx:=h.1;rw [List.drop_append_of_le_length (by omega),List.take_append_of_le_length (by simp; omega)];exact hz
 ·rw [List.getElem?_append_right hge] at hj;have hj0:j-l.length=0:=by
   rcases Nat.eq_zero_or_pos (j-l.length) with h0 | h0
   ·exact h0
   ·rw [List.getElem?_eq_none (by simp; omega)] at hj;cases hj
  rw [hj0] at hj;simp at hj;subst hj;have:j=l.length:=(by omega);subst this;rw [← h.1,List.drop_left,List.take_of_length_le (by omega)];exact hy
theorem VL.append {R:Val→List Value→Prop} {xs ys:List Value} {l m:List Val} (h:VL R xs l) (k:VL R ys m):VL R (xs++ys) (l++m):=by
 refine ⟨by simp [h.1,k.1]; omega,fun j z hj => ?_⟩
 rcases Nat.lt_or_ge j l.length with hlt | hge
 ·rw [List.getElem?_append_left hlt] at hj;have hz:=h.2 j z hj;have hx:=h.1;rw [List.drop_append_of_le_length (by omega),List.take_append_of_le_length (by simp; omega)];exact hz
 ·rw [List.getElem?_append_right hge] at hj;have hz:=k.2 _ z hj;have hx:=h.1;rw [show j*7=xs.length+(j-l.length)*7 by omega,← List.drop_drop,List.drop_left];exact hz
theorem RVs.iff {R:Val→List Value→Prop} {w:World} {S:Nat→Prop} {A:Option Addr} {l:List Val} : RVs R w S A l↔l.length≤4294967296∧∃ xs,Rd w S A xs∧VL R xs l:=Iff.rfl

def CV (w:World) (S:Nat→Prop) (d:Nat) (y:Val) (cs:List Value):Prop:=∃ A c B e,cs=vcells y A c B e∧(0<d∧y.cols.length≤c∧y.rows.length≤e)∧RV w S (d-1) y A B
theorem CV.keep {w w':World} {S:Nat→Prop} {d:Nat} {y:Val} {cs:List Value} (h:CV w S d y cs) (k:Kept S w w'):CV w' S d y cs:=by
 obtain ⟨A,c,B,e,h1,h2,h3⟩:=h;exact ⟨A,c,B,e,h1,h2,h3.keep k⟩
theorem CV.mono {w:World} {S T:Nat→Prop} {d:Nat} {y:Val} {cs:List Value} (h:CV w S d y cs) (k:∀ i,i<w.heap.size→S i→T i):CV w T d y cs:=by
 obtain ⟨A,c,B,e,h1,h2,h3⟩:=h;exact ⟨A,c,B,e,h1,h2,h3.mono k⟩
theorem RV.move {w w':World} {S T:Nat→Prop} {d:Nat} {x:Val} {A B:Option Addr} (h:RV w S d x A B) (k:Kept S w w') (m:∀ i,i<w.heap.size→S i→T i):RV w' T d x A B :=
 ((h.mono (T:=fun b=>S b∧T b) fun i hi hs=>⟨hs,m i hi hs⟩).keep (k.mono fun _ _ hh=>hh.1)).mono fun _ _ hh=>hh.2
theorem Row.move {w w':World} {S T:Nat→Prop} {d:Nat} {l:List Val} {B:Option Addr} (h:Row w S d B l) (k:Kept S w w') (m:∀ i,i<w.heap.size→S i→T i):Row w' T d B l :=
 ((Row.mono h (T:=fun b=>S b∧T b) fun i hi hs=>⟨hs,m i hi hs⟩).keep (k.mono fun _ _ hh=>hh.1)).mono fun _ _ hh=>hh.2
theorem CV.move {w w':World} {S T:Nat→Prop} {d:Nat} {y:Val} {cs:List Value} (h:CV w S d y cs) (k:Kept S w w') (m:∀ i,i<w.heap.size→S i→T i):CV w' T d y cs:=by
 obtain ⟨A,c,B,e,h1,h2,h3⟩:=h;exact ⟨A,c,B,e,h1,h2,h3.move k m⟩
theorem vcells_one {x:Val} {A B:Option Addr} {c e:Nat} : ∀ u∈vcells x A c B e,u.oneCell'=true:=by
 intro u hu;simp [vcells] at hu
 rcases hu with rfl | rfl | rfl | rfl | rfl | rfl | rfl <;> rfl
theorem CV.one {w:World} {S:Nat→Prop} {d:Nat} {y:Val} {cs:List Value} (h:CV w S d y cs):cs.length=7∧∀ u∈cs,u.oneCell'=true:=by
 obtain ⟨A,c,B,e,rfl,_⟩:=h;exact ⟨rfl,vcells_one⟩
theorem VL.one {w:World} {S:Nat→Prop} {d:Nat} {xs:List Value} {l:List Val} (h:VL (CV w S d) xs l):∀ u∈xs,u.oneCell'=true:=by
 intro u hu;obtain ⟨i,hi,rfl⟩:=List.mem_iff_getElem.1 hu;have hx:=h.1;have hj:i / 7<l.length:=(by omega);have h7:=(h.2 (i / 7) _ (List.getElem?_eq_getElem hj)).one.2;refine h7 _ (List.mem_iff_getElem.2 ⟨i % 7,?_,?_⟩)
 ·simp; omega
 ·rw [List.getElem_take,List.getElem_drop];congr 1;omega

def OwnVs (w:World) (base:Nat) (X:Nat→Prop) (d:Nat) (A:Option Addr) (c:Nat) (l:List Val):Prop :=
 ∃ xs,Own w base 31 7 A l.length c xs∧VL (CV w (fun b=>ob A≠some b∧X b) d) xs l
def OwnRs (w:World) (base:Nat) (X:Nat→Prop) (d:Nat) (A:Option Addr) (c:Nat) (l:List (List Val)):Prop :=
 ∃ hs,Own w base 50 1 A l.length c hs∧∀ (i:Nat) (r:List Val),l[i]?=some r→∃ (B:Option Addr) (e:Nat),hs[i]?=some (Value.slice B r.length e)∧r.length≤e∧Row w (fun b=>ob A≠some b∧X b) d B r
def OwnSs (w:World) (base:Nat) (A:Option Addr) (c:Nat) (l:List ByteArray):Prop:=Own w base 9 1 A l.length c (l.map Value.string)∧∀ s∈l,s.size≤4294967296
def OwnIs (w:World) (base:Nat) (A:Option Addr) (c:Nat) (l:List Int):Prop:=Own w base 3 1 A l.length c (l.map (Value.int .i64))

section
variable {w w':World} {base c c' d:Nat} {X T:Nat→Prop} {A A':Option Addr}
theorem OwnVs.nil (w:World) (base:Nat) (X:Nat→Prop) (d:Nat):OwnVs w base X d none 0 []:=⟨[],Own.nil _ _ _ _,VL.nil _⟩
theorem OwnVs.ext {l:List Val} (h:OwnVs w base X d A c l) (hx:Ext w w'):OwnVs w' base X d A c l:=by
 obtain ⟨xs,h1,h2⟩:=h;exact ⟨xs,h1.ext hx,h2.imp fun _ _ hh=>hh.keep (hx.kept _)⟩
theorem OwnVs.keep {l:List Val} (h:OwnVs w base X d A c l) (hk:Kept (fun b=>ob A=some b∨X b) w w'):OwnVs w' base X d A c l:=by
 obtain ⟨xs,h1,h2⟩:=h;exact ⟨xs,h1.keep (hk.mono fun _ _ hh=>Or.inl hh),h2.imp fun _ _ hh=>hh.keep (hk.mono fun _ _ hh=>Or.inr hh.2)⟩
theorem OwnVs.push {l:List Val} {y:Val} {A1 B1:Option Addr} {c1 e1:Nat} {xs:List Value} (hv:VL (CV w (fun b=>ob A≠some b∧X b) d) xs l) (hown:Own w' base 31 7 A' (l.length+1) c' (xs++vcells y A1 c1 B1 e1))
  (hg:w.grownBy w' (ob A)) (hat:ob A'=ob A∨ob A'=some w.heap.size) (hd:0<d∧y.cols.length≤c1∧y.rows.length≤e1) (hy:RV w (fun b=>ob A≠some b∧X b) (d-1) y A1 B1):OwnVs w' base X d A' c' (l++[y]):=by
 have hk:Kept (fun b=>ob A≠some b∧X b) w w':=Kept.of_grown hg (fun b hb _ e=>hb.1 e.symm);have hm:∀ i,i<w.heap.size→(ob A≠some i∧X i)→(ob A'≠some i∧X i):=by
  rintro i hi ⟨h1,h2⟩;refine ⟨?_,h2⟩
  rcases hat with e | e <;> rw [e]
  ·exact h1
  ·intro h; injection h with h; omega
 refine ⟨_,by simpa using hown,?_⟩;exact VL.snoc (hv.imp fun _ _ hh=>hh.move hk hm) rfl ⟨_,_,_,_,rfl,hd,hy.move hk hm⟩
theorem OwnVs.row {l:List Val} (h:OwnVs w base X d A c l) (hl:l.length≤4294967296) (h1:∀ b,ob A=some b→T b) (h2:∀ b,X b→T b):Row w T d A l:=by
 obtain ⟨xs,ho,hv⟩:=h;exact ⟨hl,xs,ho.rd.mono fun i _ hi=>h1 i hi,hv.1,fun j y hj=>(hv.2 j y hj).mono fun i _ hi=>h2 i hi.2⟩
theorem OwnVs.blk {l:List Val} (h:OwnVs w base X d A c l) {k:Nat} (hk:ob A=some k):base≤k∧k<w.heap.size:=by
 obtain ⟨xs,ho,_⟩:=h;exact ho.blk hk
theorem OwnVs.lower {base':Nat} {l:List Val} (h:OwnVs w base X d A c l) (hb:base'≤base):OwnVs w base' X d A c l:=by
 obtain ⟨xs,h1,h2⟩:=h;exact ⟨xs,h1.lower hb,h2⟩
theorem OwnRs.nil (w:World) (base:Nat) (X:Nat→Prop) (d:Nat):OwnRs w base X d none 0 []:=⟨[],Own.nil _ _ _ _,by simp⟩
theorem OwnRs.ext {l:List (List Val)} (h:OwnRs w base X d A c l) (hx:Ext w w'):OwnRs w' base X d A c l:=by
 obtain ⟨hs,h1,h2⟩:=h;refine ⟨hs,h1.ext hx,fun i r hr => ?_⟩;obtain ⟨B,e,h3,hcp,h4⟩:=h2 i r hr;exact ⟨B,e,h3,hcp,Row.keep h4 (hx.kept _)⟩
theorem OwnRs.keep {l:List (List Val)} (h:OwnRs w base X d A c l) (hk:Kept (fun b=>ob A=some b∨X b) w w'):OwnRs w' base X d A c l:=by
 obtain ⟨hs,h1,h2⟩:=h;refine ⟨hs,h1.keep (hk.mono fun _ _ hh=>Or.inl hh),fun i r hr => ?_⟩;obtain ⟨B,e,h3,hcp,h4⟩:=h2 i r hr;exact ⟨B,e,h3,hcp,Row.keep h4 (hk.mono fun _ _ hh=>Or.inr hh.2)⟩
theorem OwnRs.mono {l:List (List Val)} (h:OwnRs w base X d A c l) (hm:∀ b,b<w.heap.size→X b→T b):OwnRs w base T d A c l:=by
 obtain ⟨hs,h1,h2⟩:=h;refine ⟨hs,h1,fun i r hr => ?_⟩;obtain ⟨B,e,h3,hcp,h4⟩:=h2 i r hr;exact ⟨B,e,h3,hcp,Row.mono h4 fun i hi hh=>⟨hh.1,hm i hi hh.2⟩⟩
theorem OwnVs.mono {l:List Val} (h:OwnVs w base X d A c l) (hm:∀ b,b<w.heap.size→X b→T b):OwnVs w base T d A c l:=by
 obtain ⟨xs,h1,h2⟩:=h;exact ⟨xs,h1,h2.imp fun _ _ hh=>hh.mono fun i hi hh=>⟨hh.1,hm i hi hh.2⟩⟩
theorem OwnRs.push {l:List (List Val)} {r:List Val} {B:Option Addr} {e:Nat} {hs:List Value} (ho:hs.length=l.length)
  (hv:∀ (i:Nat) (r:List Val),l[i]?=some r→∃ (B:Option Addr) (e:Nat),hs[i]?=some (Value.slice B r.length e)∧r.length≤e∧Row w (fun b=>ob A≠some b∧X b) d B r)
  (hown:Own w' base 50 1 A' (l.length+1) c' (hs++[Value.slice B r.length e])) (hg:w.grownBy w' (ob A)) (hat:ob A'=ob A∨ob A'=some w.heap.size)
  (hre:r.length≤e) (hy:Row w (fun b=>ob A≠some b∧X b) d B r):OwnRs w' base X d A' c' (l++[r]):=by
 have hk:Kept (fun b=>ob A≠some b∧X b) w w':=Kept.of_grown hg (fun b hb _ e=>hb.1 e.symm);have hm:∀ i,i<w.heap.size→(ob A≠some i∧X i)→(ob A'≠some i∧X i):=by
  rintro i hi ⟨h1,h2⟩;refine ⟨?_,h2⟩
  rcases hat with e | e <;> rw [e]
  ·exact h1
  ·intro h; injection h with h; omega
 refine ⟨_,by simpa using hown,fun i r' hr => ?_⟩
 rcases Nat.lt_or_ge i l.length with hlt | hge
 ·rw [List.getElem?_append_left hlt] at hr;obtain ⟨B',e',h3,hcp,h4⟩:=hv i r' hr;exact ⟨B',e',by rw [List.getElem?_append_left (by omega)]; exact h3,hcp,Row.move h4 hk hm⟩
 ·rw [List.getElem?_append_right hge] at hr;have hj0:i-l.length=0:=by
   rcases Nat.eq_zero_or_pos (i-l.length) with h0 | h0
   ·exact h0
   ·rw [List.getElem?_eq_none (by simp; omega)] at hr;cases hr
  rw [hj0] at hr;simp at hr;subst hr;exact ⟨B,e,by rw [List.getElem?_append_right (by omega),ho,hj0]; rfl,hre,Row.move hy hk hm⟩
theorem OwnRs.rows {l:List (List Val)} (h:OwnRs w base X d A c l) (hl:l.length≤4294967296) (h1:∀ b,ob A=some b→T b) (h2:∀ b,X b→T b):Rows w T d A l:=by
 obtain ⟨hs,ho,hv⟩:=h;refine ⟨hl,hs,ho.rd.mono fun i _ hi=>h1 i hi,by simpa using ho.len,fun i r hr => ?_⟩;obtain ⟨B,e,h3,hcp,h4⟩:=hv i r hr;exact ⟨B,e,h3,hcp,Row.mono h4 fun i _ hi=>h2 i hi.2⟩
theorem OwnRs.blk {l:List (List Val)} (h:OwnRs w base X d A c l) {k:Nat} (hk:ob A=some k):base≤k∧k<w.heap.size:=by
 obtain ⟨xs,ho,_⟩:=h;exact ho.blk hk
theorem OwnSs.nil (w:World) (base:Nat):OwnSs w base none 0 []:=⟨Own.nil _ _ _ _,by simp⟩
theorem OwnSs.ext {l:List ByteArray} (h:OwnSs w base A c l) (hx:Ext w w'):OwnSs w' base A c l:=⟨h.1.ext hx,h.2⟩
theorem OwnSs.strs {l:List ByteArray} (h:OwnSs w base A c l) (hl:l.length≤4294967296) (h1:∀ b,ob A=some b→T b):Strs w T A l:=⟨h.1.rd.mono fun i _ hi=>h1 i hi,hl,h.2⟩
theorem OwnIs.nil (w:World) (base:Nat):OwnIs w base none 0 []:=Own.nil _ _ _ _
theorem OwnIs.ext {l:List Int} (h:OwnIs w base A c l) (hx:Ext w w'):OwnIs w' base A c l:=Own.ext h hx
theorem OwnIs.ints {l:List Int} (h:OwnIs w base A c l) (hl:l.length≤4294967296) (h1:∀ b,ob A=some b→T b):Ints w T A l:=⟨(Own.rd h).mono fun i _ hi=>h1 i hi,hl⟩
end
theorem TI.mk_ {P:Program} {t e sz by_:Nat} {z:Value} (h:P.underlying t=some (.slice e)) (hi:(P.info? e).map (fun i=>(i.zero,i.size,i.bytes))=some (some z,sz,by_)) (hz:z.cells.size=sz) (h0:0<sz):TI P t e sz by_:=by
 obtain ⟨i0,h1,h2,h3,h4⟩:=info_parts hi;exact ⟨h,i0,z,h1,h2,h3,h4,hz,h0⟩
theorem infoV:(Tryz.prog.info? 31).map (fun i=>(i.zero,i.size,i.bytes))=some (some (.agg #[.int .i64 0,.string ⟨#[]⟩,.int .i64 0,.int .i64 0,.int .i64 0,.slice none 0 0,.slice none 0 0]),7,96):=by kernel_rfl
theorem infoR:(Tryz.prog.info? 50).map (fun i=>(i.zero,i.size,i.bytes))=some (some (.slice none 0 0),1,24):=by kernel_rfl
theorem infoS:(Tryz.prog.info? 9).map (fun i=>(i.zero,i.size,i.bytes))=some (some (.string ⟨#[]⟩),1,16):=by kernel_rfl
theorem infoI:(Tryz.prog.info? 3).map (fun i=>(i.zero,i.size,i.bytes))=some (some (.int .i64 0),1,8):=by kernel_rfl
theorem tiV:TI Tryz.prog 50 31 7 96:=TI.mk_ Tryz.underlying50 infoV rfl (by decide)
theorem tiR:TI Tryz.prog 29 50 1 24:=TI.mk_ Tryz.underlying29 infoR rfl (by decide)
theorem tiS:TI Tryz.prog 28 9 1 16:=TI.mk_ Tryz.underlying28 infoS rfl (by decide)
theorem tiI:TI Tryz.prog 22 3 1 8:=TI.mk_ Tryz.underlying22 infoI rfl (by decide)

theorem run_mk {P:Program} {t e sz by_:Nat} (ti:TI P t e sz by_) (n c:Nat) (hnc:n≤c) (hb:by_*c≤281474976710656) (hby:0<by_) :
  ∃ cur:Array Value,(∀ w:World,(Instr.makeSlice t (.int .i64 (n:Int)) (.int .i64 (c:Int))).run P w=.ok (.slice (some ⟨w.heap.size,0,none⟩) n c) (w.alloc (.cells cur e)))∧cur.size=c*sz:=by
 obtain ⟨ht,i,z,hi,hz,hsize,hbytes,hzs,hsz⟩:=ti;refine ⟨madeCells z.cells (c*i.size),fun w => ?_,by simp [madeCells,hsize]⟩;have hc:c≤281474976710656:=by
  have:1*c≤by_*c:=Nat.mul_le_mul_right _ hby;omega
 have hb':(i.bytes:Int)*(c:Int)≤281474976710656:=by
  rw [hbytes];have h:((by_*c:Nat):Int)≤281474976710656:=(by omega);rwa [Int.natCast_mul] at h
 have hr:=run_make (P:=P) w t e i z ht hi hz .i64 .i64 n c (by omega) (by omega) hb' (by omega);simp only [Int.toNat_natCast] at hr;exact hr
theorem run_mk0 {P:Program} {t e sz by_:Nat} (ti:TI P t e sz by_) (c:Nat) (hb:by_*c≤281474976710656) (hby:0<by_) :
  ∃ cur:Array Value,(∀ w:World,(Instr.makeSlice t (.int .i64 0) (.int .i64 (c:Int))).run P w=.ok (.slice (some ⟨w.heap.size,0,none⟩) 0 c) (w.alloc (.cells cur e)))∧cur.size=c*sz:=by
 have:=run_mk ti 0 c (Nat.zero_le _) hb hby
 simpa using this

def Fresh (w:World):Nat→Prop:=fun b=>w.heap.size≤b
def RetSs (w:World) (l:List ByteArray) (e:Ending) (w':World):Prop:=∃ A' c',e=.returned (.slice A' l.length c')∧l.length≤c'∧Strs w' (Fresh w) A' l∧Ext w w'
def RetV (w:World) (S:Nat→Prop) (d:Nat) (x:Val) (e:Ending) (w':World):Prop:=∃ A c B e',e=.returned (.agg #[.int .i64 x.kind,.string x.s,.int .i64 x.dn,.int .i64 x.ds,.int .i64 x.n,.slice A x.cols.length c,.slice B x.rows.length e'])∧(x.cols.length≤c∧x.rows.length≤e')∧RV w' S d x A B∧Ext w w'

theorem slices_Clone (A:Option Addr) (c:Nat) (l:List ByteArray) (w:World) (S:Nat→Prop) (h:Strs w S A l) :
  Calls Tryz.prog 33 #[.slice A l.length c] w (RetSs w l):=by
 have hn:=h.2.1
 rcases A with _ | a
 ·have hl:l=[]:=by
   rcases h.1 with h0 | ⟨b,o,h1,_⟩
   ·simpa using h0
   ·cases h1
  subst hl;have hnil:=fun w:World=>Lib.run_eql_slice_nil w 28 9 none 0 c 0 0 Tryz.underlying28;simp only [List.length_nil] at hnil ⊢
  go_enter Tryz.func33,Tryz.ntmps33
  go_wp2;go_ret;exact ⟨none,0,rfl,Nat.le_refl _,Strs.nil,Ext.refl _⟩
 ·have hnil:=fun w:World=>Lib.run_eql_slice_nil w 28 9 (some a) l.length c 0 0 Tryz.underlying28
  go_enter Tryz.func33,Tryz.ntmps33
  go_wp2_with (at_builtin; refine wpList_app rfl (.tmp 5) (.tmp 6) rfl tiS rfl ((World.ownsRow_made w #[] 0 (Nat.le_refl _) (by unfold maxLen; omega) rfl)) rfl (h.1.keep (Kept.alloc _ _ _)) (by simp) (by simp [Value.oneCell']) (by omega) (by decide) (by simp) ?_; intro A' c' w1 hown hg hat)
  go_ret;simp only [Nat.zero_add,List.nil_append] at hown;exact ⟨A',c',rfl,hown.cap,⟨Rd.of_own hown,h.2⟩,((Ext.refl w).alloc _).grown hg (fun k hk=>by simp [ob] at hk; omega)⟩

structure CopyRel (w:World) (x:Val) (q:Nat) (B:Option Addr) (e:Nat) (A1:Option Addr) (c1:Nat) (k:Nat) (A:Option Addr) (c:Nat) (H:Nat) (wr:World):Prop where
 ext:Ext w wr
 low:w.heap.size+2≤H
 high:H≤wr.heap.size
 box:Blk wr w.heap.size 31 #[.int .i64 x.kind,.string x.s,.int .i64 x.dn,.int .i64 x.ds,.int .i64 x.n,.slice A1 x.cols.length c1,.slice B x.rows.length e]
 res:Blk wr (w.heap.size+1) 31 #[.int .i64 0,.string ⟨#[]⟩,.int .i64 0,.int .i64 0,.int .i64 0,.slice none 0 0,.slice none 0 0]
 cols:Strs wr (fun b=>w.heap.size+2≤b∧b<H∧ob A≠some b) A1 x.cols
 rows:OwnRs wr (w.heap.size+2) (fun b=>w.heap.size+2≤b∧b<H) q A c (x.rows.take k)
 own:∀ b,ob A=some b→b<H
theorem CopyRel.below {w:World} {x:Val} {q:Nat} {B:Option Addr} {e:Nat} {A1:Option Addr} {c1:Nat} {k:Nat} {A:Option Addr} {c:Nat} {H:Nat} {wr wr':World}
  (h:CopyRel w x q B e A1 c1 k A c H wr) (hb:Below H wr wr'):CopyRel w x q B e A1 c1 k A c H wr':=by
 have hl:=h.low;exact ⟨Below.trans h.ext (hb.mono (by omega)),h.low,Nat.le_trans h.high hb.size,h.box.keep (Kept.of_below hb (by intro b e _; omega)),h.res.keep (Kept.of_below hb (by intro b e _; omega)),
  h.cols.keep (Kept.of_below hb (by intro b e _; omega)),h.rows.keep (Kept.of_below hb (by
   rintro b (e | e) _
   ·exact h.own b e
   ·exact e.2)),h.own⟩

def PCopy (d:Nat):Prop:=∀ (x:Val) (A B:Option Addr) (c e:Nat) (w:World) (S:Nat→Prop),RV w S d x A B→Calls Tryz.prog 43 #[(.agg #[.int .i64 x.kind,.string x.s,.int .i64 x.dn,.int .i64 x.ds,.int .i64 x.n,.slice A x.cols.length c,.slice B x.rows.length e])] w (RetV w (Fresh w) d x)

theorem value_Copy_step (q:Nat) (ih:0<q→PCopy (q-1)):PCopy q:=by
 intro x A B c e w S hx;have HX:=Hd hx;have IH:=Hd ih;have hlen:=hx.rows_.len;clear hx ih;obtain ⟨cur,hmk,hcur⟩:=run_mk0 tiR x.rows.length (by omega) (by decide);have HCUR:=Hd hcur;clear hcur
 go_enter Tryz.func43,Tryz.ntmps43
 go_wp2_with fail
 refine (slices_Clone _ _ _ _ S (HX.o.strs.keep ((((Ext.refl _).alloc _).alloc _).kept _))).mono ?_;rintro e1 w1 ⟨A1,c1,rfl,hcc1,hs1,hx1⟩;obtain ⟨hc1,hf1⟩:=bcell hx1;have hz1:=hx1.size;simp at hc1 hf1 hz1;have hz2:w.heap.size<w1.heap.size:=(by omega);have hz3:w.heap.size+1<w1.heap.size:=(by omega);go_wp2;have hstart:CopyRel w x q B e A1 c1 0 (some ⟨w1.heap.size,0,none⟩) x.rows.length (w1.heap.size+1) ((w1.setCell ⟨w.heap.size,5,none⟩ (.slice A1 x.cols.length c1)).alloc (.cells cur 50)):=by
  have hW:Ext w ((w1.setCell ⟨w.heap.size,5,none⟩ (.slice A1 x.cols.length c1)).alloc (.cells cur 50)) :=
   ((Ext.trans (((Ext.refl w).alloc _).alloc _) hx1).setCell (by simp) _).alloc _
  have hb0:=(((Blk.new w 31 #[.int .i64 x.kind,.string x.s,.int .i64 x.dn,.int .i64 x.ds,.int .i64 x.n,.slice A x.cols.length c,.slice B x.rows.length e]).keep (Kept.alloc _ _ _)).keep (hx1.kept _));have hb1:=(Blk.new (w.alloc (.cells #[.int .i64 x.kind,.string x.s,.int .i64 x.dn,.int .i64 x.ds,.int .i64 x.n,.slice A x.cols.length c,.slice B x.rows.length e] 31)) 31 #[.int .i64 0,.string ⟨#[]⟩,.int .i64 0,.int .i64 0,.int .i64 0,.slice none 0 0,.slice none 0 0]).keep (hx1.kept _);refine ⟨hW,by omega,by simp [World.setCell],((hb0.set 5 (.slice A1 x.cols.length c1)).keep (Kept.alloc _ _ _)),?_,?_,?_,?_⟩
  ·have:=(hb1.keep (w':=w1.setCell ⟨w.heap.size,5,none⟩ (.slice A1 x.cols.length c1)) (Kept.of_set (by simp))).keep (Kept.alloc _ _ (.cells cur 50))
   simpa using this
  ·refine (((hs1.mono (T:=fun b=>w.heap.size+2≤b∧b<w1.heap.size) (fun i hi0 hi=>⟨by unfold Fresh at hi; simp at hi; omega,hi0⟩)).keep (w':=w1.setCell ⟨w.heap.size,5,none⟩ (.slice A1 x.cols.length c1)) (Kept.set2 (Kept.refl _ _) (by show ¬ (_≤_∧_); omega))).keep (Kept.alloc _ _ _)).mono (fun i hi0 hi=>⟨hi.1,by omega,fun h0 => ?_⟩);simp [ob] at h0;omega
  ·have hmade:=Own.lower (base':=w.heap.size+2) (Own.made (w1.setCell ⟨w.heap.size,5,none⟩ (.slice A1 x.cols.length c1)) 50 _ _ cur (by unfold maxLen; omega) HCUR.o) (by rw [show (w1.setCell ⟨w.heap.size,5,none⟩ (.slice A1 x.cols.length c1)).heap.size=w1.heap.size by simp [World.setCell]]; omega);rw [show (w1.setCell ⟨w.heap.size,5,none⟩ (.slice A1 x.cols.length c1)).heap.size=w1.heap.size by simp [World.setCell]] at hmade;exact ⟨[],hmade,by simp⟩
  ·intro b hb;simp [ob] at hb;omega
 go_loopw [20,3] (fun i v wr=>∃ (k:Nat) (A:Option Addr) (c H:Nat),k≤x.rows.length∧i=.int .i64 k∧v=.slice A k c∧CopyRel w x q B e A1 c1 k A c H wr) (fun i _ _=>x.rows.length-(intOf i).toNat)
 case atStart=>exact ⟨0,_,_,_,Nat.zero_le _,rfl,rfl,hstart⟩
 case round =>
  clear hstart hc1 hf1 hz1 hz2 hz3 hs1 hx1 hmk;obtain ⟨k,Ar,cr,H,hk,rfl,rfl,hR⟩:=hrel;have HR:=Hd hR;by_cases hlt:k<x.rows.length
  ·obtain ⟨b1,o1,A2,c2,rfl,z1,p0,hcr,hrow⟩:=(HX.o.rows_.keep (hR.ext.kept S)).at_ hlt;have hrl:=hrow.len;obtain ⟨cur2,hmk2,hcur2⟩:=run_mk0 tiV x.rows[k].length (by omega) (by decide);have HROW:=Hd hrow;clear hrow hR;go_wp2;obtain ⟨wo,rfl⟩:∃ wo:World,wo=wr:=⟨_,rfl⟩;have hst:OwnVs (wo.alloc (.cells cur2 31)) wo.heap.size (fun b=>wo.heap.size≤b) q (some ⟨wo.heap.size,0,none⟩) x.rows[k].length (x.rows[k].take 0) :=
    ⟨[],Own.made wo _ _ _ cur2 (by unfold maxLen; omega) hcur2,VL.nil _⟩
   have HST:=Hd hst;clear hst hcur2 hmk2
   go_loopw [29,6] (fun i v wi=>∃ (j:Nat) (A':Option Addr) (c':Nat),j≤x.rows[k].length∧i=.int .i64 j∧v=.slice A' j c'∧Below wo.heap.size wo wi∧OwnVs wi wo.heap.size (fun b=>wo.heap.size≤b) q A' c' (x.rows[k].take j)) (fun i _ _=>x.rows[k].length-(intOf i).toNat)
   case atStart=>exact ⟨0,_,_,Nat.zero_le _,rfl,rfl,(Ext.refl wo).alloc _,HST.o⟩
   case round =>
    obtain ⟨j,A',c',hj,rfl,rfl,hbi,hoi⟩:=hrel;have HBI:=Hd hbi;have HOI:=Hd hoi;have hszi:=hbi.size;by_cases hlt2:j<x.rows[k].length
    ·obtain ⟨b2,o2,A5,c5,B5,e5,rfl,z2,⟨p0,p1,p2,p3,p4,p5,p6⟩,⟨hq,_,_⟩,hv⟩:=(HROW.o.keep (Kept.of_below hbi (fun _ _ h=>h))).at_ hlt2;have HV:=Hd hv;clear hv hbi hoi
     go_wp2_with fail
     refine (IH.o hq _ _ _ _ _ _ S (HV.o.keep (Kept.alloc _ _ _))).mono ?_;rintro e3 w3 ⟨A3,c3,B3,e3,rfl,hcc3,hv3,hx3⟩;have HX3:=Hd (((Ext.refl wr).alloc _).trans hx3);have hz3:wr.heap.size<w3.heap.size:=(by have:=hx3.size; simp at this; omega);have hv3':=hv3.mono (T:=fun b=>wr.heap.size≤b) (fun i _ hi=>by unfold Fresh at hi; simp at hi; omega);obtain ⟨xs,hown,hvl⟩:=HOI.o.ext (HX3.o.alloc (.cells (vcells x.rows[k][j] A3 c3 B3 e3).toArray 31));have hlj:(x.rows[k].take j).length=j:=(by rw [List.length_take]; omega);have HVL:=Hd hvl;rw [hlj] at hown;have HOWN:=Hd hown;have HLJ:=Hd hlj;have HV3:=Hd hv3';clear hvl hown hv3 hv3' hx3 hlj
     go_wp2_with (at_builtin; go_must (refine wpList_app rfl (.tmp 33) (.tmp 36) rfl tiV rfl HOWN.o rfl (Blk.rd (Blk.new _ _ _)) rfl vcells_one (by omega) (by decide) (by simp; omega) ?_); intro A4 c4 w4 hown4 hg4 hat4)
     go_roundw
     case rel =>
      refine ⟨j+1,A4,c4,by omega,by go_num,rfl,?_,?_⟩
      ·exact Below.grown (HBI.o.trans (((Ext.mono (HX3.o.alloc _) HBI.o.size)))) hg4 (by simp; omega) (fun k hk=>(HOWN.o.blk hk).1)
      ·rw [List.take_succ_eq_append_getElem hlt2];refine OwnVs.push HVL.o (by rw [HLJ.o]; exact hown4) hg4 hat4 ⟨hq,hcc3⟩ ((HV3.o.keep (Kept.alloc _ _ _)).mono fun i _ hi=>⟨fun h0 => ?_,by omega⟩);have:=(HOI.o.blk h0).2;omega
     case measure=>simp [intOf]; omega
    ·have hjr:j=x.rows[k].length:=(by omega);subst hjr;have hrow2:=HOI.o;rw [List.take_of_length_le (Nat.le_refl _)] at hrow2;have hrow3:Row wr (fun b=>wo.heap.size≤b) q A' x.rows[k]:=hrow2.row hrl (fun b hb=>(hrow2.blk hb).1) (fun b hb=>hb);have hrel2:=(HR.o.below (HBI.o.mono HR.o.high)).below (((Ext.refl wr).alloc (.cells #[.slice A' x.rows[k].length c'] 50)).mono (Nat.le_trans HR.o.high HBI.o.size));have HREL2:=Hd hrel2;have HCRR:=Hd (show x.rows[k].length≤c' by obtain ⟨xs0,ho0,_⟩:=hrow2; exact ho0.cap);obtain ⟨hs,hown,hvl⟩:=hrel2.rows;have hlk:(x.rows.take k).length=k:=(by rw [List.length_take]; omega);have hhs:hs.length=k:=(by have:=hown.len; rw [hlk] at this; omega);rw [hlk] at hown;have HOWN:=Hd hown;have HVL:=Hd hvl;have HLK:=Hd hlk;have HHS:=Hd hhs;have HROW3:=Hd (hrow3.keep (Kept.alloc _ wr (.cells #[.slice A' x.rows[k].length c'] 50)));have hlow:=HR.o.low;have hhigh:=HR.o.high;clear hvl hown hlk hhs hrow2 hrow3 hrel2 hoi hbi
     go_wp2_with (at_builtin; go_must (refine wpList_app rfl (.tmp 39) (.tmp 41) rfl tiR rfl HOWN.o rfl (Blk.rd (Blk.new _ _ _)) rfl (by simp [Value.oneCell']) (by omega) (by decide) (by simp; omega) ?_); intro A4 c4 w4 hown4 hg4 hat4)
     go_roundw
     case rel =>
      refine ⟨k+1,A4,c4,w4.heap.size,by omega,by go_num,rfl,?_⟩;have hlow2:∀ b,ob Ar=some b→w.heap.size+2≤b:=fun b hb=>(HOWN.o.blk hb).1;have hold:=HREL2.o.own;have hsz4:=hg4.size;simp at hsz4;have hne:∀ i,i<H→ob Ar≠some i→ob A4≠some i:=by
       intro i hi h1 h2
       rcases hat4 with e | e <;> rw [e] at h2
       ·exact h1 h2
       ·simp at h2; omega
      refine ⟨Ext.grown HREL2.o.ext hg4 (fun b hb=>by have:=hlow2 b hb; omega),by omega,Nat.le_refl _,HREL2.o.box.keep (Kept.of_grown hg4 ?_),HREL2.o.res.keep (Kept.of_grown hg4 ?_),?_,?_,?_⟩
      ·rintro b rfl _ hb;have:=hlow2 _ hb.symm;omega
      ·rintro b rfl _ hb;have:=hlow2 _ hb.symm;omega
      ·refine (Strs.mono HREL2.o.cols (T:=fun b=>w.heap.size+2≤b∧b<w4.heap.size∧ob A4≠some b∧ob Ar≠some b) (fun i _ hi=>⟨hi.1,by omega,hne i hi.2.1 hi.2.2,hi.2.2⟩)).keep (Kept.of_grown hg4 (fun b hb _ h=>hb.2.2.2 h.symm)) |>.mono (fun i _ hi=>⟨hi.1,hi.2.1,hi.2.2.1⟩)
      ·rw [List.take_succ_eq_append_getElem hlt];refine OwnRs.push (w:=wr.alloc (.cells #[.slice A' x.rows[k].length c'] 50)) (by rw [HLK.o]; exact HHS.o) ?_ (by rw [HLK.o]; exact hown4) hg4 hat4 HCRR.o ?_
       ·intro i r hr;obtain ⟨B6,e6,h6,hcp,h7⟩:=HVL.o i r hr;exact ⟨B6,e6,h6,hcp,h7.mono fun i _ hi=>⟨hi.1,hi.2.1,by omega⟩⟩
       ·refine HROW3.o.mono fun i hi0 hi=>⟨fun h0 => ?_,by omega,by simp at hi0; omega⟩;have:=hold i h0;omega
      ·intro b hb;have:=hown4.blk hb;omega
     case measure=>simp [intOf]; omega
  ·have hke:k=x.rows.length:=(by omega);subst hke;clear hR;have hbox:=HR.o.box;have hres:=HR.o.res;have hext:=HR.o.ext;have g0:=hbox.cell (i:=0) rfl;have g1:=hbox.cell (i:=1) rfl;have g2:=hbox.cell (i:=2) rfl;have g3:=hbox.cell (i:=3) rfl;have g4:=hbox.cell (i:=4) rfl;have g5:=hbox.cell (i:=5) rfl;have g6:=hbox.cell (i:=6) rfl;have f0:=hbox.frozen;have r0:=hres.cell (i:=0) rfl;have r1:=hres.cell (i:=1) rfl;have r2:=hres.cell (i:=2) rfl;have r3:=hres.cell (i:=3) rfl;have r4:=hres.cell (i:=4) rfl;have r5:=hres.cell (i:=5) rfl;have r6:=hres.cell (i:=6) rfl;have f1:=hres.frozen;have z1:=hbox.lt;have z2:=hres.lt;have HE:=Hd hext;clear hbox hres hext;go_wp2;have hkept:∀ wz:World,Kept (fun b=>w.heap.size+2≤b) wr wz→RV wz (Fresh w) q x A1 Ar:=by
    intro wz hkz;have hcols:=HR.o.cols.mono (T:=fun b=>w.heap.size+2≤b) (fun i _ hi=>hi.1);have hrs:=HR.o.rows;rw [List.take_of_length_le (Nat.le_refl _)] at hrs;have hrows:Rows wr (fun b=>w.heap.size+2≤b) q Ar x.rows:=hrs.rows hlen (fun b hb=>(hrs.blk hb).1) (fun b hb=>hb.1);exact (RV.mk HX.o.size (hcols.keep hkz) (hrows.keep hkz)).mono (fun i _ hi=>by unfold Fresh; omega)
   have HK:=Hd hkept;have HCAP:=Hd (show x.rows.length≤cr by
    have hrs:=HR.o.rows;rw [List.take_of_length_le (Nat.le_refl _)] at hrs;obtain ⟨xs0,ho0,_⟩:=hrs;exact ho0.cap)
   clear hkept;refine bodyPost_ret (v:=(.agg #[.int .i64 x.kind,.string x.s,.int .i64 x.dn,.int .i64 x.ds,.int .i64 x.n,.slice A1 x.cols.length c1,.slice Ar x.rows.length cr])) (by simp [results,Tryz.results43,go_sem,r0,r1,r2,r3,r4,r5,r6]) rfl ⟨A1,c1,Ar,cr,rfl,⟨hcc1,HCAP.o⟩,HK.o _ ?_,?_⟩
   ·iterate 8 with_reducible refine Kept.set2 ?_ (by show ¬ (_≤_); omega)
    with_reducible exact Kept.refl _ _
   ·iterate 8 with_reducible refine Ext.set2 ?_ (by omega) _
    with_reducible exact HE.o

theorem value_Copy (q:Nat):PCopy q:=by
 induction q with
 | zero=>exact value_Copy_step 0 (fun h=>absurd h (by omega))
 | succ q ih=>exact value_Copy_step (q+1) (fun _=>ih)
end Go.Proofs.YthmckfloppblcaaGreatDoor
