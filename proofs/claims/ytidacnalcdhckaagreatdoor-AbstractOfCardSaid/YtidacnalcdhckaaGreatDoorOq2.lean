/- Lemmas. No conditions. -/
import Derived.Test.YtidacnalcdhckaaGreatDoorOq1
import Derived.Laws.MakeOwn
import Derived.WalkSpells
set_option maxRecDepth 100000
set_option maxHeartbeats 400000
namespace Go.Proofs.YtidacnalcdhckaaGreatDoor
open Go Go.RowKit Tryz
variable {qP:Prop}

def Own(w:World)(base e sz:Nat)(A:OA)(n c:Nat)(xs:List Value):Prop:=w.ownsRow base e sz (.slice A n c) n xs
def ob(A:OA):Option Nat:=A.map (·.block)
theorem CLA(A:OA)(n c:Nat):(Value.slice A n c).ownBlock=ob A:=by cases A<;>rfl
def TI(P:Program)(t e sz by_:Nat):Prop:=P.underlying t=some (.slice e)∧∃ i z,P.info? e=some i∧i.zero=some z∧i.size=sz∧i.bytes=by_∧z.cells.size=sz∧0<sz
section
variable {w w':World}{base e sz n c:Nat}{A:OA}{xs:List Value}
theorem Own.nil(w:World)(base e sz:Nat):Own w base e sz none 0 0 []:=World.ownsRow_nil w base e sz
theorem Own.len(h:Own w base e sz A n c xs):xs.length=n*sz:=h.1
theorem Own.blk(h:Own w base e sz A n c xs){k:Nat}(hk:ob A=some k):base≤k∧k<w.heap.size:=World.ownsRow.lt h k (by rw [CLA];exact hk)
theorem Own.cap(h:Own w base e sz A n c xs):n≤c:=by
 rcases h.2 with ⟨hv,hn⟩|⟨g,cap,cur,hv,_,_,hnc,_⟩
 ·rw [hn];exact AN
 ·injection hv with _ _ h2;rw [h2];exact hnc
theorem Own.kept{row:Option Nat}(h:Own w base e sz A n c xs)(hg:w.grownBy w' row)(hne:ob A=none∨ob A≠row):Own w' base e sz A n c xs :=
 World.ownsRow.kept h hg (by rw [CLA];exact hne)
theorem Own.ext(h:Own w base e sz A n c xs)(hx:Ext w w'):Own w' base e sz A n c xs:=by
 refine ⟨h.1,?_⟩
 rcases h.2 with h2|⟨g,cap,cur,hv,hb,hh,r⟩
 ·exact Or.inl h2
 ·refine Or.inr ⟨g,cap,cur,hv,hb,?_,r⟩;have hlt:g<w.heap.size:=by
   exact Z9472c5183
  rw [hx.block g hlt];exact hh
theorem Own.rd(h:Own w base e sz A n c xs):Rd w (fun b=>ob A=some b) A xs:=by
 rcases Rd.of_own h with h0|⟨b,o,h1,h2,h3,h4⟩
 ·exact Or.inl h0
 ·exact Or.inr ⟨b,o,h1,by subst h1;rfl,h3,h4⟩
theorem Own.set(h:Own w base e sz A n c xs){p:Addr}(hp:ob A≠some p.block)(u:Value):Own (w.setCell p u) base e sz A n c xs:=by
 refine ⟨h.1,?_⟩
 rcases h.2 with h2|⟨g,cap,cur,hv,hb,hh,r⟩
 ·exact Or.inl h2
 ·refine Or.inr ⟨g,cap,cur,hv,hb,?_,r⟩;rw [Below.heap_setCell _ _ _ _ (fun e=>hp (by
   have hA:A=some ⟨g,0,none⟩:=(by injection hv);subst hA;exact congrArg some e))]
  exact hh
theorem Own.keep(h:Own w base e sz A n c xs)(hk:Kept (fun b=>ob A=some b) w w'):Own w' base e sz A n c xs:=by
 refine ⟨h.1,?_⟩
 rcases h.2 with h2|⟨g,cap,cur,hv,hb,hh,r⟩
 ·exact Or.inl h2
 ·refine Or.inr ⟨g,cap,cur,hv,hb,?_,r⟩;have hA:A=some ⟨g,0,none⟩:=(by injection hv);have hlt:g<w.heap.size:=by
   exact Z9472c5183
  rw [hk.2 g (by rw [hA];rfl) hlt];exact hh
theorem ITA(w:World)(e sz cap:Nat)(cur:Array Value)(hm:cap≤maxLen)(hs:cur.size=cap*sz) :
  Own (w.alloc (.cells cur e)) w.heap.size e sz (some ⟨w.heap.size,0,none⟩) 0 cap [] :=
 World.ownsRow_made w cur cap (Al) hm hs
theorem Own.lower{base':Nat}(h:Own w base e sz A n c xs)(hb:base'≤base):Own w base' e sz A n c xs:=by
 refine ⟨h.1,?_⟩
 rcases h.2 with h2|⟨g,cap,cur,hv,hb',r⟩
 ·exact Or.inl h2
 ·exact Or.inr ⟨g,cap,cur,hv,Nat.le_trans hb hb',r⟩

theorem GJ(h:qP:=by simpa using hl):qP:=h
theorem Dg(h:qP:=by simpa using hown):qP:=h
theorem Bd(h:qP:=by unfold maxLen;omega):qP:=h
theorem CAA{P:Program}(w:World){t by_:Nat}(ty:TypeId)(ti:TI P t e sz by_)(hown:Own w base e sz A n c xs){S:NP}{B:OA}{m c2:Nat}{news:List Value}
  (hr:Rd w S B news) (hl:news.length=m*sz) (h1:∀ u∈news,u.oneCell'=true) (h63:(n+m)*by_≤140737488355328) (hby:0<by_) (hbase:base≤w.heap.size) :
  ∃ A' c' w',(Builtin.append_ #[t,t] ty #[.slice A n c,.slice B m c2]).run P w=.ok (.slice A' (n+m) c') w'∧Own w' base e sz A' (n+m) c' (xs++news)∧w.grownBy w' (ob A) ∧
   (ob A'=ob A∨ob A'=some w.heap.size):=by
 obtain ⟨ht,i,z,hi,hz,hsize,hbytes,hzs,hsz⟩:=ti;have hnm:n+m≤140737488355328:=by
  have:(n+m)*1≤(n+m)*by_:=Nat.mul_le_mul_left _ hby;omega
 have hform:∀ {w':World} {v:Value},w'.ownsRow base e sz v (n+m) (xs++news)→∃ A' c',v=.slice A' (n+m) c':=by
  intro w' v h
  rcases h.2 with ⟨rfl,h0⟩|⟨g,cap,cur,rfl,_⟩
  ·exact ⟨none,0,by rw [h0]⟩
  ·exact ⟨_,_,rfl⟩
 by_cases hm:m=0
 ·subst hm;have hn:news=[]:=List.eq_nil_of_length_eq_zero GJ;subst hn;refine ⟨A,c,w,?_,Dg,⟨rfl,rfl,rfl,Al,fun _ _ _=>rfl⟩,.inl rfl⟩
  rcases hown.2 with ⟨hv,h0⟩|⟨g,cap,cur,hv,_,_,hnc,_⟩
  ·injection hv with h1 _ h2;subst h1;subst h2;subst h0;cases B<;>simp [Builtin.append_,run_underlying ht,sizeOf,typeInfo,hi,Builtin.lenOf,Builtin.firstCells,loadCells,loadCellsFrom]
  ·injection hv with h1 _ h2;subst h1;subst h2;cases B<;>simp [Builtin.append_,run_underlying ht,sizeOf,typeInfo,hi,Builtin.lenOf,Builtin.firstCells,hnc,storeCells,loadCells,loadCellsFrom]
 ·have hne:news≠[]:=by
   intro h0;subst h0;have:=Nat.mul_eq_zero.1 (show m*sz=0 from hl.symm);omega
  obtain ⟨b,o,rfl,_,_,hc⟩:=hr.some_ hne;obtain ⟨v',w',hrun,h2,h3,_,h5⟩:=run_append_own_at (P:=P) w base t ty e i z sz by_ ht hi hz hsize hbytes hzs hsz (.slice A n c) n xs hown ⟨b,o,none⟩ m c2 news hl
   (fun j u hj=>by rw [Addr.add_lit];exact hc j u hj) h1 Bd h63 hbase
  obtain ⟨A',c',rfl⟩:=hform h2;rw [CLA] at h3 h5;rw [CLA] at h5;exact ⟨A',c',w',hrun,h2,h3,h5⟩

theorem AL{P:Program}{ops:Array Oper}{rest:List Oper}{o:Oper}{a:Act}{Q:Exit→Act→World→Prop}(hgd:o.guard=none)(s x:Operand){t by_:Nat}
  (ho:o.op=.call { callee:=.builtin .append,args:=#[s,x],argTypes:=#[t,t] }) (ti:TI P t e sz by_) (hs:a.eval s=.slice A n c) (hown:Own w base e sz A n c xs)
  {S:NP} {B:OA} {m c2:Nat} {news:List Value} (hx:a.eval x=.slice B m c2) (hr:Rd w S B news) (hl:news.length=m*sz) (h1:∀ u∈news,u.oneCell'=true)
  (h63:(n+m)*by_≤140737488355328) (hby:0<by_) (hbase:base≤w.heap.size)
  (h:∀ A' c' w',Own w' base e sz A' (n+m) c' (xs++news)→w.grownBy w' (ob A)→(ob A'=ob A∨ob A'=some w.heap.size)→wpList P ops Q rest (a.put o.dst (.slice A' (n+m) c')) w') :
  wpList P ops Q (o::rest) a w:=by
 obtain ⟨A',c',w',hrun,h2,h3,h4⟩:=CAA w o.type ti hown (c2:=c2) hr hl h1 h63 hby hbase;refine wpList_plain hgd fun K hK => ?_;unfold Oper.wp execOp;simp only [ho,resolve,invoke,builtin,Sem.run_bind,Sem.run_pure,Result.andThen_ok,List.map_toArray,List.map_cons,List.map_nil,hs,hx,hrun];exact hK _ _ (h A' c' w' h2 h3 h4)
end

def Blk(w:World)(g t:Nat)(cs:Array Value):Prop:=w.heap[g]?=some (.cells cs t (0,0))
theorem Blk.lt{w:World}{g t:Nat}{cs:Array Value}(h:Blk w g t cs):g<w.heap.size:=by
 rcases Nat.lt_or_ge g w.heap.size with hlt|hge
 ·exact hlt
 ·unfold Blk at h;rw [Array.getElem?_eq_none hge] at h;cases h
theorem Blk.cell{w:World}{g t:Nat}{cs:Array Value}(h:Blk w g t cs){i:Nat}{u:Value}(hi:cs[i]?=some u):w.cell? ⟨g,i,none⟩=some u:=by
 unfold Blk at h;simp [World.cell?,h,hi]
theorem Blk.q0{w:World}{g t:Nat}{cs:Array Value}{v:Value}(h:Blk w g t cs)(e:cs[0]?=some v:=by exact rfl):w.cell? ⟨g,0,none⟩=some v:=h.cell e
theorem Blk.q1{w:World}{g t:Nat}{cs:Array Value}{v:Value}(h:Blk w g t cs)(e:cs[1]?=some v:=by exact rfl):w.cell? ⟨g,1,none⟩=some v:=h.cell e
theorem Blk.q2{w:World}{g t:Nat}{cs:Array Value}{v:Value}(h:Blk w g t cs)(e:cs[2]?=some v:=by exact rfl):w.cell? ⟨g,2,none⟩=some v:=h.cell e
theorem Blk.q3{w:World}{g t:Nat}{cs:Array Value}{v:Value}(h:Blk w g t cs)(e:cs[3]?=some v:=by exact rfl):w.cell? ⟨g,3,none⟩=some v:=h.cell e
theorem Blk.q4{w:World}{g t:Nat}{cs:Array Value}{v:Value}(h:Blk w g t cs)(e:cs[4]?=some v:=by exact rfl):w.cell? ⟨g,4,none⟩=some v:=h.cell e
theorem Blk.q5{w:World}{g t:Nat}{cs:Array Value}{v:Value}(h:Blk w g t cs)(e:cs[5]?=some v:=by exact rfl):w.cell? ⟨g,5,none⟩=some v:=h.cell e
theorem Blk.q6{w:World}{g t:Nat}{cs:Array Value}{v:Value}(h:Blk w g t cs)(e:cs[6]?=some v:=by exact rfl):w.cell? ⟨g,6,none⟩=some v:=h.cell e
theorem Blk.q7{w:World}{g t:Nat}{cs:Array Value}{v:Value}(h:Blk w g t cs)(e:cs[7]?=some v:=by exact rfl):w.cell? ⟨g,7,none⟩=some v:=h.cell e
theorem Blk.q8{w:World}{g t:Nat}{cs:Array Value}{v:Value}(h:Blk w g t cs)(e:cs[8]?=some v:=by exact rfl):w.cell? ⟨g,8,none⟩=some v:=h.cell e
theorem Blk.q9{w:World}{g t:Nat}{cs:Array Value}{v:Value}(h:Blk w g t cs)(e:cs[9]?=some v:=by exact rfl):w.cell? ⟨g,9,none⟩=some v:=h.cell e
theorem Blk.q10{w:World}{g t:Nat}{cs:Array Value}{v:Value}(h:Blk w g t cs)(e:cs[10]?=some v:=by exact rfl):w.cell? ⟨g,10,none⟩=some v:=h.cell e
theorem Blk.q11{w:World}{g t:Nat}{cs:Array Value}{v:Value}(h:Blk w g t cs)(e:cs[11]?=some v:=by exact rfl):w.cell? ⟨g,11,none⟩=some v:=h.cell e
theorem Blk.q12{w:World}{g t:Nat}{cs:Array Value}{v:Value}(h:Blk w g t cs)(e:cs[12]?=some v:=by exact rfl):w.cell? ⟨g,12,none⟩=some v:=h.cell e
theorem Blk.q13{w:World}{g t:Nat}{cs:Array Value}{v:Value}(h:Blk w g t cs)(e:cs[13]?=some v:=by exact rfl):w.cell? ⟨g,13,none⟩=some v:=h.cell e
theorem Blk.q14{w:World}{g t:Nat}{cs:Array Value}{v:Value}(h:Blk w g t cs)(e:cs[14]?=some v:=by exact rfl):w.cell? ⟨g,14,none⟩=some v:=h.cell e
theorem Blk.q15{w:World}{g t:Nat}{cs:Array Value}{v:Value}(h:Blk w g t cs)(e:cs[15]?=some v:=by exact rfl):w.cell? ⟨g,15,none⟩=some v:=h.cell e
theorem Blk.q16{w:World}{g t:Nat}{cs:Array Value}{v:Value}(h:Blk w g t cs)(e:cs[16]?=some v:=by exact rfl):w.cell? ⟨g,16,none⟩=some v:=h.cell e
theorem Blk.q17{w:World}{g t:Nat}{cs:Array Value}{v:Value}(h:Blk w g t cs)(e:cs[17]?=some v:=by exact rfl):w.cell? ⟨g,17,none⟩=some v:=h.cell e
theorem Blk.qs2{w:World}{g t:Nat}{cs:Array Value}{v0 v1:Value}(h:Blk w g t cs)(e0:cs[0]?=some v0:=by exact rfl)(e1:cs[1]?=some v1:=by exact rfl):w.cell? ⟨g,0,none⟩=some v0∧w.cell? ⟨g,1,none⟩=some v1:=⟨h.cell e0,h.cell e1⟩
theorem Blk.qs3{w:World}{g t:Nat}{cs:Array Value}{v0 v1 v2:Value}(h:Blk w g t cs)(e0:cs[0]?=some v0:=by exact rfl)(e1:cs[1]?=some v1:=by exact rfl)(e2:cs[2]?=some v2:=by exact rfl):w.cell? ⟨g,0,none⟩=some v0∧w.cell? ⟨g,1,none⟩=some v1∧w.cell? ⟨g,2,none⟩=some v2:=⟨h.cell e0,h.cell e1,h.cell e2⟩
theorem Blk.qs4{w:World}{g t:Nat}{cs:Array Value}{v0 v1 v2 v3:Value}(h:Blk w g t cs)(e0:cs[0]?=some v0:=by exact rfl)(e1:cs[1]?=some v1:=by exact rfl)(e2:cs[2]?=some v2:=by exact rfl)(e3:cs[3]?=some v3:=by exact rfl):w.cell? ⟨g,0,none⟩=some v0∧w.cell? ⟨g,1,none⟩=some v1∧w.cell? ⟨g,2,none⟩=some v2∧w.cell? ⟨g,3,none⟩=some v3:=⟨h.cell e0,h.cell e1,h.cell e2,h.cell e3⟩
theorem Blk.qs5{w:World}{g t:Nat}{cs:Array Value}{v0 v1 v2 v3 v4:Value}(h:Blk w g t cs)(e0:cs[0]?=some v0:=by exact rfl)(e1:cs[1]?=some v1:=by exact rfl)(e2:cs[2]?=some v2:=by exact rfl)(e3:cs[3]?=some v3:=by exact rfl)(e4:cs[4]?=some v4:=by exact rfl):w.cell? ⟨g,0,none⟩=some v0∧w.cell? ⟨g,1,none⟩=some v1∧w.cell? ⟨g,2,none⟩=some v2∧w.cell? ⟨g,3,none⟩=some v3∧w.cell? ⟨g,4,none⟩=some v4:=⟨h.cell e0,h.cell e1,h.cell e2,h.cell e3,h.cell e4⟩
theorem Blk.qs7{w:World}{g t:Nat}{cs:Array Value}{v0 v1 v2 v3 v4 v5 v6:Value}(h:Blk w g t cs)(e0:cs[0]?=some v0:=by exact rfl)(e1:cs[1]?=some v1:=by exact rfl)(e2:cs[2]?=some v2:=by exact rfl)(e3:cs[3]?=some v3:=by exact rfl)(e4:cs[4]?=some v4:=by exact rfl)(e5:cs[5]?=some v5:=by exact rfl)(e6:cs[6]?=some v6:=by exact rfl):w.cell? ⟨g,0,none⟩=some v0∧w.cell? ⟨g,1,none⟩=some v1∧w.cell? ⟨g,2,none⟩=some v2∧w.cell? ⟨g,3,none⟩=some v3∧w.cell? ⟨g,4,none⟩=some v4∧w.cell? ⟨g,5,none⟩=some v5∧w.cell? ⟨g,6,none⟩=some v6:=⟨h.cell e0,h.cell e1,h.cell e2,h.cell e3,h.cell e4,h.cell e5,h.cell e6⟩
theorem Blk.frozen{w:World}{g t:Nat}{cs:Array Value}(h:Blk w g t cs)(i:Nat):w.frozen? ⟨g,i,none⟩=false:=by
 unfold Blk at h;simp [World.frozen?,h]
theorem Blk.keep{w w':World}{g t:Nat}{cs:Array Value}(h:Blk w g t cs)(hk:Kept (fun b=>b=g) w w'):Blk w' g t cs:=(hk.2 g rfl h.lt).trans h
theorem Blk.new(w:World)(t:Nat)(cs:Array Value):Blk (w.alloc (.cells cs t)) w.heap.size t cs:=heap_alloc_new w _
theorem Blk.set{w:World}{g t:Nat}{cs:Array Value}(h:Blk w g t cs)(i:Nat)(u:Value):Blk (w.setCell ⟨g,i,none⟩ u) g t (cs.setIfInBounds i u):=by
 unfold Blk at h⊢;simp [World.setCell,Array.getElem?_modify,h]
theorem ET(h:qP:=by simpa using hj):qP:=h
theorem Blk.rd{w:World}{g t:Nat}{cs:Array Value}(h:Blk w g t cs):Rd w (fun b=>b=g) (some ⟨g,0,none⟩) cs.toList :=
 Or.inr ⟨g,0,rfl,rfl,h.lt,fun j u hj=>by rw [Nat.zero_add];exact h.cell ET⟩
theorem IEA{w w':World}{B:Nat}{S:NP}(h:Below B w w')(hS:∀ b,S b→b<w.heap.size→b<B):Kept S w w':=⟨h.size,fun b hb hl=>h.block b (hS b hb hl)⟩

def VL(R:Val→List Value→Prop)(xs:List Value)(l:List Val):Prop:=xs.length=l.length*7∧∀ (j:Nat) (y:Val),l[j]?=some y→R y ((xs.drop (j*7)).take 7)
theorem VL.nil(R:Val→List Value→Prop):VL R [] []:=⟨rfl,AC⟩
theorem VL.imp{R R':Val→List Value→Prop}{xs:List Value}{l:List Val}(h:VL R xs l)(f:∀ y cs,R y cs→R' y cs):VL R' xs l:=⟨h.1,fun j y hj=>f _ _ (h.2 j y hj)⟩
theorem Sy(h:qP:=by
 rw [List.getElem?_append_left hlt] at hj;have hz:=h.2 j z hj;have hx:=h.1;rw [List.drop_append_of_le_length (by omega),List.take_append_of_le_length (by simp;omega)];exact hz):qP:=h
theorem AI(h:qP:=by simp;omega):qP:=h
theorem VL.snoc{R:Val→List Value→Prop}{xs cs:List Value}{l:List Val}{y:Val}(h:VL R xs l)(hc:cs.length=7)(hy:R y cs):VL R (xs++cs) (l++[y]):=by
 refine ⟨by simp [h.1,hc];omega,fun j z hj => ?_⟩
 rcases Nat.lt_or_ge j l.length with hlt|hge
 ·exact Sy
 ·rw [List.getElem?_append_right hge] at hj;have hj0:j-l.length=0:=by
   rcases Nat.eq_zero_or_pos (j-l.length) with h0|h0
   ·exact h0
   ·rw [List.getElem?_eq_none AI] at hj;cases hj
  rw [hj0] at hj;simp at hj;subst hj;have:j=l.length:=AA;subst this;rw [←h.1,List.drop_left,List.take_of_length_le AA];exact hy
theorem VL.append{R:Val→List Value→Prop}{xs ys:List Value}{l m:List Val}(h:VL R xs l)(k:VL R ys m):VL R (xs++ys) (l++m):=by
 refine ⟨by simp [h.1,k.1];omega,fun j z hj => ?_⟩
 rcases Nat.lt_or_ge j l.length with hlt|hge
 ·exact Sy
 ·rw [List.getElem?_append_right hge] at hj;have hz:=k.2 _ z hj;have hx:=h.1;rw [show j*7=xs.length+(j-l.length)*7 by omega,←List.drop_drop,List.drop_left];exact hz
theorem RVs.iff{R:Val→List Value→Prop}{w:World}{S:NP}{A:OA}{l:List Val} : RVs R w S A l↔l.length≤4294967296∧∃ xs,Rd w S A xs∧VL R xs l:=Iff.rfl

def CV(w:World)(S:NP)(d:Nat)(y:Val)(cs:List Value):Prop:=∃ A c B e,cs=En y A c B e∧(0<d∧y.cols.length≤c∧y.rows.length≤e)∧RV w S (d-1) y A B
theorem CV.keep{w w':World}{S:NP}{d:Nat}{y:Val}{cs:List Value}(h:CV w S d y cs)(k:Kept S w w'):CV w' S d y cs:=by
 obtain ⟨A,c,B,e,h1,h2,h3⟩:=h;exact ⟨A,c,B,e,h1,h2,h3.keep k⟩
theorem CV.mono{w:World}{S T:NP}{d:Nat}{y:Val}{cs:List Value}(h:CV w S d y cs)(k:∀ i,i<w.heap.size→S i→T i):CV w T d y cs:=by
 obtain ⟨A,c,B,e,h1,h2,h3⟩:=h;exact ⟨A,c,B,e,h1,h2,h3.mono k⟩
theorem RV.move{w w':World}{S T:NP}{d:Nat}{x:Val}{A B:OA}(h:RV w S d x A B)(k:Kept S w w')(m:∀ i,i<w.heap.size→S i→T i):RV w' T d x A B :=
 ((h.mono (T:=fun b=>S b∧T b) fun i hi hs=>⟨hs,m i hi hs⟩).keep (k.mono fun _ _ hh=>hh.1)).mono fun _ _ hh=>hh.2
theorem Row.move{w w':World}{S T:NP}{d:Nat}{l:List Val}{B:OA}(h:Row w S d B l)(k:Kept S w w')(m:∀ i,i<w.heap.size→S i→T i):Row w' T d B l :=
 ((Row.mono h (T:=fun b=>S b∧T b) fun i hi hs=>⟨hs,m i hi hs⟩).keep (k.mono fun _ _ hh=>hh.1)).mono fun _ _ hh=>hh.2
theorem CV.move{w w':World}{S T:NP}{d:Nat}{y:Val}{cs:List Value}(h:CV w S d y cs)(k:Kept S w w')(m:∀ i,i<w.heap.size→S i→T i):CV w' T d y cs:=by
 obtain ⟨A,c,B,e,h1,h2,h3⟩:=h;exact ⟨A,c,B,e,h1,h2,h3.move k m⟩
theorem BIA{x:Val}{A B:OA}{c e:Nat} : ∀ u∈En x A c B e,u.oneCell'=true:=by
 intro u hu;simp [En] at hu
 rcases hu with rfl|rfl|rfl|rfl|rfl|rfl|rfl<;>rfl
theorem CV.one{w:World}{S:NP}{d:Nat}{y:Val}{cs:List Value}(h:CV w S d y cs):cs.length=7∧∀ u∈cs,u.oneCell'=true:=by
 obtain ⟨A,c,B,e,rfl,_⟩:=h;exact ⟨rfl,BIA⟩
theorem VL.one{w:World}{S:NP}{d:Nat}{xs:List Value}{l:List Val}(h:VL (CV w S d) xs l):∀ u∈xs,u.oneCell'=true:=by
 intro u hu;obtain ⟨i,hi,rfl⟩:=List.mem_iff_getElem.1 hu;have hx:=h.1;have hj:i / 7<l.length:=AA;have h7:=(h.2 (i / 7) _ (List.getElem?_eq_getElem hj)).one.2;refine h7 _ (List.mem_iff_getElem.2 ⟨i % 7,?_,?_⟩)
 ·simp;omega
 ·rw [List.getElem_take,List.getElem_drop];congr 1;omega

def OwnVs(w:World)(base:Nat)(X:NP)(d:Nat)(A:OA)(c:Nat)(l:List Val):Prop :=
 ∃ xs,Own w base 29 7 A l.length c xs∧VL (CV w (fun b=>ob A≠some b∧X b) d) xs l
def OwnRs(w:World)(base:Nat)(X:NP)(d:Nat)(A:OA)(c:Nat)(l:List (List Val)):Prop :=
 ∃ hs,Own w base 47 1 A l.length c hs∧∀ (i:Nat) (r:List Val),l[i]?=some r→∃ (B:OA) (e:Nat),hs[i]?=some (Value.slice B r.length e)∧r.length≤e∧Row w (fun b=>ob A≠some b∧X b) d B r
def OwnSs(w:World)(base:Nat)(A:OA)(c:Nat)(l:List BA):Prop:=Own w base 9 1 A l.length c (l.map Value.string)∧∀ s∈l,s.size≤4294967296
def OwnIs(w:World)(base:Nat)(A:OA)(c:Nat)(l:List Int):Prop:=Own w base 3 1 A l.length c (l.map (Value.int .i64))

section
variable {w w':World}{base c c' d:Nat}{X T:NP}{A A':OA}
theorem OwnVs.nil(w:World)(base:Nat)(X:NP)(d:Nat):OwnVs w base X d none 0 []:=⟨[],Own.nil _ _ _ _,VL.nil _⟩
theorem OwnVs.ext{l:List Val}(h:OwnVs w base X d A c l)(hx:Ext w w'):OwnVs w' base X d A c l:=by
 obtain ⟨xs,h1,h2⟩:=h;exact ⟨xs,h1.ext hx,h2.imp fun _ _ hh=>hh.keep (hx.kept _)⟩
theorem OwnVs.keep{l:List Val}(h:OwnVs w base X d A c l)(hk:Kept (fun b=>ob A=some b∨X b) w w'):OwnVs w' base X d A c l:=by
 obtain ⟨xs,h1,h2⟩:=h;exact ⟨xs,h1.keep (hk.mono fun _ _ hh=>Or.inl hh),h2.imp fun _ _ hh=>hh.keep (hk.mono fun _ _ hh=>Or.inr hh.2)⟩
theorem Zf(h:qP:=by
 intro h;injection h with h;omega):qP:=h
theorem GO(h:qP:=by
 rintro i hi ⟨h1,h2⟩;refine ⟨?_,h2⟩
 rcases hat with e|e<;>rw [e]
 ·exact h1
 ·exact Zf):qP:=h
theorem OwnVs.push{l:List Val}{y:Val}{A1 B1:OA}{c1 e1:Nat}{xs:List Value}(hv:VL (CV w (fun b=>ob A≠some b∧X b) d) xs l)(hown:Own w' base 29 7 A' (l.length+1) c' (xs++En y A1 c1 B1 e1))
  (hg:w.grownBy w' (ob A)) (hat:ob A'=ob A∨ob A'=some w.heap.size) (hd:0<d∧y.cols.length≤c1∧y.rows.length≤e1) (hy:RV w (fun b=>ob A≠some b∧X b) (d-1) y A1 B1):OwnVs w' base X d A' c' (l++[y]):=by
 have hk:Kept (fun b=>ob A≠some b∧X b) w w':=Kept.of_grown hg (fun b hb _ e=>hb.1 e.symm);have hm:∀ i,i<w.heap.size→(ob A≠some i∧X i)→(ob A'≠some i∧X i):=by
  exact GO
 refine ⟨_,Dg,?_⟩;exact VL.snoc (hv.imp fun _ _ hh=>hh.move hk hm) rfl ⟨_,_,_,_,rfl,hd,hy.move hk hm⟩
theorem OwnVs.row{l:List Val}(h:OwnVs w base X d A c l)(hl:l.length≤4294967296)(h1:∀ b,ob A=some b→T b)(h2:∀ b,X b→T b):Row w T d A l:=by
 obtain ⟨xs,ho,hv⟩:=h;exact ⟨hl,xs,ho.rd.mono fun i _ hi=>h1 i hi,hv.1,fun j y hj=>(hv.2 j y hj).mono fun i _ hi=>h2 i hi.2⟩
theorem ID(h:qP:=by
 obtain ⟨xs,ho,_⟩:=h;exact ho.blk hk):qP:=h
theorem OwnVs.blk{l:List Val}(h:OwnVs w base X d A c l){k:Nat}(hk:ob A=some k):base≤k∧k<w.heap.size:=by
 exact ID
theorem OwnVs.lower{base':Nat}{l:List Val}(h:OwnVs w base X d A c l)(hb:base'≤base):OwnVs w base' X d A c l:=by
 obtain ⟨xs,h1,h2⟩:=h;exact ⟨xs,h1.lower hb,h2⟩
theorem OwnRs.nil(w:World)(base:Nat)(X:NP)(d:Nat):OwnRs w base X d none 0 []:=⟨[],Own.nil _ _ _ _,AC⟩
theorem OwnRs.ext{l:List (List Val)}(h:OwnRs w base X d A c l)(hx:Ext w w'):OwnRs w' base X d A c l:=by
 obtain ⟨hs,h1,h2⟩:=h;refine ⟨hs,h1.ext hx,fun i r hr => ?_⟩;obtain ⟨B,e,h3,hcp,h4⟩:=h2 i r hr;exact ⟨B,e,h3,hcp,Row.keep h4 (hx.kept _)⟩
theorem OwnRs.keep{l:List (List Val)}(h:OwnRs w base X d A c l)(hk:Kept (fun b=>ob A=some b∨X b) w w'):OwnRs w' base X d A c l:=by
 obtain ⟨hs,h1,h2⟩:=h;refine ⟨hs,h1.keep (hk.mono fun _ _ hh=>Or.inl hh),fun i r hr => ?_⟩;obtain ⟨B,e,h3,hcp,h4⟩:=h2 i r hr;exact ⟨B,e,h3,hcp,Row.keep h4 (hk.mono fun _ _ hh=>Or.inr hh.2)⟩
theorem OwnRs.mono{l:List (List Val)}(h:OwnRs w base X d A c l)(hm:∀ b,b<w.heap.size→X b→T b):OwnRs w base T d A c l:=by
 obtain ⟨hs,h1,h2⟩:=h;refine ⟨hs,h1,fun i r hr => ?_⟩;obtain ⟨B,e,h3,hcp,h4⟩:=h2 i r hr;exact ⟨B,e,h3,hcp,Row.mono h4 fun i hi hh=>⟨hh.1,hm i hi hh.2⟩⟩
theorem OwnVs.mono{l:List Val}(h:OwnVs w base X d A c l)(hm:∀ b,b<w.heap.size→X b→T b):OwnVs w base T d A c l:=by
 obtain ⟨xs,h1,h2⟩:=h;exact ⟨xs,h1,h2.imp fun _ _ hh=>hh.mono fun i hi hh=>⟨hh.1,hm i hi hh.2⟩⟩
theorem BfA(h:qP:=by
 rw [List.getElem?_eq_none (by simp;omega)] at hr;cases hr):qP:=h
theorem Lt(h:qP:=by
 rcases Nat.eq_zero_or_pos (i-l.length) with h0|h0
 ·exact h0
 ·exact BfA):qP:=h
theorem OwnRs.push{l:List (List Val)}{r:List Val}{B:OA}{e:Nat}{hs:List Value}(ho:hs.length=l.length)
  (hv:∀ (i:Nat) (r:List Val),l[i]?=some r→∃ (B:OA) (e:Nat),hs[i]?=some (Value.slice B r.length e)∧r.length≤e∧Row w (fun b=>ob A≠some b∧X b) d B r)
  (hown:Own w' base 47 1 A' (l.length+1) c' (hs++[Value.slice B r.length e])) (hg:w.grownBy w' (ob A)) (hat:ob A'=ob A∨ob A'=some w.heap.size)
  (hre:r.length≤e) (hy:Row w (fun b=>ob A≠some b∧X b) d B r):OwnRs w' base X d A' c' (l++[r]):=by
 have hk:Kept (fun b=>ob A≠some b∧X b) w w':=Kept.of_grown hg (fun b hb _ e=>hb.1 e.symm);have hm:∀ i,i<w.heap.size→(ob A≠some i∧X i)→(ob A'≠some i∧X i):=by
  exact GO
 refine ⟨_,Dg,fun i r' hr => ?_⟩
 rcases Nat.lt_or_ge i l.length with hlt|hge
 ·rw [List.getElem?_append_left hlt] at hr;obtain ⟨B',e',h3,hcp,h4⟩:=hv i r' hr;exact ⟨B',e',by rw [List.getElem?_append_left AA];exact h3,hcp,Row.move h4 hk hm⟩
 ·rw [List.getElem?_append_right hge] at hr;have hj0:i-l.length=0:=by
   exact Lt
  rw [hj0] at hr;simp at hr;subst hr;exact ⟨B,e,by rw [List.getElem?_append_right AA,ho,hj0];rfl,hre,Row.move hy hk hm⟩
theorem OwnRs.rows{l:List (List Val)}(h:OwnRs w base X d A c l)(hl:l.length≤4294967296)(h1:∀ b,ob A=some b→T b)(h2:∀ b,X b→T b):Rows w T d A l:=by
 obtain ⟨hs,ho,hv⟩:=h;refine ⟨hl,hs,ho.rd.mono fun i _ hi=>h1 i hi,by simpa using ho.len,fun i r hr => ?_⟩;obtain ⟨B,e,h3,hcp,h4⟩:=hv i r hr;exact ⟨B,e,h3,hcp,Row.mono h4 fun i _ hi=>h2 i hi.2⟩
theorem OwnRs.blk{l:List (List Val)}(h:OwnRs w base X d A c l){k:Nat}(hk:ob A=some k):base≤k∧k<w.heap.size:=by
 exact ID
theorem OwnSs.nil(w:World)(base:Nat):OwnSs w base none 0 []:=⟨Own.nil _ _ _ _,AC⟩
theorem OwnSs.ext{l:List BA}(h:OwnSs w base A c l)(hx:Ext w w'):OwnSs w' base A c l:=⟨h.1.ext hx,h.2⟩
theorem OwnSs.strs{l:List BA}(h:OwnSs w base A c l)(hl:l.length≤4294967296)(h1:∀ b,ob A=some b→T b):Strs w T A l:=⟨h.1.rd.mono fun i _ hi=>h1 i hi,hl,h.2⟩
theorem OwnIs.nil(w:World)(base:Nat):OwnIs w base none 0 []:=Own.nil _ _ _ _
theorem OwnIs.ext{l:List Int}(h:OwnIs w base A c l)(hx:Ext w w'):OwnIs w' base A c l:=Own.ext h hx
theorem OwnIs.ints{l:List Int}(h:OwnIs w base A c l)(hl:l.length≤4294967296)(h1:∀ b,ob A=some b→T b):Ints w T A l:=⟨(Own.rd h).mono fun i _ hi=>h1 i hi,hl⟩
end
theorem IKA{P:Program}{t e sz by_:Nat}{z:Value}(h:P.underlying t=some (.slice e))(hi:(P.info? e).map (fun i=>(i.zero,i.size,i.bytes))=some (some z,sz,by_))(hz:z.cells.size=sz)(h0:0<sz):TI P t e sz by_:=by
 obtain ⟨i0,h1,h2,h3,h4⟩:=info_parts hi;exact ⟨h,i0,z,h1,h2,h3,h4,hz,h0⟩
theorem HAA:(prog.info? 29).map (fun i=>(i.zero,i.size,i.bytes))=some (some (.agg Vz),7,96):=by kernel_rfl
theorem GeA:(prog.info? 47).map (fun i=>(i.zero,i.size,i.bytes))=some (some (.slice none 0 0),1,24):=by kernel_rfl
theorem GxA:(prog.info? 9).map (fun i=>(i.zero,i.size,i.bytes))=some (some (.string ⟨#[]⟩),1,16):=by kernel_rfl
theorem EXA:(prog.info? 3).map (fun i=>(i.zero,i.size,i.bytes))=some (some (.I 0),1,8):=by kernel_rfl
theorem AB(h:qP:=by decide):qP:=h
theorem tiV:TI prog 47 29 7 96:=IKA underlying47 HAA rfl AB
theorem tiR:TI prog 27 47 1 24:=IKA underlying27 GeA rfl AB
theorem tiS:TI prog 26 9 1 16:=IKA underlying26 GxA rfl AB
theorem tiI:TI prog 22 3 1 8:=IKA underlying22 EXA rfl AB

theorem GIA{P:Program}{t e sz by_:Nat}(ti:TI P t e sz by_)(n c:Nat)(hnc:n≤c)(hb:by_*c≤281474976710656)(hby:0<by_) :
  ∃ cur:Array Value,(∀ w:World,(Instr.makeSlice t (.I (n:Int)) (.I (c:Int))).run P w=.ok (.slice (some ⟨w.heap.size,0,none⟩) n c) (w.alloc (.cells cur e)))∧cur.size=c*sz:=by
 obtain ⟨ht,i,z,hi,hz,hsize,hbytes,hzs,hsz⟩:=ti;refine ⟨madeCells z.cells (c*i.size),fun w => ?_,by simp [madeCells,hsize]⟩;have hc:c≤281474976710656:=by
  have:1*c≤by_*c:=Nat.mul_le_mul_right _ hby;omega
 have hb':(i.bytes:Int)*(c:Int)≤281474976710656:=by
  rw [hbytes];have h:((by_*c:Nat):Int)≤281474976710656:=AA;rwa [Int.natCast_mul] at h
 have hr:=run_make (P:=P) w t e i z ht hi hz .i64 .i64 n c AA AA hb' AA;simp only [Int.toNat_natCast] at hr;exact hr
theorem B2A{P:Program}{t e sz by_:Nat}(ti:TI P t e sz by_)(c:Nat)(hb:by_*c≤281474976710656)(hby:0<by_) :
  ∃ cur:Array Value,(∀ w:World,(Instr.makeSlice t (.I 0) (.I (c:Int))).run P w=.ok (.slice (some ⟨w.heap.size,0,none⟩) 0 c) (w.alloc (.cells cur e)))∧cur.size=c*sz:=by
 have:=GIA ti 0 c (AN) hb hby
 simpa using this

def BO(w:World):Nat→Prop:=fun b=>w.heap.size≤b
def CEA(w:World)(l:List BA)(e:Ending)(w':World):Prop:=∃ A' c',e=.returned (.slice A' l.length c')∧l.length≤c'∧Strs w' (BO w) A' l∧Ext w w'
def HuA(w:World)(S:NP)(d:Nat)(x:Val)(e:Ending)(w':World):Prop:=∃ A c B e',e=.returned (Vq x A c B e')∧(x.cols.length≤c∧x.rows.length≤e')∧RV w' S d x A B∧Ext w w'

theorem UT(h:qP:=by
 rcases h.1 with h0|⟨b,o,h1,_⟩
 ·simpa using h0
 ·cases h1):qP:=h
theorem AP(h:qP:=by simp [Value.oneCell']):qP:=h
theorem Wx(A:OA)(c:Nat)(l:List BA)(w:World)(S:NP)(h:Strs w S A l) :
  Cl 161 #[.slice A l.length c] w (CEA w l):=by
 have hn:=h.2.1
 rcases A with _|a
 ·have hl:l=[]:=by
   exact UT
  subst hl;have hnil:=fun w:World=>Lib.run_eql_slice_nil w 26 9 none 0 c 0 0 underlying26;simp only [List.length_nil] at hnil⊢
  go_enter func161,ntmps161
  go_wp2;go_ret;exact ⟨none,0,rfl,Al,Strs.nil,Ext.refl _⟩
 ·have hnil:=fun w:World=>Lib.run_eql_slice_nil w 26 9 (some a) l.length c 0 0 underlying26
  go_enter func161,ntmps161
  go_wp2_with (at_builtin;refine AL rfl (.tmp 5) (.tmp 6) rfl tiS rfl ((World.ownsRow_made w #[] 0 (Al) Bd rfl)) rfl (h.1.keep (Kept.alloc _ _ _)) AC AP AA AB AC ?_;intro A' c' w1 hown hg hat)
  go_ret;simp only [Nat.zero_add,List.nil_append] at hown;exact ⟨A',c',rfl,hown.cap,⟨Rd.of_own hown,h.2⟩,(exaa w).grown hg (fun k hk=>by simp [ob] at hk;omega)⟩

structure CopyRel(w:World)(x:Val)(q:Nat)(B:OA)(e:Nat)(A1:OA)(c1:Nat)(k:Nat)(A:OA)(c:Nat)(H:Nat)(wr:World):Prop where
 ext:Ext w wr
 low:w.heap.size+2≤H
 high:H≤wr.heap.size
 box:Blk wr w.heap.size 29 (Vp x A1 c1 B e)
 res:Blk wr (w.heap.size+1) 29 Vz
 cols:Strs wr (fun b=>w.heap.size+2≤b∧b<H∧ob A≠some b) A1 x.cols
 rows:OwnRs wr (w.heap.size+2) (fun b=>w.heap.size+2≤b∧b<H) q A c (x.rows.take k)
 own:∀ b,ob A=some b→b<H
theorem CopyRel.below{w:World}{x:Val}{q:Nat}{B:OA}{e:Nat}{A1:OA}{c1:Nat}{k:Nat}{A:OA}{c:Nat}{H:Nat}{wr wr':World}
  (h:CopyRel w x q B e A1 c1 k A c H wr) (hb:Below H wr wr'):CopyRel w x q B e A1 c1 k A c H wr':=by
 have hl:=h.low;exact ⟨Below.trans h.ext (hb.mono AA),h.low,Nat.le_trans h.high hb.size,h.box.keep (IEA hb (by intro b e _;omega)),h.res.keep (IEA hb (by intro b e _;omega)),
  h.cols.keep (IEA hb (by intro b e _;omega)),h.rows.keep (IEA hb (by
   rintro b (e|e) _
   ·exact h.own b e
   ·exact e.2)),h.own⟩


def Cq(c:Int):Bool:=decide (97≤c∧c≤122∨65≤c∧c≤90)
def Jp(c:Int):Bool:=Cq c||decide (c=95)||decide (48≤c∧c≤57)
def C4(c:Int):Bool:=decide (32≤c∧c≤126)
def bs(s:BA):List Int:=s.data.toList.map fun c=>(c.toNat:Int)
theorem GY(s:BA):(bs s).length=s.size:=by simp [bs]
theorem M8(s:BA)(k:Nat)(h:k<s.size):(bs s)[k]'(by rw [GY];exact h)=(s[k].toNat:Int):=by simp [bs];rfl
def Ba(s:BA):Bool:=decide (1≤s.size∧s.size≤20)&&((bs s).head?.any Cq)&&(bs s).all Jp
def Ca(s:BA):Bool:=decide (s.size≤200)&&(bs s).all C4
def SameB(w:World)(b:Bool)(e:Ending)(w':World):Prop:=e=.returned (.bool b)∧w=w'
theorem SameB.ret{w:World}{b:Bool}{e:Ending}{w':World}(h:SameB w b e w'):Ae w b e w':=by
 obtain ⟨he,rfl⟩:=h;exact ⟨he,Ext.refl w⟩

theorem F6(c:Int)(w:World):Cl 232 #[.int .u8 c] w (SameB w (Cq c)):=by
 go_enter func232,ntmps232
 go_wp2
 all_goals
  go_ret;refine ⟨?_,rfl⟩;simp only [Cq];simp
  first|done|(rw [Bool.eq_iff_iff];simp;omega)|omega

theorem VU(h:qP:=by
 intro x hx;obtain ⟨i,hi,rfl⟩:=List.mem_iff_getElem.1 hx;exact h i hi):qP:=h
theorem CH{α:Type}(l:List α)(p:α→Bool):(∀ j (h:j<l.length),p l[j]=true)→l.all p=true:=by
 intro h;rw [List.all_eq_true];exact VU
theorem CX{α:Type}(l:List α)(p:α→Bool)(j:Nat)(h:j<l.length)(hp:p l[j]=false):l.all p=false:=by
 rw [List.all_eq_false];exact ⟨l[j],List.getElem_mem h,by simp [hp]⟩

theorem BGA(h:qP:=by
 refine ⟨k+1,by omega,by go_num,fun j h hj => ?_⟩;by_cases hjk:j=k
 ·subst hjk;simp [C4];omega
 ·exact HA.o j h (by omega)):qP:=h
theorem ZP(h:qP:=by
 obtain ⟨h1,h2⟩:=ht;go_wp2
 go_round
 case rel =>
  exact BGA
 case measure=>simp [intOf];omega):qP:=h
theorem BrA(h:qP:=by
 unfold Ca;rw [CX (bs s) C4 k (by rw [GY];exact hlt) (by rw [M8 s k hlt];simp only [C4,decide_eq_false_iff_not];exact ht)];simp):qP:=h
theorem Y6(h:qP:=by
 have hf:Ca s=false:=by
  exact BrA
 have HF:=Hd hf;clear hf;by_cases h1:32≤(s[k].toNat:Int)
 all_goals
  go_wp2;go_ret;exact ⟨by rw [HF.o];rfl,rfl⟩):qP:=h
theorem AkA(h:qP:=by
 by_cases ht:32≤(s[k].toNat:Int)∧(s[k].toNat:Int)≤126
 ·exact ZP
 ·exact Y6):qP:=h
theorem BAA(h:qP:=by
 unfold Ca;rw [CH (bs s) C4 (fun j h=>by rw [GY] at h;rw [M8 s j h];exact HA.o j h (by omega))];simp):qP:=h
theorem PS(h:qP:=by
 go_wp2;go_ret;exact ⟨by rw [HF.o];simp;omega,rfl⟩):qP:=h
theorem A0A(h:qP:=by
 have hf:Ca s=decide (s.size≤200):=by
  exact BAA
 have HF:=Hd hf;clear hf;exact PS):qP:=h
theorem Uu(h:qP:=by
 obtain ⟨k,hk,rfl,hall⟩:=hrel;have HA:=Hd hall;clear hall;by_cases hlt:k<s.size
 ·exact AkA
 ·exact A0A):qP:=h
theorem M1(s:BA)(hs:s.size≤4294967296)(w:World):Cl 125 #[.string s] w (SameB w (Ca s)):=by
 go_enter func125,ntmps125
 go_wp2
 go_loop [6] (fun i=>∃ k:Nat,k≤s.size∧i=.I k∧∀ j (h:j<s.size),j<k→C4 (s[j].toNat:Int)=true) (fun i=>s.size-(intOf i).toNat)
 case atStart=>exact ⟨0,AN,rfl,AK⟩
 case round =>
  exact Uu

theorem Ea(h:qP:=by
 go_wp2;go_ret;exact ⟨rfl,rfl⟩):qP:=h
theorem FR(h:qP:=by
 go_ret;exact ⟨by rw [HF.o];rfl,rfl⟩):qP:=h
theorem Bf(h:qP:=by
 go_wp2;exact FR):qP:=h
theorem VX(h:qP:=by
 have:(bs s).head?=some (s[0].toNat:Int):=(by rw [List.head?_eq_getElem?,List.getElem?_eq_getElem (by rw [GY];exact hp),M8 s 0 hp]);rw [this];simp [hl]):qP:=h
theorem BsA(h:qP:=by
 refine ⟨k+1,by omega,by go_num,fun j h hj => ?_⟩;by_cases hjk:j=k
 ·subst hjk;exact HN.o
 ·exact HA.o j h (by omega)):qP:=h
theorem QC(h:qP:=by
 go_wp2_with (go_at_call 232;refine (F6 _ _).mono ?_;rintro e w' ⟨rfl,rfl⟩;rw [HK1.o])
 go_round
 case rel =>
  exact BsA
 case measure=>simp [intOf];omega):qP:=h
theorem RN(h:qP:=by
 clear h1 h2;exact QC):qP:=h
theorem T8(h:qP:=by
 have HF:=Hd hf;clear hf;exact Bf):qP:=h
theorem BB(h:qP:=by rw [HF.o];rfl):qP:=h
theorem DZ(h:qP:=by simp [h2]):qP:=h
theorem I6(s:BA)(hs:s.size≤4294967296)(w:World):Cl 187 #[.string s] w (SameB w (Ba s)):=by
 by_cases h0:s.size=0
 ·have he:s=⟨#[]⟩:=by
   cases s;simp [ByteArray.size] at h0;rw [h0]
  subst he
  go_enter func187,ntmps187
  exact Ea
 have e1:s.toList=[]→False:=fun h=>h0 (by have h2:=congrArg List.length h;rw [ByteArray.toList_eq,Array.length_toList] at h2;exact h2);have e2:(s.toList.isEmpty)=false:=(by simpa using e1);by_cases h20:20<s.size
 ·have hf:Ba s=false:=(by unfold Ba;simp;omega);have HF:=Hd hf;have h20':(20:Int)<(s.size:Int):=AA;clear hf
  go_enter func187,ntmps187
  exact Bf
 ·have hp:0<s.size:=AA;cases hl:Cq (s[0].toNat:Int)
  ·have hf:Ba s=false:=by
    unfold Ba;exact VX
   have HF:=Hd hf;have HL:=Hd hl;clear hf hl
   go_enter func187,ntmps187
   go_wp2_with (go_at_call 232;refine (F6 _ _).mono ?_;rintro e w' ⟨rfl,rfl⟩;rw [HL.o])
   exact FR
  ·have hhd:(bs s).head?.any Cq=true:=by
    exact VX
   have HHD:=Hd hhd;have HL:=Hd hl;clear hhd hl;have h20':(s.size:Int)≤20:=AA
   go_enter func187,ntmps187
   go_wp2_with (go_at_call 232;refine (F6 _ _).mono ?_;rintro e w' ⟨rfl,rfl⟩;rw [HL.o])
   go_loop [19] (fun i=>∃ k:Nat,k≤s.size∧i=.I k∧∀ j (h:j<s.size),j<k→Jp (s[j].toNat:Int)=true) (fun i=>s.size-(intOf i).toNat)
   case atStart=>exact ⟨0,AN,rfl,AK⟩
   case round =>
    obtain ⟨k,hk,rfl,hall⟩:=hrel;have HA:=Hd hall;clear hall;by_cases hlt:k<s.size
    ·cases hn:Jp (s[k].toNat:Int)
     ·have hf:Ba s=false:=by
       unfold Ba;rw [CX (bs s) Jp k (by rw [GY];exact hlt) (by rw [M8 s k hlt];exact hn)];simp
      have HF:=Hd hf;have hlk:Cq (s[k].toNat:Int)=false∧¬((s[k].toNat:Int)=95)∧¬(48≤(s[k].toNat:Int)∧(s[k].toNat:Int)≤57):=by
       have h9:=hn;simp [Jp] at h9;exact ⟨h9.1.1,h9.1.2,fun h=>AA⟩
      obtain ⟨hk1,hk2,hk3⟩:=hlk;have HK1:=Hd hk1;have hk4:((s[k].toNat:Int) != 95)=true:=(by rw [bne_iff_ne];exact hk2);clear hf hn hk1;by_cases hk5:(s[k].toNat:Int)<48
      all_goals
       go_wp2_with (go_at_call 232;refine (F6 _ _).mono ?_;rintro e w' ⟨rfl,rfl⟩;rw [HK1.o])
       go_ret;exact ⟨BB,rfl⟩
     ·have HN:=Hd hn;have hnn:Cq (s[k].toNat:Int)=true∨Cq (s[k].toNat:Int)=false∧((s[k].toNat:Int)=95∨((s[k].toNat:Int)≠95∧48≤(s[k].toNat:Int)∧(s[k].toNat:Int)≤57)):=by
       cases hq:Cq (s[k].toNat:Int)
       ·right;refine ⟨rfl,?_⟩;simp [Jp,hq] at hn;omega
       ·left;rfl
      clear hn
      rcases hnn with h1|⟨h1,h2|⟨h2,h3,h4⟩⟩
      ·have HK1:=Hd h1;clear h1;exact QC
      ·have HK1:=Hd h1;have h5:((s[k].toNat:Int) != 95)=false:=DZ;exact RN
      ·have HK1:=Hd h1;have h5:((s[k].toNat:Int) != 95)=true:=(by rw [bne_iff_ne];exact h2);exact RN
    ·have hf:Ba s=true:=by
      unfold Ba;rw [HHD.o,CH (bs s) Jp (fun j h=>by rw [GY] at h;rw [M8 s j h];exact HA.o j h AA)];simp;omega
     exact T8

def Bk(w:World)(n:Int)(e:Ending)(w':World):Prop:=e=.returned (.I n)∧w=w'
def DG(w:World)(n:Int)(e:Ending)(w':World):Prop:=e=.returned (.I n)∧Ext w w'
def Bt(l:List BA)(v:BA):Int:=match l.findIdx? (fun s=>decide (s=v)) with|some i=>(i:Int)|none=>-1
theorem QN{l:List BA}{v:BA}{k:Nat}(hk:k<l.length)(h:∀ j (hj:j<l.length),j<k→l[j]≠v)(hv:l[k]=v):Bt l v=k:=by
 unfold Bt;have:l.findIdx? (fun s=>decide (s=v))=some k:=by
  rw [List.findIdx?_eq_some_iff_getElem];exact ⟨hk,by simp [hv],fun j hj=>by simp [h j AA hj]⟩
 rw [this]
theorem Nd{l:List BA}{v:BA}(h:∀ j (hj:j<l.length),l[j]≠v):Bt l v=-1:=by
 unfold Bt;have:l.findIdx? (fun s=>decide (s=v))=none:=by
  rw [List.findIdx?_eq_none_iff];intro x hx;obtain ⟨i,hi,rfl⟩:=List.mem_iff_getElem.1 hx;simp [h i hi]
 rw [this]
theorem Fl(l:List BA)(v:BA):(0≤Bt l v↔v∈l):=by
 unfold Bt;cases h:l.findIdx? (fun s=>decide (s=v)) with
 |none =>
  rw [List.findIdx?_eq_none_iff] at h;simp;intro hv;have:=h v hv;simp at this
 |some i =>
  rw [List.findIdx?_eq_some_iff_getElem] at h;obtain ⟨hi,h1,_⟩:=h;simp at h1;simp;rw [←h1];exact List.getElem_mem hi
theorem CE(h:qP:=by simpa using h1):qP:=h
theorem J5{l:List BA}{v:BA}(h:0≤Bt l v):∃ k:Nat,Bt l v=k∧∃ hk:k<l.length,l[k]=v∧∀ j (hj:j<l.length),j<k→l[j]≠v:=by
 unfold Bt at h⊢;cases hf:l.findIdx? (fun s=>decide (s=v)) with
 |none=>rw [hf] at h;simp at h
 |some i =>
  rw [List.findIdx?_eq_some_iff_getElem] at hf;obtain ⟨hi,h1,h2⟩:=hf;refine ⟨i,rfl,hi,CE,fun j hj hji => ?_⟩;have:=h2 j hji
  simpa using this
def Aw(l:List BA)(v:BA):Bool:=decide (0≤Bt l v)
theorem Ao(l:List BA)(v:BA):Aw l v=true↔v∈l:=by simp [Aw,Fl]
theorem WR(s:BA):s.toList=[]↔s=⟨#[]⟩:=by
 rw [ByteArray.toList_eq];constructor
 ·intro h;cases s;simp at h;rw [h]
 ·rintro rfl;rfl

theorem Om(h:qP:=by
 have HV:=Hd hv;clear hv;go_wp2;go_ret;exact ⟨by rw [QN hlt (fun j hj h=>HA.o j hj h) HV.o];rfl,rfl⟩):qP:=h
theorem ZC(h:qP:=by
 refine ⟨k+1,by omega,by go_num,fun j h hj => ?_⟩;by_cases hjk:j=k
 ·subst hjk;exact HV.o
 ·exact HA.o j h (by omega)):qP:=h
theorem Ot(h:qP:=by
 clear hv;go_wp2
 go_round
 case rel =>
  exact ZC
 case measure=>simp [intOf];omega):qP:=h
theorem Kj(h:qP:=by
 have HV:=Hd hv;exact Ot):qP:=h
theorem Oy(h:qP:=by
 go_wp2;go_ret;exact ⟨by rw [Nd (fun j hj=>HA.o j hj (by omega))];rfl,rfl⟩):qP:=h
theorem Dv(A:OA)(c:Nat)(l:List BA)(v:BA)(w:World)(S:NP)(h:Strs w S A l) :
  Cl 160 #[.slice A l.length c,.string v] w (Bk w (Bt l v)):=by
 have hn:=h.2.1
 go_enter func160,ntmps160
 go_wp2
 go_loop [8] (fun i=>∃ k:Nat,k≤l.length∧i=.I k∧∀ j (h:j<l.length),j<k→l[j]≠v) (fun i=>l.length-(intOf i).toNat)
 case atStart=>exact ⟨0,AN,rfl,AK⟩
 case round =>
  obtain ⟨k,hk,rfl,hall⟩:=hrel;have HA:=Hd hall;clear hall;by_cases hlt:k<l.length
  ·obtain ⟨b1,o1,rfl,z1,c1⟩:=h.at_ hlt;by_cases hv:l[k]=v
   ·have ht:(v.toList==l[k].toList)=true:=(by rw [Bj];simp [hv]);exact Om
   ·have ht:(v.toList==l[k].toList)=false:=(by rw [Bj];simp [Ne.symm hv]);exact Kj
  ·exact Oy

theorem Ai(A:OA)(c:Nat)(l:List BA)(v:BA)(w:World)(S:NP)(h:Strs w S A l) :
  Cl 85 #[.slice A l.length c,.string v] w (SameB w (Aw l v)):=by
 have H:=Hd h;clear h
 go_enter func85,ntmps85
 go_wp2_with (go_at_call 160;refine (Dv _ _ _ _ _ S H.o).mono ?_;rintro e w' ⟨rfl,rfl⟩)
 go_ret;exact ⟨rfl,rfl⟩

def Fx(n:Int):Bool:=decide (-1000000000000000≤n∧n≤1000000000000000)
def Dz(n s:Int):Bool:=decide (0≤s∧s≤6)&&Fx n&&decide (s=0∨n.tmod 10≠0)
theorem LC(h:qP:=by
 have H:=Hd h;clear h
 go_enter func186,ntmps186
 go_wp2;go_ret;exact ⟨by rw [H.o];rfl,rfl⟩):qP:=h
theorem Pn(n:Int)(w:World):Cl 186 #[.I n] w (SameB w (Fx n)):=by
 by_cases h1:-1000000000000000≤n
 ·by_cases h2:n≤1000000000000000
  ·have h:Fx n=true:=(by simp [Fx,h1,h2]);exact LC
  ·have h:Fx n=false:=(by simp [Fx,h1,h2]);exact LC
 ·have h:Fx n=false:=(by simp [Fx,h1]);exact LC

theorem Ff(n s:Int)(w:World):Cl 126 #[.agg #[.I n,.I s]] w (Ae w (Dz n s)):=by
 cases hu:Fx n
 all_goals
  have HU:=Hd hu;clear hu
  go_enter func126,ntmps126
  go_wp2_with (go_at_call 186;refine (Pn _ _).mono ?_;rintro e w' ⟨rfl,rfl⟩;rw [HU.o])
  all_goals
   go_ret;refine ⟨?_,(Ext.refl _).alloc _⟩;simp only [Dz,HU.o];simp
   first|done|omega|(rw [Bool.eq_iff_iff];simp;omega)

def Ab(x:Val):Bool:=decide (x.s=⟨#[]⟩∧x.dn=0∧x.ds=0∧x.n=0∧x.cols=[]∧x.rows=[])
theorem G4(x:Val)(A B:OA)(c e:Nat)(w:World):Cl 124 #[(Vq x A c B e)] w (Ae w (Ab x)):=by
 go_enter func124,ntmps124
 go_wp2
 all_goals
  go_ret;refine ⟨?_,(Ext.refl _).alloc _⟩;simp_all [Ab,←WR]
  try (rw [Bool.eq_iff_iff];simp [List.length_eq_zero_iff])

def BG(x:Val):Bool :=
 if x.kind=0 then decide (0≤x.n∧x.n≤99)&&Ab { x with n:=0 }
 else if x.kind=1 then Ca x.s&&Ab { x with s:=⟨#[]⟩ }
 else if x.kind=2 then Dz x.dn x.ds&&Ab { x with dn:=0,ds:=0 }
 else if x.kind=3 then decide (0≤x.n∧x.n≤3652058)&&Ab { x with n:=0 }
 else if x.kind=4 then decide (x.n=0∨x.n=1)&&Ab { x with n:=0 }
 else false

theorem Pd(h:qP:=by
 go_enter func51,ntmps51
 go_wp2_with fail
 refine (G4 { x with n:=0 } A B c e _).mono ?_;rintro e1 w1 ⟨rfl,hx1⟩;have HX:=Hd hx1;clear hx1;go_wp2;go_ret;exact ⟨by rw [HF.o];simp [h1,h2],Ext.trans (exbb w) HX.o⟩):qP:=h
theorem JL(h:qP:=by
 go_enter func51,ntmps51
 go_wp2;go_ret;exact ⟨by rw [HF.o,decide_eq_false (by omega),Bool.false_and];rfl,(exaa w).alloc _⟩):qP:=h
theorem FO(h:qP:=by simp [BG,hk]):qP:=h
theorem Vd(x:Val)(A B:OA)(c e:Nat)(w:World)(hk:x.kind=0)(_hs:x.s.size≤4294967296):Cl 51 #[(Vq x A c B e)] w (Ae w (BG x)):=by
 have hf:BG x=(decide (0≤x.n∧x.n≤99)&&Ab { x with n:=0 }):=FO;have HF:=Hd hf;have k0:(x.kind==0)=true:=AF;have k1:(x.kind==1)=false:=AF;have k2:(x.kind==2)=false:=AF;have k3:(x.kind==3)=false:=AF;have k4:(x.kind==4)=false:=AF;have k5:(x.kind==5)=false:=AF;clear hf hk;by_cases h1:0≤x.n
 ·by_cases h2:x.n≤99
  ·exact Pd
  ·exact JL
 ·exact JL

theorem S3(h:qP:=by
 go_wp2;go_ret;exact ⟨by rw [HF.o,HT.o];rfl,Ext.trans (exbb w) HX.o⟩):qP:=h
theorem WC(x:Val)(A B:OA)(c e:Nat)(w:World)(hk:x.kind=1)(hs:x.s.size≤4294967296):Cl 51 #[(Vq x A c B e)] w (Ae w (BG x)):=by
 have hf:BG x=(Ca x.s&&Ab { x with s:=⟨#[]⟩ }):=FO;have HF:=Hd hf;have k0:(x.kind==0)=false:=AF;have k1:(x.kind==1)=true:=AF;have k2:(x.kind==2)=false:=AF;have k3:(x.kind==3)=false:=AF;have k4:(x.kind==4)=false:=AF;have k5:(x.kind==5)=false:=AF;clear hf hk;cases ht:Ca x.s
 ·have HT:=Hd ht;clear ht
  go_enter func51,ntmps51
  go_wp2_with (go_at_call 125;refine (M1 _ hs _).mono ?_;rintro e w' ⟨rfl,rfl⟩;rw [HT.o])
  go_ret;exact ⟨by rw [HF.o,HT.o];rfl,(exaa w).alloc _⟩
 ·have HT:=Hd ht;clear ht
  go_enter func51,ntmps51
  go_wp2_with (go_at_call 125;refine (M1 _ hs _).mono ?_;rintro e w' ⟨rfl,rfl⟩;rw [HT.o])
  refine (G4 { x with s:=⟨#[]⟩ } A B c e _).mono ?_;rintro e1 w1 ⟨rfl,hx1⟩;have HX:=Hd hx1;clear hx1;exact S3

theorem Ko(h:qP:=by
 have HT:=Hd ht;clear ht hx1;go_wp2;go_ret;exact ⟨by rw [HF.o,HT.o];rfl,Ext.trans ((exbb w)) HX.o⟩):qP:=h
theorem SK(h:qP:=by
 rintro e1 w2 ⟨rfl,hx2⟩;have HX2:=Hd hx2;clear hx2;go_wp2;go_ret;exact ⟨by rw [HF.o,HT.o];rfl,Ext.trans (exbb w) (Ext.trans HX.o HX2.o)⟩):qP:=h
theorem Vv(x:Val)(A B:OA)(c e:Nat)(w:World)(hk:x.kind=2)(_hs:x.s.size≤4294967296):Cl 51 #[(Vq x A c B e)] w (Ae w (BG x)):=by
 have hf:BG x=(Dz x.dn x.ds&&Ab { x with dn:=0,ds:=0 }):=FO;have HF:=Hd hf;have k0:(x.kind==0)=false:=AF;have k1:(x.kind==1)=false:=AF;have k2:(x.kind==2)=true:=AF;have k3:(x.kind==3)=false:=AF;have k4:(x.kind==4)=false:=AF;have k5:(x.kind==5)=false:=AF;clear hf hk
 go_enter func51,ntmps51
 go_wp2_with fail
 refine (Ff x.dn x.ds _).mono ?_;rintro e1 w1 ⟨rfl,hx1⟩;obtain ⟨hc1,hf1⟩:=Wm hx1;have hz1:=hx1.size;simp at hc1 hf1 hz1;have hz2:w.heap.size<w1.heap.size:=AA;have hz3:w.heap.size+1<w1.heap.size:=AA;have HX:=Hd hx1;cases ht:Dz x.dn x.ds
 ·exact Ko
 ·have HT:=Hd ht;clear ht hx1
  go_wp2_with fail
  refine (G4 { x with dn:=0,ds:=0 } A B c e _).mono ?_;exact SK

theorem Vs(x:Val)(A B:OA)(c e:Nat)(w:World)(hk:x.kind=3)(_hs:x.s.size≤4294967296):Cl 51 #[(Vq x A c B e)] w (Ae w (BG x)):=by
 have hf:BG x=(decide (0≤x.n∧x.n≤3652058)&&Ab { x with n:=0 }):=FO;have HF:=Hd hf;have k0:(x.kind==0)=false:=AF;have k1:(x.kind==1)=false:=AF;have k2:(x.kind==2)=false:=AF;have k3:(x.kind==3)=true:=AF;have k4:(x.kind==4)=false:=AF;have k5:(x.kind==5)=false:=AF;clear hf hk;by_cases h1:0≤x.n
 ·by_cases h2:x.n≤3652058
  ·exact Pd
  ·exact JL
 ·exact JL

theorem TS(h:qP:=by
 go_enter func51,ntmps51
 go_wp2_with fail
 refine (G4 { x with n:=0 } A B c e _).mono ?_;rintro e1 w1 ⟨rfl,hx1⟩;have HX:=Hd hx1;clear hx1;go_wp2;go_ret;exact ⟨by rw [HF.o];simp [H1.o],Ext.trans (exbb w) HX.o⟩):qP:=h
theorem Vh(x:Val)(A B:OA)(c e:Nat)(w:World)(hk:x.kind=4)(_hs:x.s.size≤4294967296):Cl 51 #[(Vq x A c B e)] w (Ae w (BG x)):=by
 have hf:BG x=(decide (x.n=0∨x.n=1)&&Ab { x with n:=0 }):=FO;have HF:=Hd hf;have k0:(x.kind==0)=false:=AF;have k1:(x.kind==1)=false:=AF;have k2:(x.kind==2)=false:=AF;have k3:(x.kind==3)=false:=AF;have k4:(x.kind==4)=true:=AF;have k5:(x.kind==5)=false:=AF;clear hf hk;by_cases h1:x.n=0
 ·have h3:(x.n==0)=true:=(by simp [h1]);have H1:=Hd h1;clear h1;exact TS
 ·have h3:(x.n==0)=false:=(by simp [h1]);by_cases h2:x.n=1
  ·have h4:(x.n==1)=true:=DZ;have H1:=Hd h2;clear h1 h2;exact TS
  ·have h4:(x.n==1)=false:=DZ
   go_enter func51,ntmps51
   go_wp2;go_ret;exact ⟨by rw [HF.o];simp [h1,h2],(exaa w).alloc _⟩

theorem Vm(x:Val)(A B:OA)(c e:Nat)(w:World)(h0:x.kind≠0)(h1:x.kind≠1)(h2:x.kind≠2)(h3:x.kind≠3)(h4:x.kind≠4)(h5:x.kind≠5):Cl 51 #[(Vq x A c B e)] w (Ae w (BG x)):=by
 have hf:BG x=false:=(by simp [BG,h0,h1,h2,h3,h4]);have HF:=Hd hf;have k0:(x.kind==0)=false:=(by simp [h0]);have k1:(x.kind==1)=false:=(by simp [h1]);have k2:(x.kind==2)=false:=DZ;have k3:(x.kind==3)=false:=(by simp [h3]);have k4:(x.kind==4)=false:=(by simp [h4]);have k5:(x.kind==5)=false:=(by simp [h5]);clear hf h0 h1 h2 h3 h4 h5
 go_enter func51,ntmps51
 go_wp2;go_ret;exact ⟨BB,(exaa w).alloc _⟩

theorem Hx(x:Val)(A B:OA)(c e:Nat)(w:World)(h5:x.kind≠5)(hs:x.s.size≤4294967296):Cl 51 #[(Vq x A c B e)] w (Ae w (BG x)):=by
 by_cases h0:x.kind=0
 ·exact Vd x A B c e w h0 hs
 by_cases h1:x.kind=1
 ·exact WC x A B c e w h1 hs
 by_cases h2:x.kind=2
 ·exact Vv x A B c e w h2 hs
 by_cases h3:x.kind=3
 ·exact Vs x A B c e w h3 hs
 by_cases h4:x.kind=4
 ·exact Vh x A B c e w h4 hs
 exact Vm x A B c e w h0 h1 h2 h3 h4 h5
end Go.Proofs.YtidacnalcdhckaaGreatDoor
