/- The planner's ask: where it stands behind some parts. No conditions. -/
import Derived.Test.YtomdpipekmcojaaGreatDoorBk11
import Derived.Sort.Walk0
namespace Go.Proofs.YtomdpipekmcojaaGreatDoor
open Go Go.RowKit

theorem Kept.cell2 {S:Nat→Prop} {w w':World} (h:Kept S w w') {p:Addr} {u:Value} (hc:w.cell? p=some u) (hs:S p.block):w'.cell? p=some u:=h.cell hs hc
theorem Rows.blkS {w:World} {S:Nat→Prop} {d:Nat} {l:List (List Val)} {b o:Nat} (h:Rows w S d (some ⟨b,o,none⟩) l) (hl:l≠[]):S b:=by
 obtain ⟨_,hs,h1,h2,_⟩:=h;obtain ⟨b',o',e,hS,_⟩:=h1.some_ (by intro e; apply hl; exact List.eq_nil_of_length_eq_zero (by rw [← h2,e]; rfl));injection e with e;injection e with e;rw [e]; exact hS
theorem Row.blkS {w:World} {S:Nat→Prop} {d:Nat} {l:List Val} {b o:Nat} (h:Row w S d (some ⟨b,o,none⟩) l) (hl:l≠[]):S b:=by
 obtain ⟨_,hs,h1,h2,_⟩:=h;obtain ⟨b',o',e,hS,_⟩:=h1.some_ (by intro e; apply hl; refine List.eq_nil_of_length_eq_zero ?_; rw [e] at h2; simp at h2; omega);injection e with e;injection e with e;rw [e]; exact hS
theorem NN.blkS {w:World} {S:Nat→Prop} {l:List (List Nat)} {b o:Nat} (h:NN w S (some ⟨b,o,none⟩) l) (hl:l≠[]):S b:=by
 obtain ⟨_,hs,h1,h2,_⟩:=h;obtain ⟨b',o',e,hS,_⟩:=h1.some_ (by intro e; apply hl; exact List.eq_nil_of_length_eq_zero (by rw [← h2,e]; rfl));injection e with e;injection e with e;rw [e]; exact hS
theorem Nums.blkS {w:World} {S:Nat→Prop} {l:List Nat} {b o:Nat} (h:Nums w S (some ⟨b,o,none⟩) l) (hl:l≠[]):S b:=by
 obtain ⟨b',o',e,hS,_⟩:=h.1.some_ (by intro e; apply hl; simpa [nums] using e);injection e with e;injection e with e;rw [e]; exact hS
structure AskR (w wq:World) (bP bm:Nat) (l:List (List Val)) (base:Nat) (Xs:Nat→Prop) (d:Nat) (A0:Option Addr) (X:List AskD) (gs:List (List Nat)) (m:Nat) (k:Nat) (A8:Option Addr) (c8:Nat) (A9:Option Addr) (c9:Nat) (A:Option Addr) (c:Nat) (G:Option Addr) (wr:World):Prop where
 base_:base≤w.heap.size
 low:w.heap.size≤wq.heap.size
 buts:ButS (AskS bP bm A0) w wr
 size:wq.heap.size≤wr.heap.size
 at_:∀ b,ob A=some b→ob A0=some b∨w.heap.size≤b
 ps:PS wr bP bm l base (fun b=>(Xs b∨w.heap.size≤b)∧ob A8≠some b∧ob A9≠some b) d A c (X++((m:Int),[],[]) :: (planG (plan (spl l) (inpS l) (ans l)) (gs.take k) (X.length+1)).1)
 vs:OwnVs wr wq.heap.size (fun b=>wq.heap.size≤b∧ob A≠some b∧ob A9≠some b) d A8 c8 ((gs.take k).map fun g=>ans l m (g.headD 0))
 nx:OwnIs wr wq.heap.size A9 c9 (planG (plan (spl l) (inpS l) (ans l)) (gs.take k) (X.length+1)).2
 ne8:∀ b,ob A8=some b→ob A≠some b∧ob A9≠some b
 ne9:∀ b,ob A9=some b→ob A≠some b
 nn:NN wr (fun b=>w.heap.size≤b∧b<wq.heap.size∧ob A≠some b) G gs
theorem sum_take:∀ (gs:List Nat) (j:Nat),(gs.take j).sum≤gs.sum
 | [],_=>by simp
 | g :: gs,0=>by simp
 | g :: gs,j+1=>by
  have:=sum_take gs j;simp only [List.take_succ_cons,List.sum_cons];omega
theorem part_bound (l:List (List Val)) (N:Nat) (v:Nat→Nat→Val) (L:List Nat) (k j t:Nat) (h2:2≤(spl l k L).length) (hj:j<(spl l k L).length):(planG (plan (spl l) N v) ((spl l k L).take j) t).1.length+1+((spl l k L)[j]).length≤L.length:=by
 have his:=spl_is l k L;have hgm:(spl l k L)[j]∈spl l k L:=List.getElem_mem hj;have h1:=planG_le (sub:=plan (spl l) N v) ((spl l k L).take j) t fun g hg t=>plan_len l N v _ g t (Nat.le_refl _) (his.sub g (List.mem_of_mem_take hg)).1;have h3:=sum_take ((spl l k L).map List.length) (j+1);rw [his.sum,← List.map_take,List.take_succ_eq_append_getElem hj,List.map_append,List.sum_append] at h3;simp only [List.map_cons,List.map_nil,List.sum_cons,List.sum_nil] at h3;rw [List.length_take] at h1;have h4:=his.small h2 _ hgm
 rcases Nat.eq_zero_or_pos j with h0 | h0
 ·subst h0;simp [planG] at h1 ⊢;omega
 ·omega
theorem part_bound2 (l:List (List Val)) (N:Nat) (v:Nat→Nat→Val) (L:List Nat) (k j t:Nat) {gs:List (List Nat)} {g:List Nat} (e:gs=spl l k L) (h2:2≤(spl l k L).length) (hj:j<gs.length) (hg:g=gs[j]):(planG (plan (spl l) N v) (gs.take j) t).1.length+1+g.length≤L.length:=by
 subst e;rw [hg];exact part_bound l N v L k j t h2 hj
section
variable {w wq wr w9:World} {bP bm:Nat} {l:List (List Val)} {base:Nat} {Xs:Nat→Prop} {d:Nat} {A0:Option Addr} {X:List AskD} {gs:List (List Nat)} {m k:Nat} {A8:Option Addr} {c8:Nat} {A9:Option Addr} {c9:Nat} {A:Option Addr} {c:Nat} {G:Option Addr} {A84:Option Addr}
theorem AskR.mid (h:AskR w wq bP bm l base Xs d A0 X gs m k A8 c8 A9 c9 A c G wr) (hb:ButS (fun b=>ob A8=some b) wr w9) (ha:∀ b,ob A84=some b→ob A8=some b∨wr.heap.size≤b) :
  PS w9 bP bm l base (fun b=>(Xs b∨w.heap.size≤b)∧ob A84≠some b∧ob A9≠some b) d A c (X++((m:Int),[],[]) :: (planG (plan (spl l) (inpS l) (ans l)) (gs.take k) (X.length+1)).1):=by
 have h1:=h.ps.wide (Xs2:=fun b=>((Xs b∨w.heap.size≤b)∧ob A8≠some b∧ob A9≠some b)∧b<wr.heap.size) (fun b hb hx=>⟨hx,hb⟩) fun b hx=>h.ps.xs b hx.1;have hl:=h.low;have hz:=h.base_;refine (h1.other hb fun b e=>⟨?_,(h.ne8 b e).1,fun hx=>hx.1.2.1 e⟩).wide (fun b _ hx=>⟨hx.1.1,fun e => ?_,hx.1.2.2⟩) fun b hx => ?_
 ·have:=(h.vs.blk e).1; omega
 ·rcases ha b e with e | e
  ·exact hx.1.2.1 e
  ·have:=hx.2; omega
 ·have hps:=h.ps;by_cases hA:ob A8=some b
  ·have:=(h.vs.blk hA).1; omega
  ·exact hps.xs b ⟨hx.1,hA,hx.2.2⟩
theorem AskR.num {g:List Nat} {B:Option Addr} (h:AskR w wq bP bm l base Xs d A0 X gs m k A8 c8 A9 c9 A c G wr) (hb:ButS (fun b=>ob A8=some b) wr w9) (hn:Nums wr (fun b=>w.heap.size≤b∧b<wq.heap.size∧ob A≠some b) B g):Nums w9 (fun b=>¬ AskS bP bm A b) B g:=by
 have hl:=h.low;have hz:=h.base_;have hlt:=h.ps.lt;refine (hn.keep (hb.kept fun b _ hx e => ?_)).mono fun b _ hx hA => ?_
 ·have:=(h.vs.blk e).1; omega
 ·rcases hA with e | e | e
  ·omega
  ·omega
  ·exact hx.2.2 e
theorem AskR.next {w10 w12:World} {A2 A9':Option Addr} {c84 c2 c9':Nat} {g:List Nat} {vx:Val} {o:Obj} (h:AskR w wq bP bm l base Xs d A0 X gs m k A8 c8 A9 c9 A c G wr) (hk:k<gs.length) (hg:g=gs[k]) (hvx:ans l m (g.headD 0)=vx)
  (hb:ButS (fun b=>ob A8=some b) wr w9) (ha:∀ b,ob A84=some b→ob A8=some b∨wr.heap.size≤b)
  (hv:OwnVs w9 wq.heap.size (fun b=>wq.heap.size≤b∧ob A≠some b∧ob A9≠some b) d A84 c84 (((gs.take k).map fun g=>ans l m (g.headD 0))++[vx]))
  (hb2:ButS (AskS bP bm A) w9 w10) (hp:PS w10 bP bm l base (fun b=>((Xs b∨w.heap.size≤b)∧ob A84≠some b∧ob A9≠some b)∨w9.heap.size≤b) d A2 c2 ((X++((m:Int),[],[]) :: (planG (plan (spl l) (inpS l) (ans l)) (gs.take k) (X.length+1)).1)++plan (spl l) (inpS l) (ans l) g (X++((m:Int),[],[]) :: (planG (plan (spl l) (inpS l) (ans l)) (gs.take k) (X.length+1)).1).length))
  (ha2:∀ b,ob A2=some b→ob A=some b∨w9.heap.size≤b)
  (ho:OwnIs w12 wq.heap.size A9' c9' ((planG (plan (spl l) (inpS l) (ans l)) (gs.take k) (X.length+1)).2++[if dep (spl l) (inpS l) g=0 then -1 else ((X++((m:Int),[],[]) :: (planG (plan (spl l) (inpS l) (ans l)) (gs.take k) (X.length+1)).1).length:Int)]))
  (hg2:(w10.alloc o).grownBy w12 (ob A9)) (ha9:ob A9'=ob A9∨ob A9'=some (w10.alloc o).heap.size) :
  AskR w wq bP bm l base Xs d A0 X gs m (k+1) A84 c84 A9' c9' A2 c2 G w12:=by
 have hl:=h.low;have hz:=h.base_;have hlt:=h.ps.lt;have hs1:=h.size;have hs2:=hb.size;have hs3:=hb2.size;have hs4:=hg2.size;have hal:(w10.alloc o).heap.size=w10.heap.size+1:=(by simp);rw [hal] at hs4 ha9;have l8:∀ b,ob A8=some b→wq.heap.size≤b∧b<wr.heap.size:=fun b e=>h.vs.blk e;have l9:∀ b,ob A9=some b→wq.heap.size≤b∧b<wr.heap.size:=fun b e=>Own.blk h.nx e;have lA:∀ b,ob A=some b→base≤b∧b<wr.heap.size:=fun b e=>h.ps.own.blk e;have l84:∀ b,ob A84=some b→wq.heap.size≤b∧b<w9.heap.size:=fun b e=>hv.blk e;have lA2:∀ b,ob A2=some b→base≤b∧b<w10.heap.size:=fun b e=>hp.own.blk e;have a9:∀ b,ob A9'=some b→ob A9=some b∨w10.heap.size+1=b:=fun b e=>by
  rcases ha9 with e2 | e2
  ·exact .inl (by rw [← e2]; exact e)
  ·right; rw [e] at e2; injection e2 with e2; exact e2.symm
 have n84:∀ b,ob A84=some b→ob A≠some b∧ob A9≠some b:=fun b e=>by
  rcases ha b e with e2 | e2
  ·exact h.ne8 b e2
  ·exact ⟨fun e3=>by have:=(lA b e3).2; omega,fun e3=>by have:=(l9 b e3).2; omega⟩
 have hb3:ButS (fun b=>ob A9=some b) w10 w12:=((ButS.refl _ w10).alloc o).grown hg2 fun b e=>.inl e;have hstep:(planG (plan (spl l) (inpS l) (ans l)) (gs.take (k+1)) (X.length+1))=((planG (plan (spl l) (inpS l) (ans l)) (gs.take k) (X.length+1)).1++plan (spl l) (inpS l) (ans l) g (X++((m:Int),[],[]) :: (planG (plan (spl l) (inpS l) (ans l)) (gs.take k) (X.length+1)).1).length,
   (planG (plan (spl l) (inpS l) (ans l)) (gs.take k) (X.length+1)).2++[if dep (spl l) (inpS l) g=0 then -1 else ((X++((m:Int),[],[]) :: (planG (plan (spl l) (inpS l) (ans l)) (gs.take k) (X.length+1)).1).length:Int)]):=by
  have e1:(X++((m:Int),([]:List Val),([]:List Int)) :: (planG (plan (spl l) (inpS l) (ans l)) (gs.take k) (X.length+1)).1).length=X.length+1+(planG (plan (spl l) (inpS l) (ans l)) (gs.take k) (X.length+1)).1.length:=(by simp; omega);rw [List.take_succ_eq_append_getElem hk,planG_app,← hg,e1];have e2:=plan_nil (v:=ans l) (spl_small l) (inpS l) g (X.length+1+(planG (plan (spl l) (inpS l) (ans l)) (gs.take k) (X.length+1)).1.length);simp only [planG,List.append_nil,e2]
 refine ⟨hz,hl,?_,by omega,?_,?_,?_,by rw [hstep]; exact ho,?_,?_,?_⟩
 ·refine ((h.buts.trans2 hb fun b hb' e => ?_).trans2 hb2 fun b hb' e => ?_).trans2 hb3 fun b hb' e => ?_
  ·have:=(l8 b e).1; omega
  ·rcases e with e | e | e
   ·exact .inl e
   ·exact .inr (.inl e)
   ·rcases h.at_ b e with e2 | e2
    ·exact .inr (.inr e2)
    ·omega
  ·have:=(l9 b e).1; omega
 ·intro b e
  rcases ha2 b e with e2 | e2
  ·exact h.at_ b e2
  ·right; omega
 ·rw [hstep];have h1:=hp.wide (Xs2:=fun b=>(((Xs b∨w.heap.size≤b)∧ob A84≠some b∧ob A9≠some b)∨w9.heap.size≤b)∧b<w10.heap.size) (fun b hb hx=>⟨hx,hb⟩) fun b hx=>hp.xs b hx.1;have h2:=h1.other hb3 fun b e=>⟨by have:=(l9 b e).1; omega,fun e2=>by
   rcases ha2 b e2 with e3 | e3
   ·exact h.ne9 b e e3
   ·have:=(l9 b e).2; omega,fun hx=>by
   rcases hx.1 with e3 | e3
   ·exact e3.2.2 e
   ·have:=(l9 b e).2; omega⟩
  have h3:=h2.wide (Xs2:=fun b=>(Xs b∨w.heap.size≤b)∧ob A84≠some b∧ob A9'≠some b) (fun b _ hx=>by
   refine ⟨?_,fun e => ?_,fun e => ?_⟩
   ·rcases hx.1 with e3 | e3
    ·exact e3.1
    ·right; omega
   ·rcases hx.1 with e3 | e3
    ·exact e3.2.1 e
    ·have:=(l84 b e).2; omega
   ·rcases a9 b e with e2 | e2
    ·rcases hx.1 with e3 | e3
     ·exact e3.2.2 e2
     ·have:=(l9 b e2).2; omega
    ·have:=hx.2; omega) (fun b hx=>by
   rcases hx.1 with e | e
   ·by_cases hA:ob A8=some b
    ·have:=(l8 b hA).1; omega
    ·by_cases hA9:ob A9=some b
     ·have:=(l9 b hA9).1; omega
     ·exact h.ps.xs b ⟨.inl e,hA,hA9⟩
   ·omega)
  simpa using h3
 ·rw [List.take_succ_eq_append_getElem hk,List.map_append,← hg];simp only [List.map_cons,List.map_nil,hvx];have h1:=hv.mono (T:=fun b=>(wq.heap.size≤b∧ob A≠some b∧ob A9≠some b)∧b<w9.heap.size) fun b hb hx=>⟨hx,hb⟩;have h2:=h1.keep (w':=w10) (hb2.kept fun b _ e f=>by
   rcases e with e | e
   ·have:=l84 b e
    rcases f with f | f | f
    ·omega
    ·omega
    ·exact (n84 b e).1 f
   ·rcases f with f | f | f
    ·omega
    ·omega
    ·exact e.1.2.1 f)
  have h3:=h2.keep (w':=w12) (hb3.kept fun b _ e f=>by
   rcases e with e | e
   ·exact (n84 b e).2 f
   ·exact e.1.2.2 f)
  exact h3.mono fun b _ hx=>⟨hx.1.1,fun e=>by
   rcases ha2 b e with e2 | e2
   ·exact hx.1.2.1 e2
   ·have:=hx.2; omega,fun e=>by
   rcases a9 b e with e2 | e2
   ·exact hx.1.2.2 e2
   ·have:=hx.2; omega⟩
 ·intro b e;have n:=n84 b e;refine ⟨fun e2 => ?_,fun e2 => ?_⟩
  ·rcases ha2 b e2 with e3 | e3
   ·exact n.1 e3
   ·have:=(l84 b e).2; omega
  ·rcases a9 b e2 with e3 | e3
   ·exact n.2 e3
   ·have:=(l84 b e).2; omega
 ·intro b e e2
  rcases a9 b e with e3 | e3
  ·rcases ha2 b e2 with e4 | e4
   ·exact h.ne9 b e3 e4
   ·have:=(l9 b e3).2; omega
  ·have:=(lA2 b e2).2; omega
 ·have h1:=(h.nn.mono (T:=fun b=>(w.heap.size≤b∧b<wq.heap.size∧ob A≠some b)∧b<wr.heap.size) fun b hb hx=>⟨hx,hb⟩);have h2:=((h1.keep (w':=w9) (hb.kept fun b _ e f=>by have:=(l8 b f).1; omega)).keep (w':=w10) (hb2.kept fun b _ e f=>by
   rcases f with f | f | f
   ·omega
   ·omega
   ·exact e.1.2.2 f)).keep (w':=w12) (hb3.kept fun b _ e f=>by have:=(l9 b f).1; omega)
  exact h2.mono fun b _ hx=>⟨hx.1.1,hx.1.2.1,fun e=>by
   rcases ha2 b e with e2 | e2
   ·exact hx.1.2.2 e2
   ·have:=hx.2; omega⟩
theorem AskR.first (h:AskR w wq bP bm l base Xs d A0 X gs m k A8 c8 A9 c9 A c G wr):∃ (gA:Nat) (xs:List Value) (u1 u2:Value),A=some ⟨gA,0,none⟩∧Own wr base 59 3 A (X.length+1+(planG (plan (spl l) (inpS l) (ans l)) (gs.take k) (X.length+1)).1.length) c xs ∧
  AL (CAU wr (fun b=>ob A≠some b∧(Xs b∨w.heap.size≤b)∧ob A8≠some b∧ob A9≠some b) d) xs (X++((m:Int),[],[]) :: (planG (plan (spl l) (inpS l) (ans l)) (gs.take k) (X.length+1)).1)∧xs[X.length*3]?=some (.int .i64 (m:Int))∧xs[X.length*3+1]?=some u1∧xs[X.length*3+2]?=some u2:=by
 obtain ⟨xs,ho,hv⟩:=h.ps.own;have e1:(X++((m:Int),([]:List Val),([]:List Int)) :: (planG (plan (spl l) (inpS l) (ans l)) (gs.take k) (X.length+1)).1).length=X.length+1+(planG (plan (spl l) (inpS l) (ans l)) (gs.take k) (X.length+1)).1.length:=(by simp; omega);rw [e1] at ho;obtain ⟨gA,rfl⟩:=Own.some_ ho (by omega);obtain ⟨⟨Ac,cc,Bc,ec,h4,-,-⟩,-⟩:=hv.2 X.length ((m:Int),[],[]) (by simp);have hx:∀ i u,(acells ((m:Int),[],[]) Ac cc Bc ec)[i]?=some u→xs[X.length*3+i]?=some u:=by
  intro i u hi;have hlt:i<3:=by
   have:=(List.getElem?_eq_some_iff.1 hi).1
   simpa [acells] using this
  rw [← h4,List.getElem?_take,if_pos hlt,List.getElem?_drop] at hi;exact hi
 exact ⟨gA,xs,_,_,rfl,ho,hv,hx 0 _ rfl,hx 1 _ rfl,hx 2 _ rfl⟩
theorem AskR.fin {gA:Nat} {xs:List Value} {L:List Nat} (h:AskR w wq bP bm l base Xs d A0 X gs m gs.length A8 c8 A9 c9 (some ⟨gA,0,none⟩) c G wr) (hb:ButS (fun b=>b=gA) wr w9)
  (hv:AL (CAU wr (fun b=>ob (some ⟨gA,0,none⟩)≠some b∧(Xs b∨w.heap.size≤b)∧ob A8≠some b∧ob A9≠some b) d) xs (X++((m:Int),[],[]) :: (planG (plan (spl l) (inpS l) (ans l)) gs (X.length+1)).1))
  (h0:xs[X.length*3]?=some (.int .i64 (m:Int))) (ho:Own w9 base 59 3 (some ⟨gA,0,none⟩) (X.length+1+(planG (plan (spl l) (inpS l) (ans l)) gs (X.length+1)).1.length) c ((xs.set (X.length*3+1) (.slice A8 gs.length c8)).set (X.length*3+2) (.slice A9 gs.length c9)))
  (hd:dep (spl l) (inpS l) L≠0) (hm:m=inpF (spl l) (inpS l) L) (hgs:gs=spl l m L) (hgl:gs.length≤1000):RetAsk w bP bm l base Xs d A0 X L (.returned (.int .i64 (X.length:Int))) w9:=by
 have hl:=h.low;have hz:=h.base_;have hlt:=h.ps.lt;have hA:=h.ps.own.blk (k:=gA) rfl;have l8:∀ b,ob A8=some b→wq.heap.size≤b∧b<wr.heap.size:=fun b e=>h.vs.blk e;have l9:∀ b,ob A9=some b→wq.heap.size≤b∧b<wr.heap.size:=fun b e=>Own.blk h.nx e;have hvs:=h.vs;have hnx:=h.nx;rw [List.take_length] at hvs hnx;have e1:(X++((m:Int),([]:List Val),([]:List Int)) :: (planG (plan (spl l) (inpS l) (ans l)) gs (X.length+1)).1).length=X.length+1+(planG (plan (spl l) (inpS l) (ans l)) gs (X.length+1)).1.length:=(by simp; omega);have hplan:X++plan (spl l) (inpS l) (ans l) L X.length=(X++((m:Int),([]:List Val),([]:List Int)) :: (planG (plan (spl l) (inpS l) (ans l)) gs (X.length+1)).1).set X.length ((m:Int),gs.map (fun g=>ans l m (g.headD 0)),(planG (plan (spl l) (inpS l) (ans l)) gs (X.length+1)).2):=by
  rw [plan_eq (spl_small l),if_neg hd,← hm,← hgs,List.set_append_right _ _ (Nat.le_refl _),Nat.sub_self];rfl
 have k1:∀ T:Nat→Prop,(∀ b,T b→b≠gA)→Kept T wr w9:=fun T hT=>hb.kept fun b _ e f=>hT b e f;refine ⟨some ⟨gA,0,none⟩,c,by rw [if_neg hd],h.buts.trans2 hb fun b hb' e => ?_,?_,h.at_⟩
 ·subst e
  rcases h.at_ b rfl with e | e
  ·exact .inr (.inr e)
  ·omega
 ·rw [hplan];obtain ⟨M,hM,hC⟩:=h.ps.map;refine h.ps.new (k1 _ fun b e f=>by have:=e.1; omega) (fun AA ac PA pc hbk => ?_) ⟨_,by rw [List.length_set,e1]; exact ho,AL.set (hv.imp fun _ _ hh=>(hh.keep (k1 _ fun b e f=>e.1 (by rw [f]; rfl))).mono (T:=fun b=>ob (some ⟨gA,0,none⟩)≠some b∧(Xs b∨w.heap.size≤b)) fun b _ e=>⟨e.1,e.2.1⟩) (by rw [e1]; omega) h0 ?_⟩ ?_ ⟨M,hM.keep (k1 _ fun b e f=>by omega),hC⟩ (Nat.le_trans hlt.2.2 hb.size)
  ·rw [List.length_set];rw [List.take_length] at hbk;exact hbk.keep (k1 _ fun b e f=>by omega)
  ·refine ⟨⟨A8,c8,A9,c9,?_,⟨by obtain ⟨_,ho1,_⟩:=hvs; simpa using ho1.cap,by simpa using Own.cap hnx⟩,?_,?_⟩,?_⟩
   ·simp [acells,planG_len]
   ·refine Row.keep (hvs.row (T:=fun b=>ob (some ⟨gA,0,none⟩)≠some b∧(Xs b∨w.heap.size≤b)) (by simp; omega) (fun b e=>⟨(h.ne8 b e).1,.inr ?_⟩) fun b e=>⟨e.2.1,.inr ?_⟩) (k1 _ fun b e f=>e.1 (by rw [f]; rfl))
    ·have:=(l8 b e).1; omega
    ·have:=e.1; omega
   ·refine Ints.keep (OwnIs.ints (T:=fun b=>ob (some ⟨gA,0,none⟩)≠some b∧(Xs b∨w.heap.size≤b)) hnx (by rw [planG_len]; omega) (fun b e=>⟨h.ne9 b e,.inr ?_⟩)) (k1 _ fun b e f=>e.1 (by rw [f]; rfl));have:=(l9 b e).1; omega
   ·rcases Nat.eq_zero_or_pos gs.length with h0 | h0
    ·exact .inl (by rw [List.eq_nil_of_length_eq_zero h0]; rfl)
    ·obtain ⟨_,ho1,_⟩:=hvs;obtain ⟨g8,rfl⟩:=Own.some_ ho1 (by simpa using h0);refine .inr ⟨g8,gs.length,c8,rfl,⟨(h.ne8 g8 rfl).1,.inr ?_⟩,?_,fun i => ?_⟩
     ·have:=(l8 g8 rfl).1; omega
     ·have:=(l8 g8 rfl).2; have:=hb.size; omega
     ·have h4:=Own.frozen_ ho1 i;have hkb:=(k1 (fun b=>b=g8) fun b e f=>(h.ne8 g8 rfl).1 (by rw [← f,e]; rfl)).2 g8 rfl (l8 g8 rfl).2;unfold World.frozen? at h4 ⊢;rw [hkb];exact h4
  ·rintro b (e | e)
   ·by_cases hA8:ob A8=some b
    ·have:=(l8 b hA8).1; omega
    ·by_cases hA9:ob A9=some b
     ·have:=(l9 b hA9).1; omega
     ·exact h.ps.xs b ⟨.inl e,hA8,hA9⟩
   ·omega
end
/- Which programs are alike; the greatest number of a list. Conditions: the planner lies in memory. -/

def maxN (l:List Nat):Nat:=l.foldl max 0
set_option maxRecDepth 100000 in
set_option maxHeartbeats 1000000 in
theorem slices_MaxI (l:List Nat) (A:Option Addr) (c:Nat) (w:World) (S:Nat→Prop) (h:Nums w S A l) (hne:l≠[]) (hB:∀ x∈l,x≤1000):Calls Tryz.prog 104 #[.slice A l.length c] w (SameI w (maxN l:Nat)):=by
 have H:=Hd h;have hl:=h.2;have hp:=List.length_pos_iff.2 hne;have HB:=Hd hB;obtain ⟨b,o,rfl,_,hc⟩:=h.at_ hp;rw [Nat.add_zero] at hc;obtain ⟨n,en⟩:∃ n,n=l.length:=⟨_,rfl⟩;have HN:=Hd en;obtain ⟨x,ex⟩:∃ x,x=l[0]:=⟨_,rfl⟩;have HX:=Hd ex;have HM1:=Hd (show maxN (l.take 1)=x by
  have e1:l.take (0+1)=l.take 0++[l[0]]:=List.take_succ_eq_append_getElem hp;rw [show (1:Nat)=0+1 from rfl,e1,ex]; simp [maxN])
 rw [← ex] at hc;rw [← en] at hl hp ⊢;have i0:¬ (n:Int)<1:=(by omega);have i1:(0:Int)<(n:Int):=(by omega);clear h hne hB ex;have hx1:x≤1000:=(by rw [HX.o]; exact HB.o _ (List.getElem_mem _));clear en
 go_enter Tryz.func104,Tryz.ntmps104
 go_wp2
 go_loopw [3,4] (fun v i wr=>∃ (k a:Nat),1≤k∧k≤n∧v=.int .i64 (a:Int)∧i=.int .i64 (k:Int)∧a≤1000∧a=maxN (l.take k)∧wr=w) (fun _ i _=>n-(intOf i).toNat)
 case atStart=>exact ⟨1,x,Nat.le_refl _,by omega,rfl,rfl,hx1,HM1.o.symm,rfl⟩
 case round =>
  obtain ⟨k,a,hk1,hk,rfl,rfl,ha,hae,rfl⟩:=hrel;have HAE:=Hd hae;clear hae;by_cases hlt:k<n
  ·have hks:k<l.length:=(by rw [← HN.o]; exact hlt);obtain ⟨b2,o2,e2,_,hc2⟩:=H.o.at_ hks;injection e2 with e2;injection e2 with e2 e3;subst e2 e3;obtain ⟨y,ey⟩:∃ y,y=l[k]:=⟨_,rfl⟩;have hy:y≤1000:=(by rw [ey]; exact HB.o _ (List.getElem_mem hks));have HT:=Hd (show maxN (l.take (k+1))=max a y by rw [List.take_succ_eq_append_getElem hks,← ey,HAE.o]; simp [maxN,List.foldl_append]);rw [← ey] at hc2;have j0:(0:Int)≤(k:Int):=(by omega);have j1:(k:Int)<(n:Int):=(by omega);clear ey hks;go_wp2;go_roundw
   case rel=>exact ⟨k+1,max a y,by omega,by omega,by go_num,by go_num,by omega,HT.o.symm,trivial⟩
   case measure=>simp [intOf]; omega
  ·have HF:=Hd (show a=maxN l by have h:=HAE.o; rwa [List.take_of_length_le (by rw [← HN.o]; omega)] at h);go_wp2;go_ret;exact ⟨by rw [← HF.o]; rfl,rfl⟩
def diffB (P:List Nat) (a b:Nat):Bool:=decide (P.getD a 0≠P.getD b 0)
set_option maxRecDepth 100000 in
set_option maxHeartbeats 1000000 in
theorem alike_1 (P:List Nat) (A:Option Addr) (c a b b1 b2:Nat) (w:World) (S:Nat→Prop) (h:Nums w S A P) (ha:a<P.length) (hb:b<P.length) (h1:w.cell? ⟨b1,0,none⟩=some (.int .i64 (a:Int))) (h2:w.cell? ⟨b2,0,none⟩=some (.int .i64 (b:Int))) :
  Calls Tryz.prog 150 #[.slice A P.length c,.pointer (some ⟨b1,0,none⟩),.pointer (some ⟨b2,0,none⟩)] w (RetB w (diffB P a b)):=by
 obtain ⟨g,o,rfl,_,hca⟩:=h.at_ ha;obtain ⟨g',o',e',_,hcb⟩:=h.at_ hb;injection e' with e';injection e' with e1 e2;subst e1 e2;have hl:=h.2;obtain ⟨x,ex⟩:∃ x,x=P[a]:=⟨_,rfl⟩;obtain ⟨y,ey⟩:∃ y,y=P[b]:=⟨_,rfl⟩;have HD:=Hd (show ((x:Int) != (y:Int))=diffB P a b by
  unfold diffB;rw [getD_of _ _ _ ha,getD_of _ _ _ hb,← ex,← ey];by_cases e:x=y
  ·subst e; simp
  ·have e2:(x:Int)≠(y:Int):=(by omega);rw [bne_iff_ne.2 e2]; simp [e])
 obtain ⟨n,en⟩:∃ n,n=P.length:=⟨_,rfl⟩;rw [← ex] at hca;rw [← ey] at hcb;rw [← en] at hl ha hb ⊢;have C1:=Hd h1;have C2:=Hd h2;have P1:=Hd hca;have P2:=Hd hcb;have i0:(0:Int)≤(a:Int):=(by omega);have i1:(a:Int)<(n:Int):=(by omega);have i2:(0:Int)≤(b:Int):=(by omega);have i3:(b:Int)<(n:Int):=(by omega);clear h h1 h2 hca hcb ex ey en
 go_enter Tryz.func150,Tryz.ntmps150
 go_upto_region 1 with fail
 refine wp_region_chain (by kernel_rfl) (fun i=>[i]) (by kernel_rfl) (LZ (fun _ _=>False)) (LZ.refl _) (LZ.trans _) (LK []) gz0 (LK.zero _) ?_;apply Chain.pure (LZ.refl _) (by rfl)
 ·intro vals γ w' ρ hR hN hp hρ hc hf hg;refine ⟨rfl,?_⟩;have e0:=hρ 0;(conv at e0=>rhs; whnf);clear hR hN hp hρ;go_light;go_simp;exact ⟨rfl,rfl⟩
 ·rfl
 apply Chain.pure (LZ.refl _) (by rfl)
 ·intro vals γ w' ρ hR hN hp hρ hc hf hg;refine ⟨rfl,?_⟩;have e1:=hρ 1;(conv at e1=>rhs; whnf);have hxx:=hR.ext0 (fun _ _ _ h=>h.elim);have k0:=hxx.cell C1.o;have k1:=hxx.cell C2.o;have k2:=hxx.cell P1.o;have k3:=hxx.cell P2.o;clear hxx hR hN hp hρ;go_light;go_simp;exact ⟨rfl,rfl⟩
 ·rfl
 apply Chain.pure (LZ.refl _) (by rfl)
 ·intro vals γ w' ρ hR hN hp hρ hc hf hg;refine ⟨rfl,?_⟩;have e5:ρ (.tmp 5)=_:=(hρ 5).trans (hp 0 (by decide));have e6:ρ (.tmp 6)=_:=(hρ 6).trans (hp 1 (by decide));clear hR hN hp hρ;go_light;go_simp;exact ⟨rfl,rfl⟩
 ·rfl
 apply Chain.pure (LZ.refl _) (by rfl)
 ·intro vals γ w' ρ hR hN hp hρ hc hf hg;refine ⟨rfl,?_⟩;have e7:ρ (.tmp 7)=_:=(hρ 7).trans (hp 2 (by decide));have hxx:=hR.ext0 (fun _ _ _ h=>h.elim);have k0:=hxx.cell C1.o;have k1:=hxx.cell C2.o;have k2:=hxx.cell P1.o;have k3:=hxx.cell P2.o;clear hxx hR hN hp hρ;go_light;go_simp;exact ⟨rfl,rfl⟩
 ·rfl
 apply Chain.pure (LZ.refl _) (by rfl)
 ·intro vals γ w' ρ hR hN hp hρ hc hf hg;refine ⟨rfl,?_⟩;have e0:=hρ 0;(conv at e0=>rhs; whnf);clear hR hN hp hρ;go_light;go_simp;exact ⟨rfl,rfl⟩
 ·rfl
 apply Chain.pure (LZ.refl _) (by rfl)
 ·intro vals γ w' ρ hR hN hp hρ hc hf hg;refine ⟨rfl,?_⟩;have e2:=hρ 2;(conv at e2=>rhs; whnf);have hxx:=hR.ext0 (fun _ _ _ h=>h.elim);have k0:=hxx.cell C1.o;have k1:=hxx.cell C2.o;have k2:=hxx.cell P1.o;have k3:=hxx.cell P2.o;clear hxx hR hN hp hρ;go_light;go_simp;exact ⟨rfl,rfl⟩
 ·rfl
 apply Chain.pure (LZ.refl _) (by rfl)
 ·intro vals γ w' ρ hR hN hp hρ hc hf hg;refine ⟨rfl,?_⟩;have e9:ρ (.tmp 9)=_:=(hρ 9).trans (hp 4 (by decide));have e10:ρ (.tmp 10)=_:=(hρ 10).trans (hp 5 (by decide));clear hR hN hp hρ;go_light;go_simp;exact ⟨rfl,rfl⟩
 ·rfl
 apply Chain.pure (LZ.refl _) (by rfl)
 ·intro vals γ w' ρ hR hN hp hρ hc hf hg;refine ⟨rfl,?_⟩;have e11:ρ (.tmp 11)=_:=(hρ 11).trans (hp 6 (by decide));have hxx:=hR.ext0 (fun _ _ _ h=>h.elim);have k0:=hxx.cell C1.o;have k1:=hxx.cell C2.o;have k2:=hxx.cell P1.o;have k3:=hxx.cell P2.o;clear hxx hR hN hp hρ;go_light;go_simp;exact ⟨rfl,rfl⟩
 ·rfl
 apply Chain.pure (LZ.refl _) (by rfl)
 ·intro vals γ w' ρ hR hN hp hρ hc hf hg;refine ⟨rfl,?_⟩;have e8:ρ (.tmp 8)=_:=(hρ 8).trans (hp 3 (by decide));have e12:ρ (.tmp 12)=_:=(hρ 12).trans (hp 7 (by decide));clear hR hN hp hρ;go_light;go_simp;exact ⟨rfl,rfl⟩
 ·rfl
 apply Chain.pure (LZ.refl _) (by rfl)
 ·intro vals γ w' ρ hR hN hp hρ hc hf hg;refine ⟨rfl,?_⟩;have e13:ρ (.tmp 13)=_:=(hρ 13).trans (hp 8 (by decide));clear hR hN hp hρ;go_light;go_simp;exact ⟨rfl,rfl⟩
 ·rfl
 intro vals γ w9 hR hG;have v0:vals 0=_:=hG 0 (by decide);have v1:vals 1=_:=hG 1 (by decide);have v2:vals 2=_:=hG 2 (by decide);have v3:vals 3=_:=hG 3 (by decide);have v4:vals 4=_:=hG 4 (by decide);have v5:vals 5=_:=hG 5 (by decide);have v6:vals 6=_:=hG 6 (by decide);have v7:vals 7=_:=hG 7 (by decide);have v8:vals 8=_:=hG 8 (by decide);have v9:vals 9=_:=hG 9 (by decide);simp only [lexFrame,Act.put,List.setIfInBounds_toArray,List.set_cons_succ,List.set_cons_zero,Nat.zero_add,Nat.reduceAdd,v0,v1,v2,v3,v4,v5,v6,v7,v8,v9];clear v0 v1 v2 v3 v4 v5 v6 v7 v8 v9;have hx9:Ext w w9:=hR.ext0 (fun _ _ _ h=>h.elim);have HX9:=Hd hx9;clear hR hG hx9;go_wp2;go_ret;exact ⟨by rw [← HD.o]; rfl,HX9.o⟩
set_option maxRecDepth 100000 in
set_option maxHeartbeats 1000000 in
theorem IndexFunc_alike (n:Nat) (Ps:List (List Nat)) (A:Option Addr) (c a b b1 b2:Nat) (w:World) (S:Nat→Prop) (h:NN w S A Ps) (hn:∀ P∈Ps,P.length=n) (ha:a<n) (hb:b<n) (h1:w.cell? ⟨b1,0,none⟩=some (.int .i64 (a:Int))) (h2:w.cell? ⟨b2,0,none⟩=some (.int .i64 (b:Int))) :
  Calls Tryz.prog 171 #[.slice A Ps.length c,.func (.func 150) #[] #[.pointer (some ⟨b1,0,none⟩),.pointer (some ⟨b2,0,none⟩)]] w (RetPos w (Ps.any fun P=>diffB P a b)):=by
 have H:=Hd h;have hl:=h.1;have HN:=Hd hn;have H1:=Hd h1;have H2:=Hd h2;obtain ⟨np,enp⟩:∃ np,np=Ps.length:=⟨_,rfl⟩;have HNP:=Hd enp;rw [← enp] at hl ⊢;clear h hn h1 h2 enp
 go_enter Tryz.func171,Tryz.ntmps171
 go_wp2
 go_loopw [8] (fun i wr=>∃ k:Nat,k≤np∧((Ps.take k).any fun P=>diffB P a b)=false∧i=.int .i64 (k:Int)∧Ext w wr) (fun i _=>np-(intOf i).toNat)
 case atStart=>exact ⟨0,Nat.zero_le _,by simp,rfl,Ext.refl _⟩
 case round =>
  obtain ⟨k,hk,hpre,rfl,hx⟩:=hrel;have HX:=Hd hx;have HP:=Hd hpre;clear hx hpre;by_cases hlt:k<np
  ·have hks:k<Ps.length:=(by rw [← HNP.o]; exact hlt);obtain ⟨bb,o,B,e,hA,_,hc,-,hnum⟩:=(H.o.keep (HX.o.kept _)).at_ hks;subst hA;obtain ⟨P,ep⟩:∃ P,P=Ps[k]:=⟨_,rfl⟩;rw [← ep] at hc hnum;have hpl:P.length=n:=(by rw [ep]; exact HN.o _ (List.getElem_mem hks));have HCALL:=Hd (alike_1 P B e a b b1 b2 wr S hnum (by omega) (by omega) (HX.o.cell H1.o) (HX.o.cell H2.o));rw [hpl] at HCALL hc;have HT:=Hd (show Ps.take (k+1)=Ps.take k++[P] by rw [List.take_succ_eq_append_getElem hks,← ep]);have HL:=Hd (show P∈Ps by rw [ep]; exact List.getElem_mem hks);have i0:(0:Int)≤(k:Int):=(by omega);have i1:(k:Int)<(np:Int):=(by omega);clear ep hnum hpl hks
   go_wp2_with fail
   refine HCALL.o.mono ?_;rintro e1 w1 ⟨rfl,hx1⟩;have HX1:=Hd (HX.o.trans hx1);clear hx1 hc HCALL;cases hf:diffB P a b
   ·have HF:=Hd hf;clear hf;go_wp2;go_roundw
    case rel=>exact ⟨k+1,by omega,by rw [HT.o,List.any_append,HP.o]; simp [HF.o],by go_num,HX1.o⟩
    case measure=>simp [intOf]; omega
   ·have HF:=Hd (show (Ps.any fun P=>diffB P a b)=true from List.any_eq_true.2 ⟨P,HL.o,hf⟩);clear hf;go_wp2;go_ret;exact ⟨(k:Int),rfl,by rw [HF.o]; simp,HX1.o⟩
  ·have HF:=Hd (show (Ps.any fun P=>diffB P a b)=false by have h:=HP.o; rwa [List.take_of_length_le (by rw [← HNP.o]; omega)] at h);go_wp2;go_ret;exact ⟨-1,rfl,by rw [HF.o]; rfl,HX.o⟩
def alikeB (l:List (List Val)) (a b:Nat):Bool:=!((List.range (inpS l)).map (placesS l)).any fun P=>diffB P a b
set_option maxRecDepth 100000 in
set_option maxHeartbeats 1000000 in
theorem pl_alike (l:List (List Val)) (bP bm a b:Nat) (w:World) (h:PD w bP bm l) (ha:a<l.length) (hb:b<l.length) (hN:inpS l≤4294967296):Calls Tryz.prog 107 #[.pointer (some ⟨bP,0,none⟩),.int .i64 (a:Int),.int .i64 (b:Int)] w (RetB w (alikeB l a b)):=by
 obtain ⟨w0,hw0⟩:∃ w0,w0=(w.alloc (.cells #[.int .i64 (a:Int)] 3)).alloc (.cells #[.int .i64 (b:Int)] 3):=⟨_,rfl⟩;have hx0:Ext w w0:=(by rw [hw0]; exact ((Ext.refl w).alloc _).alloc _);have hb1:Blk w0 w.heap.size 3 #[.int .i64 (a:Int)]:=(by rw [hw0]; exact (Blk.new _ _ _).keep (Kept.alloc _ _ _));have hb2:Blk w0 (w.heap.size+1) 3 #[.int .i64 (b:Int)]:=by
  rw [hw0];have:=Blk.new (w.alloc (.cells #[.int .i64 (a:Int)] 3)) 3 #[.int .i64 (b:Int)]
  simpa using this
 obtain ⟨PA,pc,hp1,hp2⟩:=(h.ext hx0).pl;have HCALL:=Hd (IndexFunc_alike l.length _ PA pc a b w.heap.size (w.heap.size+1) w0 _ hp2 (by
  intro P hP;obtain ⟨m,_,rfl⟩:=List.mem_map.1 hP;exact placesS_len l m) ha hb (hb1.cell (i:=0) rfl) (hb2.cell (i:=0) rfl))
 rw [List.length_map,List.length_range] at HCALL;have HX0:=Hd hx0;have HW0:=Hd hw0;obtain ⟨N,eN⟩:∃ N,N=inpS l:=⟨_,rfl⟩;rw [← eN] at hp1 HCALL hN;have HEN:=Hd eN;clear h hx0 hb1 hb2 hp2 hw0 eN
 go_enter Tryz.func107,Tryz.ntmps107
 go_upto_region 1 with fail
 rw [← HW0.o]
 go_wp2_with fail
 go_enter Tryz.func127,Tryz.ntmps127
 go_wp2_with fail
 refine HCALL.o.mono ?_;rintro e1 w1 ⟨n,rfl,hn,hx⟩;have HN:=Hd hn;have HX:=Hd (HX0.o.trans hx);clear hn hx HCALL;go_wp2;go_ret;exact ⟨by show Ending.returned (.bool (!decide (0≤n)))=_; rw [HN.o]; unfold alikeB; rw [← HEN.o],HX.o⟩
set_option maxRecDepth 100000 in
set_option maxHeartbeats 1000000 in
theorem lower_1 (l:List (List Val)) (bP bm a b b1 b2:Nat) (w:World) (h:PD w bP bm l) (ha:a<l.length) (hb:b<l.length) (hN:inpS l≤4294967296) (h1:w.cell? ⟨b1,0,none⟩=some (.pointer (some ⟨bP,0,none⟩))) (h2:w.cell? ⟨b2,0,none⟩=some (.int .i64 (b:Int))) :
  Calls Tryz.prog 106 #[.int .i64 (a:Int),.pointer (some ⟨b1,0,none⟩),.pointer (some ⟨b2,0,none⟩)] w (RetB w (alikeB l a b)):=by
 have HCALL:=Hd (pl_alike l bP bm a b w h ha hb hN);clear h
 go_enter Tryz.func106,Tryz.ntmps106
 go_wp2_with fail
 refine HCALL.o.mono ?_;rintro e1 w1 ⟨rfl,hx⟩;have HX:=Hd hx;clear hx HCALL;go_wp2;go_ret;exact ⟨rfl,HX.o⟩
set_option maxRecDepth 100000 in
set_option maxHeartbeats 1000000 in
theorem ContainsFunc_low (l:List (List Val)) (bP bm:Nat) (L:List Nat) (A:Option Addr) (c b b1 b2:Nat) (w:World) (S:Nat→Prop) (hn:Nums w S A L) (h:PD w bP bm l) (ha:∀ x∈L,x<l.length) (hb:b<l.length) (hN:inpS l≤4294967296) (h1:w.cell? ⟨b1,0,none⟩=some (.pointer (some ⟨bP,0,none⟩))) (h2:w.cell? ⟨b2,0,none⟩=some (.int .i64 (b:Int))) :
  Calls Tryz.prog 105 #[.slice A L.length c,.func (.func 106) #[] #[.pointer (some ⟨b1,0,none⟩),.pointer (some ⟨b2,0,none⟩)]] w (RetB w (L.any fun x=>alikeB l x b)):=by
 have H:=Hd hn;have hl:=hn.2;have HPD:=Hd h;have HA:=Hd ha;have H1:=Hd h1;have H2:=Hd h2;obtain ⟨np,enp⟩:∃ np,np=L.length:=⟨_,rfl⟩;have HNP:=Hd enp;rw [← enp] at hl ⊢;have HBL:=Hd hb;have HNN:=Hd hN;clear h hn h1 h2 enp ha hb hN
 go_enter Tryz.func105,Tryz.ntmps105
 go_wp2_with fail
 go_enter Tryz.func149,Tryz.ntmps149
 go_wp2
 go_loopw [8] (fun i wr=>∃ k:Nat,k≤np∧((L.take k).any fun x=>alikeB l x b)=false∧i=.int .i64 (k:Int)∧Ext w wr) (fun i _=>np-(intOf i).toNat)
 case atStart=>exact ⟨0,Nat.zero_le _,by simp,rfl,Ext.refl _⟩
 case round =>
  obtain ⟨k,hk,hpre,rfl,hx⟩:=hrel;have HX:=Hd hx;have HP:=Hd hpre;clear hx hpre;by_cases hlt:k<np
  ·have hks:k<L.length:=(by rw [← HNP.o]; exact hlt);obtain ⟨bb,o,hA,_,hc⟩:=(H.o.keep (HX.o.kept _)).at_ hks;subst hA;obtain ⟨x,ex⟩:∃ x,x=L[k]:=⟨_,rfl⟩;rw [← ex] at hc;have HCALL:=Hd (lower_1 l bP bm x b b1 b2 wr (HPD.o.ext HX.o) (HA.o x (by rw [ex]; exact List.getElem_mem hks)) HBL.o HNN.o (HX.o.cell H1.o) (HX.o.cell H2.o));have HT:=Hd (show L.take (k+1)=L.take k++[x] by rw [List.take_succ_eq_append_getElem hks,← ex]);have HL:=Hd (show x∈L by rw [ex]; exact List.getElem_mem hks);have i0:(0:Int)≤(k:Int):=(by omega);have i1:(k:Int)<(np:Int):=(by omega);clear ex hks
   go_wp2_with fail
   refine HCALL.o.mono ?_;rintro e1 w1 ⟨rfl,hx1⟩;have HX1:=Hd (HX.o.trans hx1);clear hx1 hc HCALL;cases hf:alikeB l x b
   ·have HF:=Hd hf;clear hf;go_wp2;go_roundw
    case rel=>exact ⟨k+1,by omega,by rw [HT.o,List.any_append,HP.o]; simp [HF.o],by go_num,HX1.o⟩
    case measure=>simp [intOf]; omega
   ·have HF:=Hd (show (L.any fun x=>alikeB l x b)=true from List.any_eq_true.2 ⟨x,HL.o,hf⟩);clear hf;have j0:(0:Int)≤(k:Int):=(by omega);go_wp2;go_ret;exact ⟨by rw [HF.o]; rfl,HX1.o⟩
  ·have HF:=Hd (show (L.any fun x=>alikeB l x b)=false by have h:=HP.o; rwa [List.take_of_length_le (by rw [← HNP.o]; omega)] at h);go_wp2;go_ret;exact ⟨by rw [HF.o]; rfl,HX.o⟩
/- The planner's lower bound. Conditions: the planner lies in memory. -/

def diffs (l:List (List Val)) (k:Nat):Nat:=(List.range k).foldl (fun a k=>if ((List.range k).any fun o=>alikeB l o k)=true then a else a+1) 0
def widest (l:List (List Val)):Nat:=(List.range (inpS l)).foldl (fun a m=>max a (maxN (placesS l m)+1)) 0
def lowG (wd df:Nat):Nat→Nat→Nat→Nat
 | 0,_,n=>n
 | f+1,p,n=>if p<df then lowG wd df f (p*wd) (n+1) else n
def lowF (l:List (List Val)):Nat:=lowG (widest l) (diffs l l.length) (diffs l l.length) 1 0
theorem diffs_succ (l:List (List Val)) (k:Nat):diffs l (k+1)=if ((List.range k).any fun o=>alikeB l o k)=true then diffs l k else diffs l k+1:=by
 unfold diffs;rw [List.range_succ,List.foldl_append];rfl
theorem diffs_le (l:List (List Val)):∀ k,diffs l k≤k
 | 0=>by simp [diffs]
 | k+1=>by
  have:=diffs_le l k;rw [diffs_succ];split <;> omega
theorem maxN_ge {l:List Nat} : ∀ x∈l,x≤maxN l:=by
 intro x hx;exact (foldl_max_ge (f:=fun x=>x) l 0).2 x hx
theorem maxN_le {l:List Nat} {B:Nat} (h:∀ x∈l,x≤B):maxN l≤B:=foldl_max_le (f:=fun x=>x) l 0 (Nat.zero_le _) h
theorem widest_le (l:List (List Val)):widest l≤l.length+1:=foldl_max_le (f:=fun m=>maxN (placesS l m)+1) _ 0 (Nat.zero_le _) fun m _=>by have:=maxN_le (placesS_le l m); omega
theorem diffs_two (l:List (List Val)):∀ k,k≤l.length→2≤diffs l k→2≤widest l
 | 0,_,h=>by simp [diffs] at h
 | k+1,hk,h=>by
  rw [diffs_succ] at h;by_cases ha:((List.range k).any fun o=>alikeB l o k)=true
  ·rw [if_pos ha] at h;exact diffs_two l k (by omega) h
  ·rw [if_neg ha] at h
   rcases Nat.eq_zero_or_pos k with h0 | h0
   ·subst h0;simp [diffs] at h
   ·have h1:alikeB l 0 k=false:=by
     cases e:alikeB l 0 k with
     | false=>rfl
     | true=>exact absurd (List.any_eq_true.2 ⟨0,List.mem_range.2 h0,e⟩) ha
    unfold alikeB at h1;have h2:(((List.range (inpS l)).map (placesS l)).any fun P=>diffB P 0 k)=true:=(by simpa using h1);obtain ⟨P,hP,hd⟩:=List.any_eq_true.1 h2;obtain ⟨m,hm,rfl⟩:=List.mem_map.1 hP;have hd':(placesS l m).getD 0 0≠(placesS l m).getD k 0:=(by simpa [diffB] using hd);have h3:=(foldl_max_ge (f:=fun m=>maxN (placesS l m)+1) (List.range (inpS l)) 0).2 m hm;have hl:=placesS_len l m;have a0:(placesS l m).getD 0 0≤maxN (placesS l m):=(by rw [getD_of _ _ _ (by omega)]; exact maxN_ge _ (List.getElem_mem _));have a1:(placesS l m).getD k 0≤maxN (placesS l m):=(by rw [getD_of _ _ _ (by omega)]; exact maxN_ge _ (List.getElem_mem _));show 2≤widest l;unfold widest;omega
set_option maxRecDepth 100000 in
set_option maxHeartbeats 2000000 in
theorem pl_lower (l:List (List Val)) (bP bm:Nat) (AA:Option Addr) (ac:Nat) (w:World) (h:PD w bP bm l) (hl:l.length<20) (h0:w.cell? ⟨bP,0,none⟩=some (.slice AA l.length ac)) (hac:l.length≤ac):Calls Tryz.prog 55 #[.pointer (some ⟨bP,0,none⟩)] w (RetI w (lowF l:Nat)):=by
 obtain ⟨w0,hw0⟩:∃ w0,w0=w.alloc (.cells #[.pointer (some ⟨bP,0,none⟩)] 88):=⟨_,rfl⟩;obtain ⟨b1,hb1⟩:∃ b1,b1=w.heap.size:=⟨_,rfl⟩;have hx0:Ext w w0:=(by rw [hw0]; exact (Ext.refl w).alloc _);have hk1:Blk w0 b1 88 #[.pointer (some ⟨bP,0,none⟩)]:=(by rw [hw0,hb1]; exact Blk.new _ _ _);have HX0:=Hd hx0;have HPD:=Hd (h.ext hx0);have HL:=Hd hl;have HAC:=Hd hac;have HC0:=Hd (hx0.cell h0);have HC1:=Hd (hk1.cell (i:=0) rfl);obtain ⟨PA,pc,hp1,hp2⟩:=HPD.o.pl;have hN:=hp2.1;rw [List.length_map,List.length_range] at hN;obtain ⟨N,eN⟩:∃ N,N=inpS l:=⟨_,rfl⟩;have HEN:=Hd eN;have HNN:=Hd hp2;rw [← eN] at hp1 hN;obtain ⟨n,en⟩:∃ n,n=l.length:=⟨_,rfl⟩;have HN:=Hd en;have hn20:n<20:=(by rw [en]; exact hl);rw [← en] at HC0 HAC;have c1:=HC1.o;have HW0:=Hd hw0;have HB1:=Hd hb1;clear h hl h0 hx0 hp2 eN en hac hk1 hw0 hb1
 go_enter Tryz.func55,Tryz.ntmps55
 go_upto_region 2 with fail
 rw [← HW0.o,← HB1.o];go_wp2
 go_loopw [3,15] (fun v i wr=>∃ (k a:Nat),k≤N∧v=.int .i64 (a:Int)∧i=.int .i64 (k:Int)∧a≤30∧a=(List.range k).foldl (fun a m=>max a (maxN (placesS l m)+1)) 0∧wr=w0) (fun _ i _=>N-(intOf i).toNat)
 case atStart=>exact ⟨0,0,Nat.zero_le _,rfl,rfl,Nat.zero_le _,rfl,rfl⟩
 case round =>
  clear c1 hp1;obtain ⟨k,a,hk,rfl,rfl,ha30,hae,rfl⟩:=hrel;have HAE:=Hd hae;clear hae;by_cases hlt:k<N
  ·have hln:l≠[]:=by
    intro e;have:=HEN.o;rw [e] at this;simp [inpS] at this;omega
   obtain ⟨b,o,B,e,rfl,_,hc,hcap,hnum⟩:=HNN.o.at_ (k:=k) (by simp; have:=HEN.o; omega);simp only [List.getElem_map,List.getElem_range,placesS_len] at hc hnum hcap;have hmx:=maxN_le (placesS_le l k);have HCALL:=Hd (slices_MaxI (placesS l k) B e wr _ hnum (by intro e2; apply hln; have:=placesS_len l k; rw [e2] at this; exact List.eq_nil_of_length_eq_zero (by simpa using this.symm)) fun x hx=>by have:=placesS_le l k x hx; have:=HL.o; omega);rw [placesS_len,← HN.o] at HCALL;rw [← HN.o] at hc hmx;obtain ⟨mx,emx⟩:∃ mx,mx=maxN (placesS l k):=⟨_,rfl⟩;have HT:=Hd (show (List.range (k+1)).foldl (fun a m=>max a (maxN (placesS l m)+1)) 0=max a (mx+1) by rw [List.range_succ,List.foldl_append,← HAE.o,emx]; rfl);rw [← emx] at HCALL hmx;have i0:(0:Int)≤(k:Int):=(by omega);have i1:(k:Int)<(N:Int):=(by omega);clear hln hcap hnum emx
   go_wp2_with fail
   refine HCALL.o.mono ?_;rintro e3 w3 ⟨rfl,rfl⟩;go_wp2;go_roundw
   case rel=>exact ⟨k+1,max a (mx+1),by omega,by go_num,by go_num,by omega,HT.o.symm,trivial⟩
   case measure=>simp [intOf]; omega
  ·obtain rfl:k=N:=by omega
   have HWD:=Hd (show a=widest l by rw [HAE.o]; unfold widest; rw [HEN.o]);have c0:=HC0.o;have c1:=HC1.o;obtain ⟨w1,rfl⟩:∃ w1,w1=wr:=⟨_,rfl⟩;go_wp2
   go_loopw [6,30] (fun v i wr=>∃ (k a:Nat),k≤n∧v=.int .i64 (a:Int)∧i=.int .i64 (k:Int)∧a=diffs l k∧Ext w1 wr) (fun _ i _=>n-(intOf i).toNat)
   case atStart=>exact ⟨0,0,Nat.zero_le _,rfl,rfl,rfl,Ext.refl _⟩
   case round =>
    clear c0 c1;obtain ⟨k2,a2,hk2,rfl,rfl,hae,hx⟩:=hrel;have HAE2:=Hd hae;have hle:=diffs_le l k2;rw [← hae] at hle;have HX:=Hd hx;clear hae hx;by_cases hlt2:k2<n
    ·go_upto_region 11 with fail
     obtain ⟨b7,hb7⟩:∃ b7,b7=wr.heap.size:=⟨_,rfl⟩;obtain ⟨wr1,hwr1⟩:∃ wr1,wr1=wr.alloc (.cells #[.int .i64 (k2:Int)] 3):=⟨_,rfl⟩;rw [← hwr1,← hb7];have hbk7:Blk wr1 b7 3 #[.int .i64 (k2:Int)]:=(by rw [hwr1,hb7]; exact Blk.new _ _ _);have hx1:Ext w1 wr1:=(by rw [hwr1]; exact HX.o.alloc _);have HX1:=Hd hx1;have C1:=Hd (hx1.cell HC1.o);have C2:=Hd (hx1.cell HC0.o);have C3:=Hd (hbk7.cell (i:=0) rfl);have HCF:=Hd (show ∀ (g:Nat) (w':World),Ext wr1 w'→Blk w' g 3 (dcells (List.range k2))→Calls Tryz.prog 105 #[.slice (some ⟨g,0,none⟩) k2 k2,.func (.func 106) #[] #[.pointer (some ⟨b1,0,none⟩),.pointer (some ⟨b7,0,none⟩)]] w' (RetB w' ((List.range k2).any fun x=>alikeB l x k2)) from fun g w' hx hb=>by
      have h1:=ContainsFunc_low l bP bm (List.range k2) (some ⟨g,0,none⟩) k2 k2 b1 b7 w' (fun b=>b=g) ⟨by have:=hb.rd; simpa [dcells] using this,by rw [List.length_range]; omega⟩ ((HPD.o.ext hx1).ext hx) (fun x hx=>by have:=List.mem_range.1 hx; have:=HN.o; omega) (by have:=HN.o; omega) (by have:=HEN.o; omega) (hx.cell C1.o) (hx.cell C3.o);rw [List.length_range] at h1;exact h1)
     have i0:(0:Int)≤(k2:Int):=(by omega);have i1:(k2:Int)≤(n:Int):=(by omega);have i2:k2≤n:=(by omega);have i3:k2≤ac:=(by have:=HAC.o; omega);clear hwr1 hb7 hbk7 hx1;refine wp_region_chain (by kernel_rfl) (fun i=>[i]) (by kernel_rfl) (LZ (fun _ _=>False)) (LZ.refl _) (LZ.trans _) (LK []) gz0 (LK.zero _) ?_;apply Chain.pure (LZ.refl _) (by rfl)
     ·intro vals γ w' ρ hR hN hp hρ hc hf hg;refine ⟨rfl,?_⟩;have e1:=hρ 1;(conv at e1=>rhs; whnf);have hxx:=hR.ext0 (fun _ _ _ h=>h.elim);have k0:=hxx.cell C1.o;have k1:=hxx.cell C2.o;have k2:=hxx.cell C3.o;clear hxx hR hN hp hρ;go_light;go_simp;exact ⟨rfl,rfl⟩
     ·rfl
     apply Chain.pure (LZ.refl _) (by rfl)
     ·intro vals γ w' ρ hR hN hp hρ hc hf hg;refine ⟨rfl,?_⟩;have e33:ρ (.tmp 33)=_:=(hρ 33).trans (hp 0 (by decide));clear hR hN hp hρ;go_light;go_simp;exact ⟨rfl,rfl⟩
     ·rfl
     apply Chain.pure (LZ.refl _) (by rfl)
     ·intro vals γ w' ρ hR hN hp hρ hc hf hg;refine ⟨rfl,?_⟩;have e34:ρ (.tmp 34)=_:=(hρ 34).trans (hp 1 (by decide));clear hR hN hp hρ;go_light;go_simp;exact ⟨rfl,rfl⟩
     ·rfl
     apply Chain.pure (LZ.refl _) (by rfl)
     ·intro vals γ w' ρ hR hN hp hρ hc hf hg;refine ⟨rfl,?_⟩;have e35:ρ (.tmp 35)=_:=(hρ 35).trans (hp 2 (by decide));have hxx:=hR.ext0 (fun _ _ _ h=>h.elim);have k0:=hxx.cell C1.o;have k1:=hxx.cell C2.o;have k2:=hxx.cell C3.o;clear hxx hR hN hp hρ;go_light;go_simp;exact ⟨rfl,rfl⟩
     ·rfl
     apply Chain.pure (LZ.refl _) (by rfl)
     ·intro vals γ w' ρ hR hN hp hρ hc hf hg;refine ⟨rfl,?_⟩;have e7:=hρ 7;(conv at e7=>rhs; whnf);have hxx:=hR.ext0 (fun _ _ _ h=>h.elim);have k0:=hxx.cell C1.o;have k1:=hxx.cell C2.o;have k2:=hxx.cell C3.o;clear hxx hR hN hp hρ;go_light;go_simp;exact ⟨rfl,rfl⟩
     ·rfl
     apply Chain.pure (LZ.refl _) (by rfl)
     ·intro vals γ w' ρ hR hN hp hρ hc hf hg;refine ⟨rfl,?_⟩;have e36:ρ (.tmp 36)=_:=(hρ 36).trans (hp 3 (by decide));have e37:ρ (.tmp 37)=_:=(hρ 37).trans (hp 4 (by decide));clear hR hN hp hρ;go_light;go_simp;exact ⟨rfl,rfl⟩
     ·rfl
     refine Chain.step (FP fun v γ w'=>∃ g:Nat,v=.slice (some ⟨g,0,none⟩) k2 k2∧Blk w' g 3 (dcells (List.range k2))) (by rfl) (FP.stab ?_) ?_ ?_
     ·rintro v γ w1 γ' w2 rr ⟨g,h1,h2⟩;exact ⟨g,h1,h2.keep (rr.keptS fun b _ _ m hm=>hm.elim)⟩
     ·intro vals γ w' ρ hR hN hp hρ hc hf hg;refine ⟨rfl,?_⟩;have e38:ρ (.tmp 38)=_:=(hρ 38).trans (hp 5 (by decide));have HR:=Hd hR;clear hR hN hp hρ;go_light;go_simp;refine (question_programs k2 (by omega) _ _ w').mono ?_;rintro e1 w3 ⟨g,he,hg,hb,hx⟩;exact ⟨_,he,γ,LZ.of_ext _ γ hx,fun _ _ _ h=>h,g,by rw [List.length_range]; rfl,hb⟩
     apply Chain.pure (LZ.refl _) (by rfl)
     ·intro vals γ w' ρ hR hN hp hρ hc hf hg;refine ⟨rfl,?_⟩;have e1:=hρ 1;(conv at e1=>rhs; whnf);have e7:=hρ 7;(conv at e7=>rhs; whnf);clear hR hN hp hρ;go_light;go_simp;exact ⟨rfl,rfl⟩
     ·rfl
     refine Chain.step (FP fun v γ w'=>v=.bool ((List.range k2).any fun x=>alikeB l x k2)) (by rfl) (FP.stab ?_) ?_ ?_
     ·intro v γ w1 γ' w2 r h;exact h
     ·intro vals γ w' ρ hR hN hp hρ hc hf hg;refine ⟨rfl,?_⟩;obtain ⟨g,hv,hb⟩:=hp 6 (by decide);have e39:=(hρ 39).trans hv;have e40:ρ (.tmp 40)=_:=(hρ 40).trans (hp 7 (by decide));have HR:=Hd hR;have hxx:=hR.ext0 (fun _ _ _ h=>h.elim);have HRX:=Hd hxx;have HBX:=Hd hb;clear hxx hb hv hR hN hp hρ;go_light;go_simp;refine (HCF.o g w' HRX.o HBX.o).mono ?_;rintro e1 w3 ⟨he,hx⟩;exact ⟨_,he,γ,LZ.of_ext _ γ hx,fun _ _ _ h=>h,rfl⟩
     apply Chain.pure (LZ.refl _) (by rfl)
     ·intro vals γ w' ρ hR hN hp hρ hc hf hg;refine ⟨rfl,?_⟩;have e41:ρ (.tmp 41)=_:=(hρ 41).trans (hp 8 (by decide));clear hR hN hp hρ;go_light;go_simp;exact ⟨rfl,rfl⟩
     ·rfl
     intro vals γ w9 hR hG;have v0:vals 0=_:=hG 0 (by decide);have v1:vals 1=_:=hG 1 (by decide);have v2:vals 2=_:=hG 2 (by decide);have v3:vals 3=_:=hG 3 (by decide);have v4:vals 4=_:=hG 4 (by decide);have v5:vals 5=_:=hG 5 (by decide);obtain ⟨g6,v6,-⟩:=hG 6 (by decide);have v7:vals 7=_:=hG 7 (by decide);have v8:vals 8=_:=hG 8 (by decide);have v9:vals 9=_:=hG 9 (by decide);simp only [lexFrame,Act.put,List.setIfInBounds_toArray,List.set_cons_succ,List.set_cons_zero,Nat.zero_add,Nat.reduceAdd,v0,v1,v2,v3,v4,v5,v6,v7,v8,v9];clear v0 v1 v2 v3 v4 v5 v6 v7 v8 v9;have HX9:=Hd (show Ext wr1 w9 from hR.ext0 (fun _ _ _ h=>h.elim));clear hR hG;have HS:=Hd (diffs_succ l k2);have HXX:=Hd (HX1.o.trans HX9.o);cases hany:(List.range k2).any fun x=>alikeB l x k2
     ·have HT:=Hd (show diffs l (k2+1)=a2+1 by rw [HS.o,if_neg (by rw [hany]; simp),HAE2.o]);clear hany;go_wp2;go_roundw
      case rel=>exact ⟨k2+1,a2+1,by omega,by go_num,by go_num,HT.o.symm,HXX.o⟩
      case measure=>simp [intOf]; omega
     ·have HT:=Hd (show diffs l (k2+1)=a2 by rw [HS.o,if_pos hany,HAE2.o]);clear hany;go_wp2;go_roundw
      case rel=>exact ⟨k2+1,a2,by omega,rfl,by go_num,HT.o.symm,HXX.o⟩
      case measure=>simp [intOf]; omega
    ·obtain rfl:k2=n:=by omega
     have hwd:=widest_le l;rw [← HWD.o,← HN.o] at hwd;have hdf:a2≤1∨2≤a:=by
      rcases Nat.lt_or_ge a2 2 with h | h
      ·omega
      ·right;rw [HWD.o];exact diffs_two l l.length (Nat.le_refl _) (by rw [← HN.o,← HAE2.o]; exact h)
     have HLF:=Hd (show lowF l=lowG a a2 a2 1 0 by unfold lowF; rw [← HWD.o,← HN.o,← HAE2.o]);go_wp2
     go_loopw [8,9] (fun v p wq=>∃ (m q f:Nat),v=.int .i64 (m:Int)∧p=.int .i64 (q:Int)∧lowG a a2 f q m=lowF l∧a2≤q+f∧1≤q∧q≤1000∧m≤1000-f∧f≤1000∧wq=wr) (fun _ p _=>a2-(intOf p).toNat)
     case atStart=>exact ⟨0,1,a2,rfl,rfl,HLF.o.symm,by omega,by omega,by omega,by omega,by omega,rfl⟩
     case round =>
      obtain ⟨m,q,f,rfl,rfl,hlg,hqf,hq1,hq2,hmf,hf,rfl⟩:=hrel;have HLG:=Hd hlg;clear hlg;by_cases hlt3:q<a2
      ·obtain ⟨f',rfl⟩:∃ f',f=f'+1:=⟨f-1,by omega⟩;have HST:=Hd (show lowG a a2 f' (q*a) (m+1)=lowF l by
        have h1:=HLG.o;unfold lowG at h1;rw [if_pos hlt3] at h1;exact h1)
       have h2a:2≤a:=(by omega);have hqa1:q+1≤q*a:=by
        have:=Nat.mul_le_mul_left q h2a;omega
       have hqa2:q*a≤20*21:=Nat.mul_le_mul (by omega) (by omega);have HQA:=Hd (show (q:Int)*(a:Int)=((q*a:Nat):Int) by norm_cast);obtain ⟨qa,eqa⟩:∃ qa,qa=q*a:=⟨_,rfl⟩;rw [← eqa] at hqa1 hqa2 HQA HST;have z0:=HQA.o;clear eqa;go_wp2;go_roundw
       case rel=>exact ⟨m+1,qa,f',by go_num,by go_num,HST.o,by omega,by omega,by omega,by omega,by omega,trivial⟩
       case measure=>simp [intOf]; omega
      ·have HFI:=Hd (show m=lowF l by
        have h1:=HLG.o;cases f with
        | zero=>exact h1
        | succ f=>unfold lowG at h1; rw [if_neg hlt3] at h1; exact h1)
       go_wp2;go_ret;exact ⟨by rw [← HFI.o]; rfl,HX0.o.trans HX.o⟩
/- question.newPlanner. Conditions: the answers read as data, and hold no tables. -/

structure GN (w:World) (base:Nat) (A:Option Addr) (c:Nat) (gs:List (List Nat)) (hs:List Value):Prop where
 own:Own w base 26 1 A gs.length c hs
 rd:∀ (i:Nat) (g:List Nat),gs[i]?=some g→∃ (B:Option Addr) (e:Nat),hs[i]?=some (Value.slice B g.length e)∧g.length≤e∧Nums w (fun b=>base≤b∧ob A≠some b) B g
theorem GN.nn {w:World} {base c:Nat} {A:Option Addr} {gs:List (List Nat)} {hs:List Value} (h:GN w base A c gs hs) (hl:gs.length≤4294967296):NN w (fun b=>base≤b) A gs :=
 ⟨hl,hs,h.own.rd.mono fun b _ e=>(Own.blk h.own e).1,by have:=h.own.len; omega,fun i g hg=>by
  obtain ⟨B,e,h1,h2,h3⟩:=h.rd i g hg;exact ⟨B,e,h1,h2,h3.mono fun b _ e=>e.1⟩⟩
theorem GN.push {w w':World} {base c c' gB n:Nat} {A A':Option Addr} {gs:List (List Nat)} {hs:List Value} {P:List Nat} (h:GN w base A c gs hs) (k:Kept (fun b=>base≤b∧ob A≠some b) w w') (hn:P.length=n) (hP:P.length≤4294967296)
  (ho:Own w' base 26 1 A' (gs.length+1) c' (hs++[.slice (some ⟨gB,0,none⟩) n n])) (hb:Blk w' gB 3 (dcells P)) (hg:w.heap.size≤gB) (hbase:base≤w.heap.size) (hat:∀ b,ob A'=some b→ob A=some b∨w.heap.size≤b∧b≠gB) (hA:∀ b,ob A=some b→b<w.heap.size) :
  GN w' base A' c' (gs++[P]) (hs++[.slice (some ⟨gB,0,none⟩) n n]):=by
 have hl:hs.length=gs.length:=(by have:=h.own.len; omega);refine ⟨by rw [List.length_append]; exact ho,fun i g hi => ?_⟩
 rcases Nat.lt_or_ge i gs.length with hlt | hge
 ·rw [List.getElem?_append_left hlt] at hi;obtain ⟨B,e,h1,h2,h3⟩:=h.rd i g hi;refine ⟨B,e,by rw [List.getElem?_append_left (by omega)]; exact h1,h2,((h3.mono (T:=fun b=>(base≤b∧ob A≠some b)∧b<w.heap.size) fun b hb hx=>⟨hx,hb⟩).keep (k.mono fun b _ hx=>hx.1)).mono fun b _ hx=>⟨hx.1.1,fun e => ?_⟩⟩
  rcases hat b e with e2 | e2
  ·exact hx.1.2 e2
  ·have:=hx.2; omega
 ·rw [List.getElem?_append_right hge] at hi;have hi0:i-gs.length=0:=by
   rcases Nat.eq_zero_or_pos (i-gs.length) with h0 | h0
   ·exact h0
   ·rw [List.getElem?_eq_none (by simp; omega)] at hi; cases hi
  rw [hi0] at hi;obtain rfl:=Option.some.inj hi;refine ⟨some ⟨gB,0,none⟩,n,by rw [List.getElem?_append_right (by omega),hl,hi0,hn]; rfl,by omega,⟨?_,hP⟩⟩;have h1:=(hb.rd).mono (T:=fun b=>base≤b∧ob A'≠some b) fun b _ e=>by
   subst e;refine ⟨by omega,fun e => ?_⟩
   rcases hat _ e with e2 | e2
   ·have:=hA _ e2; omega
   ·exact e2.2 rfl
  simpa [dcells] using h1
def NpF8 (n:Nat) (P:List Nat) (wr:World) (v:Value) (_:Gz) (w':World):Prop:=∃ (g g8:Nat),v=.slice (some ⟨g8,0,none⟩) 1 1∧Blk w' g8 26 #[.slice (some ⟨g,0,none⟩) n n]∧Blk w' g 3 (dcells P)∧wr.heap.size≤g∧wr.heap.size≤g8
def NpF9 (n:Nat) (P:List Nat) (wr:World) (B2:Nat) (PA:Option Addr) (k:Nat) (hs:List Value) (v:Value) (γ:Gz) (w':World):Prop:=∃ (g:Nat) (A4:Option Addr) (c4:Nat),v=.slice A4 (k+1) c4∧Own w' B2 26 1 A4 (k+1) c4 (hs++[.slice (some ⟨g,0,none⟩) n n])∧Blk w' g 3 (dcells P)∧wr.heap.size≤g∧γ 1009=true∧∀ b,ob A4=some b→ob PA=some b∨wr.heap.size≤b∧b≠g
def NpF12 (n:Nat) (P:List Nat) (wr:World) (B2:Nat) (PA:Option Addr) (k:Nat) (hs:List Value) (bP bm:Nat) (A:Option Addr) (c:Nat) (γ:Gz) (w':World):Prop:=∃ (g:Nat) (A4:Option Addr) (c4:Nat),Blk w' bP 93 #[.slice A n c,.slice A4 (k+1) c4,.map (some bm),.slice none 0 0]∧γ 1012=true∧Own w' B2 26 1 A4 (k+1) c4 (hs++[.slice (some ⟨g,0,none⟩) n n])∧Blk w' g 3 (dcells P)∧wr.heap.size≤g∧γ 1009=true∧∀ b,ob A4=some b→ob PA=some b∨wr.heap.size≤b∧b≠g
def RetNP (w:World) (l:List (List Val)) (A:Option Addr) (c:Nat) (e:Ending) (w':World):Prop:=∃ (bP bm:Nat) (PA:Option Addr) (pc:Nat),e=.returned (.pointer (some ⟨bP,0,none⟩))∧w.heap.size≤bP∧w.heap.size≤bm∧bP≠bm∧Ext w w'∧Blk w' bP 93 #[.slice A l.length c,.slice PA (inpS l) pc,.map (some bm),.slice none 0 0]∧NN w' (fun b=>w.heap.size≤b∧b≠bm∧b≠bP) PA ((List.range (inpS l)).map (placesS l))∧MapIs w' bm encN []
set_option maxRecDepth 100000 in
set_option maxHeartbeats 1000000 in
theorem question_newPlanner (d:Nat) (l:List (List Val)) (A:Option Addr) (c:Nat) (w:World) (S:Nat→Prop) (h:Rows w S d A l) (hS:∀ b,S b→b<w.heap.size) (hk:NoT l) (hl:l.length<20) (hw:Wide l (inpS l)) (hN:inpS l≤1000) (ht:Tens w) :
  Calls Tryz.prog 51 #[.slice A l.length c] w (RetNP w l A c):=by
 have hmm:=@run_makeMap Tryz.prog;obtain ⟨n,en⟩:∃ n,n=l.length:=⟨_,rfl⟩;obtain ⟨w0,hw0⟩:∃ w0,w0=(w.alloc (.map #[] 0)).alloc (.cells #[.slice A n c,.slice none 0 0,.map (some w.heap.size),.slice none 0 0] 93):=⟨_,rfl⟩;obtain ⟨bm,hbm⟩:∃ b,b=w.heap.size:=⟨_,rfl⟩;obtain ⟨bP,hbP⟩:∃ b,b=w.heap.size+1:=⟨_,rfl⟩;have hx0:Ext w w0:=(by rw [hw0]; exact ((Ext.refl w).alloc _).alloc _);have hz0:w0.heap.size=w.heap.size+2:=(by rw [hw0]; simp);have hm0:MapIs w0 bm encN []:=(by rw [hw0,hbm]; exact (MapIs.made w encN).keep (Kept.alloc _ _ _));have hb0:Blk w0 bP 93 #[.slice A n c,.slice none 0 0,.map (some bm),.slice none 0 0]:=by
  rw [hw0,hbP,hbm];have:=Blk.new (w.alloc (.map #[] 0)) 93 #[.slice A n c,.slice none 0 0,.map (some w.heap.size),.slice none 0 0]
  simpa using this
 have HNE:=Hd en;have HW0:=Hd hw0;have HBM:=Hd hbm;have HBP0:=Hd hbP;have HX0:=Hd hx0;have HZ0:=Hd hz0;have HM0:=Hd hm0;have HB0:=Hd hb0;have HROW0:=Hd h;have HSS:=Hd hS;have HKT:=Hd hk;have HLL:=Hd hl;have HWI:=Hd hw;have HT:=Hd ht;have HIN:=Hd (question_inputs d l A c w0 S (h.keep (hx0.kept _)));obtain ⟨N,eN⟩:∃ N,N=inpS l:=⟨_,rfl⟩;have HEN:=Hd eN;rw [← eN,← en] at HIN;rw [← eN] at hN;rw [← en];have hn20:n<20:=(by rw [en]; exact hl);clear h hS hk hl hw ht hw0 hbm hbP hx0 hz0 hm0 hb0 eN en
 go_enter Tryz.func51,Tryz.ntmps51
 go_upto_region 2 with fail
 rw [← HW0.o,← HBP0.o,← HBM.o]
 go_wp2_with fail
 refine HIN.o.mono ?_;rintro e1 w1 ⟨rfl,rfl⟩;have HSTART:=Hd (GN.mk (w:=w0) (base:=w0.heap.size) (A:=none) (c:=0) (gs:=[]) (hs:=[]) (Own.nil _ _ _ _) (by simp));go_wp2
 go_loopw [11] (fun i wr=>∃ (k:Nat) (PA:Option Addr) (pc:Nat) (hs:List Value),k≤N∧i=.int .i64 (k:Int)∧Ext w wr∧Blk wr bP 93 #[.slice A n c,.slice PA k pc,.map (some bm),.slice none 0 0]∧MapIs wr bm encN []∧GN wr w0.heap.size PA pc ((List.range k).map (placesS l)) hs∧w0.heap.size≤wr.heap.size) (fun i _=>N-(intOf i).toNat)
 case atStart=>exact ⟨0,none,0,[],Nat.zero_le _,rfl,HX0.o,HB0.o,HM0.o,HSTART.o,Nat.le_refl _⟩
 case round =>
  obtain ⟨k,PA,pc,hs,hk,rfl,hx,hblk,hmap,hgn,hsz⟩:=hrel;have HX:=Hd hx;have HBK:=Hd hblk;have HMP:=Hd hmap;have HGN:=Hd hgn;have HSZ:=Hd hsz;clear hx hblk hmap hgn;by_cases hlt:k<N
  ·obtain ⟨B2,eB2⟩:∃ B2,B2=w0.heap.size:=⟨_,rfl⟩;rw [← eB2] at HSZ HGN;have HEB2:=Hd eB2;have HB2:=Hd (show B2=w.heap.size+2 by rw [eB2,HZ0.o]);have HBP:=Hd (show bP=w.heap.size+1 from HBP0.o);have HPL:=Hd HBK.o.lt;have HOV:=Hd (show Own wr B2 26 1 PA k pc hs by have h1:=HGN.o.own; rw [List.length_map,List.length_range] at h1; exact h1);have HOL:=Hd (show ∀ b,ob PA=some b→B2≤b∧b<wr.heap.size from fun b hb=>Own.blk HOV.o hb);have HROW:=Hd (HROW0.o.keep (HX.o.kept _));have HTEN:=Hd (HT.o.ext HX.o);have HWK:=Hd (wkA l k);have HMM:=Hd (show ∀ r∈l,k<r.length from fun r hr=>by rw [HWI.o r hr,← HEN.o]; exact hlt);obtain ⟨P,eP⟩:∃ P,P=placesS l k:=⟨_,rfl⟩;have HPE:=Hd eP.symm;have HPLC:=Hd (show ∀ w':World,Rows w' S d A l→Tens w'→Calls Tryz.prog 65 #[.slice A n c,.int .i64 (k:Int)] w' (RetNB w' P) from fun w' h1 h2=>by
    rw [← HPE.o,HNE.o];exact question_places d l A c k w' S h1 HKT.o HLL.o HMM.o HWK.o h2)
   have C1:=Hd (HBK.o.cell (i:=1) rfl);clear eB2 eP
   go_upto_region 5 with fail
   refine wp_region_chain (by kernel_rfl) (fun i=>[i]) (by kernel_rfl) (LZ (fun m b=>(m=1009∧ob PA=some b)∨(m=1012∧b=bP))) (LZ.refl _) (LZ.trans _) (LK [(4,[1012]),(9,[1009]),(12,[1012])]) gz0 (LK.zero _) ?_;apply Chain.pure (LZ.refl _) (by rfl)
   ·intro vals γ w' ρ hR hN hp hρ hc hf hg;refine ⟨rfl,?_⟩;have e3:=hρ 3;(conv at e3=>rhs; whnf);clear hR hN hp hρ;go_light;go_simp;exact ⟨rfl,rfl⟩
   ·rfl
   apply Chain.pure (LZ.refl _) (by rfl)
   ·intro vals γ w' ρ hR hN hp hρ hc hf hg;refine ⟨rfl,?_⟩;have e3:=hρ 3;(conv at e3=>rhs; whnf);clear hR hN hp hρ;go_light;go_simp;exact ⟨rfl,rfl⟩
   ·rfl
   apply Chain.pure (LZ.refl _) (by rfl)
   ·intro vals γ w' ρ hR hN hp hρ hc hf hg;refine ⟨rfl,?_⟩;have e15:ρ (.tmp 15)=_:=(hρ 15).trans (hp 1 (by decide));clear hR hN hp hρ;go_light;go_simp;exact ⟨rfl,rfl⟩
   ·rfl
   apply Chain.pure (LZ.refl _) (by rfl)
   ·intro vals γ w' ρ hR hN hp hρ hc hf hg;refine ⟨rfl,?_⟩;have e16:ρ (.tmp 16)=_:=(hρ 16).trans (hp 2 (by decide));clear hR hN hp hρ;go_light;go_simp;exact ⟨rfl,rfl⟩
   ·rfl
   apply Chain.pure (LZ.refl _) (by rfl)
   ·intro vals γ w' ρ hR hN hp hρ hc hf hg;refine ⟨rfl,?_⟩;have e17:ρ (.tmp 17)=_:=(hρ 17).trans (hp 3 (by decide));have hk12:=hN.key (k:=1012) (by decide);have hkb:=hR.kept0 (S:=fun b=>b=bP) (fun b _ hb m hm=>by rcases hm with ⟨rfl,h⟩ | ⟨rfl,h⟩; (have:=(HOL.o b h).1; have:=HB2.o; have:=HBP.o; omega); exact hk12);have k0:=hkb.cell2 C1.o rfl;clear hk12 hkb hR hN hp hρ;go_light;go_simp;exact ⟨rfl,rfl⟩
   ·rfl
   apply Chain.pure (LZ.refl _) (by rfl)
   ·intro vals γ w' ρ hR hN hp hρ hc hf hg;refine ⟨rfl,?_⟩;have e0:=hρ 0;(conv at e0=>rhs; whnf);clear hR hN hp hρ;go_light;go_simp;exact ⟨rfl,rfl⟩
   ·rfl
   apply Chain.pure (LZ.refl _) (by rfl)
   ·intro vals γ w' ρ hR hN hp hρ hc hf hg;refine ⟨rfl,?_⟩;have e4:=hρ 4;(conv at e4=>rhs; whnf);clear hR hN hp hρ;go_light;go_simp;exact ⟨rfl,rfl⟩
   ·rfl
   refine Chain.step (FP fun v γ w'=>∃ g:Nat,v=.slice (some ⟨g,0,none⟩) n n∧Blk w' g 3 (dcells P)∧wr.heap.size≤g) (by rfl) (FP.stab ?_) ?_ ?_
   ·rintro v γ w1 γ' w2 rr ⟨g,h1,h2,h3⟩;exact ⟨g,h1,h2.keep ((rr.keptS (S:=fun b=>wr.heap.size≤b) fun b _ (e:wr.heap.size≤b) m hm=>by have h1:=HOL.o; rcases hm with ⟨_,h⟩ | ⟨_,h⟩; (have:=(HOL.o b h).2; omega); (have:=HPL.o; omega)).mono fun b _ e=>by rw [e]; exact h3),h3⟩
   ·intro vals γ w' ρ hR hN hp hρ hc hf hg;refine ⟨rfl,?_⟩;have e19:ρ (.tmp 19)=_:=(hρ 19).trans (hp 5 (by decide));have e20:ρ (.tmp 20)=_:=(hρ 20).trans (hp 6 (by decide));have HR:=Hd hR;have hkk:=hR.kept0 (S:=fun b=>b<w.heap.size) (fun b _ hb m hm=>by rcases hm with ⟨_,h⟩ | ⟨_,h⟩; (have:=(HOL.o b h).1; have:=HB2.o; omega); (have:=HBP.o; omega));have HRR:=Hd (HROW.o.keep (hkk.mono fun b _ e=>HSS.o b e));have HTT:=Hd (HTEN.o.kept hkk HT.o.pos);clear hkk hR hN hp hρ;go_light;go_simp;refine (HPLC.o w' HRR.o HTT.o).mono ?_;rintro e1 w3 ⟨g,he,hg,hb,hx⟩;exact ⟨_,he,γ,LZ.of_ext _ γ hx,fun _ _ _ h=>h,g,by rw [← HPE.o,placesS_len,← HNE.o]; rfl,hb,Nat.le_trans HR.o.size hg⟩
   refine Chain.step (FP fun v γ w'=>NpF8 n P wr v γ w') (by rfl) (FP.stab ?_) ?_ ?_
   ·rintro v γ w1 γ' w2 rr ⟨g,g8,h1,h2,h3,h4,h5⟩;have hk:=rr.keptS (S:=fun b=>wr.heap.size≤b) fun b _ (e:wr.heap.size≤b) m hm=>by have h1:=HOL.o; rcases hm with ⟨_,h⟩ | ⟨_,h⟩; (have:=(HOL.o b h).2; omega); (have:=HPL.o; omega)
    exact ⟨g,g8,h1,h2.keep (hk.mono fun b _ e=>by rw [e]; exact h5),h3.keep (hk.mono fun b _ e=>by rw [e]; exact h4),h4,h5⟩
   ·intro vals γ w' ρ hR hN hp hρ hc hf hg;refine ⟨rfl,?_⟩;obtain ⟨g,hv,hb,hg⟩:=hp 7 (by decide);have e21:=(hρ 21).trans hv;have HR:=Hd hR;have HB:=Hd hb;have HG0:=Hd hg;clear hR hN hp hρ hv hb hg;go_light;go_simp;have hF:NpF8 n P wr (.slice (some ⟨w'.heap.size,0,none⟩) 1 1) γ (w'.alloc (.cells #[.slice (some ⟨g,0,none⟩) n n] 26)):=⟨g,_,rfl,Blk.new _ _ _,HB.o.keep (Kept.alloc _ _ _),HG0.o,HR.o.size⟩;exact ⟨γ,LZ.of_ext _ γ ((Ext.refl _).alloc _),fun _ _ _ h=>h,hF⟩
   refine Chain.step (FP fun v γ w'=>NpF9 n P wr B2 PA k hs v γ w') (by rfl) (FP.stab ?_) ?_ ?_
   ·rintro v γ w1 γ' w2 rr ⟨g,A4,c4,h1,h2,h3,h4,h5,h6⟩;refine ⟨g,A4,c4,h1,Own.keep h2 (rr.keptS fun b _ (e:ob A4=some b) m hm => ?_),h3.keep ((rr.keptS (S:=fun b=>wr.heap.size≤b) fun b _ (e:wr.heap.size≤b) m hm=>by have h1:=HOL.o; rcases hm with ⟨_,h⟩ | ⟨_,h⟩; (have:=(HOL.o b h).2; omega); (have:=HPL.o; omega)).mono fun b _ e=>by rw [e]; exact h4),h4,rr.done _ h5,h6⟩
    rcases hm with ⟨rfl,h⟩ | ⟨rfl,h⟩
    ·rw [h5,rr.done _ h5]
    ·have:=(h2.blk e).1; have:=HB2.o; have:=HBP.o; omega
   ·intro vals γ w' ρ hR hN hp hρ hc hf hg;refine ⟨rfl,?_⟩;have e18:ρ (.tmp 18)=_:=(hρ 18).trans (hp 4 (by decide));obtain ⟨g,g8,hv,hb8,hb,hg,hg8⟩:=hp 8 (by decide);have e22:=(hρ 22).trans hv;have hk0:=hN.key (k:=1009) (by decide);have ho:=Own.keep HOV.o (hR.kept0 (S:=fun b=>ob PA=some b) fun b hb e m hm=>by rcases hm with ⟨rfl,h⟩ | ⟨rfl,h⟩; exact hk0; (have:=(HOL.o b e).1; have:=HB2.o; have:=HBP.o; omega));have hsz:=hR.size;have e0:wr.drew.heap.size=wr.heap.size:=rfl;have hs2:=HSZ.o;refine lin_appC (.tmp 18) (.tmp 22) rfl tiN e18 ho e22 (Blk.rd hb8) rfl (by simp [Value.oneCell']) (by omega) (by decide) (by omega) ?_;intro A4 c4 w4 hown4 hg4 hat4;refine ⟨γ.put 1009,LZ.write hk0 hg4.os hg4.tape hg4.output hg4.size (fun b hb hm=>hg4.block b hb fun e=>hm (.inl ⟨rfl,e.symm⟩)),LK.done (by decide),g,A4,c4,rfl,hown4,hb.keep (Kept.of_grown hg4 fun b e _ f=>by have:=(HOL.o b f.symm).2; omega),hg,by simp [Gz.put],fun b hb4 => ?_⟩;have hbl:=hb.lt
    rcases hat4 with e | e
    ·exact .inl (by rw [← e]; exact hb4)
    ·right; rw [hb4] at e; injection e with e; omega
   apply Chain.pure (LZ.refl _) (by rfl)
   ·intro vals γ w' ρ hR hN hp hρ hc hf hg;refine ⟨rfl,?_⟩;have e14:ρ (.tmp 14)=_:=(hρ 14).trans (hp 0 (by decide));clear hR hN hp hρ;go_light;go_simp;exact ⟨rfl,rfl⟩
   ·rfl
   apply Chain.pure (LZ.refl _) (by rfl)
   ·intro vals γ w' ρ hR hN hp hρ hc hf hg;refine ⟨rfl,?_⟩;have e24:ρ (.tmp 24)=_:=(hρ 24).trans (hp 10 (by decide));clear hR hN hp hρ;go_light;go_simp;exact ⟨rfl,rfl⟩
   ·rfl
   refine Chain.step (fun _ γ w'=>NpF12 n P wr B2 PA k hs bP bm A c γ w') (by rfl) ?_ ?_ ?_
   ·rintro l γ w1 γ' w2 rr ⟨g,A4,c4,h0,h1,h2,h3,h4,h5,h6⟩;refine ⟨g,A4,c4,h0.keep (rr.keptS fun b _ e m hm => ?_),rr.done _ h1,Own.keep h2 (rr.keptS fun b _ (e:ob A4=some b) m hm => ?_),h3.keep ((rr.keptS (S:=fun b=>wr.heap.size≤b) fun b _ (e:wr.heap.size≤b) m hm=>by have h1:=HOL.o; rcases hm with ⟨_,h⟩ | ⟨_,h⟩; (have:=(HOL.o b h).2; omega); (have:=HPL.o; omega)).mono fun b _ e=>by rw [e]; exact h4),h4,rr.done _ h5,h6⟩
    ·rcases hm with ⟨rfl,h⟩ | ⟨rfl,h⟩
     ·rw [h5,rr.done _ h5]
     ·rw [h1,rr.done _ h1]
    ·rcases hm with ⟨rfl,h⟩ | ⟨rfl,h⟩
     ·rw [h5,rr.done _ h5]
     ·rw [h1,rr.done _ h1]
   ·intro vals γ w' ρ hR hN hp hρ hc hf hg;refine ⟨rfl,?_⟩;obtain ⟨g,A4,c4,hv,ho4,hb,hg,hd4,hat4⟩:=hp 9 (by decide);have e23:=(hρ 23).trans hv;have e25:ρ (.tmp 25)=_:=(hρ 25).trans (hp 11 (by decide));have hk12:=hN.key (k:=1012) (by decide);have HK:=Hd hk12;have hb0:=HBK.o.keep (hR.kept0 (S:=fun b=>b=bP) (fun b _ hb m hm=>by rcases hm with ⟨rfl,h⟩ | ⟨rfl,h⟩; (have:=(HOL.o b h).1; have:=HB2.o; have:=HBP.o; omega); exact hk12));have HB0:=Hd hb0;have qc:=hb0.cell (i:=1) rfl;have qf:=hb0.frozen 1;have ql:=hb0.lt;have HF:=Hd (show NpF9 n P wr B2 PA k hs (.slice A4 (k+1) c4) γ w' from ⟨g,A4,c4,rfl,ho4,hb,hg,hd4,hat4⟩);have HE:=Hd ho4;have HBB:=Hd hb;have HGG:=Hd hg;have HDD:=Hd hd4;have HAA:=Hd hat4;clear hR hN hp hρ hv ho4 hb hg hd4 hat4 hk12 hb0;go_light;go_simp;refine ⟨γ.put 1012,LZ.write HK.o rfl rfl rfl (by simp [World.setCell]) (fun b hb hm=>Below.heap_setCell _ _ _ _ (by show b≠bP; exact fun e=>hm (.inr ⟨rfl,e⟩))),LK.done (by decide),g,A4,c4,?_,by simp [Gz.put],Own.set HE.o (fun e => ?_) _,HBB.o.keep (Kept.set2 (Kept.refl _ _) fun e => ?_),HGG.o,by simp [Gz.put,HDD.o],HAA.o⟩
    ·have h1:=HB0.o.set 1 (.slice A4 (k+1) c4)
     simpa using h1
    ·have h1:B2≤bP:=(HE.o.blk e).1; have:=HB2.o; have:=HBP.o; omega
    ·have:=HGG.o; have:=HPL.o; omega
   intro vals γ w9 hR hG;have v0:vals 0=_:=hG 0 (by decide);have v1:vals 1=_:=hG 1 (by decide);have v2:vals 2=_:=hG 2 (by decide);have v3:vals 3=_:=hG 3 (by decide);have v4:vals 4=_:=hG 4 (by decide);have v5:vals 5=_:=hG 5 (by decide);have v6:vals 6=_:=hG 6 (by decide);obtain ⟨g7,v7,-⟩:=hG 7 (by decide);obtain ⟨g9,g10,v8,-⟩:=hG 8 (by decide);obtain ⟨g11,A11,c11,v9,-⟩:=hG 9 (by decide);have v10:vals 10=_:=hG 10 (by decide);have v11:vals 11=_:=hG 11 (by decide);simp only [lexFrame,Act.put,List.setIfInBounds_toArray,List.set_cons_succ,List.set_cons_zero,Nat.zero_add,Nat.reduceAdd,v0,v1,v2,v3,v4,v5,v6,v7,v8,v9,v10,v11];clear v0 v1 v2 v3 v4 v5 v6 v7 v8 v9 v10 v11;obtain ⟨g,A4,c4,hb1,-,ho4,hb,hg,-,hat4⟩:=hG 12 (by decide);have HB9:=Hd (hR.buts (S:=fun b=>ob PA=some b∨b=bP) (fun m b _ hm _=>by rcases hm with ⟨_,h⟩ | ⟨_,h⟩; exact .inl h; exact .inr h));clear hR hG;have hpl:P.length=n:=(by rw [← HPE.o,placesS_len,← HNE.o]);have hw9:wr.heap.size≤w9.heap.size:=HB9.o.size;have hgl:=HGN.o.own;have hgn2:GN w9 B2 A4 c4 ((List.range k).map (placesS l)++[P]) (hs++[.slice (some ⟨g,0,none⟩) n n]):=by
    refine HGN.o.push (HB9.o.kept fun b _ hx e => ?_) hpl (by omega) (by rw [List.length_map,List.length_range]; exact ho4) hb hg HSZ.o hat4 fun b hb=>(HOL.o b hb).2
    rcases e with e | e
    ·exact hx.2 e
    ·have:=HB2.o; have:=HBP.o; omega
   have HGN2:=Hd (show GN w9 B2 A4 c4 ((List.range (k+1)).map (placesS l)) (hs++[.slice (some ⟨g,0,none⟩) n n]) by
    rw [List.range_succ,List.map_append];simp only [List.map_cons,List.map_nil,HPE.o];exact hgn2)
   have HX9:=Hd (show Ext w w9 from ⟨HB9.o.os.trans HX.o.os,HB9.o.tape.trans HX.o.tape,HB9.o.output.trans HX.o.output,Nat.le_trans HX.o.size hw9,fun b hb=>(HB9.o.block b (Nat.lt_of_lt_of_le hb HX.o.size) fun e=>by
    rcases e with e | e
    ·have:=(HOL.o b e).1; have:=HB2.o; omega
    ·have:=HBP.o; omega).trans (HX.o.block b hb)⟩)
   have HMP9:=Hd (HMP.o.keep (HB9.o.kept fun b _ e f=>by
    rcases f with f | f
    ·have:=(HOL.o b f).1; have:=HB2.o; have:=HBM.o; omega
    ·have:=HBP.o; have:=HBM.o; omega))
   have HBL9:=Hd hb1;have HSZ9:=Hd (Nat.le_trans HSZ.o hw9);clear hb1 ho4 hb hg hat4 hpl hw9 hgl hgn2;go_wp2;go_roundw
   case rel=>exact ⟨k+1,A4,c4,_,by omega,by go_num,HX9.o,HBL9.o,HMP9.o,by rw [← HEB2.o]; exact HGN2.o,by rw [← HEB2.o]; exact HSZ9.o⟩
   case measure=>simp [intOf]; omega
  ·obtain rfl:k=N:=by omega
   have hz:=HZ0.o;have HNNF:=Hd (show NN wr (fun b=>w.heap.size≤b∧b≠bm∧b≠bP) PA ((List.range (inpS l)).map (placesS l)) by
    rw [← HEN.o];exact (HGN.o.nn (by simp; omega)).mono fun b _ hb=>by have:=HBM.o; have:=HBP0.o; omega)
   have HFB:=Hd (show Blk wr bP 93 #[.slice A l.length c,.slice PA (inpS l) pc,.map (some bm),.slice none 0 0] by rw [← HEN.o,← HNE.o]; exact HBK.o);go_wp2;go_ret;exact ⟨bP,bm,PA,pc,rfl,by rw [HBP0.o]; omega,by rw [HBM.o]; exact Nat.le_refl _,by rw [HBP0.o,HBM.o]; omega,HX.o,HFB.o,HNNF.o,HMP.o⟩
end Go.Proofs.YtomdpipekmcojaaGreatDoor
