/- Depths and plans of programs: plain words and facts. No conditions. -/
import Derived.Test.YtomdpipekmcojaaGreatDoorBk10
import Derived.Sort.Walk0
import Derived.Laws.BitsLemmas
namespace Go.Proofs.YtomdpipekmcojaaGreatDoor
open Go Go.RowKit

def dW (sp:Nat→List Nat→List (List Nat)) (dep:List Nat→Nat) (m:Nat) (L:List Nat):Nat:=if (sp m L).length<2 then 0 else 1+(sp m L).foldl (fun a g=>max a (dep g)) 0
def lst (a d:Nat):Nat:=if 0<d∧(a=0∨d<a) then d else a
def dF (sp:Nat→List Nat→List (List Nat)) (N:Nat):Nat→List Nat→Nat
 | 0,_=>0
 | f+1,L=>(List.range N).foldl (fun a m=>lst a (dW sp (dF sp N f) m L)) 0
def dep (sp:Nat→List Nat→List (List Nat)) (N:Nat) (L:List Nat):Nat:=dF sp N L.length L
def Small (sp:Nat→List Nat→List (List Nat)):Prop:=∀ m L,2≤(sp m L).length→∀ g∈sp m L,0<g.length∧g.length<L.length
section
variable {sp:Nat→List Nat→List (List Nat)}
theorem dW_congr {d d':List Nat→Nat} {m:Nat} {L:List Nat} (h:2≤(sp m L).length→∀ g∈sp m L,d g=d' g):dW sp d m L=dW sp d' m L:=by
 unfold dW;by_cases h2:(sp m L).length<2
 ·rw [if_pos h2,if_pos h2]
 ·rw [if_neg h2,if_neg h2];have h':=h (by omega);congr 1;generalize sp m L=gs at h';generalize 0=a;clear h h2
  induction gs generalizing a with
  | nil=>rfl
  | cons g gs ih =>
   rw [List.foldl_cons,List.foldl_cons,h' g (by simp)];exact ih (fun g hg=>h' g (List.mem_cons_of_mem _ hg)) _
theorem foldl_congr {α β:Type} {f f':β→α→β} : ∀ (l:List α) (a:β),(∀ b,∀ x∈l,f b x=f' b x)→l.foldl f a=l.foldl f' a
 | [],_,_=>rfl
 | x :: l,a,h=>by
  rw [List.foldl_cons,List.foldl_cons,h a x (by simp)];exact foldl_congr l _ fun b y hy=>h b y (List.mem_cons_of_mem _ hy)
theorem foldl_zero {α:Type} {f:Nat→α→Nat} : ∀ (l:List α),(∀ x∈l,f 0 x=0)→l.foldl f 0=0
 | [],_=>rfl
 | x :: l,h=>by rw [List.foldl_cons,h x (by simp)]; exact foldl_zero l fun y hy=>h y (List.mem_cons_of_mem _ hy)
theorem dF_fuel (hs:Small sp) (N:Nat):∀ (f f':Nat) (L:List Nat),L.length≤f→L.length≤f'→dF sp N f L=dF sp N f' L
 | 0,0,L,_,_=>rfl
 | 0,f'+1,L,h,_=>by
  show 0=(List.range N).foldl _ 0;refine (foldl_zero _ fun m _ => ?_).symm;have h2:(sp m L).length<2:=by
   rcases Nat.lt_or_ge (sp m L).length 2 with h2 | h2
   ·exact h2
   ·match hg:sp m L,h2 with
    | g :: _,h2=>have:=hs m L (by rw [hg]; exact h2) g (by rw [hg]; simp); omega
  unfold dW;rw [if_pos h2]; rfl
 | f+1,0,L,_,h=>by
  show (List.range N).foldl _ 0=0;refine foldl_zero _ fun m _ => ?_;have h2:(sp m L).length<2:=by
   rcases Nat.lt_or_ge (sp m L).length 2 with h2 | h2
   ·exact h2
   ·match hg:sp m L,h2 with
    | g :: _,h2=>have:=hs m L (by rw [hg]; exact h2) g (by rw [hg]; simp); omega
  unfold dW;rw [if_pos h2]; rfl
 | f+1,f'+1,L,h,h'=>by
  show (List.range N).foldl _ 0=(List.range N).foldl _ 0;refine foldl_congr _ _ fun a m _ => ?_;rw [dW_congr fun h2 g hg => ?_];have:=hs m L h2 g hg;exact dF_fuel hs N f f' g (by omega) (by omega)
theorem dep_eq (hs:Small sp) (N:Nat) (L:List Nat):dep sp N L=(List.range N).foldl (fun a m=>lst a (dW sp (dep sp N) m L)) 0:=by
 have h1:dep sp N L=dF sp N (L.length+1) L:=dF_fuel hs N _ _ L (Nat.le_refl _) (by omega);rw [h1];show (List.range N).foldl _ 0=_;refine foldl_congr _ _ fun a m _ => ?_;rw [dW_congr fun h2 g hg => ?_];have:=hs m L h2 g hg;exact dF_fuel hs N _ _ g (by omega) (Nat.le_refl _)
theorem lst_fold {f:Nat→Nat} : ∀ (l:List Nat) (a:Nat),(l.foldl (fun a m=>lst a (f m)) a=a∨∃ m∈l,f m=l.foldl (fun a m=>lst a (f m)) a)∧(0<a→0<l.foldl (fun a m=>lst a (f m)) a∧l.foldl (fun a m=>lst a (f m)) a≤a)∧∀ m∈l,0<f m→0<l.foldl (fun a m=>lst a (f m)) a∧l.foldl (fun a m=>lst a (f m)) a≤f m
 | [],a=>⟨.inl rfl,fun h=>⟨h,Nat.le_refl _⟩,by simp⟩
 | x :: l,a=>by
  obtain ⟨h1,h2,h3⟩:=lst_fold l (lst a (f x));rw [List.foldl_cons];have hl:lst a (f x)=a∨lst a (f x)=f x:=(by unfold lst; split <;> simp);have hp:0<a→0<lst a (f x)∧lst a (f x)≤a:=(by intro h; unfold lst; split <;> omega);have hq:0<f x→0<lst a (f x)∧lst a (f x)≤f x:=(by intro h; unfold lst; split <;> omega);refine ⟨?_,fun h => ?_,fun m hm h => ?_⟩
  ·rcases h1 with h1 | ⟨m,hm,h1⟩
   ·rcases hl with hl | hl
    ·left; rw [h1,hl]
    ·right; exact ⟨x,by simp,by rw [h1,hl]⟩
   ·exact .inr ⟨m,by simp [hm],h1⟩
  ·have:=hp h;have:=h2 this.1;omega
  ·rcases List.mem_cons.1 hm with rfl | hm
   ·have:=hq h;have:=h2 this.1;omega
   ·exact h3 m hm h
theorem dep_at (hs:Small sp) (N:Nat) (L:List Nat) (h:dep sp N L≠0):∃ m,m<N∧dW sp (dep sp N) m L=dep sp N L:=by
 have:=(lst_fold (f:=fun m=>dW sp (dep sp N) m L) (List.range N) 0).1;rw [← dep_eq hs N L] at this
 rcases this with h0 | ⟨m,hm,h1⟩
 ·exact absurd h0 h
 ·exact ⟨m,List.mem_range.1 hm,h1⟩
theorem dep_le (hs:Small sp) (N:Nat) (L:List Nat) {m:Nat} (hm:m<N) (h:0<dW sp (dep sp N) m L):0<dep sp N L∧dep sp N L≤dW sp (dep sp N) m L:=by
 have:=(lst_fold (f:=fun m=>dW sp (dep sp N) m L) (List.range N) 0).2.2 m (List.mem_range.2 hm) h;rwa [← dep_eq hs N L] at this
theorem dep_zero (hs:Small sp) (N:Nat) (L:List Nat):dep sp N L=0↔∀ m,m<N→(sp m L).length<2:=by
 constructor
 ·intro h m hm
  rcases Nat.lt_or_ge (sp m L).length 2 with h2 | h2
  ·exact h2
  ·have:0<dW sp (dep sp N) m L:=(by unfold dW; rw [if_neg (by omega)]; omega);have:=(dep_le hs N L hm this).1;omega
 ·intro h;rw [dep_eq hs];refine foldl_zero _ fun m hm => ?_;unfold dW;rw [if_pos (h m (List.mem_range.1 hm))]; rfl
theorem foldl_max_le {α:Type} {f:α→Nat} {B:Nat} : ∀ (l:List α) (a:Nat),a≤B→(∀ x∈l,f x≤B)→l.foldl (fun a x=>max a (f x)) a≤B
 | [],_,h,_=>h
 | x :: l,a,h,k=>by
  rw [List.foldl_cons];exact foldl_max_le l _ (by have:=k x (by simp); omega) fun y hy=>k y (List.mem_cons_of_mem _ hy)
theorem foldl_max_ge {α:Type} {f:α→Nat} : ∀ (l:List α) (a:Nat),a≤l.foldl (fun a x=>max a (f x)) a∧∀ x∈l,f x≤l.foldl (fun a x=>max a (f x)) a
 | [],_=>⟨Nat.le_refl _,by simp⟩
 | x :: l,a=>by
  rw [List.foldl_cons];obtain ⟨h1,h2⟩:=foldl_max_ge (f:=f) l (max a (f x));refine ⟨by omega,fun y hy => ?_⟩
  rcases List.mem_cons.1 hy with rfl | hy
  ·omega
  ·exact h2 y hy
theorem dF_len (hs:Small sp) (N:Nat):∀ f L,L.length≤f→dF sp N f L≤L.length-1
 | 0,L,_=>Nat.zero_le _
 | f+1,L,h=>by
  show (List.range N).foldl (fun a m=>lst a (dW sp (dF sp N f) m L)) 0≤_
  rcases (lst_fold (f:=fun m=>dW sp (dF sp N f) m L) (List.range N) 0).1 with h0 | ⟨m,hm,h1⟩
  ·rw [h0]; exact Nat.zero_le _
  ·rw [← h1];unfold dW;by_cases h2:(sp m L).length<2
   ·rw [if_pos h2]; exact Nat.zero_le _
   ·rw [if_neg h2];have hsm:=hs m L (by omega);have:(sp m L).foldl (fun a g=>max a (dF sp N f g)) 0≤L.length-2:=by
     refine foldl_max_le _ _ (Nat.zero_le _) fun g hg => ?_;have a1:=hsm g hg;have a2:=dF_len hs N f g (by omega);omega
    have hl:2≤L.length:=by
     rcases Nat.lt_or_ge L.length 2 with h3 | h3
     ·exfalso
      match hg:sp m L,h2 with
      | [],h2=>simp at h2
      | g :: _,_=>have:=hsm g (by rw [hg]; simp); omega
     ·exact h3
    omega
theorem dep_len (hs:Small sp) (N:Nat) (L:List Nat):dep sp N L≤L.length-1:=dF_len hs N _ L (Nat.le_refl _)
end
/- Plans of questions: plain words and facts. No conditions. -/

abbrev AskD:=Int × List Val × List Int
def planG (sub:List Nat→Nat→List AskD):List (List Nat)→Nat→List AskD × List Int
 | [],_=>([],[])
 | g :: gs,t=>((sub g t)++(planG sub gs (t+(sub g t).length)).1,(if (sub g t).length=0 then -1 else (t:Int)) :: (planG sub gs (t+(sub g t).length)).2)
theorem planG_app (sub:List Nat→Nat→List AskD):∀ (a b:List (List Nat)) (t:Nat),planG sub (a++b) t=((planG sub a t).1++(planG sub b (t+(planG sub a t).1.length)).1,(planG sub a t).2++(planG sub b (t+(planG sub a t).1.length)).2)
 | [],b,t=>by simp [planG]
 | g :: a,b,t=>by
  rw [List.cons_append];simp only [planG];rw [planG_app sub a b];simp [List.append_assoc,Nat.add_assoc]
theorem planG_len (sub:List Nat→Nat→List AskD):∀ (a:List (List Nat)) (t:Nat),(planG sub a t).2.length=a.length
 | [],_=>rfl
 | g :: a,t=>by simp [planG,planG_len sub a]
theorem planG_congr {sub sub':List Nat→Nat→List AskD} : ∀ (a:List (List Nat)) (t:Nat),(∀ g∈a,∀ t,sub g t=sub' g t)→planG sub a t=planG sub' a t
 | [],_,_=>rfl
 | g :: a,t,h=>by
  simp only [planG];rw [h g (by simp),planG_congr a _ fun g hg=>h g (List.mem_cons_of_mem _ hg)]
def inpF (sp:Nat→List Nat→List (List Nat)) (N:Nat) (L:List Nat):Nat:=((List.range N).find? fun m=>decide (dW sp (dep sp N) m L=dep sp N L)).getD 0
theorem inpF_at {sp:Nat→List Nat→List (List Nat)} (hs:Small sp) (N:Nat) (L:List Nat) (h:dep sp N L≠0):inpF sp N L<N∧dW sp (dep sp N) (inpF sp N L) L=dep sp N L∧∀ m,m<inpF sp N L→dW sp (dep sp N) m L≠dep sp N L:=by
 obtain ⟨m,hm,hd⟩:=dep_at hs N L h;unfold inpF;cases hf:(List.range N).find? fun m=>decide (dW sp (dep sp N) m L=dep sp N L) with
 | none =>
  rw [List.find?_eq_none] at hf;exact absurd (by simpa using hd) (hf m (List.mem_range.2 hm))
 | some k =>
  rw [List.find?_range_eq_some] at hf;refine ⟨List.mem_range.1 hf.2.1,by simpa using hf.1,fun j hj => ?_⟩;have:=hf.2.2 j hj
  simpa using this
def planF (sp:Nat→List Nat→List (List Nat)) (N:Nat) (v:Nat→Nat→Val):Nat→List Nat→Nat→List AskD
 | 0,_,_=>[]
 | f+1,L,t=>if dep sp N L=0 then [] else
  (((inpF sp N L:Nat):Int),(sp (inpF sp N L) L).map (fun g=>v (inpF sp N L) (g.headD 0)),(planG (planF sp N v f) (sp (inpF sp N L) L) (t+1)).2) :: (planG (planF sp N v f) (sp (inpF sp N L) L) (t+1)).1
def plan (sp:Nat→List Nat→List (List Nat)) (N:Nat) (v:Nat→Nat→Val) (L:List Nat) (t:Nat):List AskD:=planF sp N v L.length L t
section
variable {sp:Nat→List Nat→List (List Nat)} {v:Nat→Nat→Val}
theorem two_parts (hs:Small sp) {N:Nat} {L:List Nat} (h:dep sp N L≠0):2≤(sp (inpF sp N L) L).length:=by
 obtain ⟨h1,h2,-⟩:=inpF_at hs N L h
 rcases Nat.lt_or_ge (sp (inpF sp N L) L).length 2 with h3 | h3
 ·unfold dW at h2;rw [if_pos h3] at h2;exact absurd h2.symm h
 ·exact h3
theorem planF_fuel (hs:Small sp) (N:Nat):∀ (f f':Nat) (L:List Nat) (t:Nat),L.length≤f→L.length≤f'→planF sp N v f L t=planF sp N v f' L t
 | 0,0,L,_,_,_=>rfl
 | 0,f'+1,L,t,h,_=>by
  unfold planF;have:dep sp N L=0:=(by have:=dep_len hs N L; omega);rw [if_pos this]
 | f+1,0,L,t,_,h=>by
  unfold planF;have:dep sp N L=0:=(by have:=dep_len hs N L; omega);rw [if_pos this]
 | f+1,f'+1,L,t,h,h'=>by
  unfold planF;by_cases h0:dep sp N L=0
  ·rw [if_pos h0,if_pos h0]
  ·rw [if_neg h0,if_neg h0];have h2:=two_parts hs h0;rw [planG_congr (sub:=planF sp N v f) (sub':=planF sp N v f') _ _ fun g hg t => ?_];have:=hs _ _ h2 g hg;exact planF_fuel hs N f f' g t (by omega) (by omega)
theorem plan_eq (hs:Small sp) (N:Nat) (L:List Nat) (t:Nat):plan sp N v L t=if dep sp N L=0 then [] else
  (((inpF sp N L:Nat):Int),(sp (inpF sp N L) L).map (fun g=>v (inpF sp N L) (g.headD 0)),(planG (plan sp N v) (sp (inpF sp N L) L) (t+1)).2) :: (planG (plan sp N v) (sp (inpF sp N L) L) (t+1)).1:=by
 have h1:plan sp N v L t=planF sp N v (L.length+1) L t:=planF_fuel hs N _ _ L t (Nat.le_refl _) (by omega);rw [h1];unfold planF;by_cases h0:dep sp N L=0
 ·rw [if_pos h0,if_pos h0]
 ·rw [if_neg h0,if_neg h0];have h2:=two_parts hs h0;rw [planG_congr (sub:=planF sp N v L.length) (sub':=plan sp N v) _ _ fun g hg t => ?_];have:=hs _ _ h2 g hg;exact planF_fuel hs N _ _ g t (by omega) (Nat.le_refl _)
theorem plan_nil (hs:Small sp) (N:Nat) (L:List Nat) (t:Nat):(plan sp N v L t).length=0↔dep sp N L=0:=by
 rw [plan_eq hs];by_cases h0:dep sp N L=0
 ·rw [if_pos h0]; simp [h0]
 ·rw [if_neg h0]; simp [h0]
end
/- Sets of programs by bits, and the planner in memory. No conditions. -/

def bitsN (L:List Nat):Nat:=L.foldl (fun s k=>s ||| 2 ^ k) 0
theorem bitsN_snoc (L:List Nat) (k:Nat):bitsN (L++[k])=bitsN L ||| 2 ^ k:=by simp [bitsN,List.foldl_append]
theorem bitsN_bit (L:List Nat) (j:Nat):(bitsN L).testBit j=decide (j∈L):=by
 refine snoc_indG (P:=fun L=>(bitsN L).testBit j=decide (j∈L)) (by simp [bitsN]) (fun l x ih => ?_) L;rw [bitsN_snoc,Nat.testBit_or,ih,Nat.testBit_two_pow];by_cases h1:j∈l <;> by_cases h2:x=j <;> simp [h1,h2]
 intro e; exact absurd e.symm h2
theorem bitsN_lt (L:List Nat) {B:Nat} (h:∀ x∈L,x<B):bitsN L<2 ^ B:=by
 refine snoc_indG (P:=fun L=>(∀ x∈L,x<B)→bitsN L<2 ^ B) (fun _=>by simpa [bitsN] using Nat.two_pow_pos B) (fun l x ih h => ?_) L h;rw [bitsN_snoc];exact Nat.or_lt_two_pow (ih fun y hy=>h y (by simp [hy])) (Nat.pow_lt_pow_right (by omega) (h x (by simp)))
def Inc (n:Nat) (L:List Nat):Prop:=L.Pairwise (· < ·)∧∀ x∈L,x<n
theorem bitsN_inj {n n':Nat} {L L':List Nat} (h:Inc n L) (h':Inc n' L') (e:bitsN L=bitsN L'):L=L':=by
 refine sorted_ext h.1 h'.1 fun v => ?_;have h1:=bitsN_bit L v;rw [e,bitsN_bit L' v] at h1;have:=decide_eq_decide.1 h1;exact this.symm
theorem Inc.len {n:Nat} : ∀ {L:List Nat},Inc n L→L.length≤n:=by
 intro L h;have key:∀ (L:List Nat) (a:Nat),a≤n→L.Pairwise (· < ·)→(∀ x∈L,a≤x∧x<n)→L.length+a≤n:=by
  intro L
  induction L with
  | nil=>intro a ha _ _; simpa using ha
  | cons x L ih =>
   intro a _ h1 h2;have h3:=List.pairwise_cons.1 h1;have h4:=h2 x (by simp);have:=ih (x+1) (by omega) h3.2 fun y hy=>⟨by have:=h3.1 y hy; omega,(h2 y (by simp [hy])).2⟩;rw [List.length_cons];omega
 simpa using key L 0 (Nat.zero_le _) h.1 fun x hx=>⟨Nat.zero_le _,h.2 x hx⟩
theorem Inc.sub {n:Nat} {L L':List Nat} (h:Inc n L) (k:L'.Sublist L):Inc n L':=⟨h.1.sublist k,fun x hx=>h.2 x (k.subset hx)⟩
theorem Inc.range (n:Nat):Inc n (List.range n):=⟨List.pairwise_lt_range,fun _ hx=>List.mem_range.1 hx⟩
def Cons (sp:Nat→List Nat→List (List Nat)) (N n:Nat) (M:List (Int × Value)):Prop:=∀ L,Inc n L→∀ v,mget M (bitsN L:Int)=some v→v=.int .i64 (dep sp N L:Nat)
theorem Cons.nil (sp:Nat→List Nat→List (List Nat)) (N n:Nat):Cons sp N n []:=fun _ _ v h=>by simp [mget,fnd] at h
theorem Cons.put {sp:Nat→List Nat→List (List Nat)} {N n:Nat} {M:List (Int × Value)} (h:Cons sp N n M) {L:List Nat} (hL:Inc n L):Cons sp N n (mput M (bitsN L:Int) (.int .i64 (dep sp N L:Nat))):=by
 intro L' hL' v hv;rw [mget_put] at hv;by_cases e:((bitsN L:Nat):Int)=((bitsN L':Nat):Int)
 ·rw [if_pos e] at hv;have:L=L':=bitsN_inj hL hL' (by omega);rw [← this];exact (Option.some.inj hv).symm
 ·rw [if_neg e] at hv;exact h L' hL' v hv
structure PD (w:World) (bP bm:Nat) (l:List (List Val)):Prop where
 pl:∃ (PA:Option Addr) (pc:Nat),w.cell? ⟨bP,1,none⟩=some (.slice PA (inpS l) pc)∧NN w (fun b=>b≠bm) PA ((List.range (inpS l)).map (placesS l))
 dm:w.cell? ⟨bP,2,none⟩=some (.map (some bm))
 ne:bP≠bm
 lt:bP<w.heap.size
 map:∃ M,MapIs w bm encN M∧Cons (spl l) (inpS l) l.length M
theorem PD.but {w w':World} {bP bm:Nat} {l:List (List Val)} (h:PD w bP bm l) (k:ButS (fun b=>b=bm) w w') (hm:∃ M,MapIs w' bm encN M∧Cons (spl l) (inpS l) l.length M):PD w' bP bm l:=by
 obtain ⟨PA,pc,h1,h2⟩:=h.pl;exact ⟨⟨PA,pc,k.cell h.ne h1,h2.keep (k.kept fun b _ e=>e)⟩,k.cell h.ne h.dm,h.ne,Nat.lt_of_lt_of_le h.lt k.size,hm⟩
theorem PD.ext {w w':World} {bP bm:Nat} {l:List (List Val)} (h:PD w bP bm l) (k:Ext w w'):PD w' bP bm l:=by
 obtain ⟨M,hm,hc⟩:=h.map;exact h.but (ButS.of_ext k) ⟨M,hm.keep (k.kept _),hc⟩
def RetDp (w:World) (bm:Nat) (l:List (List Val)) (v:Int) (e:Ending) (w':World):Prop:=e=.returned (.int .i64 v)∧ButS (fun b=>b=bm) w w'∧∃ M,MapIs w' bm encN M∧Cons (spl l) (inpS l) l.length M
theorem spl_small (l:List (List Val)):Small (spl l):=fun m L h2 g hg=>by
 have h:=spl_is l m L;have h1:=(h.sub g hg).1;exact ⟨List.length_pos_iff.2 h1,h.small h2 g hg⟩
theorem plc_len {eq:Nat→Nat→Bool} : ∀ (s:List Nat) (p:Option Nat) (t:Nat) (acc:List Nat),(plc eq p t s acc).length=acc.length
 | [],p,_,_=>by cases p <;> rfl
 | x :: s,none,t,acc=>by
  show (plc eq (some x) t s (acc.set x t)).length=_;rw [plc_len s,List.length_set]
 | x :: s,some p,t,acc=>by
  show (plc eq (some x) (if eq p x then t else t+1) s (acc.set x (if eq p x then t else t+1))).length=_;rw [plc_len s,List.length_set]
theorem plc_le {eq:Nat→Nat→Bool} {B:Nat} : ∀ (s:List Nat) (p:Option Nat) (t:Nat) (acc:List Nat),t+s.length≤B→(∀ x∈acc,x≤B)→∀ x∈plc eq p t s acc,x≤B
 | [],p,_,_,_,h=>by cases p <;> exact h
 | x :: s,none,t,acc,h1,h=>by
  rw [List.length_cons] at h1;show ∀ y∈plc eq (some x) t s (acc.set x t),y≤B;refine plc_le s _ _ _ (by omega) fun y hy => ?_
  rcases List.mem_or_eq_of_mem_set hy with hy | rfl
  ·exact h y hy
  ·omega
 | x :: s,some p,t,acc,h1,h=>by
  rw [List.length_cons] at h1;show ∀ y∈plc eq (some x) (if eq p x then t else t+1) s (acc.set x (if eq p x then t else t+1)),y≤B;have ht:(if eq p x=true then t else t+1)≤t+1:=(by split <;> omega);refine plc_le s _ _ _ (by omega) fun y hy => ?_
  rcases List.mem_or_eq_of_mem_set hy with hy | rfl
  ·exact h y hy
  ·omega
theorem placesS_len (l:List (List Val)) (m:Nat):(placesS l m).length=l.length:=by unfold placesS; rw [plc_len]; simp
theorem placesS_le (l:List (List Val)) (m:Nat):∀ x∈placesS l m,x≤l.length:=by
 unfold placesS;refine plc_le _ _ _ _ ?_ (by simp);unfold srtA;rw [len_sortG,List.length_range];omega
def PDepth (f:Nat):Prop:=∀ (l:List (List Val)) (bP bm:Nat) (L:List Nat) (A:Option Addr) (c:Nat) (w:World),L.length≤f→l.length<20→PD w bP bm l→Inc l.length L→(L=[]→inpS l=0)→Nums w (fun b=>b≠bm) A L →
 Calls Tryz.prog 53 #[.pointer (some ⟨bP,0,none⟩),.slice A L.length c] w (RetDp w bm l (dep (spl l) (inpS l) L:Nat))
/- The planner's depthWith, where depth is right for fewer programs. Conditions: the planner lies in memory. -/

theorem gstep_len (P:List Nat) (gs:List (List Nat)) (k:Nat) (p:Option Nat):(gstep P gs k p).length≤gs.length+1:=by
 unfold gstep;split <;> simp
theorem grp_len (P:List Nat):∀ (s:List Nat) (gs:List (List Nat)) (p:Option Nat),(grp P gs p s).length≤gs.length+s.length
 | [],gs,p=>Nat.le_refl _
 | k :: s,gs,p=>by
  have h1:=grp_len P s (gstep P gs k p) (some k);have h2:=gstep_len P gs k p;show (grp P (gstep P gs k p) (some k) s).length≤_;rw [List.length_cons];omega
theorem spl_len (l:List (List Val)) (m:Nat) (L:List Nat):(spl l m L).length≤L.length:=by
 have h:=grp_len (placesS l m) (sortG (ltN (placesS l m)) L) [] none;rw [len_sortG,List.length_nil,Nat.zero_add] at h;exact h
theorem OwnNN.spl {w:World} {base c:Nat} {A:Option Addr} {l:List (List Val)} {m:Nat} {L:List Nat} (h:OwnNN w base A c (spl l m L)) (hL:L.length≤4294967296):NN w (fun b=>base≤b) A (spl l m L) :=
 h.nn (Nat.le_trans (spl_len l m L) hL) fun g hg=>Nat.le_trans ((spl_is l m L).sub g hg).2.length_le hL
set_option maxRecDepth 100000 in
set_option maxHeartbeats 4000000 in
theorem pl_depthWith (f:Nat) (ih:PDepth f) (l:List (List Val)) (bP bm:Nat) (L:List Nat) (A:Option Addr) (c m:Nat) (w:World) (hf:L.length≤f+1) (hl:l.length<20) (hp:PD w bP bm l) (hi:Inc l.length L) (hm:m<inpS l) (hne:L≠[]) (ha:Nums w (fun b=>b≠bm) A L) :
  Calls Tryz.prog 103 #[.pointer (some ⟨bP,0,none⟩),.slice A L.length c,.int .i64 (m:Int)] w (RetDp w bm l (dW (spl l) (dep (spl l) (inpS l)) m L:Nat)):=by
 obtain ⟨a0,rfl⟩:∃ a,A=some a:=by
  rcases ha.1.some_ (by intro e; apply hne; simpa [nums] using e) with ⟨b,o,e,_⟩
  exact ⟨_,e⟩
 have HLEN:=Hd (show L.length<20 by have:=hi.len; omega);obtain ⟨PA,pc,hp1,hp2⟩:=hp.pl;obtain ⟨N,eN⟩:∃ N,N=inpS l:=⟨_,rfl⟩;obtain ⟨b,o,B,e,rfl,hb,hc,hcap,hnum⟩:=hp2.at_ (k:=m) (by simp; omega);simp only [List.getElem_map,List.getElem_range,placesS_len] at hc hnum hcap;have HP:=Hd hp;have HI:=Hd hi;have HA:=Hd ha;have HNUM:=Hd hnum;have HF:=Hd hf;have HEN:=Hd eN;have HNE:=Hd hne;have HL:=Hd hl;obtain ⟨n,en⟩:∃ n,n=L.length:=⟨_,rfl⟩;obtain ⟨np,enp⟩:∃ np,np=l.length:=⟨_,rfl⟩;have HEL:=Hd en;have HENP:=Hd enp;rw [← eN] at hp1 hm;rw [← en];rw [← enp] at hc;have i0:(0:Int)≤(m:Int):=(by omega);have i1:(m:Int)<(N:Int):=(by omega);clear hp hi ha hp2 hnum hf hcap eN en enp hne hl hb
 go_enter Tryz.func103,Tryz.ntmps103
 go_wp2_with fail
 rw [HENP.o,HEL.o];have hsp:=question_split a0 c L B e (placesS l m) w (fun b=>b≠bm) HA.o HNUM.o HNE.o HLEN.o (fun x hx=>by rw [placesS_len]; exact HI.o.2 x hx) (fun x hx=>by have:=placesS_le l m x hx; have:=HL.o; omega);rw [placesS_len] at hsp;refine hsp.mono ?_;rintro e1 w1 ⟨A1,c1,rfl,ho1,hx1⟩;have HLB:=Hd (show L.length≤4294967296 by have:=HLEN.o; omega);have HGS:=Hd ((show OwnNN w1 w.heap.size A1 c1 (spl l m L) from ho1).spl HLB.o);have HX1:=Hd hx1;have HP1:=Hd (HP.o.ext hx1);have HIS:=Hd (spl_is l m L);have hgl0:=spl_len l m L;have hmlt:bm<w.heap.size:=(by obtain ⟨M,hM,_⟩:=HP.o.map; exact hM.lt);have HML:=Hd hmlt;obtain ⟨ng,eng⟩:∃ ng,ng=(spl l m L).length:=⟨_,rfl⟩;have HENG:=Hd eng;rw [show splitS L (placesS l m)=spl l m L from rfl,← eng];rw [← eng] at hgl0;have hgl:ng<20:=(by have:=HLEN.o; omega);clear hsp ho1 hx1 eng hmlt hgl0;by_cases h2:ng<2
 ·have i2:(ng:Int)<2:=(by omega);have HW:=Hd (show dW (spl l) (dep (spl l) (inpS l)) m L=0 by unfold dW; rw [if_pos (by rw [← HENG.o]; exact h2)]);go_wp2;go_ret;exact ⟨by rw [HW.o]; rfl,ButS.of_ext HX1.o,HP1.o.map⟩
 ·have i2:¬ (ng:Int)<2:=(by omega);have HW:=Hd (show dW (spl l) (dep (spl l) (inpS l)) m L=1+(spl l m L).foldl (fun a g=>max a (dep (spl l) (inpS l) g)) 0 by unfold dW; rw [if_neg (by rw [← HENG.o]; exact h2)]);go_wp2
  go_loopw [8,25] (fun v i wr=>∃ (k a:Nat),k≤ng∧v=.int .i64 (a:Int)∧i=.int .i64 (k:Int)∧a≤20∧a=((spl l m L).take k).foldl (fun a g=>max a (dep (spl l) (inpS l) g)) 0∧ButS (fun b=>b=bm) w1 wr∧PD wr bP bm l) (fun _ i _=>ng-(intOf i).toNat)
  case atStart=>exact ⟨0,0,Nat.zero_le _,rfl,rfl,Nat.zero_le _,rfl,ButS.refl _ _,HP1.o⟩
  case round =>
   obtain ⟨k,a,hk,rfl,rfl,ha20,hae,hbut,hpd⟩:=hrel;have HAE:=Hd hae;have HB:=Hd hbut;have HPD:=Hd hpd;clear hae hbut hpd;by_cases hlt:k<ng
   ·have hks:k<(spl l m L).length:=(by rw [← HENG.o]; exact hlt);have hml:=HML.o;have hgs:=(HGS.o.mono (T:=fun b=>b≠bm) fun b _ hb=>by omega).keep (HB.o.kept fun b _ e=>e);obtain ⟨b2,o2,B2,e2,rfl,_,hc2,-,hn2⟩:=hgs.at_ hks;obtain ⟨g,eg⟩:∃ g,g=(spl l m L)[k]:=⟨_,rfl⟩;have hgm:g∈spl l m L:=(by rw [eg]; exact List.getElem_mem hks);rw [← eg] at hc2 hn2;have hsub:=HIS.o.sub g hgm;have hsml:=HIS.o.small (by rw [← HENG.o]; omega) g hgm;have HCALL:=Hd (ih l bP bm g B2 e2 wr (by have:=HF.o; omega) HL.o HPD.o (HI.o.sub hsub.2) (fun e=>absurd e hsub.1) hn2);have HTK:=Hd (show ((spl l m L).take (k+1)).foldl (fun a g=>max a (dep (spl l) (inpS l) g)) 0=max a (dep (spl l) (inpS l) g) by
     rw [List.take_succ_eq_append_getElem hks,List.foldl_append,← HAE.o,← eg]; rfl)
    have HDL:=Hd (show dep (spl l) (inpS l) g≤20 by have:=dep_len (spl_small l) (inpS l) g; have:=HLEN.o; omega);obtain ⟨d,ed⟩:∃ d,d=dep (spl l) (inpS l) g:=⟨_,rfl⟩;have HED:=Hd ed;rw [← ed] at HCALL HTK HDL;obtain ⟨gn,egn⟩:∃ gn,gn=g.length:=⟨_,rfl⟩;rw [← egn] at HCALL hc2;have i3:(0:Int)≤(k:Int):=(by omega);have i4:(k:Int)<(ng:Int):=(by omega);clear eg hgm hsub hsml hn2 hks hgs ed egn
    go_wp2_with fail
    refine HCALL.o.mono ?_;rintro e3 w3 ⟨rfl,hb3,hm3⟩;have HB3:=Hd hb3;have HM3:=Hd hm3;clear hb3 hm3;go_wp2;go_roundw
    case rel=>exact ⟨k+1,max a d,by omega,by go_num,by go_num,by have:=HDL.o; omega,HTK.o.symm,HB.o.trans HB3.o,HPD.o.but HB3.o HM3.o⟩
    case measure=>simp [intOf]; omega
   ·have HFIN:=Hd (show a=(spl l m L).foldl (fun a g=>max a (dep (spl l) (inpS l) g)) 0 by
     have h1:=HAE.o;rw [List.take_of_length_le (by rw [← HENG.o]; omega)] at h1;exact h1)
    go_wp2;go_ret;exact ⟨by rw [HW.o,← HFIN.o]; simp,(ButS.of_ext HX1.o).trans HB.o,HPD.o.map⟩
/- The planner's depth. Conditions: the planner lies in memory. -/

theorem zeroIQ (w:World):(zeroValue 3).run Tryz.prog w=.ok (.int .i64 0) w:=by kernel_rfl
theorem powQ (x:Nat) (hx:x<20):wrap64 ((2:Int) ^ x)=((2 ^ x:Nat):Int):=by
 have h0:(2:Nat) ^ x<2 ^ 20:=Nat.pow_lt_pow_right (by omega) hx;have h2:(2:Int) ^ x=((2 ^ x:Nat):Int):=(by norm_cast);rw [h2];generalize 2 ^ x=y at h0;unfold wrap64;omega
theorem orQ (a b:Nat) (ha:a<2 ^ 20) (hb:b<2 ^ 20):bits .or .i64 (a:Int) (b:Int)=((a ||| b:Nat):Int) :=
 (bits_nat .i64 20 (by decide) (fun n h0 h1=>IntWalk.i64_in _ (by omega)) a b ha hb).2
set_option maxRecDepth 100000 in
set_option maxHeartbeats 4000000 in
theorem pl_depth_step (f:Nat) (ih:0<f→PDepth (f-1)):PDepth f:=by
 intro l bP bm L A c w hf hl hp hi h0 ha;obtain ⟨M,hM,hC⟩:=hp.map;obtain ⟨PA,pc,hp1,hp2⟩:=hp.pl;have hdm:=hp.dm;obtain ⟨N,eN⟩:∃ N,N=inpS l:=⟨_,rfl⟩;have HP:=Hd hp;have HI:=Hd hi;have HA:=Hd ha;have HF:=Hd hf;have HEN:=Hd eN;have HL:=Hd hl;have H0:=Hd h0;have HM:=Hd hM;have HC:=Hd hC;have HLEN:=Hd (show L.length<20 by have:=hi.len; omega);have HNL:=Hd (show N≤4294967296 by have:=hp2.1; simp at this; omega);obtain ⟨n,en⟩:∃ n,n=L.length:=⟨_,rfl⟩;have HEL:=Hd en;have hn:n<20:=(by rw [en]; exact HLEN.o);rw [← eN] at hp1;rw [← en];obtain ⟨s,es⟩:∃ s,s=bitsN L:=⟨_,rfl⟩;have HES:=Hd es;have hlk:=HM.o.get2 Tryz.underlying91 (klInt Tryz.underlying3) (.int .i64 0) zeroIQ (s:Int);clear hp hi ha hp2 hf eN en hl h0 hM hC es
 go_enter Tryz.func53,Tryz.ntmps53
 go_wp2
 go_loopw [5,15] (fun v i wr=>∃ k:Nat,k≤n∧v=.int .i64 (bitsN (L.take k):Nat)∧i=.int .i64 (k:Int)∧wr=w) (fun _ i _=>n-(intOf i).toNat)
 case atStart=>exact ⟨0,Nat.zero_le _,rfl,rfl,rfl⟩
 case round =>
  obtain ⟨k,hk,rfl,rfl,rfl⟩:=hrel;by_cases hlt:k<n
  ·have hks:k<L.length:=(by rw [← HEL.o]; exact hlt);obtain ⟨b,o,rfl,_,hc⟩:=HA.o.at_ hks;obtain ⟨x,ex⟩:∃ x,x=L[k]:=⟨_,rfl⟩;have hx20:x<20:=(by have:=HI.o.2 x (by rw [ex]; exact List.getElem_mem hks); have:=HL.o; omega);have HT:=Hd (show bitsN (L.take (k+1))=bitsN (L.take k) ||| 2 ^ x by rw [List.take_succ_eq_append_getElem hks,bitsN_snoc,ex]);have hor:=orQ (bitsN (L.take k)) (2 ^ x) (bitsN_lt _ fun y hy=>by have:=HI.o.2 y (List.mem_of_mem_take hy); have:=HL.o; omega) (Nat.pow_lt_pow_right (by omega) hx20);rw [← ex] at hc;obtain ⟨sk,esk⟩:∃ sk,sk=bitsN (L.take k):=⟨_,rfl⟩;rw [← powQ x hx20,← esk] at hor;rw [← esk] at HT ⊢;have HOR:=Hd hor;have i0:(0:Int)≤(k:Int):=(by omega);have i1:(k:Int)<(n:Int):=(by omega);clear ex esk hks hlk hor;go_wp2;go_roundw
   case rel=>exact ⟨k+1,by omega,by rw [HT.o,HOR.o],by go_num,trivial⟩
   case measure=>simp [intOf]; omega
  ·have HBS:=Hd (show bitsN (L.take k)=s by rw [HES.o,List.take_of_length_le (by rw [← HEL.o]; omega)]);rw [HBS.o];cases hq:mget M (s:Int) with
   | some v =>
    have hv:v=.int .i64 (dep (spl l) (inpS l) L:Nat):=HC.o L HI.o v (by rw [← HES.o]; exact hq);rw [hq,hv] at hlk;clear hq hv;simp only [Option.getD_some,Option.isSome_some] at hlk;go_wp2;go_ret;exact ⟨rfl,ButS.refl _ _,HP.o.map⟩
   | none =>
    rw [hq] at hlk;clear hq;simp only [Option.getD_none,Option.isSome_none] at hlk;obtain ⟨dL,edL⟩:∃ d,d=dep (spl l) (inpS l) L:=⟨_,rfl⟩;have HDL:=Hd edL;clear edL;have hNL:=HNL.o;obtain ⟨w1,rfl⟩:∃ w1,w1=wr:=⟨_,rfl⟩;go_wp2
    go_loopw [10,40] (fun v i wr=>∃ (k a:Nat),k≤N∧v=.int .i64 (a:Int)∧i=.int .i64 (k:Int)∧a≤20∧a=(List.range k).foldl (fun a m=>lst a (dW (spl l) (dep (spl l) (inpS l)) m L)) 0∧ButS (fun b=>b=bm) w1 wr∧PD wr bP bm l) (fun _ i _=>N-(intOf i).toNat)
    case atStart=>exact ⟨0,0,Nat.zero_le _,rfl,rfl,Nat.zero_le _,rfl,ButS.refl _ _,HP.o⟩
    case round =>
     clear hlk hp1 hdm;obtain ⟨k,a,hk,rfl,rfl,ha20,hae,hbut,hpd⟩:=hrel;have HAE:=Hd hae;have HB:=Hd hbut;have HPD:=Hd hpd;clear hae hbut hpd;by_cases hlt:k<N
     ·have hml:=HM.o.lt;have hne:L≠[]:=fun e=>by have:=H0.o e; have:=HEN.o; omega
      have hLL:=HEL.o;have HCALL:=Hd (pl_depthWith (f-1) (ih (by have:=HF.o; have:=List.length_pos_iff.2 hne; omega)) l bP bm L A c k wr (by have:=HF.o; omega) HL.o HPD.o HI.o (by rw [← HEN.o]; exact hlt) hne (HA.o.keep (HB.o.kept fun b _ e=>e)));rw [← hLL] at HCALL;have HTK:=Hd (show (List.range (k+1)).foldl (fun a m=>lst a (dW (spl l) (dep (spl l) (inpS l)) m L)) 0=lst a (dW (spl l) (dep (spl l) (inpS l)) k L) by
       rw [List.range_succ,List.foldl_append,← HAE.o]; rfl)
      obtain ⟨d,ed⟩:∃ d,d=dW (spl l) (dep (spl l) (inpS l)) k L:=⟨_,rfl⟩;have hd20:d≤20:=by
       rcases Nat.eq_zero_or_pos d with h | h
       ·omega
       ·rw [ed];unfold dW;split
        ·omega
        ·have:=foldl_max_le (f:=fun g=>dep (spl l) (inpS l) g) (B:=18) (spl l k L) 0 (by omega) fun g hg=>by
          have h1:=dep_len (spl_small l) (inpS l) g;have h2:=((spl_is l k L).sub g hg).2.length_le;have:=HLEN.o;omega
         omega
      rw [← ed] at HCALL HTK;clear hml hne ed hLL
      go_wp2_with fail
      refine HCALL.o.mono ?_;rintro e3 w3 ⟨rfl,hb3,hm3⟩;have HB3:=Hd hb3;have HM3:=Hd hm3;clear hb3 hm3;have HREL:=Hd (show ∀ a',a'=lst a d→∃ (k_1 a:Nat),k_1≤N∧Value.int .i64 (a':Int)=.int .i64 (a:Int)∧Value.int .i64 ((k:Int)+1)=.int .i64 (k_1:Int)∧a≤20∧a=(List.range k_1).foldl (fun a m=>lst a (dW (spl l) (dep (spl l) (inpS l)) m L)) 0∧ButS (fun b=>b=bm) w1 w3∧PD w3 bP bm l from fun a' ea=>⟨k+1,a',by omega,rfl,by go_num,by rw [ea]; unfold lst; split <;> omega,by rw [HTK.o,ea],HB.o.trans HB3.o,HPD.o.but HB3.o HM3.o⟩);by_cases hd0:0<d
      ·have j0:(0:Int)<(d:Int):=(by omega);by_cases ha0:a=0
       ·have j1:((a:Int)==0)=true:=(by rw [beq_iff_eq]; omega);have HV:=Hd (show d=lst a d by unfold lst; rw [if_pos ⟨hd0,.inl ha0⟩]);clear ha0;go_wp2;go_roundw
        case rel=>exact HREL.o _ HV.o
        case measure=>simp [intOf]; omega
       ·have j1:((a:Int)==0)=false:=(by rw [beq_eq_false_iff_ne]; omega);by_cases hda:d<a
        ·have j2:(d:Int)<(a:Int):=(by omega);have HV:=Hd (show d=lst a d by unfold lst; rw [if_pos ⟨hd0,.inr hda⟩]);clear ha0;go_wp2;go_roundw
         case rel=>exact HREL.o _ HV.o
         case measure=>simp [intOf]; omega
        ·have j2:¬ (d:Int)<(a:Int):=(by omega);have HV:=Hd (show a=lst a d by unfold lst; rw [if_neg (by omega)]);clear ha0;go_wp2;go_roundw
         case rel=>exact HREL.o _ HV.o
         case measure=>simp [intOf]; omega
      ·have j0:¬ (0:Int)<(d:Int):=(by omega);have HV:=Hd (show a=lst a d by unfold lst; rw [if_neg (by omega)]);go_wp2;go_roundw
       case rel=>exact HREL.o _ HV.o
       case measure=>simp [intOf]; omega
     ·obtain rfl:k=N:=by omega
      have HFIN:=Hd (show a=dep (spl l) (inpS l) L by rw [HAE.o,dep_eq (spl_small l)]; rw [HEN.o]);obtain ⟨M2,hM2,hC2⟩:=HPD.o.map;obtain ⟨w4,hu,hM4,hg4⟩:=hM2.put Tryz.underlying91 (klInt Tryz.underlying3) (s:Int) (.int .i64 (a:Int));have HM4:=Hd hM4;have HG4:=Hd hg4;have hdm2:=HPD.o.dm;have HC4:=Hd (show Cons (spl l) (inpS l) l.length (mput M2 (s:Int) (.int .i64 (a:Int))) by rw [HES.o,HFIN.o]; exact hC2.put HI.o);clear hM4 hg4 hM2 hC2;go_wp2;go_ret;exact ⟨by rw [← HFIN.o]; rfl,HB.o.grown HG4.o fun b hb=>.inl (by injection hb with hb; exact hb.symm),_,HM4.o,HC4.o⟩
theorem pl_depth (f:Nat):PDepth f:=by
 induction f with
 | zero=>exact pl_depth_step 0 fun h=>absurd h (by omega)
 | succ f ih=>exact pl_depth_step (f+1) fun _=>ih
/- Rows of flat values that a literal makes. No conditions. -/

def flatV (y:Val):Prop:=y.cols=[]∧y.rows=[]∧y.s.size≤4294967296
theorem CV.flat {w:World} {S:Nat→Prop} {d:Nat} {y:Val} (hy:flatV y) (hd:0<d):CV w S d y (vcells y none 0 none 0):=by
 obtain ⟨h1,h2,h3⟩:=hy;refine ⟨none,0,none,0,rfl,⟨hd,by rw [h1]; exact Nat.le_refl _,by rw [h2]; exact Nat.le_refl _⟩,RV.mk h3 (by rw [h1]; exact Strs.nil) (by rw [h2]; exact Rows.nil)⟩
theorem VL.flat {w:World} {S:Nat→Prop} {d:Nat} (hd:0<d):∀ (ys:List Val),(∀ y∈ys,flatV y)→VL (CV w S d) (ys.flatMap fun y=>vcells y none 0 none 0) ys
 | [],_=>VL.nil _
 | y :: ys,h=>by
  have h1:=VL.snoc (VL.nil (CV w S d)) (cs:=vcells y none 0 none 0) (y:=y) (CV.flat (w:=w) (S:=S) (h y List.mem_cons_self) hd).one.1 (CV.flat (h y List.mem_cons_self) hd);have h2:=VL.flat (w:=w) (S:=S) hd ys fun z hz=>h z (List.mem_cons_of_mem _ hz)
  simpa using h1.append h2
theorem Row.flat {w:World} {g t d:Nat} {cs:Array Value} {ys:List Val} (h:Blk w g t cs) (hc:cs.toList=ys.flatMap fun y=>vcells y none 0 none 0) (hy:∀ y∈ys,flatV y) (hd:0<d) (hl:ys.length≤4294967296):Row w (fun b=>b=g) d (some ⟨g,0,none⟩) ys:=by
 have h1:=h.rd;rw [hc] at h1;exact RVs.iff.2 ⟨hl,_,h1,VL.flat hd ys hy⟩
/- The reference's copies: the same data in new memory, which is the caller's own. Conditions: the arguments read as data. -/

def RetRow (w:World) (q:Nat) (l:List Val) (e:Ending) (w':World):Prop:=∃ (A:Option Addr) (c:Nat),e=.returned (.slice A l.length c)∧OwnVs w' w.heap.size (fun b=>w.heap.size≤b) q A c l∧Ext w w'
def PC6 (d:Nat):Prop:=∀ (x:Val) (A B:Option Addr) (c e:Nat) (w:World) (S:Nat→Prop),RV w S d x A B→Calls Tryz.prog 109 #[(.agg #[.int .i64 x.kind,.string x.s,.int .i64 x.dn,.int .i64 x.ds,.int .i64 x.n,.slice A x.cols.length c,.slice B x.rows.length e])] w (RetV w (Fresh w) d x)
set_option maxRecDepth 100000 in
set_option maxHeartbeats 1000000 in
theorem r06_CopyRow (q:Nat) (ih:0<q→PC6 (q-1)) (l:List Val) (A:Option Addr) (c:Nat) (w:World) (S:Nat→Prop) (h:Row w S q A l):Calls Tryz.prog 74 #[.slice A l.length c] w (RetRow w q l):=by
 have hlen:=h.len;have HROW:=Hd h;have IH:=Hd ih;clear h ih
 go_enter Tryz.func74,Tryz.ntmps74
 go_wp2
 go_loopw [3,4] (fun v i wi=>∃ (j:Nat) (A':Option Addr) (c':Nat),j≤l.length∧i=.int .i64 j∧v=.slice A' j c'∧Ext w wi∧OwnVs wi w.heap.size (fun b=>w.heap.size≤b) q A' c' (l.take j)) (fun _ i _=>l.length-(intOf i).toNat)
 case atStart=>exact ⟨0,none,0,Nat.zero_le _,rfl,rfl,Ext.refl _,OwnVs.nil _ _ _ _⟩
 case round =>
  obtain ⟨j,A',c',hj,rfl,rfl,hbi,hoi⟩:=hrel;have HBI:=Hd hbi;have HOI:=Hd hoi;by_cases hlt2:j<l.length
  ·obtain ⟨b2,o2,A5,c5,B5,e5,rfl,z2,⟨p0,p1,p2,p3,p4,p5,p6⟩,⟨hq,_,_⟩,hv⟩:=(HROW.o.keep (hbi.kept _)).at_ hlt2;have HV:=Hd hv;have hszi:=hbi.size;clear hv hbi hoi
   go_wp2_with fail
   refine (IH.o hq _ _ _ _ _ _ S HV.o).mono ?_;rintro e3 w3 ⟨A3,c3,B3,e3,rfl,hcc3,hv3,hx3⟩;have HX3:=Hd hx3;have hz3:=hx3.size;have hv3':=hv3.mono (T:=fun b=>wr.heap.size≤b) (fun i _ hi=>hi);obtain ⟨xs,hown,hvl⟩:=HOI.o.ext (HX3.o.alloc (.cells (vcells l[j] A3 c3 B3 e3).toArray 47));have hlj:(l.take j).length=j:=(by rw [List.length_take]; omega);have HVL:=Hd hvl;rw [hlj] at hown;have HOWN:=Hd hown;have HLJ:=Hd hlj;have HV3:=Hd hv3';clear hvl hown hv3 hv3' hx3 hlj
   go_wp2_with (at_builtin; go_must (refine wpList_app rfl (.tmp 11) (.tmp 17) rfl tiV rfl HOWN.o rfl (Blk.rd (Blk.new _ _ _)) rfl vcells_one (by omega) (by decide) (by simp; omega) ?_); intro A4 c4 w4 hown4 hg4 hat4)
   go_roundw
   case rel =>
    refine ⟨j+1,A4,c4,by omega,by go_num,rfl,?_,?_⟩
    ·exact ((HBI.o.trans HX3.o).alloc _).grown hg4 (fun k hk=>(HOWN.o.blk hk).1)
    ·rw [List.take_succ_eq_append_getElem hlt2];refine OwnVs.push HVL.o (by rw [HLJ.o]; exact hown4) hg4 hat4 ⟨hq,hcc3⟩ ((HV3.o.keep (Kept.alloc _ _ _)).mono fun i _ hi=>⟨fun h0 => ?_,by omega⟩);have:=(HOI.o.blk h0).2;omega
   case measure=>simp [intOf]; omega
  ·have hjr:j=l.length:=(by omega);subst hjr;have HR:=Hd (show OwnVs wr w.heap.size (fun b=>w.heap.size≤b) q A' c' l by have:=HOI.o; rwa [List.take_of_length_le (Nat.le_refl _)] at this);go_wp2;go_ret;exact ⟨A',c',rfl,HR.o,HBI.o⟩

def OwnRR (w:World) (base:Nat) (av:Nat→Prop) (q:Nat) (A:Option Addr) (c:Nat) (l:List (List Val)):Prop :=
 ∃ (hs:List Value) (cut:Nat→Nat),Own w base 42 1 A l.length c hs∧(∀ i j,i≤j→cut i≤cut j)∧base≤cut 0∧cut l.length≤w.heap.size ∧
  ∀ (i:Nat) (r:List Val),l[i]?=some r→∃ (B:Option Addr) (e:Nat),hs[i]?=some (Value.slice B r.length e)∧OwnVs w (cut i) (fun b=>cut i≤b∧b<cut (i+1)∧ob A≠some b∧¬ av b) q B e r∧∀ b,ob B=some b→b<cut (i+1)∧ob A≠some b∧¬ av b
section
variable {w w':World} {base q c c':Nat} {av:Nat→Prop} {A A':Option Addr} {l:List (List Val)}
theorem OwnVs.shift {base1 base2 d:Nat} {X1 X2:Nat→Prop} {B:Option Addr} {e:Nat} {r:List Val} (h:OwnVs w base1 X1 d B e r) (hb:∀ b,ob B=some b→base2≤b) (hX:∀ b,b<w.heap.size→X1 b→X2 b):OwnVs w base2 X2 d B e r:=by
 obtain ⟨xs,h1,h2⟩:=h;refine ⟨xs,⟨h1.1,?_⟩,h2.imp fun _ _ hh=>hh.mono fun i hi hh=>⟨hh.1,hX i hi hh.2⟩⟩
 rcases h1.2 with h3 | ⟨g,cap,cur,hv,_,rest⟩
 ·exact .inl h3
 ·exact .inr ⟨g,cap,cur,hv,hb g (by injection hv with hA; rw [hA]; rfl),rest⟩
theorem OwnRR.nil (w:World) (base:Nat) (av:Nat→Prop) (q:Nat) (hb:base≤w.heap.size):OwnRR w base av q none 0 []:=⟨[],fun _=>base,Own.nil _ _ _ _,fun _ _ _=>Nat.le_refl _,Nat.le_refl _,hb,by simp⟩
theorem OwnRR.ext (h:OwnRR w base av q A c l) (hx:Ext w w'):OwnRR w' base av q A c l:=by
 obtain ⟨hs,cut,h1,h2,h3,h4,h5⟩:=h;refine ⟨hs,cut,h1.ext hx,h2,h3,Nat.le_trans h4 hx.size,fun i r hr => ?_⟩;obtain ⟨B,e,g1,g2,g3⟩:=h5 i r hr;exact ⟨B,e,g1,g2.ext hx,g3⟩
theorem OwnRR.keep (h:OwnRR w base av q A c l) (hk:Kept (fun b=>base≤b∧¬ av b) w w') (ha:∀ b,ob A=some b→¬ av b):OwnRR w' base av q A c l:=by
 obtain ⟨hs,cut,h1,h2,h3,h4,h5⟩:=h;refine ⟨hs,cut,h1.keep (hk.mono fun b _ hb=>⟨(h1.blk hb).1,ha b hb⟩),h2,h3,Nat.le_trans h4 hk.1,fun i r hr => ?_⟩;obtain ⟨B,e,g1,g2,g3⟩:=h5 i r hr;have hc:=h2 0 i (Nat.zero_le _);refine ⟨B,e,g1,g2.keep (hk.mono fun b _ hb => ?_),g3⟩
 rcases hb with hb | hb
 ·exact ⟨by have:=(g2.blk hb).1; omega,(g3 b hb).2.2⟩
 ·exact ⟨by omega,hb.2.2.2⟩
theorem OwnRR.blk (h:OwnRR w base av q A c l) {k:Nat} (hk:ob A=some k):base≤k∧k<w.heap.size:=by
 obtain ⟨xs,_,ho,_⟩:=h;exact ho.blk hk
theorem OwnRR.cap (h:OwnRR w base av q A c l):l.length≤c:=by
 obtain ⟨xs,_,ho,_⟩:=h;exact ho.cap
theorem OwnRR.rows (h:OwnRR w base av q A c l) (hl:l.length≤4294967296) (hr:∀ r∈l,r.length≤4294967296):Rows w (fun b=>base≤b) q A l:=by
 obtain ⟨hs,cut,h1,h2,h3,h4,h5⟩:=h;refine ⟨hl,hs,h1.rd.mono fun i _ hi=>(h1.blk hi).1,by simpa using h1.len,fun i r hi => ?_⟩;obtain ⟨B,e,g1,g2,g3⟩:=h5 i r hi;have hc:=h2 0 i (Nat.zero_le _);have hcap:r.length≤e:=(by obtain ⟨xs,ho,_⟩:=g2; exact ho.cap);exact ⟨B,e,g1,hcap,g2.row (hr r (List.mem_of_getElem? hi)) (fun b hb=>by have:=(g2.blk hb).1; omega) (fun b hb=>by omega)⟩
theorem OwnRR.push {r:List Val} {B:Option Addr} {e lo:Nat} {hs:List Value} {cut:Nat→Nat} (hlo:cut l.length≤lo) (hlw:lo≤w.heap.size) (h2:∀ i j,i≤j→cut i≤cut j) (h3:base≤cut 0) (hh:hs.length=l.length) (hA:∀ b,ob A=some b→base≤b∧b<lo) (hav:∀ b,av b→b<lo)
  (h5:∀ (i:Nat) (r:List Val),l[i]?=some r→∃ (B:Option Addr) (e:Nat),hs[i]?=some (Value.slice B r.length e)∧OwnVs w (cut i) (fun b=>cut i≤b∧b<cut (i+1)∧ob A≠some b∧¬ av b) q B e r∧∀ b,ob B=some b→b<cut (i+1)∧ob A≠some b∧¬ av b)
  (hr:OwnVs w lo (fun b=>lo≤b) q B e r) (hown:Own w' base 42 1 A' (l.length+1) c' (hs++[Value.slice B r.length e])) (hg:w.grownBy w' (ob A)) (hat:ob A'=ob A∨ob A'=some w.heap.size):OwnRR w' base av q A' c' (l++[r]):=by
 have hne:∀ b,b<w.heap.size→ob A≠some b→ob A'≠some b:=by
  intro b hb h1 h2
  rcases hat with e | e <;> rw [e] at h2
  ·exact h1 h2
  ·injection h2 with h2; omega
 have hk:Kept (fun b=>ob A≠some b) w w':=Kept.of_grown hg fun b hb _ e=>hb e.symm;refine ⟨_,fun i=>if i≤l.length then cut i else w.heap.size,by simpa using hown,?_,?_,?_,?_⟩
 ·intro i j hij;dsimp only;have hll:=h2 i l.length;split <;> split
  ·exact h2 i j hij
  ·have:=h2 i l.length (by omega); omega
  ·omega
  ·exact Nat.le_refl _
 ·simpa using h3
 ·simp only [List.length_append,List.length_cons,List.length_nil];rw [if_neg (by omega)];exact hg.size
 ·intro i r' hi
  rcases Nat.lt_or_ge i l.length with hlt | hge
  ·rw [List.getElem?_append_left hlt] at hi;obtain ⟨B',e',g1,g2,g3⟩:=h5 i r' hi;have hc:=h2 (i+1) l.length (by omega);refine ⟨B',e',by rw [List.getElem?_append_left (by omega)]; exact g1,?_,?_⟩
   ·simp only [if_pos (show i≤l.length by omega),if_pos (show i+1≤l.length by omega)];refine (g2.keep (hk.mono fun b hb h => ?_)).shift (fun b hb=>(g2.blk hb).1) ?_
    ·rcases h with h | h
     ·exact (g3 b h).2.1
     ·exact h.2.2.1
    ·intro b _ hb;exact ⟨hb.1,hb.2.1,hne b (by omega) hb.2.2.1,hb.2.2.2⟩
   ·intro b hb;have:=g3 b hb;simp only [if_pos (show i+1≤l.length by omega)];exact ⟨this.1,hne b (by omega) this.2.1,this.2.2⟩
  ·rw [List.getElem?_append_right hge] at hi;have hj0:i-l.length=0:=by
    rcases Nat.eq_zero_or_pos (i-l.length) with h0 | h0
    ·exact h0
    ·rw [List.getElem?_eq_none (by simp; omega)] at hi;cases hi
   rw [hj0] at hi;simp at hi;subst hi;obtain rfl:i=l.length:=by omega
   have hAlo:∀ b,lo≤b→ob A≠some b:=fun b hb e=>by have:=hA b e; omega
   refine ⟨B,e,by rw [List.getElem?_append_right (by omega),hh]; simp,?_,?_⟩
   ·simp only [Nat.le_refl,if_true,if_neg (show ¬ l.length+1≤l.length by omega)];have h9:=(hr.shift (base2:=cut l.length) (X2:=fun b=>(cut l.length≤b∧b<w.heap.size∧ob A'≠some b∧¬ av b)∧ob A≠some b) (fun b hb=>by have:=(hr.blk hb).1; omega) fun b hbw hb=>⟨⟨by omega,hbw,hne b hbw (hAlo b hb),fun h=>by have:=hav b h; omega⟩,hAlo b hb⟩).keep (hk.mono fun b hb h => ?_)
    ·exact h9.shift (fun b hb=>(h9.blk hb).1) fun b _ hb=>hb.1
    ·rcases h with h | h
     ·exact hAlo b (hr.blk h).1
     ·exact h.2
   ·intro b hb;have:=hr.blk hb;simp only [if_neg (show ¬ l.length+1≤l.length by omega)];exact ⟨this.2,hne b this.2 (hAlo b this.1),fun h=>by have:=hav b h; omega⟩
end
structure CR (w:World) (x:Val) (q:Nat) (A B:Option Addr) (c e:Nat) (Ac:Option Addr) (cc:Nat) (k:Nat) (Ar:Option Addr) (cr:Nat) (wr:World):Prop where
 ext:Ext w wr
 box:Blk wr w.heap.size 47 #[.int .i64 x.kind,.string x.s,.int .i64 x.dn,.int .i64 x.ds,.int .i64 x.n,.slice A x.cols.length c,.slice B x.rows.length e]
 res:Blk wr (w.heap.size+1) 47 #[.int .i64 0,.string ⟨#[]⟩,.int .i64 0,.int .i64 0,.int .i64 0,.slice none 0 0,.slice none 0 0]
 gout:Blk wr (w.heap.size+1+1) 47 #[.int .i64 x.kind,.string x.s,.int .i64 x.dn,.int .i64 x.ds,.int .i64 x.n,.slice Ac x.cols.length cc,.slice Ar k cr]
 cols:OwnSs wr (w.heap.size+3) Ac cc x.cols
 rows:OwnRR wr (w.heap.size+3) (fun b=>ob Ac=some b) q Ar cr (x.rows.take k)
 sep:∀ b,ob Ac=some b→ob Ar≠some b
theorem CR.more {w:World} {x:Val} {q:Nat} {A B:Option Addr} {c e:Nat} {Ac:Option Addr} {cc:Nat} {k:Nat} {Ar:Option Addr} {cr:Nat} {wr wr':World} (h:CR w x q A B c e Ac cc k Ar cr wr) (hx:Ext wr wr'):CR w x q A B c e Ac cc k Ar cr wr' :=
 ⟨h.ext.trans hx,h.box.keep (hx.kept _),h.res.keep (hx.kept _),h.gout.keep (hx.kept _),h.cols.ext hx,h.rows.ext hx,h.sep⟩
structure CRA (w:World) (x:Val) (q:Nat) (A B:Option Addr) (c e:Nat) (Ac:Option Addr) (cc:Nat) (k:Nat) (Ar:Option Addr) (cr:Nat) (wr:World):Prop where
 ext:Ext w wr
 box:Blk wr w.heap.size 47 #[.int .i64 x.kind,.string x.s,.int .i64 x.dn,.int .i64 x.ds,.int .i64 x.n,.slice A x.cols.length c,.slice B x.rows.length e]
 res:Blk wr (w.heap.size+1) 47 #[.int .i64 0,.string ⟨#[]⟩,.int .i64 0,.int .i64 0,.int .i64 0,.slice none 0 0,.slice none 0 0]
 gout:∃ y,Blk wr (w.heap.size+1+1) 47 #[.int .i64 x.kind,.string x.s,.int .i64 x.dn,.int .i64 x.ds,.int .i64 x.n,.slice Ac x.cols.length cc,y]
 cols:OwnSs wr (w.heap.size+3) Ac cc x.cols
 rows:OwnRR wr (w.heap.size+3) (fun b=>ob Ac=some b) q Ar cr (x.rows.take k)
 sep:∀ b,ob Ac=some b→ob Ar≠some b
theorem CR.app {w:World} {x:Val} {q:Nat} {A B:Option Addr} {c e:Nat} {Ac:Option Addr} {cc:Nat} {k:Nat} {Ar:Option Addr} {cr:Nat} {wr wr':World} (h:CR w x q A B c e Ac cc k Ar cr wr) {hs:List Value} {cut:Nat→Nat} {lo:Nat} {A3 A4:Option Addr} {c3 c4:Nat} (hk:k<x.rows.length)
  (ho:Own wr (w.heap.size+3) 42 1 Ar (x.rows.take k).length cr hs) (h2:∀ i j,i≤j→cut i≤cut j) (h3:w.heap.size+3≤cut 0) (h4:cut (x.rows.take k).length≤lo) (hlw:lo≤wr.heap.size) (hAlo:∀ b,ob Ar=some b→b<lo) (hClo:∀ b,ob Ac=some b→b<lo)
  (h5:∀ (i:Nat) (r:List Val),(x.rows.take k)[i]?=some r→∃ (B:Option Addr) (e:Nat),hs[i]?=some (Value.slice B r.length e)∧OwnVs wr (cut i) (fun b=>cut i≤b∧b<cut (i+1)∧ob Ar≠some b∧¬ ob Ac=some b) q B e r∧∀ b,ob B=some b→b<cut (i+1)∧ob Ar≠some b∧¬ ob Ac=some b)
  (hr:OwnVs wr lo (fun b=>lo≤b) q A3 c3 x.rows[k]) (hg:wr.grownBy wr' (ob Ar)) (ho4:Own wr' (w.heap.size+3) 42 1 A4 (k+1) c4 (hs++[Value.slice A3 x.rows[k].length c3])) (hat:ob A4=ob Ar∨ob A4=some wr.heap.size):CRA w x q A B c e Ac cc (k+1) A4 c4 wr':=by
 have hlk:(x.rows.take k).length=k:=(by rw [List.length_take]; omega);have hkb:∀ g,g<w.heap.size+3→Kept (fun b=>b=g) wr wr':=fun g hg'=>Kept.of_grown hg fun b hb _ e=>by
  subst hb;have:=(ho.blk e.symm).1;omega
 refine ⟨Ext.grown h.ext hg fun b hb=>by have:=(ho.blk hb).1; omega,h.box.keep (hkb _ (by omega)),h.res.keep (hkb _ (by omega)),⟨_,h.gout.keep (hkb _ (by omega))⟩,⟨h.cols.1.keep (Kept.of_grown hg fun b hb _ e=>h.sep b hb e.symm),h.cols.2⟩,?_,?_⟩
 ·rw [List.take_succ_eq_append_getElem hk];exact OwnRR.push h4 hlw h2 h3 (by simpa using ho.len) (fun b hb=>⟨(ho.blk hb).1,hAlo b hb⟩) hClo h5 hr (by rw [hlk]; exact ho4) hg hat
 ·intro b hb hb'
  rcases hat with e | e
  ·rw [e] at hb'; exact h.sep b hb hb'
  ·rw [e] at hb';have:=(h.cols.1.blk hb).2;injection hb' with hb';omega
theorem CRA.store {w:World} {x:Val} {q:Nat} {A B:Option Addr} {c e:Nat} {Ac:Option Addr} {cc:Nat} {k:Nat} {Ar:Option Addr} {cr:Nat} {wr:World} (h:CRA w x q A B c e Ac cc k Ar cr wr):CR w x q A B c e Ac cc k Ar cr (wr.setCell ⟨w.heap.size+1+1,6,none⟩ (.slice Ar k cr)):=by
 obtain ⟨y,hy⟩:=h.gout;have ho:=(Only.refl (w.heap.size+1+1) wr).set 6 (.slice Ar k cr);refine ⟨h.ext.only ho (by omega),h.box.keep (ho.kept fun b _ e=>by omega),h.res.keep (ho.kept fun b _ e=>by omega),hy.set 6 _,⟨ho.own h.cols.1 (by omega),h.cols.2⟩,h.rows.keep (ho.kept fun b _ hb=>by omega) (fun b hb hb'=>h.sep b hb' hb),h.sep⟩
/- Lists of questions in memory. No conditions. -/

def RA (w:World) (S:Nat→Prop) (d:Nat) (t:AskD) (A B:Option Addr):Prop:=Row w S d A t.2.1∧Ints w S B t.2.2
theorem RA.keep {w w':World} {S:Nat→Prop} {d:Nat} {t:AskD} {A B:Option Addr} (h:RA w S d t A B) (k:Kept S w w'):RA w' S d t A B:=⟨Row.keep h.1 k,h.2.keep k⟩
theorem RA.mono {w:World} {S T:Nat→Prop} {d:Nat} {t:AskD} {A B:Option Addr} (h:RA w S d t A B) (k:∀ i,i<w.heap.size→S i→T i):RA w T d t A B:=⟨Row.mono h.1 k,h.2.mono k⟩
def acells (t:AskD) (A:Option Addr) (c:Nat) (B:Option Addr) (e:Nat):List Value:=[.int .i64 t.1,.slice A t.2.1.length c,.slice B t.2.2.length e]
def CA (w:World) (S:Nat→Prop) (d:Nat) (t:AskD) (cs:List Value):Prop:=∃ A c B e,cs=acells t A c B e∧(t.2.1.length≤c∧t.2.2.length≤e)∧RA w S d t A B
theorem RA.move {w w':World} {S T:Nat→Prop} {d:Nat} {t:AskD} {A B:Option Addr} (h:RA w S d t A B) (k:Kept S w w') (m:∀ i,i<w.heap.size→S i→T i):RA w' T d t A B :=
 ((h.mono (T:=fun b=>S b∧T b) fun i hi hs=>⟨hs,m i hi hs⟩).keep (k.mono fun _ _ hh=>hh.1)).mono fun _ _ hh=>hh.2
theorem CA.keep {w w':World} {S:Nat→Prop} {d:Nat} {t:AskD} {cs:List Value} (h:CA w S d t cs) (k:Kept S w w'):CA w' S d t cs:=by
 obtain ⟨A,c,B,e,h1,h2,h3⟩:=h;exact ⟨A,c,B,e,h1,h2,h3.keep k⟩
theorem CA.mono {w:World} {S T:Nat→Prop} {d:Nat} {t:AskD} {cs:List Value} (h:CA w S d t cs) (k:∀ i,i<w.heap.size→S i→T i):CA w T d t cs:=by
 obtain ⟨A,c,B,e,h1,h2,h3⟩:=h;exact ⟨A,c,B,e,h1,h2,h3.mono k⟩
theorem CA.move {w w':World} {S T:Nat→Prop} {d:Nat} {t:AskD} {cs:List Value} (h:CA w S d t cs) (k:Kept S w w') (m:∀ i,i<w.heap.size→S i→T i):CA w' T d t cs:=by
 obtain ⟨A,c,B,e,h1,h2,h3⟩:=h;exact ⟨A,c,B,e,h1,h2,h3.move k m⟩
theorem acells_one {t:AskD} {A B:Option Addr} {c e:Nat} : ∀ u∈acells t A c B e,u.oneCell'=true:=by
 intro u hu;simp [acells] at hu
 rcases hu with rfl | rfl | rfl <;> rfl
def AL (R:AskD→List Value→Prop) (xs:List Value) (l:List AskD):Prop:=xs.length=l.length*3∧∀ (j:Nat) (y:AskD),l[j]?=some y→R y ((xs.drop (j*3)).take 3)
theorem AL.nil (R:AskD→List Value→Prop):AL R [] []:=⟨rfl,by simp⟩
theorem AL.imp {R R':AskD→List Value→Prop} {xs:List Value} {l:List AskD} (h:AL R xs l) (f:∀ y cs,R y cs→R' y cs):AL R' xs l:=⟨h.1,fun j y hj=>f _ _ (h.2 j y hj)⟩
theorem AL.append {R:AskD→List Value→Prop} {xs ys:List Value} {l m:List AskD} (h:AL R xs l) (k:AL R ys m):AL R (xs++ys) (l++m):=by
 refine ⟨by simp [h.1,k.1]; omega,fun j z hj => ?_⟩
 rcases Nat.lt_or_ge j l.length with hlt | hge
 ·rw [List.getElem?_append_left hlt] at hj;have hz:=h.2 j z hj;have hx:=h.1;rw [List.drop_append_of_le_length (by omega),List.take_append_of_le_length (by simp; omega)];exact hz
 ·rw [List.getElem?_append_right hge] at hj;have hz:=k.2 _ z hj;have hx:=h.1;rw [show j*3=xs.length+(j-l.length)*3 by omega,← List.drop_drop,List.drop_left];exact hz
theorem AL.one {R:AskD→List Value→Prop} {cs:List Value} {y:AskD} (hc:cs.length=3) (hy:R y cs):AL R cs [y]:=by
 refine ⟨by simpa using hc,fun j z hj => ?_⟩
 match j,hj with
 | 0,hj =>
  simp at hj;subst hj;rw [Nat.zero_mul,List.drop_zero,List.take_of_length_le (by omega)];exact hy
 | j+1,hj=>simp at hj
theorem AL.cells {w:World} {S:Nat→Prop} {d:Nat} {xs:List Value} {l:List AskD} (h:AL (CA w S d) xs l):∀ u∈xs,u.oneCell'=true:=by
 intro u hu;obtain ⟨i,hi,rfl⟩:=List.mem_iff_getElem.1 hu;have hx:=h.1;have hj:i / 3<l.length:=(by omega);obtain ⟨A,c,B,e,h1,_⟩:=h.2 (i / 3) _ (List.getElem?_eq_getElem hj);refine acells_one (t:=l[i / 3]) (A:=A) (c:=c) (B:=B) (e:=e) _ ?_;rw [← h1];refine List.mem_iff_getElem.2 ⟨i % 3,by simp; omega,?_⟩;rw [List.getElem_take,List.getElem_drop];congr 1;omega
theorem AL.take {R:AskD→List Value→Prop} {xs:List Value} {l:List AskD} (h:AL R xs l) (k:Nat):AL R (xs.take (k*3)) (l.take k):=by
 have hx:=h.1;refine ⟨by rw [List.length_take,List.length_take,hx]; omega,fun j z hj => ?_⟩;rw [List.getElem?_take] at hj;split at hj
 ·have:=h.2 j z hj;rw [List.drop_take,List.take_take,Nat.min_eq_left (by omega)];exact this
 ·cases hj
theorem AL.drop {R:AskD→List Value→Prop} {xs:List Value} {l:List AskD} (h:AL R xs l) (k:Nat):AL R (xs.drop (k*3)) (l.drop k):=by
 have hx:=h.1;refine ⟨by rw [List.length_drop,List.length_drop,hx]; omega,fun j z hj => ?_⟩;rw [List.getElem?_drop] at hj;have:=h.2 _ z hj;rw [List.drop_drop,show k*3+j*3=(k+j)*3 by omega];exact this
def AS (w:World) (S:Nat→Prop) (d:Nat) (A:Option Addr) (l:List AskD):Prop:=l.length≤4294967296∧∃ xs:List Value,Rd w S A xs∧AL (CA w S d) xs l
def OwnAs (w:World) (base:Nat) (X:Nat→Prop) (d:Nat) (A:Option Addr) (c:Nat) (l:List AskD):Prop:=∃ xs,Own w base 59 3 A l.length c xs∧AL (CA w (fun b=>ob A≠some b∧X b) d) xs l
section
variable {w w':World} {base c c' d:Nat} {X T S:Nat→Prop} {A A':Option Addr} {l:List AskD}
theorem AS.keep (h:AS w S d A l) (k:Kept S w w'):AS w' S d A l:=by
 obtain ⟨h0,xs,h1,h2⟩:=h;exact ⟨h0,xs,h1.keep k,h2.imp fun _ _ hh=>hh.keep k⟩
theorem AS.mono (h:AS w S d A l) (k:∀ i,i<w.heap.size→S i→T i):AS w T d A l:=by
 obtain ⟨h0,xs,h1,h2⟩:=h;exact ⟨h0,xs,h1.mono k,h2.imp fun _ _ hh=>hh.mono k⟩
theorem AS.nil:AS w S d A []:=⟨by simp,[],Or.inl rfl,AL.nil _⟩
theorem AS.at_ (h:AS w S d A l) {k:Nat} (hk:k<l.length):∃ b o Ac cc Ar cr,A=some ⟨b,o,none⟩∧b<w.heap.size∧(w.cell? ⟨b,o+k*3,none⟩=some (.int .i64 l[k].1)∧w.cell? ⟨b,o+k*3+1,none⟩=some (.slice Ac l[k].2.1.length cc)∧w.cell? ⟨b,o+k*3+2,none⟩=some (.slice Ar l[k].2.2.length cr))∧(l[k].2.1.length≤cc∧l[k].2.2.length≤cr)∧RA w S d l[k] Ac Ar:=by
 obtain ⟨_,xs,h1,h2,h3⟩:=h;obtain ⟨Ac,cc,Ar,cr,h4,h5,h6⟩:=h3 k l[k] (List.getElem?_eq_getElem hk);have hx:∀ i u,(acells l[k] Ac cc Ar cr)[i]?=some u→xs[k*3+i]?=some u:=by
  intro i u hi;have hlt:i<3:=by
   have:=(List.getElem?_eq_some_iff.1 hi).1
   simpa [acells] using this
  rw [← h4,List.getElem?_take,if_pos hlt,List.getElem?_drop] at hi;exact hi
 have hne:xs≠[]:=by
  intro h0;have:=hx 0 _ rfl;simp [h0] at this
 obtain ⟨b,o,hB,_,hb,hc⟩:=h1.some_ hne;have hh:∀ i u,(acells l[k] Ac cc Ar cr)[i]?=some u→w.cell? ⟨b,o+k*3+i,none⟩=some u:=fun i u hi=>by
  have:=hc _ u (hx i u hi);rwa [← Nat.add_assoc] at this
 exact ⟨b,o,Ac,cc,Ar,cr,hB,hb,⟨hh 0 _ rfl,hh 1 _ rfl,hh 2 _ rfl⟩,h5,h6⟩
theorem OwnAs.nil (w:World) (base:Nat) (X:Nat→Prop) (d:Nat):OwnAs w base X d none 0 []:=⟨[],Own.nil _ _ _ _,AL.nil _⟩
theorem OwnAs.ext (h:OwnAs w base X d A c l) (hx:Ext w w'):OwnAs w' base X d A c l:=by
 obtain ⟨xs,h1,h2⟩:=h;exact ⟨xs,h1.ext hx,h2.imp fun _ _ hh=>hh.keep (hx.kept _)⟩
theorem OwnAs.blk (h:OwnAs w base X d A c l) {k:Nat} (hk:ob A=some k):base≤k∧k<w.heap.size:=by
 obtain ⟨xs,ho,_⟩:=h;exact ho.blk hk
theorem OwnAs.cap (h:OwnAs w base X d A c l):l.length≤c:=by
 obtain ⟨xs,ho,_⟩:=h;exact ho.cap
theorem OwnAs.as_ (h:OwnAs w base X d A c l) (hl:l.length≤4294967296) (h1:∀ b,ob A=some b→T b) (h2:∀ b,X b→T b):AS w T d A l:=by
 obtain ⟨xs,ho,hv⟩:=h;exact ⟨hl,xs,ho.rd.mono fun i _ hi=>h1 i hi,hv.imp fun _ _ hh=>hh.mono fun i _ hi=>h2 i hi.2⟩
theorem OwnAs.mono (h:OwnAs w base X d A c l) (hm:∀ b,b<w.heap.size→X b→T b):OwnAs w base T d A c l:=by
 obtain ⟨xs,h1,h2⟩:=h;exact ⟨xs,h1,h2.imp fun _ _ hh=>hh.mono fun i hi hh=>⟨hh.1,hm i hi hh.2⟩⟩
theorem OwnAs.lower {base':Nat} (h:OwnAs w base X d A c l) (hb:base'≤base):OwnAs w base' X d A c l:=by
 obtain ⟨xs,h1,h2⟩:=h;exact ⟨xs,h1.lower hb,h2⟩
theorem OwnAs.app {m:List AskD} {xs ys:List Value} (hv:AL (CA w (fun b=>ob A≠some b∧X b) d) xs l) (hy:AL (CA w (fun b=>ob A≠some b∧X b) d) ys m) (hown:Own w' base 59 3 A' (l.length+m.length) c' (xs++ys))
  (hg:w.grownBy w' (ob A)) (hat:ob A'=ob A∨ob A'=some w.heap.size):OwnAs w' base X d A' c' (l++m):=by
 have hk:Kept (fun b=>ob A≠some b∧X b) w w':=Kept.of_grown hg (fun b hb _ e=>hb.1 e.symm);have hm:∀ i,i<w.heap.size→(ob A≠some i∧X i)→(ob A'≠some i∧X i):=by
  rintro i hi ⟨h1,h2⟩;refine ⟨?_,h2⟩
  rcases hat with e | e <;> rw [e]
  ·exact h1
  ·intro h; injection h with h; omega
 exact ⟨_,by simpa using hown,(hv.append hy).imp fun _ _ hh=>hh.move hk hm⟩
end
theorem infoAk:(Tryz.prog.info? 59).map (fun i=>(i.zero,i.size,i.bytes))=some (some (.agg #[.int .i64 0,.slice none 0 0,.slice none 0 0]),3,56):=by kernel_rfl
theorem tiAk:TI Tryz.prog 27 59 3 56:=TI.mk_ Tryz.underlying27 infoAk rfl (by decide)
/- Lists of questions whose answers lie in memory that may be written. No conditions. -/

def UfR (w:World) (S:Nat→Prop) (r:List Val) (cs:List Value):Prop:=r=[]∨∃ (b n c:Nat),cs[1]?=some (Value.slice (some ⟨b,0,none⟩) n c)∧S b∧b<w.heap.size∧∀ i,w.frozen? ⟨b,i,none⟩=false
theorem UfR.move {w w':World} {S T:Nat→Prop} {r:List Val} {cs:List Value} (h:UfR w S r cs) (k:Kept S w w') (m:∀ i,i<w.heap.size→S i→T i):UfR w' T r cs:=by
 rcases h with h | ⟨b,n,c,h1,h2,h3,h4⟩
 ·exact .inl h
 ·refine .inr ⟨b,n,c,h1,m b h3 h2,Nat.lt_of_lt_of_le h3 k.1,fun i => ?_⟩;have:=h4 i;unfold World.frozen? at this ⊢;rw [k.2 b h2 h3];exact this
def CAU (w:World) (S:Nat→Prop) (d:Nat) (t:AskD) (cs:List Value):Prop:=CA w S d t cs∧UfR w S t.2.1 cs
theorem CAU.keep {w w':World} {S:Nat→Prop} {d:Nat} {t:AskD} {cs:List Value} (h:CAU w S d t cs) (k:Kept S w w'):CAU w' S d t cs:=⟨h.1.keep k,h.2.move k fun _ _ h=>h⟩
theorem CAU.mono {w:World} {S T:Nat→Prop} {d:Nat} {t:AskD} {cs:List Value} (h:CAU w S d t cs) (k:∀ i,i<w.heap.size→S i→T i):CAU w T d t cs:=⟨h.1.mono k,h.2.move (Kept.refl _ _) k⟩
theorem CAU.move {w w':World} {S T:Nat→Prop} {d:Nat} {t:AskD} {cs:List Value} (h:CAU w S d t cs) (k:Kept S w w') (m:∀ i,i<w.heap.size→S i→T i):CAU w' T d t cs:=⟨h.1.move k m,h.2.move k m⟩
def OwnAU (w:World) (base:Nat) (X:Nat→Prop) (d:Nat) (A:Option Addr) (c:Nat) (l:List AskD):Prop:=∃ xs,Own w base 59 3 A l.length c xs∧AL (CAU w (fun b=>ob A≠some b∧X b) d) xs l
section
variable {w w':World} {base c c' d:Nat} {X T S:Nat→Prop} {A A':Option Addr} {l:List AskD}
theorem OwnAU.own (h:OwnAU w base X d A c l):OwnAs w base X d A c l:=by
 obtain ⟨xs,h1,h2⟩:=h;exact ⟨xs,h1,h2.imp fun _ _ hh=>hh.1⟩
theorem OwnAU.nil (w:World) (base:Nat) (X:Nat→Prop) (d:Nat):OwnAU w base X d none 0 []:=⟨[],Own.nil _ _ _ _,AL.nil _⟩
theorem OwnAU.ext (h:OwnAU w base X d A c l) (hx:Ext w w'):OwnAU w' base X d A c l:=by
 obtain ⟨xs,h1,h2⟩:=h;exact ⟨xs,h1.ext hx,h2.imp fun _ _ hh=>hh.keep (hx.kept _)⟩
theorem OwnAU.blk (h:OwnAU w base X d A c l) {k:Nat} (hk:ob A=some k):base≤k∧k<w.heap.size:=by
 obtain ⟨xs,ho,_⟩:=h;exact ho.blk hk
theorem OwnAU.cap (h:OwnAU w base X d A c l):l.length≤c:=by
 obtain ⟨xs,ho,_⟩:=h;exact ho.cap
theorem OwnAU.mono (h:OwnAU w base X d A c l) (hm:∀ b,b<w.heap.size→X b→T b):OwnAU w base T d A c l:=by
 obtain ⟨xs,h1,h2⟩:=h;exact ⟨xs,h1,h2.imp fun _ _ hh=>hh.mono fun i hi hh=>⟨hh.1,hm i hi hh.2⟩⟩
theorem OwnAU.lower {base':Nat} (h:OwnAU w base X d A c l) (hb:base'≤base):OwnAU w base' X d A c l:=by
 obtain ⟨xs,h1,h2⟩:=h;exact ⟨xs,h1.lower hb,h2⟩
theorem OwnAU.keep {X':Nat→Prop} (h:OwnAU w base X' d A c l) (hk:Kept (fun b=>ob A=some b∨X' b) w w'):OwnAU w' base X' d A c l:=by
 obtain ⟨xs,h1,h2⟩:=h;exact ⟨xs,Own.keep h1 (hk.mono fun _ _ e=>.inl e),h2.imp fun _ _ hh=>hh.keep (hk.mono fun _ _ e=>.inr e.2)⟩
theorem OwnAU.app {m:List AskD} {xs ys:List Value} (hv:AL (CAU w (fun b=>ob A≠some b∧X b) d) xs l) (hy:AL (CAU w (fun b=>ob A≠some b∧X b) d) ys m) (hown:Own w' base 59 3 A' (l.length+m.length) c' (xs++ys))
  (hg:w.grownBy w' (ob A)) (hat:ob A'=ob A∨ob A'=some w.heap.size):OwnAU w' base X d A' c' (l++m):=by
 have hk:Kept (fun b=>ob A≠some b∧X b) w w':=Kept.of_grown hg (fun b hb _ e=>hb.1 e.symm);have hm:∀ i,i<w.heap.size→(ob A≠some i∧X i)→(ob A'≠some i∧X i):=by
  rintro i hi ⟨h1,h2⟩;refine ⟨?_,h2⟩
  rcases hat with e | e <;> rw [e]
  ·exact h1
  ·intro h; injection h with h; omega
 exact ⟨_,by simpa using hown,(hv.append hy).imp fun _ _ hh=>hh.move hk hm⟩
end
/- Drawn regions that make no variables: memory that stays, but for own blocks that a write of the region changes. No conditions. -/

abbrev Gz:=Nat→Bool
def gz0:Gz:=fun _=>false
def Gz.put (γ:Gz) (k:Nat):Gz:=fun j=>if j=k then true else γ j
structure LZ (X:Nat→Nat→Prop) (γ:Gz) (w:World) (γ':Gz) (w':World):Prop where
 os:w'.os=w.os
 tape:w'.tape=w.tape
 output:w'.output=w.output
 size:w.heap.size≤w'.heap.size
 kept:∀ b,b<w.heap.size→(∀ m,X m b→γ' m=γ m)→w'.heap[b]?=w.heap[b]?
 done:∀ k,γ k=true→γ' k=true
section
variable {X:Nat→Nat→Prop} {γ γ' γ'':Gz} {w w' w'':World}
theorem LZ.refl (X:Nat→Nat→Prop) (γ:Gz) (w:World):LZ X γ w γ w:=⟨rfl,rfl,rfl,Nat.le_refl _,fun _ _ _=>rfl,fun _ h=>h⟩
theorem LZ.mid (h:LZ X γ w γ' w') (k:LZ X γ' w' γ'' w'') {m:Nat} (e:γ'' m=γ m):γ' m=γ m∧γ'' m=γ' m:=by
 cases h0:γ m with
 | true=>have h1:=h.done m h0; exact ⟨h1,(k.done m h1).trans h1.symm⟩
 | false =>
  rw [h0] at e;cases h1:γ' m with
  | false=>exact ⟨rfl,e⟩
  | true=>rw [k.done m h1] at e; cases e
theorem LZ.trans (X:Nat→Nat→Prop) (γ:Gz) (w:World) (γ':Gz) (w':World) (γ'':Gz) (w'':World) (h:LZ X γ w γ' w') (k:LZ X γ' w' γ'' w''):LZ X γ w γ'' w'' :=
 ⟨k.os.trans h.os,k.tape.trans h.tape,k.output.trans h.output,Nat.le_trans h.size k.size,fun b hb hm=>(k.kept b (Nat.lt_of_lt_of_le hb h.size) fun m hX=>(h.mid k (hm m hX)).2).trans (h.kept b hb fun m hX=>(h.mid k (hm m hX)).1),fun i hi=>k.done i (h.done i hi)⟩
theorem LZ.of_ext (X:Nat→Nat→Prop) (γ:Gz) (h:Ext w w'):LZ X γ w γ w':=⟨h.os,h.tape,h.output,h.size,fun b hb _=>h.block b hb,fun _ h=>h⟩
theorem LZ.keptS (h:LZ X γ w γ' w') {S:Nat→Prop} (hS:∀ b,b<w.heap.size→S b→∀ m,X m b→γ' m=γ m):Kept S w w':=⟨h.size,fun b hs hb=>h.kept b hb (hS b hb hs)⟩
theorem LZ.kept0 (h:LZ X gz0 w.drew γ' w') {S:Nat→Prop} (hS:∀ b,b<w.heap.size→S b→∀ m,X m b→γ' m=false):Kept S w w':=(Kept.drew S w).trans (h.keptS hS)
theorem LZ.buts (h:LZ X gz0 w.drew γ' w') {S:Nat→Prop} (hS:∀ m b,b<w.heap.size→X m b→γ' m=true→S b):ButS S w w':=⟨h.os,h.tape,h.output,h.size,fun b hb hn=>h.kept b hb fun m hm=>by
 cases e:γ' m with
 | false=>rfl
 | true=>exact absurd (hS m b hb hm e) hn⟩
theorem LZ.ext0 (h:LZ X gz0 w.drew γ' w') (hX:∀ m b,b<w.heap.size→X m b→γ' m=false):Ext w w':=⟨h.os,h.tape,h.output,h.size,fun b hb=>h.kept b hb fun m hm=>hX m b hb hm⟩
theorem LZ.write {m:Nat} (hm:γ m=false) (hos:w'.os=w.os) (ht:w'.tape=w.tape) (hou:w'.output=w.output) (hz:w.heap.size≤w'.heap.size) (hb:∀ b,b<w.heap.size→¬ X m b→w'.heap[b]?=w.heap[b]?):LZ X γ w (γ.put m) w':=by
 refine ⟨hos,ht,hou,hz,fun b hl hX=>hb b hl fun h => ?_,fun k hk => ?_⟩
 ·have:=hX m h;simp [Gz.put,hm] at this
 ·unfold Gz.put;split
  ·rfl
  ·exact hk
end
def LK (l:List (Nat × List Nat)) (i:Nat) (γ:Gz):Prop:=∀ k∈alF l i,γ k=false
theorem LK.zero (l:List (Nat × List Nat)) (i:Nat):LK l i gz0:=fun _ _=>rfl
theorem LK.done {l:List (Nat × List Nat)} {γ:Gz} {s k:Nat} {p:List Nat} (h:(l.all fun q => !(q.2.contains k) || decide (q.1=s) || p.contains q.1)=true):∀ j,j≠s→j ∉ p→LK l j γ→LK l j (γ.put k):=by
 intro j hj hp h1 k' hk';unfold Gz.put;rw [if_neg (fun e=>by
  subst e
  rcases alF_ok h j hk' with h3 | h3
  ·exact hj h3
  ·exact hp h3)]
 exact h1 k' hk'
theorem LK.key {l:List (Nat × List Nat)} {γ:Gz} {i k:Nat} (h:LK l i γ) (hk:(alF l i).contains k=true):γ k=false:=h k (by simpa using hk)
/- The planner with its questions in memory. No conditions. -/

theorem sum_filter {p:Nat→Nat} : ∀ (hs:List Nat),hs.Nodup→∀ L:List Nat,(∀ x∈L,p x∈hs)→((hs.map fun v=>L.filter fun x=>p x==v).map List.length).sum=L.length
 | [],_,L,h=>by
  match L,h with
  | [],_=>rfl
  | x :: _,h=>have:=h x (by simp); cases this
 | v :: hs,hn,L,h=>by
  have hn':=List.nodup_cons.1 hn;have ih:=sum_filter hs hn'.2 (L.filter fun x=>p x != v) fun x hx=>by
   have h1:=List.mem_filter.1 hx
   rcases List.mem_cons.1 (h x h1.1) with e | e
   ·exact absurd e (by simpa using h1.2)
   ·exact e
  rw [List.map_cons,List.map_cons,List.sum_cons];have e:(hs.map fun v=>L.filter fun x=>p x==v)=hs.map fun v'=>(L.filter fun x=>p x != v).filter fun x=>p x==v':=by
   refine List.map_congr_left fun v' hv' => ?_;rw [List.filter_filter];refine List.filter_congr fun x _ => ?_;by_cases hx:p x=v'
   ·have:p x≠v:=fun e=>hn'.1 (by rw [← e,hx]; exact hv');simp [hx];rw [← hx]; exact this
   ·simp [hx]
  rw [e,ih];have h2:∀ M:List Nat,(M.filter fun x=>p x==v).length+(M.filter fun x=>p x != v).length=M.length:=by
   intro M
   induction M with
   | nil=>rfl
   | cons x M ih =>
    by_cases hx:p x=v
    ·rw [List.filter_cons_of_pos (by simpa using hx),List.filter_cons_of_neg (by simpa using hx)];simp only [List.length_cons];omega
    ·rw [List.filter_cons_of_neg (by simpa using hx),List.filter_cons_of_pos (by simpa using hx)];simp only [List.length_cons];omega
  exact h2 L
theorem IsSplit.sum {p:Nat→Nat} {L:List Nat} {gs:List (List Nat)} (h:IsSplit p L gs):(gs.map List.length).sum=L.length:=by
 obtain ⟨hs,h1,h2,rfl⟩:=h;exact sum_filter hs (h1.imp fun h=>by omega) L fun x hx=>(h2 _).2 ⟨x,hx,rfl⟩
theorem planG_le {sub:List Nat→Nat→List AskD} : ∀ (gs:List (List Nat)) (t:Nat),(∀ g∈gs,∀ t,(sub g t).length+1≤g.length)→(planG sub gs t).1.length+gs.length≤(gs.map List.length).sum
 | [],_,_=>by simp [planG]
 | g :: gs,t,h=>by
  have h1:=planG_le gs (t+(sub g t).length) fun g hg=>h g (List.mem_cons_of_mem _ hg);have h2:=h g (by simp) t;simp only [planG,List.length_append,List.length_cons,List.map_cons,List.sum_cons];omega
theorem plan_len (l:List (List Val)) (N:Nat) (v:Nat→Nat→Val):∀ (f:Nat) (L:List Nat) (t:Nat),L.length≤f→L≠[]→(plan (spl l) N v L t).length+1≤L.length
 | 0,L,_,h,hne=>absurd (List.eq_nil_of_length_eq_zero (by omega)) hne
 | f+1,L,t,h,hne=>by
  have hL:=List.length_pos_iff.2 hne;rw [plan_eq (spl_small l)];by_cases h0:dep (spl l) N L=0
  ·rw [if_pos h0]; show 0+1≤L.length; omega
  ·rw [if_neg h0,List.length_cons];have h2:=two_parts (spl_small l) h0;have his:=spl_is l (inpF (spl l) N L) L;have:=planG_le (sub:=plan (spl l) N v) (spl l (inpF (spl l) N L) L) (t+1) fun g hg t=>plan_len l N v f g t (by have:=his.small h2 g hg; omega) (his.sub g hg).1;rw [his.sum] at this;omega
def Old (base bP bm b:Nat):Prop:=b<base∧b≠bm∧b≠bP
structure PS (w:World) (bP bm:Nat) (l:List (List Val)) (base:Nat) (Xs:Nat→Prop) (d:Nat) (A:Option Addr) (c:Nat) (X:List AskD):Prop where
 blk:∃ (AA:Option Addr) (ac:Nat) (PA:Option Addr) (pc:Nat),Blk w bP 93 #[.slice AA l.length ac,.slice PA (inpS l) pc,.map (some bm),.slice A X.length c]∧Rows w (Old base bP bm) d AA l∧(NN w (Old base bP bm) PA ((List.range (inpS l)).map (placesS l))∧l.length≤ac)
 own:OwnAU w base Xs d A c X
 xs:∀ b,Xs b→base≤b
 ne:bP≠bm
 lt:bP<base∧bm<base∧base≤w.heap.size
 map:∃ M,MapIs w bm encN M∧Cons (spl l) (inpS l) l.length M
section
variable {w w':World} {bP bm base d c:Nat} {l:List (List Val)} {A:Option Addr} {X:List AskD} {Xs Xs2:Nat→Prop}
theorem PS.pd (h:PS w bP bm l base Xs d A c X):PD w bP bm l:=by
 obtain ⟨AA,ac,PA,pc,h1,h2,h3⟩:=h.blk;exact ⟨⟨PA,pc,h1.cell (i:=1) rfl,h3.1.mono fun b _ hb=>hb.2.1⟩,h1.cell (i:=2) rfl,h.ne,h1.lt,h.map⟩
theorem OwnAs.keep {X':Nat→Prop} {l:List AskD} (h:OwnAs w base X' d A c l) (hk:Kept (fun b=>ob A=some b∨X' b) w w'):OwnAs w' base X' d A c l:=by
 obtain ⟨xs,h1,h2⟩:=h;exact ⟨xs,Own.keep h1 (hk.mono fun _ _ e=>.inl e),h2.imp fun _ _ hh=>hh.keep (hk.mono fun _ _ e=>.inr e.2)⟩
theorem PS.but (h:PS w bP bm l base Xs d A c X) (k:ButS (fun b=>b=bm) w w') (hm:∃ M,MapIs w' bm encN M∧Cons (spl l) (inpS l) l.length M):PS w' bP bm l base Xs d A c X:=by
 obtain ⟨AA,ac,PA,pc,h1,h2,h3⟩:=h.blk;have hl:=h.lt;refine ⟨⟨AA,ac,PA,pc,k.blk h1 h.ne,h2.keep (k.kept fun b _ e=>e.2.1),⟨h3.1.keep (k.kept fun b _ e=>e.2.1),h3.2⟩⟩,h.own.keep (k.kept fun b _ e => ?_),h.xs,h.ne,⟨hl.1,hl.2.1,Nat.le_trans hl.2.2 k.size⟩,hm⟩
 rcases e with e | e
 ·have:=(h.own.blk e).1; omega
 ·have:=h.xs b e; omega
theorem PS.wide (h:PS w bP bm l base Xs d A c X) (hx:∀ b,b<w.heap.size→Xs b→Xs2 b) (h2:∀ b,Xs2 b→base≤b):PS w bP bm l base Xs2 d A c X:=⟨h.blk,h.own.mono hx,h2,h.ne,h.lt,h.map⟩
theorem PS.other {S:Nat→Prop} (h:PS w bP bm l base Xs d A c X) (k:ButS S w w') (hS:∀ b,S b→base≤b∧ob A≠some b∧¬ Xs b):PS w' bP bm l base Xs d A c X:=by
 obtain ⟨AA,ac,PA,pc,h1,h2,h3⟩:=h.blk;obtain ⟨M,hM,hC⟩:=h.map;have hl:=h.lt;have ho:∀ b,b<base→¬ S b:=fun b hb e=>by have:=(hS b e).1; omega
 refine ⟨⟨AA,ac,PA,pc,k.blk h1 (ho bP hl.1),h2.keep (k.kept fun b _ e=>ho b e.1),⟨h3.1.keep (k.kept fun b _ e=>ho b e.1),h3.2⟩⟩,h.own.keep (k.kept fun b _ e f => ?_),h.xs,h.ne,⟨hl.1,hl.2.1,Nat.le_trans hl.2.2 k.size⟩,⟨M,hM.keep (k.kept fun b _ e=>by rw [e]; exact ho bm hl.2.1),hC⟩⟩
 rcases e with e | e
 ·exact (hS b f).2.1 e
 ·exact (hS b f).2.2 e
theorem PS.ext (h:PS w bP bm l base Xs d A c X) (k:Ext w w'):PS w' bP bm l base Xs d A c X:=by
 obtain ⟨M,hm,hc⟩:=h.map;exact h.but (ButS.of_ext k) ⟨M,hm.keep (k.kept _),hc⟩
theorem PS.new {A2:Option Addr} {c2:Nat} {X2:List AskD} {wq:World} (h:PS w bP bm l base Xs d A c X) (k:Kept (Old base bP bm) w wq) (hs:∀ (AA:Option Addr) (ac:Nat) (PA:Option Addr) (pc:Nat),Blk w bP 93 #[.slice AA l.length ac,.slice PA (inpS l) pc,.map (some bm),.slice A X.length c]→Blk wq bP 93 #[.slice AA l.length ac,.slice PA (inpS l) pc,.map (some bm),.slice A2 X2.length c2])
  (ho:OwnAU wq base Xs2 d A2 c2 X2) (hxs:∀ b,Xs2 b→base≤b) (hm:∃ M,MapIs wq bm encN M∧Cons (spl l) (inpS l) l.length M) (hb:base≤wq.heap.size):PS wq bP bm l base Xs2 d A2 c2 X2:=by
 obtain ⟨AA,ac,PA,pc,h1,h2,h3⟩:=h.blk;exact ⟨⟨AA,ac,PA,pc,hs AA ac PA pc h1,h2.keep k,⟨h3.1.keep k,h3.2⟩⟩,ho,hxs,h.ne,⟨h.lt.1,h.lt.2.1,hb⟩,hm⟩
end
def AskS (bP bm:Nat) (A:Option Addr) (b:Nat):Prop:=b=bm∨b=bP∨ob A=some b
def RetAsk (w:World) (bP bm:Nat) (l:List (List Val)) (base:Nat) (Xs:Nat→Prop) (d:Nat) (A:Option Addr) (X:List AskD) (L:List Nat) (e:Ending) (w':World):Prop :=
 ∃ (A':Option Addr) (c':Nat),e=.returned (.int .i64 (if dep (spl l) (inpS l) L=0 then -1 else (X.length:Int)))∧ButS (AskS bP bm A) w w'∧PS w' bP bm l base (fun b=>Xs b∨w.heap.size≤b) d A' c' (X++plan (spl l) (inpS l) (ans l) L X.length)∧∀ b,ob A'=some b→ob A=some b∨w.heap.size≤b
def PAsk (f:Nat):Prop:=∀ (l:List (List Val)) (bP bm base:Nat) (Xs:Nat→Prop) (d:Nat) (L:List Nat) (AL:Option Addr) (lc:Nat) (A:Option Addr) (c:Nat) (X:List AskD) (w:World),L.length≤f→l.length<20→Wide l (inpS l)→PS w bP bm l base Xs d A c X→Inc l.length L→(L=[]→inpS l=0)→Nums w (fun b=>¬ AskS bP bm A b) AL L→X.length+L.length≤1000 →
 Calls Tryz.prog 54 #[.pointer (some ⟨bP,0,none⟩),.slice AL L.length lc] w (RetAsk w bP bm l base Xs d A X L)
theorem AL.set {R:AskD→List Value→Prop} {xs:List Value} {l:List AskD} {p:Nat} {y:AskD} {c0 c1 c2:Value} (h:AL R xs l) (hp:p<l.length) (h0:xs[p*3]?=some c0) (hy:R y [c0,c1,c2]):AL R ((xs.set (p*3+1) c1).set (p*3+2) c2) (l.set p y):=by
 refine ⟨by simp [h.1],fun j z hj => ?_⟩;have hx:=h.1;by_cases e:p=j
 ·subst e;rw [List.getElem?_set_self hp] at hj;obtain rfl:=Option.some.inj hj;have:((((xs.set (p*3+1) c1).set (p*3+2) c2).drop (p*3)).take 3)=[c0,c1,c2]:=by
   apply List.ext_getElem?;intro i;rw [List.getElem?_take,List.getElem?_drop]
   match i with
   | 0=>rw [if_pos (by omega),List.getElem?_set_ne (by omega),List.getElem?_set_ne (by omega)]; exact h0
   | 1=>rw [if_pos (by omega),List.getElem?_set_ne (by omega),List.getElem?_set_self (by omega)]; rfl
   | 2=>rw [if_pos (by omega),List.getElem?_set_self (by simp; omega)]; rfl
   | i+3=>rw [if_neg (by omega)]; rfl
  rw [this];exact hy
 ·rw [List.getElem?_set_ne e] at hj;have hz:=h.2 j z hj;have:((((xs.set (p*3+1) c1).set (p*3+2) c2).drop (j*3)).take 3)=(xs.drop (j*3)).take 3:=by
   apply List.ext_getElem?;intro i;rw [List.getElem?_take,List.getElem?_drop,List.getElem?_take,List.getElem?_drop];split
   ·rw [List.getElem?_set_ne (by omega),List.getElem?_set_ne (by omega)]
   ·rfl
  rw [this];exact hz
end Go.Proofs.YtomdpipekmcojaaGreatDoor
