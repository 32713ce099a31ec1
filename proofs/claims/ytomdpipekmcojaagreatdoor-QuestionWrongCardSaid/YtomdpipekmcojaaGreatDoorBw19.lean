/- The law QuestionLeast: no plan with a horizon that is one less than the depth; the depth lies between the lower bound and the number of programs less 1. Conditions: the numbers read as data. -/
import Derived.Test.YtomdpipekmcojaaGreatDoorBw18
namespace Go.Proofs.YtomdpipekmcojaaGreatDoor
open Go Go.RowKit

theorem II.take {w:World} {S:Nat→Prop} {A:Option Addr} {l:List (List Int)} (h:II w S A l) (k:Nat):II w S A (l.take k):=by
 obtain ⟨h0,hs,h1,h2,h3⟩:=h;refine ⟨by rw [List.length_take]; omega,hs.take k,h1.take k,by simp [h2],fun i g hg => ?_⟩;have hik:i<k:=by
  rcases Nat.lt_or_ge i k with h | h
  ·exact h
  ·rw [List.getElem?_take,if_neg (by omega)] at hg; cases hg
 rw [List.getElem?_take,if_pos hik] at hg;obtain ⟨B,e,h4,h5,h6⟩:=h3 i g hg;exact ⟨B,e,by rw [List.getElem?_take,if_pos hik]; exact h4,h5,h6⟩
/- Groups and useful inputs of the reference are those of the program. No conditions. -/

def groupsR (l:List (List Val)) (al:List Int) (i:Int):List (List Nat):=if rightA l=false∨i<0∨(inpS l:Int)≤i then [] else splR l i.toNat (aliveS l.length al)
def usefulR (l:List (List Val)):List Nat:=(List.range (inpS l)).filter fun m=>decide (1<(groupsR l (nums (List.range l.length)) (m:Int)).length)
section
variable {L:List (List Val)}
theorem alive_lt {n:Nat} {al:List Int} : ∀ x∈aliveS n al,x<n:=by
 intro x hx;exact List.mem_range.1 (List.mem_filter.1 hx).1
theorem alive_len (n:Nat) (al:List Int):(aliveS n al).length≤n:=by
 have h:(aliveS n al).length≤(List.range n).length:=List.length_filter_le _ _;rwa [List.length_range] at h
theorem alive_all (n:Nat):aliveS n (nums (List.range n))=List.range n:=by
 unfold aliveS;rw [List.filter_eq_self];intro p hp;rw [decide_eq_true_eq];exact (show ((p:Nat):Int)∈(List.range n).map (fun d:Nat=>(d:Int)) from List.mem_map.2 ⟨p,hp,rfl⟩)
theorem groups_eq (hT:Tri L) (al:List Int) (i:Int):groupsR L al i=groupsS L al i:=by
 unfold groupsR groupsS;by_cases h:rightA L=false∨i<0∨(inpS L:Int)≤i
 ·rw [if_pos h,if_pos h]
 ·rw [if_neg h,if_neg h];have hR:rightA L=true:=by
   cases hr:rightA L
   ·exact absurd (.inl hr) h
   ·rfl
  exact splR_eq hT (rightA_wide hR) (by omega) alive_lt
theorem div_iff (hT:Tri L) (hR:rightA L=true) {m:Nat} (hm:m<inpS L):1<(spl L m (allP L)).length↔divB L m L.length=true:=by
 have hN:=rightA_wide hR;have ho:=(places_ord hT hN hm).2;have h1:=(spl_is L m (allP L)).one;constructor
 ·intro h;apply Decidable.byContradiction;intro hd;have:(spl L m (allP L)).length<2:=by
   rw [h1];have key:∀ p,p<L.length→ans L m p=ans L m 0:=by
    intro p hp;apply Decidable.byContradiction;intro hne;exact hd (List.any_eq_true.2 ⟨p,List.mem_range.2 hp,by simpa using hne⟩)
   intro x hx y hy;have hx':x<L.length:=(by simpa [allP] using hx);have hy':y<L.length:=(by simpa [allP] using hy);exact (ho x hx' y hy').2.1 (by simp only [eqA,decide_eq_true_eq]; rw [key x hx',key y hy'])
  omega
 ·intro h;obtain ⟨p,hp,hne⟩:=List.any_eq_true.1 h;have hp':=List.mem_range.1 hp
  rcases Nat.lt_or_ge 1 (spl L m (allP L)).length with h2 | h2
  ·exact h2
  ·have:=(ho p hp' 0 (by omega)).2.2 (h1.1 (by omega) p (by simpa [allP] using hp') 0 (by simp [allP]; omega));simp [eqA] at this;simp [this] at hne
theorem useful_eq (hT:Tri L):usefulR L=usefulS L:=by
 unfold usefulR usefulS;cases hR:rightA L
 ·simp only [Bool.false_eq_true,if_false];rw [List.filter_eq_nil_iff];intro m _;rw [groupsR,if_pos (.inl hR)];simp
 ·rw [if_pos rfl];refine List.filter_congr fun m hm => ?_;have hm':=List.mem_range.1 hm;rw [groups_eq hT,groupsS,if_neg (by rw [hR]; simp; omega),Int.toNat_natCast,alive_all];have:=div_iff hT hR hm';unfold allP at this;cases h:divB L m L.length
  ·rw [h] at this;rw [decide_eq_false_iff_not,this];simp
  ·rw [decide_eq_true_eq,this,h]
end
/- The reference's depths, first inputs and lower bound are those of the program. No conditions. -/

def minP (a d:Nat):Nat:=if 0<d then min a d else a
theorem minP_fold {f:Nat→Nat} : ∀ (l:List Nat) (a:Nat),(l.foldl (fun a m=>minP a (f m)) a=a∨∃ m∈l,0<f m∧f m=l.foldl (fun a m=>minP a (f m)) a)∧l.foldl (fun a m=>minP a (f m)) a≤a∧∀ m∈l,0<f m→l.foldl (fun a m=>minP a (f m)) a≤f m
 | [],a=>⟨.inl rfl,Nat.le_refl _,by simp⟩
 | x :: l,a=>by
  obtain ⟨h1,h2,h3⟩:=minP_fold (f:=f) l (minP a (f x));rw [List.foldl_cons];have hl:minP a (f x)=a∨(0<f x∧minP a (f x)=f x):=(by unfold minP; split <;> omega);have hp:minP a (f x)≤a:=(by unfold minP; split <;> omega);have hq:0<f x→minP a (f x)≤f x:=(by intro h; unfold minP; rw [if_pos h]; omega);refine ⟨?_,by omega,fun m hm h => ?_⟩
  ·rcases h1 with h1 | ⟨m,hm,h0,h1⟩
   ·rcases hl with hl | hl
    ·left; rw [h1,hl]
    ·right; exact ⟨x,by simp,hl.1,by rw [h1,hl.2]⟩
   ·exact .inr ⟨m,by simp [hm],h0,h1⟩
  ·rcases List.mem_cons.1 hm with rfl | hm
   ·have:=hq h; omega
   ·exact h3 m hm h
theorem dep_min {sp:Nat→List Nat→List (List Nat)} (hs:Small sp) (N:Nat) (L:List Nat) (h:dep sp N L≠0) (hL:L.length≤100):(List.range N).foldl (fun a m=>minP a (dW sp (dep sp N) m L)) 100=dep sp N L:=by
 obtain ⟨m,hm,hd⟩:=dep_at hs N L h;have hlen:=dep_len hs N L;obtain ⟨h1,h2,h3⟩:=minP_fold (f:=fun m=>dW sp (dep sp N) m L) (List.range N) 100;have h4:=h3 m (List.mem_range.2 hm) (by omega)
 rcases h1 with h1 | ⟨k,hk,h0,h1⟩
 ·omega
 ·have:=(dep_le hs N L (List.mem_range.1 hk) h0).2;omega
def alkR (l:List (List Val)) (L:List Nat):Bool:=(L.drop 1).all fun y=>decide (l.getD (L.headD 0) []=l.getD y [])
section
variable {l:List (List Val)}
theorem row_rk (hT:Tri l) (hN:Wide l (inpS l)) {x y:Nat} (hx:x<l.length) (hy:y<l.length):l.getD x []=l.getD y []↔∀ m,m<inpS l→rk l m x=rk l m y:=by
 constructor
 ·intro h m hm;refine ((places_ord hT hN hm).2 x hx y hy).2.1 ?_;have e:ans l m x=ans l m y:=(by unfold ans; rw [h])
  simpa [eqA] using e
 ·intro h;have gx:l.getD x []=l[x]:=getD_of _ _ _ hx;have gy:l.getD y []=l[y]:=getD_of _ _ _ hy;have lx:l[x].length=inpS l:=hN _ (List.getElem_mem hx);have ly:l[y].length=inpS l:=hN _ (List.getElem_mem hy);rw [gx,gy];refine List.ext_getElem (by omega) fun m hm1 hm2 => ?_;have:=((places_ord hT hN (m:=m) (by omega)).2 x hx y hy).2.2 (h m (by omega));simp only [eqA,decide_eq_true_eq] at this;rwa [ans_of hx hm1,ans_of hy hm2] at this
theorem alk_dep (hT:Tri l) (hN:Wide l (inpS l)) {L:List Nat} (hL:∀ x∈L,x<l.length):alkR l L=decide (dep (spl l) (inpS l) L=0):=by
 have h0:=dep_zero (spl_small l) (inpS l) L;rw [Bool.eq_iff_iff,decide_eq_true_eq,h0];unfold alkR;rw [List.all_eq_true];constructor
 ·intro h m hm;rw [(spl_is l m L).one];have key:∀ x∈L,rk l m (L.headD 0)=rk l m x:=by
   match L,hL,h with
   | [],_,_=>intro x hx; cases hx
   | a :: L,hL,h =>
    intro x hx
    rcases List.mem_cons.1 hx with rfl | hx
    ·rfl
    ·have h1:=h x (by simpa using hx);rw [decide_eq_true_eq,show (a :: L).headD 0=a from rfl,row_rk hT hN (hL a (by simp)) (hL x (by simp [hx]))] at h1;exact h1 m hm
  intro x hx y hy;rw [← key x hx,← key y hy]
 ·intro h y hy
  match L,hL,h,hy with
  | [],_,_,hy=>cases hy
  | a :: L,hL,h,hy =>
   have hy':y∈L:=(by simpa using hy);rw [decide_eq_true_eq];refine (row_rk hT hN (hL a (by simp)) (hL y (by simp [hy']))).2 fun m hm => ?_;exact ((spl_is l m (a :: L)).one.1 (h m hm)) a (by simp) y (by simp [hy'])
end
/- The reference's lower bound is that of the program: plain facts. No conditions. -/

theorem plc_near {eq:Nat→Nat→Bool} : ∀ (s:List Nat) (p t:Nat) (acc:List Nat),(p :: s).Nodup→(∀ x∈p :: s,x<acc.length)→acc.getD p 0=t →
  (plc eq (some p) t s acc).getD p 0=t∧∀ x∈s,(plc eq (some p) t s acc).getD x 0=t∨∃ y∈p :: s,(plc eq (some p) t s acc).getD y 0+1=(plc eq (some p) t s acc).getD x 0
 | [],p,t,acc,_,_,hp=>⟨hp,by simp⟩
 | x :: s,p,t,acc,hn,hlt,hp=>by
  have hn':=List.nodup_cons.1 hn;have hpx:p≠x:=fun e=>hn'.1 (by rw [e]; simp);have hps:p ∉ s:=fun h=>hn'.1 (by simp [h]);obtain ⟨t',ht'⟩:∃ t',t'=if eq p x=true then t else t+1:=⟨_,rfl⟩;have hplc:plc eq (some p) t (x :: s) acc=plc eq (some x) t' s (acc.set x t'):=(by rw [ht']; rfl);have hxl:x<acc.length:=hlt x (by simp);obtain ⟨i1,i2⟩:=plc_near (eq:=eq) s x t' (acc.set x t') hn'.2 (fun y hy=>by rw [List.length_set]; exact hlt y (List.mem_cons_of_mem _ hy)) (by rw [List.getD_eq_getElem?_getD,List.getElem?_set_self hxl]; rfl);have hpp:(plc eq (some x) t' s (acc.set x t')).getD p 0=t:=by
   rw [plc_keep s (some x) t' (acc.set x t') p hps,List.getD_eq_getElem?_getD,List.getElem?_set_ne (fun e=>hpx e.symm),← List.getD_eq_getElem?_getD,hp]
  rw [hplc];have hx0:t'=t∨t'=t+1:=(by rw [ht']; split <;> simp);refine ⟨hpp,fun y hy => ?_⟩;have hself:∀ v,v=t'→v=t∨∃ y∈p :: x :: s,(plc eq (some x) t' s (acc.set x t')).getD y 0+1=v:=by
   intro v hv
   rcases hx0 with h | h
   ·left; omega
   ·right; exact ⟨p,by simp,by rw [hpp]; omega⟩
  rcases List.mem_cons.1 hy with rfl | hy
  ·exact hself _ i1
  ·rcases i2 y hy with h | ⟨z,hz,h⟩
   ·exact hself _ h
   ·exact .inr ⟨z,List.mem_cons_of_mem _ hz,h⟩
where
 plc_keep {eq:Nat→Nat→Bool} : ∀ (s:List Nat) (p:Option Nat) (t:Nat) (acc:List Nat) (z:Nat),z ∉ s→(plc eq p t s acc).getD z 0=acc.getD z 0
  | [],p,_,_,_,_=>by cases p <;> rfl
  | x :: s,none,t,acc,z,h=>by
   have hx:x≠z:=fun e=>h (by rw [e]; simp);show (plc eq (some x) t s (acc.set x t)).getD z 0=_;rw [plc_keep s _ _ _ z fun hh=>h (by simp [hh]),List.getD_eq_getElem?_getD,List.getElem?_set_ne hx,← List.getD_eq_getElem?_getD]
  | x :: s,some p,t,acc,z,h=>by
   have hx:x≠z:=fun e=>h (by rw [e]; simp);show (plc eq (some x) _ s (acc.set x _)).getD z 0=_;rw [plc_keep s _ _ _ z fun hh=>h (by simp [hh]),List.getD_eq_getElem?_getD,List.getElem?_set_ne hx,← List.getD_eq_getElem?_getD]
section
variable {l:List (List Val)}
theorem places_near (l:List (List Val)) (m:Nat):∀ x,x<l.length→rk l m x=0∨∃ y,y<l.length∧rk l m y+1=rk l m x:=by
 intro x hx;have hperm:=sortG_perm (lt:=ltA l m) (List.range l.length);obtain ⟨s,hs⟩:∃ s,s=srtA l m:=⟨_,rfl⟩;have hs2:sortG (ltA l m) (List.range l.length)=s:=(by rw [hs]; rfl);rw [hs2] at hperm;have hnd:s.Nodup:=hperm.nodup_iff.2 List.nodup_range;have hmem:∀ x,x∈s↔x<l.length:=fun x=>by rw [hperm.mem_iff,List.mem_range]
 unfold rk placesS;rw [← hs];cases s with
 | nil=>have:=(hmem x).2 hx; cases this
 | cons p s =>
  have hpl:p<l.length:=(hmem p).1 (by simp);have hstep:plc (eqA l m) none 0 (p :: s) (List.replicate l.length 0)=plc (eqA l m) (some p) 0 s ((List.replicate l.length 0).set p 0):=rfl;obtain ⟨i1,i2⟩:=plc_near (eq:=eqA l m) s p 0 ((List.replicate l.length 0).set p 0) hnd (fun x hx=>by simpa using (hmem x).1 hx) (by rw [List.getD_eq_getElem?_getD,List.getElem?_set_self (by simpa using hpl)]; rfl);rw [hstep]
  rcases List.mem_cons.1 ((hmem x).2 hx) with rfl | h
  ·exact .inl i1
  ·rcases i2 x h with h | ⟨y,hy,h⟩
   ·exact .inl h
   ·exact .inr ⟨y,(hmem y).1 hy,h⟩
theorem places_down (l:List (List Val)) (m:Nat):∀ (v x:Nat),x<l.length→rk l m x=v→∀ u,u≤v→∃ y,y<l.length∧rk l m y=u
 | 0,x,hx,h,u,hu=>⟨x,hx,by omega⟩
 | v+1,x,hx,h,u,hu=>by
  rcases Nat.lt_or_ge v u with hlt | hge
  ·exact ⟨x,hx,by omega⟩
  ·rcases places_near l m x hx with h0 | ⟨y,hy,h1⟩
   ·omega
   ·exact places_down l m v y hy (by omega) u hge
theorem maxN_mem:∀ {l:List Nat},l≠[]→maxN l∈l:=by
 intro l;refine snoc_indG (P:=fun l=>l≠[]→maxN l∈l) (fun h=>absurd rfl h) (fun l x ih _ => ?_) l;have e:maxN (l++[x])=max (maxN l) x:=(by simp [maxN,List.foldl_append]);rw [e];by_cases hl:l=[]
 ·subst hl;show max (maxN []) x∈_;simp [maxN]
 ·have:=ih hl
  rcases Nat.le_total (maxN l) x with h | h
  ·rw [Nat.max_eq_right h]; simp
  ·rw [Nat.max_eq_left h]; simp [this]
theorem spl_wide (l:List (List Val)) (m:Nat) (h:l≠[]):(spl l m (allP l)).length=maxN (placesS l m)+1:=by
 obtain ⟨hs,h1,h2,h3⟩:=spl_is l m (allP l);have hlen:=placesS_len l m;have hpos:0<l.length:=List.length_pos_iff.2 h;have hne:placesS l m≠[]:=(by intro e; rw [e] at hlen; simp at hlen; omega);have hmx:=maxN_mem hne;obtain ⟨x,hx,hxe⟩:=List.mem_iff_getElem.1 hmx;have hx':x<l.length:=(by omega);have hxr:rk l m x=maxN (placesS l m):=(by unfold rk; rw [getD_of _ _ _ hx]; exact hxe);have e:hs=List.range (maxN (placesS l m)+1):=by
  refine sorted_ext h1 List.pairwise_lt_range fun v => ?_;rw [h2,List.mem_range];constructor
  ·rintro ⟨y,hy,rfl⟩;have hy':y<l.length:=(by simpa [allP] using hy);have:rk l m y≤maxN (placesS l m):=(by unfold rk; rw [getD_of _ _ _ (by omega)]; exact maxN_ge _ (List.getElem_mem _));omega
  ·intro hv;obtain ⟨y,hy,hyv⟩:=places_down l m _ x hx' hxr v (by omega);exact ⟨y,by simpa [allP] using hy,hyv⟩
 rw [h3,List.length_map,e,List.length_range]
theorem inp_ne {l:List (List Val)} {m:Nat} (h:m<inpS l):l≠[]:=by
 intro e;rw [e] at h;simp [inpS] at h
theorem widest_ref (l:List (List Val)):(List.range (inpS l)).foldl (fun a m=>max a (spl l m (allP l)).length) 1=max 1 (widest l):=by
 have key:∀ (R:List Nat) (a:Nat),(∀ m∈R,m<inpS l)→R.foldl (fun a m=>max a (spl l m (allP l)).length) (max 1 a)=max 1 (R.foldl (fun a m=>max a (maxN (placesS l m)+1)) a):=by
  intro R
  induction R with
  | nil=>intro a _; rfl
  | cons m R ih =>
   intro a h;rw [List.foldl_cons,List.foldl_cons,spl_wide l m (inp_ne (h m (by simp))),Nat.max_assoc];exact ih _ fun m hm=>h m (by simp [hm])
 exact key _ 0 fun m hm=>List.mem_range.1 hm
def kindsR (l:List (List Val)):Nat→List Nat
 | 0=>[]
 | p+1=>if ((kindsR l p).any fun κ=>alkR l [κ,p])=true then kindsR l p else kindsR l p++[p]
theorem alkR_two (κ p:Nat):alkR l [κ,p]=decide (l.getD κ []=l.getD p []):=by simp [alkR]
theorem alike_row (hT:Tri l) (hN:Wide l (inpS l)) {a b:Nat} (ha:a<l.length) (hb:b<l.length):alikeB l a b=decide (l.getD a []=l.getD b []):=by
 rw [Bool.eq_iff_iff,decide_eq_true_eq,row_rk hT hN ha hb];unfold alikeB;rw [Bool.not_eq_true',List.any_eq_false];constructor
 ·intro h m hm;have:=h (placesS l m) (List.mem_map.2 ⟨m,List.mem_range.2 hm,rfl⟩);unfold rk
  simpa [diffB] using this
 ·intro h P hP;obtain ⟨m,hm,rfl⟩:=List.mem_map.1 hP;have:=h m (List.mem_range.1 hm);unfold rk at this;simp [diffB];exact this
theorem kinds_of (hT:Tri l) (hN:Wide l (inpS l)):∀ p,p≤l.length→(kindsR l p).length=diffs l p∧(∀ κ∈kindsR l p,κ<p)∧∀ o,o<p→∃ κ∈kindsR l p,l.getD κ []=l.getD o []
 | 0,_=>⟨rfl,by simp [kindsR],fun o ho=>by omega⟩
 | p+1,hp=>by
  obtain ⟨i1,i2,i3⟩:=kinds_of hT hN p (by omega);have key:((kindsR l p).any fun κ=>alkR l [κ,p])=((List.range p).any fun o=>alikeB l o p):=by
   rw [Bool.eq_iff_iff,List.any_eq_true,List.any_eq_true];constructor
   ·rintro ⟨κ,hκ,h⟩;have:=i2 κ hκ;exact ⟨κ,List.mem_range.2 this,by rw [alike_row hT hN (by omega) (by omega)]; rwa [alkR_two] at h⟩
   ·rintro ⟨o,ho,h⟩;have ho':=List.mem_range.1 ho;obtain ⟨κ,hκ,he⟩:=i3 o ho';refine ⟨κ,hκ,?_⟩;rw [alike_row hT hN (by omega) (by omega),decide_eq_true_eq] at h;rw [alkR_two,decide_eq_true_eq,he,h]
  rw [diffs_succ,← key,show kindsR l (p+1)=if ((kindsR l p).any fun κ=>alkR l [κ,p])=true then kindsR l p else kindsR l p++[p] from rfl];by_cases h:((kindsR l p).any fun κ=>alkR l [κ,p])=true
  ·rw [if_pos h,if_pos h];refine ⟨i1,fun κ hκ=>by have:=i2 κ hκ; omega,fun o ho => ?_⟩
   rcases Nat.lt_or_ge o p with ho' | ho'
   ·exact i3 o ho'
   ·obtain rfl:o=p:=by omega
    obtain ⟨κ,hκ,he⟩:=List.any_eq_true.1 h;exact ⟨κ,hκ,by rwa [alkR_two,decide_eq_true_eq] at he⟩
  ·rw [if_neg h,if_neg h];refine ⟨by rw [List.length_append,i1]; rfl,fun κ hκ => ?_,fun o ho => ?_⟩
   ·rcases List.mem_append.1 hκ with hκ | hκ
    ·have:=i2 κ hκ; omega
    ·rw [List.mem_singleton.1 hκ]; omega
   ·rcases Nat.lt_or_ge o p with ho' | ho'
    ·obtain ⟨κ,hκ,he⟩:=i3 o ho';exact ⟨κ,by simp [hκ],he⟩
    ·obtain rfl:o=p:=by omega
     exact ⟨o,by simp,rfl⟩
theorem lowG_one (wd df:Nat) (h:df≤1):∀ (f:Nat) (n:Nat),lowG wd df f 1 n=n
 | 0,n=>rfl
 | f+1,n=>by unfold lowG; rw [if_neg (by omega)]
theorem low_ref (l:List (List Val)):lowG (max 1 (widest l)) (diffs l l.length) (diffs l l.length) 1 0=lowF l:=by
 unfold lowF
 rcases Nat.lt_or_ge (diffs l l.length) 2 with h | h
 ·rw [lowG_one _ _ (by omega),lowG_one _ _ (by omega)]
 ·have:=diffs_two l l.length (Nat.le_refl _) h;rw [Nat.max_eq_right (by omega)]
end
/- The reference's Alike. Conditions: the arguments read as data; the programs are there. -/

theorem alk_no {l:List (List Val)} {L:List Nat} {y:Nat} (hy:y∈L.drop 1) (h:l.getD (L.headD 0) []≠l.getD y []):alkR l L=false:=by
 unfold alkR;rw [Bool.eq_false_iff];intro ha;have:=List.all_eq_true.1 ha y hy;rw [decide_eq_true_eq] at this;exact h this
set_option maxRecDepth 100000 in
set_option maxHeartbeats 2000000 in
theorem r25_Alike (d:Nat) (l:List (List Val)) (A:Option Addr) (c:Nat) (L:List Nat) (B:Option Addr) (e:Nat) (w:World) (S T:Nat→Prop) (hr:Rows w S d A l) (hn:Nums w T B L) (hL:∀ x∈L,x<l.length) (hLl:L.length≤1000) :
  Calls Tryz.prog 32 #[.slice A l.length c,.slice B L.length e] w (RetB w (alkR l L)):=by
 obtain ⟨nl,enl⟩:∃ n,n=l.length:=⟨_,rfl⟩;obtain ⟨n,en⟩:∃ n,n=L.length:=⟨_,rfl⟩;have HNL:=Hd enl;have HNN:=Hd en;have hll:=hr.len;have HR0:=Hd hr;have HLN:=Hd hn;have HLM:=Hd hL;rw [← enl] at hll ⊢;rw [← en] at hLl ⊢;clear hr hn hL enl en
 go_enter Tryz.func32,Tryz.ntmps32
 go_wp2
 go_loopw [5,6] (fun i _u wr=>∃ k:Nat,1≤k∧(1<k→k≤n)∧i=.int .i64 (k:Int)∧((L.take k).drop 1).all (fun y=>decide (l.getD (L.headD 0) []=l.getD y []))=true∧Ext w wr) (fun i _ _=>n-(intOf i).toNat)
 case atStart =>
  refine ⟨1,Nat.le_refl _,fun h=>absurd h (by omega),rfl,?_,Ext.refl _⟩;cases L <;> simp
 case round =>
  obtain ⟨k,hk1,hkn,rfl,hall,hx⟩:=hrel;obtain ⟨ws,rfl⟩:∃ ws:World,ws=wr:=⟨_,rfl⟩;have HX:=Hd hx;have HALL:=Hd hall;clear hx hall;by_cases hlt:k<n
  ·have hkL:k<L.length:=(by rw [← HNN.o]; exact hlt);have h0L:0<L.length:=(by omega);obtain ⟨x,ex⟩:∃ x,x=L[0]:=⟨_,rfl⟩;obtain ⟨y,ey⟩:∃ y,y=L[k]:=⟨_,rfl⟩;have HHD:=Hd (show L.headD 0=x by
    cases L with
    | nil=>simp at h0L
    | cons a L=>rw [ex]; rfl)
   have HTK:=Hd (show (L.take (k+1)).drop 1=(L.take k).drop 1++[y] by
    rw [List.take_succ_eq_append_getElem hkL,← ey,List.drop_append_of_le_length (by rw [List.length_take]; omega)])
   have HYM:=Hd (show y∈L.drop 1 from List.mem_iff_getElem?.2 ⟨k-1,by rw [List.getElem?_drop,show 1+(k-1)=k by omega,List.getElem?_eq_getElem hkL,ey]⟩);have hxl:x<l.length:=(by rw [ex]; exact HLM.o _ (List.getElem_mem h0L));have hyl:y<l.length:=(by rw [ey]; exact HLM.o _ (List.getElem_mem hkL));obtain ⟨bB,oB,hB,zB,cB⟩:=(HLN.o.keep (HX.o.kept _)).at_ hkL;obtain ⟨bB2,oB2,hB2,zB2,c0⟩:=(HLN.o.keep (HX.o.kept _)).at_ h0L;rw [hB] at hB2;injection hB2 with hB2;injection hB2 with hb1 hb2;subst hB hb1 hb2;rw [← ey] at cB;rw [← ex,Nat.add_zero] at c0;have hrows:=HR0.o.keep (HX.o.kept S);obtain ⟨bA,oA,C1,e1,hA,zA,cX,-,hr1⟩:=hrows.at_ hxl;obtain ⟨bA2,oA2,C2,e2,hA2,zA2,cY,-,hr2⟩:=hrows.at_ hyl;rw [hA] at hA2;injection hA2 with hA2;injection hA2 with ha1 ha2;subst hA ha1 ha2;obtain ⟨rx,erx⟩:∃ r,r=l[x]:=⟨_,rfl⟩;obtain ⟨ry,ery⟩:∃ r,r=l[y]:=⟨_,rfl⟩;have HGX:=Hd (show l.getD x []=rx by rw [getD_of _ _ _ hxl,erx]);have HGY:=Hd (show l.getD y []=ry by rw [getD_of _ _ _ hyl,ery]);rw [← erx] at cX hr1;rw [← ery] at cY hr2;obtain ⟨bv,ebv⟩:∃ bv,bv=decide (rx=ry):=⟨_,rfl⟩;have HBV:=Hd ebv;have HSV:=Hd (show ∀ w':World,Ext ws w'→Calls Tryz.prog 34 #[.slice C1 rx.length e1,.slice C2 ry.length e2] w' (RetB w' bv) from fun w' hx=>by
    rw [ebv];exact r06_Same d (fun _=>r06_Equal (d-1)) C1 C2 e1 e2 rx ry w' S S (Row.keep hr1 (hx.kept _)) (Row.keep hr2 (hx.kept _)))
   obtain ⟨n1,en1⟩:∃ n1,n1=rx.length:=⟨_,rfl⟩;obtain ⟨n2,en2⟩:∃ n2,n2=ry.length:=⟨_,rfl⟩;rw [← en1] at cX HSV;rw [← en2] at cY HSV;have Q0:=Hd c0;have Q1:=Hd cB;have Q2:=Hd cX;have Q3:=Hd cY;have i0:(0:Int)≤(k:Int):=(by omega);have i1:(k:Int)<(n:Int):=(by omega);have i2:(0:Int)<(n:Int):=(by omega);have i3:(x:Int)<(nl:Int):=(by rw [HNL.o]; omega);have i4:(y:Int)<(nl:Int):=(by rw [HNL.o]; omega);have i5:(0:Int)≤(x:Int):=(by omega);have i6:(0:Int)≤(y:Int):=(by omega);have i7:0<n:=(by omega);have i8:x<nl:=(by rw [HNL.o]; exact hxl);have i9:y<nl:=(by rw [HNL.o]; exact hyl);clear hrows hr1 hr2 erx ery en1 en2 ex ey c0 cB cX cY ebv hkL h0L
   go_upto_region 4 with fail
   refine wp_region_chain (by kernel_rfl) (fun i=>[i]) (by kernel_rfl) (LZ (fun _ _=>False)) (LZ.refl _) (LZ.trans _) (LK []) gz0 (LK.zero _) ?_;apply Chain.pure (LZ.refl _) (by rfl)
   ·intro vals γ w' ρ hR hN hp hρ hc hf hg;refine ⟨rfl,?_⟩;have e0:=hρ 0;(conv at e0=>rhs; whnf);clear hR hN hp hρ;go_light;go_simp;exact ⟨rfl,rfl⟩
   ·rfl
   apply Chain.pure (LZ.refl _) (by rfl)
   ·intro vals γ w' ρ hR hN hp hρ hc hf hg;refine ⟨rfl,?_⟩;have e1:=hρ 1;(conv at e1=>rhs; whnf);clear hR hN hp hρ;go_light;go_simp;exact ⟨rfl,rfl⟩
   ·rfl
   apply Chain.pure (LZ.refl _) (by rfl)
   ·intro vals γ w' ρ hR hN hp hρ hc hf hg;refine ⟨rfl,?_⟩;have e14:ρ (.tmp 14)=_:=(hρ 14).trans (hp 1 (by decide));clear hR hN hp hρ;go_light;go_simp;exact ⟨rfl,rfl⟩
   ·rfl
   apply Chain.pure (LZ.refl _) (by rfl)
   ·intro vals γ w' ρ hR hN hp hρ hc hf hg;refine ⟨rfl,?_⟩;have e15:ρ (.tmp 15)=_:=(hρ 15).trans (hp 2 (by decide));have hxx:=hR.ext0 (fun _ _ _ h=>h.elim);have k0:=hxx.cell Q0.o;have k1:=hxx.cell Q1.o;have k2:=hxx.cell Q2.o;have k3:=hxx.cell Q3.o;clear hxx hR hN hp hρ;go_light;go_simp;exact ⟨rfl,rfl⟩
   ·rfl
   apply Chain.pure (LZ.refl _) (by rfl)
   ·intro vals γ w' ρ hR hN hp hρ hc hf hg;refine ⟨rfl,?_⟩;have e13:ρ (.tmp 13)=_:=(hρ 13).trans (hp 0 (by decide));have e16:ρ (.tmp 16)=_:=(hρ 16).trans (hp 3 (by decide));clear hR hN hp hρ;go_light;go_simp;exact ⟨rfl,rfl⟩
   ·rfl
   apply Chain.pure (LZ.refl _) (by rfl)
   ·intro vals γ w' ρ hR hN hp hρ hc hf hg;refine ⟨rfl,?_⟩;have e17:ρ (.tmp 17)=_:=(hρ 17).trans (hp 4 (by decide));have hxx:=hR.ext0 (fun _ _ _ h=>h.elim);have k0:=hxx.cell Q0.o;have k1:=hxx.cell Q1.o;have k2:=hxx.cell Q2.o;have k3:=hxx.cell Q3.o;clear hxx hR hN hp hρ;go_light;go_simp;exact ⟨rfl,rfl⟩
   ·rfl
   apply Chain.pure (LZ.refl _) (by rfl)
   ·intro vals γ w' ρ hR hN hp hρ hc hf hg;refine ⟨rfl,?_⟩;have e0:=hρ 0;(conv at e0=>rhs; whnf);clear hR hN hp hρ;go_light;go_simp;exact ⟨rfl,rfl⟩
   ·rfl
   apply Chain.pure (LZ.refl _) (by rfl)
   ·intro vals γ w' ρ hR hN hp hρ hc hf hg;refine ⟨rfl,?_⟩;have e1:=hρ 1;(conv at e1=>rhs; whnf);clear hR hN hp hρ;go_light;go_simp;exact ⟨rfl,rfl⟩
   ·rfl
   apply Chain.pure (LZ.refl _) (by rfl)
   ·intro vals γ w' ρ hR hN hp hρ hc hf hg;refine ⟨rfl,?_⟩;have e5:=hρ 5;(conv at e5=>rhs; whnf);clear hR hN hp hρ;go_light;go_simp;exact ⟨rfl,rfl⟩
   ·rfl
   apply Chain.pure (LZ.refl _) (by rfl)
   ·intro vals γ w' ρ hR hN hp hρ hc hf hg;refine ⟨rfl,?_⟩;have e20:ρ (.tmp 20)=_:=(hρ 20).trans (hp 7 (by decide));have e21:ρ (.tmp 21)=_:=(hρ 21).trans (hp 8 (by decide));clear hR hN hp hρ;go_light;go_simp;exact ⟨rfl,rfl⟩
   ·rfl
   apply Chain.pure (LZ.refl _) (by rfl)
   ·intro vals γ w' ρ hR hN hp hρ hc hf hg;refine ⟨rfl,?_⟩;have e22:ρ (.tmp 22)=_:=(hρ 22).trans (hp 9 (by decide));have hxx:=hR.ext0 (fun _ _ _ h=>h.elim);have k0:=hxx.cell Q0.o;have k1:=hxx.cell Q1.o;have k2:=hxx.cell Q2.o;have k3:=hxx.cell Q3.o;clear hxx hR hN hp hρ;go_light;go_simp;exact ⟨rfl,rfl⟩
   ·rfl
   apply Chain.pure (LZ.refl _) (by rfl)
   ·intro vals γ w' ρ hR hN hp hρ hc hf hg;refine ⟨rfl,?_⟩;have e19:ρ (.tmp 19)=_:=(hρ 19).trans (hp 6 (by decide));have e23:ρ (.tmp 23)=_:=(hρ 23).trans (hp 10 (by decide));clear hR hN hp hρ;go_light;go_simp;exact ⟨rfl,rfl⟩
   ·rfl
   apply Chain.pure (LZ.refl _) (by rfl)
   ·intro vals γ w' ρ hR hN hp hρ hc hf hg;refine ⟨rfl,?_⟩;have e24:ρ (.tmp 24)=_:=(hρ 24).trans (hp 11 (by decide));have hxx:=hR.ext0 (fun _ _ _ h=>h.elim);have k0:=hxx.cell Q0.o;have k1:=hxx.cell Q1.o;have k2:=hxx.cell Q2.o;have k3:=hxx.cell Q3.o;clear hxx hR hN hp hρ;go_light;go_simp;exact ⟨rfl,rfl⟩
   ·rfl
   refine Chain.step (FP fun v γ w'=>v=.bool bv) (by rfl) (FP.stab ?_) ?_ ?_
   ·intro v γ w1 γ' w2 r h;exact h
   ·intro vals γ w' ρ hR hN hp hρ hc hf hg;refine ⟨rfl,?_⟩;have e18:ρ (.tmp 18)=_:=(hρ 18).trans (hp 5 (by decide));have e25:ρ (.tmp 25)=_:=(hρ 25).trans (hp 12 (by decide));have HR:=Hd hR;have hxx:=hR.ext0 (fun _ _ _ h=>h.elim);have HXW:=Hd hxx;clear hxx hR hN hp hρ;go_light;go_simp;refine (HSV.o w' HXW.o).mono ?_;rintro e1 w3 ⟨he,hx⟩;exact ⟨_,he,γ,LZ.of_ext _ γ hx,fun _ _ _ h=>h,rfl⟩
   apply Chain.pure (LZ.refl _) (by rfl)
   ·intro vals γ w' ρ hR hN hp hρ hc hf hg;refine ⟨rfl,?_⟩;have e26:ρ (.tmp 26)=_:=(hρ 26).trans (hp 13 (by decide));clear hR hN hp hρ;go_light;go_simp;exact ⟨rfl,rfl⟩
   ·rfl
   intro vals γ w9 hR hG;have v0:vals 0=_:=hG 0 (by decide);have v1:vals 1=_:=hG 1 (by decide);have v2:vals 2=_:=hG 2 (by decide);have v3:vals 3=_:=hG 3 (by decide);have v4:vals 4=_:=hG 4 (by decide);have v5:vals 5=_:=hG 5 (by decide);have v6:vals 6=_:=hG 6 (by decide);have v7:vals 7=_:=hG 7 (by decide);have v8:vals 8=_:=hG 8 (by decide);have v9:vals 9=_:=hG 9 (by decide);have v10:vals 10=_:=hG 10 (by decide);have v11:vals 11=_:=hG 11 (by decide);have v12:vals 12=_:=hG 12 (by decide);have v13:vals 13=_:=hG 13 (by decide);have v14:vals 14=_:=hG 14 (by decide);simp only [lexFrame,Act.put,List.setIfInBounds_toArray,List.set_cons_succ,List.set_cons_zero,Nat.zero_add,Nat.reduceAdd,v0,v1,v2,v3,v4,v5,v6,v7,v8,v9,v10,v11,v12,v13,v14];clear v0 v1 v2 v3 v4 v5 v6 v7 v8 v9 v10 v11 v12 v13 v14;have HX9:=Hd (show Ext ws w9 from hR.ext0 (fun _ _ _ h=>h.elim));clear hR hG;cases bv
   ·have HF:=Hd (show alkR l L=false from alk_no HYM.o (by
     rw [HHD.o,HGX.o,HGY.o];intro h;have:=HBV.o;rw [h] at this;simp at this))
    go_wp2;go_ret;exact ⟨by rw [HF.o]; rfl,HX.o.trans HX9.o⟩
   ·have HE:=Hd (show rx=ry by simpa using HBV.o.symm);go_wp2;go_roundw
    case rel =>
     refine ⟨k+1,by omega,fun _=>by omega,by go_num,?_,HX.o.trans HX9.o⟩;rw [HTK.o,List.all_append,HALL.o];simp only [List.all_cons,List.all_nil,Bool.and_true,Bool.true_and,decide_eq_true_eq];rw [HHD.o,HGX.o,HGY.o,HE.o]
    case measure=>simp [intOf]; omega
  ·have HF:=Hd (show alkR l L=true by
    have h1:=HALL.o;rwa [List.take_of_length_le (by rw [← HNN.o]; omega)] at h1)
   go_wp2;go_ret;exact ⟨by rw [HF.o]; rfl,HX.o⟩
end Go.Proofs.YtomdpipekmcojaaGreatDoor
