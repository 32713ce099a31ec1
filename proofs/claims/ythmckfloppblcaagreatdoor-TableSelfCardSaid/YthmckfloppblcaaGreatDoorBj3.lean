/- Maps as lists of pairs: lookup, update and length, for keys that are ints, texts or pairs of ints. No conditions. -/
import Derived.Test.YthmckfloppblcaaGreatDoorBj2
import Derived.MapKept
import Derived.Maps.Keyed
import Derived.BigRegion
import Derived.Shelf.SlIter.Nil
import Derived.Shelf.SortM.Plain
import Derived.Shelf.SortM.SortNone
import Derived.Ground.GgzProg
import Derived.Ground.SlgmProg
import Derived.Test.YthmckfloppblcaaGreatDoorProg
import Derived.Shelf.SlGeneric
import Derived.Deep.LoopGhost
set_option maxRecDepth 100000
set_option maxHeartbeats 1000000
namespace Go.Proofs.YthmckfloppblcaaGreatDoor
open Go Go.RowKit Go.MapKept

def fnd {K:Type} [DecidableEq K] (x:K):List (K × Value)→Nat→Option (Nat × Value)
 | [],_=>none
 | p :: l,i=>if p.1=x then some (i,p.2) else fnd x l (i+1)
theorem fnd_some {K:Type} [DecidableEq K] {x:K} {l:List (K × Value)} {j i:Nat} {v:Value} (h:fnd x l j=some (i,v)):j≤i∧l[i-j]?=some (x,v):=by
 induction l generalizing j with
 | nil=>simp [fnd] at h
 | cons p l ih =>
  unfold fnd at h;split at h
  ·rename_i hp;simp at h;obtain ⟨rfl,rfl⟩:=h;exact ⟨Nat.le_refl _,by simp [← hp]⟩
  ·obtain ⟨h1,h2⟩:=ih h;refine ⟨by omega,?_⟩;rw [show i-j=(i-(j+1))+1 by omega,List.getElem?_cons_succ];exact h2
theorem fnd_no {K:Type} [DecidableEq K] {x:K} {l:List (K × Value)} {j:Nat} (h:fnd x l j=none):∀ p∈l,p.1≠x:=by
 induction l generalizing j with
 | nil=>simp
 | cons p l ih =>
  unfold fnd at h;split at h
  ·cases h
  ·rename_i hp;intro q hq
   rcases List.mem_cons.1 hq with rfl | hq
   ·exact hp
   ·exact ih h q hq
def mget {K:Type} [DecidableEq K] (m:List (K × Value)) (k:K):Option Value:=(fnd k m 0).map (·.2)
def mput {K:Type} [DecidableEq K] (m:List (K × Value)) (k:K) (v:Value):List (K × Value) :=
 match fnd k m 0 with
 | some (i,_)=>m.set i (k,v)
 | none=>m++[(k,v)]
structure KL (P:Program) (kt:TypeId) {K:Type} [DecidableEq K] (enc:K→Value):Prop where
 check:∀ (w:World) (em:Bool) (x:K),(Instr.checkKey em 10000 kt (enc x)).run P w=.ok () w
 find:∀ (w:World) (x:K) (l:List (K × Value)) (es:List MapEntry),es.map (fun e=>(e.key,e.val))=l.map (fun p=>(enc p.1,p.2))→(Instr.findKey kt (enc x) es).run P w=.ok (fnd x l 0) w
 stays:∀ (w:World) (x:K),(Instr.keyThatStays (enc x) (enc x)).run P w=.ok (enc x) w
 inj:∀ x y:K,enc x=enc y→x=y
def MapIs {K:Type} (w:World) (b:Nat) (enc:K→Value) (m:List (K × Value)):Prop :=
 ∃ es clock,w.heap[b]?=some (.map es clock)∧es.toList.map (fun e=>(e.key,e.val))=m.map (fun p=>(enc p.1,p.2))∧Stamped es clock
theorem go_map {P:Program} {w:World} {b:Nat} {es:Array MapEntry} {cl:Nat} (h:w.heap[b]?=some (.map es cl)):(getObj b).run P w=.ok (.map es cl) w:=by simp [getObj,Sem.run,h]
theorem set_map {P:Program} {w:World} {b:Nat} {es:Array MapEntry} {cl:Nat} (o:Obj) (h:w.heap[b]?=some (.map es cl)):(setObj b o).run P w=.ok () { w with heap:=w.heap.setIfInBounds b o }:=by simp [setObj,Sem.run,h]
section
variable {P:Program} {K:Type} {enc:K→Value} {w w':World} {b:Nat} {m:List (K × Value)}
theorem MapIs.keep (h:MapIs w b enc m) (hk:Kept (fun i=>i=b) w w'):MapIs w' b enc m:=by
 obtain ⟨es,cl,h1,h2,hst⟩:=h;refine ⟨es,cl,?_,h2,hst⟩;have hlt:b<w.heap.size:=by
  rcases Nat.lt_or_ge b w.heap.size with h3 | h3
  ·exact h3
  ·rw [Array.getElem?_eq_none h3] at h1; cases h1
 rw [hk.2 b rfl hlt]; exact h1
theorem MapIs.lt (h:MapIs w b enc m):b<w.heap.size:=by
 obtain ⟨es,cl,h1,_,_⟩:=h
 rcases Nat.lt_or_ge b w.heap.size with h3 | h3
 ·exact h3
 ·rw [Array.getElem?_eq_none h3] at h1; cases h1
theorem MapIs.made (w:World) (enc:K→Value):MapIs (w.alloc (.map #[] 0)) w.heap.size enc []:=⟨#[],0,heap_alloc_new w _,rfl,stamped_empty 0⟩
theorem MapIs.len (h:MapIs w b enc m) {t kt et:TypeId} (ht:P.underlying t=some (.map kt et)) (ty:TypeId):(Builtin.len_ #[t] ty #[.map (some b)]).run P w=.ok (.int .i64 (m.length:Int)) w:=by
 obtain ⟨es,cl,h1,h2,hst⟩:=h;have hl:es.size=m.length:=by
  have:=congrArg List.length h2
  simpa using this
 simp [Builtin.len_,run_underlying ht,go_map h1,goInt,hl]
theorem MapIs.get [DecidableEq K] (h:MapIs w b enc m) {t kt et:TypeId} (ht:P.underlying t=some (.map kt et)) (kl:KL P kt enc) (z:Value) (hz:∀ w:World,(zeroValue et).run P w=.ok z w) (x:K) :
  (Instr.lookup t (.map (some b)) (enc x) false).run P w=.ok ((mget m x).getD z) w:=by
 obtain ⟨es,cl,h1,h2,hst⟩:=h;have hf:=kl.find w x m es.toList h2;unfold mget;cases hq:fnd x m 0 with
 | none=>rw [hq] at hf; simp [Instr.lookup,run_underlying ht,go_map h1,kl.check,hf,hz]
 | some p=>rw [hq] at hf; simp [Instr.lookup,run_underlying ht,go_map h1,kl.check,hf]
theorem MapIs.get2 [DecidableEq K] (h:MapIs w b enc m) {t kt et:TypeId} (ht:P.underlying t=some (.map kt et)) (kl:KL P kt enc) (z:Value) (hz:∀ w:World,(zeroValue et).run P w=.ok z w) (x:K) :
  (Instr.lookup t (.map (some b)) (enc x) true).run P w=.ok (.tuple #[(mget m x).getD z,.bool (mget m x).isSome]) w:=by
 obtain ⟨es,cl,h1,h2,hst⟩:=h;have hf:=kl.find w x m es.toList h2;unfold mget;cases hq:fnd x m 0 with
 | none=>rw [hq] at hf; simp [Instr.lookup,run_underlying ht,go_map h1,kl.check,hf,hz]
 | some p=>rw [hq] at hf; simp [Instr.lookup,run_underlying ht,go_map h1,kl.check,hf]
theorem MapIs.put [DecidableEq K] (h:MapIs w b enc m) {t kt et:TypeId} (ht:P.underlying t=some (.map kt et)) (kl:KL P kt enc) (x:K) (v:Value) :
  ∃ w',(Instr.mapUpdate t (.map (some b)) (enc x) v).run P w=.ok () w'∧MapIs w' b enc (mput m x v)∧w.grownBy w' (some b):=by
 obtain ⟨es,cl,h1,h2,hst⟩:=h;have hf:=kl.find w x m es.toList h2;have hlt:b<w.heap.size:=by
  rcases Nat.lt_or_ge b w.heap.size with h3 | h3
  ·exact h3
  ·rw [Array.getElem?_eq_none h3] at h1; cases h1
 have hg:∀ o:Obj,w.grownBy { w with heap:=w.heap.setIfInBounds b o } (some b):=fun o =>
  ⟨rfl,rfl,rfl,by simp,fun k _ hk=>by rw [Array.getElem?_setIfInBounds,if_neg (fun e=>hk (by rw [e]))]⟩
 unfold mput;cases hq:fnd x m 0 with
 | none =>
  rw [hq] at hf;refine ⟨{ w with heap:=w.heap.setIfInBounds b (.map (es.push { key:=enc x,val:=v,born:=cl }) (cl+1)) },by simp [Instr.mapUpdate,run_underlying ht,go_map h1,kl.check,hf,set_map _ h1],⟨es.push { key:=enc x,val:=v,born:=cl },cl+1,by simp [hlt],by simp [h2],stamped_push hst (fun e he hk => ?_)⟩,hg _⟩;have h5:(e.key,e.val)∈es.toList.map (fun e=>(e.key,e.val)):=List.mem_map_of_mem he;rw [h2] at h5;obtain ⟨p,hp,hpe⟩:=List.mem_map.1 h5;injection hpe with hpe _;exact fnd_no hq p hp (kl.inj _ _ (hpe.trans hk))
 | some p =>
  obtain ⟨i,u⟩:=p;rw [hq] at hf;obtain ⟨_,hi⟩:=fnd_some hq;simp at hi;have hes:(es.toList.map (fun e=>(e.key,e.val)))[i]?=some (enc x,u):=(by rw [h2]; simp [hi]);have hil:i<es.size:=by
   have:=(List.getElem?_eq_some_iff.1 hes).1
   simpa using this
  have hek:es[i].key=enc x:=by
   simp [hil] at hes;exact hes.1
  refine ⟨{ w with heap:=w.heap.setIfInBounds b (.map (es.modify i fun e => { e with key:=enc x,val:=v }) cl) },by simp [Instr.mapUpdate,run_underlying ht,go_map h1,kl.check,hf,set_map _ h1,hil,hek,kl.stays],⟨es.modify i fun e => { e with key:=enc x,val:=v },cl,by simp [hlt],?_,stamped_modify hst i _ (fun _ _=>rfl) (fun e _ he=>by
   rw [Array.getElem?_eq_getElem hil] at he;injection he with he;show enc x=e.key;rw [← he,hek])⟩,hg _⟩
  have:(es.modify i fun e => { e with key:=enc x,val:=v }).toList.map (fun e=>(e.key,e.val))=(es.toList.map (fun e=>(e.key,e.val))).set i (enc x,v):=by
   apply List.ext_getElem?;intro j;simp only [List.getElem?_map,Array.getElem?_toList,Array.getElem?_modify,List.getElem?_set,List.length_map,Array.length_toList];by_cases hij:i=j
   ·subst hij; simp [hil]
   ·simp [hij]
  rw [this,h2,List.map_set]
end

theorem ba_beq (a b:ByteArray):(a==b)=decide (a=b):=by
 cases a with | mk x=>cases b with | mk y =>
 show (x==y)=_;by_cases h:x=y
 ·subst h; simp
 ·simp [h]
theorem klInt {P:Program} {kt:TypeId} (hk:P.underlying kt=some (.int .i64)):KL P kt (fun n:Int=>Value.int .i64 n) where
 check:=fun w em x=>by
  have h:∀ n,(Instr.checkKey em (n+1) kt (Value.int .i64 x)).run P w=.ok () w:=fun n=>by simp [Instr.checkKey,run_underlying hk]
  exact h 9999
 find:=fun w x l es h=>by
  have hn:∀ (es:List MapEntry) (l:List (Int × Value)) (i:Nat),es.map (fun e=>(e.key,e.val))=l.map (fun p=>(Value.int .i64 p.1,p.2))→Instr.findNow (.int .i64) (.int .i64 x) es i=some (fnd x l i):=by
   intro es
   induction es with
   | nil=>intro l i h; cases l <;> simp at h; rfl
   | cons e es ih =>
    intro l i h;cases l with
    | nil=>simp at h
    | cons p l =>
     simp at h;obtain ⟨⟨h1,h2⟩,h3⟩:=h;unfold Instr.findNow fnd;rw [h1];by_cases hx:p.1=x
     ·have hs:Instr.sameNow (.int .i64) (.int .i64 x) (.int .i64 p.1)=some true:=(by simp [Instr.sameNow,hx]);rw [hs,if_pos hx,h2]
     ·have hx':¬ x=p.1:=fun e=>hx e.symm;have hs:Instr.sameNow (.int .i64) (.int .i64 x) (.int .i64 p.1)=some false:=(by simp [Instr.sameNow,hx']);rw [hs,if_neg hx];exact ih l (i+1) (by simpa using h3)
  simp [Instr.findKey,run_underlying hk,hn es l 0 h]
 stays:=fun w x=>by simp [Instr.keyThatStays,Instr.sameBits]
 inj:=fun x y h=>by injection h
theorem klStr {P:Program} {kt:TypeId} (hk:P.underlying kt=some .string):KL P kt (fun s:ByteArray=>Value.string s) where
 check:=fun w em x=>by
  have h:∀ n,(Instr.checkKey em (n+1) kt (Value.string x)).run P w=.ok () w:=fun n=>by simp [Instr.checkKey,run_underlying hk]
  exact h 9999
 find:=fun w x l es h=>by
  have hn:∀ (es:List MapEntry) (l:List (ByteArray × Value)) (i:Nat),es.map (fun e=>(e.key,e.val))=l.map (fun p=>(Value.string p.1,p.2))→Instr.findNow .string (.string x) es i=some (fnd x l i):=by
   intro es
   induction es with
   | nil=>intro l i h; cases l <;> simp at h; rfl
   | cons e es ih =>
    intro l i h;cases l with
    | nil=>simp at h
    | cons p l =>
     simp at h;obtain ⟨⟨h1,h2⟩,h3⟩:=h;unfold Instr.findNow fnd;rw [h1];by_cases hx:p.1=x
     ·have hs:Instr.sameNow .string (.string x) (.string p.1)=some true:=(by simp [Instr.sameNow,ba_beq,hx]);rw [hs,if_pos hx,h2]
     ·have hx':¬ x=p.1:=fun e=>hx e.symm;have hs:Instr.sameNow .string (.string x) (.string p.1)=some false:=(by simp [Instr.sameNow,ba_beq,hx']);rw [hs,if_neg hx];exact ih l (i+1) (by simpa using h3)
  simp [Instr.findKey,run_underlying hk,hn es l 0 h]
 stays:=fun w x=>by simp [Instr.keyThatStays,Instr.sameBits,ba_beq]
 inj:=fun x y h=>by injection h

theorem pair_equal {P:Program} {kt it:TypeId} (hk:P.underlying kt=some (.array 2 it)) (hi:P.underlying it=some (.int .i64)) (hs:∀ w:World,(sizeOf it).run P w=.ok 1 w) (w:World) (a b c d:Int) :
  (Op.equal kt (.agg #[.int .i64 a,.int .i64 b]) (.agg #[.int .i64 c,.int .i64 d])).run P w=.ok (decide ((a,b)=(c,d))) w:=by
 have hint:∀ (n:Nat) (x y:Int),(Op.equalIn (n+1) it (.int .i64 x) (.int .i64 y)).run P w=.ok (x==y) w:=fun n x y=>by simp [Op.equalIn,run_underlying hi]
 have hp:∀ (x y:Int) (i:Nat) (v:Value),(#[Value.int .i64 x,.int .i64 y])[i]?=some v→(part it #[.int .i64 x,.int .i64 y] i).run P w=.ok v w:=fun x y i v hv=>by simp [part,isAgg,run_underlying hi,hv]
 have h:∀ n:Nat,(Op.equalIn (n+2) kt (.agg #[.int .i64 a,.int .i64 b]) (.agg #[.int .i64 c,.int .i64 d])).run P w=.ok (decide ((a,b)=(c,d))) w:=by
  intro n;rw [Op.equalIn];simp only [Sem.run_bind,run_underlying hk,Result.andThen_ok,hs,Std.Legacy.Range.forIn_eq_forIn_range',Std.Legacy.Range.size,Nat.sub_zero,Nat.add_sub_cancel,Nat.div_one,List.range'_succ,List.range'_zero,List.forIn_cons,List.forIn_nil];simp only [Nat.zero_mul,Nat.zero_add,Nat.one_mul,hp a b 0 _ rfl,hp c d 0 _ rfl,Result.andThen_ok];by_cases h1:a=c
  ·subst h1;by_cases h2:b=d
   ·subst h2;simp [hint,hp a b 1 _ rfl]
   ·simp [hint,hp a b 1 _ rfl,hp a d 1 _ rfl,h2]
  ·simp [hint,h1]
 exact h 9998
theorem klPair {P:Program} {kt it:TypeId} (hk:P.underlying kt=some (.array 2 it)) (hi:P.underlying it=some (.int .i64)) (hs:∀ w:World,(sizeOf it).run P w=.ok 1 w) :
  KL P kt (fun p:Int × Int=>Value.agg #[.int .i64 p.1,.int .i64 p.2]) where
 check:=fun w em x=>by
  have hp:∀ (x y:Int) (i:Nat) (v:Value),(#[Value.int .i64 x,.int .i64 y])[i]?=some v→(part it #[.int .i64 x,.int .i64 y] i).run P w=.ok v w:=fun x y i v hv=>by simp [part,isAgg,run_underlying hi,hv]
  have hc:∀ (n:Nat) (y:Int),(Instr.checkKey em (n+1) it (.int .i64 y)).run P w=.ok () w:=fun n y=>by simp [Instr.checkKey,run_underlying hi]
  have h:∀ n,(Instr.checkKey em (n+2) kt (Value.agg #[.int .i64 x.1,.int .i64 x.2])).run P w=.ok () w:=fun n=>by
   rw [Instr.checkKey];simp only [Sem.run_bind,run_underlying hk,Result.andThen_ok,hs,Std.Legacy.Range.forIn_eq_forIn_range',Std.Legacy.Range.size,Nat.sub_zero,Nat.add_sub_cancel,Nat.div_one,List.range'_succ,List.range'_zero,List.forIn_cons,List.forIn_nil];simp [hs,hp x.1 x.2 0 _ rfl,hp x.1 x.2 1 _ rfl,hc]
  exact h 9998
 find:=fun w x l es h=>by
  have ha:∀ (es:List MapEntry) (l:List ((Int × Int) × Value)) (i:Nat),es.map (fun e=>(e.key,e.val))=l.map (fun p=>(Value.agg #[.int .i64 p.1.1,.int .i64 p.1.2],p.2))→(Instr.findAsking kt (.agg #[.int .i64 x.1,.int .i64 x.2]) es i).run P w=.ok (fnd x l i) w:=by
   intro es
   induction es with
   | nil=>intro l i h; cases l <;> simp at h; simp [Instr.findAsking,fnd]
   | cons e es ih =>
    intro l i h;cases l with
    | nil=>simp at h
    | cons p l =>
     simp at h;obtain ⟨⟨h1,h2⟩,h3⟩:=h;unfold Instr.findAsking fnd;rw [h1];simp only [Sem.run_bind,pair_equal hk hi hs w x.1 x.2 p.1.1 p.1.2,Result.andThen_ok];by_cases hx:p.1=x
     ·rw [if_pos hx,← hx,decide_eq_true rfl];simp [h2]
     ·rw [if_neg hx,decide_eq_false (fun e=>hx e.symm)];simp only [Bool.false_eq_true,if_false];exact ih l (i+1) (by simpa using h3)
  cases es with
  | nil =>
   cases l <;> simp at h
   simp [Instr.findKey,run_underlying hk,Instr.findNow,fnd]
  | cons e es =>
   have hn:Instr.findNow (.array 2 it) (.agg #[.int .i64 x.1,.int .i64 x.2]) (e :: es) 0=none:=(by simp [Instr.findNow,Instr.sameNow]);simp only [Instr.findKey,Sem.run_bind,run_underlying hk,Result.andThen_ok,hn];exact ha (e :: es) l 0 h
 stays:=fun w x=>by
  have h:∀ n,Instr.sameBits (n+1) (.agg #[.int .i64 x.1,.int .i64 x.2]) (.agg #[.int .i64 x.1,.int .i64 x.2])=true:=fun n=>by simp [Instr.sameBits]
  unfold Instr.keyThatStays;rw [h 9999];simp
 inj:=fun x y h=>by
  injection h with h;injection h with h;simp at h;exact Prod.ext h.1 h.2

section
variable {K:Type} [DecidableEq K]
theorem fnd_append {x:K} {l l':List (K × Value)} {j:Nat} : fnd x (l++l') j=match fnd x l j with | some r=>some r | none=>fnd x l' (j+l.length):=by
 induction l generalizing j with
 | nil=>simp [fnd]
 | cons p l ih =>
  show (if p.1=x then some (j,p.2) else fnd x (l++l') (j+1))=match (if p.1=x then some (j,p.2) else fnd x l (j+1)) with | some r=>some r | none=>fnd x l' (j+(l.length+1))
  by_cases hp:p.1=x
  ·simp only [if_pos hp]
  ·simp only [if_neg hp];rw [ih,show j+1+l.length=j+(l.length+1) by omega]
theorem mget_put (m:List (K × Value)) (k k':K) (v:Value):mget (mput m k v) k'=if k=k' then some v else mget m k':=by
 unfold mget mput;cases hf:fnd k m 0 with
 | none =>
  rw [fnd_append];by_cases hk:k=k'
  ·subst hk;rw [hf,if_pos rfl];simp [fnd]
  ·rw [if_neg hk];cases hg:fnd k' m 0 with
   | none=>simp [fnd,hk]
   | some r=>simp
 | some r =>
  obtain ⟨i,u⟩:=r;obtain ⟨_,hi⟩:=fnd_some hf;simp at hi;have hset:∀ (l:List (K × Value)) (i j:Nat) (u:Value),l[i]?=some (k,u)→(∀ a,a<i→∀ p,l[a]?=some p→p.1≠k)→(fnd k' (l.set i (k,v)) j).map (·.2)=if k=k' then some v else (fnd k' l j).map (·.2):=by
   intro l
   induction l with
   | nil=>intro i j u h; simp at h
   | cons p l ih =>
    intro i j u h hb;cases i with
    | zero =>
     simp at h;subst h;simp only [List.set_cons_zero,fnd];by_cases hk:k=k' <;> simp [hk]
    | succ i =>
     simp only [List.set_cons_succ,fnd];have hp:p.1≠k:=hb 0 (by omega) p rfl;by_cases hk:p.1=k'
     ·have:k≠k':=fun e=>hp (by rw [hk,e]);simp [hk,this]
     ·rw [if_neg hk,if_neg hk];exact ih i (j+1) u (by simpa using h) (fun a ha q hq=>hb (a+1) (by omega) q (by simpa using hq))
  refine hset m i 0 u hi ?_;have hfirst:∀ (l:List (K × Value)) (j i:Nat) (u:Value),fnd k l j=some (i,u)→∀ a,a<i-j→∀ p,l[a]?=some p→p.1≠k:=by
   intro l
   induction l with
   | nil=>intro j i u h; simp [fnd] at h
   | cons q l ih =>
    intro j i u h a ha p hp;unfold fnd at h;by_cases hq:q.1=k
    ·rw [if_pos hq] at h;simp at h;omega
    ·rw [if_neg hq] at h;cases a with
     | zero=>simp at hp; subst hp; exact hq
     | succ a=>exact ih (j+1) i u h a (by omega) p (by simpa using hp)
  exact fun a ha p hp=>hfirst m 0 i u hf a (by omega) p hp
end

section
variable {K:Type} [DecidableEq K]
theorem mput_len (m:List (K × Value)) (k:K) (v:Value):(mput m k v).length=if (mget m k).isSome then m.length else m.length+1:=by
 unfold mput mget;cases fnd k m 0 with
 | none=>simp
 | some r=>simp
end

def consB (gs cs:List Int):Bool:=(List.range gs.length).all fun i=>(List.range i).all fun j=>decide (gs.getD i 0=gs.getD j 0→cs.getD i 0=cs.getD j 0)
theorem consB_false {gs cs:List Int} {i j:Nat} (hi:i<gs.length) (hj:j<i) (h1:gs.getD i 0=gs.getD j 0) (h2:cs.getD i 0≠cs.getD j 0):consB gs cs=false:=by
 unfold consB;refine range_not hi (range_not hj ?_);rw [decide_eq_false_iff_not];exact fun h=>h2 (h h1)
theorem consB_iff (gs cs:List Int):consB gs cs=true↔∀ i j,i<gs.length→j<i→gs.getD i 0=gs.getD j 0→cs.getD i 0=cs.getD j 0:=by
 unfold consB;simp only [List.all_eq_true,List.mem_range,decide_eq_true_eq];constructor
 ·intro h i j hi hj; exact h i hi j hj
 ·intro h i hi j hj; exact h i j hi hj

theorem zeroI (w:World):(zeroValue 3).run Tryz.prog w=.ok (.int .i64 0) w:=by kernel_rfl

theorem table_decides (gs cs:List Int) (A B:Option Addr) (ca cb:Nat) (w:World) (S T:Nat→Prop) (hA:Ints w S A gs) (hB:Ints w T B cs) (hl:cs.length=gs.length) :
  Calls Tryz.prog 60 #[.slice A gs.length ca,.slice B cs.length cb] w (RetB w (consB gs cs)):=by
 have hgl:=hA.2;have HA:=Hd hA;have HB:=Hd hB;have HL:=Hd hl;clear hA hB hl;have hmm:=@run_makeMap Tryz.prog
 go_enter Tryz.func60,Tryz.ntmps60
 go_wp2;clear hmm
 go_loopw [13] (fun i wr=>∃ (k:Nat) (m:List (Int × Value)),k≤gs.length∧i=.int .i64 k∧Ext w wr∧MapIs wr w.heap.size (fun n:Int=>Value.int .i64 n) m ∧
   (∀ j,j<k→mget m (gs.getD j 0)=some (.int .i64 (cs.getD j 0)))∧(∀ g v,mget m g=some v→∃ j,j<k∧gs.getD j 0=g)∧(∀ i j,i<k→j<i→gs.getD i 0=gs.getD j 0→cs.getD i 0=cs.getD j 0)) (fun i _=>gs.length-(intOf i).toNat)
 case atStart=>exact ⟨0,[],Nat.zero_le _,rfl,(Ext.refl w).alloc _,MapIs.made w _,by intros; omega,by intro g v h; simp [mget,fnd] at h,by intros; omega⟩
 case round =>
  obtain ⟨k,m,hk,rfl,hext,hmap,h1,h2,h3⟩:=hrel;have HE:=Hd hext;have HM:=Hd hmap;have H1:=Hd h1;have H2:=Hd h2;have H3:=Hd h3;clear hmap h1 h2 h3;by_cases hlt:k<gs.length
  ·have hlt2:k<cs.length:=(by rw [HL.o]; exact hlt);obtain ⟨b1,o1,rfl,z1,c1⟩:=(HA.o.keep (hext.kept S)).at_ hlt;obtain ⟨b2,o2,rfl,z2,c2⟩:=(HB.o.keep (hext.kept T)).at_ hlt2;have hlk:=HM.o.get2 Tryz.underlying121 (klInt Tryz.underlying3) (.int .i64 0) zeroI gs[k];have G1:=Hd (getD_of gs k 0 hlt);have G2:=Hd (getD_of cs k 0 hlt2);obtain ⟨w',hup,hmap',hg'⟩:=HM.o.put Tryz.underlying121 (klInt Tryz.underlying3) gs[k] (.int .i64 cs[k]);have HM':=Hd hmap';have HG':=Hd hg';have hh2:(cs.length:Int)=(gs.length:Int):=(by rw [HL.o]);have hlt3:(k:Int)<(cs.length:Int):=(by omega);clear hmap' hg' hext hh2;have hgood:(∀ v,mget m gs[k]=some v→v=.int .i64 cs[k])→∃ (k':Nat) (m':List (Int × Value)),k'≤gs.length∧(k':Int)=(k:Int)+1∧Ext w w'∧MapIs w' w.heap.size (fun n:Int=>Value.int .i64 n) m' ∧
     (∀ j,j<k'→mget m' (gs.getD j 0)=some (.int .i64 (cs.getD j 0)))∧(∀ g v,mget m' g=some v→∃ j,j<k'∧gs.getD j 0=g)∧(∀ i j,i<k'→j<i→gs.getD i 0=gs.getD j 0→cs.getD i 0=cs.getD j 0):=by
    intro hv;refine ⟨k+1,_,by omega,by omega,HE.o.grown HG'.out (fun b hb=>by injection hb with hb; omega),HM'.out,fun j hj => ?_,fun g v hg => ?_,fun i j hi hj he => ?_⟩
    ·rw [mget_put];by_cases hjk:gs[k]=gs.getD j 0
     ·rw [if_pos hjk];by_cases hj2:j=k
      ·subst hj2; rw [G2.o]
      ·have:=H1.o j (by omega);rw [← hjk] at this;rw [hv _ this] at this;have h5:=H1.o j (by omega);rw [← hjk,this] at h5;exact h5
     ·rw [if_neg hjk];by_cases hj2:j=k
      ·subst hj2; exact absurd G1.o.symm hjk
      ·exact H1.o j (by omega)
    ·rw [mget_put] at hg;by_cases hgk:gs[k]=g
     ·exact ⟨k,by omega,by rw [G1.o]; exact hgk⟩
     ·rw [if_neg hgk] at hg;obtain ⟨j,hj,hj2⟩:=H2.o g v hg;exact ⟨j,by omega,hj2⟩
    ·by_cases hik:i=k
     ·subst hik;have h5:=H1.o j hj;rw [← he,G1.o] at h5;have h6:=hv _ h5;injection h6 with _ h6;rw [G2.o]; exact h6.symm
     ·exact H3.o i j (by omega) hj he
   have HGOOD:=Hd hgood;clear hgood;cases hmg:mget m gs[k] with
   | none =>
    have hlk2:(Instr.lookup 121 (.map (some w.heap.size)) (.int .i64 gs[k]) true).run Tryz.prog wr=.ok (.tuple #[.int .i64 0,.bool false]) wr:=(by rw [hlk,hmg]; rfl);have HMG:=Hd hmg;clear hlk hmg;go_wp2;go_roundw
    case rel =>
     obtain ⟨k',m',e1,e2,e3⟩:=HGOOD.o (fun v hv=>by rw [HMG.o] at hv; cases hv);exact ⟨k',m',e1,by rw [e2],e3⟩
    case measure=>simp [intOf]; omega
   | some v =>
    have hvv:∃ x:Int,v=.int .i64 x:=by
     obtain ⟨j,hj,hj2⟩:=H2.o _ _ hmg;have:=H1.o j hj;rw [hj2,hmg] at this;injection this with this;exact ⟨_,this⟩
    obtain ⟨x,rfl⟩:=hvv;have hlk2:(Instr.lookup 121 (.map (some w.heap.size)) (.int .i64 gs[k]) true).run Tryz.prog wr=.ok (.tuple #[.int .i64 x,.bool true]) wr:=(by rw [hlk,hmg]; rfl);have HMG:=Hd hmg;clear hlk hmg;by_cases hx:x=cs[k]
    ·have hx':(x != cs[k])=false:=(by simp [hx]);have HXX:=Hd hx;clear hx;go_wp2;go_roundw
     case rel =>
      obtain ⟨k',m',e1,e2,e3⟩:=HGOOD.o (fun v hv=>by rw [HMG.o] at hv; injection hv with hv; rw [← hv,HXX.o]);exact ⟨k',m',e1,by rw [e2],e3⟩
     case measure=>simp [intOf]; omega
    ·have hx':(x != cs[k])=true:=(by rw [bne_iff_ne]; exact hx);have HF:=Hd (show consB gs cs=false by
      obtain ⟨j,hj,hj2⟩:=H2.o _ _ HMG.o;have h5:=H1.o j hj;rw [hj2,HMG.o] at h5;injection h5 with h5;injection h5 with _ h5;exact consB_false hlt hj (by rw [G1.o,hj2]) (by rw [G2.o,← h5]; exact fun e=>hx e.symm))
     clear hx;go_wp2;go_ret;exact ⟨by rw [HF.o]; rfl,HE.o⟩
  ·have HF:=Hd (show consB gs cs=true by rw [consB_iff]; exact fun i j hi hj he=>H3.o i j (by omega) hj he);clear hext;go_wp2;go_ret;exact ⟨by rw [HF.o]; rfl,HE.o⟩

def RIss (w:World) (S:Nat→Prop) (A:Option Addr) (l:List (List Int)):Prop :=
 l.length≤4294967296∧∃ hs:List Value,Rd w S A hs∧hs.length=l.length∧∀ (i:Nat) (r:List Int),l[i]?=some r→∃ (B:Option Addr) (e:Nat),hs[i]?=some (.slice B r.length e)∧r.length≤e∧Ints w S B r
theorem RIss.keep {w w':World} {S:Nat→Prop} {A:Option Addr} {l:List (List Int)} (h:RIss w S A l) (k:Kept S w w'):RIss w' S A l:=by
 obtain ⟨h0,hs,h1,h2,h3⟩:=h;refine ⟨h0,hs,h1.keep k,h2,fun i r hr => ?_⟩;obtain ⟨B,e,g1,g2,g3⟩:=h3 i r hr;exact ⟨B,e,g1,g2,g3.keep k⟩
theorem RIss.at_ {w:World} {S:Nat→Prop} {A:Option Addr} {l:List (List Int)} (h:RIss w S A l) {k:Nat} (hk:k<l.length) :
  ∃ b o B e,A=some ⟨b,o,none⟩∧b<w.heap.size∧w.cell? ⟨b,o+k,none⟩=some (.slice B l[k].length e)∧l[k].length≤e∧Ints w S B l[k]:=by
 obtain ⟨_,hs,h1,h2,h3⟩:=h;obtain ⟨B,e,g1,g2,g3⟩:=h3 k l[k] (List.getElem?_eq_getElem hk);obtain ⟨b,o,hA,hb,hc⟩:=h1.at_ g1;exact ⟨b,o,B,e,hA,hb,hc,g2,g3⟩
structure GroupsOf (n:Nat) (ls:List (List Int)) (gs:List Int):Prop where
 len:gs.length=n
 same:∀ i j,i<n→j<n→(gs.getD i 0=gs.getD j 0↔∀ l∈ls,l.getD i 0=l.getD j 0)
def RetG (w:World) (n:Nat) (ls:List (List Int)) (e:Ending) (w':World):Prop:=∃ gs,GroupsOf n ls gs∧RetIs w gs e w'
theorem made_replicate (z:Value) (n:Nat) (hz:z.cells=#[z]):madeCells z.cells n=Array.replicate n z:=by
 rw [hz];apply Array.ext
 ·simp [madeCells]
 ·intro i h5 h6;simp [madeCells,Nat.mod_one]
theorem run_mkI (n:Nat) (hn:n≤4294967296):∀ w:World,(Instr.makeSlice 22 (.int .i64 (n:Int)) (.int .i64 (n:Int))).run Tryz.prog w=.ok (.slice (some ⟨w.heap.size,0,none⟩) n n) (w.alloc (.cells (Array.replicate n (.int .i64 0)) 3)):=by
 intro w;obtain ⟨i0,h1,h2,h3,h4⟩:=info_parts infoI;have hr:=run_make (P:=Tryz.prog) w 22 3 i0 (.int .i64 0) Tryz.underlying22 h1 h2 .i64 .i64 n n (by omega) (by omega) (by rw [h4]; omega) (by omega);rw [h3,Nat.mul_one,Int.toNat_natCast,made_replicate _ _ rfl] at hr;exact hr
structure GRel (n r:Nat) (gs cls cur:List Int) (m:List ((Int × Int) × Value)):Prop where
 len:cur.length=n
 done:∀ j,j<r→mget m (gs.getD j 0,cls.getD j 0)=some (.int .i64 (cur.getD j 0))
 rest:∀ j,r≤j→j<n→cur.getD j 0=gs.getD j 0
 inj:∀ p q v,mget m p=some v→mget m q=some v→p=q
 range:∀ p v,mget m p=some v→∃ i:Nat,i<m.length∧v=.int .i64 (i:Int)

theorem getD_set {l:List Int} {r j:Nat} {g:Int} : (l.set r g).getD j 0=if r=j∧j<l.length then g else l.getD j 0:=by
 simp only [List.getD_eq_getElem?_getD,List.getElem?_set];by_cases h:r=j
 ·subst h;by_cases h2:r<l.length
  ·simp [h2]
  ·simp [h2]
 ·simp [h]
theorem GRel.new {n r:Nat} {gs cls cur:List Int} {m:List ((Int × Int) × Value)} (h:GRel n r gs cls cur m) (hr:r<n) (hm:mget m (gs.getD r 0,cls.getD r 0)=none):GRel n (r+1) gs cls (cur.set r (m.length:Int)) (mput m (gs.getD r 0,cls.getD r 0) (.int .i64 (m.length:Int))):=by
 have hl:=h.len;refine ⟨by simp [hl],fun j hj => ?_,fun j hj hn => ?_,fun p q v hp hq => ?_,fun p v hp => ?_⟩
 ·rw [mget_put,getD_set];by_cases hjr:j=r
  ·subst hjr;rw [if_pos rfl,if_pos ⟨rfl,by omega⟩]
  ·have hd:=h.done j (by omega);rw [if_neg (fun e=>by rw [← e,hm] at hd; cases hd),if_neg (fun e=>hjr e.1.symm)];exact hd
 ·rw [getD_set,if_neg (fun e=>by omega)];exact h.rest j (by omega) hn
 ·rw [mget_put] at hp hq;by_cases h1:(gs.getD r 0,cls.getD r 0)=p
  ·rw [if_pos h1] at hp;by_cases h2:(gs.getD r 0,cls.getD r 0)=q
   ·rw [← h1,h2]
   ·rw [if_neg h2,← hp] at hq;obtain ⟨i,hi,he⟩:=h.range _ _ hq;injection he with _ he;omega
  ·rw [if_neg h1] at hp;by_cases h2:(gs.getD r 0,cls.getD r 0)=q
   ·rw [if_pos h2] at hq;rw [← hq] at hp;obtain ⟨i,hi,he⟩:=h.range _ _ hp;injection he with _ he;omega
   ·rw [if_neg h2] at hq;exact h.inj _ _ _ hp hq
 ·rw [mget_put] at hp;rw [mput_len,hm];by_cases h1:(gs.getD r 0,cls.getD r 0)=p
  ·rw [if_pos h1] at hp;injection hp with hp;exact ⟨m.length,by simp,hp.symm⟩
  ·rw [if_neg h1] at hp;obtain ⟨i,hi,he⟩:=h.range _ _ hp;exact ⟨i,by simp; omega,he⟩
theorem GRel.old {n r i:Nat} {gs cls cur:List Int} {m:List ((Int × Int) × Value)} (h:GRel n r gs cls cur m) (hr:r<n) (hm:mget m (gs.getD r 0,cls.getD r 0)=some (.int .i64 (i:Int))):GRel n (r+1) gs cls (cur.set r (i:Int)) m:=by
 have hl:=h.len;refine ⟨by simp [hl],fun j hj => ?_,fun j hj hn => ?_,h.inj,h.range⟩
 ·rw [getD_set];by_cases hjr:j=r
  ·subst hjr;rw [if_pos ⟨rfl,by omega⟩];exact hm
  ·rw [if_neg (fun e=>hjr e.1.symm)];exact h.done j (by omega)
 ·rw [getD_set,if_neg (fun e=>by omega)];exact h.rest j (by omega) hn
theorem GRel.fin {n k:Nat} {ls:List (List Int)} {gs cur:List Int} {m:List ((Int × Int) × Value)} (hk:k<ls.length) (h:GRel n n gs ls[k] cur m) (hg:GroupsOf n (ls.take k) gs):GroupsOf n (ls.take (k+1)) cur:=by
 refine ⟨h.len,fun i j hi hj => ?_⟩;have d1:=h.done i hi;have d2:=h.done j hj;have e:cur.getD i 0=cur.getD j 0↔(gs.getD i 0=gs.getD j 0∧ls[k].getD i 0=ls[k].getD j 0):=by
  constructor
  ·intro he;rw [he] at d1;have:=h.inj _ _ _ d1 d2;injection this with h1 h2;exact ⟨h1,h2⟩
  ·rintro ⟨h1,h2⟩;rw [h1,h2,d2] at d1;injection d1 with d1;injection d1 with _ d1;exact d1.symm
 rw [e,hg.same i j hi hj,List.take_succ_eq_append_getElem hk];constructor
 ·rintro ⟨h1,h2⟩ l hl
  rcases List.mem_append.1 hl with hl | hl
  ·exact h1 l hl
  ·simp at hl;subst hl;exact h2
 ·intro h1;exact ⟨fun l hl=>h1 l (List.mem_append_left _ hl),h1 _ (List.mem_append_right _ (List.mem_singleton.2 rfl))⟩

theorem table_groups (n:Nat) (ls:List (List Int)) (A:Option Addr) (ca:Nat) (w:World) (S:Nat→Prop) (hA:RIss w S A ls) (hl:∀ l∈ls,l.length=n) (hn:n≤4294967296) :
  Calls Tryz.prog 61 #[.int .i64 (n:Int),.slice A ls.length ca] w (RetG w n ls):=by
 have hal:=hA.1;have HA:=Hd hA;have HL:=Hd hl;clear hA hl;have hmk:=run_mkI n hn;have hmm:=@run_makeMap Tryz.prog
 go_enter Tryz.func61,Tryz.ntmps61
 go_wp2;clear hmk;have hst:=Blk.new w 3 (Array.replicate n (.int .i64 0));have hst2:((List.replicate n (0:Int)).map (Value.int .i64)).toArray=Array.replicate n (.int .i64 0):=(by simp);rw [← hst2] at hst;have HST:=Hd hst;rw [hst2] at HST;clear hst hst2
 go_loopw [17] (fun i wr=>∃ (k:Nat) (gs:List Int),k≤ls.length∧i=.int .i64 k∧Ext w wr∧Blk wr w.heap.size 3 (gs.map (Value.int .i64)).toArray∧GroupsOf n (ls.take k) gs) (fun i _=>ls.length-(intOf i).toNat)
 case atStart=>exact ⟨0,List.replicate n 0,Nat.zero_le _,rfl,(Ext.refl w).alloc _,by have h9:=HST.o; simpa using h9,by simp,by intro i j hi hj; simp [hi,hj]⟩
 case round =>
  clear HST;obtain ⟨k,gs,hk,rfl,hext,hblk,hgr⟩:=hrel;have HE:=Hd hext;have HBK:=Hd hblk;have HGR:=Hd hgr;have hgl:=hgr.len;have hwz:=hblk.lt;clear hblk hgr;by_cases hlt:k<ls.length
  ·obtain ⟨b1,o1,B2,c2,rfl,z0,p0',hcp,hint⟩:=HA.o.at_ hlt;have p0:=hext.cell p0';have z1:b1<wr.heap.size:=(by omega);have hcl:ls[k].length=n:=HL.o _ (List.getElem_mem hlt);have HINT:=Hd hint;have HGL:=Hd hgl;have HCL:=Hd hcl;clear hint hext hgl hcl;go_wp2;obtain ⟨wo,rfl⟩:∃ wo:World,wo=wr:=⟨_,rfl⟩;have HMP:=Hd (MapIs.made wo (fun p:Int × Int=>Value.agg #[.int .i64 p.1,.int .i64 p.2]));clear hmm
   go_loopw [24] (fun i wi=>∃ (r:Nat) (cur:List Int) (m:List ((Int × Int) × Value)),r≤n∧i=.int .i64 r∧Ext w wi∧wo.heap.size<wi.heap.size∧Blk wi w.heap.size 3 (cur.map (Value.int .i64)).toArray∧MapIs wi wo.heap.size (fun p:Int × Int=>Value.agg #[.int .i64 p.1,.int .i64 p.2]) m∧m.length≤r∧GRel n r gs ls[k] cur m) (fun i _=>n-(intOf i).toNat)
   case atStart=>exact ⟨0,gs,[],Nat.zero_le _,rfl,HE.o.alloc _,by simp,HBK.o.keep (Kept.alloc _ _ _),HMP.o,Nat.le_refl _,HGL.o,by intros; omega,fun _ _ _=>rfl,by intro p q v h; simp [mget,fnd] at h,by intro p v h; simp [mget,fnd] at h⟩
   case round =>
    clear HMP;obtain ⟨r,cur,m,hr,rfl,hexi,hszi,hbli,hmpi,hml,hrl⟩:=hrel;have HEI:=Hd hexi;have HBI:=Hd hbli;have HMI:=Hd hmpi;have HRI:=Hd hrl;have hcurl:=hrl.len;have HCUR:=Hd hcurl;clear hcurl hrl;by_cases hlt2:r<n
    ·have hrc:r<ls[k].length:=(by rw [HCL.o]; exact hlt2);obtain ⟨b2,o2,rfl,z2,d2⟩:=(HINT.o.keep (hexi.kept S)).at_ hrc;have hcell:wr.cell? ⟨w.heap.size,r,none⟩=some (.int .i64 (gs.getD r 0)):=by
      rw [← HRI.o.rest r (Nat.le_refl _) hlt2];refine hbli.cell ?_;have:r<cur.length:=(by rw [HCUR.o]; exact hlt2);simp [this]
     have hz5:=hbli.lt;obtain ⟨a,ha⟩:∃ a,a=gs.getD r 0:=⟨_,rfl⟩;obtain ⟨b,hb⟩:∃ b,b=ls[k][r]:=⟨_,rfl⟩;have hb2:b=ls[k].getD r 0:=(by rw [hb]; exact (getD_of ls[k] r 0 hrc).symm);rw [← ha] at hcell;rw [← hb] at d2;have HAB:=Hd (And.intro ha hb2);have hne:w.heap.size≠wr.heap.size:=(by omega);have hr1:(r:Int)<(n:Int):=(by omega);have hr2:(r:Int)<(ls[k].length:Int):=(by omega);have hr3:(0:Int)≤(r:Int):=(by omega);clear hexi hbli hmpi ha hb hb2;go_wp2
     go_region
     have hkw:∀ X:Nat→Prop,Kept X wr (wr.alloc (.cells #[.int .i64 a,.int .i64 b] 124)).drew:=fun X=>(Kept.alloc _ _ _).trans (Kept.drew _ _);have HBI2:=Hd (HBI.o.keep (hkw _));have HMI2:=Hd (HMI.o.keep (hkw _));have HBB:=Hd ((Blk.new wr 124 #[.int .i64 a,.int .i64 b]).keep (Kept.drew _ _));have HEI2:=Hd ((HEI.o.alloc (.cells #[.int .i64 a,.int .i64 b] 124)).drew);have hsW:(wr.alloc (.cells #[.int .i64 a,.int .i64 b] 124)).drew.heap.size=wr.heap.size+1:=(by simp);clear hkw hcell d2;generalize (wr.alloc (.cells #[.int .i64 a,.int .i64 b] 124)).drew=W at *;have hszW:wo.heap.size<W.heap.size:=(by omega);have hzW:wr.heap.size<W.heap.size:=(by omega);clear hsW;have hlk:(Instr.lookup 123 (.map (some wo.heap.size)) (.agg #[.int .i64 a,.int .i64 b]) true).run Tryz.prog W=.ok (.tuple #[(mget m (a,b)).getD (.int .i64 0),.bool (mget m (a,b)).isSome]) W:=MapIs.get2 HMI2.o Tryz.underlying123 (klPair Tryz.underlying124 Tryz.underlying3 (fun w=>by kernel_rfl)) (.int .i64 0) zeroI (a,b);have x0:=HBB.o.cell (i:=0) rfl;have x1:=HBB.o.cell (i:=1) rfl;have hgc:W.cell? ⟨w.heap.size,r,none⟩=some (.int .i64 (cur.getD r 0)):=by
      refine HBI2.o.cell ?_;have:r<cur.length:=(by rw [HCUR.o]; exact hlt2);simp [this]
     have hgf:=HBI2.o.frozen r;have hgz:=HBI2.o.lt;have hfin:∀ (W':World) (m':List ((Int × Int) × Value)) (g:Int),W.grownBy W' (some wo.heap.size)→MapIs W' wo.heap.size (fun p:Int × Int=>Value.agg #[.int .i64 p.1,.int .i64 p.2]) m'→m'.length≤r+1→GRel n (r+1) gs ls[k] (cur.set r g) m' →
       ∃ (cur':List Int) (m'':List ((Int × Int) × Value)),Ext w (W'.setCell ⟨w.heap.size,r,none⟩ (.int .i64 g))∧wo.heap.size<(W'.setCell ⟨w.heap.size,r,none⟩ (.int .i64 g)).heap.size∧Blk (W'.setCell ⟨w.heap.size,r,none⟩ (.int .i64 g)) w.heap.size 3 (cur'.map (Value.int .i64)).toArray∧MapIs (W'.setCell ⟨w.heap.size,r,none⟩ (.int .i64 g)) wo.heap.size (fun p:Int × Int=>Value.agg #[.int .i64 p.1,.int .i64 p.2]) m''∧m''.length≤r+1∧GRel n (r+1) gs ls[k] cur' m'':=by
      intro W' m' g hg hm hl2 hrl2;have hsz':=hg.size;refine ⟨cur.set r g,m',(HEI2.o.grown hg (fun b hb=>by injection hb with hb; omega)).set2 (Nat.le_refl _) _,by simp [World.setCell]; omega,?_,hm.keep (Kept.set2 (Kept.refl _ _) (by show ¬ (_=_); omega)),hl2,hrl2⟩;have:=(HBI2.o.keep (w':=W') (Kept.of_grown hg (by rintro b rfl _ e; injection e with e; omega))).set r (.int .i64 g);have he:(cur.map (Value.int .i64)).toArray.setIfInBounds r (.int .i64 g)=((cur.set r g).map (Value.int .i64)).toArray:=(by simp [List.map_set]);rw [he] at this;exact this
     have HFIN:=Hd hfin;clear hfin;cases hmg:mget m (a,b) with
     | none =>
      rw [hmg] at hlk;obtain ⟨w5,hup,hmap5,hg5⟩:=HMI2.o.put Tryz.underlying123 (klPair Tryz.underlying124 Tryz.underlying3 (fun w=>by kernel_rfl)) (a,b) (.int .i64 (m.length:Int));have hlen5:=MapIs.len HMI2.o (P:=Tryz.prog) Tryz.underlying123 3;have HMG:=Hd hmg;have HM5:=Hd hmap5;have HG5:=Hd hg5;have hc5:w5.cell? ⟨w.heap.size,r,none⟩=some (.int .i64 (cur.getD r 0)):=(by rw [World.cell?_of_block (hg5.block w.heap.size hgz (fun e=>by injection e with e; omega))]; exact hgc);have hf5:w5.frozen? ⟨w.heap.size,r,none⟩=false:=(by rw [World.frozen?_of_block (hg5.block w.heap.size hgz (fun e=>by injection e with e; omega))]; exact hgf);simp only [Option.getD_none,Option.isSome_none] at hlk;simp only at hup;clear hmg hmap5 hg5 hgc hgf;go_wp2;go_roundw
      case rel =>
       have hk5:mget m (gs.getD r 0,ls[k].getD r 0)=none:=(by rw [← HAB.o.1,← HAB.o.2]; exact HMG.o);have hm5:=HM5.o;rw [HAB.o.1,HAB.o.2] at hm5;obtain ⟨cur',m'',e1⟩:=HFIN.o w5 _ (m.length:Int) HG5.o hm5 (by rw [mput_len,hk5]; simp; omega) (HRI.o.new hlt2 hk5);exact ⟨r+1,cur',m'',by omega,by go_num,e1⟩
      case measure=>simp [intOf]; omega
     | some v =>
      obtain ⟨i,hi,rfl⟩:=HRI.o.range _ _ hmg;rw [hmg] at hlk;have HMG:=Hd hmg;simp only [Option.getD_some,Option.isSome_some] at hlk;clear hmg;go_wp2;go_roundw
      case rel =>
       have hk5:mget m (gs.getD r 0,ls[k].getD r 0)=some (.int .i64 (i:Int)):=(by rw [← HAB.o.1,← HAB.o.2]; exact HMG.o);obtain ⟨cur',m'',e1⟩:=HFIN.o W m (i:Int) (World.grownBy.refl W _) HMI2.o (by omega) (HRI.o.old hlt2 hk5);exact ⟨r+1,cur',m'',by omega,by go_num,e1⟩
      case measure=>simp [intOf]; omega
    ·obtain rfl:r=n:=by omega
     clear hexi hbli hmpi;go_wp2;go_roundw
     case rel=>exact ⟨k+1,cur,by omega,by go_num,HEI.o,HBI.o,GRel.fin hlt HRI.o HGR.o⟩
     case measure=>simp [intOf]; omega
  ·obtain rfl:k=ls.length:=by omega
   have hgg:=HGR.o;rw [List.take_of_length_le (Nat.le_refl _)] at hgg;have HGG:=Hd hgg;have HGL:=Hd hgl;clear hgg hgl hext;go_wp2;go_ret;refine ⟨gs,HGG.o,some ⟨w.heap.size,0,none⟩,n,by rw [HGL.o]; rfl,by rw [HGL.o]; exact Nat.le_refl _,⟨?_,by rw [HGL.o]; exact hn⟩,HE.o⟩;have:=HBK.o.rd.mono (T:=Fresh w) (fun i _ hi=>by unfold Fresh; omega)
   simpa using this

def OwnIss (w:World) (base:Nat) (X:Nat→Prop) (A:Option Addr) (c:Nat) (l:List (List Int)):Prop :=
 ∃ hs,Own w base 22 1 A l.length c hs∧∀ (i:Nat) (r:List Int),l[i]?=some r→∃ (B:Option Addr) (e:Nat),hs[i]?=some (Value.slice B r.length e)∧r.length≤e∧Ints w (fun b=>ob A≠some b∧X b) B r
theorem Ints.move {w w':World} {S T:Nat→Prop} {l:List Int} {B:Option Addr} (h:Ints w S B l) (k:Kept S w w') (m:∀ i,i<w.heap.size→S i→T i):Ints w' T B l :=
 ((Ints.mono h (T:=fun b=>S b∧T b) fun i hi hs=>⟨hs,m i hi hs⟩).keep (k.mono fun _ _ hh=>hh.1)).mono fun _ _ hh=>hh.2
theorem OwnIss.nil (w:World) (base:Nat) (X:Nat→Prop):OwnIss w base X none 0 []:=⟨[],Own.nil _ _ _ _,by simp⟩
theorem OwnIss.ext {w w':World} {base c:Nat} {X:Nat→Prop} {A:Option Addr} {l:List (List Int)} (h:OwnIss w base X A c l) (hx:Ext w w'):OwnIss w' base X A c l:=by
 obtain ⟨hs,h1,h2⟩:=h;refine ⟨hs,h1.ext hx,fun i r hr => ?_⟩;obtain ⟨B,e,h3,hcp,h4⟩:=h2 i r hr;exact ⟨B,e,h3,hcp,h4.keep (hx.kept _)⟩
theorem OwnIss.push {w w':World} {base c':Nat} {X:Nat→Prop} {A A':Option Addr} {l:List (List Int)} {r:List Int} {B:Option Addr} {e:Nat} {hs:List Value} (ho:hs.length=l.length)
  (hv:∀ (i:Nat) (r:List Int),l[i]?=some r→∃ (B:Option Addr) (e:Nat),hs[i]?=some (Value.slice B r.length e)∧r.length≤e∧Ints w (fun b=>ob A≠some b∧X b) B r)
  (hown:Own w' base 22 1 A' (l.length+1) c' (hs++[Value.slice B r.length e])) (hg:w.grownBy w' (ob A)) (hat:ob A'=ob A∨ob A'=some w.heap.size)
  (hre:r.length≤e) (hy:Ints w (fun b=>ob A≠some b∧X b) B r):OwnIss w' base X A' c' (l++[r]):=by
 have hk:Kept (fun b=>ob A≠some b∧X b) w w':=Kept.of_grown hg (fun b hb _ e=>hb.1 e.symm);have hm:∀ i,i<w.heap.size→(ob A≠some i∧X i)→(ob A'≠some i∧X i):=by
  rintro i hi ⟨h1,h2⟩;refine ⟨?_,h2⟩
  rcases hat with e | e <;> rw [e]
  ·exact h1
  ·intro h; injection h with h; omega
 refine ⟨_,by simpa using hown,fun i r' hr => ?_⟩
 rcases Nat.lt_or_ge i l.length with hlt | hge
 ·rw [List.getElem?_append_left hlt] at hr;obtain ⟨B',e',h3,hcp,h4⟩:=hv i r' hr;exact ⟨B',e',by rw [List.getElem?_append_left (by omega)]; exact h3,hcp,h4.move hk hm⟩
 ·rw [List.getElem?_append_right hge] at hr;have hj0:i-l.length=0:=by
   rcases Nat.eq_zero_or_pos (i-l.length) with h0 | h0
   ·exact h0
   ·rw [List.getElem?_eq_none (by simp; omega)] at hr;cases hr
  rw [hj0] at hr;simp at hr;subst hr;exact ⟨B,e,by rw [List.getElem?_append_right (by omega),ho,hj0]; rfl,hre,hy.move hk hm⟩
theorem OwnIss.riss {w:World} {base c:Nat} {X T:Nat→Prop} {A:Option Addr} {l:List (List Int)} (h:OwnIss w base X A c l) (hl:l.length≤4294967296) (h1:∀ b,ob A=some b→T b) (h2:∀ b,X b→T b):RIss w T A l:=by
 obtain ⟨hs,ho,hv⟩:=h;refine ⟨hl,hs,ho.rd.mono fun i _ hi=>h1 i hi,by simpa using ho.len,fun i r hr => ?_⟩;obtain ⟨B,e,h3,hcp,h4⟩:=hv i r hr;exact ⟨B,e,h3,hcp,h4.mono fun i _ hi=>h2 i hi.2⟩
theorem OwnIss.blk {w:World} {base c:Nat} {X:Nat→Prop} {A:Option Addr} {l:List (List Int)} (h:OwnIss w base X A c l) {k:Nat} (hk:ob A=some k):base≤k∧k<w.heap.size:=by
 obtain ⟨xs,ho,_⟩:=h;exact ho.blk hk
theorem infoIs:(Tryz.prog.info? 22).map (fun i=>(i.zero,i.size,i.bytes))=some (some (.slice none 0 0),1,24):=by kernel_rfl
theorem tiIs:TI Tryz.prog 86 22 1 24:=TI.mk_ Tryz.underlying86 infoIs rfl (by decide)

theorem class_eq (rows:List (List Val)) (c i j:Nat) (hi:i<rows.length) (hj:j<rows.length):(classesS rows c).getD i 0=(classesS rows c).getD j 0↔rows[i].getD c Val.zero=rows[j].getD c Val.zero:=by
 have gi:(classesS rows c).getD i 0=idxF (eqAt c rows[i]) rows:=(by simp [classesS,hi]);have gj:(classesS rows c).getD j 0=idxF (eqAt c rows[j]) rows:=(by simp [classesS,hj]);have hn:∀ k (hk:k<rows.length),0≤idxF (eqAt c rows[k]) rows:=by
  intro k hk;have:=idxF_any (eqAt c rows[k]) rows;rw [show rows.any (eqAt c rows[k])=true from List.any_eq_true.2 ⟨rows[k],List.getElem_mem hk,by simp [eqAt]⟩] at this;exact of_decide_eq_true this
 rw [gi,gj];constructor
 ·intro h;obtain ⟨a,ha,hal,hap,_⟩:=idxF_some (hn i hi);obtain ⟨b,hb,hbl,hbp,_⟩:=idxF_some (hn j hj);rw [ha,hb] at h;have:a=b:=(by omega);subst this;simp only [eqAt,decide_eq_true_eq] at hap hbp;rw [← hap,hbp]
 ·intro h;have:eqAt c rows[i]=eqAt c rows[j]:=by
   funext o
   simp only [eqAt,h]
  rw [this]
def holdRows (rows:List (List Val)) (fs:List Nat) (to:Nat):Bool:=rows.all fun r=>rows.all fun o => !(fs.all fun f=>eqAt f r o) || eqAt to r o
theorem holdRows_eq {rows:List (List Val)} {fs:List Nat} {to:Nat} {gs:List Int} (hg:GroupsOf rows.length (fs.map fun f=>classesS rows f) gs):consB gs (classesS rows to)=holdRows rows fs to:=by
 have hs:∀ i j (hi:i<rows.length) (hj:j<rows.length),(gs.getD i 0=gs.getD j 0↔∀ f∈fs,rows[i].getD f Val.zero=rows[j].getD f Val.zero):=by
  intro i j hi hj;rw [hg.same i j hi hj];constructor
  ·intro h f hf;exact (class_eq rows f i j hi hj).1 (h _ (List.mem_map_of_mem hf))
  ·intro h l hl;obtain ⟨f,hf,rfl⟩:=List.mem_map.1 hl;exact (class_eq rows f i j hi hj).2 (h f hf)
 rw [Bool.eq_iff_iff,consB_iff,hg.len];have hh:holdRows rows fs to=true↔∀ i j (hi:i<rows.length) (hj:j<rows.length),(∀ f∈fs,rows[i].getD f Val.zero=rows[j].getD f Val.zero)→rows[i].getD to Val.zero=rows[j].getD to Val.zero:=by
  unfold holdRows;simp only [List.all_eq_true,Bool.or_eq_true,Bool.not_eq_true',eqAt,decide_eq_true_eq];constructor
  ·intro h i j hi hj hf
   rcases h rows[j] (List.getElem_mem hj) rows[i] (List.getElem_mem hi) with h1 | h1
   ·rw [List.all_eq_false] at h1;obtain ⟨f,hf1,hf2⟩:=h1;exact absurd (hf f hf1) (by simpa using hf2)
   ·exact h1
  ·intro h r hr o ho;obtain ⟨j,hj,rfl⟩:=List.mem_iff_getElem.1 hr;obtain ⟨i,hi,rfl⟩:=List.mem_iff_getElem.1 ho;by_cases hf:∀ f∈fs,rows[i].getD f Val.zero=rows[j].getD f Val.zero
   ·exact Or.inr (h i j hi hj hf)
   ·left;rw [List.all_eq_false];simp only [Classical.not_forall] at hf;obtain ⟨f,hf1,hf2⟩:=hf;exact ⟨f,hf1,by simpa using hf2⟩
 rw [hh];constructor
 ·intro h i j hi hj hf
  rcases Nat.lt_trichotomy i j with hlt | rfl | hlt
  ·exact ((class_eq rows to j i hj hi).1 (h j i hj hlt ((hs j i hj hi).2 (fun f hf1=>(hf f hf1).symm)))).symm
  ·rfl
  ·exact (class_eq rows to i j hi hj).1 (h i j hi hlt ((hs i j hi hj).2 hf))
 ·intro h i j hi hj he;exact (class_eq rows to i j hi (by omega)).2 (h i j hi (by omega) ((hs i j hi (by omega)).1 he))
def holdsS (cols:List ByteArray) (rows:List (List Val)) (frm:List ByteArray) (to:ByteArray):Bool :=
 decide (0≤idxS cols to) && regB cols rows && frm.all (fun f=>decide (0≤idxS cols f)) && holdRows rows (frm.map fun f=>(idxS cols f).toNat) (idxS cols to).toNat

theorem table_Holds (q:Nat) (cols:List ByteArray) (rows:List (List Val)) (frm:List ByteArray) (to:ByteArray) (A B C:Option Addr) (ca cb cc:Nat) (w:World) (S T U:Nat→Prop) (hA:Strs w S A cols) (hB:Rows w T q B rows) (hC:Strs w U C frm) :
  Calls Tryz.prog 25 #[.slice A cols.length ca,.slice B rows.length cb,.agg #[.slice C frm.length cc,.string to]] w (RetB w (holdsS cols rows frm to)):=by
 have hcl:=hA.2.1;have hrl:=hB.len;have hfl:=hC.2.1;have HA:=Hd hA;have HB:=Hd hB;have HC:=Hd hC;clear hA hB hC;have HX0:=Hd ((Ext.refl w).alloc (.cells #[.slice C frm.length cc,.string to] 59));by_cases ht:0≤idxS cols to
 case neg =>
  have HF:=Hd (show holdsS cols rows frm to=false by unfold holdsS; rw [decide_eq_false ht]; rfl)
  go_enter Tryz.func25,Tryz.ntmps25
  go_wp2_with (go_at_call 32; refine (slices_Index _ _ _ _ _ S (HA.o.keep (HX0.o.kept S))).mono ?_; rintro e w' ⟨rfl,rfl⟩)
  go_ret;exact ⟨by rw [HF.o]; rfl,HX0.o⟩
 obtain ⟨tn,ht1,ht2,-⟩:=idxS_at ht;cases hrg:regB cols rows
 ·have HF:=Hd (show holdsS cols rows frm to=false by unfold holdsS; rw [hrg]; simp);have HRG:=Hd hrg;clear hrg ht1
  go_enter Tryz.func25,Tryz.ntmps25
  go_wp2_with (first | (go_at_call 32; refine (slices_Index _ _ _ _ _ S (HA.o.keep (HX0.o.kept S))).mono ?_; rintro e w' ⟨rfl,rfl⟩) | (go_at_call 45; refine (table_regular q cols rows _ _ _ _ _ T hcl (HB.o.keep (HX0.o.kept T))).mono ?_; rintro e w' ⟨rfl,rfl⟩; rw [HRG.o]))
  go_ret;exact ⟨by rw [HF.o]; rfl,HX0.o⟩
 have HRG:=Hd hrg;have HT1:=Hd ht1;have hrow:∀ c,c<cols.length→∀ j (h:j<rows.length),c<rows[j].length:=by
  intro c hc j hj;have:=hrg;unfold regB at this;rw [List.all_eq_true] at this;have h9:=this rows[j] (List.getElem_mem hj);simp at h9;omega
 have HROW:=Hd hrow;clear hrg ht1 hrow ht
 go_enter Tryz.func25,Tryz.ntmps25
 go_wp2_with fail
 refine (slices_Index _ _ _ _ _ S (HA.o.keep (HX0.o.kept S))).mono ?_;rintro e w' ⟨rfl,rfl⟩;rw [HT1.o]
 go_wp2_with (go_at_call 45; refine (table_regular q cols rows _ _ _ _ _ T hcl (HB.o.keep (HX0.o.kept T))).mono ?_; rintro e w' ⟨rfl,rfl⟩; rw [HRG.o])
 go_loopw [27,8] (fun i v wr=>∃ (k:Nat) (A':Option Addr) (c':Nat),k≤frm.length∧i=.int .i64 k∧v=.slice A' k c'∧Ext w wr∧w.heap.size+1≤wr.heap.size∧(∀ j (h:j<frm.length),j<k→0≤idxS cols frm[j])∧OwnIss wr (w.heap.size+1) (fun b=>w.heap.size+1≤b) A' c' ((frm.map fun f=>classesS rows (idxS cols f).toNat).take k)) (fun i _ _=>frm.length-(intOf i).toNat)
 case atStart=>exact ⟨0,none,0,Nat.zero_le _,rfl,rfl,HX0.o,by simp,by intros; omega,OwnIss.nil _ _ _⟩
 case round =>
  obtain ⟨k,A',c',hk,rfl,rfl,hext,hsz,hall,hown⟩:=hrel;have HE:=Hd hext;have HALL:=Hd hall;have HO:=Hd hown;have hml:(frm.map fun f=>classesS rows (idxS cols f).toNat).length=frm.length:=(by simp);have HML:=Hd hml;clear hall hown hml;by_cases hlt:k<frm.length
  ·obtain ⟨b1,o1,rfl,z1,c1⟩:=(HC.o.keep (hext.kept U)).at_ hlt;clear hext;by_cases hf:0≤idxS cols frm[k]
   ·obtain ⟨fn,hf1,hf2,-⟩:=idxS_at hf;have HF1:=Hd hf1;clear hf1 hf
    go_wp2_with fail
    refine (slices_Index _ _ _ _ _ S (HA.o.keep (HE.o.kept S))).mono ?_;rintro e w' ⟨rfl,rfl⟩;rw [HF1.o]
    go_wp2_with fail
    refine (table_classes q rows _ _ fn _ T (HB.o.keep (HE.o.kept T)) (HROW.o fn hf2)).mono ?_;rintro e w1 ⟨A1,c1',rfl,hcp1,hi1,hx1⟩;have HX1:=Hd hx1;have hsz1:=hx1.size;have HI1:=Hd hi1;clear hx1 hi1;have hval:(frm.map fun f=>classesS rows (idxS cols f).toNat)[k]'(by rw [HML.o]; exact hlt)=classesS rows fn:=(by simp [HF1.o]);have HVAL:=Hd hval;have hlk:((frm.map fun f=>classesS rows (idxS cols f).toNat).take k).length=k:=(by rw [List.length_take,HML.o]; omega);obtain ⟨hs,ho,hv⟩:=HO.o.ext (HX1.o.alloc (.cells #[.slice A1 (classesS rows fn).length c1'] 22));have hhs:hs.length=k:=(by have:=ho.len; rw [hlk] at this; omega);rw [hlk] at ho;have HOWN:=Hd ho;have HV:=Hd hv;have HHS:=Hd hhs;have HLK:=Hd hlk;clear ho hv hhs hlk hval
    go_wp2_with (at_builtin; go_must (refine wpList_app rfl (.tmp 36) (.tmp 40) rfl tiIs rfl HOWN.o rfl (Blk.rd (Blk.new _ _ _)) rfl (by simp [Value.oneCell']) (by omega) (by decide) (by simp; omega) ?_); intro A4 c4 w4 hown4 hg4 hat4)
    go_roundw
    case rel =>
     have hsz4:=hg4.size;simp at hsz4;refine ⟨k+1,A4,c4,by omega,by go_num,rfl,Ext.grown (HE.o.trans (HX1.o.alloc _)) hg4 (fun b hb=>by have:=(HOWN.o.blk hb).1; omega),by omega,fun j h hj => ?_,?_⟩
     ·by_cases hjk:j=k
      ·subst hjk; rw [HF1.o]; omega
      ·exact HALL.o j h (by omega)
     ·rw [List.take_succ_eq_append_getElem (by rw [HML.o]; exact hlt),HVAL.o];refine OwnIss.push (by rw [HLK.o]; exact HHS.o) HV.o (by rw [HLK.o]; exact hown4) hg4 hat4 hcp1 ((HI1.o.keep (Kept.alloc _ _ _)).mono fun i _ hi=>⟨fun h0 => ?_,?_⟩)
      ·have:=(HO.o.blk h0).2;unfold Fresh at hi;omega
      ·unfold Fresh at hi;omega
    case measure=>simp [intOf]; omega
   ·have HF:=Hd (show holdsS cols rows frm to=false by
     unfold holdsS;rw [all_not frm _ k hlt (by simpa using hf)];simp)
    go_wp2_with (go_at_call 32; refine (slices_Index _ _ _ _ _ S (HA.o.keep (HE.o.kept S))).mono ?_; rintro e w' ⟨rfl,rfl⟩)
    go_ret;exact ⟨by rw [HF.o]; rfl,HE.o⟩
  ·obtain rfl:k=frm.length:=by omega
   have hoo:=HO.o;rw [List.take_of_length_le (by rw [HML.o]; exact Nat.le_refl _)] at hoo;have HRS:=Hd (hoo.riss (T:=fun _=>True) (by rw [HML.o]; exact hfl) (fun _ _=>trivial) (fun _ _=>trivial));clear hoo hext;have hgl:=table_groups rows.length (frm.map fun f=>classesS rows (idxS cols f).toNat) A' c' wr (fun _=>True) HRS.o (fun l hl=>by obtain ⟨f,_,rfl⟩:=List.mem_map.1 hl; simp [classesS]) hrl;rw [HML.o] at hgl;have HGL:=Hd hgl;clear hgl
   go_wp2_with fail
   refine HGL.o.mono ?_;rintro e w1 ⟨gs,hgo,A1,c1,rfl,hcp1,hi1,hx1⟩;have HX1:=Hd hx1;have HGO:=Hd hgo;have HI1:=Hd hi1;have hgsl:=hgo.len;have HGSL:=Hd hgsl;clear hx1 hgo hi1 hgsl
   go_wp2_with fail
   refine (table_classes q rows _ _ tn _ T (HB.o.keep ((HE.o.trans HX1.o).kept T)) (HROW.o tn ht2)).mono ?_;rintro e w2 ⟨A2,c2,rfl,hcp2,hi2,hx2⟩;have HX2:=Hd hx2;have HI2:=Hd hi2;clear hx2 hi2
   go_wp2_with fail
   refine (table_decides gs (classesS rows tn) A1 A2 c1 c2 _ (Fresh wr) (Fresh w1) (HI1.o.keep (HX2.o.kept _)) HI2.o (by rw [HGSL.o]; simp [classesS])).mono ?_;rintro e w3 ⟨rfl,hx3⟩;have HX3:=Hd hx3;clear hx3;have HF:=Hd (show consB gs (classesS rows tn)=holdsS cols rows frm to by
    unfold holdsS;rw [HRG.o,HT1.o,all_take frm _ (fun j h=>by simpa using HALL.o j h h),decide_eq_true (by omega:(0:Int)≤(tn:Int))];simp only [Bool.true_and,Int.toNat_natCast];refine holdRows_eq ?_;have:=HGO.o;rwa [List.map_map])
   go_wp2;go_ret;exact ⟨by rw [← HF.o]; rfl,HE.o.trans (HX1.o.trans (HX2.o.trans HX3.o))⟩
end Go.Proofs.YthmckfloppblcaaGreatDoor
namespace Go.Proofs
open Go.RowKit Go.Maps Go.Sort Go.Shelf
def Tryz.keys57_ren:Go.Shelf.Ren:=⟨fun | 7=>57 | 10=>81 | n=>n,fun | 23=>94 | 26=>9 | 3=>4 | 28=>99 | 0=>0 | 27=>98 | 33=>95 | 4=>4 | n=>n,fun | n=>n⟩
theorem Tryz.keys57:Go.Proofs.SlLaysZ.n7 Tryz.prog Tryz.keys57_ren:={
  mixed:=by kernel_rfl
  f7:=⟨Tryz.f57.name,by decide,Tryz.func57.trans (congrArg some (by kernel_rfl))⟩
  f10:=⟨Tryz.f81.name,by decide,Tryz.func81.trans (congrArg some (by kernel_rfl))⟩
  t0:=Tryz.underlying0
  a0:=Tryz.isAgg0
  z0:=Tryz.sizeOf0
  v0:=Tryz.zeroValue0
  t4:=Tryz.underlying4
  a4:=Tryz.isAgg4
  z4:=Tryz.sizeOf4
  v4:=Tryz.zeroValue4
  t23:=Tryz.underlying94
  a23:=Tryz.isAgg94
  z23:=Tryz.sizeOf94
  v23:=Tryz.zeroValue94
  t26:=Tryz.underlying9
  a26:=Tryz.isAgg9
  z26:=Tryz.sizeOf9
  v26:=Tryz.zeroValue9
  t27:=Tryz.underlying98
  a27:=Tryz.isAgg98
  z27:=Tryz.sizeOf98
  v27:=Tryz.zeroValue98
  t28:=Tryz.underlying99
  a28:=Tryz.isAgg99
  z28:=Tryz.sizeOf99
  v28:=Tryz.zeroValue99
  t33:=Tryz.underlying95
  a33:=Tryz.isAgg95
  z33:=Tryz.sizeOf95
  v33:=Tryz.zeroValue95 }
def Tryz.sorted56_ren:Go.Shelf.Ren:=⟨fun | 6=>56 | 8=>79 | 9=>80 | 11=>109 | 13=>111 | 12=>110 | 23=>136 | 24=>137 | 14=>127 | 15=>128 | 16=>129 | 17=>130 | 18=>131 | 19=>132 | 20=>133 | 21=>134 | 22=>135 | 25=>153 | 26=>154 | 27=>155 | 28=>156 | 29=>157 | 30=>158 | 31=>179 | n=>n,fun | 26=>9 | 28=>99 | 24=>28 | 0=>0 | 3=>3 | 37=>146 | 48=>168 | 50=>152 | 4=>4 | 40=>161 | 39=>160 | 45=>122 | 5=>5 | 9=>9 | 51=>193 | 55=>197 | 57=>213 | 58=>116 | 33=>95 | n=>n,fun | n=>n⟩
theorem Tryz.sorted56:Go.Proofs.SlLaysZ.n6 Tryz.prog Tryz.sorted56_ren:={
  mixed:=by kernel_rfl
  f6:=⟨Tryz.f56.name,by decide,Tryz.func56.trans (congrArg some (by kernel_rfl))⟩
  f8:=⟨Tryz.f79.name,by decide,Tryz.func79.trans (congrArg some (by kernel_rfl))⟩
  f11:=⟨Tryz.f109.name,by decide,Tryz.func109.trans (congrArg some (by kernel_rfl))⟩
  t0:=Tryz.underlying0
  a0:=Tryz.isAgg0
  z0:=Tryz.sizeOf0
  v0:=Tryz.zeroValue0
  t24:=Tryz.underlying28
  a24:=Tryz.isAgg28
  z24:=Tryz.sizeOf28
  v24:=Tryz.zeroValue28
  t26:=Tryz.underlying9
  a26:=Tryz.isAgg9
  z26:=Tryz.sizeOf9
  v26:=Tryz.zeroValue9
  t28:=Tryz.underlying99
  a28:=Tryz.isAgg99
  z28:=Tryz.sizeOf99
  v28:=Tryz.zeroValue99
  i26:=by kernel_rfl }
def Tryz.sort80_ren:Go.Shelf.Ren:=⟨fun | 6=>80 | 8=>111 | 9=>110 | 19=>136 | 20=>137 | 21=>127 | 22=>128 | 23=>129 | 24=>130 | 25=>131 | 26=>132 | 27=>133 | 28=>134 | 29=>135 | 36=>153 | 31=>154 | 32=>155 | 37=>156 | 38=>157 | 39=>158 | 41=>179 | n=>n,fun | 27=>28 | 29=>9 | 3=>3 | 32=>146 | 26=>28 | 0=>0 | 44=>168 | 46=>152 | 4=>4 | 36=>161 | 35=>160 | 41=>122 | 5=>5 | 9=>9 | 53=>193 | 57=>197 | 63=>213 | 64=>116 | n=>n,fun | n=>n⟩
theorem Tryz.sort80:Go.Proofs.SlLaysM.n6 Tryz.prog Tryz.sort80_ren:={
  mixed:=by kernel_rfl
  f6:=⟨Tryz.f80.name,by decide,Tryz.func80.trans (congrArg some (by kernel_rfl))⟩
  f8:=Tryz.func111.trans (congrArg some (by kernel_rfl))
  f9:=⟨Tryz.f110.name,by decide,Tryz.func110.trans (congrArg some (by kernel_rfl))⟩
  f19:=Tryz.func136.trans (congrArg some (by kernel_rfl))
  f20:=Tryz.func137.trans (congrArg some (by kernel_rfl))
  f21:=⟨Tryz.f127.name,by decide,Tryz.func127.trans (congrArg some (by kernel_rfl))⟩
  f22:=⟨Tryz.f128.name,by decide,Tryz.func128.trans (congrArg some (by kernel_rfl))⟩
  f23:=⟨Tryz.f129.name,by decide,Tryz.func129.trans (congrArg some (by kernel_rfl))⟩
  f24:=⟨Tryz.f130.name,by decide,Tryz.func130.trans (congrArg some (by kernel_rfl))⟩
  f25:=⟨Tryz.f131.name,by decide,Tryz.func131.trans (congrArg some (by kernel_rfl))⟩
  f26:=⟨Tryz.f132.name,by decide,Tryz.func132.trans (congrArg some (by kernel_rfl))⟩
  f27:=⟨Tryz.f133.name,by decide,Tryz.func133.trans (congrArg some (by kernel_rfl))⟩
  f28:=⟨Tryz.f134.name,by decide,Tryz.func134.trans (congrArg some (by kernel_rfl))⟩
  f29:=⟨Tryz.f135.name,by decide,Tryz.func135.trans (congrArg some (by kernel_rfl))⟩
  f31:=Tryz.func154.trans (congrArg some (by kernel_rfl))
  f32:=Tryz.func155.trans (congrArg some (by kernel_rfl))
  f36:=⟨Tryz.f153.name,by decide,Tryz.func153.trans (congrArg some (by kernel_rfl))⟩
  f37:=⟨Tryz.f156.name,by decide,Tryz.func156.trans (congrArg some (by kernel_rfl))⟩
  f38:=⟨Tryz.f157.name,by decide,Tryz.func157.trans (congrArg some (by kernel_rfl))⟩
  f39:=⟨Tryz.f158.name,by decide,Tryz.func158.trans (congrArg some (by kernel_rfl))⟩
  f41:=⟨Tryz.f179.name,by decide,Tryz.func179.trans (congrArg some (by kernel_rfl))⟩
  t0:=Tryz.underlying0
  a0:=Tryz.isAgg0
  z0:=Tryz.sizeOf0
  v0:=Tryz.zeroValue0
  t3:=Tryz.underlying3
  a3:=Tryz.isAgg3
  z3:=Tryz.sizeOf3
  v3:=Tryz.zeroValue3
  t4:=Tryz.underlying4
  a4:=Tryz.isAgg4
  z4:=Tryz.sizeOf4
  v4:=Tryz.zeroValue4
  t5:=Tryz.underlying5
  a5:=Tryz.isAgg5
  z5:=Tryz.sizeOf5
  v5:=Tryz.zeroValue5
  t9:=Tryz.underlying9
  a9:=Tryz.isAgg9
  z9:=Tryz.sizeOf9
  v9:=Tryz.zeroValue9
  t26:=Tryz.underlying28
  a26:=Tryz.isAgg28
  z26:=Tryz.sizeOf28
  v26:=Tryz.zeroValue28
  t27:=Tryz.underlying28
  a27:=Tryz.isAgg28
  z27:=Tryz.sizeOf28
  v27:=Tryz.zeroValue28
  t29:=Tryz.underlying9
  a29:=Tryz.isAgg9
  z29:=Tryz.sizeOf9
  v29:=Tryz.zeroValue9
  t32:=Tryz.underlying146
  a32:=Tryz.isAgg146
  z32:=Tryz.sizeOf146
  v32:=Tryz.zeroValue146
  t35:=Tryz.underlying160
  a35:=Tryz.isAgg160
  z35:=Tryz.sizeOf160
  v35:=Tryz.zeroValue160
  t36:=Tryz.underlying161
  a36:=Tryz.isAgg161
  z36:=Tryz.sizeOf161
  v36:=Tryz.zeroValue161
  t41:=Tryz.underlying122
  a41:=Tryz.isAgg122
  z41:=Tryz.sizeOf122
  v41:=Tryz.zeroValue122
  t44:=Tryz.underlying168
  a44:=Tryz.isAgg168
  z44:=Tryz.sizeOf168
  v44:=Tryz.zeroValue168
  t46:=Tryz.underlying152
  a46:=Tryz.isAgg152
  z46:=Tryz.sizeOf152
  v46:=Tryz.zeroValue152
  t53:=Tryz.underlying193
  a53:=Tryz.isAgg193
  z53:=Tryz.sizeOf193
  v53:=Tryz.zeroValue193
  t57:=Tryz.underlying197
  a57:=Tryz.isAgg197
  z57:=Tryz.sizeOf197
  v57:=Tryz.zeroValue197
  t63:=Tryz.underlying213
  a63:=Tryz.isAgg213
  z63:=Tryz.sizeOf213
  v63:=Tryz.zeroValue213
  t64:=Tryz.underlying116
  a64:=Tryz.isAgg116
  z64:=Tryz.sizeOf116
  v64:=Tryz.zeroValue116 }


theorem Tryz.sorts56 (m:Nat):AnyZ.SortsIn Tryz.prog Tryz.sorted56_ren Fence.wide m :=
  ⟨fun blk off cap ss W hH hblk hsz=>callsIn_wide.2 (AnyM.slices_Sort_string Tryz.sort80 blk off cap ss W hH hblk hsz),
   fun p cap W=>callsIn_wide.2 (AnyM.slices_Sort_string_none Tryz.sort80 p cap W)⟩

theorem Tryz.maps_Keys_57 (mb:Option Nat) (W:World):CallsIn Fence.wide 5 Tryz.prog 57 #[.map mb] W fun e w'=>e=.returned (.func (.func 81) #[] #[.pointer (some ⟨W.heap.size,0,none⟩)])∧w'=W.alloc (.cells #[.map mb] 94) :=
  AnyZ.keys_in Tryz.keys57 Fence.wide 5 trivial rfl mb W

theorem Tryz.slices_Sorted_keys_56_57 {H:Type} (b nn:Nat) (D0:DataW H) (R:Value→Option (DataW H × List MemPlace)) (w:World) (hown:w.ownsMap Tryz.prog 9 R b nn D0) (hmax:Maps.size D0≤maxLen) (hbytes:Maps.size D0*16≤140737488355328) :
    CallsIn Fence.wide 5 Tryz.prog 56 #[.func (.func 81) #[] #[.pointer (some ⟨w.heap.size,0,none⟩)]] (w.alloc (.cells #[.map (some b)] 94)) fun e w'=>∃ (v:Value) (ss:List (List UInt8)),e=.returned v∧ss.Perm (strKeys D0) ∧
      w'.ownsRow (w.alloc (.cells #[.map (some b)] 94)).heap.size 9 1 v ss.length ((ss.mergeSort (fun x y=>decide (x≤y))).map encStr)∧(v=.slice none 0 0↔ss=[])∧Below (w.alloc (.cells #[.map (some b)] 94)).heap.size (w.alloc (.cells #[.map (some b)] 94)) w':=by
  have hbl:=hown.lt
  have hseq:SeqGives Fence.wide 2 Tryz.prog 81 #[.pointer (some ⟨w.heap.size,0,none⟩)] encStr (fun ss=>ss.Perm (strKeys D0)) (Maps.size D0) (w.alloc (.cells #[.map (some b)] 94)) :=
    AnyZ.keys_gives (ρ:=Tryz.keys57_ren) { Tryz.keys57 with } Fence.wide _ trivial rfl (by omega) w.heap.size b nn D0 _ (by simp) (by simp) (by
      obtain ⟨es,clock,hb,Ft,hs,hD⟩:=hown
      exact ⟨es,clock,(Below.heap_alloc _ _ b hbl).trans hb,Ft,hs,hD⟩)
  exact AnyZ.sorted_in Tryz.sorted56 Fence.wide 5 trivial trivial trivial trivial rfl (by omega) (Tryz.sorts56 _) (enters_of Tryz.func80 (by kernel_rfl) rfl) 81 #[.pointer (some ⟨w.heap.size,0,none⟩)] trivial (enters_of Tryz.func81 (by kernel_rfl) rfl) _ _ hmax hbytes _ hseq

end Go.Proofs
namespace Go.Proofs.YthmckfloppblcaaGreatDoor
open Go Go.RowKit Go.MapKept Go.Maps

def sortS (l:List ByteArray):List ByteArray:=((l.map fun s=>s.data.toList).mergeSort fun x y=>decide (x≤y)).map fun b=>⟨b.toArray⟩
theorem sort_perm {l l':List (List UInt8)} (h:l.Perm l'):l.mergeSort (fun x y=>decide (x≤y))=l'.mergeSort (fun x y=>decide (x≤y)):=by
 have tr:∀ a b c:List UInt8,decide (a≤b)=true→decide (b≤c)=true→decide (a≤c)=true:=by
  intro a b c h1 h2;simp only [decide_eq_true_eq] at *;exact List.le_trans h1 h2
 have tot:∀ a b:List UInt8,(decide (a≤b) || decide (b≤a))=true:=by
  intro a b;simp only [Bool.or_eq_true,decide_eq_true_eq];exact List.le_total a b
 have s1:=List.pairwise_mergeSort tr tot l;have s2:=List.pairwise_mergeSort tr tot l';have hp:(l.mergeSort fun x y=>decide (x≤y)).Perm (l'.mergeSort fun x y=>decide (x≤y)):=((List.mergeSort_perm l _).trans h).trans (List.mergeSort_perm l' _).symm;refine hp.eq_of_pairwise ?_ s1 s2;intro a b _ _ h1 h2;simp only [decide_eq_true_eq] at h1 h2;exact List.le_antisymm h1 h2

theorem MapIs.owns {w:World} {b:Nat} {m:List (ByteArray × Value)} (h:MapIs w b (fun s:ByteArray=>Value.string s) m) (hb:∀ p∈m,p.2=.bool true) (hk:∀ p∈m,p.1.size≤4294967296) (hm:m.length≤4294967296) :
  ∃ D0:DataW Unit,w.ownsMap Tryz.prog 9 (plainElem Tryz.prog 4) b m.length D0∧(strKeys D0).Perm (m.map fun p=>p.1.data.toList)∧Maps.size D0=m.length:=by
 obtain ⟨es,cl,h1,h2,hst⟩:=h;have hl:es.size=m.length:=by
  have:=congrArg List.length h2
  simpa using this
 have hrd:∀ x∈es.toList,∃ p∈m,x.key=.string p.1∧WideElems.rd (H:=Unit) Tryz.prog 9 (plainElem Tryz.prog 4) x=some (.string p.1.data.toList,.lit (.bool true)):=by
  intro x hx;have h5:(x.key,x.val)∈es.toList.map (fun e=>(e.key,e.val)):=List.mem_map_of_mem hx;rw [h2] at h5;obtain ⟨p,hp,hpe⟩:=List.mem_map.1 h5;injection hpe with hpe1 hpe2;refine ⟨p,hp,hpe1.symm,?_⟩;have hkk:=_root_.Go.WideMaps.keyOf_string_mk (P:=Tryz.prog) Tryz.underlying9 (s:=p.1) (by have:=hk p hp; unfold maxLen; omega);unfold WideElems.rd;rw [← hpe1,hkk,← hpe2,hb p hp];simp [plainElem,Tryz.underlying4]
 refine ⟨_,⟨es,cl,h1,⟨by rw [hl]; unfold maxLen; omega,hst,fun x hx => ?_⟩,by omega,rfl⟩,?_,?_⟩
 ·obtain ⟨p,_,_,hr⟩:=hrd x hx;exact ⟨_,hr⟩
 ·show (((es.toList.map (WideElems.rg Tryz.prog 9 (plainElem Tryz.prog 4))).foldr DataW.insert []).map fun p=>strOf p.1).Perm _;refine ((WideShapes.sorted_perm _).map _).trans ?_;have:((es.toList.map (WideElems.rg (H:=Unit) Tryz.prog 9 (plainElem Tryz.prog 4))).map fun p=>strOf p.1)=m.map fun p=>p.1.data.toList:=by
   rw [List.map_map];have e1:es.toList.map ((fun p=>strOf p.1) ∘ WideElems.rg (H:=Unit) Tryz.prog 9 (plainElem Tryz.prog 4))=(es.toList.map (fun e=>(e.key,e.val))).map (fun q=>match q.1 with | .string s=>s.data.toList | _=>[]):=by
    rw [List.map_map];refine List.map_congr_left fun x hx => ?_;obtain ⟨p,_,hkey,hr⟩:=hrd x hx;simp [WideElems.rg,hr,hkey,strOf]
   rw [e1,h2,List.map_map];rfl
  rw [this]
 ·have:(((es.toList.map (WideElems.rg (H:=Unit) Tryz.prog 9 (plainElem Tryz.prog 4))).foldr DataW.insert [])).length=es.size:=by
   rw [(WideShapes.sorted_perm _).length_eq];simp
  simpa [Maps.size,hl] using this

theorem maps_Keys (b:Nat) (w:World):Calls Tryz.prog 57 #[.map (some b)] w fun e w' =>
  e=.returned (.func (.func 81) #[] #[.pointer (some ⟨w.heap.size,0,none⟩)])∧w.alloc (.cells #[.map (some b)] 94)=w' :=
 (callsIn_wide.1 (Tryz.maps_Keys_57 (some b) w)).mono fun _ _ ⟨h1,h2⟩=>⟨h1,h2.symm⟩

theorem slices_Sorted (b:Nat) (m:List (ByteArray × Value)) (w:World) (h:MapIs w b (fun s:ByteArray=>Value.string s) m) (hb:∀ p∈m,p.2=.bool true) (hk:∀ p∈m,p.1.size≤4294967296) (hm:m.length≤4294967296) :
  Calls Tryz.prog 56 #[.func (.func 81) #[] #[.pointer (some ⟨w.heap.size,0,none⟩)]] (w.alloc (.cells #[.map (some b)] 94))
   (RetSs (w.alloc (.cells #[.map (some b)] 94)) (sortS (m.map (·.1)))):=by
 obtain ⟨D0,ho,hp,hs⟩:=h.owns hb hk hm;refine (callsIn_wide.1 (Tryz.slices_Sorted_keys_56_57 b m.length D0 _ w ho (by rw [hs]; unfold maxLen; omega) (by rw [hs]; omega))).mono ?_;rintro e w' ⟨v,ss,rfl,hperm,hrow,_,hbel⟩;have hss:ss.mergeSort (fun x y=>decide (x≤y))=((m.map (·.1)).map fun s=>s.data.toList).mergeSort (fun x y=>decide (x≤y)):=by
  refine sort_perm (hperm.trans ?_);rw [List.map_map];exact hp
 have hmap:(ss.mergeSort (fun x y=>decide (x≤y))).map encStr=(sortS (m.map (·.1))).map Value.string:=by
  rw [hss];unfold sortS;generalize (((m.map (·.1)).map fun s=>s.data.toList).mergeSort fun x y=>decide (x≤y))=l;rw [List.map_map];rfl
 have hlen:ss.length=(sortS (m.map (·.1))).length:=by
  have:=congrArg List.length hmap
  simpa using this
 rw [hmap,hlen] at hrow;have hform:∃ A c,v=.slice A (sortS (m.map (·.1))).length c:=by
  rcases hrow.2 with ⟨hv,h0⟩ | ⟨g,cap,cur,hv,_⟩
  ·exact ⟨none,0,by rw [hv,h0]⟩
  ·exact ⟨_,_,hv⟩
 obtain ⟨A,c,rfl⟩:=hform;refine ⟨A,c,rfl,Own.cap hrow,⟨Rd.of_own hrow,?_,?_⟩,hbel⟩
 ·have:(sortS (m.map (·.1))).length=m.length:=(by simp [sortS]);omega
 ·intro s hs2;unfold sortS at hs2;obtain ⟨l,hl,rfl⟩:=List.mem_map.1 hs2;have hl2:=(List.mergeSort_perm _ _).mem_iff.1 hl;obtain ⟨t,ht,rfl⟩:=List.mem_map.1 hl2;obtain ⟨p,hp2,rfl⟩:=List.mem_map.1 ht;have h9:=hk p hp2;have h8:(⟨p.1.data.toList.toArray⟩:ByteArray)=p.1:=(by cases p.1; simp);rw [h8];exact h9

structure Dep where
 frm:List ByteArray
 to:ByteArray
def RDeps (w:World) (S:Nat→Prop) (A:Option Addr) (l:List Dep):Prop :=
 l.length≤4294967296∧∃ xs:List Value,Rd w S A xs∧xs.length=l.length*2∧∀ (i:Nat) (d:Dep),l[i]?=some d→∃ (B:Option Addr) (c:Nat),xs[i*2]?=some (.slice B d.frm.length c)∧xs[i*2+1]?=some (.string d.to)∧d.frm.length≤c∧d.to.size≤4294967296∧Strs w S B d.frm
theorem RDeps.keep {w w':World} {S:Nat→Prop} {A:Option Addr} {l:List Dep} (h:RDeps w S A l) (k:Kept S w w'):RDeps w' S A l:=by
 obtain ⟨h0,xs,h1,h2,h3⟩:=h;refine ⟨h0,xs,h1.keep k,h2,fun i d hd => ?_⟩;obtain ⟨B,c,g1,g2,g3,g4,g5⟩:=h3 i d hd;exact ⟨B,c,g1,g2,g3,g4,g5.keep k⟩
theorem RDeps.mono {w:World} {S T:Nat→Prop} {A:Option Addr} {l:List Dep} (h:RDeps w S A l) (k:∀ i,i<w.heap.size→S i→T i):RDeps w T A l:=by
 obtain ⟨h0,xs,h1,h2,h3⟩:=h;refine ⟨h0,xs,h1.mono k,h2,fun i d hd => ?_⟩;obtain ⟨B,c,g1,g2,g3,g4,g5⟩:=h3 i d hd;exact ⟨B,c,g1,g2,g3,g4,g5.mono k⟩
theorem RDeps.at_ {w:World} {S:Nat→Prop} {A:Option Addr} {l:List Dep} (h:RDeps w S A l) {k:Nat} (hk:k<l.length) :
  ∃ b o B c,A=some ⟨b,o,none⟩∧b<w.heap.size∧w.cell? ⟨b,o+k*2,none⟩=some (.slice B l[k].frm.length c)∧w.cell? ⟨b,o+k*2+1,none⟩=some (.string l[k].to)∧l[k].frm.length≤c∧l[k].to.size≤4294967296∧Strs w S B l[k].frm:=by
 obtain ⟨_,xs,h1,h2,h3⟩:=h;obtain ⟨B,c,g1,g2,g3,g4,g5⟩:=h3 k l[k] (List.getElem?_eq_getElem hk);have hne:xs≠[]:=(by rintro rfl; simp at g1);obtain ⟨b,o,hA,_,hb,hc⟩:=h1.some_ hne;exact ⟨b,o,B,c,hA,hb,hc _ _ g1,by have:=hc _ _ g2; rwa [← Nat.add_assoc] at this,g3,g4,g5⟩

structure IsClosure (l:List Dep) (frm ks:List ByteArray):Prop where
 nodup:ks.Nodup
 base:∀ x∈frm,x∈ks
 closed:∀ d∈l,(∀ x∈d.frm,x∈ks)→d.to∈ks
 least:∀ T:ByteArray→Prop,(∀ x∈frm,T x)→(∀ d∈l,(∀ x∈d.frm,T x)→T d.to)→∀ x∈ks,T x
def SetIs (w:World) (b:Nat) (ks:List ByteArray):Prop:=MapIs w b (fun s:ByteArray=>Value.string s) (ks.map fun k=>(k,Value.bool true))
theorem fnd_set (ks:List ByteArray) (x:ByteArray) (j:Nat):(x∈ks→∃ i,fnd x (ks.map fun k=>(k,Value.bool true)) j=some (i,.bool true)∧j≤i∧ks[i-j]?=some x)∧(x ∉ ks→fnd x (ks.map fun k=>(k,Value.bool true)) j=none):=by
 induction ks generalizing j with
 | nil=>simp [fnd]
 | cons k ks ih =>
  by_cases hk:k=x
  ·subst hk;refine ⟨fun _=>⟨j,?_,Nat.le_refl _,by simp⟩,fun h=>absurd (List.mem_cons_self) h⟩;simp [fnd]
  ·have h:=ih (j+1);refine ⟨fun hx => ?_,fun hx => ?_⟩
   ·have hx':x∈ks:=by
     rcases List.mem_cons.1 hx with e | e
     ·exact absurd e.symm hk
     ·exact e
    obtain ⟨i,h1,h2,h3⟩:=h.1 hx';refine ⟨i,?_,by omega,?_⟩
    ·simp only [List.map_cons,fnd,if_neg hk]; exact h1
    ·rw [show i-j=(i-(j+1))+1 by omega,List.getElem?_cons_succ]; exact h3
   ·have hx':x ∉ ks:=fun e=>hx (List.mem_cons_of_mem _ e);simp only [List.map_cons,fnd,if_neg hk];exact h.2 hx'
theorem mget_set (ks:List ByteArray) (x:ByteArray):(x∈ks→mget (ks.map fun k=>(k,Value.bool true)) x=some (.bool true))∧(x ∉ ks→mget (ks.map fun k=>(k,Value.bool true)) x=none):=by
 refine ⟨fun h => ?_,fun h => ?_⟩
 ·obtain ⟨i,h1,_⟩:=(fnd_set ks x 0).1 h;simp [mget,h1]
 ·simp [mget,(fnd_set ks x 0).2 h]
theorem mput_set (ks:List ByteArray) (x:ByteArray):(x∈ks→mput (ks.map fun k=>(k,Value.bool true)) x (.bool true)=ks.map fun k=>(k,Value.bool true))∧(x ∉ ks→mput (ks.map fun k=>(k,Value.bool true)) x (.bool true)=(ks++[x]).map fun k=>(k,Value.bool true)):=by
 refine ⟨fun h => ?_,fun h => ?_⟩
 ·obtain ⟨i,h1,h2,h3⟩:=(fnd_set ks x 0).1 h;rw [Nat.sub_zero] at h3;unfold mput;rw [h1];show (ks.map fun k=>(k,Value.bool true)).set i (x,Value.bool true)=_;rw [show (x,Value.bool true)=(fun k=>(k,Value.bool true)) x from rfl,← List.map_set];congr 1;obtain ⟨hi,hx⟩:=List.getElem?_eq_some_iff.1 h3;rw [← hx,List.set_getElem_self]
 ·unfold mput;rw [(fnd_set ks x 0).2 h];simp
theorem SetIs.put {w:World} {b:Nat} {ks:List ByteArray} (h:SetIs w b ks) (x:ByteArray) :
  ∃ w' ks',(Instr.mapUpdate 94 (.map (some b)) (.string x) (.bool true)).run Tryz.prog w=.ok () w'∧SetIs w' b ks'∧w.grownBy w' (some b)∧((x∈ks∧ks'=ks)∨(x ∉ ks∧ks'=ks++[x])):=by
 obtain ⟨w',h1,h2,h3⟩:=MapIs.put h Tryz.underlying94 (klStr Tryz.underlying9) x (.bool true);by_cases hx:x∈ks
 ·rw [(mput_set ks x).1 hx] at h2;exact ⟨w',ks,h1,h2,h3,.inl ⟨hx,rfl⟩⟩
 ·rw [(mput_set ks x).2 hx] at h2;exact ⟨w',ks++[x],h1,h2,h3,.inr ⟨hx,rfl⟩⟩
theorem zeroB (w:World):(zeroValue 4).run Tryz.prog w=.ok (.bool false) w:=by kernel_rfl
noncomputable def memB (ks:List ByteArray) (x:ByteArray):Bool:=@decide (x∈ks) (Classical.propDecidable _)
theorem memB_iff (ks:List ByteArray) (x:ByteArray):memB ks x=true↔x∈ks:=by simp [memB]
theorem SetIs.get {w:World} {b:Nat} {ks:List ByteArray} (h:SetIs w b ks) (x:ByteArray):(Instr.lookup 94 (.map (some b)) (.string x) false).run Tryz.prog w=.ok (.bool (memB ks x)) w:=by
 rw [MapIs.get h Tryz.underlying94 (klStr Tryz.underlying9) (.bool false) zeroB x];by_cases hx:x∈ks
 ·rw [(mget_set ks x).1 hx,(memB_iff ks x).2 hx]; rfl
 ·have:memB ks x=false:=(by rw [Bool.eq_false_iff]; exact fun e=>hx ((memB_iff ks x).1 e));rw [(mget_set ks x).2 hx,this]; rfl
theorem SetIs.len {w:World} {b:Nat} {ks:List ByteArray} (h:SetIs w b ks) (ty:TypeId):(Builtin.len_ #[94] ty #[.map (some b)]).run Tryz.prog w=.ok (.int .i64 (ks.length:Int)) w:=by
 have:=MapIs.len h (P:=Tryz.prog) Tryz.underlying94 ty
 simpa using this
theorem SetIs.keep {w w':World} {b:Nat} {ks:List ByteArray} (h:SetIs w b ks) (hk:Kept (fun i=>i=b) w w'):SetIs w' b ks:=MapIs.keep h hk

theorem table_Closure1 (x:ByteArray) (g b:Nat) (ks:List ByteArray) (w:World) (hb:w.cell? ⟨g,0,none⟩=some (.map (some b))) (h:SetIs w b ks) :
  Calls Tryz.prog 54 #[.string x,.pointer (some ⟨g,0,none⟩)] w (SameB w (!memB ks x)):=by
 have hg:=h.get x;clear h
 go_enter Tryz.func54,Tryz.ntmps54
 go_wp2;go_ret;exact ⟨rfl,rfl⟩

theorem slices_IndexFuncS (l:List ByteArray) (A:Option Addr) (c g b:Nat) (ks:List ByteArray) (w:World) (S:Nat→Prop) (hl:Strs w S A l) (hb:w.cell? ⟨g,0,none⟩=some (.map (some b))) (h:SetIs w b ks) :
  Calls Tryz.prog 78 #[.slice A l.length c,.func (.func 54) #[] #[.pointer (some ⟨g,0,none⟩)]] w (SameI w (idxF (fun x => !memB ks x) l)):=by
 have hn:=hl.2.1;have HB:=Hd hb;have HS:=Hd h;clear hb h
 go_enter Tryz.func78,Tryz.ntmps78
 go_wp2
 go_loop [8] (fun i=>∃ k:Nat,k≤l.length∧i=.int .i64 k∧∀ j (h:j<l.length),j<k→(fun x => !memB ks x) l[j]=false) (fun i=>l.length-(intOf i).toNat)
 case atStart=>exact ⟨0,Nat.zero_le _,rfl,by intros; omega⟩
 case round =>
  obtain ⟨k,hk,rfl,hall⟩:=hrel;have HA:=Hd hall;clear hall;by_cases hlt:k<l.length
  ·obtain ⟨b1,o1,rfl,z1,c1⟩:=hl.at_ hlt;cases hm:memB ks l[k]
   ·have HM:=Hd hm;clear hm
    go_wp2_with (go_at_call 54; refine (table_Closure1 _ g b ks _ HB.o HS.o).mono ?_; rintro e w' ⟨rfl,rfl⟩; rw [HM.o])
    go_ret;exact ⟨by rw [idxF_found hlt HA.o (by simp [HM.o])]; rfl,rfl⟩
   ·have HM:=Hd hm;clear hm
    go_wp2_with (go_at_call 54; refine (table_Closure1 _ g b ks _ HB.o HS.o).mono ?_; rintro e w' ⟨rfl,rfl⟩; rw [HM.o])
    go_round
    case rel =>
     refine ⟨k+1,by omega,by go_num,fun j h hj => ?_⟩;by_cases hjk:j=k
     ·subst hjk; simp [HM.o]
     ·exact HA.o j h (by omega)
    case measure=>simp [intOf]; omega
  ·go_wp2;go_ret;exact ⟨by rw [idxF_none (fun j hj=>HA.o j hj (by omega))]; rfl,rfl⟩
theorem slices_ContainsFuncS (l:List ByteArray) (A:Option Addr) (c g b:Nat) (ks:List ByteArray) (w:World) (S:Nat→Prop) (hl:Strs w S A l) (hb:w.cell? ⟨g,0,none⟩=some (.map (some b))) (h:SetIs w b ks) :
  Calls Tryz.prog 55 #[.slice A l.length c,.func (.func 54) #[] #[.pointer (some ⟨g,0,none⟩)]] w (SameB w (l.any fun x => !memB ks x)):=by
 have HB:=Hd hb;have HS:=Hd h;have HL:=Hd hl;clear hb h hl
 go_enter Tryz.func55,Tryz.ntmps55
 go_wp2_with (go_at_call 78; refine (slices_IndexFuncS _ _ _ g b ks _ S HL.o HB.o HS.o).mono ?_; rintro e w' ⟨rfl,rfl⟩)
 go_ret;exact ⟨by rw [← idxF_any]; rfl,rfl⟩
end Go.Proofs.YthmckfloppblcaaGreatDoor
