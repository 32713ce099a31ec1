/- The texts of plain values tell them apart. Conditions: the values are right, dates are those of the years 2021 to 2024. -/
import Derived.Test.YthmckfloppblcaaGreatDoorBj22
set_option maxRecDepth 100000
set_option maxHeartbeats 8000000
namespace Go.Proofs.YthmckfloppblcaaGreatDoor
open Go Go.RowKit

def numOf (l:List UInt8):Nat:=l.foldl (fun a c=>10*a+(c.toNat-48)) 0
theorem numOf_app (l:List UInt8) (c:UInt8):numOf (l++[c])=10*numOf l+(c.toNat-48):=by simp [numOf]
theorem dig_nat {u:Nat} (h:u<10):(UInt8.ofNat (48+u)).toNat=48+u:=by
 rw [UInt8.toNat_ofNat'];omega
theorem numOf_dec:∀ u:Nat,numOf (Lib.decDigits u)=u:=by
 intro u
 induction u using Nat.strongRecOn with
 | _ u ih =>
  rw [Lib.decDigits];split
  ·rename_i h;simp only [numOf,List.foldl_cons,List.foldl_nil,dig_nat h];omega
  ·rename_i h;rw [numOf_app,ih (u / 10) (by omega),dig_nat (by omega)];omega
theorem dec_dig:∀ u:Nat,∀ c∈Lib.decDigits u,48≤c.toNat∧c.toNat≤57:=by
 intro u
 induction u using Nat.strongRecOn with
 | _ u ih =>
  rw [Lib.decDigits];split
  ·rename_i h;intro c hc;simp only [List.mem_singleton] at hc;rw [hc,dig_nat h];omega
  ·rename_i h;intro c hc
   rcases List.mem_append.1 hc with hc | hc
   ·exact ih (u / 10) (by omega) c hc
   ·simp only [List.mem_singleton] at hc;rw [hc,dig_nat (by omega)];omega
theorem zeros_dig:∀ n:Nat,∀ c∈Lib.repeatL [48] n,48≤c.toNat∧c.toNat≤57
 | 0,c,h=>by simp [Lib.repeatL] at h
 | n+1,c,h=>by
  rw [repeatL_succ] at h
  rcases List.mem_cons.1 h with rfl | h
  ·decide
  ·exact zeros_dig n c h
theorem numOf_zeros (l:List UInt8):∀ n:Nat,numOf (Lib.repeatL [48] n++l)=numOf l
 | 0=>by simp [Lib.repeatL]
 | n+1=>by
  rw [repeatL_succ,List.cons_append,← numOf_zeros l n];rfl
theorem digs_dig {n u:Nat} : ∀ c∈Lib.repeatL [48] n++Lib.decDigits u,48≤c.toNat∧c.toNat≤57:=by
 intro c hc
 rcases List.mem_append.1 hc with hc | hc
 ·exact zeros_dig n c hc
 ·exact dec_dig u c hc
theorem cut_eq {x:UInt8} : ∀ {a a' b b':List UInt8},x ∉ a→x ∉ a'→a++x :: b=a'++x :: b'→a=a'∧b=b'
 | [],[],b,b',_,_,h=>by simpa using h
 | [],y :: a',b,b',_,h2,h=>by
  simp only [List.nil_append,List.cons_append,List.cons.injEq] at h;exact absurd (List.mem_cons.2 (.inl h.1)) h2
 | y :: a,[],b,b',h1,_,h=>by
  simp only [List.nil_append,List.cons_append,List.cons.injEq] at h;exact absurd (List.mem_cons.2 (.inl h.1.symm)) h1
 | y :: a,z :: a',b,b',h1,h2,h=>by
  simp only [List.cons_append,List.cons.injEq] at h;obtain ⟨e1,e2⟩:=cut_eq (fun e=>h1 (List.mem_cons_of_mem _ e)) (fun e=>h2 (List.mem_cons_of_mem _ e)) h.2;exact ⟨by rw [h.1,e1],e2⟩
theorem decD_dig {n:Int} {s:Nat} : ∀ c∈decD n s,48≤c.toNat∧c.toNat≤57:=digs_dig
theorem decD_num (n:Int) (s:Nat):numOf (decD n s)=n.natAbs:=by
 unfold decD;rw [numOf_zeros,numOf_dec]
theorem decD_lenT (n:Int) (s:Nat):s+1≤(decD n s).length:=by
 unfold decD;rw [List.length_append,repeatL_len1];omega
theorem no_dot {l:List UInt8} (h:∀ c∈l,48≤c.toNat∧c.toNat≤57):(46:UInt8) ∉ l∧(45:UInt8) ∉ l:=by
 refine ⟨fun hc => ?_,fun hc => ?_⟩
 ·have:=(h _ hc).1;exact absurd this (by decide)
 ·have:=(h _ hc).1;exact absurd this (by decide)
theorem decP_inj {n n':Int} {s s':Nat} (h:decP n s=decP n' s'):n.natAbs=n'.natAbs∧s=s':=by
 have d1:=@decD_dig n s;have d2:=@decD_dig n' s';have l1:=decD_lenT n s;have l2:=decD_lenT n' s';unfold decP at h;by_cases h1:0<s <;> by_cases h2:0<s'
 ·rw [if_pos h1,if_pos h2,List.append_assoc,List.append_assoc,List.singleton_append,List.singleton_append] at h;obtain ⟨e1,e2⟩:=cut_eq (fun e=>(no_dot d1).1 (List.mem_of_mem_take e)) (fun e=>(no_dot d2).1 (List.mem_of_mem_take e)) h;have e3:decD n s=decD n' s':=by
   rw [← List.take_append_drop ((decD n s).length-s) (decD n s),e1,e2,List.take_append_drop]
  have e4:=congrArg List.length e2;rw [List.length_drop,List.length_drop] at e4;exact ⟨by rw [← decD_num n s,e3,decD_num],by omega⟩
 ·rw [if_pos h1,if_neg h2] at h;exact absurd (show (46:UInt8)∈decD n' s' by rw [← h]; simp) (no_dot d2).1
 ·rw [if_neg h1,if_pos h2] at h;exact absurd (show (46:UInt8)∈decD n s by rw [h]; simp) (no_dot d1).1
 ·rw [if_neg h1,if_neg h2] at h;exact ⟨by rw [← decD_num n s,h,decD_num],by omega⟩
theorem decP_dash {n:Int} {s:Nat} : (45:UInt8) ∉ decP n s:=by
 have d:=(no_dot (@decD_dig n s)).2;unfold decP;split
 ·intro h
  rcases List.mem_append.1 h with h | h
  ·rcases List.mem_append.1 h with h | h
   ·exact d (List.mem_of_mem_take h)
   ·exact absurd h (by decide)
  ·exact d (List.mem_of_mem_drop h)
 ·exact d
theorem decL_inj {n n':Int} {s s':Nat} (h:decL n s=decL n' s'):n=n'∧s=s':=by
 unfold decL at h;by_cases h1:n<0 <;> by_cases h2:n'<0
 ·rw [if_pos h1,if_pos h2,List.cons.injEq] at h;have:=decP_inj h.2;exact ⟨by omega,this.2⟩
 ·rw [if_pos h1,if_neg h2] at h;exact absurd (show (45:UInt8)∈decP n' s' by rw [← h]; simp) decP_dash
 ·rw [if_neg h1,if_pos h2] at h;exact absurd (show (45:UInt8)∈decP n s by rw [h]; simp) decP_dash
 ·rw [if_neg h1,if_neg h2] at h;have:=decP_inj h;exact ⟨by omega,this.2⟩
theorem padL_inj {n n' k:Nat} (h:padL n k=padL n' k):n=n':=by
 have h1:=congrArg numOf h;unfold padL at h1;rwa [numOf_zeros,numOf_zeros,Lib.itoa_nonneg,Lib.itoa_nonneg,numOf_dec,numOf_dec] at h1
theorem padL_dash {n k:Nat} : (45:UInt8) ∉ padL n k:=by
 unfold padL;rw [Lib.itoa_nonneg];exact (no_dot digs_dig).2
def dayNo (y m d:Nat):Nat:=beforeN y+(List.range (m-1)).foldl (fun a k=>a+daysN y (k+1)) 0+d-1
def civOk (k:Nat):Bool:=decide (dayNo (civY (738000+k)) (civMD (738000+k)).1 (civMD (738000+k)).2=738000+k)
theorem civ_all:(List.range 1000).all civOk=true:=by decide +kernel
theorem civ_back {n:Nat} (h1:738000≤n) (h2:n≤738999):dayNo (civY n) (civMD n).1 (civMD n).2=n:=by
 have h:=List.all_eq_true.1 civ_all (n-738000) (List.mem_range.2 (by omega));unfold civOk at h;rw [show 738000+(n-738000)=n by omega] at h;exact of_decide_eq_true h
theorem dateL_inj {n n':Nat} (h1:738000≤n) (h2:n≤738999) (h3:738000≤n') (h4:n'≤738999) (h:dateL n=dateL n'):n=n':=by
 have e:∀ y m d,outL y m d 5=padL y 4++45 :: (padL m 2++45 :: padL d 2):=by
  intro y m d;simp [outL,putT]
 unfold dateL at h;rw [e,e] at h;obtain ⟨e1,e2⟩:=cut_eq padL_dash padL_dash h;obtain ⟨e3,e4⟩:=cut_eq padL_dash padL_dash e2;rw [← civ_back h1 h2,← civ_back h3 h4,padL_inj e1,padL_inj e3,padL_inj e4]
def dbl:List UInt8→List UInt8
 | []=>[]
 | c :: l=>if c=39 then 39 :: 39 :: dbl l else c :: dbl l
theorem dbl_inj:∀ {a b:List UInt8},dbl a=dbl b→a=b
 | [],[],_=>rfl
 | [],y :: b,h=>by
  unfold dbl at h;split at h <;> cases h
 | y :: a,[],h=>by
  unfold dbl at h;split at h <;> cases h
 | x :: a,y :: b,h=>by
  simp only [dbl] at h;by_cases h1:x=39 <;> by_cases h2:y=39
  ·rw [if_pos h1,if_pos h2] at h;simp only [List.cons.injEq,true_and] at h;rw [h1,h2,dbl_inj h]
  ·rw [if_pos h1,if_neg h2] at h;simp only [List.cons.injEq] at h;exact absurd h.1.symm h2
  ·rw [if_neg h1,if_pos h2] at h;simp only [List.cons.injEq] at h;exact absurd h.1 h1
  ·rw [if_neg h1,if_neg h2] at h;simp only [List.cons.injEq] at h;rw [h.1,dbl_inj h.2]
theorem replaceK_skip {c:UInt8} (h:c≠39) (l:List UInt8):∀ k,Lib.replaceK [39] [39,39] k (c :: l)=c :: Lib.replaceK [39] [39,39] k l
 | 0=>rfl
 | k+1=>by
  have hp:([39]:List UInt8).isPrefixOf (c :: l)=false:=(by simp [List.isPrefixOf,Ne.symm h]);have hix:Lib.index (c :: l) [39]=if Lib.index l [39]==-1 then -1 else Lib.index l [39]+1:=(by rw [Lib.index,hp]; simp);by_cases hm:Lib.index l [39]=-1
  ·rw [Lib.replaceK,Lib.replaceK,hix,hm];rfl
  ·have hge:=Lib.index_ge l [39];obtain ⟨j,hj⟩:∃ j:Nat,Lib.index l [39]=j:=⟨(Lib.index l [39]).toNat,by omega⟩;have hix':Lib.index (c :: l) [39]=((j+1:Nat):Int):=(by rw [hix,if_neg (fun e=>hm (beq_iff_eq.1 e)),hj]; omega);rw [Lib.replaceK_hit _ _ k _ _ hix',Lib.replaceK_hit _ _ k _ _ hj];rfl
theorem replaceAll_dbl:∀ s:List UInt8,Lib.replaceK [39] [39,39] (Lib.count s [39]) s=dbl s
 | []=>by rw [Lib.count_miss (by simp [Lib.index])]; rfl
 | c :: l=>by
  by_cases h:c=39
  ·subst h;have hix:Lib.index ((39:UInt8) :: l) [39]=((0:Nat):Int):=(by rw [Lib.index]; simp [List.isPrefixOf]);rw [Lib.count_cons_eq,Nat.add_comm,Lib.replaceK_hit _ _ _ _ _ hix];simp only [dbl,if_true,List.take_zero,List.nil_append,List.cons_append,List.length_cons,List.length_nil,Nat.zero_add,List.drop_succ_cons,List.drop_zero,replaceAll_dbl l]
  ·rw [Lib.count_cons_ne _ _ _ h,replaceK_skip h,replaceAll_dbl l];simp only [dbl,if_neg h]
theorem replaceAll_inj {s t:ByteArray} (h:Lib.replaceAll s.data.toList [39] [39,39]=Lib.replaceAll t.data.toList [39] [39,39]):s=t:=by
 have e:∀ l:List UInt8,Lib.replaceAll l [39] [39,39]=dbl l:=by
  intro l;have h5:Lib.replaceNum l [39] (-1)=Lib.count l [39]:=by
   unfold Lib.replaceNum;rw [if_pos (.inl (by decide))]
  unfold Lib.replaceAll Lib.replace;rw [if_neg (by decide),h5,replaceAll_dbl]
 rw [e,e] at h;have:=dbl_inj h;obtain ⟨⟨a⟩⟩:=s;obtain ⟨⟨b⟩⟩:=t;simp only at this;rw [this]
theorem itoa_inj {n m:Int} (h0:0≤n) (h1:0≤m) (h:Lib.itoa n=Lib.itoa m):n=m:=by
 obtain ⟨a,rfl⟩:∃ a:Nat,n=(a:Int):=⟨n.toNat,by omega⟩;obtain ⟨b,rfl⟩:∃ b:Nat,m=(b:Int):=⟨m.toNat,by omega⟩;rw [Lib.itoa_nonneg,Lib.itoa_nonneg] at h;have:=congrArg numOf h;rw [numOf_dec,numOf_dec] at this;rw [this]
theorem texL_inj {x y:Val} (hx:flatB x=true) (hy:flatB y=true) (dx:OddC x) (dy:OddC y) (h:texL x=texL y):x=y:=by
 obtain ⟨k,s,dn,ds,n,cols,rows⟩:=x;obtain ⟨k',s',dn',ds',n',cols',rows'⟩:=y;unfold OddC at dx dy;simp only [flatB,bareB] at hx hy;simp only [texL] at h;simp only at dx dy;by_cases x0:k=0
 ·subst x0;rw [if_pos rfl] at hx h;simp only [Bool.and_eq_true,decide_eq_true_eq] at hx;by_cases y0:k'=0
  ·subst y0;rw [if_pos rfl] at hy h;simp only [Bool.and_eq_true,decide_eq_true_eq] at hy;obtain ⟨⟨a1,a2⟩,b1,b2,b3,-,b4,b5⟩:=hx;obtain ⟨⟨c1,c2⟩,d1,d2,d3,-,d4,d5⟩:=hy;rw [itoa_inj a1 c1 (List.cons.inj h).2,b1,b2,b3,b4,b5,d1,d2,d3,d4,d5]
  ·exfalso;rw [if_neg y0] at h
   (repeat' split at h) <;> exact absurd (List.cons.inj h).1 (by decide)
 ·rw [if_neg x0] at hx h;by_cases x1:k=1
  ·subst x1;rw [if_pos rfl] at hx h;simp only [Bool.and_eq_true,decide_eq_true_eq] at hx;by_cases y1:k'=1
   ·subst y1;rw [if_neg (by decide),if_pos rfl] at hy h;simp only [Bool.and_eq_true,decide_eq_true_eq] at hy;obtain ⟨-,-,b2,b3,b6,b4,b5⟩:=hx;obtain ⟨-,-,d2,d3,d6,d4,d5⟩:=hy;have hs:=replaceAll_inj (List.append_cancel_right (List.cons.inj h).2);rw [hs,b2,b3,b4,b5,b6,d2,d3,d4,d5,d6]
   ·exfalso
    (repeat' split at h) <;> first | exact absurd (List.cons.inj h).1 (by decide) | contradiction
  ·rw [if_neg x1] at hx h;by_cases x2:k=2
   ·subst x2;rw [if_pos rfl] at hx h;simp only [Bool.and_eq_true,decide_eq_true_eq] at hx;by_cases y2:k'=2
    ·subst y2;rw [if_neg (by decide),if_neg (by decide),if_pos rfl] at hy h;simp only [Bool.and_eq_true,decide_eq_true_eq] at hy;obtain ⟨a,b1,-,-,b6,b4,b5⟩:=hx;obtain ⟨a',d1,-,-,d6,d4,d5⟩:=hy;obtain ⟨e1,e2⟩:=decL_inj (List.cons.inj h).2;simp only [decR,Bool.and_eq_true,decide_eq_true_eq] at a a';have e3:ds=ds':=(by have:=a.1.1.1; have:=a'.1.1.1; omega);rw [e1,e3,b1,b4,b5,b6,d1,d4,d5,d6]
    ·exfalso
     (repeat' split at h) <;> first | exact absurd (List.cons.inj h).1 (by decide) | contradiction
   ·rw [if_neg x2] at hx h;by_cases x3:k=3
    ·subst x3;rw [if_pos rfl] at hx h;simp only [Bool.and_eq_true,decide_eq_true_eq] at hx;by_cases y3:k'=3
     ·subst y3;rw [if_neg (by decide),if_neg (by decide),if_neg (by decide),if_pos rfl] at hy h;simp only [Bool.and_eq_true,decide_eq_true_eq] at hy;obtain ⟨-,b1,b2,b3,-,b4,b5⟩:=hx;obtain ⟨-,d1,d2,d3,-,d4,d5⟩:=hy;obtain ⟨u1,u2⟩:=dx rfl;obtain ⟨v1,v2⟩:=dy rfl;have e:=dateL_inj (by omega) (by omega) (by omega) (by omega) (List.cons.inj h).2;have e3:n=n':=(by omega);rw [e3,b1,b2,b3,b4,b5,d1,d2,d3,d4,d5]
     ·exfalso
      (repeat' split at h) <;> first | exact absurd (List.cons.inj h).1 (by decide) | contradiction
    ·rw [if_neg x3] at hx h;by_cases x4:k=4
     ·subst x4;rw [if_pos rfl] at hx;simp only [Bool.and_eq_true,decide_eq_true_eq] at hx;by_cases y4:k'=4
      ·subst y4;rw [if_neg (by decide),if_neg (by decide),if_neg (by decide),if_neg (by decide)] at hy h;rw [if_pos rfl] at hy;simp only [Bool.and_eq_true,decide_eq_true_eq] at hy;obtain ⟨a,b1,b2,b3,-,b4,b5⟩:=hx;obtain ⟨a',d1,d2,d3,-,d4,d5⟩:=hy;rw [itoa_inj (by omega) (by omega) (List.cons.inj h).2,b1,b2,b3,b4,b5,d1,d2,d3,d4,d5]
      ·exfalso;have y5:k'=0∨k'=1∨k'=2∨k'=3:=by
        apply Classical.byContradiction;intro hn;simp only [not_or] at hn;rw [if_neg hn.1,if_neg hn.2.1,if_neg hn.2.2.1,if_neg hn.2.2.2,if_neg y4] at hy;cases hy
       rcases y5 with rfl | rfl | rfl | rfl
       ·rw [if_pos rfl] at h; exact absurd (List.cons.inj h).1 (by decide)
       ·rw [if_neg (by decide),if_pos rfl] at h; exact absurd (List.cons.inj h).1 (by decide)
       ·rw [if_neg (by decide),if_neg (by decide),if_pos rfl] at h; exact absurd (List.cons.inj h).1 (by decide)
       ·rw [if_neg (by decide),if_neg (by decide),if_neg (by decide),if_pos rfl] at h; exact absurd (List.cons.inj h).1 (by decide)
     ·rw [if_neg x4] at hx;cases hx
theorem TxOk.of {x:Val} (h5:x.kind≠5) (hx:flatB x=true) (dx:OddC x):TxOk x:=by
 refine ⟨h5,hx,?_,fun h=>(dx h).2⟩;by_cases h1:x.kind=1
 ·simp only [flatB,h1] at hx;simp [textB] at hx;omega
 ·have:x.s=⟨#[]⟩:=by
   unfold flatB bareB at hx;by_cases h0:x.kind=0
   ·simp [h0] at hx; exact hx.2.1
   ·by_cases h2:x.kind=2
    ·simp [h2] at hx; exact hx.2.1
    ·by_cases h3:x.kind=3
     ·simp [h3] at hx; exact hx.2.1
     ·by_cases h4:x.kind=4
      ·simp [h4] at hx; exact hx.2.1
      ·simp [h0,h1,h2,h3,h4] at hx
  rw [this]
  decide

def JOk (l:List (List Val)):Prop:=∃ l0 z,l=l0++z∧l0.length≤6∧(∀ r∈l0,∀ y∈r,OddC y)∧∀ r∈z,∀ y∈r,y=Val.zero
theorem JOk.odd {l:List (List Val)} (h:JOk l):∀ r∈l,∀ y∈r,OddC y:=by
 obtain ⟨l0,z,rfl,-,h1,h2⟩:=h;intro r hr y hy
 rcases List.mem_append.1 hr with hr | hr
 ·exact h1 r hr y hy
 ·rw [h2 r hr y hy];exact OddC.zero
theorem JOk.of {l:List (List Val)} (h1:l.length≤6) (h2:∀ r∈l,∀ y∈r,OddC y):JOk l:=⟨l,[],by simp,h1,h2,by simp⟩
theorem JOk.oddR {l l':List (List Val)} (h1:l.length≤6) (h2:∀ r∈l,∀ y∈r,OddC y) (h:OddR l l'):JOk l':=by
 obtain ⟨x,hx,l0,z,e,h3,h4,h5⟩:=h;refine ⟨l0,z,e,by omega,fun r hr y hy => ?_,h5⟩
 rcases h4 r hr y hy with e | ⟨r0,hr0,hy0⟩
 ·rw [e]; exact hx
 ·exact h2 r0 hr0 y hy0
theorem cellS_odd (k:Int) {m:Nat} (h:m<5):OddC (cellS k m):=by
 unfold cellS;split
 ·exact OddC.zero
 ·split
  ·intro h3;exfalso
   revert h3
   split
   ·decide
   ·split
    ·decide
    ·split <;> decide
  ·split
   ·intro _;show (738000:Int)≤738000+(m:Int)∧738000+(m:Int)≤738999;omega
   ·intro h3;exact absurd h3 (show ¬ ((1:Int)=3) by decide)
theorem MadeT.odd {name:ByteArray} {t:Look} (h:MadeT name t):t.rows.length≤6∧∀ r∈t.rows,∀ y∈r,OddC y:=by
 obtain ⟨-,ks,-,-,-,-,-,h1,h2⟩:=h;refine ⟨h1,fun r hr y hy => ?_⟩;obtain ⟨h3,h4⟩:=h2 r hr;obtain ⟨j,hj,rfl⟩:=List.mem_iff_getElem.1 hy;obtain ⟨m,hm,he⟩:=h4 j hj (by omega);rw [he];exact cellS_odd _ hm

theorem bsA_inj {a b:List UInt8} (h:bsA a=bsA b):a=b:=by
 unfold bsA at h;injection h with h;have:=congrArg Array.toList h
 simpa using this
theorem cellAt_mem (l:List (List Val)) (j k:Nat):cellAt l j k=Val.zero∨∃ r∈l,cellAt l j k∈r:=by
 by_cases hk:k<l.length
 ·have h0:cellAt l j k=l[k].getD j Val.zero:=by
   unfold cellAt;rw [getD_of l k [] hk]
  rw [h0];by_cases hj:j<l[k].length
  ·rw [getD_of l[k] j Val.zero hj];exact .inr ⟨_,List.getElem_mem hk,List.getElem_mem hj⟩
  ·left;rw [List.getD_eq_getElem?_getD,List.getElem?_eq_none (show l[k].length≤j by omega)];rfl
 ·left;unfold cellAt;rw [List.getD_eq_getElem?_getD (l:=l),List.getElem?_eq_none (show l.length≤k by omega)];rfl
theorem cellAt_z {l0 z:List (List Val)} (hz:∀ r∈z,∀ y∈r,y=Val.zero) (j:Nat) {q:Nat} (hq:l0.length≤q):cellAt (l0++z) j q=Val.zero:=by
 have h:cellAt (l0++z) j q=cellAt z j (q-l0.length):=by
  unfold cellAt;rw [List.getD_eq_getElem?_getD,List.getD_eq_getElem?_getD,List.getD_eq_getElem?_getD,List.getD_eq_getElem?_getD,List.getElem?_append_right hq]
 rw [h]
 rcases cellAt_mem z j (q-l0.length) with h | ⟨r,hr,hy⟩
 ·exact h
 ·exact hz r hr _ hy
theorem isB_zl (v:Val):isB Val.zero v=false:=by
 unfold isB;rw [show decide (Val.zero.kind≠0)=false from by decide];rfl
theorem isB_zr (x:Val):isB x Val.zero=false:=by
 unfold isB;by_cases h:x=Val.zero
 ·rw [h]
  decide
 ·rw [decide_eq_false h,Bool.and_false]
theorem isTab_cell {t:Val} (h:isTabB t=true):∀ r∈t.rows,∀ y∈r,cellOK y=true:=by
 simp only [isTabB,Bool.and_eq_true,decide_eq_true_eq] at h;have h2:=h.2;unfold rightB at h2;rw [if_pos h.1,Bool.and_eq_true] at h2;have h3:=h2.1;unfold tableR at h3;rw [Bool.and_eq_true] at h3;intro r hr y hy;have h4:=List.all_eq_true.1 h3.2 r hr;unfold rowOK at h4;rw [Bool.and_eq_true] at h4;exact List.all_eq_true.1 h4.2 y hy
theorem cellOK_iff {y:Val} (h:cellOK y=true):y.kind≠5∧flatB y=true:=by
 unfold cellOK at h;rw [Bool.and_eq_true,decide_eq_true_eq] at h;exact h
def CellQ (y:Val):Prop:=flatB y=true∧OddC y
theorem cellQ_at {t:Val} (h:isTabB t=true) (ho:∀ r∈t.rows,∀ y∈r,OddC y) (j k:Nat):CellQ (cellAt t.rows j k):=by
 rcases cellAt_mem t.rows j k with h1 | ⟨r,hr,hy⟩
 ·rw [h1];exact ⟨by decide,OddC.zero⟩
 ·exact ⟨(cellOK_iff (isTab_cell h r hr _ hy)).2,ho r hr _ hy⟩
theorem isB_key {x y:Val} (hx:CellQ x) (hy:CellQ y):isB x y=decide (x.kind≠0∧keyT x=keyT y):=by
 unfold isB;by_cases h:x=y
 ·subst h;simp
 ·have hk:keyT x≠keyT y:=fun e=>h (texL_inj hx.1 hy.1 hx.2 hy.2 (bsA_inj e));simp [h,hk]
theorem prs_eq {a b:Val} (ha:isTabB a=true) (hb:isTabB b=true) (ja:∀ r∈a.rows,∀ y∈r,OddC y) (jb:∀ r∈b.rows,∀ y∈r,OddC y) (i j p:Nat):prsU a.rows b.rows i j p=prsF a.rows b.rows i j p:=by
 unfold prsU prsF;congr 1
 funext p
 congr 1;unfold plcU plcF;congr 1
 funext q
 exact isB_key (cellQ_at hb jb j q) (cellQ_at ha ja i p)
theorem plcU_six {l1 l2:List (List Val)} (h2:JOk l2) (i j p n:Nat):(plcU l1 l2 i j p n).length≤6:=by
 obtain ⟨l0,z,rfl,h3,-,h5⟩:=h2;have key:(plcU l1 (l0++z) i j p n).length≤min n l0.length:=by
  induction n with
  | zero=>simp [plcU]
  | succ n ih =>
   rw [plcU_succ,List.length_append];by_cases hn:n<l0.length
   ·have:(if isB (cellAt (l0++z) j n) (cellAt l1 i p)=true then [n] else []).length≤1:=(by split <;> simp);omega
   ·rw [cellAt_z h5 j (by omega),isB_zl,if_neg (by simp),List.length_nil];omega
 omega
theorem prsU_small {l1 l2:List (List Val)} (h1:JOk l1) (h2:JOk l2) (i j p:Nat):(prsU l1 l2 i j p).length≤36:=by
 obtain ⟨l0,z,rfl,h3,-,h5⟩:=h1;have key:(prsU (l0++z) l2 i j p).length≤6*min p l0.length:=by
  induction p with
  | zero=>simp [prsU]
  | succ p ih =>
   rw [prsU_succ,List.length_append,List.length_map];by_cases hn:p<l0.length
   ·have:=plcU_six (l1:=l0++z) h2 i j p l2.length;omega
   ·have:plcU (l0++z) l2 i j p l2.length=[]:=by
     unfold plcU;rw [List.filter_eq_nil_iff];intro q _;rw [cellAt_z h5 i (by omega),isB_zr];simp
    rw [this,List.length_nil];omega
 omega
theorem join_eq {a b:Val} (ha:JOk a.rows) (hb:JOk b.rows) (col:ByteArray):joinR a b col=joinT a b col:=by
 unfold joinR joinT;by_cases h1:isTabB a=false∨isTabB b=false
 ·rw [if_pos h1,if_pos h1]
 rw [if_neg h1,if_neg h1];have ta:isTabB a=true:=(by cases h:isTabB a <;> simp_all);have tb:isTabB b=true:=(by cases h:isTabB b <;> simp_all);by_cases h2:idxS a.cols col<0∨idxS b.cols col<0
 ·rw [if_pos h2,if_pos h2]
 rw [if_neg h2,if_neg h2];by_cases h3:joinClash a.cols b.cols col=true
 ·rw [if_pos h3,if_pos h3]
 rw [if_neg h3,if_neg h3];have hs:=prsU_small ha hb (idxS a.cols col).toNat (idxS b.cols col).toNat a.rows.length;rw [prs_eq ta tb ha.odd hb.odd] at hs ⊢;by_cases h4:8<(joinCols a.cols b.cols col).length
 ·rw [if_pos (.inl h4),if_pos h4]
 ·rw [if_neg (by omega),if_neg h4]
theorem join_hX {a b:Val} (ha:JOk a.rows) (hb:JOk b.rows) (i j:Nat) (ta:isTabB a=true) (tb:isTabB b=true) (hi:i<a.cols.length) (hj:j<b.cols.length) :
  (∀ r∈a.rows,TxOk (r.getD i Val.zero))∧(∀ r∈b.rows,(r.getD j Val.zero).kind≠0→TxOk (r.getD j Val.zero))∧(prsF a.rows b.rows i j a.rows.length).length≤100:=by
 refine ⟨fun r hr => ?_,fun r hr _ => ?_,?_⟩
 ·obtain ⟨k,hk,rfl⟩:=List.mem_iff_getElem.1 hr;have hl:i<a.rows[k].length:=(by rw [isTab_row ta hk]; exact hi);rw [getD_of _ _ _ hl];have h1:=cellOK_iff (isTab_cell ta _ hr _ (List.getElem_mem hl));exact TxOk.of h1.1 h1.2 (ha.odd _ hr _ (List.getElem_mem hl))
 ·obtain ⟨k,hk,rfl⟩:=List.mem_iff_getElem.1 hr;have hl:j<b.rows[k].length:=(by rw [isTab_row tb hk]; exact hj);rw [getD_of _ _ _ hl];have h1:=cellOK_iff (isTab_cell tb _ hr _ (List.getElem_mem hl));exact TxOk.of h1.1 h1.2 (hb.odd _ hr _ (List.getElem_mem hl))
 ·rw [← prs_eq ta tb ha.odd hb.odd];have:=prsU_small ha hb i j a.rows.length;omega

def names6A:Array Value:=#[.string ⟨#[]⟩,.string ⟨#[115,105,122,101]⟩,.string ⟨#[99,111,108,111,114]⟩,.string ⟨#[122,105,112]⟩]
theorem names6_at (k:Nat) (h:k<4):∃ s:ByteArray,names6A[k]?=some (.string s)∧s.size≤4294967296:=by
 match k,h with
 | 0,_=>exact ⟨_,rfl,by decide⟩
 | 1,_=>exact ⟨_,rfl,by decide⟩
 | 2,_=>exact ⟨_,rfl,by decide⟩
 | 3,_=>exact ⟨_,rfl,by decide⟩
 | n+4,h=>omega
theorem Blk.off0 {W:World} {b t g i:Nat} {cs:Array Value} {u:Value} (h:Blk W b t cs) (hne:b≠g):Blk (W.setCell ⟨g,i,none⟩ u) b t cs:=h.keep (Kept.set2 (Kept.refl _ _) (fun e=>hne e.symm))
theorem Blk.at0 {w:World} {t b:Nat} {cs:Array Value} (hb:b=w.heap.size):Blk (w.alloc (.cells cs t)) b t cs:=by rw [hb]; exact Blk.new _ _ _
def MdF (O:World→Prop) (n γ:Nat) (w':World):Prop:=n≤γ∧(γ=n→O w')
theorem Strs.setc {w:World} {S:Nat→Prop} {g o:Nat} {l:List ByteArray} (h:Strs w S (some ⟨g,o,none⟩) l) (k:Nat) (s:ByteArray) (hs:s.size≤4294967296):Strs (w.setCell ⟨g,o+k,none⟩ (.string s)) S (some ⟨g,o,none⟩) (l.set k s):=by
 refine ⟨?_,by rw [List.length_set]; exact h.2.1,fun x hx => ?_⟩
 ·rw [List.map_set];exact h.1.setc k _
 ·rcases List.mem_or_eq_of_mem_set hx with hx | hx
  ·exact h.2.2 x hx
  ·rw [hx]; exact hs
theorem Strs.only {w:World} {S:Nat→Prop} {g o:Nat} {l:List ByteArray} (h:Strs w S (some ⟨g,o,none⟩) l):Strs w (fun b=>b=g) (some ⟨g,o,none⟩) l:=by
 refine ⟨?_,h.2⟩
 rcases h.1 with h0 | ⟨b,o',e1,_,hb,hc⟩
 ·exact .inl h0
 ·injection e1 with e1;injection e1 with e1 e2;subst e1 e2;exact .inr ⟨_,_,rfl,rfl,hb,hc⟩
def RetM2 (w:World) (r:Ending) (w':World):Prop:=∃ (x y:Val) (Aa:Option Addr) (ca:Nat) (Ba:Option Addr) (ea:Nat) (Ab:Option Addr) (cb:Nat) (Bb:Option Addr) (eb:Nat),r=.returned (.tuple #[(.agg #[.int .i64 x.kind,.string x.s,.int .i64 x.dn,.int .i64 x.ds,.int .i64 x.n,.slice Aa x.cols.length ca,.slice Ba x.rows.length ea]),(.agg #[.int .i64 y.kind,.string y.s,.int .i64 y.dn,.int .i64 y.ds,.int .i64 y.n,.slice Ab y.cols.length cb,.slice Bb y.rows.length eb])])∧(x.cols.length≤ca∧x.rows.length≤ea)∧(y.cols.length≤cb∧y.rows.length≤eb)∧RV w' (Fresh w) 1 x Aa Ba∧RV w' (Fresh w) 1 y Ab Bb∧JOk x.rows∧JOk y.rows∧Ext w w'
theorem r09_Made2 (l1 l2:List Int) (A1 A2:Option Addr) (c1 c2:Nat) (w:World) (S T:Nat→Prop) (h1:IntsL w S A1 l1) (h2:IntsL w T A2 l2) :
  Calls Tryz.prog 6 #[.agg #[.slice A1 l1.length c1,.slice A2 l2.length c2]] w (RetM2 w):=by
 have HL1:=Hd (h1.mono (T:=fun b=>b<w.heap.size) fun i hi _=>hi);have HL2:=Hd (h2.mono (T:=fun b=>b<w.heap.size) fun i hi _=>hi);clear h1 h2;obtain ⟨W0,hW0⟩:∃ W0,W0=((w.alloc (.cells #[.slice A1 l1.length c1,.slice A2 l2.length c2] 23)).alloc (.cells #[.int .i64 0,.string ⟨#[]⟩,.int .i64 0,.int .i64 0,.int .i64 0,.slice none 0 0,.slice none 0 0] 31)).alloc (.cells #[.int .i64 0,.string ⟨#[]⟩,.int .i64 0,.int .i64 0,.int .i64 0,.slice none 0 0,.slice none 0 0] 31):=⟨_,rfl⟩;have HW0:=Hd hW0;have HX0:=Hd (show Ext w W0 by rw [hW0]; exact (((Ext.refl w).alloc _).alloc _).alloc _);have HB0:=Hd (show Blk W0 w.heap.size 23 #[.slice A1 l1.length c1,.slice A2 l2.length c2] by rw [hW0]; exact (Blk.at0 rfl).keep (((Ext.refl _).alloc _).alloc _ |>.kept _));have HB1:=Hd (show Blk W0 (w.heap.size+1) 31 #[.int .i64 0,.string ⟨#[]⟩,.int .i64 0,.int .i64 0,.int .i64 0,.slice none 0 0,.slice none 0 0] by rw [hW0]; exact (Blk.at0 (by simp)).keep ((Ext.refl _).alloc _ |>.kept _));have HB2:=Hd (show Blk W0 (w.heap.size+1+1) 31 #[.int .i64 0,.string ⟨#[]⟩,.int .i64 0,.int .i64 0,.int .i64 0,.slice none 0 0,.slice none 0 0] by rw [hW0]; exact Blk.at0 (by simp));have HS0:=Hd (show W0.heap.size=w.heap.size+3 by rw [hW0]; simp);clear hW0
 go_enter Tryz.func6,Tryz.ntmps6
 go_wp2_with fail
 rw [← HW0.o];refine (r09_MadeF ⟨#[97]⟩ l1 A1 c1 W0 _ (HL1.o.keep (HX0.o.kept _)) (by decide)).mono ?_;rintro e1 w1 ⟨ta,H1,Aa,ca,Ba,ea,hma,rfl,hcapa,hH1,-,hsa,hra,hx1⟩;obtain ⟨x,hx⟩:∃ x,x=tabV ta.cols ta.rows:=⟨_,rfl⟩;have HMA:=Hd hma;have HRX:=Hd (show RV w1 (fun b=>W0.heap.size≤b∧b<w1.heap.size) 1 x Aa Ba by rw [hx]; exact RV.mk (Nat.zero_le _) (hsa.1.mono fun b h hb=>⟨hb.1,h⟩) (hra.mono fun b h hb=>⟨Nat.le_trans hH1 hb,h⟩));have HXC:=Hd (show x.cols.length≤ca∧x.rows.length≤ea by rw [hx]; exact hcapa);have HXJ:=Hd (show JOk x.rows by rw [hx]; exact JOk.of hma.odd.1 hma.odd.2);have HV1:=Hd hx;have HX1:=Hd (HX0.o.trans hx1);have HB01:=Hd (HB0.o.keep (hx1.kept _));have HB11:=Hd (HB1.o.keep (hx1.kept _));have HB21:=Hd (HB2.o.keep (hx1.kept _));have hz1:W0.heap.size≤w1.heap.size:=hx1.size;have hz0:W0.heap.size=w.heap.size+3:=HS0.o;clear hma hcapa hH1 hsa hra hx1 hx HB0 HB1 HB2 HW0 HX0 HS0
 go_wp2_with fail
 refine (r09_Value ta x HV1.o Aa Ba ca ea w1).mono ?_;rintro e2 w2 ⟨rfl,hx2⟩;obtain ⟨w3,hw3⟩:∃ w3,w3=w2.alloc (.cells #[.int .i64 x.kind,.string x.s,.int .i64 x.dn,.int .i64 x.ds,.int .i64 x.n,.slice Aa x.cols.length ca,.slice Ba x.rows.length ea] 31):=⟨_,rfl⟩;obtain ⟨g4,hg4⟩:∃ g4,g4=w2.heap.size:=⟨_,rfl⟩;have hx23:Ext w2 w3:=(by rw [hw3]; exact (Ext.refl _).alloc _);have hx13:=hx2.trans hx23;have HX3:=Hd (HX1.o.trans hx13);have HB03:=Hd (HB01.o.keep (hx13.kept _));have HB13:=Hd (HB11.o.keep (hx13.kept _));have HB23:=Hd (HB21.o.keep (hx13.kept _));have HB43:=Hd (show Blk w3 g4 31 #[.int .i64 x.kind,.string x.s,.int .i64 x.dn,.int .i64 x.ds,.int .i64 x.n,.slice Aa x.cols.length ca,.slice Ba x.rows.length ea] by rw [hw3,hg4]; exact Blk.new _ _ _);have HRX3:=Hd (HRX.o.keep (hx13.kept _));have hz2:w1.heap.size≤w2.heap.size:=hx2.size;have hz3:w3.heap.size=w2.heap.size+1:=(by rw [hw3]; simp);have HW3:=Hd hw3;have HG4:=Hd hg4;have hg4z:g4<w3.heap.size∧w1.heap.size≤g4:=(by omega);clear hg4 hw3 hx2 hx23 hx13 HX1 HB01 HB11 HB21 HRX HV1;have k1:=(HB03.o.keep (Kept.refl _ _)).cell (i:=1) rfl;have k1z:=HB03.o.lt
 go_wp2_with (rw [← HW3.o])
 rw [← HG4.o];clear k1 k1z HW3 HG4;refine (r09_MadeF ⟨#[98]⟩ l2 A2 c2 w3 _ (HL2.o.keep (HX3.o.kept _)) (by decide)).mono ?_;rintro e1 w4 ⟨tb,H2,Ab,cb,Bb,eb,hmb,rfl,hcapb,hH2,-,hsb,hrb,hx4⟩;obtain ⟨y,hy⟩:∃ y,y=tabV tb.cols tb.rows:=⟨_,rfl⟩;have hyc:y.cols.length=tb.cols.length:=(by rw [hy]; rfl);have HYL:=Hd hyc;have hn:1≤y.cols.length∧y.cols.length≤4:=by
  obtain ⟨-,ks,h1,h2,h3,-⟩:=hmb;rw [hyc,h3,List.length_take];have:names4.length=4:=rfl;omega
 obtain ⟨bc,oc,hA,hbl,-⟩:=hsb.1.at_ (k:=0) (by omega);have hblk:=hsb.2 bc (by rw [hA]; rfl);obtain ⟨⟨hb1,hb2⟩,hblk⟩:=hblk;have HBK4:=Hd hblk;have HST4:=Hd (show Strs w4 (fun b=>b=bc) (some ⟨bc,oc,none⟩) y.cols by rw [hy]; rw [hA] at hsb; exact hsb.1.only);have HRB4:=Hd (show Rows w4 (fun b=>H2≤b∧b<w4.heap.size) 1 Bb tb.rows from hrb.mono fun b h hb=>⟨hb,h⟩);have HYC:=Hd (show tb.cols.length≤cb∧tb.rows.length≤eb from hcapb);have HYJ:=Hd (show JOk tb.rows from JOk.of hmb.odd.1 hmb.odd.2);have HV2:=Hd hy;have HAB:=Hd hA;have HX4:=Hd (HX3.o.trans hx4);have HB14:=Hd (HB13.o.keep (hx4.kept _));have HB24:=Hd (HB23.o.keep (hx4.kept _));have HB44:=Hd (HB43.o.keep (hx4.kept _));have HRX4:=Hd (HRX3.o.keep (hx4.kept _));have hz4:w3.heap.size≤w4.heap.size:=hx4.size;clear hmb hcapb hsb hrb hx4 hy hA hblk hyc HX3 HB03 HB13 HB23 HB43 HRX3 HL1 HL2
 go_wp2_with fail
 refine (r09_Value tb y HV2.o Ab Bb cb eb w4).mono ?_;rintro e2 w5 ⟨rfl,hx5⟩;obtain ⟨w6,hw6⟩:∃ w6,w6=w5.alloc (.cells #[.int .i64 y.kind,.string y.s,.int .i64 y.dn,.int .i64 y.ds,.int .i64 y.n,.slice Ab y.cols.length cb,.slice Bb y.rows.length eb] 31):=⟨_,rfl⟩;obtain ⟨g5,hg5⟩:∃ g5,g5=w5.heap.size:=⟨_,rfl⟩;have hx56:Ext w5 w6:=(by rw [hw6]; exact (Ext.refl _).alloc _);have hx46:=hx5.trans hx56;have HX6:=Hd (HX4.o.trans hx46);have HB16:=Hd (HB14.o.keep (hx46.kept _));have HB26:=Hd (HB24.o.keep (hx46.kept _));have HB46:=Hd (HB44.o.keep (hx46.kept _));have HB56:=Hd (show Blk w6 g5 31 #[.int .i64 y.kind,.string y.s,.int .i64 y.dn,.int .i64 y.ds,.int .i64 y.n,.slice Ab y.cols.length cb,.slice Bb y.rows.length eb] by rw [hw6,hg5]; exact Blk.new _ _ _);have HRX6:=Hd (HRX4.o.keep (hx46.kept _));have HST6:=Hd (HST4.o.keep (hx46.kept _));have HBK6:=Hd (show ∃ cs,Blk w6 bc 9 cs from HBK4.o.elim fun cs h=>⟨cs,h.keep (hx46.kept _)⟩);have HRB6:=Hd (HRB4.o.keep (hx46.kept _));have hz5:w4.heap.size≤w5.heap.size:=hx5.size;have hz6:w6.heap.size=w5.heap.size+1:=(by rw [hw6]; simp);have HW6:=Hd hw6;have HG5:=Hd hg5;have hg5z:g5<w6.heap.size∧w4.heap.size≤g5:=(by omega);clear hg5 hw6 hx5 hx56 hx46 HX4 HB14 HB24 HB44 HRX4 HST4 HBK4 HRB4;go_wp2;rw [← HW6.o,← HG5.o];clear HW6 HG5
 go_loopw [6] (fun v6 wr=>∃ (k:Nat) (cols:List ByteArray),1≤k∧k≤y.cols.length∧v6=.int .i64 (k:Int)∧cols.length=y.cols.length∧Strs wr (fun b=>b=bc) (some ⟨bc,oc,none⟩) cols∧(∃ cs,Blk wr bc 9 cs)∧ButS (fun b=>b=bc) w6 wr) (fun v6 _=>y.cols.length-(intOf v6).toNat)
 case atStart=>exact ⟨1,y.cols,Nat.le_refl _,hn.1,rfl,rfl,HST6.o,HBK6.o,ButS.refl _ _⟩
 case round =>
  obtain ⟨k,cols,hk1,hk,rfl,hcl,hst,hbk,hbs⟩:=hrel;have HST:=Hd hst;have HBK:=Hd hbk;have HBS:=Hd hbs;have HCL:=Hd hcl;have HB1r:=Hd (hbs.blk HB16.o (fun h=>by have h:w.heap.size+1=bc:=h; omega));have HB2r:=Hd (hbs.blk HB26.o (fun h=>by have h:w.heap.size+1+1=bc:=h; omega));have HB4r:=Hd (hbs.blk HB46.o (fun h=>by have h:g4=bc:=h; omega));have HB5r:=Hd (hbs.blk HB56.o (fun h=>by have h:g5=bc:=h; omega));have HB5k:=HB5r;have hzr:w6.heap.size≤wr.heap.size:=hbs.size;have k5:=HB5r.o.cell (i:=5) rfl;have k5z:=HB5r.o.lt;clear hst hbk hbs;by_cases hlt:k<y.cols.length
  ·obtain ⟨s,hnm,hsz⟩:=names6_at k (by omega);have HNM:=Hd hnm;have HSZ:=Hd hsz;obtain ⟨b',o',he',-,hck⟩:=HST.o.at_ (k:=k) (by omega);injection he' with he';injection he' with he1 he2;subst he1 he2;obtain ⟨u,hck2⟩:∃ u,wr.cell? ⟨bc,oc+k,none⟩=some (Value.string u):=⟨_,hck⟩;have HCK:=Hd hck2;have i0:(0:Int)≤(k:Int):=(by omega);have i1:(k:Int)<(y.cols.length:Int):=(by omega);have i2:(k:Int)<4:=(by omega);clear hnm hsz hck hck2 hcl
   go_upto_region 6 with fail
   refine wp_region_chain (by kernel_rfl) (fun i=>[i]) (by kernel_rfl) (SR (fun γ w'=>γ≤2∧(γ≤1→Ext wr w')∧ButS (fun b=>b=bc) wr w')) (SR.refl _) (SR.trans _) (SN [100,100,100,1,100,100,2,100,2]) 0 (SN.zero (by decide)) ?_;apply Chain.pure (SR.refl _) (by rfl)
   ·intro vals γ w' ρ hR hN hp hρ hc hf hg;refine ⟨rfl,?_⟩;have e5:=hρ 5;(conv at e5=>rhs; whnf);clear hR hN hp hρ;go_light;go_simp;exact ⟨rfl,rfl⟩
   ·rfl
   apply Chain.pure (SR.refl _) (by rfl)
   ·intro vals γ w' ρ hR hN hp hρ hc hf hg;refine ⟨rfl,?_⟩;have e22:ρ (.tmp 22)=_:=(hρ 22).trans (hp 0 (by decide));have hi:=hR.inv ⟨by omega,fun _=>(Ext.refl _).drew,ButS.of_ext (Ext.refl _).drew⟩;have k5:=(hi.2.2.blk HB5k.o (fun h=>by have h:g5=bc:=h; omega)).cell (i:=5) rfl;rw [HAB.o] at k5;clear hi hR hN hp hρ;go_light;go_simp;exact ⟨rfl,rfl⟩
   ·rfl
   apply Chain.pure (SR.refl _) (by rfl)
   ·intro vals γ w' ρ hR hN hp hρ hc hf hg;refine ⟨rfl,?_⟩;have e6:=hρ 6;(conv at e6=>rhs; whnf);clear hR hN hp hρ;go_light;go_simp;exact ⟨rfl,rfl⟩
   ·rfl
   refine Chain.step (FP fun v γ w'=>∃ g:Nat,v=.slice (some ⟨g,0,none⟩) 4 4∧1≤γ∧(γ=1→Blk w' g 9 names6A)) (by rfl) (FP.stab ?_) ?_ ?_
   ·rintro v γ w1 γ' w2 r ⟨x0,h1,h3,h4⟩;have hle:=r.le;exact ⟨x0,h1,by omega,fun e=>by rw [r.eq (by omega)]; exact h4 (by omega)⟩
   ·intro vals γ w' ρ hR hN hp hρ hc hf hg;refine ⟨rfl,?_⟩;have hi:=hR.inv ⟨by omega,fun _=>(Ext.refl _).drew,ButS.of_ext (Ext.refl _).drew⟩;have h0:γ=0:=(by have h:γ<1:=hN; omega);subst h0;have HX:=Hd (hi.2.1 (by omega));clear hR hN hp hρ hi;go_light;go_simp;have hx1:Ext w' (w'.alloc (.cells names6A 9)):=(Ext.refl _).alloc _;exact ⟨1,SR.up (by omega) ⟨by omega,fun _=>HX.o.trans hx1,ButS.of_ext (HX.o.trans hx1)⟩,SN.up (by omega) (by decide) rfl,_,rfl,by omega,fun _=>Blk.new _ _ _⟩
   apply Chain.pure (SR.refl _) (by rfl)
   ·intro vals γ w' ρ hR hN hp hρ hc hf hg;refine ⟨rfl,?_⟩;have e6:=hρ 6;(conv at e6=>rhs; whnf);clear hR hN hp hρ;go_light;go_simp;exact ⟨rfl,rfl⟩
   ·rfl
   refine Chain.step (FP fun v γ w'=>∃ g:Nat,v=.pointer (some ⟨g,k,none⟩)∧1≤γ∧(γ=1→Blk w' g 9 names6A)) (by rfl) (FP.stab ?_) ?_ ?_
   ·rintro v γ w1 γ' w2 r ⟨x0,h1,h3,h4⟩;have hle:=r.le;exact ⟨x0,h1,by omega,fun e=>by rw [r.eq (by omega)]; exact h4 (by omega)⟩
   ·intro vals γ w' ρ hR hN hp hρ hc hf hg;refine ⟨rfl,?_⟩;have e26:ρ (.tmp 26)=_:=(hρ 26).trans (hp 4 (by decide));obtain ⟨g,hv,hr,hb⟩:=hp 3 (by decide);have e25:=(hρ 25).trans hv;have e26:ρ (.tmp 26)=_:=(hρ 26).trans (hp 4 (by decide));have HB:=Hd hb;clear hR hN hp hρ hv hb;go_light;go_simp;exact ⟨γ,SR.refl _ _ _,fun _ _ _ h=>h,g,rfl,hr,HB.o⟩
   refine Chain.step (FP fun v γ w'=>v=.string s∧1≤γ) (by rfl) (FP.stab ?_) ?_ ?_
   ·rintro v γ w1 γ' w2 r ⟨h1,h3⟩;have hle:=r.le;exact ⟨h1,by omega⟩
   ·intro vals γ w' ρ hR hN hp hρ hc hf hg;refine ⟨rfl,?_⟩;obtain ⟨g,hv,hr,hb⟩:=hp 5 (by decide);have e27:=(hρ 27).trans hv;have h0:γ=1:=(by have h:γ<2:=hN; omega);subst h0;have k0:=(hb rfl).cell HNM.o;clear hR hN hp hρ hv hb;go_light;go_simp;exact ⟨1,SR.refl _ _ _,fun _ _ _ h=>h,rfl,by omega⟩
   apply Chain.pure (SR.refl _) (by rfl)
   ·intro vals γ w' ρ hR hN hp hρ hc hf hg;refine ⟨rfl,?_⟩;have e23:ρ (.tmp 23)=_:=(hρ 23).trans (hp 1 (by decide));have e24:ρ (.tmp 24)=_:=(hρ 24).trans (hp 2 (by decide));clear hR hN hp hρ;go_light;go_simp;exact ⟨rfl,rfl⟩
   ·rfl
   refine Chain.step (FP fun v γ w'=>MdF (fun w'=>Strs w' (fun b=>b=bc) (some ⟨bc,oc,none⟩) (cols.set k s)∧∃ cs,Blk w' bc 9 cs) 2 γ w') (by rfl) (FP.stab ?_) ?_ ?_
   ·rintro v γ w1 γ' w2 r ⟨h3,h4⟩;have hle:=r.le;exact ⟨by omega,fun e=>by rw [r.eq (by omega)]; exact h4 (by omega)⟩
   ·intro vals γ w' ρ hR hN hp hρ hc hf hg;refine ⟨rfl,?_⟩;have e29:ρ (.tmp 29)=_:=(hρ 29).trans (hp 7 (by decide));have hi:=hR.inv ⟨by omega,fun _=>(Ext.refl _).drew,ButS.of_ext (Ext.refl _).drew⟩;obtain ⟨hv6,hr6⟩:=hp 6 (by decide);have e28:=(hρ 28).trans hv6;have e29:ρ (.tmp 29)=_:=(hρ 29).trans (hp 7 (by decide));have h0:γ=1:=(by have h:γ<2:=hN; omega);subst h0;have hx:=hi.2.1 (by omega);have HBS:=Hd hi.2.2;have HS1:=Hd (HST.o.keep (hx.kept _));obtain ⟨cs,hcs⟩:=HBK.o;have HB1:=Hd (hcs.keep (hx.kept _));have k0:=hx.cell HCK.o;have kf:=HB1.o.frozen (oc+k);have kz:=HB1.o.lt;clear hR hN hp hρ hi hx hcs hv6;go_light;go_simp;have hF:MdF (fun w'=>Strs w' (fun b=>b=bc) (some ⟨bc,oc,none⟩) (cols.set k s)∧∃ cs,Blk w' bc 9 cs) 2 2 (w'.setCell ⟨bc,oc+k,none⟩ (.string s)):=⟨by omega,fun _=>⟨Strs.setc HS1.o k s HSZ.o,_,HB1.o.set _ _⟩⟩;exact ⟨2,SR.up (by omega) ⟨by omega,fun h=>absurd h (by omega),HBS.o.set (.inl rfl)⟩,SN.up (by omega) (by decide) rfl,hF⟩
   intro vals γ w9 hR hG;have v0:vals 0=_:=hG 0 (by decide);have v1:vals 1=_:=hG 1 (by decide);have v2:vals 2=_:=hG 2 (by decide);have v4:vals 4=_:=hG 4 (by decide);have v7:vals 7=_:=hG 7 (by decide);have hi8:=hR.inv ⟨by omega,fun _=>(Ext.refl _).drew,ButS.of_ext (Ext.refl _).drew⟩;obtain ⟨hr8,ho8⟩:=hG 8 (by decide);obtain ⟨hst8,hbk8⟩:=ho8 (by have:=hi8.1; omega);have hbs8:=hi8.2.2;simp only [lexFrame,Act.put,List.setIfInBounds_toArray,List.set_cons_succ,List.set_cons_zero,Nat.zero_add,Nat.reduceAdd,v0,v1,v2,v4,v7];generalize vals 3=z3,vals 5=z5,vals 6=z6;have HST8:=Hd hst8;have HBK8:=Hd hbk8;have HBS8:=Hd hbs8;clear hR hG hi8 hr8 ho8 hst8 hbk8 hbs8 v0 v1 v2 v4 v7;go_wp2;go_roundw
   case rel=>exact ⟨k+1,cols.set k s,by omega,by omega,by go_num,by rw [List.length_set]; exact HCL.o,HST8.o,HBK8.o,HBS.o.trans HBS8.o⟩
   case measure=>simp [intOf]; omega
  have hq:¬ ((k:Int)<(y.cols.length:Int)):=(by omega);clear hcl
  go_upto_region 7 with fail
  refine wp_region_chain (by kernel_rfl) (fun i=>[i]) (by kernel_rfl) (SR (fun γ w'=>γ≤2∧(γ≤0→Ext wr w')∧(γ≤1→Kept (fun b=>b=w.heap.size+1+1) wr w')∧ButS (fun b=>b=w.heap.size+1∨b=w.heap.size+1+1) wr w')) (SR.refl _) (SR.trans _) (SN [100,100,1,2]) 0 (SN.zero (by decide)) ?_;apply Chain.pure (SR.refl _) (by rfl)
  ·intro vals γ w' ρ hR hN hp hρ hc hf hg;refine ⟨rfl,?_⟩;have e4:=hρ 4;(conv at e4=>rhs; whnf);have hi:=hR.inv ⟨by omega,fun _=>(Ext.refl _).drew,fun _=>(Ext.refl _).drew.kept _,ButS.of_ext (Ext.refl _).drew⟩;have hbb:=hi.2.2.2.blk HB4r.o (fun h=>by rcases h with h | h <;> omega);have f0:=hbb.cell (i:=0) rfl;have f1:=hbb.cell (i:=1) rfl;have f2:=hbb.cell (i:=2) rfl;have f3:=hbb.cell (i:=3) rfl;have f4:=hbb.cell (i:=4) rfl;have f5:=hbb.cell (i:=5) rfl;have f6:=hbb.cell (i:=6) rfl;clear hi hbb hR hN hp hρ;go_light;go_simp;exact ⟨rfl,rfl⟩
  ·rfl
  apply Chain.pure (SR.refl _) (by rfl)
  ·intro vals γ w' ρ hR hN hp hρ hc hf hg;refine ⟨rfl,?_⟩;have e5:=hρ 5;(conv at e5=>rhs; whnf);have hi:=hR.inv ⟨by omega,fun _=>(Ext.refl _).drew,fun _=>(Ext.refl _).drew.kept _,ButS.of_ext (Ext.refl _).drew⟩;have hbb:=hi.2.2.2.blk HB5r.o (fun h=>by rcases h with h | h <;> omega);have f0:=hbb.cell (i:=0) rfl;have f1:=hbb.cell (i:=1) rfl;have f2:=hbb.cell (i:=2) rfl;have f3:=hbb.cell (i:=3) rfl;have f4:=hbb.cell (i:=4) rfl;have f5:=hbb.cell (i:=5) rfl;have f6:=hbb.cell (i:=6) rfl;clear hi hbb hR hN hp hρ;go_light;go_simp;exact ⟨rfl,rfl⟩
  ·rfl
  refine Chain.step (FP fun v γ w'=>MdF (fun w'=>Blk w' (w.heap.size+1) 31 #[.int .i64 x.kind,.string x.s,.int .i64 x.dn,.int .i64 x.ds,.int .i64 x.n,.slice Aa x.cols.length ca,.slice Ba x.rows.length ea]) 1 γ w') (by rfl) (FP.stab ?_) ?_ ?_
  ·rintro v γ w1 γ' w2 r ⟨h3,h4⟩;have hle:=r.le;exact ⟨by omega,fun e=>by rw [r.eq (by omega)]; exact h4 (by omega)⟩
  ·intro vals γ w' ρ hR hN hp hρ hc hf hg;refine ⟨rfl,?_⟩;have e2:=hρ 2;(conv at e2=>rhs; whnf);have e30:ρ (.tmp 30)=_:=(hρ 30).trans (hp 0 (by decide));have hi:=hR.inv ⟨by omega,fun _=>(Ext.refl _).drew,fun _=>(Ext.refl _).drew.kept _,ButS.of_ext (Ext.refl _).drew⟩;have e30:ρ (.tmp 30)=_:=(hρ 30).trans (hp 0 (by decide));have h0:γ=0:=(by have h:γ<1:=hN; omega);subst h0;have HBS:=Hd hi.2.2.2;have HKP:=Hd (hi.2.2.1 (by omega));have hb:=HB1r.o.keep ((hi.2.1 (by omega)).kept _);have HB:=Hd hb;have q0:=hb.cell (i:=0) rfl;have q1:=hb.cell (i:=1) rfl;have q2:=hb.cell (i:=2) rfl;have q3:=hb.cell (i:=3) rfl;have q4:=hb.cell (i:=4) rfl;have q5:=hb.cell (i:=5) rfl;have q6:=hb.cell (i:=6) rfl;have qf:=hb.frozen;have ql:=hb.lt;clear hR hN hp hρ hi hb;go_light;go_simp;have hF:MdF (fun w'=>Blk w' (w.heap.size+1) 31 #[.int .i64 x.kind,.string x.s,.int .i64 x.dn,.int .i64 x.ds,.int .i64 x.n,.slice Aa x.cols.length ca,.slice Ba x.rows.length ea]) 1 1 (((((((w'.setCell ⟨w.heap.size+1,0,none⟩ (.int .i64 x.kind)).setCell ⟨w.heap.size+1,1,none⟩ (.string x.s)).setCell ⟨w.heap.size+1,2,none⟩ (.int .i64 x.dn)).setCell ⟨w.heap.size+1,3,none⟩ (.int .i64 x.ds)).setCell ⟨w.heap.size+1,4,none⟩ (.int .i64 x.n)).setCell ⟨w.heap.size+1,5,none⟩ (.slice Aa x.cols.length ca)).setCell ⟨w.heap.size+1,6,none⟩ (.slice Ba x.rows.length ea)):=⟨by omega,fun _=>by simpa using (((((((HB.o.set 0 (.int .i64 x.kind)).set 1 (.string x.s)).set 2 (.int .i64 x.dn)).set 3 (.int .i64 x.ds)).set 4 (.int .i64 x.n)).set 5 (.slice Aa x.cols.length ca)).set 6 (.slice Ba x.rows.length ea))⟩;exact ⟨1,SR.up (by omega) ⟨by omega,fun h=>absurd h (by omega),fun _=>(Kept.set2 (Kept.set2 (Kept.set2 (Kept.set2 (Kept.set2 (Kept.set2 (Kept.set2 HKP.o (fun h=>by omega)) (fun h=>by omega)) (fun h=>by omega)) (fun h=>by omega)) (fun h=>by omega)) (fun h=>by omega)) (fun h=>by omega)),(((((((HBS.o.set (Or.inl (Or.inl rfl))).set (Or.inl (Or.inl rfl))).set (Or.inl (Or.inl rfl))).set (Or.inl (Or.inl rfl))).set (Or.inl (Or.inl rfl))).set (Or.inl (Or.inl rfl))).set (Or.inl (Or.inl rfl)))⟩,SN.up (by omega) (by decide) rfl,hF⟩
  refine Chain.step (FP fun v γ w'=>MdF (fun w'=>Blk w' (w.heap.size+1) 31 #[.int .i64 x.kind,.string x.s,.int .i64 x.dn,.int .i64 x.ds,.int .i64 x.n,.slice Aa x.cols.length ca,.slice Ba x.rows.length ea]∧Blk w' (w.heap.size+1+1) 31 #[.int .i64 y.kind,.string y.s,.int .i64 y.dn,.int .i64 y.ds,.int .i64 y.n,.slice Ab y.cols.length cb,.slice Bb y.rows.length eb]) 2 γ w') (by rfl) (FP.stab ?_) ?_ ?_
  ·rintro v γ w1 γ' w2 r ⟨h3,h4⟩;have hle:=r.le;exact ⟨by omega,fun e=>by rw [r.eq (by omega)]; exact h4 (by omega)⟩
  ·intro vals γ w' ρ hR hN hp hρ hc hf hg;refine ⟨rfl,?_⟩;have e3:=hρ 3;(conv at e3=>rhs; whnf);have e31:ρ (.tmp 31)=_:=(hρ 31).trans (hp 1 (by decide));have hi:=hR.inv ⟨by omega,fun _=>(Ext.refl _).drew,fun _=>(Ext.refl _).drew.kept _,ButS.of_ext (Ext.refl _).drew⟩;have e31:ρ (.tmp 31)=_:=(hρ 31).trans (hp 1 (by decide));obtain ⟨hr2,hb2⟩:=hp 2 (by decide);have h0:γ=1:=(by have h:γ<2:=hN; omega);subst h0;have HBS:=Hd hi.2.2.2;have HX1:=Hd (hb2 rfl);have hb:=HB2r.o.keep (hi.2.2.1 (by omega));have HB:=Hd hb;have q0:=hb.cell (i:=0) rfl;have q1:=hb.cell (i:=1) rfl;have q2:=hb.cell (i:=2) rfl;have q3:=hb.cell (i:=3) rfl;have q4:=hb.cell (i:=4) rfl;have q5:=hb.cell (i:=5) rfl;have q6:=hb.cell (i:=6) rfl;have qf:=hb.frozen;have ql:=hb.lt;clear hR hN hp hρ hi hb hb2;go_light;go_simp;have hF:MdF (fun w'=>Blk w' (w.heap.size+1) 31 #[.int .i64 x.kind,.string x.s,.int .i64 x.dn,.int .i64 x.ds,.int .i64 x.n,.slice Aa x.cols.length ca,.slice Ba x.rows.length ea]∧Blk w' (w.heap.size+1+1) 31 #[.int .i64 y.kind,.string y.s,.int .i64 y.dn,.int .i64 y.ds,.int .i64 y.n,.slice Ab y.cols.length cb,.slice Bb y.rows.length eb]) 2 2 (((((((w'.setCell ⟨w.heap.size+1+1,0,none⟩ (.int .i64 y.kind)).setCell ⟨w.heap.size+1+1,1,none⟩ (.string y.s)).setCell ⟨w.heap.size+1+1,2,none⟩ (.int .i64 y.dn)).setCell ⟨w.heap.size+1+1,3,none⟩ (.int .i64 y.ds)).setCell ⟨w.heap.size+1+1,4,none⟩ (.int .i64 y.n)).setCell ⟨w.heap.size+1+1,5,none⟩ (.slice Ab y.cols.length cb)).setCell ⟨w.heap.size+1+1,6,none⟩ (.slice Bb y.rows.length eb)):=⟨by omega,fun _=>⟨(((((((HX1.o.off0 (by omega)).off0 (by omega)).off0 (by omega)).off0 (by omega)).off0 (by omega)).off0 (by omega)).off0 (by omega)),by simpa using (((((((HB.o.set 0 (.int .i64 y.kind)).set 1 (.string y.s)).set 2 (.int .i64 y.dn)).set 3 (.int .i64 y.ds)).set 4 (.int .i64 y.n)).set 5 (.slice Ab y.cols.length cb)).set 6 (.slice Bb y.rows.length eb))⟩⟩;exact ⟨2,SR.up (by omega) ⟨by omega,fun h=>absurd h (by omega),fun h=>absurd h (by omega),(((((((HBS.o.set (Or.inl (Or.inr rfl))).set (Or.inl (Or.inr rfl))).set (Or.inl (Or.inr rfl))).set (Or.inl (Or.inr rfl))).set (Or.inl (Or.inr rfl))).set (Or.inl (Or.inr rfl))).set (Or.inl (Or.inr rfl)))⟩,SN.up (by omega) (by decide) rfl,hF⟩
  intro vals γ w9 hR hG;have v0:vals 0=_:=hG 0 (by decide);have v1:vals 1=_:=hG 1 (by decide);have hi3:=hR.inv ⟨by omega,fun _=>(Ext.refl _).drew,fun _=>(Ext.refl _).drew.kept _,ButS.of_ext (Ext.refl _).drew⟩;obtain ⟨hr3,ho3⟩:=hG 3 (by decide);obtain ⟨hbx,hby⟩:=ho3 (by have:=hi3.1; omega);have HBF:=Hd hi3.2.2.2;simp only [lexFrame,Act.put,List.setIfInBounds_toArray,List.set_cons_succ,List.set_cons_zero,Nat.zero_add,Nat.reduceAdd,v0,v1];have f0:=hbx.cell (i:=0) rfl;have f1:=hbx.cell (i:=1) rfl;have f2:=hbx.cell (i:=2) rfl;have f3:=hbx.cell (i:=3) rfl;have f4:=hbx.cell (i:=4) rfl;have f5:=hbx.cell (i:=5) rfl;have f6:=hbx.cell (i:=6) rfl;have e0:=hby.cell (i:=0) rfl;have e1:=hby.cell (i:=1) rfl;have e2:=hby.cell (i:=2) rfl;have e3:=hby.cell (i:=3) rfl;have e4:=hby.cell (i:=4) rfl;have e5:=hby.cell (i:=5) rfl;have e6:=hby.cell (i:=6) rfl;clear hR hG hi3 hr3 ho3 hbx hby v0 v1;go_wp2;refine bodyPost_ret (v:=.tuple #[(.agg #[.int .i64 x.kind,.string x.s,.int .i64 x.dn,.int .i64 x.ds,.int .i64 x.n,.slice Aa x.cols.length ca,.slice Ba x.rows.length ea]),(.agg #[.int .i64 y.kind,.string y.s,.int .i64 y.dn,.int .i64 y.ds,.int .i64 y.n,.slice Ab y.cols.length cb,.slice Bb y.rows.length eb])]) (by simp [results,Tryz.results6,go_sem,f0,f1,f2,f3,f4,f5,f6,e0,e1,e2,e3,e4,e5,e6]) rfl ?_;refine ⟨x,tabV cols tb.rows,Aa,ca,Ba,ea,Ab,cb,Bb,eb,?_,HXC.o,?_,?_,?_,HXJ.o,HYJ.o,?_⟩
  ·rw [show (tabV cols tb.rows).cols.length=y.cols.length from HCL.o,HV2.o];rfl
  ·exact ⟨by rw [show (tabV cols tb.rows).cols.length=y.cols.length from HCL.o,HYL.o]; exact HYC.o.1,HYC.o.2⟩
  ·refine ((HRX6.o.keep (HBS.o.kept fun b _ hb h=>by have h:b=bc:=h; omega)).keep (HBF.o.kept fun b _ hb h=>by rcases h with h | h <;> omega)).mono fun b _ hb=>by unfold Fresh; omega
  ·rw [HAB.o];exact RV.mk (Nat.zero_le _) ((HST.o.keep (HBF.o.kept fun b _ hb h=>by have hb:b=bc:=hb; rcases h with h | h <;> omega)).mono fun b _ hb=>by have hb:b=bc:=hb; unfold Fresh; omega) (((HRB6.o.keep (HBS.o.kept fun b _ hb h=>by have h:b=bc:=h; omega)).keep (HBF.o.kept fun b _ hb h=>by rcases h with h | h <;> omega)).mono fun b _ hb=>by unfold Fresh; omega)
  ·exact ButS.exts (ButS.exts HX6.o HBS.o fun b h=>by have h:b=bc:=h; omega) HBF.o fun b h=>by rcases h with h | h <;> omega
def gJ3 (gb:Nat) (A1:Option Addr) (n1 c1:Nat) (q0 q1 q2:Int) (ix:Nat) (vl:List Value) (γ:Gh) (w':World):Prop:=match vl with
 | [v]=>if ix=2 then (∃ (t':Look) (A':Option Addr) (c':Nat) (B':Option Addr) (e':Nat),v=(.agg #[.string t'.name,.slice A' t'.cols.length c',.slice B' t'.rows.length e'])∧(MadeT ⟨#[97]⟩ t'∧RL w' (Free γ) 2 t' A' B')) else if ix=4 then (∃ (t':Look) (A':Option Addr) (c':Nat) (B':Option Addr) (e':Nat),v=(.agg #[.string t'.name,.slice A' t'.cols.length c',.slice B' t'.rows.length e'])∧(((t'.cols.length≤c'∧t'.rows.length≤e')∧JOk t'.rows)∧RL w' (Free γ) 2 t' A' B')) else if ix=5 then (∃ (x':Val) (A':Option Addr) (c':Nat) (B':Option Addr) (e':Nat),v=(.agg #[.int .i64 x'.kind,.string x'.s,.int .i64 x'.dn,.int .i64 x'.ds,.int .i64 x'.n,.slice A' x'.cols.length c',.slice B' x'.rows.length e'])∧(((x'.cols.length≤c'∧x'.rows.length≤e')∧JOk x'.rows)∧RV w' (Free γ) 2 x' A' B')) else if ix=6 then (VarAt 6 31 7 v γ w') else if ix=0 then v=.pointer (some ⟨gb,0,none⟩) else if ix=1 then v=.slice A1 n1 c1 else v=.agg #[.int .i64 q0,.int .i64 q1,.int .i64 q2]
 | [p,_]=>∃ (x':Val) (A':Option Addr) (c':Nat) (B':Option Addr) (e':Nat),VarIs 31 p #[.int .i64 x'.kind,.string x'.s,.int .i64 x'.dn,.int .i64 x'.ds,.int .i64 x'.n,.slice A' x'.cols.length c',.slice B' x'.rows.length e'] γ w'∧(((x'.cols.length≤c'∧x'.rows.length≤e')∧JOk x'.rows)∧RV w' (Free γ) 2 x' A' B')
 | _=>True
theorem gJ3_st (gb:Nat) (A1:Option Addr) (n1 c1:Nat) (q0 q1 q2:Int):∀ ix vl γ w γ' w',LR γ w γ' w'→gJ3 gb A1 n1 c1 q0 q1 q2 ix vl γ w→gJ3 gb A1 n1 c1 q0 q1 q2 ix vl γ' w':=by
 intro ix vl γ w γ' w' r h
 match vl,h with
 | [v],h =>
  unfold gJ3 at h ⊢;by_cases h2:ix=2
  ·simp only [if_pos h2] at h ⊢;obtain ⟨t',A',c',B',e',h0,h1,h2⟩:=h;exact ⟨t',A',c',B',e',h0,h1,⟨h2.1,r.strs h2.2.1,r.rows h2.2.2⟩⟩
  simp only [if_neg h2] at h ⊢;by_cases h4:ix=4
  ·simp only [if_pos h4] at h ⊢;obtain ⟨t',A',c',B',e',h0,h1,h2⟩:=h;exact ⟨t',A',c',B',e',h0,h1,⟨h2.1,r.strs h2.2.1,r.rows h2.2.2⟩⟩
  simp only [if_neg h4] at h ⊢;by_cases h5:ix=5
  ·simp only [if_pos h5] at h ⊢;obtain ⟨x',A',c',B',e',h0,h1,h2⟩:=h;exact ⟨x',A',c',B',e',h0,h1,r.rv h2⟩
  simp only [if_neg h5] at h ⊢;by_cases h6:ix=6
  ·simp only [if_pos h6] at h ⊢;exact VarAt.lr r h
  simp only [if_neg h6] at h ⊢;exact h
 | [],_=>trivial
 | [p,_],h=>exact (by obtain ⟨x',A',c',B',e',h0,h1,h2⟩:=h; exact ⟨x',A',c',B',e',VarIs.lr r h0,h1,r.rv h2⟩)
 | _ :: _ :: _ :: _,_=>trivial
theorem law_Joins (l1 l2:List Int) (col q0 q1 q2:Int) (A1 A2:Option Addr) (c1 c2:Nat) (w:World) (S:Nat→Prop) (ht:Tens w) (hT:TxM w) (hl1:IntsL w S A1 l1) (hl2:IntsL w S A2 l2) :
  Calls Tryz.prog 3 #[.agg #[.slice A1 l1.length c1,.slice A2 l2.length c2],.int .i64 col,.agg #[.int .i64 q0,.int .i64 q1,.int .i64 q2]] w (RetB w true):=by
 have HT:=Hd ht;have HTX:=Hd hT;have HL1:=Hd hl1;have HL2:=Hd hl2;obtain ⟨W0,hW0⟩:∃ W0,W0=(w.alloc (.cells #[.slice A1 l1.length c1,.slice A2 l2.length c2] 23)).alloc (.cells #[.int .i64 q0,.int .i64 q1,.int .i64 q2] 24):=⟨_,rfl⟩;have HW0:=Hd hW0;have HX0:=Hd (show Ext w W0 by rw [hW0]; exact ((Ext.refl w).alloc _).alloc _);have HGB0:=Hd (show Blk W0 w.heap.size 23 #[.slice A1 l1.length c1,.slice A2 l2.length c2] by rw [hW0]; exact (Blk.new _ _ _).keep (Kept.alloc _ _ _));have HGQ0:=Hd (show Blk W0 (w.heap.size+1) 24 #[.int .i64 q0,.int .i64 q1,.int .i64 q2] by rw [hW0]; exact Blk.at0 (by simp));clear ht hT hl1 hl2 hW0
 go_enter Tryz.func3,Tryz.ntmps3
 go_wp2_with fail
 rw [← HW0.o];refine (law_sanity W0 (HT.o.ext HX0.o)).mono ?_;rintro e1 w1 ⟨rfl,hx1⟩;have HX1:=Hd (HX0.o.trans hx1);have HGB1:=Hd (HGB0.o.keep (hx1.kept _));have HGQ1:=Hd (HGQ0.o.keep (hx1.kept _));clear hx1 HGB0 HGQ0 HX0 HW0;have b0:=HGB1.o.cell (i:=0) rfl;have b1:=HGB1.o.cell (i:=1) rfl;have bz:=HGB1.o.lt
 go_wp2_with fail
 refine (r09_Made2 l1 l2 A1 A2 c1 c2 w1 S S (HL1.o.keep (HX1.o.kept _)) (HL2.o.keep (HX1.o.kept _))).mono ?_;rintro e2 w2 ⟨x,y,Aa,ca,Ba,ea,Ab,cb,Bb,eb,rfl,hcx,hcy,hrx,hry,hjx,hjy,hx2⟩;clear b0 b1 bz;obtain ⟨w3,hw3⟩:∃ w3,w3=(w2.alloc (.cells #[.int .i64 x.kind,.string x.s,.int .i64 x.dn,.int .i64 x.ds,.int .i64 x.n,.slice Aa x.cols.length ca,.slice Ba x.rows.length ea] 31)).alloc (.cells #[.int .i64 y.kind,.string y.s,.int .i64 y.dn,.int .i64 y.ds,.int .i64 y.n,.slice Ab y.cols.length cb,.slice Bb y.rows.length eb] 31):=⟨_,rfl⟩;obtain ⟨g8,hg8⟩:∃ g8,g8=w2.heap.size:=⟨_,rfl⟩;obtain ⟨gb,hgb⟩:∃ gb,gb=w.heap.size:=⟨_,rfl⟩;obtain ⟨gq,hgq⟩:∃ gq,gq=w.heap.size+1:=⟨_,rfl⟩;have hx23:Ext w2 w3:=(by rw [hw3]; exact ((Ext.refl _).alloc _).alloc _);have HX3:=Hd ((HX1.o.trans hx2).trans hx23);have HG8:=Hd (show Blk w3 g8 31 #[.int .i64 x.kind,.string x.s,.int .i64 x.dn,.int .i64 x.ds,.int .i64 x.n,.slice Aa x.cols.length ca,.slice Ba x.rows.length ea] by rw [hw3,hg8]; exact (Blk.at0 rfl).keep ((Ext.refl _).alloc _ |>.kept _));have HG9:=Hd (show Blk w3 (g8+1) 31 #[.int .i64 y.kind,.string y.s,.int .i64 y.dn,.int .i64 y.ds,.int .i64 y.n,.slice Ab y.cols.length cb,.slice Bb y.rows.length eb] by rw [hw3,hg8]; exact Blk.at0 (by simp));have HRX:=Hd (((hrx.up (d':=2) (by omega)).keep (hx23.kept _)).mono (T:=fun _=>True) fun _ _ _=>trivial);have HRY:=Hd (((hry.up (d':=2) (by omega)).keep (hx23.kept _)).mono (T:=fun _=>True) fun _ _ _=>trivial);have HCX:=Hd hcx;have HCY:=Hd hcy;have HJX:=Hd hjx;have HJY:=Hd hjy;have HGB:=Hd (show Blk w3 gb 23 #[.slice A1 l1.length c1,.slice A2 l2.length c2] by rw [hgb]; exact HGB1.o.keep ((hx2.trans hx23).kept _));have HGQ:=Hd (show Blk w3 gq 24 #[.int .i64 q0,.int .i64 q1,.int .i64 q2] by rw [hgq]; exact HGQ1.o.keep ((hx2.trans hx23).kept _));have HW3:=Hd hw3;have HG8E:=Hd hg8;have HGBE:=Hd hgb;have HGQE:=Hd hgq;clear hw3 hg8 hgb hgq hrx hry hcx hcy hjx hjy hx2 hx23 HX1 HGB1 HGQ1;go_wp2;rw [← HW3.o,← HG8E.o,← HGQE.o,← HGBE.o];clear HW3 HG8E HGQE HGBE;refine wp_region_lin_lit (by kernel_rfl) (fun | 7=>[6,7] | i=>[i]) (by kernel_rfl) LR LR.refl LR.trans (LN (al1 7 6)) (gJ3 gb A1 l1.length c1 q0 q1 q2) (gJ3_st _ _ _ _ _ _ _) gh0 (LN.zero _) ⟨?_,?_,?_,?_,?_,?_,?_,?_,trivial⟩ ?_
 ·refine LinStep.yes fun vals γ w' ρ hR hN hp hρ hc hf hg=>⟨rfl,?_⟩;have e3:ρ (.tmp 3)=.pointer (some ⟨gb,0,none⟩):=hρ 3;have hx:=hR.drew_ext;have HR:=Hd hR;have HN:=Hd hN;clear hR hN hp hρ hx;go_light;go_simp;exact ⟨γ,LR.refl _ _,fun _ _ _ h=>h,rfl⟩
 ·refine LinStep.yes fun vals γ w' ρ hR hN hp hρ hc hf hg=>⟨rfl,?_⟩;have e26:ρ (.tmp 26)=.pointer (some ⟨gb,0,none⟩):=(hρ 26).trans (hp 0 (by decide));have hx:=hR.drew_ext;have c0:=(HGB.o.keep (hx.kept _)).cell (i:=0) rfl;have HR:=Hd hR;have HN:=Hd hN;clear hR hN hp hρ hx;go_light;go_simp;exact ⟨γ,LR.refl _ _,fun _ _ _ h=>h,rfl⟩
 ·refine LinStep.yes fun vals γ w' ρ hR hN hp hρ hc hf hg=>⟨rfl,?_⟩;have e27:ρ (.tmp 27)=.slice A1 l1.length c1:=(hρ 27).trans (hp 1 (by decide));have hx:=hR.drew_ext;have HR:=Hd hR;have HN:=Hd hN;clear hR hN hp hρ hx;go_light;go_simp;refine (r09_Made ⟨#[97]⟩ l1 A1 c1 w' _ (HL1.o.keep ((HX3.o.trans HR.o.drew_ext).kept _)) (by decide)).mono ?_;rintro e' w3 ⟨t,hmt,A',c',B',e1,he,hcp,hrl,hx⟩;exact ⟨_,he,γ,LR.of_ext γ hx,fun _ _ _ h=>h,t,A',c',B',e1,rfl,hmt,(hrl.up (d':=2) (by omega)).mono fun b _ hb=>fun ⟨k',hk'⟩=>by have:=HR.o.inb0 k' _ hk'; unfold Fresh at hb; omega⟩
 ·refine LinStep.yes fun vals γ w' ρ hR hN hp hρ hc hf hg=>⟨rfl,?_⟩;have e5:ρ (.tmp 5)=.pointer (some ⟨gq,0,none⟩):=hρ 5;have hx:=hR.drew_ext;have c0:=(HGQ.o.keep (hx.kept _)).cell (i:=0) rfl;have c1:=(HGQ.o.keep (hx.kept _)).cell (i:=1) rfl;have c2:=(HGQ.o.keep (hx.kept _)).cell (i:=2) rfl;have HR:=Hd hR;have HN:=Hd hN;clear hR hN hp hρ hx;go_light;go_simp;exact ⟨γ,LR.refl _ _,fun _ _ _ h=>h,rfl⟩
 ·refine LinStep.yes fun vals γ w' ρ hR hN hp hρ hc hf hg=>⟨rfl,?_⟩;obtain ⟨t',A',c',B',e',g3,hmt,hrl⟩:=hp 2 (by decide);have e28:ρ (.tmp 28)=_:=(hρ 28).trans g3;have e29:ρ (.tmp 29)=.agg #[.int .i64 q0,.int .i64 q1,.int .i64 q2]:=(hρ 29).trans (hp 3 (by decide));have HRL':=Hd hrl;have HMT:=Hd hmt;clear g3 hrl hmt;have hx:=hR.drew_ext;have HR:=Hd hR;have HN:=Hd hN;clear hR hN hp hρ hx;go_light;go_simp;refine (r09_OddR t' A' B' c' e' q0 q1 q2 w' _ HRL'.out (made_ok HMT.o)).mono ?_;rintro e9 w3 ⟨t2,A2,c2,B2,e1,he,hcp,hrl,hx,hodd⟩;exact ⟨_,he,γ,LR.of_ext γ hx,fun _ _ _ h=>h,t2,A2,c2,B2,e1,rfl,⟨hcp,JOk.oddR HMT.o.odd.1 HMT.o.odd.2 hodd⟩,hrl.mono fun b _ hb=>fun ⟨k',hk'⟩=>by have:=HR.o.inb0 k' _ hk'; unfold Fresh at hb; omega⟩
 ·refine LinStep.yes fun vals γ w' ρ hR hN hp hρ hc hf hg=>⟨rfl,?_⟩;obtain ⟨t',A',c',B',e',g3,hcp,hrl⟩:=hp 4 (by decide);have e30:ρ (.tmp 30)=_:=(hρ 30).trans g3;have HRL':=Hd hrl;clear g3 hrl;have hx:=hR.drew_ext;have HR:=Hd hR;have HN:=Hd hN;clear hR hN hp hρ hx;go_light;go_simp;refine (r09_Value t' _ rfl A' B' c' e' w').mono ?_;rintro e9 w3 ⟨he,hx⟩;have hlr:=LR.of_ext γ hx;exact ⟨_,he,γ,hlr,fun _ _ _ h=>h,tabV t'.cols t'.rows,A',c',B',e',rfl,hcp,hlr.rv HRL'.out.val⟩
 ·refine LinStep.yes fun vals γ w' ρ hR hN hp hρ hc hf hg=>⟨rfl,?_⟩;have hx:=hR.drew_ext;have HR:=Hd hR;have HN:=Hd hN;clear hR hN hp hρ hx;go_light;go_simp;exact ⟨γ.put 6 (some w'.heap.size),LR.new (HN.o.2 ⟨7,rfl⟩) _ _,LN.made,VarAt.new HR.o.inb0 rfl⟩
 ·refine LinStep.yes fun vals γ w' ρ hR hN hp hρ hc hf hg=>⟨rfl,?_⟩;obtain ⟨x',A',c',B',e',g5,hcp,hrv⟩:=hp 5 (by decide);have e31:ρ (.tmp 31)=_:=(hρ 31).trans g5;have HRV':=Hd hrv;clear g5 hrv;obtain ⟨g,hv,hcs,hk,hst⟩:=VarAt.store7 (hp 6 (by decide)) (s:=7) (al:=al1 7 6) rfl hN;have e10:ρ (.tmp 10)=_:=(hρ 10).trans hv;obtain ⟨⟨x0,x1,x2,x3,x4,x5,x6,k0,k1,k2,k3,k4,k5,k6⟩,kf,kz⟩:=blk7 hcs;have HST:=Hd hst;have HK:=Hd hk;clear hv hst hcs hk;have hx:=hR.drew_ext;have HR:=Hd hR;have HN:=Hd hN;clear hR hN hp hρ hx;go_light;go_simp;exact ⟨γ.put 6 none,(HST.o _ _ _ _ _ _ _).1,LN.stored al1_inj rfl HK.o,x',A',c',B',e',(HST.o _ _ _ _ _ _ _).2,hcp,(HST.o _ _ _ _ _ _ _).1.rv HRV'.out⟩
 ·intro vals γ w6 hR hG;obtain ⟨o,Ao,co,Bo,eo,⟨gv,hv,hb,-⟩,⟨hco,hjo⟩,hro⟩:=hG 7 (by decide);have hx6:=hR.drew_ext;have HX6:=Hd (HX3.o.trans hx6);have HGV:=Hd hb;have HRO:=Hd (hro.mono (T:=fun _=>True) fun _ _ _=>trivial);have HCO:=Hd hco;have HJO:=Hd hjo;have HG86:=Hd (HG8.o.keep (hx6.kept _));have HG96:=Hd (HG9.o.keep (hx6.kept _));have HRX6:=Hd (HRX.o.keep (hx6.kept _));have HRY6:=Hd (HRY.o.keep (hx6.kept _));have HGB6:=Hd (HGB.o.keep (hx6.kept _));clear hR hG hb hro hco hjo hx6 HG8 HG9 HRX HRY HGB HGQ HX3;simp only [lexFrame,Act.put,List.setIfInBounds_toArray,List.set_cons_succ,List.set_cons_zero,Nat.zero_add,Nat.reduceAdd,hv];generalize vals 0=u0,vals 1=u1,vals 2=u2,vals 3=u3,vals 4=u4,vals 5=u5;clear hv;have b1:=HGB6.o.cell (i:=1) rfl;have bz:=HGB6.o.lt
  go_wp2_with fail
  clear b1 bz;refine (r09_Made ⟨#[98]⟩ l2 A2 c2 w6 _ (HL2.o.keep (HX6.o.kept _)) (by decide)).mono ?_;rintro e7 w7 ⟨t2,hmt,At,ct,Bt,et,rfl,hcz,hrl,hx7⟩;obtain ⟨z,hz⟩:∃ z,z=tabV t2.cols t2.rows:=⟨_,rfl⟩;have HZE:=Hd hz;have HJZ:=Hd (show JOk z.rows by rw [hz]; exact JOk.of hmt.odd.1 hmt.odd.2);have HCZ:=Hd (show z.cols.length≤ct∧z.rows.length≤et by rw [hz]; exact hcz);have HRZ:=Hd (show RV w7 (fun _=>True) 2 z At Bt by rw [hz]; exact (((hrl.up (d':=2) (by omega)).val).mono (T:=fun _=>True) fun _ _ _=>trivial));have HX7:=Hd hx7;clear hz hmt hcz hrl hx7
  go_wp2_with fail
  refine (r09_Value t2 z HZE.o At Bt ct et w7).mono ?_;rintro e8 w8 ⟨rfl,hx8⟩;obtain ⟨w9,hw9⟩:∃ w9,w9=w8.alloc (.cells #[.int .i64 z.kind,.string z.s,.int .i64 z.dn,.int .i64 z.ds,.int .i64 z.n,.slice At z.cols.length ct,.slice Bt z.rows.length et] 31):=⟨_,rfl⟩;obtain ⟨g11,hg11⟩:∃ g11,g11=w8.heap.size:=⟨_,rfl⟩;have hx89:Ext w8 w9:=(by rw [hw9]; exact (Ext.refl _).alloc _);have hx79:=hx8.trans hx89;have hx69:=HX7.o.trans hx79;have HX9:=Hd (HX6.o.trans hx69);have HG89:=Hd (HG86.o.keep (hx69.kept _));have HG99:=Hd (HG96.o.keep (hx69.kept _));have HGV9:=Hd (HGV.o.keep (hx69.kept _));have HG119:=Hd (show Blk w9 g11 31 #[.int .i64 z.kind,.string z.s,.int .i64 z.dn,.int .i64 z.ds,.int .i64 z.n,.slice At z.cols.length ct,.slice Bt z.rows.length et] by rw [hw9,hg11]; exact Blk.at0 rfl);have HRX9:=Hd (HRX6.o.keep (hx69.kept _));have HRY9:=Hd (HRY6.o.keep (hx69.kept _));have HRO9:=Hd (HRO.o.keep (hx69.kept _));have HRZ9:=Hd (HRZ.o.keep (hx79.kept _));have HW9:=Hd hw9;have HG11:=Hd hg11;clear hw9 hg11 hx8 hx89 hx79 hx69 HX6 HX7 HG86 HG96 HGV HRX6 HRY6 HRO HRZ HGB6 HZE
  go_upto_region 5 with fail
  rw [← HW9.o,← HG11.o];clear HW9 HG11;have p0:=HG89.o.cell (i:=0) rfl;have p1:=HG89.o.cell (i:=1) rfl;have p2:=HG89.o.cell (i:=2) rfl;have p3:=HG89.o.cell (i:=3) rfl;have p4:=HG89.o.cell (i:=4) rfl;have p5:=HG89.o.cell (i:=5) rfl;have p6:=HG89.o.cell (i:=6) rfl;have q0:=HG99.o.cell (i:=0) rfl;have q1:=HG99.o.cell (i:=1) rfl;have q2:=HG99.o.cell (i:=2) rfl;have q3:=HG99.o.cell (i:=3) rfl;have q4:=HG99.o.cell (i:=4) rfl;have q5:=HG99.o.cell (i:=5) rfl;have q6:=HG99.o.cell (i:=6) rfl;have r0:=HGV9.o.cell (i:=0) rfl;have r1:=HGV9.o.cell (i:=1) rfl;have r2:=HGV9.o.cell (i:=2) rfl;have r3:=HGV9.o.cell (i:=3) rfl;have r4:=HGV9.o.cell (i:=4) rfl;have r5:=HGV9.o.cell (i:=5) rfl;have r6:=HGV9.o.cell (i:=6) rfl;have s0:=HG119.o.cell (i:=0) rfl;have s1:=HG119.o.cell (i:=1) rfl;have s2:=HG119.o.cell (i:=2) rfl;have s3:=HG119.o.cell (i:=3) rfl;have s4:=HG119.o.cell (i:=4) rfl;have s5:=HG119.o.cell (i:=5) rfl;have s6:=HG119.o.cell (i:=6) rfl;have pz:=HG89.o.lt;have qz:=HG99.o.lt;have rz:=HGV9.o.lt;have sz:=HG119.o.lt;go_wp2;obtain ⟨wA,hwA⟩:∃ wA,wA=w9.alloc (.cells #[.int .i64 x.kind,.string x.s,.int .i64 x.dn,.int .i64 x.ds,.int .i64 x.n,.slice Aa x.cols.length ca,.slice Ba x.rows.length ea,.int .i64 y.kind,.string y.s,.int .i64 y.dn,.int .i64 y.ds,.int .i64 y.n,.slice Ab y.cols.length cb,.slice Bb y.rows.length eb,.int .i64 o.kind,.string o.s,.int .i64 o.dn,.int .i64 o.ds,.int .i64 o.n,.slice Ao o.cols.length co,.slice Bo o.rows.length eo,.int .i64 y.kind,.string y.s,.int .i64 y.dn,.int .i64 y.ds,.int .i64 y.n,.slice Ab y.cols.length cb,.slice Bb y.rows.length eb,.int .i64 y.kind,.string y.s,.int .i64 y.dn,.int .i64 y.ds,.int .i64 y.n,.slice Ab y.cols.length cb,.slice Bb y.rows.length eb,.int .i64 o.kind,.string o.s,.int .i64 o.dn,.int .i64 o.ds,.int .i64 o.n,.slice Ao o.cols.length co,.slice Bo o.rows.length eo,.int .i64 x.kind,.string x.s,.int .i64 x.dn,.int .i64 x.ds,.int .i64 x.n,.slice Aa x.cols.length ca,.slice Ba x.rows.length ea,.int .i64 z.kind,.string z.s,.int .i64 z.dn,.int .i64 z.ds,.int .i64 z.n,.slice At z.cols.length ct,.slice Bt z.rows.length et,.int .i64 o.kind,.string o.s,.int .i64 o.dn,.int .i64 o.ds,.int .i64 o.n,.slice Ao o.cols.length co,.slice Bo o.rows.length eo,.int .i64 o.kind,.string o.s,.int .i64 o.dn,.int .i64 o.ds,.int .i64 o.n,.slice Ao o.cols.length co,.slice Bo o.rows.length eo] 39):=⟨_,rfl⟩;obtain ⟨gA,hgA⟩:∃ gA,gA=w9.heap.size:=⟨_,rfl⟩;have hx9A:Ext w9 wA:=(by rw [hwA]; exact (Ext.refl _).alloc _);have hbA:Blk wA gA 39 #[.int .i64 x.kind,.string x.s,.int .i64 x.dn,.int .i64 x.ds,.int .i64 x.n,.slice Aa x.cols.length ca,.slice Ba x.rows.length ea,.int .i64 y.kind,.string y.s,.int .i64 y.dn,.int .i64 y.ds,.int .i64 y.n,.slice Ab y.cols.length cb,.slice Bb y.rows.length eb,.int .i64 o.kind,.string o.s,.int .i64 o.dn,.int .i64 o.ds,.int .i64 o.n,.slice Ao o.cols.length co,.slice Bo o.rows.length eo,.int .i64 y.kind,.string y.s,.int .i64 y.dn,.int .i64 y.ds,.int .i64 y.n,.slice Ab y.cols.length cb,.slice Bb y.rows.length eb,.int .i64 y.kind,.string y.s,.int .i64 y.dn,.int .i64 y.ds,.int .i64 y.n,.slice Ab y.cols.length cb,.slice Bb y.rows.length eb,.int .i64 o.kind,.string o.s,.int .i64 o.dn,.int .i64 o.ds,.int .i64 o.n,.slice Ao o.cols.length co,.slice Bo o.rows.length eo,.int .i64 x.kind,.string x.s,.int .i64 x.dn,.int .i64 x.ds,.int .i64 x.n,.slice Aa x.cols.length ca,.slice Ba x.rows.length ea,.int .i64 z.kind,.string z.s,.int .i64 z.dn,.int .i64 z.ds,.int .i64 z.n,.slice At z.cols.length ct,.slice Bt z.rows.length et,.int .i64 o.kind,.string o.s,.int .i64 o.dn,.int .i64 o.ds,.int .i64 o.n,.slice Ao o.cols.length co,.slice Bo o.rows.length eo,.int .i64 o.kind,.string o.s,.int .i64 o.dn,.int .i64 o.ds,.int .i64 o.n,.slice Ao o.cols.length co,.slice Bo o.rows.length eo]:=(by rw [hwA,hgA]; exact Blk.at0 rfl);have HPP:=Hd (show ∀ k,k<5→∃ (x:Val) (A:Option Addr) (c:Nat) (B:Option Addr) (e:Nat) (y:Val) (A':Option Addr) (c':Nat) (B':Option Addr) (e':Nat),(wA.cell? ⟨gA,k*14,none⟩=some (.int .i64 x.kind)∧wA.cell? ⟨gA,k*14+1,none⟩=some (.string x.s)∧wA.cell? ⟨gA,k*14+2,none⟩=some (.int .i64 x.dn)∧wA.cell? ⟨gA,k*14+3,none⟩=some (.int .i64 x.ds)∧wA.cell? ⟨gA,k*14+4,none⟩=some (.int .i64 x.n)∧wA.cell? ⟨gA,k*14+5,none⟩=some (.slice A x.cols.length c)∧wA.cell? ⟨gA,k*14+6,none⟩=some (.slice B x.rows.length e)∧wA.cell? ⟨gA,k*14+7,none⟩=some (.int .i64 y.kind)∧wA.cell? ⟨gA,k*14+8,none⟩=some (.string y.s)∧wA.cell? ⟨gA,k*14+9,none⟩=some (.int .i64 y.dn)∧wA.cell? ⟨gA,k*14+10,none⟩=some (.int .i64 y.ds)∧wA.cell? ⟨gA,k*14+11,none⟩=some (.int .i64 y.n)∧wA.cell? ⟨gA,k*14+12,none⟩=some (.slice A' y.cols.length c')∧wA.cell? ⟨gA,k*14+13,none⟩=some (.slice B' y.rows.length e'))∧x.cols.length≤c∧y.cols.length≤c'∧RV wA (fun _=>True) 2 x A B∧RV wA (fun _=>True) 2 y A' B'∧JOk x.rows∧JOk y.rows by
   intro k hk
   match k,hk with
   | 0,_=>exact ⟨x,Aa,ca,Ba,ea,y,Ab,cb,Bb,eb,⟨hbA.cell rfl,hbA.cell rfl,hbA.cell rfl,hbA.cell rfl,hbA.cell rfl,hbA.cell rfl,hbA.cell rfl,hbA.cell rfl,hbA.cell rfl,hbA.cell rfl,hbA.cell rfl,hbA.cell rfl,hbA.cell rfl,hbA.cell rfl⟩,HCX.o.1,HCY.o.1,HRX9.o.keep (hx9A.kept _),HRY9.o.keep (hx9A.kept _),HJX.o,HJY.o⟩
   | 1,_=>exact ⟨o,Ao,co,Bo,eo,y,Ab,cb,Bb,eb,⟨hbA.cell rfl,hbA.cell rfl,hbA.cell rfl,hbA.cell rfl,hbA.cell rfl,hbA.cell rfl,hbA.cell rfl,hbA.cell rfl,hbA.cell rfl,hbA.cell rfl,hbA.cell rfl,hbA.cell rfl,hbA.cell rfl,hbA.cell rfl⟩,HCO.o.1,HCY.o.1,HRO9.o.keep (hx9A.kept _),HRY9.o.keep (hx9A.kept _),HJO.o,HJY.o⟩
   | 2,_=>exact ⟨y,Ab,cb,Bb,eb,o,Ao,co,Bo,eo,⟨hbA.cell rfl,hbA.cell rfl,hbA.cell rfl,hbA.cell rfl,hbA.cell rfl,hbA.cell rfl,hbA.cell rfl,hbA.cell rfl,hbA.cell rfl,hbA.cell rfl,hbA.cell rfl,hbA.cell rfl,hbA.cell rfl,hbA.cell rfl⟩,HCY.o.1,HCO.o.1,HRY9.o.keep (hx9A.kept _),HRO9.o.keep (hx9A.kept _),HJY.o,HJO.o⟩
   | 3,_=>exact ⟨x,Aa,ca,Ba,ea,z,At,ct,Bt,et,⟨hbA.cell rfl,hbA.cell rfl,hbA.cell rfl,hbA.cell rfl,hbA.cell rfl,hbA.cell rfl,hbA.cell rfl,hbA.cell rfl,hbA.cell rfl,hbA.cell rfl,hbA.cell rfl,hbA.cell rfl,hbA.cell rfl,hbA.cell rfl⟩,HCX.o.1,HCZ.o.1,HRX9.o.keep (hx9A.kept _),HRZ9.o.keep (hx9A.kept _),HJX.o,HJZ.o⟩
   | 4,_=>exact ⟨o,Ao,co,Bo,eo,o,Ao,co,Bo,eo,⟨hbA.cell rfl,hbA.cell rfl,hbA.cell rfl,hbA.cell rfl,hbA.cell rfl,hbA.cell rfl,hbA.cell rfl,hbA.cell rfl,hbA.cell rfl,hbA.cell rfl,hbA.cell rfl,hbA.cell rfl,hbA.cell rfl,hbA.cell rfl⟩,HCO.o.1,HCO.o.1,HRO9.o.keep (hx9A.kept _),HRO9.o.keep (hx9A.kept _),HJO.o,HJO.o⟩
   | n+5,h=>omega)
  have HGZ:=Hd hbA.lt;have HXA:=Hd (HX9.o.trans hx9A);have HWA:=Hd hwA;have HGAE:=Hd hgA;clear hwA hgA hx9A hbA HG89 HG99 HGV9 HG119 HRX9 HRY9 HRO9 HRZ9 HX9 HCX HCY HCO HCZ HJX HJY HJO HJZ p0 p1 p2 p3 p4 p5 p6 q0 q1 q2 q3 q4 q5 q6 r0 r1 r2 r3 r4 r5 r6 s0 s1 s2 s3 s4 s5 s6 pz qz rz sz;rw [← HWA.o,← HGAE.o];clear HWA HGAE
  go_loopw [53] (fun i wr=>∃ (k:Nat),k≤5∧i=.int .i64 k∧Ext wA wr) (fun i _=>5-(intOf i).toNat)
  case atStart=>exact ⟨0,Nat.zero_le _,rfl,Ext.refl _⟩
  case round =>
   obtain ⟨k,hk,rfl,hext⟩:=hrel;have HE:=Hd hext;clear hext;by_cases hlt:k<5
   ·obtain ⟨x,A,c,B,e,y,A',c',B',e',⟨y0,y1,y2,y3,y4,y5,y6,y7,y8,y9,y10,y11,y12,y13⟩,hcx,hcy,hrx,hry,hjx,hjy⟩:=HPP.o k hlt;have z0:=HE.o.cell y0;have z1:=HE.o.cell y1;have z2:=HE.o.cell y2;have z3:=HE.o.cell y3;have z4:=HE.o.cell y4;have z5:=HE.o.cell y5;have z6:=HE.o.cell y6;have z7:=HE.o.cell y7;have z8:=HE.o.cell y8;have z9:=HE.o.cell y9;have z10:=HE.o.cell y10;have z11:=HE.o.cell y11;have z12:=HE.o.cell y12;have z13:=HE.o.cell y13;have zz:gA<wr.heap.size:=Nat.lt_of_lt_of_le HGZ.o HE.o.size;have i0:(0:Int)≤(k:Int):=(by omega);have i1:(k:Int)<5:=(by omega);obtain ⟨wx,hwx⟩:∃ wx,wx=wr.alloc (.cells #[.int .i64 x.kind,.string x.s,.int .i64 x.dn,.int .i64 x.ds,.int .i64 x.n,.slice A x.cols.length c,.slice B x.rows.length e,.int .i64 y.kind,.string y.s,.int .i64 y.dn,.int .i64 y.ds,.int .i64 y.n,.slice A' y.cols.length c',.slice B' y.rows.length e'] 39):=⟨_,rfl⟩;obtain ⟨gx,hgx⟩:∃ gx,gx=wr.heap.size:=⟨_,rfl⟩;have hxx:Ext wr wx:=(by rw [hwx]; exact (Ext.refl _).alloc _);have HWX:=Hd hwx;have HGXE:=Hd hgx;have HGX:=Hd (show Blk wx gx 39 #[.int .i64 x.kind,.string x.s,.int .i64 x.dn,.int .i64 x.ds,.int .i64 x.n,.slice A x.cols.length c,.slice B x.rows.length e,.int .i64 y.kind,.string y.s,.int .i64 y.dn,.int .i64 y.ds,.int .i64 y.n,.slice A' y.cols.length c',.slice B' y.rows.length e'] by rw [hwx,hgx]; exact Blk.at0 rfl);have HRX:=Hd (hrx.keep ((HE.o.trans hxx).kept _));have HRY:=Hd (hry.keep ((HE.o.trans hxx).kept _));have HCX:=Hd hcx;have HCY:=Hd hcy;have HJX:=Hd hjx;have HJY:=Hd hjy;have HEX:=Hd (HE.o.trans hxx);clear y0 y1 y2 y3 y4 y5 y6 y7 y8 y9 y10 y11 y12 y13 hcx hcy hrx hry hjx hjy hwx hgx hxx
    go_wp2_with fail
    rw [← HWX.o,← HGXE.o];clear z0 z1 z2 z3 z4 z5 z6 z7 z8 z9 z10 z11 z12 z13 zz HWX;refine (law_names col wx).mono ?_;rintro e5 v8 ⟨rfl,hx8⟩;obtain ⟨v9,hv9⟩:∃ v9,v9=v8.alloc (.cells #[.string ⟨#[99,105,116,121]⟩,.string (nameS col)] 9):=⟨_,rfl⟩;obtain ⟨gn,hgn⟩:∃ gn,gn=v8.heap.size:=⟨_,rfl⟩;have hx9:Ext wx v9:=hx8.trans (by rw [hv9]; exact (Ext.refl _).alloc _);have HNN:=Hd (show ∀ k,k<2→∃ nm,v9.cell? ⟨gn,k,none⟩=some (.string nm) by
     have hb:Blk v9 gn 9 #[.string ⟨#[99,105,116,121]⟩,.string (nameS col)]:=(by rw [hv9,hgn]; exact Blk.new _ _ _);intro k hk
     match k,hk with
     | 0,_=>exact ⟨_,hb.cell rfl⟩
     | 1,_=>exact ⟨_,hb.cell rfl⟩
     | n+2,h=>omega)
    have HNZ:=Hd (show gn<v9.heap.size by rw [hv9,hgn]; simp);have HGX9:=Hd (HGX.o.keep (hx9.kept _));have HRX9:=Hd (HRX.o.keep (hx9.kept _));have HRY9:=Hd (HRY.o.keep (hx9.kept _));have HE9:=Hd (HEX.o.trans hx9);have HW9:=Hd hv9;have HGNE:=Hd hgn;clear hx8 hv9 hgn hx9 HGX HRX HRY HEX HE;go_wp2;rw [← HW9.o,← HGNE.o];clear HW9 HGXE HGNE
    go_loopw [61] (fun i wr=>∃ (k:Nat),k≤2∧i=.int .i64 k∧Ext v9 wr) (fun i _=>2-(intOf i).toNat)
    case atStart=>exact ⟨0,Nat.zero_le _,rfl,Ext.refl _⟩
    case round =>
     obtain ⟨j,hj,rfl,hext2⟩:=hrel;have HE2:=Hd hext2;clear hext2;by_cases hltj:j<2
     ·obtain ⟨nm,hnm⟩:=HNN.o j hltj;have z0:=HE2.o.cell hnm;have zz:gn<wr.heap.size:=Nat.lt_of_lt_of_le HNZ.o HE2.o.size;have j0:(0:Int)≤(j:Int):=(by omega);have j1:(j:Int)<2:=(by omega);have HGX3:=Hd (HGX9.o.keep (HE2.o.kept _));have HRX3:=Hd (HRX9.o.keep (HE2.o.kept _));have HRY3:=Hd (HRY9.o.keep (HE2.o.kept _));have HTX3:=Hd (HTX.o.ext (HXA.o.trans (HE9.o.trans HE2.o)));have x0:=HGX3.o.cell (i:=0) rfl;have x1:=HGX3.o.cell (i:=1) rfl;have x2:=HGX3.o.cell (i:=2) rfl;have x3:=HGX3.o.cell (i:=3) rfl;have x4:=HGX3.o.cell (i:=4) rfl;have x5:=HGX3.o.cell (i:=5) rfl;have x6:=HGX3.o.cell (i:=6) rfl;have x7:=HGX3.o.cell (i:=7) rfl;have x8:=HGX3.o.cell (i:=8) rfl;have x9:=HGX3.o.cell (i:=9) rfl;have x10:=HGX3.o.cell (i:=10) rfl;have x11:=HGX3.o.cell (i:=11) rfl;have x12:=HGX3.o.cell (i:=12) rfl;have x13:=HGX3.o.cell (i:=13) rfl;have xz:=HGX3.o.lt;clear hnm
      go_wp2_with fail
      clear z0 zz x0 x1 x2 x3 x4 x5 x6 x7 x8 x9 x10 x11 x12 x13 xz;refine (table_Join 2 x y nm A B A' B' c e c' e' wr _ _ HRX3.o HCX.o HRY3.o HCY.o HTX3.o (fun i j ta tb hi hj=>join_hX HJX.o HJY.o i j ta tb hi hj)).mono ?_;rintro e10 v10 ⟨A1,c1,B1,e1,rfl,-,hrv,hx10⟩;obtain ⟨rs,hrs⟩:∃ rs,rs=(joinT x y nm).1:=⟨_,rfl⟩;obtain ⟨cd,hcd⟩:∃ cd,cd=(joinT x y nm).2:=⟨_,rfl⟩;have HRS:=Hd hrs;have HCD:=Hd hcd;rw [← hrs] at hrv;rw [← hrs,← hcd];obtain ⟨v11,hv11⟩:∃ v11,v11=v10.alloc (.cells #[.int .i64 rs.kind,.string rs.s,.int .i64 rs.dn,.int .i64 rs.ds,.int .i64 rs.n,.slice A1 rs.cols.length c1,.slice B1 rs.rows.length e1] 31):=⟨_,rfl⟩;obtain ⟨g1,hg1⟩:∃ g1,g1=v10.heap.size:=⟨_,rfl⟩;have hx11:Ext v10 v11:=(by rw [hv11]; exact (Ext.refl _).alloc _);have HW11:=Hd hv11;have HG1E:=Hd hg1;have HG1:=Hd (show Blk v11 g1 31 #[.int .i64 rs.kind,.string rs.s,.int .i64 rs.dn,.int .i64 rs.ds,.int .i64 rs.n,.slice A1 rs.cols.length c1,.slice B1 rs.rows.length e1] by rw [hv11,hg1]; exact Blk.new _ _ _);have HR1:=Hd ((hrv.keep (hx11.kept _)).mono (T:=fun _=>True) fun _ _ _=>trivial);have HE11:=Hd (HE2.o.trans (hx10.trans hx11));have HRX11:=Hd (HRX3.o.keep ((hx10.trans hx11).kept _));have HRY11:=Hd (HRY3.o.keep ((hx10.trans hx11).kept _));have HGX11:=Hd (HGX3.o.keep ((hx10.trans hx11).kept _));clear hrs hcd hrv hx10 hv11 hg1 hx11
      go_upto_region 12 with fail
      rw [← HW11.o,← HG1E.o];clear HW11;have x0:=HGX11.o.cell (i:=0) rfl;have x1:=HGX11.o.cell (i:=1) rfl;have x2:=HGX11.o.cell (i:=2) rfl;have x3:=HGX11.o.cell (i:=3) rfl;have x4:=HGX11.o.cell (i:=4) rfl;have x5:=HGX11.o.cell (i:=5) rfl;have x6:=HGX11.o.cell (i:=6) rfl;have x7:=HGX11.o.cell (i:=7) rfl;have x8:=HGX11.o.cell (i:=8) rfl;have x9:=HGX11.o.cell (i:=9) rfl;have x10:=HGX11.o.cell (i:=10) rfl;have x11:=HGX11.o.cell (i:=11) rfl;have x12:=HGX11.o.cell (i:=12) rfl;have x13:=HGX11.o.cell (i:=13) rfl;have xz:=HGX11.o.lt
      go_wp2_with fail
      clear x0 x1 x2 x3 x4 x5 x6 x7 x8 x9 x10 x11 x12 x13 xz;have hjn:=r09_Join 2 x y nm A B A' B' c e c' e' v11 _ _ HRX11.o HRY11.o;rw [join_eq HJX.o HJY.o] at hjn;refine hjn.mono ?_;rintro e12 v12 ⟨A2,c2,B2,e2,rfl,-,hrv,hx12⟩;rw [← HRS.o] at hrv;rw [← HRS.o,← HCD.o];obtain ⟨v13,hv13⟩:∃ v13,v13=v12.alloc (.cells #[.int .i64 rs.kind,.string rs.s,.int .i64 rs.dn,.int .i64 rs.ds,.int .i64 rs.n,.slice A2 rs.cols.length c2,.slice B2 rs.rows.length e2] 31):=⟨_,rfl⟩;obtain ⟨g2,hg2⟩:∃ g2,g2=v12.heap.size:=⟨_,rfl⟩;have hx13:Ext v12 v13:=(by rw [hv13]; exact (Ext.refl _).alloc _);have HW13:=Hd hv13;have HG2E:=Hd hg2;have HG2:=Hd (show Blk v13 g2 31 #[.int .i64 rs.kind,.string rs.s,.int .i64 rs.dn,.int .i64 rs.ds,.int .i64 rs.n,.slice A2 rs.cols.length c2,.slice B2 rs.rows.length e2] by rw [hv13,hg2]; exact Blk.new _ _ _);have HR2:=Hd ((hrv.keep (hx13.kept _)).mono (T:=fun _=>True) fun _ _ _=>trivial);have HR1b:=Hd (HR1.o.keep ((hx12.trans hx13).kept _));have HE13:=Hd (HE11.o.trans (hx12.trans hx13));have HG1b:=Hd (HG1.o.keep ((hx12.trans hx13).kept _));have hne:(cd != cd)=false:=(by simp);clear hjn hrv hx12 hv13 hg2 hx13 HG1 HR1 HE11 HRX11 HRY11 HGX11
      go_upto_region 13 with fail
      rw [← HW13.o,← HG2E.o];clear HW13 HG2E HG1E;have y0:=HG1b.o.cell (i:=0) rfl;have z0:=HG2.o.cell (i:=0) rfl;have y1:=HG1b.o.cell (i:=1) rfl;have z1:=HG2.o.cell (i:=1) rfl;have y2:=HG1b.o.cell (i:=2) rfl;have z2:=HG2.o.cell (i:=2) rfl;have y3:=HG1b.o.cell (i:=3) rfl;have z3:=HG2.o.cell (i:=3) rfl;have y4:=HG1b.o.cell (i:=4) rfl;have z4:=HG2.o.cell (i:=4) rfl;have y5:=HG1b.o.cell (i:=5) rfl;have z5:=HG2.o.cell (i:=5) rfl;have y6:=HG1b.o.cell (i:=6) rfl;have z6:=HG2.o.cell (i:=6) rfl;have yz:=HG1b.o.lt;have zz:=HG2.o.lt
      go_wp2_with fail
      clear y0 z0 y1 z1 y2 z2 y3 z3 y4 z4 y5 z5 y6 z6 yz zz;refine (r06_Equal 2 rs rs A1 B1 A2 B2 c1 e1 c2 e2 v13 _ _ HR1b.o HR2.o).mono ?_;rintro e14 v14 ⟨rfl,hx14⟩;rw [decide_eq_true rfl];have HE14:=Hd (HE13.o.trans hx14);clear hx14 hne;go_wp2;go_roundw
      case rel=>exact ⟨j+1,by omega,by go_num,HE14.o⟩
      case measure=>simp [intOf]; omega
     ·have HEN:=Hd (HE9.o.trans HE2.o);go_wp2;go_roundw
      case rel=>exact ⟨k+1,by omega,by go_num,HEN.o⟩
      case measure=>simp [intOf]; omega
   ·have HEN:=Hd (HXA.o.trans HE.o);go_wp2;go_ret;exact ⟨rfl,HEN.o⟩
end Go.Proofs.YthmckfloppblcaaGreatDoor
