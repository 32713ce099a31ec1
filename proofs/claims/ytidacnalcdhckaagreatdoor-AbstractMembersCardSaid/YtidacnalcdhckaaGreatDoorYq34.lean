/- Lemmas. No conditions. -/
import Derived.Test.YtidacnalcdhckaaGreatDoorYq33
namespace Go.Proofs.YtidacnalcdhckaaGreatDoor
open Go Go.RowKit Tryz
variable {qP:Prop}{a s:Sh}{b:Rg}{c r x y:Abs}{i:Nat}{w:World}

theorem MF(h:Can c)(hi:bt c.kinds i=true):i=1\/i=2\/i=3\/i=4\/i=5:=by
 rw [h.all] at hi;generalize bt c.kinds 1=p1 at hi;generalize bt c.kinds 2=p2 at hi;generalize bt c.kinds 3=p3 at hi;generalize bt c.kinds 4=p4 at hi;generalize bt c.kinds 5=p5 at hi;by_cases hb:i<6
 ·have h0:bt (Ey p1 p2 p3 p4 p5) 0=false:=by cases p1<;>cases p2<;>cases p3<;>cases p4<;>cases p5<;>decide
  rcases Nat.eq_zero_or_pos i with rfl|h1
  ·rw [h0] at hi;cases hi
  ·omega
 ·exfalso;obtain ⟨n,hn,hl⟩:∃ n:Nat,Ey p1 p2 p3 p4 p5=(n:Int)/\n<64:=by cases p1<;>cases p2<;>cases p3<;>cases p4<;>cases p5<;>exact ⟨_,rfl,AB⟩
  rw [hn] at hi;by_cases h64:i<64
  ·rw [DVA _ _ AA] at hi;have:=Nat.testBit_lt_two_pow (x:=n) (i:=i) (Nat.lt_of_lt_of_le hl (by rw [show 64=2^6 from rfl];exact Nat.pow_le_pow_right AB AA));rw [this] at hi;cases hi
  ·rw [GiA AA] at hi;cases hi
theorem UC(h:AT s=false):AT (BW s s)=false/\AQ (BW s s)=AQ s/\BE (BW s s)=BE s/\BL (BW s s)=BL s/\(BW s s).b=s.b/\(BW s s).e=s.e:=by
 have hc:=CXA h;have h1:=hc.least;have h2:=hc.most;have h3:=hc.cls;refine ⟨hc.ne,?_,?_,?_,?_,?_⟩
 ·rw [<-h1,YO h]
 ·rw [<-h2,YO h]
 ·rw [h3,YO h]
 ·rw [YO h]
 ·rw [YO h]
theorem AJA(h:bt (BL a) i=true):bt 110 i=true:=by
 unfold BL at h;rw [CN,Bool.and_eq_true] at h;exact h.2
theorem Q7(x:Sh):Dr x x=true:=by
 unfold Dr;cases he:AT x
 ·simp only [Bool.false_or,Bool.not_false,Bool.true_and,Bool.and_eq_true,decide_eq_true_eq];exact ⟨⟨⟨⟨Int.le_refl _,Int.le_refl _⟩,Iy.2 λ_ _ h=>h⟩,Fq.2 (List.prefix_refl _)⟩,Fo.2 (List.suffix_refl _)⟩
 ·rfl
theorem Kp{x:Sh}(t:Sh)(h:AT x=false):AT (BW x t)=false/\Dr x (BW x t)=true:=by
 have hne:AT (BW x t)=false:=by
  obtain ⟨l,hl⟩:∃ l,InS x l:=by
   refine Classical.byContradiction λhn => ?_;rw [(IM x).2 λl hl=>hn ⟨l,hl⟩] at h;cases h
  exact Eg (Wj hl)
 refine ⟨hne,?_⟩;cases ht:AT t
 ·unfold Dr;rw [hne,h];simp only [Bool.false_or,Bool.not_false,Bool.true_and,Bool.and_eq_true,decide_eq_true_eq];have e:BW x t=⟨min (AQ x) (AQ t),max (BE x) (BE t),bits .or .i64 (BL x) (BL t),bA (ES x.B t.B),bA (Hv x.E t.E)⟩:=by
   unfold BW;rw [h,ht];rfl
  rw [e];have k3:=(FK x.B t.B).length_le;have k4:=(J8 x.E t.E).length_le;rw [G6] at k3;rw [F1] at k4;have hl:(x.b.size:Int)<=AQ x/\(x.e.size:Int)<=AQ x/\0<=AQ x:=DQ;refine ⟨⟨⟨⟨?_,?_⟩,?_⟩,?_⟩,?_⟩
  ·show max (max (max 0 (min (AQ x) (AQ t))) ((bA (ES x.B t.B)).size:Int)) ((bA (Hv x.E t.E)).size:Int)<=_;rw [EH,EH];omega
  ·show _<=min (max (BE x) (BE t)) 200;have:BE x<=200:=Gj;omega
  ·rw [Iy];intro i _ hi;rw [Xg rfl,Ux,hi,AJA hi];rfl
  ·exact Fq.2 (FK x.B t.B)
  ·exact Fo.2 (J8 x.E t.E)
 ·have e:BW x t=x:=by
   unfold BW;rw [h,ht];rfl
  rw [e];exact Q7 x
theorem PT(h:qP:=by
 obtain ⟨h1,h2,h3,h4,h5,h6⟩:=UC hs;unfold Dr at h|-;rw [h1,h2,h3,h4,h5,h6];rw [hs] at h;exact h):qP:=h
theorem SJ{x:Sh}(h:Dr x s=true)(hs:AT s=false):Dr x (BW s s)=true:=by
 exact PT
theorem RS{x:Sh}(h:Dr s x=true)(hs:AT s=false):Dr (BW s s) x=true:=by
 exact PT
theorem Kd{b:Sh}(h:AT (DN a b)=false):Dr (DN a b) a=true/\Dr (DN a b) b=true:=by
 by_cases he:AT a=true\/AT b=true
 ·unfold DN at h;rw [if_pos he,Mf] at h;cases h
 ·by_cases hc:EA a.b (CY a b).b=true/\EA b.b (CY a b).b=true/\EB a.e (CY a b).e=true/\EB b.e (CY a b).e=true/\AT (CY a b)=false
  ·have e:DN a b=CY a b:=by
    unfold DN;rw [if_neg he,if_pos hc]
   rw [e];obtain ⟨c1,c2,c3,c4,c5⟩:=hc;rw [not_or,Bool.not_eq_true,Bool.not_eq_true] at he;have U:AQ (CY a b)=max (AQ a) (AQ b):=by
    exact PH
   have O:BE (CY a b)=min (BE a) (BE b):=by
    show min (min (BE a) (BE b)) 200=_;unfold BE;omega
   have hown:∀ i,bt (BL (CY a b)) i=true->bt (BL a) i=true/\bt (BL b) i=true:=by
    intro i hi;rw [Xg (a:=CY a b) (x:=bits .and .i64 (BL a) (BL b)) rfl,CN] at hi;simp only [Bool.and_eq_true] at hi;exact hi.1
   unfold Dr;rw [c5,he.1,he.2,U,O,c1,c2,c3,c4];simp only [Bool.false_or,Bool.not_false,Bool.true_and,Bool.and_true,Bool.and_eq_true,decide_eq_true_eq];exact ⟨⟨⟨AA,AA⟩,Iy.2 λi _ hi=>(hown i hi).1⟩,⟨AA,AA⟩,Iy.2 λi _ hi=>(hown i hi).2⟩
  ·unfold DN at h;rw [if_neg he,if_neg hc,Mf] at h;cases h
theorem JE{r:Rg} : BF r=false↔r.lo<=r.hi:=by
 unfold BF;rw [decide_eq_false_iff_not];omega
theorem SY(x t:Rg)(h:BF x=false):(Cc x t).lo<=x.lo/\x.hi<=(Cc x t).hi/\(Cc t x).lo<=x.lo/\x.hi<=(Cc t x).hi:=by
 obtain ⟨n1,O⟩:=G9 h;unfold Cc;rw [Fd,Fd,h];cases ht:BF t
 ·simp only [Bool.false_eq_true,if_false];rw [(Ww _ _).1,(Ww _ _).2,(Ww _ _).1,(Ww _ _).2,n1,O];omega
 ·simp only [Bool.false_eq_true,if_false,if_true];rw [n1,O];omega
theorem LD{s:Rg}(h:BF s=false):(Cc s s).lo=s.lo/\(Cc s s).hi=s.hi:=by
 rw [Yq h];exact G9 h
theorem Sm{a:Rg}(h:BF (NB a b)=false):a.lo<=(NB a b).lo/\(NB a b).hi<=a.hi/\b.lo<=(NB a b).lo/\(NB a b).hi<=b.hi:=by
 unfold NB at h|-;rw [Fd] at h;obtain ⟨n1,O⟩:=G9 h;rw [n1,O,(FiA _ _).1,(FiA _ _).2];have hlo:=JE.1 h;rw [(FiA _ _).1,(FiA _ _).2] at hlo;have key:∀ r:Rg,(CI r).lo<=(CI r).hi->(CI r).lo=r.lo/\(CI r).hi=r.hi:=by
  intro r hr;have:=JE.2 hr;rw [Fd] at this;exact G9 this
 have Y:=key a AA;have U:=key b AA;omega
theorem Le{a:Rg}(h:BF a=false):F5 a b=true↔b.lo<=a.lo/\a.hi<=b.hi:=by
 unfold F5;rw [h];simp
theorem Kt{a:Abs} : ∀ d∈a.deps,V6 a d=true:=ARA (p:=V6 a) (l:=a.deps) (congrArg List.length (TQ a))
theorem VC(h:Can c)(hk:bt c.kinds 3=true):c.dl<=c.dh/\0<=c.dl/\c.dh<=3652058:=by
 rcases h.dt with ⟨_,h1,h2⟩|⟨h1,_⟩
 ·refine ⟨h1,?_⟩;have k:=M2 (c.dl,c.dh) (0,3652058);have k1:=(k c.dl).1 (by show inP (Cy c) _;rw [h2];exact ⟨Int.le_refl _,h1⟩);have k2:=(k c.dh).1 (by show inP (Cy c) _;rw [h2];exact ⟨h1,Int.le_refl _⟩);unfold inP at k1 k2;simp only at k1 k2;omega
 ·rw [hk] at h1;cases h1
theorem UM(h:Can c)(hk:bt c.kinds 5=true):c.rl<=c.rh/\0<=c.rl/\c.rh<=100:=by
 rcases h.tb with ⟨_,h1,h2,_⟩|⟨h1,_⟩
 ·refine ⟨h1,?_⟩;have k:=M2 (c.rl,c.rh) (0,100);have k1:=(k c.rl).1 (by show inP (DF c) _;rw [h2];exact ⟨Int.le_refl _,h1⟩);have k2:=(k c.rh).1 (by show inP (DF c) _;rw [h2];exact ⟨h1,Int.le_refl _⟩);unfold inP at k1 k2;simp only at k1 k2;omega
 ·rw [hk] at h1;cases h1
theorem PZ{a x b:Int × Int}(h:x.1<=x.2)(h1:a.1<=x.1/\x.2<=a.2)(h2:b.1<=x.1/\x.2<=b.2):(CZ a b).1<=x.1/\x.2<=(CZ a b).2/\(CZ a b).1<=(CZ a b).2:=by
 have k:=M2 a b;have k1:=(k x.1).2 ⟨by unfold inP;omega,by unfold inP;omega⟩;have k2:=(k x.2).2 ⟨by unfold inP;omega,by unfold inP;omega⟩;unfold inP at k1 k2;omega
theorem JK(h:qP:=by unfold AX;simp [pr h]):qP:=h
theorem QI(hx:Can x)(hk:∀ i,bt x.kinds i=true->bt r.kinds i=true)(he:x.errs=true->r.errs=true)(ht:bt x.kinds 1=true->AT r.tx=false/\Dr x.tx r.tx=true)(hn:bt x.kinds 2=true->r.nu.lo<=x.nu.lo/\x.nu.hi<=r.nu.hi)
  (hd:bt x.kinds 3=true->r.dl<=x.dl/\x.dh<=r.dh) (hb:∀ i,bt x.bo i=true->bt r.bo i=true) (hr:bt x.kinds 5=true->(r.rl<=x.rl/\x.rh<=r.rh)/\(ddp r.cols).length<=8/\(∀ c∈r.cols,c∈x.cols)/\∀ d∈r.deps,V6 x d=true):XB x (AX r)=true:=by
 have pt:bt x.kinds 1=true->pT r=true:=λh=>by unfold pT;rw [hk 1 h,(ht h).1];rfl
 have O:bt x.kinds 2=true->BF x.nu=false/\BF r.nu=false:=λh=>by
  have h1:BF x.nu=false:=by
   rcases hx.nu with ⟨_,k⟩|⟨k,_⟩
   ·exact k.ne
   ·rw [h] at k;cases k
  exact ⟨h1,JE.2 (by have:=JE.1 h1;have:=hn h;omega)⟩
 have pn:bt x.kinds 2=true->pN r=true:=λh=>by unfold pN;rw [hk 2 h,(O h).2];rfl
 have U:bt x.kinds 3=true->(Cy r).1<=x.dl/\x.dh<=(Cy r).2/\(Cy r).1<=(Cy r).2:=λh=>by
  have k:=VC hx h;exact PZ (a:=(r.dl,r.dh)) (x:=(x.dl,x.dh)) (b:=(0,3652058)) k.1 (hd h) k.2
 have Z:bt x.kinds 3=true->pD r=true:=λh=>by unfold pD;rw [hk 3 h,decide_eq_true (U h).2.2];rfl
 have hbb:∀ i,bt x.bo i=true->bt (boI r) i=true:=λi hi=>by
  rcases hx.bl with ⟨_,_,k⟩|⟨_,k⟩
  ·rw [<-k,Wc,Bool.and_eq_true] at hi;rw [Wc,hb i hi.1,hi.2];rfl
  ·rw [k,M5] at hi;cases hi
 have pb:bt x.kinds 4=true->pB r=true:=λh=>by
  have hz:boI r≠0:=by
   rcases hx.bl with ⟨_,k1,k⟩|⟨k,_⟩
   ·intro h0;refine k1 ?_;rw [<-k,CCA];have hf:∀ i,bt x.bo i=false:=λi=>by
     cases hi:bt x.bo i
     ·rfl
     ·have:=hbb i hi;rw [h0,M5] at this;cases this
    exact ⟨hf 0,hf 1⟩
   ·rw [h] at k;cases k
  unfold pB;rw [hk 4 h,decide_eq_true hz];rfl
 have Y:bt x.kinds 5=true->(DF r).1<=x.rl/\x.rh<=(DF r).2/\(DF r).1<=(DF r).2:=λh=>by
  have k:=UM hx h;exact PZ (a:=(r.rl,r.rh)) (x:=(x.rl,x.rh)) (b:=(0,100)) k.1 (hr h).1 k.2
 have pr:bt x.kinds 5=true->pR r=true:=λh=>by
  unfold pR;rw [hk 5 h,decide_eq_true (Y h).2.2,decide_eq_true (hr h).2.1];show (ddp r.cols).all Ba=true
  rcases hx.tb with ⟨_,_,_,_,k,_⟩|⟨k,_⟩
  ·rw [List.all_eq_true] at k|-;exact λc hc=>k c ((hr h).2.2.1 c ((IT _ _).1 hc))
  ·rw [h] at k;cases k
 obtain ⟨b1,b2,b3,b4,b5⟩:=Zb r;unfold XB;simp only [Bool.and_eq_true,Bool.or_eq_true,Bool.not_eq_true'];refine ⟨⟨⟨⟨⟨⟨?_,?_⟩,?_⟩,?_⟩,?_⟩,?_⟩,?_⟩
 ·rw [Iy];intro i _ hi
  rcases MF hx hi with rfl|rfl|rfl|rfl|rfl
  ·rw [b1];exact pt hi
  ·rw [b2];exact pn hi
  ·rw [b3];exact Z hi
  ·rw [b4];exact pb hi
  ·rw [b5];exact pr hi
 ·cases hxe:x.errs
  ·exact .inl rfl
  ·exact .inr (he hxe)
 ·cases h:bt x.kinds 1
  ·exact .inl rfl
  ·right;have e:(AX r).tx=BW r.tx r.tx:=(by unfold AX;simp [pt h]);rw [e];exact SJ (ht h).2 (ht h).1
 ·cases h:bt x.kinds 2
  ·exact .inl rfl
  ·right;have e:(AX r).nu=Cc r.nu r.nu:=(by unfold AX;simp [pn h]);rw [e,Le (O h).1,(LD (O h).2).1,(LD (O h).2).2];exact hn h
 ·cases h:bt x.kinds 3
  ·exact .inl rfl
  ·right;have e1:(AX r).dl=(Cy r).1:=(by unfold AX;simp [Z h]);have e2:(AX r).dh=(Cy r).2:=(by unfold AX;simp [Z h]);rw [e1,e2,decide_eq_true_eq];exact ⟨(U h).1,(U h).2.1⟩
 ·rw [Iy];intro i _ hi;have h4:bt x.kinds 4=true:=by
   rcases hx.bl with ⟨k,_⟩|⟨_,k⟩
   ·exact k
   ·rw [k,M5] at hi;cases hi
  have e:(AX r).bo=boI r:=(by unfold AX;simp [pb h4]);rw [e];exact hbb i hi
 ·cases h:bt x.kinds 5
  ·exact .inl rfl
  ·right;have e1:(AX r).rl=(DF r).1:=JK;have e2:(AX r).rh=(DF r).2:=JK;have e3:(AX r).cols=An (ddp r.cols):=JK;have e4:(AX r).deps=ddp r.deps:=JK;rw [e1,e2,e3,e4,decide_eq_true_eq,decide_eq_true_eq,List.all_eq_true];refine ⟨⟨⟨(Y h).1,(Y h).2.1⟩,λc hc=>(Ao _ _).2 ((hr h).2.2.1 c ((IT _ _).1 (Ek.1 hc)))⟩,?_⟩;unfold DK;rw [Ld λd hd=>(hr h).2.2.2 d ((IT _ _).1 hd)]
theorem Qu : (bt x.kinds 5=true->∀ c∈EE x y,c∈x.cols)/\(bt y.kinds 5=true->∀ c∈EE x y,c∈y.cols):=by
 unfold EE;constructor
 ·intro h c hc;rw [h] at hc;simp only [Bool.true_eq_false,if_false] at hc;split at hc
  ·exact hc
  ·exact (List.mem_filter.1 hc).1
 ·intro h c hc;rw [h] at hc;simp only [Bool.true_eq_false,if_false] at hc;split at hc
  ·exact hc
  ·exact (Ao _ _).1 (List.mem_filter.1 hc).2
theorem Kb : (bt x.kinds 5=true->∀ d∈BJ x y,V6 x d=true)/\(bt y.kinds 5=true->∀ d∈BJ x y,V6 y d=true):=by
 unfold BJ DK;constructor
 ·intro h c hc;rw [h] at hc;simp only [Bool.true_eq_false,if_false] at hc;split at hc
  ·exact Kt c hc
  ·rcases List.mem_append.1 hc with hc|hc
   ·exact Kt c (List.mem_filter.1 hc).1
   ·exact (List.mem_filter.1 hc).2
 ·intro h c hc;rw [h] at hc;simp only [Bool.true_eq_false,if_false] at hc;split at hc
  ·exact Kt c hc
  ·rcases List.mem_append.1 hc with hc|hc
   ·exact (List.mem_filter.1 hc).2
   ·exact Kt c (List.mem_filter.1 hc).1
theorem JN{a b:Int × Int} : (a.1<=a.2->(Cb a b).1<=a.1/\a.2<=(Cb a b).2)/\(b.1<=b.2->(Cb a b).1<=b.1/\b.2<=(Cb a b).2):=by
 constructor
 ·intro h;have k1:=O9 (a:=a) (b:=b) (n:=a.1) (.inl ⟨Int.le_refl _,h⟩);have k2:=O9 (a:=a) (b:=b) (n:=a.2) (.inl ⟨h,Int.le_refl _⟩);exact ⟨k1.1,k2.2⟩
 ·intro h;have k1:=O9 (a:=a) (b:=b) (n:=b.1) (.inr ⟨Int.le_refl _,h⟩);have k2:=O9 (a:=a) (b:=b) (n:=b.2) (.inr ⟨h,Int.le_refl _⟩);exact ⟨k1.1,k2.2⟩
theorem UL(h:Can c)(hk:bt c.kinds 5=true):c.cols.length<=8:=by
 rcases h.tb with ⟨_,_,_,k,_⟩|⟨k,_⟩
 ·exact k
 ·rw [hk] at k;cases k
theorem Wn(h:Can c)(hk:bt c.kinds 1=true):AT c.tx=false:=by
 rcases h.tx with ⟨_,k⟩|⟨k,_⟩
 ·exact k.ne
 ·rw [hk] at k;cases k
theorem X5(h:Can c)(hk:bt c.kinds 2=true):BF c.nu=false:=by
 rcases h.nu with ⟨_,k⟩|⟨k,_⟩
 ·exact k.ne
 ·rw [hk] at k;cases k
theorem UW(hx:Can x)(hy:Can y)(h:bt x.kinds 5=true\/bt y.kinds 5=true):(ddp (EE x y)).length<=8:=by
 refine Nat.le_trans (F4 _) ?_;unfold EE;cases h5:bt x.kinds 5
 ·rw [h5] at h;simp only [if_true];exact UL hy (h.resolve_left AC)
 ·simp only [Bool.true_eq_false,if_false];split
  ·exact UL hx h5
  ·exact Nat.le_trans (List.length_filter_le _ _) (UL hx h5)
theorem SL(a b:Abs):KA a (Fk a b)=true:=by
 unfold KA Fk;rw [Ri];have hx:=FSA a;have hy:=FSA b;generalize AX a=x at hx|-;generalize AX b=y at hy|-;refine QI hx (λi h => ?_) (λh => ?_) (λh=>Kp _ (Wn hx h)) (λh => ?_) (λh => ?_) (λi h => ?_) (λh=>⟨?_,?_,Qu.1 h,Kb.1 h⟩)
 ·rw [Mo,h];rfl
 ·show (x.errs||y.errs)=true;rw [h];rfl
 ·have k:=SY x.nu y.nu (X5 hx h);exact ⟨k.1,k.2.1⟩
 ·exact JN.1 (VC hx h).1
 ·show bt (bits .or .i64 x.bo y.bo) i=true;rw [Ux,h];rfl
 ·exact JN.1 (UM hx h).1
 ·exact UW hx hy (.inl h)
theorem Kz(a b:Abs):KA b (Fk a b)=true:=by
 unfold KA Fk;rw [Ri];have hx:=FSA a;have hy:=FSA b;generalize AX a=x at hx|-;generalize AX b=y at hy|-;refine QI hy (λi h => ?_) (λh => ?_) (λh => ?_) (λh => ?_) (λh => ?_) (λi h => ?_) (λh=>⟨?_,?_,Qu.2 h,Kb.2 h⟩)
 ·rw [Mo,h,Bool.or_true]
 ·show (x.errs||y.errs)=true;rw [h,Bool.or_true]
 ·show AT (BW x.tx y.tx)=false/\Dr y.tx (BW x.tx y.tx)=true;rw [R9];exact Kp _ (Wn hy h)
 ·have k:=SY y.nu x.nu (X5 hy h);exact ⟨k.2.2.1,k.2.2.2⟩
 ·exact JN.2 (VC hy h).1
 ·show bt (bits .or .i64 x.bo y.bo) i=true;rw [Ux,h,Bool.or_true]
 ·exact JN.2 (UM hy h).1
 ·exact UW hx hy (.inr h)
theorem Ik(h:qP:=by unfold AX;simp [h]):qP:=h
theorem Lq(hk:∀ i,bt r.kinds i=true->bt y.kinds i=true)(he:r.errs=true->y.errs=true)(ht:AT r.tx=false->Dr r.tx y.tx=true)(hn:BF r.nu=false->y.nu.lo<=r.nu.lo/\r.nu.hi<=y.nu.hi)
  (hd:∀ n,inP (r.dl,r.dh) n->inP (y.dl,y.dh) n) (hb:∀ i,bt r.bo i=true->bt y.bo i=true) (hr:∀ n,inP (r.rl,r.rh) n->inP (y.rl,y.rh) n) (hc:∀ c∈y.cols,c∈r.cols) (hdp:∀ d∈y.deps,d∈r.deps):XB (AX r) y=true:=by
 obtain ⟨b1,b2,U,Y,O⟩:=Zb r;unfold XB;simp only [Bool.and_eq_true,Bool.or_eq_true,Bool.not_eq_true'];refine ⟨⟨⟨⟨⟨⟨?_,?_⟩,?_⟩,?_⟩,?_⟩,?_⟩,?_⟩
 ·rw [Iy];intro i _ hi;refine hk i ?_
  rcases MF (FSA r) hi with rfl|rfl|rfl|rfl|rfl
  ·rw [b1] at hi;unfold pT at hi;rw [Bool.and_eq_true] at hi;exact hi.1
  ·rw [b2] at hi;unfold pN at hi;rw [Bool.and_eq_true] at hi;exact hi.1
  ·rw [U] at hi;unfold pD at hi;rw [Bool.and_eq_true] at hi;exact hi.1
  ·rw [Y] at hi;unfold pB at hi;rw [Bool.and_eq_true] at hi;exact hi.1
  ·rw [O] at hi;unfold pR at hi;simp only [Bool.and_eq_true] at hi;exact hi.1.1.1
 ·cases hxe:(AX r).errs
  ·exact .inl rfl
  ·exact .inr (he hxe)
 ·rw [b1];cases h:pT r
  ·exact .inl rfl
  ·right;have e:(AX r).tx=BW r.tx r.tx:=Ik;rw [e];unfold pT at h;rw [Bool.and_eq_true,Bool.not_eq_true'] at h;exact RS (ht h.2) h.2
 ·rw [b2];cases h:pN r
  ·exact .inl rfl
  ·right;have e:(AX r).nu=Cc r.nu r.nu:=Ik;rw [e];unfold pN at h;rw [Bool.and_eq_true,Bool.not_eq_true'] at h;have k:=LD h.2;rw [Le (JE.2 (by rw [k.1,k.2];exact JE.1 h.2)),k.1,k.2];exact hn h.2
 ·rw [U];cases h:pD r
  ·exact .inl rfl
  ·right;have e1:(AX r).dl=(Cy r).1:=Ik;have e2:(AX r).dh=(Cy r).2:=Ik;unfold pD at h;rw [Bool.and_eq_true,decide_eq_true_eq] at h;rw [e1,e2,decide_eq_true_eq];have k1:=hd _ ((M2 (r.dl,r.dh) (0,3652058) (Cy r).1).1 ⟨Int.le_refl _,h.2⟩).1;have k2:=hd _ ((M2 (r.dl,r.dh) (0,3652058) (Cy r).2).1 ⟨h.2,Int.le_refl _⟩).1;exact ⟨k1.1,k2.2⟩
 ·rw [Iy];intro i _ hi;refine hb i ?_;cases h:pB r
  ·have e:(AX r).bo=0:=Ik;rw [e,M5] at hi;cases hi
  ·have e:(AX r).bo=boI r:=Ik;rw [e,Wc,Bool.and_eq_true] at hi;exact hi.1
 ·rw [O];cases h:pR r
  ·exact .inl rfl
  ·right;have e1:(AX r).rl=(DF r).1:=Ik;have e2:(AX r).rh=(DF r).2:=Ik;have e3:(AX r).cols=An (ddp r.cols):=Ik;have e4:(AX r).deps=ddp r.deps:=Ik;unfold pR at h;simp only [Bool.and_eq_true,decide_eq_true_eq] at h;have k1:=hr _ ((M2 (r.rl,r.rh) (0,100) (DF r).1).1 ⟨Int.le_refl _,h.1.1.2⟩).1;have k2:=hr _ ((M2 (r.rl,r.rh) (0,100) (DF r).2).1 ⟨h.1.1.2,Int.le_refl _⟩).1;rw [e1,e2,e3,decide_eq_true_eq,decide_eq_true_eq,List.all_eq_true];refine ⟨⟨⟨k1.1,k2.2⟩,λc hc'=>(Ao _ _).2 (Ek.2 ((IT _ _).2 (hc c hc')))⟩,?_⟩;unfold DK;rw [Ld λd hd'=>Kt (a:=AX r) d (by rw [e4];exact (IT _ _).2 (hdp d hd'))]
theorem MN(a b:Abs):KA (Gq a b) a=true/\KA (Gq a b) b=true:=by
 unfold KA Gq;rw [Ri];generalize AX a=x;generalize AX b=y;have hk:∀ i,bt (I1 x y).kinds i=true->bt x.kinds i=true/\bt y.kinds i=true:=λi h=>by
  rw [Mw,Bool.and_eq_true] at h;exact h
 have he:(I1 x y).errs=true->x.errs=true/\y.errs=true:=λh=>by
  change (x.errs&&y.errs)=true at h
  rw [Bool.and_eq_true] at h;exact h
 have hb:∀ i,bt (I1 x y).bo i=true->bt x.bo i=true/\bt y.bo i=true:=λi h=>by
  change bt (bits .and .i64 x.bo y.bo) i=true at h
  rw [CN,Bool.and_eq_true] at h;exact h
 constructor
 ·refine Lq (λi h=>(hk i h).1) (λh=>(he h).1) (λh=>(Kd h).1) (λh => ?_) (λn h=>((M2 _ _ n).1 h).1) (λi h=>(hb i h).1) (λn h=>((M2 _ _ n).1 h).1) (λc h=>List.mem_append_left _ h) (λd h=>List.mem_append_left _ h);have k:=Sm h;exact ⟨k.1,k.2.1⟩
 ·refine Lq (λi h=>(hk i h).2) (λh=>(he h).2) (λh=>(Kd h).2) (λh => ?_) (λn h=>((M2 _ _ n).1 h).2) (λi h=>(hb i h).2) (λn h=>((M2 _ _ n).1 h).2) (λc h=>List.mem_append_right _ h) (λd h=>List.mem_append_right _ h);have k:=Sm h;exact ⟨k.2.2.1,k.2.2.2⟩

theorem KZ{ops:Array Oper}{rest:List Oper}{o:Oper}{a:Act}{Q:Exit->Act->World->Prop}(hgd:o.guard=none)(ho:o.op=.alloc 29)
  (h:wpList prog ops Q rest (a.put o.dst (.pointer (some ⟨w.heap.size,0,none⟩))) (w.alloc (.cells Vz 29))):wpList prog ops Q (o::rest) a w:=by
 exact O3
theorem Wa{g:Nat}(h:g=w.heap.size):Blk (w.alloc (.cells Vz 29)) g 29 Vz:=by
 rw [h];exact Blk.new _ _ _
