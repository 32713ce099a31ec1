/- Lemmas. No conditions. -/
import Derived.Test.YtidacnalcdhckaaGreatDoorYq9
set_option maxRecDepth 100000
set_option maxHeartbeats 1000000
namespace Go.Proofs.YtidacnalcdhckaaGreatDoor
open Go Go.RowKit Tryz
variable {qP:Prop}{a b x:Sh}{base d g n t:Nat}{cs:Array Value}{frm ks l:List BA}{p s:BA}{w:World}

def Hu(cls:Int):Nat->Int->Int
 |0,f=>f
 |k+1,f=>Hu cls k (if bt cls (Ev (32+k:Nat))=true then ((32+k:Nat):Int) else f)
theorem Yn(cls:Int):∀ (k:Nat) (f:Int),(bt cls (Ev f)=true\/∃ j:Nat,j<k/\bt cls (Ev (32+j:Nat))=true)->bt cls (Ev (Hu cls k f))=true
 |0,f,h=>by
  rcases h with h|⟨j,hj,_⟩
  ·exact h
  ·omega
 |k+1,f,h=>by
  unfold Hu;refine Yn cls k _ ?_;by_cases hk:bt cls (Ev (32+k:Nat))=true
  ·left;rw [if_pos hk];exact hk
  ·rw [if_neg hk]
   rcases h with h|⟨j,hj,hb⟩
   ·exact Or.inl h
   ·right;refine ⟨j,?_,hb⟩
    rcases Nat.lt_or_ge j k with h1|h1
    ·exact h1
    ·exfalso;rw [show j=k by omega] at hb;exact hk hb
theorem J7(cls:Int):∀ (k:Nat) (f:Int),k<=95->32<=f->f<=126->32<=Hu cls k f/\Hu cls k f<=126
 |0,f,_,h1,h2=>⟨h1,h2⟩
 |k+1,f,hk,h1,h2=>by
  unfold Hu;split
  ·exact J7 cls k _ AA AA AA
  ·exact J7 cls k _ AA h1 h2
def JQ(a:Sh):UInt8:=UInt8.ofNat (Hu a.cls 95 32).toNat
theorem WU(a:Sh):((JQ a).toNat:Int)=Hu a.cls 95 32:=by
 have h:=J7 a.cls 95 32 AA AA AA;unfold JQ;rw [UInt8.toNat_ofNat'];omega
theorem E2A{c:UInt8}(h:okU (BL a) c):okU (BL a) (JQ a):=by
 obtain ⟨h1,h2⟩:=Xa.1 h;rw [Xa];have hr:=J7 a.cls 95 32 AA AA AA;constructor
 ·unfold DxA;rw [WU];refine Yn _ _ _ (Or.inr ⟨c.toNat-32,?_,?_⟩)
  ·unfold C4 at h2;rw [decide_eq_true_eq] at h2;omega
  ·unfold C4 at h2;rw [decide_eq_true_eq] at h2;rw [show 32+(c.toNat-32)=c.toNat by omega];exact h1
 ·rw [WU];unfold C4;rw [decide_eq_true_eq];exact hr
def Fn(a:Sh)(n:Nat):Option (List UInt8) :=
 if n<a.B.length\/n<a.E.length then none
 else
  let s:=a.B++List.replicate (n-a.E.length-a.B.length) (JQ a)
  let both:=s.length+a.E.length-n
  if s.drop (s.length-both)=a.E.take both then some (s++a.E.drop both) else none
theorem Xv{l:List UInt8}(h:InS a l)(hn:n=l.length\/(n<=l.length/\a.B.length+a.E.length<n))(h1:AQ a<=n):∃ s,Fn a n=some s/\InS a s:=by
 obtain ⟨i1,i2,U,Z,Y⟩:=h;have hL:(a.B.length:Int)<=AQ a/\(a.E.length:Int)<=AQ a:=(by unfold AQ;rw [G6,F1];omega);unfold Fn;rw [if_neg AA];simp only;by_cases hc:a.B.length+a.E.length<=n
 ·have e1:(a.B++List.replicate (n-a.E.length-a.B.length) (JQ a)).length=n-a.E.length:=by
   rw [List.length_append,List.length_replicate];omega
  rw [e1,show n-a.E.length+a.E.length-n=0 by omega,Nat.sub_zero,List.take_zero,List.drop_zero,List.drop_of_length_le AA,if_pos rfl];refine ⟨_,rfl,?_⟩;obtain ⟨k1,k2,k3⟩:=Uo (x:=a.B) (y:=a.E) (n:=n) (JQ a) hc;rw [List.append_assoc,show n-a.E.length-a.B.length=n-a.B.length-a.E.length by omega];refine ⟨Eb,Eb,?_,k1,k2⟩;intro u hu;rw [List.mem_append,List.mem_append,List.mem_replicate] at hu
  rcases hu with hu|⟨hz,rfl⟩|hu
  ·exact U u (Z.subset hu)
  ·cases l with
   |nil=>simp at hn;omega
   |cons c l=>exact E2A (U c List.mem_cons_self)
  ·exact U u (Y.subset hu)
 ·have hl:n=l.length:=AA;rw [show n-a.E.length-a.B.length=0 by omega,List.replicate_zero,List.append_nil];have O:=DpA Z Y AA;rw [<-hl] at O;rw [show a.B.length-(a.B.length+a.E.length-n)=n-a.E.length by omega,if_pos O];refine ⟨_,rfl,?_⟩;obtain ⟨k1,k2,k3⟩:=YA (x:=a.B) (y:=a.E) (n:=n) AA AA AA O;refine ⟨Eb,Eb,?_,k1,k2⟩;intro u hu;rw [List.mem_append] at hu
  rcases hu with hu|hu
  ·exact U u (Z.subset hu)
  ·exact U u (Y.subset (List.mem_of_mem_drop hu))
def FUA(a:Sh):Int:=min (BE a) (max (max a.least 0) (a.b.size+a.e.size+1))
theorem Yc(h:∀ n:Nat,max a.least 0<=n->(n:Int)<=FUA a->∀ s,Fn a n=some s->¬InS a s):AT a=true:=by
 rw [IM];intro l hl;have O:=hl;obtain ⟨i1,Z,Y,i4,i5⟩:=hl;have hL:(a.b.size:Int)<=AQ a/\(a.e.size:Int)<=AQ a/\max a.least 0<=AQ a:=DQ;have U:AQ a=max a.least 0\/AQ a=a.b.size\/AQ a=a.e.size:=DQ;have hB:=G6 a;have hE:=F1 a;by_cases hm:(l.length:Int)<=max (max a.least 0) (a.b.size+a.e.size+1)
 ·obtain ⟨s,h1,h2⟩:=Xv O (n:=l.length) (Or.inl rfl) i1;exact h l.length AA (by unfold FUA;omega) s h1 h2
 ·obtain ⟨n,hn⟩:∃ n:Nat,(n:Int)=max (max a.least 0) (a.b.size+a.e.size+1):=⟨(max (max a.least 0) (a.b.size+a.e.size+1)).toNat,AA⟩;obtain ⟨s,h1,h2⟩:=Xv O (n:=n) (Or.inr ⟨AA,AA⟩) AA;exact h n AA (by unfold FUA;omega) s h1 h2
theorem Eg{s:List UInt8}(h:InS a s):AT a=false:=by
 cases he:AT a
 ·rfl
 ·exact absurd h ((IM a).1 he s)
def ES:List UInt8->List UInt8->List UInt8
 |x::l,y::m=>if x=y then x::ES l m else []
 |_,_=>[]
def Hv(l m:List UInt8):List UInt8:=(ES l.reverse m.reverse).reverse
theorem FK:∀ l m:List UInt8,ES l m <+: l
 |[],_=>by simp [ES]
 |_::_,[]=>by simp [ES]
 |x::l,y::m=>by
  unfold ES;split
  ·rw [List.cons_prefix_cons];exact ⟨rfl,FK l m⟩
  ·exact List.nil_prefix
theorem WH:∀ l m:List UInt8,ES l m=ES m l
 |[],[]=>rfl
 |[],_::_=>rfl
 |_::_,[]=>rfl
 |x::l,y::m=>by
  unfold ES;by_cases h:x=y
  ·subst h;simp [WH l m]
  ·rw [if_neg h,if_neg (Ne.symm h)]
theorem Oa(l m:List UInt8):ES l m <+: m:=by
 rw [WH];exact FK m l
theorem Hw:∀ l:List UInt8,ES l l=l
 |[]=>rfl
 |x::l=>by unfold ES;rw [if_pos rfl,Hw l]
theorem Qo(h:qP:=by
 rw [<-List.reverse_suffix,List.reverse_reverse] at h;exact h):qP:=h
theorem J8(l m:List UInt8):Hv l m <:+ l:=by
 have h:=FK l.reverse m.reverse;exact Qo
theorem BDA(l m:List UInt8):Hv l m <:+ m:=by
 have h:=Oa l.reverse m.reverse;exact Qo
theorem NQ(l:List UInt8):Hv l l=l:=by
 unfold Hv;rw [Hw,List.reverse_reverse]
theorem UI(l m:List UInt8):Hv l m=Hv m l:=by
 unfold Hv;rw [WH]
def bA(l:List UInt8):BA:=⟨l.toArray⟩
theorem He(s:BA):bA s.data.toList=s:=by
 cases s;simp [bA]
theorem EH(l:List UInt8):(bA l).size=l.length:=rfl
def BW(a b:Sh):Sh :=
 if AT a=true then (if AT b=true then H3A else b)
 else if AT b=true then a
 else ⟨min (AQ a) (AQ b),max (BE a) (BE b),bits .or .i64 (BL a) (BL b),bA (ES a.B b.B),bA (Hv a.E b.E)⟩
def CY(a b:Sh):Sh:=⟨max (AQ a) (AQ b),min (BE a) (BE b),bits .and .i64 (BL a) (BL b),if a.b.size<b.b.size then b.b else a.b,if a.e.size<b.e.size then b.e else a.e⟩
def DN(a b:Sh):Sh :=
 if AT a=true\/AT b=true then H3A
 else if EA a.b (CY a b).b=true/\EA b.b (CY a b).b=true/\EB a.e (CY a b).e=true/\EB b.e (CY a b).e=true/\AT (CY a b)=false then CY a b else H3A
def Dr(a b:Sh):Bool :=
 AT a||(!AT b&&decide (AQ b<=AQ a)&&decide (BE a<=BE b)&&CM (BL a) (BL b)&&EA b.b a.b&&EB b.e a.e)
theorem Fq : EA p s=true↔p.data.toList <+: s.data.toList:=by
 unfold EA;rw [List.isPrefixOf_iff_prefix]
theorem Fo : EB p s=true↔p.data.toList <:+ s.data.toList:=by
 unfold EB;rw [List.isSuffixOf_iff_suffix]
theorem Mf:AT H3A=true:=by
 rw [IM];rintro l ⟨h1,h2,_⟩;have e1:AQ H3A=1:=AB;have e2:BE H3A=0:=AB;omega
theorem Xg{x:Int}(h:a.cls=x)(i:Nat):bt (BL a) i=(bt x i&&bt 110 i):=by
 unfold BL;rw [h,CN]
theorem Pt(hx:x.cls=bits .or .i64 (BL a) (BL b))(c:UInt8):okU (BL x) c↔okU (BL a) c\/okU (BL b) c:=by
 unfold okU;rw [Xg hx,Ux];unfold BL;rw [CN,CN];simp only [Bool.and_eq_true,Bool.or_eq_true];constructor
 ·rintro ⟨h1,_⟩;exact h1
 ·rintro (h|h)
  ·exact ⟨Or.inl h,h.2⟩
  ·exact ⟨Or.inr h,h.2⟩
theorem EGA(hx:x.cls=bits .and .i64 (BL a) (BL b))(c:UInt8):okU (BL x) c↔okU (BL a) c/\okU (BL b) c:=by
 unfold okU;rw [Xg hx,CN];unfold BL;rw [CN,CN];simp only [Bool.and_eq_true];constructor
 ·rintro ⟨h1,_⟩;exact h1
 ·rintro h;exact ⟨h,h.1.2⟩
theorem Wj{l:List UInt8}(h:InS a l):InS (BW a b) l:=by
 unfold BW;rw [Eg h];simp only [Bool.false_eq_true,if_false];cases hb:AT b
 ·simp only [Bool.false_eq_true,if_false];obtain ⟨h1,h2,h3,h4,h5⟩:=h;have k1:=(FK a.B b.B);have k2:=(J8 a.E b.E);have k3:=k1.length_le;have k4:=k2.length_le;rw [G6] at k3;rw [F1] at k4;refine ⟨?_,?_,λc hc=>(Pt rfl c).2 (Or.inl (h3 c hc)),k1.trans h4,k2.trans h5⟩
  ·show max (max (max 0 (min (AQ a) (AQ b))) ((bA (ES a.B b.B)).size:Int)) ((bA (Hv a.E b.E)).size:Int)<=_;rw [EH,EH];have:(a.b.size:Int)<=AQ a/\(a.e.size:Int)<=AQ a:=DQ;omega
  ·show _<=min (max (BE a) (BE b)) 200;have:BE a<=200:=Gj;omega
 ·simpa using h
theorem BkA{l:List UInt8}(h:InS b l):InS (BW a b) l:=by
 unfold BW;rw [Eg h];simp only [Bool.false_eq_true,if_false];cases ha:AT a
 ·simp only [Bool.false_eq_true,if_false];obtain ⟨h1,h2,h3,h4,h5⟩:=h;have k1:=(Oa a.B b.B);have k2:=(BDA a.E b.E);have k3:=k1.length_le;have k4:=k2.length_le;rw [G6] at k3;rw [F1] at k4;refine ⟨?_,?_,λc hc=>(Pt rfl c).2 (Or.inr (h3 c hc)),k1.trans h4,k2.trans h5⟩
  ·show max (max (max 0 (min (AQ a) (AQ b))) ((bA (ES a.B b.B)).size:Int)) ((bA (Hv a.E b.E)).size:Int)<=_;rw [EH,EH];have:(b.b.size:Int)<=AQ b/\(b.e.size:Int)<=AQ b:=DQ;omega
  ·show _<=min (max (BE a) (BE b)) 200;have:BE b<=200:=Gj;omega
 ·simpa using h
theorem Ov(h:qP:=by
 unfold CY AQ;simp only;split<;>omega):qP:=h
theorem PH(h:qP:=by
 have e1:((CY a b).b.size:Int)<=max (AQ a) (AQ b):=by
  exact Ov
 have e2:((CY a b).e.size:Int)<=max (AQ a) (AQ b):=by
  exact Ov
 show max (max (max 0 (max (AQ a) (AQ b))) ((CY a b).b.size:Int)) ((CY a b).e.size:Int)=_;have e3:0<=AQ a:=(by unfold AQ;omega);omega):qP:=h
theorem EaA{l:List UInt8}(h1:EA a.b (CY a b).b=true)(h2:EA b.b (CY a b).b=true)(h3:EB a.e (CY a b).e=true)(h4:EB b.e (CY a b).e=true):InS (CY a b) l↔InS a l/\InS b l:=by
 rw [Fq] at h1 h2;rw [Fo] at h3 h4;have hB:(CY a b).B=a.B\/(CY a b).B=b.B:=by
  unfold Sh.B CY;simp only;split
  ·exact Or.inr rfl
  ·exact Or.inl rfl
 have hE:(CY a b).E=a.E\/(CY a b).E=b.E:=by
  unfold Sh.E CY;simp only;split
  ·exact Or.inr rfl
  ·exact Or.inl rfl
 have O:∀ c,okU (BL (CY a b)) c↔okU (BL a) c/\okU (BL b) c:=EGA rfl;have a9:AQ (CY a b)=max (AQ a) (AQ b):=by
  exact PH
 have a8:BE (CY a b)=min (BE a) (BE b):=by
  show min (min (BE a) (BE b)) 200=_;unfold BE;omega
 unfold InS;rw [a9,a8];constructor
 ·rintro ⟨i1,i2,Z,Y,U⟩;exact ⟨⟨AA,AA,λc hc=>((O c).1 (Z c hc)).1,h1.trans Y,h3.trans U⟩,⟨AA,AA,λc hc=>((O c).1 (Z c hc)).2,h2.trans Y,h4.trans U⟩⟩
 ·rintro ⟨⟨i1,i2,Z,Y,U⟩,⟨j1,j2,j3,j4,j5⟩⟩;refine ⟨AA,AA,λc hc=>(O c).2 ⟨Z c hc,j3 c hc⟩,?_,?_⟩
  ·rcases hB with h|h<;>rw [h]
   ·exact Y
   ·exact j4
  ·rcases hE with h|h<;>rw [h]
   ·exact U
   ·exact j5
theorem EvA(a b:Sh)(l:List UInt8):InS (DN a b) l↔InS a l/\InS b l:=by
 unfold DN;by_cases he:AT a=true\/AT b=true
 ·rw [if_pos he];constructor
  ·intro h;exact absurd h ((IM _).1 Mf l)
  ·rintro ⟨h1,h2⟩
   rcases he with he|he
   ·exact absurd h1 ((IM _).1 he l)
   ·exact absurd h2 ((IM _).1 he l)
 ·rw [if_neg he];by_cases hc:EA a.b (CY a b).b=true/\EA b.b (CY a b).b=true/\EB a.e (CY a b).e=true/\EB b.e (CY a b).e=true/\AT (CY a b)=false
  ·rw [if_pos hc];exact EaA hc.1 hc.2.1 hc.2.2.1 hc.2.2.2.1
  ·rw [if_neg hc];constructor
   ·intro h;exact absurd h ((IM _).1 Mf l)
   ·rintro ⟨h1,h2⟩;exfalso;refine hc ?_;have p1:∀ {x y:List UInt8},x <+: l->y <+: l->x.length<=y.length->x <+: y:=λhx hy hl=>List.prefix_of_prefix_length_le hx hy hl;have s1:∀ {x y:List UInt8},x <:+ l->y <:+ l->x.length<=y.length->x <:+ y:=λhx hy hl=>List.suffix_of_suffix_length_le hx hy hl;have b1:=h1.2.2.2.1;have b2:=h2.2.2.2.1;have e1:=h1.2.2.2.2;have e2:=h2.2.2.2.2;have q1:EA a.b (CY a b).b=true:=by
     rw [Fq];unfold CY;simp only;split
     ·exact p1 b1 b2 (by show a.b.size<=b.b.size;omega)
     ·exact List.prefix_refl _
    have q2:EA b.b (CY a b).b=true:=by
     rw [Fq];unfold CY;simp only;split
     ·exact List.prefix_refl _
     ·exact p1 b2 b1 (by show b.b.size<=a.b.size;omega)
    have q3:EB a.e (CY a b).e=true:=by
     rw [Fo];unfold CY;simp only;split
     ·exact s1 e1 e2 (by show a.e.size<=b.e.size;omega)
     ·exact List.suffix_refl _
    have q4:EB b.e (CY a b).e=true:=by
     rw [Fo];unfold CY;simp only;split
     ·exact List.suffix_refl _
     ·exact s1 e2 e1 (by show b.e.size<=a.e.size;omega)
    exact ⟨q1,q2,q3,q4,Eg ((EaA q1 q2 q3 q4).2 ⟨h1,h2⟩)⟩

theorem Nk(n s:Int):Bg (Bg n s).1 (Bg n s).2=Bg n s:=by
 unfold Bg;by_cases h:Dz n s=true
 ·rw [if_pos h];simp [h]
 ·rw [if_neg h];simp
theorem OS(n s:Int):mu (Bg n s).1 (Bg n s).2=mu n s:=by
 unfold mu;rw [Nk]
structure Rg where
 ln:Int
 ls:Int
 hn:Int
 hs:Int
abbrev Rp(x:Rg):Array Value:=List.toArray [.int .i64 x.ln,.int .i64 x.ls,.int .i64 x.hn,.int .i64 x.hs]
abbrev Rq(x:Rg):Value:=.agg (Rp x)
def Rg.lo(r:Rg):Int:=mu r.ln r.ls
def Rg.hi(r:Rg):Int:=mu r.hn r.hs
def IBA:Rg:=⟨1,0,0,0⟩
def Rg.full:Rg:=⟨-1000000000000000,0,1000000000000000,0⟩
def BF(r:Rg):Bool:=decide (r.hi<r.lo)
def CI(r:Rg):Rg:=if BF r=true then IBA else ⟨(Bg r.ln r.ls).1,(Bg r.ln r.ls).2,(Bg r.hn r.hs).1,(Bg r.hn r.hs).2⟩
def BD(r:Rg)(n s:Int):Bool:=Dz n s&&decide (r.lo<=mu n s)&&decide (mu n s<=r.hi)
def CU(n s n' s':Int):Int × Int:=if mu n' s'<mu n s then (n',s') else (n,s)
def Bm(n s n' s':Int):Int × Int:=if mu n s<mu n' s' then (n',s') else (n,s)
theorem WS(n s n' s':Int):mu (CU n s n' s').1 (CU n s n' s').2=min (mu n s) (mu n' s'):=by
 unfold CU;split<;>simp only<;>omega
theorem Rk(n s n' s':Int):mu (Bm n s n' s').1 (Bm n s n' s').2=max (mu n s) (mu n' s'):=by
 unfold Bm;split<;>simp only<;>omega
def CiA(x y:Rg):Rg:=⟨(CU x.ln x.ls y.ln y.ls).1,(CU x.ln x.ls y.ln y.ls).2,(Bm x.hn x.hs y.hn y.hs).1,(Bm x.hn x.hs y.hn y.hs).2⟩
def DQA(x y:Rg):Rg:=⟨(Bm x.ln x.ls y.ln y.ls).1,(Bm x.ln x.ls y.ln y.ls).2,(CU x.hn x.hs y.hn y.hs).1,(CU x.hn x.hs y.hn y.hs).2⟩
def Cc(a b:Rg):Rg:=if BF (CI a)=true then CI b else if BF (CI b)=true then CI a else CiA (CI a) (CI b)
def NB(a b:Rg):Rg:=CI (DQA (CI a) (CI b))
def F5(a b:Rg):Bool:=BF a||(decide (b.lo<=a.lo)&&decide (a.hi<=b.hi))
theorem Fd(r:Rg):BF (CI r)=BF r:=by
 unfold CI;cases h:BF r
 ·rw [if_neg AC];unfold BF Rg.lo Rg.hi at h|-;simp only;rw [OS,OS];exact h
 ·rw [if_pos rfl]
  decide
theorem G9{r:Rg}(h:BF r=false):(CI r).lo=r.lo/\(CI r).hi=r.hi:=by
 unfold CI;rw [h,if_neg AC];exact ⟨OS _ _,OS _ _⟩
theorem Bi{r:Rg}{n s:Int} : BD r n s=true↔Dz n s=true/\r.lo<=mu n s/\mu n s<=r.hi:=by
 unfold BD;simp only [Bool.and_eq_true,decide_eq_true_eq,and_assoc]
theorem Dw{r:Rg}(h:BF r=true)(n s:Int):BD r n s=false:=by
 rw [Bool.eq_false_iff];intro hc;rw [Bi] at hc;unfold BF at h;rw [decide_eq_true_eq] at h;omega
theorem EC(r:Rg)(n s:Int):BD (CI r) n s=BD r n s:=by
 cases h:BF r
 ·rw [Bool.eq_iff_iff,Bi,Bi,(G9 h).1,(G9 h).2]
 ·rw [Dw h,Dw (by rw [Fd];exact h)]
theorem Ww(x y:Rg):(CiA x y).lo=min x.lo y.lo/\(CiA x y).hi=max x.hi y.hi:=⟨WS _ _ _ _,Rk _ _ _ _⟩
theorem FiA(x y:Rg):(DQA x y).lo=max x.lo y.lo/\(DQA x y).hi=min x.hi y.hi:=⟨Rk _ _ _ _,WS _ _ _ _⟩
theorem YN(a b:Rg)(n s:Int)(h:BD a n s=true\/BD b n s=true):BD (Cc a b) n s=true:=by
 unfold Cc;rw [Fd,Fd];cases ha:BF a
 ·simp only [Bool.false_eq_true,if_false];cases hb:BF b
  ·simp only [Bool.false_eq_true,if_false];rw [Bi,(Ww _ _).1,(Ww _ _).2,(G9 ha).1,(G9 ha).2,(G9 hb).1,(G9 hb).2]
   rcases h with h|h
   all_goals
    rw [Bi] at h;exact ⟨h.1,AA,AA⟩
  ·simp only [if_true];rw [EC]
   rcases h with h|h
   ·exact h
   ·rw [Dw hb] at h;cases h
 ·simp only [if_true];rw [EC]
  rcases h with h|h
  ·rw [Dw ha] at h;cases h
  ·exact h
theorem CpA(a b:Rg)(n s:Int):BD (NB a b) n s=true↔BD a n s=true/\BD b n s=true:=by
 unfold NB;rw [EC,<-EC a,<-EC b,Bi,Bi,Bi,(FiA _ _).1,(FiA _ _).2];constructor
 ·rintro ⟨h1,h2,h3⟩;exact ⟨⟨h1,AA,AA⟩,⟨h1,AA,AA⟩⟩
 ·rintro ⟨⟨h1,h2,h3⟩,⟨_,h4,h5⟩⟩;exact ⟨h1,AA,AA⟩
def CQ(l h:Int):Int × Int:=if h<l then (1,0) else (l,h)
def Cb(a b:Int × Int):Int × Int:=if a.2<a.1 then CQ b.1 b.2 else if b.2<b.1 then a else (min a.1 b.1,max a.2 b.2)
def CZ(a b:Int × Int):Int × Int:=CQ (max a.1 b.1) (min a.2 b.2)
def inP(a:Int × Int)(n:Int):Prop:=a.1<=n/\n<=a.2
theorem Xl(l h n:Int):inP (CQ l h) n↔l<=n/\n<=h:=by
 unfold CQ inP;split<;>simp only<;>omega
theorem O9{a b:Int × Int}{n:Int}(h:inP a n\/inP b n):inP (Cb a b) n:=by
 unfold Cb;split
 ·rw [Xl];unfold inP at h;omega
 ·split
  ·unfold inP at h|-;omega
  ·unfold inP at h|-;simp only;omega
theorem M2(a b:Int × Int)(n:Int):inP (CZ a b) n↔inP a n/\inP b n:=by
 unfold CZ;rw [Xl];unfold inP;omega

def CBA(y:Val):Prop:=y.cols=[]/\y.rows=[]/\y.s.size<=4294967296
theorem IVA{S:NP}{y:Val}(hy:CBA y)(hd:0<d):CV w S d y (En y none 0 none 0):=by
 obtain ⟨h1,h2,h3⟩:=hy;refine ⟨none,0,none,0,rfl,⟨hd,by rw [h1];exact Al,by rw [h2];exact Al⟩,RV.mk h3 (by rw [h1];exact Strs.nil) (by rw [h2];exact Rows.nil)⟩
theorem IWA{w:World}{S:NP}{d:Nat}(hd:0<d):∀ (ys:List Val),(∀ y∈ys,CBA y)->VL (CV w S d) (ys.flatMap λy=>En y none 0 none 0) ys
 |[],_=>VL.nil _
 |y::ys,h=>by
  have h1:=VL.snoc (VL.nil (CV w S d)) (cs:=En y none 0 none 0) (y:=y) (IVA (w:=w) (S:=S) (h y List.mem_cons_self) hd).one.1 (IVA (h y List.mem_cons_self) hd);have h2:=IWA (w:=w) (S:=S) hd ys λz hz=>h z (List.mem_cons_of_mem _ hz)
  simpa using h1.append h2
theorem Row.flat{ys:List Val}(h:Blk w g t cs)(hc:cs.toList=ys.flatMap λy=>En y none 0 none 0)(hy:∀ y∈ys,CBA y)(hd:0<d)(hl:ys.length<=4294967296):Row w (λb=>b=g) d (some ⟨g,0,none⟩) ys:=by
 have h1:=h.rd;rw [hc] at h1;exact RVs.iff.2 ⟨hl,_,h1,IWA hd ys hy⟩
theorem Strs.of_blk(h:Blk w g t cs)(hc:cs.toList=l.map Value.string)(hl:l.length<=4294967296)(hs:∀ s∈l,s.size<=4294967296):Strs w (λb=>b=g) (some ⟨g,0,none⟩) l:=by
 have h1:=h.rd;rw [hc] at h1;exact ⟨h1,hl,hs⟩
def HkA(w:World)(t:Look)(e:Ending)(w':World):Prop:=∃ A c B e',e=.returned (.agg #[.string t.name,.slice A t.cols.length c,.slice B t.rows.length e'])/\(t.cols.length<=c/\t.rows.length<=e')/\RL w' (BO w) 1 t A B/\Ext w w'

theorem Fw(l:List BA)(A:OA)(ca:Nat)(w:World)(S:NP)(hA:Strs w S A l) :
  Cl 137 #[.slice A l.length ca] w (Ae w (decide l.Nodup)):=by
 have hal:=hA.2.1;have HA:=Hd hA;clear hA;have hmm:=@run_makeMap prog
 go_enter func137,ntmps137
 go_wp2;clear hmm;have Z:=Hd (show SetIs (w.alloc (.map #[] 0)) w.heap.size [] from IHA w _)
 go_loopw [9] (λi wr=>∃ (k:Nat) (ks:List BA),k<=l.length/\i=.I k/\Ext w wr/\SetIs wr w.heap.size ks/\ks.length<=k/\(ks.length=k↔(l.take k).Nodup)/\(∀ x,x∈ks↔x∈l.take k)) (λi _=>l.length-(intOf i).toNat)
 case atStart=>exact ⟨0,[],AN,rfl,(Ext.refl w).alloc _,Z.o,Al,AC,AC⟩
 case round =>
  clear Z;obtain ⟨k,ks,hk,rfl,hext,O,h1,h2,h3⟩:=hrel;obtain ⟨HE,HS,H2,H3⟩:=Hd4 hext O h2 h3;clear h2 h3;by_cases hlt:k<l.length
  ·obtain ⟨b1,o1,rfl,z1,c1⟩:=(HA.o.keep (hext.kept S)).at_ hlt;obtain ⟨w',ks',hup,U,hg',a9⟩:=O.put l[k];obtain ⟨HS',HG',Y⟩:=Hd3 U hg' a9;clear U hg' a9 hext O;go_wp2;go_roundw
   case rel =>
    have a8:l.take (k+1)=l.take k++[l[k]]:=List.take_succ_eq_append_getElem hlt;have hnd:(l.take (k+1)).Nodup↔(l.take k).Nodup/\l[k] ∉ l.take k:=by
     rw [a8,List.nodup_append];constructor
     ·rintro ⟨h1,_,h3⟩;exact ⟨h1,λh=>h3 _ h _ AC rfl⟩
     ·rintro ⟨h1,h2⟩;exact ⟨h1,AC,λa ha b hb e=>by simp at hb;subst hb;subst e;exact h2 ha⟩
    refine ⟨k+1,ks',AA,AE,HE.o.grown HG'.out (λb hb=>GQ),HS'.out,?_,?_,λx => ?_⟩
    ·rcases Y.o with ⟨_,rfl⟩|⟨_,rfl⟩
     ·omega
     ·simp;omega
    ·rw [hnd,<-H2.o,<-H3.o]
     rcases Y.o with ⟨hm,rfl⟩|⟨hn,rfl⟩
     ·constructor
      ·intro h;omega
      ·rintro ⟨_,h⟩;exact absurd hm h
     ·simp only [List.length_append,List.length_singleton];constructor
      ·intro h;exact ⟨AA,hn⟩
      ·rintro ⟨h,_⟩;omega
    ·rw [a8,List.mem_append,<-H3.o]
     rcases Y.o with ⟨hm,rfl⟩|⟨hn,rfl⟩
     ·constructor
      ·intro h;exact Or.inl h
      ·rintro (h|h)
       ·exact h
       ·simp at h;subst h;exact hm
     ·rw [List.mem_append]
   case measure=>simp [intOf];omega
  ·obtain rfl:k=l.length:=AA;have hlen:=O.len 3;have hnd:=H2.o;rw [List.take_of_length_le (Al)] at hnd;have b0:=Hd hnd;clear hnd hext O;go_wp2;go_ret;refine ⟨?_,HE.o⟩;by_cases hd:l.Nodup
   ·rw [decide_eq_true hd];have:=b0.o.2 hd;simp [this]
   ·rw [decide_eq_false hd];have:¬ks.length=l.length:=λe=>hd (b0.o.1 e);simp;omega

def GEA(l:List Int)(v:Int):Int:=Gv (λx=>decide (v=x)) l
theorem V0(A:OA)(c:Nat)(l:List Int)(v:Int)(w:World)(S:NP)(h:Ints w S A l) :
  Cl 203 #[.slice A l.length c,.I v] w (Bk w (GEA l v)):=by
 have hn:=h.2
 go_enter func203,ntmps203
 go_wp2
 go_loop [8] (λi=>∃ k:Nat,k<=l.length/\i=.I k/\∀ j (h:j<l.length),j<k->(λx=>decide (v=x)) l[j]=false) (λi=>l.length-(intOf i).toNat)
 case atStart=>exact ⟨0,AN,rfl,AK⟩
 case round =>
  obtain ⟨k,hk,rfl,hall⟩:=hrel;have HA:=Hd hall;clear hall;by_cases hlt:k<l.length
  ·obtain ⟨b1,o1,rfl,z1,c1⟩:=h.at_ hlt;by_cases hv:v=l[k]
   ·have ht:(v==l[k])=true:=(by simp [hv]);have HV:=Hd (show decide (v=l[k])=true by simp [hv]);clear hv;go_wp2;go_ret;exact ⟨by unfold GEA;rw [EO hlt HA.o HV.o];rfl,rfl⟩
   ·have ht:(v==l[k])=false:=(by simp [hv]);have HV:=Hd (show decide (v=l[k])=false by simp [hv]);exact Ot
  ·go_wp2;go_ret;exact ⟨by unfold GEA;rw [GG (λj hj=>HA.o j hj AA)];rfl,rfl⟩
def KC(l:List Int)(v:Int):Bool:=l.any λx=>decide (v=x)
theorem FM(A:OA)(c:Nat)(l:List Int)(v:Int)(w:World)(S:NP)(h:Ints w S A l) :
  Cl 145 #[.slice A l.length c,.I v] w (SameB w (KC l v)):=by
 have H:=Hd h;clear h
 go_enter func145,ntmps145
 go_wp2_with (go_at_call 203;refine (V0 _ _ _ _ _ S H.o).mono ?_;rintro e w' ⟨rfl,rfl⟩)
 go_ret;exact ⟨by unfold KC;rw [<-G5];rfl,rfl⟩
theorem JV(x:Int)(g:Nat)(A:OA)(c:Nat)(l:List Int)(w:World)(S:NP)(hb:w.cell? ⟨g,0,none⟩=some (.slice A l.length c))(h:Ints w S A l) :
  Cl 201 #[.I x,.pointer (some ⟨g,0,none⟩)] w (SameB w (!KC l x)):=by
 have H:=Hd h;clear h
 go_enter func201,ntmps201
 go_wp2_with (go_at_call 145;refine (FM _ _ _ _ _ S H.o).mono ?_;rintro e w' ⟨rfl,rfl⟩)
 go_ret;exact ⟨rfl,rfl⟩

theorem My(l m:List Int)(A B:OA)(c cb g:Nat)(w:World)(S T:NP)(hl:Ints w S A l)(hb:w.cell? ⟨g,0,none⟩=some (.slice B m.length cb))(h:Ints w T B m) :
  Cl 236 #[.slice A l.length c,.func (.func 201) #[] #[.pointer (some ⟨g,0,none⟩)]] w (Bk w (Gv (λx => !KC m x) l)):=by
 have hn:=hl.2;have HB:=Hd hb;have HS:=Hd h;clear hb h
 go_enter func236,ntmps236
 go_wp2
 go_loop [8] (λi=>∃ k:Nat,k<=l.length/\i=.I k/\∀ j (h:j<l.length),j<k->(λx => !KC m x) l[j]=false) (λi=>l.length-(intOf i).toNat)
 case atStart=>exact ⟨0,AN,rfl,AK⟩
 case round =>
  obtain ⟨k,hk,rfl,hall⟩:=hrel;have HA:=Hd hall;clear hall;by_cases hlt:k<l.length
  ·obtain ⟨b1,o1,rfl,z1,c1⟩:=hl.at_ hlt;cases hm:KC m l[k]
   ·have HM:=Hd hm;clear hm
    go_wp2_with (go_at_call 201;refine (JV _ g B cb m _ T HB.o HS.o).mono ?_;rintro e w' ⟨rfl,rfl⟩;rw [HM.o])
    exact Up
   ·have HM:=Hd hm;clear hm
    go_wp2_with (go_at_call 201;refine (JV _ g B cb m _ T HB.o HS.o).mono ?_;rintro e w' ⟨rfl,rfl⟩;rw [HM.o])
    exact OZ
  ·exact Ll
theorem Jw(l m:List Int)(A B:OA)(c cb g:Nat)(w:World)(S T:NP)(hl:Ints w S A l)(hb:w.cell? ⟨g,0,none⟩=some (.slice B m.length cb))(h:Ints w T B m) :
  Cl 200 #[.slice A l.length c,.func (.func 201) #[] #[.pointer (some ⟨g,0,none⟩)]] w (SameB w (l.any λx => !KC m x)):=by
 obtain ⟨HB,HS,HL⟩:=Hd3 hb h hl;clear hb h hl
 go_enter func200,ntmps200
 go_wp2_with (go_at_call 236;refine (My _ m _ B _ cb g _ S T HL.o HB.o HS.o).mono ?_;rintro e w' ⟨rfl,rfl⟩)
 go_ret;exact ⟨by rw [<-G5];rfl,rfl⟩
def MG(l m:List Int):Bool:=!(l.any λx => !KC m x)
theorem VZ(l m:List Int)(A B:OA)(c cb:Nat)(w:World)(S T:NP)(hl:Ints w S A l)(h:Ints w T B m) :
  Cl 143 #[.slice A l.length c,.slice B m.length cb] w (Ae w (MG l m)):=by
 have HS:=Hd h;have HL:=Hd hl;clear h hl
 go_enter func143,ntmps143
 go_wp2_with fail
 refine (Jw l m A B c cb w.heap.size _ S T (HL.o.keep (Kept.alloc _ _ _)) ((Blk.new w 22 #[.slice B m.length cb]).cell rfl) (HS.o.keep (Kept.alloc _ _ _))).mono ?_;rintro e w' ⟨rfl,rfl⟩;go_wp2;go_ret;exact ⟨rfl,(Ext.refl w).alloc _⟩
theorem PJ(h:qP:=by
 go_wp2;go_ret;exact ⟨rfl,HX.o⟩):qP:=h
theorem Rh(h:qP:=by
 rintro e w' ⟨rfl,hx⟩;have HX:=Hd hx;clear hx;exact PJ):qP:=h
theorem Xs(l m:List Int)(A B:OA)(c cb g:Nat)(w:World)(S T:NP)(hl:Ints w S A l)(hb:w.cell? ⟨g,0,none⟩=some (.slice B m.length cb))(h:Ints w T B m) :
  Cl 142 #[.slice A l.length c,.pointer (some ⟨g,0,none⟩)] w (Ae w (MG l m)):=by
 have HS:=Hd h;have HL:=Hd hl;clear h hl
 go_enter func142,ntmps142
 go_wp2_with fail
 refine (VZ l m A B c cb _ S T HL.o HS.o).mono ?_;exact Rh
theorem XR(gs l:List Int)(A B:OA)(c cb g:Nat)(w:World)(S T:NP)(hl:Ints w S A l)(hb:w.cell? ⟨g,0,none⟩=some (.slice B gs.length cb))(h:Ints w T B gs)(hll:l.length=gs.length) :
  Cl 202 #[.slice A l.length c,.pointer (some ⟨g,0,none⟩)] w (Ae w (!Fr gs l)):=by
 obtain ⟨HS,HL,O⟩:=Hd3 h hl hll;clear h hl hll
 go_enter func202,ntmps202
 go_wp2_with fail
 refine (KI gs l B A cb c _ T S HS.o HL.o O.o).mono ?_;exact Rh

theorem ZQ(h:qP:=by
 refine ⟨k+1,by omega,by go_num,HX1.o,λj h hj => ?_⟩;by_cases hjk:j=k
 ·subst hjk;exact HQ.o
 ·exact HA.o j h (by omega)):qP:=h
theorem Us(h:qP:=by
 have HQ:=Hd hq;clear hq;go_wp2;go_roundw
 case rel =>
  exact ZQ
 case measure=>simp [intOf];omega):qP:=h
theorem M6(ls:List (List Int))(m:List Int)(A B:OA)(c cb g:Nat)(w:World)(S T:NP)(hl:RIss w S A ls)(hb:w.cell? ⟨g,0,none⟩=some (.slice B m.length cb))(h:Ints w T B m) :
  Cl 199 #[.slice A ls.length c,.func (.func 142) #[] #[.pointer (some ⟨g,0,none⟩)]] w (DG w (Gv (λl=>MG l m) ls)):=by
 have hn:=hl.1;obtain ⟨HB,HS,HLS⟩:=Hd3 hb h hl;clear hb h hl
 go_enter func199,ntmps199
 go_wp2
 go_loopw [8] (λi wr=>∃ k:Nat,k<=ls.length/\i=.I k/\Ext w wr/\∀ j (h:j<ls.length),j<k->(λl=>MG l m) ls[j]=false) (λi _=>ls.length-(intOf i).toNat)
 case atStart=>exact ⟨0,AN,rfl,Ext.refl _,AK⟩
 case round =>
  obtain ⟨k,hk,rfl,hext,hall⟩:=hrel;have HA:=Hd hall;have HE:=Hd hext;clear hall;by_cases hlt:k<ls.length
  ·obtain ⟨b1,o1,B2,c2,rfl,z1,p0,hcp,O⟩:=(HLS.o.keep (hext.kept S)).at_ hlt;have U:=Hd O;clear O hext
   go_wp2_with fail
   refine (Xs ls[k] m B2 B c2 cb g _ S T U.o (HE.o.cell HB.o) (HS.o.keep (HE.o.kept T))).mono ?_;rintro e w1 ⟨rfl,hx1⟩;have HX1:=Hd (HE.o.trans hx1);clear hx1;cases hq:(MG ls[k] m)
   ·exact Us
   ·have HF:=Hd (EO (p:=λl=>MG l m) hlt HA.o hq);exact Lc
  ·have HF:=Hd (GG (p:=λl=>MG l m) (l:=ls) (λj h=>HA.o j h AA));exact FC
theorem ST(h:qP:=by
 rintro e w1 ⟨rfl,hx1⟩;have HX1:=Hd hx1;clear hx1;go_wp2;go_ret;exact ⟨by rw [<-G5];rfl,HX1.o⟩):qP:=h
theorem Jh(ls:List (List Int))(m:List Int)(A B:OA)(c cb g:Nat)(w:World)(S T:NP)(hl:RIss w S A ls)(hb:w.cell? ⟨g,0,none⟩=some (.slice B m.length cb))(h:Ints w T B m) :
  Cl 141 #[.slice A ls.length c,.func (.func 142) #[] #[.pointer (some ⟨g,0,none⟩)]] w (Ae w (ls.any λl=>MG l m)):=by
 obtain ⟨HB,HS,HLS⟩:=Hd3 hb h hl;clear hb h hl
 go_enter func141,ntmps141
 go_wp2_with fail
 refine (M6 ls m A B c cb g _ S T HLS.o HB.o HS.o).mono ?_;exact ST

theorem NF(ls:List (List Int))(m:List Int)(A B:OA)(c cb g:Nat)(w:World)(S T:NP)(hl:RIss w S A ls)(hb:w.cell? ⟨g,0,none⟩=some (.slice B m.length cb))(h:Ints w T B m)(hll:∀ l∈ls,l.length=m.length) :
  Cl 199 #[.slice A ls.length c,.func (.func 202) #[] #[.pointer (some ⟨g,0,none⟩)]] w (DG w (Gv (λl => !Fr m l) ls)):=by
 have hn:=hl.1;obtain ⟨HB,HS,HLS,Y⟩:=Hd4 hb h hl hll;clear hll hb h hl
 go_enter func199,ntmps199
 go_wp2
 go_loopw [8] (λi wr=>∃ k:Nat,k<=ls.length/\i=.I k/\Ext w wr/\∀ j (h:j<ls.length),j<k->(λl => !Fr m l) ls[j]=false) (λi _=>ls.length-(intOf i).toNat)
 case atStart=>exact ⟨0,AN,rfl,Ext.refl _,AK⟩
 case round =>
  obtain ⟨k,hk,rfl,hext,hall⟩:=hrel;have HA:=Hd hall;have HE:=Hd hext;clear hall;by_cases hlt:k<ls.length
  ·obtain ⟨b1,o1,B2,c2,rfl,z1,p0,hcp,O⟩:=(HLS.o.keep (hext.kept S)).at_ hlt;have U:=Hd O;clear O hext
   go_wp2_with fail
   refine (XR m ls[k] B2 B c2 cb g _ S T U.o (HE.o.cell HB.o) (HS.o.keep (HE.o.kept T)) (Y.o _ (List.getElem_mem hlt))).mono ?_;rintro e w1 ⟨rfl,hx1⟩;have HX1:=Hd (HE.o.trans hx1);clear hx1;cases hq:(!Fr m ls[k])
   ·exact Us
   ·have HF:=Hd (EO (p:=λl => !Fr m l) hlt HA.o hq);exact Lc
  ·have HF:=Hd (GG (p:=λl => !Fr m l) (l:=ls) (λj h=>HA.o j h AA));exact FC
theorem Jk(ls:List (List Int))(m:List Int)(A B:OA)(c cb g:Nat)(w:World)(S T:NP)(hl:RIss w S A ls)(hb:w.cell? ⟨g,0,none⟩=some (.slice B m.length cb))(h:Ints w T B m)(hll:∀ l∈ls,l.length=m.length) :
  Cl 141 #[.slice A ls.length c,.func (.func 202) #[] #[.pointer (some ⟨g,0,none⟩)]] w (Ae w (ls.any λl => !Fr m l)):=by
 obtain ⟨HB,HS,HLS,O⟩:=Hd4 hb h hl hll;clear hll hb h hl
 go_enter func141,ntmps141
 go_wp2_with fail
 refine (NF ls m A B c cb g _ S T HLS.o HB.o HS.o O.o).mono ?_;exact ST

def Dd(cols:List BA)(set:List Int):List BA:=set.map λc=>cols.getD c.toNat ⟨#[]⟩
theorem YH(cols:List BA)(set:List Int)(A B:OA)(ca cb:Nat)(w:World)(S T:NP)(hA:Strs w S A cols)(hB:Ints w T B set)(hr:∀ c∈set,0<=c/\c<(cols.length:Int)) :
  Cl 146 #[.slice A cols.length ca,.slice B set.length cb] w (CEA w (Dd cols set)):=by
 have b7:=hA.2.1;have hbl:=hB.2;obtain ⟨HA,HB,HR⟩:=Hd3 hA hB hr;clear hA hB hr;obtain ⟨cur,b5,U⟩:=B2A tiS set.length AA AB;have HCUR:=Hd U;clear U;have a9:(Dd cols set).length=set.length:=(by simp [Dd]);have O:=Hd a9;have b0:∀ s∈Dd cols set,s.size<=4294967296:=by
  intro s hs;obtain ⟨c,hc,rfl⟩:=List.mem_map.1 hs;have:=HR.o c hc;rw [BM _ _ _ AA];exact HA.o.sz AA
 have HNS:=Hd b0;clear a9 b0
 go_enter func146,ntmps146
 go_wp2;clear b5;have hst:OwnSs (w.alloc (.cells cur 9)) w.heap.size (some ⟨w.heap.size,0,none⟩) set.length ((Dd cols set).take 0):=by
  have:=ITA w 9 1 set.length cur Bd HCUR.o;exact ⟨by simpa using this,AC⟩
 have HST:=Hd hst;clear hst
 go_loopw [13,5] (λi v wr=>∃ (m:Nat) (A':OA) (c':Nat),m<=set.length/\i=.I m/\v=.slice A' m c'/\Ext w wr/\OwnSs wr w.heap.size A' c' ((Dd cols set).take m)) (λi _ _=>set.length-(intOf i).toNat)
 case atStart=>exact ⟨0,_,_,AN,rfl,rfl,(Ext.refl w).alloc _,HST.o⟩
 case round =>
  clear HST;obtain ⟨m,A',c',hm,rfl,rfl,hext,hown⟩:=hrel;have HE:=Hd hext;have HO:=Hd hown;clear hown;by_cases hlt:m<set.length
  ·obtain ⟨b1,o1,rfl,z1,c1⟩:=(HB.o.keep (hext.kept T)).at_ hlt;have b3:=HR.o _ (List.getElem_mem hlt);obtain ⟨x,hx⟩:=Int.eq_ofNat_of_zero_le b3.1;have hx2:x<cols.length:=AA;rw [hx] at c1;obtain ⟨b2,o2,rfl,z2,d1⟩:=(HA.o.keep (hext.kept S)).at_ hx2;have Y:(Dd cols set)[m]'(by rw [O.o];exact hlt)=cols[x]:=by
    simp only [Dd,List.getElem_map,hx];rw [Int.toNat_natCast,BM _ _ _ hx2]
   have b4:=Hd Y;have a8:((Dd cols set).take m).length=m:=(by rw [List.length_take,O.o];omega);have hown:=(HO.o.ext ((Ext.refl wr).alloc (.cells #[.string cols[x]] 9))).1;rw [a8] at hown;have HOWN:=Hd hown;have b6:=HE.o.size;clear Y a8 hown hext b3 hx
   go_wp2_with (at_builtin;go_must (refine AL rfl (.tmp 17) (.tmp 22) rfl tiS rfl HOWN.o rfl (Blk.rd (Blk.new _ _ _)) rfl AP AA AB AI ?_);intro A4 c4 w4 hown4 hg4 hat4)
   go_roundw
   case rel =>
    refine ⟨m+1,A4,c4,AA,AE,rfl,Ext.grown (HE.o.alloc _) hg4 (λb hb=>(HOWN.o.blk hb).1),?_,λs hs=>HNS.o s (List.mem_of_mem_take hs)⟩;rw [List.take_succ_eq_append_getElem (by rw [O.o];exact hlt),b4.o,List.length_append,List.length_take,O.o,Nat.min_eq_left hm,List.map_append];exact hown4
   case measure=>simp [intOf];omega
  ·obtain rfl:m=set.length:=AA;have ho:=HO.o;rw [List.take_of_length_le (by rw [O.o];exact Al)] at ho;have Z:=Hd ho;clear ho hext;go_wp2;go_ret;exact ⟨A',c',by rw [O.o];rfl,Own.cap Z.o.1,Z.o.strs (by rw [O.o];exact hbl) (λb hb=>(Own.blk Z.o.1 hb).1),HE.o⟩

theorem IIA{e sz:Nat}(h:Blk w g e cs)(hs:cs.size=n*sz)(hn:n<=maxLen)(hb:base<=g):Own w base e sz (some ⟨g,0,none⟩) n n cs.toList:=by
 refine ⟨by simpa using hs,Or.inr ⟨g,n,cs,rfl,hb,h,Al,hn,hs,?_⟩⟩;rw [List.take_of_length_le (by simp [hs])]
def F9(rows:List (List Val))(nc:Nat)(fs:List Nat):Bool:=(List.range nc).all λc=>Gk rows fs c
def EX(rows:List (List Val))(nc:Nat):List (List Int):=(List.range nc).map λc=>Ad rows c

theorem YM(rows:List (List Val))(nc:Nat)(set:List Int)(A B:OA)(ca cb:Nat)(w:World)(S T:NP)(hA:Ints w S A set)(hB:RIss w T B (EX rows nc))(hr:∀ c∈set,0<=c/\c<(nc:Int))(hrl:rows.length<=4294967296) :
  Cl 144 #[.slice A set.length ca,.slice B nc cb,.I (rows.length:Int)] w (Ae w (F9 rows nc (set.map Int.toNat))):=by
 have d7:=hA.2;have hbl:=hB.1;have O:(EX rows nc).length=nc:=(by simp [EX]);rw [O] at hbl;obtain ⟨Y,HA,HB,HR⟩:=Hd4 O hA hB hr;clear hA hB hr O
 go_enter func144,ntmps144
 go_wp2
 go_loopw [13,7] (λi v wr=>∃ (k:Nat) (A':OA) (c':Nat),k<=set.length/\i=.I k/\v=.slice A' k c'/\Ext w wr/\OwnIss wr w.heap.size (λb=>b<w.heap.size) A' c' (((set.map Int.toNat).map λf=>Ad rows f).take k)) (λi _ _=>set.length-(intOf i).toNat)
 case atStart=>exact ⟨0,none,0,AN,rfl,rfl,Ext.refl _,OwnIss.nil _ _ _⟩
 case round =>
  obtain ⟨k,A',c',hk,rfl,rfl,hext,hown⟩:=hrel;have HE:=Hd hext;have HO:=Hd hown;have b7:((set.map Int.toNat).map λf=>Ad rows f).length=set.length:=AC;have HML:=Hd b7;clear hown b7;by_cases hlt:k<set.length
  ·obtain ⟨b1,o1,rfl,z1,c1⟩:=(HA.o.keep (hext.kept S)).at_ hlt;have b8:=HR.o _ (List.getElem_mem hlt);obtain ⟨x,hx⟩:=Int.eq_ofNat_of_zero_le b8.1;have hx2:x<nc:=AA;rw [hx] at c1;obtain ⟨b2,o2,B2,c2,rfl,f1,b6,hcp,U⟩:=HB.o.at_ (show x<(EX rows nc).length by rw [Y.o];exact hx2);have d1:=hext.cell b6;have z2:b2<wr.heap.size:=(by have:=hext.size;omega);have d3:(EX rows nc)[x]'(by rw [Y.o];exact hx2)=Ad rows x:=(by simp [EX]);rw [d3] at d1 hcp U;have d5:=Hd (U.mono (T:=λb=>b<w.heap.size) (λi hi _=>hi));have b4:((set.map Int.toNat).map λf=>Ad rows f)[k]'EN=Ad rows x:=(by simp [hx]);have d4:=Hd b4;have Z:(((set.map Int.toNat).map λf=>Ad rows f).take k).length=k:=(by rw [List.length_take,HML.o];omega);obtain ⟨hs,ho,hv⟩:=HO.o.ext ((Ext.refl wr).alloc (.cells #[.slice B2 (Ad rows x).length c2] 22));have hhs:hs.length=k:=(by have:=ho.len;rw [Z] at this;omega);rw [Z] at ho;obtain ⟨HOWN,HV,HHS,b9⟩:=Hd4 ho hv hhs Z;have f4:=HE.o.size;clear ho hv hhs Z b4 hext U b6 d3 b8 hx f1
   go_wp2_with (at_builtin;go_must (refine AL rfl (.tmp 17) (.tmp 22) rfl DCA rfl HOWN.o rfl (Blk.rd (Blk.new _ _ _)) rfl AP AA AB AI ?_);intro A4 c4 w4 hown4 hg4 hat4)
   go_roundw
   case rel =>
    refine ⟨k+1,A4,c4,AA,AE,rfl,Ext.grown (HE.o.alloc _) hg4 (λb hb=>(HOWN.o.blk hb).1),?_⟩;rw [List.take_succ_eq_append_getElem EN,d4.o];refine OwnIss.push (by rw [b9.o];exact HHS.o) HV.o (by rw [b9.o];exact hown4) hg4 hat4 hcp ((d5.o.keep (((HE.o.alloc _)).kept _)).mono λi _ hi=>⟨λh0 => ?_,hi⟩);have:=(HO.o.blk h0).1;omega
   case measure=>simp [intOf];omega
  ·obtain rfl:k=set.length:=AA;have hoo:=HO.o;rw [List.take_of_length_le (by rw [HML.o];exact Al)] at hoo;have f2:=Hd (hoo.riss (T:=λ_=>True) (by rw [HML.o];exact d7) (λ_ _=>trivial) (λ_ _=>trivial));clear hoo hext;have b3:=NI rows.length ((set.map Int.toNat).map λf=>Ad rows f) A' c' wr (λ_=>True) f2.o (λl hl=>by obtain ⟨f,_,rfl⟩:=List.mem_map.1 hl;simp [Ad]) hrl;rw [HML.o] at b3;have f0:=Hd b3;clear b3
   go_wp2_with fail
   refine f0.o.mono ?_;rintro e w1 ⟨gs,a8,A1,c1,rfl,f3,b5,hx1⟩;obtain ⟨HX1,HGO,d8⟩:=Hd3 hx1 a8 b5;have b0:=a8.len;have d6:=Hd b0;clear hx1 a8 b5 b0;have a9:=Jk (EX rows nc) gs B A1 cb c1 w1.heap.size (w1.alloc (.cells #[.slice A1 gs.length c1] 22)) T (BO wr) (HB.o.keep (((HE.o.trans HX1.o).alloc _).kept T)) ((Blk.new w1 22 #[.slice A1 gs.length c1]).cell rfl) (d8.o.keep (Kept.alloc _ _ _)) (λl hl=>by rw [d6.o];obtain ⟨f,_,rfl⟩:=List.mem_map.1 hl;simp [Ad]);rw [Y.o] at a9;have d9:=Hd a9;clear a9
   go_wp2_with fail
   refine d9.o.mono ?_;rintro e w2 ⟨rfl,hx2⟩;have HX2:=Hd hx2;clear hx2;have HF:=Hd (show (!((EX rows nc).any λl => !Fr gs l))=F9 rows nc (set.map Int.toNat) by
    unfold EX F9;rw [List.any_map,List.not_any_eq_all_not];congr 1
    funext c
    simp only [Function.comp_apply,Bool.not_not];exact Ny HGO.o)
   go_wp2;go_ret;exact ⟨by rw [<-HF.o];rfl,HE.o.trans (HX1.o.trans ((exaa w1).trans HX2.o))⟩

def GW(n i:Nat):List (List Int):=(List.range' (i+1) (n-(i+1))).map λj:Nat=>[(i:Int),(j:Int)]
def Fz(n:Nat):List (List Int):=[[]]++((List.range n).map λi:Nat=>[(i:Int)])++(List.range n).flatMap (GW n)
def GMA(w:World)(l:List (List Int))(e:Ending)(w':World):Prop:=∃ A c,e=.returned (.slice A l.length c)/\l.length<=c/\RIss w' (BO w) A l/\Ext w w'
theorem OwnIss.add{c:Nat}{X:NP}{A:OA}{l:List (List Int)}(h:OwnIss w base X A c l):∃ hs,hs.length=l.length/\Own w base 22 1 A l.length c hs/\∀ (i:Nat) (r:List Int),l[i]?=some r->∃ (B:OA) (e:Nat),hs[i]?=some (Value.slice B r.length e)/\r.length<=e/\Ints w (λb=>ob A≠some b/\X b) B r:=by
 obtain ⟨hs,h1,h2⟩:=h;exact ⟨hs,by simpa using h1.len,h1,h2⟩

theorem AYA(n:Nat)(w:World)(hn:n<=1000):Cl 140 #[.I (n:Int)] w (GMA w (Fz n)):=by
 go_enter func140,ntmps140
 go_wp2;have HB0:=Hd (Blk.new (w.alloc (.cells #[] 3)) 22 #[.slice (some ⟨w.heap.size,0,none⟩) 0 0]);have hst:OwnIss ((w.alloc (.cells #[] 3)).alloc (.cells #[.slice (some ⟨w.heap.size,0,none⟩) 0 0] 22)) w.heap.size (BO w) (some ⟨w.heap.size+1,0,none⟩) 1 ([[]]++(List.range 0).map λi:Nat=>[(i:Int)]):=by
  refine ⟨[.slice (some ⟨w.heap.size,0,none⟩) 0 0],?_,λi r hr => ?_⟩
  ·have:=IIA (n:=1) (sz:=1) (base:=w.heap.size) HB0.o AC Bd AC
   simpa using this
  ·have hi:i=0:=by
    have:=(List.getElem?_eq_some_iff.1 hr).1;simp at this;exact this
   subst hi;simp at hr;subst hr;exact ⟨_,0,rfl,Al,Ints.nil⟩
 have HST:=Hd hst;clear hst
 go_loopw [10,3] (λi v wr=>∃ (k:Nat) (A':OA) (c':Nat),k<=n/\i=.I k/\v=.slice A' (k+1) c'/\Ext w wr/\OwnIss wr w.heap.size (BO w) A' c' ([[]]++(List.range k).map λi:Nat=>[(i:Int)])) (λi _ _=>n-(intOf i).toNat)
 case atStart=>exact ⟨0,_,_,AN,rfl,rfl,(exaa w).alloc _,HST.o⟩
 case round =>
  clear HST HB0;obtain ⟨k,A',c',hk,rfl,rfl,hext,hown⟩:=hrel;have HE:=Hd hext;have HO:=Hd hown;have b0:=hext.size;clear hown hext;by_cases hlt:k<n
  ·have hll:([[]]++(List.range k).map λi:Nat=>[(i:Int)]).length=k+1:=AC;obtain ⟨hs,hhs,ho,hv⟩:=(HO.o.ext (((Ext.refl wr).alloc (.cells #[.I (k:Int)] 3)).alloc (.cells #[.slice (some ⟨wr.heap.size,0,none⟩) 1 1] 22))).add;rw [hll] at ho;obtain ⟨HOWN,HV,HHS,HLL⟩:=Hd4 ho hv hhs hll;have O:=Blk.new (wr.alloc (.cells #[.I (k:Int)] 3)) 22 #[.slice (some ⟨wr.heap.size,0,none⟩) 1 1];rw [show (wr.alloc (.cells #[.I (k:Int)] 3)).heap.size=wr.heap.size+1 by simp] at O;have a8:=Hd O;clear ho hv hhs hll O
   go_wp2_with (at_builtin;go_must (refine AL rfl (.tmp 13) (.tmp 16) rfl DCA rfl HOWN.o rfl (Blk.rd a8.o) rfl AP AA AB AI ?_);intro A4 c4 w4 hown4 hg4 hat4)
   go_roundw
   case rel =>
    refine ⟨k+1,A4,c4,AA,AE,rfl,Ext.grown ((HE.o.alloc _).alloc _) hg4 (λb hb=>(HOWN.o.blk hb).1),?_⟩;rw [List.range_succ,List.map_append,<-List.append_assoc];refine OwnIss.push (r:=[(k:Int)]) HHS.o HV.o (by rw [HLL.o];exact hown4) hg4 hat4 (Al) ⟨?_,AC⟩;refine ((Blk.rd (Blk.new wr 3 #[.I (k:Int)])).keep (Kept.alloc _ _ _)).mono λi _ hi=>⟨λh0 => ?_,?_⟩
    ·have:=(HO.o.blk h0).2;omega
    ·unfold BO;omega
   case measure=>simp [intOf];omega
  ·obtain rfl:k=n:=AA;have a9:OwnIss wr w.heap.size (BO w) A' c' ([[]]++((List.range k).map λi:Nat=>[(i:Int)])++(List.range 0).flatMap (GW k)):=by
    have:=HO.o
    simpa using this
   have b5:=Hd a9;clear a9 HO;go_wp2
   go_loopw [20,3] (λi v wr=>∃ (m:Nat) (A':OA) (c':Nat) (l:List (List Int)),m<=k/\l=[[]]++((List.range k).map λi:Nat=>[(i:Int)])++(List.range m).flatMap (GW k)/\i=.I m/\v=.slice A' l.length c'/\Ext w wr/\l.length<=2000+m*1000/\OwnIss wr w.heap.size (BO w) A' c' l) (λi _ _=>k-(intOf i).toNat)
   case atStart=>exact ⟨0,_,_,_,AN,rfl,rfl,AC,HE.o,AI,b5.o⟩
   case round =>
    clear b5 HE b0;obtain ⟨m,A2,c2,l,hm,hl,rfl,rfl,Z,hll2,Y⟩:=hrel;obtain ⟨HL,b6,HO3⟩:=Hd3 hl Z Y;clear hl Z Y;obtain ⟨wo,rfl⟩:∃ wo:World,wo=wr:=⟨_,rfl⟩;by_cases hlt2:m<k
    ·go_wp2
     go_loopw [6,3] (λi v wr=>∃ (q:Nat) (A':OA) (c':Nat) (l2:List (List Int)),q<=k-(m+1)/\l2=l++(List.range' (m+1) q).map (λj:Nat=>[(m:Int),(j:Int)])/\i=.I ((m+1+q:Nat):Int)/\v=.slice A' l2.length c'/\Ext w wr/\l2.length<=l.length+q/\OwnIss wr w.heap.size (BO w) A' c' l2) (λi _ _=>k-(intOf i).toNat)
     case atStart=>exact ⟨0,A2,c2,l,AN,AC,AE,rfl,b6.o,AC,HO3.o⟩
     case round =>
      obtain ⟨q,A3,c3,l2,hq,hl2,rfl,rfl,U,hll3,hown3⟩:=hrel;obtain ⟨HL2,b4,HO4⟩:=Hd3 hl2 U hown3;have b0:=U.size;clear hl2 U hown3;by_cases hlt3:m+1+q<k
      ·obtain ⟨hs,hhs,ho,hv⟩:=(HO4.o.ext (((Ext.refl wr).alloc (.cells #[.I (m:Int),.I ((m+1+q:Nat):Int)] 3)).alloc (.cells #[.slice (some ⟨wr.heap.size,0,none⟩) 2 2] 22))).add;obtain ⟨HOWN,HV,HHS⟩:=Hd3 ho hv hhs;have O:=Blk.new (wr.alloc (.cells #[.I (m:Int),.I ((m+1+q:Nat):Int)] 3)) 22 #[.slice (some ⟨wr.heap.size,0,none⟩) 2 2];rw [show (wr.alloc (.cells #[.I (m:Int),.I ((m+1+q:Nat):Int)] 3)).heap.size=wr.heap.size+1 by simp] at O;have a8:=Hd O;clear ho hv hhs O
       go_wp2_with (at_builtin;go_must (refine AL rfl (.tmp 30) (.tmp 34) rfl DCA rfl HOWN.o rfl (Blk.rd a8.o) rfl AP AA AB AI ?_);intro A4 c4 w4 hown4 hg4 hat4)
       go_roundw
       case rel =>
        refine ⟨q+1,A4,c4,l2++[[(m:Int),((m+1+q:Nat):Int)]],AA,?_,AE,AC,Ext.grown ((b4.o.alloc _).alloc _) hg4 (λb hb=>(HOWN.o.blk hb).1),AI,?_⟩
        ·rw [HL2.o,List.range'_1_concat,List.map_append,<-List.append_assoc];simp
        ·refine OwnIss.push (r:=[(m:Int),((m+1+q:Nat):Int)]) HHS.o HV.o hown4 hg4 hat4 (Al) ⟨?_,AC⟩;refine ((Blk.rd (Blk.new wr 3 #[.I (m:Int),.I ((m+1+q:Nat):Int)])).keep (Kept.alloc _ _ _)).mono λi _ hi=>⟨λh0 => ?_,?_⟩
         ·have:=(HO4.o.blk h0).2;omega
         ·unfold BO;omega
       case measure=>simp [intOf];omega
      ·have b3:q=k-(m+1):=AA;have HQ:=Hd b3;clear b3;go_wp2;go_roundw
       case rel =>
        refine ⟨m+1,A3,c3,l2,AA,?_,AE,rfl,b4.o,AA,HO4.o⟩;rw [HL2.o,HL.o,HQ.o,List.range_succ,List.flatMap_append,<-List.append_assoc];simp [GW]
       case measure=>simp [intOf];omega
    ·obtain rfl:m=k:=AA;obtain rfl:l=Fz m:=HL.o;have HC:=Hd (show (Fz m).length<=c2 by obtain ⟨hs,_,h1,_⟩:=HO3.o.add;exact h1.cap);clear HL;go_wp2;go_ret;exact ⟨A2,c2,rfl,HC.o,HO3.o.riss AA (λb hb=>(HO3.o.blk hb).1) (λ_ h=>h),b6.o⟩

theorem Jc{α:Type} [DecidableEq α]:∀ {l m:List α},l.Nodup->(∀ x∈l,x∈m)->l.length<=m.length
 |[],_,_,_=>AN
 |x::l,m,hn,hs=>by
  have hx:x∈m:=hs x (List.mem_cons_self);have h1:=List.nodup_cons.1 hn;have:=Jc (l:=l) (m:=m.erase x) h1.2 (λy hy=>by
   have hne:y≠x:=λe=>h1.1 (e ▸ hy);exact (List.mem_erase_of_ne hne).2 (hs y (List.mem_cons_of_mem _ hy)))
  rw [List.length_erase_of_mem hx] at this;have hp:0<m.length:=List.length_pos_of_mem hx;simp;omega
structure Part(l:List Dep)(frm ks:List BA):Prop where
 nodup:ks.Nodup
 base:∀ x∈frm,x∈ks
 least:∀ T:BA->Prop,(∀ x∈frm,T x)->(∀ d∈l,(∀ x∈d.frm,T x)->T d.tov)->∀ x∈ks,T x
theorem Part.len{l:List Dep}(h:Part l frm ks):ks.length<=frm.length+l.length:=by
 have:=Jc h.nodup (m:=frm++l.map Dep.tov) (h.least (λx=>x∈frm++l.map Dep.tov) (λx hx=>List.mem_append_left _ hx) (λd hd _=>List.mem_append_right _ (List.mem_map_of_mem hd)))
 simpa using this
theorem Part.add{l:List Dep}(h:Part l frm ks){d:Dep}(hd:d∈l)(hf:∀ x∈d.frm,x∈ks)(hx:d.tov ∉ ks):Part l frm (ks++[d.tov]):=by
 refine ⟨?_,λx hx=>List.mem_append_left _ (h.base x hx),λT h1 h2 x hx => ?_⟩
 ·rw [List.nodup_append];refine ⟨h.nodup,AC,?_⟩;intro a ha b hb;simp at hb;subst hb;exact λe=>hx (e ▸ ha)
 ·rcases List.mem_append.1 hx with hx|hx
  ·exact h.least T h1 h2 x hx
  ·simp at hx;subst hx;exact h2 d hd (λy hy=>h.least T h1 h2 y (hf y hy))
theorem CNA : (l.any λx => !TF ks x)=false↔∀ x∈l,x∈ks:=by
 rw [List.any_eq_false];constructor
 ·intro h x hx;have:=h x hx;rw [<-Ml]
  simpa using this
 ·intro h x hx;have:=(Ml ks x).2 (h x hx);simp [this]
def G3A(w:World)(l:List Dep)(frm:List BA)(e:Ending)(w':World):Prop:=∃ ks,IsClosure l frm ks/\CEA w (An ks) e w'

theorem Vn(l:List Dep)(frm:List BA)(A B:OA)(ca cb:Nat)(w:World)(S T:NP)(hA:RDeps w S A l)(hB:Strs w T B frm)(hsm:frm.length+l.length<=4294967296) :
  Cl 209 #[.slice A l.length ca,.slice B frm.length cb] w (G3A w l frm):=by
 have hal:=hA.1;have hbl:=hB.2.1;have HA:=Hd hA;have HB:=Hd hB;clear hA hB;have hmm:=@run_makeMap prog
 go_enter func209,ntmps209
 go_wp2
 go_step3
 go_wp2;clear hmm;have f0:=Hd (Blk.new (w.alloc (.map #[] 0)) 183 #[.map (some w.heap.size)]);have d6:=Hd (show SetIs ((w.alloc (.map #[] 0)).alloc (.cells #[.map (some w.heap.size)] 183)) w.heap.size [] from (IHA w _).keep (Kept.alloc _ _ _))
 go_loopw [15] (λi wr=>∃ (k:Nat) (ks:List BA),k<=frm.length/\i=.I k/\Ext w wr/\w.heap.size+1<wr.heap.size/\wr.cell? ⟨w.heap.size+1,0,none⟩=some (.map (some w.heap.size))/\SetIs wr w.heap.size ks /\
   ks.Nodup/\(∀ j (h:j<frm.length),j<k->frm[j]∈ks)/\(∀ x∈ks,x∈frm)) (λi _=>frm.length-(intOf i).toNat)
 case atStart=>exact ⟨0,[],AN,rfl,(exaa w).alloc _,AC,AC,d6.o,AC,AK,AC⟩
 case round =>
  obtain ⟨k,ks,hk,rfl,hext,hsz,Z,a8,h1,h2,h3⟩:=hrel;obtain ⟨HE,HS,H1,H2,H3⟩:=Hd5 hext a8 h1 h2 h3;clear a8 h1 h2 h3;by_cases hlt:k<frm.length
  ·obtain ⟨b1,o1,rfl,z1,c1⟩:=(HB.o.keep (hext.kept T)).at_ hlt;obtain ⟨w',d7,hup,U,hg',b8⟩:=HS.o.put frm[k];obtain ⟨d9,b0,a9,b7⟩:=Hd4 U hg' b8 Z;clear U hg' b8 hext;go_wp2;go_roundw
   case rel =>
    refine ⟨k+1,d7,AA,AE,HE.o.grown b0.out (λb hb=>GQ),by have:=b0.out.size;omega,?_,d9.out,?_,λj h hj => ?_,λx hx => ?_⟩
    ·rw [World.cell?_of_block (b0.out.block (w.heap.size+1) hsz (λe=>Gp))];exact b7.o
    ·rcases a9.o with ⟨_,rfl⟩|⟨hn,rfl⟩
     ·exact H1.o
     ·rw [List.nodup_append];refine ⟨H1.o,AC,?_⟩;intro a ha b hb;simp at hb;subst hb;exact λe=>hn (e ▸ ha)
    ·rcases a9.o with ⟨hm,rfl⟩|⟨hn,rfl⟩
     ·by_cases hjk:j=k
      ·subst hjk;exact hm
      ·exact H2.o j h AA
     ·by_cases hjk:j=k
      ·subst hjk;simp
      ·exact List.mem_append_left _ (H2.o j h AA)
    ·rcases a9.o with ⟨hm,rfl⟩|⟨hn,rfl⟩
     ·exact H3.o x hx
     ·rcases List.mem_append.1 hx with hx|hx
      ·exact H3.o x hx
      ·simp at hx;subst hx;exact List.getElem_mem hlt
   case measure=>simp [intOf];omega
  ·have O:Part l frm ks:=⟨H1.o,λx hx=>by
    obtain ⟨i,hi,rfl⟩:=List.mem_iff_getElem.1 hx;exact H2.o i hi AA,λT h1 _ x hx=>h1 x (H3.o x hx)⟩
   obtain ⟨HP,b7,HSZ⟩:=Hd3 O Z hsz;clear O hext Z hsz;go_wp2
   go_step3
   go_wp2
   go_loopg [9] (frm.length+l.length+1) (λgk _ wr=>∃ ks:List BA,frm.length+l.length+1<=gk+ks.length/\Ext w wr/\w.heap.size+1<wr.heap.size/\wr.cell? ⟨w.heap.size+1,0,none⟩=some (.map (some w.heap.size))/\SetIs wr w.heap.size ks/\Part l frm ks)
   case atStart=>exact ⟨ks,AA,HE.o,HSZ.o,b7.o,HS.o,HP.o⟩
   case round =>
    clear HE HS H1 H2 H3 HP b7 HSZ f0 d6 hlt hk;obtain ⟨Y,hgk,hext,hsz,Z,a8,O⟩:=hrel;have hkl:=O.len;obtain ⟨HE,HS,HP⟩:=Hd3 hext a8 O;have d3:=a8.len 3;have f0:=Hd Z;have HGK:=Hd hgk;clear a8 O hext hgk;go_wp2;clear d3;obtain ⟨wo,rfl⟩:∃ wo:World,wo=wr:=⟨_,rfl⟩;clear Z
    go_loopw [27] (λi wi=>∃ (j:Nat) (ks:List BA),j<=l.length/\i=.I j/\Ext w wi/\w.heap.size+1<wi.heap.size/\wi.cell? ⟨w.heap.size+1,0,none⟩=some (.map (some w.heap.size))/\SetIs wi w.heap.size ks/\Part l frm ks/\Y.length<=ks.length /\
      (ks.length=Y.length->ks=Y/\∀ m (h:m<l.length),m<j->(∀ x∈l[m].frm,x∈Y)->l[m].tov∈Y)) (λi _=>l.length-(intOf i).toNat)
    case atStart=>exact ⟨0,Y,AN,rfl,HE.o,hsz,f0.o,HS.o,HP.o,Al,λ_=>⟨rfl,AK⟩⟩
    case round =>
     obtain ⟨j,ks,hj,rfl,b5,hszi,hbxi,d8,b9,hle,d4⟩:=hrel;obtain ⟨HEI,b3,HPI,b6,HBI⟩:=Hd5 b5 d8 b9 d4 hbxi;have hkl2:=b9.len;clear d8 b9 d4;by_cases hlt:j<l.length
     ·obtain ⟨b1,o1,B2,c2,rfl,z1,p0,p1,hcp,hts,f1⟩:=(HA.o.keep (b5.kept S)).at_ hlt;have HSTR:=Hd f1;clear f1 b5;have HCF:=Hd (Jo l[j].frm B2 c2 (w.heap.size+1) w.heap.size ks (wr.alloc (.cells #[.slice B2 l[j].frm.length c2,.string l[j].tov] 69)) S (HSTR.o.keep (Kept.alloc _ _ _)) ((exaa wr).cell HBI.o) (b3.o.keep (Kept.alloc _ _ _)));cases hany:(l[j].frm.any λx => !TF ks x)
      ·have hall:=CNA.1 hany;have HALL:=Hd hall;have b4:=Hd hany;clear hall hany;obtain ⟨w',d7,hup,U,hg',b8⟩:=(b3.o.keep (Kept.alloc _ wr (.cells #[.slice B2 l[j].frm.length c2,.string l[j].tov] 69)):SetIs _ _ _).put l[j].tov;obtain ⟨d9,b0,a9⟩:=Hd3 U hg' b8;clear U hg' b8
       go_wp2_with (go_at_call 224;refine HCF.o.mono ?_;rintro e1 w1 ⟨rfl,rfl⟩;rw [b4.o])
       go_roundw
       case rel =>
        have hszw:=b0.out.size;simp at hszw;refine ⟨j+1,d7,AA,AE,(HEI.o.alloc _).grown b0.out (λb hb=>GQ),AA,?_,d9.out,?_,?_,?_⟩
        ·rw [World.cell?_of_block (b0.out.block (w.heap.size+1) AI (λe=>Gp))];exact (exaa wr).cell HBI.o
        ·rcases a9.o with ⟨_,rfl⟩|⟨hn,rfl⟩
         ·exact HPI.o
         ·exact HPI.o.add (List.getElem_mem hlt) HALL.o hn
        ·rcases a9.o with ⟨_,rfl⟩|⟨hn,rfl⟩
         ·exact hle
         ·simp;omega
        ·intro d5
         rcases a9.o with ⟨hm,rfl⟩|⟨hn,rfl⟩
         ·obtain ⟨e1,e2⟩:=b6.o d5;refine ⟨e1,λm h hm2 hf => ?_⟩;by_cases hmj:m=j
          ·subst hmj;rw [<-e1];exact hm
          ·exact e2 m h AA hf
         ·simp at d5;omega
       case measure=>simp [intOf];omega
      ·have b4:=Hd hany;clear hany
       go_wp2_with (go_at_call 224;refine HCF.o.mono ?_;rintro e1 w1 ⟨rfl,rfl⟩;rw [b4.o])
       go_roundw
       case rel =>
        refine ⟨j+1,ks,AA,AE,HEI.o.alloc _,AI,(exaa wr).cell HBI.o,b3.o.keep (Kept.alloc _ _ _),HPI.o,hle,λd5 => ?_⟩;obtain ⟨e1,e2⟩:=b6.o d5;refine ⟨e1,λm h hm2 hf => ?_⟩;by_cases hmj:m=j
        ·subst hmj;exfalso;rw [<-e1] at hf;have:=CNA.2 hf;rw [b4.o] at this;cases this
        ·exact e2 m h AA hf
       case measure=>simp [intOf];omega
     ·have d3:=b3.o.len 3;clear b5;by_cases heq:ks.length=Y.length
      ·have heq':((ks.length:Int)==(Y.length:Int))=true:=(by simp [heq]);obtain ⟨rfl,hcl⟩:=b6.o heq;have HCL:=Hd (show IsClosure l frm ks from ⟨HPI.o.nodup,HPI.o.base,λd hd hf=>by
        obtain ⟨i,hi,rfl⟩:=List.mem_iff_getElem.1 hd;exact hcl i hi AA hf,HPI.o.least⟩)
       have f2:∀ x∈ks,x.size<=4294967296:=HPI.o.least _ (λx hx=>HB.o.2.2 x hx) (λd hd _=>by
        obtain ⟨i,hi,rfl⟩:=List.mem_iff_getElem.1 hd;obtain ⟨_,_,_,_,_,_,_,_,_,h9,_⟩:=HA.o.at_ hi;exact h9)
       have HKSZ:=Hd f2;clear heq hcl f2
       go_wp2_with fail
       refine (ClA w.heap.size _).mono ?_;rintro e1 w1 ⟨rfl,rfl⟩
       go_wp2_with fail
       refine (Vf w.heap.size (ks.map λk=>(k,Value.bool true)) _ b3.o AC (by simpa using HKSZ.o) AI).mono ?_;have hmk:(ks.map λk=>(k,Value.bool true)).map (·.1)=ks:=(by simp [Function.comp_def]);rw [hmk];clear hmk;rintro e1 w1 ⟨A9,c9,rfl,hc9,hs9,hx9⟩;have HX9:=Hd hx9;clear hx9 d3;go_wp2;rw [Exit.noGoto_ret];go_ret;exact ⟨ks,HCL.o,A9,c9,rfl,hc9,hs9.mono (T:=BO w) (λi _ hi=>by unfold BO at hi|-;simp at hi;omega),HEI.o.trans ((exaa wr).trans HX9.o)⟩
      ·have heq':((ks.length:Int)==(Y.length:Int))=false:=by
        rw [beq_eq_false_iff_ne];omega
       go_wp2
       go_roundg (gk-1)
       case measure=>have:=HGK.o;omega
       case rel=>exact ⟨ks,by have:=HGK.o;omega,HEI.o,hszi,HBI.o,b3.o,HPI.o⟩
