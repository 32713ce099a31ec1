/- Lemmas. No conditions. -/
import Derived.Test.YtidacnalcdhckaaGreatDoorOq12
set_option maxRecDepth 100000
set_option maxHeartbeats 400000
namespace Go.Proofs.YtidacnalcdhckaaGreatDoor
open Go Go.RowKit Tryz
variable {qP:Prop}

def Hu(cls:Int):Nat→Int→Int
 |0,f=>f
 |k+1,f=>Hu cls k (if bt cls (Ev (32+k:Nat))=true then ((32+k:Nat):Int) else f)
theorem Yn(cls:Int):∀ (k:Nat) (f:Int),(bt cls (Ev f)=true∨∃ j:Nat,j<k∧bt cls (Ev (32+j:Nat))=true)→bt cls (Ev (Hu cls k f))=true
 |0,f,h=>by
  rcases h with h|⟨j,hj,_⟩
  ·exact h
  ·omega
 |k+1,f,h=>by
  unfold Hu;refine Yn cls k _ ?_;by_cases hk:bt cls (Ev (32+k:Nat))=true
  ·left;rw [if_pos hk];exact hk
  ·rw [if_neg hk]
   rcases h with h|⟨j,hj,hb⟩
   ·exact Or.inl h
   ·right;refine ⟨j,?_,hb⟩
    rcases Nat.lt_or_ge j k with h1|h1
    ·exact h1
    ·exfalso;rw [show j=k by omega] at hb;exact hk hb
theorem J7(cls:Int):∀ (k:Nat) (f:Int),k≤95→32≤f→f≤126→32≤Hu cls k f∧Hu cls k f≤126
 |0,f,_,h1,h2=>⟨h1,h2⟩
 |k+1,f,hk,h1,h2=>by
  unfold Hu;split
  ·exact J7 cls k _ AA AA AA
  ·exact J7 cls k _ AA h1 h2
def JQ(a:Sh):UInt8:=UInt8.ofNat (Hu a.cls 95 32).toNat
theorem WU(a:Sh):((JQ a).toNat:Int)=Hu a.cls 95 32:=by
 have h:=J7 a.cls 95 32 AA AA AA;unfold JQ;rw [UInt8.toNat_ofNat'];omega
theorem E2A{a:Sh}{c:UInt8}(h:okU (BL a) c):okU (BL a) (JQ a):=by
 obtain ⟨h1,h2⟩:=Xa.1 h;rw [Xa];have hr:=J7 a.cls 95 32 AA AA AA;constructor
 ·unfold DxA;rw [WU];refine Yn _ _ _ (Or.inr ⟨c.toNat-32,?_,?_⟩)
  ·unfold C4 at h2;rw [decide_eq_true_eq] at h2;omega
  ·unfold C4 at h2;rw [decide_eq_true_eq] at h2;rw [show 32+(c.toNat-32)=c.toNat by omega];exact h1
 ·rw [WU];unfold C4;rw [decide_eq_true_eq];exact hr
def Fn(a:Sh)(n:Nat):Option (List UInt8) :=
 if n<a.B.length∨n<a.E.length then none
 else
  let s:=a.B++List.replicate (n-a.E.length-a.B.length) (JQ a)
  let both:=s.length+a.E.length-n
  if s.drop (s.length-both)=a.E.take both then some (s++a.E.drop both) else none
theorem Xv{a:Sh}{l:List UInt8}(h:InS a l){n:Nat}(hn:n=l.length∨(n≤l.length∧a.B.length+a.E.length<n))(h1:AQ a≤n):∃ s,Fn a n=some s∧InS a s:=by
 obtain ⟨i1,i2,i3,i4,i5⟩:=h;have hL:(a.B.length:Int)≤AQ a∧(a.E.length:Int)≤AQ a:=(by unfold AQ;rw [G6,F1];omega);unfold Fn;rw [if_neg AA];simp only;by_cases hc:a.B.length+a.E.length≤n
 ·have e1:(a.B++List.replicate (n-a.E.length-a.B.length) (JQ a)).length=n-a.E.length:=by
   rw [List.length_append,List.length_replicate];omega
  rw [e1,show n-a.E.length+a.E.length-n=0 by omega,Nat.sub_zero,List.take_zero,List.drop_zero,List.drop_of_length_le AA,if_pos rfl];refine ⟨_,rfl,?_⟩;obtain ⟨k1,k2,k3⟩:=Uo (x:=a.B) (y:=a.E) (n:=n) (JQ a) hc;rw [List.append_assoc,show n-a.E.length-a.B.length=n-a.B.length-a.E.length by omega];refine ⟨Eb,Eb,?_,k1,k2⟩;intro u hu;rw [List.mem_append,List.mem_append,List.mem_replicate] at hu
  rcases hu with hu|⟨hz,rfl⟩|hu
  ·exact i3 u (i4.subset hu)
  ·cases l with
   |nil=>simp at hn;omega
   |cons c l=>exact E2A (i3 c List.mem_cons_self)
  ·exact i3 u (i5.subset hu)
 ·have hl:n=l.length:=AA;rw [show n-a.E.length-a.B.length=0 by omega,List.replicate_zero,List.append_nil];have hlap:=DpA i4 i5 AA;rw [←hl] at hlap;rw [show a.B.length-(a.B.length+a.E.length-n)=n-a.E.length by omega,if_pos hlap];refine ⟨_,rfl,?_⟩;obtain ⟨k1,k2,k3⟩:=YA (x:=a.B) (y:=a.E) (n:=n) AA AA AA hlap;refine ⟨Eb,Eb,?_,k1,k2⟩;intro u hu;rw [List.mem_append] at hu
  rcases hu with hu|hu
  ·exact i3 u (i4.subset hu)
  ·exact i3 u (i5.subset (List.mem_of_mem_drop hu))
def FUA(a:Sh):Int:=min (BE a) (max (max a.least 0) (a.b.size+a.e.size+1))
theorem Yc{a:Sh}(h:∀ n:Nat,max a.least 0≤n→(n:Int)≤FUA a→∀ s,Fn a n=some s→¬InS a s):AT a=true:=by
 rw [Bs];intro l hl;have hl':=hl;obtain ⟨i1,i2,i3,i4,i5⟩:=hl;have hL:(a.b.size:Int)≤AQ a∧(a.e.size:Int)≤AQ a∧max a.least 0≤AQ a:=DQ;have hL2:AQ a=max a.least 0∨AQ a=a.b.size∨AQ a=a.e.size:=DQ;have hB:=G6 a;have hE:=F1 a;by_cases hm:(l.length:Int)≤max (max a.least 0) (a.b.size+a.e.size+1)
 ·obtain ⟨s,h1,h2⟩:=Xv hl' (n:=l.length) (Or.inl rfl) i1;exact h l.length AA (by unfold FUA;omega) s h1 h2
 ·obtain ⟨n,hn⟩:∃ n:Nat,(n:Int)=max (max a.least 0) (a.b.size+a.e.size+1):=⟨(max (max a.least 0) (a.b.size+a.e.size+1)).toNat,AA⟩;obtain ⟨s,h1,h2⟩:=Xv hl' (n:=n) (Or.inr ⟨AA,AA⟩) AA;exact h n AA (by unfold FUA;omega) s h1 h2
theorem Eg{a:Sh}{s:List UInt8}(h:InS a s):AT a=false:=by
 cases he:AT a
 ·rfl
 ·exact absurd h ((Bs a).1 he s)
def ES:List UInt8→List UInt8→List UInt8
 |x::l,y::m=>if x=y then x::ES l m else []
 |_,_=>[]
def Hv(l m:List UInt8):List UInt8:=(ES l.reverse m.reverse).reverse
theorem FK:∀ l m:List UInt8,ES l m <+: l
 |[],_=>by simp [ES]
 |_::_,[]=>by simp [ES]
 |x::l,y::m=>by
  unfold ES;split
  ·rw [List.cons_prefix_cons];exact ⟨rfl,FK l m⟩
  ·exact List.nil_prefix
theorem Hw:∀ l:List UInt8,ES l l=l
 |[]=>rfl
 |x::l=>by unfold ES;rw [if_pos rfl,Hw l]
theorem J8(l m:List UInt8):Hv l m <:+ l:=by
 have h:=FK l.reverse m.reverse;rw [←List.reverse_suffix,List.reverse_reverse] at h;exact h
theorem NQ(l:List UInt8):Hv l l=l:=by
 unfold Hv;rw [Hw,List.reverse_reverse]
def bA(l:List UInt8):BA:=⟨l.toArray⟩
theorem He(s:BA):bA s.data.toList=s:=by
 cases s;simp [bA]
theorem EH(l:List UInt8):(bA l).size=l.length:=rfl
def BW(a b:Sh):Sh :=
 if AT a=true then (if AT b=true then H3A else b)
 else if AT b=true then a
 else ⟨min (AQ a) (AQ b),max (BE a) (BE b),bits .or .i64 (BL a) (BL b),bA (ES a.B b.B),bA (Hv a.E b.E)⟩
def CY(a b:Sh):Sh:=⟨max (AQ a) (AQ b),min (BE a) (BE b),bits .and .i64 (BL a) (BL b),if a.b.size<b.b.size then b.b else a.b,if a.e.size<b.e.size then b.e else a.e⟩
def DN(a b:Sh):Sh :=
 if AT a=true∨AT b=true then H3A
 else if EA a.b (CY a b).b=true∧EA b.b (CY a b).b=true∧EB a.e (CY a b).e=true∧EB b.e (CY a b).e=true∧AT (CY a b)=false then CY a b else H3A
def Dr(a b:Sh):Bool :=
 AT a||(!AT b&&decide (AQ b≤AQ a)&&decide (BE a≤BE b)&&CM (BL a) (BL b)&&EA b.b a.b&&EB b.e a.e)
theorem Fq{p s:BA} : EA p s=true↔p.data.toList <+: s.data.toList:=by
 unfold EA;rw [List.isPrefixOf_iff_prefix]
theorem Fo{p s:BA} : EB p s=true↔p.data.toList <:+ s.data.toList:=by
 unfold EB;rw [List.isSuffixOf_iff_suffix]
theorem Mf:AT H3A=true:=by
 rw [Bs];rintro l ⟨h1,h2,_⟩;have e1:AQ H3A=1:=AB;have e2:BE H3A=0:=AB;omega
theorem Xg{a:Sh}{x:Int}(h:a.cls=x)(i:Nat):bt (BL a) i=(bt x i&&bt 110 i):=by
 unfold BL;rw [h,CN]
theorem Pt{a b:Sh}{x:Sh}(hx:x.cls=bits .or .i64 (BL a) (BL b))(c:UInt8):okU (BL x) c↔okU (BL a) c∨okU (BL b) c:=by
 unfold okU;rw [Xg hx,Ux];unfold BL;rw [CN,CN];simp only [Bool.and_eq_true,Bool.or_eq_true];constructor
 ·rintro ⟨h1,_⟩;exact h1
 ·rintro (h|h)
  ·exact ⟨Or.inl h,h.2⟩
  ·exact ⟨Or.inr h,h.2⟩
theorem Wj{a b:Sh}{l:List UInt8}(h:InS a l):InS (BW a b) l:=by
 unfold BW;rw [Eg h];simp only [Bool.false_eq_true,if_false];cases hb:AT b
 ·simp only [Bool.false_eq_true,if_false];obtain ⟨h1,h2,h3,h4,h5⟩:=h;have k1:=(FK a.B b.B);have k2:=(J8 a.E b.E);have k3:=k1.length_le;have k4:=k2.length_le;rw [G6] at k3;rw [F1] at k4;refine ⟨?_,?_,fun c hc=>(Pt rfl c).2 (Or.inl (h3 c hc)),k1.trans h4,k2.trans h5⟩
  ·show max (max (max 0 (min (AQ a) (AQ b))) ((bA (ES a.B b.B)).size:Int)) ((bA (Hv a.E b.E)).size:Int)≤_;rw [EH,EH];have:(a.b.size:Int)≤AQ a∧(a.e.size:Int)≤AQ a:=DQ;omega
  ·show _≤min (max (BE a) (BE b)) 200;have:BE a≤200:=(by unfold BE;omega);omega
 ·simpa using h

theorem Nk(n s:Int):Bg (Bg n s).1 (Bg n s).2=Bg n s:=by
 unfold Bg;by_cases h:Dz n s=true
 ·rw [if_pos h];simp [h]
 ·rw [if_neg h];simp
theorem OS(n s:Int):mu (Bg n s).1 (Bg n s).2=mu n s:=by
 unfold mu;rw [Nk]
structure Rg where
 ln:Int
 ls:Int
 hn:Int
 hs:Int
abbrev Rp(x:Rg):Array Value:=List.toArray [.int .i64 x.ln,.int .i64 x.ls,.int .i64 x.hn,.int .i64 x.hs]
abbrev Rq(x:Rg):Value:=.agg (Rp x)
def Rg.lo(r:Rg):Int:=mu r.ln r.ls
def Rg.hi(r:Rg):Int:=mu r.hn r.hs
def IBA:Rg:=⟨1,0,0,0⟩
def Rg.full:Rg:=⟨-1000000000000000,0,1000000000000000,0⟩
def BF(r:Rg):Bool:=decide (r.hi<r.lo)
def CI(r:Rg):Rg:=if BF r=true then IBA else ⟨(Bg r.ln r.ls).1,(Bg r.ln r.ls).2,(Bg r.hn r.hs).1,(Bg r.hn r.hs).2⟩
def BD(r:Rg)(n s:Int):Bool:=Dz n s&&decide (r.lo≤mu n s)&&decide (mu n s≤r.hi)
def CU(n s n' s':Int):Int × Int:=if mu n' s'<mu n s then (n',s') else (n,s)
def Bm(n s n' s':Int):Int × Int:=if mu n s<mu n' s' then (n',s') else (n,s)
theorem WS(n s n' s':Int):mu (CU n s n' s').1 (CU n s n' s').2=min (mu n s) (mu n' s'):=by
 unfold CU;split<;>simp only<;>omega
theorem Rk(n s n' s':Int):mu (Bm n s n' s').1 (Bm n s n' s').2=max (mu n s) (mu n' s'):=by
 unfold Bm;split<;>simp only<;>omega
def CiA(x y:Rg):Rg:=⟨(CU x.ln x.ls y.ln y.ls).1,(CU x.ln x.ls y.ln y.ls).2,(Bm x.hn x.hs y.hn y.hs).1,(Bm x.hn x.hs y.hn y.hs).2⟩
def DQA(x y:Rg):Rg:=⟨(Bm x.ln x.ls y.ln y.ls).1,(Bm x.ln x.ls y.ln y.ls).2,(CU x.hn x.hs y.hn y.hs).1,(CU x.hn x.hs y.hn y.hs).2⟩
def Cc(a b:Rg):Rg:=if BF (CI a)=true then CI b else if BF (CI b)=true then CI a else CiA (CI a) (CI b)
def NB(a b:Rg):Rg:=CI (DQA (CI a) (CI b))
def F5(a b:Rg):Bool:=BF a||(decide (b.lo≤a.lo)&&decide (a.hi≤b.hi))
theorem Fd(r:Rg):BF (CI r)=BF r:=by
 unfold CI;cases h:BF r
 ·rw [if_neg AC];unfold BF Rg.lo Rg.hi at h⊢;simp only;rw [OS,OS];exact h
 ·rw [if_pos rfl]
  decide
theorem G9{r:Rg}(h:BF r=false):(CI r).lo=r.lo∧(CI r).hi=r.hi:=by
 unfold CI;rw [h,if_neg AC];exact ⟨OS _ _,OS _ _⟩
theorem Ce{r:Rg}{n s:Int} : BD r n s=true↔Dz n s=true∧r.lo≤mu n s∧mu n s≤r.hi:=by
 unfold BD;simp only [Bool.and_eq_true,decide_eq_true_eq,and_assoc]
theorem Dw{r:Rg}(h:BF r=true)(n s:Int):BD r n s=false:=by
 rw [Bool.eq_false_iff];intro hc;rw [Ce] at hc;unfold BF at h;rw [decide_eq_true_eq] at h;omega
theorem Ww(x y:Rg):(CiA x y).lo=min x.lo y.lo∧(CiA x y).hi=max x.hi y.hi:=⟨WS _ _ _ _,Rk _ _ _ _⟩
def CQ(l h:Int):Int × Int:=if h<l then (1,0) else (l,h)
def Cb(a b:Int × Int):Int × Int:=if a.2<a.1 then CQ b.1 b.2 else if b.2<b.1 then a else (min a.1 b.1,max a.2 b.2)
def CZ(a b:Int × Int):Int × Int:=CQ (max a.1 b.1) (min a.2 b.2)
def inP(a:Int × Int)(n:Int):Prop:=a.1≤n∧n≤a.2
theorem Xl(l h n:Int):inP (CQ l h) n↔l≤n∧n≤h:=by
 unfold CQ inP;split<;>simp only<;>omega
theorem M2(a b:Int × Int)(n:Int):inP (CZ a b) n↔inP a n∧inP b n:=by
 unfold CZ;rw [Xl];unfold inP;omega

def CBA(y:Val):Prop:=y.cols=[]∧y.rows=[]∧y.s.size≤4294967296
theorem CV.flat{w:World}{S:NP}{d:Nat}{y:Val}(hy:CBA y)(hd:0<d):CV w S d y (En y none 0 none 0):=by
 obtain ⟨h1,h2,h3⟩:=hy;refine ⟨none,0,none,0,rfl,⟨hd,by rw [h1];exact Al,by rw [h2];exact Al⟩,RV.mk h3 (by rw [h1];exact Strs.nil) (by rw [h2];exact Rows.nil)⟩
theorem VL.flat{w:World}{S:NP}{d:Nat}(hd:0<d):∀ (ys:List Val),(∀ y∈ys,CBA y)→VL (CV w S d) (ys.flatMap fun y=>En y none 0 none 0) ys
 |[],_=>VL.nil _
 |y::ys,h=>by
  have h1:=VL.snoc (VL.nil (CV w S d)) (cs:=En y none 0 none 0) (y:=y) (CV.flat (w:=w) (S:=S) (h y List.mem_cons_self) hd).one.1 (CV.flat (h y List.mem_cons_self) hd);have h2:=VL.flat (w:=w) (S:=S) hd ys fun z hz=>h z (List.mem_cons_of_mem _ hz)
  simpa using h1.append h2
theorem Row.flat{w:World}{g t d:Nat}{cs:Array Value}{ys:List Val}(h:Blk w g t cs)(hc:cs.toList=ys.flatMap fun y=>En y none 0 none 0)(hy:∀ y∈ys,CBA y)(hd:0<d)(hl:ys.length≤4294967296):Row w (fun b=>b=g) d (some ⟨g,0,none⟩) ys:=by
 have h1:=h.rd;rw [hc] at h1;exact RVs.iff.2 ⟨hl,_,h1,VL.flat hd ys hy⟩
theorem Strs.of_blk{w:World}{g t:Nat}{cs:Array Value}{l:List BA}(h:Blk w g t cs)(hc:cs.toList=l.map Value.string)(hl:l.length≤4294967296)(hs:∀ s∈l,s.size≤4294967296):Strs w (fun b=>b=g) (some ⟨g,0,none⟩) l:=by
 have h1:=h.rd;rw [hc] at h1;exact ⟨h1,hl,hs⟩
def HkA(w:World)(t:Look)(e:Ending)(w':World):Prop:=∃ A c B e',e=.returned (.agg #[.string t.name,.slice A t.cols.length c,.slice B t.rows.length e'])∧(t.cols.length≤c∧t.rows.length≤e')∧RL w' (BO w) 1 t A B∧Ext w w'

theorem Fw(l:List BA)(A:OA)(ca:Nat)(w:World)(S:NP)(hA:Strs w S A l) :
  Cl 137 #[.slice A l.length ca] w (Ae w (decide l.Nodup)):=by
 have hal:=hA.2.1;have HA:=Hd hA;clear hA;have hmm:=@run_makeMap prog
 go_enter func137,ntmps137
 go_wp2;clear hmm;have HSET:=Hd (show SetIs (w.alloc (.map #[] 0)) w.heap.size [] from IHA w _)
 go_loopw [9] (fun i wr=>∃ (k:Nat) (ks:List BA),k≤l.length∧i=.I k∧Ext w wr∧SetIs wr w.heap.size ks∧ks.length≤k∧(ks.length=k↔(l.take k).Nodup)∧(∀ x,x∈ks↔x∈l.take k)) (fun i _=>l.length-(intOf i).toNat)
 case atStart=>exact ⟨0,[],AN,rfl,(Ext.refl w).alloc _,HSET.o,Al,AC,AC⟩
 case round =>
  clear HSET;obtain ⟨k,ks,hk,rfl,hext,hset,h1,h2,h3⟩:=hrel;obtain ⟨HE,HS,H2,H3⟩:=Hd4 hext hset h2 h3;clear h2 h3;by_cases hlt:k<l.length
  ·obtain ⟨b1,o1,rfl,z1,c1⟩:=(HA.o.keep (hext.kept S)).at_ hlt;obtain ⟨w',ks',hup,hset',hg',hks⟩:=hset.put l[k];obtain ⟨HS',HG',HKS⟩:=Hd3 hset' hg' hks;clear hset' hg' hks hext hset;go_wp2;go_roundw
   case rel =>
    have htk:l.take (k+1)=l.take k++[l[k]]:=List.take_succ_eq_append_getElem hlt;have hnd:(l.take (k+1)).Nodup↔(l.take k).Nodup∧l[k] ∉ l.take k:=by
     rw [htk,List.nodup_append];constructor
     ·rintro ⟨h1,_,h3⟩;exact ⟨h1,fun h=>h3 _ h _ AC rfl⟩
     ·rintro ⟨h1,h2⟩;exact ⟨h1,AC,fun a ha b hb e=>by simp at hb;subst hb;subst e;exact h2 ha⟩
    refine ⟨k+1,ks',AA,AE,HE.o.grown HG'.out (fun b hb=>GQ),HS'.out,?_,?_,fun x => ?_⟩
    ·rcases HKS.o with ⟨_,rfl⟩|⟨_,rfl⟩
     ·omega
     ·simp;omega
    ·rw [hnd,←H2.o,←H3.o]
     rcases HKS.o with ⟨hm,rfl⟩|⟨hn,rfl⟩
     ·constructor
      ·intro h;omega
      ·rintro ⟨_,h⟩;exact absurd hm h
     ·simp only [List.length_append,List.length_singleton];constructor
      ·intro h;exact ⟨AA,hn⟩
      ·rintro ⟨h,_⟩;omega
    ·rw [htk,List.mem_append,←H3.o]
     rcases HKS.o with ⟨hm,rfl⟩|⟨hn,rfl⟩
     ·constructor
      ·intro h;exact Or.inl h
      ·rintro (h|h)
       ·exact h
       ·simp at h;subst h;exact hm
     ·rw [List.mem_append]
   case measure=>simp [intOf];omega
  ·obtain rfl:k=l.length:=AA;have hlen:=hset.len 3;have hnd:=H2.o;rw [List.take_of_length_le (Al)] at hnd;have HND:=Hd hnd;clear hnd hext hset;go_wp2;go_ret;refine ⟨?_,HE.o⟩;by_cases hd:l.Nodup
   ·rw [decide_eq_true hd];have:=HND.o.2 hd;simp [this]
   ·rw [decide_eq_false hd];have:¬ks.length=l.length:=fun e=>hd (HND.o.1 e);simp;omega

def GEA(l:List Int)(v:Int):Int:=Gv (fun x=>decide (v=x)) l
theorem V0(A:OA)(c:Nat)(l:List Int)(v:Int)(w:World)(S:NP)(h:Ints w S A l) :
  Cl 203 #[.slice A l.length c,.I v] w (Bk w (GEA l v)):=by
 have hn:=h.2
 go_enter func203,ntmps203
 go_wp2
 go_loop [8] (fun i=>∃ k:Nat,k≤l.length∧i=.I k∧∀ j (h:j<l.length),j<k→(fun x=>decide (v=x)) l[j]=false) (fun i=>l.length-(intOf i).toNat)
 case atStart=>exact ⟨0,AN,rfl,AK⟩
 case round =>
  obtain ⟨k,hk,rfl,hall⟩:=hrel;have HA:=Hd hall;clear hall;by_cases hlt:k<l.length
  ·obtain ⟨b1,o1,rfl,z1,c1⟩:=h.at_ hlt;by_cases hv:v=l[k]
   ·have ht:(v==l[k])=true:=(by simp [hv]);have HV:=Hd (show decide (v=l[k])=true by simp [hv]);clear hv;go_wp2;go_ret;exact ⟨by unfold GEA;rw [EO hlt HA.o HV.o];rfl,rfl⟩
   ·have ht:(v==l[k])=false:=(by simp [hv]);have HV:=Hd (show decide (v=l[k])=false by simp [hv]);exact Ot
  ·go_wp2;go_ret;exact ⟨by unfold GEA;rw [GG (fun j hj=>HA.o j hj AA)];rfl,rfl⟩
def KC(l:List Int)(v:Int):Bool:=l.any fun x=>decide (v=x)
theorem FM(A:OA)(c:Nat)(l:List Int)(v:Int)(w:World)(S:NP)(h:Ints w S A l) :
  Cl 145 #[.slice A l.length c,.I v] w (SameB w (KC l v)):=by
 have H:=Hd h;clear h
 go_enter func145,ntmps145
 go_wp2_with (go_at_call 203;refine (V0 _ _ _ _ _ S H.o).mono ?_;rintro e w' ⟨rfl,rfl⟩)
 go_ret;exact ⟨by unfold KC;rw [←G5];rfl,rfl⟩
theorem JV(x:Int)(g:Nat)(A:OA)(c:Nat)(l:List Int)(w:World)(S:NP)(hb:w.cell? ⟨g,0,none⟩=some (.slice A l.length c))(h:Ints w S A l) :
  Cl 201 #[.I x,.pointer (some ⟨g,0,none⟩)] w (SameB w (!KC l x)):=by
 have H:=Hd h;clear h
 go_enter func201,ntmps201
 go_wp2_with (go_at_call 145;refine (FM _ _ _ _ _ S H.o).mono ?_;rintro e w' ⟨rfl,rfl⟩)
 go_ret;exact ⟨rfl,rfl⟩

theorem My(l m:List Int)(A B:OA)(c cb g:Nat)(w:World)(S T:NP)(hl:Ints w S A l)(hb:w.cell? ⟨g,0,none⟩=some (.slice B m.length cb))(h:Ints w T B m) :
  Cl 236 #[.slice A l.length c,.func (.func 201) #[] #[.pointer (some ⟨g,0,none⟩)]] w (Bk w (Gv (fun x => !KC m x) l)):=by
 have hn:=hl.2;have HB:=Hd hb;have HS:=Hd h;clear hb h
 go_enter func236,ntmps236
 go_wp2
 go_loop [8] (fun i=>∃ k:Nat,k≤l.length∧i=.I k∧∀ j (h:j<l.length),j<k→(fun x => !KC m x) l[j]=false) (fun i=>l.length-(intOf i).toNat)
 case atStart=>exact ⟨0,AN,rfl,AK⟩
 case round =>
  obtain ⟨k,hk,rfl,hall⟩:=hrel;have HA:=Hd hall;clear hall;by_cases hlt:k<l.length
  ·obtain ⟨b1,o1,rfl,z1,c1⟩:=hl.at_ hlt;cases hm:KC m l[k]
   ·have HM:=Hd hm;clear hm
    go_wp2_with (go_at_call 201;refine (JV _ g B cb m _ T HB.o HS.o).mono ?_;rintro e w' ⟨rfl,rfl⟩;rw [HM.o])
    exact Up
   ·have HM:=Hd hm;clear hm
    go_wp2_with (go_at_call 201;refine (JV _ g B cb m _ T HB.o HS.o).mono ?_;rintro e w' ⟨rfl,rfl⟩;rw [HM.o])
    exact OZ
  ·exact Ll
theorem Jw(l m:List Int)(A B:OA)(c cb g:Nat)(w:World)(S T:NP)(hl:Ints w S A l)(hb:w.cell? ⟨g,0,none⟩=some (.slice B m.length cb))(h:Ints w T B m) :
  Cl 200 #[.slice A l.length c,.func (.func 201) #[] #[.pointer (some ⟨g,0,none⟩)]] w (SameB w (l.any fun x => !KC m x)):=by
 obtain ⟨HB,HS,HL⟩:=Hd3 hb h hl;clear hb h hl
 go_enter func200,ntmps200
 go_wp2_with (go_at_call 236;refine (My _ m _ B _ cb g _ S T HL.o HB.o HS.o).mono ?_;rintro e w' ⟨rfl,rfl⟩)
 go_ret;exact ⟨by rw [←G5];rfl,rfl⟩
def MG(l m:List Int):Bool:=!(l.any fun x => !KC m x)
theorem VZ(l m:List Int)(A B:OA)(c cb:Nat)(w:World)(S T:NP)(hl:Ints w S A l)(h:Ints w T B m) :
  Cl 143 #[.slice A l.length c,.slice B m.length cb] w (Ae w (MG l m)):=by
 have HS:=Hd h;have HL:=Hd hl;clear h hl
 go_enter func143,ntmps143
 go_wp2_with fail
 refine (Jw l m A B c cb w.heap.size _ S T (HL.o.keep (Kept.alloc _ _ _)) ((Blk.new w 22 #[.slice B m.length cb]).cell rfl) (HS.o.keep (Kept.alloc _ _ _))).mono ?_;rintro e w' ⟨rfl,rfl⟩;go_wp2;go_ret;exact ⟨rfl,(Ext.refl w).alloc _⟩
theorem Rh(h:qP:=by
 rintro e w' ⟨rfl,hx⟩;have HX:=Hd hx;clear hx;go_wp2;go_ret;exact ⟨rfl,HX.o⟩):qP:=h
theorem Xs(l m:List Int)(A B:OA)(c cb g:Nat)(w:World)(S T:NP)(hl:Ints w S A l)(hb:w.cell? ⟨g,0,none⟩=some (.slice B m.length cb))(h:Ints w T B m) :
  Cl 142 #[.slice A l.length c,.pointer (some ⟨g,0,none⟩)] w (Ae w (MG l m)):=by
 have HS:=Hd h;have HL:=Hd hl;clear h hl
 go_enter func142,ntmps142
 go_wp2_with fail
 refine (VZ l m A B c cb _ S T HL.o HS.o).mono ?_;exact Rh
theorem XR(gs l:List Int)(A B:OA)(c cb g:Nat)(w:World)(S T:NP)(hl:Ints w S A l)(hb:w.cell? ⟨g,0,none⟩=some (.slice B gs.length cb))(h:Ints w T B gs)(hll:l.length=gs.length) :
  Cl 202 #[.slice A l.length c,.pointer (some ⟨g,0,none⟩)] w (Ae w (!Fr gs l)):=by
 obtain ⟨HS,HL,HLL⟩:=Hd3 h hl hll;clear h hl hll
 go_enter func202,ntmps202
 go_wp2_with fail
 refine (KI gs l B A cb c _ T S HS.o HL.o HLL.o).mono ?_;exact Rh

theorem ZQ(h:qP:=by
 refine ⟨k+1,by omega,by go_num,HX1.o,fun j h hj => ?_⟩;by_cases hjk:j=k
 ·subst hjk;exact HQ.o
 ·exact HA.o j h (by omega)):qP:=h
theorem Us(h:qP:=by
 have HQ:=Hd hq;clear hq;go_wp2;go_roundw
 case rel =>
  exact ZQ
 case measure=>simp [intOf];omega):qP:=h
theorem M6(ls:List (List Int))(m:List Int)(A B:OA)(c cb g:Nat)(w:World)(S T:NP)(hl:RIss w S A ls)(hb:w.cell? ⟨g,0,none⟩=some (.slice B m.length cb))(h:Ints w T B m) :
  Cl 199 #[.slice A ls.length c,.func (.func 142) #[] #[.pointer (some ⟨g,0,none⟩)]] w (DG w (Gv (fun l=>MG l m) ls)):=by
 have hn:=hl.1;obtain ⟨HB,HS,HLS⟩:=Hd3 hb h hl;clear hb h hl
 go_enter func199,ntmps199
 go_wp2
 go_loopw [8] (fun i wr=>∃ k:Nat,k≤ls.length∧i=.I k∧Ext w wr∧∀ j (h:j<ls.length),j<k→(fun l=>MG l m) ls[j]=false) (fun i _=>ls.length-(intOf i).toNat)
 case atStart=>exact ⟨0,AN,rfl,Ext.refl _,AK⟩
 case round =>
  obtain ⟨k,hk,rfl,hext,hall⟩:=hrel;have HA:=Hd hall;have HE:=Hd hext;clear hall;by_cases hlt:k<ls.length
  ·obtain ⟨b1,o1,B2,c2,rfl,z1,p0,hcp,hint⟩:=(HLS.o.keep (hext.kept S)).at_ hlt;have HINT:=Hd hint;clear hint hext
   go_wp2_with fail
   refine (Xs ls[k] m B2 B c2 cb g _ S T HINT.o (HE.o.cell HB.o) (HS.o.keep (HE.o.kept T))).mono ?_;rintro e w1 ⟨rfl,hx1⟩;have HX1:=Hd (HE.o.trans hx1);clear hx1;cases hq:(MG ls[k] m)
   ·exact Us
   ·have HF:=Hd (EO (p:=fun l=>MG l m) hlt HA.o hq);exact Lc
  ·have HF:=Hd (GG (p:=fun l=>MG l m) (l:=ls) (fun j h=>HA.o j h AA));exact FC
theorem ST(h:qP:=by
 rintro e w1 ⟨rfl,hx1⟩;have HX1:=Hd hx1;clear hx1;go_wp2;go_ret;exact ⟨by rw [←G5];rfl,HX1.o⟩):qP:=h
theorem Jh(ls:List (List Int))(m:List Int)(A B:OA)(c cb g:Nat)(w:World)(S T:NP)(hl:RIss w S A ls)(hb:w.cell? ⟨g,0,none⟩=some (.slice B m.length cb))(h:Ints w T B m) :
  Cl 141 #[.slice A ls.length c,.func (.func 142) #[] #[.pointer (some ⟨g,0,none⟩)]] w (Ae w (ls.any fun l=>MG l m)):=by
 obtain ⟨HB,HS,HLS⟩:=Hd3 hb h hl;clear hb h hl
 go_enter func141,ntmps141
 go_wp2_with fail
 refine (M6 ls m A B c cb g _ S T HLS.o HB.o HS.o).mono ?_;exact ST

theorem NF(ls:List (List Int))(m:List Int)(A B:OA)(c cb g:Nat)(w:World)(S T:NP)(hl:RIss w S A ls)(hb:w.cell? ⟨g,0,none⟩=some (.slice B m.length cb))(h:Ints w T B m)(hll:∀ l∈ls,l.length=m.length) :
  Cl 199 #[.slice A ls.length c,.func (.func 202) #[] #[.pointer (some ⟨g,0,none⟩)]] w (DG w (Gv (fun l => !Fr m l) ls)):=by
 have hn:=hl.1;obtain ⟨HB,HS,HLS,HLL⟩:=Hd4 hb h hl hll;clear hll hb h hl
 go_enter func199,ntmps199
 go_wp2
 go_loopw [8] (fun i wr=>∃ k:Nat,k≤ls.length∧i=.I k∧Ext w wr∧∀ j (h:j<ls.length),j<k→(fun l => !Fr m l) ls[j]=false) (fun i _=>ls.length-(intOf i).toNat)
 case atStart=>exact ⟨0,AN,rfl,Ext.refl _,AK⟩
 case round =>
  obtain ⟨k,hk,rfl,hext,hall⟩:=hrel;have HA:=Hd hall;have HE:=Hd hext;clear hall;by_cases hlt:k<ls.length
  ·obtain ⟨b1,o1,B2,c2,rfl,z1,p0,hcp,hint⟩:=(HLS.o.keep (hext.kept S)).at_ hlt;have HINT:=Hd hint;clear hint hext
   go_wp2_with fail
   refine (XR m ls[k] B2 B c2 cb g _ S T HINT.o (HE.o.cell HB.o) (HS.o.keep (HE.o.kept T)) (HLL.o _ (List.getElem_mem hlt))).mono ?_;rintro e w1 ⟨rfl,hx1⟩;have HX1:=Hd (HE.o.trans hx1);clear hx1;cases hq:(!Fr m ls[k])
   ·exact Us
   ·have HF:=Hd (EO (p:=fun l => !Fr m l) hlt HA.o hq);exact Lc
  ·have HF:=Hd (GG (p:=fun l => !Fr m l) (l:=ls) (fun j h=>HA.o j h AA));exact FC
theorem Jk(ls:List (List Int))(m:List Int)(A B:OA)(c cb g:Nat)(w:World)(S T:NP)(hl:RIss w S A ls)(hb:w.cell? ⟨g,0,none⟩=some (.slice B m.length cb))(h:Ints w T B m)(hll:∀ l∈ls,l.length=m.length) :
  Cl 141 #[.slice A ls.length c,.func (.func 202) #[] #[.pointer (some ⟨g,0,none⟩)]] w (Ae w (ls.any fun l => !Fr m l)):=by
 obtain ⟨HB,HS,HLS,HLL⟩:=Hd4 hb h hl hll;clear hll hb h hl
 go_enter func141,ntmps141
 go_wp2_with fail
 refine (NF ls m A B c cb g _ S T HLS.o HB.o HS.o HLL.o).mono ?_;exact ST

def Dd(cols:List BA)(set:List Int):List BA:=set.map fun c=>cols.getD c.toNat ⟨#[]⟩
theorem YH(cols:List BA)(set:List Int)(A B:OA)(ca cb:Nat)(w:World)(S T:NP)(hA:Strs w S A cols)(hB:Ints w T B set)(hr:∀ c∈set,0≤c∧c<(cols.length:Int)) :
  Cl 146 #[.slice A cols.length ca,.slice B set.length cb] w (CEA w (Dd cols set)):=by
 have hal:=hA.2.1;have hbl:=hB.2;obtain ⟨HA,HB,HR⟩:=Hd3 hA hB hr;clear hA hB hr;obtain ⟨cur,hmk,hcur⟩:=B2A tiS set.length AA AB;have HCUR:=Hd hcur;clear hcur;have hnl:(Dd cols set).length=set.length:=(by simp [Dd]);have HNL:=Hd hnl;have hns:∀ s∈Dd cols set,s.size≤4294967296:=by
  intro s hs;obtain ⟨c,hc,rfl⟩:=List.mem_map.1 hs;have:=HR.o c hc;rw [BM _ _ _ AA];exact HA.o.sz AA
 have HNS:=Hd hns;clear hnl hns
 go_enter func146,ntmps146
 go_wp2;clear hmk;have hst:OwnSs (w.alloc (.cells cur 9)) w.heap.size (some ⟨w.heap.size,0,none⟩) set.length ((Dd cols set).take 0):=by
  have:=ITA w 9 1 set.length cur Bd HCUR.o;exact ⟨by simpa using this,AC⟩
 have HST:=Hd hst;clear hst
 go_loopw [13,5] (fun i v wr=>∃ (m:Nat) (A':OA) (c':Nat),m≤set.length∧i=.I m∧v=.slice A' m c'∧Ext w wr∧OwnSs wr w.heap.size A' c' ((Dd cols set).take m)) (fun i _ _=>set.length-(intOf i).toNat)
 case atStart=>exact ⟨0,_,_,AN,rfl,rfl,(Ext.refl w).alloc _,HST.o⟩
 case round =>
  clear HST;obtain ⟨m,A',c',hm,rfl,rfl,hext,hown⟩:=hrel;have HE:=Hd hext;have HO:=Hd hown;clear hown;by_cases hlt:m<set.length
  ·obtain ⟨b1,o1,rfl,z1,c1⟩:=(HB.o.keep (hext.kept T)).at_ hlt;have hrm:=HR.o _ (List.getElem_mem hlt);obtain ⟨x,hx⟩:=Int.eq_ofNat_of_zero_le hrm.1;have hx2:x<cols.length:=AA;rw [hx] at c1;obtain ⟨b2,o2,rfl,z2,d1⟩:=(HA.o.keep (hext.kept S)).at_ hx2;have hval:(Dd cols set)[m]'(by rw [HNL.o];exact hlt)=cols[x]:=by
    simp only [Dd,List.getElem_map,hx];rw [Int.toNat_natCast,BM _ _ _ hx2]
   have HVAL:=Hd hval;have hlm:((Dd cols set).take m).length=m:=(by rw [List.length_take,HNL.o];omega);have hown:=(HO.o.ext ((Ext.refl wr).alloc (.cells #[.string cols[x]] 9))).1;rw [hlm] at hown;have HOWN:=Hd hown;have hszw:=HE.o.size;clear hval hlm hown hext hrm hx
   go_wp2_with (at_builtin;go_must (refine AL rfl (.tmp 17) (.tmp 22) rfl tiS rfl HOWN.o rfl (Blk.rd (Blk.new _ _ _)) rfl AP AA AB AI ?_);intro A4 c4 w4 hown4 hg4 hat4)
   go_roundw
   case rel =>
    refine ⟨m+1,A4,c4,AA,AE,rfl,Ext.grown (HE.o.alloc _) hg4 (fun b hb=>(HOWN.o.blk hb).1),?_,fun s hs=>HNS.o s (List.mem_of_mem_take hs)⟩;rw [List.take_succ_eq_append_getElem (by rw [HNL.o];exact hlt),HVAL.o,List.length_append,List.length_take,HNL.o,Nat.min_eq_left hm,List.map_append];exact hown4
   case measure=>simp [intOf];omega
  ·obtain rfl:m=set.length:=AA;have ho:=HO.o;rw [List.take_of_length_le (by rw [HNL.o];exact Al)] at ho;have HO2:=Hd ho;clear ho hext;go_wp2;go_ret;exact ⟨A',c',by rw [HNL.o];rfl,Own.cap HO2.o.1,HO2.o.strs (by rw [HNL.o];exact hbl) (fun b hb=>(Own.blk HO2.o.1 hb).1),HE.o⟩
end Go.Proofs.YtidacnalcdhckaaGreatDoor
