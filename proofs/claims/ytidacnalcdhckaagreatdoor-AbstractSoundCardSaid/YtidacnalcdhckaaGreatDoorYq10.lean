/- Lemmas. No conditions. -/
import Derived.Test.YtidacnalcdhckaaGreatDoorYq9
import Derived.Sort.Walk0
set_option maxRecDepth 100000
set_option maxHeartbeats 1000000
namespace Go.Proofs.YtidacnalcdhckaaGreatDoor
open Go Go.RowKit Tryz
variable {qP:Prop}

instance:DecidableEq Dep:=fun a b=>decidable_of_iff (a.frm=b.frm∧a.to=b.to) (by cases a;cases b;simp)
structure Abs where
 kinds:Int
 tx:Sh
 nu:Rg
 dl:Int
 dh:Int
 bo:Int
 rl:Int
 rh:Int
 cols:List BA
 deps:List Dep
 errs:Bool
abbrev Ap(x:Abs)(A:Option Addr)(c:Nat)(D:Option Addr)(e:Nat):Array Value:=List.toArray [.int .i64 x.kinds,.int .i64 x.tx.least,.int .i64 x.tx.most,.int .i64 x.tx.cls,.string x.tx.b,.string x.tx.e,.int .i64 x.nu.ln,.int .i64 x.nu.ls,.int .i64 x.nu.hn,.int .i64 x.nu.hs,.int .i64 x.dl,.int .i64 x.dh,.int .i64 x.bo,.int .i64 x.rl,.int .i64 x.rh,.slice A x.cols.length c,.slice D x.deps.length e,.bool x.errs]
abbrev Aq(x:Abs)(A:Option Addr)(c:Nat)(D:Option Addr)(e:Nat):Value:=.agg (Ap x A c D e)
def ddp{α:Type} [DecidableEq α](l:List α):List α:=l.foldl (fun r x=>if x∈r then r else r++[x]) []
theorem Fn{α:Type} [DecidableEq α](l:List α)(x:α):ddp (l++[x])=if x∈ddp l then ddp l else ddp l++[x]:=by
 unfold ddp;rw [List.foldl_append];rfl
theorem Eo{α:Type}{P:List α→Prop}(h0:P [])(h1:∀ l x,P l→P (l++[x]))(l:List α):P l:=by
 rw [←List.reverse_reverse l]
 induction l.reverse with
 |nil=>exact h0
 |cons x m ih =>
  rw [List.reverse_cons];exact h1 _ _ ih
theorem FJ{α:Type} [DecidableEq α](l:List α):∀ y,y∈ddp l↔y∈l:=by
 refine Eo (P:=fun l=>∀ y,y∈ddp l↔y∈l) ?_ ?_ l
 ·intro y;simp [ddp]
 ·intro l x ih y;rw [Fn];by_cases h:x∈ddp l
  ·rw [if_pos h,ih,List.mem_append,List.mem_singleton];constructor
   ·intro hy;exact Or.inl hy
   ·rintro (hy|rfl)
    ·exact hy
    ·exact (ih _).1 h
  ·rw [if_neg h,List.mem_append,List.mem_append,ih]
theorem GA{α:Type} [DecidableEq α](l:List α):(ddp l).Nodup:=by
 refine Eo (P:=fun l=>(ddp l).Nodup) ?_ ?_ l
 ·simp [ddp]
 ·intro l x ih;rw [Fn];by_cases h:x∈ddp l
  ·rw [if_pos h];exact ih
  ·rw [if_neg h,List.nodup_append];exact ⟨ih,Y3,fun a ha b hb=>by
    rw [List.mem_singleton] at hb;subst hb;rintro rfl;exact h ha⟩
theorem Kq{α:Type} [DecidableEq α](l:List α):l.Nodup→ddp l=l:=by
 refine Eo (P:=fun l=>l.Nodup→ddp l=l) ?_ ?_ l
 ·intro _;rfl
 ·intro l x ih h;rw [List.nodup_append] at h;obtain ⟨h1,_,h2⟩:=h;rw [Fn,ih h1,if_neg (fun hx=>h2 x hx x Y3 rfl)]
def DZ(p1 p2 p3 p4 p5:Bool):Int:=(if p1=true then 2 else 0)+(if p2=true then 4 else 0)+(if p3=true then 8 else 0)+(if p4=true then 16 else 0)+(if p5=true then 32 else 0)
theorem YJ(h:qP:=by
 cases p1<;>cases p2<;>cases p3<;>cases p4<;>cases p5<;>decide):qP:=h
theorem Rr(p1 p2 p3 p4 p5:Bool):bt (DZ p1 p2 p3 p4 p5) 1=p1∧bt (DZ p1 p2 p3 p4 p5) 2=p2∧bt (DZ p1 p2 p3 p4 p5) 3=p3∧bt (DZ p1 p2 p3 p4 p5) 4=p4∧bt (DZ p1 p2 p3 p4 p5) 5=p5:=by
 exact YJ
def B3(a:Abs):Int × Int:=Bj (a.dl,a.dh) (0,3652058)
def CE(a:Abs):Int × Int:=Bj (a.rl,a.rh) (0,100)
def boI(a:Abs):Int:=bits .and .i64 a.bo 3
def pT(a:Abs):Bool:=bt a.kinds 1&&!AI a.tx
def pN(a:Abs):Bool:=bt a.kinds 2&&!Ah a.nu
def pD(a:Abs):Bool:=bt a.kinds 3&&decide ((B3 a).1≤(B3 a).2)
def pB(a:Abs):Bool:=bt a.kinds 4&&decide (boI a≠0)
def pR(a:Abs):Bool:=bt a.kinds 5&&decide ((CE a).1≤(CE a).2)&&decide ((ddp a.cols).length≤8)&&(ddp a.cols).all BC
def AM(a:Abs):Abs where
 kinds:=DZ (pT a) (pN a) (pD a) (pB a) (pR a)
 tx:=if pT a=true then Aw a.tx a.tx else EwA
 nu:=if pN a=true then Bm a.nu a.nu else E4A
 dl:=if pD a=true then (B3 a).1 else 1
 dh:=if pD a=true then (B3 a).2 else 0
 bo:=if pB a=true then boI a else 0
 rl:=if pR a=true then (CE a).1 else 1
 rh:=if pR a=true then (CE a).2 else 0
 cols:=if pR a=true then AT (ddp a.cols) else []
 deps:=if pR a=true then ddp a.deps else []
 errs:=a.errs
def Gn(a:Abs):Bool:=decide ((AM a).kinds=0)&&!a.errs
def Ct(a:Abs)(v:Val):Bool:=decide (a.rl≤v.rows.length)&&decide ((v.rows.length:Int)≤a.rh)&&a.cols.all (AZ v.cols)&&a.deps.all fun d=>Al v.cols v.rows d.frm d.to
def Eq(a:Abs)(v:Val):Bool :=
 if v.kind=1 then bt a.kinds 1&&AQ a.tx v.s
 else if v.kind=2 then bt a.kinds 2&&Af a.nu v.dn v.ds
 else if v.kind=3 then bt a.kinds 3&&decide (a.dl≤v.n∧v.n≤a.dh)
 else if v.kind=4 then bt a.kinds 4&&bt a.bo v.n.toNat
 else bt a.kinds 5&&Ct a v
def AK(a:Abs)(v:Val):Bool:=Ae v&&if v.kind=0 then a.errs else Eq a v
theorem JW{a:Sh}(h:AI a=false)(l:List UInt8):InS (Aw a a) l↔InS a l:=by
 constructor
 ·unfold Aw;rw [h];simp only [Bool.false_eq_true,if_false];rintro ⟨h1,h2,h3,h4,h5⟩;have hL:AG (Sh.mk (min (AG a) (AG a)) (max (Ag a) (Ag a)) (bits .or .i64 (At a) (At a)) (bA (Cz a.B a.B)) (bA (FD a.E a.E)))=AG a:=by
   rw [FB,IE];show max (max (max 0 (min (AG a) (AG a))) ((bA a.B).size:Int)) ((bA a.E).size:Int)=AG a;rw [Cv,Cv,Ei,EA];unfold AG;omega
  have hM:Ag (Sh.mk (min (AG a) (AG a)) (max (Ag a) (Ag a)) (bits .or .i64 (At a) (At a)) (bA (Cz a.B a.B)) (bA (FD a.E a.E)))=Ag a:=by
   show min (max (Ag a) (Ag a)) 200=Ag a;unfold Ag;omega
  rw [hL] at h1;rw [hM] at h2;refine ⟨h1,h2,fun c hc => ?_,?_,?_⟩
  ·rcases (JQ (a:=a) (b:=a) rfl c).1 (h3 c hc) with h|h<;>exact h
  ·have:Cz a.B a.B <+: l:=h4;rw [FB] at this;exact this
  ·have:FD a.E a.E <:+ l:=h5;rw [IE] at this;exact this
 ·exact LI
theorem Gk{a:Sh}(h:AI a=false)(s:BA):AQ (Aw a a) s=AQ a s:=by
 rw [Bool.eq_iff_iff,Bn,Bn,JW h]
theorem I2{a:Sh}(h:AI a=true)(s:BA):AQ a s=false:=by
 rw [Bool.eq_false_iff];intro hc;exact (B9 a).1 h _ ((Bn a s).1 hc)
theorem OP{a:Rg}(h:Ah a=false)(n s:Int):Af (Bm a a) n s=Af a n s:=by
 unfold Bm;rw [DV,h];simp only [Bool.false_eq_true,if_false];rw [Bool.eq_iff_iff,BF,BF,(MS _ _).1,(MS _ _).2,(En h).1,(En h).2];constructor
 ·rintro ⟨h1,h2,h3⟩;exact ⟨h1,Y4,Y4⟩
 ·rintro ⟨h1,h2,h3⟩;exact ⟨h1,Y4,Y4⟩
theorem YN(i:Nat):bt 3 i=decide (i<2):=by
 rw [show (3:Int)=((3:Nat):Int) from rfl,R9 _ _ Y17];rw [show 3=2^2-1 from rfl,Nat.testBit_two_pow_sub_one]
theorem Le(a:Abs)(i:Nat):bt (boI a) i=(bt a.bo i&&decide (i<2)):=by
 unfold boI;rw [Ba,YN]
theorem PB(a:Abs):boI a=0↔bt a.bo 0=false∧bt a.bo 1=false:=by
 rw [G0 (show DK (boI a) from BY _ _ _)];constructor
 ·intro h;have h0:=h 0 Y4;have h1:=h 1 Y4
  change bt (boI a) 0=false at h0
  change bt (boI a) 1=false at h1
  rw [Le] at h0 h1;simp at h0 h1;exact ⟨h0,h1⟩
 ·rintro ⟨h0,h1⟩ i _;show bt (boI a) i=false;rw [Le]
  match i with
  |0=>simp [h0]
  |1=>simp [h1]
  |k+2=>simp
theorem Iw{cols:List BA}{rows:List (List Val)}(h:Ao cols rows=true):cols.length≤8∧rows.length≤100∧cols.Nodup∧(∀ c∈cols,BC c=true)∧∀ r∈rows,DS cols.length r=true:=by
 unfold Ao at h;rw [Bool.and_eq_true,Bool.and_eq_true,decide_eq_true_eq] at h;obtain ⟨⟨⟨h1,h2⟩,h3⟩,h4⟩:=h;rw [List.all_eq_true] at h3 h4;have h5:∀ i,i<cols.length→Dq cols i=true:=fun i hi=>h3 i Y34;refine ⟨h1,h2,?_,?_,h4⟩
 ·rw [List.nodup_iff_pairwise_ne,List.pairwise_iff_getElem];intro i j hi hj hij he;have h6:=h5 j hj;unfold Dq at h6;rw [Au _ _ _ hj,Bool.and_eq_true,Bool.not_eq_true'] at h6;have h7:AZ (cols.take j) cols[j]=true:=by
   rw [AV,List.mem_take_iff_getElem];exact ⟨i,Y4,he⟩
  rw [h7] at h6;cases h6.2
 ·intro c hc;obtain ⟨i,hi,rfl⟩:=List.mem_iff_getElem.1 hc;have h6:=h5 i hi;unfold Dq at h6;rw [Au _ _ _ hi,Bool.and_eq_true] at h6;exact h6.1
theorem Ih{v:Val}(h:Ae v=true)(hk:v.kind=5):Ao v.cols v.rows=true:=by
 unfold Ae at h;rw [if_pos hk,Bool.and_eq_true] at h;exact h.1
theorem CQ{v:Val}(h:Ae v=true):v.kind=0∨v.kind=1∨v.kind=2∨v.kind=3∨v.kind=4∨v.kind=5:=by
 unfold Ae at h;split at h
 ·omega
 ·unfold Aj at h
  repeat' split at h
  all_goals first|omega|cases h
theorem ON{v:Val}(h:Ae v=true)(hk:v.kind=3):0≤v.n∧v.n≤3652058:=by
 unfold Ae at h;rw [if_neg Y4] at h;unfold Aj at h;rw [if_neg Y4,if_neg Y4,if_neg Y4,if_pos hk] at h;simp at h;omega
theorem ES{v:Val}(h:Ae v=true)(hk:v.kind=4):v.n=0∨v.n=1:=by
 unfold Ae at h;rw [if_neg Y4] at h;unfold Aj at h;rw [if_neg Y4,if_neg Y4,if_neg Y4,if_neg Y4,if_pos hk] at h;simp at h;omega
theorem OT(a:Abs):bt (AM a).kinds 1=pT a∧bt (AM a).kinds 2=pN a∧bt (AM a).kinds 3=pD a∧bt (AM a).kinds 4=pB a∧bt (AM a).kinds 5=pR a:=Rr _ _ _ _ _
theorem Bb(a:Abs)(v:Val):AK (AM a) v=AK a v:=by
 unfold AK;cases hr:Ae v
 ·rfl
 ·rw [Bool.true_and,Bool.true_and];by_cases h0:v.kind=0
  ·rw [if_pos h0,if_pos h0];rfl
  ·rw [if_neg h0,if_neg h0];obtain ⟨b1,b2,b3,b4,b5⟩:=OT a;unfold Eq;rw [b1,b2,b3,b4,b5]
   rcases CQ hr with hk|hk|hk|hk|hk|hk
   ·omega
   ·rw [if_pos hk,if_pos hk];show (pT a&&AQ (if pT a=true then Aw a.tx a.tx else EwA) v.s)=_;cases hp:pT a
    ·rw [Bool.false_and];unfold pT at hp;cases hb:bt a.kinds 1
     ·rfl
     ·rw [hb,Bool.true_and,Bool.not_eq_false'] at hp;rw [Bool.true_and,I2 hp]
    ·rw [if_pos rfl,Bool.true_and];unfold pT at hp;rw [Bool.and_eq_true,Bool.not_eq_true'] at hp;rw [hp.1,Bool.true_and,Gk hp.2]
   ·rw [if_neg Y4,if_pos hk,if_neg Y4,if_pos hk];show (pN a&&Af (if pN a=true then Bm a.nu a.nu else E4A) v.dn v.ds)=_;cases hp:pN a
    ·rw [Bool.false_and];unfold pN at hp;cases hb:bt a.kinds 2
     ·rfl
     ·rw [hb,Bool.true_and,Bool.not_eq_false'] at hp;rw [Bool.true_and,CZ hp]
    ·rw [if_pos rfl,Bool.true_and];unfold pN at hp;rw [Bool.and_eq_true,Bool.not_eq_true'] at hp;rw [hp.1,Bool.true_and,OP hp.2]
   ·rw [if_neg Y4,if_neg Y4,if_pos hk,if_neg Y4,if_neg Y4,if_pos hk];show (pD a&&decide ((if pD a=true then (B3 a).1 else 1)≤v.n∧v.n≤(if pD a=true then (B3 a).2 else 0)))=_;have hd:=ON hr hk;have hm:=Gt (a.dl,a.dh) (0,3652058) v.n
    change inP (B3 a) v.n↔_ at hm
    unfold inP at hm;simp only at hm;cases hp:pD a
    ·rw [Bool.false_and];unfold pD at hp;cases hb:bt a.kinds 3
     ·rfl
     ·rw [hb,Bool.true_and,decide_eq_false_iff_not] at hp;rw [Bool.true_and,eq_comm,decide_eq_false_iff_not];omega
    ·rw [if_pos rfl,if_pos rfl,Bool.true_and];unfold pD at hp;rw [Bool.and_eq_true] at hp;rw [hp.1,Bool.true_and];rw [Bool.eq_iff_iff,decide_eq_true_eq,decide_eq_true_eq,hm];omega
   ·rw [if_neg Y4,if_neg Y4,if_neg Y4,if_pos hk,if_neg Y4,if_neg Y4,if_neg Y4,if_pos hk];show (pB a&&bt (if pB a=true then boI a else 0) v.n.toNat)=_;have hd:=ES hr hk;have hn:v.n.toNat<2:=Y4;cases hp:pB a
    ·rw [Bool.false_and];unfold pB at hp;cases hb:bt a.kinds 4
     ·rfl
     ·rw [hb,Bool.true_and,decide_eq_false_iff_not,ne_eq,Classical.not_not,PB] at hp;rw [Bool.true_and]
      rcases hd with hd|hd<;>rw [hd]
      ·exact hp.1.symm
      ·exact hp.2.symm
    ·rw [if_pos rfl,Bool.true_and];unfold pB at hp;rw [Bool.and_eq_true] at hp;rw [hp.1,Bool.true_and,Le,decide_eq_true hn,Bool.and_true]
   ·rw [if_neg Y4,if_neg Y4,if_neg Y4,if_neg Y4,if_neg Y4,if_neg Y4,if_neg Y4,if_neg Y4];obtain ⟨t1,t2,t3,t4,_⟩:=Iw (Ih hr hk);have hm:=Gt (a.rl,a.rh) (0,100) v.rows.length
    change inP (CE a) v.rows.length↔_ at hm
    unfold inP at hm;simp only at hm;cases hp:pR a
    ·rw [Bool.false_and,eq_comm];unfold pR at hp;cases hb:bt a.kinds 5
     ·rfl
     ·rw [Bool.true_and];rw [hb,Bool.true_and] at hp;cases ht:Ct a v
      ·rfl
      ·exfalso;unfold Ct at ht;simp only [Bool.and_eq_true,decide_eq_true_eq,List.all_eq_true] at ht;obtain ⟨⟨⟨h1,h2⟩,h3⟩,_⟩:=ht;have hsub:∀ x∈ddp a.cols,x∈v.cols:=fun x hx=>(AV _ _).1 (h3 x ((FJ _ _).1 hx));have hlen:=GE (GA a.cols) hsub;have hall:(ddp a.cols).all BC=true:=by
        rw [List.all_eq_true];exact fun x hx=>t4 x (hsub x hx)
       rw [hall,Bool.and_true,decide_eq_true (by omega:(ddp a.cols).length≤8),Bool.and_true,decide_eq_false_iff_not] at hp;omega
    ·rw [Bool.true_and];have hp':=hp;unfold pR at hp;simp only [Bool.and_eq_true,decide_eq_true_eq] at hp;rw [hp.1.1.1,Bool.true_and];unfold Ct AM;simp only [hp',if_true];rw [Bool.eq_iff_iff];simp only [Bool.and_eq_true,decide_eq_true_eq,List.all_eq_true];constructor
     ·rintro ⟨⟨⟨h1,h2⟩,h3⟩,h4⟩;have h5:=hm.1 ⟨h1,h2⟩;exact ⟨⟨⟨h5.1.1,h5.1.2⟩,fun x hx=>h3 x (C9.2 ((FJ _ _).2 hx))⟩,fun d hd=>h4 d ((FJ _ _).2 hd)⟩
     ·rintro ⟨⟨⟨h1,h2⟩,h3⟩,h4⟩;have h5:=hm.2 ⟨⟨h1,h2⟩,Y4,Y4⟩;exact ⟨⟨⟨h5.1,h5.2⟩,fun x hx=>h3 x ((FJ _ _).1 (C9.1 hx))⟩,fun d hd=>h4 d ((FJ _ _).1 hd)⟩

theorem AlA(h:qP:=by
 have ht:(l[k].toList==v.toList)=false:=Y22;exact Z56):qP:=h
theorem DF(A:OA)(c:Nat)(l:List BA)(v:BA)(w:World)(S:NP)(h:Strs w S A l) :
  Cl 111 #[.slice A l.length c,.string v] w (BK w (BM l v)):=by
 have hn:=h.2.1
 go_enter func111,ntmps111
 go_wp2
 go_loop [5] (fun i=>∃ k:Nat,k≤l.length∧i=.I k∧∀ j (h:j<l.length),j<k→l[j]≠v) (fun i=>l.length-(intOf i).toNat)
 case atStart=>exact ⟨0,AE,rfl,Y8⟩
 case round =>
  obtain ⟨k,hk,rfl,hall⟩:=hrel;have HA:=Hd hall;clear hall;by_cases hlt:k<l.length
  ·obtain ⟨b1,o1,rfl,z1,c1⟩:=h.at_ hlt;by_cases hv:l[k]=v
   ·have ht:(l[k].toList==v.toList)=true:=Y22;exact Z55
   ·exact AlA
  ·exact Z59

theorem JP(q:Nat)(cols:List BA)(rows:List (List Val))(A B:OA)(c e:Nat)(w:World)(S:NP)(_hcl:cols.length≤4294967296)(hB:Rows w S q B rows) :
  Cl 110 #[.slice A cols.length c,.slice B rows.length e] w (SameB w (Cu cols rows)):=by
 have hn:=hB.len;have HB:=Hd hB;clear hB
 go_enter func110,ntmps110
 go_wp2
 go_loop [5] (fun i=>∃ k:Nat,k≤rows.length∧i=.I k∧∀ j (h:j<rows.length),j<k→rows[j].length=cols.length) (fun i=>rows.length-(intOf i).toNat)
 case atStart=>exact ⟨0,AE,rfl,Y8⟩
 case round =>
  obtain ⟨k,hk,rfl,hall⟩:=hrel;have HA:=Hd hall;clear hall;by_cases hlt:k<rows.length
  ·obtain ⟨b1,o1,C1,e1,rfl,z1,c1,hce,hrow⟩:=HB.o.at_ hlt;have hrl:=hrow.len;clear hrow;by_cases hv:rows[k].length=cols.length
   ·have ht:(((rows[k].length:Nat):Int) != ((cols.length:Nat):Int))=false:=(by simp [hv]);exact Z56
   ·have ht:(((rows[k].length:Nat):Int) != ((cols.length:Nat):Int))=true:=Y16;have HV:=Hd hv;clear hv;go_wp2;go_ret;refine ⟨?_,rfl⟩;have hr:Cu cols rows=false:=Bg _ _ k hlt (by simp [HV.o]);rw [hr];rfl
  ·go_wp2;go_ret;refine ⟨?_,rfl⟩;have hr:Cu cols rows=true:=BX _ _ fun j hj=>by simp [HA.o j hj Y4]
   rw [hr];rfl

def Dk(x y:BA):Bool:=Op.bytesLess x.toList y.toList
theorem EP(x y:BA):Dk x y=true↔x.data.toList<y.data.toList:=by
 unfold Dk;rw [bytesLess_eq,decide_eq_true_iff,ByteArray.toList_eq,ByteArray.toList_eq]
theorem Wa{x y:BA}(h:x.data.toList=y.data.toList):x=y:=by
 cases x;cases y;simp at h;rw [h]
def Cy(s:BA):List BA→List BA
 |[]=>[s]
 |x::l=>if Dk x s=true then x::Cy s l else if x=s then x::l else s::x::l
def SS(l:List BA):Prop:=l.Pairwise fun a b=>a.data.toList<b.data.toList
theorem AxA(h:qP:=by
 rintro (h|h|h)
 ·exact .inr (.inl h)
 ·exact .inl h
 ·exact .inr (.inr h)):qP:=h
theorem Bu(s y:BA):∀ l:List BA,y∈Cy s l↔y=s∨y∈l
 |[]=>by simp [Cy]
 |x::l=>by
  have ih:=Bu s y l;unfold Cy;split
  ·rw [List.mem_cons,ih,List.mem_cons];constructor
   ·exact AxA
   ·exact AxA
  ·split
   ·rename_i hx;rw [List.mem_cons];constructor
    ·exact .inr
    ·rintro (h|h)
     ·exact .inl (h.trans hx.symm)
     ·exact h
   ·rw [List.mem_cons]
theorem SS.ins{l:List BA}(h:SS l)(s:BA):SS (Cy s l):=by
 induction l with
 |nil=>simp [SS,Cy]
 |cons x l ih =>
  have h1:=List.pairwise_cons.1 h;unfold Cy;split
  ·rename_i hlt;refine List.pairwise_cons.2 ⟨fun y hy => ?_,ih h1.2⟩
   rcases (Bu s y l).1 hy with rfl|hy
   ·exact (EP _ _).1 hlt
   ·exact h1.1 y hy
  ·rename_i hlt;split
   ·exact h
   ·rename_i hne;have hsx:s.data.toList<x.data.toList:=by
     have h3:¬x.data.toList<s.data.toList:=fun e=>hlt ((EP _ _).2 e);exact Std.lt_of_le_of_ne (List.not_lt.1 h3) (fun e=>hne (Wa e.symm))
    refine List.pairwise_cons.2 ⟨fun y hy => ?_,h⟩
    rcases List.mem_cons.1 hy with rfl|hy
    ·exact hsx
    ·exact List.lt_trans hsx (h1.1 y hy)
theorem SS.nodup{l:List BA}(h:SS l):l.Nodup:=by
 refine List.Pairwise.imp ?_ h;rintro a b hab rfl;exact List.lt_irrefl _ hab
theorem SS.sort{l:List BA}(h:SS l):AT l=l:=by
 unfold AT;rw [List.mergeSort_of_pairwise]
 ·rw [List.map_map];exact List.map_id _
 ·rw [List.pairwise_map];exact h.imp fun hab=>by simp only [decide_eq_true_eq];exact List.le_of_lt hab
theorem J8{s:BA} : ∀ {l:List BA} {k:Nat},k≤l.length→(∀ j (h:j<l.length),j<k→Dk l[j] s=true)→Cy s l=l.take k++Cy s (l.drop k)
 |l,0,_,_=>by simp
 |[],k+1,hk,_=>by simp at hk
 |x::l,k+1,hk,h=>by
  have h0:Dk x s=true:=h 0 Y3 Y4;have ih:=J8 (s:=s) (l:=l) (k:=k) (by simpa using hk) fun j hj hjk=>by
   have:=h (j+1) Y15 Y4
   simpa using this
  simp only [Cy,h0,if_true,List.take_succ_cons,List.drop_succ_cons,List.cons_append];rw [ih]
theorem If{s:BA}{l:List BA}{k:Nat}(hk:k<l.length)(h:∀ j (h:j<l.length),j<k→Dk l[j] s=true)(hn:Dk l[k] s=false):Cy s l=if l[k]=s then l else l.take k++s::l.drop k:=by
 rw [J8 (Nat.le_of_lt hk) h,List.drop_eq_getElem_cons hk,Cy,if_neg (by simp [hn])];split
 ·rw [←List.drop_eq_getElem_cons hk,List.take_append_drop]
 ·rfl
theorem Nl{s:BA}{l:List BA}(h:∀ j (h:j<l.length),j<l.length→Dk l[j] s=true):Cy s l=l++[s]:=by
 rw [J8 (AS) h,List.take_length,List.drop_length];rfl
/- The reference's Insert. Conditions: the list reads as data. -/

def OK(A:OA)(n c:Nat):Prop:=(A=none∧n=0∧c=0)∨∃ b o,A=some ⟨b,o,none⟩∧n≤c
theorem Own.ok{w:World}{base e sz n c:Nat}{A:OA}{xs:List Value}(h:Own w base e sz A n c xs):OK A n c:=by
 rcases h.2 with ⟨hv,hn⟩|⟨g,cap,cur,hv,_,_,hnc,_⟩
 ·injection hv with h1 _ h2;exact .inl ⟨h1,hn,h2⟩
 ·injection hv with h1 _ h2;exact .inr ⟨g,0,h1,by rw [h2];exact hnc⟩
def MH(B0:Nat)(w:World)(l:List BA)(e:Ending)(w':World):Prop:=∃ A' c',e=.returned (.slice A' l.length c')∧OK A' l.length c'∧Strs w' (fun b=>B0≤b) A' l∧Ext w w'
theorem Rd.drop{w:World}{S:NP}{b o:Nat}{xs:List Value}(h:Rd w S (some ⟨b,o,none⟩) xs)(k:Nat):Rd w S (some ⟨b,o+k,none⟩) (xs.drop k):=by
 rcases h with h|⟨b',o',hA,hS,hlt,hc⟩
 ·subst h;exact Or.inl Y3
 ·injection hA with hA;injection hA with h1 h2;subst h1;subst h2;refine Or.inr ⟨b,o+k,rfl,hS,hlt,fun j u hj => ?_⟩;rw [List.getElem?_drop] at hj;have:=hc _ u hj;rwa [←Nat.add_assoc] at this
theorem Strs.of_own{w:World}{base n c:Nat}{A:OA}{l:List BA}{xs:List Value}{B0:Nat}(h:Own w base 9 1 A n c xs)(hB0:B0≤base)(hx:xs=l.map Value.string)(hl:l.length≤4294967296)(hs:∀ s∈l,s.size≤4294967296):Strs w (fun b=>B0≤b) A l :=
 ⟨by rw [←hx];exact h.rd.mono fun b _ hb=>Nat.le_trans hB0 (h.blk hb).1,hl,hs⟩
theorem DI(l:List BA):∀ u∈l.map Value.string,u.oneCell'=true:=by
 intro u hu;obtain ⟨x,_,rfl⟩:=List.mem_map.1 hu;rfl
theorem Y60(h:qP:=by first|omega|(simp;done)|(simp;omega)):qP:=h
theorem Vd(h:qP:=by
 have HRN:=Hd (show ∀ B,Rd (w.alloc (.cells #[.string s] 9)) (fun _=>True) B [] from fun B=>Or.inl rfl)
 go_upto_region 7 with (at_builtin;go_must (refine AC rfl (.tmp 35) (.tmp 38) rfl tiS rfl HO1.o rfl (HRN.o _) Y3 Y3 Y4 Y17 Y3 ?_);intro A3 c3 w3 hown3 hg3 hat3)
 simp only [List.append_nil,Nat.add_zero,Nat.sub_self] at hown3;obtain ⟨HO3,HX3,HO4⟩:=Hd3 hown3 (Ext.grown (exaa w) hg3 (fun b hb=>(HO1.o.blk hb).1)) (show Own (w3.alloc (.cells #[] 9)) w3.heap.size 9 1 (some ⟨w3.heap.size,0,none⟩) 0 0 [] from World.ownsRow_made w3 #[] 0 (AS) Y14 rfl);have HR4:=Hd ((H.o.1.keep (HX3.o.kept _)).keep (Kept.alloc _ _ (.cells #[] 9)));clear hown3 hg3 hat3;have tok:True:=trivial
 go_wp2_with (first|(at_builtin;have _t:=tok;go_must (refine AC rfl (.tmp 40) (.tmp 43) rfl tiS rfl HO4.o rfl HR4.o Y3 (DI _) Y60 Y17 Y3 ?_);intro A4 c4 w4 hown4 hg4 hat4;simp only [Nat.zero_add,List.nil_append] at hown4;have HO44:=Hd hown4;have HX4:=Hd (Ext.grown (exaa w3) hg4 (fun b hb=>(HO4.o.blk hb).1));have HR5:=Hd ((HO3.o.rd.mono (T:=fun b=>b<w3.heap.size) fun b hb _=>hb).keep (HX4.o.kept _));have hsz4:=HX4.o.size;clear hown4 hg4 hat4 tok)|(at_builtin;go_must (refine AC rfl (.tmp 44) (.tmp 45) rfl tiS rfl HO44.o rfl HR5.o Y3 Y18 Y60 Y17 Y4 ?_);intro A5 c5 w5 hown5 hg5 hat5))
 go_ret;refine ⟨A5,c5,by rw [HI.o];simp,by rw [HI.o];simpa using hown5.ok,?_,(HX3.o.trans HX4.o).grown hg5 (fun b hb=>by have:=(HO44.o.blk hb).1;have:=HX3.o.size;omega)⟩;refine Strs.of_own hown5 (Nat.le_trans hB0 HX3.o.size) (by rw [HI.o];simp) (by rw [HI.o];first|(simp;done)|(simp;omega)) fun y hy => ?_
 rcases (Bu s y _).1 hy with rfl|hy
 ·exact hs
 ·exact HSZ.o y hy):qP:=h
theorem J4(A:OA)(c:Nat)(l:List BA)(s:BA)(w:World)(B0:Nat)(hB0:B0≤w.heap.size)(h:Strs w (fun b=>B0≤b) A l)(hok:OK A l.length c)(hs:s.size≤4294967296)(hl:l.length≤1000000) :
  Cl 223 #[.slice A l.length c,.string s] w (MH B0 w (Cy s l)):=by
 have hn:=h.2.1;obtain ⟨HSZ,H,HOK⟩:=Hd3 h.2.2 h hok;clear h hok
 go_enter func223,ntmps223
 go_wp2
 go_loop [5] (fun i=>∃ k:Nat,k≤l.length∧i=.I k∧∀ j (h:j<l.length),j<k→Dk l[j] s=true) (fun i=>l.length-(intOf i).toNat)
 case atStart=>exact ⟨0,AE,rfl,Y8⟩
 case round =>
  obtain ⟨k,hk,rfl,hall⟩:=hrel;have HA:=Hd hall;clear hall;by_cases hlt:k<l.length
  ·obtain ⟨b1,o1,rfl,z1,c1⟩:=H.o.at_ hlt;have hcap:l.length≤c:=by
    rcases HOK.o with ⟨h,_⟩|⟨_,_,_,h⟩
    ·cases h
    ·exact h
   cases hls:Dk l[k] s
   ·have ht1:Op.bytesLess l[k].toList s.toList=false:=hls;by_cases heq:l[k]=s
    ·have ht2:(l[k].toList==s.toList)=true:=(by rw [BH];simp [heq]);have HI:=Hd (show Cy s l=l by rw [If hlt HA.o hls,if_pos heq]);clear hls heq;go_wp2;go_ret;exact ⟨_,c,by rw [HI.o];rfl,by rw [HI.o];exact HOK.o,by rw [HI.o];exact H.o,Ext.refl w⟩
    ·have ht2:(l[k].toList==s.toList)=false:=(by rw [BH];simp [heq]);have HI:=Hd (show Cy s l=l.take k++s::l.drop k by rw [If hlt HA.o hls,if_neg heq]);clear hls heq;have HO1:=Hd (FBA (n:=1) (sz:=1) (base:=w.heap.size) (Blk.new w 9 #[.string s]) rfl Y14 (AS));have HR1:=Hd ((H.o.1.keep (Kept.alloc _ _ (.cells #[.string s] 9))).drop k);have hkc:k≤c:=Y4
     go_upto_region 7 with (at_builtin;go_must (refine AC rfl (.tmp 35) (.tmp 38) rfl tiS rfl HO1.o rfl HR1.o Y3 (fun u hu=>DI l u (List.mem_of_mem_drop hu)) Y4 Y17 Y3 ?_);intro A3 c3 w3 hown3 hg3 hat3)
     obtain ⟨HO3,HX3,HO4⟩:=Hd3 hown3 (Ext.grown (exaa w) hg3 (fun b hb=>(HO1.o.blk hb).1)) (show Own (w3.alloc (.cells #[] 9)) w3.heap.size 9 1 (some ⟨w3.heap.size,0,none⟩) 0 0 [] from World.ownsRow_made w3 #[] 0 (AS) Y14 rfl);have HR4:=Hd (((H.o.1.keep (HX3.o.kept _)).keep (Kept.alloc _ _ (.cells #[] 9))).take k);clear hown3 hg3 hat3;have hone:∀ u∈[Value.string s]++(l.map Value.string).drop k,u.oneCell'=true:=fun u hu=>by
      rcases List.mem_append.1 hu with hu|hu
      ·simp at hu;subst hu;rfl
      ·exact DI l u (List.mem_of_mem_drop hu)
     have HONE:=Hd hone;clear hone;have tok:True:=trivial
     go_wp2_with (first|(at_builtin;have _t:=tok;go_must (refine AC rfl (.tmp 40) (.tmp 43) rfl tiS rfl HO4.o rfl HR4.o Y16 (fun u hu=>DI l u (List.mem_of_mem_take hu)) Y4 Y17 Y3 ?_);intro A4 c4 w4 hown4 hg4 hat4;simp only [Nat.zero_add,List.nil_append] at hown4;have HO44:=Hd hown4;have HX4:=Hd (Ext.grown (exaa w3) hg4 (fun b hb=>(HO4.o.blk hb).1));have HR5:=Hd ((HO3.o.rd.mono (T:=fun b=>b<w3.heap.size) fun b hb _=>hb).keep (HX4.o.kept _));have hsz4:=HX4.o.size;clear hown4 hg4 hat4 tok)|(at_builtin;go_must (refine AC rfl (.tmp 44) (.tmp 45) rfl tiS rfl HO44.o rfl HR5.o Y16 HONE.o Y4 Y17 Y4 ?_);intro A5 c5 w5 hown5 hg5 hat5))
     go_ret;have hll:(Cy s l).length=k+(1+(l.length-k)):=(by rw [HI.o];simp;omega);refine ⟨A5,c5,by rw [hll];rfl,by rw [hll];exact hown5.ok,?_,(HX3.o.trans HX4.o).grown hg5 (fun b hb=>by have:=(HO44.o.blk hb).1;have:=HX3.o.size;omega)⟩;refine Strs.of_own hown5 (Nat.le_trans hB0 HX3.o.size) (by rw [HI.o];simp) (by rw [hll];omega) fun y hy => ?_
     rcases (Bu s y l).1 hy with rfl|hy
     ·exact hs
     ·exact HSZ.o y hy
   ·have ht1:Op.bytesLess l[k].toList s.toList=true:=hls;have HLS:=Hd hls;clear hls;go_wp2
    go_round
    case rel =>
     refine ⟨k+1,Y4,Y5,fun j h hj => ?_⟩;by_cases hjk:j=k
     ·subst hjk;exact HLS.o
     ·exact HA.o j h Y4
    case measure=>simp [intOf];omega
  ·obtain rfl:k=l.length:=Y4;have HI:=Hd (show Cy s l=l.take l.length++s::l.drop l.length by rw [Nl HA.o];simp);have HO1:=Hd (FBA (n:=1) (sz:=1) (base:=w.heap.size) (Blk.new w 9 #[.string s]) rfl Y14 (AS))
   rcases HOK.o with ⟨rfl,h0,rfl⟩|⟨b1,o1,rfl,hcap⟩
   ·have hl0:l=[]:=List.eq_nil_of_length_eq_zero h0;subst hl0;clear h0 hlt hk;exact Vd
   ·by_cases hcc:l.length<c
    ·have hc1:l.length≤c:=hcap;clear hcap hlt hk;exact Vd
    ·obtain rfl:c=l.length:=Y4;clear hcap hcc hlt hk;exact Vd
/- The reference's Closure: the ordered list of the least closed set. Conditions: the arguments read as data, and are few. -/

structure CR(l:List Dep)(frm out:List BA):Prop where
 sorted:SS out
 base:∀ x∈frm,x∈out
 least:∀ T:BA→Prop,(∀ x∈frm,T x)→(∀ d∈l,(∀ x∈d.frm,T x)→T d.to)→∀ x∈out,T x
def G8(l:List Dep)(out:List BA):Prop:=∀ d∈l,(∀ x∈d.frm,x∈out)→d.to∈out
theorem CR.len{l:List Dep}{frm out:List BA}(h:CR l frm out):out.length≤frm.length+l.length:=Part.len ⟨h.sorted.nodup,h.base,h.least⟩
theorem CR.ins{l:List Dep}{frm out:List BA}(h:CR l frm out){d:Dep}(hd:d∈l)(hf:∀ x∈d.frm,x∈out):CR l frm (Cy d.to out) :=
 ⟨h.sorted.ins _,fun x hx=>(Bu _ _ _).2 (.inr (h.base x hx)),fun T h1 h2 x hx=>by
  rcases (Bu _ _ _).1 hx with rfl|hx
  ·exact h2 d hd fun y hy=>h.least T h1 h2 y (hf y hy)
  ·exact h.least T h1 h2 x hx⟩
def Pd(l:List Dep)(out:List BA):Nat:=l.countP fun d=>AZ out d.to
theorem TR(l:List Dep)(out:List BA):Pd l out≤l.length:=List.countP_le_length
theorem LH{p q:Dep→Bool}(hle:∀ j,p j=true→q j=true){i:Dep}(hp:p i=false)(hq:q i=true):∀ l:List Dep,i∈l→l.countP p+1≤l.countP q
 |x::l,h=>by
  have mono:∀ l:List Dep,l.countP p≤l.countP q:=fun l=>List.countP_mono_left fun x _ hx=>hle x hx
  rcases List.mem_cons.1 h with rfl|h'
  ·rw [List.countP_cons_of_pos hq,List.countP_cons_of_neg (by simp [hp])];have:=mono l;omega
  ·have ih:=LH hle hp hq l h';by_cases hx:p x=true
   ·exact XO
   ·rw [List.countP_cons_of_neg hx];have:=List.countP_cons (p:=q) (a:=x) (l:=l);omega
theorem Oy{l:List Dep}{frm out0 out:List BA}{r:Nat}(h0:CR l frm out0)(h:CR l frm out)(hs:∀ x∈out0,x∈out)(hd:∀ d∈l,(∀ x∈d.frm,x∈out0)→d.to∈out)(hc:G8 l out0∨r≤Pd l out0):G8 l out∨r+1≤Pd l out:=by
 by_cases hcl:G8 l out0
 ·left;have hm:∀ x∈out,x∈out0:=h.least (·∈out0) h0.base hcl;exact fun d hd' hf=>hs _ (hcl d hd' fun x hx=>hm x (hf x hx))
 ·right;have hr:r≤Pd l out0:=hc.resolve_left hcl;obtain ⟨d,hdl,hf,hn⟩:∃ d,d∈l∧(∀ x∈d.frm,x∈out0)∧d.to ∉ out0:=by
   apply Classical.byContradiction;intro hno;exact hcl fun d hd' hf=>Classical.byContradiction fun hn=>hno ⟨d,hd',hf,hn⟩
  have:=LH (p:=fun d=>AZ out0 d.to) (q:=fun d=>AZ out d.to) (fun j hj=>(AV _ _).2 (hs _ ((AV _ _).1 hj))) (i:=d) (by rw [Bool.eq_false_iff];exact fun e=>hn ((AV _ _).1 e)) ((AV _ _).2 (hd d hdl hf)) l hdl;unfold Pd at hr⊢;omega
def A3A(w:World)(l:List Dep)(frm:List BA)(e:Ending)(w':World):Prop:=∃ out,IsClosure l frm out∧SS out∧MH w.heap.size w out e w'
theorem Nj(l:List Dep)(frm:List BA)(A B:OA)(ca cb:Nat)(w:World)(S T:NP)(hA:RDeps w S A l)(hB:Strs w T B frm)(hsm:frm.length+l.length≤100000) :
  Cl 179 #[.slice A l.length ca,.slice B frm.length cb] w (A3A w l frm):=by
 have HA:=Hd hA;have HB:=Hd hB;clear hA hB
 go_enter func179,ntmps179
 go_wp2
 go_loopw [6,5] (fun i v wr=>∃ (k:Nat) (A':OA) (c':Nat) (out:List BA),k≤frm.length∧i=.I k∧v=.slice A' out.length c'∧out.length≤k∧OK A' out.length c'∧Strs wr (fun b=>w.heap.size≤b) A' out∧Ext w wr∧SS out∧∀ x,x∈out↔x∈frm.take k) (fun i _ _=>frm.length-(intOf i).toNat)
 case atStart=>exact ⟨0,none,0,[],AE,rfl,rfl,AS,.inl ⟨rfl,rfl,rfl⟩,Strs.nil,Ext.refl _,by simp [SS],Y3⟩
 case round =>
  obtain ⟨k,A',c',out,hk,rfl,rfl,hol,hok,hst,hext,hss,hmem⟩:=hrel;obtain ⟨HOK,HST,HE,HSS,HME⟩:=Hd5 hok hst hext hss hmem;clear hok hst hext hss hmem;by_cases hlt:k<frm.length
  ·obtain ⟨b1,o1,hB1,z1,q1⟩:=(HB.o.keep (HE.o.kept _)).at_ hlt;subst hB1
   go_wp2_with fail
   refine (J4 A' c' out frm[k] _ w.heap.size HE.o.size HST.o HOK.o (HB.o.sz hlt) Y4).mono ?_;rintro e1 w1 ⟨A1,c1,rfl,hok1,hst1,hx1⟩;obtain ⟨HOK1,HST1,HX1⟩:=Hd3 hok1 hst1 hx1;clear hok1 hst1 hx1;go_wp2;go_roundw
   case rel =>
    have hss1:=HSS.o.ins frm[k];have hlen:(Cy frm[k] out).length≤k+1:=by
     have:=GE hss1.nodup (m:=frm[k]::out) fun y hy=>by rcases (Bu _ _ _).1 hy with rfl|hy;exact List.mem_cons_self;exact List.mem_cons_of_mem _ hy
     simp at this;omega
    refine ⟨k+1,A1,c1,Cy frm[k] out,Y4,Y5,rfl,hlen,HOK1.o,HST1.o,HE.o.trans HX1.o,hss1,fun x => ?_⟩;rw [Bu,HME.o,List.take_succ_eq_append_getElem hlt,List.mem_append,List.mem_singleton];exact or_comm
   case measure=>simp [intOf];omega
  ·have hcr:CR l frm out:=⟨HSS.o,fun x hx=>(HME.o x).2 (by rw [List.take_of_length_le Y4];exact hx),fun T h1 _ x hx=>h1 x (List.mem_of_mem_take ((HME.o x).1 hx))⟩;have HCR:=Hd hcr;clear hcr HSS HME hol;go_wp2
   go_loopw [7,5] (fun i v wr=>∃ (r:Nat) (A':OA) (c':Nat) (out:List BA),r≤l.length+1∧i=.I r∧v=.slice A' out.length c'∧OK A' out.length c'∧Strs wr (fun b=>w.heap.size≤b) A' out∧Ext w wr∧CR l frm out∧(G8 l out∨r≤Pd l out)) (fun i _ _=>l.length+1-(intOf i).toNat)
   case atStart=>exact ⟨0,A',c',out,AE,rfl,rfl,HOK.o,HST.o,HE.o,HCR.o,.inr (AE)⟩
   case round =>
    clear HOK HST HE HCR;obtain ⟨r,A',c',out0,hr,rfl,rfl,hok,hst,hext,hcr,hcl⟩:=hrel;obtain ⟨HOK,HST,HE,HCR,HCL⟩:=Hd5 hok hst hext hcr hcl;clear hok hst hext hcr hcl;by_cases hltr:r<l.length+1
    ·have hle:r≤l.length:=Y4;have hle2:decide (r≤l.length)=true:=(by simpa using hle);go_wp2;clear hle2
     go_loopw [8,5] (fun i v wr=>∃ (k:Nat) (A':OA) (c':Nat) (out:List BA),k≤l.length∧i=.I k∧v=.slice A' out.length c'∧OK A' out.length c'∧Strs wr (fun b=>w.heap.size≤b) A' out∧Ext w wr∧CR l frm out∧(∀ x∈out0,x∈out)∧∀ d∈l.take k,(∀ x∈d.frm,x∈out0)→d.to∈out) (fun i _ _=>l.length-(intOf i).toNat)
     case atStart=>exact ⟨0,A',c',out0,AE,rfl,rfl,HOK.o,HST.o,HE.o,HCR.o,fun _ h=>h,Y3⟩
     case round =>
      clear HOK HST HE;obtain ⟨k,A',c',out,hk,rfl,rfl,hok,hst,hext,hcr,hsub,hfd⟩:=hrel;obtain ⟨HOK,HST,HE,HCR1,HSUB,HFD⟩:=Hd6 hok hst hext hcr hsub hfd;clear hok hst hext hcr hsub hfd;by_cases hltk:k<l.length
      ·obtain ⟨b2,o2,B2,c2,hA2,z2,p1,p2,p3,p4,p5⟩:=(HA.o.keep (HE.o.kept _)).at_ hltk;subst hA2;have HP5:=Hd p5;have hfl2:=p5.2.1;clear p5;go_wp2
       go_loop [10,9] (fun i v=>∃ (j:Nat) (al:Bool),j≤l[k].frm.length∧i=.I j∧v=.bool al∧al=(l[k].frm.take j).all (AZ out)) (fun i _=>l[k].frm.length-(intOf i).toNat)
       case atStart=>exact ⟨0,true,AE,rfl,rfl,rfl⟩
       case round =>
        obtain ⟨j,al,hj,rfl,rfl,hal⟩:=hrel;have HAL:=Hd hal;clear hal;by_cases hltj:j<l[k].frm.length
        ·have htk:(l[k].frm.take (j+1)).all (AZ out)=(al&&AZ out l[k].frm[j]):=by
          rw [List.take_succ_eq_append_getElem hltj,List.all_append,←HAL.o];simp
         have HTK:=Hd htk;clear htk;cases al
         ·go_wp2
          go_round
          case rel=>exact ⟨j+1,false,Y4,Y5,rfl,by rw [HTK.o];rfl⟩
          case measure=>simp [intOf];omega
         ·obtain ⟨b3,o3,hB3,z3,q3⟩:=HP5.o.at_ hltj;subst hB3
          go_wp2_with fail
          refine (DF A' c' out l[k].frm[j] _ _ HST.o).mono ?_;rintro e1 w1 ⟨rfl,rfl⟩;go_wp2
          go_round
          case rel=>exact ⟨j+1,AZ out l[k].frm[j],Y4,Y5,rfl,by rw [HTK.o];rfl⟩
          case measure=>simp [intOf];omega
        ·have hall:al=l[k].frm.all (AZ out):=(by rw [HAL.o,List.take_of_length_le Y4]);have HALL:=Hd hall;clear hall HAL;cases al
         ·go_wp2;go_roundw
          case rel =>
           refine ⟨k+1,A',c',out,Y4,Y5,rfl,HOK.o,HST.o,HE.o,HCR1.o,HSUB.o,fun d hd hf => ?_⟩;rw [List.take_succ_eq_append_getElem hltk] at hd
           rcases List.mem_append.1 hd with hd|hd
           ·exact HFD.o d hd hf
           ·simp at hd;subst hd;have:l[k].frm.all (AZ out)=true:=List.all_eq_true.2 fun x hx=>(AV _ _).2 (HSUB.o x (hf x hx));rw [←HALL.o] at this;cases this
          case measure=>simp [intOf];omega
         ·have hin:∀ x∈l[k].frm,x∈out:=fun x hx=>(AV _ _).1 (List.all_eq_true.1 HALL.o.symm x hx);have HIN:=Hd hin;have hlo:=HCR1.o.len;clear hin
          go_wp2_with fail
          refine (J4 A' c' out l[k].to _ w.heap.size HE.o.size HST.o HOK.o p4 Y4).mono ?_;rintro e1 w1 ⟨A1,c1,rfl,hok1,hst1,hx1⟩;obtain ⟨HOK1,HST1,HX1⟩:=Hd3 hok1 hst1 hx1;clear hok1 hst1 hx1;go_wp2;go_roundw
          case rel =>
           refine ⟨k+1,A1,c1,Cy l[k].to out,Y4,Y5,rfl,HOK1.o,HST1.o,HE.o.trans HX1.o,HCR1.o.ins (List.getElem_mem hltk) HIN.o,fun x hx=>(Bu _ _ _).2 (.inr (HSUB.o x hx)),fun d hd hf => ?_⟩;rw [List.take_succ_eq_append_getElem hltk] at hd
           rcases List.mem_append.1 hd with hd|hd
           ·exact (Bu _ _ _).2 (.inr (HFD.o d hd hf))
           ·simp at hd;subst hd;exact (Bu _ _ _).2 (.inl rfl)
          case measure=>simp [intOf];omega
      ·have hst:=Oy HCR.o HCR1.o HSUB.o (fun d hd=>HFD.o d (by rw [List.take_of_length_le Y4];exact hd)) HCL.o;have HSTEP:=Hd hst;clear hst;go_wp2;go_roundw
       case rel=>exact ⟨r+1,A',c',out,Y4,Y5,rfl,HOK.o,HST.o,HE.o,HCR1.o,HSTEP.o⟩
       case measure=>simp [intOf];omega
    ·have hclo:G8 l out0:=HCL.o.resolve_right fun h=>by have:=TR l out0;omega
     have HCLO:=Hd hclo;clear hclo;go_wp2;go_ret;exact ⟨out0,⟨HCR.o.sorted.nodup,HCR.o.base,HCLO.o,HCR.o.least⟩,HCR.o.sorted,A',c',rfl,HOK.o,HST.o,HE.o⟩

noncomputable def Fd (l:List Dep) (frm:List BA) (x:BA):Bool:=@decide (∀ T:BA→Prop,(∀ y∈frm,T y)→(∀ d∈l,(∀ y∈d.frm,T y)→T d.to)→T x) (Classical.propDecidable _)
theorem Nw{l:List Dep}{frm ks:List BA}(h:IsClosure l frm ks)(x:BA):Fd l frm x=true↔x∈ks:=by
 unfold Fd;refine (@decide_eq_true_iff _ (Classical.propDecidable _)).trans ?_;exact ⟨fun hx=>hx (·∈ks) h.base h.closed,fun hx T h1 h2=>h.least T h1 h2 x hx⟩
theorem T9{l:List Dep}{frm ks:List BA}(h:IsClosure l frm ks)(x:BA):AZ ks x=Fd l frm x:=by
 rw [Bool.eq_iff_iff,Nw h,AV]
theorem SF{l:List Dep}{frm ks:List BA}(h:IsClosure l frm ks)(x:BA):AZ (AT ks) x=Fd l frm x:=by
 rw [Bool.eq_iff_iff,Nw h,AV,C9]
noncomputable def vMp (g:Nat) (l:List Dep) (frm:List BA) (x:BA) (A:OA) (ca:Nat) (C:OA) (cc:Nat):Nat→Value
 |0=>.slice A l.length ca
 |1=>.pointer (some ⟨g,0,none⟩)
 |2=>.slice C frm.length cc
 |4=>.pointer (some ⟨g,1,none⟩)
 |5=>.string x
 |6=>.bool (Fd l frm x)
 |7=>.bool (Fd l frm x)
 |_=>undef
def gMp(g:Nat)(l:List Dep)(frm:List BA)(x:BA)(A:OA)(ca:Nat)(C:OA)(cc:Nat)(ix:Nat)(vl:List Value)(γ:Gh)(w':World):Prop:=match vl with
 |[v]=>if ix=3 then (∃ (ks:List BA) (A':OA) (c':Nat),IsClosure l frm ks∧v=.slice A' (AT ks).length c'∧Strs w' (C4 γ) A' (AT ks)) else v=vMp g l frm x A ca C cc ix
 |_=>True
theorem YT(h:qP:=by
 simp only [if_pos h3] at h⊢;obtain ⟨ks,a,b,h0,h1,h2⟩:=h;exact ⟨ks,a,b,h0,h1,r.strs h2⟩):qP:=h
theorem Ut(g:Nat)(l:List Dep)(frm:List BA)(x:BA)(A:OA)(ca:Nat)(C:OA)(cc:Nat):∀ ix vl γ w γ' w',LR γ w γ' w'→gMp g l frm x A ca C cc ix vl γ w→gMp g l frm x A ca C cc ix vl γ' w':=by
 intro ix vl γ w γ' w' r h
 match vl,h with
 |[v],h =>
  unfold gMp at h⊢;by_cases h3:ix=3
  ·exact YT
  simp only [if_neg h3] at h⊢;exact h
 |[],_=>trivial
 |_::_::_,_=>trivial
theorem XP(h:qP:=by
 refine LinStep.yes fun vals γ w' ρ hR hN hp hρ hc hf hg=>⟨rfl,?_⟩;have e6:ρ (.tmp 6)=.pointer (some ⟨g,0,none⟩):=(hρ 6).trans (hp 1 Y17);have hx:=hR.drew_ext;have c0:=(HG.o.keep (hx.kept _)).q0;exact Me):qP:=h
theorem CSA(h:qP:=by
 refine LinStep.yes fun vals γ w' ρ hR hN hp hρ hc hf hg=>⟨rfl,?_⟩;have e9:ρ (.tmp 9)=.pointer (some ⟨g,1,none⟩):=(hρ 9).trans (hp 4 Y17);have hx:=hR.drew_ext;have c1:=(HG.o.keep (hx.kept _)).q1;exact Me):qP:=h
theorem AiA(h:qP:=by
 have HX:=Hd (HX1.o.trans hR.drew_ext);clear hR hG;simp only [AR,Act.put,List.setIfInBounds_toArray,List.set_cons_succ,List.set_cons_zero,Nat.zero_add,Nat.reduceAdd,hz];clear hz;exact Zw):qP:=h
theorem KJ(l:List Dep)(frm:List BA)(x:BA)(A C:OA)(ca cc:Nat)(w:World)(S T:NP)(hA:RDeps w S A l)(hC:Strs w T C frm)(hsm:frm.length+l.length≤100000) :
  Cl 162 #[.slice A l.length ca,.agg #[.slice C frm.length cc,.string x]] w (AO w (Fd l frm x)):=by
 obtain ⟨w1,hw1⟩:=eqx (w.alloc (.cells #[.slice C frm.length cc,.string x] 69));have hx1:Ext w w1:=(by rw [hw1];exact (Ext.refl _).alloc _);obtain ⟨HX1,HA,HC,HG,HW1⟩:=Hd5 hx1 (hA.keep (hx1.kept _)) (hC.keep (hx1.kept _)) (show Blk w1 w.heap.size 69 #[.slice C frm.length cc,.string x] by rw [hw1];exact Blk.new _ _ _) hw1;clear hA hC hx1 hw1
 go_enter func162,ntmps162
 go_upto_region 1 with fail
 rw [←HW1.o];obtain ⟨g,hg⟩:=eqx w.heap.size;rw [←hg] at HG;rw [←hg];clear HW1 hg;refine BB Y11 (fun i=>[i]) Y11 LR LR.refl LR.trans (LN (al0)) (gMp g l frm x A ca C cc) (Ut _ _ _ _ _ _ _ _) gh0 (LN.zero _) ⟨?_,?_,?_,?_,?_,?_,?_,?_,trivial⟩ ?_
 ·exact Lp
 ·exact Lp
 ·exact XP
 ·refine LinStep.yes fun vals γ w' ρ hR hN hp hρ hc hf hg=>⟨rfl,?_⟩;have e5:ρ (.tmp 5)=.slice A l.length ca:=(hρ 5).trans (hp 0 Y17);have e7:ρ (.tmp 7)=.slice C frm.length cc:=(hρ 7).trans (hp 2 Y17);have hx:=hR.drew_ext;have HR:=Hd hR;have HN:=Hd hN;clear hR hN hp hρ hx;go_light;go_simp;refine (KY l frm A C ca cc _ _ _ (HA.o.keep (HR.o.drew_ext.kept _)) (HC.o.keep (HR.o.drew_ext.kept _)) Y4).mono ?_;rintro e' w3 ⟨ks,hks,A3,c3,he,hc3,hs3,hx3⟩;refine ⟨_,he,γ,E8A γ hx3,fun _ _ _ h=>h,ks,A3,c3,hks,rfl,hs3.mono fun b _ hb => ?_⟩;rintro ⟨k',hk'⟩;have:=HR.o.inb0 k' _ hk';unfold Av at hb;omega
 ·exact Lp
 ·exact CSA
 ·refine LinStep.yes fun vals γ w' ρ hR hN hp hρ hc hf hg=>⟨rfl,?_⟩;obtain ⟨ks,A3,c3,hks,hv3,hs3⟩:=hp 3 Y17;have e8:ρ (.tmp 8)=_:=(hρ 8).trans hv3;have HKS:=Hd hks;have HS3:=Hd hs3;clear hks hv3 hs3;have e10:ρ (.tmp 10)=.string x:=(hρ 10).trans (hp 5 Y17);have hx:=hR.drew_ext;have HR:=Hd hR;have HN:=Hd hN;clear hR hN hp hρ hx;go_light;go_simp;refine (BU A3 c3 (AT ks) x _ _ HS3.o).mono ?_;rintro e' w3 ⟨he,rfl⟩;rw [SF HKS.o] at he;exact ⟨_,he,γ,LR.refl _ _,fun _ _ _ h=>h,rfl⟩
 ·exact Lp
 ·intro vals γ w' hR hG;have hz:vals 7=.bool (Fd l frm x):=hG 7 Y17;exact AiA
noncomputable def vMr (g:Nat) (l:List Dep) (frm:List BA) (x:BA) (A:OA) (ca:Nat) (C:OA) (cc:Nat):Nat→Value
 |0=>.slice A l.length ca
 |1=>.pointer (some ⟨g,0,none⟩)
 |2=>.slice C frm.length cc
 |4=>.pointer (some ⟨g,1,none⟩)
 |5=>.string x
 |7=>.bool (Fd l frm x)
 |8=>.bool (Fd l frm x)
 |_=>undef
def gMr(g:Nat)(l:List Dep)(frm:List BA)(x:BA)(A:OA)(ca:Nat)(C:OA)(cc:Nat)(ix:Nat)(vl:List Value)(γ:Gh)(w':World):Prop:=match vl with
 |[v]=>if ix=3 then (∃ (ks:List BA) (A':OA) (c':Nat),IsClosure l frm ks∧v=.slice A' ks.length c'∧Strs w' (C4 γ) A' ks) else if ix=6 then (∃ n:Int,v=.I n∧decide (0≤n)=Fd l frm x) else v=vMr g l frm x A ca C cc ix
 |_=>True
theorem Uw(g:Nat)(l:List Dep)(frm:List BA)(x:BA)(A:OA)(ca:Nat)(C:OA)(cc:Nat):∀ ix vl γ w γ' w',LR γ w γ' w'→gMr g l frm x A ca C cc ix vl γ w→gMr g l frm x A ca C cc ix vl γ' w':=by
 intro ix vl γ w γ' w' r h
 match vl,h with
 |[v],h =>
  unfold gMr at h⊢;by_cases h3:ix=3
  ·exact YT
  simp only [if_neg h3] at h⊢;by_cases h6:ix=6
  ·simp only [if_pos h6] at h⊢;exact h
  simp only [if_neg h6] at h⊢;exact h
 |[],_=>trivial
 |_::_::_,_=>trivial
theorem NA(l:List Dep)(frm:List BA)(x:BA)(A C:OA)(ca cc:Nat)(w:World)(S T:NP)(hA:RDeps w S A l)(hC:Strs w T C frm)(hsm:frm.length+l.length≤100000) :
  Cl 120 #[.slice A l.length ca,.agg #[.slice C frm.length cc,.string x]] w (AO w (Fd l frm x)):=by
 obtain ⟨w1,hw1⟩:=eqx (w.alloc (.cells #[.slice C frm.length cc,.string x] 69));have hx1:Ext w w1:=(by rw [hw1];exact (Ext.refl _).alloc _);obtain ⟨HX1,HA,HC,HG,HW1⟩:=Hd5 hx1 (hA.keep (hx1.kept _)) (hC.keep (hx1.kept _)) (show Blk w1 w.heap.size 69 #[.slice C frm.length cc,.string x] by rw [hw1];exact Blk.new _ _ _) hw1;clear hA hC hx1 hw1
 go_enter func120,ntmps120
 go_upto_region 1 with fail
 rw [←HW1.o];obtain ⟨g,hg⟩:=eqx w.heap.size;rw [←hg] at HG;rw [←hg];clear HW1 hg;refine BB Y11 (fun i=>[i]) Y11 LR LR.refl LR.trans (LN (al0)) (gMr g l frm x A ca C cc) (Uw _ _ _ _ _ _ _ _) gh0 (LN.zero _) ⟨?_,?_,?_,?_,?_,?_,?_,?_,?_,trivial⟩ ?_
 ·exact Lp
 ·exact Lp
 ·exact XP
 ·refine LinStep.yes fun vals γ w' ρ hR hN hp hρ hc hf hg=>⟨rfl,?_⟩;have e5:ρ (.tmp 5)=.slice A l.length ca:=(hρ 5).trans (hp 0 Y17);have e7:ρ (.tmp 7)=.slice C frm.length cc:=(hρ 7).trans (hp 2 Y17);have hx:=hR.drew_ext;have HR:=Hd hR;have HN:=Hd hN;clear hR hN hp hρ hx;go_light;go_simp;refine (Nj l frm A C ca cc _ _ _ (HA.o.keep (HR.o.drew_ext.kept _)) (HC.o.keep (HR.o.drew_ext.kept _)) Y4).mono ?_;rintro e' w3 ⟨ks,hks,hss,A3,c3,he,hok3,hs3,hx3⟩;refine ⟨_,he,γ,E8A γ hx3,fun _ _ _ h=>h,ks,A3,c3,hks,rfl,hs3.mono fun b _ hb => ?_⟩;rintro ⟨k',hk'⟩;have:=HR.o.inb0 k' _ hk';omega
 ·exact Lp
 ·exact CSA
 ·refine LinStep.yes fun vals γ w' ρ hR hN hp hρ hc hf hg=>⟨rfl,?_⟩;obtain ⟨ks,A3,c3,hks,hv3,hs3⟩:=hp 3 Y17;have e8:ρ (.tmp 8)=_:=(hρ 8).trans hv3;have HKS:=Hd hks;have HS3:=Hd hs3;clear hks hv3 hs3;have e10:ρ (.tmp 10)=.string x:=(hρ 10).trans (hp 5 Y17);have hx:=hR.drew_ext;have HR:=Hd hR;have HN:=Hd hN;clear hR hN hp hρ hx;go_light;go_simp;refine (DF A3 c3 ks x _ _ HS3.o).mono ?_;rintro e' w3 ⟨he,rfl⟩;exact ⟨_,he,γ,LR.refl _ _,fun _ _ _ h=>h,_,rfl,T9 HKS.o x⟩
 ·refine LinStep.yes fun vals γ w' ρ hR hN hp hρ hc hf hg=>⟨rfl,?_⟩;obtain ⟨n,hv6,hn⟩:=hp 6 Y17;have e11:ρ (.tmp 11)=_:=(hρ 11).trans hv6;have HNN:=Hd hn;clear hv6 hn;have hx:=hR.drew_ext;have HR:=Hd hR;have HN:=Hd hN;clear hR hN hp hρ hx;go_light;go_simp;exact ⟨γ,LR.refl _ _,fun _ _ _ h=>h,congrArg Value.bool HNN.o⟩
 ·exact Lp
 ·intro vals γ w' hR hG;have hz:vals 8=.bool (Fd l frm x):=hG 8 Y17;exact AiA

def DQ(a:Abs)(x:BA):Bool:=AZ a.cols x||a.deps.any fun d=>AZ d.frm x||decide (d.to=x)
noncomputable def KE (a:Abs) (d:Dep):Bool:=DQ a d.to&&d.frm.all (DQ a)&&Fd a.deps d.frm d.to
noncomputable def CJ (l:List Dep) (a:Abs):List Dep:=l.filter (KE a)
noncomputable def Cp (x y:Abs):List BA:=if bt x.kinds 5=false then y.cols else if bt y.kinds 5=false then x.cols else x.cols.filter (AZ y.cols)
noncomputable def An (x y:Abs):List Dep:=if bt x.kinds 5=false then y.deps else if bt y.kinds 5=false then x.deps else CJ x.deps y++CJ y.deps x
noncomputable def EJ (x y:Abs):Abs where
 kinds:=bits .or .i64 x.kinds y.kinds
 tx:=Aw x.tx y.tx
 nu:=Bm x.nu y.nu
 dl:=(Bl (x.dl,x.dh) (y.dl,y.dh)).1
 dh:=(Bl (x.dl,x.dh) (y.dl,y.dh)).2
 bo:=bits .or .i64 x.bo y.bo
 rl:=(Bl (x.rl,x.rh) (y.rl,y.rh)).1
 rh:=(Bl (x.rl,x.rh) (y.rl,y.rh)).2
 cols:=Cp x y
 deps:=An x y
 errs:=x.errs||y.errs
noncomputable def Do (a b:Abs):Abs:=AM (EJ (AM a) (AM b))
def FM(x y:Abs):Abs where
 kinds:=bits .and .i64 x.kinds y.kinds
 tx:=CN x.tx y.tx
 nu:=Hx x.nu y.nu
 dl:=(Bj (x.dl,x.dh) (y.dl,y.dh)).1
 dh:=(Bj (x.dl,x.dh) (y.dl,y.dh)).2
 bo:=bits .and .i64 x.bo y.bo
 rl:=(Bj (x.rl,x.rh) (y.rl,y.rh)).1
 rh:=(Bj (x.rl,x.rh) (y.rl,y.rh)).2
 cols:=x.cols++y.cols
 deps:=x.deps++y.deps
 errs:=x.errs&&y.errs
def EW(a b:Abs):Abs:=AM (FM (AM a) (AM b))
noncomputable def Lh (x y:Abs):Bool :=
 BZ x.kinds y.kinds&&(!x.errs||y.errs)&&(!bt x.kinds 1||Cc x.tx y.tx)&&(!bt x.kinds 2||EG x.nu y.nu) &&
  (!bt x.kinds 3||decide (y.dl≤x.dl∧x.dh≤y.dh))&&BZ x.bo y.bo &&
  (!bt x.kinds 5||(decide (y.rl≤x.rl∧x.rh≤y.rh)&&y.cols.all (AZ x.cols)&&decide ((CJ y.deps x).length=y.deps.length)))
noncomputable def F8 (a b:Abs):Bool:=Lh (AM a) (AM b)

theorem J3{a:Abs}{v:Val}(h:Ct a v=true){x:BA}(hx:DQ a x=true):x∈v.cols:=by
 unfold Ct at h;simp only [Bool.and_eq_true,List.all_eq_true] at h;obtain ⟨⟨_,h3⟩,h4⟩:=h;unfold DQ at hx;rw [Bool.or_eq_true,AV,List.any_eq_true] at hx
 rcases hx with hx|⟨d,hd,hx⟩
 ·exact (AV _ _).1 (h3 x hx)
 ·rw [Bool.or_eq_true,AV,decide_eq_true_eq] at hx;obtain ⟨k1,_,k2,_⟩:=Cx.1 (h4 d hd)
  rcases hx with hx|hx
  ·exact k2 x hx
  ·rw [←hx];exact k1
theorem OV{v:Val}(h:Ae v=true)(hk:v.kind=5):Cu v.cols v.rows=true:=by
 have h1:=(Iw (Ih h hk)).2.2.2.2;unfold Cu;rw [List.all_eq_true];intro r hr;have h2:=h1 r hr;unfold DS at h2;rw [Bool.and_eq_true] at h2;exact h2.1
theorem IT{a:Abs}{v:Val}(hr:Ae v=true)(hk:v.kind=5)(h:Ct a v=true){d:Dep}(hd:KE a d=true):Al v.cols v.rows d.frm d.to=true:=by
 unfold KE at hd;rw [Bool.and_eq_true,Bool.and_eq_true,List.all_eq_true] at hd;obtain ⟨⟨_,h2⟩,h3⟩:=hd;have hdeps:∀ e∈a.deps,Al v.cols v.rows e.frm e.to=true:=by
  unfold Ct at h;simp only [Bool.and_eq_true,List.all_eq_true] at h;exact h.2
 have hfrm:∀ x∈d.frm,x∈v.cols:=fun x hx=>J3 h (h2 x hx);have hreg:=OV hr hk;unfold Fd at h3;have h4:=(@decide_eq_true_iff _ (Classical.propDecidable _)).1 h3;refine h4 (fun x=>Al v.cols v.rows d.frm x=true) (fun x hx => ?_) (fun e he hf => ?_)
 ·exact Cx.2 ⟨hfrm x hx,hreg,hfrm,fun r _ o _ hf=>hf x hx⟩
 ·obtain ⟨k1,_,_,k4⟩:=Cx.1 (hdeps e he);refine Cx.2 ⟨k1,hreg,hfrm,fun r hr o ho hf1=>k4 r hr o ho fun f hf' => ?_⟩;exact (Cx.1 (hf f hf')).2.2.2 r hr o ho hf1
theorem EV{a:Abs}{v:Val}(h:AK a v=true):Ae v=true:=by
 unfold AK at h;rw [Bool.and_eq_true] at h;exact h.1
theorem CH{a:Abs}{v:Val}(hr:Ae v=true):AK a v=if v.kind=0 then a.errs else Eq a v:=by
 unfold AK;rw [hr,Bool.true_and]
theorem SU{x y:Abs}{v:Val}(hr:Ae v=true)(hk:v.kind=5)(h:(bt x.kinds 5=true∧Ct x v=true)∨(bt y.kinds 5=true∧Ct y v=true))(hx:bt x.kinds 5=false→x.rh<x.rl)(hy:bt y.kinds 5=false→y.rh<y.rl):Ct (EJ x y) v=true:=by
 have hrows:inP (Bl (x.rl,x.rh) (y.rl,y.rh)) v.rows.length:=by
  refine JV ?_
  rcases h with ⟨_,h⟩|⟨_,h⟩
  ·left;unfold Ct at h;simp only [Bool.and_eq_true,decide_eq_true_eq] at h;exact h.1.1
  ·right;unfold Ct at h;simp only [Bool.and_eq_true,decide_eq_true_eq] at h;exact h.1.1
 have hc:∀ c∈Cp x y,c∈v.cols:=by
  intro c hc;unfold Cp at hc
  rcases h with ⟨hb,h⟩|⟨hb,h⟩
  ·rw [hb] at hc;simp only [Bool.true_eq_false,if_false] at hc;refine J3 h ?_;unfold DQ;rw [Bool.or_eq_true,AV];left;split at hc
   ·exact hc
   ·exact (List.mem_filter.1 hc).1
  ·refine J3 h ?_;unfold DQ;rw [Bool.or_eq_true,AV];left;rw [hb] at hc;simp only [Bool.true_eq_false,if_false] at hc;split at hc
   ·exact hc
   ·exact (AV _ _).1 (List.mem_filter.1 hc).2
 have hd:∀ d∈An x y,Al v.cols v.rows d.frm d.to=true:=by
  intro d hd;unfold An at hd;have own:∀ {z:Abs},Ct z v=true→∀ e∈z.deps,Al v.cols v.rows e.frm e.to=true:=by
   intro z hz;unfold Ct at hz;simp only [Bool.and_eq_true,List.all_eq_true] at hz;exact hz.2
  rcases h with ⟨hb,h⟩|⟨hb,h⟩
  ·rw [hb] at hd;simp only [Bool.true_eq_false,if_false] at hd;split at hd
   ·exact own h d hd
   ·rw [List.mem_append] at hd
    rcases hd with hd|hd
    ·exact own h d (List.mem_filter.1 hd).1
    ·exact IT hr hk h (List.mem_filter.1 hd).2
  ·rw [hb] at hd;simp only [Bool.true_eq_false,if_false] at hd;split at hd
   ·exact own h d hd
   ·rw [List.mem_append] at hd
    rcases hd with hd|hd
    ·exact IT hr hk h (List.mem_filter.1 hd).2
    ·exact own h d (List.mem_filter.1 hd).1
 unfold Ct;simp only [Bool.and_eq_true,decide_eq_true_eq,List.all_eq_true];exact ⟨⟨hrows,fun c hc'=>(AV _ _).2 (hc c hc')⟩,hd⟩
theorem N4(a:Abs):bt (AM a).kinds 5=false→(AM a).rh<(AM a).rl:=by
 intro h;rw [(OT a).2.2.2.2] at h;unfold AM;simp [h]
theorem Hu(x y:Abs)(i:Nat):bt (EJ x y).kinds i=(bt x.kinds i||bt y.kinds i):=Js _ _ _
theorem Hf(x y:Abs)(i:Nat):bt (FM x y).kinds i=(bt x.kinds i&&bt y.kinds i):=Ba _ _ _
theorem KS{a b:Abs}{v:Val}(h:AK a v=true∨AK b v=true):AK (Do a b) v=true:=by
 unfold Do;rw [Bb];have hr:Ae v=true:=(by rcases h with h|h<;>exact EV h);rw [←Bb a,←Bb b,CH hr,CH hr] at h;have hx:=N4 a;have hy:=N4 b;generalize AM a=x at *;generalize AM b=y at *;rw [CH hr];by_cases h0:v.kind=0
 ·rw [if_pos h0] at h⊢;rw [if_pos h0] at h;show (x.errs||y.errs)=true;rw [Bool.or_eq_true];exact h
 ·rw [if_neg h0] at h⊢;rw [if_neg h0] at h;unfold Eq at h⊢;rw [Hu,Hu,Hu,Hu,Hu]
  rcases CQ hr with hk|hk|hk|hk|hk|hk
  ·omega
  ·rw [if_pos hk] at h⊢;rw [if_pos hk] at h;simp only [Bool.and_eq_true,Bool.or_eq_true,Bn] at h⊢
   rcases h with h|h
   ·exact ⟨Or.inl h.1,LI h.2⟩
   ·exact ⟨Or.inr h.1,O2 h.2⟩
  ·simp only [show ¬v.kind=1 by omega,hk,if_true,if_false,show ¬(2:Int)=1 by decide] at h⊢;simp only [Bool.and_eq_true,Bool.or_eq_true] at h⊢
   rcases h with h|h
   ·exact ⟨Or.inl h.1,M2 _ _ _ _ (Or.inl h.2)⟩
   ·exact ⟨Or.inr h.1,M2 _ _ _ _ (Or.inr h.2)⟩
  ·simp only [hk,if_true,if_false,show ¬(3:Int)=1 by decide,show ¬(3:Int)=2 by decide] at h⊢;simp only [Bool.and_eq_true,Bool.or_eq_true,decide_eq_true_eq] at h⊢
   rcases h with h|h
   ·exact ⟨Or.inl h.1,JV (a:=(x.dl,x.dh)) (b:=(y.dl,y.dh)) (Or.inl h.2)⟩
   ·exact ⟨Or.inr h.1,JV (a:=(x.dl,x.dh)) (b:=(y.dl,y.dh)) (Or.inr h.2)⟩
  ·simp only [hk,if_true,if_false,show ¬(4:Int)=1 by decide,show ¬(4:Int)=2 by decide,show ¬(4:Int)=3 by decide] at h⊢;have e:bt (EJ x y).bo v.n.toNat=(bt x.bo v.n.toNat||bt y.bo v.n.toNat):=Js _ _ _;rw [e];simp only [Bool.and_eq_true,Bool.or_eq_true] at h⊢
   rcases h with h|h
   ·exact ⟨Or.inl h.1,Or.inl h.2⟩
   ·exact ⟨Or.inr h.1,Or.inr h.2⟩
  ·simp only [hk,if_false,show ¬(5:Int)=1 by decide,show ¬(5:Int)=2 by decide,show ¬(5:Int)=3 by decide,show ¬(5:Int)=4 by decide] at h⊢;rw [Bool.and_eq_true,Bool.and_eq_true] at h;rw [Bool.and_eq_true,Bool.or_eq_true];exact ⟨by rcases h with h|h;exact Or.inl h.1;exact Or.inr h.1,SU hr hk h hx hy⟩
theorem Km(a b:Abs)(v:Val):AK (EW a b) v=(AK a v&&AK b v):=by
 unfold EW;rw [Bb,←Bb a,←Bb b];generalize AM a=x;generalize AM b=y;unfold AK;cases hr:Ae v
 ·rfl
 ·simp only [Bool.true_and];by_cases h0:v.kind=0
  ·rw [if_pos h0,if_pos h0,if_pos h0];rfl
  ·rw [if_neg h0,if_neg h0,if_neg h0];unfold Eq;rw [Hf,Hf,Hf,Hf,Hf];rw [Bool.eq_iff_iff]
   rcases CQ hr with hk|hk|hk|hk|hk|hk
   ·omega
   ·simp only [hk,if_true,Bool.and_eq_true,Bn];have:=T6 x.tx y.tx v.s.data.toList
    change (_∧InS (CN x.tx y.tx) _)↔_
    rw [this];exact and_and_and_comm
   ·simp only [hk,if_true,if_false,show ¬(2:Int)=1 by decide,Bool.and_eq_true]
    change (_∧Af (Hx x.nu y.nu) _ _=true)↔_
    rw [Pn];exact and_and_and_comm
   ·simp only [hk,if_true,if_false,show ¬(3:Int)=1 by decide,show ¬(3:Int)=2 by decide,Bool.and_eq_true,decide_eq_true_eq];have:=Gt (x.dl,x.dh) (y.dl,y.dh) v.n
    change (_∧inP (Bj (x.dl,x.dh) (y.dl,y.dh)) v.n)↔_
    rw [this];exact and_and_and_comm
   ·simp only [hk,if_true,if_false,show ¬(4:Int)=1 by decide,show ¬(4:Int)=2 by decide,show ¬(4:Int)=3 by decide];have e:bt (FM x y).bo v.n.toNat=(bt x.bo v.n.toNat&&bt y.bo v.n.toNat):=Ba _ _ _;rw [e];simp only [Bool.and_eq_true];exact and_and_and_comm
   ·simp only [hk,if_false,show ¬(5:Int)=1 by decide,show ¬(5:Int)=2 by decide,show ¬(5:Int)=3 by decide,show ¬(5:Int)=4 by decide,Bool.and_eq_true];have:Ct (FM x y) v=true↔Ct x v=true∧Ct y v=true:=by
     unfold Ct;simp only [Bool.and_eq_true,decide_eq_true_eq,List.all_eq_true];have hm:=Gt (x.rl,x.rh) (y.rl,y.rh) v.rows.length
     change ((inP (Bj (x.rl,x.rh) (y.rl,y.rh)) v.rows.length∧∀ c∈x.cols++y.cols,_)∧∀ d∈x.deps++y.deps,_)↔_
     rw [hm];simp only [List.mem_append,or_imp,forall_and];unfold inP;constructor
     ·rintro ⟨⟨⟨h1,h2⟩,h3,h4⟩,h5,h6⟩;exact ⟨⟨⟨h1,h3⟩,h5⟩,⟨h2,h4⟩,h6⟩
     ·rintro ⟨⟨⟨h1,h3⟩,h5⟩,⟨h2,h4⟩,h6⟩;exact ⟨⟨⟨h1,h2⟩,h3,h4⟩,h5,h6⟩
    rw [this];exact and_and_and_comm
theorem Oq{α:Type}{p:α→Bool}{l:List α}(h:(l.filter p).length=l.length):∀ x∈l,p x=true:=by
 have:=List.filter_sublist (p:=p) (l:=l);have h1:=this.eq_of_length h;intro x hx;rw [←h1] at hx;exact (List.mem_filter.1 hx).2
theorem I5{a b:Abs}(h:F8 a b=true){v:Val}(hc:AK a v=true):AK b v=true:=by
 have hr:=EV hc;unfold F8 at h;rw [←Bb a,CH hr] at hc;rw [←Bb b,CH hr];generalize AM a=x at *;generalize AM b=y at *;unfold Lh at h;simp only [Bool.and_eq_true,Bool.or_eq_true,Bool.not_eq_true',decide_eq_true_eq] at h;obtain ⟨⟨⟨⟨⟨⟨h1,h2⟩,h3⟩,h4⟩,h5⟩,h6⟩,h7⟩:=h;rw [FI] at h1 h6;by_cases h0:v.kind=0
 ·rw [if_pos h0] at hc⊢
  rcases h2 with h2|h2
  ·rw [h2] at hc;cases hc
  ·exact h2
 ·rw [if_neg h0] at hc⊢;unfold Eq at hc⊢
  rcases CQ hr with hk|hk|hk|hk|hk|hk
  ·omega
  ·simp only [hk,if_true,Bool.and_eq_true,Bn] at hc⊢;refine ⟨h1 1 Y4 hc.1,?_⟩
   rcases h3 with h3|h3
   ·rw [h3] at hc;cases hc.1
   ·exact Pr h3 hc.2
  ·simp only [hk,if_true,if_false,show ¬(2:Int)=1 by decide,Bool.and_eq_true] at hc⊢;refine ⟨h1 2 Y4 hc.1,?_⟩
   rcases h4 with h4|h4
   ·rw [h4] at hc;cases hc.1
   ·exact On h4 hc.2
  ·simp only [hk,if_true,if_false,show ¬(3:Int)=1 by decide,show ¬(3:Int)=2 by decide,Bool.and_eq_true,decide_eq_true_eq] at hc⊢;refine ⟨h1 3 Y4 hc.1,?_⟩
   rcases h5 with h5|h5
   ·rw [h5] at hc;cases hc.1
   ·omega
  ·simp only [hk,if_true,if_false,show ¬(4:Int)=1 by decide,show ¬(4:Int)=2 by decide,show ¬(4:Int)=3 by decide,Bool.and_eq_true] at hc⊢;refine ⟨h1 4 Y4 hc.1,h6 _ ?_ hc.2⟩;have:=ES hr hk;omega
  ·simp only [hk,if_false,show ¬(5:Int)=1 by decide,show ¬(5:Int)=2 by decide,show ¬(5:Int)=3 by decide,show ¬(5:Int)=4 by decide,Bool.and_eq_true] at hc⊢;refine ⟨h1 5 Y4 hc.1,?_⟩
   rcases h7 with h7|h7
   ·rw [h7] at hc;cases hc.1
   ·obtain ⟨⟨k1,k2⟩,k3⟩:=h7;have k4:=Oq k3;have ht:=hc.2;unfold Ct;simp only [Bool.and_eq_true,decide_eq_true_eq,List.all_eq_true] at k2⊢;have ht':=ht;unfold Ct at ht';simp only [Bool.and_eq_true,decide_eq_true_eq,List.all_eq_true] at ht';refine ⟨⟨⟨Y4,Y4⟩,fun c hc'=>ht'.1.2 c ((AV _ _).1 (k2 c hc'))⟩,fun d hd=>IT hr hk ht (k4 d hd)⟩
theorem Jy{a:Abs}(h:Gn a=true)(v:Val):AK a v=false:=by
 rw [←Bb,Bool.eq_false_iff];intro hc;have hr:=EV hc;rw [CH hr] at hc;unfold Gn at h;rw [Bool.and_eq_true,decide_eq_true_eq,Bool.not_eq_true'] at h;obtain ⟨h1,h2⟩:=h;by_cases h0:v.kind=0
 ·rw [if_pos h0] at hc
  change a.errs=true at hc
  rw [h2] at hc;cases hc
 ·rw [if_neg h0] at hc;unfold Eq at hc;rw [h1] at hc;simp only [Gw,Bool.false_and] at hc
  repeat' split at hc
  all_goals cases hc
end Go.Proofs.YtidacnalcdhckaaGreatDoor
