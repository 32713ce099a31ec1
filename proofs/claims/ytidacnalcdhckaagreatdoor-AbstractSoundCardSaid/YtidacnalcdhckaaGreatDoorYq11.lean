/- Lemmas. No conditions. -/
import Derived.Test.YtidacnalcdhckaaGreatDoorYq10
import Derived.Sort.Walk0
set_option maxRecDepth 100000
set_option maxHeartbeats 2000000
namespace Go.Proofs.YtidacnalcdhckaaGreatDoor
open Go Go.RowKit Tryz
variable {qP:Prop}

theorem Tp{x:Int}(h:DK x):bits .or .i64 x x=x:=CT (BY _ _ _) h fun i _=>by rw [Js,Bool.or_self]
theorem P6{x:Int}(h:DK x):bits .and .i64 x x=x:=CT (BY _ _ _) h fun i _=>by rw [Ba,Bool.and_self]
theorem Sg(p1 p2 p3 p4 p5:Bool):DK (DZ p1 p2 p3 p4 p5):=by
 unfold DK;exact YJ
structure CanT(x:Sh):Prop where
 ne:AI x=false
 least:x.least=AG x
 most:x.most=Ag x
 cls:At x=x.cls
 wf:DK x.cls
theorem CGA(a:Sh):bA a.B=a.b:=Et _
theorem EAA(a:Sh):bA a.E=a.e:=Et _
theorem Nt{a:Sh}(h:AI a=false):Aw a a=⟨AG a,Ag a,At a,a.b,a.e⟩:=by
 unfold Aw;rw [h];simp only [Bool.false_eq_true,if_false];rw [FB,IE,CGA,EAA,Tp (show DK (At a) from BY _ _ _),Int.min_self,Int.max_self]
theorem Tr(a:Sh){x:Sh}(h:x.cls=At a):At x=At a:=by
 unfold At at h⊢;rw [h];refine CT (BY _ _ _) (BY _ _ _) fun i _ => ?_;rw [Ba,Ba,Bool.and_assoc,Bool.and_self]
theorem P8{a:Sh}(h:AI a=false):CanT (Aw a a):=by
 have hne:AI (Aw a a)=false:=by
  obtain ⟨l,hl⟩:∃ l,InS a l:=by
   refine Classical.byContradiction fun hn => ?_;rw [(B9 a).2 fun l hl=>hn ⟨l,hl⟩] at h;cases h
  exact DE ((JW h l).2 hl)
 rw [Nt h] at hne⊢;have hL:(a.b.size:Int)≤AG a∧(a.e.size:Int)≤AG a∧0≤AG a:=Y58;have hM:Ag a≤200:=Y59;refine ⟨hne,?_,?_,Tr a (x:=⟨AG a,Ag a,At a,a.b,a.e⟩) rfl,(show DK (At a) from BY .and a.cls 110)⟩
 ·show AG a=max (max (max 0 (AG a)) (a.b.size:Int)) (a.e.size:Int);omega
 ·show Ag a=min (Ag a) 200;omega
theorem CanT.join{x:Sh}(h:CanT x):Aw x x=x:=by
 rw [Nt h.ne,←h.least,←h.most,h.cls]
theorem CanT.meet{x:Sh}(h:CanT x):CN x x=x:=by
 have hm:Bh x x=x:=by
  unfold Bh;rw [Int.max_self,Int.min_self,←h.least,←h.most,h.cls,P6 h.wf,if_neg (Nat.lt_irrefl _),if_neg (Nat.lt_irrefl _)]
 unfold CN;rw [if_neg (by rw [h.ne];simp),hm,if_pos];refine ⟨?_,?_,?_,?_,h.ne⟩
 ·rw [Dm];exact List.prefix_refl _
 ·rw [Dm];exact List.prefix_refl _
 ·rw [Dl];exact List.suffix_refl _
 ·rw [Dl];exact List.suffix_refl _
structure CanI(x:Rg):Prop where
 ne:Ah x=false
 low:BG x.ln x.ls=(x.ln,x.ls)
 high:BG x.hn x.hs=(x.hn,x.hs)
theorem CanI.norm{x:Rg}(h:CanI x):BV x=x:=by
 unfold BV;rw [h.ne,if_neg Y3,h.low,h.high]
theorem QY(x:Rg):Pi x x=x:=by
 unfold Pi Bf BJ;simp
theorem RC(x:Rg):SJ x x=x:=by
 unfold SJ Bf BJ;simp
theorem Sd{a:Rg}(h:Ah a=false):CanI (BV a):=by
 have h1:=DV a;rw [h] at h1;unfold BV at h1⊢;rw [h,if_neg Y3] at h1⊢;exact ⟨h1,by simp only;rw [IV],by simp only;rw [IV]⟩
theorem Ml{a:Rg}(h:Ah a=false):Bm a a=BV a:=by
 unfold Bm;rw [DV,h];simp only [Bool.false_eq_true,if_false];rw [QY]
theorem CanI.join{x:Rg}(h:CanI x):Bm x x=x:=by rw [Ml h.ne,h.norm]
theorem CanI.meet{x:Rg}(h:CanI x):Hx x x=x:=by
 unfold Hx;rw [h.norm,RC,h.norm]
theorem MB(l:List BA):AT (AT l)=AT l:=by
 unfold AT;congr 1;rw [List.map_map];have e:((fun s:BA=>s.data.toList) ∘ fun b:List UInt8=>(⟨b.toArray⟩:BA))=id:=by
  funext b
  rfl
 rw [e,List.map_id];refine List.mergeSort_of_pairwise ?_;have tr:∀ a b c:List UInt8,decide (a≤b)=true→decide (b≤c)=true→decide (a≤c)=true:=by
  exact Z94
 have tot:∀ a b:List UInt8,(decide (a≤b)||decide (b≤a))=true:=by
  exact Z95
 exact List.pairwise_mergeSort tr tot _
theorem N7{l:List BA}(h:l.Nodup):(AT l).Nodup:=by
 unfold AT;have h1:(l.map fun s:BA=>s.data.toList).Nodup:=by
  rw [List.nodup_iff_pairwise_ne,List.pairwise_map];rw [List.nodup_iff_pairwise_ne] at h;refine h.imp fun hne he=>hne ?_;have:=congrArg bA he;rw [Et,Et] at this;exact this
 have h2:=(List.mergeSort_perm (l.map fun s:BA=>s.data.toList) fun x y=>decide (x≤y)).nodup_iff.2 h1;rw [List.nodup_iff_pairwise_ne,List.pairwise_map];rw [List.nodup_iff_pairwise_ne] at h2;refine h2.imp fun hne he=>hne ?_;have:=congrArg (fun s:BA=>s.data.toList) he;exact this
theorem CrA(h:qP:=by
 intro h;simp only;rw [if_neg Y4]
 ext<;>simp only<;>omega):qP:=h
theorem Wh(h:qP:=by
 simp only;split
 ·intro h;simp at h
 ·exact CrA):qP:=h
theorem R1(a:Abs)(h:(B3 a).1≤(B3 a).2):Bj ((B3 a).1,(B3 a).2) (0,3652058)=B3 a:=by
 revert h
 unfold B3 Bj Be;exact Wh
theorem SB(a:Abs)(h:(CE a).1≤(CE a).2):Bj ((CE a).1,(CE a).2) (0,100)=CE a:=by
 revert h
 unfold CE Bj Be;exact Wh
structure Can(c:Abs):Prop where
 wf:DK c.kinds
 tx:(bt c.kinds 1=true∧CanT c.tx)∨(bt c.kinds 1=false∧c.tx=EwA)
 nu:(bt c.kinds 2=true∧CanI c.nu)∨(bt c.kinds 2=false∧c.nu=E4A)
 dt:(bt c.kinds 3=true∧c.dl≤c.dh∧B3 c=(c.dl,c.dh))∨(bt c.kinds 3=false∧c.dl=1∧c.dh=0)
 bl:(bt c.kinds 4=true∧c.bo≠0∧boI c=c.bo)∨(bt c.kinds 4=false∧c.bo=0)
 tb:(bt c.kinds 5=true∧c.rl≤c.rh∧CE c=(c.rl,c.rh)∧c.cols.length≤8∧c.cols.all BC=true∧c.cols.Nodup∧AT c.cols=c.cols∧c.deps.Nodup)∨(bt c.kinds 5=false∧c.rl=1∧c.rh=0∧c.cols=[]∧c.deps=[])
 all:c.kinds=DZ (bt c.kinds 1) (bt c.kinds 2) (bt c.kinds 3) (bt c.kinds 4) (bt c.kinds 5)
theorem Y61(h:qP:=by unfold AM;simp [hp]):qP:=h
theorem Vu(h:qP:=by
 right;exact ⟨rfl,Y61⟩):qP:=h
theorem UT(a:Abs):Can (AM a):=by
 obtain ⟨b1,b2,b3,b4,b5⟩:=OT a;refine ⟨Sg _ _ _ _ _,?_,?_,?_,?_,?_,?_⟩
 ·rw [b1];cases hp:pT a
  ·exact Vu
  ·left;refine ⟨rfl,?_⟩;have e:(AM a).tx=Aw a.tx a.tx:=Y61;rw [e];unfold pT at hp;rw [Bool.and_eq_true,Bool.not_eq_true'] at hp;exact P8 hp.2
 ·rw [b2];cases hp:pN a
  ·exact Vu
  ·left;refine ⟨rfl,?_⟩;have e:(AM a).nu=Bm a.nu a.nu:=Y61;rw [e];unfold pN at hp;rw [Bool.and_eq_true,Bool.not_eq_true'] at hp;rw [Ml hp.2];exact Sd hp.2
 ·rw [b3];cases hp:pD a
  ·right;exact ⟨rfl,Y61,Y61⟩
  ·left;have e1:(AM a).dl=(B3 a).1:=Y61;have e2:(AM a).dh=(B3 a).2:=Y61;unfold pD at hp;rw [Bool.and_eq_true,decide_eq_true_eq] at hp;refine ⟨rfl,by rw [e1,e2];exact hp.2,?_⟩;show Bj ((AM a).dl,(AM a).dh) _=_;rw [e1,e2,R1 a hp.2]
 ·rw [b4];cases hp:pB a
  ·exact Vu
  ·left;have e:(AM a).bo=boI a:=Y61;unfold pB at hp;rw [Bool.and_eq_true,decide_eq_true_eq] at hp;refine ⟨rfl,by rw [e];exact hp.2,?_⟩;rw [e];refine CT (BY _ _ _) (BY _ _ _) fun i _ => ?_;show bt (boI (AM a)) i=bt (boI a) i;rw [Le,e,Le,Bool.and_assoc,Bool.and_self]
 ·rw [b5];cases hp:pR a
  ·right;refine ⟨rfl,?_,?_,?_,?_⟩<;>· unfold AM;simp [hp]
  ·left;have e1:(AM a).rl=(CE a).1:=Y61;have e2:(AM a).rh=(CE a).2:=Y61;have e3:(AM a).cols=AT (ddp a.cols):=Y61;have e4:(AM a).deps=ddp a.deps:=Y61;unfold pR at hp;simp only [Bool.and_eq_true,decide_eq_true_eq] at hp;obtain ⟨⟨⟨_,h1⟩,h2⟩,h3⟩:=hp;rw [e3,e4];refine ⟨rfl,by rw [e1,e2];exact h1,?_,by rw [LA];exact h2,?_,N7 (GA _),MB _,GA _⟩
   ·show Bj ((AM a).rl,(AM a).rh) _=_;rw [e1,e2,SB a h1]
   ·rw [List.all_eq_true] at h3⊢;exact fun x hx=>h3 x (C9.1 hx)
 ·rw [b1,b2,b3,b4,b5];rfl
theorem Y62(h:qP:=by rw [k];simp):qP:=h
theorem Tb{c x:Abs}(h:Can c)(hk:x.kinds=c.kinds)(ht:x.tx=c.tx)(hn:x.nu=c.nu)(hd1:x.dl=c.dl)(hd2:x.dh=c.dh)(hb:x.bo=c.bo)(hr1:x.rl=c.rl)(hr2:x.rh=c.rh)(hc:ddp x.cols=c.cols∨(bt c.kinds 5=false))(hd:ddp x.deps=c.deps∨(bt c.kinds 5=false))(he:x.errs=c.errs):AM x=c:=by
 obtain ⟨h0,h1,h2,h3,h4,h5,h6⟩:=h;have p1:pT x=bt c.kinds 1:=by
  unfold pT;rw [hk,ht]
  rcases h1 with ⟨k,h⟩|⟨k,_⟩
  ·rw [k,h.ne];rfl
  ·rw [k];rfl
 have p2:pN x=bt c.kinds 2:=by
  unfold pN;rw [hk,hn]
  rcases h2 with ⟨k,h⟩|⟨k,_⟩
  ·rw [k,h.ne];rfl
  ·rw [k];rfl
 have d3:B3 x=B3 c:=(by unfold B3;rw [hd1,hd2]);have p3:pD x=bt c.kinds 3:=by
  unfold pD;rw [hk,d3]
  rcases h3 with ⟨k,h,h'⟩|⟨k,_⟩
  ·rw [k,h'];simpa using h
  ·rw [k];rfl
 have d4:boI x=boI c:=(by unfold boI;rw [hb]);have p4:pB x=bt c.kinds 4:=by
  unfold pB;rw [hk,d4]
  rcases h4 with ⟨k,h,h'⟩|⟨k,_⟩
  ·rw [k,h'];simpa using h
  ·rw [k];rfl
 have d5:CE x=CE c:=(by unfold CE;rw [hr1,hr2]);have p5:pR x=bt c.kinds 5:=by
  unfold pR;rw [hk,d5]
  rcases h5 with ⟨k,k1,k2,k3,k4,k5,k6,k7⟩|⟨k,_⟩
  ·rcases hc with hc|hc
   ·rw [k,k2,hc,k4];simp [k1,k3]
   ·rw [k] at hc;cases hc
  ·rw [k];rfl
 unfold AM;rw [p1,p2,p3,p4,p5,ht,hn,d3,d4,d5,he,←h6];have e1:(if bt c.kinds 1=true then Aw c.tx c.tx else EwA)=c.tx:=by
  rcases h1 with ⟨k,h⟩|⟨k,h⟩
  ·rw [if_pos k,h.join]
  ·rw [if_neg Y62,h]
 have e2:(if bt c.kinds 2=true then Bm c.nu c.nu else E4A)=c.nu:=by
  rcases h2 with ⟨k,h⟩|⟨k,h⟩
  ·rw [if_pos k,h.join]
  ·rw [if_neg Y62,h]
 have e3:(if bt c.kinds 3=true then (B3 c).1 else 1)=c.dl∧(if bt c.kinds 3=true then (B3 c).2 else 0)=c.dh:=by
  rcases h3 with ⟨k,_,h⟩|⟨k,h,h'⟩
  ·rw [if_pos k,if_pos k,h];exact ⟨rfl,rfl⟩
  ·rw [if_neg Y62,if_neg Y62,h,h'];exact ⟨rfl,rfl⟩
 have e4:(if bt c.kinds 4=true then boI c else 0)=c.bo:=by
  rcases h4 with ⟨k,_,h⟩|⟨k,h⟩
  ·rw [if_pos k,h]
  ·rw [if_neg Y62,h]
 have e5:(if bt c.kinds 5=true then (CE c).1 else 1)=c.rl∧(if bt c.kinds 5=true then (CE c).2 else 0)=c.rh∧(if bt c.kinds 5=true then AT (ddp x.cols) else [])=c.cols∧(if bt c.kinds 5=true then ddp x.deps else [])=c.deps:=by
  rcases h5 with ⟨k,k1,k2,k3,k4,k5,k6,k7⟩|⟨k,k1,k2,k3,k4⟩
  ·rw [if_pos k,if_pos k,if_pos k,if_pos k,k2];refine ⟨rfl,rfl,?_,?_⟩
   ·rcases hc with hc|hc
    ·rw [hc,k6]
    ·rw [k] at hc;cases hc
   ·rcases hd with hd|hd
    ·exact hd
    ·rw [k] at hd;cases hd
  ·have:¬bt c.kinds 5=true:=Y62;rw [if_neg this,if_neg this,if_neg this,if_neg this,k1,k2,k3,k4];exact ⟨rfl,rfl,rfl,rfl⟩
 rw [e1,e2,e3.1,e3.2,e4,e5.1,e5.2.1,e5.2.2.1,e5.2.2.2]
theorem Can.eq{c:Abs}(h:Can c):AM c=c:=by
 refine Tb h rfl rfl rfl rfl rfl rfl rfl rfl ?_ ?_ rfl
 ·rcases h.tb with ⟨_,_,_,_,_,k,_,_⟩|⟨k,_⟩
  ·exact Or.inl (Kq _ k)
  ·exact Or.inr k
 ·rcases h.tb with ⟨_,_,_,_,_,_,_,k⟩|⟨k,_⟩
  ·exact Or.inl (Kq _ k)
  ·exact Or.inr k
theorem Can.days{c:Abs}(h:Can c):c.dl≤c.dh∨(c.dl=1∧c.dh=0):=by
 rcases h.dt with ⟨_,h,_⟩|⟨_,h⟩
 ·exact Or.inl h
 ·exact Or.inr h
theorem Can.rows{c:Abs}(h:Can c):c.rl≤c.rh∨(c.rl=1∧c.rh=0):=by
 rcases h.tb with ⟨_,h,_⟩|⟨_,h1,h2,_⟩
 ·exact Or.inl h
 ·exact Or.inr ⟨h1,h2⟩
theorem Can.boIn{c:Abs}(h:Can c):DK c.bo:=by
 rcases h.bl with ⟨_,_,h⟩|⟨_,h⟩
 ·rw [←h];exact BY _ _ _
 ·rw [h];unfold DK;omega
def noneA:Abs:=⟨0,EwA,E4A,1,0,0,1,0,[],[],false⟩

def ofS(s:BA):Sh:=if Bi s=true then ⟨s.size,s.size,Bd (bs s),s,s⟩ else EwA
def IW(k:Int):Int:=if k=0 then 1 else if k=1 then 2 else if k=2 then 4 else if k=3 then 8 else if k=4 then 16 else 32
def Bc(v:Val):Abs where
 kinds:=IW v.kind
 tx:=if v.kind=1 then ofS v.s else EwA
 nu:=if v.kind=2 then ⟨v.dn,v.ds,v.dn,v.ds⟩ else E4A
 dl:=if v.kind=3 then v.n else 1
 dh:=if v.kind=3 then v.n else 0
 bo:=if v.kind=4 then (if v.n=0 then 1 else 2) else 0
 rl:=if v.kind=5 then v.rows.length else 1
 rh:=if v.kind=5 then v.rows.length else 0
 cols:=if v.kind=5 then v.cols else []
 deps:=if v.kind=5 then Bp v.cols v.rows else []
 errs:=decide (v.kind=0)
def ofA(v:Val):Abs:=if Ae v=true then AM (Bc v) else noneA
def FK(k:Int):Abs where
 kinds:=if 1≤k∧k≤5 then IW k else 0
 tx:=Sh.full
 nu:=Rg.full
 dl:=0
 dh:=3652058
 bo:=3
 rl:=0
 rh:=100
 cols:=[]
 deps:=[]
 errs:=decide (k=0)
def By(k:Int):Abs:=AM (FK k)
def Bq(a:Abs):Option Val :=
 let c:=AM a
 if c.errs=true then none
 else if c.kinds=2 then (if c.tx.least=c.tx.b.size∧c.tx.most=c.tx.b.size then some ⟨1,c.tx.b,0,0,0,[],[]⟩ else none)
 else if c.kinds=4 then (if c.nu.ln=c.nu.hn∧c.nu.ls=c.nu.hs then some ⟨2,⟨#[]⟩,c.nu.ln,c.nu.ls,0,[],[]⟩ else none)
 else if c.kinds=8 then (if c.dl=c.dh then some ⟨3,⟨#[]⟩,0,0,c.dl,[],[]⟩ else none)
 else if c.kinds=16 then (if c.bo≠3 then some ⟨4,⟨#[]⟩,0,0,c.bo-1,[],[]⟩ else none)
 else none
theorem Sa{c:Abs}(h:Can c)(hk:bt c.kinds 4=true):c.bo=1∨c.bo=2∨c.bo=3:=by
 rcases h.bl with ⟨_,h0,h1⟩|⟨h2,_⟩
 ·have key:∀ i,bt c.bo i=(bt c.bo i&&decide (i<2)):=fun i=>by
   have:=Le c i;rw [h1] at this;exact this
  have hz:=PB c;rw [h1] at hz;have hin:=h.boIn;have up:∀ i,2≤i→bt c.bo i=false:=fun i hi=>by
   rw [key i];simp;omega
  cases b0:bt c.bo 0
  ·cases b1:bt c.bo 1
   ·exact absurd (hz.2 ⟨b0,b1⟩) h0
   ·right;left;refine CT hin Y56 fun i _ => ?_
    match i with
    |0=>rw [b0];decide
    |1=>rw [b1];decide
    |k+2 =>
     rw [up _ Y4,show (2:Int)=((2^1:Nat):Int) from rfl,Fm _ _ Y4,eq_comm,decide_eq_false_iff_not];omega
  ·cases b1:bt c.bo 1
   ·left;refine CT hin Y56 fun i _ => ?_
    match i with
    |0=>rw [b0];decide
    |1=>rw [b1];decide
    |k+2 =>
     rw [up _ Y4,show (1:Int)=((2^0:Nat):Int) from rfl,Fm _ _ Y4,eq_comm,decide_eq_false_iff_not];omega
   ·right;right;refine CT hin Y56 fun i _ => ?_
    match i with
    |0=>rw [b0];decide
    |1=>rw [b1];decide
    |k+2 =>
     rw [up _ Y4,YN,eq_comm,decide_eq_false_iff_not];omega
 ·rw [hk] at h2;cases h2

theorem Lg{cols:List BA}(h:cols.Nodup){k:Nat}(hk:k<cols.length):BM cols cols[k]=k:=by
 refine J5 hk (fun j hj hlt he => ?_) rfl;have:=(List.getElem_inj h).1 he;omega
theorem FU{cols:List BA}(h:cols.Nodup){k:Nat}(hk:k<cols.length):cols.getD k ⟨#[]⟩∈cols∧(BM cols (cols.getD k ⟨#[]⟩)).toNat=k:=by
 rw [Au _ _ _ hk,Lg h hk];exact ⟨List.getElem_mem hk,Y3⟩

theorem AX{S:NP}{w ws w9:World}(hx:Ext w ws)(hb:ButS S ws w9)(hS:∀ b,S b→w.heap.size≤b):Ext w w9 :=
 ⟨hb.os.trans hx.os,hb.tape.trans hx.tape,hb.output.trans hx.output,Nat.le_trans hx.size hb.size,fun b h=>(hb.block b (Nat.lt_of_lt_of_le h hx.size) fun hs=>by have:=hS b hs;omega).trans (hx.block b h)⟩
theorem EzA(w:World)(o:Obj)(t:Nat)(cs:Array Value):Blk ((w.alloc o).alloc (.cells cs t)) (w.heap.size+1) t cs:=by
 have h:=Blk.new (w.alloc o) t cs;rwa [show (w.alloc o).heap.size=w.heap.size+1 by simp] at h
theorem E5A(w:World)(o o':Obj)(t:Nat)(cs:Array Value):Blk (((w.alloc o).alloc o').alloc (.cells cs t)) (w.heap.size+2) t cs:=by
 have h:=Blk.new ((w.alloc o).alloc o') t cs;rwa [show ((w.alloc o).alloc o').heap.size=w.heap.size+2 by simp] at h
def DJ(w:World)(r:Rg)(e:Ending)(w':World):Prop:=e=.returned (Rq r)∧Ext w w'
theorem WH(h:qP:=by
 unfold BW;exact VI):qP:=h
theorem JY(a b:Int):decide (BW a b > 0)=decide (b<a):=by
 exact WH
theorem MX(a b:Int):decide (BW a b≤0)=decide (a≤b):=by
 exact WH
theorem Ra(a b:Int):decide (BW a b<0)=decide (a<b):=by
 exact WH
theorem Jm(w:World):Cl 206 #[] w (DJ w E4A):=by
 go_enter func206,ntmps206
 go_wp2;refine bodyPost_ret (v:=(Rq E4A)) (by simp [results,results206,go_sem,E4A]) rfl ⟨rfl,?_⟩;exact (exaa w)
theorem Ke(w:World):Cl 63 #[] w (DJ w Rg.full):=by
 go_enter func63,ntmps63
 go_wp2;refine bodyPost_ret (v:=(Rq Rg.full)) (by simp [results,results63,go_sem,Rg.full]) rfl ⟨rfl,?_⟩;exact (exaa w)
theorem XB(h:qP:=by
 rintro e1 w1 ⟨rfl,hx1⟩;have HX:=Hd ((exaa w).trans hx1);clear hx1
 go_wp2_with fail
 go_ret;exact ⟨by rw [HE.o];rfl,HX.o⟩):qP:=h
theorem Bv(r:Rg)(w:World)(ht:Tens w):Cl 156 #[(Rq r)] w (AO w (Ah r)):=by
 obtain ⟨HC,HT,HE⟩:=Hd3 (fun w' (h:Tens w')=>CS r.ln r.ls r.hn r.hs w' h) ht (show Ah r=decide (BW (mu r.ln r.ls) (mu r.hn r.hs) > 0) by rw [JY];rfl);generalize BW (mu r.ln r.ls) (mu r.hn r.hs)=z at *;clear ht
 go_enter func156,ntmps156
 go_wp2_with fail
 refine (HC.o _ (HT.o.ext (exaa w))).mono ?_;exact XB
theorem VF(h:qP:=by
 go_ret;exact ⟨Y19,HX.o⟩):qP:=h
theorem VX(h:qP:=by
 go_wp2_with fail
 exact VF):qP:=h
theorem BkA(h:qP:=by
 go_wp2_with fail
 refine (HC2.o _ HT2.o).mono ?_;rintro e3 w3 ⟨rfl,hx3⟩;have HX3:=Hd (HX2.o.trans hx3);clear hx3
 go_wp2_with fail
 go_ret;exact ⟨Y19,HX3.o⟩):qP:=h
theorem ZD(h:qP:=by
 go_ret;exact ⟨Y19,HX2.o⟩):qP:=h
theorem VM(h:qP:=by
 go_wp2_with fail
 exact ZD):qP:=h
theorem Hz(r:Rg)(n s:Int)(w:World)(ht:Tens w):Cl 53 #[(Rq r),.agg #[.I n,.I s]] w (AO w (Af r n s)):=by
 obtain ⟨HC1,HC2,HD,HT,HE⟩:=Hd5 (fun w' (h:Tens w')=>CS r.ln r.ls n s w' h) (fun w' (h:Tens w')=>CS n s r.hn r.hs w' h) (fun w'=>Dh n s w') ht (show Af r n s=(Cm n s&&decide (BW (mu r.ln r.ls) (mu n s)≤0)&&decide (BW (mu n s) (mu r.hn r.hs)≤0)) by rw [MX,MX];rfl);generalize BW (mu r.ln r.ls) (mu n s)=z at *;generalize BW (mu n s) (mu r.hn r.hs)=y at *;generalize Cm n s=b at *;clear ht
 go_enter func53,ntmps53
 go_wp2_with fail
 refine (HD.o _).mono ?_;rintro e1 w1 ⟨rfl,hx1⟩;have HX:=Hd ((exbb w).trans hx1);have hb1:=(Blk.new w 34 (Rp r)).keep (((exaa _).trans hx1).kept _);have hb2:=(EzA w (.cells (Rp r) 34) 25 #[.I n,.I s]).keep (hx1.kept _);obtain ⟨q0,q1,q2,q3⟩:=hb1.qs4;obtain ⟨q4,q5⟩:=hb2.qs2;have HT1:=Hd (HT.o.ext HX.o);clear hx1 hb1 hb2;cases b
 ·have HF:=Hd (show Af r n s=false by rw [HE.o];rfl);exact VX
 go_wp2_with fail
 refine (HC1.o _ HT1.o).mono ?_;rintro e2 w2 ⟨rfl,hx2⟩;have HX2:=Hd (HX.o.trans hx2);have HT2:=Hd (HT1.o.ext hx2);have q0:=hx2.cell q0;have q1:=hx2.cell q1;have q2:=hx2.cell q2;have q3:=hx2.cell q3;have q4:=hx2.cell q4;have q5:=hx2.cell q5;clear hx2;by_cases hz:z≤0
 ·have HF:=Hd (show Af r n s=decide (y≤0) by rw [HE.o,decide_eq_true hz];rfl);exact BkA
 ·have HF:=Hd (show Af r n s=false by rw [HE.o,decide_eq_false hz];rfl);exact VM
def Ds(w:World)(p:Int × Int)(e:Ending)(w':World):Prop:=e=.returned (.agg #[.I p.1,.I p.2])∧Ext w w'
theorem XE(h:qP:=by
 go_wp2_with fail
 refine (HD.o _).mono ?_;rintro e1 w1 ⟨rfl,hx1⟩;have hb1:=(Blk.new w 25 #[.I n,.I s]).keep (((exaa _).trans hx1).kept _);have hb2:=(EzA w (.cells #[.I n,.I s] 25) 25 #[.I 0,.I 0]).keep (hx1.kept _);obtain ⟨q0,q1⟩:=hb1.qs2;obtain ⟨q2,q3⟩:=hb2.qs2;have qf:=hb2.frozen;have ql:=hb2.lt;have HX:=Hd ((exbb w).trans hx1);clear hx1 hb1 hb2
 go_wp2_with fail
 rw [HV.o]):qP:=h
theorem Fj(n s:Int)(w:World):Cl 207 #[.agg #[.I n,.I s]] w (Ds w (BG n s)):=by
 have HD:=Hd (fun w'=>Dh n s w');obtain ⟨w0,hw0⟩:=eqx ((w.alloc (.cells #[.I n,.I s] 25)).alloc (.cells #[.I 0,.I 0] 25));cases hd:Cm n s
 all_goals
  have HV:=Hd (show BG n s=if Cm n s=true then (n,s) else (0,0) from rfl);rw [hd] at HD HV;clear hd hw0
  go_enter func207,ntmps207
  exact XE
 ·refine bodyPost_ret (v:=.agg #[.I 0,.I 0]) (by simp [results,results207,go_sem,q2,q3]) rfl ⟨rfl,?_⟩;exact GL
 ·refine bodyPost_ret (v:=.agg #[.I n,.I s]) (by simp [results,results207,go_sem,q2,q3]) rfl ⟨rfl,?_⟩;exact GL
theorem BaA(h:qP:=by
 go_wp2_with fail
 refine (HC.o _ HT.o).mono ?_;rintro e1 w1 ⟨rfl,hx1⟩;have hb1:=(Blk.new w 25 #[.I n,.I s]).keep (((exbb _).trans hx1).kept _);have hb2:=(EzA w (.cells #[.I n,.I s] 25) 25 #[.I n',.I s']).keep (((exaa _).trans hx1).kept _);have hb3:=(E5A w (.cells #[.I n,.I s] 25) (.cells #[.I n',.I s'] 25) 25 #[.I 0,.I 0]).keep (hx1.kept _);obtain ⟨q0,q1⟩:=hb1.qs2;obtain ⟨q2,q3⟩:=hb2.qs2;obtain ⟨q4,q5⟩:=hb3.qs2;have qf:=hb3.frozen;have ql:=hb3.lt;have HX:=Hd ((excc w).trans hx1);clear hx1 hb1 hb2 hb3
 go_wp2_with fail
 rw [HE.o]):qP:=h
theorem Y63(h:qP:=by have:=HD.o;omega):qP:=h
theorem FW(n s n' s':Int)(w:World)(ht:Tens w):Cl 157 #[.agg #[.I n,.I s],.agg #[.I n',.I s']] w (Ds w (Bf n s n' s')):=by
 obtain ⟨HC,HT,HE⟩:=Hd3 (fun w' (h:Tens w')=>CS n' s' n s w' h) (ht.ext ((((Ext.refl w).alloc (.cells #[.I n,.I s] 25)).alloc (.cells #[.I n',.I s'] 25)).alloc (.cells #[.I 0,.I 0] 25))) (show Bf n s n' s'=if decide (BW (mu n' s') (mu n s)<0)=true then (n',s') else (n,s) by rw [Ra];simp only [decide_eq_true_eq];rfl);generalize BW (mu n' s') (mu n s)=z at *;clear ht;by_cases hz:z<0
 all_goals
  have HD:=Hd hz
  go_enter func157,ntmps157
  exact BaA
 ·rw [decide_eq_true Y63,if_pos rfl];refine bodyPost_ret (v:=.agg #[.I n',.I s']) (by simp [results,results157,go_sem,q4,q5]) rfl ⟨rfl,?_⟩;exact GL
 ·rw [decide_eq_false Y63,if_neg Y3];refine bodyPost_ret (v:=.agg #[.I n,.I s]) (by simp [results,results157,go_sem,q4,q5]) rfl ⟨rfl,?_⟩;exact GL
theorem E7(n s n' s':Int)(w:World)(ht:Tens w):Cl 158 #[.agg #[.I n,.I s],.agg #[.I n',.I s']] w (Ds w (BJ n s n' s')):=by
 obtain ⟨HC,HT,HE⟩:=Hd3 (fun w' (h:Tens w')=>CS n' s' n s w' h) (ht.ext ((((Ext.refl w).alloc (.cells #[.I n,.I s] 25)).alloc (.cells #[.I n',.I s'] 25)).alloc (.cells #[.I 0,.I 0] 25))) (show BJ n s n' s'=if decide (BW (mu n' s') (mu n s) > 0)=true then (n',s') else (n,s) by rw [JY];simp only [decide_eq_true_eq];rfl);generalize BW (mu n' s') (mu n s)=z at *;clear ht;by_cases hz:z > 0
 all_goals
  have HD:=Hd hz
  go_enter func158,ntmps158
  exact BaA
 ·rw [decide_eq_true Y63,if_pos rfl];refine bodyPost_ret (v:=.agg #[.I n',.I s']) (by simp [results,results158,go_sem,q4,q5]) rfl ⟨rfl,?_⟩;exact GL
 ·rw [decide_eq_false Y63,if_neg Y3];refine bodyPost_ret (v:=.agg #[.I n,.I s]) (by simp [results,results158,go_sem,q4,q5]) rfl ⟨rfl,?_⟩;exact GL
theorem Ph(h:qP:=by
 rintro l γ w1 γ' w2 rr ⟨h1,h2⟩;refine ⟨h1.keep (rr.keptS fun b _ e m hm => ?_),rr.done _ h2⟩;rw [hm.1,h2,rr.done _ h2]):qP:=h
theorem VZ(h:qP:=by
 have hb1:=((((HB0.o.set 0 (.I u1)).set 1 (.I u2)).set 2 (.I v1)).set 3 (.I v2))
 simpa using hb1):qP:=h
theorem Y64(h:qP:=by simp [Gz.put]):qP:=h
theorem CF(r:Rg)(w:World)(ht:Tens w):Cl 155 #[(Rq r)] w (DJ w (BV r)):=by
 obtain ⟨w0,hw0⟩:=eqx ((w.alloc (.cells (Rp r) 34)).alloc (.cells #[.I 0,.I 0,.I 0,.I 0] 34));have hx0:Ext w w0:=Y49;have hb1:Blk w0 w.heap.size 34 (Rp r):=(by rw [hw0];exact (Blk.new _ _ _).keep ((exaa _).kept _));have hb2:Blk w0 (w.heap.size+1) 34 #[.I 0,.I 0,.I 0,.I 0]:=(by rw [hw0];exact EzA _ _ _ _);obtain ⟨HT0,HE,HN⟩:=Hd3 (ht.ext hx0) (fun w' (h:Tens w')=>Bv r w' h) (show BV r=if Ah r=true then E4A else ⟨(BG r.ln r.ls).1,(BG r.ln r.ls).2,(BG r.hn r.hs).1,(BG r.hn r.hs).2⟩ from rfl);obtain ⟨⟨u1,u2⟩,hu⟩:=eqx (BG r.ln r.ls);obtain ⟨⟨v1,v2⟩,hv⟩:=eqx (BG r.hn r.hs);have HR1:=Hd (show ∀ w',Cl 207 #[.agg #[.I r.ln,.I r.ls]] w' (Ds w' (u1,u2)) from fun w'=>by rw [hu];exact Fj _ _ w');have HR2:=Hd (show ∀ w',Cl 207 #[.agg #[.I r.hn,.I r.hs]] w' (Ds w' (v1,v2)) from fun w'=>by rw [hv];exact Fj _ _ w');rw [←hu,←hv] at HN;obtain ⟨HX0,HW0,HB1,HB2a⟩:=Hd4 hx0 hw0 hb1 hb2;obtain ⟨g2,hg2⟩:=eqx (w.heap.size+1);obtain ⟨q0,q1,q2,q3⟩:=hb1.qs4;generalize Ah r=b at *;have HGG:=Hd hg2;clear ht hx0 hw0 hb1 hb2 hu hv hg2
 go_enter func155,ntmps155
 go_wp2_with fail
 rw [←HW0.o,←HGG.o];refine (HE.o _ HT0.o).mono ?_;rintro e1 w1 ⟨rfl,hx1⟩;have HX1:=Hd (HX0.o.trans hx1);have hb2:=HB2a.o.keep (hx1.kept _);rw [←HGG.o] at hb2;obtain ⟨HB2,k0,k1,k2,k3,HG2⟩:=Hd6 hb2 (hx1.cell q0) (hx1.cell q1) (hx1.cell q2) (hx1.cell q3) (show w.heap.size≤g2 by rw [HGG.o];omega);clear hx1 hb2 q0 q1 q2 q3 HB1 HB2a HW0;cases b
 ·go_upto_region 3 with fail
  refine Qa (fun m b=>(m=1007∧b=g2)) (lk 8 [1007]) ?_
  iterate 2 refine Qp ?_
  refine Qc (x:=.agg #[.I u1,.I u2]) (fun w'=>HR1.o w') ?_
  iterate 2 refine Qp ?_
  refine Qc (x:=.agg #[.I v1,.I v2]) (fun w'=>HR2.o w') ?_;refine Qp ?_;refine Qs (fun _ γ w'=>Blk w' g2 34 #[.I u1,.I u2,.I v1,.I v2]∧γ 1007=true) ?_ ?_ ?_
  ·exact Ph
  ·intro vals γ w' ρ hR hN hp hρ zs zg;have hk1007:=hN.o.key (k:=1007) Y17;have hb0:=HB2.o.keep (hR.o.kept0 (S:=fun b=>b=g2) fun b _ e m hm=>by
    rw [hm.1];exact hk1007)
   have HB0:=Hd hb0;have HK:=Hd hk1007;obtain ⟨q0,q1,q2,q3⟩:=hb0.qs4;have qf:=hb0.frozen;have ql:=hb0.lt;clear hb0 hk1007;refine Qr ?_;refine ⟨γ.put 1007,EvA HK.o rfl rfl rfl Y1 (fun b hb hm=>(((((Only.refl g2 w').set 0 (.I u1)).set 1 (.I u2)).set 2 (.I v1)).set 3 (.I v2)).block b fun e=>hm (⟨rfl,e⟩)),LK.done Y17,?_,Y64⟩;exact VZ
  intro vals γ w9 hR hG;refine Qx ?_;obtain ⟨hb7,-⟩:=hG 7 Y17;have HB7N:=Hd hb7;clear hb7;have HXN:=Hd (show Ext w w9 from AX HX1.o (hR.buts (S:=fun b=>b=g2) (fun m b _ hm _=>hm.2)) (fun b hb=>by
   rw [hb];exact HG2.o))
  clear hR hG;obtain ⟨r0,r1,r2,r3⟩:=HB7N.o.qs4;go_wp2;rw [HN.o,if_neg Y3];exact bodyPost_ret (v:=.agg #[.I u1,.I u2,.I v1,.I v2]) (by simp [results,results155,go_sem,r0,r1,r2,r3]) rfl ⟨rfl,HXN.o⟩
 ·go_wp2_with fail
  refine (Jm _).mono ?_;rintro e2 w2 ⟨rfl,hx2⟩;have HX2:=Hd (HX1.o.trans hx2);have hb2:=HB2.o.keep (hx2.kept _);obtain ⟨r0,r1,r2,r3⟩:=hb2.qs4;have qf:=hb2.frozen;have ql:=hb2.lt;clear hx2 hb2
  go_wp2_with fail
  rw [HN.o,if_pos trivial];refine bodyPost_ret (v:=(Rq E4A)) (by simp [results,results155,go_sem,r0,r1,r2,r3]) rfl ⟨rfl,?_⟩
  iterate 4 with_reducible refine Ext.set2 ?_ HG2.o _
  with_reducible exact HX2.o
theorem YF(h:qP:=by
 rcases hm with ⟨rfl,_⟩|⟨rfl,_⟩
 ·exact hk1004
 ·exact hk1005):qP:=h
theorem Nu(h:qP:=by
 exact ⟨_,he,γ,ExA _ γ hx,fun _ _ _ h=>h,rfl⟩):qP:=h
theorem Ng(h:qP:=by
 rintro e1 w3 ⟨he,hx⟩;exact Nu):qP:=h
theorem Xo(h:qP:=by
 intro vals γ w' ρ hR hN hp hρ zs zg;have hk1004:=hN.o.key (k:=1004) Y17;have hk1005:=hN.o.key (k:=1005) Y17;have hxx:=hR.o.ext0 (fun m b _ hm=>by
  exact YF)
 have HXW:=Hd hxx;clear hxx hk1004 hk1005;have HR:=hR;refine Qr ?_;refine (HN1.o w' (HT0.o.ext HXW.o)).mono ?_;exact Ng):qP:=h
theorem Wf(h:qP:=by
 exact absurd (e.symm.trans e2) HNE2.o):qP:=h
theorem EpA(h:qP:=by
 rcases hm with ⟨rfl,e2⟩|⟨rfl,e2⟩
 ·exact Wf
 ·exact hkx):qP:=h
theorem X6(h:qP:=by
 have hkx:=hN.o.key (k:=1005) Y17;have hbx:=HB3.o.keep (hR.o.kept0 (S:=fun b=>b=g3) fun b _ e m hm=>by
  exact EpA)
 obtain ⟨x0,x1,x2,x3⟩:=hbx.qs4;clear hkx hbx;exact Qk):qP:=h
theorem YS(h:qP:=by
 intro vals γ w' ρ hR hN hp hρ zs zg;have hk1004:=hN.o.key (k:=1004) Y17;have hk1005:=hN.o.key (k:=1005) Y17;have hxx:=hR.o.ext0 (fun m b _ hm=>by
  exact YF)
 have HXW:=Hd hxx;clear hxx hk1004 hk1005;have HR:=hR;refine Qr ?_;refine (HN2.o w' (HT0.o.ext HXW.o)).mono ?_;exact Ng):qP:=h
theorem APA(h:qP:=by
 exact absurd (e.symm.trans e2) HNE.o):qP:=h
theorem ZA(h:qP:=by
 rintro l γ w1 γ' w2 rr ⟨h1,h2⟩;refine ⟨h1.keep (rr.keptS fun b _ e m hm => ?_),rr.done _ h2⟩
 rcases hm with ⟨rfl,e2⟩|⟨rfl,e2⟩
 ·rw [h2,rr.done _ h2]
 ·exact APA):qP:=h
theorem EiA(h:qP:=by
 rcases hm with ⟨rfl,e2⟩|⟨rfl,e2⟩
 ·exact hk1004
 ·exact APA):qP:=h
theorem XF(h:qP:=by
 intro vals γ w' ρ hR hN hp hρ zs zg;have e2:=hρ.o 2;(conv at e2=>rhs;whnf);have hk1004:=hN.o.key (k:=1004) Y17;have hk1005:=hN.o.key (k:=1005) Y17;have hb0:=HB2.o.keep (hR.o.kept0 (S:=fun b=>b=g2) fun b _ e m hm=>by
  exact EiA)
 have HB0:=Hd hb0;have HK:=Hd hk1004;obtain ⟨q0,q1,q2,q3⟩:=hb0.qs4;have qf:=hb0.frozen;have ql:=hb0.lt;clear hb0 hk1004 hk1005;refine Qr ?_;refine ⟨γ.put 1004,EvA HK.o rfl rfl rfl Y1 (fun b hb hm=>(((((Only.refl g2 w').set 0 (.I x.ln)).set 1 (.I x.ls)).set 2 (.I x.hn)).set 3 (.I x.hs)).block b fun e=>hm (.inl ⟨rfl,e⟩)),LK.done Y17,?_,Y64⟩;have hb1:=((((HB0.o.set 0 (.I x.ln)).set 1 (.I x.ls)).set 2 (.I x.hn)).set 3 (.I x.hs))
 simpa using hb1):qP:=h
theorem YM(h:qP:=by
 rintro l γ w1 γ' w2 rr ⟨h1,h2⟩;refine ⟨h1.keep (rr.keptS fun b _ e m hm => ?_),rr.done _ h2⟩
 rcases hm with ⟨rfl,e2⟩|⟨rfl,e2⟩
 ·exact Wf
 ·rw [h2,rr.done _ h2]):qP:=h
theorem ELA(h:qP:=by
 rcases hm with ⟨rfl,e2⟩|⟨rfl,e2⟩
 ·exact Wf
 ·exact hk1005):qP:=h
theorem YU(h:qP:=by
 intro vals γ w' ρ hR hN hp hρ zs zg;have hk1005:=hN.o.key (k:=1005) Y17;have hb0:=HB3.o.keep (hR.o.kept0 (S:=fun b=>b=g3) fun b _ e m hm=>by
  exact ELA)
 have HB0:=Hd hb0;have HK:=Hd hk1005;obtain ⟨q0,q1,q2,q3⟩:=hb0.qs4;have qf:=hb0.frozen;have ql:=hb0.lt;clear hb0 hk1005;refine Qr ?_;refine ⟨γ.put 1005,EvA HK.o rfl rfl rfl Y1 (fun b hb hm=>(((((Only.refl g3 w').set 0 (.I y.ln)).set 1 (.I y.ls)).set 2 (.I y.hn)).set 3 (.I y.hs)).block b fun e=>hm (.inr ⟨rfl,e⟩)),LK.done Y17,?_,Y64⟩;have hb1:=((((HB0.o.set 0 (.I y.ln)).set 1 (.I y.ls)).set 2 (.I y.hn)).set 3 (.I y.hs))
 simpa using hb1):qP:=h
theorem ZP(h:qP:=by
 rcases hm with ⟨rfl,e2⟩|⟨rfl,e2⟩
 ·exact absurd (e.symm.trans e2) HN42.o
 ·exact absurd (e.symm.trans e2) HN43.o):qP:=h
theorem Xk(h:qP:=by
 rcases hb with hb|hb
 ·rw [hb];exact HG2.o
 ·rw [hb];exact HG3.o):qP:=h
theorem BrA(h:qP:=by
 have HR:=hR;refine Qr ?_;refine (HLS.o w' (HT5.o.ext HXW.o)).mono ?_;exact Ng):qP:=h
theorem ApA(h:qP:=by
 have HR:=hR;refine Qr ?_;refine (HGR.o w' (HT5.o.ext HXW.o)).mono ?_;exact Ng):qP:=h
theorem Y65(h:qP:=by rw [hw0];exact (Blk.new _ _ _).keep ((exbb _).kept _)):qP:=h
theorem Y66(h:qP:=by rw [hw0];exact (EzA _ _ _ _).keep ((exaa _).kept _)):qP:=h
theorem Y67(h:qP:=by rw [hw0];exact E5A _ _ _ _ _):qP:=h
theorem GO(a b:Rg)(w:World)(ht:Tens w):Cl 82 #[(Rq a),(Rq b)] w (DJ w (Bm a b)):=by
 obtain ⟨w0,hw0⟩:=eqx (((w.alloc (.cells (Rp a) 34)).alloc (.cells (Rp b) 34)).alloc (.cells #[.I 0,.I 0,.I 0,.I 0] 34));have hx0:Ext w w0:=Y54;have hb2:Blk w0 w.heap.size 34 (Rp a):=Y65;have hb3:Blk w0 (w.heap.size+1) 34 (Rp b):=Y66;have hb4:Blk w0 (w.heap.size+2) 34 #[.I 0,.I 0,.I 0,.I 0]:=Y67;obtain ⟨g2,hg2⟩:=eqx w.heap.size;obtain ⟨g3,hg3⟩:=eqx (w.heap.size+1);obtain ⟨g4,hg4⟩:=eqx (w.heap.size+2);rw [←hg2] at hb2;rw [←hg3] at hb3;rw [←hg4] at hb4;obtain ⟨HNE,HNE2,HN42,HN43,HN24,HN34,HG2,HG3⟩:=Hd8 (show g2≠g3 by omega) (show g3≠g2 by omega) (show g4≠g2 by omega) (show g4≠g3 by omega) (show g2≠g4 by omega) (show g3≠g4 by omega) (show w.heap.size≤g2 by omega) (show w.heap.size≤g3 by omega);obtain ⟨HG4,k0,k1,k2,k3,k4,k5,k6⟩:=Hd8 (show w.heap.size≤g4 by omega) (hb2.q0) (hb2.q1) (hb2.q2) (hb2.q3) (hb3.q0) (hb3.q1) (hb3.q2);obtain ⟨k7,HT0,HTW⟩:=Hd3 (hb3.q3) (ht.ext hx0) ht;obtain ⟨x,hx⟩:=eqx (BV a);obtain ⟨y,hy⟩:=eqx (BV b);obtain ⟨HN1,HN2,HE1,HEY⟩:=Hd4 (show ∀ w',Tens w'→Cl 155 #[(Rq a)] w' (DJ w' x) from fun w' h=>by rw [hx];exact CF a w' h) (show ∀ w',Tens w'→Cl 155 #[(Rq b)] w' (DJ w' y) from fun w' h=>by rw [hy];exact CF b w' h) (fun w' (h:Tens w')=>Bv x w' h) (fun w' (h:Tens w')=>Bv y w' h);obtain ⟨⟨u1,u2⟩,hu⟩:=eqx (Bf x.ln x.ls y.ln y.ls);obtain ⟨⟨v1,v2⟩,hv⟩:=eqx (BJ x.hn x.hs y.hn y.hs);have HLS:=Hd (show ∀ w',Tens w'→Cl 157 #[.agg #[.I x.ln,.I x.ls],.agg #[.I y.ln,.I y.ls]] w' (Ds w' (u1,u2)) from fun w' h=>by rw [hu];exact FW _ _ _ _ w' h);have HGR:=Hd (show ∀ w',Tens w'→Cl 158 #[.agg #[.I x.hn,.I x.hs],.agg #[.I y.hn,.I y.hs]] w' (Ds w' (v1,v2)) from fun w' h=>by rw [hv];exact E7 _ _ _ _ w' h);have HJ:=Hd (show Bm a b=if Ah x=true then y else if Ah y=true then x else ⟨u1,u2,v1,v2⟩ from by
  have h1:u1=(Bf x.ln x.ls y.ln y.ls).1:=congrArg Prod.fst hu;have h2:u2=(Bf x.ln x.ls y.ln y.ls).2:=congrArg Prod.snd hu;have h3:v1=(BJ x.hn x.hs y.hn y.hs).1:=congrArg Prod.fst hv;have h4:v2=(BJ x.hn x.hs y.hn y.hs).2:=congrArg Prod.snd hv;rw [h1,h2,h3,h4,hx,hy];rfl)
 generalize Ah x=b1 at *;generalize Ah y=b2 at *;clear hu hv;obtain ⟨HX0,HB2,HB3,HB4,HW0,HE2,HE3,HE4⟩:=Hd8 hx0 hb2 hb3 hb4 hw0 hg2 hg3 hg4;clear ht hx0 hw0 hb2 hb3 hb4 hg2 hg3 hg4 hx hy
 go_enter func82,ntmps82
 go_upto_region 1 with fail
 rw [←HW0.o,show w.heap.size+1+1=g4 from HE4.o.symm,←HE3.o,←HE2.o];refine Qa (fun m b=>(m=1004∧b=g2)∨(m=1005∧b=g3)) [(0,[1004,1005]),(1,[1004,1005]),(2,[1005]),(3,[1004,1005]),(4,[1004,1005]),(5,[1005])] ?_;refine Qp ?_;refine Qg (Rq x) ?_ ?_
 ·exact Xo
 refine Qm (fun vals γ w' ρ hR hN hp hρ zs zg=>by
  exact X6) ?_
 refine Qg (Rq y) ?_ ?_
 ·exact YS
 refine Qs (fun _ γ w'=>Blk w' g2 34 (Rp x)∧γ 1004=true) ?_ ?_ ?_
 ·exact ZA
 ·exact XF
 refine Qs (fun _ γ w'=>Blk w' g3 34 (Rp y)∧γ 1005=true) ?_ ?_ ?_
 ·exact YM
 ·exact YU
 intro vals γ w9 hR hG;refine Qx ?_;obtain ⟨hb4,-⟩:=hG 4 Y17;have HB4N:=Hd hb4;clear hb4;obtain ⟨hb5,-⟩:=hG 5 Y17;have HB5N:=Hd hb5;clear hb5;have hck:=HB4.o.keep (hR.kept0 (S:=fun b=>b=g4) fun b _ e m hm=>by
  exact ZP)
 have HB49:=Hd hck;clear hck;have HXN:=Hd (show Ext w w9 from AX HX0.o (hR.buts (S:=fun b=>b=g2∨b=g3) (fun m b _ hm _=>hm.imp And.right And.right)) (fun b hb=>by
  exact Xk))
 clear hR hG;obtain ⟨w1,hw1⟩:=eqx w9;rw [←hw1] at HXN HB4N HB5N HB49⊢;clear hw1 HW0 HB2 HB3 HB4 k0 k1 k2 k3 k4 k5 k6 k7;have HT1:=Hd (HTW.o.ext HXN.o);obtain ⟨m0,m1,m2,m3⟩:=HB4N.o.qs4
 go_wp2_with fail
 refine (HE1.o _ HT1.o).mono ?_;rintro e2 w2 ⟨rfl,hx2⟩;have HX2:=Hd (HXN.o.trans hx2);have hb3:=HB5N.o.keep (hx2.kept _);have hb2:=HB4N.o.keep (hx2.kept _);have hb4:=HB49.o.keep (hx2.kept _);obtain ⟨HBa,HBb,HBc⟩:=Hd3 hb2 hb3 hb4;obtain ⟨m4,m5,m6,m7⟩:=hb3.qs4;obtain ⟨r0,r1,r2,r3⟩:=hb4.qs4;have qf:=hb4.frozen;have ql:=hb4.lt;have HT2:=Hd (HT1.o.ext hx2);clear hx2 hb2 hb3 hb4 m0 m1 m2 m3;cases b1
 ·go_wp2_with fail
  refine (HEY.o _ HT2.o).mono ?_;rintro e3 w3 ⟨rfl,hx3⟩;have HX5:=Hd (HX2.o.trans hx3);have hb3:=HBb.o.keep (hx3.kept _);have hb2:=HBa.o.keep (hx3.kept _);have hb4:=HBc.o.keep (hx3.kept _);obtain ⟨HT5,HB4b,j0,j1,j2,j3,j4,j5⟩:=Hd8 (HT2.o.ext hx3) hb4 (hb2.q0) (hb2.q1) (hb2.q2) (hb2.q3) (hb3.q0) (hb3.q1);have j6:=Hd (hb3.q2);have j7:=Hd (hb3.q3);have qf:=hb4.frozen;have ql:=hb4.lt;clear hx3 hb2 hb3 hb4 m4 m5 m6 m7 r0 r1 r2 r3 HBa HBb HBc;obtain ⟨w5,hw5⟩:=eqx w3;rw [←hw5] at HX5 HT5 HB4b j0 j1 j2 j3 j4 j5 j6 j7 qf ql⊢;clear hw5;cases b2
  ·go_upto_region 6 with fail
   refine Qa (fun m b=>(m=1011∧b=g4)) (lk 12 [1011]) ?_
   iterate 4 refine Qp ?_
   refine Qg (.agg #[.I u1,.I u2]) ?_ ?_
   ·intro vals γ w' ρ hR hN hp hρ zs zg;have hk1011:=hN.o.key (k:=1011) Y17;have hxx:=hR.o.ext0 (fun m b _ hm=>by
     rcases hm with ⟨rfl,_⟩
     ·exact hk1011)
    have HXW:=Hd hxx;clear hxx hk1011;exact BrA
   iterate 4 refine Qp ?_
   refine Qg (.agg #[.I v1,.I v2]) ?_ ?_
   ·intro vals γ w' ρ hR hN hp hρ zs zg;have hk1011:=hN.o.key (k:=1011) Y17;have hxx:=hR.o.ext0 (fun m b _ hm=>by
     rcases hm with ⟨rfl,_⟩
     ·exact hk1011)
    have HXW:=Hd hxx;clear hxx hk1011;exact ApA
   refine Qp ?_;refine Qs (fun _ γ w'=>Blk w' g4 34 #[.I u1,.I u2,.I v1,.I v2]∧γ 1011=true) ?_ ?_ ?_
   ·exact Ph
   ·intro vals γ w' ρ hR hN hp hρ zs zg;have hk1011:=hN.o.key (k:=1011) Y17;have hb0:=HB4b.o.keep (hR.o.kept0 (S:=fun b=>b=g4) fun b _ e m hm=>by
     rw [hm.1];exact hk1011)
    have HB0:=Hd hb0;have HK:=Hd hk1011;obtain ⟨q0,q1,q2,q3⟩:=hb0.qs4;have qf:=hb0.frozen;have ql:=hb0.lt;clear hb0 hk1011;refine Qr ?_;refine ⟨γ.put 1011,EvA HK.o rfl rfl rfl Y1 (fun b hb hm=>(((((Only.refl g4 w').set 0 (.I u1)).set 1 (.I u2)).set 2 (.I v1)).set 3 (.I v2)).block b fun e=>hm (⟨rfl,e⟩)),LK.done Y17,?_,Y64⟩;exact VZ
   intro vals γ w9 hR hG;refine Qx ?_;obtain ⟨hb11,-⟩:=hG 11 Y17;have HB11N:=Hd hb11;clear hb11;have HXN:=Hd (show Ext w w9 from AX HX5.o (hR.buts (S:=fun b=>b=g4) (fun m b _ hm _=>hm.2)) (fun b hb=>by
    rw [hb];exact HG4.o))
   clear hR hG;obtain ⟨s0,s1,s2,s3⟩:=HB11N.o.qs4;go_wp2;rw [HJ.o,if_neg Y3,if_neg Y3];exact bodyPost_ret (v:=.agg #[.I u1,.I u2,.I v1,.I v2]) (by simp [results,results82,go_sem,s0,s1,s2,s3]) rfl ⟨rfl,HXN.o⟩
  ·have j0:=j0.o;have j1:=j1.o;have j2:=j2.o;have j3:=j3.o;obtain ⟨r0,r1,r2,r3⟩:=HB4b.o.qs4;go_wp2;rw [HJ.o,if_neg Y3,if_pos trivial];refine bodyPost_ret (v:=(Rq x)) (by simp [results,results82,go_sem,r0,r1,r2,r3]) rfl ⟨rfl,?_⟩
   iterate 4 with_reducible refine Ext.set2 ?_ HG4.o _
   with_reducible exact HX5.o
 ·go_wp2;rw [HJ.o,if_pos trivial];refine bodyPost_ret (v:=(Rq y)) (by simp [results,results82,go_sem,r0,r1,r2,r3]) rfl ⟨rfl,?_⟩
  iterate 4 with_reducible refine Ext.set2 ?_ HG4.o _
  with_reducible exact HX2.o

theorem VK(h:qP:=by
 rcases hm with ⟨rfl,_⟩
 ·exact hk1012):qP:=h
theorem Kh(a b:Rg)(w:World)(ht:Tens w):Cl 88 #[(Rq a),(Rq b)] w (DJ w (Hx a b)):=by
 obtain ⟨w0,hw0⟩:=eqx (((w.alloc (.cells (Rp a) 34)).alloc (.cells (Rp b) 34)).alloc (.cells #[.I 0,.I 0,.I 0,.I 0] 34));have hx0:Ext w w0:=Y54;have hb2:Blk w0 w.heap.size 34 (Rp a):=Y65;have hb3:Blk w0 (w.heap.size+1) 34 (Rp b):=Y66;have hb4:Blk w0 (w.heap.size+2) 34 #[.I 0,.I 0,.I 0,.I 0]:=Y67;obtain ⟨g2,hg2⟩:=eqx w.heap.size;obtain ⟨g3,hg3⟩:=eqx (w.heap.size+1);obtain ⟨g4,hg4⟩:=eqx (w.heap.size+2);rw [←hg2] at hb2;rw [←hg3] at hb3;rw [←hg4] at hb4;obtain ⟨HNE,HNE2,HN42,HN43,HN24,HN34,HG2,HG3⟩:=Hd8 (show g2≠g3 by omega) (show g3≠g2 by omega) (show g4≠g2 by omega) (show g4≠g3 by omega) (show g2≠g4 by omega) (show g3≠g4 by omega) (show w.heap.size≤g2 by omega) (show w.heap.size≤g3 by omega);obtain ⟨HG4,k0,k1,k2,k3,k4,k5,k6⟩:=Hd8 (show w.heap.size≤g4 by omega) (hb2.q0) (hb2.q1) (hb2.q2) (hb2.q3) (hb3.q0) (hb3.q1) (hb3.q2);obtain ⟨k7,HT0,HTW⟩:=Hd3 (hb3.q3) (ht.ext hx0) ht;obtain ⟨x,hx⟩:=eqx (BV a);obtain ⟨y,hy⟩:=eqx (BV b);have HN1:=Hd (show ∀ w',Tens w'→Cl 155 #[(Rq a)] w' (DJ w' x) from fun w' h=>by rw [hx];exact CF a w' h);have HN2:=Hd (show ∀ w',Tens w'→Cl 155 #[(Rq b)] w' (DJ w' y) from fun w' h=>by rw [hy];exact CF b w' h);obtain ⟨⟨u1,u2⟩,hu⟩:=eqx (BJ x.ln x.ls y.ln y.ls);obtain ⟨⟨v1,v2⟩,hv⟩:=eqx (Bf x.hn x.hs y.hn y.hs);have HGR:=Hd (show ∀ w',Tens w'→Cl 158 #[.agg #[.I x.ln,.I x.ls],.agg #[.I y.ln,.I y.ls]] w' (Ds w' (u1,u2)) from fun w' h=>by rw [hu];exact E7 _ _ _ _ w' h);have HLS:=Hd (show ∀ w',Tens w'→Cl 157 #[.agg #[.I x.hn,.I x.hs],.agg #[.I y.hn,.I y.hs]] w' (Ds w' (v1,v2)) from fun w' h=>by rw [hv];exact FW _ _ _ _ w' h);obtain ⟨z,hz⟩:=eqx (BV ⟨u1,u2,v1,v2⟩);have HN3:=Hd (show ∀ w',Tens w'→Cl 155 #[.agg #[.I u1,.I u2,.I v1,.I v2]] w' (DJ w' z) from fun w' h=>by rw [hz];exact CF ⟨u1,u2,v1,v2⟩ w' h);have HJ:=Hd (show Hx a b=z from by
  have h1:u1=(BJ x.ln x.ls y.ln y.ls).1:=congrArg Prod.fst hu;have h2:u2=(BJ x.ln x.ls y.ln y.ls).2:=congrArg Prod.snd hu;have h3:v1=(Bf x.hn x.hs y.hn y.hs).1:=congrArg Prod.fst hv;have h4:v2=(Bf x.hn x.hs y.hn y.hs).2:=congrArg Prod.snd hv;rw [hz,h1,h2,h3,h4,hx,hy];rfl)
 clear hu hv hz;obtain ⟨HX0,HB2,HB3,HB4,HW0,HE2,HE3,HE4⟩:=Hd8 hx0 hb2 hb3 hb4 hw0 hg2 hg3 hg4;clear ht hx0 hw0 hb2 hb3 hb4 hg2 hg3 hg4 hx hy
 go_enter func88,ntmps88
 go_upto_region 1 with fail
 rw [←HW0.o,show w.heap.size+1+1=g4 from HE4.o.symm,←HE3.o,←HE2.o];refine Qa (fun m b=>(m=1004∧b=g2)∨(m=1005∧b=g3)) [(0,[1004,1005]),(1,[1004,1005]),(2,[1005]),(3,[1004,1005]),(4,[1004,1005]),(5,[1005])] ?_;refine Qp ?_;refine Qg (Rq x) ?_ ?_
 ·exact Xo
 refine Qm (fun vals γ w' ρ hR hN hp hρ zs zg=>by
  exact X6) ?_
 refine Qg (Rq y) ?_ ?_
 ·exact YS
 refine Qs (fun _ γ w'=>Blk w' g2 34 (Rp x)∧γ 1004=true) ?_ ?_ ?_
 ·exact ZA
 ·exact XF
 refine Qs (fun _ γ w'=>Blk w' g3 34 (Rp y)∧γ 1005=true) ?_ ?_ ?_
 ·exact YM
 ·exact YU
 intro vals γ w9 hR hG;refine Qx ?_;obtain ⟨hb4,-⟩:=hG 4 Y17;have HB4N:=Hd hb4;clear hb4;obtain ⟨hb5,-⟩:=hG 5 Y17;have HB5N:=Hd hb5;clear hb5;have hck:=HB4.o.keep (hR.kept0 (S:=fun b=>b=g4) fun b _ e m hm=>by
  exact ZP)
 have HB49:=Hd hck;clear hck;have HXN:=Hd (show Ext w w9 from AX HX0.o (hR.buts (S:=fun b=>b=g2∨b=g3) (fun m b _ hm _=>hm.imp And.right And.right)) (fun b hb=>by
  exact Xk))
 clear hR hG;obtain ⟨w1,hw1⟩:=eqx w9;rw [←hw1] at HXN HB4N HB5N HB49⊢;clear hw1 HW0 HB2 HB3 HB4 k0 k1 k2 k3 k4 k5 k6 k7;have HT1:=Hd (HTW.o.ext HXN.o);obtain ⟨HX5,HT5,HB4b,j0,j1,j2,j3,j4⟩:=Hd8 HXN.o HT1.o HB49.o (HB4N.o.q0) (HB4N.o.q1) (HB4N.o.q2) (HB4N.o.q3) (HB5N.o.q0);obtain ⟨j5,j6,j7⟩:=Hd3 (HB5N.o.q1) (HB5N.o.q2) (HB5N.o.q3);obtain ⟨w5,hw5⟩:=eqx w1;rw [←hw5] at HX5 HT5 HB4b j0 j1 j2 j3 j4 j5 j6 j7⊢;clear hw5 HXN HT1 HB49 HB4N HB5N
 go_upto_region 2 with fail
 refine Qa (fun m b=>(m=1012∧b=g4)) (lk 13 [1012]) ?_
 iterate 4 refine Qp ?_
 refine Qg (.agg #[.I u1,.I u2]) ?_ ?_
 ·intro vals γ w' ρ hR hN hp hρ zs zg;have hk1012:=hN.o.key (k:=1012) Y17;have hxx:=hR.o.ext0 (fun m b _ hm=>by
   exact VK)
  have HXW:=Hd hxx;clear hxx hk1012;exact ApA
 iterate 4 refine Qp ?_
 refine Qg (.agg #[.I v1,.I v2]) ?_ ?_
 ·intro vals γ w' ρ hR hN hp hρ zs zg;have hk1012:=hN.o.key (k:=1012) Y17;have hxx:=hR.o.ext0 (fun m b _ hm=>by
   exact VK)
  have HXW:=Hd hxx;clear hxx hk1012;exact BrA
 refine Qp ?_;refine Qg (Rq z) ?_ ?_
 ·intro vals γ w' ρ hR hN hp hρ zs zg;have hk1012:=hN.o.key (k:=1012) Y17;have hxx:=hR.o.ext0 (fun m b _ hm=>by
   exact VK)
  have HXW:=Hd hxx;clear hxx hk1012;have HR:=hR;refine Qr ?_;refine (HN3.o w' (HT5.o.ext HXW.o)).mono ?_;exact Ng
 refine Qs (fun _ γ w'=>Blk w' g4 34 (Rp z)∧γ 1012=true) ?_ ?_ ?_
 ·exact Ph
 ·intro vals γ w' ρ hR hN hp hρ zs zg;have hk1012:=hN.o.key (k:=1012) Y17;have hb0:=HB4b.o.keep (hR.o.kept0 (S:=fun b=>b=g4) fun b _ e m hm=>by
   rw [hm.1];exact hk1012)
  have HB0:=Hd hb0;have HK:=Hd hk1012;obtain ⟨q0,q1,q2,q3⟩:=hb0.qs4;have qf:=hb0.frozen;have ql:=hb0.lt;clear hb0 hk1012;refine Qr ?_;refine ⟨γ.put 1012,EvA HK.o rfl rfl rfl Y1 (fun b hb hm=>(((((Only.refl g4 w').set 0 (.I z.ln)).set 1 (.I z.ls)).set 2 (.I z.hn)).set 3 (.I z.hs)).block b fun e=>hm (⟨rfl,e⟩)),LK.done Y17,?_,Y64⟩;have hb1:=((((HB0.o.set 0 (.I z.ln)).set 1 (.I z.ls)).set 2 (.I z.hn)).set 3 (.I z.hs))
  simpa using hb1
 intro vals γ w9 hR hG;refine Qx ?_;obtain ⟨hb12,-⟩:=hG 12 Y17;have HB12N:=Hd hb12;clear hb12;have HXN:=Hd (show Ext w w9 from AX HX5.o (hR.buts (S:=fun b=>b=g4) (fun m b _ hm _=>hm.2)) (fun b hb=>by
  rw [hb];exact HG4.o))
 clear hR hG;obtain ⟨s0,s1,s2,s3⟩:=HB12N.o.qs4;go_wp2;rw [HJ.o];exact bodyPost_ret (v:=(Rq z)) (by simp [results,results88,go_sem,s0,s1,s2,s3]) rfl ⟨rfl,HXN.o⟩
theorem I8(a b:Rg)(w:World)(ht:Tens w):Cl 93 #[(Rq a),(Rq b)] w (AO w (EG a b)):=by
 obtain ⟨HC1,HC2,HEA,HT,HE⟩:=Hd5 (fun w' (h:Tens w')=>CS b.ln b.ls a.ln a.ls w' h) (fun w' (h:Tens w')=>CS a.hn a.hs b.hn b.hs w' h) (fun w' (h:Tens w')=>Bv a w' h) (ht.ext (((Ext.refl w).alloc (.cells (Rp a) 34)).alloc (.cells (Rp b) 34))) (show EG a b=(Ah a||(decide (BW (mu b.ln b.ls) (mu a.ln a.ls)≤0)&&decide (BW (mu a.hn a.hs) (mu b.hn b.hs)≤0))) by rw [MX,MX];rfl);generalize BW (mu b.ln b.ls) (mu a.ln a.ls)=z at *;generalize BW (mu a.hn a.hs) (mu b.hn b.hs)=y at *;generalize Ah a=e at *;clear ht
 go_enter func93,ntmps93
 go_wp2_with fail
 refine (HEA.o _ HT.o).mono ?_;rintro e1 w1 ⟨rfl,hx1⟩;have HX:=Hd ((exbb w).trans hx1);have hb1:=(Blk.new w 34 (Rp a)).keep (((exaa _).trans hx1).kept _);have hb2:=(EzA w (.cells (Rp a) 34) 34 (Rp b)).keep (hx1.kept _);obtain ⟨q0,q1,q2,q3⟩:=hb1.qs4;obtain ⟨q4,q5,q6,q7⟩:=hb2.qs4;have HT1:=Hd (HT.o.ext hx1);clear hx1 hb1 hb2;cases e
 ·go_wp2_with fail
  refine (HC1.o _ HT1.o).mono ?_;rintro e2 w2 ⟨rfl,hx2⟩;have HX2:=Hd (HX.o.trans hx2);have HT2:=Hd (HT1.o.ext hx2);have q0:=hx2.cell q0;have q1:=hx2.cell q1;have q2:=hx2.cell q2;have q3:=hx2.cell q3;have q4:=hx2.cell q4;have q5:=hx2.cell q5;have q6:=hx2.cell q6;have q7:=hx2.cell q7;clear hx2;by_cases hz:z≤0
  ·have HF:=Hd (show EG a b=decide (y≤0) by rw [HE.o,decide_eq_true hz];rfl);exact BkA
  ·have HF:=Hd (show EG a b=false by rw [HE.o,decide_eq_false hz];rfl);exact VM
 ·have HF:=Hd (show EG a b=true by rw [HE.o];rfl);exact VX
def Bk(w:World)(p:Int × Int)(e:Ending)(w':World):Prop:=e=.returned (.agg #[.I p.1,.I p.2])∧Ext w w'
theorem Gl(w:World):Cl 208 #[] w (Bk w (1,0)):=by
 go_enter func208,ntmps208
 go_wp2;refine bodyPost_ret (v:=.agg #[.I 1,.I 0]) (by simp [results,results208,go_sem]) rfl ⟨rfl,?_⟩;exact (exaa w)
theorem Dz(l h:Int)(w:World):Cl 159 #[.agg #[.I l,.I h]] w (Bk w (Be l h)):=by
 by_cases hl:h<l
 ·have HF:=Hd (show Be l h=(1,0) by unfold Be;rw [if_pos hl])
  go_enter func159,ntmps159
  go_wp2_with fail
  refine (Gl _).mono ?_;rintro e1 w1 ⟨rfl,hx1⟩;have hb2:=(EzA w (.cells #[.I l,.I h] 36) 36 #[.I 0,.I 0]).keep (hx1.kept _);obtain ⟨r0,r1⟩:=hb2.qs2;have qf:=hb2.frozen;have ql:=hb2.lt;have HX:=Hd ((exbb w).trans hx1);clear hx1 hb2
  go_wp2_with fail
  rw [HF.o];refine bodyPost_ret (v:=.agg #[.I 1,.I 0]) (by simp [results,results159,go_sem,r0,r1]) rfl ⟨rfl,?_⟩;exact GL
 ·have HF:=Hd (show Be l h=(l,h) by unfold Be;rw [if_neg hl])
  go_enter func159,ntmps159
  go_wp2;rw [HF.o];refine bodyPost_ret (v:=.agg #[.I l,.I h]) (by simp [results,results159,go_sem]) rfl ⟨rfl,?_⟩;exact (exbb w)
theorem CO(l h l' h':Int)(w:World):Cl 89 #[.agg #[.I l,.I h],.agg #[.I l',.I h']] w (Bk w (Bj (l,h) (l',h'))):=by
 have HF:=Hd (show Bj (l,h) (l',h')=Be (max l l') (min h h') from rfl);obtain ⟨⟨u1,u2⟩,hu⟩:=eqx (Be (max l l') (min h h'));have HN:=Hd (show ∀ w',Cl 159 #[.agg #[.I (max l l'),.I (min h h')]] w' (Bk w' (u1,u2)) from fun w'=>by rw [hu];exact Dz _ _ w');rw [←hu] at HF;clear hu
 go_enter func89,ntmps89
 go_wp2_with fail
 refine (HN.o _).mono ?_;rintro e1 w1 ⟨rfl,hx1⟩;have hb2:=(E5A w (.cells #[.I l,.I h] 36) (.cells #[.I l',.I h'] 36) 36 #[.I 0,.I 0]).keep (hx1.kept _);obtain ⟨r0,r1⟩:=hb2.qs2;have qf:=hb2.frozen;have ql:=hb2.lt;have HX:=Hd ((excc w).trans hx1);clear hx1 hb2
 go_wp2_with fail
 rw [HF.o];refine bodyPost_ret (v:=.agg #[.I u1,.I u2]) (by simp [results,results89,go_sem,r0,r1]) rfl ⟨rfl,?_⟩;exact GL
theorem Er(l h l' h':Int)(w:World):Cl 83 #[.agg #[.I l,.I h],.agg #[.I l',.I h']] w (Bk w (Bl (l,h) (l',h'))):=by
 by_cases h1:h<l
 ·have HF:=Hd (show Bl (l,h) (l',h')=Be l' h' by unfold Bl;rw [if_pos h1]);obtain ⟨⟨u1,u2⟩,hu⟩:=eqx (Be l' h');have HN:=Hd (show ∀ w',Cl 159 #[.agg #[.I l',.I h']] w' (Bk w' (u1,u2)) from fun w'=>by rw [hu];exact Dz _ _ w');rw [←hu] at HF;clear hu
  go_enter func83,ntmps83
  go_wp2_with fail
  refine (HN.o _).mono ?_;rintro e1 w1 ⟨rfl,hx1⟩;have hb2:=(E5A w (.cells #[.I l,.I h] 36) (.cells #[.I l',.I h'] 36) 36 #[.I 0,.I 0]).keep (hx1.kept _);obtain ⟨r0,r1⟩:=hb2.qs2;have qf:=hb2.frozen;have ql:=hb2.lt;have HX:=Hd ((excc w).trans hx1);clear hx1 hb2
  go_wp2_with fail
  rw [HF.o];refine bodyPost_ret (v:=.agg #[.I u1,.I u2]) (by simp [results,results83,go_sem,r0,r1]) rfl ⟨rfl,?_⟩;exact GL
 by_cases h2:h'<l'
 ·have HF:=Hd (show Bl (l,h) (l',h')=(l,h) by unfold Bl;rw [if_neg h1,if_pos h2])
  go_enter func83,ntmps83
  go_wp2;rw [HF.o];refine bodyPost_ret (v:=.agg #[.I l,.I h]) (by simp [results,results83,go_sem]) rfl ⟨rfl,?_⟩;exact (excc w)
 ·have HF:=Hd (show Bl (l,h) (l',h')=(min l l',max h h') by unfold Bl;rw [if_neg h1,if_neg h2])
  go_enter func83,ntmps83
  go_wp2;rw [HF.o];refine bodyPost_ret (v:=.agg #[.I (min l l'),.I (max h h')]) (by simp [results,results83,go_sem]) rfl ⟨rfl,?_⟩;exact (excc w)
end Go.Proofs.YtidacnalcdhckaaGreatDoor
