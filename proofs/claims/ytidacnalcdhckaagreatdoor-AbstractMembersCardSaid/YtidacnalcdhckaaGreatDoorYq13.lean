/- Lemmas. No conditions. -/
import Derived.Test.YtidacnalcdhckaaGreatDoorYq12
import Derived.Sort.Walk0
set_option maxRecDepth 100000
set_option maxHeartbeats 2000000
namespace Go.Proofs.YtidacnalcdhckaaGreatDoor
open Go Go.RowKit Tryz
variable {qP:Prop}{a x:Sh}{c:Abs}{cols:List BA}{k:Nat}{v:Val}

theorem EnA{x:Int}(h:Er x):bits .or .i64 x x=x:=DT (CJ _ _ _) h λi _=>by rw [Ux,Bool.or_self]
theorem CcA{x:Int}(h:Er x):bits .and .i64 x x=x:=DT (CJ _ _ _) h λi _=>by rw [CN,Bool.and_self]
theorem UQ(x y:Int):bits .or .i64 x y=bits .or .i64 y x:=DT (CJ _ _ _) (CJ _ _ _) λi _=>by rw [Ux,Ux,Bool.or_comm]
theorem EDA(p1 p2 p3 p4 p5:Bool):Er (Ey p1 p2 p3 p4 p5):=by
 unfold Er;exact Ok
structure CanT(x:Sh):Prop where
 ne:AT x=false
 least:x.least=AQ x
 most:x.most=BE x
 cls:BL x=x.cls
 wf:Er x.cls
theorem GqA(a:Sh):bA a.B=a.b:=He _
theorem HiA(a:Sh):bA a.E=a.e:=He _
theorem YO(h:AT a=false):BW a a=⟨AQ a,BE a,BL a,a.b,a.e⟩:=by
 unfold BW;rw [h];simp only [Bool.false_eq_true,if_false];rw [Hw,NQ,GqA,HiA,EnA (show Er (BL a) from CJ _ _ _),Int.min_self,Int.max_self]
theorem EtA(a:Sh)(h:x.cls=BL a):BL x=BL a:=by
 unfold BL at h|-;rw [h];refine DT (CJ _ _ _) (CJ _ _ _) λi _ => ?_;rw [CN,CN,Bool.and_assoc,Bool.and_self]
theorem CXA(h:AT a=false):CanT (BW a a):=by
 have hne:AT (BW a a)=false:=by
  obtain ⟨l,hl⟩:∃ l,InS a l:=by
   refine Classical.byContradiction λhn => ?_;rw [(IM a).2 λl hl=>hn ⟨l,hl⟩] at h;cases h
  exact Eg ((Ty h l).2 hl)
 rw [YO h] at hne|-;have O:(a.b.size:Int)<=AQ a/\(a.e.size:Int)<=AQ a/\0<=AQ a:=DQ;have U:BE a<=200:=Gj;refine ⟨hne,?_,?_,EtA a (x:=⟨AQ a,BE a,BL a,a.b,a.e⟩) rfl,(show Er (BL a) from CJ .and a.cls 110)⟩
 ·show AQ a=max (max (max 0 (AQ a)) (a.b.size:Int)) (a.e.size:Int);omega
 ·show BE a=min (BE a) 200;omega
theorem CanT.join(h:CanT x):BW x x=x:=by
 rw [YO h.ne,<-h.least,<-h.most,h.cls]
theorem CanT.meet(h:CanT x):DN x x=x:=by
 have hm:CY x x=x:=by
  unfold CY;rw [Int.max_self,Int.min_self,<-h.least,<-h.most,h.cls,CcA h.wf,if_neg (Nat.lt_irrefl _),if_neg (Nat.lt_irrefl _)]
 unfold DN;rw [if_neg (by rw [h.ne];simp),hm,if_pos];refine ⟨?_,?_,?_,?_,h.ne⟩
 ·rw [Fq];exact List.prefix_refl _
 ·rw [Fq];exact List.prefix_refl _
 ·rw [Fo];exact List.suffix_refl _
 ·rw [Fo];exact List.suffix_refl _
structure CanI(x:Rg):Prop where
 ne:BF x=false
 low:Bg x.ln x.ls=(x.ln,x.ls)
 high:Bg x.hn x.hs=(x.hn,x.hs)
theorem CanI.norm{x:Rg}(h:CanI x):CI x=x:=by
 unfold CI;rw [h.ne,if_neg AC,h.low,h.high]
theorem CaA(x:Rg):CiA x x=x:=by
 unfold CiA CU Bm;simp
theorem EZA(x:Rg):DQA x x=x:=by
 unfold DQA CU Bm;simp
theorem EHA{a:Rg}(h:BF a=false):CanI (CI a):=by
 have h1:=Fd a;rw [h] at h1;unfold CI at h1|-;rw [h,if_neg AC] at h1|-;exact ⟨h1,by simp only;rw [Nk],by simp only;rw [Nk]⟩
theorem Yq{a:Rg}(h:BF a=false):Cc a a=CI a:=by
 unfold Cc;rw [Fd,h];simp only [Bool.false_eq_true,if_false];rw [CaA]
theorem CanI.join{x:Rg}(h:CanI x):Cc x x=x:=by rw [Yq h.ne,h.norm]
theorem CanI.meet{x:Rg}(h:CanI x):NB x x=x:=by
 unfold NB;rw [h.norm,EZA,h.norm]
theorem Wu(l:List BA):An (An l)=An l:=by
 unfold An;congr 1;rw [List.map_map];have e:((λs:BA=>s.data.toList) ∘ λb:List UInt8=>(⟨b.toArray⟩:BA))=id:=by
  funext b
  rfl
 rw [e,List.map_id];refine List.mergeSort_of_pairwise ?_;have tr:∀ a b c:List UInt8,decide (a<=b)=true->decide (b<=c)=true->decide (a<=c)=true:=by
  exact O4
 have O:∀ a b:List UInt8,(decide (a<=b)||decide (b<=a))=true:=by
  exact Tn
 exact List.pairwise_mergeSort tr O _
theorem Ym{l:List BA}(h:l.Nodup):(An l).Nodup:=by
 unfold An;have h1:(l.map λs:BA=>s.data.toList).Nodup:=by
  rw [List.nodup_iff_pairwise_ne,List.pairwise_map];rw [List.nodup_iff_pairwise_ne] at h;refine h.imp λhne he=>hne ?_;have:=congrArg bA he;rw [He,He] at this;exact this
 have h2:=(List.mergeSort_perm (l.map λs:BA=>s.data.toList) λx y=>decide (x<=y)).nodup_iff.2 h1;rw [List.nodup_iff_pairwise_ne,List.pairwise_map];rw [List.nodup_iff_pairwise_ne] at h2;refine h2.imp λhne he=>hne ?_;have:=congrArg (λs:BA=>s.data.toList) he;exact this
theorem ZG(h:qP:=by
 intro h;simp only;rw [if_neg (by omega)]
 ext<;>simp only<;>omega):qP:=h
theorem Ui(h:qP:=by
 simp only;split
 ·intro h;simp at h
 ·exact ZG):qP:=h
theorem DqA(a:Abs)(h:(Cy a).1<=(Cy a).2):CZ ((Cy a).1,(Cy a).2) (0,3652058)=Cy a:=by
 revert h
 unfold Cy CZ CQ;exact Ui
theorem DLA(a:Abs)(h:(DF a).1<=(DF a).2):CZ ((DF a).1,(DF a).2) (0,100)=DF a:=by
 revert h
 unfold DF CZ CQ;exact Ui
structure Can(c:Abs):Prop where
 wf:Er c.kinds
 tx:(bt c.kinds 1=true/\CanT c.tx)\/(bt c.kinds 1=false/\c.tx=H3A)
 nu:(bt c.kinds 2=true/\CanI c.nu)\/(bt c.kinds 2=false/\c.nu=IBA)
 dt:(bt c.kinds 3=true/\c.dl<=c.dh/\Cy c=(c.dl,c.dh))\/(bt c.kinds 3=false/\c.dl=1/\c.dh=0)
 bl:(bt c.kinds 4=true/\c.bo≠0/\boI c=c.bo)\/(bt c.kinds 4=false/\c.bo=0)
 tb:(bt c.kinds 5=true/\c.rl<=c.rh/\DF c=(c.rl,c.rh)/\c.cols.length<=8/\c.cols.all Ba=true/\c.cols.Nodup/\An c.cols=c.cols/\c.deps.Nodup)\/(bt c.kinds 5=false/\c.rl=1/\c.rh=0/\c.cols=[]/\c.deps=[])
 all:c.kinds=Ey (bt c.kinds 1) (bt c.kinds 2) (bt c.kinds 3) (bt c.kinds 4) (bt c.kinds 5)
theorem Ma(h:qP:=by
 right;exact ⟨rfl,by unfold AX;simp [hp]⟩):qP:=h
theorem Ej(h:qP:=by unfold AX;simp [hp]):qP:=h
theorem FSA(a:Abs):Can (AX a):=by
 obtain ⟨b1,b2,Y,O,U⟩:=Zb a;refine ⟨EDA _ _ _ _ _,?_,?_,?_,?_,?_,?_⟩
 ·rw [b1];cases hp:pT a
  ·exact Ma
  ·left;refine ⟨rfl,?_⟩;have e:(AX a).tx=BW a.tx a.tx:=Ej;rw [e];unfold pT at hp;rw [Bool.and_eq_true,Bool.not_eq_true'] at hp;exact CXA hp.2
 ·rw [b2];cases hp:pN a
  ·exact Ma
  ·left;refine ⟨rfl,?_⟩;have e:(AX a).nu=Cc a.nu a.nu:=Ej;rw [e];unfold pN at hp;rw [Bool.and_eq_true,Bool.not_eq_true'] at hp;rw [Yq hp.2];exact EHA hp.2
 ·rw [Y];cases hp:pD a
  ·right;exact ⟨rfl,Ej,Ej⟩
  ·left;have e1:(AX a).dl=(Cy a).1:=Ej;have e2:(AX a).dh=(Cy a).2:=Ej;unfold pD at hp;rw [Bool.and_eq_true,decide_eq_true_eq] at hp;refine ⟨rfl,by rw [e1,e2];exact hp.2,?_⟩;show CZ ((AX a).dl,(AX a).dh) _=_;rw [e1,e2,DqA a hp.2]
 ·rw [O];cases hp:pB a
  ·exact Ma
  ·left;have e:(AX a).bo=boI a:=Ej;unfold pB at hp;rw [Bool.and_eq_true,decide_eq_true_eq] at hp;refine ⟨rfl,by rw [e];exact hp.2,?_⟩;rw [e];refine DT (CJ _ _ _) (CJ _ _ _) λi _ => ?_;show bt (boI (AX a)) i=bt (boI a) i;rw [Wc,e,Wc,Bool.and_assoc,Bool.and_self]
 ·rw [U];cases hp:pR a
  ·right;refine ⟨rfl,?_,?_,?_,?_⟩<;>· unfold AX;simp [hp]
  ·left;have e1:(AX a).rl=(DF a).1:=Ej;have e2:(AX a).rh=(DF a).2:=Ej;have e3:(AX a).cols=An (ddp a.cols):=Ej;have e4:(AX a).deps=ddp a.deps:=Ej;unfold pR at hp;simp only [Bool.and_eq_true,decide_eq_true_eq] at hp;obtain ⟨⟨⟨_,h1⟩,h2⟩,h3⟩:=hp;rw [e3,e4];refine ⟨rfl,by rw [e1,e2];exact h1,?_,by rw [WV];exact h2,?_,Ym (KB _),Wu _,KB _⟩
   ·show CZ ((AX a).rl,(AX a).rh) _=_;rw [e1,e2,DLA a h1]
   ·rw [List.all_eq_true] at h3|-;exact λx hx=>h3 x (Ek.1 hx)
 ·rw [b1,b2,Y,O,U];rfl
theorem FF(h:qP:=by rw [k];simp):qP:=h
theorem FBA{x:Abs}(h:Can c)(hk:x.kinds=c.kinds)(ht:x.tx=c.tx)(hn:x.nu=c.nu)(hd1:x.dl=c.dl)(hd2:x.dh=c.dh)(hb:x.bo=c.bo)(hr1:x.rl=c.rl)(hr2:x.rh=c.rh)(hc:ddp x.cols=c.cols\/(bt c.kinds 5=false))(hd:ddp x.deps=c.deps\/(bt c.kinds 5=false))(he:x.errs=c.errs):AX x=c:=by
 obtain ⟨h0,h1,h2,h3,h4,h5,h6⟩:=h;have p1:pT x=bt c.kinds 1:=by
  unfold pT;rw [hk,ht]
  rcases h1 with ⟨k,h⟩|⟨k,_⟩
  ·rw [k,h.ne];rfl
  ·rw [k];rfl
 have p2:pN x=bt c.kinds 2:=by
  unfold pN;rw [hk,hn]
  rcases h2 with ⟨k,h⟩|⟨k,_⟩
  ·rw [k,h.ne];rfl
  ·rw [k];rfl
 have O:Cy x=Cy c:=(by unfold Cy;rw [hd1,hd2]);have p3:pD x=bt c.kinds 3:=by
  unfold pD;rw [hk,O]
  rcases h3 with ⟨k,h,h'⟩|⟨k,_⟩
  ·rw [k,h'];simpa using h
  ·rw [k];rfl
 have U:boI x=boI c:=(by unfold boI;rw [hb]);have p4:pB x=bt c.kinds 4:=by
  unfold pB;rw [hk,U]
  rcases h4 with ⟨k,h,h'⟩|⟨k,_⟩
  ·rw [k,h'];simpa using h
  ·rw [k];rfl
 have Z:DF x=DF c:=(by unfold DF;rw [hr1,hr2]);have p5:pR x=bt c.kinds 5:=by
  unfold pR;rw [hk,Z]
  rcases h5 with ⟨k,k1,k2,k3,k4,k5,Y,k7⟩|⟨k,_⟩
  ·rcases hc with hc|hc
   ·rw [k,k2,hc,k4];simp [k1,k3]
   ·rw [k] at hc;cases hc
  ·rw [k];rfl
 unfold AX;rw [p1,p2,p3,p4,p5,ht,hn,O,U,Z,he,<-h6];have e1:(if bt c.kinds 1=true then BW c.tx c.tx else H3A)=c.tx:=by
  rcases h1 with ⟨k,h⟩|⟨k,h⟩
  ·rw [if_pos k,h.join]
  ·rw [if_neg FF,h]
 have e2:(if bt c.kinds 2=true then Cc c.nu c.nu else IBA)=c.nu:=by
  rcases h2 with ⟨k,h⟩|⟨k,h⟩
  ·rw [if_pos k,h.join]
  ·rw [if_neg FF,h]
 have e3:(if bt c.kinds 3=true then (Cy c).1 else 1)=c.dl/\(if bt c.kinds 3=true then (Cy c).2 else 0)=c.dh:=by
  rcases h3 with ⟨k,_,h⟩|⟨k,h,h'⟩
  ·rw [if_pos k,if_pos k,h];exact ⟨rfl,rfl⟩
  ·rw [if_neg FF,if_neg FF,h,h'];exact ⟨rfl,rfl⟩
 have e4:(if bt c.kinds 4=true then boI c else 0)=c.bo:=by
  rcases h4 with ⟨k,_,h⟩|⟨k,h⟩
  ·rw [if_pos k,h]
  ·rw [if_neg FF,h]
 have e5:(if bt c.kinds 5=true then (DF c).1 else 1)=c.rl/\(if bt c.kinds 5=true then (DF c).2 else 0)=c.rh/\(if bt c.kinds 5=true then An (ddp x.cols) else [])=c.cols/\(if bt c.kinds 5=true then ddp x.deps else [])=c.deps:=by
  rcases h5 with ⟨k,k1,k2,k3,k4,k5,Y,k7⟩|⟨k,k1,k2,k3,k4⟩
  ·rw [if_pos k,if_pos k,if_pos k,if_pos k,k2];refine ⟨rfl,rfl,?_,?_⟩
   ·rcases hc with hc|hc
    ·rw [hc,Y]
    ·rw [k] at hc;cases hc
   ·rcases hd with hd|hd
    ·exact hd
    ·rw [k] at hd;cases hd
  ·have:¬bt c.kinds 5=true:=FF;rw [if_neg this,if_neg this,if_neg this,if_neg this,k1,k2,k3,k4];exact ⟨rfl,rfl,rfl,rfl⟩
 rw [e1,e2,e3.1,e3.2,e4,e5.1,e5.2.1,e5.2.2.1,e5.2.2.2]
theorem Can.eq(h:Can c):AX c=c:=by
 refine FBA h rfl rfl rfl rfl rfl rfl rfl rfl ?_ ?_ rfl
 ·rcases h.tb with ⟨_,_,_,_,_,k,_,_⟩|⟨k,_⟩
  ·exact Or.inl (WK _ k)
  ·exact Or.inr k
 ·rcases h.tb with ⟨_,_,_,_,_,_,_,k⟩|⟨k,_⟩
  ·exact Or.inl (WK _ k)
  ·exact Or.inr k
theorem Ri(a:Abs):AX (AX a)=AX a:=(FSA a).eq
theorem Ld{α:Type}{p:α->Bool}{l:List α}(h:∀ x∈l,p x=true):l.filter p=l:=List.filter_eq_self.2 h
theorem TQ(a:Abs):DK a.deps a=a.deps:=by
 refine Ld λd hd => ?_;unfold V6;rw [Bool.and_eq_true,Bool.and_eq_true,List.all_eq_true];refine ⟨⟨?_,λx hx => ?_⟩,?_⟩
 ·unfold Eu;rw [Bool.or_eq_true,List.any_eq_true];exact Or.inr ⟨d,hd,AC⟩
 ·unfold Eu;rw [Bool.or_eq_true,List.any_eq_true];exact Or.inr ⟨d,hd,by rw [Bool.or_eq_true,Ao];exact Or.inl hx⟩
 ·unfold JX;exact (@decide_eq_true_iff _ (Classical.propDecidable _)).2 λT h1 h2=>h2 d hd h1
theorem Can.days(h:Can c):c.dl<=c.dh\/(c.dl=1/\c.dh=0):=by
 rcases h.dt with ⟨_,h,_⟩|⟨_,h⟩
 ·exact Or.inl h
 ·exact Or.inr h
theorem Can.rows(h:Can c):c.rl<=c.rh\/(c.rl=1/\c.rh=0):=by
 rcases h.tb with ⟨_,h,_⟩|⟨_,h1,h2,_⟩
 ·exact Or.inl h
 ·exact Or.inr ⟨h1,h2⟩
theorem Can.boIn(h:Can c):Er c.bo:=by
 rcases h.bl with ⟨_,_,h⟩|⟨_,h⟩
 ·rw [<-h];exact CJ _ _ _
 ·rw [h];unfold Er;omega
def noneA:Abs:=⟨0,H3A,IBA,1,0,0,1,0,[],[],false⟩

def ofS(s:BA):Sh:=if Ca s=true then ⟨s.size,s.size,CT (bs s),s,s⟩ else H3A
def NO(k:Int):Int:=if k=0 then 1 else if k=1 then 2 else if k=2 then 4 else if k=3 then 8 else if k=4 then 16 else 32
def CO(v:Val):Abs where
 kinds:=NO v.kind
 tx:=if v.kind=1 then ofS v.s else H3A
 nu:=if v.kind=2 then ⟨v.dn,v.ds,v.dn,v.ds⟩ else IBA
 dl:=if v.kind=3 then v.n else 1
 dh:=if v.kind=3 then v.n else 0
 bo:=if v.kind=4 then (if v.n=0 then 1 else 2) else 0
 rl:=if v.kind=5 then v.rows.length else 1
 rh:=if v.kind=5 then v.rows.length else 0
 cols:=if v.kind=5 then v.cols else []
 deps:=if v.kind=5 then Co v.cols v.rows else []
 errs:=decide (v.kind=0)
def ofA(v:Val):Abs:=if BC v=true then AX (CO v) else noneA
def IF(k:Int):Abs where
 kinds:=if 1<=k/\k<=5 then NO k else 0
 tx:=Sh.full
 nu:=Rg.full
 dl:=0
 dh:=3652058
 bo:=3
 rl:=0
 rh:=100
 cols:=[]
 deps:=[]
 errs:=decide (k=0)
def Cs(k:Int):Abs:=AX (IF k)
theorem Ou(h:BC v=true)(hk:v.kind≠5):BG v=true:=by
 unfold BC at h;rw [if_neg hk] at h;exact h
theorem TA(h:BC v=true)(hk:v.kind=1):Ca v.s=true/\v=⟨1,v.s,0,0,0,[],[]⟩:=by
 have h1:=Ou h AA;unfold BG at h1;rw [if_neg AA,if_pos hk,Bool.and_eq_true] at h1;refine ⟨h1.1,?_⟩;have h2:=h1.2;unfold Cz at h2;simp only [decide_eq_true_eq] at h2;obtain ⟨k,s,a,b,n,c,r⟩:=v;obtain ⟨_,rfl,rfl,rfl,rfl,rfl⟩:=h2;simp only at hk;subst hk;rfl
theorem Tu(h:BC v=true)(hk:v.kind=2):Dz v.dn v.ds=true/\v=⟨2,⟨#[]⟩,v.dn,v.ds,0,[],[]⟩:=by
 have h1:=Ou h AA;unfold BG at h1;rw [if_neg AA,if_neg AA,if_pos hk,Bool.and_eq_true] at h1;refine ⟨h1.1,?_⟩;have h2:=h1.2;unfold Cz at h2;simp only [decide_eq_true_eq] at h2;obtain ⟨k,s,a,b,n,c,r⟩:=v;obtain ⟨rfl,_,_,rfl,rfl,rfl⟩:=h2;simp only at hk;subst hk;rfl
def Cp(a:Abs):Option Val :=
 let c:=AX a
 if c.errs=true then none
 else if c.kinds=2 then (if c.tx.least=c.tx.b.size/\c.tx.most=c.tx.b.size then some ⟨1,c.tx.b,0,0,0,[],[]⟩ else none)
 else if c.kinds=4 then (if c.nu.ln=c.nu.hn/\c.nu.ls=c.nu.hs then some ⟨2,⟨#[]⟩,c.nu.ln,c.nu.ls,0,[],[]⟩ else none)
 else if c.kinds=8 then (if c.dl=c.dh then some ⟨3,⟨#[]⟩,0,0,c.dl,[],[]⟩ else none)
 else if c.kinds=16 then (if c.bo≠3 then some ⟨4,⟨#[]⟩,0,0,c.bo-1,[],[]⟩ else none)
 else none
theorem ZY:bt 2 1=true/\bt 2 2=false/\bt 2 3=false/\bt 2 4=false/\bt 2 5=false:=by decide
theorem AXA:bt 4 1=false/\bt 4 2=true/\bt 4 3=false/\bt 4 4=false/\bt 4 5=false:=by decide
theorem ATA:bt 8 1=false/\bt 8 2=false/\bt 8 3=true/\bt 8 4=false/\bt 8 5=false:=by decide
theorem ZL:bt 16 1=false/\bt 16 2=false/\bt 16 3=false/\bt 16 4=true/\bt 16 5=false:=by decide
theorem D3A(h:Can c)(hk:bt c.kinds 4=true):c.bo=1\/c.bo=2\/c.bo=3:=by
 rcases h.bl with ⟨_,h0,h1⟩|⟨h2,_⟩
 ·have key:∀ i,bt c.bo i=(bt c.bo i&&decide (i<2)):=λi=>by
   have:=Wc c i;rw [h1] at this;exact this
  have hz:=CCA c;rw [h1] at hz;have O:=h.boIn;have up:∀ i,2<=i->bt c.bo i=false:=λi hi=>by
   rw [key i];simp;omega
  cases b0:bt c.bo 0
  ·cases b1:bt c.bo 1
   ·exact absurd (hz.2 ⟨b0,b1⟩) h0
   ·right;left;refine DT O Fb λi _ => ?_
    match i with
    |0=>rw [b0];decide
    |1=>rw [b1];decide
    |k+2 =>
     rw [up _ AA,show (2:Int)=((2^1:Nat):Int) from rfl,Js _ _ AA,eq_comm,decide_eq_false_iff_not];omega
  ·cases b1:bt c.bo 1
   ·left;refine DT O Fb λi _ => ?_
    match i with
    |0=>rw [b0];decide
    |1=>rw [b1];decide
    |k+2 =>
     rw [up _ AA,show (1:Int)=((2^0:Nat):Int) from rfl,Js _ _ AA,eq_comm,decide_eq_false_iff_not];omega
   ·right;right;refine DT O Fb λi _ => ?_
    match i with
    |0=>rw [b0];decide
    |1=>rw [b1];decide
    |k+2 =>
     rw [up _ AA,GmA,eq_comm,decide_eq_false_iff_not];omega
 ·rw [hk] at h2;cases h2
theorem Vr{s:BA}(h:Ca s=true):Aj (ofS s) s=true:=by
 unfold ofS Aj;rw [h];have h1:CM (CT (bs s)) (CT (bs s))=true:=Iy.2 λ_ _ h=>h;have h2:EA s s=true:=Fq.2 (List.prefix_refl _);have h3:EB s s=true:=Fo.2 (List.suffix_refl _);simp [h1,h2,h3]
theorem Um(hk:v.kind=1):(CO v).kinds=2/\(CO v).tx=ofS v.s:=by
 unfold CO NO;simp [hk]
theorem VB(hk:v.kind=2):(CO v).kinds=4/\(CO v).nu=⟨v.dn,v.ds,v.dn,v.ds⟩:=by
 unfold CO NO;simp [hk]
theorem U5(hk:v.kind=3):(CO v).kinds=8/\(CO v).dl=v.n/\(CO v).dh=v.n:=by
 unfold CO NO;simp [hk]
theorem Uw(hk:v.kind=4):(CO v).kinds=16/\(CO v).bo=if v.n=0 then 1 else 2:=by
 unfold CO NO;simp [hk]
theorem VA(hk:v.kind=5):(CO v).kinds=32/\(CO v).rl=v.rows.length/\(CO v).rh=v.rows.length/\(CO v).cols=v.cols/\(CO v).deps=Co v.cols v.rows:=by
 unfold CO NO;simp [hk]
theorem P5{n s:Int}(h:Dz n s=true):BD ⟨n,s,n,s⟩ n s=true:=by
 unfold BD Rg.lo Rg.hi;simp only;rw [h];generalize mu n s=m;simp
theorem UP(hkeys:∀ cols rows,∀ d∈Co cols rows,BH cols rows d.frm d.tov=true)(hr:BC v=true)(h0:v.kind≠0):Ha (CO v) v=true:=by
 unfold Ha
 rcases Dh hr with hk|hk|hk|hk|hk|hk
 ·omega
 ·obtain ⟨ht,_⟩:=TA hr hk;obtain ⟨e1,e2⟩:=Um hk;rw [if_pos hk,e1,e2,Vr ht,ZY.1];rfl
 ·obtain ⟨ht,_⟩:=Tu hr hk;obtain ⟨e1,e2⟩:=VB hk;rw [if_neg AA,if_pos hk,e1,e2,P5 ht,AXA.2.1];rfl
 ·obtain ⟨e1,e2,e3⟩:=U5 hk;rw [if_neg AA,if_neg AA,if_pos hk,e1,e2,e3,ATA.2.2.1,Bool.true_and,decide_eq_true_eq];exact ⟨Int.le_refl _,Int.le_refl _⟩
 ·obtain ⟨e1,e2⟩:=Uw hk;rw [if_neg AA,if_neg AA,if_neg AA,if_pos hk,e1,e2,ZL.2.2.2.1,Bool.true_and]
  rcases Gx hr hk with h|h
  ·rw [h,if_pos rfl];decide
  ·rw [h,if_neg AB];decide
 ·obtain ⟨e1,e2,e3,e4,e5⟩:=VA hk;rw [if_neg AA,if_neg AA,if_neg AA,if_neg AA,e1];have:ED (CO v) v=true:=by
   unfold ED;rw [e2,e3,e4,e5];simp only [Bool.and_eq_true,decide_eq_true_eq,List.all_eq_true];exact ⟨⟨⟨Int.le_refl _,Int.le_refl _⟩,λc hc=>(Ao _ _).2 hc⟩,hkeys _ _⟩
  rw [this,Bool.and_true]
  decide
theorem SU(hkeys:∀ cols rows,∀ d∈Co cols rows,BH cols rows d.frm d.tov=true)(v:Val):AW (ofA v) v=BC v:=by
 cases hr:BC v
 ·unfold AW;rw [hr];rfl
 ·unfold ofA;rw [if_pos hr,CL,DI hr];by_cases h0:v.kind=0
  ·rw [if_pos h0];exact decide_eq_true h0
  ·rw [if_neg h0];exact UP hkeys hr h0

theorem WI(h:cols.Nodup)(hk:k<cols.length):Bt cols cols[k]=k:=by
 refine QN hk (λj hj hlt he => ?_) rfl;have:=(List.getElem_inj h).1 he;omega
theorem I2(h:cols.Nodup)(hk:k<cols.length):cols.getD k ⟨#[]⟩∈cols/\(Bt cols (cols.getD k ⟨#[]⟩)).toNat=k:=by
 rw [BM _ _ _ hk,WI h hk];exact ⟨List.getElem_mem hk,AC⟩
theorem T2{rows:List (List Val)}(hn:cols.Nodup)(hr:EF cols rows=true){s:List Int}(hs:∀ c∈s,0<=c/\c<(cols.length:Int))(hk:F9 rows cols.length (s.map Int.toNat)=true) :
  ∀ d∈Ch cols s cols.length,BH cols rows d.frm d.tov=true:=by
 intro d hd;unfold Ch at hd;obtain ⟨c,hc,rfl⟩:=List.mem_map.1 hd;have U:c<cols.length:=List.mem_range.1 (List.mem_filter.1 hc).1;obtain ⟨g1,g2⟩:=I2 hn U;have Y:∀ f∈Dd cols s,∃ k∈s,f=cols.getD k.toNat ⟨#[]⟩:=by
  intro f hf;obtain ⟨k,h1,h2⟩:=List.mem_map.1 hf;exact ⟨k,h1,h2.symm⟩
 refine EU.2 ⟨g1,hr,λf hf => ?_,λr h1 o h2 h3 => ?_⟩
 ·obtain ⟨k,O,rfl⟩:=Y f hf;have:=hs k O;exact (I2 hn (k:=k.toNat) AA).1
 ·rw [g2];have hh:=(List.all_eq_true.1 hk) c (List.mem_range.2 U);unfold Gk at hh;have hh:=(List.all_eq_true.1 ((List.all_eq_true.1 hh) r h1)) o h2;rw [Bool.or_eq_true,Bool.not_eq_true'] at hh
  rcases hh with hh|hh
  ·exfalso;have ht:((s.map Int.toNat).all λf=>Cx f r o)=true:=by
    rw [List.all_eq_true];intro f hf;obtain ⟨k,O,rfl⟩:=List.mem_map.1 hf;have hb:=hs k O;have:=h3 (cols.getD k.toNat ⟨#[]⟩) (List.mem_map.2 ⟨k,O,rfl⟩);rwa [(I2 hn (k:=k.toNat) AA).2] at this
   rw [ht] at hh;cases hh
  ·exact hh
theorem TD(cols:List BA)(rows:List (List Val)):∀ d∈Co cols rows,BH cols rows d.frm d.tov=true:=by
 unfold Co;cases hc:(!Lw cols||!EF cols rows)
 ·rw [if_neg AC];rw [Bool.or_eq_false_iff,Bool.not_eq_false',Bool.not_eq_false'] at hc;obtain ⟨h1,h2⟩:=hc;have hn:cols.Nodup:=of_decide_eq_true h1;have O:=DIA cols.length;generalize Fz cols.length=l at O|-
  suffices ∀ (l:List (List Int)) (st:List (List Int) × List Dep),(∀ s∈l,∀ c∈s,0<=c/\c<(cols.length:Int))->(∀ d∈st.2,BH cols rows d.frm d.tov=true)->∀ d∈(l.foldl (BN cols rows) st).2,BH cols rows d.frm d.tov=true from this l ([],[]) O AC
  intro l
  induction l with
  |nil=>intro st _ h;exact h
  |cons s m ih =>
   intro st hl h;rw [List.foldl_cons];refine ih _ (λx hx=>hl x (List.mem_cons_of_mem _ hx)) ?_;unfold BN;split
   ·exact h
   ·split
    ·exact h
    ·rename_i hk;intro d hd
     rcases List.mem_append.1 hd with hd|hd
     ·exact h d hd
     ·exact T2 hn h2 (hl s AC) (by simpa using hk) d hd
 ·rw [if_pos rfl];intro d hd;cases hd
theorem Ke(v:Val):AW (ofA v) v=BC v:=SU TD v

theorem Au{S:NP}{w ws w9:World}(hx:Ext w ws)(hb:ButS S ws w9)(hS:∀ b,S b->w.heap.size<=b):Ext w w9 :=
 ⟨hb.os.trans hx.os,hb.tape.trans hx.tape,hb.output.trans hx.output,Nat.le_trans hx.size hb.size,λb h=>(hb.block b (Nat.lt_of_lt_of_le h hx.size) λhs=>by have:=hS b hs;omega).trans (hx.block b h)⟩
theorem H6A(w:World)(o:Obj)(t:Nat)(cs:Array Value):Blk ((w.alloc o).alloc (.cells cs t)) (w.heap.size+1) t cs:=by
 have h:=Blk.new (w.alloc o) t cs;rwa [show (w.alloc o).heap.size=w.heap.size+1 by simp] at h
theorem ICA(w:World)(o o':Obj)(t:Nat)(cs:Array Value):Blk (((w.alloc o).alloc o').alloc (.cells cs t)) (w.heap.size+2) t cs:=by
 have h:=Blk.new ((w.alloc o).alloc o') t cs;rwa [show ((w.alloc o).alloc o').heap.size=w.heap.size+2 by simp] at h
def Em(w:World)(r:Rg)(e:Ending)(w':World):Prop:=e=.returned (Rq r)/\Ext w w'
theorem LY(h:qP:=by
 unfold CG;exact MS):qP:=h
theorem Sb(a b:Int):decide (CG a b > 0)=decide (b<a):=by
 exact LY
theorem XT(a b:Int):decide (CG a b<=0)=decide (a<=b):=by
 exact LY
theorem DiA(a b:Int):decide (CG a b<0)=decide (a<b):=by
 exact LY
theorem O0(w:World):Cl 206 #[] w (Em w IBA):=by
 go_enter func206,ntmps206
 go_wp2;refine bodyPost_ret (v:=(Rq IBA)) (by simp [results,results206,go_sem,IBA]) rfl ⟨rfl,?_⟩;exact (exaa w)
theorem Vg(w:World):Cl 63 #[] w (Em w Rg.full):=by
 go_enter func63,ntmps63
 go_wp2;refine bodyPost_ret (v:=(Rq Rg.full)) (by simp [results,results63,go_sem,Rg.full]) rfl ⟨rfl,?_⟩;exact (exaa w)
theorem Oj(h:qP:=by
 rintro e1 w1 ⟨rfl,hx1⟩;have HX:=Hd ((exaa w).trans hx1);clear hx1
 go_wp2_with fail
 go_ret;exact ⟨by rw [HE.o];rfl,HX.o⟩):qP:=h
theorem Ct(r:Rg)(w:World)(ht:Tens w):Cl 156 #[(Rq r)] w (Ae w (BF r)):=by
 obtain ⟨HC,HT,HE⟩:=Hd3 (λw' (h:Tens w')=>DS r.ln r.ls r.hn r.hs w' h) ht (show BF r=decide (CG (mu r.ln r.ls) (mu r.hn r.hs) > 0) by rw [Sb];rfl);generalize CG (mu r.ln r.ls) (mu r.hn r.hs)=z at *;clear ht
 go_enter func156,ntmps156
 go_wp2_with fail
 refine (HC.o _ (HT.o.ext (exaa w))).mono ?_;exact Oj
theorem Lv(h:qP:=by
 go_ret;exact ⟨by rw [HF.o];rfl,HX.o⟩):qP:=h
theorem MQ(h:qP:=by
 go_wp2_with fail
 exact Lv):qP:=h
theorem UV(h:qP:=by
 go_wp2_with fail
 refine (HC2.o _ HT2.o).mono ?_;rintro e3 w3 ⟨rfl,hx3⟩;have HX3:=Hd (HX2.o.trans hx3);clear hx3
 go_wp2_with fail
 go_ret;exact ⟨by rw [HF.o];rfl,HX3.o⟩):qP:=h
theorem LS(h:qP:=by
 go_wp2_with fail
 go_ret;exact ⟨by rw [HF.o];rfl,HX2.o⟩):qP:=h
theorem M4(r:Rg)(n s:Int)(w:World)(ht:Tens w):Cl 53 #[(Rq r),.agg #[.I n,.I s]] w (Ae w (BD r n s)):=by
 obtain ⟨HC1,HC2,HD,HT,HE⟩:=Hd5 (λw' (h:Tens w')=>DS r.ln r.ls n s w' h) (λw' (h:Tens w')=>DS n s r.hn r.hs w' h) (λw'=>Ff n s w') ht (show BD r n s=(Dz n s&&decide (CG (mu r.ln r.ls) (mu n s)<=0)&&decide (CG (mu n s) (mu r.hn r.hs)<=0)) by rw [XT,XT];rfl);generalize CG (mu r.ln r.ls) (mu n s)=z at *;generalize CG (mu n s) (mu r.hn r.hs)=y at *;generalize Dz n s=b at *;clear ht
 go_enter func53,ntmps53
 go_wp2_with fail
 refine (HD.o _).mono ?_;rintro e1 w1 ⟨rfl,hx1⟩;have HX:=Hd ((exbb w).trans hx1);have hb1:=(Blk.new w 34 (Rp r)).keep (((exaa _).trans hx1).kept _);have hb2:=(H6A w (.cells (Rp r) 34) 25 #[.I n,.I s]).keep (hx1.kept _);obtain ⟨q0,q1,q2,q3⟩:=hb1.qs4;obtain ⟨q4,q5⟩:=hb2.qs2;have HT1:=Hd (HT.o.ext HX.o);clear hx1 hb1 hb2;cases b
 ·have HF:=Hd (show BD r n s=false by rw [HE.o];rfl);exact MQ
 go_wp2_with fail
 refine (HC1.o _ HT1.o).mono ?_;rintro e2 w2 ⟨rfl,hx2⟩;have HX2:=Hd (HX.o.trans hx2);have HT2:=Hd (HT1.o.ext hx2);have q0:=hx2.cell q0;have q1:=hx2.cell q1;have q2:=hx2.cell q2;have q3:=hx2.cell q3;have q4:=hx2.cell q4;have q5:=hx2.cell q5;clear hx2;by_cases hz:z<=0
 ·have HF:=Hd (show BD r n s=decide (y<=0) by rw [HE.o,decide_eq_true hz];rfl);exact UV
 ·have HF:=Hd (show BD r n s=false by rw [HE.o,decide_eq_false hz];rfl);exact LS
def Fu(w:World)(p:Int × Int)(e:Ending)(w':World):Prop:=e=.returned (.agg #[.I p.1,.I p.2])/\Ext w w'
theorem Jr(n s:Int)(w:World):Cl 207 #[.agg #[.I n,.I s]] w (Fu w (Bg n s)):=by
 have HD:=Hd (λw'=>Ff n s w');obtain ⟨w0,hw0⟩:=eqx ((w.alloc (.cells #[.I n,.I s] 25)).alloc (.cells #[.I 0,.I 0] 25));cases hd:Dz n s
 all_goals
  have HV:=Hd (show Bg n s=if Dz n s=true then (n,s) else (0,0) from rfl);rw [hd] at HD HV;clear hd hw0
  go_enter func207,ntmps207
  go_wp2_with fail
  refine (HD.o _).mono ?_;rintro e1 w1 ⟨rfl,hx1⟩;have hb1:=(Blk.new w 25 #[.I n,.I s]).keep (((exaa _).trans hx1).kept _);have hb2:=(H6A w (.cells #[.I n,.I s] 25) 25 #[.I 0,.I 0]).keep (hx1.kept _);obtain ⟨q0,q1⟩:=hb1.qs2;obtain ⟨q2,q3⟩:=hb2.qs2;have qf:=hb2.frozen;have ql:=hb2.lt;have HX:=Hd ((exbb w).trans hx1);clear hx1 hb1 hb2
  go_wp2_with fail
  rw [HV.o]
 ·refine bodyPost_ret (v:=.agg #[.I 0,.I 0]) (by simp [results,results207,go_sem,q2,q3]) rfl ⟨rfl,?_⟩;exact BT
 ·refine bodyPost_ret (v:=.agg #[.I n,.I s]) (by simp [results,results207,go_sem,q2,q3]) rfl ⟨rfl,?_⟩;exact BT
theorem IQ(h:qP:=by have:=HD.o;omega):qP:=h
theorem JT(n s n' s':Int)(w:World)(ht:Tens w):Cl 157 #[.agg #[.I n,.I s],.agg #[.I n',.I s']] w (Fu w (CU n s n' s')):=by
 obtain ⟨HC,HT,HE⟩:=Hd3 (λw' (h:Tens w')=>DS n' s' n s w' h) (ht.ext ((((Ext.refl w).alloc (.cells #[.I n,.I s] 25)).alloc (.cells #[.I n',.I s'] 25)).alloc (.cells #[.I 0,.I 0] 25))) (show CU n s n' s'=if decide (CG (mu n' s') (mu n s)<0)=true then (n',s') else (n,s) by rw [DiA];simp only [decide_eq_true_eq];rfl);generalize CG (mu n' s') (mu n s)=z at *;clear ht;by_cases hz:z<0
 all_goals
  have HD:=Hd hz
  go_enter func157,ntmps157
  go_wp2_with fail
  refine (HC.o _ HT.o).mono ?_;rintro e1 w1 ⟨rfl,hx1⟩;have hb1:=(Blk.new w 25 #[.I n,.I s]).keep (((exbb _).trans hx1).kept _);have hb2:=(H6A w (.cells #[.I n,.I s] 25) 25 #[.I n',.I s']).keep (((exaa _).trans hx1).kept _);have O:=(ICA w (.cells #[.I n,.I s] 25) (.cells #[.I n',.I s'] 25) 25 #[.I 0,.I 0]).keep (hx1.kept _);obtain ⟨q0,q1⟩:=hb1.qs2;obtain ⟨q2,q3⟩:=hb2.qs2;obtain ⟨q4,q5⟩:=O.qs2;have qf:=O.frozen;have ql:=O.lt;have HX:=Hd ((excc w).trans hx1);clear hx1 hb1 hb2 O
  go_wp2_with fail
  rw [HE.o]
 ·rw [decide_eq_true IQ,if_pos rfl];refine bodyPost_ret (v:=.agg #[.I n',.I s']) (by simp [results,results157,go_sem,q4,q5]) rfl ⟨rfl,?_⟩;exact BT
 ·rw [decide_eq_false IQ,if_neg AC];refine bodyPost_ret (v:=.agg #[.I n,.I s]) (by simp [results,results157,go_sem,q4,q5]) rfl ⟨rfl,?_⟩;exact BT
theorem Hy(n s n' s':Int)(w:World)(ht:Tens w):Cl 158 #[.agg #[.I n,.I s],.agg #[.I n',.I s']] w (Fu w (Bm n s n' s')):=by
 obtain ⟨HC,HT,HE⟩:=Hd3 (λw' (h:Tens w')=>DS n' s' n s w' h) (ht.ext ((((Ext.refl w).alloc (.cells #[.I n,.I s] 25)).alloc (.cells #[.I n',.I s'] 25)).alloc (.cells #[.I 0,.I 0] 25))) (show Bm n s n' s'=if decide (CG (mu n' s') (mu n s) > 0)=true then (n',s') else (n,s) by rw [Sb];simp only [decide_eq_true_eq];rfl);generalize CG (mu n' s') (mu n s)=z at *;clear ht;by_cases hz:z > 0
 all_goals
  have HD:=Hd hz
  go_enter func158,ntmps158
  go_wp2_with fail
  refine (HC.o _ HT.o).mono ?_;rintro e1 w1 ⟨rfl,hx1⟩;have hb1:=(Blk.new w 25 #[.I n,.I s]).keep (((exbb _).trans hx1).kept _);have hb2:=(H6A w (.cells #[.I n,.I s] 25) 25 #[.I n',.I s']).keep (((exaa _).trans hx1).kept _);have O:=(ICA w (.cells #[.I n,.I s] 25) (.cells #[.I n',.I s'] 25) 25 #[.I 0,.I 0]).keep (hx1.kept _);obtain ⟨q0,q1⟩:=hb1.qs2;obtain ⟨q2,q3⟩:=hb2.qs2;obtain ⟨q4,q5⟩:=O.qs2;have qf:=O.frozen;have ql:=O.lt;have HX:=Hd ((excc w).trans hx1);clear hx1 hb1 hb2 O
  go_wp2_with fail
  rw [HE.o]
 ·rw [decide_eq_true IQ,if_pos rfl];refine bodyPost_ret (v:=.agg #[.I n',.I s']) (by simp [results,results158,go_sem,q4,q5]) rfl ⟨rfl,?_⟩;exact BT
 ·rw [decide_eq_false IQ,if_neg AC];refine bodyPost_ret (v:=.agg #[.I n,.I s]) (by simp [results,results158,go_sem,q4,q5]) rfl ⟨rfl,?_⟩;exact BT
theorem FE(h:qP:=by
 rintro l γ w1 γ' w2 rr ⟨h1,h2⟩;refine ⟨h1.keep (rr.keptS λb _ e m hm => ?_),rr.done _ h2⟩;rw [hm.1,h2,rr.done _ h2]):qP:=h
theorem Kv(h:qP:=by
 have hb1:=((((HB0.o.set 0 (.I u1)).set 1 (.I u2)).set 2 (.I v1)).set 3 (.I v2))
 simpa using hb1):qP:=h
theorem AU(h:qP:=by simp [Gz.put]):qP:=h
theorem DE(r:Rg)(w:World)(ht:Tens w):Cl 155 #[(Rq r)] w (Em w (CI r)):=by
 obtain ⟨w0,hw0⟩:=eqx ((w.alloc (.cells (Rp r) 34)).alloc (.cells #[.I 0,.I 0,.I 0,.I 0] 34));have hx0:Ext w w0:=Bh;have hb1:Blk w0 w.heap.size 34 (Rp r):=(by rw [hw0];exact (Blk.new _ _ _).keep ((exaa _).kept _));have hb2:Blk w0 (w.heap.size+1) 34 #[.I 0,.I 0,.I 0,.I 0]:=(by rw [hw0];exact H6A _ _ _ _);obtain ⟨HT0,HE,HN⟩:=Hd3 (ht.ext hx0) (λw' (h:Tens w')=>Ct r w' h) (show CI r=if BF r=true then IBA else ⟨(Bg r.ln r.ls).1,(Bg r.ln r.ls).2,(Bg r.hn r.hs).1,(Bg r.hn r.hs).2⟩ from rfl);obtain ⟨⟨u1,u2⟩,hu⟩:=eqx (Bg r.ln r.ls);obtain ⟨⟨v1,v2⟩,hv⟩:=eqx (Bg r.hn r.hs);have HR1:=Hd (show ∀ w',Cl 207 #[.agg #[.I r.ln,.I r.ls]] w' (Fu w' (u1,u2)) from λw'=>by rw [hu];exact Jr _ _ w');have HR2:=Hd (show ∀ w',Cl 207 #[.agg #[.I r.hn,.I r.hs]] w' (Fu w' (v1,v2)) from λw'=>by rw [hv];exact Jr _ _ w');rw [<-hu,<-hv] at HN;obtain ⟨HX0,Y,HB1,U⟩:=Hd4 hx0 hw0 hb1 hb2;obtain ⟨g2,hg2⟩:=eqx (w.heap.size+1);obtain ⟨q0,q1,q2,q3⟩:=hb1.qs4;generalize BF r=b at *;have HGG:=Hd hg2;clear ht hx0 hw0 hb1 hb2 hu hv hg2
 go_enter func155,ntmps155
 go_wp2_with fail
 rw [<-Y.o,<-HGG.o];refine (HE.o _ HT0.o).mono ?_;rintro e1 w1 ⟨rfl,hx1⟩;have HX1:=Hd (HX0.o.trans hx1);have hb2:=U.o.keep (hx1.kept _);rw [<-HGG.o] at hb2;obtain ⟨HB2,k0,k1,k2,k3,HG2⟩:=Hd6 hb2 (hx1.cell q0) (hx1.cell q1) (hx1.cell q2) (hx1.cell q3) (show w.heap.size<=g2 by rw [HGG.o];omega);clear hx1 hb2 q0 q1 q2 q3 HB1 U Y;cases b
 ·go_upto_region 3 with fail
  refine Qa (λm b=>(m=1007/\b=g2)) (lk 8 [1007]) ?_
  iterate 2 refine Qp ?_
  refine Qc (x:=.agg #[.I u1,.I u2]) (λw'=>HR1.o w') ?_
  iterate 2 refine Qp ?_
  refine Qc (x:=.agg #[.I v1,.I v2]) (λw'=>HR2.o w') ?_;refine Qp ?_;refine Qs (λ_ γ w'=>Blk w' g2 34 #[.I u1,.I u2,.I v1,.I v2]/\γ 1007=true) ?_ ?_ ?_
  ·exact FE
  ·intro vals γ w' ρ hR hN hp hρ zs zg;have O:=hN.o.key (k:=1007) AB;have hb0:=HB2.o.keep (hR.o.kept0 (S:=λb=>b=g2) λb _ e m hm=>by
    rw [hm.1];exact O)
   have HB0:=Hd hb0;have HK:=Hd O;obtain ⟨q0,q1,q2,q3⟩:=hb0.qs4;have qf:=hb0.frozen;have ql:=hb0.lt;clear hb0 O;refine Qr ?_;refine ⟨γ.put 1007,H2A HK.o rfl rfl rfl Y78171d3d0 (λb hb hm=>(((((Only.refl g2 w').set 0 (.I u1)).set 1 (.I u2)).set 2 (.I v1)).set 3 (.I v2)).block b λe=>hm (⟨rfl,e⟩)),LK.done AB,?_,AU⟩;exact Kv
  intro vals γ w9 hR hG;refine Qx ?_;obtain ⟨Z,-⟩:=hG 7 AB;have a8:=Hd Z;clear Z;have HXN:=Hd (show Ext w w9 from Au HX1.o (hR.buts (S:=λb=>b=g2) (λm b _ hm _=>hm.2)) (λb hb=>by
   rw [hb];exact HG2.o))
  clear hR hG;obtain ⟨r0,r1,r2,r3⟩:=a8.o.qs4;go_wp2;rw [HN.o,if_neg AC];exact bodyPost_ret (v:=.agg #[.I u1,.I u2,.I v1,.I v2]) (by simp [results,results155,go_sem,r0,r1,r2,r3]) rfl ⟨rfl,HXN.o⟩
 ·go_wp2_with fail
  refine (O0 _).mono ?_;rintro e2 w2 ⟨rfl,hx2⟩;have HX2:=Hd (HX1.o.trans hx2);have hb2:=HB2.o.keep (hx2.kept _);obtain ⟨r0,r1,r2,r3⟩:=hb2.qs4;have qf:=hb2.frozen;have ql:=hb2.lt;clear hx2 hb2
  go_wp2_with fail
  rw [HN.o,if_pos trivial];refine bodyPost_ret (v:=(Rq IBA)) (by simp [results,results155,go_sem,r0,r1,r2,r3]) rfl ⟨rfl,?_⟩
  iterate 4 with_reducible refine Ext.set2 ?_ HG2.o _
  with_reducible exact HX2.o
theorem RK(h:qP:=by
 rcases hm with ⟨rfl,_⟩|⟨rfl,_⟩
 ·exact hk1004
 ·exact hk1005):qP:=h
theorem DP(h:qP:=by
 exact ⟨_,he,γ,H4A _ γ hx,λ_ _ _ h=>h,rfl⟩):qP:=h
theorem DR(h:qP:=by
 rintro e1 w3 ⟨he,hx⟩;exact DP):qP:=h
theorem U9(h:qP:=by
 intro vals γ w' ρ hR hN hp hρ zs zg;have hk1004:=hN.o.key (k:=1004) (by decide);have hk1005:=hN.o.key (k:=1005) (by decide);have hxx:=hR.o.ext0 (λm b _ hm=>by
  exact RK)
 have HXW:=Hd hxx;clear hxx hk1004 hk1005;have HR:=hR;refine Qr ?_;refine (HN1.o w' (HT0.o.ext HXW.o)).mono ?_;exact DR):qP:=h
theorem Mg(h:qP:=by
 exact absurd (e.symm.trans e2) HNE2.o):qP:=h
theorem ZB(h:qP:=by
 rcases hm with ⟨rfl,e2⟩|⟨rfl,e2⟩
 ·exact Mg
 ·exact hkx):qP:=h
theorem TY(h:qP:=by
 have hkx:=hN.o.key (k:=1005) (by decide);have hbx:=HB3.o.keep (hR.o.kept0 (S:=λb=>b=g3) λb _ e m hm=>by
  exact ZB)
 obtain ⟨x0,x1,x2,x3⟩:=hbx.qs4;clear hkx hbx;exact Qk):qP:=h
theorem Sa(h:qP:=by
 intro vals γ w' ρ hR hN hp hρ zs zg;have hk1004:=hN.o.key (k:=1004) (by decide);have hk1005:=hN.o.key (k:=1005) (by decide);have hxx:=hR.o.ext0 (λm b _ hm=>by
  exact RK)
 have HXW:=Hd hxx;clear hxx hk1004 hk1005;have HR:=hR;refine Qr ?_;refine (HN2.o w' (HT0.o.ext HXW.o)).mono ?_;exact DR):qP:=h
theorem Te(h:qP:=by
 exact absurd (e.symm.trans e2) HNE.o):qP:=h
theorem PK(h:qP:=by
 rintro l γ w1 γ' w2 rr ⟨h1,h2⟩;refine ⟨h1.keep (rr.keptS λb _ e m hm => ?_),rr.done _ h2⟩
 rcases hm with ⟨rfl,e2⟩|⟨rfl,e2⟩
 ·rw [h2,rr.done _ h2]
 ·exact Te):qP:=h
theorem Zx(h:qP:=by
 rcases hm with ⟨rfl,e2⟩|⟨rfl,e2⟩
 ·exact hk1004
 ·exact Te):qP:=h
theorem Tb(h:qP:=by
 intro vals γ w' ρ hR hN hp hρ zs zg;have e2:=hρ.o 2;(conv at e2=>rhs;whnf);have hk1004:=hN.o.key (k:=1004) (by decide);have hk1005:=hN.o.key (k:=1005) (by decide);have hb0:=HB2.o.keep (hR.o.kept0 (S:=λb=>b=g2) λb _ e m hm=>by
  exact Zx)
 have HB0:=Hd hb0;have HK:=Hd hk1004;obtain ⟨q0,q1,q2,q3⟩:=hb0.qs4;have qf:=hb0.frozen;have ql:=hb0.lt;clear hb0 hk1004 hk1005;refine Qr ?_;refine ⟨γ.put 1004,H2A HK.o rfl rfl rfl (by simp [World.setCell]) (λb hb hm=>(((((Only.refl g2 w').set 0 (.I x.ln)).set 1 (.I x.ls)).set 2 (.I x.hn)).set 3 (.I x.hs)).block b λe=>hm (.inl ⟨rfl,e⟩)),LK.done (by decide),?_,by simp [Gz.put]⟩;have hb1:=((((HB0.o.set 0 (.I x.ln)).set 1 (.I x.ls)).set 2 (.I x.hn)).set 3 (.I x.hs))
 simpa using hb1):qP:=h
theorem R1(h:qP:=by
 rintro l γ w1 γ' w2 rr ⟨h1,h2⟩;refine ⟨h1.keep (rr.keptS λb _ e m hm => ?_),rr.done _ h2⟩
 rcases hm with ⟨rfl,e2⟩|⟨rfl,e2⟩
 ·exact Mg
 ·rw [h2,rr.done _ h2]):qP:=h
theorem ALA(h:qP:=by
 rcases hm with ⟨rfl,e2⟩|⟨rfl,e2⟩
 ·exact Mg
 ·exact hk1005):qP:=h
theorem Ua(h:qP:=by
 intro vals γ w' ρ hR hN hp hρ zs zg;have hk1005:=hN.o.key (k:=1005) (by decide);have hb0:=HB3.o.keep (hR.o.kept0 (S:=λb=>b=g3) λb _ e m hm=>by
  exact ALA)
 have HB0:=Hd hb0;have HK:=Hd hk1005;obtain ⟨q0,q1,q2,q3⟩:=hb0.qs4;have qf:=hb0.frozen;have ql:=hb0.lt;clear hb0 hk1005;refine Qr ?_;refine ⟨γ.put 1005,H2A HK.o rfl rfl rfl (by simp [World.setCell]) (λb hb hm=>(((((Only.refl g3 w').set 0 (.I y.ln)).set 1 (.I y.ls)).set 2 (.I y.hn)).set 3 (.I y.hs)).block b λe=>hm (.inr ⟨rfl,e⟩)),LK.done (by decide),?_,by simp [Gz.put]⟩;have hb1:=((((HB0.o.set 0 (.I y.ln)).set 1 (.I y.ls)).set 2 (.I y.hn)).set 3 (.I y.hs))
 simpa using hb1):qP:=h
theorem RA(h:qP:=by
 rcases hm with ⟨rfl,e2⟩|⟨rfl,e2⟩
 ·exact absurd (e.symm.trans e2) HN42.o
 ·exact absurd (e.symm.trans e2) HN43.o):qP:=h
theorem O5(h:qP:=by
 rcases hb with hb|hb
 ·rw [hb];exact HG2.o
 ·rw [hb];exact HG3.o):qP:=h
theorem Sj(h:qP:=by
 have HR:=hR;refine Qr ?_;refine (HLS.o w' (HT5.o.ext HXW.o)).mono ?_;exact DR):qP:=h
theorem VR(h:qP:=by
 have HR:=hR;refine Qr ?_;refine (HGR.o w' (HT5.o.ext HXW.o)).mono ?_;exact DR):qP:=h
theorem FH(h:qP:=by rw [hw0];exact (Blk.new _ _ _).keep ((exbb _).kept _)):qP:=h
theorem Fc(h:qP:=by rw [hw0];exact (H6A _ _ _ _).keep ((exaa _).kept _)):qP:=h
theorem GP(h:qP:=by rw [hw0];exact ICA _ _ _ _ _):qP:=h
theorem KG(a b:Rg)(w:World)(ht:Tens w):Cl 82 #[(Rq a),(Rq b)] w (Em w (Cc a b)):=by
 obtain ⟨w0,hw0⟩:=eqx (((w.alloc (.cells (Rp a) 34)).alloc (.cells (Rp b) 34)).alloc (.cells #[.I 0,.I 0,.I 0,.I 0] 34));have hx0:Ext w w0:=CC;have hb2:Blk w0 w.heap.size 34 (Rp a):=FH;have U:Blk w0 (w.heap.size+1) 34 (Rp b):=Fc;have hb4:Blk w0 (w.heap.size+2) 34 #[.I 0,.I 0,.I 0,.I 0]:=GP;obtain ⟨g2,hg2⟩:=eqx w.heap.size;obtain ⟨g3,hg3⟩:=eqx (w.heap.size+1);obtain ⟨Y,hg4⟩:=eqx (w.heap.size+2);rw [<-hg2] at hb2;rw [<-hg3] at U;rw [<-hg4] at hb4;obtain ⟨HNE,HNE2,HN42,HN43,HN24,HN34,HG2,HG3⟩:=Hd8 (show g2≠g3 by omega) (show g3≠g2 by omega) (show Y≠g2 by omega) (show Y≠g3 by omega) (show g2≠Y by omega) (show g3≠Y by omega) (show w.heap.size<=g2 by omega) (show w.heap.size<=g3 by omega);obtain ⟨HG4,k0,k1,k2,k3,k4,k5,k6⟩:=Hd8 (show w.heap.size<=Y by omega) (hb2.q0) (hb2.q1) (hb2.q2) (hb2.q3) (U.q0) (U.q1) (U.q2);obtain ⟨k7,HT0,HTW⟩:=Hd3 (U.q3) (ht.ext hx0) ht;obtain ⟨x,hx⟩:=eqx (CI a);obtain ⟨y,hy⟩:=eqx (CI b);obtain ⟨HN1,HN2,HE1,HEY⟩:=Hd4 (show ∀ w',Tens w'->Cl 155 #[(Rq a)] w' (Em w' x) from λw' h=>by rw [hx];exact DE a w' h) (show ∀ w',Tens w'->Cl 155 #[(Rq b)] w' (Em w' y) from λw' h=>by rw [hy];exact DE b w' h) (λw' (h:Tens w')=>Ct x w' h) (λw' (h:Tens w')=>Ct y w' h);obtain ⟨⟨u1,u2⟩,hu⟩:=eqx (CU x.ln x.ls y.ln y.ls);obtain ⟨⟨v1,v2⟩,hv⟩:=eqx (Bm x.hn x.hs y.hn y.hs);have HLS:=Hd (show ∀ w',Tens w'->Cl 157 #[.agg #[.I x.ln,.I x.ls],.agg #[.I y.ln,.I y.ls]] w' (Fu w' (u1,u2)) from λw' h=>by rw [hu];exact JT _ _ _ _ w' h);have HGR:=Hd (show ∀ w',Tens w'->Cl 158 #[.agg #[.I x.hn,.I x.hs],.agg #[.I y.hn,.I y.hs]] w' (Fu w' (v1,v2)) from λw' h=>by rw [hv];exact Hy _ _ _ _ w' h);have HJ:=Hd (show Cc a b=if BF x=true then y else if BF y=true then x else ⟨u1,u2,v1,v2⟩ from by
  have h1:u1=(CU x.ln x.ls y.ln y.ls).1:=congrArg Prod.fst hu;have h2:u2=(CU x.ln x.ls y.ln y.ls).2:=congrArg Prod.snd hu;have h3:v1=(Bm x.hn x.hs y.hn y.hs).1:=congrArg Prod.fst hv;have h4:v2=(Bm x.hn x.hs y.hn y.hs).2:=congrArg Prod.snd hv;rw [h1,h2,h3,h4,hx,hy];rfl)
 generalize BF x=b1 at *;generalize BF y=b2 at *;clear hu hv;obtain ⟨HX0,HB2,HB3,HB4,d3,HE2,HE3,HE4⟩:=Hd8 hx0 hb2 U hb4 hw0 hg2 hg3 hg4;clear ht hx0 hw0 hb2 U hb4 hg2 hg3 hg4 hx hy
 go_enter func82,ntmps82
 go_upto_region 1 with fail
 rw [<-d3.o,show w.heap.size+1+1=Y from HE4.o.symm,<-HE3.o,<-HE2.o];refine Qa (λm b=>(m=1004/\b=g2)\/(m=1005/\b=g3)) [(0,[1004,1005]),(1,[1004,1005]),(2,[1005]),(3,[1004,1005]),(4,[1004,1005]),(5,[1005])] ?_;refine Qp ?_;refine Qg (Rq x) ?_ ?_
 ·exact U9
 refine Qm (λvals γ w' ρ hR hN hp hρ zs zg=>by
  exact TY) ?_
 refine Qg (Rq y) ?_ ?_
 ·exact Sa
 refine Qs (λ_ γ w'=>Blk w' g2 34 (Rp x)/\γ 1004=true) ?_ ?_ ?_
 ·exact PK
 ·exact Tb
 refine Qs (λ_ γ w'=>Blk w' g3 34 (Rp y)/\γ 1005=true) ?_ ?_ ?_
 ·exact R1
 ·exact Ua
 intro vals γ w9 hR hG;refine Qx ?_;obtain ⟨hb4,-⟩:=hG 4 AB;have Z:=Hd hb4;clear hb4;obtain ⟨b6,-⟩:=hG 5 AB;have a9:=Hd b6;clear b6;have b7:=HB4.o.keep (hR.kept0 (S:=λb=>b=Y) λb _ e m hm=>by
  exact RA)
 have b3:=Hd b7;clear b7;have HXN:=Hd (show Ext w w9 from Au HX0.o (hR.buts (S:=λb=>b=g2\/b=g3) (λm b _ hm _=>hm.imp And.right And.right)) (λb hb=>by
  exact O5))
 clear hR hG;obtain ⟨w1,hw1⟩:=eqx w9;rw [<-hw1] at HXN Z a9 b3|-;clear hw1 d3 HB2 HB3 HB4 k0 k1 k2 k3 k4 k5 k6 k7;have HT1:=Hd (HTW.o.ext HXN.o);obtain ⟨m0,m1,m2,m3⟩:=Z.o.qs4
 go_wp2_with fail
 refine (HE1.o _ HT1.o).mono ?_;rintro e2 w2 ⟨rfl,hx2⟩;have HX2:=Hd (HXN.o.trans hx2);have U:=a9.o.keep (hx2.kept _);have hb2:=Z.o.keep (hx2.kept _);have hb4:=b3.o.keep (hx2.kept _);obtain ⟨b9,b8,b5⟩:=Hd3 hb2 U hb4;obtain ⟨m4,m5,m6,m7⟩:=U.qs4;obtain ⟨r0,r1,r2,r3⟩:=hb4.qs4;have qf:=hb4.frozen;have ql:=hb4.lt;have HT2:=Hd (HT1.o.ext hx2);clear hx2 hb2 U hb4 m0 m1 m2 m3;cases b1
 ·go_wp2_with fail
  refine (HEY.o _ HT2.o).mono ?_;rintro e3 w3 ⟨rfl,hx3⟩;have HX5:=Hd (HX2.o.trans hx3);have U:=b8.o.keep (hx3.kept _);have hb2:=b9.o.keep (hx3.kept _);have hb4:=b5.o.keep (hx3.kept _);obtain ⟨HT5,a8,j0,j1,j2,j3,j4,j5⟩:=Hd8 (HT2.o.ext hx3) hb4 (hb2.q0) (hb2.q1) (hb2.q2) (hb2.q3) (U.q0) (U.q1);have j6:=Hd (U.q2);have j7:=Hd (U.q3);have qf:=hb4.frozen;have ql:=hb4.lt;clear hx3 hb2 U hb4 m4 m5 m6 m7 r0 r1 r2 r3 b9 b8 b5;obtain ⟨w5,d4⟩:=eqx w3;rw [<-d4] at HX5 HT5 a8 j0 j1 j2 j3 j4 j5 j6 j7 qf ql|-;clear d4;cases b2
  ·go_upto_region 6 with fail
   refine Qa (λm b=>(m=1011/\b=Y)) (lk 12 [1011]) ?_
   iterate 4 refine Qp ?_
   refine Qg (.agg #[.I u1,.I u2]) ?_ ?_
   ·intro vals γ w' ρ hR hN hp hρ zs zg;have O:=hN.o.key (k:=1011) AB;have hxx:=hR.o.ext0 (λm b _ hm=>by
     rcases hm with ⟨rfl,_⟩
     ·exact O)
    have HXW:=Hd hxx;clear hxx O;exact Sj
   iterate 4 refine Qp ?_
   refine Qg (.agg #[.I v1,.I v2]) ?_ ?_
   ·intro vals γ w' ρ hR hN hp hρ zs zg;have O:=hN.o.key (k:=1011) AB;have hxx:=hR.o.ext0 (λm b _ hm=>by
     rcases hm with ⟨rfl,_⟩
     ·exact O)
    have HXW:=Hd hxx;clear hxx O;exact VR
   refine Qp ?_;refine Qs (λ_ γ w'=>Blk w' Y 34 #[.I u1,.I u2,.I v1,.I v2]/\γ 1011=true) ?_ ?_ ?_
   ·exact FE
   ·intro vals γ w' ρ hR hN hp hρ zs zg;have O:=hN.o.key (k:=1011) AB;have hb0:=a8.o.keep (hR.o.kept0 (S:=λb=>b=Y) λb _ e m hm=>by
     rw [hm.1];exact O)
    have HB0:=Hd hb0;have HK:=Hd O;obtain ⟨q0,q1,q2,q3⟩:=hb0.qs4;have qf:=hb0.frozen;have ql:=hb0.lt;clear hb0 O;refine Qr ?_;refine ⟨γ.put 1011,H2A HK.o rfl rfl rfl Y78171d3d0 (λb hb hm=>(((((Only.refl Y w').set 0 (.I u1)).set 1 (.I u2)).set 2 (.I v1)).set 3 (.I v2)).block b λe=>hm (⟨rfl,e⟩)),LK.done AB,?_,AU⟩;exact Kv
   intro vals γ w9 hR hG;refine Qx ?_;obtain ⟨b0,-⟩:=hG 11 AB;have b4:=Hd b0;clear b0;have HXN:=Hd (show Ext w w9 from Au HX5.o (hR.buts (S:=λb=>b=Y) (λm b _ hm _=>hm.2)) (λb hb=>by
    rw [hb];exact HG4.o))
   clear hR hG;obtain ⟨s0,s1,s2,s3⟩:=b4.o.qs4;go_wp2;rw [HJ.o,if_neg AC,if_neg AC];exact bodyPost_ret (v:=.agg #[.I u1,.I u2,.I v1,.I v2]) (by simp [results,results82,go_sem,s0,s1,s2,s3]) rfl ⟨rfl,HXN.o⟩
  ·have j0:=j0.o;have j1:=j1.o;have j2:=j2.o;have j3:=j3.o;obtain ⟨r0,r1,r2,r3⟩:=a8.o.qs4;go_wp2;rw [HJ.o,if_neg AC,if_pos trivial];refine bodyPost_ret (v:=(Rq x)) (by simp [results,results82,go_sem,r0,r1,r2,r3]) rfl ⟨rfl,?_⟩
   iterate 4 with_reducible refine Ext.set2 ?_ HG4.o _
   with_reducible exact HX5.o
 ·go_wp2;rw [HJ.o,if_pos trivial];refine bodyPost_ret (v:=(Rq y)) (by simp [results,results82,go_sem,r0,r1,r2,r3]) rfl ⟨rfl,?_⟩
  iterate 4 with_reducible refine Ext.set2 ?_ HG4.o _
  with_reducible exact HX2.o
