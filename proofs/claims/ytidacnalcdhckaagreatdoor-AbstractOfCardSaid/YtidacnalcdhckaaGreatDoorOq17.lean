/- Lemmas. No conditions. -/
import Derived.Test.YtidacnalcdhckaaGreatDoorOq16
namespace Go.Proofs.YtidacnalcdhckaaGreatDoor
open Go Go.RowKit Tryz
variable {qP:Prop}

theorem EnA{x:Int}(h:Er x):bits .or .i64 x x=x:=DT (CJ _ _ _) h fun i _=>by rw [Ux,Bool.or_self]
theorem CcA{x:Int}(h:Er x):bits .and .i64 x x=x:=DT (CJ _ _ _) h fun i _=>by rw [CN,Bool.and_self]
theorem EDA(p1 p2 p3 p4 p5:Bool):Er (Ey p1 p2 p3 p4 p5):=by
 unfold Er;exact Ok
structure CanT(x:Sh):Prop where
 ne:AT x=false
 least:x.least=AQ x
 most:x.most=BE x
 cls:BL x=x.cls
 wf:Er x.cls
theorem GqA(a:Sh):bA a.B=a.b:=He _
theorem HiA(a:Sh):bA a.E=a.e:=He _
theorem YO{a:Sh}(h:AT a=false):BW a a=⟨AQ a,BE a,BL a,a.b,a.e⟩:=by
 unfold BW;rw [h];simp only [Bool.false_eq_true,if_false];rw [Hw,NQ,GqA,HiA,EnA (show Er (BL a) from CJ _ _ _),Int.min_self,Int.max_self]
theorem EtA(a:Sh){x:Sh}(h:x.cls=BL a):BL x=BL a:=by
 unfold BL at h⊢;rw [h];refine DT (CJ _ _ _) (CJ _ _ _) fun i _ => ?_;rw [CN,CN,Bool.and_assoc,Bool.and_self]
theorem CXA{a:Sh}(h:AT a=false):CanT (BW a a):=by
 have hne:AT (BW a a)=false:=by
  obtain ⟨l,hl⟩:∃ l,InS a l:=by
   refine Classical.byContradiction fun hn => ?_;rw [(Bs a).2 fun l hl=>hn ⟨l,hl⟩] at h;cases h
  exact Eg ((Ty h l).2 hl)
 rw [YO h] at hne⊢;have hL:(a.b.size:Int)≤AQ a∧(a.e.size:Int)≤AQ a∧0≤AQ a:=DQ;have hM:BE a≤200:=(by unfold BE;omega);refine ⟨hne,?_,?_,EtA a (x:=⟨AQ a,BE a,BL a,a.b,a.e⟩) rfl,(show Er (BL a) from CJ .and a.cls 110)⟩
 ·show AQ a=max (max (max 0 (AQ a)) (a.b.size:Int)) (a.e.size:Int);omega
 ·show BE a=min (BE a) 200;omega
theorem CanT.join{x:Sh}(h:CanT x):BW x x=x:=by
 rw [YO h.ne,←h.least,←h.most,h.cls]
theorem CanT.meet{x:Sh}(h:CanT x):DN x x=x:=by
 have hm:CY x x=x:=by
  unfold CY;rw [Int.max_self,Int.min_self,←h.least,←h.most,h.cls,CcA h.wf,if_neg (Nat.lt_irrefl _),if_neg (Nat.lt_irrefl _)]
 unfold DN;rw [if_neg (by rw [h.ne];simp),hm,if_pos];refine ⟨?_,?_,?_,?_,h.ne⟩
 ·rw [Fq];exact List.prefix_refl _
 ·rw [Fq];exact List.prefix_refl _
 ·rw [Fo];exact List.suffix_refl _
 ·rw [Fo];exact List.suffix_refl _
structure CanI(x:Rg):Prop where
 ne:BF x=false
 low:Bg x.ln x.ls=(x.ln,x.ls)
 high:Bg x.hn x.hs=(x.hn,x.hs)
theorem CanI.norm{x:Rg}(h:CanI x):CI x=x:=by
 unfold CI;rw [h.ne,if_neg AC,h.low,h.high]
theorem CaA(x:Rg):CiA x x=x:=by
 unfold CiA CU Bm;simp
theorem EZA(x:Rg):DQA x x=x:=by
 unfold DQA CU Bm;simp
theorem EHA{a:Rg}(h:BF a=false):CanI (CI a):=by
 have h1:=Fd a;rw [h] at h1;unfold CI at h1⊢;rw [h,if_neg AC] at h1⊢;exact ⟨h1,by simp only;rw [Nk],by simp only;rw [Nk]⟩
theorem Yq{a:Rg}(h:BF a=false):Cc a a=CI a:=by
 unfold Cc;rw [Fd,h];simp only [Bool.false_eq_true,if_false];rw [CaA]
theorem CanI.join{x:Rg}(h:CanI x):Cc x x=x:=by rw [Yq h.ne,h.norm]
theorem CanI.meet{x:Rg}(h:CanI x):NB x x=x:=by
 unfold NB;rw [h.norm,EZA,h.norm]
theorem Wu(l:List BA):An (An l)=An l:=by
 unfold An;congr 1;rw [List.map_map];have e:((fun s:BA=>s.data.toList) ∘ fun b:List UInt8=>(⟨b.toArray⟩:BA))=id:=by
  funext b
  rfl
 rw [e,List.map_id];refine List.mergeSort_of_pairwise ?_;have tr:∀ a b c:List UInt8,decide (a≤b)=true→decide (b≤c)=true→decide (a≤c)=true:=by
  exact O4
 have tot:∀ a b:List UInt8,(decide (a≤b)||decide (b≤a))=true:=by
  exact Tn
 exact List.pairwise_mergeSort tr tot _
theorem Ym{l:List BA}(h:l.Nodup):(An l).Nodup:=by
 unfold An;have h1:(l.map fun s:BA=>s.data.toList).Nodup:=by
  rw [List.nodup_iff_pairwise_ne,List.pairwise_map];rw [List.nodup_iff_pairwise_ne] at h;refine h.imp fun hne he=>hne ?_;have:=congrArg bA he;rw [He,He] at this;exact this
 have h2:=(List.mergeSort_perm (l.map fun s:BA=>s.data.toList) fun x y=>decide (x≤y)).nodup_iff.2 h1;rw [List.nodup_iff_pairwise_ne,List.pairwise_map];rw [List.nodup_iff_pairwise_ne] at h2;refine h2.imp fun hne he=>hne ?_;have:=congrArg (fun s:BA=>s.data.toList) he;exact this
theorem ZG(h:qP:=by
 intro h;simp only;rw [if_neg (by omega)]
 ext<;>simp only<;>omega):qP:=h
theorem Ui(h:qP:=by
 simp only;split
 ·intro h;simp at h
 ·exact ZG):qP:=h
theorem DqA(a:Abs)(h:(Cy a).1≤(Cy a).2):CZ ((Cy a).1,(Cy a).2) (0,3652058)=Cy a:=by
 revert h
 unfold Cy CZ CQ;exact Ui
theorem DLA(a:Abs)(h:(DF a).1≤(DF a).2):CZ ((DF a).1,(DF a).2) (0,100)=DF a:=by
 revert h
 unfold DF CZ CQ;exact Ui
structure Can(c:Abs):Prop where
 wf:Er c.kinds
 tx:(bt c.kinds 1=true∧CanT c.tx)∨(bt c.kinds 1=false∧c.tx=H3A)
 nu:(bt c.kinds 2=true∧CanI c.nu)∨(bt c.kinds 2=false∧c.nu=IBA)
 dt:(bt c.kinds 3=true∧c.dl≤c.dh∧Cy c=(c.dl,c.dh))∨(bt c.kinds 3=false∧c.dl=1∧c.dh=0)
 bl:(bt c.kinds 4=true∧c.bo≠0∧boI c=c.bo)∨(bt c.kinds 4=false∧c.bo=0)
 tb:(bt c.kinds 5=true∧c.rl≤c.rh∧DF c=(c.rl,c.rh)∧c.cols.length≤8∧c.cols.all Ba=true∧c.cols.Nodup∧An c.cols=c.cols∧c.deps.Nodup)∨(bt c.kinds 5=false∧c.rl=1∧c.rh=0∧c.cols=[]∧c.deps=[])
 all:c.kinds=Ey (bt c.kinds 1) (bt c.kinds 2) (bt c.kinds 3) (bt c.kinds 4) (bt c.kinds 5)
theorem Ma(h:qP:=by
 right;exact ⟨rfl,by unfold AX;simp [hp]⟩):qP:=h
theorem B9(h:qP:=by unfold AX;simp [hp]):qP:=h
theorem FSA(a:Abs):Can (AX a):=by
 obtain ⟨b1,b2,b3,b4,b5⟩:=Zb a;refine ⟨EDA _ _ _ _ _,?_,?_,?_,?_,?_,?_⟩
 ·rw [b1];cases hp:pT a
  ·exact Ma
  ·left;refine ⟨rfl,?_⟩;have e:(AX a).tx=BW a.tx a.tx:=B9;rw [e];unfold pT at hp;rw [Bool.and_eq_true,Bool.not_eq_true'] at hp;exact CXA hp.2
 ·rw [b2];cases hp:pN a
  ·exact Ma
  ·left;refine ⟨rfl,?_⟩;have e:(AX a).nu=Cc a.nu a.nu:=B9;rw [e];unfold pN at hp;rw [Bool.and_eq_true,Bool.not_eq_true'] at hp;rw [Yq hp.2];exact EHA hp.2
 ·rw [b3];cases hp:pD a
  ·right;exact ⟨rfl,B9,B9⟩
  ·left;have e1:(AX a).dl=(Cy a).1:=B9;have e2:(AX a).dh=(Cy a).2:=B9;unfold pD at hp;rw [Bool.and_eq_true,decide_eq_true_eq] at hp;refine ⟨rfl,by rw [e1,e2];exact hp.2,?_⟩;show CZ ((AX a).dl,(AX a).dh) _=_;rw [e1,e2,DqA a hp.2]
 ·rw [b4];cases hp:pB a
  ·exact Ma
  ·left;have e:(AX a).bo=boI a:=B9;unfold pB at hp;rw [Bool.and_eq_true,decide_eq_true_eq] at hp;refine ⟨rfl,by rw [e];exact hp.2,?_⟩;rw [e];refine DT (CJ _ _ _) (CJ _ _ _) fun i _ => ?_;show bt (boI (AX a)) i=bt (boI a) i;rw [Wc,e,Wc,Bool.and_assoc,Bool.and_self]
 ·rw [b5];cases hp:pR a
  ·right;refine ⟨rfl,?_,?_,?_,?_⟩<;>· unfold AX;simp [hp]
  ·left;have e1:(AX a).rl=(DF a).1:=B9;have e2:(AX a).rh=(DF a).2:=B9;have e3:(AX a).cols=An (ddp a.cols):=B9;have e4:(AX a).deps=ddp a.deps:=B9;unfold pR at hp;simp only [Bool.and_eq_true,decide_eq_true_eq] at hp;obtain ⟨⟨⟨_,h1⟩,h2⟩,h3⟩:=hp;rw [e3,e4];refine ⟨rfl,by rw [e1,e2];exact h1,?_,by rw [WV];exact h2,?_,Ym (KB _),Wu _,KB _⟩
   ·show CZ ((AX a).rl,(AX a).rh) _=_;rw [e1,e2,DLA a h1]
   ·rw [List.all_eq_true] at h3⊢;exact fun x hx=>h3 x (Ek.1 hx)
 ·rw [b1,b2,b3,b4,b5];rfl
theorem FF(h:qP:=by rw [k];simp):qP:=h
theorem FBA{c x:Abs}(h:Can c)(hk:x.kinds=c.kinds)(ht:x.tx=c.tx)(hn:x.nu=c.nu)(hd1:x.dl=c.dl)(hd2:x.dh=c.dh)(hb:x.bo=c.bo)(hr1:x.rl=c.rl)(hr2:x.rh=c.rh)(hc:ddp x.cols=c.cols∨(bt c.kinds 5=false))(hd:ddp x.deps=c.deps∨(bt c.kinds 5=false))(he:x.errs=c.errs):AX x=c:=by
 obtain ⟨h0,h1,h2,h3,h4,h5,h6⟩:=h;have p1:pT x=bt c.kinds 1:=by
  unfold pT;rw [hk,ht]
  rcases h1 with ⟨k,h⟩|⟨k,_⟩
  ·rw [k,h.ne];rfl
  ·rw [k];rfl
 have p2:pN x=bt c.kinds 2:=by
  unfold pN;rw [hk,hn]
  rcases h2 with ⟨k,h⟩|⟨k,_⟩
  ·rw [k,h.ne];rfl
  ·rw [k];rfl
 have d3:Cy x=Cy c:=(by unfold Cy;rw [hd1,hd2]);have p3:pD x=bt c.kinds 3:=by
  unfold pD;rw [hk,d3]
  rcases h3 with ⟨k,h,h'⟩|⟨k,_⟩
  ·rw [k,h'];simpa using h
  ·rw [k];rfl
 have d4:boI x=boI c:=(by unfold boI;rw [hb]);have p4:pB x=bt c.kinds 4:=by
  unfold pB;rw [hk,d4]
  rcases h4 with ⟨k,h,h'⟩|⟨k,_⟩
  ·rw [k,h'];simpa using h
  ·rw [k];rfl
 have d5:DF x=DF c:=(by unfold DF;rw [hr1,hr2]);have p5:pR x=bt c.kinds 5:=by
  unfold pR;rw [hk,d5]
  rcases h5 with ⟨k,k1,k2,k3,k4,k5,k6,k7⟩|⟨k,_⟩
  ·rcases hc with hc|hc
   ·rw [k,k2,hc,k4];simp [k1,k3]
   ·rw [k] at hc;cases hc
  ·rw [k];rfl
 unfold AX;rw [p1,p2,p3,p4,p5,ht,hn,d3,d4,d5,he,←h6];have e1:(if bt c.kinds 1=true then BW c.tx c.tx else H3A)=c.tx:=by
  rcases h1 with ⟨k,h⟩|⟨k,h⟩
  ·rw [if_pos k,h.join]
  ·rw [if_neg FF,h]
 have e2:(if bt c.kinds 2=true then Cc c.nu c.nu else IBA)=c.nu:=by
  rcases h2 with ⟨k,h⟩|⟨k,h⟩
  ·rw [if_pos k,h.join]
  ·rw [if_neg FF,h]
 have e3:(if bt c.kinds 3=true then (Cy c).1 else 1)=c.dl∧(if bt c.kinds 3=true then (Cy c).2 else 0)=c.dh:=by
  rcases h3 with ⟨k,_,h⟩|⟨k,h,h'⟩
  ·rw [if_pos k,if_pos k,h];exact ⟨rfl,rfl⟩
  ·rw [if_neg FF,if_neg FF,h,h'];exact ⟨rfl,rfl⟩
 have e4:(if bt c.kinds 4=true then boI c else 0)=c.bo:=by
  rcases h4 with ⟨k,_,h⟩|⟨k,h⟩
  ·rw [if_pos k,h]
  ·rw [if_neg FF,h]
 have e5:(if bt c.kinds 5=true then (DF c).1 else 1)=c.rl∧(if bt c.kinds 5=true then (DF c).2 else 0)=c.rh∧(if bt c.kinds 5=true then An (ddp x.cols) else [])=c.cols∧(if bt c.kinds 5=true then ddp x.deps else [])=c.deps:=by
  rcases h5 with ⟨k,k1,k2,k3,k4,k5,k6,k7⟩|⟨k,k1,k2,k3,k4⟩
  ·rw [if_pos k,if_pos k,if_pos k,if_pos k,k2];refine ⟨rfl,rfl,?_,?_⟩
   ·rcases hc with hc|hc
    ·rw [hc,k6]
    ·rw [k] at hc;cases hc
   ·rcases hd with hd|hd
    ·exact hd
    ·rw [k] at hd;cases hd
  ·have:¬bt c.kinds 5=true:=FF;rw [if_neg this,if_neg this,if_neg this,if_neg this,k1,k2,k3,k4];exact ⟨rfl,rfl,rfl,rfl⟩
 rw [e1,e2,e3.1,e3.2,e4,e5.1,e5.2.1,e5.2.2.1,e5.2.2.2]
theorem Can.eq{c:Abs}(h:Can c):AX c=c:=by
 refine FBA h rfl rfl rfl rfl rfl rfl rfl rfl ?_ ?_ rfl
 ·rcases h.tb with ⟨_,_,_,_,_,k,_,_⟩|⟨k,_⟩
  ·exact Or.inl (WK _ k)
  ·exact Or.inr k
 ·rcases h.tb with ⟨_,_,_,_,_,_,_,k⟩|⟨k,_⟩
  ·exact Or.inl (WK _ k)
  ·exact Or.inr k
theorem Can.days{c:Abs}(h:Can c):c.dl≤c.dh∨(c.dl=1∧c.dh=0):=by
 rcases h.dt with ⟨_,h,_⟩|⟨_,h⟩
 ·exact Or.inl h
 ·exact Or.inr h
theorem Can.rows{c:Abs}(h:Can c):c.rl≤c.rh∨(c.rl=1∧c.rh=0):=by
 rcases h.tb with ⟨_,h,_⟩|⟨_,h1,h2,_⟩
 ·exact Or.inl h
 ·exact Or.inr ⟨h1,h2⟩
theorem Can.boIn{c:Abs}(h:Can c):Er c.bo:=by
 rcases h.bl with ⟨_,_,h⟩|⟨_,h⟩
 ·rw [←h];exact CJ _ _ _
 ·rw [h];unfold Er;omega
def noneA:Abs:=⟨0,H3A,IBA,1,0,0,1,0,[],[],false⟩
theorem Mo:AX noneA=noneA:=by
 refine Can.eq ⟨by show Er (0:Int);unfold Er;omega,?_,?_,?_,?_,?_,?_⟩
 ·exact Or.inr ⟨M5 _,rfl⟩
 ·exact Or.inr ⟨M5 _,rfl⟩
 ·exact Or.inr ⟨M5 _,rfl,rfl⟩
 ·exact Or.inr ⟨M5 _,rfl⟩
 ·exact Or.inr ⟨M5 _,rfl,rfl,rfl,rfl⟩
 ·show (0:Int)=Ey (bt 0 1) (bt 0 2) (bt 0 3) (bt 0 4) (bt 0 5);rw [M5,M5,M5,M5,M5]
  decide
theorem Kd:Lq noneA=true:=by
 unfold Lq;rw [Mo];rfl

def ofS(s:BA):Sh:=if Ca s=true then ⟨s.size,s.size,CT (bs s),s,s⟩ else H3A
def NO(k:Int):Int:=if k=0 then 1 else if k=1 then 2 else if k=2 then 4 else if k=3 then 8 else if k=4 then 16 else 32
def CO(v:Val):Abs where
 kinds:=NO v.kind
 tx:=if v.kind=1 then ofS v.s else H3A
 nu:=if v.kind=2 then ⟨v.dn,v.ds,v.dn,v.ds⟩ else IBA
 dl:=if v.kind=3 then v.n else 1
 dh:=if v.kind=3 then v.n else 0
 bo:=if v.kind=4 then (if v.n=0 then 1 else 2) else 0
 rl:=if v.kind=5 then v.rows.length else 1
 rh:=if v.kind=5 then v.rows.length else 0
 cols:=if v.kind=5 then v.cols else []
 deps:=if v.kind=5 then Co v.cols v.rows else []
 errs:=decide (v.kind=0)
def ofA(v:Val):Abs:=if BC v=true then AX (CO v) else noneA
def IF(k:Int):Abs where
 kinds:=if 1≤k∧k≤5 then NO k else 0
 tx:=Sh.full
 nu:=Rg.full
 dl:=0
 dh:=3652058
 bo:=3
 rl:=0
 rh:=100
 cols:=[]
 deps:=[]
 errs:=decide (k=0)
def Cs(k:Int):Abs:=AX (IF k)
theorem JN{v:Val}(h:BC v=true)(hk:v.kind≠5):BG v=true:=by
 unfold BC at h;rw [if_neg hk] at h;exact h
theorem LU{v:Val}(h:BC v=true)(hk:v.kind=1):Ca v.s=true∧v=⟨1,v.s,0,0,0,[],[]⟩:=by
 have h1:=JN h AA;unfold BG at h1;rw [if_neg AA,if_pos hk,Bool.and_eq_true] at h1;refine ⟨h1.1,?_⟩;have h2:=h1.2;unfold Ab at h2;simp only [decide_eq_true_eq] at h2;obtain ⟨k,s,a,b,n,c,r⟩:=v;obtain ⟨_,rfl,rfl,rfl,rfl,rfl⟩:=h2;simp only at hk;subst hk;rfl
theorem Lh{v:Val}(h:BC v=true)(hk:v.kind=2):Dz v.dn v.ds=true∧v=⟨2,⟨#[]⟩,v.dn,v.ds,0,[],[]⟩:=by
 have h1:=JN h AA;unfold BG at h1;rw [if_neg AA,if_neg AA,if_pos hk,Bool.and_eq_true] at h1;refine ⟨h1.1,?_⟩;have h2:=h1.2;unfold Ab at h2;simp only [decide_eq_true_eq] at h2;obtain ⟨k,s,a,b,n,c,r⟩:=v;obtain ⟨rfl,_,_,rfl,rfl,rfl⟩:=h2;simp only at hk;subst hk;rfl
def Cp(a:Abs):Option Val :=
 let c:=AX a
 if c.errs=true then none
 else if c.kinds=2 then (if c.tx.least=c.tx.b.size∧c.tx.most=c.tx.b.size then some ⟨1,c.tx.b,0,0,0,[],[]⟩ else none)
 else if c.kinds=4 then (if c.nu.ln=c.nu.hn∧c.nu.ls=c.nu.hs then some ⟨2,⟨#[]⟩,c.nu.ln,c.nu.ls,0,[],[]⟩ else none)
 else if c.kinds=8 then (if c.dl=c.dh then some ⟨3,⟨#[]⟩,0,0,c.dl,[],[]⟩ else none)
 else if c.kinds=16 then (if c.bo≠3 then some ⟨4,⟨#[]⟩,0,0,c.bo-1,[],[]⟩ else none)
 else none
theorem P3:bt 2 1=true∧bt 2 2=false∧bt 2 3=false∧bt 2 4=false∧bt 2 5=false:=by decide
theorem Pv:bt 4 1=false∧bt 4 2=true∧bt 4 3=false∧bt 4 4=false∧bt 4 5=false:=by decide
theorem Px:bt 8 1=false∧bt 8 2=false∧bt 8 3=true∧bt 8 4=false∧bt 8 5=false:=by decide
theorem PY:bt 16 1=false∧bt 16 2=false∧bt 16 3=false∧bt 16 4=true∧bt 16 5=false:=by decide
theorem D3A{c:Abs}(h:Can c)(hk:bt c.kinds 4=true):c.bo=1∨c.bo=2∨c.bo=3:=by
 rcases h.bl with ⟨_,h0,h1⟩|⟨h2,_⟩
 ·have key:∀ i,bt c.bo i=(bt c.bo i&&decide (i<2)):=fun i=>by
   have:=Wc c i;rw [h1] at this;exact this
  have hz:=CCA c;rw [h1] at hz;have hin:=h.boIn;have up:∀ i,2≤i→bt c.bo i=false:=fun i hi=>by
   rw [key i];simp;omega
  cases b0:bt c.bo 0
  ·cases b1:bt c.bo 1
   ·exact absurd (hz.2 ⟨b0,b1⟩) h0
   ·right;left;refine DT hin Fb fun i _ => ?_
    match i with
    |0=>rw [b0];decide
    |1=>rw [b1];decide
    |k+2 =>
     rw [up _ AA,show (2:Int)=((2^1:Nat):Int) from rfl,Js _ _ AA,eq_comm,decide_eq_false_iff_not];omega
  ·cases b1:bt c.bo 1
   ·left;refine DT hin Fb fun i _ => ?_
    match i with
    |0=>rw [b0];decide
    |1=>rw [b1];decide
    |k+2 =>
     rw [up _ AA,show (1:Int)=((2^0:Nat):Int) from rfl,Js _ _ AA,eq_comm,decide_eq_false_iff_not];omega
   ·right;right;refine DT hin Fb fun i _ => ?_
    match i with
    |0=>rw [b0];decide
    |1=>rw [b1];decide
    |k+2 =>
     rw [up _ AA,GmA,eq_comm,decide_eq_false_iff_not];omega
 ·rw [hk] at h2;cases h2
theorem O9{s:BA}(h:Ca s=true):Aj (ofS s) s=true:=by
 unfold ofS Aj;rw [h];have h1:CM (CT (bs s)) (CT (bs s))=true:=Iy.2 fun _ _ h=>h;have h2:EA s s=true:=Fq.2 (List.prefix_refl _);have h3:EB s s=true:=Fo.2 (List.suffix_refl _);simp [h1,h2,h3]
theorem MZ{v:Val}(hk:v.kind=1):(CO v).kinds=2∧(CO v).tx=ofS v.s:=by
 unfold CO NO;simp [hk]
theorem NV{v:Val}(hk:v.kind=2):(CO v).kinds=4∧(CO v).nu=⟨v.dn,v.ds,v.dn,v.ds⟩:=by
 unfold CO NO;simp [hk]
theorem OQ{v:Val}(hk:v.kind=3):(CO v).kinds=8∧(CO v).dl=v.n∧(CO v).dh=v.n:=by
 unfold CO NO;simp [hk]
theorem OE{v:Val}(hk:v.kind=4):(CO v).kinds=16∧(CO v).bo=if v.n=0 then 1 else 2:=by
 unfold CO NO;simp [hk]
theorem Ob{v:Val}(hk:v.kind=5):(CO v).kinds=32∧(CO v).rl=v.rows.length∧(CO v).rh=v.rows.length∧(CO v).cols=v.cols∧(CO v).deps=Co v.cols v.rows:=by
 unfold CO NO;simp [hk]
theorem KU{n s:Int}(h:Dz n s=true):BD ⟨n,s,n,s⟩ n s=true:=by
 unfold BD Rg.lo Rg.hi;simp only;rw [h];generalize mu n s=m;simp
theorem MX(hkeys:∀ cols rows,∀ d∈Co cols rows,BH cols rows d.frm d.tov=true){v:Val}(hr:BC v=true)(h0:v.kind≠0):Ha (CO v) v=true:=by
 unfold Ha
 rcases Dh hr with hk|hk|hk|hk|hk|hk
 ·omega
 ·obtain ⟨ht,_⟩:=LU hr hk;obtain ⟨e1,e2⟩:=MZ hk;rw [if_pos hk,e1,e2,O9 ht,P3.1];rfl
 ·obtain ⟨ht,_⟩:=Lh hr hk;obtain ⟨e1,e2⟩:=NV hk;rw [if_neg AA,if_pos hk,e1,e2,KU ht,Pv.2.1];rfl
 ·obtain ⟨e1,e2,e3⟩:=OQ hk;rw [if_neg AA,if_neg AA,if_pos hk,e1,e2,e3,Px.2.2.1,Bool.true_and,decide_eq_true_eq];exact ⟨Int.le_refl _,Int.le_refl _⟩
 ·obtain ⟨e1,e2⟩:=OE hk;rw [if_neg AA,if_neg AA,if_neg AA,if_pos hk,e1,e2,PY.2.2.2.1,Bool.true_and]
  rcases Gx hr hk with h|h
  ·rw [h,if_pos rfl];decide
  ·rw [h,if_neg AB];decide
 ·obtain ⟨e1,e2,e3,e4,e5⟩:=Ob hk;rw [if_neg AA,if_neg AA,if_neg AA,if_neg AA,e1];have:ED (CO v) v=true:=by
   unfold ED;rw [e2,e3,e4,e5];simp only [Bool.and_eq_true,decide_eq_true_eq,List.all_eq_true];exact ⟨⟨⟨Int.le_refl _,Int.le_refl _⟩,fun c hc=>(Ao _ _).2 hc⟩,hkeys _ _⟩
  rw [this,Bool.and_true]
  decide
theorem Fs(hkeys:∀ cols rows,∀ d∈Co cols rows,BH cols rows d.frm d.tov=true)(v:Val):AW (ofA v) v=BC v:=by
 cases hr:BC v
 ·unfold AW;rw [hr];rfl
 ·unfold ofA;rw [if_pos hr,CL,DI hr];by_cases h0:v.kind=0
  ·rw [if_pos h0];exact decide_eq_true h0
  ·rw [if_neg h0];exact MX hkeys hr h0
theorem MR(hkeys:∀ cols rows,∀ d∈Co cols rows,BH cols rows d.frm d.tov=true)(v:Val):Lq (ofA v) = !BC v:=by
 have h:=Fs hkeys v;cases hr:BC v
 ·unfold ofA;rw [if_neg (by rw [hr];simp)];exact Kd
 ·rw [hr] at h;rw [Bool.not_true,Bool.eq_false_iff];intro he;rw [UC he v] at h;cases h

theorem WI{cols:List BA}(h:cols.Nodup){k:Nat}(hk:k<cols.length):Bt cols cols[k]=k:=by
 refine QN hk (fun j hj hlt he => ?_) rfl;have:=(List.getElem_inj h).1 he;omega
theorem I2{cols:List BA}(h:cols.Nodup){k:Nat}(hk:k<cols.length):cols.getD k ⟨#[]⟩∈cols∧(Bt cols (cols.getD k ⟨#[]⟩)).toNat=k:=by
 rw [BM _ _ _ hk,WI h hk];exact ⟨List.getElem_mem hk,AC⟩
theorem MF{cols:List BA}{rows:List (List Val)}(hn:cols.Nodup)(hr:EF cols rows=true){s:List Int}(hs:∀ c∈s,0≤c∧c<(cols.length:Int))(hk:F9 rows cols.length (s.map Int.toNat)=true) :
  ∀ d∈Ch cols s cols.length,BH cols rows d.frm d.tov=true:=by
 intro d hd;unfold Ch at hd;obtain ⟨c,hc,rfl⟩:=List.mem_map.1 hd;have hcn:c<cols.length:=List.mem_range.1 (List.mem_filter.1 hc).1;obtain ⟨g1,g2⟩:=I2 hn hcn;have hfrm:∀ f∈Dd cols s,∃ k∈s,f=cols.getD k.toNat ⟨#[]⟩:=by
  intro f hf;obtain ⟨k,h1,h2⟩:=List.mem_map.1 hf;exact ⟨k,h1,h2.symm⟩
 refine EU.2 ⟨g1,hr,fun f hf => ?_,fun r h1 o h2 h3 => ?_⟩
 ·obtain ⟨k,hks,rfl⟩:=hfrm f hf;have:=hs k hks;exact (I2 hn (k:=k.toNat) AA).1
 ·rw [g2];have hh:=(List.all_eq_true.1 hk) c (List.mem_range.2 hcn);unfold Gk at hh;have hh:=(List.all_eq_true.1 ((List.all_eq_true.1 hh) r h1)) o h2;rw [Bool.or_eq_true,Bool.not_eq_true'] at hh
  rcases hh with hh|hh
  ·exfalso;have ht:((s.map Int.toNat).all fun f=>Cx f r o)=true:=by
    rw [List.all_eq_true];intro f hf;obtain ⟨k,hks,rfl⟩:=List.mem_map.1 hf;have hb:=hs k hks;have:=h3 (cols.getD k.toNat ⟨#[]⟩) (List.mem_map.2 ⟨k,hks,rfl⟩);rwa [(I2 hn (k:=k.toNat) AA).2] at this
   rw [ht] at hh;cases hh
  ·exact hh
theorem KZ(cols:List BA)(rows:List (List Val)):∀ d∈Co cols rows,BH cols rows d.frm d.tov=true:=by
 unfold Co;cases hc:(!Lw cols||!EF cols rows)
 ·rw [if_neg AC];rw [Bool.or_eq_false_iff,Bool.not_eq_false',Bool.not_eq_false'] at hc;obtain ⟨h1,h2⟩:=hc;have hn:cols.Nodup:=of_decide_eq_true h1;have hin:=DIA cols.length;generalize Fz cols.length=l at hin⊢
  suffices ∀ (l:List (List Int)) (st:List (List Int) × List Dep),(∀ s∈l,∀ c∈s,0≤c∧c<(cols.length:Int))→(∀ d∈st.2,BH cols rows d.frm d.tov=true)→∀ d∈(l.foldl (BN cols rows) st).2,BH cols rows d.frm d.tov=true from this l ([],[]) hin AC
  intro l
  induction l with
  |nil=>intro st _ h;exact h
  |cons s m ih =>
   intro st hl h;rw [List.foldl_cons];refine ih _ (fun x hx=>hl x (List.mem_cons_of_mem _ hx)) ?_;unfold BN;split
   ·exact h
   ·split
    ·exact h
    ·rename_i hk;intro d hd
     rcases List.mem_append.1 hd with hd|hd
     ·exact h d hd
     ·exact MF hn h2 (hl s AC) Br d hd
 ·rw [if_pos rfl];intro d hd;cases hd
theorem Ke(v:Val):AW (ofA v) v=BC v:=Fs KZ v
theorem Ld(v:Val):Lq (ofA v) = !BC v:=MR KZ v
end Go.Proofs.YtidacnalcdhckaaGreatDoor
