/- Lemmas. No conditions. -/
import Derived.Test.YtidacnalcdhckaaGreatDoorWq24
namespace Go.Proofs.YtidacnalcdhckaaGreatDoor
open Go Go.RowKit Tryz
variable {qP:Prop}

theorem qae(l m:List UInt8):Hv l m=Hv m l:=by
 unfold Hv;rw [WH]

theorem qag{α:Type} [DecidableEq α](l m:List α)(h:∀ x∈m,x∈l):ddp (l++m)=ddp l:=by
 revert h
 refine Hb (P:=fun m=>(∀ x∈m,x∈l)→ddp (l++m)=ddp l) ?_ ?_ m
 ·intro _;rw [List.append_nil]
 ·intro m x ih h;have h1:=ih fun y hy=>h y (by simp [hy]);rw [←List.append_assoc,Jl,h1,if_pos ((IT l x).2 (h x AC))]

theorem qaJ{x:Int}(h:Er x):bits .or .i64 x 0=x:=DT (CJ _ _ _) h fun i _=>by rw [Ux,M5,Bool.or_false]
theorem qaa(x:Int):bits .and .i64 x 0=0:=DT (CJ _ _ _) Fb fun i _=>by rw [CN,M5,Bool.and_false]
theorem qaI(x y:Int):bits .or .i64 x y=bits .or .i64 y x:=DT (CJ _ _ _) (CJ _ _ _) fun i _=>by rw [Ux,Ux,Bool.or_comm]
theorem qaq:BW H3A H3A=H3A:=by
 unfold BW;rw [Mf];simp
theorem qaD(x:Sh):DN x H3A=H3A:=by
 unfold DN;rw [if_pos (Or.inr Mf)]
theorem qah:BF IBA=true:=by decide
theorem qaG:CI IBA=IBA:=by
 unfold CI;rw [qah,if_pos rfl]
theorem qaB:NB IBA IBA=IBA:=by
 unfold NB;rw [qaG,EZA,qaG]
theorem qan:Cc IBA IBA=IBA:=by
 unfold Cc;rw [qaG,qah];simp
theorem qac(a:Abs):AX (AX a)=AX a:=(FSA a).eq
theorem qaj{α:Type}{p:α→Bool}{l:List α}(h:∀ x∈l,p x=true):l.filter p=l:=List.filter_eq_self.2 h
theorem qak(a:Abs):DK a.deps a=a.deps:=by
 refine qaj fun d hd => ?_;unfold V6;rw [Bool.and_eq_true,Bool.and_eq_true,List.all_eq_true];refine ⟨⟨?_,fun x hx => ?_⟩,?_⟩
 ·unfold Eu;rw [Bool.or_eq_true,List.any_eq_true];exact Or.inr ⟨d,hd,AC⟩
 ·unfold Eu;rw [Bool.or_eq_true,List.any_eq_true];exact Or.inr ⟨d,hd,by rw [Bool.or_eq_true,Ao];exact Or.inl hx⟩
 ·unfold JX;exact (@decide_eq_true_iff _ (Classical.propDecidable _)).2 fun T h1 h2=>h2 d hd h1
theorem qap{l h:Int}(hn:l≤h∨(l=1∧h=0)):Cb (l,h) (l,h)=(l,h):=by
 unfold Cb CQ;simp only;by_cases hx:h<l
 ·rw [if_pos hx,if_pos hx]
  rcases hn with hn|⟨rfl,rfl⟩
  ·omega
  ·rfl
 ·rw [if_neg hx,if_neg hx,Int.min_self,Int.max_self]
theorem qaC{l h:Int}(hn:l≤h∨(l=1∧h=0)):CZ (l,h) (l,h)=(l,h):=by
 unfold CZ CQ;simp only [Int.max_self,Int.min_self];by_cases hx:h<l
 ·rw [if_pos hx]
  rcases hn with hn|⟨rfl,rfl⟩
  ·omega
  ·rfl
 ·rw [if_neg hx]
theorem qal(a:Abs):Fk a a=AX a:=by
 have h:=FSA a;unfold Fk;generalize AX a=c at *;refine FBA h (EnA h.wf) ?_ ?_ ?_ ?_ (EnA h.boIn) ?_ ?_ ?_ ?_ (Bool.or_self _)
 ·show BW c.tx c.tx=c.tx
  rcases h.tx with ⟨_,h⟩|⟨_,h⟩
  ·exact h.join
  ·rw [h];exact qaq
 ·show Cc c.nu c.nu=c.nu
  rcases h.nu with ⟨_,h⟩|⟨_,h⟩
  ·exact h.join
  ·rw [h];exact qan
 ·show (Cb _ _).1=_;rw [qap h.days]
 ·show (Cb _ _).2=_;rw [qap h.days]
 ·show (Cb _ _).1=_;rw [qap h.rows]
 ·show (Cb _ _).2=_;rw [qap h.rows]
 ·rcases h.tb with ⟨k,_,_,_,_,k5,_,_⟩|⟨k,_⟩
  ·left;show ddp (EE c c)=_;unfold EE;rw [k];simp only [Bool.true_eq_false,if_false];rw [qaj (fun x hx=>(Ao _ _).2 hx),WK _ k5]
  ·exact Or.inr k
 ·rcases h.tb with ⟨k,_,_,_,_,_,_,k7⟩|⟨k,_⟩
  ·left;show ddp (BJ c c)=_;unfold BJ;rw [k];simp only [Bool.true_eq_false,if_false];rw [qak,qag _ _ (fun _ h=>h),WK _ k7]
  ·exact Or.inr k
theorem qaF(a:Abs):Gq a a=AX a:=by
 have h:=FSA a;unfold Gq;generalize AX a=c at *;refine FBA h (CcA h.wf) ?_ ?_ ?_ ?_ (CcA h.boIn) ?_ ?_ ?_ ?_ (Bool.and_self _)
 ·show DN c.tx c.tx=c.tx
  rcases h.tx with ⟨_,h⟩|⟨_,h⟩
  ·exact h.meet
  ·rw [h];exact qaD _
 ·show NB c.nu c.nu=c.nu
  rcases h.nu with ⟨_,h⟩|⟨_,h⟩
  ·exact h.meet
  ·rw [h];exact qaB
 ·show (CZ _ _).1=_;rw [qaC h.days]
 ·show (CZ _ _).2=_;rw [qaC h.days]
 ·show (CZ _ _).1=_;rw [qaC h.rows]
 ·show (CZ _ _).2=_;rw [qaC h.rows]
 ·rcases h.tb with ⟨k,_,_,_,_,k5,_,_⟩|⟨k,_⟩
  ·left;show ddp (c.cols++c.cols)=_;rw [qag _ _ (fun _ h=>h),WK _ k5]
  ·exact Or.inr k
 ·rcases h.tb with ⟨k,_,_,_,_,_,_,k7⟩|⟨k,_⟩
  ·left;show ddp (c.deps++c.deps)=_;rw [qag _ _ (fun _ h=>h),WK _ k7]
  ·exact Or.inr k
theorem qad:AX noneA=noneA:=by
 refine Can.eq ⟨by show Er (0:Int);unfold Er;omega,?_,?_,?_,?_,?_,?_⟩
 ·exact Or.inr ⟨M5 _,rfl⟩
 ·exact Or.inr ⟨M5 _,rfl⟩
 ·exact Or.inr ⟨M5 _,rfl,rfl⟩
 ·exact Or.inr ⟨M5 _,rfl⟩
 ·exact Or.inr ⟨M5 _,rfl,rfl,rfl,rfl⟩
 ·show (0:Int)=Ey (bt 0 1) (bt 0 2) (bt 0 3) (bt 0 4) (bt 0 5);rw [M5,M5,M5,M5,M5]
  decide
theorem Zf43ae48c5(h:qP:=by
 unfold Cb CQ;simp only
 rcases h.days with h|⟨h1,h2⟩
 ·rw [if_neg (by omega)];rfl
 ·rw [h1,h2];rfl):qP:=h
theorem Z087cb1830(h:qP:=by
 unfold Cb CQ;simp only
 rcases h.rows with h|⟨h1,h2⟩
 ·rw [if_neg (by omega)];rfl
 ·rw [h1,h2];rfl):qP:=h
theorem qat(a:Abs):Fk a noneA=AX a:=by
 have h:=FSA a;unfold Fk;rw [qad];generalize AX a=c at *;refine FBA h (qaJ h.wf) ?_ ?_ ?_ ?_ (qaJ h.boIn) ?_ ?_ ?_ ?_ (Bool.or_false _)
 ·show BW c.tx H3A=c.tx;unfold BW;rw [Mf]
  rcases h.tx with ⟨_,h⟩|⟨_,h⟩
  ·rw [h.ne];simp
  ·rw [h,Mf];simp
 ·show Cc c.nu IBA=c.nu;unfold Cc;rw [qaG,qah]
  rcases h.nu with ⟨_,h⟩|⟨_,h⟩
  ·rw [h.norm,h.ne];simp
  ·rw [h,qaG,qah];simp
 ·show (Cb (c.dl,c.dh) (1,0)).1=_;exact Zf43ae48c5
 ·show (Cb (c.dl,c.dh) (1,0)).2=_;exact Zf43ae48c5
 ·show (Cb (c.rl,c.rh) (1,0)).1=_;exact Z087cb1830
 ·show (Cb (c.rl,c.rh) (1,0)).2=_;exact Z087cb1830
 ·rcases h.tb with ⟨k,_,_,_,_,k5,_,_⟩|⟨k,_⟩
  ·left;show ddp (EE c noneA)=_;unfold EE;rw [k,if_neg AC,if_pos (show bt noneA.kinds 5=false from M5 5),WK _ k5]
  ·exact Or.inr k
 ·rcases h.tb with ⟨k,_,_,_,_,_,_,k7⟩|⟨k,_⟩
  ·left;show ddp (BJ c noneA)=_;unfold BJ;rw [k,if_neg AC,if_pos (show bt noneA.kinds 5=false from M5 5),WK _ k7]
  ·exact Or.inr k
theorem qaE(a:Abs):Lq (Gq a noneA)=true:=by
 unfold Lq Gq;rw [qac,qad];have hk:(I1 (AX a) noneA).kinds=0:=qaa _;have he:(AX (I1 (AX a) noneA)).errs=false:=Bool.and_false _;rw [he];have:(AX (I1 (AX a) noneA)).kinds=0:=by
  show Ey _ _ _ _ _=0;unfold pT pN pD pB pR;rw [hk,M5,M5,M5,M5,M5];simp only [Bool.false_and]
  decide
 rw [this];rfl

theorem qar(a b:Sh):BW a b=BW b a:=by
 unfold BW;cases ha:AT a<;>cases hb:AT b<;>simp only [Bool.false_eq_true,if_false,if_true]
 rw [WH,qae,qaI,Int.min_comm,Int.max_comm]
theorem qam(a b:Rg)(n s:Int):BD (Cc a b) n s=BD (Cc b a) n s:=by
 unfold Cc;cases ha:BF (CI a)<;>cases hb:BF (CI b)<;>simp only [Bool.false_eq_true,if_false,if_true]
 ·unfold BD;have h1:(CiA (CI a) (CI b)).lo=(CiA (CI b) (CI a)).lo:=by
   unfold CiA Rg.lo;simp only;rw [WS,WS];omega
  have h2:(CiA (CI a) (CI b)).hi=(CiA (CI b) (CI a)).hi:=by
   unfold CiA Rg.hi;simp only;rw [Rk,Rk];omega
  rw [h1,h2]
 ·rw [Fd] at ha hb;unfold CI;rw [ha,hb];rfl
theorem qao(a b:Int × Int)(n:Int):inP (Cb a b) n↔inP (Cb b a) n:=by
 unfold Cb;by_cases ha:a.2<a.1<;>by_cases hb:b.2<b.1
 ·rw [if_pos ha,if_pos hb,Xl,Xl];omega
 ·rw [if_pos ha,if_neg hb,if_pos ha,Xl];exact Iff.rfl
 ·rw [if_neg ha,if_pos hb,if_pos hb,Xl];exact Iff.rfl
 ·rw [if_neg ha,if_neg hb,if_neg hb,if_neg ha];unfold inP;simp only;omega
theorem Z1c99a6d0c(h:qP:=by
 intro h c hc;exact h c ⟨(Ao _ _).1 hc.2,(Ao _ _).2 hc.1⟩):qP:=h
theorem qaL(x y:Abs)(v:Val)(h:(bt x.kinds 5||bt y.kinds 5)=true):ED (F7 x y) v=ED (F7 y x) v:=by
 have hr:=qao (x.rl,x.rh) (y.rl,y.rh) v.rows.length;unfold inP at hr;have hc:(EE x y).all (Aw v.cols)=(EE y x).all (Aw v.cols):=by
  rw [Bool.eq_iff_iff];simp only [List.all_eq_true];unfold EE;cases hx:bt x.kinds 5<;>cases hy:bt y.kinds 5<;>simp only [Bool.true_eq_false,if_false,if_true]
  ·rw [hx,hy] at h;cases h
  ·simp only [List.mem_filter];constructor
   ·exact Z1c99a6d0c
   ·exact Z1c99a6d0c
 have hd:(BJ x y).all (fun d=>BH v.cols v.rows d.frm d.tov)=(BJ y x).all (fun d=>BH v.cols v.rows d.frm d.tov):=by
  unfold BJ;cases hx:bt x.kinds 5<;>cases hy:bt y.kinds 5<;>simp only [Bool.true_eq_false,if_false,if_true]
  ·rw [hx,hy] at h;cases h
  ·rw [List.all_append,List.all_append,Bool.and_comm]
 unfold ED;show (decide ((Cb (x.rl,x.rh) (y.rl,y.rh)).1≤v.rows.length)&&decide ((v.rows.length:Int)≤(Cb (x.rl,x.rh) (y.rl,y.rh)).2)&&(EE x y).all (Aw v.cols)&&(BJ x y).all _)=(decide ((Cb (y.rl,y.rh) (x.rl,x.rh)).1≤v.rows.length)&&decide ((v.rows.length:Int)≤(Cb (y.rl,y.rh) (x.rl,x.rh)).2)&&(EE y x).all (Aw v.cols)&&(BJ y x).all _);rw [hc,hd,←Bool.decide_and,←Bool.decide_and,decide_eq_decide.2 hr]

theorem qai(x y:Abs):(F7 x y).errs=(F7 y x).errs:=by
 show (x.errs||y.errs)=(y.errs||x.errs);exact Bool.or_comm _ _
theorem qab(x y:Abs)(i:Nat):bt (F7 x y).bo i=bt (F7 y x).bo i:=by
 have h1:(F7 x y).bo=(F7 y x).bo:=qaI x.bo y.bo;rw [h1]
theorem qaM(x y:Abs)(s:BA):Aj (F7 x y).tx s=Aj (F7 y x).tx s:=by
 have h1:(F7 x y).tx=(F7 y x).tx:=qar x.tx y.tx;rw [h1]
theorem qaH(x y:Abs)(n s:Int):BD (F7 x y).nu n s=BD (F7 y x).nu n s:=qam x.nu y.nu n s
theorem qaf(x y:Abs)(n:Int):decide ((F7 x y).dl≤n∧n≤(F7 x y).dh)=decide ((F7 y x).dl≤n∧n≤(F7 y x).dh):=by
 have h:((F7 x y).dl≤n∧n≤(F7 x y).dh)↔((F7 y x).dl≤n∧n≤(F7 y x).dh):=qao (x.dl,x.dh) (y.dl,y.dh) n;rw [decide_eq_decide];exact h
theorem qau(x y:Abs)(i:Nat):bt (F7 x y).kinds i=bt (F7 y x).kinds i:=by rw [Mo,Mo,Bool.or_comm]
theorem qaK(x y:Abs)(v:Val):Ha (F7 x y) v=Ha (F7 y x) v:=by
 have e5:(bt (F7 x y).kinds 5&&ED (F7 x y) v)=(bt (F7 y x).kinds 5&&ED (F7 y x) v):=by
  rw [qau y x];cases hb:bt (F7 x y).kinds 5
  ·rw [Bool.false_and,Bool.false_and]
  ·rw [Mo] at hb;rw [qaL x y v hb]
 have e1:=qau x y 1;have e2:=qau x y 2;have e3:=qau x y 3;have e4:=qau x y 4;have eb:=qab x y v.n.toNat;have et:=qaM x y v.s;have en:=qaH x y v.dn v.ds;have ed:=qaf x y v.n;generalize F7 x y=p at *;generalize F7 y x=q at *;unfold Ha;rw [e5,e1,e2,e3,e4,eb,et,en,ed]
theorem qas(a b:Abs)(v:Val):AW (Fk a b) v=AW (Fk b a) v:=by
 unfold Fk;rw [CL,CL];unfold AW;rw [qaK,qai]
end Go.Proofs.YtidacnalcdhckaaGreatDoor
