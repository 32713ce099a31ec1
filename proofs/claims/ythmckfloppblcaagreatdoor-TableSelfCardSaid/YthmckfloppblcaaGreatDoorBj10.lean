/- A copy of questions, the lists of one of them apart. No conditions. -/
import Derived.Test.YthmckfloppblcaaGreatDoorBj9
import Derived.Laws.EntriesVeiled
import Derived.Shelf.Unicode.PredsPay
import Derived.Lib.ItoaLen
import Derived.Lib.AppendIntMem
import Derived.RangeFuncNested
import Derived.RangeFuncBound
import Derived.RangeFuncCalls
import Derived.RangeFuncLeaves
import Derived.Shelf.Abstract
import Derived.Shelf.RegionOpen
import Derived.WalkKit
import Derived.OwnWalkIn
import Derived.TacticsInMore
import Derived.LoopNIn
import Derived.LoopIn
set_option maxRecDepth 100000
set_option maxHeartbeats 2000000
namespace Go.Proofs.YthmckfloppblcaaGreatDoor
open Go Go.RowKit

def Plain (l:List Val):Prop:=∀ y∈l,y.cols=[]∧y.rows=[]
section
variable {w w':World} {base d k:Nat} {Y:List AskD} {A:Option Addr} {c:Nat} {B:Option Addr} {e:Nat} {C:Option Addr} {f:Nat} {xs:List Value}
end

theorem Own.type {w:World} {base e sz n c g t:Nat} {xs:List Value} {cs:Array Value} (h:Own w base e sz (some ⟨g,0,none⟩) n c xs) (hb:Blk w g t cs) (ht:e≠t):False:=by
 rcases h.2 with ⟨hv,_⟩ | ⟨g',cap,cur,hv,_,hh,_⟩
 ·cases hv
 ·injection hv with hv1;injection hv1 with hv1;injection hv1 with hv1;subst hv1;unfold Blk at hb;rw [hb] at hh;injection hh with hh;injection hh with _ h2;exact ht h2.symm
theorem ob_some {A:Option Addr} {w:World} {base e sz n c b:Nat} {xs:List Value} (h:Own w base e sz A n c xs) (hb:ob A=some b):A=some ⟨b,0,none⟩:=by
 rcases h.2 with ⟨hv,_⟩ | ⟨g',cap,cur,hv,_⟩
 ·injection hv with hv; rw [hv] at hb; cases hb
 ·injection hv with hv;rw [hv] at hb ⊢;injection hb with hb;rw [show g'=b from hb]

section
variable {w w':World} {base d k:Nat} {Y:List AskD} {A:Option Addr} {c:Nat} {B:Option Addr} {e:Nat} {C:Option Addr} {f:Nat} {xs:List Value}
end

def leapN (y:Nat):Bool:=(y % 4==0 && y % 100 != 0) || y % 400==0
def beforeN (y:Nat):Nat:=365*(y-1)+(y-1) / 4-(y-1) / 100+(y-1) / 400
theorem date_exists (n:Nat) (w:World):Calls Tryz.prog 171 #[.int .i64 (n:Int)] w (RetB w (decide (n≤3652058))):=by
 go_enter Tryz.func171,Tryz.ntmps171
 have h0:(0:Int)≤(n:Int):=(by omega);by_cases h:n≤3652058
 ·have h1:(n:Int)≤3652058:=(by omega);rw [decide_eq_true h];go_wp2;go_ret;exact ⟨rfl,Ext.refl _⟩
 ·have h1:¬ (n:Int)≤3652058:=(by omega);rw [decide_eq_false h];go_wp2;go_ret;exact ⟨rfl,Ext.refl _⟩
theorem date_leap (y:Nat) (hy:y≤10000) (w:World):Calls Tryz.prog 197 #[.int .i64 (y:Int)] w (RetB w (leapN y)):=by
 have e4:(y:Int) % 4=((y % 4:Nat):Int):=(by omega);have e100:(y:Int) % 100=((y % 100:Nat):Int):=(by omega);have e400:(y:Int) % 400=((y % 400:Nat):Int):=(by omega)
 go_enter Tryz.func197,Tryz.ntmps197
 by_cases h4:y % 4=0
 ·have j4:((y:Int) % 4==0)=true:=(by rw [e4,h4]; rfl);by_cases h100:y % 100=0
  ·have j100:((y:Int) % 100 != 0)=false:=(by rw [e100,h100]; rfl);by_cases h400:y % 400=0
   ·have j400:((y:Int) % 400==0)=true:=(by rw [e400,h400]; rfl);have hl:leapN y=true:=(by simp [leapN,h400]);rw [hl];clear e4 e100 e400;go_wp2;go_ret;exact ⟨by first | rfl | (show Ending.returned (Value.bool ((y:Int) % 400==0))=_; rw [j400]),Ext.refl _⟩
   ·have j400:((y:Int) % 400==0)=false:=(by rw [e400]; simp; omega);have hl:leapN y=false:=(by simp [leapN,h4,h100,h400]);rw [hl];clear e4 e100 e400;go_wp2;go_ret;exact ⟨by first | rfl | (show Ending.returned (Value.bool ((y:Int) % 400==0))=_; rw [j400]),Ext.refl _⟩
  ·have j100:((y:Int) % 100 != 0)=true:=(by rw [e100]; simp; omega);have hl:leapN y=true:=(by simp [leapN,h4,h100]);rw [hl];clear e4 e100 e400;go_wp2;go_ret;exact ⟨by first | rfl | (show Ending.returned (Value.bool ((y:Int) % 400==0))=_; rw [j400]),Ext.refl _⟩
 ·have j4:((y:Int) % 4==0)=false:=(by rw [e4]; simp; omega);have h400:¬ y % 400=0:=(by omega);have j400:((y:Int) % 400==0)=false:=(by rw [e400]; simp; omega);have hl:leapN y=false:=(by simp [leapN,h4,h400]);rw [hl];clear e4 e100 e400;go_wp2;go_ret;exact ⟨by first | rfl | (show Ending.returned (Value.bool ((y:Int) % 400==0))=_; rw [j400]),Ext.refl _⟩
theorem date_before (y:Nat) (h1:1≤y) (hy:y≤10000) (w:World):Calls Tryz.prog 172 #[.int .i64 (y:Int)] w (RetI w (beforeN y:Int)):=by
 obtain ⟨z,rfl⟩:∃ z,y=z+1:=⟨y-1,by omega⟩;have w1:wrap64 (((z+1:Nat):Int)-1)=(z:Int):=(by unfold wrap64; omega)
 go_enter Tryz.func172,Tryz.ntmps172
 go_wp2;go_ret;refine ⟨?_,Ext.refl _⟩;show Ending.returned (Value.int .i64 (365*(z:Int)+(z:Int) / 4-(z:Int) / 100+(z:Int) / 400))=_;congr 2;unfold beforeN;rw [Nat.add_sub_cancel];omega
def monthN (m:Nat):Nat:=if m=4∨m=6∨m=9∨m=11 then 30 else if m=2 then 28 else 31
def daysN (y m:Nat):Nat:=if m=2∧leapN y=true then 29 else monthN m
def Months (w:World):Prop:=∀ m,1≤m→m≤12→w.cell? ⟨5,m-1,none⟩=some (.int .i64 (monthN m:Int))
theorem date_days (y m:Nat) (hy:y≤10000) (h1:1≤m) (h12:m≤12) (w:World) (hM:Months w):Calls Tryz.prog 173 #[.int .i64 (y:Int),.int .i64 (m:Int)] w (RetI w (daysN y m:Int)):=by
 have hc:=hM m h1 h12;have w1:wrap64 ((m:Int)-1)=((m-1:Nat):Int):=(by unfold wrap64; omega);have e1:(m:Int)-1=((m-1:Nat):Int):=(by omega);obtain ⟨k,ek⟩:∃ k,k=m-1:=⟨_,rfl⟩;rw [← ek] at hc w1 e1;have hkm:m=k+1:=(by omega);have hk:k<12:=(by omega);have i0:(0:Int)≤(k:Int):=(by omega);have i1:(k:Int)<12:=(by omega);clear ek hM
 go_enter Tryz.func173,Tryz.ntmps173
 by_cases h2:m=2
 ·obtain rfl:k=1:=by omega
  subst h2;cases hl:leapN y with
  | true =>
   have hd:daysN y 2=29:=(by unfold daysN; rw [if_pos ⟨rfl,hl⟩]);rw [hd]
   go_wp2_with fail
   refine (date_leap y hy w).mono ?_;rintro e1 w1 ⟨rfl,hx⟩;have HX:=Hd hx;rw [hl];clear hx
   go_wp2_with fail
   go_ret;exact ⟨rfl,HX.o⟩
  | false =>
   have hd:daysN y 2=monthN 2:=(by unfold daysN; rw [if_neg (by rw [hl]; simp)]);rw [hd]
   go_wp2_with fail
   refine (date_leap y hy w).mono ?_;rintro e2 w2 ⟨rfl,hx⟩;have HX:=Hd hx;have hc2:=hx.cell hc;rw [hl];clear hx
   go_wp2_with fail
   go_ret;exact ⟨rfl,HX.o⟩
 ·have j2:((m:Int)==2)=false:=(by rw [beq_eq_false_iff_ne]; omega);have hd:daysN y m=monthN m:=(by unfold daysN; rw [if_neg (fun h=>h2 h.1)]);rw [hd]
  go_wp2_with fail
  go_ret;exact ⟨by rw [hkm]; rfl,Ext.refl _⟩
def yearG (n:Nat):Nat→Nat→Nat
 | 0,y=>y
 | f+1,y=>if y<9999∧beforeN (y+1)≤n then yearG n f (y+1) else y
def civY (n:Nat):Nat:=yearG n 9999 (n / 366+1)
def dayG (y:Nat):Nat→Nat→Nat→Nat × Nat
 | 0,m,d=>(m,d)
 | f+1,m,d=>if daysN y m<d then dayG y f (m+1) (d-daysN y m) else (m,d)
def civMD (n:Nat):Nat × Nat:=dayG (civY n) 12 1 (n-beforeN (civY n)+1)
def restG (y:Nat):Nat→Nat→Nat
 | 0,_=>0
 | f+1,m=>daysN y m+restG y f (m+1)
theorem restG_all (y:Nat):restG y 12 1=365+(if leapN y=true then 1 else 0):=by
 cases h:leapN y <;> simp [restG,daysN,monthN,h]
theorem before_succ (y:Nat) (h:1≤y):beforeN (y+1)=beforeN y+365+(if leapN y=true then 1 else 0):=by
 obtain ⟨z,rfl⟩:∃ z,y=z+1:=⟨y-1,by omega⟩;unfold beforeN leapN;rw [Nat.add_sub_cancel,Nat.add_sub_cancel];by_cases h4:(z+1) % 4=0
 ·by_cases h100:(z+1) % 100=0
  ·by_cases h400:(z+1) % 400=0
   ·simp [h4,h100,h400]; omega
   ·simp [h4,h100,h400]; omega
  ·have h400:¬ (z+1) % 400=0:=(by omega);simp [h4,h100,h400]; omega
 ·have h100:¬ (z+1) % 100=0:=(by omega);have h400:¬ (z+1) % 400=0:=(by omega);simp [h4,h100,h400]; omega
theorem before_le {a b:Nat} (h:1≤a) (hab:a≤b):beforeN a≤beforeN b:=by
 obtain ⟨k,rfl⟩:∃ k,b=a+k:=⟨b-a,by omega⟩;clear hab
 induction k with
 | zero=>exact Nat.le_refl _
 | succ k ih =>
  have:=before_succ (a+k) (by omega);rw [← Nat.add_assoc,this];omega
theorem before_big {y:Nat} (hy:y≤10000) (h1:1≤y):beforeN y≤4000000:=Nat.le_trans (before_le h1 hy) (by decide)
def RetCv (w:World) (y m d:Nat) (e:Ending) (w':World):Prop:=e=.returned (.tuple #[.int .i64 (y:Int),.int .i64 (m:Int),.int .i64 (d:Int),.bool true])∧Ext w w'
theorem Months.ext {w w':World} (h:Months w) (hx:Ext w w'):Months w':=fun m h1 h2=>hx.cell (h m h1 h2)
theorem date_Civil (n:Nat) (hn:n≤3652058) (w:World) (hM:Months w):Calls Tryz.prog 146 #[.int .i64 (n:Int)] w (RetCv w (civY n) (civMD n).1 (civMD n).2):=by
 have HM:=Hd hM;have HT:=Hd (date_exists n w);rw [decide_eq_true hn] at HT;clear hM
 go_enter Tryz.func146,Tryz.ntmps146
 go_wp2_with fail
 refine HT.o.mono ?_;rintro e1 w1 ⟨rfl,hx1⟩;have HX1:=Hd hx1;have hy0:n / 366+1≤9999:=(by omega);have hb0:beforeN (n / 366+1)≤n:=(by unfold beforeN; rw [Nat.add_sub_cancel]; omega);have HC:=Hd (show civY n=yearG n 9999 (n / 366+1) from rfl);obtain ⟨y0,ey0⟩:∃ y,y=n / 366+1:=⟨_,rfl⟩;have hq:((n / 366:Nat):Int)+1=(y0:Int):=(by omega);rw [← ey0] at hy0 hb0 HC;have hy1:1≤y0:=(by omega);clear hx1 ey0
 go_wp2_with fail
 go_loopw [2] (fun v wr=>∃ y f:Nat,v=.int .i64 (y:Int)∧(1≤y∧y≤9999∧beforeN y≤n)∧9999≤y+f∧civY n=yearG n f y∧Ext w wr) (fun v _=>9999-(intOf v).toNat)
 case atStart=>exact ⟨y0,9999,by rw [show (n:Int) / 366+1=(y0:Int) by omega],⟨hy1,hy0,hb0⟩,by omega,HC.o,HX1.o⟩
 case round =>
  obtain ⟨y,f,rfl,⟨h1,h9,hb⟩,hf,hc,hx⟩:=hrel;clear hy0 hb0 hq hy1 HC HX1 y0;by_cases hlt:y<9999
  ·have hlt':(y:Int)<9999:=(by omega);obtain ⟨g,rfl⟩:∃ g,f=g+1:=⟨f-1,by omega⟩;have hc2:civY n=if y<9999∧beforeN (y+1)≤n then yearG n g (y+1) else y:=hc;have HB:=Hd (show Calls Tryz.prog 172 #[.int .i64 ((y:Int)+1)] wr (RetI wr (beforeN (y+1):Int)) from by
    have h:=date_before (y+1) (by omega) (by omega) wr;rwa [show ((y+1:Nat):Int)=(y:Int)+1 by omega] at h)
   obtain ⟨bn,ebn⟩:∃ b,b=beforeN (y+1):=⟨_,rfl⟩;have HBN:=Hd ebn;rw [← ebn] at HB hc2;by_cases hbn:bn≤n
   ·have j1:(bn:Int)≤(n:Int):=(by omega);rw [if_pos ⟨hlt,hbn⟩] at hc2;have HX:=Hd hx;have HC2:=Hd hc2;clear hx hc hc2 ebn
    go_wp2_with fail
    refine HB.o.mono ?_;rintro e2 w2 ⟨rfl,hx2⟩;have HX2:=Hd hx2;clear hx2
    go_wp2_with fail
    go_roundw
    case rel=>exact ⟨y+1,g,by go_num,⟨by omega,by omega,by rw [← HBN.o]; exact hbn⟩,by omega,HC2.o,HX.o.trans HX2.o⟩
    case measure =>
     show 9999-(intOf (.int .i64 _)).toNat<9999-(intOf (.int .i64 _)).toNat;simp only [intOf];omega
   ·have j1:¬ (bn:Int)≤(n:Int):=(by omega);rw [if_neg (fun h=>hbn h.2)] at hc2;have hcv:civY n=y:=hc2;have hub:n<beforeN (y+1):=(by rw [← ebn]; omega);have HXR:=Hd hx;clear hc hc2 ebn hx
    go_wp2_with fail
    refine HB.o.mono ?_;rintro e2 w2 ⟨rfl,hx2⟩;have hx:Ext w w2:=HXR.o.trans hx2;clear hx2;have HX:=Hd hx;have HCV:=Hd hcv;have hbs:=before_succ y h1;have hbb:=before_big (y:=y) (by omega) h1;have HMR:=Hd (HM.o.ext hx);clear hx hcv
    go_wp2_with fail
    refine (date_before y h1 (by omega) w2).mono ?_;rintro e3 w3 ⟨rfl,hx3⟩;have HX3:=Hd hx3;have HMD:=Hd (show civMD n=dayG y 12 1 (n-beforeN y+1) by unfold civMD; rw [HCV.o]);obtain ⟨q,eq⟩:∃ q,q=n-beforeN y:=⟨_,rfl⟩;obtain ⟨by_,eby⟩:∃ b,b=beforeN y:=⟨_,rfl⟩;rw [← eby] at hb hbs hbb eq HMD;rw [← eq] at HMD;have e0:(n:Int)-(by_:Int)=(q:Int):=(by omega);have hr0:q+1≤restG y 12 1:=(by rw [restG_all]; omega);have hd9:q≤400:=(by rw [restG_all] at hr0; split at hr0 <;> omega);rw [← eby];clear eq eby hbs hub hx3
    go_wp2_with fail
    go_loopw [3,4] (fun v3 v4 wr=>∃ m d f:Nat,v3=.int .i64 (m:Int)∧v4=.int .i64 (d:Int)∧(1≤m∧m+f=13∧1≤f)∧(1≤d∧d≤401)∧d≤restG y f m∧civMD n=dayG y f m d∧Ext w3 wr) (fun v3 _ _=>13-(intOf v3).toNat)
    case atStart=>exact ⟨1,q+1,12,rfl,rfl,⟨by omega,by omega,by omega⟩,⟨by omega,by omega⟩,hr0,HMD.o,Ext.refl _⟩
    case round =>
     obtain ⟨m,d,f,rfl,rfl,⟨hm1,hmf,hf1⟩,⟨hd1',hd9'⟩,hdr,hmd,hx4⟩:=hrel;have HX4:=Hd hx4;have HMDD:=Hd hmd;have HM4:=Hd (HMR.o.ext (HX3.o.trans hx4));clear hx4 hmd;obtain ⟨g,rfl⟩:∃ g,f=g+1:=⟨f-1,by omega⟩;have hrs:restG y (g+1) m=daysN y m+restG y g (m+1):=rfl;have HDY:=Hd (show ∀ w':World,Ext wr w'→Calls Tryz.prog 173 #[.int .i64 (y:Int),.int .i64 (m:Int)] w' (RetI w' (daysN y m:Int)) from fun w' hx=>date_days y m (by omega) hm1 (by omega) w' (HM4.o.ext hx));obtain ⟨dm,edm⟩:∃ x,x=daysN y m:=⟨_,rfl⟩;have HDM:=Hd edm;rw [← edm] at HDY hrs;have hdm:dm≤31:=(by rw [edm]; unfold daysN monthN; split <;> (try split) <;> (try split) <;> omega);clear edm;by_cases hlt:dm<d
     ·have j1:(dm:Int)<(d:Int):=by omega
      go_wp2_with fail
      refine (HDY.o wr (Ext.refl _)).mono ?_;rintro e5 w5 ⟨rfl,hx5⟩;have HX5:=Hd hx5;clear hx5
      go_wp2_with fail
      refine (HDY.o w5 HX5.o).mono ?_;rintro e6 w6 ⟨rfl,hx6⟩;have HX6:=Hd hx6;have w1:wrap64 ((d:Int)-(dm:Int))=((d-dm:Nat):Int):=(by unfold wrap64; omega);clear hx6;have hg:1≤g:=by
       rcases Nat.eq_zero_or_pos g with h | h
       ·subst h;have h0:restG y 0 (m+1)=0:=rfl;omega
       ·exact h
      go_wp2_with fail
      go_roundw
      case rel =>
       refine ⟨m+1,d-dm,g,by go_num,by first | rfl | (congr 1; omega) | go_num,⟨by omega,by omega,hg⟩,⟨by omega,by omega⟩,by omega,?_,HX4.o.trans (HX5.o.trans HX6.o)⟩;rw [HMDD.o];show (if daysN y m<d then _ else _)=_;rw [← HDM.o,if_pos hlt]
      case measure=>simp [intOf]; omega
     ·have j1:¬ (dm:Int)<(d:Int):=by omega
      go_wp2_with fail
      refine (HDY.o wr (Ext.refl _)).mono ?_;rintro e5 w5 ⟨rfl,hx5⟩;have HX5:=Hd hx5;clear hx5
      go_wp2_with fail
      have HE:=Hd (show civMD n=(m,d) by
       rw [HMDD.o];show (if daysN y m<d then _ else _)=_;rw [← HDM.o,if_neg hlt])
      refine bodyPost_ret (v:=.tuple #[.int .i64 (y:Int),.int .i64 (m:Int),.int .i64 (d:Int),.bool true]) (by simp [results,Tryz.results146,go_sem]) rfl ?_;exact ⟨by rw [HCV.o,HE.o],HX.o.trans (HX3.o.trans (HX4.o.trans HX5.o))⟩
  ·have hlt':¬ (y:Int)<9999:=(by omega);have hcv:civY n=y:=by
    rw [hc];cases f with
    | zero=>rfl
    | succ f=>exact if_neg (fun h=>hlt h.1)
   have hub:n<beforeN (y+1):=by
    have hy9:y=9999:=(by omega);rw [hy9];exact Nat.lt_of_le_of_lt hn (show 3652058<beforeN (9999+1) by unfold beforeN; omega)
   clear hc;have HX:=Hd hx;have HCV:=Hd hcv;have hbs:=before_succ y h1;have hbb:=before_big (y:=y) (by omega) h1;have HMR:=Hd (HM.o.ext hx);clear hx hcv
   go_wp2_with fail
   refine (date_before y h1 (by omega) wr).mono ?_;rintro e3 w3 ⟨rfl,hx3⟩;have HX3:=Hd hx3;have HMD:=Hd (show civMD n=dayG y 12 1 (n-beforeN y+1) by unfold civMD; rw [HCV.o]);obtain ⟨q,eq⟩:∃ q,q=n-beforeN y:=⟨_,rfl⟩;obtain ⟨by_,eby⟩:∃ b,b=beforeN y:=⟨_,rfl⟩;rw [← eby] at hb hbs hbb eq HMD;rw [← eq] at HMD;have e0:(n:Int)-(by_:Int)=(q:Int):=(by omega);have hr0:q+1≤restG y 12 1:=(by rw [restG_all]; omega);have hd9:q≤400:=(by rw [restG_all] at hr0; split at hr0 <;> omega);rw [← eby];clear eq eby hbs hub hx3
   go_wp2_with fail
   go_loopw [3,4] (fun v3 v4 wr=>∃ m d f:Nat,v3=.int .i64 (m:Int)∧v4=.int .i64 (d:Int)∧(1≤m∧m+f=13∧1≤f)∧(1≤d∧d≤401)∧d≤restG y f m∧civMD n=dayG y f m d∧Ext w3 wr) (fun v3 _ _=>13-(intOf v3).toNat)
   case atStart=>exact ⟨1,q+1,12,rfl,rfl,⟨by omega,by omega,by omega⟩,⟨by omega,by omega⟩,hr0,HMD.o,Ext.refl _⟩
   case round =>
    obtain ⟨m,d,f,rfl,rfl,⟨hm1,hmf,hf1⟩,⟨hd1',hd9'⟩,hdr,hmd,hx4⟩:=hrel;have HX4:=Hd hx4;have HMDD:=Hd hmd;have HM4:=Hd (HMR.o.ext (HX3.o.trans hx4));clear hx4 hmd;obtain ⟨g,rfl⟩:∃ g,f=g+1:=⟨f-1,by omega⟩;have hrs:restG y (g+1) m=daysN y m+restG y g (m+1):=rfl;have HDY:=Hd (show ∀ w':World,Ext wr w'→Calls Tryz.prog 173 #[.int .i64 (y:Int),.int .i64 (m:Int)] w' (RetI w' (daysN y m:Int)) from fun w' hx=>date_days y m (by omega) hm1 (by omega) w' (HM4.o.ext hx));obtain ⟨dm,edm⟩:∃ x,x=daysN y m:=⟨_,rfl⟩;have HDM:=Hd edm;rw [← edm] at HDY hrs;have hdm:dm≤31:=(by rw [edm]; unfold daysN monthN; split <;> (try split) <;> (try split) <;> omega);clear edm;by_cases hlt:dm<d
    ·have j1:(dm:Int)<(d:Int):=by omega
     go_wp2_with fail
     refine (HDY.o wr (Ext.refl _)).mono ?_;rintro e5 w5 ⟨rfl,hx5⟩;have HX5:=Hd hx5;clear hx5
     go_wp2_with fail
     refine (HDY.o w5 HX5.o).mono ?_;rintro e6 w6 ⟨rfl,hx6⟩;have HX6:=Hd hx6;have w1:wrap64 ((d:Int)-(dm:Int))=((d-dm:Nat):Int):=(by unfold wrap64; omega);clear hx6;have hg:1≤g:=by
      rcases Nat.eq_zero_or_pos g with h | h
      ·subst h;have h0:restG y 0 (m+1)=0:=rfl;omega
      ·exact h
     go_wp2_with fail
     go_roundw
     case rel =>
      refine ⟨m+1,d-dm,g,by go_num,by first | rfl | (congr 1; omega) | go_num,⟨by omega,by omega,hg⟩,⟨by omega,by omega⟩,by omega,?_,HX4.o.trans (HX5.o.trans HX6.o)⟩;rw [HMDD.o];show (if daysN y m<d then _ else _)=_;rw [← HDM.o,if_pos hlt]
     case measure=>simp [intOf]; omega
    ·have j1:¬ (dm:Int)<(d:Int):=by omega
     go_wp2_with fail
     refine (HDY.o wr (Ext.refl _)).mono ?_;rintro e5 w5 ⟨rfl,hx5⟩;have HX5:=Hd hx5;clear hx5
     go_wp2_with fail
     have HE:=Hd (show civMD n=(m,d) by
      rw [HMDD.o];show (if daysN y m<d then _ else _)=_;rw [← HDM.o,if_neg hlt])
     refine bodyPost_ret (v:=.tuple #[.int .i64 (y:Int),.int .i64 (m:Int),.int .i64 (d:Int),.bool true]) (by simp [results,Tryz.results146,go_sem]) rfl ?_;exact ⟨by rw [HCV.o,HE.o],HX.o.trans (HX3.o.trans (HX4.o.trans HX5.o))⟩

def bsA (l:List UInt8):ByteArray:=⟨l.toArray⟩
theorem bsA_app (a b:List UInt8):bsA a++bsA b=bsA (a++b):=by
 apply ByteArray.ext;simp [bsA,ByteArray.data_append]
def RetTx (w:World) (s:ByteArray) (e:Ending) (w':World):Prop:=e=.returned (.string s)∧Ext w w'
structure Txt (w:World):Prop where
 tens:Tens w
 months:Months w
 pow:Lib.TabIs Tryz.prog w "internal/strconv.uint64pow10" .u64 Lib.pow10Tab
theorem Ext.grow {w w':World} (h:Ext w w') (os:Array Obj):Ext w (Go.Sort.grow w' os):=⟨h.os,h.tape,h.output,by simp only [Go.Sort.grow,Array.size_append]; have:=h.size; omega,fun b hb=>by
 have h1:=h.block b hb;have h2:=h.size;simp only [Go.Sort.grow];rw [Array.getElem?_append_left (by omega)];exact h1⟩
theorem gPow:Tryz.prog.globalNamed "internal/strconv.uint64pow10" = some 1:=by kernel_rfl
theorem Txt.ext {w w':World} (h:Txt w) (hx:Ext w w'):Txt w':=⟨h.tens.ext hx,h.months.ext hx,TabIs_below gPow h.pow hx⟩
theorem str_Itoa (n:Int) (h0:-9223372036854775808≤n) (h1:n≤9223372036854775807) (w:World) (h:Txt w):Calls Tryz.prog 94 #[.int .i64 n] w (RetTx w (bsA (Lib.itoa n))):=by
 refine (Any.strconv_Itoa Tryz.lt171 n h0 h1 w h.pow).mono ?_;rintro e w' ⟨rfl,k,os,rfl⟩;exact ⟨rfl,(Ext.refl w).drewN k |>.grow os⟩
theorem str_Repeat (s:ByteArray) (c:Nat) (w:World) (hc:c≤1000) (hs:s.size≤1000):Calls Tryz.prog 198 #[.string s,.int .i64 (c:Int)] w (RetTx w (bsA (Lib.repeatL s.data.toList c))) :=
 Any.strings_Repeat Tryz.lt105 Tryz.xt105 s c w (by omega) (by have:=Nat.mul_le_mul hs hc; omega)
theorem itoa_len (n:Nat) (h:n≤9223372036854775807):(Lib.itoa (n:Int)).length≤21:=Lib.itoa_length_le n (by omega) (by omega)
def padL (n size:Nat):List UInt8:=Lib.repeatL [48] (size-(Lib.itoa (n:Int)).length)++Lib.itoa (n:Int)
theorem date_padded (n size:Nat) (hn:n≤1000000) (hs:size≤100) (w:World) (h:Txt w):Calls Tryz.prog 175 #[.int .i64 (n:Int),.int .i64 (size:Int)] w (RetTx w (bsA (padL n size))):=by
 have HT:=Hd h;have hl:=itoa_len n (by omega);obtain ⟨s,es⟩:∃ s,s=bsA (Lib.itoa (n:Int)):=⟨_,rfl⟩;obtain ⟨k,ek⟩:∃ k,k=(Lib.itoa (n:Int)).length:=⟨_,rfl⟩;have hsz:s.size=k:=(by rw [es,ek]; simp [bsA,ByteArray.size]);have HI:=Hd (str_Itoa n (by omega) (by omega) w h);have HP:=Hd (show padL n size=Lib.repeatL [48] (size-k)++Lib.itoa (n:Int) by rw [ek]; rfl);rw [← es] at HI;rw [← ek] at hl;have HES:=Hd es;clear h es ek
 go_enter Tryz.func175,Tryz.ntmps175
 go_wp2_with fail
 refine HI.o.mono ?_;rintro e1 w1 ⟨rfl,hx1⟩;have HX1:=Hd hx1;have hm:(if (size:Int)-(k:Int)<0 then (0:Int) else (size:Int)-(k:Int))=((size-k:Nat):Int):=(by split <;> omega);have hm2:max ((size:Int)-(k:Int)) 0=((size-k:Nat):Int):=(by omega);clear hx1
 go_wp2_with fail
 obtain ⟨z,ez⟩:∃ z,z=bsA (Lib.repeatL [48] (size-k)):=⟨_,rfl⟩;have hz:z.size=size-k:=(by rw [ez]; simp [bsA,ByteArray.size,Lib.repeatL_length]);have HR:=Hd (show Calls Tryz.prog 198 #[.string ⟨#[48]⟩,.int .i64 ((size-k:Nat):Int)] w1 (RetTx w1 z) by rw [ez]; exact str_Repeat ⟨#[48]⟩ (size-k) w1 (by omega) (by decide));have HEZ:=Hd ez;have hzs:z.size+s.size≤200:=(by omega);clear ez;refine HR.o.mono ?_;rintro e2 w2 ⟨rfl,hx2⟩;have HX2:=Hd hx2;clear hx2
 go_wp2_with fail
 go_ret;refine ⟨?_,HX1.o.trans HX2.o⟩;show Ending.returned (Value.string (z++s))=_;rw [HEZ.o,HES.o,HP.o];rw [bsA_app]
end Go.Proofs.YthmckfloppblcaaGreatDoor
namespace Go.Proofs.YthmckfloppblcaaGreatDoor
open Go Go.RowKit Go.Sort

theorem ifu_small (u:Nat) (h:u<100) (w:World):Calls Tryz.prog 145 #[.int .u64 (u:Int),.int .i64 10] w (RetTx w (bsA (Lib.decDigits u))):=by
 obtain ⟨z,ez⟩:∃ z,z=bsA (Lib.decDigits u):=⟨_,rfl⟩;have HS:=Hd (show ∀ w',Calls Tryz.prog 163 #[.int .i64 (u:Int)] w' (fun e w2=>e=.returned (.string z)∧w2=w') from fun w'=>by rw [ez]; exact Any.internal_strconv_small Tryz.lt283 u h w');rw [← ez];clear ez
 go_enter Tryz.func145,Tryz.ntmps145
 go_wp2_with fail
 refine (HS.o _).mono ?_;rintro e2 w2 ⟨rfl,rfl⟩
 go_wp2_with fail
 go_ret;exact ⟨rfl,Ext.refl _⟩
theorem ifu_big (u:Nat) (h:100≤u) (h2:u≤9223372036854775807) (w:World) (hT:Txt w):Calls Tryz.prog 145 #[.int .u64 (u:Int),.int .i64 10] w (RetTx w (bsA (Lib.decDigits u))):=by
 have hu1:1≤u:=(by omega);have hu64:u<18446744073709551616:=(by omega);have hnd20:Lib.nDigits u≤20:=(by have:=Lib.numDigits_eq u hu1 hu64; split at this <;> omega);have HND:=Hd (show ∀ w',Lib.TabIs Tryz.prog w' "internal/strconv.uint64pow10" .u64 Lib.pow10Tab→Calls Tryz.prog 164 #[.int .u64 (u:Int)] w' (fun e w2=>e=.returned (.int .i64 (Lib.nDigits u:Int))∧w2=w') from fun w' h=>Any.internal_strconv_numDigits (ρ:=Tryz.lt171_ren) { Tryz.lt171 with } u hu1 hu64 w' h);have hH0:=Lib.holds_zero0 w 203 (Lib.nDigits u) (by omega);have hfmt:=Any.internal_strconv_formatBase10 Tryz.lt285 w.heap.size 0 24 u (Array.replicate (Lib.nDigits u) 0) (w.alloc (.cells Lib.zeros24 203)) hH0 (by rw [Array.size_replicate]; exact Lib.lt_pow_nDigits u) hu64 (by rw [Array.size_replicate]; omega);rw [Array.size_replicate] at hfmt;have HF:=Hd (show Calls Tryz.prog 165 #[.slice (some ⟨w.heap.size,0,none⟩) (Lib.nDigits u) 24,.int .u64 (u:Int)] (w.alloc (.cells Lib.zeros24 203)) _ from hfmt);have HH0:=Hd hH0;have hal:Tryz.prog.arrayLen 203=24:=(by kernel_rfl);have hel:Tryz.prog.elem 203=5:=(by kernel_rfl);have hsl:∀ W,(Instr.sliceAt 203 (.pointer (some ⟨w.heap.size,0,none⟩)) none (some (.int .i64 (Lib.nDigits u:Int))) none).run Tryz.prog W=.ok (.slice (some ⟨w.heap.size,0,none⟩) (Lib.nDigits u) 24) W:=fun W=>by
  rw [run_sliceAt_array_h W 203 ⟨w.heap.size,0,none⟩ (by simp [hal,hel,Tryz.underlying203]) .i64 (Lib.nDigits u:Int) (by omega) (by rw [hal]; omega)];rw [hal,hel];go_simp
 clear hfmt hH0 hal hel
 go_enter Tryz.func145,Tryz.ntmps145
 go_wp2_with fail
 refine (HND.o _ (Lib.tabIs_alloc hT.pow _)).mono ?_;rintro e2 w2 ⟨rfl,rfl⟩
 go_wp2_with fail
 refine HF.o.mono ?_;rintro e3 w3 ⟨rfl,k,v',dk,rfl,hF⟩;have hcv:(convert 132 9 (.slice (some ⟨w.heap.size,0,none⟩) (Lib.nDigits u) 24)).run Tryz.prog ((putRow (fun (b:UInt8)=>Value.int .u8 (b.toNat:Int)) (w.alloc (.cells Lib.zeros24 203)) w.heap.size 0 dk).drewN k)=.ok (.string ⟨(Lib.decDigits u).toArray⟩) ((putRow (fun (b:UInt8)=>Value.int .u8 (b.toNat:Int)) (w.alloc (.cells Lib.zeros24 203)) w.heap.size 0 dk).drewN k):=by
  have h:=run_convert_bytes_back (P:=Tryz.prog) ((putRow (fun (b:UInt8)=>Value.int .u8 (b.toNat:Int)) (w.alloc (.cells Lib.zeros24 203)) w.heap.size 0 dk).drewN k) 132 9 5 ⟨w.heap.size,0,none⟩ 24 (Lib.decDigits u) Tryz.underlying132 Tryz.underlying5 Tryz.underlying9 (fun j hj=>by
   rw [Lib.row_is_numeral hF j hj,Lib.add_plain,World.cell?_drewN];exact cell?_putRow (fun (b:UInt8)=>Value.int .u8 (b.toNat:Int)) _ w.heap.size 0 _ dk HH0.o (by rw [hF.size,Array.size_replicate]) j (by rw [hF.size]; rw [Lib.decDigits_length] at hj; exact hj))
  rw [Lib.decDigits_length] at h;exact h
 go_wp2;go_ret;obtain ⟨os,eo⟩:=Lib.fin_at w (.cells Lib.zeros24 203) dk k 0;refine ⟨rfl,?_⟩;rw [eo];exact (Ext.refl w).drewN k |>.grow os
theorem str_FormatUint (u:Nat) (h2:u≤9223372036854775807) (w:World) (hT:Txt w):Calls Tryz.prog 120 #[.int .u64 (u:Int),.int .i64 10] w (RetTx w (bsA (Lib.decDigits u))):=by
 have HI:=Hd (show Calls Tryz.prog 145 #[.int .u64 (u:Int),.int .i64 10] w (RetTx w (bsA (Lib.decDigits u))) from by
  rcases Nat.lt_or_ge u 100 with h | h
  ·exact ifu_small u h w
  ·exact ifu_big u h h2 w hT)
 obtain ⟨z,ez⟩:∃ z,z=bsA (Lib.decDigits u):=⟨_,rfl⟩;rw [← ez] at HI ⊢;clear ez hT
 go_enter Tryz.func120,Tryz.ntmps120
 go_wp2_with fail
 refine HI.o.mono ?_;rintro e2 w2 ⟨rfl,hx⟩;have HX:=Hd hx;clear hx
 go_wp2_with fail
 go_ret;exact ⟨rfl,HX.o⟩

theorem bsA_extract (l:List UInt8) (a b:Nat):(bsA l).extract a b=bsA ((l.drop a).take (b-a)):=by
 apply ByteArray.ext;show ((bsA l).extract a b).data=_;rw [ByteArray.data_extract];apply Array.ext';simp [bsA,List.extract]
theorem run_idx0 (w:World):(Instr.index 232 (.agg #[.string ⟨#[89,89,89,89]⟩,.string ⟨#[77,77]⟩,.string ⟨#[77]⟩,.string ⟨#[68,68]⟩,.string ⟨#[68]⟩]) (.int .i64 0)).run Tryz.prog w=.ok (.string ⟨#[89,89,89,89]⟩) w:=by
 have ht:=Tryz.underlying232;have h9:=Tryz.sizeOf9;have ha:=Tryz.isAgg9;simp [Instr.index,asIntOf,run_underlying ht,part,h9,ha]
theorem run_idx1 (w:World):(Instr.index 232 (.agg #[.string ⟨#[89,89,89,89]⟩,.string ⟨#[77,77]⟩,.string ⟨#[77]⟩,.string ⟨#[68,68]⟩,.string ⟨#[68]⟩]) (.int .i64 1)).run Tryz.prog w=.ok (.string ⟨#[77,77]⟩) w:=by
 have ht:=Tryz.underlying232;have h9:=Tryz.sizeOf9;have ha:=Tryz.isAgg9;simp [Instr.index,asIntOf,run_underlying ht,part,h9,ha]
theorem run_idx2 (w:World):(Instr.index 232 (.agg #[.string ⟨#[89,89,89,89]⟩,.string ⟨#[77,77]⟩,.string ⟨#[77]⟩,.string ⟨#[68,68]⟩,.string ⟨#[68]⟩]) (.int .i64 2)).run Tryz.prog w=.ok (.string ⟨#[77]⟩) w:=by
 have ht:=Tryz.underlying232;have h9:=Tryz.sizeOf9;have ha:=Tryz.isAgg9;simp [Instr.index,asIntOf,run_underlying ht,part,h9,ha]
theorem run_idx3 (w:World):(Instr.index 232 (.agg #[.string ⟨#[89,89,89,89]⟩,.string ⟨#[77,77]⟩,.string ⟨#[77]⟩,.string ⟨#[68,68]⟩,.string ⟨#[68]⟩]) (.int .i64 3)).run Tryz.prog w=.ok (.string ⟨#[68,68]⟩) w:=by
 have ht:=Tryz.underlying232;have h9:=Tryz.sizeOf9;have ha:=Tryz.isAgg9;simp [Instr.index,asIntOf,run_underlying ht,part,h9,ha]
theorem run_idx4 (w:World):(Instr.index 232 (.agg #[.string ⟨#[89,89,89,89]⟩,.string ⟨#[77,77]⟩,.string ⟨#[77]⟩,.string ⟨#[68,68]⟩,.string ⟨#[68]⟩]) (.int .i64 4)).run Tryz.prog w=.ok (.string ⟨#[68]⟩) w:=by
 have ht:=Tryz.underlying232;have h9:=Tryz.sizeOf9;have ha:=Tryz.isAgg9;simp [Instr.index,asIntOf,run_underlying ht,part,h9,ha]
def fieldD (i:Nat):List UInt8:=if i=0 then [89,89,89,89] else if i=1 then [77,77] else if i=2 then [77] else if i=3 then [68,68] else [68]
def firstF (l:List UInt8):Nat→Nat→List UInt8 × Bool
 | 0,_=>(l.take 1,false)
 | f+1,i=>if Lib.hasPrefix l (fieldD i)=true then (fieldD i,true) else firstF l f (i+1)
def RetTk (w:World) (r:List UInt8 × Bool) (e:Ending) (w':World):Prop:=e=.returned (.agg #[.string (bsA r.1),.bool r.2])∧Ext w w'
theorem date_first (l:List UInt8) (h0:0<l.length) (hl:l.length≤1000) (w:World):Calls Tryz.prog 177 #[.string (bsA l)] w (RetTk w (firstF l 5 0)):=by
 have HP:=Hd (show ∀ (i:Nat) (w':World),Calls Tryz.prog 199 #[.string (bsA l),.string (bsA (fieldD i))] w' (RetB w' (Lib.hasPrefix l (fieldD i))) from fun i w'=>(Any.strings_HasPrefix Tryz.lt99 (bsA l) (bsA (fieldD i)) w').mono fun e w' ⟨he,hw⟩=>⟨by simpa [bsA] using he,by rw [hw]; exact Ext.refl _⟩);obtain ⟨s,es⟩:∃ s,s=bsA l:=⟨_,rfl⟩;have hs:s.size=l.length:=(by rw [es]; simp [bsA,ByteArray.size]);rw [← es] at HP ⊢;have HES:=Hd es;clear es
 go_enter Tryz.func177,Tryz.ntmps177
 go_wp2_with fail
 obtain ⟨b2,eb2⟩:∃ b,b=w.heap.size:=⟨_,rfl⟩;obtain ⟨w1,ew1⟩:∃ x,x=w.alloc (.cells #[.string ⟨#[]⟩,.bool false] 190):=⟨_,rfl⟩;have HB:=Hd (show Blk w1 b2 190 #[.string ⟨#[]⟩,.bool false] by rw [ew1,eb2]; exact Blk.new _ _ _);have HX1:=Hd (show Ext w w1 by rw [ew1]; exact (Ext.refl w).alloc _);have hb2:w.heap.size≤b2:=(by omega);rw [← ew1,← eb2];clear ew1 eb2
 go_loopw [4,6] (fun _v4 v6 wr=>∃ i:Nat,i≤5∧v6=.int .i64 (i:Int)∧firstF l 5 0=firstF l (5-i) i∧Ext w1 wr) (fun _ v6 _=>5-(intOf v6).toNat)
 case atStart=>exact ⟨0,by omega,rfl,rfl,Ext.refl _⟩
 case round =>
  obtain ⟨i,hi,rfl,hf,hx⟩:=hrel;have HX:=Hd hx;have HF:=Hd hf;have HBR:=Hd (HB.o.keep (hx.kept _));clear hx hf;by_cases hlt:i<5
  ·rcases (show i=0∨i=1∨i=2∨i=3∨i=4 by omega) with rfl | rfl | rfl | rfl | rfl
   ·cases hp:Lib.hasPrefix l (fieldD 0) with
    | true =>
     have HR:=Hd (show firstF l 5 0=(fieldD 0,true) by rw [HF.o]; show (if Lib.hasPrefix l (fieldD 0)=true then _ else _)=_; rw [if_pos hp]);have hid:=run_idx0
     go_wp2_with fail
     refine (HP.o 0 wr).mono ?_;rintro e2 w2 ⟨rfl,hx2⟩;rw [hp];have HX2:=Hd (HX.o.trans hx2);have hb:=HBR.o.keep (hx2.kept _);have HBR2:=Hd hb;have c0:=hb.cell (i:=0) rfl;have c1:=hb.cell (i:=1) rfl;have f0:=hb.frozen 0;have f1:=hb.frozen 1;have hlt2:b2<w2.heap.size:=hb.lt;clear hx2 hb
     go_wp2_with fail
     have hz:=(HBR2.o.set 0 (.string ⟨#[89,89,89,89]⟩)).set 1 (.bool true);have s0:=hz.cell (i:=0) rfl;have s1:=hz.cell (i:=1) rfl;refine bodyPost_ret (v:=.agg #[.string ⟨#[89,89,89,89]⟩,.bool true]) (by simp [results,Tryz.results177,go_sem,s0,s1]) rfl ⟨by rw [HR.o]; rfl,((HX1.o.trans HX2.o).set2 hb2 _).set2 hb2 _⟩
    | false =>
     have HR:=Hd (show firstF l 5 0=firstF l (5-(0+1)) (0+1) by rw [HF.o]; show (if Lib.hasPrefix l (fieldD 0)=true then _ else _)=_; rw [if_neg (by rw [hp]; simp)]);have hid:=run_idx0
     go_wp2_with fail
     refine (HP.o 0 wr).mono ?_;rintro e2 w2 ⟨rfl,hx2⟩;rw [hp];have HX2:=Hd (HX.o.trans hx2);clear hx2
     go_wp2_with fail
     go_roundw
     case rel=>exact ⟨0+1,by omega,by go_num,HR.o,HX2.o⟩
     case measure=>simp [intOf]
   ·cases hp:Lib.hasPrefix l (fieldD 1) with
    | true =>
     have HR:=Hd (show firstF l 5 0=(fieldD 1,true) by rw [HF.o]; show (if Lib.hasPrefix l (fieldD 1)=true then _ else _)=_; rw [if_pos hp]);have hid:=run_idx1
     go_wp2_with fail
     refine (HP.o 1 wr).mono ?_;rintro e2 w2 ⟨rfl,hx2⟩;rw [hp];have HX2:=Hd (HX.o.trans hx2);have hb:=HBR.o.keep (hx2.kept _);have HBR2:=Hd hb;have c0:=hb.cell (i:=0) rfl;have c1:=hb.cell (i:=1) rfl;have f0:=hb.frozen 0;have f1:=hb.frozen 1;have hlt2:b2<w2.heap.size:=hb.lt;clear hx2 hb
     go_wp2_with fail
     have hz:=(HBR2.o.set 0 (.string ⟨#[77,77]⟩)).set 1 (.bool true);have s0:=hz.cell (i:=0) rfl;have s1:=hz.cell (i:=1) rfl;refine bodyPost_ret (v:=.agg #[.string ⟨#[77,77]⟩,.bool true]) (by simp [results,Tryz.results177,go_sem,s0,s1]) rfl ⟨by rw [HR.o]; rfl,((HX1.o.trans HX2.o).set2 hb2 _).set2 hb2 _⟩
    | false =>
     have HR:=Hd (show firstF l 5 0=firstF l (5-(1+1)) (1+1) by rw [HF.o]; show (if Lib.hasPrefix l (fieldD 1)=true then _ else _)=_; rw [if_neg (by rw [hp]; simp)]);have hid:=run_idx1
     go_wp2_with fail
     refine (HP.o 1 wr).mono ?_;rintro e2 w2 ⟨rfl,hx2⟩;rw [hp];have HX2:=Hd (HX.o.trans hx2);clear hx2
     go_wp2_with fail
     go_roundw
     case rel=>exact ⟨1+1,by omega,by go_num,HR.o,HX2.o⟩
     case measure=>simp [intOf]
   ·cases hp:Lib.hasPrefix l (fieldD 2) with
    | true =>
     have HR:=Hd (show firstF l 5 0=(fieldD 2,true) by rw [HF.o]; show (if Lib.hasPrefix l (fieldD 2)=true then _ else _)=_; rw [if_pos hp]);have hid:=run_idx2
     go_wp2_with fail
     refine (HP.o 2 wr).mono ?_;rintro e2 w2 ⟨rfl,hx2⟩;rw [hp];have HX2:=Hd (HX.o.trans hx2);have hb:=HBR.o.keep (hx2.kept _);have HBR2:=Hd hb;have c0:=hb.cell (i:=0) rfl;have c1:=hb.cell (i:=1) rfl;have f0:=hb.frozen 0;have f1:=hb.frozen 1;have hlt2:b2<w2.heap.size:=hb.lt;clear hx2 hb
     go_wp2_with fail
     have hz:=(HBR2.o.set 0 (.string ⟨#[77]⟩)).set 1 (.bool true);have s0:=hz.cell (i:=0) rfl;have s1:=hz.cell (i:=1) rfl;refine bodyPost_ret (v:=.agg #[.string ⟨#[77]⟩,.bool true]) (by simp [results,Tryz.results177,go_sem,s0,s1]) rfl ⟨by rw [HR.o]; rfl,((HX1.o.trans HX2.o).set2 hb2 _).set2 hb2 _⟩
    | false =>
     have HR:=Hd (show firstF l 5 0=firstF l (5-(2+1)) (2+1) by rw [HF.o]; show (if Lib.hasPrefix l (fieldD 2)=true then _ else _)=_; rw [if_neg (by rw [hp]; simp)]);have hid:=run_idx2
     go_wp2_with fail
     refine (HP.o 2 wr).mono ?_;rintro e2 w2 ⟨rfl,hx2⟩;rw [hp];have HX2:=Hd (HX.o.trans hx2);clear hx2
     go_wp2_with fail
     go_roundw
     case rel=>exact ⟨2+1,by omega,by go_num,HR.o,HX2.o⟩
     case measure=>simp [intOf]
   ·cases hp:Lib.hasPrefix l (fieldD 3) with
    | true =>
     have HR:=Hd (show firstF l 5 0=(fieldD 3,true) by rw [HF.o]; show (if Lib.hasPrefix l (fieldD 3)=true then _ else _)=_; rw [if_pos hp]);have hid:=run_idx3
     go_wp2_with fail
     refine (HP.o 3 wr).mono ?_;rintro e2 w2 ⟨rfl,hx2⟩;rw [hp];have HX2:=Hd (HX.o.trans hx2);have hb:=HBR.o.keep (hx2.kept _);have HBR2:=Hd hb;have c0:=hb.cell (i:=0) rfl;have c1:=hb.cell (i:=1) rfl;have f0:=hb.frozen 0;have f1:=hb.frozen 1;have hlt2:b2<w2.heap.size:=hb.lt;clear hx2 hb
     go_wp2_with fail
     have hz:=(HBR2.o.set 0 (.string ⟨#[68,68]⟩)).set 1 (.bool true);have s0:=hz.cell (i:=0) rfl;have s1:=hz.cell (i:=1) rfl;refine bodyPost_ret (v:=.agg #[.string ⟨#[68,68]⟩,.bool true]) (by simp [results,Tryz.results177,go_sem,s0,s1]) rfl ⟨by rw [HR.o]; rfl,((HX1.o.trans HX2.o).set2 hb2 _).set2 hb2 _⟩
    | false =>
     have HR:=Hd (show firstF l 5 0=firstF l (5-(3+1)) (3+1) by rw [HF.o]; show (if Lib.hasPrefix l (fieldD 3)=true then _ else _)=_; rw [if_neg (by rw [hp]; simp)]);have hid:=run_idx3
     go_wp2_with fail
     refine (HP.o 3 wr).mono ?_;rintro e2 w2 ⟨rfl,hx2⟩;rw [hp];have HX2:=Hd (HX.o.trans hx2);clear hx2
     go_wp2_with fail
     go_roundw
     case rel=>exact ⟨3+1,by omega,by go_num,HR.o,HX2.o⟩
     case measure=>simp [intOf]
   ·cases hp:Lib.hasPrefix l (fieldD 4) with
    | true =>
     have HR:=Hd (show firstF l 5 0=(fieldD 4,true) by rw [HF.o]; show (if Lib.hasPrefix l (fieldD 4)=true then _ else _)=_; rw [if_pos hp]);have hid:=run_idx4
     go_wp2_with fail
     refine (HP.o 4 wr).mono ?_;rintro e2 w2 ⟨rfl,hx2⟩;rw [hp];have HX2:=Hd (HX.o.trans hx2);have hb:=HBR.o.keep (hx2.kept _);have HBR2:=Hd hb;have c0:=hb.cell (i:=0) rfl;have c1:=hb.cell (i:=1) rfl;have f0:=hb.frozen 0;have f1:=hb.frozen 1;have hlt2:b2<w2.heap.size:=hb.lt;clear hx2 hb
     go_wp2_with fail
     have hz:=(HBR2.o.set 0 (.string ⟨#[68]⟩)).set 1 (.bool true);have s0:=hz.cell (i:=0) rfl;have s1:=hz.cell (i:=1) rfl;refine bodyPost_ret (v:=.agg #[.string ⟨#[68]⟩,.bool true]) (by simp [results,Tryz.results177,go_sem,s0,s1]) rfl ⟨by rw [HR.o]; rfl,((HX1.o.trans HX2.o).set2 hb2 _).set2 hb2 _⟩
    | false =>
     have HR:=Hd (show firstF l 5 0=firstF l (5-(4+1)) (4+1) by rw [HF.o]; show (if Lib.hasPrefix l (fieldD 4)=true then _ else _)=_; rw [if_neg (by rw [hp]; simp)]);have hid:=run_idx4
     go_wp2_with fail
     refine (HP.o 4 wr).mono ?_;rintro e2 w2 ⟨rfl,hx2⟩;rw [hp];have HX2:=Hd (HX.o.trans hx2);clear hx2
     go_wp2_with fail
     go_roundw
     case rel=>exact ⟨4+1,by omega,by go_num,HR.o,HX2.o⟩
     case measure=>simp [intOf]
  ·obtain rfl:i=5:=by omega
   have c0:=HBR.o.cell (i:=0) rfl;have c1:=HBR.o.cell (i:=1) rfl;have f0:=HBR.o.frozen 0;have f1:=HBR.o.frozen 1;have hlt2:b2<wr.heap.size:=HBR.o.lt
   go_wp2_with fail
   have HR:=Hd (show firstF l 5 0=(l.take 1,false) from HF.o);have hz:=(HBR.o.set 0 (.string (s.extract 0 1))).set 1 (.bool false);have s0:=hz.cell (i:=0) rfl;have s1:=hz.cell (i:=1) rfl;refine bodyPost_ret (v:=.agg #[.string (s.extract 0 1),.bool false]) (by simp [results,Tryz.results177,go_sem,s0,s1]) rfl ⟨by rw [HR.o,HES.o,bsA_extract]; rfl,((HX1.o.trans HX.o).set2 hb2 _).set2 hb2 _⟩

theorem decimal_size (n:Int) (h0:-1000000000000000≤n) (h1:n≤1000000000000000) (w:World):Calls Tryz.prog 121 #[.int .i64 n] w (fun e w'=>e=.returned (.int .u64 (n.natAbs:Int))∧w'=w):=by
 by_cases hn:n<0
 ·obtain ⟨u,rfl⟩:∃ u:Nat,n=-(u:Int):=⟨n.natAbs,by omega⟩;have hu:(-(u:Int)).natAbs=u:=(by omega);have hw:IntKind.u64.wrap (u:Int)=(u:Int):=(by rw [IntKind.wrap_u64]; omega);rw [hu]
  go_enter Tryz.func121,Tryz.ntmps121
  go_wp2_with fail
  go_ret;exact ⟨rfl,rfl⟩
 ·obtain ⟨u,rfl⟩:∃ u:Nat,n=(u:Int):=⟨n.natAbs,by omega⟩;have hu:(u:Int).natAbs=u:=(by omega);have hw:IntKind.u64.wrap (u:Int)=(u:Int):=(by rw [IntKind.wrap_u64]; omega);rw [hu]
  go_enter Tryz.func121,Tryz.ntmps121
  go_wp2_with fail
  go_ret;exact ⟨rfl,rfl⟩
def decD (n:Int) (s:Nat):List UInt8:=Lib.repeatL [48] (s+1-(Lib.decDigits n.natAbs).length)++Lib.decDigits n.natAbs
def decP (n:Int) (s:Nat):List UInt8:=if 0<s then (decD n s).take ((decD n s).length-s)++[46]++(decD n s).drop ((decD n s).length-s) else decD n s
def decL (n:Int) (s:Nat):List UInt8:=if n<0 then 45 :: decP n s else decP n s
theorem repeatL_succ (n:Nat):Lib.repeatL [48] (n+1)=48 :: Lib.repeatL [48] n:=by simp [Lib.repeatL]
theorem decimal_Text (n:Int) (s:Nat) (hr:decR n s=true) (w:World) (hT:Txt w):Calls Tryz.prog 96 #[.agg #[.int .i64 n,.int .i64 (s:Int)]] w (RetTx w (bsA (decL n s))):=by
 have hv:valD n s=(n,(s:Int)):=(by simp [valD,hr]);have hrg:=valD_range n s;rw [hv] at hrg;obtain ⟨-,hs6,hn0,hn1⟩:=hrg;have hs6:s≤6:=(by omega);have hu:n.natAbs≤1000000000000000:=(by omega);have HV:=Hd (show ∀ w',Calls Tryz.prog 112 #[.agg #[.int .i64 n,.int .i64 (s:Int)]] w' (fun e w2=>e=.returned (.agg #[.int .i64 n,.int .i64 (s:Int)])∧Ext w' w2) from fun w'=>by have h:=decimal_value n s w'; rw [hv] at h; exact h);have HSZ:=Hd (decimal_size n hn0 hn1);have HT:=Hd hT;have hlen:(Lib.decDigits n.natAbs).length≤21:=(by have h:=itoa_len n.natAbs (by omega); rw [Lib.itoa_nonneg] at h; exact h);obtain ⟨D,eD⟩:∃ D,D=Lib.decDigits n.natAbs:=⟨_,rfl⟩;obtain ⟨z,ez⟩:∃ z,z=bsA D:=⟨_,rfl⟩;obtain ⟨k,ek⟩:∃ k,k=D.length:=⟨_,rfl⟩;have hz:z.size=k:=(by rw [ez,ek]; simp [bsA,ByteArray.size]);have HF:=Hd (show ∀ w',Txt w'→Calls Tryz.prog 120 #[.int .u64 (n.natAbs:Int),.int .i64 10] w' (RetTx w' z) from fun w' h=>by rw [ez,eD]; exact str_FormatUint n.natAbs (by omega) w' h);have hk:k≤21:=(by rw [ek,eD]; exact hlen);have HDD:=Hd (show decD n s=Lib.repeatL [48] (s+1-k)++D by unfold decD; rw [ek,eD]);have HEZ:=Hd ez;have HEK:=Hd ek;obtain ⟨u,eu⟩:∃ u,u=n.natAbs:=⟨_,rfl⟩;rw [← eu] at HF HSZ;clear hv hT hlen eD ez ek hu hr eu
 go_enter Tryz.func96,Tryz.ntmps96
 go_wp2_with fail
 refine (HV.o _).mono ?_;rintro e1 w1 ⟨rfl,hx1⟩;have HX1:=Hd (((Ext.refl w).alloc _).trans hx1);have hb1:=(Blk.new w 27 #[.int .i64 n,.int .i64 (s:Int)]).keep (hx1.kept _);have HB1:=Hd hb1;have c0:=hb1.cell (i:=0) rfl;have c1:=hb1.cell (i:=1) rfl;have hf:=hb1.frozen;have hl:=hb1.lt;clear hx1 hb1
 go_wp2_with fail
 refine (HSZ.o _).mono ?_;rintro e2 w2 ⟨rfl,rfl⟩;obtain ⟨wb,ewb⟩:∃ x,x=(w1.setCell ⟨w.heap.size,0,none⟩ (.int .i64 n)).setCell ⟨w.heap.size,1,none⟩ (.int .i64 (s:Int)):=⟨_,rfl⟩;have HBb:=Hd (show Blk wb w.heap.size 27 #[.int .i64 n,.int .i64 (s:Int)] by rw [ewb]; exact (HB1.o.set 0 (.int .i64 n)).set 1 (.int .i64 (s:Int)));have HXb:=Hd (show Ext w wb by rw [ewb]; exact (HX1.o.set2 (Nat.le_refl _) _).set2 (Nat.le_refl _) _);rw [← ewb];clear ewb c0 c1 hf hl
 go_wp2_with fail
 refine (HF.o _ (HT.o.ext HXb.o)).mono ?_;rintro e3 w3 ⟨rfl,hx3⟩;have HX3:=Hd (HXb.o.trans hx3);have hb3:=HBb.o.keep (hx3.kept _);have HB3:=Hd hb3;have d0:=hb3.cell (i:=0) rfl;have d1:=hb3.cell (i:=1) rfl;clear hx3 hb3
 go_wp2_with fail
 have hcs:((s:Int)+1-(k:Int)≤((s+1-k:Nat):Int)):=by omega
 go_loopw [3,17] (fun v3 v17 wr=>∃ (i:Nat) (L:List UInt8),v17=.int .i64 (i:Int)∧v3=.string (bsA L)∧i≤s+1-k∧L=Lib.repeatL [48] i++D∧wr=w3) (fun _ v17 _=>(s+1-k)-(intOf v17).toNat)
 case atStart=>exact ⟨0,D,rfl,by rw [HEZ.o],by omega,rfl,rfl⟩
 case round =>
  obtain ⟨i,L,rfl,rfl,hi,hL,rfl⟩:=hrel;obtain ⟨y,ey⟩:∃ y,y=bsA L:=⟨_,rfl⟩;have hy:y.size=i+k:=(by rw [ey,hL,HEK.o]; simp [bsA,ByteArray.size,Lib.repeatL_length]);have HEY:=Hd ey;have HL:=Hd hL;rw [← ey];clear ey hL;by_cases hlt:i<s+1-k
  ·have h1:((i:Int)<(s:Int)+1-(k:Int)):=by omega
   go_wp2_with fail
   go_roundw
   case rel =>
    refine ⟨i+1,48 :: L,by simp,?_,by omega,by rw [HL.o,repeatL_succ]; rfl,by first | rfl | trivial⟩;show Value.string (⟨#[48]⟩++y)=_;rw [HEY.o,show (⟨#[48]⟩:ByteArray)=bsA [48] from rfl,bsA_app];rfl
   case measure=>simp [intOf]; omega
  ·have h1:¬ ((i:Int)<(s:Int)+1-(k:Int)):=(by omega);have hie:i=s+1-k:=(by omega);have HLD:=Hd (show decD n s=L by rw [HDD.o,HL.o,hie]);clear hlt;have hsy:s+1≤y.size:=(by omega);have hyb:y.size≤100:=(by omega);clear hy
   rcases Nat.eq_zero_or_pos s with hs | hs
   ·have hs1:¬ ((0:Int)<(s:Int)):=(by omega);have HPP:=Hd (show decP n s=L by unfold decP; rw [if_neg (by omega)]; exact HLD.o);clear hs;by_cases hn:n<0
    ·have HN:=Hd hn
     go_wp2_with fail
     go_ret;refine ⟨?_,HX3.o⟩;show Ending.returned (Value.string (⟨#[45]⟩++y))=_;rw [HEY.o,show (⟨#[45]⟩:ByteArray)=bsA [45] from rfl,bsA_app];unfold decL;rw [if_pos HN.o,HPP.o];rfl
    ·have HN:=Hd hn
     go_wp2_with fail
     go_ret;refine ⟨?_,HX3.o⟩;show Ending.returned (Value.string y)=_;unfold decL;rw [if_neg (by have:=HN.o; omega),HPP.o,HEY.o]
   ·have hs1:((0:Int)<(s:Int)):=(by omega);obtain ⟨p,ep⟩:∃ p,p=y.size-s:=⟨_,rfl⟩;have hyp:y.size=p+s:=(by omega);have hp:p≤100:=(by omega);have hp1:¬ (9223372036854775807<p+1):=(by omega);have hp2:¬ (9223372036854775807<p+1+s):=(by omega);have hps:((p:Int)≤(p:Int)+(s:Int)):=(by omega);have hyL:L.length=p+s:=(by rw [← hyp,HEY.o]; simp [bsA,ByteArray.size]);have HPP:=Hd (show decP n s=L.take p++[46]++L.drop p by unfold decP; rw [if_pos hs,HLD.o,hyL,Nat.add_sub_cancel]);clear ep hs
    go_wp2_with fail
    refine wp_region_chain (by kernel_rfl) (fun i=>[i]) (by kernel_rfl) (LZ (fun _ _=>False)) (LZ.refl _) (LZ.trans _) (LK []) gz0 (LK.zero _) ?_;apply Chain.pure (LZ.refl _) (by rfl)
    ·intro vals γ w' ρ hR hN hp hρ hc hf hg;refine ⟨rfl,?_⟩;have e3:=hρ 3;(conv at e3=>rhs; whnf);clear hR hN hp hρ;go_light;go_simp;exact ⟨rfl,rfl⟩
    ·rfl
    apply Chain.pure (LZ.refl _) (by rfl)
    ·intro vals γ w' ρ hR hN hp hρ hc hf hg;refine ⟨rfl,?_⟩;have e4:=hρ 4;(conv at e4=>rhs; whnf);clear hR hN hp hρ;go_light;go_simp;exact ⟨rfl,rfl⟩
    ·rfl
    apply Chain.pure (LZ.refl _) (by rfl)
    ·intro vals γ w' ρ hR hN hp hρ hc hf hg;refine ⟨rfl,?_⟩;have e30:ρ (.tmp 30)=_:=(hρ 30).trans (hp 0 (by decide));have e31:ρ (.tmp 31)=_:=(hρ 31).trans (hp 1 (by decide));clear hR hN hp hρ;go_light;go_simp;exact ⟨rfl,rfl⟩
    ·rfl
    apply Chain.pure (LZ.refl _) (by rfl)
    ·intro vals γ w' ρ hR hN hp hρ hc hf hg;refine ⟨rfl,?_⟩;have e32:ρ (.tmp 32)=_:=(hρ 32).trans (hp 2 (by decide));clear hR hN hp hρ;go_light;go_simp;exact ⟨rfl,rfl⟩
    ·rfl
    apply Chain.pure (LZ.refl _) (by rfl)
    ·intro vals γ w' ρ hR hN hp hρ hc hf hg;refine ⟨rfl,?_⟩;have e3:=hρ 3;(conv at e3=>rhs; whnf);clear hR hN hp hρ;go_light;go_simp;exact ⟨rfl,rfl⟩
    ·rfl
    apply Chain.pure (LZ.refl _) (by rfl)
    ·intro vals γ w' ρ hR hN hp hρ hc hf hg;refine ⟨rfl,?_⟩;have e4:=hρ 4;(conv at e4=>rhs; whnf);clear hR hN hp hρ;go_light;go_simp;exact ⟨rfl,rfl⟩
    ·rfl
    apply Chain.pure (LZ.refl _) (by rfl)
    ·intro vals γ w' ρ hR hN hp hρ hc hf hg;refine ⟨rfl,?_⟩;have e34:ρ (.tmp 34)=_:=(hρ 34).trans (hp 4 (by decide));have e35:ρ (.tmp 35)=_:=(hρ 35).trans (hp 5 (by decide));clear hR hN hp hρ;go_light;go_simp;exact ⟨rfl,rfl⟩
    ·rfl
    apply Chain.pure (LZ.refl _) (by rfl)
    ·intro vals γ w' ρ hR hN hp hρ hc hf hg;refine ⟨rfl,?_⟩;have e33:ρ (.tmp 33)=_:=(hρ 33).trans (hp 3 (by decide));have e36:ρ (.tmp 36)=_:=(hρ 36).trans (hp 6 (by decide));clear hR hN hp hρ;go_light;go_simp;exact ⟨rfl,rfl⟩
    ·rfl
    apply Chain.pure (LZ.refl _) (by rfl)
    ·intro vals γ w' ρ hR hN hp hρ hc hf hg;refine ⟨rfl,?_⟩;have e37:ρ (.tmp 37)=_:=(hρ 37).trans (hp 7 (by decide));clear hR hN hp hρ;go_light;go_simp;exact ⟨rfl,rfl⟩
    ·rfl
    intro vals γ w9 hR hG;have v0:vals 0=_:=hG 0 (by decide);have v1:vals 1=_:=hG 1 (by decide);have v2:vals 2=_:=hG 2 (by decide);have v3:vals 3=_:=hG 3 (by decide);have v4:vals 4=_:=hG 4 (by decide);have v5:vals 5=_:=hG 5 (by decide);have v6:vals 6=_:=hG 6 (by decide);have v7:vals 7=_:=hG 7 (by decide);have v8:vals 8=_:=hG 8 (by decide);simp only [lexFrame,Act.put,List.setIfInBounds_toArray,List.set_cons_succ,List.set_cons_zero,Nat.zero_add,Nat.reduceAdd,v0,v1,v2,v3,v4,v5,v6,v7,v8];clear v0 v1 v2 v3 v4 v5 v6 v7 v8;have HX9:=Hd (hR.ext0 (fun m b _ e=>e.elim));clear hR hG;have hb9:=HB3.o.keep (HX9.o.kept _);have f0:=hb9.cell (i:=0) rfl;clear hb9;obtain ⟨x,ex⟩:∃ x,x=y.extract 0 p++⟨#[46]⟩++y.extract p (p+s):=⟨_,rfl⟩;have hxs:x.size≤200:=(by rw [ex,ByteArray.size_append,ByteArray.size_append,ByteArray.size_extract,ByteArray.size_extract]; show _+1+_≤200; omega);have HEX:=Hd (show x=bsA (decP n s) by
     rw [ex,HPP.o,HEY.o,bsA_extract,bsA_extract,show (⟨#[46]⟩:ByteArray)=bsA [46] from rfl,bsA_app,bsA_app,List.drop_zero,Nat.sub_zero,Nat.add_sub_cancel_left,show List.take s (L.drop p)=L.drop p from List.take_of_length_le (by rw [List.length_drop]; omega)])
    rw [← ex];clear ex;by_cases hn:n<0
    ·have HN:=Hd hn
     go_wp2_with fail
     go_ret;refine ⟨?_,HX3.o.trans HX9.o⟩;show Ending.returned (Value.string (⟨#[45]⟩++x))=_;rw [HEX.o,show (⟨#[45]⟩:ByteArray)=bsA [45] from rfl,bsA_app];unfold decL;rw [if_pos (by have:=HN.o; omega)];rfl
    ·have HN:=Hd hn
     go_wp2_with fail
     go_ret;refine ⟨?_,HX3.o.trans HX9.o⟩;show Ending.returned (Value.string x)=_;unfold decL;rw [if_neg (by have:=HN.o; omega),HEX.o]

def Rdy (r:Loop) (l D:Nat) (W:World):Prop:=W.heap[l]?=some (.loop r)∧W.heap[D]?=some (.deferred (some []))∧D<l
def Calm {β:Type} (B:Nat) (J:β→World→Prop):Prop:=∀ (s:β) (W:World) (l:Nat) (o o':Obj),B≤l→J s W→W.heap[l]?=some o→o.isCells=false→J s (W.putObj l o')
theorem Rdy.others {r:Loop} {l D:Nat} {W W':World} (h:Rdy r l D W) (k:KeepsOthers W W'):Rdy r l D W':=⟨k.same _ _ h.1 rfl,k.same _ _ h.2.1 rfl,h.2.2⟩
section
variable {F:Fence} {n:Nat} {P:Program}
theorem yield_on {β:Type} {J:β→World→Prop} {s':β} {Fp:Nat→Prop} {Mid:Act→World→Prop} {l D fn m:Nat} {tmps:Array Value} {ps:Array Tmp} {assign body:Code} {args:Array Value} {W:World} (hfn:F.fn fn)
  (hr:Rdy { state:=.ready,pending:=none,fn:=fn,tmps:=tmps,params:=ps,assign:=assign,body:=body,defers:=D } l D W) (hps:args.size=ps.size)
  {Bj:Nat} (hBj:Bj≤l) (hmid:∀ (a:Act) (W:World) (o o':Obj),Mid a W→W.heap[l]?=some o→o.isCells=false→Mid a (W.putObj l o')) (hJ:Calm Bj J)
  (hassign:assign.wpIn (F.inRound l) m P (Exit.then (fun a₁ W₁=>Mid a₁ W₁∧KeepsOthers W W₁∧ButS Fp W W₁) (fun _ _ _=>False)) { tmps:=(ps.zip args).foldl (fun t (p,v)=>t.setIfInBounds p v) tmps,defers:=[] } W)
  (hbody:∀ (a₁:Act) (W₁:World),Mid a₁ W₁→body.wpIn (F.inRound l) m P (fun e _ W₃=>e=.normal∧KeepsOthers W₁ W₃∧J s' W₃∧ButS Fp W₁ W₃) a₁ W₁) :
  YieldAt F m P l args W fun e W'=>e=.returned (.bool true)∧J s' W'∧ButS Fp W W'∧Rdy { state:=.ready,pending:=none,fn:=fn,tmps:=tmps,params:=ps,assign:=assign,body:=body,defers:=D } l D W':=by
 obtain ⟨hl,hk,hDl⟩:=hr;refine ⟨fn,_,assign,body,run_yield hl hps,roundIn_of_wpIn hfn (wpIn_mono hassign ?_)⟩;intro e a W1 hp;cases e with
 | normal =>
  obtain ⟨hm,hk1,hb1⟩:=hp;have hl1:=hk1.same _ _ hl rfl;have hd1:=hk1.same _ _ hk rfl;refine ⟨_,run_beginRound hl1 rfl,wpIn_mono (hbody a _ (hmid a W1 _ _ hm hl1 rfl)) ?_⟩;rintro e3 a3 W3 ⟨rfl,hk3,hj3,hb3⟩;have hlt:l<W1.heap.size:=(Array.getElem?_eq_some_iff.1 hl1).1;have hl3:=hk3.same l _ (World.putObj_heap_same hlt) rfl;have hd3:=hk3.same D _ ((World.putObj_heap_other (by omega)).trans hd1) rfl;have hlt3:l<W3.heap.size:=(Array.getElem?_eq_some_iff.1 hl3).1;refine ⟨_,_,run_endRound none hl3,rfl,hJ s' W3 l _ _ hBj hj3 hl3 rfl,⟨hb3.os.trans hb1.os,hb3.tape.trans hb1.tape,hb3.output.trans hb1.output,?_,fun b hb hF => ?_⟩,World.putObj_heap_same hlt3,(World.putObj_heap_other (by omega)).trans hd3,hDl⟩
  ·have h1:=hb1.size;have h3:=hb3.size;simp only [World.putObj_size] at h3 ⊢;omega
  ·by_cases hbl:b=l
   ·subst hbl;rw [World.putObj_heap_same hlt3,hl];rfl
   ·have h1:=hb1.size;rw [World.putObj_heap_other hbl,hb3.block b (by simp only [World.putObj_size]; omega) hF,World.putObj_heap_other hbl];exact hb1.block b hb hF
 | ret=>exact hp.elim
 | exit id=>exact hp.elim
 | goto t=>exact hp.elim
 | panic c=>exact hp.elim
 | outgrown=>exact hp.elim
theorem wpIn_range_on {β:Type} {J:β→World→Prop} {s0 s1:β} {g:Operand} {ps:Array Tmp} {assign body:Code} {Q:Exit→Act→World→Prop} {a:Act} {w:World}
  (hro:F.round=none) (h1:1≤n) {gf:Nat} {lb:Array Value} (hg:a.eval g=.func (.func gf) #[] lb) (hFg:F.fn gf) (eg:∀ args w,(callFunc gf args).run P w=.ok (.enter gf args) w)
  {Bj:Nat} (hBj:Bj≤w.heap.size) (hJ:Calm Bj J) (h00:∀ r:Loop,J s0 ((w.alloc (.deferred (some []))).alloc (.loop r)))
  (hiter:∀ (fn:Nat) (W:World),F.fn fn→J s0 W→Rdy { state:=.ready,pending:=none,fn:=fn,tmps:=a.tmps,params:=ps,assign:=assign,body:=body,defers:=w.heap.size } (w.heap.size+1) w.heap.size W →
   CallsIn F (n-1) P gf (#[.func (.yield (w.heap.size+1)) #[] #[]]++lb) W fun e W'=>(∃ v,e=.returned v)∧J s1 W'∧Rdy { state:=.ready,pending:=none,fn:=fn,tmps:=a.tmps,params:=ps,assign:=assign,body:=body,defers:=w.heap.size } (w.heap.size+1) w.heap.size W')
  (hdone:∀ (W:World),J s1 W→W.heap[w.heap.size]?=some (.deferred (some []))→Q .normal { a with defers:={ target:=.collected w.heap.size,args:=#[] } :: a.defers } W) :
  (Code.rangeFunc g ps assign body).wpIn F n P Q a w:=by
 refine wpIn_rangeFunc ?_;intro fn hfn;rw [hro];obtain ⟨W1,hW1⟩:∃ x,x=(w.alloc (.deferred (some []))).alloc (.loop { state:=.ready,pending:=none,fn:=fn,tmps:=a.tmps,params:=ps,assign:=assign,body:=body,defers:=w.heap.size }):=⟨_,rfl⟩;have hL1:W1.heap[w.heap.size+1]?=some (.loop { state:=.ready,pending:=none,fn:=fn,tmps:=a.tmps,params:=ps,assign:=assign,body:=body,defers:=w.heap.size }):=by
  have:=World.alloc_heap_new (w.alloc (.deferred (some []))) (.loop { state:=.ready,pending:=none,fn:=fn,tmps:=a.tmps,params:=ps,assign:=assign,body:=body,defers:=w.heap.size });rw [hW1];rwa [World.size_alloc] at this
 have hK1:W1.heap[w.heap.size]?=some (.deferred (some [])):=by
  rw [hW1];exact (Below.heap_alloc _ _ _ (by simp)).trans (World.alloc_heap_new w _)
 refine ⟨w.heap.size+1,[{ target:=.collected w.heap.size,args:=#[] }],W1,{ target:=.fn (.func gf) lb,args:=#[.func (.yield (w.heap.size+1)) #[] #[]] },W1,gf,#[.func (.yield (w.heap.size+1)) #[] #[]]++lb,W1,by rw [hW1]; exact run_enterLoop_outer _ _ _ _ _,?_,?_,?_,fun _=>h1,?_⟩
 ·simp only [resolve,hg];simp [go_sem]
 ·intro f' hf';simp [Target.leads] at hf';subst hf';exact hFg
 ·simp [invoke,go_sem,eg]
 ·refine (hiter fn W1 hfn (by rw [hW1]; exact h00 _) ⟨hL1,hK1,by omega⟩).mono ?_;rintro e W2 ⟨⟨v,rfl⟩,hj,hl,hk,hDl⟩;exact ⟨none,_,run_endLoop hl (by simp),hdone _ (hJ _ _ _ _ _ (by omega) hj hl rfl) ((World.putObj_heap_other (by omega)).trans hk)⟩
end
end Go.Proofs.YthmckfloppblcaaGreatDoor
namespace Go.Proofs.YthmckfloppblcaaGreatDoor
open Go Go.RowKit Go.Shelf
attribute [local go_sem] Oper.semAt_some

def layD (i:Nat):List UInt8:=if i=0 then [89,89,89,89,45,77,77,45,68,68] else if i=1 then [45,77,77,45,68,68] else if i=2 then [77,77,45,68,68] else if i=3 then [45,68,68] else if i=4 then [68,68] else []
def tokD (i:Nat):List UInt8 × Bool:=if i=0 then ([89,89,89,89],true) else if i=1 then ([45],false) else if i=2 then ([77,77],true) else if i=3 then ([45],false) else ([68,68],true)
def lenB (B:Nat) (w:World):Nat:=match w.cell? ⟨B,0,none⟩ with
 | some (.string s)=>s.size
 | _=>0
theorem tokens_iterS (m:Nat) (hm:1≤m) (l B:Nat) (J:Nat→World→Prop) (W0:World)
  (hJs:∀ i W u,J i W→J i (W.setCell ⟨B,0,none⟩ u)) (hJx:∀ i W W',J i W→Ext W W'→J i W')
  (hround:∀ i W,i<5→J i W→W0.heap.size≤W.heap.size→Blk W B 9 #[.string (bsA (layD i))]→YieldAt Fence.wide (m-1) Tryz.prog l #[.agg #[.string (bsA (tokD i).1),.bool (tokD i).2]] (W.alloc (.cells #[.string (bsA (tokD i).1),.bool (tokD i).2] 190)) fun e W'=>e=.returned (.bool true)∧J (i+1) W'∧∃ S,ButS S (W.alloc (.cells #[.string (bsA (tokD i).1),.bool (tokD i).2] 190)) W'∧¬ S B∧¬ S W.heap.size)
  (h0:J 0 W0) (hB:Blk W0 B 9 #[.string (bsA (layD 0))]) :
  CallsIn Fence.wide m Tryz.prog 176 #[.func (.yield l) #[] #[],.pointer (some ⟨B,0,none⟩)] W0 fun e W'=>(∃ v,e=.returned v)∧J 5 W':=by
 refine callsIn_of_wp Tryz.func176 rfl trivial ?_ rfl;simp only [Tryz.ntmps176,List.size_toArray,List.length_cons,List.length_nil,Nat.reduceAdd,Nat.reduceSub,Array.replicate_succ,Array.replicate_zero,List.push_toArray,List.append_toArray,List.nil_append,List.cons_append]
 gi_wp2
 gi_loopw [3] (fun _ wr=>∃ i,i≤5∧J i wr∧Blk wr B 9 #[.string (bsA (layD i))]∧W0.heap.size≤wr.heap.size) (fun _ wr=>lenB B wr)
 case atStart=>exact ⟨0,by omega,h0,hB,Nat.le_refl _⟩
 case round =>
  obtain ⟨i,hi,hj,hb,hs⟩:=hrel
  rcases (show i=0∨i=1∨i=2∨i=3∨i=4∨i=5 by omega) with rfl | rfl | rfl | rfl | rfl | rfl
  ·have c0:=hb.cell (i:=0) rfl;obtain ⟨s,es⟩:∃ s,s=bsA (layD 0):=⟨_,rfl⟩;have hne:s.toList.isEmpty=false:=(by rw [es]; kernel_rfl);have hsz:s.size=10:=(by rw [es]; rfl);obtain ⟨z,ez⟩:∃ z,z=bsA (tokD 0).1:=⟨_,rfl⟩;have hzs:z.size=4:=(by rw [ez]; rfl);have HF:=Hd (show Calls Tryz.prog 177 #[.string s] wr (fun e w'=>e=.returned (.agg #[.string z,.bool true])∧Ext wr w') from by rw [es,ez]; exact date_first (layD 0) (by decide) (by decide) wr);have HY:=Hd (show ∀ W,J 0 W→W0.heap.size≤W.heap.size→Blk W B 9 #[.string (bsA (layD 0))]→YieldAt Fence.wide (m-1) Tryz.prog l #[.agg #[.string z,.bool true]] (W.alloc (.cells #[.string z,.bool true] 190)) (fun e W'=>e=.returned (.bool true)∧J (0+1) W'∧∃ S,ButS S (W.alloc (.cells #[.string z,.bool true] 190)) W'∧¬ S B∧¬ S W.heap.size) from fun W h1 h2 h3=>by rw [ez]; exact hround 0 W (by omega) h1 h2 h3);have HES:=Hd es;have HB:=Hd hb;rw [← es] at c0;clear es ez hb
   gi_wp2_with (refine ⟨trivial,?_⟩; gi_at_call 177; refine (callsIn_wide.2 HF.o).mono ?_; rintro e2 w2 ⟨rfl,hx2⟩; have HX2:=Hd hx2; have hs2:=hx2.size; obtain ⟨fn,tmps,assign,body,hy,hR⟩:=HY.o w2 (hJx _ _ _ hj hx2) (by omega) (HB.o.keep (hx2.kept _)); clear hx2)
   refine hR.mono ?_;rintro e3 w3 ⟨rfl,hj3,S3,hb3,hSB,hST⟩;have hbB:=hb3.blk (HB.o.keep ((HX2.o.alloc (.cells #[.string z,.bool true] 190)).kept _)) hSB;have hbT:=hb3.blk (Blk.new w2 190 #[.string z,.bool true]) hST;have d0:=hbB.cell (i:=0) rfl;have d1:=hbB.frozen 0;have d2:B<w3.heap.size:=hbB.lt;have d3:=hbT.cell (i:=0) rfl;have hs3:=hb3.size;rw [World.size_alloc] at hs3;rw [← HES.o] at d0
   gi_wp2
   go_roundw
   case rel =>
    refine ⟨0+1,by omega,hJs _ _ _ hj3,?_,by simp [World.setCell]; omega⟩;have hx:s.extract 4 10=bsA (layD (0+1)):=(by rw [HES.o,bsA_extract]; rfl);rw [← hx];exact hbB.set 0 (.string (s.extract 4 10))
   case measure =>
    have e1:=(hbB.set 0 (.string (s.extract 4 10))).cell (i:=0) rfl;unfold lenB;rw [e1,c0];simp only [List.getElem_toArray,List.getElem_cons_zero];show (s.extract 4 10).size<s.size;rw [ByteArray.size_extract];omega
  ·have c0:=hb.cell (i:=0) rfl;obtain ⟨s,es⟩:∃ s,s=bsA (layD 1):=⟨_,rfl⟩;have hne:s.toList.isEmpty=false:=(by rw [es]; kernel_rfl);have hsz:s.size=6:=(by rw [es]; rfl);obtain ⟨z,ez⟩:∃ z,z=bsA (tokD 1).1:=⟨_,rfl⟩;have hzs:z.size=1:=(by rw [ez]; rfl);have HF:=Hd (show Calls Tryz.prog 177 #[.string s] wr (fun e w'=>e=.returned (.agg #[.string z,.bool false])∧Ext wr w') from by rw [es,ez]; exact date_first (layD 1) (by decide) (by decide) wr);have HY:=Hd (show ∀ W,J 1 W→W0.heap.size≤W.heap.size→Blk W B 9 #[.string (bsA (layD 1))]→YieldAt Fence.wide (m-1) Tryz.prog l #[.agg #[.string z,.bool false]] (W.alloc (.cells #[.string z,.bool false] 190)) (fun e W'=>e=.returned (.bool true)∧J (1+1) W'∧∃ S,ButS S (W.alloc (.cells #[.string z,.bool false] 190)) W'∧¬ S B∧¬ S W.heap.size) from fun W h1 h2 h3=>by rw [ez]; exact hround 1 W (by omega) h1 h2 h3);have HES:=Hd es;have HB:=Hd hb;rw [← es] at c0;clear es ez hb
   gi_wp2_with (refine ⟨trivial,?_⟩; gi_at_call 177; refine (callsIn_wide.2 HF.o).mono ?_; rintro e2 w2 ⟨rfl,hx2⟩; have HX2:=Hd hx2; have hs2:=hx2.size; obtain ⟨fn,tmps,assign,body,hy,hR⟩:=HY.o w2 (hJx _ _ _ hj hx2) (by omega) (HB.o.keep (hx2.kept _)); clear hx2)
   refine hR.mono ?_;rintro e3 w3 ⟨rfl,hj3,S3,hb3,hSB,hST⟩;have hbB:=hb3.blk (HB.o.keep ((HX2.o.alloc (.cells #[.string z,.bool false] 190)).kept _)) hSB;have hbT:=hb3.blk (Blk.new w2 190 #[.string z,.bool false]) hST;have d0:=hbB.cell (i:=0) rfl;have d1:=hbB.frozen 0;have d2:B<w3.heap.size:=hbB.lt;have d3:=hbT.cell (i:=0) rfl;have hs3:=hb3.size;rw [World.size_alloc] at hs3;rw [← HES.o] at d0
   gi_wp2
   go_roundw
   case rel =>
    refine ⟨1+1,by omega,hJs _ _ _ hj3,?_,by simp [World.setCell]; omega⟩;have hx:s.extract 1 6=bsA (layD (1+1)):=(by rw [HES.o,bsA_extract]; rfl);rw [← hx];exact hbB.set 0 (.string (s.extract 1 6))
   case measure =>
    have e1:=(hbB.set 0 (.string (s.extract 1 6))).cell (i:=0) rfl;unfold lenB;rw [e1,c0];simp only [List.getElem_toArray,List.getElem_cons_zero];show (s.extract 1 6).size<s.size;rw [ByteArray.size_extract];omega
  ·have c0:=hb.cell (i:=0) rfl;obtain ⟨s,es⟩:∃ s,s=bsA (layD 2):=⟨_,rfl⟩;have hne:s.toList.isEmpty=false:=(by rw [es]; kernel_rfl);have hsz:s.size=5:=(by rw [es]; rfl);obtain ⟨z,ez⟩:∃ z,z=bsA (tokD 2).1:=⟨_,rfl⟩;have hzs:z.size=2:=(by rw [ez]; rfl);have HF:=Hd (show Calls Tryz.prog 177 #[.string s] wr (fun e w'=>e=.returned (.agg #[.string z,.bool true])∧Ext wr w') from by rw [es,ez]; exact date_first (layD 2) (by decide) (by decide) wr);have HY:=Hd (show ∀ W,J 2 W→W0.heap.size≤W.heap.size→Blk W B 9 #[.string (bsA (layD 2))]→YieldAt Fence.wide (m-1) Tryz.prog l #[.agg #[.string z,.bool true]] (W.alloc (.cells #[.string z,.bool true] 190)) (fun e W'=>e=.returned (.bool true)∧J (2+1) W'∧∃ S,ButS S (W.alloc (.cells #[.string z,.bool true] 190)) W'∧¬ S B∧¬ S W.heap.size) from fun W h1 h2 h3=>by rw [ez]; exact hround 2 W (by omega) h1 h2 h3);have HES:=Hd es;have HB:=Hd hb;rw [← es] at c0;clear es ez hb
   gi_wp2_with (refine ⟨trivial,?_⟩; gi_at_call 177; refine (callsIn_wide.2 HF.o).mono ?_; rintro e2 w2 ⟨rfl,hx2⟩; have HX2:=Hd hx2; have hs2:=hx2.size; obtain ⟨fn,tmps,assign,body,hy,hR⟩:=HY.o w2 (hJx _ _ _ hj hx2) (by omega) (HB.o.keep (hx2.kept _)); clear hx2)
   refine hR.mono ?_;rintro e3 w3 ⟨rfl,hj3,S3,hb3,hSB,hST⟩;have hbB:=hb3.blk (HB.o.keep ((HX2.o.alloc (.cells #[.string z,.bool true] 190)).kept _)) hSB;have hbT:=hb3.blk (Blk.new w2 190 #[.string z,.bool true]) hST;have d0:=hbB.cell (i:=0) rfl;have d1:=hbB.frozen 0;have d2:B<w3.heap.size:=hbB.lt;have d3:=hbT.cell (i:=0) rfl;have hs3:=hb3.size;rw [World.size_alloc] at hs3;rw [← HES.o] at d0
   gi_wp2
   go_roundw
   case rel =>
    refine ⟨2+1,by omega,hJs _ _ _ hj3,?_,by simp [World.setCell]; omega⟩;have hx:s.extract 2 5=bsA (layD (2+1)):=(by rw [HES.o,bsA_extract]; rfl);rw [← hx];exact hbB.set 0 (.string (s.extract 2 5))
   case measure =>
    have e1:=(hbB.set 0 (.string (s.extract 2 5))).cell (i:=0) rfl;unfold lenB;rw [e1,c0];simp only [List.getElem_toArray,List.getElem_cons_zero];show (s.extract 2 5).size<s.size;rw [ByteArray.size_extract];omega
  ·have c0:=hb.cell (i:=0) rfl;obtain ⟨s,es⟩:∃ s,s=bsA (layD 3):=⟨_,rfl⟩;have hne:s.toList.isEmpty=false:=(by rw [es]; kernel_rfl);have hsz:s.size=3:=(by rw [es]; rfl);obtain ⟨z,ez⟩:∃ z,z=bsA (tokD 3).1:=⟨_,rfl⟩;have hzs:z.size=1:=(by rw [ez]; rfl);have HF:=Hd (show Calls Tryz.prog 177 #[.string s] wr (fun e w'=>e=.returned (.agg #[.string z,.bool false])∧Ext wr w') from by rw [es,ez]; exact date_first (layD 3) (by decide) (by decide) wr);have HY:=Hd (show ∀ W,J 3 W→W0.heap.size≤W.heap.size→Blk W B 9 #[.string (bsA (layD 3))]→YieldAt Fence.wide (m-1) Tryz.prog l #[.agg #[.string z,.bool false]] (W.alloc (.cells #[.string z,.bool false] 190)) (fun e W'=>e=.returned (.bool true)∧J (3+1) W'∧∃ S,ButS S (W.alloc (.cells #[.string z,.bool false] 190)) W'∧¬ S B∧¬ S W.heap.size) from fun W h1 h2 h3=>by rw [ez]; exact hround 3 W (by omega) h1 h2 h3);have HES:=Hd es;have HB:=Hd hb;rw [← es] at c0;clear es ez hb
   gi_wp2_with (refine ⟨trivial,?_⟩; gi_at_call 177; refine (callsIn_wide.2 HF.o).mono ?_; rintro e2 w2 ⟨rfl,hx2⟩; have HX2:=Hd hx2; have hs2:=hx2.size; obtain ⟨fn,tmps,assign,body,hy,hR⟩:=HY.o w2 (hJx _ _ _ hj hx2) (by omega) (HB.o.keep (hx2.kept _)); clear hx2)
   refine hR.mono ?_;rintro e3 w3 ⟨rfl,hj3,S3,hb3,hSB,hST⟩;have hbB:=hb3.blk (HB.o.keep ((HX2.o.alloc (.cells #[.string z,.bool false] 190)).kept _)) hSB;have hbT:=hb3.blk (Blk.new w2 190 #[.string z,.bool false]) hST;have d0:=hbB.cell (i:=0) rfl;have d1:=hbB.frozen 0;have d2:B<w3.heap.size:=hbB.lt;have d3:=hbT.cell (i:=0) rfl;have hs3:=hb3.size;rw [World.size_alloc] at hs3;rw [← HES.o] at d0
   gi_wp2
   go_roundw
   case rel =>
    refine ⟨3+1,by omega,hJs _ _ _ hj3,?_,by simp [World.setCell]; omega⟩;have hx:s.extract 1 3=bsA (layD (3+1)):=(by rw [HES.o,bsA_extract]; rfl);rw [← hx];exact hbB.set 0 (.string (s.extract 1 3))
   case measure =>
    have e1:=(hbB.set 0 (.string (s.extract 1 3))).cell (i:=0) rfl;unfold lenB;rw [e1,c0];simp only [List.getElem_toArray,List.getElem_cons_zero];show (s.extract 1 3).size<s.size;rw [ByteArray.size_extract];omega
  ·have c0:=hb.cell (i:=0) rfl;obtain ⟨s,es⟩:∃ s,s=bsA (layD 4):=⟨_,rfl⟩;have hne:s.toList.isEmpty=false:=(by rw [es]; kernel_rfl);have hsz:s.size=2:=(by rw [es]; rfl);obtain ⟨z,ez⟩:∃ z,z=bsA (tokD 4).1:=⟨_,rfl⟩;have hzs:z.size=2:=(by rw [ez]; rfl);have HF:=Hd (show Calls Tryz.prog 177 #[.string s] wr (fun e w'=>e=.returned (.agg #[.string z,.bool true])∧Ext wr w') from by rw [es,ez]; exact date_first (layD 4) (by decide) (by decide) wr);have HY:=Hd (show ∀ W,J 4 W→W0.heap.size≤W.heap.size→Blk W B 9 #[.string (bsA (layD 4))]→YieldAt Fence.wide (m-1) Tryz.prog l #[.agg #[.string z,.bool true]] (W.alloc (.cells #[.string z,.bool true] 190)) (fun e W'=>e=.returned (.bool true)∧J (4+1) W'∧∃ S,ButS S (W.alloc (.cells #[.string z,.bool true] 190)) W'∧¬ S B∧¬ S W.heap.size) from fun W h1 h2 h3=>by rw [ez]; exact hround 4 W (by omega) h1 h2 h3);have HES:=Hd es;have HB:=Hd hb;rw [← es] at c0;clear es ez hb
   gi_wp2_with (refine ⟨trivial,?_⟩; gi_at_call 177; refine (callsIn_wide.2 HF.o).mono ?_; rintro e2 w2 ⟨rfl,hx2⟩; have HX2:=Hd hx2; have hs2:=hx2.size; obtain ⟨fn,tmps,assign,body,hy,hR⟩:=HY.o w2 (hJx _ _ _ hj hx2) (by omega) (HB.o.keep (hx2.kept _)); clear hx2)
   refine hR.mono ?_;rintro e3 w3 ⟨rfl,hj3,S3,hb3,hSB,hST⟩;have hbB:=hb3.blk (HB.o.keep ((HX2.o.alloc (.cells #[.string z,.bool true] 190)).kept _)) hSB;have hbT:=hb3.blk (Blk.new w2 190 #[.string z,.bool true]) hST;have d0:=hbB.cell (i:=0) rfl;have d1:=hbB.frozen 0;have d2:B<w3.heap.size:=hbB.lt;have d3:=hbT.cell (i:=0) rfl;have hs3:=hb3.size;rw [World.size_alloc] at hs3;rw [← HES.o] at d0
   gi_wp2
   go_roundw
   case rel =>
    refine ⟨4+1,by omega,hJs _ _ _ hj3,?_,by simp [World.setCell]; omega⟩;have hx:ByteArray.empty=bsA (layD (4+1)):=rfl;rw [← hx];exact hbB.set 0 (.string ByteArray.empty)
   case measure =>
    have e1:=(hbB.set 0 (.string ByteArray.empty)).cell (i:=0) rfl;unfold lenB;rw [e1,c0];simp only [List.getElem_toArray,List.getElem_cons_zero];show ByteArray.empty.size<s.size;rw [hsz]
    decide
  ·have c0:=hb.cell (i:=0) rfl;have hne:(bsA (layD 5)).toList.isEmpty=true:=(by kernel_rfl)
   gi_wp2
   go_end0
   exact ⟨⟨_,rfl⟩,hj⟩
theorem tokens_iter (m:Nat) (hm:1≤m) (l B:Nat) (Fp:Nat→Prop) (J:Nat→World→Prop) (hFB:¬ Fp B) (W0:World)
  (hJs:∀ i W u,J i W→J i (W.setCell ⟨B,0,none⟩ u)) (hJx:∀ i W W',J i W→Ext W W'→J i W') (hFp:∀ b,Fp b→b<W0.heap.size)
  (hround:∀ i W,i<5→J i W→W0.heap.size≤W.heap.size→YieldAt Fence.wide (m-1) Tryz.prog l #[.agg #[.string (bsA (tokD i).1),.bool (tokD i).2]] W fun e W'=>e=.returned (.bool true)∧J (i+1) W'∧ButS Fp W W')
  (h0:J 0 W0) (hB:Blk W0 B 9 #[.string (bsA (layD 0))]) :
  CallsIn Fence.wide m Tryz.prog 176 #[.func (.yield l) #[] #[],.pointer (some ⟨B,0,none⟩)] W0 fun e W'=>(∃ v,e=.returned v)∧J 5 W' :=
 tokens_iterS m hm l B J W0 hJs hJx (fun i W hi hj hs _=>(hround i _ hi (hJx _ _ _ hj ((Ext.refl _).alloc _)) (by rw [World.size_alloc]; omega)).mono fun e W' h=>⟨h.1,h.2.1,Fp,h.2.2,hFB,fun h=>by have:=hFp _ h; omega⟩) h0 hB
end Go.Proofs.YthmckfloppblcaaGreatDoor
