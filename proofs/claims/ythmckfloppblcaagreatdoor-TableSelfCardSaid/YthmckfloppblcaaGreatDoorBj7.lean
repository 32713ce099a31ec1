/- The reference's right decimals and lists of names: concordref04.Right, concordref06.Names. Conditions: the list reads as data. -/
import Derived.Test.YthmckfloppblcaaGreatDoorBj6
import Derived.WalkLawsBesides
import Derived.IntWalk
set_option maxRecDepth 100000
set_option maxHeartbeats 1000000
namespace Go.Proofs.YthmckfloppblcaaGreatDoor
open Go Go.RowKit

theorem r04_Right (n s:Int) (w:World):Calls Tryz.prog 103 #[.agg #[.int .i64 n,.int .i64 s]] w (RetB w (decR n s)):=by
 go_enter Tryz.func103,Tryz.ntmps103
 go_wp2
 all_goals
  go_ret;refine ⟨?_,(Ext.refl _).alloc _⟩;simp only [decR,unitsB];simp
  first | done | omega | (rw [Bool.eq_iff_iff]; simp; omega)

def namesB (l:List ByteArray):Bool:=(List.range l.length).all (colOK l)
theorem memS_succ {l:List ByteArray} {j:Nat} (h:j<l.length) (v:ByteArray):memS (l.take (j+1)) v=(memS (l.take j) v || decide (l[j]=v)):=by
 rw [Bool.eq_iff_iff,Bool.or_eq_true,memS_iff,memS_iff,List.take_succ_eq_append_getElem h,List.mem_append,decide_eq_true_iff];simp [eq_comm]

theorem r06_Names (A:Option Addr) (c:Nat) (l:List ByteArray) (w:World) (S:Nat→Prop) (h:Strs w S A l) :
  Calls Tryz.prog 125 #[.slice A l.length c] w (QuietB w (namesB l)):=by
 have hn:=h.2.1
 go_enter Tryz.func125,Tryz.ntmps125
 go_wp2
 go_loopw [3] (fun i wr=>∃ k:Nat,k≤l.length∧i=.int .i64 k∧(∃ n,wr=w.drewN n)∧∀ j (h:j<l.length),j<k→colOK l j=true) (fun i _=>l.length-(intOf i).toNat)
 case atStart=>exact ⟨0,Nat.zero_le _,rfl,⟨0,rfl⟩,by intros; omega⟩
 case round =>
  obtain ⟨k,hk,rfl,⟨n,rfl⟩,hall⟩:=hrel;have HA:=Hd hall;clear hall;by_cases hlt:k<l.length
  ·obtain ⟨b1,o1,rfl,z1,c1⟩:=h.at_ hlt;have hsz:=h.2.2 l[k] (List.getElem_mem hlt);generalize hf0:nameB l[k]=f0;have HF0:=Hd hf0;clear hf0
   go_wp2_with (go_at_call 152; refine (r06_Name _ hsz _).mono ?_; rintro e w' ⟨rfl,rfl⟩; rw [HF0.o])
   go_loopw [4,5] (fun f i wr=>∃ j:Nat,j≤k∧i=.int .i64 j∧f=.bool (f0 && !memS (l.take j) l[k])∧∃ n,wr=w.drewN n) (fun _ i _=>k-(intOf i).toNat)
   case atStart=>exact ⟨0,Nat.zero_le _,rfl,by simp [memS,idxS],⟨n,rfl⟩⟩
   case round =>
    obtain ⟨j,hj,rfl,rfl,⟨m,rfl⟩⟩:=hrel;generalize hf1:(f0 && !memS (l.take j) l[k])=f1;have HF1:=Hd hf1;clear hf1;by_cases hjk:j<k
    ·have hjl:j<l.length:=(by omega);obtain ⟨b2,o2,he2,z2,c2⟩:=h.at_ hjl;injection he2 with he2;injection he2 with he2 he3;subst he2 he3;cases f1
     all_goals
      go_wp2
      go_quiet (fail)
      go_wp2;go_roundw
      case rel =>
       refine ⟨j+1,by omega,by go_num,?_,⟨_,rfl⟩⟩;rw [memS_succ hjl];have:=HF1.o;simp_all [bytes_beq]
      case measure=>simp [intOf]; omega
    ·have hjk':j=k:=(by omega);subst hjk';cases f1
     ·go_wp2;go_ret;refine ⟨?_,m,rfl⟩;have hr:namesB l=false:=range_not hlt (by rw [colOK,getD_of _ _ _ hlt,HF0.o]; exact HF1.o);rw [hr];rfl
     ·go_wp2;go_roundw
      case rel =>
       refine ⟨j+1,by omega,by go_num,⟨_,rfl⟩,fun i h hi => ?_⟩;by_cases hij:i=j
       ·subst hij;rw [colOK,getD_of _ _ _ hlt,HF0.o];exact HF1.o
       ·exact HA.o i h (by omega)
      case measure=>simp [intOf]; omega
  ·go_wp2;go_ret;refine ⟨?_,n,rfl⟩;have hr:namesB l=true:=range_all fun j hj=>HA.o j hj (by omega);rw [hr];rfl




structure Dc (a b v:Int) (s:Nat):Prop where
 mu:mu a b=v*pw (6-(s:Int))
 s6:s≤6
 v1:(valD a b).1=v
 v2:(valD a b).2.toNat=s
 lo:-1000000000000000≤v
 hi:v≤1000000000000000
theorem Dc.of (a b:Int):∃ v s,Dc a b v s:=by
 have h:=valD_range a b;refine ⟨(valD a b).1,(valD a b).2.toNat,?_,by omega,rfl,rfl,h.2.2.1,h.2.2.2⟩;rw [Int.toNat_of_nonneg h.1];rfl
theorem Dc.lt {a b v:Int} {s:Nat} (h:Dc a b v s):v.natAbs<256 ^ 20:=by
 have h1:=h.lo;have h2:=h.hi;exact Nat.lt_of_le_of_lt (show v.natAbs≤1000000000000000 by omega) (by decide)

theorem r06_Right_0 (q:Nat) (x:Val) (A B:Option Addr) (c e:Nat) (w:World) (S:Nat→Prop) (h:RV w S q x A B) (hk:x.kind=0):Calls Tryz.prog 68 #[(.agg #[.int .i64 x.kind,.string x.s,.int .i64 x.dn,.int .i64 x.ds,.int .i64 x.n,.slice A x.cols.length c,.slice B x.rows.length e])] w (RetB w (flatB x)):=by
 have hf:flatB x=(decide (0≤x.n∧x.n≤99) && decide (x=⟨x.kind,⟨#[]⟩,0,0,x.n,[],[]⟩)):=by
  cases x;simp_all [flatB,bareB]
 have HF:=Hd hf;have H:=Hd h;have k0:(x.kind==0)=true:=(by simp [hk]);have k1:(x.kind==1)=false:=(by simp [hk]);have k2:(x.kind==2)=false:=(by simp [hk]);have k3:(x.kind==3)=false:=(by simp [hk]);have k4:(x.kind==4)=false:=(by simp [hk]);have k5:(x.kind==5)=false:=(by simp [hk]);clear hf hk h;by_cases h1:0≤x.n
 ·by_cases h2:x.n≤99
  ·go_enter Tryz.func68,Tryz.ntmps68
   go_wp2_with fail
   refine (r06_Equal q x ⟨x.kind,⟨#[]⟩,0,0,x.n,[],[]⟩ A B none none c e 0 0 _ S S (H.o.keep ((((Ext.refl w).alloc _).alloc _).kept _)) (RV.mk (Nat.zero_le _) Strs.nil Rows.nil)).mono ?_;rintro e1 w2 ⟨rfl,hx2⟩;have HX2:=Hd hx2;clear hx2;go_wp2;go_ret;exact ⟨by rw [HF.o,decide_eq_true (show (0≤x.n∧x.n≤99) from ⟨h1,h2⟩),Bool.true_and]; rfl,Ext.trans (((Ext.refl w).alloc _).alloc _) HX2.o⟩
  ·go_enter Tryz.func68,Tryz.ntmps68
   go_wp2;go_ret;exact ⟨by rw [HF.o,decide_eq_false (by omega),Bool.false_and]; rfl,(((Ext.refl w).alloc _).alloc _)⟩
 ·go_enter Tryz.func68,Tryz.ntmps68
  go_wp2;go_ret;exact ⟨by rw [HF.o,decide_eq_false (by omega),Bool.false_and]; rfl,(((Ext.refl w).alloc _).alloc _)⟩

theorem r06_Right_1 (q:Nat) (x:Val) (A B:Option Addr) (c e:Nat) (w:World) (S:Nat→Prop) (h:RV w S q x A B) (hk:x.kind=1):Calls Tryz.prog 68 #[(.agg #[.int .i64 x.kind,.string x.s,.int .i64 x.dn,.int .i64 x.ds,.int .i64 x.n,.slice A x.cols.length c,.slice B x.rows.length e])] w (RetB w (flatB x)):=by
 have hf:flatB x=(textB x.s && decide (x=⟨x.kind,x.s,0,0,0,[],[]⟩)):=by
  cases x;simp_all [flatB,bareB]
 have HF:=Hd hf;have H:=Hd h;have k0:(x.kind==0)=false:=(by simp [hk]);have k1:(x.kind==1)=true:=(by simp [hk]);have k2:(x.kind==2)=false:=(by simp [hk]);have k3:(x.kind==3)=false:=(by simp [hk]);have k4:(x.kind==4)=false:=(by simp [hk]);have k5:(x.kind==5)=false:=(by simp [hk]);clear hf hk h;have hs:=H.o.size;cases ht:textB x.s
 ·have HT:=Hd ht;clear ht
  go_enter Tryz.func68,Tryz.ntmps68
  go_wp2_with (go_at_call 102; refine (r06_Plain _ hs _).mono ?_; rintro e w' ⟨rfl,rfl⟩; rw [HT.o])
  go_ret;exact ⟨by rw [HF.o,HT.o]; rfl,(((Ext.refl w).alloc _).alloc _)⟩
 ·have HT:=Hd ht;clear ht
  go_enter Tryz.func68,Tryz.ntmps68
  go_wp2_with (go_at_call 102; refine (r06_Plain _ hs _).mono ?_; rintro e w' ⟨rfl,rfl⟩; rw [HT.o])
  refine (r06_Equal q x ⟨x.kind,x.s,0,0,0,[],[]⟩ A B none none c e 0 0 _ S S (H.o.keep ((((Ext.refl w).alloc _).alloc _).kept _)) (RV.mk H.o.size Strs.nil Rows.nil)).mono ?_;rintro e1 w2 ⟨rfl,hx2⟩;have HX2:=Hd hx2;clear hx2;go_wp2;go_ret;exact ⟨by rw [HF.o,HT.o,Bool.true_and]; rfl,Ext.trans (((Ext.refl w).alloc _).alloc _) HX2.o⟩

theorem r06_Right_2 (q:Nat) (x:Val) (A B:Option Addr) (c e:Nat) (w:World) (S:Nat→Prop) (h:RV w S q x A B) (hk:x.kind=2):Calls Tryz.prog 68 #[(.agg #[.int .i64 x.kind,.string x.s,.int .i64 x.dn,.int .i64 x.ds,.int .i64 x.n,.slice A x.cols.length c,.slice B x.rows.length e])] w (RetB w (flatB x)):=by
 have hf:flatB x=(decR x.dn x.ds && decide (x=⟨x.kind,⟨#[]⟩,x.dn,x.ds,0,[],[]⟩)):=by
  cases x;simp_all [flatB,bareB]
 have HF:=Hd hf;have H:=Hd h;have k0:(x.kind==0)=false:=(by simp [hk]);have k1:(x.kind==1)=false:=(by simp [hk]);have k2:(x.kind==2)=true:=(by simp [hk]);have k3:(x.kind==3)=false:=(by simp [hk]);have k4:(x.kind==4)=false:=(by simp [hk]);have k5:(x.kind==5)=false:=(by simp [hk]);clear hf hk h
 go_enter Tryz.func68,Tryz.ntmps68
 go_wp2_with fail
 refine (r04_Right x.dn x.ds _).mono ?_;rintro e1 w1 ⟨rfl,hx1⟩;obtain ⟨hc1,hf1⟩:=bcell hx1;have hz1:=hx1.size;simp at hc1 hf1 hz1;have hz2:w.heap.size<w1.heap.size:=(by omega);have hz3:w.heap.size+1<w1.heap.size:=(by omega);have HX:=Hd hx1;cases ht:decR x.dn x.ds
 ·have HT:=Hd ht;clear ht hx1;go_wp2;go_ret;exact ⟨by rw [HF.o,HT.o]; rfl,Ext.trans (((Ext.refl w).alloc _).alloc _) HX.o⟩
 ·have HT:=Hd ht;clear ht hx1
  go_wp2_with fail
  refine (r06_Equal q x ⟨x.kind,⟨#[]⟩,x.dn,x.ds,0,[],[]⟩ A B none none c e 0 0 _ S S (H.o.keep ((Ext.trans (((Ext.refl w).alloc _).alloc _) HX.o).kept _)) (RV.mk (Nat.zero_le _) Strs.nil Rows.nil)).mono ?_;rintro e1 w2 ⟨rfl,hx2⟩;have HX2:=Hd hx2;clear hx2;go_wp2;go_ret;exact ⟨by rw [HF.o,HT.o,Bool.true_and]; rfl,Ext.trans (Ext.trans (((Ext.refl w).alloc _).alloc _) HX.o) HX2.o⟩

theorem r06_Right_3 (q:Nat) (x:Val) (A B:Option Addr) (c e:Nat) (w:World) (S:Nat→Prop) (h:RV w S q x A B) (hk:x.kind=3):Calls Tryz.prog 68 #[(.agg #[.int .i64 x.kind,.string x.s,.int .i64 x.dn,.int .i64 x.ds,.int .i64 x.n,.slice A x.cols.length c,.slice B x.rows.length e])] w (RetB w (flatB x)):=by
 have hf:flatB x=(decide (0≤x.n∧x.n≤3652058) && decide (x=⟨x.kind,⟨#[]⟩,0,0,x.n,[],[]⟩)):=by
  cases x;simp_all [flatB,bareB]
 have HF:=Hd hf;have H:=Hd h;have k0:(x.kind==0)=false:=(by simp [hk]);have k1:(x.kind==1)=false:=(by simp [hk]);have k2:(x.kind==2)=false:=(by simp [hk]);have k3:(x.kind==3)=true:=(by simp [hk]);have k4:(x.kind==4)=false:=(by simp [hk]);have k5:(x.kind==5)=false:=(by simp [hk]);clear hf hk h;by_cases h1:0≤x.n
 ·by_cases h2:x.n≤3652058
  ·go_enter Tryz.func68,Tryz.ntmps68
   go_wp2_with fail
   refine (r06_Equal q x ⟨x.kind,⟨#[]⟩,0,0,x.n,[],[]⟩ A B none none c e 0 0 _ S S (H.o.keep ((((Ext.refl w).alloc _).alloc _).kept _)) (RV.mk (Nat.zero_le _) Strs.nil Rows.nil)).mono ?_;rintro e1 w2 ⟨rfl,hx2⟩;have HX2:=Hd hx2;clear hx2;go_wp2;go_ret;exact ⟨by rw [HF.o,decide_eq_true (show (0≤x.n∧x.n≤3652058) from ⟨h1,h2⟩),Bool.true_and]; rfl,Ext.trans (((Ext.refl w).alloc _).alloc _) HX2.o⟩
  ·go_enter Tryz.func68,Tryz.ntmps68
   go_wp2;go_ret;exact ⟨by rw [HF.o,decide_eq_false (by omega),Bool.false_and]; rfl,(((Ext.refl w).alloc _).alloc _)⟩
 ·go_enter Tryz.func68,Tryz.ntmps68
  go_wp2;go_ret;exact ⟨by rw [HF.o,decide_eq_false (by omega),Bool.false_and]; rfl,(((Ext.refl w).alloc _).alloc _)⟩

theorem r06_Right_4 (q:Nat) (x:Val) (A B:Option Addr) (c e:Nat) (w:World) (S:Nat→Prop) (h:RV w S q x A B) (hk:x.kind=4):Calls Tryz.prog 68 #[(.agg #[.int .i64 x.kind,.string x.s,.int .i64 x.dn,.int .i64 x.ds,.int .i64 x.n,.slice A x.cols.length c,.slice B x.rows.length e])] w (RetB w (flatB x)):=by
 have hf:flatB x=(decide (x.n=0∨x.n=1) && decide (x=⟨x.kind,⟨#[]⟩,0,0,x.n,[],[]⟩)):=by
  cases x;simp_all [flatB,bareB]
 have HF:=Hd hf;have H:=Hd h;have k0:(x.kind==0)=false:=(by simp [hk]);have k1:(x.kind==1)=false:=(by simp [hk]);have k2:(x.kind==2)=false:=(by simp [hk]);have k3:(x.kind==3)=false:=(by simp [hk]);have k4:(x.kind==4)=true:=(by simp [hk]);have k5:(x.kind==5)=false:=(by simp [hk]);clear hf hk h;by_cases h1:x.n=0
 ·have n0:(x.n==0)=true:=(by simp [h1]);have H1:=Hd h1;clear h1
  go_enter Tryz.func68,Tryz.ntmps68
  go_wp2_with fail
  refine (r06_Equal q x ⟨x.kind,⟨#[]⟩,0,0,x.n,[],[]⟩ A B none none c e 0 0 _ S S (H.o.keep ((((Ext.refl w).alloc _).alloc _).kept _)) (RV.mk (Nat.zero_le _) Strs.nil Rows.nil)).mono ?_;rintro e1 w2 ⟨rfl,hx2⟩;have HX2:=Hd hx2;clear hx2;go_wp2;go_ret;exact ⟨by rw [HF.o,decide_eq_true (show x.n=0∨x.n=1 from .inl H1.o),Bool.true_and]; rfl,Ext.trans (((Ext.refl w).alloc _).alloc _) HX2.o⟩
 ·have n0:(x.n==0)=false:=(by simp [h1]);have H1:=Hd h1;clear h1;by_cases h2:x.n=1
  ·have n1:(x.n==1)=true:=(by simp [h2]);have H2:=Hd h2;clear h2
   go_enter Tryz.func68,Tryz.ntmps68
   go_wp2_with fail
   refine (r06_Equal q x ⟨x.kind,⟨#[]⟩,0,0,x.n,[],[]⟩ A B none none c e 0 0 _ S S (H.o.keep ((((Ext.refl w).alloc _).alloc _).kept _)) (RV.mk (Nat.zero_le _) Strs.nil Rows.nil)).mono ?_;rintro e1 w2 ⟨rfl,hx2⟩;have HX2:=Hd hx2;clear hx2;go_wp2;go_ret;exact ⟨by rw [HF.o,decide_eq_true (show x.n=0∨x.n=1 from .inr H2.o),Bool.true_and]; rfl,Ext.trans (((Ext.refl w).alloc _).alloc _) HX2.o⟩
  ·have n1:(x.n==1)=false:=(by simp [h2]);have H2:=Hd h2;clear h2
   go_enter Tryz.func68,Tryz.ntmps68
   go_wp2;go_ret;exact ⟨by rw [HF.o,decide_eq_false (show ¬ (x.n=0∨x.n=1) from fun h=>h.elim H1.o H2.o),Bool.false_and]; rfl,(((Ext.refl w).alloc _).alloc _)⟩

theorem r06_Right_flat (q:Nat) (x:Val) (A B:Option Addr) (c e:Nat) (w:World) (S:Nat→Prop) (h:RV w S q x A B) (hk:x.kind≠5):Calls Tryz.prog 68 #[(.agg #[.int .i64 x.kind,.string x.s,.int .i64 x.dn,.int .i64 x.ds,.int .i64 x.n,.slice A x.cols.length c,.slice B x.rows.length e])] w (RetB w (flatB x)):=by
 by_cases g0:x.kind=0
 ·exact r06_Right_0 q x A B c e w S h g0
 by_cases g1:x.kind=1
 ·exact r06_Right_1 q x A B c e w S h g1
 by_cases g2:x.kind=2
 ·exact r06_Right_2 q x A B c e w S h g2
 by_cases g3:x.kind=3
 ·exact r06_Right_3 q x A B c e w S h g3
 by_cases g4:x.kind=4
 ·exact r06_Right_4 q x A B c e w S h g4
 have hf:flatB x=false:=(by simp [flatB,g0,g1,g2,g3,g4]);have HF:=Hd hf;have k0:(x.kind==0)=false:=(by simp [g0]);have k1:(x.kind==1)=false:=(by simp [g1]);have k2:(x.kind==2)=false:=(by simp [g2]);have k3:(x.kind==3)=false:=(by simp [g3]);have k4:(x.kind==4)=false:=(by simp [g4]);have k5:(x.kind==5)=false:=(by simp [hk]);clear hf hk h g0 g1 g2 g3 g4
 go_enter Tryz.func68,Tryz.ntmps68
 go_wp2;go_ret;exact ⟨by rw [HF.o]; rfl,(((Ext.refl w).alloc _).alloc _)⟩

theorem r06_Rows (q:Nat) (cols:List ByteArray) (rows:List (List Val)) (A B:Option Addr) (c e:Nat) (w:World) (S T:Nat→Prop) (hA:Strs w S A cols) (hB:Rows w T q B rows) :
  Calls Tryz.prog 104 #[.slice A cols.length c,.slice B rows.length e] w (RetB w (tableR cols rows)):=by
 have hn:=hA.2.1;have hm:=hB.len;have HSA:=Hd hA;have HSB:=Hd hB;clear hA hB;cases hnm:namesB cols
 case false =>
  have HN:=Hd hnm;have HF:=Hd (show tableR cols rows=false by unfold tableR; rw [show (List.range cols.length).all (colOK cols)=false from hnm]; simp);clear hnm
  go_enter Tryz.func104,Tryz.ntmps104
  go_wp2_with (go_at_call 125; refine (r06_Names A c cols _ S HSA.o).mono ?_; rintro e1 w1 ⟨rfl,n1,rfl⟩; rw [HN.o])
  go_ret;exact ⟨by rw [HF.o]; rfl,(Ext.refl _).drewN _⟩
 have HN:=Hd hnm;clear hnm;by_cases h1:cols.length≤8
 case neg =>
  have HF:=Hd (show tableR cols rows=false by unfold tableR; rw [decide_eq_false (by omega)]; rfl);have h1':(8:Int)<(cols.length:Int):=(by omega)
  go_enter Tryz.func104,Tryz.ntmps104
  go_wp2_with (go_at_call 125; refine (r06_Names A c cols _ S HSA.o).mono ?_; rintro e1 w1 ⟨rfl,n1,rfl⟩; rw [HN.o])
  go_ret;exact ⟨by rw [HF.o]; rfl,(Ext.refl _).drewN _⟩
 by_cases h2:rows.length≤100
 case neg =>
  have HF:=Hd (show tableR cols rows=false by unfold tableR; rw [decide_eq_false (by omega)]; rfl);have h1':¬ (8:Int)<(cols.length:Int):=(by omega);have h2':(100:Int)<(rows.length:Int):=(by omega)
  go_enter Tryz.func104,Tryz.ntmps104
  go_wp2_with (go_at_call 125; refine (r06_Names A c cols _ S HSA.o).mono ?_; rintro e1 w1 ⟨rfl,n1,rfl⟩; rw [HN.o])
  go_ret;exact ⟨by rw [HF.o]; rfl,(Ext.refl _).drewN _⟩
 have h1':¬ (8:Int)<(cols.length:Int):=(by omega);have h2':¬ (100:Int)<(rows.length:Int):=(by omega);have h3':(cols.length:Int)≤8:=(by omega);have h4':(rows.length:Int)≤100:=(by omega)
 go_enter Tryz.func104,Tryz.ntmps104
 go_wp2_with (go_at_call 125; refine (r06_Names A c cols _ S HSA.o).mono ?_; rintro e1 w1 ⟨rfl,n1,rfl⟩; rw [HN.o])
 go_loopw [6] (fun i wr=>∃ k:Nat,k≤rows.length∧i=.int .i64 k∧Ext w wr∧∀ j (h:j<rows.length),j<k→rowOK cols.length rows[j]=true) (fun i _=>rows.length-(intOf i).toNat)
 case atStart=>exact ⟨0,Nat.zero_le _,rfl,(Ext.refl _).drewN _,by intros; omega⟩
 case round =>
  obtain ⟨i,hi,rfl,hext,hall⟩:=hrel;have HR:=Hd hall;have HE:=Hd hext;clear hall;by_cases hlt2:i<rows.length
  ·obtain ⟨b1,o1,A2,c2,rfl,z1,p0,hcr,hrow⟩:=(HSB.o.keep (hext.kept T)).at_ hlt2;have hrl:=hrow.len;have HROW:=Hd hrow;clear hrow hext;by_cases hln:rows[i].length=cols.length
   ·have hn1:((rows[i].length:Int) != (cols.length:Int))=false:=(by simp [hln]);have HLN:=Hd hln;clear hln;go_wp2;obtain ⟨wo,rfl⟩:∃ wo:World,wo=wr:=⟨_,rfl⟩;have HP0:=Hd p0;clear p0
    go_loopw [7] (fun v wi=>∃ j:Nat,j≤rows[i].length∧v=.int .i64 j∧Ext wo wi∧∀ m (h:m<rows[i].length),m<j→cellOK rows[i][m]=true) (fun v _=>rows[i].length-(intOf v).toNat)
    case atStart=>exact ⟨0,Nat.zero_le _,rfl,Ext.refl _,by intros; omega⟩
    case round =>
     obtain ⟨j,hj,rfl,hexi,halli⟩:=hrel;have HI:=Hd halli;have HEI:=Hd hexi;have p0:=hexi.cell HP0.o;have z1':=Nat.lt_of_lt_of_le z1 hexi.size;clear halli;by_cases hlt3:j<rows[i].length
     ·obtain ⟨b2,o2,A5,c5,B5,e5,rfl,z2,⟨q0,q1,q2,q3,q4,q5,q6⟩,⟨hq,_,_⟩,hv⟩:=(HROW.o.keep (hexi.kept T)).at_ hlt3;have HV:=Hd hv;clear hv hexi;by_cases hk5:rows[i][j].kind=5
      ·have hk5':(rows[i][j].kind==5)=true:=(by simp [hk5]);have HF:=Hd (show tableR cols rows=false by
        unfold tableR;rw [all_not rows (rowOK cols.length) i hlt2 (by unfold rowOK; rw [all_not rows[i] cellOK j hlt3 (by simp [cellOK,hk5])]; simp)];simp)
       clear hk5;go_wp2;go_ret;exact ⟨by rw [HF.o]; rfl,HE.o.trans HEI.o⟩
      ·have hk5':(rows[i][j].kind==5)=false:=(by simp [hk5]);have HK5:=Hd hk5;clear hk5
       go_wp2_with fail
       refine (r06_Right_flat (q-1) rows[i][j] A5 B5 c5 e5 _ T HV.o HK5.o).mono ?_;rintro e1 w1 ⟨rfl,hx1⟩;have HX1:=Hd hx1;clear hx1;cases hfl:flatB rows[i][j]
       ·have HF:=Hd (show tableR cols rows=false by
         unfold tableR;rw [all_not rows (rowOK cols.length) i hlt2 (by unfold rowOK; rw [all_not rows[i] cellOK j hlt3 (by simp [cellOK,hfl])]; simp)];simp)
        clear hfl;go_wp2;go_ret;exact ⟨by rw [HF.o]; rfl,HE.o.trans (HEI.o.trans HX1.o)⟩
       ·have HFL:=Hd (show cellOK rows[i][j]=true by simp [cellOK,hfl,HK5.o]);clear hfl;go_wp2;go_roundw
        case rel =>
         refine ⟨j+1,by omega,by go_num,HEI.o.trans HX1.o,fun m h hm => ?_⟩;by_cases hjk:m=j
         ·subst hjk; exact HFL.o
         ·exact HI.o m h (by omega)
        case measure=>simp [intOf]; omega
     ·have HRO:=Hd (show rowOK cols.length rows[i]=true by
       unfold rowOK;rw [all_take rows[i] cellOK (fun m h=>HI.o m h (by omega)),HLN.o];simp)
      clear hexi;go_wp2;go_roundw
      case rel =>
       refine ⟨i+1,by omega,by go_num,HE.o.trans HEI.o,fun j h hj => ?_⟩;by_cases hjk:j=i
       ·subst hjk; exact HRO.o
       ·exact HR.o j h (by omega)
      case measure=>simp [intOf]; omega
   ·have hn1:((rows[i].length:Int) != (cols.length:Int))=true:=(by rw [bne_iff_ne]; omega);have HF:=Hd (show tableR cols rows=false by
     unfold tableR;rw [all_not rows (rowOK cols.length) i hlt2 (by unfold rowOK; rw [decide_eq_false hln]; rfl)];simp)
    clear hln;go_wp2;go_ret;exact ⟨by rw [HF.o]; rfl,HE.o⟩
  ·have HF:=Hd (show tableR cols rows=true by
    unfold tableR;rw [show (List.range cols.length).all (colOK cols)=true from HN.o,all_take rows (rowOK cols.length) (fun j h=>HR.o j h (by omega)),decide_eq_true ⟨h1,h2⟩];rfl)
   clear hext;go_wp2;go_ret;exact ⟨by rw [HF.o]; rfl,HE.o⟩

theorem r06_Right_5 (q:Nat) (x:Val) (A B:Option Addr) (c e:Nat) (w:World) (S:Nat→Prop) (h:RV w S q x A B) (hk:x.kind=5):Calls Tryz.prog 68 #[(.agg #[.int .i64 x.kind,.string x.s,.int .i64 x.dn,.int .i64 x.ds,.int .i64 x.n,.slice A x.cols.length c,.slice B x.rows.length e])] w (RetB w (rightB x)):=by
 have hf:rightB x=(tableR x.cols x.rows && decide (x=⟨x.kind,⟨#[]⟩,0,0,0,x.cols,x.rows⟩)):=by
  cases x;simp_all [rightB,bareB]
 have HF:=Hd hf;have H:=Hd h;have k0:(x.kind==0)=false:=(by simp [hk]);have k1:(x.kind==1)=false:=(by simp [hk]);have k2:(x.kind==2)=false:=(by simp [hk]);have k3:(x.kind==3)=false:=(by simp [hk]);have k4:(x.kind==4)=false:=(by simp [hk]);have k5:(x.kind==5)=true:=(by simp [hk]);clear hf hk h
 go_enter Tryz.func68,Tryz.ntmps68
 go_wp2_with fail
 refine (r06_Rows q x.cols x.rows A B c e _ S S (H.o.strs.keep ((((Ext.refl w).alloc _).alloc _).kept _)) (H.o.rows_.keep ((((Ext.refl w).alloc _).alloc _).kept _))).mono ?_;rintro e1 w1 ⟨rfl,hx1⟩;obtain ⟨hc1,hf1⟩:=bcell hx1;have hz1:=hx1.size;simp at hc1 hf1 hz1;have hz2:w.heap.size<w1.heap.size:=(by omega);have hz3:w.heap.size+1<w1.heap.size:=(by omega);have HX:=Hd hx1;cases ht:tableR x.cols x.rows
 ·have HT:=Hd ht;clear ht hx1;go_wp2;go_ret;exact ⟨by rw [HF.o,HT.o]; rfl,Ext.trans ((((Ext.refl w).alloc _).alloc _)) HX.o⟩
 ·have HT:=Hd ht;clear ht hx1
  go_wp2_with fail
  have HY:=Hd (H.o.keep ((Ext.trans (((Ext.refl w).alloc _).alloc _) HX.o).kept S));refine (r06_Equal q x ⟨x.kind,⟨#[]⟩,0,0,0,x.cols,x.rows⟩ A B A B c e c e _ S S HY.o (RV.mk (Nat.zero_le _) HY.o.strs HY.o.rows_)).mono ?_;rintro e1 w2 ⟨rfl,hx2⟩;have HX2:=Hd hx2;clear hx2;go_wp2;go_ret;exact ⟨by rw [HF.o,HT.o,Bool.true_and]; rfl,Ext.trans (((Ext.refl w).alloc _).alloc _) (Ext.trans HX.o HX2.o)⟩

theorem r06_Right (q:Nat) (x:Val) (A B:Option Addr) (c e:Nat) (w:World) (S:Nat→Prop) (h:RV w S q x A B):Calls Tryz.prog 68 #[(.agg #[.int .i64 x.kind,.string x.s,.int .i64 x.dn,.int .i64 x.ds,.int .i64 x.n,.slice A x.cols.length c,.slice B x.rows.length e])] w (RetB w (rightB x)):=by
 by_cases hk:x.kind=5
 ·exact r06_Right_5 q x A B c e w S h hk
 ·have:=r06_Right_flat q x A B c e w S h hk;rwa [show flatB x=rightB x by simp [rightB,hk]] at this




theorem OwnN.of_blk {w:World} {base g:Nat} {l:List Nat} (h:Blk w g 3 (dcells l)) (hg:base≤g) (hl:l.length≤4294967296):OwnN w base (some ⟨g,0,none⟩) l.length l:=by
 refine ⟨by simp [nums],.inr ⟨g,l.length,dcells l,rfl,hg,h,Nat.le_refl _,by unfold maxLen; omega,by rw [dcells_size]; omega,?_⟩⟩;rw [List.take_of_length_le (by simp [dcells,nums])];simp [dcells]
def RetNB (w:World) (l:List Nat) (e:Ending) (w':World):Prop:=∃ g,e=.returned (.slice (some ⟨g,0,none⟩) l.length l.length)∧w.heap.size≤g∧Blk w' g 3 (dcells l)∧Ext w w'
theorem RetNB.ret {w w':World} {l:List Nat} {e:Ending} (h:RetNB w l e w') (hl:l.length≤4294967296):RetN w l e w':=by
 obtain ⟨g,h1,h2,h3,h4⟩:=h;exact ⟨_,_,h1,OwnN.of_blk h3 h2 hl,h4⟩

structure Wk (lt:Nat→Nat→Bool):Prop where
 asy:∀ x y,lt x y=true→lt y x=false
 neg:∀ x y z,lt x y=false→lt y z=false→lt x z=false
def insG (lt:Nat→Nat→Bool) (x:Nat):List Nat→List Nat
 | []=>[x]
 | y :: l=>if lt x y=true then x :: y :: l else y :: insG lt x l
def sortG (lt:Nat→Nat→Bool) (l:List Nat):List Nat:=l.foldl (fun acc x=>insG lt x acc) []
def SrtG (lt:Nat→Nat→Bool) (l:List Nat):Prop:=l.Pairwise fun x y=>lt y x=false
section
variable {lt:Nat→Nat→Bool}
theorem mem_insG {x y:Nat} : ∀ {l:List Nat},y∈insG lt x l↔y=x∨y∈l
 | []=>by simp [insG]
 | z :: l=>by
  unfold insG;split
  ·simp
  ·rw [List.mem_cons,mem_insG,List.mem_cons];constructor
   ·rintro (h | h | h)
    ·exact .inr (.inl h)
    ·exact .inl h
    ·exact .inr (.inr h)
   ·rintro (h | h | h)
    ·exact .inr (.inl h)
    ·exact .inl h
    ·exact .inr (.inr h)
theorem SrtG.ins (o:Wk lt) {l:List Nat} (h:SrtG lt l) (x:Nat):SrtG lt (insG lt x l):=by
 induction l with
 | nil=>simp [SrtG,insG]
 | cons y l ih =>
  have h1:=List.pairwise_cons.1 h;unfold insG;split
  ·rename_i hlt;refine List.pairwise_cons.2 ⟨fun z hz => ?_,h⟩
   rcases List.mem_cons.1 hz with rfl | hz
   ·exact o.asy _ _ hlt
   ·exact o.neg z y x (h1.1 z hz) (o.asy _ _ hlt)
  ·rename_i hlt;refine List.pairwise_cons.2 ⟨fun z hz => ?_,ih h1.2⟩
   rcases mem_insG.1 hz with rfl | hz
   ·simpa using hlt
   ·exact h1.1 z hz
theorem snoc_indG {P:List Nat→Prop} (h0:P []) (h1:∀ l x,P l→P (l++[x])) (l:List Nat):P l:=by
 have:∀ m:List Nat,P m.reverse:=by
  intro m
  induction m with
  | nil=>exact h0
  | cons x m ih=>rw [List.reverse_cons]; exact h1 _ _ ih
 have h:=this l.reverse;rwa [List.reverse_reverse] at h
theorem sortG_snoc (l:List Nat) (x:Nat):sortG lt (l++[x])=insG lt x (sortG lt l):=by simp [sortG,List.foldl_append]
theorem SrtG.sort (o:Wk lt) (l:List Nat):SrtG lt (sortG lt l):=by
 refine snoc_indG (P:=fun l=>SrtG lt (sortG lt l)) (by simp [SrtG,sortG]) (fun l x ih => ?_) l;rw [sortG_snoc]; exact ih.ins o x
theorem len_insG (x:Nat):∀ l:List Nat,(insG lt x l).length=l.length+1
 | []=>rfl
 | y :: l=>by
  unfold insG;split
  ·simp
  ·simp [len_insG x l]
theorem len_sortG (l:List Nat):(sortG lt l).length=l.length:=by
 refine snoc_indG (P:=fun l=>(sortG lt l).length=l.length) rfl (fun l x ih => ?_) l;rw [sortG_snoc,len_insG,ih]; simp
theorem mem_sortG {l:List Nat} {y:Nat} : y∈sortG lt l↔y∈l:=by
 refine snoc_indG (P:=fun l=>y∈sortG lt l↔y∈l) (by simp [sortG]) (fun l x ih => ?_) l;rw [sortG_snoc,mem_insG,ih]; simp [or_comm]
end

def ans (l:List (List Val)) (m p:Nat):Val:=(l.getD p []).getD m Val.zero

structure But (g:Nat) (w w':World):Prop where
 os:w'.os=w.os
 tape:w'.tape=w.tape
 output:w'.output=w.output
 size:w.heap.size≤w'.heap.size
 block:∀ b,b<w.heap.size→b≠g→w'.heap[b]?=w.heap[b]?
section
variable {g:Nat} {w w' w'':World}
theorem But.refl (g:Nat) (w:World):But g w w:=⟨rfl,rfl,rfl,Nat.le_refl _,fun _ _ _=>rfl⟩
theorem But.trans (h:But g w w') (k:But g w' w''):But g w w'':=⟨k.os.trans h.os,k.tape.trans h.tape,k.output.trans h.output,Nat.le_trans h.size k.size,fun b hb hg=>(k.block b (Nat.lt_of_lt_of_le hb h.size) hg).trans (h.block b hb hg)⟩
theorem But.of_ext (h:Ext w w'):But g w w':=⟨h.os,h.tape,h.output,h.size,fun b hb _=>h.block b hb⟩
theorem But.of_only (h:Only g w w'):But g w w':=⟨h.os,h.tape,h.output,Nat.le_of_eq h.size.symm,fun b _ hg=>h.block b hg⟩
theorem But.kept (h:But g w w') {S:Nat→Prop} (hS:∀ b,b<w.heap.size→S b→b≠g):Kept S w w':=⟨h.size,fun b hb hl=>h.block b hl (hS b hl hb)⟩
theorem But.ext (h:But g w w') (hg:w.heap.size≤g):Ext w w':=⟨h.os,h.tape,h.output,h.size,fun b hb=>h.block b hb (by omega)⟩
theorem But.exts {a:World} (h:Ext a w) (k:But g w w') (hg:a.heap.size≤g):Ext a w':=⟨k.os.trans h.os,k.tape.trans h.tape,k.output.trans h.output,Nat.le_trans h.size k.size,fun b hb=>(k.block b (Nat.lt_of_lt_of_le hb h.size) (by omega)).trans (h.block b hb)⟩
theorem But.own {base e sz n c:Nat} {A:Option Addr} {xs:List Value} (h:But g w w') (ho:Own w base e sz A n c xs) (hb:g<base):Own w' base e sz A n c xs:=ho.keep (h.kept fun b _ hb'=>by have:=(ho.blk hb').1; omega)
theorem But.blk {b t:Nat} {cs:Array Value} (h:But g w w') (hb:Blk w b t cs) (hg:b≠g):Blk w' b t cs:=hb.keep (h.kept fun x _ e=>by omega)
theorem But.grown {row:Option Nat} (h:But g w w') (hg:w'.grownBy w'' row) (hr:∀ k,row=some k→w.heap.size≤k):But g w w'':=⟨hg.os.trans h.os,hg.tape.trans h.tape,hg.output.trans h.output,Nat.le_trans h.size hg.size,fun b hb hx=>(hg.block b (Nat.lt_of_lt_of_le hb h.size) fun e=>by have:=hr b e.symm; omega).trans (h.block b hb hx)⟩
theorem But.set {b i:Nat} {u:Value} (h:But g w w') (hb:w.heap.size≤b):But g w (w'.setCell ⟨b,i,none⟩ u):=⟨h.os,h.tape,h.output,by simpa [World.setCell] using h.size,fun x hx hg=>(Below.heap_setCell _ _ _ _ (by show x≠b; omega)).trans (h.block x hx hg)⟩
end


def ltN (P:List Nat) (p q:Nat):Bool:=decide (P.getD p 0<P.getD q 0)
theorem wkN (P:List Nat):Wk (ltN P):=⟨fun x y h=>by simp [ltN] at h ⊢; omega,fun x y z h k=>by simp [ltN] at h k ⊢; omega⟩


def plc (eq:Nat→Nat→Bool):Option Nat→Nat→List Nat→List Nat→List Nat
 | _,_,[],acc=>acc
 | none,t,x :: s,acc=>plc eq (some x) t s (acc.set x t)
 | some p,t,x :: s,acc=>plc eq (some x) (if eq p x then t else t+1) s (acc.set x (if eq p x then t else t+1))
def ltA (l:List (List Val)) (m p q:Nat):Bool:=lessF (ans l m p) (ans l m q)
def eqA (l:List (List Val)) (m p q:Nat):Bool:=decide (ans l m p=ans l m q)
def srtA (l:List (List Val)) (m:Nat):List Nat:=sortG (ltA l m) (List.range l.length)
def placesS (l:List (List Val)) (m:Nat):List Nat:=plc (eqA l m) none 0 (srtA l m) (List.replicate l.length 0)
theorem Tens.kept {w w':World} {S:Nat→Prop} (h:Tens w) (k:Kept S w w') (hS:S 0):Tens w':=⟨k.cell hS h.1,k.cell hS h.2.1,k.cell hS h.2.2.1,k.cell hS h.2.2.2.1,k.cell hS h.2.2.2.2.1,k.cell hS h.2.2.2.2.2.1,k.cell hS h.2.2.2.2.2.2⟩


def newG (P:List Nat) (k:Nat):Option Nat→Bool
 | none=>true
 | some q=>decide (P.getD q 0≠P.getD k 0)
def gstep (P:List Nat) (gs:List (List Nat)) (k:Nat) (prev:Option Nat):List (List Nat):=if newG P k prev=true then gs++[[k]] else gs.set (gs.length-1) (gs.getD (gs.length-1) []++[k])
def grp (P:List Nat):List (List Nat)→Option Nat→List Nat→List (List Nat)
 | gs,_,[]=>gs
 | gs,prev,k :: l=>grp P (gstep P gs k prev) (some k) l
def splitS (L P:List Nat):List (List Nat):=grp P [] none (sortG (ltN P) L)
def IsSplit (p:Nat→Nat) (L:List Nat) (gs:List (List Nat)):Prop :=
 ∃ hs:List Nat,hs.Pairwise (· < ·)∧(∀ v,v∈hs↔∃ x∈L,p x=v)∧gs=hs.map fun v=>L.filter fun x=>p x==v
theorem sorted_ext:∀ {a b:List Nat},a.Pairwise (· < ·)→b.Pairwise (· < ·)→(∀ v,v∈a↔v∈b)→a=b
 | [],[],_,_,_=>rfl
 | [],y :: b,_,_,h=>by have:=(h y).2 List.mem_cons_self; cases this
 | x :: a,[],_,_,h=>by have:=(h x).1 List.mem_cons_self; cases this
 | x :: a,y :: b,ha,hb,h=>by
  have ha':=List.pairwise_cons.1 ha;have hb':=List.pairwise_cons.1 hb;have hxy:x=y:=by
   have h1:=(h x).1 List.mem_cons_self;have h2:=(h y).2 List.mem_cons_self
   rcases List.mem_cons.1 h1 with e | e
   ·exact e
   ·rcases List.mem_cons.1 h2 with e2 | e2
    ·exact e2.symm
    ·have:=ha'.1 y e2; have:=hb'.1 x e; omega
  subst hxy;rw [sorted_ext ha'.2 hb'.2 fun v => ?_];have:=h v;rw [List.mem_cons,List.mem_cons] at this;constructor
  ·intro hv
   rcases this.1 (.inr hv) with e | e
   ·have:=ha'.1 v hv; omega
   ·exact e
  ·intro hv
   rcases this.2 (.inr hv) with e | e
   ·have:=hb'.1 v hv; omega
   ·exact e
theorem sorted_cut:∀ {hs:List Nat} (m:Nat),hs.Pairwise (· < ·)→∃ h1 h2,(∀ v∈h1,v<m)∧(∀ v∈h2,m<v)∧(hs=h1++h2∨hs=h1++m :: h2)
 | [],m,_=>⟨[],[],by simp,by simp,.inl rfl⟩
 | x :: hs,m,h=>by
  have h':=List.pairwise_cons.1 h
  rcases Nat.lt_trichotomy x m with hlt | heq | hgt
  ·obtain ⟨a,b,k1,k2,k3⟩:=sorted_cut m h'.2;refine ⟨x :: a,b,?_,k2,?_⟩
   ·intro v hv
    rcases List.mem_cons.1 hv with rfl | hv
    ·exact hlt
    ·exact k1 v hv
   ·rcases k3 with rfl | rfl
    ·exact .inl rfl
    ·exact .inr rfl
  ·subst heq;exact ⟨[],hs,by simp,h'.1,.inr rfl⟩
  ·refine ⟨[],x :: hs,by simp,?_,.inl rfl⟩;intro v hv
   rcases List.mem_cons.1 hv with rfl | hv
   ·exact hgt
   ·have:=h'.1 v hv; omega
theorem IsSplit.add {p:Nat→Nat} {L:List Nat} {hs h1 h2:List Nat} {k:Nat} (hs1:hs.Pairwise (· < ·)) (hs2:∀ v,v∈hs↔∃ x∈L,p x=v) (a1:∀ v∈h1,v<p k) (a2:∀ v∈h2,p k<v) (e:hs=h1++h2∨hs=h1++p k :: h2) :
  IsSplit p (L++[k]) ((h1.map fun v=>L.filter fun x=>p x==v)++(L.filter (fun x=>p x==p k)++[k]) :: h2.map fun v=>L.filter fun x=>p x==v):=by
 have hp:(h1++p k :: h2).Pairwise (· < ·):=by
  rcases e with rfl | rfl
  ·have h:=List.pairwise_append.1 hs1;refine List.pairwise_append.2 ⟨h.1,List.pairwise_cons.2 ⟨a2,h.2.1⟩,fun x hx y hy => ?_⟩
   rcases List.mem_cons.1 hy with rfl | hy
   ·exact a1 x hx
   ·exact h.2.2 x hx y hy
  ·exact hs1
 refine ⟨h1++p k :: h2,hp,fun v => ?_,?_⟩
 ·have h:=hs2 v;have hm:v∈h1++p k :: h2↔v∈hs∨p k=v:=by
   rcases e with rfl | rfl
   ·simp only [List.mem_append,List.mem_cons];constructor
    ·rintro (h | h | h)
     ·exact .inl (.inl h)
     ·exact .inr h.symm
     ·exact .inl (.inr h)
    ·rintro ((h | h) | h)
     ·exact .inl h
     ·exact .inr (.inr h)
     ·exact .inr (.inl h.symm)
   ·simp only [List.mem_append,List.mem_cons];constructor
    ·exact .inl
    ·rintro (h | h)
     ·exact h
     ·exact .inr (.inl h.symm)
  rw [hm,h];simp only [List.mem_append,List.mem_singleton];constructor
  ·rintro (⟨x,hx,hv⟩ | hv)
   ·exact ⟨x,.inl hx,hv⟩
   ·exact ⟨k,.inr rfl,hv⟩
  ·rintro ⟨x,hx | rfl,hv⟩
   ·exact .inl ⟨x,hx,hv⟩
   ·exact .inr hv
 ·rw [List.map_append,List.map_cons];have ne:∀ v,p k≠v→((L++[k]).filter fun x=>p x==v)=L.filter fun x=>p x==v:=by
   intro v hv;rw [List.filter_append];simp [hv]
  congr 1
  ·refine List.map_congr_left fun v hv => ?_;have:=a1 v hv;rw [ne v (by omega)]
  ·congr 1
   ·rw [List.filter_append]; simp
   ·refine List.map_congr_left fun v hv => ?_;have:=a2 v hv;rw [ne v (by omega)]
theorem filter_one {P:List Nat} (k v:Nat):([k].filter fun x=>P.getD x 0==v)=if P.getD k 0=v then [k] else []:=by
 by_cases h:P.getD k 0=v
 ·rw [if_pos h,List.filter_cons_of_pos (by rw [h]; simp)]; rfl
 ·rw [if_neg h,List.filter_cons_of_neg (by rw [beq_iff_eq]; exact h)]; rfl
theorem insG_filter {P:List Nat} {k:Nat} : ∀ {s:List Nat},SrtG (ltN P) s→∀ v,((insG (ltN P) k s).filter fun x=>P.getD x 0==v)=(s.filter fun x=>P.getD x 0==v)++(if P.getD k 0=v then [k] else [])
 | [],_,v=>by
  exact filter_one k v
 | y :: s,h,v=>by
  have h':=List.pairwise_cons.1 h;unfold insG;by_cases hlt:ltN P k y=true
  ·rw [if_pos hlt];by_cases hv:P.getD k 0=v
   ·have hz:((y :: s).filter fun x=>P.getD x 0==v)=[]:=by
     rw [List.filter_eq_nil_iff];intro x hx;have h1:P.getD k 0<P.getD y 0:=(by simpa [ltN] using hlt);have h2:P.getD y 0≤P.getD x 0:=by
      rcases List.mem_cons.1 hx with rfl | hx
      ·exact Nat.le_refl _
      ·have:=h'.1 x hx;simp [ltN] at this
       simpa using this
     have:P.getD x 0≠v:=by omega
     simpa using this
    rw [if_pos hv,List.filter_cons_of_pos (by simpa using hv),hz];rfl
   ·rw [if_neg hv,List.filter_cons_of_neg (by simpa using hv),List.append_nil]
  ·rw [if_neg hlt];have ih:=insG_filter (k:=k) h'.2 v;by_cases hy:P.getD y 0=v
   ·rw [List.filter_cons_of_pos (by simpa using hy),List.filter_cons_of_pos (by simpa using hy),ih];rfl
   ·rw [List.filter_cons_of_neg (by simpa using hy),List.filter_cons_of_neg (by simpa using hy),ih]
theorem sortG_filter (P L:List Nat) (v:Nat):((sortG (ltN P) L).filter fun x=>P.getD x 0==v)=L.filter fun x=>P.getD x 0==v:=by
 refine snoc_indG (P:=fun L=>((sortG (ltN P) L).filter fun x=>P.getD x 0==v)=L.filter fun x=>P.getD x 0==v) rfl (fun l x ih => ?_) L;rw [sortG_snoc,insG_filter (SrtG.sort (wkN P) l),ih,List.filter_append];rw [filter_one]
theorem grp_split (P:List Nat):∀ (q p:List Nat) (gs:List (List Nat)),SrtG (ltN P) (p++q)→IsSplit (fun x=>P.getD x 0) p gs→IsSplit (fun x=>P.getD x 0) (p++q) (grp P gs p.getLast? q)
 | [],p,gs,_,h=>by rw [List.append_nil]; exact h
 | k :: q,p,gs,hs,h=>by
  have e1:p++k :: q=(p++[k])++q:=(by simp);have e2:some k=(p++[k]).getLast?:=(by simp);unfold grp;rw [e1] at hs ⊢;rw [e2];refine grp_split P q (p++[k]) _ hs ?_;obtain ⟨hs0,k1,k2,rfl⟩:=h;have hle:∀ x∈p,P.getD x 0≤P.getD k 0:=by
   intro x hx;have:=(List.pairwise_append.1 (List.pairwise_append.1 hs).1).2.2 x hx k (by simp);simp [ltN] at this
   simpa using this
  have hall:∀ v∈hs0,v≤P.getD k 0:=by
   intro v hv;obtain ⟨x,hx,rfl⟩:=(k2 v).1 hv;exact hle x hx
  obtain ⟨h1,h2,a1,a2,e⟩:=sorted_cut (P.getD k 0) k1;have hnil:h2=[]:=by
   match h2,a2,e with
   | [],_,_=>rfl
   | z :: h2,a2,e =>
    have h3:=a2 z List.mem_cons_self;have h4:=hall z (by rcases e with rfl | rfl <;> simp);omega
  subst hnil;have key:=IsSplit.add k1 k2 a1 a2 e;rw [List.map_nil] at key;have hg:gstep P (hs0.map fun v=>p.filter fun x=>P.getD x 0==v) k p.getLast?=(h1.map fun v=>p.filter fun x=>P.getD x 0==v)++[p.filter (fun x=>P.getD x 0==P.getD k 0)++[k]]:=by
   rcases e with e | e
   ·have hno:∀ x∈p,P.getD x 0≠P.getD k 0:=by
     intro x hx hxe;have h5:P.getD k 0∈hs0:=(k2 _).2 ⟨x,hx,hxe⟩;rw [e,List.append_nil] at h5;have:=a1 _ h5;omega
    have hf:p.filter (fun x=>P.getD x 0==P.getD k 0)=[]:=by
     rw [List.filter_eq_nil_iff];intro x hx
     simpa using hno x hx
    have hn:newG P k p.getLast?=true:=by
     cases hl:p.getLast? with
     | none=>rfl
     | some z=>simpa [newG] using hno z (List.mem_of_getLast? hl)
    unfold gstep;rw [if_pos hn,hf,e];simp
   ·have hm:P.getD k 0∈hs0:=(by rw [e]; simp);obtain ⟨x,hx,hxe⟩:∃ x∈p,P.getD x 0=P.getD k 0:=(k2 _).1 hm;obtain ⟨z,hz⟩:∃ z,p.getLast?=some z:=by
     cases hl:p.getLast? with
     | none=>rw [List.getLast?_eq_none_iff] at hl; rw [hl] at hx; cases hx
     | some z=>exact ⟨z,rfl⟩
    have hpz:∃ p0,p=p0++[z]:=by
     obtain ⟨ys,hy⟩:=List.getLast?_eq_some_iff.1 hz;exact ⟨ys,hy⟩
    obtain ⟨p0,hp0⟩:=hpz;have hzk:P.getD z 0=P.getD k 0:=by
     have h6:=hle z (by rw [hp0]; simp);rw [hp0] at hx
     rcases List.mem_append.1 hx with hx | hx
     ·have h7:=(List.pairwise_append.1 (List.pairwise_append.1 hs).1).1;rw [hp0] at h7;have h8:=(List.pairwise_append.1 h7).2.2 x hx z (by simp);have h9:¬ P.getD z 0<P.getD x 0:=(by simpa [ltN] using h8);have h10:=hle z (by rw [hp0]; simp);omega
     ·rw [List.mem_singleton.1 hx] at hxe;exact hxe
    unfold gstep;rw [hz,if_neg (by rw [show newG P k (some z)=decide (P.getD z 0≠P.getD k 0) from rfl,hzk]; simp)];rw [e];simp
  rw [hg];exact key
theorem splitS_is (L P:List Nat):IsSplit (fun x=>P.getD x 0) L (splitS L P):=by
 have h:=grp_split P (sortG (ltN P) L) [] [] (by simpa using SrtG.sort (wkN P) L) ⟨[],by simp,by simp,by simp⟩;obtain ⟨hs,h1,h2,h3⟩:=h;refine ⟨hs,h1,fun v => ?_,?_⟩
 ·rw [h2];simp [mem_sortG]
 ·unfold splitS;rw [show ([]:List Nat).getLast?=none from rfl] at h3;rw [h3];refine List.map_congr_left fun v _ => ?_
  simpa using sortG_filter P L v

def Nums (w:World) (S:Nat→Prop) (A:Option Addr) (l:List Nat):Prop:=Rd w S A ((nums l).map (Value.int .i64))∧l.length≤4294967296
def NN (w:World) (S:Nat→Prop) (A:Option Addr) (gs:List (List Nat)):Prop :=
 gs.length≤4294967296∧∃ hs:List Value,Rd w S A hs∧hs.length=gs.length∧∀ (i:Nat) (g:List Nat),gs[i]?=some g→∃ (B:Option Addr) (e:Nat),hs[i]?=some (Value.slice B g.length e)∧g.length≤e∧Nums w S B g
section
variable {w w':World} {S T:Nat→Prop} {A:Option Addr} {l:List Nat} {gs:List (List Nat)}
theorem nums_at {l:List Nat} {k:Nat} (h:k<l.length):((nums l).map (Value.int .i64))[k]?=some (.int .i64 ((l[k]:Nat):Int)):=by simp [nums,h]
theorem Nums.keep (h:Nums w S A l) (k:Kept S w w'):Nums w' S A l:=⟨h.1.keep k,h.2⟩
theorem Nums.mono (h:Nums w S A l) (k:∀ i,i<w.heap.size→S i→T i):Nums w T A l:=⟨h.1.mono k,h.2⟩
theorem Nums.at_ (h:Nums w S A l) {k:Nat} (hk:k<l.length):∃ b o,A=some ⟨b,o,none⟩∧b<w.heap.size∧w.cell? ⟨b,o+k,none⟩=some (.int .i64 ((l[k]:Nat):Int)):=h.1.at_ (nums_at hk)
theorem Nums.take (h:Nums w S A l) (k:Nat):Nums w S A (l.take k):=⟨by have:=h.1.take k; simpa [nums,List.map_take] using this,by have:=h.2; rw [List.length_take]; omega⟩
theorem NN.keep (h:NN w S A gs) (k:Kept S w w'):NN w' S A gs:=by
 obtain ⟨h0,hs,h1,h2,h3⟩:=h;refine ⟨h0,hs,h1.keep k,h2,fun i g hg => ?_⟩;obtain ⟨B,e,h4,h5,h6⟩:=h3 i g hg;exact ⟨B,e,h4,h5,h6.keep k⟩
theorem NN.mono (h:NN w S A gs) (k:∀ i,i<w.heap.size→S i→T i):NN w T A gs:=by
 obtain ⟨h0,hs,h1,h2,h3⟩:=h;refine ⟨h0,hs,h1.mono k,h2,fun i g hg => ?_⟩;obtain ⟨B,e,h4,h5,h6⟩:=h3 i g hg;exact ⟨B,e,h4,h5,h6.mono k⟩
theorem NN.at_ (h:NN w S A gs) {k:Nat} (hk:k<gs.length):∃ b o B e,A=some ⟨b,o,none⟩∧b<w.heap.size∧w.cell? ⟨b,o+k,none⟩=some (.slice B gs[k].length e)∧gs[k].length≤e∧Nums w S B gs[k]:=by
 obtain ⟨h0,hs,h1,h2,h3⟩:=h;obtain ⟨B,e,h4,h5,h6⟩:=h3 k gs[k] (List.getElem?_eq_getElem hk);obtain ⟨b,o,e1,e2,e3⟩:=h1.at_ h4;exact ⟨b,o,B,e,e1,e2,e3,h5,h6⟩
theorem NN.nil:NN w S A []:=⟨by simp,[],.inl rfl,rfl,by simp⟩
theorem OwnN.nums {base c:Nat} (h:OwnN w base A c l) (hl:l.length≤4294967296):Nums w (fun b=>ob A=some b) A l:=⟨Own.rd h,hl⟩
theorem Own.put {base e sz n c g i:Nat} {xs:List Value} (h:Own w base e sz (some ⟨g,0,none⟩) n c xs) (u:Value):Own (w.setCell ⟨g,i,none⟩ u) base e sz (some ⟨g,0,none⟩) n c (xs.set i u):=by
 refine ⟨by rw [List.length_set]; exact h.1,?_⟩
 rcases h.2 with ⟨hv,h0⟩ | ⟨g',cap,cur,hv,hb,hh,hnc,hcm,hcs,ht⟩
 ·cases hv
 ·injection hv with hv1 hv2 hv3;injection hv1 with hv1;injection hv1 with hv1;subst hv1 hv3;refine .inr ⟨g,c,cur.setIfInBounds i u,rfl,hb,Blk.set hh i u,hnc,hcm,by simpa using hcs,?_⟩;rw [Array.toList_setIfInBounds,List.take_set,ht]
end

def hdr (bs:List (Nat × Nat)) (gs:List (List Nat)):List Value:=List.zipWith (fun b g=>Value.slice (some ⟨b.1,0,none⟩) g.length b.2) bs gs
structure Parts (w:World) (base:Nat) (bs:List (Nat × Nat)) (gs:List (List Nat)):Prop where
 len:bs.length=gs.length
 own:∀ (i:Nat) (b:Nat × Nat) (g:List Nat),bs[i]?=some b→gs[i]?=some g→OwnN w base (some ⟨b.1,0,none⟩) b.2 g
 nd:(bs.map (·.1)).Nodup
def OwnNN (w:World) (base:Nat) (A:Option Addr) (c:Nat) (gs:List (List Nat)):Prop :=
 ∃ bs,Parts w base bs gs∧Own w base 22 1 A gs.length c (hdr bs gs)∧∀ b∈bs,ob A≠some b.1
section
variable {w w':World} {base c:Nat} {A:Option Addr} {bs:List (Nat × Nat)} {gs:List (List Nat)}
theorem Parts.keep (h:Parts w base bs gs) (hk:Kept (fun b=>b∈bs.map (·.1)) w w'):Parts w' base bs gs :=
 ⟨h.len,fun i b g hb hg=>Own.keep (h.own i b g hb hg) (hk.mono fun x _ hx=>by
  have:x=b.1:=(by simp [ob] at hx; exact hx.symm);rw [this];exact List.mem_map.2 ⟨b,List.mem_of_getElem? hb,rfl⟩),h.nd⟩
theorem Parts.nil:Parts w base [] []:=⟨rfl,by simp,by simp⟩
theorem hdr_len (h:bs.length=gs.length):(hdr bs gs).length=gs.length:=by simp [hdr,h]
theorem hdr_at {i:Nat} {b:Nat × Nat} {g:List Nat} (hb:bs[i]?=some b) (hg:gs[i]?=some g):(hdr bs gs)[i]?=some (.slice (some ⟨b.1,0,none⟩) g.length b.2):=by
 simp [hdr,List.getElem?_zipWith,hb,hg]
theorem hdr_set (i:Nat) (b:Nat × Nat) (g:List Nat):(hdr bs gs).set i (.slice (some ⟨b.1,0,none⟩) g.length b.2)=hdr (bs.set i b) (gs.set i g):=by
 apply List.ext_getElem?;intro j;by_cases hj:i=j
 ·subst hj;simp only [hdr,List.getElem?_zipWith,List.getElem?_set_self'];cases h1:bs[i]? <;> cases h2:gs[i]? <;> simp
 ·simp only [hdr,List.getElem?_zipWith,List.getElem?_set_ne hj]
theorem hdr_app {bs2:List (Nat × Nat)} {gs2:List (List Nat)} (h:bs.length=gs.length):hdr (bs++bs2) (gs++gs2)=hdr bs gs++hdr bs2 gs2:=by
 simp [hdr,List.zipWith_append h]
theorem Parts.lt (h:Parts w base bs gs):∀ b∈bs,base≤b.1∧b.1<w.heap.size:=by
 intro b hb;obtain ⟨i,hi,rfl⟩:=List.mem_iff_getElem.1 hb;have:=h.own i bs[i] (gs[i]'(by rw [← h.len]; exact hi)) (List.getElem?_eq_getElem hi) (List.getElem?_eq_getElem (by rw [← h.len]; exact hi));exact Own.blk this rfl
theorem OwnNN.ext (h:OwnNN w base A c gs) (hx:Ext w w'):OwnNN w' base A c gs:=by
 obtain ⟨bs,h1,h2,h3⟩:=h;exact ⟨bs,h1.keep (hx.kept _),Own.ext h2 hx,h3⟩
theorem OwnNN.nil (w:World) (base:Nat):OwnNN w base none 0 []:=⟨[],Parts.nil,Own.nil _ _ _ _,by simp⟩
theorem OwnNN.blk (h:OwnNN w base A c gs) {k:Nat} (hk:ob A=some k):base≤k∧k<w.heap.size:=by
 obtain ⟨bs,h1,h2,h3⟩:=h;exact Own.blk h2 hk
theorem OwnNN.nn (h:OwnNN w base A c gs) (hl:gs.length≤4294967296) (hg:∀ g∈gs,g.length≤4294967296):NN w (fun b=>base≤b) A gs:=by
 obtain ⟨bs,h1,h2,h3⟩:=h;refine ⟨hl,hdr bs gs,h2.rd.mono fun b _ hb=>(Own.blk h2 hb).1,hdr_len h1.len,fun i g hi => ?_⟩;have hib:i<bs.length:=by
  rw [h1.len]
  rcases Nat.lt_or_ge i gs.length with h | h
  ·exact h
  ·rw [List.getElem?_eq_none h] at hi; cases hi
 have ho:=h1.own i bs[i] g (List.getElem?_eq_getElem hib) hi;refine ⟨_,_,hdr_at (List.getElem?_eq_getElem hib) hi,Own.cap ho,(OwnN.nums ho (hg g (List.mem_of_getElem? hi))).mono fun b _ hb=>(Own.blk ho hb).1⟩
theorem Own.some_ {e sz n:Nat} {xs:List Value} (h:Own w base e sz A n c xs) (hn:0<n):∃ g,A=some ⟨g,0,none⟩:=by
 rcases h.2 with ⟨hv,h0⟩ | ⟨g',cap,cur,hv,_⟩
 ·omega
 ·injection hv with hv1;exact ⟨g',hv1⟩
theorem OwnNN.grow {gA i:Nat} {b:Nat × Nat} {g g2:List Nat} {A2:Option Addr} {c2:Nat} {w1 w2:World} (h1:Parts w base bs gs) (h2:Own w base 22 1 (some ⟨gA,0,none⟩) gs.length c (hdr bs gs)) (h3:∀ b∈bs,gA≠b.1)
  (hb:bs[i]?=some b) (_hg:gs[i]?=some g) (hx:Ext w w1) (ho:OwnN w2 base A2 c2 g2) (hgr:w1.grownBy w2 (some b.1)) (hat:ob A2=some b.1∨ob A2=some w1.heap.size) (hne:0<g2.length) :
  OwnNN (w2.setCell ⟨gA,i,none⟩ (.slice A2 g2.length c2)) base (some ⟨gA,0,none⟩) c (gs.set i g2):=by
 obtain ⟨x,rfl⟩:=Own.some_ ho hne;have hx':x=b.1∨x=w1.heap.size:=(by simpa [ob] using hat);have hbm:b∈bs:=List.mem_of_getElem? hb;have hblt:=h1.lt b hbm;have hgA:=Own.blk h2 (k:=gA) rfl;have hgb:=h3 b hbm;have hxz:=hx.size;have hxA:gA≠x:=(by rcases hx' with rfl | rfl <;> omega);have hk1:∀ S:Nat→Prop,(∀ y,S y→y<w.heap.size→y≠b.1)→Kept S w w2:=fun S hS=>(hx.kept S).trans (Kept.of_grown hgr fun y hy _ hyb=>by
  have hyb':y=b.1:=Option.some.inj hyb;exact hS y hy (by omega) hyb')
 have hi:i<bs.length:=by
  rcases Nat.lt_or_ge i bs.length with h | h
  ·exact h
  ·rw [List.getElem?_eq_none h] at hb; cases hb
 have hbi:bs[i]=b:=(by rw [List.getElem?_eq_getElem hi] at hb; exact Option.some.inj hb);have hne2:∀ (j:Nat) (d:Nat × Nat),bs[j]?=some d→j≠i→d.1≠b.1:=by
  intro j d hd hji e;have hj:j<bs.length:=by
   rcases Nat.lt_or_ge j bs.length with h | h
   ·exact h
   ·rw [List.getElem?_eq_none h] at hd; cases hd
  have hdj:bs[j]=d:=(by rw [List.getElem?_eq_getElem hj] at hd; exact Option.some.inj hd);have:=(List.getElem_inj (xs:=bs.map (·.1)) (i:=j) (j:=i) (h₀:=by simpa using hj) (h₁:=by simpa using hi) h1.nd).1 (by simp [hdj,hbi,e]);exact hji this
 refine ⟨bs.set i (x,c2),⟨by simp [h1.len],fun j d g' hd hg' => ?_,?_⟩,?_,?_⟩
 ·by_cases hji:j=i
  ·subst hji;rw [List.getElem?_set_self hi] at hd;rw [List.getElem?_set_self (by rw [← h1.len]; exact hi)] at hg';obtain rfl:=Option.some.inj hd;obtain rfl:=Option.some.inj hg';exact Own.set ho (by simp [ob]; omega) _
  ·rw [List.getElem?_set_ne (fun e=>hji e.symm)] at hd hg';have hd':=h1.own j d g' hd hg';have hdA:gA≠d.1:=h3 d (List.mem_of_getElem? hd);refine Own.set (Own.keep hd' (hk1 _ fun y hy _ => ?_)) (by simp [ob]; omega) _;simp [ob] at hy;rw [← hy];exact hne2 j d hd hji
 ·rw [List.map_set];rw [List.nodup_iff_pairwise_ne,List.pairwise_iff_getElem];intro p q hp hq hpq;simp only [List.length_set,List.length_map] at hp hq;have hlt:∀ (j:Nat) (hj:j<bs.length),j≠i→bs[j].1≠x:=by
   intro j hj hji;have:=hne2 j bs[j] (List.getElem?_eq_getElem hj) hji;have:=(h1.lt bs[j] (List.getElem_mem hj)).2
   rcases hx' with rfl | rfl <;> omega
  rw [List.getElem_set,List.getElem_set];split
  ·subst_vars
   rw [if_neg (by omega),List.getElem_map];exact fun e=>hlt q (by simpa using hq) (by omega) e.symm
  ·split
   ·subst_vars
    rw [List.getElem_map];exact fun e=>hlt p (by simpa using hp) (by omega) e
   ·rw [List.getElem_map,List.getElem_map];intro e;have:=(List.getElem_inj (xs:=bs.map (·.1)) (i:=p) (j:=q) (h₀:=by simpa using hp) (h₁:=by simpa using hq) h1.nd).1 (by simpa using e);omega
 ·have h4:=Own.put (i:=i) (Own.keep h2 (hk1 _ fun y hy _=>by simp [ob] at hy; omega)) (.slice (some ⟨x,0,none⟩) g2.length c2);rw [hdr_set i (x,c2) g2] at h4
  simpa using h4
 ·intro d hd
  rcases List.mem_or_eq_of_mem_set hd with hd | rfl
  ·have:=h3 d hd
   simpa [ob] using this
  ·simpa [ob] using hxA
theorem OwnNN.push {gA:Nat} {g2:List Nat} {A2:Option Addr} {c2:Nat} {w1 w2:World} (h1:Parts w base bs gs) (h2:Own w base 22 1 (some ⟨gA,0,none⟩) (gs.length+1) c (hdr bs gs++[.slice none 0 0])) (h3:∀ b∈bs,gA≠b.1)
  (hx:Ext w w1) (ho:OwnN w2 base A2 c2 g2) (hgr:w1.grownBy w2 none) (hat:ob A2=none∨ob A2=some w1.heap.size) (hne:0<g2.length) :
  OwnNN (w2.setCell ⟨gA,gs.length,none⟩ (.slice A2 g2.length c2)) base (some ⟨gA,0,none⟩) c (gs++[g2]):=by
 obtain ⟨x,rfl⟩:=Own.some_ ho hne;have hx':x=w1.heap.size:=(by simpa [ob] using hat);have hgA:=Own.blk h2 (k:=gA) rfl;have hxz:=hx.size;have hk1:∀ S:Nat→Prop,Kept S w w2:=fun S=>(hx.kept S).trans (Kept.of_grown hgr fun y hy _ hyb=>by cases hyb);refine ⟨bs++[(x,c2)],⟨by simp [h1.len],fun j d g' hd hg' => ?_,?_⟩,?_,?_⟩
 ·rcases Nat.lt_or_ge j bs.length with hj | hj
  ·rw [List.getElem?_append_left hj] at hd;rw [List.getElem?_append_left (by rw [← h1.len]; exact hj)] at hg';have hd':=h1.own j d g' hd hg';have hdA:gA≠d.1:=h3 d (List.mem_of_getElem? hd);exact Own.set (Own.keep hd' (hk1 _)) (by simp [ob]; omega) _
  ·rw [List.getElem?_append_right hj] at hd;rw [List.getElem?_append_right (by rw [← h1.len]; exact hj),← h1.len] at hg';have hj0:j-bs.length=0:=by
    rcases Nat.eq_zero_or_pos (j-bs.length) with h0 | h0
    ·exact h0
    ·rw [List.getElem?_eq_none (by simp; omega)] at hd; cases hd
   rw [hj0] at hd hg';obtain rfl:=Option.some.inj hd;obtain rfl:=Option.some.inj hg';exact Own.set ho (by simp [ob]; omega) _
 ·rw [List.map_append,List.nodup_append];refine ⟨h1.nd,by simp,fun a ha b hb => ?_⟩;simp at hb;obtain ⟨d,hd,rfl⟩:=List.mem_map.1 ha;have:=(h1.lt d hd).2;omega
 ·have h4:=Own.put (i:=gs.length) (Own.keep h2 (hk1 _)) (.slice (some ⟨x,0,none⟩) g2.length c2);have e:(hdr bs gs++[Value.slice none 0 0]).set gs.length (.slice (some ⟨x,0,none⟩) g2.length c2)=hdr (bs++[(x,c2)]) (gs++[g2]):=by
   rw [hdr_app h1.len,List.set_append_right _ _ (by rw [hdr_len h1.len]; exact Nat.le_refl _),hdr_len h1.len,Nat.sub_self];rfl
  rw [e] at h4
  simpa using h4
 ·intro d hd
  rcases List.mem_append.1 hd with hd | hd
  ·have:=h3 d hd
   simpa [ob] using this
  ·simp at hd;subst hd;simp [ob];omega
end
section
variable {w:World} {base e sz n c g:Nat} {xs:List Value}
theorem Own.cell_ (h:Own w base e sz (some ⟨g,0,none⟩) n c xs) {j:Nat} {u:Value} (hj:xs[j]?=some u):w.cell? ⟨g,j,none⟩=some u:=by
 obtain ⟨b,o,e1,_,e3⟩:=h.rd.at_ hj;injection e1 with e1;injection e1 with e1 e2;subst e1 e2;rwa [Nat.zero_add] at e3
end
theorem OwnNN.lower {w:World} {base base' c:Nat} {A:Option Addr} {gs:List (List Nat)} (h:OwnNN w base A c gs) (hb:base'≤base):OwnNN w base' A c gs:=by
 obtain ⟨bs,h1,h2,h3⟩:=h;exact ⟨bs,⟨h1.len,fun i b g hi hg=>Own.lower (h1.own i b g hi hg) hb,h1.nd⟩,Own.lower h2 hb,h3⟩

structure ButS (S:Nat→Prop) (w w':World):Prop where
 os:w'.os=w.os
 tape:w'.tape=w.tape
 output:w'.output=w.output
 size:w.heap.size≤w'.heap.size
 block:∀ b,b<w.heap.size→¬ S b→w'.heap[b]?=w.heap[b]?
section
variable {S T:Nat→Prop} {w w' w'':World}
theorem ButS.refl (S:Nat→Prop) (w:World):ButS S w w:=⟨rfl,rfl,rfl,Nat.le_refl _,fun _ _ _=>rfl⟩
theorem ButS.trans2 (h:ButS S w w') (k:ButS T w' w'') (hT:∀ b,b<w.heap.size→T b→S b):ButS S w w'' :=
 ⟨k.os.trans h.os,k.tape.trans h.tape,k.output.trans h.output,Nat.le_trans h.size k.size,fun b hb hg=>(k.block b (Nat.lt_of_lt_of_le hb h.size) fun e=>hg (hT b hb e)).trans (h.block b hb hg)⟩
theorem ButS.trans (h:ButS S w w') (k:ButS S w' w''):ButS S w w'':=h.trans2 k fun _ _ e=>e
theorem ButS.mono (h:ButS S w w') (hT:∀ b,b<w.heap.size→S b→T b):ButS T w w':=⟨h.os,h.tape,h.output,h.size,fun b hb hg=>h.block b hb fun e=>hg (hT b hb e)⟩
theorem ButS.of_ext (h:Ext w w'):ButS S w w':=⟨h.os,h.tape,h.output,h.size,fun b hb _=>h.block b hb⟩
theorem ButS.but {g:Nat} (h:ButS S w w') (hg:∀ b,b<w.heap.size→S b→b=g):But g w w':=⟨h.os,h.tape,h.output,h.size,fun b hb hn=>h.block b hb fun e=>hn (hg b hb e)⟩
theorem ButS.kept (h:ButS S w w') (hS:∀ b,b<w.heap.size→T b→¬ S b):Kept T w w':=⟨h.size,fun b hb hl=>h.block b hl (hS b hl hb)⟩
theorem ButS.ext (h:ButS S w w') (hg:∀ b,S b→w.heap.size≤b):Ext w w':=⟨h.os,h.tape,h.output,h.size,fun b hb=>h.block b hb fun e=>by have:=hg b e; omega⟩
theorem ButS.exts {a:World} (h:Ext a w) (k:ButS S w w') (hg:∀ b,S b→a.heap.size≤b):Ext a w':=⟨k.os.trans h.os,k.tape.trans h.tape,k.output.trans h.output,Nat.le_trans h.size k.size,fun b hb=>(k.block b (Nat.lt_of_lt_of_le hb h.size) fun e=>by have:=hg b e; omega).trans (h.block b hb)⟩
theorem ButS.grown {row:Option Nat} (h:ButS S w w') (hg:w'.grownBy w'' row) (hr:∀ k,row=some k→S k∨w.heap.size≤k):ButS S w w'':=⟨hg.os.trans h.os,hg.tape.trans h.tape,hg.output.trans h.output,Nat.le_trans h.size hg.size,fun b hb hx=>(hg.block b (Nat.lt_of_lt_of_le hb h.size) fun e=>by
 rcases hr b e.symm with h1 | h1
 ·exact hx h1
 ·omega).trans (h.block b hb hx)⟩
theorem ButS.set {b i:Nat} {u:Value} (h:ButS S w w') (hb:S b∨w.heap.size≤b):ButS S w (w'.setCell ⟨b,i,none⟩ u):=⟨h.os,h.tape,h.output,by simpa [World.setCell] using h.size,fun x hx hg=>(Below.heap_setCell _ _ _ _ (by
 show x≠b;rintro rfl
 rcases hb with h1 | h1
 ·exact hg h1
 ·omega)).trans (h.block x hx hg)⟩
theorem ButS.alloc (h:ButS S w w') (o:Obj):ButS S w (w'.alloc o):=h.trans (ButS.of_ext ((Ext.refl _).alloc o))
theorem ButS.drew (h:ButS S w w'):ButS S w w'.drew:=h.trans (ButS.of_ext ((Ext.refl _).drew))
theorem ButS.drewN (h:ButS S w w') (n:Nat):ButS S w (w'.drewN n):=h.trans (ButS.of_ext ((Ext.refl _).drewN n))
theorem ButS.cell (h:ButS S w w') {p:Addr} {u:Value} (hp:¬ S p.block) (hc:w.cell? p=some u):w'.cell? p=some u:=by
 have hl:p.block<w.heap.size:=by
  unfold World.cell? at hc
  rcases Nat.lt_or_ge p.block w.heap.size with h1 | h1
  ·exact h1
  ·rw [Array.getElem?_eq_none h1] at hc; cases hc
 rw [World.cell?_of_block (w:=w) (h.block _ hl hp)]; exact hc
theorem ButS.blk {b t:Nat} {cs:Array Value} (h:ButS S w w') (hb:Blk w b t cs) (hg:¬ S b):Blk w' b t cs:=hb.keep (h.kept fun x _ e=>by rw [e]; exact hg)
end
end Go.Proofs.YthmckfloppblcaaGreatDoor
