/- The law QuestionWrong: answers that are not right, or too many, and horizons that are not permitted. Conditions: the numbers read as data. -/
import Derived.Test.YtomdpipekmcojaaGreatDoorBw24
import Derived.Deep.CutBlock
import Derived.Deep.DeepCutAuto
namespace Go.Proofs.YtomdpipekmcojaaGreatDoor
open Go Go.RowKit

structure AnW (w:World) (A:Option Addr) (c:Nat) (L:List (List Val)):Prop where
 rows:Rows w (fun b=>b<w.heap.size) 1 A L
 vals:∀ r∈L,∀ x∈r,IsW x
 len:L.length≤13
 inp:inpS L≤1000
 cap:L.length≤c
theorem LZ.extF {γ γ':Gz} {w w':World} (h:LZ (fun _ _=>False) γ w γ' w'):Ext w w':=⟨h.os,h.tape,h.output,h.size,fun b hb=>h.kept b hb fun m hm=>hm.elim⟩
def WrR (w w1:World) (N:Nat) (v:Value) (wk:World):Prop:=∃ (L':List (List Val)) (A':Option Addr) (c':Nat),v=.slice A' L'.length c'∧OwnRR wk w1.heap.size (fun _=>False) 1 A' c' L'∧(∀ r∈L',r.length≤11)∧(∀ r∈L',∀ x∈r,IsW x)∧L'.length≤13∧inpS L'=N∧Ext w wk∧w1.heap.size≤wk.heap.size
def lenOf:Value→Nat
 | .slice _ n _=>n
 | _=>0
def WrU (W nu:Nat) (us:List Nat) (v:Value) (w':World):Prop:=∃ (A:Option Addr) (c:Nat),v=.slice A nu c∧OwnN w' W A c us
def WrN (W ng:Nat) (gs:List (List Nat)) (v:Value) (w':World):Prop:=∃ (A:Option Addr) (c:Nat),v=.slice A ng c∧OwnNN w' W A c gs
def WrL (v:Value) (w':World):Prop:=∃ g:Nat,v=.slice (some ⟨g,0,none⟩) 2 2∧Blk w' g 3 #[.int .i64 0,.int .i64 1]
theorem wrl_ints {w:World} {g:Nat} (h:Blk w g 3 #[.int .i64 0,.int .i64 1]):Ints w (fun _=>True) (some ⟨g,0,none⟩) [0,1]:=⟨h.rd.mono fun _ _ _=>trivial,by simp⟩
set_option maxRecDepth 100000 in
set_option maxHeartbeats 4000000 in
theorem law_Wrong (l:List (List Int)) (u:Nat) (hu:u<256) (hz:Int) (A:Option Addr) (c:Nat) (w:World) (S:Nat→Prop) (ht:Tens w) (h:II w S A l) (hac:l.length≤c):Calls Tryz.prog 5 #[.slice A l.length c,.int .u8 (u:Int),.int .i64 hz] w (RetB w true):=by
 have HT:=Hd ht;have HI:=Hd h;have hll:=h.1;obtain ⟨n,en⟩:∃ n,n=l.length:=⟨_,rfl⟩;have HN:=Hd en;rw [← en] at hll hac ⊢;clear ht h en
 go_enter Tryz.func5,Tryz.ntmps5
 go_wp2_with fail
 refine (l25_sanity w HT.o).mono ?_;rintro e1 w1 ⟨rfl,hx1⟩;have HX1:=Hd hx1;clear hx1;obtain ⟨m,em⟩:∃ m:Nat,m=min n 6:=⟨_,rfl⟩;have hm9:m≤6:=(by omega);have hmn:m≤n:=(by omega);have hmc:m≤c:=(by omega);have HM:=Hd (show (if (n:Int)<6 then (n:Int) else 6)=(m:Int) by split <;> omega);have HM2:=Hd (show min (n:Int) 6=(m:Int) by omega);clear em
 go_wp2_with fail
 rw [HM2.o,Int.toNat_natCast];have hlm:(l.take m).length=m:=(by rw [List.length_take,← HN.o]; omega);have HMD:=Hd (r25_MadeW (l.take m) A c w1 S ((HI.o.keep (HX1.o.kept S)).take m));rw [hlm] at HMD;refine HMD.o.mono ?_;rintro e2 w2 ⟨L,A2,c2,rfl,hv,hwd,h12,ho,hx2⟩;have HX2:=Hd (HX1.o.trans hx2);have hin10:inpS L≤10:=(by have:=made_inp hwd; omega);have HOW:=Hd ho;have HV:=Hd hv;have HWD:=Hd hwd;have HIN:=Hd hin10;obtain ⟨nL,enL⟩:∃ nL,nL=L.length:=⟨_,rfl⟩;have HNL:=Hd enL;rw [← enL] at h12 ⊢;clear hv hwd ho hx2 hin10 enL hlm HMD;obtain ⟨u6,eu6⟩:∃ x,x=u % 6:=⟨_,rfl⟩;have hu6:u6<6:=(by omega);have HU6:=Hd (show (u:Int) % 6=(u6:Int) by rw [eu6]; simp);have HU6b:=Hd (show Int.tmod (u:Int) 6=(u6:Int) by rw [eu6]; norm_cast);clear eu6
 go_upto_block 0 with fail
 go_cut [8] (fun v8 wx=>∃ (L':List (List Val)) (A8:Option Addr) (c8:Nat),v8=.slice A8 L'.length c8∧AnW wx A8 c8 L'∧Ext w wx)
 case first =>
  have HROWS:=Hd (show Rows w2 (fun b=>w1.heap.size≤b) 1 A2 L from HOW.o.rows (by rw [← HNL.o]; omega) (fun r hr=>by rw [HWD.o r hr]; omega));have HAN:=Hd (show AnW w2 A2 c2 L from ⟨HROWS.o.mono fun b hb _=>hb,fun r hr x hx=>(HV.o r hr x hx).isW,by rw [← HNL.o]; omega,by have:=HIN.o; omega,HOW.o.cap⟩);have HSAME:=Hd (show ∃ (L':List (List Val)) (A8:Option Addr) (c8:Nat),Value.slice A2 nL c2=.slice A8 L'.length c8∧AnW w2 A8 c8 L'∧Ext w w2 from ⟨L,A2,c2,by rw [HNL.o],HAN.o,HX2.o⟩);by_cases h0:u6=0
  ·have j0:((u:Int) % 6==0)=true:=(by rw [HU6.o,h0]; rfl);obtain ⟨N,eN⟩:∃ N,N=inpS L:=⟨_,rfl⟩;have HEN:=Hd eN;have hN10:N≤10:=(by rw [eN]; exact HIN.o);have HINP:=Hd (r25_Inputs 1 L A2 c2 w2 _ HROWS.o);rw [← eN,← HNL.o] at HINP;clear eN h0
   go_wp2_with fail
   refine HINP.o.mono ?_;rintro e3 w3 ⟨rfl,rfl⟩;have hmv:=run_mkV (N+1) (by omega);rw [show ((N+1:Nat):Int)=(N:Int)+1 by omega] at hmv;obtain ⟨hs,cut,ho1,hmon,hbase,htop,h5⟩:=HOW.o;have HXA:=Hd (show Ext w2 ((w2.alloc (.cells (zeroRow (N+1)) 47)).alloc (.cells #[.slice (some ⟨w2.heap.size,0,none⟩) (N+1) (N+1)] 42)) from ((Ext.refl w2).alloc _).alloc _);have hown:=ho1.ext HXA.o;rw [← HNL.o] at hown;have HOWN:=Hd hown;have HHS:=Hd (show hs.length=L.length by simpa using ho1.len);have HMB:=Hd (And.intro hmon (And.intro hbase htop));have HZR:=Hd ((OwnVs.zeros w2 (N+1) 1 (by decide) (by omega)).ext ((Ext.refl _).alloc (.cells #[.slice (some ⟨w2.heap.size,0,none⟩) (N+1) (N+1)] 42)));have HBN:=Hd (show Blk ((w2.alloc (.cells (zeroRow (N+1)) 47)).alloc (.cells #[.slice (some ⟨w2.heap.size,0,none⟩) (N+1) (N+1)] 42)) (w2.heap.size+1) 42 #[.slice (some ⟨w2.heap.size,0,none⟩) (N+1) (N+1)] from by
    have h1:=Blk.new (w2.alloc (.cells (zeroRow (N+1)) 47)) 42 #[.slice (some ⟨w2.heap.size,0,none⟩) (N+1) (N+1)];rwa [show (w2.alloc (.cells (zeroRow (N+1)) 47)).heap.size=w2.heap.size+1 from Array.size_push _] at h1)
   have HH5:=Hd h5;have hsz:=HX2.o.size;have hsz1:w1.heap.size≤w2.heap.size:=(by have h1:=hmon 0 L.length (Nat.zero_le _); omega);clear hown ho1 hmon hbase htop h5
   go_wp2_with (at_builtin; go_must (refine wpList_app rfl (.tmp 25) (.tmp 30) rfl tiR rfl HOWN.o rfl (Blk.rd HBN.o) rfl (by simp [Value.oneCell']) (by omega) (by decide) (by simp; omega) ?_); intro A4 c4 w4 hown4 hg4 hat4)
   go_meet
   case rel =>
    have hrr:OwnRR w4 w1.heap.size (fun _=>False) 1 A4 c4 (L++[List.replicate (N+1) Val.zero]):=by
     refine OwnRR.push (lo:=w2.heap.size) HMB.o.2.2 (by simp; omega) HMB.o.1 HMB.o.2.1 HHS.o (fun b hb=>HOW.o.blk hb) (fun b h=>h.elim) (fun i r hr => ?_) HZR.o (by rw [← HNL.o,List.length_replicate]; exact hown4) hg4 hat4;obtain ⟨B,e,g1,g2,g3⟩:=HH5.o i r hr;exact ⟨B,e,g1,g2.ext HXA.o,g3⟩
    have hwid:∀ r∈L++[List.replicate (N+1) Val.zero],r.length≤4294967296:=by
     intro r hr
     rcases List.mem_append.1 hr with hr | hr
     ·rw [HWD.o r hr]; omega
     ·rw [List.mem_singleton.1 hr,List.length_replicate]; omega
    have hLn:=HNL.o;refine ⟨L++[List.replicate (N+1) Val.zero],A4,c4,by rw [List.length_append,← HNL.o]; rfl,⟨(hrr.rows (by simp; omega) hwid).mono fun b hb _=>hb,fun r hr x hx => ?_,by simp; omega,?_,hrr.cap⟩,((HX2.o.alloc _).alloc _).grown hg4 fun b hb => ?_⟩
    ·rcases List.mem_append.1 hr with hr | hr
     ·exact (HV.o r hr x hx).isW
     ·rw [List.mem_singleton.1 hr] at hx;rw [(List.mem_replicate.1 hx).2];exact isW_zero
    ·cases hL:L with
     | nil=>simp [inpS]; omega
     | cons r L1=>have h1:=HIN.o; rw [hL] at h1; simp [inpS] at h1 ⊢; omega
    ·have:=(HOW.o.blk hb).1;have:=HX1.o.size;omega
  ·have j0:((u:Int) % 6==0)=false:=(by rw [HU6.o,beq_eq_false_iff_ne]; omega);by_cases h1:u6=1
   ·have j1:((u:Int) % 6==1)=true:=(by rw [HU6.o,h1]; rfl);obtain ⟨N,eN⟩:∃ N,N=inpS L:=⟨_,rfl⟩;have HEN:=Hd eN;have hN10:N≤10:=(by rw [eN]; exact HIN.o);have HINP:=Hd (r25_Inputs 1 L A2 c2 w2 _ HROWS.o);rw [← eN,← HNL.o] at HINP;clear eN h1
    go_wp2_with fail
    refine HINP.o.mono ?_;rintro e3 w3 ⟨rfl,rfl⟩;by_cases hN0:0<N
    ·have hNi:(0:Int)<(N:Int):=(by omega);obtain ⟨r0,L1,hL⟩:∃ r0 L1,L=r0 :: L1:=by
      cases h:L with
      | nil=>have:=HEN.o; rw [h] at this; simp [inpS] at this; omega
      | cons r0 L1=>exact ⟨r0,L1,rfl⟩
     have hr0:r0.length=N:=(by have:=HEN.o; rw [hL] at this; simpa [inpS] using this.symm);have how:=HOW.o;rw [hL] at how;obtain ⟨gA,g,e,xs,rfl,hne,hbg,hc,hoA,⟨ys,hoB⟩,hput⟩:=how.store0 (by rw [hr0]; exact hN0);have HPUT:=Hd (hput ⟨9,.empty,0,0,0,[],[]⟩ (by decide) ⟨rfl,rfl⟩);rw [hr0] at hc;have hnl:0<nL:=(by rw [HNL.o,hL]; simp);have qf:=fun i=>hoB.frozen_ i;have ql:=hoB.lt_;have qf0:=qf 0;have qf1:=qf 1;have qf2:=qf 2;have qf3:=qf 3;have qf4:=qf 4;have qf5:=qf 5;have qf6:=qf 6;have qa:=hoA.lt_;have hyl:=hoB.len;rw [hr0] at hyl;have p0:=hoB.cell_ (j:=0) (List.getElem?_eq_getElem (by omega));have p1:=hoB.cell_ (j:=1) (List.getElem?_eq_getElem (by omega));have p2:=hoB.cell_ (j:=2) (List.getElem?_eq_getElem (by omega));have p3:=hoB.cell_ (j:=3) (List.getElem?_eq_getElem (by omega));have p4:=hoB.cell_ (j:=4) (List.getElem?_eq_getElem (by omega));have p5:=hoB.cell_ (j:=5) (List.getElem?_eq_getElem (by omega));have p6:=hoB.cell_ (j:=6) (List.getElem?_eq_getElem (by omega));clear how hput qf hoA hoB
     go_wp2_with fail
     go_meet
     case rel =>
      have hLn:=HNL.o;rw [hL] at hLn;have key:∃ (L':List (List Val)) (A8:Option Addr) (c8:Nat),Value.slice (some ⟨gA,0,none⟩) nL c2=.slice A8 L'.length c8∧AnW (set7 w2 g 0 ⟨9,.empty,0,0,0,[],[]⟩ none 0 none 0) A8 c8 L'∧Ext w (set7 w2 g 0 ⟨9,.empty,0,0,0,[],[]⟩ none 0 none 0):=by
       refine ⟨r0.set 0 ⟨9,.empty,0,0,0,[],[]⟩ :: L1,some ⟨gA,0,none⟩,c2,by rw [hLn]; rfl,⟨(HPUT.o.rows (by simp at hLn ⊢; omega) (fun r hr => ?_)).mono fun b hb _=>hb,fun r hr x hx => ?_,by simp at hLn ⊢; omega,by simp [inpS,hr0]; omega,HPUT.o.cap⟩,?_⟩
       ·rcases List.mem_cons.1 hr with rfl | hr
        ·simp [hr0]; omega
        ·rw [HWD.o r (by rw [hL]; exact List.mem_cons_of_mem _ hr)]; omega
       ·rcases List.mem_cons.1 hr with rfl | hr
        ·rcases List.mem_or_eq_of_mem_set hx with hx | rfl
         ·exact (HV.o r0 (by rw [hL]; exact List.mem_cons_self) x hx).isW
         ·exact isW_nine
        ·exact (HV.o r (by rw [hL]; exact List.mem_cons_of_mem _ hr) x hx).isW
       ·have:=HX1.o.size;exact Ext.only HX2.o (set7_only _ _ _ _ _ _ _ _) (by omega)
      unfold set7 at key;exact key
    ·go_wp2_with fail
     go_meet
     case rel=>exact HSAME.o
   ·have j1:((u:Int) % 6==1)=false:=(by rw [HU6.o,beq_eq_false_iff_ne]; omega);by_cases h2:u6=2
    ·have j2:((u:Int) % 6==2)=true:=(by rw [HU6.o,h2]; rfl);obtain ⟨N,eN⟩:∃ N,N=inpS L:=⟨_,rfl⟩;have HEN:=Hd eN;have hN10:N≤10:=(by rw [eN]; exact HIN.o);clear eN;have hsz1:w1.heap.size≤w2.heap.size:=by
      obtain ⟨hs,cut,ho1,hmon,hbase,htop,h5⟩:=HOW.o;have h1:=hmon 0 L.length (Nat.zero_le _);omega
     go_wp2_with fail
     go_loopw [8] (fun v wr=>WrR w w1 N v wr) (fun v _=>13-lenOf v)
     case atStart=>exact ⟨L,A2,c2,by rw [HNL.o],HOW.o,fun r hr=>by have:=HWD.o r hr; have:=HIN.o; omega,fun r hr x hx=>(HV.o r hr x hx).isW,by have:=HNL.o; omega,HEN.o.symm,HX2.o,hsz1⟩
     case round =>
      obtain ⟨L1,A1,c1,rfl,ho,hwd,hvw,h13,hin,hx,hsz⟩:=hrel;have HO1:=Hd ho;have HWD1:=Hd hwd;have HVW1:=Hd hvw;have HIN1:=Hd hin;have HX1b:=Hd hx;obtain ⟨n1,en1⟩:∃ n1,n1=L1.length:=⟨_,rfl⟩;have HN1:=Hd en1;rw [← en1] at h13 ⊢;clear ho hwd hvw hin hx en1;by_cases hlt:n1<13
      ·have HROW1:=Hd (HO1.o.rows (by rw [← HN1.o]; omega) (fun r hr=>by have:=HWD1.o r hr; omega));have HINP:=Hd (r25_Inputs 1 L1 A1 c1 wr _ HROW1.o);rw [HIN1.o,← HN1.o] at HINP
       go_wp2_with fail
       refine HINP.o.mono ?_;rintro e3 w3 ⟨rfl,rfl⟩;have hmv:=run_mkV N (by omega);obtain ⟨hs,cut,ho1,hmon,hbase,htop,h5⟩:=HO1.o;have HXA:=Hd (show Ext wr ((wr.alloc (.cells (zeroRow N) 47)).alloc (.cells #[.slice (some ⟨wr.heap.size,0,none⟩) N N] 42)) from ((Ext.refl wr).alloc _).alloc _);have hown:=ho1.ext HXA.o;rw [← HN1.o] at hown;have HOWN:=Hd hown;have HHS:=Hd (show hs.length=L1.length by simpa using ho1.len);have HMB:=Hd (And.intro hmon (And.intro hbase htop));have HZR:=Hd ((OwnVs.zeros wr N 1 (by decide) (by omega)).ext ((Ext.refl _).alloc (.cells #[.slice (some ⟨wr.heap.size,0,none⟩) N N] 42)));have HBN:=Hd (show Blk ((wr.alloc (.cells (zeroRow N) 47)).alloc (.cells #[.slice (some ⟨wr.heap.size,0,none⟩) N N] 42)) (wr.heap.size+1) 42 #[.slice (some ⟨wr.heap.size,0,none⟩) N N] from by
        have h1:=Blk.new (wr.alloc (.cells (zeroRow N) 47)) 42 #[.slice (some ⟨wr.heap.size,0,none⟩) N N];rwa [show (wr.alloc (.cells (zeroRow N) 47)).heap.size=wr.heap.size+1 from Array.size_push _] at h1)
       have HH5:=Hd h5;clear hown ho1 hmon hbase htop h5
       go_wp2_with (at_builtin; go_must (refine wpList_app rfl (.tmp 47) (.tmp 51) rfl tiR rfl HOWN.o rfl (Blk.rd HBN.o) rfl (by simp [Value.oneCell']) (by omega) (by decide) (by simp; omega) ?_); intro A4 c4 w4 hown4 hg4 hat4)
       go_roundw
       case rel =>
        have hLn:=HN1.o;have hrr:OwnRR w4 w1.heap.size (fun _=>False) 1 A4 c4 (L1++[List.replicate N Val.zero]):=by
         refine OwnRR.push (lo:=wr.heap.size) HMB.o.2.2 (by simp; omega) HMB.o.1 HMB.o.2.1 HHS.o (fun b hb=>HO1.o.blk hb) (fun b h=>h.elim) (fun i r hr => ?_) HZR.o (by rw [← HN1.o,List.length_replicate]; exact hown4) hg4 hat4;obtain ⟨B,e,g1,g2,g3⟩:=HH5.o i r hr;exact ⟨B,e,g1,g2.ext HXA.o,g3⟩
        refine ⟨L1++[List.replicate N Val.zero],A4,c4,by rw [List.length_append,← HN1.o]; rfl,hrr,fun r hr => ?_,fun r hr x hx => ?_,by simp; omega,?_,((HX1b.o.alloc _).alloc _).grown hg4 fun b hb => ?_,?_⟩
        ·rcases List.mem_append.1 hr with hr | hr
         ·exact HWD1.o r hr
         ·rw [List.mem_singleton.1 hr,List.length_replicate]; omega
        ·rcases List.mem_append.1 hr with hr | hr
         ·exact HVW1.o r hr x hx
         ·rw [List.mem_singleton.1 hr] at hx;rw [(List.mem_replicate.1 hx).2];exact isW_zero
        ·have h1:=HIN1.o;cases hL:L1 with
         | nil=>simp [inpS]
         | cons r L2=>rw [hL] at h1; simpa [inpS] using h1
        ·have:=(HO1.o.blk hb).1;have:=HX1.o.size;omega
        ·have h1:=hg4.size;have h2:=HXA.o.size;omega
       case measure=>simp [lenOf]; omega
      ·go_wp2_with fail
       go_meet
       case rel =>
        have hLn:=HN1.o;exact ⟨L1,A1,c1,by rw [hLn],⟨(HO1.o.rows (by omega) (fun r hr=>by have:=HWD1.o r hr; omega)).mono fun b hb _=>hb,HVW1.o,by omega,by have:=HIN1.o; omega,HO1.o.cap⟩,HX1b.o⟩
    ·have j2:((u:Int) % 6==2)=false:=(by rw [HU6.o,beq_eq_false_iff_ne]; omega);by_cases h3:u6=3
     ·have j3:((u:Int) % 6==3)=true:=(by rw [HU6.o,h3]; rfl);have hsz1:w1.heap.size≤w2.heap.size:=by
       obtain ⟨hs,cut,ho1,hmon,hbase,htop,h5⟩:=HOW.o;have h1:=hmon 0 L.length (Nat.zero_le _);omega
      obtain ⟨cut,hmon,hbase,htop,hwk⟩:=HOW.o.wk (List.replicate 11 Val.zero);have HCUT:=Hd (And.intro hmon (And.intro hbase htop));have HWK:=Hd hwk;clear hmon hbase htop hwk
      go_wp2_with fail
      go_loopw [9,57] (fun _v9 i wr=>∃ k:Nat,k≤nL∧i=.int .i64 (k:Int)∧WkR w1.heap.size w2.heap.size cut L (List.replicate 11 Val.zero) A2 c2 k wr∧Ext w wr) (fun _ i _=>nL-(intOf i).toNat)
      case atStart=>exact ⟨0,Nat.zero_le _,rfl,HWK.o,HX2.o⟩
      case round =>
       obtain ⟨k,hk,rfl,hwk,hx⟩:=hrel;have HWKR:=Hd hwk;have HXR:=Hd hx;clear hwk hx;by_cases hlt:k<nL
       ·obtain ⟨gA,rfl⟩:∃ gA,A2=some ⟨gA,0,none⟩:=by
         obtain ⟨hs,ho,_⟩:=HWKR.o;exact ho.some_ (by rw [← HNL.o]; omega)
        have hkl:k<L.length:=(by rw [← HNL.o]; exact hlt);have hr10:L[k].length≤10:=(by have:=HWD.o L[k] (List.getElem_mem hkl); omega);obtain ⟨B,e,ys,hc,hga,hgl,hfr,hown,hbk,hbk2,hst⟩:=HWKR.o.step HCUT.o.1 HCUT.o.2.1 HCUT.o.2.2 hkl (zeros_vl 11) (tl:=11) rfl (by omega);obtain ⟨rk,erk⟩:∃ rk,rk=L[k].length:=⟨_,rfl⟩;rw [← erk] at hc hown hst hr10;have HST:=Hd hst;have HOWN:=Hd hown;have hfk:=hfr k;clear hst hown hfr erk
        go_wp2_with (at_builtin; go_must (refine wpList_appZ rfl (.tmp 65) (.const (.int .i64 11)) rfl rfl HOWN.o (m:=11) rfl (by omega) (by omega) (by omega) ?_); intro B4 e4 w4 hown4 hg4 hat4; obtain ⟨⟨m1,m2,m3⟩,hst4⟩:=HST.o _ _ _ _ (Ext.refl _) hown4 hg4 hat4; have m4:=m3 k; have HST4:=Hd hst4; have HG4:=Hd hg4; clear m3 hst4 hg4 hown4 hat4)
        go_roundw
        case rel =>
         refine ⟨k+1,by omega,by go_num,HST4.o,?_⟩;have h1:Ext w w4:=HXR.o.grown HG4.o fun b hb=>by
          have:=(HOWN.o.blk hb).1;have:=HX1.o.size;omega
         exact h1.set2 (by have:=HX1.o.size; omega) _
        case measure=>simp [intOf]; omega
       ·have hkn:k=nL:=(by omega);subst hkn
        go_wp2_with fail
        go_meet
        case rel =>
         have hLn:=HNL.o;have hwk:=HWKR.o;rw [hLn] at hwk;obtain ⟨hrows,hcap⟩:=hwk.fin (by omega);refine ⟨L.map (· ++ List.replicate 11 Val.zero),A2,c2,by rw [List.length_map,← hLn],⟨hrows.mono fun b hb _=>hb,fun r hr x hx => ?_,by rw [List.length_map]; omega,?_,by rw [List.length_map]; exact hcap⟩,HXR.o⟩
         ·obtain ⟨r0,hr0,rfl⟩:=List.mem_map.1 hr
          rcases List.mem_append.1 hx with hx | hx
          ·exact (HV.o r0 hr0 x hx).isW
          ·rw [(List.mem_replicate.1 hx).2];exact isW_zero
         ·have h1:=HIN.o;cases hL:L with
          | nil=>simp [inpS]
          | cons r L2=>rw [hL] at h1; simp [inpS] at h1 ⊢; omega
     ·have j3:((u:Int) % 6==3)=false:=by rw [HU6.o,beq_eq_false_iff_ne]; omega
      go_wp2_with fail
      go_meet
      case rel=>exact HSAME.o
 case rest =>
  obtain ⟨L',A8,c8,rfl,hW,hx⟩:=hcut;have HW:=Hd hW;have HXC:=Hd hx;have hlen:=hW.len;have HNT:=Hd (isW_noT hW.vals);have HTR:=Hd (show rightA L'=true→Tri L' from isW_tri hW.vals);obtain ⟨n',en'⟩:∃ x,x=L'.length:=⟨_,rfl⟩;have HN':=Hd en';rw [← en'] at hlen ⊢;have HTW:=Hd (show ∀ w':World,Ext wc w'→Tens w' from fun w' hx2=>HT.o.kept ((hx.trans hx2).kept fun _=>True) trivial);have HMK:=Hd (show ∀ (w':World),Ext wc w'→Calls Tryz.prog 14 #[.slice A8 n' c8,.int .i64 hz] w' (RetPn w' 1 (makeF L' hz) (errM L' hz)) from fun w' hx2=>by
   have h1:=question_Make 1 L' A8 c8 hz w' _ (HW.o.rows.keep (hx2.kept _)) (fun b hb=>Nat.lt_of_lt_of_le hb hx2.size) HNT.o (by rw [← HN'.out]; omega) HW.o.inp HW.o.cap (HTW.o w' hx2);rw [← HN'.out] at h1;exact h1)
  have HRM:=Hd (show ∀ (w':World),Ext wc w'→Calls Tryz.prog 15 #[.slice A8 n' c8,.int .i64 hz] w' (RetPn w' 1 (makeF L' hz) (errM L' hz)) from fun w' hx2=>by
   have h1:=r25_Make 1 L' A8 c8 hz w' _ (HW.o.rows.keep (hx2.kept _)) HNT.o HTR.o (by rw [← HN'.out]; omega);rw [← HN'.out] at h1;exact h1)
  have HCK:=Hd (show ∀ (w':World) (A':Option Addr) (c':Nat),Ext wc w'→AS w' (fun _=>True) 1 A' (makeF L' hz).1→Calls Tryz.prog 17 #[.slice A8 n' c8,.int .i64 hz,.agg #[.slice A' (makeF L' hz).1.length c',.int .i64 ((makeF L' hz).2.1:Int),.int .i64 ((makeF L' hz).2.2:Int)]] w' (RetB w' (decide (errM L' hz=0))) from fun w' A' c' hx2 hp=>by
   have h1:=question_Check 1 L' A8 c8 hz A' c' w' (fun b=>b<w'.heap.size) ((HW.o.rows.keep (hx2.kept _)).mono fun b hb _=>hb) (fun _ hb=>hb) HNT.o (by rw [← HN'.out]; omega) HW.o.inp HW.o.cap (HTW.o w' hx2) (hp.mono fun b hb _=>hb);rw [← HN'.out] at h1;exact h1)
  have HCE:=Hd (show ∀ (w':World) (A':Option Addr) (c':Nat),Ext wc w'→AS w' (fun _=>True) 1 A' (makeF L' hz).1→Calls Tryz.prog 25 #[.slice A8 n' c8,.int .i64 hz,.agg #[.slice A' (makeF L' hz).1.length c',.int .i64 ((makeF L' hz).2.1:Int),.int .i64 ((makeF L' hz).2.2:Int)]] w' (RetB w' (decide (errM L' hz=0))) from fun w' A' c' hx2 hp=>by
   have h1:=r25_Check 1 L' A8 c8 hz A' c' w' _ _ (HW.o.rows.keep (hx2.kept _)) HNT.o HTR.o (by rw [← HN'.out]; omega) hp;rw [← HN'.out] at h1;exact h1)
  have hYl:=makeF_len L' hz;obtain ⟨Y,eY⟩:∃ Y,Y=(makeF L' hz).1:=⟨_,rfl⟩;obtain ⟨dp,edp⟩:∃ x,x=(makeF L' hz).2.1:=⟨_,rfl⟩;obtain ⟨lo,elo⟩:∃ x,x=(makeF L' hz).2.2:=⟨_,rfl⟩;obtain ⟨er,eer⟩:∃ x,x=errM L' hz:=⟨_,rfl⟩;have HRP:=Hd (show ∀ w' e w'',RetPn w' 1 (makeF L' hz) (errM L' hz) e w''→∃ (A:Option Addr) (c:Nat),e=.returned (.tuple #[.agg #[.slice A Y.length c,.int .i64 (dp:Int),.int .i64 (lo:Int)],.int .i64 er])∧OwnAs w'' w'.heap.size (fun b=>w'.heap.size≤b) 1 A c Y∧Ext w' w'' by
   intro w' e w'' hp;rw [eY,edp,elo,eer];exact hp)
  rw [← eY] at hYl;rw [← eY,← elo,← edp,← eer] at HCK HCE;obtain ⟨nY,enY⟩:∃ x,x=Y.length:=⟨_,rfl⟩;have HNY:=Hd enY;rw [← enY,← en'] at hYl;rw [← enY] at HCK HCE HRP;clear hW hx eY edp elo eer enY en'
  go_wp2_with fail
  refine (HMK.o wc (Ext.refl _)).mono ?_;intro e3 w4 hr3;obtain ⟨A3,c3,rfl,ho3,hx4⟩:=HRP.o _ _ _ hr3;have HO3:=Hd ho3;have HX4:=Hd hx4;obtain ⟨b10,hb10⟩:∃ b,b=w4.heap.size:=⟨_,rfl⟩;obtain ⟨w5,hw5⟩:∃ x,x=w4.alloc (.cells #[.slice A3 nY c3,.int .i64 (dp:Int),.int .i64 (lo:Int)] 29):=⟨_,rfl⟩;have HB10:=Hd (show Blk w5 b10 29 #[.slice A3 nY c3,.int .i64 (dp:Int),.int .i64 (lo:Int)] by rw [hw5,hb10]; exact Blk.new _ _ _);have HX45:=Hd (show Ext w4 w5 by rw [hw5]; exact (Ext.refl _).alloc _);have HX5:=Hd (HX4.o.trans HX45.o);clear hr3 ho3 hx4
  go_upto_region 19 with fail
  rw [← hw5,← hb10];clear hw5 hb10
  go_wp2_with fail
  refine (HRM.o w5 HX5.o).mono ?_;intro e6 w6 hr6;obtain ⟨A6,c6,rfl,ho6,hx6⟩:=HRP.o _ _ _ hr6;have HO6:=Hd ho6;have HX6:=Hd hx6;obtain ⟨b12,hb12⟩:∃ b,b=w6.heap.size:=⟨_,rfl⟩;obtain ⟨w7,hw7⟩:∃ x,x=w6.alloc (.cells #[.slice A6 nY c6,.int .i64 (dp:Int),.int .i64 (lo:Int)] 29):=⟨_,rfl⟩;have HB12:=Hd (show Blk w7 b12 29 #[.slice A6 nY c6,.int .i64 (dp:Int),.int .i64 (lo:Int)] by rw [hw7,hb12]; exact Blk.new _ _ _);have HX67:=Hd (show Ext w6 w7 by rw [hw7]; exact (Ext.refl _).alloc _);have HB107:=Hd (HB10.o.keep ((HX6.o.trans HX67.o).kept _));have HX7:=Hd (HX5.o.trans (HX6.o.trans HX67.o));have HY3:=Hd (((HO3.o.ext HX45.o).ext (HX6.o.trans HX67.o)).as_ (T:=fun _=>True) (by rw [← HNY.o]; omega) (fun _ _=>trivial) fun _ _=>trivial);have HY6:=Hd ((HO6.o.ext HX67.o).as_ (T:=fun _=>True) (by rw [← HNY.o]; omega) (fun _ _=>trivial) fun _ _=>trivial);have HSM:=Hd (r25_Same 1 Y Y A3 A6 c3 c6 (dp:Int) (lo:Int) (dp:Int) (lo:Int) w7 _ _ HY3.o HY6.o);rw [sameP_eq,decide_eq_true rfl,← HNY.o] at HSM;clear hr6 ho6 hx6
  go_upto_region 20 with fail
  rw [← hw7,← hb12];clear hw7 hb12;have q0:=HB107.o.cell (i:=0) rfl;have q1:=HB107.o.cell (i:=1) rfl;have q2:=HB107.o.cell (i:=2) rfl;have s0:=HB12.o.cell (i:=0) rfl;have s1:=HB12.o.cell (i:=1) rfl;have s2:=HB12.o.cell (i:=2) rfl;have j0:(er != er)=false:=(by simp)
  go_wp2_with fail
  refine HSM.o.mono ?_;rintro e8 ws ⟨rfl,hx8⟩;have HX8:=Hd (HX7.o.trans hx8);have Q0:=Hd (hx8.cell q0);have Q1:=Hd (hx8.cell q1);have Q2:=Hd (hx8.cell q2);have HY8:=Hd (HY3.o.keep (hx8.kept _));clear hx8 s0 s1 s2 q0 q1 q2;obtain ⟨bd,ebd⟩:∃ b,b=decide (er=0):=⟨_,rfl⟩;rw [← ebd] at HCK HCE;have HCKS:=Hd (show ∀ w':World,Ext ws w'→_ from fun w' hx=>HCK.o w' A3 c3 (HX8.o.trans hx) (HY8.o.keep (hx.kept _)));have HCES:=Hd (show ∀ w':World,Ext ws w'→_ from fun w' hx=>HCE.o w' A3 c3 (HX8.o.trans hx) (HY8.o.keep (hx.kept _)));obtain ⟨us,eus⟩:∃ x,x=usefulS L':=⟨_,rfl⟩;obtain ⟨gs,egs⟩:∃ x,x=groupsS L' [0,1] 0:=⟨_,rfl⟩;have HUS:=Hd (show ∀ w':World,Ext ws w'→Calls Tryz.prog 23 #[.slice A8 n' c8] w' (RetN w' us) from fun w' hx=>by
   have h1:=question_Useful 1 L' A8 c8 w' _ (HW.o.rows.keep ((HX8.o.trans hx).kept _)) HNT.o HW.o.inp;rw [← HN'.out,← eus] at h1;exact h1)
  have HUR:=Hd (show ∀ w':World,Ext ws w'→Calls Tryz.prog 24 #[.slice A8 n' c8] w' (RetN w' us) from fun w' hx=>by
   have h1:=r25_Useful 1 L' A8 c8 w' _ (HW.o.rows.keep ((HX8.o.trans hx).kept _)) HNT.o (by rw [← HN'.out]; omega) HW.o.inp;rw [← HN'.out,useful_eqR HTR.o,← eus] at h1;exact h1)
  have HGS:=Hd (show ∀ (w':World) (B:Option Addr),Ext ws w'→Ints w' (fun _=>True) B [0,1]→Calls Tryz.prog 20 #[.slice A8 n' c8,.slice B 2 2,.int .i64 0] w' (RetNN w' gs) from fun w' B hx hi=>by
   have h1:=question_Groups 1 L' A8 c8 [0,1] B 2 0 w' _ _ (HW.o.rows.keep ((HX8.o.trans hx).kept _)) HNT.o (by rw [← HN'.out]; omega) (HTW.o w' (HX8.o.trans hx)) hi (by decide);rw [← HN'.out,← egs] at h1;exact h1)
  have HGR:=Hd (show ∀ (w':World) (B:Option Addr),Ext ws w'→Ints w' (fun _=>True) B [0,1]→Calls Tryz.prog 21 #[.slice A8 n' c8,.slice B 2 2,.int .i64 0] w' (RetNN w' gs) from fun w' B hx hi=>by
   have h1:=r25_Groups 1 L' A8 c8 [0,1] B 2 0 w' _ _ (HW.o.rows.keep ((HX8.o.trans hx).kept _)) HNT.o (by rw [← HN'.out]; omega) hi (by decide);rw [← HN'.out,groups_eqR HTR.o,← egs] at h1;exact h1)
  obtain ⟨nu,enu⟩:∃ x,x=us.length:=⟨_,rfl⟩;obtain ⟨ng,eng⟩:∃ x,x=gs.length:=⟨_,rfl⟩;have HNU:=Hd enu;have HNG:=Hd eng;have hul:us.length≤1000:=by
   rw [eus];unfold usefulS;split
   ·exact Nat.le_trans (List.length_filter_le _ _) (by rw [List.length_range]; exact HW.o.inp)
   ·simp
  have HUL:=Hd hul;have HGL:=Hd (show gs.length≤1000∧∀ g∈gs,g.length≤1000 by
   rw [egs,← groups_eqR HTR.o];have hs:=groupsR_small L' [0,1] 0;have h3:=HN'.out;exact ⟨by omega,fun g hg=>by have:=hs.2 g hg; omega⟩)
  have HBD:=Hd (show (bd==bd)=true by simp);clear ebd eus egs enu eng hul
  go_upto_region 22 with fail
  refine wp_region_chain (by kernel_rfl) (fun i=>[i]) (by kernel_rfl) (LZ (fun _ _=>False)) (LZ.refl _) (LZ.trans _) (LK []) gz0 (LK.zero _) ?_;apply Chain.pure (LZ.refl _) (by rfl)
  ·intro vals γ w' ρ hR hN hp hρ hc hf hg;refine ⟨rfl,?_⟩;have e7:=hρ 7;(conv at e7=>rhs; whnf);clear hR hN hp hρ;go_light;go_simp;exact ⟨rfl,rfl⟩
  ·rfl
  apply Chain.pure (LZ.refl _) (by rfl)
  ·intro vals γ w' ρ hR hN hp hρ hc hf hg;refine ⟨rfl,?_⟩;have e90:ρ (.tmp 90)=_:=(hρ 90).trans (hp 0 (by decide));clear hR hN hp hρ;go_light;go_simp;exact ⟨rfl,rfl⟩
  ·rfl
  apply Chain.pure (LZ.refl _) (by rfl)
  ·intro vals γ w' ρ hR hN hp hρ hc hf hg;refine ⟨by show (boolOf (vals 1)==some true)=true; rw [show vals 1=.bool true from hp 1 (by decide)]; rfl,?_⟩;have e8:=hρ 8;(conv at e8=>rhs; whnf);clear hR hN hp hρ;go_light;go_simp;exact ⟨rfl,rfl⟩
  ·rfl
  apply Chain.pure (LZ.refl _) (by rfl)
  ·intro vals γ w' ρ hR hN hp hρ hc hf hg;refine ⟨by show (boolOf (vals 1)==some true)=true; rw [show vals 1=.bool true from hp 1 (by decide)]; rfl,?_⟩;have e2:=hρ 2;(conv at e2=>rhs; whnf);clear hR hN hp hρ;go_light;go_simp;exact ⟨rfl,rfl⟩
  ·rfl
  apply Chain.pure (LZ.refl _) (by rfl)
  ·intro vals γ w' ρ hR hN hp hρ hc hf hg;refine ⟨by show (boolOf (vals 1)==some true)=true; rw [show vals 1=.bool true from hp 1 (by decide)]; rfl,?_⟩;have e10:=hρ 10;(conv at e10=>rhs; whnf);have hxx:=hR.ext0 (fun _ _ _ h=>h.elim);have m0:=hxx.cell Q0.o;have m1:=hxx.cell Q1.o;have m2:=hxx.cell Q2.o;clear hxx hR hN hp hρ;go_light;go_simp;exact ⟨rfl,rfl⟩
  ·rfl
  refine Chain.step (FP fun v γ w'=>v=.bool bd) (by rfl) (FP.stab ?_) ?_ ?_
  ·intro v γ w1 γ' w2 r h;exact h
  ·intro vals γ w' ρ hR hN hp hρ hc hf hg;refine ⟨by show (boolOf (vals 1)==some true)=true; rw [show vals 1=.bool true from hp 1 (by decide)]; rfl,?_⟩;have e92:ρ (.tmp 92)=_:=(hρ 92).trans (hp 2 (by decide));have e93:ρ (.tmp 93)=_:=(hρ 93).trans (hp 3 (by decide));have e94:ρ (.tmp 94)=_:=(hρ 94).trans (hp 4 (by decide));have HR:=Hd hR;have hxx:=hR.ext0 (fun _ _ _ h=>h.elim);have HXQ:=Hd hxx;clear hxx hR hN hp hρ;go_light;go_simp;refine (HCKS.o w' HXQ.o).mono ?_;rintro e1 w3 ⟨he,hx⟩;exact ⟨_,he,γ,LZ.of_ext _ γ hx,fun _ _ _ h=>h,rfl⟩
  apply Chain.pure (LZ.refl _) (by rfl)
  ·intro vals γ w' ρ hR hN hp hρ hc hf hg;refine ⟨by show (boolOf (vals 1)==some true)=true; rw [show vals 1=.bool true from hp 1 (by decide)]; rfl,?_⟩;have e8:=hρ 8;(conv at e8=>rhs; whnf);clear hR hN hp hρ;go_light;go_simp;exact ⟨rfl,rfl⟩
  ·rfl
  apply Chain.pure (LZ.refl _) (by rfl)
  ·intro vals γ w' ρ hR hN hp hρ hc hf hg;refine ⟨by show (boolOf (vals 1)==some true)=true; rw [show vals 1=.bool true from hp 1 (by decide)]; rfl,?_⟩;have e2:=hρ 2;(conv at e2=>rhs; whnf);clear hR hN hp hρ;go_light;go_simp;exact ⟨rfl,rfl⟩
  ·rfl
  apply Chain.pure (LZ.refl _) (by rfl)
  ·intro vals γ w' ρ hR hN hp hρ hc hf hg;refine ⟨by show (boolOf (vals 1)==some true)=true; rw [show vals 1=.bool true from hp 1 (by decide)]; rfl,?_⟩;have e10:=hρ 10;(conv at e10=>rhs; whnf);have hxx:=hR.ext0 (fun _ _ _ h=>h.elim);have m0:=hxx.cell Q0.o;have m1:=hxx.cell Q1.o;have m2:=hxx.cell Q2.o;clear hxx hR hN hp hρ;go_light;go_simp;exact ⟨rfl,rfl⟩
  ·rfl
  refine Chain.step (FP fun v γ w'=>v=.bool bd) (by rfl) (FP.stab ?_) ?_ ?_
  ·intro v γ w1 γ' w2 r h;exact h
  ·intro vals γ w' ρ hR hN hp hρ hc hf hg;refine ⟨by show (boolOf (vals 1)==some true)=true; rw [show vals 1=.bool true from hp 1 (by decide)]; rfl,?_⟩;have e96:ρ (.tmp 96)=_:=(hρ 96).trans (hp 6 (by decide));have e97:ρ (.tmp 97)=_:=(hρ 97).trans (hp 7 (by decide));have e98:ρ (.tmp 98)=_:=(hρ 98).trans (hp 8 (by decide));have HR:=Hd hR;have hxx:=hR.ext0 (fun _ _ _ h=>h.elim);have HXQ:=Hd hxx;clear hxx hR hN hp hρ;go_light;go_simp;refine (HCES.o w' HXQ.o).mono ?_;rintro e1 w3 ⟨he,hx⟩;exact ⟨_,he,γ,LZ.of_ext _ γ hx,fun _ _ _ h=>h,rfl⟩
  apply Chain.pure (LZ.refl _) (by rfl)
  ·intro vals γ w' ρ hR hN hp hρ hc hf hg;refine ⟨by show (boolOf (vals 1)==some true)=true; rw [show vals 1=.bool true from hp 1 (by decide)]; rfl,?_⟩;have e95:ρ (.tmp 95)=_:=(hρ 95).trans (hp 5 (by decide));have e99:ρ (.tmp 99)=_:=(hρ 99).trans (hp 9 (by decide));have zb:=HBD.o;clear hR hN hp hρ;go_light;go_simp;exact ⟨rfl,rfl⟩
  ·rfl
  apply Chain.pure (LZ.refl _) (by rfl)
  ·intro vals γ w' ρ hR hN hp hρ hc hf hg;refine ⟨rfl,?_⟩;have e91:ρ (.tmp 91)=_:=(hρ 91).trans (hp 1 (by decide));have e100:ρ (.tmp 100)=_:=(hρ 100).trans (hp 10 (by decide));clear hR hN hp hρ;go_light;go_simp;exact ⟨rfl,rfl⟩
  ·rfl
  apply Chain.pure (LZ.refl _) (by rfl)
  ·intro vals γ w' ρ hR hN hp hρ hc hf hg;refine ⟨rfl,?_⟩;have e101:ρ (.tmp 101)=_:=(hρ 101).trans (hp 11 (by decide));clear hR hN hp hρ;go_light;go_simp;exact ⟨rfl,rfl⟩
  ·rfl
  apply Chain.pure (LZ.refl _) (by rfl)
  ·intro vals γ w' ρ hR hN hp hρ hc hf hg;refine ⟨by show (boolOf (vals 12)==some true)=true; rw [show vals 12=.bool true from hp 12 (by decide)]; rfl,?_⟩;have e8:=hρ 8;(conv at e8=>rhs; whnf);clear hR hN hp hρ;go_light;go_simp;exact ⟨rfl,rfl⟩
  ·rfl
  refine Chain.step (FP fun v γ w'=>WrU ws.heap.size nu us v w') (by rfl) (FP.stab ?_) ?_ ?_
  ·rintro v γ w1 γ' w2 rr ⟨A9,c9,h1,h2⟩;exact ⟨A9,c9,h1,Own.ext h2 rr.extF⟩
  ·intro vals γ w' ρ hR hN hp hρ hc hf hg;refine ⟨by show (boolOf (vals 12)==some true)=true; rw [show vals 12=.bool true from hp 12 (by decide)]; rfl,?_⟩;have e103:ρ (.tmp 103)=_:=(hρ 103).trans (hp 13 (by decide));have HR:=Hd hR;have hxx:=hR.ext0 (fun _ _ _ h=>h.elim);have HXQ:=Hd hxx;clear hxx hR hN hp hρ;go_light;go_simp;refine (HUS.o w' HXQ.o).mono ?_;rintro e1 w3 ⟨A9,c9,he,ho,hx⟩;exact ⟨_,he,γ,LZ.of_ext _ γ hx,fun _ _ _ h=>h,A9,c9,by rw [HNU.o]; rfl,Own.lower ho HR.o.size⟩
  apply Chain.pure (LZ.refl _) (by rfl)
  ·intro vals γ w' ρ hR hN hp hρ hc hf hg;refine ⟨by show (boolOf (vals 12)==some true)=true; rw [show vals 12=.bool true from hp 12 (by decide)]; rfl,?_⟩;have e8:=hρ 8;(conv at e8=>rhs; whnf);clear hR hN hp hρ;go_light;go_simp;exact ⟨rfl,rfl⟩
  ·rfl
  refine Chain.step (FP fun v γ w'=>WrU ws.heap.size nu us v w') (by rfl) (FP.stab ?_) ?_ ?_
  ·rintro v γ w1 γ' w2 rr ⟨A9,c9,h1,h2⟩;exact ⟨A9,c9,h1,Own.ext h2 rr.extF⟩
  ·intro vals γ w' ρ hR hN hp hρ hc hf hg;refine ⟨by show (boolOf (vals 12)==some true)=true; rw [show vals 12=.bool true from hp 12 (by decide)]; rfl,?_⟩;have e105:ρ (.tmp 105)=_:=(hρ 105).trans (hp 15 (by decide));have HR:=Hd hR;have hxx:=hR.ext0 (fun _ _ _ h=>h.elim);have HXQ:=Hd hxx;clear hxx hR hN hp hρ;go_light;go_simp;refine (HUR.o w' HXQ.o).mono ?_;rintro e1 w3 ⟨A9,c9,he,ho,hx⟩;exact ⟨_,he,γ,LZ.of_ext _ γ hx,fun _ _ _ h=>h,A9,c9,by rw [HNU.o]; rfl,Own.lower ho HR.o.size⟩
  refine Chain.step (FP fun v γ w'=>v=.bool true) (by rfl) (FP.stab ?_) ?_ ?_
  ·intro v γ w1 γ' w2 r h;exact h
  ·intro vals γ w' ρ hR hN hp hρ hc hf hg;refine ⟨by show (boolOf (vals 12)==some true)=true; rw [show vals 12=.bool true from hp 12 (by decide)]; rfl,?_⟩;obtain ⟨Au,cu,hvu,hou⟩:=hp 14 (by decide);have e104:=(hρ 104).trans hvu;obtain ⟨Aw,cw,hvw,how⟩:=hp 16 (by decide);have e106:=(hρ 106).trans hvw;have HR:=Hd hR;have hxx:=hR.ext0 (fun _ _ _ h=>h.elim);have HXQ:=Hd hxx;clear hxx;have hii:=r13_Ints (nums us) (nums us) Au Aw cu cw w' (fun _=>True) (fun _=>True) ⟨(Own.rd hou).mono fun _ _ _=>trivial,by simp [nums]; have:=HUL.o; omega⟩ ⟨(Own.rd how).mono fun _ _ _=>trivial,by simp [nums]; have:=HUL.o; omega⟩;rw [decide_eq_true rfl,show (nums us).length=nu by simp [nums,HNU.o]] at hii;have HII:=Hd hii;clear hii hou how hvu hvw hR hN hp hρ;go_light;go_simp;refine (HII.o).mono ?_;rintro e1 w3 ⟨he,hx⟩;exact ⟨_,he,γ,LZ.of_ext _ γ hx,fun _ _ _ h=>h,rfl⟩
  apply Chain.pure (LZ.refl _) (by rfl)
  ·intro vals γ w' ρ hR hN hp hρ hc hf hg;refine ⟨rfl,?_⟩;have e102:ρ (.tmp 102)=_:=(hρ 102).trans (hp 12 (by decide));have e107:ρ (.tmp 107)=_:=(hρ 107).trans (hp 17 (by decide));clear hR hN hp hρ;go_light;go_simp;exact ⟨rfl,rfl⟩
  ·rfl
  apply Chain.pure (LZ.refl _) (by rfl)
  ·intro vals γ w' ρ hR hN hp hρ hc hf hg;refine ⟨rfl,?_⟩;have e108:ρ (.tmp 108)=_:=(hρ 108).trans (hp 18 (by decide));clear hR hN hp hρ;go_light;go_simp;exact ⟨rfl,rfl⟩
  ·rfl
  apply Chain.pure (LZ.refl _) (by rfl)
  ·intro vals γ w' ρ hR hN hp hρ hc hf hg;refine ⟨by show (boolOf (vals 19)==some true)=true; rw [show vals 19=.bool true from hp 19 (by decide)]; rfl,?_⟩;have e8:=hρ 8;(conv at e8=>rhs; whnf);clear hR hN hp hρ;go_light;go_simp;exact ⟨rfl,rfl⟩
  ·rfl
  refine Chain.step (FP fun v γ w'=>WrL v w') (by rfl) (FP.stab ?_) ?_ ?_
  ·rintro v γ w1 γ' w2 rr ⟨g,h1,h2⟩;exact ⟨g,h1,h2.keep (rr.extF.kept _)⟩
  ·intro vals γ w' ρ hR hN hp hρ hc hf hg;refine ⟨by show (boolOf (vals 19)==some true)=true; rw [show vals 19=.bool true from hp 19 (by decide)]; rfl,?_⟩;have HR:=Hd hR;clear hR hN hp hρ;go_light;go_simp;exact ⟨γ,LZ.of_ext _ γ ((Ext.refl _).alloc _),fun _ _ _ h=>h,_,rfl,Blk.new _ _ _⟩
  refine Chain.step (FP fun v γ w'=>WrN ws.heap.size ng gs v w') (by rfl) (FP.stab ?_) ?_ ?_
  ·rintro v γ w1 γ' w2 rr ⟨A9,c9,h1,h2⟩;exact ⟨A9,c9,h1,h2.ext rr.extF⟩
  ·intro vals γ w' ρ hR hN hp hρ hc hf hg;refine ⟨by show (boolOf (vals 19)==some true)=true; rw [show vals 19=.bool true from hp 19 (by decide)]; rfl,?_⟩;have e110:ρ (.tmp 110)=_:=(hρ 110).trans (hp 20 (by decide));obtain ⟨g,hvl,hbl⟩:=hp 21 (by decide);have e111:=(hρ 111).trans hvl;have HR:=Hd hR;have hxx:=hR.ext0 (fun _ _ _ h=>h.elim);have HXQ:=Hd hxx;clear hxx;have HLI:=Hd (wrl_ints hbl);clear hbl hvl hR hN hp hρ;go_light;go_simp;refine (HGS.o w' (some ⟨g,0,none⟩) HXQ.o HLI.o).mono ?_;rintro e1 w3 ⟨A9,c9,he,ho,hx⟩;exact ⟨_,he,γ,LZ.of_ext _ γ hx,fun _ _ _ h=>h,A9,c9,by rw [HNG.o]; rfl,ho.lower HR.o.size⟩
  apply Chain.pure (LZ.refl _) (by rfl)
  ·intro vals γ w' ρ hR hN hp hρ hc hf hg;refine ⟨by show (boolOf (vals 19)==some true)=true; rw [show vals 19=.bool true from hp 19 (by decide)]; rfl,?_⟩;have e8:=hρ 8;(conv at e8=>rhs; whnf);clear hR hN hp hρ;go_light;go_simp;exact ⟨rfl,rfl⟩
  ·rfl
  refine Chain.step (FP fun v γ w'=>WrL v w') (by rfl) (FP.stab ?_) ?_ ?_
  ·rintro v γ w1 γ' w2 rr ⟨g,h1,h2⟩;exact ⟨g,h1,h2.keep (rr.extF.kept _)⟩
  ·intro vals γ w' ρ hR hN hp hρ hc hf hg;refine ⟨by show (boolOf (vals 19)==some true)=true; rw [show vals 19=.bool true from hp 19 (by decide)]; rfl,?_⟩;have HR:=Hd hR;clear hR hN hp hρ;go_light;go_simp;exact ⟨γ,LZ.of_ext _ γ ((Ext.refl _).alloc _),fun _ _ _ h=>h,_,rfl,Blk.new _ _ _⟩
  refine Chain.step (FP fun v γ w'=>WrN ws.heap.size ng gs v w') (by rfl) (FP.stab ?_) ?_ ?_
  ·rintro v γ w1 γ' w2 rr ⟨A9,c9,h1,h2⟩;exact ⟨A9,c9,h1,h2.ext rr.extF⟩
  ·intro vals γ w' ρ hR hN hp hρ hc hf hg;refine ⟨by show (boolOf (vals 19)==some true)=true; rw [show vals 19=.bool true from hp 19 (by decide)]; rfl,?_⟩;have e113:ρ (.tmp 113)=_:=(hρ 113).trans (hp 23 (by decide));obtain ⟨g,hvl,hbl⟩:=hp 24 (by decide);have e114:=(hρ 114).trans hvl;have HR:=Hd hR;have hxx:=hR.ext0 (fun _ _ _ h=>h.elim);have HXQ:=Hd hxx;clear hxx;have HLI:=Hd (wrl_ints hbl);clear hbl hvl hR hN hp hρ;go_light;go_simp;refine (HGR.o w' (some ⟨g,0,none⟩) HXQ.o HLI.o).mono ?_;rintro e1 w3 ⟨A9,c9,he,ho,hx⟩;exact ⟨_,he,γ,LZ.of_ext _ γ hx,fun _ _ _ h=>h,A9,c9,by rw [HNG.o]; rfl,ho.lower HR.o.size⟩
  refine Chain.step (FP fun v γ w'=>v=.bool true) (by rfl) (FP.stab ?_) ?_ ?_
  ·intro v γ w1 γ' w2 r h;exact h
  ·intro vals γ w' ρ hR hN hp hρ hc hf hg;refine ⟨by show (boolOf (vals 19)==some true)=true; rw [show vals 19=.bool true from hp 19 (by decide)]; rfl,?_⟩;obtain ⟨Ag,cg,hvg,hog⟩:=hp 22 (by decide);have e112:=(hρ 112).trans hvg;obtain ⟨Ah,ch,hvh,hoh⟩:=hp 25 (by decide);have e115:=(hρ 115).trans hvh;have HR:=Hd hR;have hxx:=hR.ext0 (fun _ _ _ h=>h.elim);have HXQ:=Hd hxx;clear hxx;have hll2:=l25_lists gs gs Ag Ah cg ch w' _ _ (hog.nn (by have:=HGL.o.1; omega) (fun g hg=>by have:=HGL.o.2 g hg; omega)) (hoh.nn (by have:=HGL.o.1; omega) (fun g hg=>by have:=HGL.o.2 g hg; omega));rw [decide_eq_true rfl,← HNG.o] at hll2;have HLL:=Hd hll2;clear hll2 hog hoh hvg hvh hR hN hp hρ;go_light;go_simp;refine (HLL.o).mono ?_;rintro e1 w3 ⟨he,hx⟩;exact ⟨_,he,γ,LZ.of_ext _ γ hx,fun _ _ _ h=>h,rfl⟩
  apply Chain.pure (LZ.refl _) (by rfl)
  ·intro vals γ w' ρ hR hN hp hρ hc hf hg;refine ⟨rfl,?_⟩;have e109:ρ (.tmp 109)=_:=(hρ 109).trans (hp 19 (by decide));have e116:ρ (.tmp 116)=_:=(hρ 116).trans (hp 26 (by decide));clear hR hN hp hρ;go_light;go_simp;exact ⟨rfl,rfl⟩
  ·rfl
  apply Chain.pure (LZ.refl _) (by rfl)
  ·intro vals γ w' ρ hR hN hp hρ hc hf hg;refine ⟨rfl,?_⟩;have e117:ρ (.tmp 117)=_:=(hρ 117).trans (hp 27 (by decide));clear hR hN hp hρ;go_light;go_simp;exact ⟨rfl,rfl⟩
  ·rfl
  intro vals γ w9 hR hG;have v0:vals 0=_:=hG 0 (by decide);have v1:vals 1=_:=hG 1 (by decide);have v2:vals 2=_:=hG 2 (by decide);have v3:vals 3=_:=hG 3 (by decide);have v4:vals 4=_:=hG 4 (by decide);have v5:vals 5=_:=hG 5 (by decide);have v6:vals 6=_:=hG 6 (by decide);have v7:vals 7=_:=hG 7 (by decide);have v8:vals 8=_:=hG 8 (by decide);have v9:vals 9=_:=hG 9 (by decide);have v10:vals 10=_:=hG 10 (by decide);have v11:vals 11=_:=hG 11 (by decide);have v12:vals 12=_:=hG 12 (by decide);have v13:vals 13=_:=hG 13 (by decide);obtain ⟨Ax14,cx14,v14,-⟩:=hG 14 (by decide);have v15:vals 15=_:=hG 15 (by decide);obtain ⟨Ax16,cx16,v16,-⟩:=hG 16 (by decide);have v17:vals 17=_:=hG 17 (by decide);have v18:vals 18=_:=hG 18 (by decide);have v19:vals 19=_:=hG 19 (by decide);have v20:vals 20=_:=hG 20 (by decide);obtain ⟨gx21,v21,-⟩:=hG 21 (by decide);obtain ⟨Ax22,cx22,v22,-⟩:=hG 22 (by decide);have v23:vals 23=_:=hG 23 (by decide);obtain ⟨gx24,v24,-⟩:=hG 24 (by decide);obtain ⟨Ax25,cx25,v25,-⟩:=hG 25 (by decide);have v26:vals 26=_:=hG 26 (by decide);have v27:vals 27=_:=hG 27 (by decide);have v28:vals 28=_:=hG 28 (by decide);simp only [lexFrame,Act.put,List.setIfInBounds_toArray,List.set_cons_succ,List.set_cons_zero,Nat.zero_add,Nat.reduceAdd,v0,v1,v2,v3,v4,v5,v6,v7,v8,v9,v10,v11,v12,v13,v14,v15,v16,v17,v18,v19,v20,v21,v22,v23,v24,v25,v26,v27,v28];clear v0 v1 v2 v3 v4 v5 v6 v7 v8 v9 v10 v11 v12 v13 v14 v15 v16 v17 v18 v19 v20 v21 v22 v23 v24 v25 v26 v27 v28;have HXN:=Hd (show Ext ws w9 from hR.ext0 (fun _ _ _ h=>h.elim));clear hR hG;go_wp2;go_ret;exact ⟨rfl,HXC.o.trans (HX8.o.trans HXN.o)⟩
end Go.Proofs.YtomdpipekmcojaaGreatDoor
