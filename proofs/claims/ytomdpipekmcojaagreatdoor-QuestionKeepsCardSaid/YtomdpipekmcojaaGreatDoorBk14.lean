/- question.Useful. Conditions: the answers read as data, and hold no tables. -/
import Derived.Test.YtomdpipekmcojaaGreatDoorBk13
import Derived.Sort.OwnSortedInts
namespace Go.Proofs.YtomdpipekmcojaaGreatDoor
open Go Go.RowKit

def divB (l:List (List Val)) (m k:Nat):Bool:=(List.range k).any fun p=>decide (ans l m p≠ans l m 0)
def usefulS (l:List (List Val)):List Nat:=if rightA l=true then (List.range (inpS l)).filter fun m=>divB l m l.length else []
set_option maxRecDepth 100000 in
set_option maxHeartbeats 1000000 in
theorem question_Useful (d:Nat) (l:List (List Val)) (A:Option Addr) (c:Nat) (w:World) (S:Nat→Prop) (hr:Rows w S d A l) (hk:NoT l) (hN:inpS l≤1000) :
  Calls Tryz.prog 23 #[.slice A l.length c] w (RetN w (usefulS l)):=by
 obtain ⟨n,en⟩:∃ n,n=l.length:=⟨_,rfl⟩;have HNE:=Hd en;have hll:=hr.len;have HR0:=Hd hr;have HNN:=Hd hN;have HRI:=Hd (question_right d l A c w S hr hk);rw [← en] at HRI hll ⊢;clear hr hk en
 go_enter Tryz.func23,Tryz.ntmps23
 go_wp2_with fail
 refine HRI.o.mono ?_;rintro e1 w1 ⟨rfl,hx1⟩;have HX1:=Hd hx1;clear hx1;cases hra:rightA l
 ·have HE:=Hd (show usefulS l=[] by unfold usefulS; rw [if_neg (by rw [hra]; simp)]);clear hra;go_wp2;go_ret;exact ⟨none,0,by rw [HE.o]; rfl,by rw [HE.o]; exact Own.nil _ _ _ _,HX1.o⟩
 ·have HE:=Hd (show usefulS l=(List.range (inpS l)).filter fun m=>divB l m l.length by unfold usefulS; rw [if_pos hra]);have HW:=Hd (rightA_wide hra);have HIN:=Hd (question_inputs d l A c w1 S (HR0.o.keep (HX1.o.kept S)));rw [← HNE.o] at HIN;obtain ⟨N,eN⟩:∃ N,N=inpS l:=⟨_,rfl⟩;rw [← eN] at HIN hN;have HEN:=Hd eN;clear eN hra
  go_wp2_with fail
  refine HIN.o.mono ?_;rintro e2 w2 ⟨rfl,rfl⟩;clear HIN HRI;go_wp2
  go_loopw [3,12] (fun v i wr=>∃ (k:Nat) (L:List Nat) (A':Option Addr) (c':Nat),k≤N∧v=.slice A' L.length c'∧i=.int .i64 (k:Int)∧L=(List.range k).filter (fun m=>divB l m l.length)∧L.length≤k∧Ext w wr∧OwnN wr w.heap.size A' c' L) (fun _ i _=>N-(intOf i).toNat)
  case atStart=>exact ⟨0,[],none,0,Nat.zero_le _,rfl,rfl,rfl,Nat.zero_le _,HX1.o,Own.nil _ _ _ _⟩
  case round =>
   obtain ⟨k,L,A',c',hk,rfl,rfl,hL,hLk,hx,hown⟩:=hrel;have HX:=Hd hx;have HO:=Hd hown;have HLE:=Hd hL;have HSUC:=Hd (show (List.range (k+1)).filter (fun m=>divB l m l.length)=L++if divB l k l.length=true then [k] else [] by
    rw [List.range_succ,List.filter_append,← hL];congr 1;by_cases h:divB l k l.length=true
    ·rw [if_pos h]; simp [h]
    ·rw [if_neg h]; simp [h])
   have hsz:=hx.size;obtain ⟨nL,enL⟩:∃ nL,nL=L.length:=⟨_,rfl⟩;have HNL:=Hd enL;rw [← enL] at hLk ⊢;unfold OwnN at hown;rw [← enL] at hown;have HOW:=Hd hown;clear hx hown hL enL;by_cases hlt:k<N
   ·go_wp2;obtain ⟨wo,rfl⟩:∃ wo:World,wo=wr:=⟨_,rfl⟩
    go_loopw [3,17] (fun v i wi=>∃ p:Nat,p≤n∧v=.slice A' nL c'∧i=.int .i64 (p:Int)∧divB l k p=false∧Ext wo wi) (fun _ i _=>n-(intOf i).toNat)
    case atStart=>exact ⟨0,Nat.zero_le _,rfl,rfl,rfl,Ext.refl _⟩
    case round =>
     obtain ⟨p,hp,rfl,rfl,hdv,hxi⟩:=hrel;obtain ⟨wi,hwi⟩:∃ wi:World,wi=wr:=⟨_,rfl⟩;rw [← hwi] at hxi ⊢;clear hwi;have HXI:=Hd hxi;have HDV:=Hd hdv;clear hxi hdv;by_cases hpn:p<n
     ·have hpl:p<l.length:=(by rw [← HNE.o]; exact hpn);have h0l:0<l.length:=(by omega);have hrows:=HR0.o.keep ((HX.o.trans HXI.o).kept S);obtain ⟨b,o,C,e,hB,_,hc,-,hr1⟩:=hrows.at_ hpl;obtain ⟨b',o',C',e',hB',_,hc',-,hr2⟩:=hrows.at_ h0l;subst hB;injection hB' with hB';injection hB' with hB1 hB2;subst hB1 hB2;have hkp:k<l[p].length:=(by rw [HW.o _ (List.getElem_mem hpl),← HEN.o]; exact hlt);have hk0:k<l[0].length:=(by rw [HW.o _ (List.getElem_mem h0l),← HEN.o]; exact hlt);obtain ⟨g1,o1,A1,c1,B1,e1,rfl,z1,⟨x0,x1,x2,x3,x4,x5,x6⟩,-,hrv⟩:=hr1.at_ hkp;obtain ⟨g2,o2,A2,c2,B2,e2,rfl,z2,⟨y0,y1,y2,y3,y4,y5,y6⟩,-,hrv'⟩:=hr2.at_ hk0;obtain ⟨vx,evx⟩:∃ v,v=l[p][k]:=⟨_,rfl⟩;obtain ⟨vy,evy⟩:∃ v,v=l[0][k]:=⟨_,rfl⟩;rw [← evx] at x0 x1 x2 x3 x4 x5 x6 hrv;rw [← evy] at y0 y1 y2 y3 y4 y5 y6 hrv';have HDS:=Hd (show divB l k (p+1)=decide (vx≠vy) by
       unfold divB at HDV ⊢;rw [List.range_succ,List.any_append,HDV.o];simp only [List.any_cons,List.any_nil,Bool.or_false,Bool.false_or];rw [ans_of hpl hkp,ans_of h0l hk0,evx,evy])
      obtain ⟨n1,en1⟩:∃ n1,n1=l[p].length:=⟨_,rfl⟩;obtain ⟨n2,en2⟩:∃ n2,n2=l[0].length:=⟨_,rfl⟩;rw [← en1] at hc hkp;rw [← en2,Nat.add_zero] at hc';rw [← en2] at hk0;have HRX:=Hd hrv;have HRY:=Hd hrv';have P0:=Hd hc';have X0:=Hd x0;have X1:=Hd x1;have X2:=Hd x2;have X3:=Hd x3;have X4:=Hd x4;have X5:=Hd x5;have X6:=Hd x6;have Y0:=Hd y0;have Y1:=Hd y1;have Y2:=Hd y2;have Y3:=Hd y3;have Y4:=Hd y4;have Y5:=Hd y5;have Y6:=Hd y6;obtain ⟨b0,hbe⟩:∃ b0,b0=decide (vx=vy):=⟨_,rfl⟩;have HBE:=Hd hbe;have i0:(0:Int)≤(p:Int):=(by omega);have i1:(p:Int)<(n:Int):=(by omega);have i2:(0:Int)≤(k:Int):=(by omega);have i3:(k:Int)<(n1:Int):=(by omega);have i4:(k:Int)<(n2:Int):=(by omega);have i5:(0:Int)<(n:Int):=(by omega);have i6:0<n:=(by omega);clear hrows hr1 hr2 hrv hrv' hc' evx evy en1 en2 x0 x1 x2 x3 x4 x5 x6 y0 y1 y2 y3 y4 y5 y6 hbe z1 z2
      go_upto_region 10 with fail
      refine wp_region_chain (by kernel_rfl) (fun i=>[i]) (by kernel_rfl) (LZ (fun _ _=>False)) (LZ.refl _) (LZ.trans _) (LK []) gz0 (LK.zero _) ?_;apply Chain.pure (LZ.refl _) (by rfl)
      ·intro vals γ w' ρ hR hN hp hρ hc hf hg;refine ⟨rfl,?_⟩;have e6:=hρ 6;(conv at e6=>rhs; whnf);clear hR hN hp hρ;go_light;go_simp;exact ⟨rfl,rfl⟩
      ·rfl
      apply Chain.pure (LZ.refl _) (by rfl)
      ·intro vals γ w' ρ hR hN hp hρ hc hf hg;refine ⟨rfl,?_⟩;have e4:=hρ 4;(conv at e4=>rhs; whnf);clear hR hN hp hρ;go_light;go_simp;exact ⟨rfl,rfl⟩
      ·rfl
      apply Chain.pure (LZ.refl _) (by rfl)
      ·intro vals γ w' ρ hR hN hp hρ hc hf hg;refine ⟨rfl,?_⟩;have e21:ρ (.tmp 21)=_:=(hρ 21).trans (hp 0 (by decide));have e22:ρ (.tmp 22)=_:=(hρ 22).trans (hp 1 (by decide));clear hR hN hp hρ;go_light;go_simp;exact ⟨rfl,rfl⟩
      ·rfl
      apply Chain.pure (LZ.refl _) (by rfl)
      ·intro vals γ w' ρ hR hN hp hρ hc hf hg;refine ⟨rfl,?_⟩;have e23:ρ (.tmp 23)=_:=(hρ 23).trans (hp 2 (by decide));have hxx:=hR.ext0 (fun _ _ _ h=>h.elim);have k0:=hxx.cell P0.o;have x0:=hxx.cell X0.o;have x1:=hxx.cell X1.o;have x2:=hxx.cell X2.o;have x3:=hxx.cell X3.o;have x4:=hxx.cell X4.o;have x5:=hxx.cell X5.o;have x6:=hxx.cell X6.o;have y0:=hxx.cell Y0.o;have y1:=hxx.cell Y1.o;have y2:=hxx.cell Y2.o;have y3:=hxx.cell Y3.o;have y4:=hxx.cell Y4.o;have y5:=hxx.cell Y5.o;have y6:=hxx.cell Y6.o;clear hxx hR hN hp hρ;go_light;go_simp;exact ⟨rfl,rfl⟩
      ·rfl
      apply Chain.pure (LZ.refl _) (by rfl)
      ·intro vals γ w' ρ hR hN hp hρ hc hf hg;refine ⟨rfl,?_⟩;have e0:=hρ 0;(conv at e0=>rhs; whnf);clear hR hN hp hρ;go_light;go_simp;exact ⟨rfl,rfl⟩
      ·rfl
      apply Chain.pure (LZ.refl _) (by rfl)
      ·intro vals γ w' ρ hR hN hp hρ hc hf hg;refine ⟨rfl,?_⟩;have e25:ρ (.tmp 25)=_:=(hρ 25).trans (hp 4 (by decide));clear hR hN hp hρ;go_light;go_simp;exact ⟨rfl,rfl⟩
      ·rfl
      apply Chain.pure (LZ.refl _) (by rfl)
      ·intro vals γ w' ρ hR hN hp hρ hc hf hg;refine ⟨rfl,?_⟩;have e26:ρ (.tmp 26)=_:=(hρ 26).trans (hp 5 (by decide));have hxx:=hR.ext0 (fun _ _ _ h=>h.elim);have k0:=hxx.cell P0.o;have x0:=hxx.cell X0.o;have x1:=hxx.cell X1.o;have x2:=hxx.cell X2.o;have x3:=hxx.cell X3.o;have x4:=hxx.cell X4.o;have x5:=hxx.cell X5.o;have x6:=hxx.cell X6.o;have y0:=hxx.cell Y0.o;have y1:=hxx.cell Y1.o;have y2:=hxx.cell Y2.o;have y3:=hxx.cell Y3.o;have y4:=hxx.cell Y4.o;have y5:=hxx.cell Y5.o;have y6:=hxx.cell Y6.o;clear hxx hR hN hp hρ;go_light;go_simp;exact ⟨rfl,rfl⟩
      ·rfl
      apply Chain.pure (LZ.refl _) (by rfl)
      ·intro vals γ w' ρ hR hN hp hρ hc hf hg;refine ⟨rfl,?_⟩;have e4:=hρ 4;(conv at e4=>rhs; whnf);clear hR hN hp hρ;go_light;go_simp;exact ⟨rfl,rfl⟩
      ·rfl
      apply Chain.pure (LZ.refl _) (by rfl)
      ·intro vals γ w' ρ hR hN hp hρ hc hf hg;refine ⟨rfl,?_⟩;have e27:ρ (.tmp 27)=_:=(hρ 27).trans (hp 6 (by decide));have e28:ρ (.tmp 28)=_:=(hρ 28).trans (hp 7 (by decide));clear hR hN hp hρ;go_light;go_simp;exact ⟨rfl,rfl⟩
      ·rfl
      apply Chain.pure (LZ.refl _) (by rfl)
      ·intro vals γ w' ρ hR hN hp hρ hc hf hg;refine ⟨rfl,?_⟩;have e29:ρ (.tmp 29)=_:=(hρ 29).trans (hp 8 (by decide));have hxx:=hR.ext0 (fun _ _ _ h=>h.elim);have k0:=hxx.cell P0.o;have x0:=hxx.cell X0.o;have x1:=hxx.cell X1.o;have x2:=hxx.cell X2.o;have x3:=hxx.cell X3.o;have x4:=hxx.cell X4.o;have x5:=hxx.cell X5.o;have x6:=hxx.cell X6.o;have y0:=hxx.cell Y0.o;have y1:=hxx.cell Y1.o;have y2:=hxx.cell Y2.o;have y3:=hxx.cell Y3.o;have y4:=hxx.cell Y4.o;have y5:=hxx.cell Y5.o;have y6:=hxx.cell Y6.o;clear hxx hR hN hp hρ;go_light;go_simp;exact ⟨rfl,rfl⟩
      ·rfl
      refine Chain.step (FP fun v γ w'=>v=.bool b0) (by rfl) (FP.stab ?_) ?_ ?_
      ·intro v γ w1 γ' w2 r h;exact h
      ·intro vals γ w' ρ hR hN hp hρ hc hf hg;refine ⟨rfl,?_⟩;have e24:ρ (.tmp 24)=_:=(hρ 24).trans (hp 3 (by decide));have e30:ρ (.tmp 30)=_:=(hρ 30).trans (hp 9 (by decide));have HR:=Hd hR;have hxx:=hR.ext0 (fun _ _ _ h=>h.elim);have HVX:=Hd (HRX.o.keep (hxx.kept _));have HVY:=Hd (HRY.o.keep (hxx.kept _));clear hxx hR hN hp hρ;go_light;go_simp;refine (value_Equal (d-1) vx vy A1 B1 A2 B2 c1 e1 c2 e2 w' _ _ HVX.o HVY.o).mono ?_;rintro e1 w3 ⟨he,hx⟩;exact ⟨_,he,γ,LZ.of_ext _ γ hx,fun _ _ _ h=>h,by rw [HBE.o]; rfl⟩
      apply Chain.pure (LZ.refl _) (by rfl)
      ·intro vals γ w' ρ hR hN hp hρ hc hf hg;refine ⟨rfl,?_⟩;have e31:ρ (.tmp 31)=_:=(hρ 31).trans (hp 10 (by decide));clear hR hN hp hρ;go_light;go_simp;exact ⟨rfl,rfl⟩
      ·rfl
      intro vals γ w9 hR hG;have v0:vals 0=_:=hG 0 (by decide);have v1:vals 1=_:=hG 1 (by decide);have v2:vals 2=_:=hG 2 (by decide);have v3:vals 3=_:=hG 3 (by decide);have v4:vals 4=_:=hG 4 (by decide);have v5:vals 5=_:=hG 5 (by decide);have v6:vals 6=_:=hG 6 (by decide);have v7:vals 7=_:=hG 7 (by decide);have v8:vals 8=_:=hG 8 (by decide);have v9:vals 9=_:=hG 9 (by decide);have v10:vals 10=_:=hG 10 (by decide);have v11:vals 11=_:=hG 11 (by decide);simp only [lexFrame,Act.put,List.setIfInBounds_toArray,List.set_cons_succ,List.set_cons_zero,Nat.zero_add,Nat.reduceAdd,v0,v1,v2,v3,v4,v5,v6,v7,v8,v9,v10,v11];clear v0 v1 v2 v3 v4 v5 v6 v7 v8 v9 v10 v11;have HX9:=Hd (show Ext wi w9 from hR.ext0 (fun _ _ _ h=>h.elim));clear hR hG;have HXJ:=Hd (HXI.o.trans HX9.o);cases b0
      ·have HDT:=Hd (show divB l k l.length=true by
        have hd:vx≠vy:=fun e=>by have:=HBE.o; rw [e] at this; simp at this
        have h1:=HDS.o;rw [decide_eq_true hd] at h1;obtain ⟨q,hq,hq2⟩:=List.any_eq_true.1 h1;exact List.any_eq_true.2 ⟨q,List.mem_range.2 (by have:=List.mem_range.1 hq; have:=HNE.o; omega),hq2⟩)
       go_wp2_with (at_builtin; go_must (refine wpList_app rfl (.tmp 33) (.tmp 35) rfl tiI rfl (HOW.o.ext (HXJ.o.alloc _)) rfl (Blk.rd (Blk.new _ _ _)) rfl (by simp [Value.oneCell']) (by omega) (by decide) (by have:=HXJ.o.size; simp; omega) ?_); intro A5 c5 w5 hown5 hg5 hat5)
       go_roundw
       case rel =>
        refine ⟨k+1,L++[k],A5,c5,by omega,by rw [List.length_append,← HNL.o]; rfl,by go_num,by rw [HSUC.o,if_pos HDT.o],by rw [List.length_append,← HNL.o]; simp; omega,((HX.o.trans HXJ.o).alloc _).grown hg5 (fun b hb=>(Own.blk HOW.o hb).1),?_⟩;unfold OwnN;rw [List.length_append,← HNL.o]
        simpa [nums] using hown5
       case measure=>simp [intOf]; omega
      ·have HDF:=Hd (show divB l k (p+1)=false by
        have hd:vx=vy:=(by have:=HBE.o; simpa using this.symm);rw [HDS.o]; simp [hd])
       go_wp2;go_roundw
       case rel=>exact ⟨p+1,by omega,rfl,by go_num,HDF.o,HXJ.o⟩
       case measure=>simp [intOf]; omega
     ·have HDF:=Hd (show divB l k l.length=false by
       have h1:=HDV.o;rwa [show p=l.length by rw [← HNE.o]; omega] at h1)
      go_wp2;go_roundw
      case rel =>
       refine ⟨k+1,L,A',c',by omega,by rw [← HNL.o],by go_num,by rw [HSUC.o,if_neg (by rw [HDF.o]; simp),List.append_nil],by rw [← HNL.o]; omega,HX.o.trans HXI.o,Own.ext HO.o HXI.o⟩
      case measure=>simp [intOf]; omega
   ·obtain rfl:k=N:=by omega
    have HFI:=Hd (show L=usefulS l by rw [HE.o,HLE.o,HEN.o]);go_wp2;go_ret;exact ⟨A',c',by rw [← HFI.o,← HNL.o]; rfl,by rw [← HFI.o]; exact HO.o,HX.o⟩
/- Programs that are sorted, each once: slices.Sort and slices.Compact of ints, on own memory. Conditions: bounds on sizes. -/

theorem sorted_extI:∀ {a b:List Int},a.Pairwise (· < ·)→b.Pairwise (· < ·)→(∀ v,v∈a↔v∈b)→a=b
 | [],[],_,_,_=>rfl
 | [],y :: b,_,_,h=>by have:=(h y).2 List.mem_cons_self; cases this
 | x :: a,[],_,_,h=>by have:=(h x).1 List.mem_cons_self; cases this
 | x :: a,y :: b,ha,hb,h=>by
  have ha':=List.pairwise_cons.1 ha;have hb':=List.pairwise_cons.1 hb;have hxy:x=y:=by
   have h1:=(h x).1 List.mem_cons_self;have h2:=(h y).2 List.mem_cons_self
   rcases List.mem_cons.1 h1 with e | e
   ·exact e
   ·rcases List.mem_cons.1 h2 with e2 | e2
    ·exact e2.symm
    ·have:=ha'.1 y e2; have:=hb'.1 x e; omega
  subst hxy;rw [sorted_extI ha'.2 hb'.2 fun v => ?_];have:=h v;rw [List.mem_cons,List.mem_cons] at this;constructor
  ·intro hv
   rcases this.1 (.inr hv) with e | e
   ·have:=ha'.1 v hv; omega
   ·exact e
  ·intro hv
   rcases this.2 (.inr hv) with e | e
   ·have:=hb'.1 v hv; omega
   ·exact e
theorem compact_inc (d:Array Int) (hd:∀ i j,i≤j→j<d.size→d[i]!≤d[j]!):∀ m,m≤d.size→(Lib.compactUpTo d m).Pairwise (· < ·)∧(∀ v,v∈Lib.compactUpTo d m↔∃ j,j<m∧d[j]! = v)∧(0<m→∀ v∈Lib.compactUpTo d m,v≤d[m-1]!)
 | 0,_=>⟨by simp [Lib.compactUpTo],by simp [Lib.compactUpTo],by simp⟩
 | m+1,hm=>by
  obtain ⟨h1,h2,h3⟩:=compact_inc d hd m (by omega);rw [Lib.compactUpTo_succ];have hmem:∀ v,(∃ j,j<m+1∧d[j]! = v)↔(∃ j,j<m∧d[j]! = v)∨d[m]! = v:=fun v=>by
   constructor
   ·rintro ⟨j,hj,e⟩
    rcases Nat.lt_or_ge j m with h | h
    ·exact .inl ⟨j,h,e⟩
    ·obtain rfl:j=m:=by omega
     exact .inr e
   ·rintro (⟨j,hj,e⟩ | e)
    ·exact ⟨j,by omega,e⟩
    ·exact ⟨m,by omega,e⟩
  rcases Nat.eq_zero_or_pos m with h0 | h0
  ·subst h0;have hk:Lib.keeps d 0=true:=(by simp [Lib.keeps]);rw [if_pos hk];refine ⟨by simp [Lib.compactUpTo],fun v => ?_,fun _ v hv => ?_⟩
   ·rw [hmem]; simp [Lib.compactUpTo,eq_comm]
   ·simp [Lib.compactUpTo] at hv; rw [hv]; exact Int.le_refl _
  ·by_cases he:d[m]! = d[m-1]!
   ·rw [if_neg (by rw [Lib.keeps_neg h0 he]; simp),List.append_nil];refine ⟨h1,fun v => ?_,fun _ v hv => ?_⟩
    ·rw [hmem,h2];constructor
     ·exact .inl
     ·rintro (h | h)
      ·exact h
      ·exact ⟨m-1,by omega,by rw [← he]; exact h⟩
    ·have:=h3 h0 v hv;rw [Nat.add_sub_cancel,he]; exact this
   ·rw [if_pos (Lib.keeps_pos he)];have hlt:d[m-1]! < d[m]!:=by
     have:=hd (m-1) m (by omega) (by omega);omega
    refine ⟨List.pairwise_append.2 ⟨h1,by simp,fun x hx y hy => ?_⟩,fun v => ?_,fun _ v hv => ?_⟩
    ·rw [List.mem_singleton.1 hy];have:=h3 h0 x hx;omega
    ·rw [hmem,List.mem_append,h2,List.mem_singleton];constructor
     ·rintro (h | h)
      ·exact .inl h
      ·exact .inr h.symm
     ·rintro (h | h)
      ·exact .inl h
      ·exact .inr h.symm
    ·rw [Nat.add_sub_cancel]
     rcases List.mem_append.1 hv with hv | hv
     ·have:=h3 h0 v hv; omega
     ·rw [List.mem_singleton.1 hv]; exact Int.le_refl _
def aliveS (n:Nat) (al:List Int):List Nat:=(List.range n).filter fun p=>decide ((p:Int)∈al)
theorem nums_inc {L:List Nat} (h:L.Pairwise (· < ·)):(nums L).Pairwise (· < ·):=by
 unfold nums;rw [List.pairwise_map];exact h.imp fun h=>by omega
theorem compact_alive (n:Nat) (al:List Int) (l:List Nat) (hl:∀ x,x∈l↔x<n∧((x:Nat):Int)∈al):Lib.compact ((nums l).mergeSort fun x y=>decide (x≤y))=nums (aliveS n al):=by
 have hs:((nums l).mergeSort fun x y=>decide (x≤y)).Pairwise fun x y=>decide (x≤y)=true:=List.pairwise_mergeSort (fun a b c h1 h2=>by simp at h1 h2 ⊢; omega) (fun a b=>by simp; omega) _;have hmem:∀ v,v∈((nums l).mergeSort fun x y=>decide (x≤y))↔v∈nums l:=fun v=>List.mem_mergeSort;generalize ((nums l).mergeSort fun x y=>decide (x≤y))=z at hs hmem;have hc:=compact_inc z.toArray (fun i j hij hj=>by
  have hj':j<z.length:=(by simpa using hj);have hi':i<z.length:=(by omega)
  rcases Nat.lt_or_ge i j with h | h
  ·have:=List.pairwise_iff_getElem.1 hs i j hi' hj' h;simp at this;rw [getElem!_pos _ i (by simpa using hi'),getElem!_pos _ j (by simpa using hj')]
   simpa using this
  ·obtain rfl:i=j:=by omega
   exact Int.le_refl _) z.length (by simp)
 refine sorted_extI hc.1 (nums_inc (List.pairwise_lt_range.filter _)) fun v => ?_;show v∈Lib.compactUpTo z.toArray z.length↔_;rw [hc.2.1];have e1:(∃ j,j<z.length∧z.toArray[j]! = v)↔v∈z:=by
  rw [List.mem_iff_getElem];constructor
  ·rintro ⟨j,hj,e⟩;rw [getElem!_pos _ j (by simpa using hj)] at e;exact ⟨j,hj,by simpa using e⟩
  ·rintro ⟨j,hj,e⟩;exact ⟨j,hj,by rw [getElem!_pos _ j (by simpa using hj)]; simpa using e⟩
 rw [e1,hmem];unfold nums aliveS;simp only [List.mem_map,List.mem_filter,List.mem_range,decide_eq_true_eq];constructor
 ·rintro ⟨x,hx,rfl⟩;exact ⟨x,(hl x).1 hx,rfl⟩
 ·rintro ⟨x,hx,rfl⟩;exact ⟨x,(hl x).2 hx,rfl⟩
theorem sort_own {w:World} {base g c:Nat} {l:List Nat} (h:OwnN w base (some ⟨g,0,none⟩) c l) (hl:l.length≤17592186044416) :
  Calls Tryz.prog 62 #[.slice (some ⟨g,0,none⟩) l.length c] w (fun e w'=>e=.returned (.tuple #[])∧w.grownBy w' (some g)∧Own w' base 3 1 (some ⟨g,0,none⟩) l.length c (((nums l).mergeSort fun x y=>decide (x≤y)).map (Value.int .i64))):=by
 rcases h.2 with ⟨hv,_⟩ | ⟨g',cap,cur,hv,hb,hh,hnc,hcm,hcs,ht⟩
 ·cases hv
 ·injection hv with hv1 hv2 hv3;injection hv1 with hv1;injection hv1 with hv1;subst hv1 hv3;have hnl:(nums l).length=l.length:=(by simp [nums]);have h1:=Tryz.srt_int g 0 c (nums l) w (holds_of_blockI hh (by rw [hnl,← ht,Nat.mul_one])) (Blk.lt hh) (by omega);rw [hnl] at h1;refine h1.mono ?_;rintro e w' ⟨rfl,n,os,rfl⟩;refine ⟨rfl,grownBy_sortedI _,?_⟩;have h2:=ownsRow_sortedI (w:=w) (base:=base) (n:=n) (os:=os) (ss:=nums l) (ts:=(nums l).mergeSort fun x y=>decide (x≤y)) (by simp) hb hh (by rw [hnl]; exact hnc) hcm hcs;rw [hnl] at h2;exact h2
theorem compact_own {w:World} {base g c:Nat} {z:List Int} (h:Own w base 3 1 (some ⟨g,0,none⟩) z.length c (z.map (Value.int .i64))) (hl:z.length≤17592186044416) :
  Calls Tryz.prog 64 #[.slice (some ⟨g,0,none⟩) z.length c] w (fun e w'=>e=.returned (.slice (some ⟨g,0,none⟩) (Lib.compact z).length c)∧w.grownBy w' (some g)∧Rd w' (fun b=>b=g) (some ⟨g,0,none⟩) ((Lib.compact z).map (Value.int .i64))):=by
 rcases h.2 with ⟨hv,_⟩ | ⟨g',cap,cur,hv,hb,hh,hnc,hcm,hcs,ht⟩
 ·cases hv
 ·injection hv with hv1 hv2 hv3;injection hv1 with hv1;injection hv1 with hv1;subst hv1 hv3;have h1:=Tryz.cmp_int g 0 c z w (holds_of_blockI hh (by rw [← ht,Nat.mul_one])) (by omega) hnc;refine h1.mono ?_;rintro e w' ⟨rfl,q,rfl⟩;have hlen:(Lib.compact z++List.replicate (z.length-(Lib.compact z).length) (0:Int)).length=z.length:=by
   have:(Lib.compact z).length≤z.length:=by
    unfold Lib.compact Lib.compactUpTo;rw [List.length_map];exact Nat.le_trans (List.length_filter_le _ _) (by simp)
   simp; omega
  have hg:=grownBy_sortedI (w:=w) (g:=g) (n:=q) (os:=#[]) (Lib.compact z++List.replicate (z.length-(Lib.compact z).length) (0:Int)).toArray;have h2:=ownsRow_sortedI (w:=w) (base:=base) (n:=q) (os:=#[]) (ss:=z) (ts:=Lib.compact z++List.replicate (z.length-(Lib.compact z).length) (0:Int)) hlen hb hh hnc hcm hcs;rw [Sort.grow_empty] at hg h2;refine ⟨rfl,hg,?_⟩;have h3:=(Own.rd (show Own _ base 3 1 (some ⟨g,0,none⟩) z.length c _ from h2)).take (Lib.compact z).length;rw [List.map_append,List.take_append_of_le_length (by simp),List.take_of_length_le (by simp)] at h3;exact h3.mono fun b _ e=>by simp [ob] at e; exact e.symm
/- Lists of ints of any size that fits into memory; the reference's comparison of them. Conditions: the lists read as data, of at most 2^44 numbers. -/

def IntsB (w:World) (S:Nat→Prop) (A:Option Addr) (l:List Int):Prop:=Rd w S A (l.map (Value.int .i64))∧l.length≤17592186044416
theorem IntsB.keep {w w':World} {S:Nat→Prop} {A:Option Addr} {l:List Int} (h:IntsB w S A l) (k:Kept S w w'):IntsB w' S A l:=⟨h.1.keep k,h.2⟩
theorem IntsB.at_ {w:World} {S:Nat→Prop} {A:Option Addr} {l:List Int} (h:IntsB w S A l) {k:Nat} (hk:k<l.length):∃ b o,A=some ⟨b,o,none⟩∧b<w.heap.size∧w.cell? ⟨b,o+k,none⟩=some (.int .i64 l[k]) :=
 h.1.at_ (by rw [List.getElem?_map,List.getElem?_eq_getElem hk]; rfl)
theorem Ints.big {w:World} {S:Nat→Prop} {A:Option Addr} {l:List Int} (h:Ints w S A l):IntsB w S A l:=⟨h.1,by have:=h.2; omega⟩
set_option maxHeartbeats 1000000 in
theorem r13_IntsB (a b:List Int) (A B:Option Addr) (c e:Nat) (w:World) (S T:Nat→Prop) (ha:IntsB w S A a) (hb:IntsB w T B b):Calls Tryz.prog 22 #[.slice A a.length c,.slice B b.length e] w (RetB w (decide (a=b))):=by
 have HA:=Hd ha;have HB:=Hd hb;have hal:=ha.2;have hbl:=hb.2;clear ha hb;by_cases hl:a.length=b.length
 ·have HL:=Hd hl;have hlb:((a.length:Int) != (b.length:Int))=false:=(by rw [hl]; simp);clear hl
  go_enter Tryz.func22,Tryz.ntmps22
  go_wp2
  go_loopw [5] (fun i wr=>∃ k:Nat,k≤a.length∧a.take k=b.take k∧i=.int .i64 (k:Int)∧Ext w wr) (fun i _=>a.length-(intOf i).toNat)
  case atStart=>exact ⟨0,Nat.zero_le _,by simp,rfl,Ext.refl _⟩
  case round =>
   obtain ⟨k,hk,hpre,rfl,hx⟩:=hrel;have HX:=Hd hx;have HP:=Hd hpre;clear hx hpre;by_cases hlt:k<a.length
   ·have hlt2:k<b.length:=(by rw [← HL.o]; exact hlt);obtain ⟨b1,o1,hA,hb1,hc1⟩:=(HA.o.keep (HX.o.kept _)).at_ hlt;obtain ⟨b2,o2,hB,hb2,hc2⟩:=(HB.o.keep (HX.o.kept _)).at_ hlt2;subst hA hB;obtain ⟨x,hxe⟩:∃ x,x=a[k]:=⟨_,rfl⟩;obtain ⟨y,hye⟩:∃ y,y=b[k]:=⟨_,rfl⟩;rw [← hxe] at hc1;rw [← hye] at hc2;have HXE:=Hd hxe;have HYE:=Hd hye;have i0:(0:Int)≤(k:Int):=(by omega);have i1:(k:Int)<(a.length:Int):=(by omega);have i2:(k:Int)<(b.length:Int):=(by omega);clear hxe hye;by_cases hxy:x=y
    ·have hb0:(x != y)=false:=(by rw [hxy]; simp);have HXY:=Hd hxy;clear hxy
     go_wp2_with fail
     go_quiet (fail)
     go_wp2;go_roundw
     case rel=>exact ⟨k+1,by omega,by rw [List.take_succ_eq_append_getElem hlt,List.take_succ_eq_append_getElem hlt2,HP.o,← HXE.o,← HYE.o,HXY.o],by go_num,HX.o.trans ((Ext.refl _).drewN _)⟩
     case measure=>simp [intOf]; omega
    ·have hb0:(x != y)=true:=(by rw [bne_iff_ne]; exact hxy);have HF:=Hd (show decide (a=b)=false by
      rw [decide_eq_false_iff_not];intro e;apply hxy;rw [HXE.o,HYE.o];subst e;rfl)
     clear hxy
     go_wp2_with fail
     go_quiet (fail)
     go_wp2;go_ret;exact ⟨by rw [HF.o]; rfl,HX.o.trans ((Ext.refl _).drewN _)⟩
   ·have HF:=Hd (show decide (a=b)=true by
     have h:=HP.o;have hL:=HL.o;rw [List.take_of_length_le (by omega),List.take_of_length_le (by omega)] at h;rw [h]; simp)
    go_wp2;go_ret;exact ⟨by rw [HF.o]; rfl,HX.o⟩
 ·have hlb:((a.length:Int) != (b.length:Int))=true:=(by rw [bne_iff_ne]; omega);have HF:=Hd (show decide (a=b)=false by rw [decide_eq_false_iff_not]; intro e; exact hl (by rw [e]));clear hl
  go_enter Tryz.func22,Tryz.ntmps22
  go_wp2;go_ret;exact ⟨by rw [HF.o]; rfl,Ext.refl _⟩
/- question.Groups. Conditions: the answers read as data, and hold no tables; the programs read as ints. -/

def RetNil (w:World) (e:Ending) (w':World):Prop:=e=.returned (.slice none 0 0)∧Ext w w'
def Still (w:World) (e:Ending) (w':World):Prop:=e=.returned (.tuple #[])∧Ext w w'
set_option maxRecDepth 100000 in
set_option maxHeartbeats 1000000 in
theorem insertion_nil (v:Value) (w:World):Calls Tryz.prog 202 #[.slice none 0 0,.int .i64 0,.int .i64 0,v] w (Still w):=by
 go_enter Tryz.func202,Tryz.ntmps202
 go_wp2
 go_loop [8] (fun a=>a=.int .i64 1) (fun _=>0)
 case atStart=>rfl
 case round =>
  subst hrel;go_wp2
  go_end0
  exact ⟨rfl,Ext.refl _⟩
set_option maxRecDepth 100000 in
set_option maxHeartbeats 1000000 in
theorem stable_nil (v:Value) (w:World):Calls Tryz.prog 162 #[.slice none 0 0,.int .i64 0,v] w (Still w):=by
 go_enter Tryz.func162,Tryz.ntmps162
 go_wp2
 go_loop [7,8] (fun a b=>a=.int .i64 0∧b=.int .i64 20) (fun _ _=>0)
 case atStart=>exact ⟨rfl,rfl⟩
 case round =>
  obtain ⟨rfl,rfl⟩:=hrel
  go_wp2_with fail
  refine (insertion_nil v w).mono ?_;rintro e1 w1 ⟨rfl,hx⟩;have HX:=Hd hx;clear hx;go_wp2
  go_loop [6] (fun a=>a=.int .i64 20) (fun _=>0)
  case atStart=>rfl
  case round =>
   subst hrel;go_wp2
   go_end0
   exact ⟨rfl,HX.o⟩
set_option maxRecDepth 100000 in
set_option maxHeartbeats 1000000 in
theorem sortStable_nil (v:Value) (w:World):Calls Tryz.prog 114 #[.slice none 0 0,v] w (Still w):=by
 go_enter Tryz.func114,Tryz.ntmps114
 go_wp2_with fail
 refine (stable_nil v w).mono ?_;rintro e1 w1 ⟨rfl,hx⟩;have HX:=Hd hx;clear hx;go_wp2
 go_end0
 exact ⟨rfl,HX.o⟩
set_option maxRecDepth 100000 in
set_option maxHeartbeats 1000000 in
theorem clone_nil (w:World):Calls Tryz.prog 113 #[.slice none 0 0] w (RetNil w):=by
 have hnil:=fun w:World=>Lib.run_eql_slice_nil w 26 3 none 0 0 0 0 Tryz.underlying26
 go_enter Tryz.func113,Tryz.ntmps113
 go_wp2;go_ret;exact ⟨rfl,Ext.refl _⟩
set_option maxRecDepth 100000 in
set_option maxHeartbeats 1000000 in
theorem split_nil (B:Option Addr) (m pc:Nat) (w:World):Calls Tryz.prog 63 #[.slice none 0 0,.slice B m pc] w (RetNil w):=by
 go_enter Tryz.func63,Tryz.ntmps63
 go_wp2_with fail
 refine (clone_nil _).mono ?_;rintro e1 w1 ⟨rfl,hx1⟩;have HX1:=Hd (((Ext.refl w).alloc _).trans hx1);clear hx1
 go_wp2_with fail
 refine (sortStable_nil _ w1).mono ?_;rintro e2 w2 ⟨rfl,hx2⟩;have HX2:=Hd (HX1.o.trans hx2);clear hx2;go_wp2
 go_loop [6,17] (fun v a=>v=.slice none 0 0∧a=.int .i64 0) (fun _ _=>0)
 case atStart=>exact ⟨rfl,rfl⟩
 case round =>
  obtain ⟨rfl,rfl⟩:=hrel;go_wp2;go_ret;exact ⟨rfl,HX2.o⟩
def groupsS (l:List (List Val)) (al:List Int) (i:Int):List (List Nat):=if rightA l=false∨i<0∨(inpS l:Int)≤i then [] else spl l i.toNat (aliveS l.length al)
theorem RetNN.nil {w w':World} (h:Ext w w'):RetNN w [] (.returned (.slice none 0 0)) w':=⟨none,0,rfl,OwnNN.nil _ _,h⟩
set_option maxRecDepth 100000 in
set_option maxHeartbeats 2000000 in
theorem question_GroupsB (d:Nat) (l:List (List Val)) (A:Option Addr) (c:Nat) (al:List Int) (B:Option Addr) (eB:Nat) (inp:Int) (w:World) (S T:Nat→Prop) (hr:Rows w S d A l) (hk:NoT l) (hl:l.length<20) (ht:Tens w) (ha:IntsB w T B al) (hal:al.length≤17592186044416) :
  Calls Tryz.prog 20 #[.slice A l.length c,.slice B al.length eB,.int .i64 inp] w (RetNN w (groupsS l al inp)):=by
 obtain ⟨n,en⟩:∃ n,n=l.length:=⟨_,rfl⟩;have HNE:=Hd en;have hll:=hr.len;have HR0:=Hd hr;have HK:=Hd hk;have HL:=Hd hl;have HT:=Hd ht;have HAL:=Hd ha;have HRI:=Hd (question_right d l A c w S hr hk);obtain ⟨na,ena⟩:∃ na,na=al.length:=⟨_,rfl⟩;have HNA:=Hd ena;rw [← en] at HRI hll ⊢;rw [← ena] at hal ⊢;have hn20:n<20:=(by omega);clear hr hk hl ht ha en ena
 go_enter Tryz.func20,Tryz.ntmps20
 go_wp2_with fail
 refine HRI.o.mono ?_;rintro e1 w1 ⟨rfl,hx1⟩;have HX1:=Hd hx1;clear hx1;cases hra:rightA l
 ·have HE:=Hd (show groupsS l al inp=[] by unfold groupsS; rw [if_pos (.inl hra)]);rw [HE.o];clear hra;go_wp2;go_ret;rw [HE.o];exact RetNN.nil HX1.o
 ·have HRA:=Hd hra;clear hra;by_cases hi0:inp<0
  ·have HE:=Hd (show groupsS l al inp=[] by unfold groupsS; rw [if_pos (.inr (.inl hi0))]);go_wp2;go_ret;rw [HE.o];exact RetNN.nil HX1.o
  ·have HW:=Hd (rightA_wide HRA.o);have HIN:=Hd (question_inputs d l A c w1 S (HR0.o.keep (HX1.o.kept S)));rw [← HNE.o] at HIN;obtain ⟨N,eN⟩:∃ N,N=inpS l:=⟨_,rfl⟩;rw [← eN] at HIN;have HEN:=Hd eN;clear eN HRI
   go_wp2_with fail
   refine HIN.o.mono ?_;rintro e2 w2 ⟨rfl,rfl⟩;by_cases hiN:(N:Int)≤inp
   ·have HE:=Hd (show groupsS l al inp=[] by unfold groupsS; rw [if_pos (.inr (.inr (by rw [← HEN.o]; exact hiN)))]);go_wp2;go_ret;rw [HE.o];exact RetNN.nil HX1.o
   ·obtain ⟨m,rfl⟩:∃ m:Nat,inp=(m:Int):=⟨inp.toNat,by omega⟩;have hmN:m<N:=(by omega);have HE:=Hd (show groupsS l al (m:Int)=spl l m (aliveS l.length al) by
     unfold groupsS;rw [if_neg (by
      rintro (h | h | h)
      ·rw [HRA.o] at h; cases h
      ·omega
      ·rw [← HEN.o] at h; omega),Int.toNat_natCast])
    clear HIN;go_wp2
    go_loopw [7,25] (fun v i wr=>∃ (k:Nat) (L:List Nat) (A':Option Addr) (c':Nat),k≤na∧v=.slice A' L.length c'∧i=.int .i64 (k:Int)∧(∀ x,x∈L↔x<n∧((x:Nat):Int)∈al.take k)∧L.length≤k∧(L=[]→A'=none∧c'=0)∧Ext w wr∧OwnN wr w.heap.size A' c' L) (fun _ i _=>na-(intOf i).toNat)
    case atStart=>exact ⟨0,[],none,0,Nat.zero_le _,rfl,rfl,by simp,Nat.zero_le _,fun _=>⟨rfl,rfl⟩,HX1.o,Own.nil _ _ _ _⟩
    case round =>
     obtain ⟨k,L,A',c',hk,rfl,rfl,hL,hLk,hLn,hx,hown⟩:=hrel;have HX:=Hd hx;have HO:=Hd hown;have HLM:=Hd hL;have HLN:=Hd hLn;have hsz:=hx.size;obtain ⟨nL,enL⟩:∃ nL,nL=L.length:=⟨_,rfl⟩;have HNL:=Hd enL;rw [← enL] at hLk ⊢;unfold OwnN at hown;rw [← enL] at hown;have HOW:=Hd hown;clear hx hown hL enL hLn;by_cases hlt:k<na
     ·have hks:k<al.length:=(by rw [← HNA.o]; exact hlt);obtain ⟨bB,oB,hB,_,hc⟩:=(HAL.o.keep (HX.o.kept _)).at_ hks;subst hB;obtain ⟨a,ea⟩:∃ a,a=al[k]:=⟨_,rfl⟩;rw [← ea] at hc;have HTK:=Hd (show al.take (k+1)=al.take k++[a] by rw [List.take_succ_eq_append_getElem hks,← ea]);have i0:(0:Int)≤(k:Int):=(by omega);have i1:(k:Int)<(na:Int):=(by omega);clear ea hks;by_cases ha0:0≤a
      ·by_cases han:a<(n:Int)
       ·obtain ⟨x,rfl⟩:∃ x:Nat,a=(x:Int):=⟨a.toNat,by omega⟩;have hxn:x<n:=(by omega)
        go_wp2_with (at_builtin; go_must (refine wpList_app rfl (.tmp 37) (.tmp 39) rfl tiI rfl (HOW.o.ext ((Ext.refl _).alloc _)) rfl (Blk.rd (Blk.new _ _ _)) rfl (by simp [Value.oneCell']) (by omega) (by decide) (by simp; omega) ?_); intro A5 c5 w5 hown5 hg5 hat5)
        go_roundw
        case rel =>
         refine ⟨_,_,_,⟨k+1,by omega,L++[x],A5,c5,by rw [List.length_append,← HNL.o]; rfl,by go_num,fun y => ?_,by rw [List.length_append,← HNL.o]; simp; omega,fun h=>by simp at h,(HX.o.alloc _).grown hg5 (fun b hb=>(Own.blk HOW.o hb).1),?_⟩,rfl,rfl,rfl⟩
         ·rw [HTK.o,List.mem_append,List.mem_append,HLM.o,List.mem_singleton,List.mem_singleton];constructor
          ·rintro (h | h)
           ·exact ⟨h.1,.inl h.2⟩
           ·exact ⟨by omega,.inr (by omega)⟩
          ·rintro ⟨h1,h | h⟩
           ·exact .inl ⟨h1,h⟩
           ·exact .inr (by omega)
         ·unfold OwnN;rw [List.length_append,← HNL.o]
          simpa [nums] using hown5
        case measure=>simp [intOf]; omega
       ·have HM2:=Hd (show ∀ y,y∈L↔y<n∧((y:Nat):Int)∈al.take (k+1) from fun y=>by
         rw [HTK.o,List.mem_append,HLM.o,List.mem_singleton];constructor
         ·exact fun h=>⟨h.1,.inl h.2⟩
         ·rintro ⟨h1,h | h⟩
          ·exact ⟨h1,h⟩
          ·omega)
        go_wp2;go_roundw
        case rel=>exact ⟨k+1,L,A',c',by omega,by rw [← HNL.o],by go_num,HM2.o,by rw [← HNL.o]; omega,HLN.o,HX.o,HO.o⟩
        case measure=>simp [intOf]; omega
      ·have HM2:=Hd (show ∀ y,y∈L↔y<n∧((y:Nat):Int)∈al.take (k+1) from fun y=>by
        rw [HTK.o,List.mem_append,HLM.o,List.mem_singleton];constructor
        ·exact fun h=>⟨h.1,.inl h.2⟩
        ·rintro ⟨h1,h | h⟩
         ·exact ⟨h1,h⟩
         ·omega)
       go_wp2;go_roundw
       case rel=>exact ⟨k+1,L,A',c',by omega,by rw [← HNL.o],by go_num,HM2.o,by rw [← HNL.o]; omega,HLN.o,HX.o,HO.o⟩
       case measure=>simp [intOf]; omega
     ·have HMM:=Hd (show ∀ x,x∈L↔x<l.length∧((x:Nat):Int)∈al by
       have h1:=HLM.o;rw [List.take_of_length_le (by rw [← HNA.o]; omega),HNE.o] at h1;exact h1)
      have HMW:=Hd (show ∀ r∈l,m<r.length from fun r hr=>by rw [HW.o r hr,← HEN.o]; exact hmN);by_cases hL0:L=[]
      ·obtain ⟨rfl,rfl⟩:=HLN.o hL0;have hn0:nL=0:=(by rw [HNL.o,hL0]; rfl);subst hn0;have HAE:=Hd (show aliveS l.length al=[] by
        unfold aliveS;rw [List.filter_eq_nil_iff];intro x hx h;have:=(HMM.o x).2 ⟨List.mem_range.1 hx,by simpa using h⟩;rw [hL0] at this;cases this)
       have HPLC:=Hd (question_places d l A c m wr S (HR0.o.keep (HX.o.kept S)) HK.o HL.o HMW.o (wkA l m) (HT.o.ext HX.o));rw [← HNE.o] at HPLC;clear hL0
       go_wp2_with fail
       refine (Tryz.srt_none none 0 wr).mono ?_;rintro e3 w3 ⟨rfl,rfl⟩
       go_wp2_with fail
       refine (Tryz.cmp_none none 0 w3).mono ?_;rintro e4 w4 ⟨rfl,rfl⟩
       go_wp2_with fail
       refine HPLC.o.mono ?_;rintro e5 w5 ⟨g5,rfl,hg5,hb5,hx5⟩;have HX5:=Hd (HX.o.trans hx5);clear hg5 hb5 hx5
       go_wp2_with fail
       refine (split_nil _ _ _ w5).mono ?_;rintro e6 w6 ⟨rfl,hx6⟩;have HX6:=Hd (HX5.o.trans hx6);clear hx6;go_wp2;go_ret;rw [HE.o,HAE.o];exact RetNN.nil HX6.o
      ·have HL0:=Hd hL0;obtain ⟨g,rfl⟩:=Own.some_ HOW.o (by rw [HNL.o]; exact List.length_pos_iff.2 hL0);have hAne:aliveS l.length al≠[]:=by
        intro h;obtain ⟨x,hx⟩:=List.exists_mem_of_ne_nil _ hL0;have h1:=(HMM.o x).1 hx;have h2:x∈aliveS l.length al:=by
         unfold aliveS;rw [List.mem_filter];exact ⟨List.mem_range.2 h1.1,by simpa using h1.2⟩
        rw [h] at h2;cases h2
       have HANE:=Hd hAne;have hinc:Inc l.length (aliveS l.length al):=(Inc.range l.length).sub List.filter_sublist;have HINC:=Hd hinc;have hgw:=(Own.blk HOW.o (k:=g) rfl);have HGW:=Hd hgw;have HSRT:=Hd (sort_own HO.o (by rw [← HNL.o]; omega));rw [← HNL.o] at HSRT;have HCMP:=Hd (compact_alive l.length al L HMM.o);clear hL0 hAne hinc hgw
       go_wp2_with fail
       refine HSRT.o.mono ?_;rintro e3 w3 ⟨rfl,hg3,ho3⟩;have hz:((nums L).mergeSort fun x y=>decide (x≤y)).length=nL:=(by rw [List.length_mergeSort,HNL.o]; simp [nums]);have HCO:=Hd (compact_own (by rw [hz]; exact ho3) (by rw [hz]; omega));rw [hz,HCMP.o] at HCO;have HX3:=Hd (HX.o.grown hg3 fun b hb=>by injection hb with hb; have:=HGW.o.1; omega);clear hg3 ho3 hz HSRT
       go_wp2_with fail
       refine HCO.o.mono ?_;rintro e4 w4 ⟨rfl,hg4,hrd4⟩;have HX4:=Hd (HX3.o.grown hg4 fun b hb=>by injection hb with hb; have:=HGW.o.1; omega);have HPLC:=Hd (question_places d l A c m w4 S (HR0.o.keep (HX4.o.kept S)) HK.o HL.o HMW.o (wkA l m) (HT.o.ext HX4.o));rw [← HNE.o] at HPLC;have HALN:=Hd (show (nums (aliveS l.length al)).length=(aliveS l.length al).length by simp [nums]);have HLE20:=Hd HINC.o.len;have HNU:=Hd (show Nums w4 (fun _=>True) (some ⟨g,0,none⟩) (aliveS l.length al) from ⟨hrd4.mono fun _ _ _=>trivial,by have:=HLE20.o; have:=HL.o; omega⟩);clear hg4 hrd4 HCO
       go_wp2_with fail
       refine HPLC.o.mono ?_;rintro e5 w5 ⟨g5,rfl,hg5,hb5,hx5⟩;have HX5:=Hd (HX4.o.trans hx5);have hpn:Nums w5 (fun _=>True) (some ⟨g5,0,none⟩) (placesS l m):=by
        refine ⟨?_,by rw [placesS_len]; have:=HL.o; omega⟩;have h1:=hb5.rd;exact (show Rd w5 (fun b=>b=g5) (some ⟨g5,0,none⟩) _ by simpa [dcells] using h1).mono fun _ _ _=>trivial
       have HSP:=Hd (question_split ⟨g,0,none⟩ c' (aliveS l.length al) (some ⟨g5,0,none⟩) (placesS l m).length (placesS l m) w5 (fun _=>True) (HNU.o.keep (hx5.kept _)) hpn HANE.o (by have:=HLE20.o; have:=HL.o; omega) (fun x hx=>by rw [placesS_len]; exact HINC.o.2 x hx) (fun x hx=>by have:=placesS_le l m x hx; have:=HL.o; omega));rw [HALN.o];clear hg5 hb5 hx5 hpn HPLC
       go_wp2_with fail
       refine HSP.o.mono ?_;rintro e6 w6 ⟨A6,c6,rfl,ho6,hx6⟩;have HO6:=Hd ho6;have HX6:=Hd (HX5.o.trans hx6);have HZ:=Hd HX5.o.size;clear ho6 hx6 HSP;go_wp2;go_ret;rw [HE.o];exact ⟨A6,c6,rfl,OwnNN.lower HO6.o HZ.o,HX6.o⟩
theorem question_Groups (d:Nat) (l:List (List Val)) (A:Option Addr) (c:Nat) (al:List Int) (B:Option Addr) (eB:Nat) (inp:Int) (w:World) (S T:Nat→Prop) (hr:Rows w S d A l) (hk:NoT l) (hl:l.length<20) (ht:Tens w) (ha:Ints w T B al) (hal:al.length≤1000) :
  Calls Tryz.prog 20 #[.slice A l.length c,.slice B al.length eB,.int .i64 inp] w (RetNN w (groupsS l al inp)) :=
 question_GroupsB d l A c al B eB inp w S T hr hk hl ht ha.big (by omega)
/- The first answer that is equal to a reply. Conditions: the values read as data. -/

def idxV:List Val→Val→Int
 | [],_=>-1
 | y :: l,v=>if y=v then 0 else if idxV l v<0 then -1 else idxV l v+1
theorem idxV_ge (l:List Val) (v:Val):-1≤idxV l v∧idxV l v<l.length:=by
 induction l with
 | nil=>simp [idxV]
 | cons y l ih =>
  unfold idxV;rw [List.length_cons];split
  ·omega
  ·split <;> omega
theorem idxV_app {l m:List Val} {v:Val} (h:∀ y∈l,y≠v):idxV (l++m) v=if idxV m v<0 then -1 else idxV m v+l.length:=by
 induction l with
 | nil =>
  have:=idxV_ge m v;simp;omega
 | cons y l ih =>
  have h1:=ih fun z hz=>h z (List.mem_cons_of_mem _ hz);show (if y=v then 0 else if idxV (l++m) v<0 then -1 else idxV (l++m) v+1)=_;rw [if_neg (h y (by simp)),h1,List.length_cons];by_cases hm:idxV m v<0
  ·rw [if_pos hm,if_pos (by omega),if_pos hm]
  ·rw [if_neg hm,if_neg (by omega),if_neg hm]; omega
set_option maxRecDepth 100000 in
set_option maxHeartbeats 1000000 in
theorem Follow_1 (q:Nat) (x v:Val) (A B A' B':Option Addr) (c e c' e' b8:Nat) (w:World) (S T:Nat→Prop) (hx:RV w S q x A B) (hv:RV w T q v A' B') (hb:Blk w b8 47 #[.int .i64 v.kind,.string v.s,.int .i64 v.dn,.int .i64 v.ds,.int .i64 v.n,.slice A' v.cols.length c',.slice B' v.rows.length e']) :
  Calls Tryz.prog 72 #[(.agg #[.int .i64 x.kind,.string x.s,.int .i64 x.dn,.int .i64 x.ds,.int .i64 x.n,.slice A x.cols.length c,.slice B x.rows.length e]),.pointer (some ⟨b8,0,none⟩)] w (RetB w (decide (x=v))):=by
 have HX:=Hd hx;have HV:=Hd hv;have c0:=hb.cell (i:=0) rfl;have c1:=hb.cell (i:=1) rfl;have c2:=hb.cell (i:=2) rfl;have c3:=hb.cell (i:=3) rfl;have c4:=hb.cell (i:=4) rfl;have c5:=hb.cell (i:=5) rfl;have c6:=hb.cell (i:=6) rfl;have hl:=hb.lt;clear hx hv hb
 go_enter Tryz.func72,Tryz.ntmps72
 go_wp2_with fail
 refine (value_Equal q x v A B A' B' c e c' e' _ S T (HX.o.keep (Kept.alloc _ _ _)) (HV.o.keep (Kept.alloc _ _ _))).mono ?_;rintro e1 w1 ⟨rfl,hx1⟩;have HX1:=Hd (((Ext.refl w).alloc _).trans hx1);clear hx1;go_wp2;go_ret;exact ⟨rfl,HX1.o⟩
set_option maxRecDepth 100000 in
set_option maxHeartbeats 1000000 in
theorem IndexFunc_follow (d:Nat) (l:List Val) (A:Option Addr) (c:Nat) (v:Val) (A' B':Option Addr) (c' e' b8:Nat) (w:World) (S T:Nat→Prop) (h:Row w S d A l) (hv:RV w T (d-1) v A' B') (hb:Blk w b8 47 #[.int .i64 v.kind,.string v.s,.int .i64 v.dn,.int .i64 v.ds,.int .i64 v.n,.slice A' v.cols.length c',.slice B' v.rows.length e']) :
  Calls Tryz.prog 71 #[.slice A l.length c,.func (.func 72) #[] #[.pointer (some ⟨b8,0,none⟩)]] w (RetI w (idxV l v)):=by
 have H:=Hd h;have hl:=h.len;have HV:=Hd hv;have HB:=Hd hb;obtain ⟨n,en⟩:∃ n,n=l.length:=⟨_,rfl⟩;have HN:=Hd en;rw [← en] at hl ⊢;clear h hv hb en
 go_enter Tryz.func71,Tryz.ntmps71
 go_wp2
 go_loopw [8] (fun i wr=>∃ k:Nat,k≤n∧(∀ y∈l.take k,y≠v)∧i=.int .i64 (k:Int)∧Ext w wr) (fun i _=>n-(intOf i).toNat)
 case atStart=>exact ⟨0,Nat.zero_le _,by simp,rfl,Ext.refl _⟩
 case round =>
  obtain ⟨k,hk,hpre,rfl,hx⟩:=hrel;have HX:=Hd hx;have HP:=Hd hpre;clear hpre;by_cases hlt:k<n
  ·have hks:k<l.length:=(by rw [← HN.o]; exact hlt);obtain ⟨b,o,A2,c2,C2,e2,hA,hbl,⟨c0,c1,c2',c3,c4,c5,c6⟩,-,hrv⟩:=(H.o.keep (hx.kept _)).at_ hks;subst hA;obtain ⟨y,hy⟩:∃ y,y=l[k]:=⟨_,rfl⟩;rw [← hy] at c0 c1 c2' c3 c4 c5 c6 hrv;have HCALL:=Hd (Follow_1 (d-1) y v A2 C2 A' B' c2 e2 c' e' b8 wr S T hrv (HV.o.keep (hx.kept _)) (HB.o.keep (hx.kept _)));have HT:=Hd (show l.take (k+1)=l.take k++[y] by rw [List.take_succ_eq_append_getElem hks,← hy]);have HS:=Hd (show l=l.take k++y :: l.drop (k+1) by rw [hy,← List.drop_eq_getElem_cons hks,List.take_append_drop]);have hlk:(l.take k).length=k:=(by rw [List.length_take]; omega);have HLK:=Hd hlk;have i0:(0:Int)≤(k:Int):=(by omega);have i1:(k:Int)<(n:Int):=(by omega);clear hy hrv hx hks hlk
   go_wp2_with fail
   refine HCALL.o.mono ?_;rintro e1 w1 ⟨rfl,hx1⟩;have HX1:=Hd (HX.o.trans hx1);clear hx1 c0 c1 c2' c3 c4 c5 c6 HCALL;by_cases hyv:y=v
   ·have HF:=Hd (show idxV l v=(k:Int) by
     rw [HS.o,idxV_app HP.o,HLK.o];unfold idxV;rw [if_pos hyv,if_neg (by omega)];omega)
    have hd:decide (y=v)=true:=decide_eq_true hyv;clear hyv;go_wp2;go_ret;exact ⟨by rw [HF.o]; rfl,HX1.o⟩
   ·have hd:decide (y=v)=false:=decide_eq_false hyv;have HYV:=Hd hyv;clear hyv;go_wp2;go_roundw
    case rel =>
     refine ⟨k+1,by omega,?_,by go_num,HX1.o⟩;rw [HT.o];intro z hz
     rcases List.mem_append.1 hz with hz | hz
     ·exact HP.o z hz
     ·rw [List.mem_singleton.1 hz]; exact HYV.o
    case measure=>simp [intOf]; omega
  ·have HF:=Hd (show idxV l v=-1 by
    have h1:=idxV_app (m:=[]) (v:=v) HP.o;rw [List.append_nil,List.take_of_length_le (by rw [← HN.o]; omega)] at h1;rw [h1]; rfl)
   clear hx;go_wp2;go_ret;exact ⟨by rw [HF.o]; rfl,HX.o⟩
/- question.Follow. Conditions: the plan and the replies read as data. -/

def followF (Y:List AskD):List Val→Int→Int × Bool
 | [],p=>(p,true)
 | v :: vs,p=>if p<0 then (-1,false) else
  if idxV (Y.getD p.toNat (0,[],[])).2.1 v<0∨((Y.getD p.toNat (0,[],[])).2.2.length:Int)≤idxV (Y.getD p.toNat (0,[],[])).2.1 v then (-1,false) else
  if (Y.getD p.toNat (0,[],[])).2.2.getD (idxV (Y.getD p.toNat (0,[],[])).2.1 v).toNat 0≠-1∧((Y.getD p.toNat (0,[],[])).2.2.getD (idxV (Y.getD p.toNat (0,[],[])).2.1 v).toNat 0≤p∨(Y.length:Int)≤(Y.getD p.toNat (0,[],[])).2.2.getD (idxV (Y.getD p.toNat (0,[],[])).2.1 v).toNat 0) then (-1,false) else
  followF Y vs ((Y.getD p.toNat (0,[],[])).2.2.getD (idxV (Y.getD p.toNat (0,[],[])).2.1 v).toNat 0)
def followS (Y:List AskD) (vs:List Val):Int × Bool:=followF Y vs (if Y.length=0 then -1 else 0)
theorem followF_neg (Y:List AskD) (v:Val) (vs:List Val) (p:Int) (h:p<0):followF Y (v :: vs) p=(-1,false):=by
 unfold followF;rw [if_pos h]
theorem followF_cons (Y:List AskD) (v:Val) (vs:List Val) (p:Nat) (a:AskD) (ha:Y[p]?=some a):followF Y (v :: vs) (p:Int) =
  if idxV a.2.1 v<0∨(a.2.2.length:Int)≤idxV a.2.1 v then (-1,false) else
  if a.2.2.getD (idxV a.2.1 v).toNat 0≠-1∧(a.2.2.getD (idxV a.2.1 v).toNat 0≤(p:Int)∨(Y.length:Int)≤a.2.2.getD (idxV a.2.1 v).toNat 0) then (-1,false) else
  followF Y vs (a.2.2.getD (idxV a.2.1 v).toNat 0):=by
 have hg:Y.getD (p:Int).toNat (0,[],[])=a:=(by rw [Int.toNat_natCast,List.getD_eq_getElem?_getD,ha]; rfl);(conv=>lhs; unfold followF);rw [if_neg (by omega),hg]
def RetFo (w:World) (r:Int × Bool) (e:Ending) (w':World):Prop:=e=.returned (.tuple #[.int .i64 r.1,.bool r.2])∧Ext w w'
set_option maxRecDepth 100000 in
set_option maxHeartbeats 2000000 in
theorem question_Follow (d:Nat) (Y:List AskD) (A:Option Addr) (c:Nat) (dp lo:Int) (vs:List Val) (B:Option Addr) (e:Nat) (w:World) (S T:Nat→Prop) (hY:AS w S d A Y) (hv:Row w T d B vs) :
  Calls Tryz.prog 28 #[.agg #[.slice A Y.length c,.int .i64 dp,.int .i64 lo],.slice B vs.length e] w (RetFo w (followS Y vs)):=by
 obtain ⟨n,en⟩:∃ n,n=Y.length:=⟨_,rfl⟩;obtain ⟨m,em⟩:∃ m,m=vs.length:=⟨_,rfl⟩;have hYl:=hY.1;have hvl:=hv.len;obtain ⟨w0,hw0⟩:∃ w0,w0=w.alloc (.cells #[.slice A n c,.int .i64 dp,.int .i64 lo] 29):=⟨_,rfl⟩;obtain ⟨b2,hb2⟩:∃ b2,b2=w.heap.size:=⟨_,rfl⟩;have hx0:Ext w w0:=(by rw [hw0]; exact (Ext.refl w).alloc _);have hbk:Blk w0 b2 29 #[.slice A n c,.int .i64 dp,.int .i64 lo]:=(by rw [hw0,hb2]; exact Blk.new _ _ _);have HYM:=Hd (hY.keep (hx0.kept S));have HVM:=Hd (Row.keep hv (hx0.kept T));have HEN:=Hd en;have HEM:=Hd em;have HX0:=Hd hx0;have HBK:=Hd hbk;have HW0:=Hd hw0;have HB2:=Hd hb2;have q0:=hbk.cell (i:=0) rfl;obtain ⟨st,est⟩:∃ st:Int,st=if Y.length=0 then -1 else 0:=⟨_,rfl⟩;have HST:=Hd est;have HFS:=Hd (show followS Y vs=followF Y vs st by unfold followS; rw [est]);rw [← en,← em];rw [← en] at hYl;rw [← em] at hvl;have hst1:st=-1∨(0≤st∧st<(n:Int)):=(by rw [est,← en]; split <;> omega);have hst2:(0:Int)<(n:Int)→st=0:=(by intro h; rw [est,if_neg (by omega)]);have hst3:¬ (0:Int)<(n:Int)→st=-1:=(by intro h; rw [est,if_pos (by omega)]);have HS1:=Hd hst1;have HS2:=Hd hst2;have HS3:=Hd hst3;clear hY hv hx0 hbk hw0 hb2 en em est hst1 hst2 hst3
 go_enter Tryz.func28,Tryz.ntmps28
 go_upto_region 2 with fail
 rw [← HW0.o,← HB2.o];by_cases hn0:(0:Int)<(n:Int)
 ·have e0:=HS2.o hn0;have HE0:=Hd e0;clear e0;go_wp2
  go_loopw [6,18] (fun p i wr=>∃ (k:Nat) (pl:Int),k≤m∧p=.int .i64 pl∧i=.int .i64 (k:Int)∧(pl=-1∨(0≤pl∧pl<(n:Int)))∧followF Y (vs.drop k) pl=followF Y vs st∧Ext w0 wr) (fun _ i _=>m-(intOf i).toNat)
  case atStart=>exact ⟨0,0,Nat.zero_le _,rfl,rfl,.inr ⟨by omega,hn0⟩,by rw [List.drop_zero,HE0.o],Ext.refl _⟩
  case round =>
   clear q0;obtain ⟨k,pl,hk,rfl,rfl,hpl,hfo,hx⟩:=hrel;have HX:=Hd hx;have HFO:=Hd hfo;have HPL:=Hd hpl;clear hx hfo hpl;by_cases hlt:k<m
   ·have hks:k<vs.length:=(by rw [← HEM.o]; exact hlt);obtain ⟨g1,o1,A1,c1,B1,e1,hB,z1,⟨x0,x1,x2,x3,x4,x5,x6⟩,hq,hrv⟩:=(Row.keep HVM.o (HX.o.kept _)).at_ hks;subst hB;obtain ⟨v,ev⟩:∃ v,v=vs[k]:=⟨_,rfl⟩;rw [← ev] at x0 x1 x2 x3 x4 x5 x6 hrv;have HD:=Hd (show vs.drop k=v :: vs.drop (k+1) by rw [ev]; exact List.drop_eq_getElem_cons hks);have HRV:=Hd hrv;have i0:(0:Int)≤(k:Int):=(by omega);have i1:(k:Int)<(m:Int):=(by omega);clear ev hrv hq hks;by_cases hneg:pl<0
    ·have HR:=Hd (show followS Y vs=(-1,false) by rw [HFS.o,← HFO.o,HD.o,followF_neg _ _ _ _ hneg]);go_wp2;go_ret2;exact ⟨by rw [HR.o]; rfl,HX0.o.trans (HX.o.alloc _)⟩
    ·obtain ⟨p,rfl⟩:∃ p:Nat,pl=(p:Int):=⟨pl.toNat,by omega⟩;have hpn:p<n:=(by rcases HPL.o with h | h <;> omega);have hpY:p<Y.length:=(by rw [← HEN.o]; exact hpn);obtain ⟨ab,ao,Ac,cc,Ar,cr,hA,zA,⟨a0,a1,a2⟩,hcaps,hrow,hints⟩:=(HYM.o.keep (HX.o.kept _)).at_ hpY;subst hA;obtain ⟨a,ea⟩:∃ a,a=Y[p]:=⟨_,rfl⟩;rw [← ea] at a0 a1 a2 hcaps hrow hints;have HFC:=Hd (followF_cons Y v (vs.drop (k+1)) p a (by rw [ea]; exact List.getElem?_eq_getElem hpY));obtain ⟨al,eal⟩:∃ al,al=a.2.1:=⟨_,rfl⟩;obtain ⟨nl,enl⟩:∃ nl,nl=a.2.2:=⟨_,rfl⟩;rw [← eal] at a1 hrow;rw [← enl] at a2 hints;rw [← eal,← enl,← HEN.o] at HFC;have f0:=(HBK.o.keep (HX.o.kept _)).cell (i:=0) rfl;have z2:=(HBK.o.keep (HX.o.kept _)).lt;have HROW:=Hd hrow;have HINT:=Hd hints;have hnl:=hints.2;obtain ⟨nn,enn⟩:∃ nn,nn=nl.length:=⟨_,rfl⟩;have HNN:=Hd enn;rw [← enn] at a2 hnl HFC;obtain ⟨wb,hwb⟩:∃ wb,wb=(wr.alloc (.cells #[.int .i64 v.kind,.string v.s,.int .i64 v.dn,.int .i64 v.ds,.int .i64 v.n,.slice A1 v.cols.length c1,.slice B1 v.rows.length e1] 47)).alloc (.cells #[.int .i64 a.1,.slice Ac al.length cc,.slice Ar nn cr] 59):=⟨_,rfl⟩;have hxb:Ext wr wb:=(by rw [hwb]; exact ((Ext.refl wr).alloc _).alloc _);have hb8:Blk wb wr.heap.size 47 #[.int .i64 v.kind,.string v.s,.int .i64 v.dn,.int .i64 v.ds,.int .i64 v.n,.slice A1 v.cols.length c1,.slice B1 v.rows.length e1]:=(by rw [hwb]; exact (Blk.new _ _ _).keep (Kept.alloc _ _ _));have hb9:Blk wb (wr.heap.size+1) 59 #[.int .i64 a.1,.slice Ac al.length cc,.slice Ar nn cr]:=by
      rw [hwb];have:=Blk.new (wr.alloc (.cells #[.int .i64 v.kind,.string v.s,.int .i64 v.dn,.int .i64 v.ds,.int .i64 v.n,.slice A1 v.cols.length c1,.slice B1 v.rows.length e1] 47)) 59 #[.int .i64 a.1,.slice Ac al.length cc,.slice Ar nn cr]
      simpa using this
     have HCALL:=Hd (IndexFunc_follow d al Ac cc v A1 B1 c1 e1 wr.heap.size wb S T (Row.keep hrow (hxb.kept _)) (HRV.o.keep (hxb.kept _)) hb8);have HXB:=Hd hxb;have HB9:=Hd hb9;have HWB:=Hd hwb;have g1':=hb9.cell (i:=1) rfl;have g2':=hb9.cell (i:=2) rfl;have hixr:=idxV_ge al v;obtain ⟨ix,eix⟩:∃ ix,ix=idxV al v:=⟨_,rfl⟩;rw [← eix] at HCALL HFC hixr;obtain ⟨na,ena⟩:∃ na,na=al.length:=⟨_,rfl⟩;rw [← ena] at HCALL HB9 g1' a1 HWB hixr;have i2:(0:Int)≤(p:Int):=(by omega);have i3:(p:Int)<(n:Int):=(by omega);clear ea eal enl hrow hints hcaps hxb hb8 hb9 hwb eix enn ena hpY
     go_upto_region 10 with fail
     rw [← HWB.o];clear a0 a1 a2 x0 x1 x2 x3 x4 x5 x6 z1 zA z2
     go_wp2_with fail
     refine HCALL.o.mono ?_;rintro e9 w9 ⟨rfl,hx9⟩;have HX9:=Hd ((HX.o.trans HXB.o).trans hx9);have HB99:=Hd (HB9.o.keep (hx9.kept _));have g2:=HB99.o.cell (i:=2) rfl;have f9:=((HBK.o.keep (HX.o.kept _)).keep (HXB.o.kept _)).keep (hx9.kept _) |>.cell (i:=0) rfl;have HX99:=Hd (HXB.o.trans hx9);clear hx9 g1' g2' f0 HCALL;by_cases hix0:ix<0
     ·have HR:=Hd (show followS Y vs=(-1,false) by rw [HFS.o,← HFO.o,HD.o,HFC.o,if_pos (.inl hix0)]);go_wp2;go_ret2;exact ⟨by rw [HR.o]; rfl,HX0.o.trans HX9.o⟩
     ·by_cases hixn:(nn:Int)≤ix
      ·have HR:=Hd (show followS Y vs=(-1,false) by rw [HFS.o,← HFO.o,HD.o,HFC.o,if_pos (.inr hixn)]);go_wp2;go_ret2;exact ⟨by rw [HR.o]; rfl,HX0.o.trans HX9.o⟩
      ·have HFD:=Hd (show ¬ (ix<0∨(nn:Int)≤ix) by omega);obtain ⟨ii,rfl⟩:∃ ii:Nat,ix=(ii:Int):=⟨ix.toNat,by omega⟩;have hiin:ii<nl.length:=(by rw [← HNN.o]; omega);obtain ⟨nb,no,hAr,_,hnc⟩:=(HINT.o.keep (HX99.o.kept _)).at_ hiin;subst hAr;obtain ⟨nx,enx⟩:∃ nx,nx=nl[ii]:=⟨_,rfl⟩;rw [← enx] at hnc;have HG:=Hd (show nl.getD ((ii:Nat):Int).toNat 0=nx by rw [Int.toNat_natCast,getD_of _ _ _ hiin,enx]);have HF2:=Hd (show followF Y vs st=if nx≠-1∧(nx≤(p:Int)∨(n:Int)≤nx) then (-1,false) else followF Y (vs.drop (k+1)) nx by rw [← HFO.o,HD.o,HFC.o,if_neg HFD.o,HG.o]);have i4:(0:Int)≤(ii:Int):=(by omega);have i5:(ii:Int)<(nn:Int):=(by omega);clear enx hiin;by_cases hm1:nx=-1
       ·have j1:(nx != -1)=false:=(by rw [bne_eq_false_iff_eq]; exact hm1);have HREL:=Hd (show followF Y (vs.drop (k+1)) nx=followF Y vs st by rw [HF2.o,if_neg (fun h=>h.1 hm1)]);have HM1:=Hd hm1;clear hm1;go_wp2;go_roundw
        case rel=>exact ⟨k+1,nx,by omega,rfl,by go_num,.inl HM1.o,HREL.o,HX9.o⟩
        case measure=>simp [intOf]; omega
       ·have j1:(nx != -1)=true:=(by rw [bne_iff_ne]; exact hm1);by_cases hle:nx≤(p:Int)
        ·have HR:=Hd (show followS Y vs=(-1,false) by rw [HFS.o,HF2.o,if_pos ⟨hm1,.inl hle⟩]);clear hm1;go_wp2;go_ret2;exact ⟨by rw [HR.o]; rfl,HX0.o.trans HX9.o⟩
        ·by_cases hge:(n:Int)≤nx
         ·have HR:=Hd (show followS Y vs=(-1,false) by rw [HFS.o,HF2.o,if_pos ⟨hm1,.inr hge⟩]);clear hm1;go_wp2;go_ret2;exact ⟨by rw [HR.o]; rfl,HX0.o.trans HX9.o⟩
         ·have HREL:=Hd (show followF Y (vs.drop (k+1)) nx=followF Y vs st by rw [HF2.o,if_neg (by omega)]);clear hm1;go_wp2;go_roundw
          case rel=>exact ⟨k+1,nx,by omega,rfl,by go_num,.inr ⟨by omega,by omega⟩,HREL.o,HX9.o⟩
          case measure=>simp [intOf]; omega
   ·have HR:=Hd (show followS Y vs=(pl,true) by
     have h1:=HFO.o;rw [List.drop_eq_nil_of_le (by rw [← HEM.o]; omega)] at h1;rw [HFS.o,← h1];rfl)
    go_wp2;go_ret2;exact ⟨by rw [HR.o]; rfl,HX0.o.trans HX.o⟩
 ·have e0:=HS3.o hn0;have HE0:=Hd e0;clear e0;go_wp2
  go_loopw [6,18] (fun p i wr=>∃ (k:Nat) (pl:Int),k≤m∧p=.int .i64 pl∧i=.int .i64 (k:Int)∧(pl=-1∨(0≤pl∧pl<(n:Int)))∧followF Y (vs.drop k) pl=followF Y vs st∧Ext w0 wr) (fun _ i _=>m-(intOf i).toNat)
  case atStart=>exact ⟨0,-1,Nat.zero_le _,rfl,rfl,.inl rfl,by rw [List.drop_zero,HE0.o],Ext.refl _⟩
  case round =>
   clear q0;obtain ⟨k,pl,hk,rfl,rfl,hpl,hfo,hx⟩:=hrel;have HX:=Hd hx;have HFO:=Hd hfo;have HPL:=Hd hpl;clear hx hfo hpl;by_cases hlt:k<m
   ·have hks:k<vs.length:=(by rw [← HEM.o]; exact hlt);obtain ⟨g1,o1,A1,c1,B1,e1,hB,z1,⟨x0,x1,x2,x3,x4,x5,x6⟩,hq,hrv⟩:=(Row.keep HVM.o (HX.o.kept _)).at_ hks;subst hB;obtain ⟨v,ev⟩:∃ v,v=vs[k]:=⟨_,rfl⟩;rw [← ev] at x0 x1 x2 x3 x4 x5 x6 hrv;have HD:=Hd (show vs.drop k=v :: vs.drop (k+1) by rw [ev]; exact List.drop_eq_getElem_cons hks);have HRV:=Hd hrv;have i0:(0:Int)≤(k:Int):=(by omega);have i1:(k:Int)<(m:Int):=(by omega);clear ev hrv hq hks;by_cases hneg:pl<0
    ·have HR:=Hd (show followS Y vs=(-1,false) by rw [HFS.o,← HFO.o,HD.o,followF_neg _ _ _ _ hneg]);go_wp2;go_ret2;exact ⟨by rw [HR.o]; rfl,HX0.o.trans (HX.o.alloc _)⟩
    ·exfalso
     rcases HPL.o with h | h <;> omega
   ·have HR:=Hd (show followS Y vs=(pl,true) by
     have h1:=HFO.o;rw [List.drop_eq_nil_of_le (by rw [← HEM.o]; omega)] at h1;rw [HFS.o,← h1];rfl)
    go_wp2;go_ret2;exact ⟨by rw [HR.o]; rfl,HX0.o.trans HX.o⟩
/- The law's number and lists. Conditions: the lists read as data. -/

theorem nums_inj:∀ {x y:List Nat},nums x=nums y→x=y
 | [],[],_=>rfl
 | [],_ :: _,h=>by simp [nums] at h
 | _ :: _,[],h=>by simp [nums] at h
 | a :: x,b :: y,h=>by
  simp only [nums,List.map_cons,List.cons.injEq] at h;rw [nums_inj (x:=x) (y:=y) h.2,show a=b by omega]
def numV (n:Int):Val:=⟨2,⟨#[]⟩,n,0,0,[],[]⟩
set_option maxRecDepth 100000 in
set_option maxHeartbeats 1000000 in
theorem l25_number (n:Int) (w:World):Calls Tryz.prog 47 #[.int .i64 n] w (fun e w'=>e=.returned (.agg #[.int .i64 2,.string ⟨#[]⟩,.int .i64 n,.int .i64 0,.int .i64 0,.slice none 0 0,.slice none 0 0])∧Ext w w'):=by
 go_enter Tryz.func47,Tryz.ntmps47
 go_wp2;refine bodyPost_ret (v:=.agg #[.int .i64 2,.string ⟨#[]⟩,.int .i64 n,.int .i64 0,.int .i64 0,.slice none 0 0,.slice none 0 0]) (by simp [results,Tryz.results47,go_sem]) rfl ⟨rfl,?_⟩;exact (Ext.refl w).alloc _
set_option maxRecDepth 100000 in
set_option maxHeartbeats 1000000 in
theorem l25_lists (a b:List (List Nat)) (A B:Option Addr) (c e:Nat) (w:World) (S T:Nat→Prop) (ha:NN w S A a) (hb:NN w T B b):Calls Tryz.prog 19 #[.slice A a.length c,.slice B b.length e] w (RetB w (decide (a=b))):=by
 have HA:=Hd ha;have HB:=Hd hb;have hal:=ha.1;have hbl:=hb.1;obtain ⟨na,ena⟩:∃ n,n=a.length:=⟨_,rfl⟩;obtain ⟨nb,enb⟩:∃ n,n=b.length:=⟨_,rfl⟩;have HNA:=Hd ena;have HNB:=Hd enb;rw [← ena] at hal ⊢;rw [← enb] at hbl ⊢;clear ha hb ena enb;by_cases hl:na=nb
 ·subst hl
  go_enter Tryz.func19,Tryz.ntmps19
  go_wp2
  go_loopw [13] (fun i wr=>∃ k:Nat,k≤na∧a.take k=b.take k∧i=.int .i64 (k:Int)∧Ext w wr) (fun i _=>na-(intOf i).toNat)
  case atStart=>exact ⟨0,Nat.zero_le _,by simp,rfl,Ext.refl _⟩
  case round =>
   obtain ⟨k,hk,hpre,rfl,hx⟩:=hrel;have HX:=Hd hx;have HP:=Hd hpre;clear hx hpre;by_cases hlt:k<na
   ·have hka:k<a.length:=(by rw [← HNA.o]; exact hlt);have hkb:k<b.length:=(by rw [← HNB.o]; exact hlt);obtain ⟨b1,o1,B1,e1,hA,_,hc1,-,hn1⟩:=(HA.o.keep (HX.o.kept _)).at_ hka;obtain ⟨b2,o2,B2,e2,hB,_,hc2,-,hn2⟩:=(HB.o.keep (HX.o.kept _)).at_ hkb;subst hA hB;obtain ⟨x,ex⟩:∃ x,x=a[k]:=⟨_,rfl⟩;obtain ⟨y,ey⟩:∃ y,y=b[k]:=⟨_,rfl⟩;rw [← ex] at hc1 hn1;rw [← ey] at hc2 hn2;have HEX:=Hd ex;have HEY:=Hd ey;obtain ⟨b0,eb0⟩:∃ b0,b0=decide (x=y):=⟨_,rfl⟩;have HB0:=Hd eb0;have HCI:=Hd (show ∀ w':World,Ext wr w'→Calls Tryz.prog 22 #[.slice B1 x.length e1,.slice B2 y.length e2] w' (RetB w' b0) from fun w' hx=>by
     have h1:=r13_Ints (nums x) (nums y) B1 B2 e1 e2 w' S T ⟨(hn1.keep (hx.kept _)).1,by simp [nums]; exact hn1.2⟩ ⟨(hn2.keep (hx.kept _)).1,by simp [nums]; exact hn2.2⟩;have e3:decide (nums x=nums y)=b0:=by
      rw [eb0];by_cases h:x=y
      ·simp [h]
      ·have h2:nums x≠nums y:=fun h2=>h (nums_inj h2);simp [h,h2]
     rw [e3] at h1
     simpa [nums] using h1)
    obtain ⟨nx,enx⟩:∃ n,n=x.length:=⟨_,rfl⟩;obtain ⟨ny,eny⟩:∃ n,n=y.length:=⟨_,rfl⟩;rw [← enx] at hc1 HCI;rw [← eny] at hc2 HCI;have P0:=Hd hc1;have Q0:=Hd hc2;have i0:(0:Int)≤(k:Int):=(by omega);have i1:(k:Int)<(na:Int):=(by omega);clear hc1 hc2 hn1 hn2 ex ey enx eny eb0
    go_upto_region 6 with fail
    refine wp_region_chain (by kernel_rfl) (fun i=>[i]) (by kernel_rfl) (LZ (fun _ _=>False)) (LZ.refl _) (LZ.trans _) (LK []) gz0 (LK.zero _) ?_;apply Chain.pure (LZ.refl _) (by rfl)
    ·intro vals γ w' ρ hR hN hp hρ hc hf hg;refine ⟨rfl,?_⟩;have e0:=hρ 0;(conv at e0=>rhs; whnf);clear hR hN hp hρ;go_light;go_simp;exact ⟨rfl,rfl⟩
    ·rfl
    apply Chain.pure (LZ.refl _) (by rfl)
    ·intro vals γ w' ρ hR hN hp hρ hc hf hg;refine ⟨rfl,?_⟩;have e5:=hρ 5;(conv at e5=>rhs; whnf);clear hR hN hp hρ;go_light;go_simp;exact ⟨rfl,rfl⟩
    ·rfl
    apply Chain.pure (LZ.refl _) (by rfl)
    ·intro vals γ w' ρ hR hN hp hρ hc hf hg;refine ⟨rfl,?_⟩;have e16:ρ (.tmp 16)=_:=(hρ 16).trans (hp 0 (by decide));have e17:ρ (.tmp 17)=_:=(hρ 17).trans (hp 1 (by decide));clear hR hN hp hρ;go_light;go_simp;exact ⟨rfl,rfl⟩
    ·rfl
    apply Chain.pure (LZ.refl _) (by rfl)
    ·intro vals γ w' ρ hR hN hp hρ hc hf hg;refine ⟨rfl,?_⟩;have e18:ρ (.tmp 18)=_:=(hρ 18).trans (hp 2 (by decide));have hxx:=hR.ext0 (fun _ _ _ h=>h.elim);have k0:=hxx.cell P0.o;have k1:=hxx.cell Q0.o;clear hxx hR hN hp hρ;go_light;go_simp;exact ⟨rfl,rfl⟩
    ·rfl
    apply Chain.pure (LZ.refl _) (by rfl)
    ·intro vals γ w' ρ hR hN hp hρ hc hf hg;refine ⟨rfl,?_⟩;have e1:=hρ 1;(conv at e1=>rhs; whnf);clear hR hN hp hρ;go_light;go_simp;exact ⟨rfl,rfl⟩
    ·rfl
    apply Chain.pure (LZ.refl _) (by rfl)
    ·intro vals γ w' ρ hR hN hp hρ hc hf hg;refine ⟨rfl,?_⟩;have e5:=hρ 5;(conv at e5=>rhs; whnf);clear hR hN hp hρ;go_light;go_simp;exact ⟨rfl,rfl⟩
    ·rfl
    apply Chain.pure (LZ.refl _) (by rfl)
    ·intro vals γ w' ρ hR hN hp hρ hc hf hg;refine ⟨rfl,?_⟩;have e20:ρ (.tmp 20)=_:=(hρ 20).trans (hp 4 (by decide));have e21:ρ (.tmp 21)=_:=(hρ 21).trans (hp 5 (by decide));clear hR hN hp hρ;go_light;go_simp;exact ⟨rfl,rfl⟩
    ·rfl
    apply Chain.pure (LZ.refl _) (by rfl)
    ·intro vals γ w' ρ hR hN hp hρ hc hf hg;refine ⟨rfl,?_⟩;have e22:ρ (.tmp 22)=_:=(hρ 22).trans (hp 6 (by decide));have hxx:=hR.ext0 (fun _ _ _ h=>h.elim);have k0:=hxx.cell P0.o;have k1:=hxx.cell Q0.o;clear hxx hR hN hp hρ;go_light;go_simp;exact ⟨rfl,rfl⟩
    ·rfl
    refine Chain.step (FP fun v γ w'=>v=.bool b0) (by rfl) (FP.stab ?_) ?_ ?_
    ·intro v γ w1 γ' w2 r h;exact h
    ·intro vals γ w' ρ hR hN hp hρ hc hf hg;refine ⟨rfl,?_⟩;have e19:ρ (.tmp 19)=_:=(hρ 19).trans (hp 3 (by decide));have e23:ρ (.tmp 23)=_:=(hρ 23).trans (hp 7 (by decide));have HR:=Hd hR;have hxx:=hR.ext0 (fun _ _ _ h=>h.elim);have HXW:=Hd hxx;clear hxx hR hN hp hρ;go_light;go_simp;refine (HCI.o w' HXW.o).mono ?_;rintro e1 w3 ⟨he,hx⟩;exact ⟨_,he,γ,LZ.of_ext _ γ hx,fun _ _ _ h=>h,rfl⟩
    apply Chain.pure (LZ.refl _) (by rfl)
    ·intro vals γ w' ρ hR hN hp hρ hc hf hg;refine ⟨rfl,?_⟩;have e24:ρ (.tmp 24)=_:=(hρ 24).trans (hp 8 (by decide));clear hR hN hp hρ;go_light;go_simp;exact ⟨rfl,rfl⟩
    ·rfl
    intro vals γ w9 hR hG;have v0:vals 0=_:=hG 0 (by decide);have v1:vals 1=_:=hG 1 (by decide);have v2:vals 2=_:=hG 2 (by decide);have v3:vals 3=_:=hG 3 (by decide);have v4:vals 4=_:=hG 4 (by decide);have v5:vals 5=_:=hG 5 (by decide);have v6:vals 6=_:=hG 6 (by decide);have v7:vals 7=_:=hG 7 (by decide);have v8:vals 8=_:=hG 8 (by decide);have v9:vals 9=_:=hG 9 (by decide);simp only [lexFrame,Act.put,List.setIfInBounds_toArray,List.set_cons_succ,List.set_cons_zero,Nat.zero_add,Nat.reduceAdd,v0,v1,v2,v3,v4,v5,v6,v7,v8,v9];clear v0 v1 v2 v3 v4 v5 v6 v7 v8 v9;have HX9:=Hd (show Ext wr w9 from hR.ext0 (fun _ _ _ h=>h.elim));clear hR hG;have HXJ:=Hd (HX.o.trans HX9.o);cases b0
    ·have HF:=Hd (show decide (a=b)=false by
      rw [decide_eq_false_iff_not];rintro rfl;have h1:=HB0.o;rw [HEX.o,HEY.o] at h1;simp at h1)
     go_wp2;go_ret;exact ⟨by rw [HF.o]; rfl,HXJ.o⟩
    ·have HXY:=Hd (show x=y by simpa using HB0.o.symm);go_wp2;go_roundw
     case rel=>exact ⟨k+1,by omega,by rw [List.take_succ_eq_append_getElem (by rw [← HNA.o]; exact hlt),List.take_succ_eq_append_getElem (by rw [← HNB.o]; exact hlt),HP.o,← HEX.o,← HEY.o,HXY.o],by go_num,HXJ.o⟩
     case measure=>simp [intOf]; omega
   ·have HF:=Hd (show decide (a=b)=true by
     have h:=HP.o;rw [List.take_of_length_le (by rw [← HNA.o]; omega),List.take_of_length_le (by rw [← HNB.o]; omega)] at h;rw [h]; simp)
    go_wp2;go_ret;exact ⟨by rw [HF.o]; rfl,HX.o⟩
 ·have hne:((na:Int) != (nb:Int))=true:=(by rw [bne_iff_ne]; omega);have HF:=Hd (show decide (a=b)=false by rw [decide_eq_false_iff_not]; intro e; exact hl (by rw [HNA.o,HNB.o,e]))
  go_enter Tryz.func19,Tryz.ntmps19
  go_wp2;go_ret;exact ⟨by rw [HF.o]; rfl,Ext.refl _⟩
/- The reference's Value: one of six values. No conditions. -/

def valS (m:Int):Val:=if m=0 then ⟨0,⟨#[]⟩,0,0,18,[],[]⟩ else if m=1∨m=2 then ⟨2,⟨#[]⟩,m,0,0,[],[]⟩ else if m=3 then ⟨1,⟨#[97]⟩,0,0,0,[],[]⟩ else if m=4 then ⟨1,⟨#[98]⟩,0,0,0,[],[]⟩ else ⟨4,⟨#[]⟩,0,0,1,[],[]⟩
theorem mod_bd (a n:Int) (hn:1≤n):-n<a.tmod n∧a.tmod n<n:=by
 have h1:=Int.tmod_lt_of_pos a (b:=n) (by omega);have h2:=Int.tmod_lt_of_pos (-a) (b:=n) (by omega);rw [Int.neg_tmod] at h2;omega
set_option maxRecDepth 100000 in
set_option maxHeartbeats 1000000 in
theorem value_0 (n:Int) (w:World) (hme:(n.tmod 6+6) % 6=0):Calls Tryz.prog 26 #[.int .i64 n] w (fun e w'=>e=.returned (.agg #[.int .i64 0,.string ⟨#[]⟩,.int .i64 0,.int .i64 0,.int .i64 18,.slice none 0 0,.slice none 0 0])∧Ext w w'):=by
 obtain ⟨b1,b2⟩:=mod_bd n 6 (by omega)
 go_enter Tryz.func26,Tryz.ntmps26
 go_wp2;refine bodyPost_ret (v:=.agg #[.int .i64 0,.string ⟨#[]⟩,.int .i64 0,.int .i64 0,.int .i64 18,.slice none 0 0,.slice none 0 0]) (by simp [results,Tryz.results26,go_sem]) rfl ⟨rfl,?_⟩;exact ((Ext.refl w).alloc _)
set_option maxRecDepth 100000 in
set_option maxHeartbeats 1000000 in
theorem value_1 (n:Int) (w:World) (hme:(n.tmod 6+6) % 6=1):Calls Tryz.prog 26 #[.int .i64 n] w (fun e w'=>e=.returned (.agg #[.int .i64 2,.string ⟨#[]⟩,.int .i64 1,.int .i64 0,.int .i64 0,.slice none 0 0,.slice none 0 0])∧Ext w w'):=by
 obtain ⟨b1,b2⟩:=mod_bd n 6 (by omega)
 go_enter Tryz.func26,Tryz.ntmps26
 go_wp2;refine bodyPost_ret (v:=.agg #[.int .i64 2,.string ⟨#[]⟩,.int .i64 1,.int .i64 0,.int .i64 0,.slice none 0 0,.slice none 0 0]) (by simp [results,Tryz.results26,go_sem]) rfl ⟨rfl,?_⟩;exact ((Ext.refl w).alloc _)
set_option maxRecDepth 100000 in
set_option maxHeartbeats 1000000 in
theorem value_2 (n:Int) (w:World) (hme:(n.tmod 6+6) % 6=2):Calls Tryz.prog 26 #[.int .i64 n] w (fun e w'=>e=.returned (.agg #[.int .i64 2,.string ⟨#[]⟩,.int .i64 2,.int .i64 0,.int .i64 0,.slice none 0 0,.slice none 0 0])∧Ext w w'):=by
 obtain ⟨b1,b2⟩:=mod_bd n 6 (by omega)
 go_enter Tryz.func26,Tryz.ntmps26
 go_wp2;refine bodyPost_ret (v:=.agg #[.int .i64 2,.string ⟨#[]⟩,.int .i64 2,.int .i64 0,.int .i64 0,.slice none 0 0,.slice none 0 0]) (by simp [results,Tryz.results26,go_sem]) rfl ⟨rfl,?_⟩;exact ((Ext.refl w).alloc _)
set_option maxRecDepth 100000 in
set_option maxHeartbeats 1000000 in
theorem value_3 (n:Int) (w:World) (hme:(n.tmod 6+6) % 6=3):Calls Tryz.prog 26 #[.int .i64 n] w (fun e w'=>e=.returned (.agg #[.int .i64 1,.string ⟨#[97]⟩,.int .i64 0,.int .i64 0,.int .i64 0,.slice none 0 0,.slice none 0 0])∧Ext w w'):=by
 obtain ⟨b1,b2⟩:=mod_bd n 6 (by omega)
 go_enter Tryz.func26,Tryz.ntmps26
 go_wp2;refine bodyPost_ret (v:=.agg #[.int .i64 1,.string ⟨#[97]⟩,.int .i64 0,.int .i64 0,.int .i64 0,.slice none 0 0,.slice none 0 0]) (by simp [results,Tryz.results26,go_sem]) rfl ⟨rfl,?_⟩;exact ((Ext.refl w).alloc _)
set_option maxRecDepth 100000 in
set_option maxHeartbeats 1000000 in
theorem value_4 (n:Int) (w:World) (hme:(n.tmod 6+6) % 6=4):Calls Tryz.prog 26 #[.int .i64 n] w (fun e w'=>e=.returned (.agg #[.int .i64 1,.string ⟨#[98]⟩,.int .i64 0,.int .i64 0,.int .i64 0,.slice none 0 0,.slice none 0 0])∧Ext w w'):=by
 obtain ⟨b1,b2⟩:=mod_bd n 6 (by omega)
 go_enter Tryz.func26,Tryz.ntmps26
 go_wp2;refine bodyPost_ret (v:=.agg #[.int .i64 1,.string ⟨#[98]⟩,.int .i64 0,.int .i64 0,.int .i64 0,.slice none 0 0,.slice none 0 0]) (by simp [results,Tryz.results26,go_sem]) rfl ⟨rfl,?_⟩;exact ((Ext.refl w).alloc _)
set_option maxRecDepth 100000 in
set_option maxHeartbeats 1000000 in
theorem value_5 (n:Int) (w:World) (hme:(n.tmod 6+6) % 6=5):Calls Tryz.prog 26 #[.int .i64 n] w (fun e w'=>e=.returned (.agg #[.int .i64 4,.string ⟨#[]⟩,.int .i64 0,.int .i64 0,.int .i64 1,.slice none 0 0,.slice none 0 0])∧Ext w w'):=by
 obtain ⟨b1,b2⟩:=mod_bd n 6 (by omega)
 go_enter Tryz.func26,Tryz.ntmps26
 go_wp2;refine bodyPost_ret (v:=.agg #[.int .i64 4,.string ⟨#[]⟩,.int .i64 0,.int .i64 0,.int .i64 1,.slice none 0 0,.slice none 0 0]) (by simp [results,Tryz.results26,go_sem]) rfl ⟨rfl,?_⟩;exact ((Ext.refl w).alloc _)
theorem valS_cmp:((List.range 6).all fun (i:Nat)=>(List.range 6).all fun (j:Nat)=>lessF (valS i) (valS j) || lessF (valS j) (valS i) || i==j)=true:=by kernel_rfl
theorem valS_tri {i j:Nat} (hi:i<6) (hj:j<6) (h1:lessF (valS i) (valS j)=false) (h2:lessF (valS j) (valS i)=false):valS i=valS j:=by
 have h:=valS_cmp;rw [List.all_eq_true] at h;have h3:=h i (by simpa using hi);rw [List.all_eq_true] at h3;have h4:=h3 j (by simpa using hj);rw [h1,h2] at h4;simp at h4;rw [h4]
def VCells (l:List (List Val)):Prop:=∀ r∈l,∀ x∈r,∃ m:Nat,m<6∧x=valS m
theorem VCells.tri {l:List (List Val)} (h:VCells l):Tri l:=by
 intro r hr x hx r' hr' y hy h1 h2;obtain ⟨i,hi,rfl⟩:=h r hr x hx;obtain ⟨j,hj,rfl⟩:=h r' hr' y hy;exact valS_tri hi hj h1 h2
theorem valS_kind (m:Nat) (h:m<6):(valS m).kind≠5:=by
 match m,h with
 | 0,_=>decide
 | 1,_=>decide
 | 2,_=>decide
 | 3,_=>decide
 | 4,_=>decide
 | 5,_=>decide
theorem VCells.noT {l:List (List Val)} (h:VCells l):NoT l:=by
 intro r hr x hx;obtain ⟨i,hi,rfl⟩:=h r hr x hx;exact valS_kind i hi
end Go.Proofs.YtomdpipekmcojaaGreatDoor
