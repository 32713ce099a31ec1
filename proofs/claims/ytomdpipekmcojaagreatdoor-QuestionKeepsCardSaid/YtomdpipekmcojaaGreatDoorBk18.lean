/- question.Check of plans as Make makes them. Conditions: the answers and the plan read as data. -/
import Derived.Test.YtomdpipekmcojaaGreatDoorBk17
namespace Go.Proofs.YtomdpipekmcojaaGreatDoor
open Go Go.RowKit

set_option maxRecDepth 100000 in
set_option maxHeartbeats 1000000 in
theorem question_Check (d:Nat) (l:List (List Val)) (A:Option Addr) (c:Nat) (hz:Int) (A':Option Addr) (c':Nat) (w:World) (S:Nat→Prop) (hr:Rows w S d A l) (hS:∀ b,S b→b<w.heap.size) (hk:NoT l) (hl:l.length<20) (hN:inpS l≤1000) (hac:l.length≤c) (ht:Tens w) (hp:AS w S d A' (makeF l hz).1) :
  Calls Tryz.prog 17 #[.slice A l.length c,.int .i64 hz,.agg #[.slice A' (makeF l hz).1.length c',.int .i64 ((makeF l hz).2.1:Int),.int .i64 ((makeF l hz).2.2:Int)]] w (RetB w (decide (errM l hz=0))):=by
 obtain ⟨n,en⟩:∃ n,n=l.length:=⟨_,rfl⟩;have HNE:=Hd en;have hn20:n<20:=(by omega);obtain ⟨Y,eY⟩:∃ Y,Y=(makeF l hz).1:=⟨_,rfl⟩;obtain ⟨n',en'⟩:∃ n',n'=Y.length:=⟨_,rfl⟩;obtain ⟨dp,edp⟩:∃ dp:Int,dp=((makeF l hz).2.1:Int):=⟨_,rfl⟩;obtain ⟨lo,elo⟩:∃ lo:Int,lo=((makeF l hz).2.2:Int):=⟨_,rfl⟩;rw [← eY] at hp;rw [← eY,← en',← edp,← elo];obtain ⟨w0,hw0⟩:∃ w0,w0=w.alloc (.cells #[.slice A' n' c',.int .i64 dp,.int .i64 lo] 29):=⟨_,rfl⟩;obtain ⟨b5,hb5⟩:∃ b5,b5=w.heap.size:=⟨_,rfl⟩;have hx0:Ext w w0:=(by rw [hw0]; exact (Ext.refl w).alloc _);have hbk:Blk w0 b5 29 #[.slice A' n' c',.int .i64 dp,.int .i64 lo]:=(by rw [hw0,hb5]; exact Blk.new _ _ _);have HW0:=Hd hw0;have HB5E:=Hd hb5;have HX0:=Hd hx0;have HBK:=Hd hbk;have HR0:=Hd (hr.keep (hx0.kept S));have HAS:=Hd (hp.keep (hx0.kept S));have HSS:=Hd hS;have HKT:=Hd hk;have HL:=Hd hl;have HN:=Hd hN;have HT:=Hd (ht.ext hx0);have HAC:=Hd hac;have HEY:=Hd eY;have HN':=Hd en';have HDP:=Hd edp;have HLO:=Hd elo;have HRI:=Hd (question_right d l A c w0 S HR0.o hk);rw [← en] at HRI ⊢;clear hr hS hk hl hN ht hac hw0 hb5 hx0 hbk en hp eY en' edp elo
 go_enter Tryz.func17,Tryz.ntmps17
 go_upto_region 1 with fail
 rw [← HW0.o,← HB5E.o]
 go_wp2_with fail
 refine HRI.o.mono ?_;rintro e1 w1 ⟨rfl,hx1⟩;have HX1:=Hd hx1;have HXA:=Hd (HX0.o.trans hx1);clear hx1;cases hra:rightA l
 ·have HE:=Hd (show decide (errM l hz=0)=false by unfold errM; rw [if_pos (.inl hra)]; rfl);clear hra;go_wp2;go_ret;exact ⟨by rw [HE.o]; rfl,HXA.o⟩
 ·have HRA:=Hd hra;clear hra;by_cases hh0:hz<0
  ·have HE:=Hd (show decide (errM l hz=0)=false by unfold errM; rw [if_pos (.inr (.inl hh0))]; rfl);go_wp2;go_ret;exact ⟨by rw [HE.o]; rfl,HXA.o⟩
  ·by_cases hh6:6<hz
   ·have HE:=Hd (show decide (errM l hz=0)=false by unfold errM; rw [if_pos (.inr (.inr hh6))]; rfl);go_wp2;go_ret;exact ⟨by rw [HE.o]; rfl,HXA.o⟩
   ·have HE1:=Hd (show ¬ (rightA l=false∨hz<0∨6<hz) by rintro (e | e | e); (rw [HRA.o] at e; cases e); exact hh0 e; exact hh6 e);by_cases hn12:12<n
    ·have HE:=Hd (show decide (errM l hz=0)=false by unfold errM; rw [if_neg HE1.o,if_pos (.inl (by rw [← HNE.o]; exact hn12))]; rfl);have i12:(12:Int)<(n:Int):=(by omega);go_wp2;go_ret;exact ⟨by rw [HE.o]; rfl,HXA.o⟩
    ·have i12:¬ (12:Int)<(n:Int):=(by omega);have HIN:=Hd (question_inputs d l A c w1 S (HR0.o.keep (HX1.o.kept S)));rw [← HNE.o] at HIN;obtain ⟨N,eN⟩:∃ N,N=inpS l:=⟨_,rfl⟩;rw [← eN] at HIN;have HEN:=Hd eN;clear eN
     go_wp2_with fail
     refine HIN.o.mono ?_;rintro e2 wr ⟨rfl,rfl⟩;by_cases hN10:10<N
     ·have HE:=Hd (show decide (errM l hz=0)=false by unfold errM; rw [if_neg HE1.o,if_pos (.inr (by rw [← HEN.o]; exact hN10))]; rfl);have i10:(10:Int)<(N:Int):=(by omega);go_wp2;go_ret;exact ⟨by rw [HE.o]; rfl,HXA.o⟩
     ·have i10:¬ (10:Int)<(N:Int):=(by omega);have HE2:=Hd (show ¬ (12<l.length∨10<inpS l) by rw [← HNE.o,← HEN.o]; omega);have HWI:=Hd (rightA_wide HRA.o);obtain ⟨wr,hwr⟩:∃ wr,wr=w1:=⟨_,rfl⟩;rw [← hwr] at HX1 HXA ⊢;obtain ⟨W,eW⟩:∃ W,W=wr.heap.size:=⟨_,rfl⟩;have HWE:=Hd eW;have HNP:=Hd (show ∀ w':World,Ext wr w'→Calls Tryz.prog 51 #[.slice A n c] w' (RetNP w' l A c) from fun w' hx=>by
       have h1:=question_newPlanner d l A c w' S ((HR0.o.keep (HX1.o.kept S)).keep (hx.kept S)) (fun b hb=>Nat.lt_of_lt_of_le (HSS.o b hb) (Nat.le_trans HXA.o.size hx.size)) HKT.o HL.o HWI.o HN.o ((HT.o.ext HX1.o).ext hx);rw [← HNE.o] at h1;exact h1)
      have hbk1:=HBK.o.keep (HX1.o.kept _);have D0:=Hd (hbk1.cell (i:=0) rfl);have D1:=Hd (hbk1.cell (i:=1) rfl);have D2:=Hd (hbk1.cell (i:=2) rfl);have HBK1:=Hd hbk1;have hY20:n'≤1000:=by
       rw [HN'.out,HEY.o];unfold makeF;split
       ·show (planA l).length≤1000;by_cases hne:allP l=[]
        ·unfold planA; rw [hne,plan_eq (spl_small l),if_pos (by rfl)]; simp
        ·have h1:=plan_len l (inpS l) (ans l) _ (allP l) 0 (Nat.le_refl _) hne;have h2:(allP l).length=l.length:=List.length_range;have:=HL.o;unfold planA;omega
       ·simp
      have HN1000:=Hd hY20;clear hwr eW hbk1 HIN HRI
      go_upto_region 5 with fail
      refine wp_region_chain (by kernel_rfl) (fun | 7=>[1,6,7] | 9=>[8,9] | i=>[i]) (by kernel_rfl) (LX (fun _ _=>False)) (LX.refl _) (LX.trans _) (LM [(9,[8])]) gh0 (LM.zero _) ?_;apply Chain.pure (LX.refl _) (by rfl)
      ·intro vals γ w' ρ hR hN hp hρ hc hf hg;refine ⟨rfl,?_⟩;have e0:=hρ 0;(conv at e0=>rhs; whnf);clear hR hN hp hρ;go_light;go_simp;exact ⟨rfl,rfl⟩
      ·rfl
      refine Chain.step (FP fun v γ w'=>NpL W l A c v γ w') (by rfl) (FP.stab ?_) ?_ ?_
      ·exact NpL.stab
      ·intro vals γ w' ρ hR hN hp hρ hc hf hg;refine ⟨rfl,?_⟩;have e30:ρ (.tmp 30)=_:=(hρ 30).trans (hp 0 (by decide));have HR:=Hd hR;have HXW:=Hd (hR.ext0 (fun _ _ h=>h.elim));clear hR hN hp hρ;go_light;go_simp;refine (HNP.o w' HXW.o).mono ?_;rintro e1 w3 ⟨bP,bm,PA,pc,he,hbP,hbm,hne,hx,hblk,hnn,hmap⟩;exact ⟨_,he,γ,LX.of_ext _ γ hx,fun _ _ _ h=>h,⟨bP,bm,PA,pc,rfl,by have:=HR.o.size; have e0:wr.drew.heap.size=wr.heap.size:=rfl; have:=HWE.o; omega,by have:=HR.o.size; have e0:wr.drew.heap.size=wr.heap.size:=rfl; have:=HWE.o; omega,hne,fun ⟨k',hk'⟩=>by have:=HR.o.inb0 k' _ hk'; omega,fun ⟨k',hk'⟩=>by have:=HR.o.inb0 k' _ hk'; omega,hblk,hnn.mono fun b _ hb=>⟨by have:=HR.o.size; have e0:wr.drew.heap.size=wr.heap.size:=rfl; have:=HWE.o; omega,hb.2.1,hb.2.2,fun ⟨k',hk'⟩=>by have:=HR.o.inb0 k' _ hk'; omega⟩,hmap⟩⟩
      apply Chain.pure (LX.refl _) (by rfl)
      ·intro vals γ w' ρ hR hN hp hρ hc hf hg;refine ⟨rfl,?_⟩;have e5:=hρ 5;(conv at e5=>rhs; whnf);have hxx:=hR.ext0 (fun _ _ h=>h.elim);have k0:=hxx.cell D0.o;have k1:=hxx.cell D1.o;have k2:=hxx.cell D2.o;clear hxx hR hN hp hρ;go_light;go_simp;exact ⟨rfl,rfl⟩
      ·rfl
      apply Chain.pure (LX.refl _) (by rfl)
      ·intro vals γ w' ρ hR hN hp hρ hc hf hg;refine ⟨rfl,?_⟩;have e5:=hρ 5;(conv at e5=>rhs; whnf);clear hR hN hp hρ;go_light;go_simp;exact ⟨rfl,rfl⟩
      ·rfl
      apply Chain.pure (LX.refl _) (by rfl)
      ·intro vals γ w' ρ hR hN hp hρ hc hf hg;refine ⟨rfl,?_⟩;have e33:ρ (.tmp 33)=_:=(hρ 33).trans (hp 3 (by decide));have hxx:=hR.ext0 (fun _ _ h=>h.elim);have k0:=hxx.cell D0.o;have k1:=hxx.cell D1.o;have k2:=hxx.cell D2.o;clear hxx hR hN hp hρ;go_light;go_simp;exact ⟨rfl,rfl⟩
      ·rfl
      apply Chain.pure (LX.refl _) (by rfl)
      ·intro vals γ w' ρ hR hN hp hρ hc hf hg;refine ⟨rfl,?_⟩;have e34:ρ (.tmp 34)=_:=(hρ 34).trans (hp 4 (by decide));clear hR hN hp hρ;go_light;go_simp;exact ⟨rfl,rfl⟩
      ·rfl
      refine Chain.step (FP fun v γ w'=>BoL W n' v γ w') (by rfl) (FP.stab ?_) ?_ ?_
      ·exact BoL.stab
      ·intro vals γ w' ρ hR hN hp hρ hc hf hg;refine ⟨rfl,?_⟩;have e35:ρ (.tmp 35)=_:=(hρ 35).trans (hp 5 (by decide));have HR:=Hd hR;have hmk:=run_mkB n' (by have:=HN1000.o; omega);clear hR hN hp hρ;go_light;go_simp;have hF:BoL W n' (.slice (some ⟨w'.heap.size,0,none⟩) n' n') γ (w'.alloc (.cells (bcells (List.replicate n' false)) 4)):=⟨_,rfl,by have:=HR.o.size; have e0:wr.drew.heap.size=wr.heap.size:=rfl; have:=HWE.o; omega,fun ⟨k',hk'⟩=>by have:=HR.o.inb0 k' _ hk'; omega,Blk.new _ _ _⟩;exact ⟨γ,LX.of_ext _ γ ((Ext.refl _).alloc _),fun _ _ _ h=>h,hF⟩
      refine Chain.step (fun vl γ w'=>match vl with | [a,b,v]=>C7 A' n' c' dp lo a b v | _=>True) (by rfl) ?_ ?_ ?_
      ·intro l γ w1 γ' w2 rr h;exact h
      ·intro vals γ w' ρ hR hN hp hρ hc hf hg;refine ⟨rfl,?_⟩;obtain ⟨bP,bm,PA,pc,hv1,-⟩:=hp 1 (by decide);obtain ⟨bR,hv6,-⟩:=hp 6 (by decide);have e31:=(hρ 31).trans hv1;have e36:=(hρ 36).trans hv6;have e32:ρ (.tmp 32)=_:=(hρ 32).trans (hp 2 (by decide));have HV1:=Hd (show vals 1=_ from hv1);have HV6:=Hd (show vals 6=_ from hv6);clear hR hN hp hρ hv1 hv6;go_light;go_simp;exact ⟨γ,LX.refl _ _ _,fun _ _ _ h=>h,bP,bR,HV1.o,HV6.o,rfl⟩
      refine Chain.step (FP (VarX (fun _ _=>False) 8 100 5)) (by rfl) (FP.stab VarX.stab) ?_ ?_
      ·intro vals γ w' ρ hR hN hp hρ hc hf hg;refine ⟨rfl,?_⟩;have HR:=Hd hR;have HN:=Hd hN;clear hR hN hp hρ;go_light;go_simp;exact ⟨γ.put 8 (some w'.heap.size),LX.new (by decide) (HN.o.2 (by decide) ⟨9,by decide⟩) _ _,LM.made,VarX.new HR.o.inb0 rfl (fun _ _ h=>h.elim)⟩
      refine Chain.step (fun vl γ w'=>match vl with | [p,_]=>CkF W l A c A' n' c' dp lo p γ w' | _=>True) (by rfl) ?_ ?_ ?_
      ·intro l γ w1 γ' w2 rr h
       match l,h with
       | [],_=>trivial
       | [_],_=>trivial
       | [p,q],h=>exact CkF.lx rr h
       | _ :: _ :: _ :: _,_=>trivial
      ·intro vals γ w' ρ hR hN hp hρ hc hf hg;refine ⟨rfl,?_⟩;obtain ⟨bP,bm,PA,pc,hv1,hnp⟩:=hp 1 (by decide);obtain ⟨bR,hv6,hbo⟩:=hp 6 (by decide);have hc7:C7 A' n' c' dp lo (vals 1) (vals 6) (vals 7):=hp 7 (by decide);obtain ⟨bP',bR',ha7,hb7,hv7⟩:=hc7;have hv1':=ha7.symm.trans hv1;have hv6':=hb7.symm.trans hv6;injection hv1' with hv1';injection hv1' with hv1';injection hv1' with hv1';injection hv6' with hv6';injection hv6' with hv6';injection hv6' with hv6';have hv1':=hv1'.symm;have hv6':=hv6'.symm;subst hv1' hv6';have e37:=(hρ 37).trans hv7;obtain ⟨g,⟨cl⟩,hv,hcs,hb,hk,hst⟩:=VarX.stored (hp 8 (by decide)) (s:=9) (l:=[(9,[8])]) (by decide) hN;have e7:=(hρ 7).trans hv
       match cl,hcs with
       | [x0,x1,x2,x3,x4],_ =>
        have HST:=Hd hst;have HK:=Hd hk;have HB:=Hd hb;have HNP:=Hd hnp;have HBO:=Hd hbo;have q0:=hb.cell (i:=0) rfl;have q1:=hb.cell (i:=1) rfl;have q2:=hb.cell (i:=2) rfl;have q3:=hb.cell (i:=3) rfl;have q4:=hb.cell (i:=4) rfl;have qf0:=hb.frozen 0;have qf1:=hb.frozen 1;have qf2:=hb.frozen 2;have qf3:=hb.frozen 3;have qf4:=hb.frozen 4;have ql:=hb.lt;clear hR hN hp hρ hst hk hb hv hv1 hv6 hv7 ha7 hb7 hnp hbo;go_light;go_simp;obtain ⟨g1,g2⟩:=HST.o _ #[.pointer (some ⟨bP,0,none⟩),.slice A' n' c',.int .i64 dp,.int .i64 lo,.slice (some ⟨bR,0,none⟩) n' n'] ((((((Only.refl g w').set 0 (.pointer (some ⟨bP,0,none⟩))).set 1 (.slice A' n' c')).set 2 (.int .i64 dp)).set 3 (.int .i64 lo)).set 4 (.slice (some ⟨bR,0,none⟩) n' n')) (((((HB.o.set 0 (.pointer (some ⟨bP,0,none⟩))).set 1 (.slice A' n' c')).set 2 (.int .i64 dp)).set 3 (.int .i64 lo)).set 4 (.slice (some ⟨bR,0,none⟩) n' n')) rfl;exact ⟨γ.put 8 none,g1,LM.done (by decide) (.inl ⟨g,HK.o⟩),bP,bm,PA,pc,bR,g2,HNP.o.lx g1,BoL.lx g1 HBO.o⟩
      intro vals γ w9 hR hG;have v0:vals 0=_:=hG 0 (by decide);have v2:vals 2=_:=hG 2 (by decide);have v3:vals 3=_:=hG 3 (by decide);have v4:vals 4=_:=hG 4 (by decide);have v5:vals 5=_:=hG 5 (by decide);obtain ⟨bP,bm,PA,pc,bR,⟨bC,hv8,hbC,-,-⟩,hnp,hbo⟩:CkF W l A c A' n' c' dp lo (vals 8) γ w9:=hG 9 (by decide);have HXR:=Hd (show Ext wr w9 from hR.ext0 (fun _ _ h=>h.elim));have v0:vals 0=_:=hG 0 (by decide);have v2:vals 2=_:=hG 2 (by decide);have v3:vals 3=_:=hG 3 (by decide);have v4:vals 4=_:=hG 4 (by decide);have v5:vals 5=_:=hG 5 (by decide);simp only [lexFrame,Act.put,List.setIfInBounds_toArray,List.set_cons_succ,List.set_cons_zero,Nat.zero_add,Nat.reduceAdd,v0,v2,v3,v4,v5,hv8];generalize vals 1=z1;generalize vals 6=z6;generalize vals 7=z7;have HBC:=Hd hbC;have HNPB:=Hd hnp;have HBO:=Hd hbo;clear hG hR hv8 hbC hnp hbo v0 v2 v3 v4 v5;have hnp:=HNPB.o;have hbo:=HBO.o;obtain ⟨m1,m2,m3,-,-,hbP,hnn,hmap⟩:=hnp;have hbR:=hbo.2.2;have hneR:∀ b t cs,Blk w9 b t cs→t≠4→b≠bR:=fun b t cs hb ht e=>by
       subst e;have:=hb.symm.trans hbR;simp at this;exact ht this.2
      have hneM:∀ b t cs,Blk w9 b t cs→b≠bm:=fun b t cs hb e=>by
       subst e;obtain ⟨es,cl,h1,_⟩:=hmap;have:=hb.symm.trans h1;simp at this
      have hbmR:bm≠bR:=fun e=>hneM bR _ _ hbR e.symm;have hbo1:=hbo.1;have hCK:CK w9 bC bP bm bR l d A' c' Y dp lo :=
       {ck:=⟨n',by rw [← HN'.out]; exact HBC.o⟩
        pn:=⟨A,c,PA,pc,hbP.cell (i:=0) rfl,hbP.cell (i:=1) rfl,hbP.cell (i:=2) rfl,by
         have h1:=((HR0.o.mono (T:=fun b=>b<w.heap.size) fun b hb hs=>HSS.o b hs).keep (HX1.o.kept _)).keep (HXR.o.kept _);have:=HXA.o.size;have:=HWE.o;exact h1.mono fun b _ e=>by omega,(hnn.noB hbR).mono fun b _ e=>⟨e.1.2.1,e.2⟩,HAC.o⟩
        as_:=by
         have h1:=((HAS.o.mono (T:=fun b=>b<w.heap.size) fun b hb hs=>HSS.o b hs).keep (HX1.o.kept _)).keep (HXR.o.kept _);have:=HXA.o.size;have:=HWE.o;exact h1.mono fun b _ e=>by omega
        ne:=⟨hneM _ _ _ HBC.o,hneR _ _ _ HBC.o (by decide),m3,hneR _ _ _ hbP (by decide),hbmR⟩
        lt:=hbP.lt
        map:=⟨[],hmap,Cons.nil _ _ _⟩ }
      have HCK:=Hd hCK;have HBR:=Hd hbR;have HPR:=Hd (show ∀ (g:Nat) (w10:World),w9.heap.size≤g→Blk w10 g 3 (dcells (List.range n))→Ext w9 w10→Nums w10 (fun b=>b≠bm∧b≠bR) (some ⟨g,0,none⟩) (List.range n) from fun g w10 hg hb hx=>by
       have h1:=hb.rd;have h2:=hmap.lt;have h3:=hbR.lt;refine ⟨(show Rd w10 (fun b=>b=g) (some ⟨g,0,none⟩) _ by simpa [dcells] using h1).mono fun b _ e=>by rw [e]; omega,by rw [List.length_range]; omega⟩)
      have HZN:=Hd (show List.range n=[]→inpS l=0 by
       intro e;have h1:l.length=0:=(by have:=congrArg List.length e; rw [List.length_range] at this; rw [← HNE.o]; exact this);rw [List.eq_nil_of_length_eq_zero h1]; rfl)
      have HINC:=Hd (show Inc l.length (List.range n) by rw [HNE.o]; exact Inc.range _);have HDA:=Hd (show depA l=dep (spl l) (inpS l) (List.range n) by unfold depA allP; rw [HNE.o]);clear hbP hnn hmap hbR hneR hneM hbmR hCK m1 m2 m3 hbo1 hbo;by_cases her:errM l hz=0
      ·have HE:=Hd (show decide (errM l hz=0)=true by rw [her]; rfl);have HMF:=Hd (show makeF l hz=(planA l,depA l,lowF l) by unfold makeF; rw [if_pos her]);have HLE:=Hd (show dp≤hz by
        rw [HDP.o,HMF.o];unfold errM at her;rw [if_neg HE1.o,if_neg HE2.o] at her;show ((depA l:Nat):Int)≤hz;split at her
        ·cases her
        ·omega)
       have HPA:=Hd (show planA l=plan (spl l) (inpS l) (ans l) (List.range n) 0 by unfold planA allP; rw [HNE.o]);have HYP:=Hd (show Y=planA l by rw [HEY.o,HMF.o]);have hdz:n'=0↔dep (spl l) (inpS l) (List.range n)=0:=by
        rw [HN'.out,HYP.o,HPA.o];exact plan_nil (spl_small l) _ _ _
       have HVG:=Hd (show ∀ (g:Nat) (w10:World),w9.heap.size≤g→Blk w10 g 3 (dcells (List.range n))→Ext w9 w10→Calls Tryz.prog 60 #[.pointer (some ⟨bC,0,none⟩),.int .i64 (-1),.int .i64 (if n'=0 then -1 else 0),.slice (some ⟨g,0,none⟩) n n] w10 (fun e w'=>e=.returned (.tuple #[.int .i64 dp,.bool true])∧ButS (fun b=>b=bm∨b=bR) w10 w'∧Blk w' bR 4 (bcells (mark (List.replicate n' false) 0 n'))∧∃ M,MapIs w' bm encN M∧Cons (spl l) (inpS l) l.length M) from fun g w10 hg hb hx=>by
        have h1:=visit_ok n l bC bP bm bR d (List.range n) (some ⟨g,0,none⟩) n (A') c' Y [] [] dp lo (List.replicate n' false) (-1) w10 (by rw [List.length_range]; exact Nat.le_refl _) HL.o HWI.o (HCK.o.ext hx) HINC.o HZN.o (HPR.o g w10 hg hb hx) (by rw [HYP.o,HPA.o]; simp) (by rw [← HN'.out]; exact HN1000.o) (by rw [List.length_replicate,HN'.out]) (by simp) (fun i _ hi=>by
         have h2:i<n':=(by rw [HN'.out,HYP.o,HPA.o]; simpa using hi);simp [h2]) (HBR.o.keep (hx.kept _))
        rw [List.length_range,List.length_nil,← HPA.o,← HYP.o,← HN'.out] at h1;have e1:(if dep (spl l) (inpS l) (List.range n)=0 then (-1:Int) else ((0:Nat):Int))=if n'=0 then -1 else 0:=by
         by_cases h0:n'=0
         ·rw [if_pos h0,if_pos (hdz.1 h0)]
         ·rw [if_neg h0,if_neg fun h=>h0 (hdz.2 h)]; rfl
        rw [e1] at h1;refine h1.mono ?_;rintro e w' ⟨rfl,h2,h3,h4⟩;exact ⟨by rw [HDP.o,HMF.o,← HDA.o],h2,h3,h4⟩)
       by_cases hn0:n'=0
       ·have i0:¬ (0:Int)<(n':Int):=(by omega);have HN0:=Hd hn0;clear hn0;have e1:=HBK1.o.keep (HXR.o.kept _) |>.cell (i:=0) rfl
        go_wp2_with fail
        refine (question_programs n (by omega) A c w9).mono ?_;rintro e3 w10 ⟨g,rfl,hg,hbg,hx10⟩;rw [List.length_range];have HVI:=Hd (HVG.o g w10 hg hbg hx10);rw [if_pos HN0.o] at HVI;have HX10:=Hd hx10;have HCK10:=Hd (HCK.o.ext hx10);clear hg hbg hx10 e1
        go_wp2_with fail
        refine HVI.o.mono ?_;rintro e4 w11 ⟨rfl,hb11,hbr11,hm11⟩;have HB11:=Hd hb11;have HX11:=Hd (show Ext w w11 from ButS.exts (HXA.o.trans (HXR.o.trans HX10.o)) hb11 fun b e=>by
         have:=HXA.o.size;have:=HWE.o
         rcases e with e | e
         ·have:=HNPB.o.2.1; omega
         ·have:=HBO.o.1; omega)
        have hck11:=HCK10.o.but hb11 hm11;obtain ⟨rc,hcb⟩:=hck11.ck;rw [← HN'.out] at hcb;have HCK11:=Hd hck11;have F1:=Hd ((HBK1.o.keep ((HXR.o.trans HX10.o).kept _)).keep (hb11.kept fun b _ e f=>by have:=HBK1.o.lt; have:=HWE.o; have:=HNPB.o.2.1; have:=HBO.o.1; omega) |>.cell (i:=1) rfl);have F2:=Hd ((HBK1.o.keep ((HXR.o.trans HX10.o).kept _)).keep (hb11.kept fun b _ e f=>by have:=HBK1.o.lt; have:=HWE.o; have:=HNPB.o.2.1; have:=HBO.o.1; omega) |>.cell (i:=2) rfl);have FC:=Hd (hcb.cell (i:=0) rfl);have c4:=hcb.cell (i:=4) rfl;have HCON:=Hd (Contains_true (mark (List.replicate n' false) 0 n') bR rc w11 hbr11 (fun i hi=>by rw [mark_len,List.length_replicate] at hi; exact mark_in _ _ _ _ (Nat.zero_le _) (by omega) (by simpa using hi)) (by rw [mark_len,List.length_replicate]; exact HN1000.o));rw [mark_len,List.length_replicate] at HCON;clear hb11 hbr11 hm11 hck11 hcb
        go_wp2_with fail
        refine HCON.o.mono ?_;rintro e5 w12 ⟨rfl,hx12⟩;have HX12a:=Hd hx12;have HCK12:=Hd (HCK11.o.ext hx12);have F1:=Hd (hx12.cell F1.o);have F2:=Hd (hx12.cell F2.o);have FC:=Hd (hx12.cell FC.o);have HX12b:=Hd (HX11.o.trans hx12);obtain ⟨w11,hw11⟩:∃ w11:World,w11=w12:=⟨_,rfl⟩;rw [← hw11] at F1 F2 FC HCK12 HX12b ⊢;have HLOC:=Hd (show ∀ w':World,Ext w11 w'→Calls Tryz.prog 55 #[.pointer (some ⟨bP,0,none⟩)] w' (RetI w' lo) from fun w' hx=>by
         obtain ⟨AA,ac,PA3,pc3,p1,p2,p3,p4,p5,p6⟩:=(HCK12.o.ext hx).pn;rw [HLO.o,HMF.o];exact pl_lower l bP bm AA ac w' (HCK12.o.ext hx).pd HL.o p1 p6)
        clear hw11 c4 hx12
        go_upto_region 12 with fail
        refine wp_region_chain (by kernel_rfl) (fun i=>[i]) (by kernel_rfl) (LZ (fun _ _=>False)) (LZ.refl _) (LZ.trans _) (LK []) gz0 (LK.zero _) ?_;apply Chain.pure (LZ.refl _) (by rfl)
        ·intro vals γ w' ρ hR hN hp hρ hc hf hg;refine ⟨rfl,?_⟩;have e5:=hρ 5;(conv at e5=>rhs; whnf);clear hR hN hp hρ;go_light;go_simp;exact ⟨rfl,rfl⟩
        ·rfl
        apply Chain.pure (LZ.refl _) (by rfl)
        ·intro vals γ w' ρ hR hN hp hρ hc hf hg;refine ⟨rfl,?_⟩;have e56:ρ (.tmp 56)=_:=(hρ 56).trans (hp 0 (by decide));have hxx:=hR.ext0 (fun _ _ _ h=>h.elim);have k1:=hxx.cell F1.o;have k2:=hxx.cell F2.o;have k3:=hxx.cell FC.o;clear hxx hR hN hp hρ;go_light;go_simp;exact ⟨rfl,rfl⟩
        ·rfl
        apply Chain.pure (LZ.refl _) (by rfl)
        ·intro vals γ w' ρ hR hN hp hρ hc hf hg;refine ⟨rfl,?_⟩;have e9:=hρ 9;(conv at e9=>rhs; whnf);clear hR hN hp hρ;go_light;go_simp;exact ⟨rfl,rfl⟩
        ·rfl
        apply Chain.pure (LZ.refl _) (by rfl)
        ·intro vals γ w' ρ hR hN hp hρ hc hf hg;refine ⟨rfl,?_⟩;have e57:ρ (.tmp 57)=_:=(hρ 57).trans (hp 1 (by decide));have e58:ρ (.tmp 58)=_:=(hρ 58).trans (hp 2 (by decide));clear hR hN hp hρ;go_light;go_simp;exact ⟨rfl,rfl⟩
        ·rfl
        apply Chain.pure (LZ.refl _) (by rfl)
        ·intro vals γ w' ρ hR hN hp hρ hc hf hg;refine ⟨rfl,?_⟩;have e59:ρ (.tmp 59)=_:=(hρ 59).trans (hp 3 (by decide));clear hR hN hp hρ;go_light;go_simp;exact ⟨rfl,rfl⟩
        ·rfl
        apply Chain.pure (LZ.refl _) (by rfl)
        ·intro vals γ w' ρ hR hN hp hρ hc hf hg;refine ⟨by show (boolOf (vals 4)==some true)=true; rw [show vals 4=.bool true from hp 4 (by decide)]; rfl,?_⟩;have e9:=hρ 9;(conv at e9=>rhs; whnf);clear hR hN hp hρ;go_light;go_simp;exact ⟨rfl,rfl⟩
        ·rfl
        apply Chain.pure (LZ.refl _) (by rfl)
        ·intro vals γ w' ρ hR hN hp hρ hc hf hg;refine ⟨by show (boolOf (vals 4)==some true)=true; rw [show vals 4=.bool true from hp 4 (by decide)]; rfl,?_⟩;have e1:=hρ 1;(conv at e1=>rhs; whnf);clear hR hN hp hρ;go_light;go_simp;exact ⟨rfl,rfl⟩
        ·rfl
        apply Chain.pure (LZ.refl _) (by rfl)
        ·intro vals γ w' ρ hR hN hp hρ hc hf hg;refine ⟨by show (boolOf (vals 4)==some true)=true; rw [show vals 4=.bool true from hp 4 (by decide)]; rfl,?_⟩;have e61:ρ (.tmp 61)=_:=(hρ 61).trans (hp 5 (by decide));have e62:ρ (.tmp 62)=_:=(hρ 62).trans (hp 6 (by decide));have z0:=HLE.o;clear hR hN hp hρ;go_light;go_simp;exact ⟨rfl,rfl⟩
        ·rfl
        apply Chain.pure (LZ.refl _) (by rfl)
        ·intro vals γ w' ρ hR hN hp hρ hc hf hg;refine ⟨rfl,?_⟩;have e60:ρ (.tmp 60)=_:=(hρ 60).trans (hp 4 (by decide));have e63:ρ (.tmp 63)=_:=(hρ 63).trans (hp 7 (by decide));clear hR hN hp hρ;go_light;go_simp;exact ⟨rfl,rfl⟩
        ·rfl
        apply Chain.pure (LZ.refl _) (by rfl)
        ·intro vals γ w' ρ hR hN hp hρ hc hf hg;refine ⟨rfl,?_⟩;have e64:ρ (.tmp 64)=_:=(hρ 64).trans (hp 8 (by decide));clear hR hN hp hρ;go_light;go_simp;exact ⟨rfl,rfl⟩
        ·rfl
        apply Chain.pure (LZ.refl _) (by rfl)
        ·intro vals γ w' ρ hR hN hp hρ hc hf hg;refine ⟨by show (boolOf (vals 9)==some true)=true; rw [show vals 9=.bool true from hp 9 (by decide)]; rfl,?_⟩;have e5:=hρ 5;(conv at e5=>rhs; whnf);clear hR hN hp hρ;go_light;go_simp;exact ⟨rfl,rfl⟩
        ·rfl
        apply Chain.pure (LZ.refl _) (by rfl)
        ·intro vals γ w' ρ hR hN hp hρ hc hf hg;refine ⟨by show (boolOf (vals 9)==some true)=true; rw [show vals 9=.bool true from hp 9 (by decide)]; rfl,?_⟩;have e66:ρ (.tmp 66)=_:=(hρ 66).trans (hp 10 (by decide));have hxx:=hR.ext0 (fun _ _ _ h=>h.elim);have k1:=hxx.cell F1.o;have k2:=hxx.cell F2.o;have k3:=hxx.cell FC.o;clear hxx hR hN hp hρ;go_light;go_simp;exact ⟨rfl,rfl⟩
        ·rfl
        apply Chain.pure (LZ.refl _) (by rfl)
        ·intro vals γ w' ρ hR hN hp hρ hc hf hg;refine ⟨by show (boolOf (vals 9)==some true)=true; rw [show vals 9=.bool true from hp 9 (by decide)]; rfl,?_⟩;have e7:=hρ 7;(conv at e7=>rhs; whnf);clear hR hN hp hρ;go_light;go_simp;exact ⟨rfl,rfl⟩
        ·rfl
        apply Chain.pure (LZ.refl _) (by rfl)
        ·intro vals γ w' ρ hR hN hp hρ hc hf hg;refine ⟨by show (boolOf (vals 9)==some true)=true; rw [show vals 9=.bool true from hp 9 (by decide)]; rfl,?_⟩;have e68:ρ (.tmp 68)=_:=(hρ 68).trans (hp 12 (by decide));have hxx:=hR.ext0 (fun _ _ _ h=>h.elim);have k1:=hxx.cell F1.o;have k2:=hxx.cell F2.o;have k3:=hxx.cell FC.o;clear hxx hR hN hp hρ;go_light;go_simp;exact ⟨rfl,rfl⟩
        ·rfl
        refine Chain.step (FP fun v γ w'=>v=.int .i64 lo) (by rfl) (FP.stab ?_) ?_ ?_
        ·intro v γ w1 γ' w2 r h;exact h
        ·intro vals γ w' ρ hR hN hp hρ hc hf hg;refine ⟨by show (boolOf (vals 9)==some true)=true; rw [show vals 9=.bool true from hp 9 (by decide)]; rfl,?_⟩;have e69:ρ (.tmp 69)=_:=(hρ 69).trans (hp 13 (by decide));have HR:=Hd hR;have HXW:=Hd (hR.ext0 (fun _ _ _ h=>h.elim));clear hR hN hp hρ;go_light;go_simp;refine (HLOC.o w' HXW.o).mono ?_;rintro e1 w3 ⟨he,hx⟩;exact ⟨_,he,γ,LZ.of_ext _ γ hx,fun _ _ _ h=>h,rfl⟩
        apply Chain.pure (LZ.refl _) (by rfl)
        ·intro vals γ w' ρ hR hN hp hρ hc hf hg;refine ⟨by show (boolOf (vals 9)==some true)=true; rw [show vals 9=.bool true from hp 9 (by decide)]; rfl,?_⟩;have e67:ρ (.tmp 67)=_:=(hρ 67).trans (hp 11 (by decide));have e70:ρ (.tmp 70)=_:=(hρ 70).trans (hp 14 (by decide));clear hR hN hp hρ;go_light;go_simp;exact ⟨rfl,rfl⟩
        ·rfl
        apply Chain.pure (LZ.refl _) (by rfl)
        ·intro vals γ w' ρ hR hN hp hρ hc hf hg;refine ⟨rfl,?_⟩;have e65:ρ (.tmp 65)=_:=(hρ 65).trans (hp 9 (by decide));have e71:ρ (.tmp 71)=_:=(hρ 71).trans (hp 15 (by decide));clear hR hN hp hρ;go_light;go_simp;exact ⟨rfl,rfl⟩
        ·rfl
        apply Chain.pure (LZ.refl _) (by rfl)
        ·intro vals γ w' ρ hR hN hp hρ hc hf hg;refine ⟨rfl,?_⟩;have e72:ρ (.tmp 72)=_:=(hρ 72).trans (hp 16 (by decide));clear hR hN hp hρ;go_light;go_simp;exact ⟨rfl,rfl⟩
        ·rfl
        intro vals γ w9 hR hG;have v0:vals 0=_:=hG 0 (by decide);have v1:vals 1=_:=hG 1 (by decide);have v2:vals 2=_:=hG 2 (by decide);have v3:vals 3=_:=hG 3 (by decide);have v4:vals 4=_:=hG 4 (by decide);have v5:vals 5=_:=hG 5 (by decide);have v6:vals 6=_:=hG 6 (by decide);have v7:vals 7=_:=hG 7 (by decide);have v8:vals 8=_:=hG 8 (by decide);have v9:vals 9=_:=hG 9 (by decide);have v10:vals 10=_:=hG 10 (by decide);have v11:vals 11=_:=hG 11 (by decide);have v12:vals 12=_:=hG 12 (by decide);have v13:vals 13=_:=hG 13 (by decide);have v14:vals 14=_:=hG 14 (by decide);have v15:vals 15=_:=hG 15 (by decide);have v16:vals 16=_:=hG 16 (by decide);have v17:vals 17=_:=hG 17 (by decide);simp only [lexFrame,Act.put,List.setIfInBounds_toArray,List.set_cons_succ,List.set_cons_zero,Nat.zero_add,Nat.reduceAdd,v0,v1,v2,v3,v4,v5,v6,v7,v8,v9,v10,v11,v12,v13,v14,v15,v16,v17];clear v0 v1 v2 v3 v4 v5 v6 v7 v8 v9 v10 v11 v12 v13 v14 v15 v16 v17;have HX12:=Hd (show Ext w11 w9 from hR.ext0 (fun _ _ _ h=>h.elim));clear hR hG;go_wp2;go_ret;exact ⟨by rw [HE.o]; simp,HX12b.o.trans HX12.o⟩
       ·have i0:(0:Int)<(n':Int):=(by omega);have HN0:=Hd hn0;clear hn0;have e1:=HBK1.o.keep (HXR.o.kept _) |>.cell (i:=0) rfl
        go_wp2_with fail
        refine (question_programs n (by omega) A c w9).mono ?_;rintro e3 w10 ⟨g,rfl,hg,hbg,hx10⟩;rw [List.length_range];have HVI:=Hd (HVG.o g w10 hg hbg hx10);rw [if_neg HN0.o] at HVI;have HX10:=Hd hx10;have HCK10:=Hd (HCK.o.ext hx10);clear hg hbg hx10 e1
        go_wp2_with fail
        refine HVI.o.mono ?_;rintro e4 w11 ⟨rfl,hb11,hbr11,hm11⟩;have HB11:=Hd hb11;have HX11:=Hd (show Ext w w11 from ButS.exts (HXA.o.trans (HXR.o.trans HX10.o)) hb11 fun b e=>by
         have:=HXA.o.size;have:=HWE.o
         rcases e with e | e
         ·have:=HNPB.o.2.1; omega
         ·have:=HBO.o.1; omega)
        have hck11:=HCK10.o.but hb11 hm11;obtain ⟨rc,hcb⟩:=hck11.ck;rw [← HN'.out] at hcb;have HCK11:=Hd hck11;have F1:=Hd ((HBK1.o.keep ((HXR.o.trans HX10.o).kept _)).keep (hb11.kept fun b _ e f=>by have:=HBK1.o.lt; have:=HWE.o; have:=HNPB.o.2.1; have:=HBO.o.1; omega) |>.cell (i:=1) rfl);have F2:=Hd ((HBK1.o.keep ((HXR.o.trans HX10.o).kept _)).keep (hb11.kept fun b _ e f=>by have:=HBK1.o.lt; have:=HWE.o; have:=HNPB.o.2.1; have:=HBO.o.1; omega) |>.cell (i:=2) rfl);have FC:=Hd (hcb.cell (i:=0) rfl);have c4:=hcb.cell (i:=4) rfl;have HCON:=Hd (Contains_true (mark (List.replicate n' false) 0 n') bR rc w11 hbr11 (fun i hi=>by rw [mark_len,List.length_replicate] at hi; exact mark_in _ _ _ _ (Nat.zero_le _) (by omega) (by simpa using hi)) (by rw [mark_len,List.length_replicate]; exact HN1000.o));rw [mark_len,List.length_replicate] at HCON;clear hb11 hbr11 hm11 hck11 hcb
        go_wp2_with fail
        refine HCON.o.mono ?_;rintro e5 w12 ⟨rfl,hx12⟩;have HX12a:=Hd hx12;have HCK12:=Hd (HCK11.o.ext hx12);have F1:=Hd (hx12.cell F1.o);have F2:=Hd (hx12.cell F2.o);have FC:=Hd (hx12.cell FC.o);have HX12b:=Hd (HX11.o.trans hx12);obtain ⟨w11,hw11⟩:∃ w11:World,w11=w12:=⟨_,rfl⟩;rw [← hw11] at F1 F2 FC HCK12 HX12b ⊢;have HLOC:=Hd (show ∀ w':World,Ext w11 w'→Calls Tryz.prog 55 #[.pointer (some ⟨bP,0,none⟩)] w' (RetI w' lo) from fun w' hx=>by
         obtain ⟨AA,ac,PA3,pc3,p1,p2,p3,p4,p5,p6⟩:=(HCK12.o.ext hx).pn;rw [HLO.o,HMF.o];exact pl_lower l bP bm AA ac w' (HCK12.o.ext hx).pd HL.o p1 p6)
        clear hw11 c4 hx12
        go_upto_region 12 with fail
        refine wp_region_chain (by kernel_rfl) (fun i=>[i]) (by kernel_rfl) (LZ (fun _ _=>False)) (LZ.refl _) (LZ.trans _) (LK []) gz0 (LK.zero _) ?_;apply Chain.pure (LZ.refl _) (by rfl)
        ·intro vals γ w' ρ hR hN hp hρ hc hf hg;refine ⟨rfl,?_⟩;have e5:=hρ 5;(conv at e5=>rhs; whnf);clear hR hN hp hρ;go_light;go_simp;exact ⟨rfl,rfl⟩
        ·rfl
        apply Chain.pure (LZ.refl _) (by rfl)
        ·intro vals γ w' ρ hR hN hp hρ hc hf hg;refine ⟨rfl,?_⟩;have e56:ρ (.tmp 56)=_:=(hρ 56).trans (hp 0 (by decide));have hxx:=hR.ext0 (fun _ _ _ h=>h.elim);have k1:=hxx.cell F1.o;have k2:=hxx.cell F2.o;have k3:=hxx.cell FC.o;clear hxx hR hN hp hρ;go_light;go_simp;exact ⟨rfl,rfl⟩
        ·rfl
        apply Chain.pure (LZ.refl _) (by rfl)
        ·intro vals γ w' ρ hR hN hp hρ hc hf hg;refine ⟨rfl,?_⟩;have e9:=hρ 9;(conv at e9=>rhs; whnf);clear hR hN hp hρ;go_light;go_simp;exact ⟨rfl,rfl⟩
        ·rfl
        apply Chain.pure (LZ.refl _) (by rfl)
        ·intro vals γ w' ρ hR hN hp hρ hc hf hg;refine ⟨rfl,?_⟩;have e57:ρ (.tmp 57)=_:=(hρ 57).trans (hp 1 (by decide));have e58:ρ (.tmp 58)=_:=(hρ 58).trans (hp 2 (by decide));clear hR hN hp hρ;go_light;go_simp;exact ⟨rfl,rfl⟩
        ·rfl
        apply Chain.pure (LZ.refl _) (by rfl)
        ·intro vals γ w' ρ hR hN hp hρ hc hf hg;refine ⟨rfl,?_⟩;have e59:ρ (.tmp 59)=_:=(hρ 59).trans (hp 3 (by decide));clear hR hN hp hρ;go_light;go_simp;exact ⟨rfl,rfl⟩
        ·rfl
        apply Chain.pure (LZ.refl _) (by rfl)
        ·intro vals γ w' ρ hR hN hp hρ hc hf hg;refine ⟨by show (boolOf (vals 4)==some true)=true; rw [show vals 4=.bool true from hp 4 (by decide)]; rfl,?_⟩;have e9:=hρ 9;(conv at e9=>rhs; whnf);clear hR hN hp hρ;go_light;go_simp;exact ⟨rfl,rfl⟩
        ·rfl
        apply Chain.pure (LZ.refl _) (by rfl)
        ·intro vals γ w' ρ hR hN hp hρ hc hf hg;refine ⟨by show (boolOf (vals 4)==some true)=true; rw [show vals 4=.bool true from hp 4 (by decide)]; rfl,?_⟩;have e1:=hρ 1;(conv at e1=>rhs; whnf);clear hR hN hp hρ;go_light;go_simp;exact ⟨rfl,rfl⟩
        ·rfl
        apply Chain.pure (LZ.refl _) (by rfl)
        ·intro vals γ w' ρ hR hN hp hρ hc hf hg;refine ⟨by show (boolOf (vals 4)==some true)=true; rw [show vals 4=.bool true from hp 4 (by decide)]; rfl,?_⟩;have e61:ρ (.tmp 61)=_:=(hρ 61).trans (hp 5 (by decide));have e62:ρ (.tmp 62)=_:=(hρ 62).trans (hp 6 (by decide));have z0:=HLE.o;clear hR hN hp hρ;go_light;go_simp;exact ⟨rfl,rfl⟩
        ·rfl
        apply Chain.pure (LZ.refl _) (by rfl)
        ·intro vals γ w' ρ hR hN hp hρ hc hf hg;refine ⟨rfl,?_⟩;have e60:ρ (.tmp 60)=_:=(hρ 60).trans (hp 4 (by decide));have e63:ρ (.tmp 63)=_:=(hρ 63).trans (hp 7 (by decide));clear hR hN hp hρ;go_light;go_simp;exact ⟨rfl,rfl⟩
        ·rfl
        apply Chain.pure (LZ.refl _) (by rfl)
        ·intro vals γ w' ρ hR hN hp hρ hc hf hg;refine ⟨rfl,?_⟩;have e64:ρ (.tmp 64)=_:=(hρ 64).trans (hp 8 (by decide));clear hR hN hp hρ;go_light;go_simp;exact ⟨rfl,rfl⟩
        ·rfl
        apply Chain.pure (LZ.refl _) (by rfl)
        ·intro vals γ w' ρ hR hN hp hρ hc hf hg;refine ⟨by show (boolOf (vals 9)==some true)=true; rw [show vals 9=.bool true from hp 9 (by decide)]; rfl,?_⟩;have e5:=hρ 5;(conv at e5=>rhs; whnf);clear hR hN hp hρ;go_light;go_simp;exact ⟨rfl,rfl⟩
        ·rfl
        apply Chain.pure (LZ.refl _) (by rfl)
        ·intro vals γ w' ρ hR hN hp hρ hc hf hg;refine ⟨by show (boolOf (vals 9)==some true)=true; rw [show vals 9=.bool true from hp 9 (by decide)]; rfl,?_⟩;have e66:ρ (.tmp 66)=_:=(hρ 66).trans (hp 10 (by decide));have hxx:=hR.ext0 (fun _ _ _ h=>h.elim);have k1:=hxx.cell F1.o;have k2:=hxx.cell F2.o;have k3:=hxx.cell FC.o;clear hxx hR hN hp hρ;go_light;go_simp;exact ⟨rfl,rfl⟩
        ·rfl
        apply Chain.pure (LZ.refl _) (by rfl)
        ·intro vals γ w' ρ hR hN hp hρ hc hf hg;refine ⟨by show (boolOf (vals 9)==some true)=true; rw [show vals 9=.bool true from hp 9 (by decide)]; rfl,?_⟩;have e7:=hρ 7;(conv at e7=>rhs; whnf);clear hR hN hp hρ;go_light;go_simp;exact ⟨rfl,rfl⟩
        ·rfl
        apply Chain.pure (LZ.refl _) (by rfl)
        ·intro vals γ w' ρ hR hN hp hρ hc hf hg;refine ⟨by show (boolOf (vals 9)==some true)=true; rw [show vals 9=.bool true from hp 9 (by decide)]; rfl,?_⟩;have e68:ρ (.tmp 68)=_:=(hρ 68).trans (hp 12 (by decide));have hxx:=hR.ext0 (fun _ _ _ h=>h.elim);have k1:=hxx.cell F1.o;have k2:=hxx.cell F2.o;have k3:=hxx.cell FC.o;clear hxx hR hN hp hρ;go_light;go_simp;exact ⟨rfl,rfl⟩
        ·rfl
        refine Chain.step (FP fun v γ w'=>v=.int .i64 lo) (by rfl) (FP.stab ?_) ?_ ?_
        ·intro v γ w1 γ' w2 r h;exact h
        ·intro vals γ w' ρ hR hN hp hρ hc hf hg;refine ⟨by show (boolOf (vals 9)==some true)=true; rw [show vals 9=.bool true from hp 9 (by decide)]; rfl,?_⟩;have e69:ρ (.tmp 69)=_:=(hρ 69).trans (hp 13 (by decide));have HR:=Hd hR;have HXW:=Hd (hR.ext0 (fun _ _ _ h=>h.elim));clear hR hN hp hρ;go_light;go_simp;refine (HLOC.o w' HXW.o).mono ?_;rintro e1 w3 ⟨he,hx⟩;exact ⟨_,he,γ,LZ.of_ext _ γ hx,fun _ _ _ h=>h,rfl⟩
        apply Chain.pure (LZ.refl _) (by rfl)
        ·intro vals γ w' ρ hR hN hp hρ hc hf hg;refine ⟨by show (boolOf (vals 9)==some true)=true; rw [show vals 9=.bool true from hp 9 (by decide)]; rfl,?_⟩;have e67:ρ (.tmp 67)=_:=(hρ 67).trans (hp 11 (by decide));have e70:ρ (.tmp 70)=_:=(hρ 70).trans (hp 14 (by decide));clear hR hN hp hρ;go_light;go_simp;exact ⟨rfl,rfl⟩
        ·rfl
        apply Chain.pure (LZ.refl _) (by rfl)
        ·intro vals γ w' ρ hR hN hp hρ hc hf hg;refine ⟨rfl,?_⟩;have e65:ρ (.tmp 65)=_:=(hρ 65).trans (hp 9 (by decide));have e71:ρ (.tmp 71)=_:=(hρ 71).trans (hp 15 (by decide));clear hR hN hp hρ;go_light;go_simp;exact ⟨rfl,rfl⟩
        ·rfl
        apply Chain.pure (LZ.refl _) (by rfl)
        ·intro vals γ w' ρ hR hN hp hρ hc hf hg;refine ⟨rfl,?_⟩;have e72:ρ (.tmp 72)=_:=(hρ 72).trans (hp 16 (by decide));clear hR hN hp hρ;go_light;go_simp;exact ⟨rfl,rfl⟩
        ·rfl
        intro vals γ w9 hR hG;have v0:vals 0=_:=hG 0 (by decide);have v1:vals 1=_:=hG 1 (by decide);have v2:vals 2=_:=hG 2 (by decide);have v3:vals 3=_:=hG 3 (by decide);have v4:vals 4=_:=hG 4 (by decide);have v5:vals 5=_:=hG 5 (by decide);have v6:vals 6=_:=hG 6 (by decide);have v7:vals 7=_:=hG 7 (by decide);have v8:vals 8=_:=hG 8 (by decide);have v9:vals 9=_:=hG 9 (by decide);have v10:vals 10=_:=hG 10 (by decide);have v11:vals 11=_:=hG 11 (by decide);have v12:vals 12=_:=hG 12 (by decide);have v13:vals 13=_:=hG 13 (by decide);have v14:vals 14=_:=hG 14 (by decide);have v15:vals 15=_:=hG 15 (by decide);have v16:vals 16=_:=hG 16 (by decide);have v17:vals 17=_:=hG 17 (by decide);simp only [lexFrame,Act.put,List.setIfInBounds_toArray,List.set_cons_succ,List.set_cons_zero,Nat.zero_add,Nat.reduceAdd,v0,v1,v2,v3,v4,v5,v6,v7,v8,v9,v10,v11,v12,v13,v14,v15,v16,v17];clear v0 v1 v2 v3 v4 v5 v6 v7 v8 v9 v10 v11 v12 v13 v14 v15 v16 v17;have HX12:=Hd (show Ext w11 w9 from hR.ext0 (fun _ _ _ h=>h.elim));clear hR hG;go_wp2;go_ret;exact ⟨by rw [HE.o]; simp,HX12b.o.trans HX12.o⟩
      ·have HE:=Hd (show decide (errM l hz=0)=false by rw [decide_eq_false_iff_not]; exact her);have HMF:=Hd (show makeF l hz=([],0,0) by unfold makeF; rw [if_neg her]);have hn0:n'=0:=(by rw [HN'.out,HEY.o,HMF.o]; rfl);have HDB:=Hd (show ((depA l:Nat):Int)≠0 by
        unfold errM at her;rw [if_neg HE1.o,if_neg HE2.o] at her;split at her
        ·omega
        ·exact absurd rfl her)
       have i0:¬ (0:Int)<(n':Int):=(by omega);have e1:=HBK1.o.keep (HXR.o.kept _) |>.cell (i:=0) rfl
       go_wp2_with fail
       refine (question_programs n (by omega) A c w9).mono ?_;rintro e3 w10 ⟨g,rfl,hg,hbg,hx10⟩;rw [List.length_range];have HVI:=Hd (visit_none l bC bP bm bR d (List.range n) (some ⟨g,0,none⟩) n A' c' Y dp lo (-1) w10 HL.o (HCK.o.ext hx10) HINC.o HZN.o (HPR.o g w10 hg hbg hx10));rw [List.length_range,← HDA.o,beq_eq_false_iff_ne.2 HDB.o] at HVI;have HX10:=Hd hx10;clear hg hbg hx10 e1
       go_wp2_with fail
       refine HVI.o.mono ?_;rintro e4 w11 ⟨rfl,hb11⟩;have HX11:=Hd (show Ext w w11 from ButS.exts (HXA.o.trans (HXR.o.trans HX10.o)) hb11 fun b e=>by
        have:=HXA.o.size;have:=HWE.o
        rcases e with e | e
        ·have:=HNPB.o.2.1; omega
        ·have:=HBO.o.1; omega)
       clear hb11;go_wp2;go_ret;exact ⟨by rw [HE.o]; rfl,HX11.o⟩
/- The law's sanity. -/

theorem san_noT:NoT san0:=by
 intro r hr y hy;simp only [san0,List.mem_cons,List.not_mem_nil,or_false] at hr
 rcases hr with rfl | rfl | rfl <;> simp only [List.mem_cons,List.not_mem_nil,or_false] at hy <;> rcases hy with rfl | rfl <;> decide
theorem ints2 {v:World} {g:Nat} {S:Nat→Prop} {a b:Int} (h:Blk v g 3 #[.int .i64 a,.int .i64 b]) (hg:S g):Ints v S (some ⟨g,0,none⟩) [a,b]:=⟨h.rd.mono fun i _ hi=>by rw [hi]; exact hg,by simp⟩
theorem san_as {v:World} {g0 g1 g2 g3 g:Nat} (r0:Blk v g0 47 (row2C 1 2)) (n0:Blk v g1 3 #[.int .i64 1,.int .i64 (-1)]) (r1:Blk v g2 47 (row2C 2 3)) (n1:Blk v g3 3 #[.int .i64 (-1),.int .i64 (-1)])
  (D:Blk v g 59 #[.int .i64 0,.slice (some ⟨g0,0,none⟩) 2 2,.slice (some ⟨g1,0,none⟩) 2 2,.int .i64 1,.slice (some ⟨g2,0,none⟩) 2 2,.slice (some ⟨g3,0,none⟩) 2 2]):AS v (fun _=>True) 1 (some ⟨g,0,none⟩) sanP:=by
 refine ⟨by decide,_,D.rd.mono fun _ _ _=>trivial,?_⟩;exact AL.append (l:=[(0,[numV 1,numV 2],[1,-1])]) (m:=[(1,[numV 2,numV 3],[-1,-1])]) (xs:=acells (0,[numV 1,numV 2],[1,-1]) (some ⟨g0,0,none⟩) 2 (some ⟨g1,0,none⟩) 2) (ys:=acells (1,[numV 2,numV 3],[-1,-1]) (some ⟨g2,0,none⟩) 2 (some ⟨g3,0,none⟩) 2)
  (AL.one rfl ⟨_,_,_,_,rfl,⟨by decide,by decide⟩,row2_row r0 trivial,ints2 n0 trivial⟩) (AL.one rfl ⟨_,_,_,_,rfl,⟨by decide,by decide⟩,row2_row r1 trivial,ints2 n1 trivial⟩)
theorem san_nn {v:World} {g0 g1 g:Nat} (n0:Blk v g0 3 #[.int .i64 0,.int .i64 1]) (n1:Blk v g1 3 #[.int .i64 2]) (D:Blk v g 26 #[.slice (some ⟨g0,0,none⟩) 2 2,.slice (some ⟨g1,0,none⟩) 1 1]):NN v (fun _=>True) (some ⟨g,0,none⟩) [[0,1],[2]]:=by
 refine ⟨by decide,_,D.rd.mono fun _ _ _=>trivial,rfl,fun i x hi => ?_⟩
 match i,hi with
 | 0,hi=>cases hi; exact ⟨_,_,rfl,by decide,n0.rd.mono fun _ _ _=>trivial,by decide⟩
 | 1,hi=>cases hi; exact ⟨_,_,rfl,by decide,n1.rd.mono fun _ _ _=>trivial,by decide⟩
 | n+2,hi=>simp at hi
theorem san_g1:(decide ((followS sanP ([2].map numV)).1=-1) && decide ((followS sanP ([2].map numV)).2=true))=true:=by rw [show [2].map numV=[numV 2] from rfl,san_f1]; rfl
theorem san_g2:(decide ((followS sanP ([1].map numV)).1=1) && decide ((followS sanP ([1].map numV)).2=true))=true:=by rw [show [1].map numV=[numV 1] from rfl,san_f2]; rfl
theorem san_g3:(decide ((followS sanP ([1,3].map numV)).1=-1) && decide ((followS sanP ([1,3].map numV)).2=true))=true:=by rw [show [1,3].map numV=[numV 1,numV 3] from rfl,san_f3]; rfl
theorem san_g4:(decide ((followS sanP ([5].map numV)).1=-1) && decide ((followS sanP ([5].map numV)).2=false))=true:=by rw [show [5].map numV=[numV 5] from rfl,san_f4]; rfl
def SyF (w:World) (W pg bd q:Nat) (bs:List (Nat × Nat)) (l:List (List Val)) (r:List Val) (γ:Gz) (w':World):Prop:=∃ (A4:Option Addr) (c4:Nat),γ 1008=true∧γ 1010=true∧OwnVs w' w.heap.size FF 1 A4 c4 (r++[numV 7])∧(∀ b,ob A4=some b→b=bd∨W≤b)∧Own w' w.heap.size 42 1 (some ⟨pg,0,none⟩) 3 3 ((hdrV bs l).set q (.slice A4 3 c4))
theorem san_noT7:NoT (san0.map fun r=>r++[numV 7]):=by
 intro r hr y hy;simp only [san0,List.map_cons,List.map_nil,List.mem_cons,List.not_mem_nil,or_false,List.cons_append,List.nil_append] at hr
 rcases hr with rfl | rfl | rfl <;> simp only [List.mem_cons,List.not_mem_nil,or_false] at hy <;> rcases hy with rfl | rfl | rfl <;> decide
set_option maxRecDepth 100000 in
set_option maxHeartbeats 4000000 in
theorem l25_sanity (w:World) (ht:Tens w):Calls Tryz.prog 12 #[] w (RetB w true):=by
 have HT:=Hd ht;clear ht
 go_enter Tryz.func12,Tryz.ntmps12
 go_wp2_with fail
 refine (l25_number _ _).mono ?_;rintro e1 w1 ⟨rfl,hx1⟩;have HX1:=Hd hx1;have hz1:=hx1.size;clear hx1
 go_wp2_with fail
 refine (l25_number _ _).mono ?_;rintro e2 w2 ⟨rfl,hx2⟩;have HX2:=Hd hx2;have hz2:=hx2.size;clear hx2
 go_wp2_with fail
 refine (l25_number _ _).mono ?_;rintro e3 w3 ⟨rfl,hx3⟩;have HX3:=Hd hx3;have hz3:=hx3.size;clear hx3
 go_wp2_with fail
 refine (l25_number _ _).mono ?_;rintro e4 w4 ⟨rfl,hx4⟩;have HX4:=Hd hx4;have hz4:=hx4.size;clear hx4
 go_wp2_with fail
 refine (l25_number _ _).mono ?_;rintro e5 w5 ⟨rfl,hx5⟩;have HX5:=Hd hx5;have hz5:=hx5.size;clear hx5
 go_wp2_with fail
 refine (l25_number _ _).mono ?_;rintro e6 w6 ⟨rfl,hx6⟩;have HX6:=Hd hx6;have hz6:=hx6.size;clear hx6;have hsn:OwnRs ((w6.alloc (.cells (row2C 2 2) 47)).alloc (.cells #[.slice (some ⟨w2.heap.size,0,none⟩) 2 2,.slice (some ⟨w4.heap.size,0,none⟩) 2 2,.slice (some ⟨w6.heap.size,0,none⟩) 2 2] 42)) w.heap.size (fun b=>w.heap.size≤b) 1 (some ⟨w6.heap.size+1,0,none⟩) 3 san0:=by
  have y0:=(((((HX3.o.trans HX4.o).alloc (.cells (row2C 1 3) 47)).trans HX5.o).trans HX6.o).alloc (.cells (row2C 2 2) 47)).alloc (.cells #[.slice (some ⟨w2.heap.size,0,none⟩) 2 2,.slice (some ⟨w4.heap.size,0,none⟩) 2 2,.slice (some ⟨w6.heap.size,0,none⟩) 2 2] 42);have y1:=((HX5.o.trans HX6.o).alloc (.cells (row2C 2 2) 47)).alloc (.cells #[.slice (some ⟨w2.heap.size,0,none⟩) 2 2,.slice (some ⟨w4.heap.size,0,none⟩) 2 2,.slice (some ⟨w6.heap.size,0,none⟩) 2 2] 42);have a3:=HX3.o.size;have a5:=HX5.o.size;simp at a3 a5;refine san_own ((Blk.new w2 47 (row2C 1 2)).keep (y0.kept _)) ((Blk.new w4 47 (row2C 1 3)).keep (y1.kept _)) ((Blk.new w6 47 (row2C 2 2)).keep (Kept.alloc _ _ _)) ?_ (by omega) (by omega) (by omega) (by omega) (by omega) (by omega);have:=Blk.new (w6.alloc (.cells (row2C 2 2) 47)) 42 #[.slice (some ⟨w2.heap.size,0,none⟩) 2 2,.slice (some ⟨w4.heap.size,0,none⟩) 2 2,.slice (some ⟨w6.heap.size,0,none⟩) 2 2]
  simpa using this
 have hsv:SV ((w6.alloc (.cells (row2C 2 2) 47)).alloc (.cells #[.slice (some ⟨w2.heap.size,0,none⟩) 2 2,.slice (some ⟨w4.heap.size,0,none⟩) 2 2,.slice (some ⟨w6.heap.size,0,none⟩) 2 2] 42)) w.heap.size (w6.heap.size+1) [(w2.heap.size,2),(w4.heap.size,2),(w6.heap.size,2)] san0:=by
  have y0:=(((((HX3.o.trans HX4.o).alloc (.cells (row2C 1 3) 47)).trans HX5.o).trans HX6.o).alloc (.cells (row2C 2 2) 47)).alloc (.cells #[.slice (some ⟨w2.heap.size,0,none⟩) 2 2,.slice (some ⟨w4.heap.size,0,none⟩) 2 2,.slice (some ⟨w6.heap.size,0,none⟩) 2 2] 42);have y1:=((HX5.o.trans HX6.o).alloc (.cells (row2C 2 2) 47)).alloc (.cells #[.slice (some ⟨w2.heap.size,0,none⟩) 2 2,.slice (some ⟨w4.heap.size,0,none⟩) 2 2,.slice (some ⟨w6.heap.size,0,none⟩) 2 2] 42);have a3:=HX3.o.size;have a5:=HX5.o.size;simp at a3 a5;refine san_sv ((Blk.new w2 47 (row2C 1 2)).keep (y0.kept _)) ((Blk.new w4 47 (row2C 1 3)).keep (y1.kept _)) ((Blk.new w6 47 (row2C 2 2)).keep (Kept.alloc _ _ _)) ?_ (by omega) (by omega) (by omega) (by omega) (by omega) (by omega) (by omega) (by omega);have:=Blk.new (w6.alloc (.cells (row2C 2 2) 47)) 42 #[.slice (some ⟨w2.heap.size,0,none⟩) 2 2,.slice (some ⟨w4.heap.size,0,none⟩) 2 2,.slice (some ⟨w6.heap.size,0,none⟩) 2 2]
  simpa using this
 have HSV:=Hd hsv;have hx6:Ext w ((w6.alloc (.cells (row2C 2 2) 47)).alloc (.cells #[.slice (some ⟨w2.heap.size,0,none⟩) 2 2,.slice (some ⟨w4.heap.size,0,none⟩) 2 2,.slice (some ⟨w6.heap.size,0,none⟩) 2 2] 42)):=(((((((HX1.o.trans HX2.o).alloc _).trans HX3.o).trans HX4.o).alloc _).trans HX5.o).trans HX6.o).alloc _ |>.alloc _;have HSN:=Hd hsn;have HEX:=Hd hx6;have HRW:=Hd ((hsn.mono (T:=fun b=>b<((w6.alloc (.cells (row2C 2 2) 47)).alloc (.cells #[.slice (some ⟨w2.heap.size,0,none⟩) 2 2,.slice (some ⟨w4.heap.size,0,none⟩) 2 2,.slice (some ⟨w6.heap.size,0,none⟩) 2 2] 42)).heap.size) fun b hb _=>hb).rows (T:=fun b=>b<((w6.alloc (.cells (row2C 2 2) 47)).alloc (.cells #[.slice (some ⟨w2.heap.size,0,none⟩) 2 2,.slice (some ⟨w4.heap.size,0,none⟩) 2 2,.slice (some ⟨w6.heap.size,0,none⟩) 2 2] 42)).heap.size) (by decide) (fun b hb=>(hsn.blk hb).2) (fun b hb=>hb));have HTV:=Hd (HT.o.kept (hx6.kept fun _=>True) trivial);clear hsn hx6 hsv
 go_wp2_with fail
 refine (question_Make 1 san0 _ 3 2 _ _ HRW.o (fun _ h=>h) san_noT (by decide) (by decide) (by decide) HTV.o).mono ?_;rintro e7 w7 ⟨A7,c7,rfl,ho7,hx7⟩;have HX7:=Hd hx7;rw [san_make] at ho7 ⊢;rw [san_err2];have HO7:=Hd ho7;clear ho7 hx7;have hzv:=HX7.o.size;have HX7a:=Hd (HX7.o.alloc (.cells #[.slice A7 sanP.length c7,.int .i64 2,.int .i64 2] 29))
 go_wp2_with fail
 refine (question_Make 1 san0 _ 3 1 _ _ (HRW.o.keep (HX7a.o.kept _)) (fun b h=>Nat.lt_of_lt_of_le h HX7a.o.size) san_noT (by decide) (by decide) (by decide) (HTV.o.kept (HX7a.o.kept fun _=>True) trivial)).mono ?_;rintro e8 w8 ⟨A8,c8,rfl,ho8,hx8⟩;rw [san_err1];have HX8:=Hd hx8;clear ho8 hx8
 go_wp2_with fail
 refine (l25_number _ _).mono ?_;rintro e9 w9 ⟨rfl,hx9⟩;have HX9:=Hd hx9;have hz9:=hx9.size;clear hx9
 go_wp2_with fail
 refine (l25_number _ _).mono ?_;rintro e10 w10 ⟨rfl,hx10⟩;have HX10:=Hd hx10;have hz10:=hx10.size;clear hx10
 go_wp2_with fail
 refine (l25_number _ _).mono ?_;rintro e11 w11 ⟨rfl,hx11⟩;have HX11:=Hd hx11;have hz11:=hx11.size;clear hx11
 go_wp2_with fail
 refine (l25_number _ _).mono ?_;rintro e12 w12 ⟨rfl,hx12⟩;have HX12:=Hd hx12;have hz12:=hx12.size;clear hx12
 go_upto_region 5 with fail
 obtain ⟨w13,hw13⟩:∃ w13,w13=(((w12.alloc (.cells #[.int .i64 2,.string ⟨#[]⟩,.int .i64 2,.int .i64 0,.int .i64 0,.slice none 0 0,.slice none 0 0,.int .i64 2,.string ⟨#[]⟩,.int .i64 3,.int .i64 0,.int .i64 0,.slice none 0 0,.slice none 0 0] 47)).alloc (.cells #[.int .i64 (-1),.int .i64 (-1)] 3)).alloc (.cells #[.int .i64 0,.slice (some ⟨w10.heap.size,0,none⟩) 2 2,.slice (some ⟨w10.heap.size+1,0,none⟩) 2 2,.int .i64 1,.slice (some ⟨w12.heap.size,0,none⟩) 2 2,.slice (some ⟨w12.heap.size+1,0,none⟩) 2 2] 59)).alloc (.cells #[.slice (some ⟨w12.heap.size+1+1,0,none⟩) 2 2,.int .i64 2,.int .i64 2] 29):=⟨_,rfl⟩;have x12:=((((((((HX8.o.alloc (.cells #[.slice A8 (makeF san0 1).1.length c8,.int .i64 ((makeF san0 1).2.1:Int),.int .i64 ((makeF san0 1).2.2:Int)] 29)).trans HX9.o).trans HX10.o).alloc (.cells (row2C 1 2) 47)).alloc (.cells #[.int .i64 1,.int .i64 (-1)] 3)).trans HX11.o).trans HX12.o));have y12:Ext w12 w13:=(by rw [hw13]; exact (((((Ext.refl w12).alloc _).alloc _).alloc _).alloc _));have HX13:=Hd (x12.trans y12);have HB7:=Hd ((Blk.new w7 29 #[.slice A7 sanP.length c7,.int .i64 2,.int .i64 2]).keep (HX13.o.kept _));have z11:=((HX11.o.trans HX12.o).trans y12);have g0:Blk w13 w10.heap.size 47 (row2C 1 2):=((Blk.new w10 47 (row2C 1 2)).keep (Kept.alloc _ _ _)).keep (z11.kept _);have g1:Blk w13 (w10.heap.size+1) 3 #[.int .i64 1,.int .i64 (-1)]:=by
  have:=(Blk.new (w10.alloc (.cells (row2C 1 2) 47)) 3 #[.int .i64 1,.int .i64 (-1)]).keep (z11.kept _)
  simpa using this
 have g2:Blk w13 w12.heap.size 47 (row2C 2 3):=by
  rw [hw13];exact (((Blk.new w12 47 (row2C 2 3)).keep (Kept.alloc _ _ _)).keep (Kept.alloc _ _ _)).keep (Kept.alloc _ _ _)
 have g3:Blk w13 (w12.heap.size+1) 3 #[.int .i64 (-1),.int .i64 (-1)]:=by
  rw [hw13];have:=(((Blk.new (w12.alloc (.cells #[.int .i64 2,.string ⟨#[]⟩,.int .i64 2,.int .i64 0,.int .i64 0,.slice none 0 0,.slice none 0 0,.int .i64 2,.string ⟨#[]⟩,.int .i64 3,.int .i64 0,.int .i64 0,.slice none 0 0,.slice none 0 0] 47)) 3 #[.int .i64 (-1),.int .i64 (-1)]).keep (Kept.alloc _ _ (.cells #[.int .i64 0,.slice (some ⟨w10.heap.size,0,none⟩) 2 2,.slice (some ⟨w10.heap.size+1,0,none⟩) 2 2,.int .i64 1,.slice (some ⟨w12.heap.size,0,none⟩) 2 2,.slice (some ⟨w12.heap.size+1,0,none⟩) 2 2] 59))).keep (Kept.alloc _ _ (.cells #[.slice (some ⟨w12.heap.size+1+1,0,none⟩) 2 2,.int .i64 2,.int .i64 2] 29)))
  simpa using this
 have g4:Blk w13 (w12.heap.size+1+1) 59 #[.int .i64 0,.slice (some ⟨w10.heap.size,0,none⟩) 2 2,.slice (some ⟨w10.heap.size+1,0,none⟩) 2 2,.int .i64 1,.slice (some ⟨w12.heap.size,0,none⟩) 2 2,.slice (some ⟨w12.heap.size+1,0,none⟩) 2 2]:=by
  rw [hw13];have:=(Blk.new ((w12.alloc (.cells #[.int .i64 2,.string ⟨#[]⟩,.int .i64 2,.int .i64 0,.int .i64 0,.slice none 0 0,.slice none 0 0,.int .i64 2,.string ⟨#[]⟩,.int .i64 3,.int .i64 0,.int .i64 0,.slice none 0 0,.slice none 0 0] 47)).alloc (.cells #[.int .i64 (-1),.int .i64 (-1)] 3)) 59 #[.int .i64 0,.slice (some ⟨w10.heap.size,0,none⟩) 2 2,.slice (some ⟨w10.heap.size+1,0,none⟩) 2 2,.int .i64 1,.slice (some ⟨w12.heap.size,0,none⟩) 2 2,.slice (some ⟨w12.heap.size+1,0,none⟩) 2 2]).keep (Kept.alloc _ _ (.cells #[.slice (some ⟨w12.heap.size+1+1,0,none⟩) 2 2,.int .i64 2,.int .i64 2] 29))
  simpa using this
 have HBW:=Hd (show Blk w13 (w12.heap.size+1+1+1) 29 #[.slice (some ⟨w12.heap.size+1+1,0,none⟩) 2 2,.int .i64 2,.int .i64 2] by
  rw [hw13];have:=Blk.new (((w12.alloc (.cells #[.int .i64 2,.string ⟨#[]⟩,.int .i64 2,.int .i64 0,.int .i64 0,.slice none 0 0,.slice none 0 0,.int .i64 2,.string ⟨#[]⟩,.int .i64 3,.int .i64 0,.int .i64 0,.slice none 0 0,.slice none 0 0] 47)).alloc (.cells #[.int .i64 (-1),.int .i64 (-1)] 3)).alloc (.cells #[.int .i64 0,.slice (some ⟨w10.heap.size,0,none⟩) 2 2,.slice (some ⟨w10.heap.size+1,0,none⟩) 2 2,.int .i64 1,.slice (some ⟨w12.heap.size,0,none⟩) 2 2,.slice (some ⟨w12.heap.size+1,0,none⟩) 2 2] 59)) 29 #[.slice (some ⟨w12.heap.size+1+1,0,none⟩) 2 2,.int .i64 2,.int .i64 2]
  simpa using this)
 have HWA:=Hd (san_as g0 g1 g2 g3 g4);rw [← hw13];clear x12 y12 z11 g0 g1 g2 g3 g4 hw13;obtain ⟨p7,hp7⟩:∃ p,p=w7.heap.size:=⟨_,rfl⟩;obtain ⟨pw,hpw⟩:∃ p,p=w12.heap.size+1+1+1:=⟨_,rfl⟩;obtain ⟨pa,hpa⟩:∃ p,p=w12.heap.size+1+1:=⟨_,rfl⟩;rw [← hp7] at HB7;rw [← hpw,← hpa] at HBW;rw [← hpa] at HWA;rw [← hp7,← hpw];clear hp7 hpw hpa;obtain ⟨pn,hpn⟩:∃ p,p=sanP.length:=⟨_,rfl⟩;have HPN:=Hd (show pn=2 by rw [hpn]; rfl);have HPL:=Hd hpn;have HAP:=Hd (show AS w13 (fun _=>True) 1 A7 sanP from AS.keep (HO7.o.as_ (by decide) (fun _ _=>trivial) (fun _ _=>trivial)) ((((Ext.refl w7).alloc _).trans HX13.o).kept _));clear hpn;have q0:=HB7.o.cell (i:=0) rfl;have q1:=HB7.o.cell (i:=1) rfl;have q2:=HB7.o.cell (i:=2) rfl;have s0:=HBW.o.cell (i:=0) rfl;have s1:=HBW.o.cell (i:=1) rfl;have s2:=HBW.o.cell (i:=2) rfl
 go_wp2_with fail
 have hsz6:=HX7a.o.size;have HV13:=Hd (HX7a.o.trans HX13.o);have HSAME:=Hd (show Calls Tryz.prog 16 #[.agg #[.slice A7 sanP.length c7,.int .i64 2,.int .i64 2],.agg #[.slice (some ⟨pa,0,none⟩) 2 2,.int .i64 2,.int .i64 2]] w13 (RetB w13 true) by
  have h:=r25_Same 1 sanP sanP A7 (some ⟨pa,0,none⟩) c7 2 2 2 2 2 w13 _ _ HAP.o HWA.o;rw [sameP_eq,decide_eq_true rfl] at h;exact h)
 refine HSAME.o.mono ?_;rintro e14 w14 ⟨rfl,hx14⟩;have HV14:=Hd (HV13.o.trans hx14);have HB14:=Hd (HB7.o.keep (hx14.kept _));have HP14:=Hd (HAP.o.keep (hx14.kept _));clear q0 q1 q2 s0 s1 s2 hx14 HSAME;have q0:=HB14.o.cell (i:=0) rfl;have q1:=HB14.o.cell (i:=1) rfl;have q2:=HB14.o.cell (i:=2) rfl;have HCK:=Hd (show Calls Tryz.prog 17 #[.slice (some ⟨w6.heap.size+1,0,none⟩) 3 3,.int .i64 2,.agg #[.slice A7 sanP.length c7,.int .i64 2,.int .i64 2]] w14 (RetB w14 true) by
  have h:=question_Check 1 san0 (some ⟨w6.heap.size+1,0,none⟩) 3 2 A7 c7 w14 (fun b=>b<w14.heap.size) ((HRW.o.keep (HV14.o.kept _)).mono fun b hb _=>hb) (fun _ h=>h) san_noT (by decide) (by decide) (by decide) (HTV.o.kept (HV14.o.kept fun _=>True) trivial) (by rw [san_make]; exact HP14.o.mono fun b hb _=>hb);rw [san_make,san_err2,decide_eq_true rfl] at h;exact h)
 go_wp2_with fail
 refine HCK.o.mono ?_;rintro e15 w15 ⟨rfl,hx15⟩;have HV15:=Hd (HV14.o.trans hx15);have HB15:=Hd (HB14.o.keep (hx15.kept _));have HP15:=Hd (HP14.o.keep (hx15.kept _));clear q0 q1 q2 hx15 HCK;have HGR:=Hd (show Calls Tryz.prog 20 #[.slice (some ⟨w6.heap.size+1,0,none⟩) 3 3,.slice (some ⟨w15.heap.size,0,none⟩) 3 3,.int .i64 0] (w15.alloc (.cells #[.int .i64 0,.int .i64 1,.int .i64 2] 3)) (RetNN (w15.alloc (.cells #[.int .i64 0,.int .i64 1,.int .i64 2] 3)) [[0,1],[2]]) by
  have h:=question_Groups 1 san0 (some ⟨w6.heap.size+1,0,none⟩) 3 [0,1,2] (some ⟨w15.heap.size,0,none⟩) 3 0 (w15.alloc (.cells #[.int .i64 0,.int .i64 1,.int .i64 2] 3)) _ _ (HRW.o.keep ((HV15.o.alloc _).kept _)) san_noT (by decide) (HTV.o.kept ((HV15.o.alloc _).kept fun _=>True) trivial) ⟨(Blk.new _ _ _).rd,by simp⟩ (by simp);rw [san_groups] at h;exact h)
 go_wp2_with fail
 refine HGR.o.mono ?_;rintro e16 w16 ⟨A16,c16,rfl,ho16,hx16⟩;have HV16:=Hd ((HV15.o.alloc _).trans hx16);have HB16:=Hd (HB15.o.keep (((Ext.refl w15).alloc _ |>.trans hx16).kept _));have HP16:=Hd (HP15.o.keep (((Ext.refl w15).alloc _ |>.trans hx16).kept _));have HO16:=Hd ho16;clear ho16 hx16 HGR
 go_wp2_with fail
 obtain ⟨w17,hw17⟩:∃ w17,w17=((w16.alloc (.cells #[.int .i64 0,.int .i64 1] 3)).alloc (.cells #[.int .i64 2] 3)).alloc (.cells #[.slice (some ⟨w16.heap.size,0,none⟩) 2 2,.slice (some ⟨w16.heap.size+1,0,none⟩) 1 1] 26):=⟨_,rfl⟩;have x17:Ext w16 w17:=(by rw [hw17]; exact (((Ext.refl w16).alloc _).alloc _).alloc _);have g0:Blk w17 w16.heap.size 3 #[.int .i64 0,.int .i64 1]:=by
  rw [hw17];exact ((Blk.new w16 3 #[.int .i64 0,.int .i64 1]).keep (Kept.alloc _ _ _)).keep (Kept.alloc _ _ _)
 have g1:Blk w17 (w16.heap.size+1) 3 #[.int .i64 2]:=by
  rw [hw17];have:=(Blk.new (w16.alloc (.cells #[.int .i64 0,.int .i64 1] 3)) 3 #[.int .i64 2]).keep (Kept.alloc _ _ (.cells #[.slice (some ⟨w16.heap.size,0,none⟩) 2 2,.slice (some ⟨w16.heap.size+1,0,none⟩) 1 1] 26))
  simpa using this
 have g2:Blk w17 (w16.heap.size+1+1) 26 #[.slice (some ⟨w16.heap.size,0,none⟩) 2 2,.slice (some ⟨w16.heap.size+1,0,none⟩) 1 1]:=by
  rw [hw17];have:=Blk.new ((w16.alloc (.cells #[.int .i64 0,.int .i64 1] 3)).alloc (.cells #[.int .i64 2] 3)) 26 #[.slice (some ⟨w16.heap.size,0,none⟩) 2 2,.slice (some ⟨w16.heap.size+1,0,none⟩) 1 1]
  simpa using this
 rw [← hw17];have HLS:=Hd (show Calls Tryz.prog 19 #[.slice A16 2 c16,.slice (some ⟨w16.heap.size+1+1,0,none⟩) 2 2] w17 (RetB w17 true) by
  have h:=l25_lists [[0,1],[2]] [[0,1],[2]] A16 (some ⟨w16.heap.size+1+1,0,none⟩) c16 2 w17 _ _ ((HO16.o.ext x17).nn (by decide) (by decide)) (san_nn g0 g1 g2);rw [decide_eq_true rfl] at h;exact h)
 have HV17:=Hd (HV16.o.trans x17);have HB17:=Hd (HB16.o.keep (x17.kept _));have HP17:=Hd (HP16.o.keep (x17.kept _));clear x17 g0 g1 g2 hw17;refine HLS.o.mono ?_;rintro e18 w18 ⟨rfl,hx18⟩;have HV18:=Hd (HV17.o.trans hx18);have HB18:=Hd (HB17.o.keep (hx18.kept _));have HP18:=Hd (HP17.o.keep (hx18.kept _));clear hx18 HLS;have q0:=HB18.o.cell (i:=0) rfl;have q1:=HB18.o.cell (i:=1) rfl;have q2:=HB18.o.cell (i:=2) rfl
 go_wp2_with fail
 have HFO:=Hd (show Calls Tryz.prog 48 #[.agg #[.slice A7 sanP.length c7,.int .i64 2,.int .i64 2],.int .i64 (-1),.bool true,.slice (some ⟨w18.heap.size,0,none⟩) 1 1] (w18.alloc (.cells #[.int .i64 2] 3)) (RetB (w18.alloc (.cells #[.int .i64 2] 3)) true) by
  have h:=l25_follows 1 (by decide) sanP A7 c7 2 2 (-1) true [2] (some ⟨w18.heap.size,0,none⟩) 1 (w18.alloc (.cells #[.int .i64 2] 3)) _ (fun _=>True) (HP18.o.keep (Kept.alloc _ _ _)) ⟨(Blk.new _ _ _).rd.mono fun _ _ _=>trivial,by simp⟩ (by simp);rw [san_g1] at h;exact h)
 refine HFO.o.mono ?_;rintro e19 w19 ⟨rfl,hx19⟩;have xx:=((Ext.refl w18).alloc (.cells #[.int .i64 2] 3)).trans hx19;have HV19:=Hd (HV18.o.trans xx);have HB19:=Hd (HB18.o.keep (xx.kept _));have HP19:=Hd (HP18.o.keep (xx.kept _));clear q0 q1 q2 hx19 xx HFO;have q0:=HB19.o.cell (i:=0) rfl;have q1:=HB19.o.cell (i:=1) rfl;have q2:=HB19.o.cell (i:=2) rfl
 go_wp2_with fail
 have HFO:=Hd (show Calls Tryz.prog 48 #[.agg #[.slice A7 sanP.length c7,.int .i64 2,.int .i64 2],.int .i64 (1),.bool true,.slice (some ⟨w19.heap.size,0,none⟩) 1 1] (w19.alloc (.cells #[.int .i64 1] 3)) (RetB (w19.alloc (.cells #[.int .i64 1] 3)) true) by
  have h:=l25_follows 1 (by decide) sanP A7 c7 2 2 (1) true [1] (some ⟨w19.heap.size,0,none⟩) 1 (w19.alloc (.cells #[.int .i64 1] 3)) _ (fun _=>True) (HP19.o.keep (Kept.alloc _ _ _)) ⟨(Blk.new _ _ _).rd.mono fun _ _ _=>trivial,by simp⟩ (by simp);rw [san_g2] at h;exact h)
 refine HFO.o.mono ?_;rintro e20 w20 ⟨rfl,hx20⟩;have xx:=((Ext.refl w19).alloc (.cells #[.int .i64 1] 3)).trans hx20;have HV20:=Hd (HV19.o.trans xx);have HB20:=Hd (HB19.o.keep (xx.kept _));have HP20:=Hd (HP19.o.keep (xx.kept _));clear q0 q1 q2 hx20 xx HFO;have q0:=HB20.o.cell (i:=0) rfl;have q1:=HB20.o.cell (i:=1) rfl;have q2:=HB20.o.cell (i:=2) rfl
 go_wp2_with fail
 have HFO:=Hd (show Calls Tryz.prog 48 #[.agg #[.slice A7 sanP.length c7,.int .i64 2,.int .i64 2],.int .i64 (-1),.bool true,.slice (some ⟨w20.heap.size,0,none⟩) 2 2] (w20.alloc (.cells #[.int .i64 1,.int .i64 3] 3)) (RetB (w20.alloc (.cells #[.int .i64 1,.int .i64 3] 3)) true) by
  have h:=l25_follows 1 (by decide) sanP A7 c7 2 2 (-1) true [1,3] (some ⟨w20.heap.size,0,none⟩) 2 (w20.alloc (.cells #[.int .i64 1,.int .i64 3] 3)) _ (fun _=>True) (HP20.o.keep (Kept.alloc _ _ _)) ⟨(Blk.new _ _ _).rd.mono fun _ _ _=>trivial,by simp⟩ (by simp);rw [san_g3] at h;exact h)
 refine HFO.o.mono ?_;rintro e21 w21 ⟨rfl,hx21⟩;have xx:=((Ext.refl w20).alloc (.cells #[.int .i64 1,.int .i64 3] 3)).trans hx21;have HV21:=Hd (HV20.o.trans xx);have HB21:=Hd (HB20.o.keep (xx.kept _));have HP21:=Hd (HP20.o.keep (xx.kept _));clear q0 q1 q2 hx21 xx HFO;have q0:=HB21.o.cell (i:=0) rfl;have q1:=HB21.o.cell (i:=1) rfl;have q2:=HB21.o.cell (i:=2) rfl
 go_wp2_with fail
 have HFO:=Hd (show Calls Tryz.prog 48 #[.agg #[.slice A7 sanP.length c7,.int .i64 2,.int .i64 2],.int .i64 (-1),.bool false,.slice (some ⟨w21.heap.size,0,none⟩) 1 1] (w21.alloc (.cells #[.int .i64 5] 3)) (RetB (w21.alloc (.cells #[.int .i64 5] 3)) true) by
  have h:=l25_follows 1 (by decide) sanP A7 c7 2 2 (-1) false [5] (some ⟨w21.heap.size,0,none⟩) 1 (w21.alloc (.cells #[.int .i64 5] 3)) _ (fun _=>True) (HP21.o.keep (Kept.alloc _ _ _)) ⟨(Blk.new _ _ _).rd.mono fun _ _ _=>trivial,by simp⟩ (by simp);rw [san_g4] at h;exact h)
 refine HFO.o.mono ?_;rintro e22 w22 ⟨rfl,hx22⟩;have xx:=((Ext.refl w21).alloc (.cells #[.int .i64 5] 3)).trans hx22;have HV22:=Hd (HV21.o.trans xx);have HB22:=Hd (HB21.o.keep (xx.kept _));have HP22:=Hd (HP21.o.keep (xx.kept _));clear q0 q1 q2 hx22 xx HFO;have q0:=HB22.o.cell (i:=0) rfl;have q1:=HB22.o.cell (i:=1) rfl;have q2:=HB22.o.cell (i:=2) rfl;clear q0 q1 q2;obtain ⟨pg,hpg⟩:∃ p,p=w6.heap.size+1:=⟨_,rfl⟩;have HS22:=Hd (HSV.o.ext HV22.o);have HE22:=Hd (HEX.o.trans HV22.o);rw [← hpg] at HS22 ⊢;clear hpg;go_wp2
 go_loopw [7,92] (fun _u i wr=>SyR w pg i wr) (fun _ i _=>3-(intOf i).toNat)
 case atStart=>exact ⟨0,_,Nat.zero_le _,rfl,HE22.o,HS22.o⟩
 case round =>
  obtain ⟨q,bs,hq,rfl,hx,hsv⟩:=hrel;obtain ⟨wq,rfl⟩:∃ wq:World,wq=wr:=⟨_,rfl⟩;have HX:=Hd hx;have HS:=Hd hsv;clear hx hsv;by_cases hlt:q<3
  ·obtain ⟨r,hr,hrl,hst⟩:=sanK_at hlt;obtain ⟨l,el⟩:∃ l,l=sanK q:=⟨_,rfl⟩;have HLL:=Hd (show l.length=3 by rw [el]; exact sanK_len hq);have HSTP:=Hd hst;rw [← el] at HS hr HSTP;have hql:q<l.length:=(by rw [HLL.o]; exact hlt);obtain ⟨b,hb,hob,hbm⟩:=HS.o.at_ hql;have hlr:l[q]=r:=(List.getElem?_eq_some_iff.1 hr).2;rw [hlr] at hob;have hne:=HS.o.ne b hbm;have hblt:=HS.o.lt b hbm;have hoa:=HS.o.hd;rw [HLL.o] at hoa;have hj0:=hdrV_at hb hr;have HB:=Hd hb;obtain ⟨bd,ebd⟩:∃ x,x=b.1:=⟨_,rfl⟩;obtain ⟨cd,ecd⟩:∃ x,x=b.2:=⟨_,rfl⟩;rw [← ebd,← ecd,hrl] at hj0;rw [← ebd,← ecd] at hob;rw [← ebd] at hne hblt;have HEB:=Hd ebd;have HGD:=Hd hne;have HBD2:=Hd hblt.2;have HGD2:=Hd (show pg<wq.heap.size from hoa.lt_);have Q0:=Hd (hoa.cell_ hj0);have HOA:=Hd hoa;have HOJ:=Hd hob;have HJ0:=Hd hj0;have HRL:=Hd hrl;have HSZ:=Hd HX.o.size;have i0:(0:Int)≤(q:Int):=(by omega);have i1:(q:Int)<3:=(by omega);clear hr hst el hql hb hob hbm hlr hne hblt hoa hj0 ebd ecd hrl
   go_upto_region 12 with fail
   refine wp_region_chain (by kernel_rfl) (fun i=>[i]) (by kernel_rfl) (LZ (fun m b=>(m=1008∧b=bd)∨(m=1010∧b=pg))) (LZ.refl _) (LZ.trans _) (LK [(5,[1010]),(8,[1008]),(10,[1010])]) gz0 (LK.zero _) ?_;apply Chain.pure (LZ.refl _) (by rfl)
   ·intro vals γ w' ρ hR hN hp hρ hc hf hg;refine ⟨rfl,?_⟩;have e1:=hρ 1;(conv at e1=>rhs; whnf);clear hR hN hp hρ;go_light;go_simp;exact ⟨rfl,rfl⟩
   ·rfl
   apply Chain.pure (LZ.refl _) (by rfl)
   ·intro vals γ w' ρ hR hN hp hρ hc hf hg;refine ⟨rfl,?_⟩;have e7:=hρ 7;(conv at e7=>rhs; whnf);clear hR hN hp hρ;go_light;go_simp;exact ⟨rfl,rfl⟩
   ·rfl
   apply Chain.pure (LZ.refl _) (by rfl)
   ·intro vals γ w' ρ hR hN hp hρ hc hf hg;refine ⟨rfl,?_⟩;have e1:=hρ 1;(conv at e1=>rhs; whnf);clear hR hN hp hρ;go_light;go_simp;exact ⟨rfl,rfl⟩
   ·rfl
   apply Chain.pure (LZ.refl _) (by rfl)
   ·intro vals γ w' ρ hR hN hp hρ hc hf hg;refine ⟨rfl,?_⟩;have e7:=hρ 7;(conv at e7=>rhs; whnf);clear hR hN hp hρ;go_light;go_simp;exact ⟨rfl,rfl⟩
   ·rfl
   apply Chain.pure (LZ.refl _) (by rfl)
   ·intro vals γ w' ρ hR hN hp hρ hc hf hg;refine ⟨rfl,?_⟩;have e97:ρ (.tmp 97)=_:=(hρ 97).trans (hp 2 (by decide));have e98:ρ (.tmp 98)=_:=(hρ 98).trans (hp 3 (by decide));clear hR hN hp hρ;go_light;go_simp;exact ⟨rfl,rfl⟩
   ·rfl
   apply Chain.pure (LZ.refl _) (by rfl)
   ·intro vals γ w' ρ hR hN hp hρ hc hf hg;refine ⟨rfl,?_⟩;have e99:ρ (.tmp 99)=_:=(hρ 99).trans (hp 4 (by decide));have hk13:=hN.key (k:=1010) (by decide);have hkb:=hR.kept0 (S:=fun b=>b=pg) (fun b _ hb m hm=>by rcases hm with ⟨rfl,h⟩ | ⟨rfl,h⟩; (have:=HGD.o; omega); exact hk13);have k0:=hkb.cell2 Q0.o rfl;clear hk13 hkb hR hN hp hρ;go_light;go_simp;exact ⟨rfl,rfl⟩
   ·rfl
   refine Chain.step (FP fun v γ w'=>v=.agg #[.int .i64 2,.string ⟨#[]⟩,.int .i64 7,.int .i64 0,.int .i64 0,.slice none 0 0,.slice none 0 0]) (by rfl) (FP.stab ?_) ?_ ?_
   ·intro v γ w1 γ' w2 r h;exact h
   ·intro vals γ w' ρ hR hN hp hρ hc hf hg;refine ⟨rfl,?_⟩;have HR:=Hd hR;clear hR hN hp hρ;go_light;go_simp;refine (l25_number 7 w').mono ?_;rintro e1 w3 ⟨he,hx⟩;exact ⟨_,he,γ,LZ.of_ext _ γ hx,fun _ _ _ h=>h,rfl⟩
   refine Chain.step (FP fun v γ w'=>∃ g:Nat,v=.slice (some ⟨g,0,none⟩) 1 1∧Blk w' g 47 #[.int .i64 2,.string ⟨#[]⟩,.int .i64 7,.int .i64 0,.int .i64 0,.slice none 0 0,.slice none 0 0]∧wq.heap.size≤g) (by rfl) (FP.stab ?_) ?_ ?_
   ·rintro v γ w1 γ' w2 rr ⟨g,h1,h2,h3⟩;exact ⟨g,h1,h2.keep ((rr.keptS (S:=fun b=>wq.heap.size≤b) fun b _ (e:wq.heap.size≤b) m hm=>by have:=HBD2.o; have:=HGD2.o; rcases hm with ⟨_,h⟩ | ⟨_,h⟩ <;> omega).mono fun b _ e=>by rw [e]; exact h3),h3⟩
   ·intro vals γ w' ρ hR hN hp hρ hc hf hg;refine ⟨rfl,?_⟩;have e101:ρ (.tmp 101)=_:=(hρ 101).trans (hp 6 (by decide));have HR:=Hd hR;clear hR hN hp hρ;go_light;go_simp;exact ⟨γ,LZ.of_ext _ γ ((Ext.refl _).alloc _),fun _ _ _ h=>h,_,rfl,Blk.new _ _ _,HR.o.size⟩
   refine Chain.step (FP fun v γ w'=>∃ (A4:Option Addr) (c4:Nat),v=.slice A4 3 c4∧OwnVs w' w.heap.size FF 1 A4 c4 (r++[numV 7])∧γ 1008=true∧(∀ b,ob A4=some b→b=bd∨wq.heap.size≤b)) (by rfl) (FP.stab ?_) ?_ ?_
   ·rintro v γ w1 γ' w2 rr ⟨A4,c4,h1,h2,h3,h4⟩;exact ⟨A4,c4,h1,h2.fkeep (rr.keptS fun b _ (e:ob A4=some b) m hm=>by rcases hm with ⟨rfl,h⟩ | ⟨rfl,h⟩; (rw [h3,rr.done _ h3]); (have:=HBD2.o; have:=HGD2.o; have:=HGD.o; rcases h4 b e with h5 | h5 <;> omega)),rr.done _ h3,h4⟩
   ·intro vals γ w' ρ hR hN hp hρ hc hf hg;refine ⟨rfl,?_⟩;have e100:ρ (.tmp 100)=_:=(hρ 100).trans (hp 5 (by decide));obtain ⟨g,hv,hb,hg⟩:=hp 7 (by decide);have e102:=(hρ 102).trans hv;have hk0:=hN.key (k:=1008) (by decide);have ho:=HOJ.o.fkeep (hR.kept0 (S:=fun b=>ob (some ⟨bd,0,none⟩)=some b) fun b _ e m hm=>by rcases hm with ⟨rfl,h⟩ | ⟨rfl,h⟩; exact hk0; (have:=HGD.o; simp [ob] at e; omega));obtain ⟨xs,ho1,hv1⟩:=ho;rw [HRL.o] at ho1;have hsz:=hR.size;have e0:wq.drew.heap.size=wq.heap.size:=rfl;have hs2:=HSZ.o;refine lin_appC (.tmp 100) (.tmp 102) rfl tiV e100 ho1 e102 (Blk.rd hb) rfl (by simp [Value.oneCell']) (by omega) (by decide) (by omega) ?_;intro A4 c4 w4 hown4 hg4 hat4;refine ⟨γ.put 1008,LZ.write hk0 hg4.os hg4.tape hg4.output hg4.size (fun b hb hm=>hg4.block b hb fun e=>hm (.inl ⟨rfl,by simp [ob] at e; omega⟩)),LK.done (by decide),A4,c4,rfl,OwnVs.push (A1:=none) (c1:=0) (B1:=none) (e1:=0) hv1 (by rw [HRL.o]; exact hown4) hg4 hat4 ⟨by decide,by simp [numV],by simp [numV]⟩ (numV_rv _ _ _ _ _ _),by simp [Gz.put],fun b hb4 => ?_⟩
    rcases hat4 with e | e
    ·left; rw [hb4] at e; simp [ob] at e; exact e
    ·right; rw [hb4] at e; injection e with e; omega
   apply Chain.pure (LZ.refl _) (by rfl)
   ·intro vals γ w' ρ hR hN hp hρ hc hf hg;refine ⟨rfl,?_⟩;have e95:ρ (.tmp 95)=_:=(hρ 95).trans (hp 0 (by decide));have e96:ρ (.tmp 96)=_:=(hρ 96).trans (hp 1 (by decide));clear hR hN hp hρ;go_light;go_simp;exact ⟨rfl,rfl⟩
   ·rfl
   refine Chain.step (fun _ γ w'=>SyF w wq.heap.size pg bd q bs l r γ w') (by rfl) ?_ ?_ ?_
   ·rintro l γ w1 γ' w2 rr ⟨A4,c4,h3,h5,h2,h4,h6⟩;exact ⟨A4,c4,rr.done _ h3,rr.done _ h5,h2.fkeep (rr.keptS fun b _ (e:ob A4=some b) m hm=>by rcases hm with ⟨rfl,h⟩ | ⟨rfl,h⟩; (rw [h3,rr.done _ h3]); (have:=HBD2.o; have:=HGD2.o; have:=HGD.o; rcases h4 b e with h5 | h5 <;> omega)),h4,Own.keep h6 (rr.keptS fun b _ (e:ob (some ⟨pg,0,none⟩)=some b) m hm=>by rcases hm with ⟨rfl,h⟩ | ⟨rfl,h⟩; (rw [h3,rr.done _ h3]); (rw [h5,rr.done _ h5]))⟩
   ·intro vals γ w' ρ hR hN hp hρ hc hf hg;refine ⟨rfl,?_⟩;obtain ⟨A4,c4,hv,ho4,hd4,hat4⟩:=hp 8 (by decide);have e103:=(hρ 103).trans hv;have e104:ρ (.tmp 104)=_:=(hρ 104).trans (hp 9 (by decide));have hk13:=hN.key (k:=1010) (by decide);have HK:=Hd hk13;have hb0:=Own.keep HOA.o (hR.kept0 (S:=fun b=>ob (some ⟨pg,0,none⟩)=some b) (fun b _ e m hm=>by rcases hm with ⟨rfl,h⟩ | ⟨rfl,h⟩; (have:=HGD.o; simp [ob] at e; omega); exact hk13));have HB0:=Hd hb0;have qc:=hb0.cell_ HJ0.o;have qf:=hb0.frozen_ q;have ql:=hb0.lt_;have HE:=Hd ho4;have HDD:=Hd hd4;have HAA:=Hd hat4;clear hR hN hp hρ hv ho4 hd4 hat4 hk13 hb0;go_light;go_simp;refine ⟨γ.put 1010,LZ.write HK.o rfl rfl rfl (by simp [World.setCell]) (fun b hb hm=>Below.heap_setCell _ _ _ _ (by show b≠pg; exact fun e=>hm (.inr ⟨rfl,e⟩))),LK.done (by decide),A4,c4,by simp [Gz.put,HDD.o],by simp [Gz.put],HE.o.fkeep (Kept.set2 (Kept.refl _ _) fun e => ?_),HAA.o,HB0.o.put _⟩;have:=HBD2.o;have:=HGD2.o;have:=HGD.o
    rcases HAA.o _ e with h5 | h5 <;> omega
   intro vals γ w9 hR hG;have v0:vals 0=_:=hG 0 (by decide);have v1:vals 1=_:=hG 1 (by decide);have v2:vals 2=_:=hG 2 (by decide);have v3:vals 3=_:=hG 3 (by decide);have v4:vals 4=_:=hG 4 (by decide);have v5:vals 5=_:=hG 5 (by decide);have v6:vals 6=_:=hG 6 (by decide);obtain ⟨g7,v7,-⟩:=hG 7 (by decide);obtain ⟨A11,c11,v8,-⟩:=hG 8 (by decide);have v9:vals 9=_:=hG 9 (by decide);simp only [lexFrame,Act.put,List.setIfInBounds_toArray,List.set_cons_succ,List.set_cons_zero,Nat.zero_add,Nat.reduceAdd,v0,v1,v2,v3,v4,v5,v6,v7,v8,v9];clear v0 v1 v2 v3 v4 v5 v6 v7 v8 v9;obtain ⟨A4,c4,-,-,ho4,hat4,hoh⟩:=hG 10 (by decide);have HB9:=Hd (hR.buts (S:=fun b=>b=bd∨b=pg) (fun m b _ hm _=>by rcases hm with ⟨_,h⟩ | ⟨_,h⟩; exact .inl h; exact .inr h));have HO4:=Hd ho4;have HAT4:=Hd hat4;have HOH:=Hd hoh;clear hR hG ho4 hat4 hoh;go_wp2;go_roundw
   case rel =>
    have hsz:=HB9.o.size;obtain ⟨bs',hs'⟩:=HS.o.grow (r2:=r++[numV 7]) (i:=q) (by rw [HLL.o,List.length_append,HRL.o]; exact HOH.o) HB.o ((HB9.o.kept (T:=fun y=>y∈bs.map (·.1)∧y≠b.1) fun y _ hy hh=>by
     rcases hh with hh | hh
     ·exact hy.2 (by rw [hh,HEB.o])
     ·obtain ⟨d,hd,e⟩:=List.mem_map.1 hy.1;exact HS.o.ne d hd (by rw [e,hh]))) HO4.o (by rw [← HEB.o]; exact HAT4.o) (by simp)
    rw [← HSTP.o] at hs';refine ⟨q+1,bs',by omega,by go_num,HB9.o.exts HX.o fun y hy => ?_,hs'⟩;have h1:=(HS.o.lt b (List.mem_of_getElem? HB.o)).1;have h2:=(Own.blk HOA.o rfl).1;have h3:=HEB.o;have hy':y=bd∨y=pg:=hy
    rcases hy' with hy' | hy'
    ·rw [hy',h3]; exact h1
    ·rw [hy']; exact h2
   case measure=>simp [intOf]; omega
  ·obtain rfl:q=3:=by omega
   rw [sanK_all] at HS;have HUS:=Hd (question_Useful 1 (san0.map fun r=>r++[numV 7]) (some ⟨pg,0,none⟩) 3 wq _ (HS.o.rows (by decide) (by decide)) san_noT7 (by decide));rw [san_useful] at HUS
   go_wp2_with fail
   refine HUS.o.mono ?_;rintro e23 w23 ⟨A23,c23,rfl,ho23,hx23⟩;have HX23:=Hd (HX.o.trans hx23);have HO23:=Hd ho23;clear ho23 hx23 HUS;have HIC:=Hd (show Calls Tryz.prog 22 #[.slice A23 2 c23,.slice (some ⟨w23.heap.size,0,none⟩) 2 2] (w23.alloc (.cells #[.int .i64 0,.int .i64 1] 3)) (RetB (w23.alloc (.cells #[.int .i64 0,.int .i64 1] 3)) true) by
    have hh:=Own.rd (Own.ext HO23.o ((Ext.refl w23).alloc (.cells #[.int .i64 0,.int .i64 1] 3)));have h:=r13_Ints [0,1] [0,1] A23 (some ⟨w23.heap.size,0,none⟩) c23 2 (w23.alloc (.cells #[.int .i64 0,.int .i64 1] 3)) _ (fun _=>True) ⟨hh,by decide⟩ ⟨(Blk.new _ _ _).rd.mono fun _ _ _=>trivial,by decide⟩;rw [decide_eq_true rfl] at h;exact h)
   go_wp2_with fail
   refine HIC.o.mono ?_;rintro e24 w24 ⟨rfl,hx24⟩;have HX24:=Hd ((HX23.o.alloc _).trans hx24);clear hx24;go_wp2;go_ret;exact ⟨rfl,HX24.o⟩
end Go.Proofs.YtomdpipekmcojaaGreatDoor
