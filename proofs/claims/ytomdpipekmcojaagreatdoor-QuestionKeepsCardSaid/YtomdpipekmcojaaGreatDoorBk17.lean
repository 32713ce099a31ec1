/- The checker's visit, of plans as ask makes them. Conditions: the checker lies in memory. -/
import Derived.Test.YtomdpipekmcojaaGreatDoorBk16
namespace Go.Proofs.YtomdpipekmcojaaGreatDoor
open Go Go.RowKit

theorem planG_split (sub:List Nat→Nat→List AskD) {gs:List (List Nat)} {j:Nat} (hj:j<gs.length) (t:Nat) :
  (planG sub gs t).1=(planG sub (gs.take j) t).1++sub gs[j] (t+(planG sub (gs.take j) t).1.length)++(planG sub (gs.drop (j+1)) (t+(planG sub (gs.take j) t).1.length+(sub gs[j] (t+(planG sub (gs.take j) t).1.length)).length)).1 ∧
  (planG sub gs t).2[j]?=some (if (sub gs[j] (t+(planG sub (gs.take j) t).1.length)).length=0 then -1 else ((t+(planG sub (gs.take j) t).1.length:Nat):Int)) ∧
  (planG sub (gs.take (j+1)) t).1=(planG sub (gs.take j) t).1++sub gs[j] (t+(planG sub (gs.take j) t).1.length):=by
 have e:gs=gs.take j++gs[j] :: gs.drop (j+1):=(by rw [← List.drop_eq_getElem_cons hj,List.take_append_drop]);have hl:(planG sub (gs.take j) t).2.length=j:=(by rw [planG_len,List.length_take]; omega);refine ⟨?_,?_,?_⟩
 ·(conv=>lhs; rw [e,planG_app]);simp [planG]
 ·(conv=>lhs; rw [e,planG_app]);rw [List.getElem?_append_right (by omega),hl,Nat.sub_self];simp [planG]
 ·rw [List.take_succ_eq_append_getElem hj,planG_app];simp [planG]
def Vs12 (ng:Nat) (gs:List (List Nat)) (W:Nat) (v:Value) (w':World):Prop:=∃ (A4:Option Addr) (c4:Nat),v=.slice A4 ng c4∧NN w' (fun b=>W≤b) A4 gs
set_option maxRecDepth 100000 in
set_option maxHeartbeats 2000000 in
theorem visit_step (f:Nat) (ih:0<f→PVisit (f-1)):PVisit f:=by
 intro l bC bP bm bR d L LA lc A c Y X Z qd ql r after w hf hl hw hck hi h0 hn hY hYl hr haf hrf hbR;have HCK:=Hd hck;have HI:=Hd hi;have HF:=Hd hf;have HL:=Hd hl;have H0:=Hd h0;have HW:=Hd hw;have HNU:=Hd hn;have HY:=Hd hY;have HRF:=Hd hrf;have HBR:=Hd hbR;have HRL:=Hd hr;have HLEN:=Hd (show L.length<20 by have:=hi.len; omega);have HD1:=Hd (pl_depth L.length l bP bm L LA lc w (Nat.le_refl _) hl hck.pd hi h0 (hn.mono fun b _ e=>e.1));obtain ⟨N,eN⟩:∃ N,N=inpS l:=⟨_,rfl⟩;have HEN:=Hd eN;obtain ⟨n,en⟩:∃ n,n=L.length:=⟨_,rfl⟩;have HEL:=Hd en;rw [← en] at HD1 ⊢;obtain ⟨dp,edp⟩:∃ dp,dp=dep (spl l) (inpS l) L:=⟨_,rfl⟩;have HDP:=Hd edp;rw [← edp] at HD1 ⊢;obtain ⟨rc,hcb⟩:=hck.ck;obtain ⟨nY,enY⟩:∃ nY,nY=Y.length:=⟨_,rfl⟩;have HNY:=Hd enY;rw [← enY] at hcb hYl;have c0:=hcb.cell (i:=0) rfl;have c1:=hcb.cell (i:=1) rfl;have c4:=hcb.cell (i:=4) rfl;clear hcb;by_cases hd0:dp=0
 ·have HP0:=Hd (show (plan (spl l) (inpS l) (ans l) L X.length).length=0 from (plan_nil (spl_small l) _ _ _).2 (by rw [← HDP.o]; exact hd0));rw [if_pos hd0,HP0.o];have j0:((dp:Int)==0)=true:=(by rw [beq_iff_eq]; omega);have HDZ:=Hd hd0;clear hf hl hw hck hi h0 hn hY hr haf hrf hbR eN en edp enY hd0
  go_enter Tryz.func60,Tryz.ntmps60
  go_wp2_with fail
  refine HD1.o.mono ?_;rintro e1 w1 ⟨rfl,hb1,hm1⟩;have HB1:=Hd hb1;have HM1:=Hd hm1;clear hb1 hm1;go_wp2;go_ret2;exact ⟨by rw [HDZ.o]; rfl,HB1.o.mono fun b _ e=>.inl e,HBR.o.keep (HB1.o.kept fun b _ e f=>HCK.o.ne.2.2.2.2 (f.symm.trans e)),HM1.o⟩
 ·have HDZ:=Hd (show dep (spl l) (inpS l) L≠0 by rw [← HDP.o]; exact hd0);rw [if_neg hd0];obtain ⟨im,eim⟩:∃ im,im=inpF (spl l) (inpS l) L:=⟨_,rfl⟩;obtain ⟨hin,hid1,-⟩:=inpF_at (spl_small l) (inpS l) L HDZ.o;obtain ⟨gs,egs⟩:∃ gs,gs=spl l im L:=⟨_,rfl⟩;have h2p:=two_parts (spl_small l) HDZ.o;have hpl:=plan_eq (v:=ans l) (spl_small l) (inpS l) L X.length;rw [if_neg HDZ.o,← eim,← egs] at hpl;rw [← eim] at hin hid1 h2p;rw [← egs] at h2p;obtain ⟨nX,enX⟩:∃ nX,nX=X.length:=⟨_,rfl⟩;have HNX:=Hd enX;obtain ⟨rest,erest⟩:∃ rest,rest=(planG (plan (spl l) (inpS l) (ans l)) gs (X.length+1)).1:=⟨_,rfl⟩;obtain ⟨nx,enx⟩:∃ nx,nx=(planG (plan (spl l) (inpS l) (ans l)) gs (X.length+1)).2:=⟨_,rfl⟩;rw [← erest,← enx] at hpl;have HPL:=Hd hpl;have HIM:=Hd eim;have HGS:=Hd egs;have HREST:=Hd erest;have HNXT:=Hd enx;have HID1:=Hd hid1;obtain ⟨ng,eng⟩:∃ ng,ng=gs.length:=⟨_,rfl⟩;have HENG:=Hd eng;have hgl:=spl_len l im L;rw [← egs,← eng] at hgl;rw [← eng] at h2p;have hng:ng<20:=(by have:=HLEN.o; omega);have HYY:=Hd (show Y=X++(((im:Int),gs.map (fun g=>ans l im (g.headD 0)),nx) :: rest)++Z by rw [hY,hpl]);have hXY:X.length<Y.length:=(by rw [HYY.o]; simp);have HYX:=Hd (show Y[X.length]'hXY=((im:Int),gs.map (fun g=>ans l im (g.headD 0)),nx) by
   have h1:Y[X.length]?=some ((im:Int),gs.map (fun g=>ans l im (g.headD 0)),nx):=(by rw [HYY.o]; simp);rw [List.getElem?_eq_getElem hXY] at h1;exact Option.some.inj h1)
  obtain ⟨ab,ao,Ac,cc,Ar,cr,hA,_,⟨a0,a1,a2⟩,hcaps,hrow,hints⟩:=hck.as_.at_ hXY;simp only [HYX.o] at a0 a1 a2 hrow hints hcaps;subst hA;rw [List.length_map,← eng] at a1;have hnxl:nx.length=ng:=(by rw [enx,planG_len,eng]);rw [hnxl] at a2;have HROW:=Hd hrow;have HINT:=Hd hints;have HNE:Hid (L≠[]):=Hd (by
   intro e;have:=dep_len (spl_small l) (inpS l) L;rw [← HDP.o,e] at this;simp at this;exact hd0 this)
  have hrX:r[nX]?=some false:=(by rw [enX]; exact hrf _ (Nat.le_refl _) (by rw [hpl]; simp));have r0:=hbR.cell (bcells_at hrX);have rf:=hbR.frozen nX;have rl:=hbR.lt;have HMK:=Hd (show mark r X.length (plan (spl l) (inpS l) (ans l) L X.length).length=mark (r.set nX true) (nX+1) rest.length by rw [hpl,← enX,List.length_cons]; rfl);rw [HMK.o];rw [← enX] at a0 a1 a2 haf ⊢;have haf2:¬ (nX:Int)≤after:=(by omega);have hXY2:(nX:Int)<(nY:Int):=(by rw [enX,enY]; omega);have i0:(0:Int)≤(nX:Int):=(by omega);have hne1:((nX:Int)==-1)=false:=(by rw [beq_eq_false_iff_ne]; omega);clear hf hl hw hck hi h0 hn hY hr haf hrf eN en edp enY hd0 eim hid1 egs hpl enX erest enx eng hgl hrow hints hcaps hrX hbR hnxl
  go_enter Tryz.func60,Tryz.ntmps60
  go_upto_region 6 with fail
  obtain ⟨w1,hw1⟩:∃ w1,w1=w.setCell ⟨bR,nX,none⟩ (.bool true):=⟨_,rfl⟩;rw [← hw1];have hB1:ButS (fun b=>b=bm∨b=bR) w w1:=(by rw [hw1]; exact (ButS.refl _ w).set (.inl (.inr rfl)));have hk1:∀ T:Nat→Prop,(∀ b,T b→b≠bR)→Kept T w w1:=fun T hT=>by rw [hw1]; exact Kept.set2 (Kept.refl _ _) fun e=>hT _ e rfl
  obtain ⟨M,hM,hC⟩:=HCK.o.map;have hck1:=HCK.o.but hB1 ⟨M,hM.keep (hk1 _ fun b e f=>HCK.o.ne.2.2.2.2 (e.symm.trans f)),hC⟩;have hbR1:Blk w1 bR 4 (bcells (r.set nX true)):=by
   rw [hw1,← bcells_set];exact HBR.o.set nX (.bool true)
  have hA1:∀ b,b≠bm∧b≠bR→b≠bR:=fun b e=>e.2;have hXYn:nX<Y.length:=(by rw [HNX.o]; exact hXY);have hYXn:Y[nX]'hXYn=((im:Int),gs.map (fun g=>ans l im (g.headD 0)),nx):=by
   have h1:=HYX.o;have h2:=HNX.o;subst h2;exact h1
  obtain ⟨ab',ao',Ac',cc',Ar',cr',hA',-,⟨b0,b1,b2⟩,-,hrow1,hints1⟩:=hck1.as_.at_ hXYn;injection hA' with hA';injection hA' with hA1' hA2';subst hA1' hA2';simp only [hYXn,List.length_map,← HENG.o] at b0 b1 b2 hrow1 hints1;have hnxl:nx.length=ng:=(by rw [HNXT.o,planG_len,HENG.o]);rw [hnxl] at b2;have HCK1:=Hd hck1;have HBR1:=Hd hbR1;have HB1:=Hd hB1;have HROW1:=Hd hrow1;have HINT1:=Hd hints1;obtain ⟨rc1,hcb1⟩:=hck1.ck;rw [← HNY.o] at hcb1;have d0:=hcb1.cell (i:=0) rfl;have d1:=hcb1.cell (i:=1) rfl;clear a0 a1 a2 c0 c1 c4 r0 rf rl hB1 hk1 hM hC hck1 hbR1 hA1 hrow1 hints1 hnxl hw1 hcb1 HROW HINT hYXn
  go_upto_region 7 with fail
  obtain ⟨w2,hw2⟩:∃ w2,w2=w1.alloc (.cells #[.int .i64 (im:Int),.slice Ac' ng cc',.slice Ar' ng cr'] 59):=⟨_,rfl⟩;obtain ⟨b10,hb10⟩:∃ b10,b10=w1.heap.size:=⟨_,rfl⟩;rw [← hw2,← hb10];have hx2:Ext w1 w2:=(by rw [hw2]; exact (Ext.refl _).alloc _);have hbk10:Blk w2 b10 59 #[.int .i64 (im:Int),.slice Ac' ng cc',.slice Ar' ng cr']:=(by rw [hw2,hb10]; exact Blk.new _ _ _);have HX2:=Hd hx2;have HBK:=Hd hbk10;have HB10:=Hd hb10;obtain ⟨AA,ac,PA,pc,p1,p2,p3,p4,p5,p6⟩:=HCK1.o.pn;rw [← HEN.o] at p2 hin;have K0:=Hd (hbk10.cell (i:=0) rfl);have KC:=Hd (hx2.cell d0);have KP:=Hd (hx2.cell p2);have i1:(im:Int)<(N:Int):=(by omega);have i2:¬ (im:Int)<0:=(by omega);have i3:(0:Int)≤(im:Int):=(by omega);clear hw2 hb10 hx2 hbk10 p1 p2 p3 p4 p5 p6 d0 d1 b0 b1 b2;refine wp_region_chain (by kernel_rfl) (fun i=>[i]) (by kernel_rfl) (LZ (fun _ _=>False)) (LZ.refl _) (LZ.trans _) (LK []) gz0 (LK.zero _) ?_;apply Chain.pure (LZ.refl _) (by rfl)
  ·intro vals γ w' ρ hR hN hp hρ hc hf hg;refine ⟨rfl,?_⟩;have e10:=hρ 10;(conv at e10=>rhs; whnf);clear hR hN hp hρ;go_light;go_simp;exact ⟨rfl,rfl⟩
  ·rfl
  apply Chain.pure (LZ.refl _) (by rfl)
  ·intro vals γ w' ρ hR hN hp hρ hc hf hg;refine ⟨rfl,?_⟩;have e62:ρ (.tmp 62)=_:=(hρ 62).trans (hp 0 (by decide));have hxx:=hR.ext0 (fun _ _ _ h=>h.elim);have k0:=hxx.cell K0.o;have k1:=hxx.cell KC.o;have k2:=hxx.cell KP.o;clear hxx hR hN hp hρ;go_light;go_simp;exact ⟨rfl,rfl⟩
  ·rfl
  apply Chain.pure (LZ.refl _) (by rfl)
  ·intro vals γ w' ρ hR hN hp hρ hc hf hg;refine ⟨rfl,?_⟩;have e63:ρ (.tmp 63)=_:=(hρ 63).trans (hp 1 (by decide));clear hR hN hp hρ;go_light;go_simp;exact ⟨rfl,rfl⟩
  ·rfl
  apply Chain.pure (LZ.refl _) (by rfl)
  ·intro vals γ w' ρ hR hN hp hρ hc hf hg;refine ⟨rfl,?_⟩;have e64:ρ (.tmp 64)=_:=(hρ 64).trans (hp 2 (by decide));clear hR hN hp hρ;go_light;go_simp;exact ⟨rfl,rfl⟩
  ·rfl
  apply Chain.pure (LZ.refl _) (by rfl)
  ·intro vals γ w' ρ hR hN hp hρ hc hf hg;refine ⟨by show (boolOf (vals 3)==some false)=true; rw [show vals 3=.bool false from hp 3 (by decide)]; rfl,?_⟩;have e10:=hρ 10;(conv at e10=>rhs; whnf);clear hR hN hp hρ;go_light;go_simp;exact ⟨rfl,rfl⟩
  ·rfl
  apply Chain.pure (LZ.refl _) (by rfl)
  ·intro vals γ w' ρ hR hN hp hρ hc hf hg;refine ⟨by show (boolOf (vals 3)==some false)=true; rw [show vals 3=.bool false from hp 3 (by decide)]; rfl,?_⟩;have e66:ρ (.tmp 66)=_:=(hρ 66).trans (hp 4 (by decide));have hxx:=hR.ext0 (fun _ _ _ h=>h.elim);have k0:=hxx.cell K0.o;have k1:=hxx.cell KC.o;have k2:=hxx.cell KP.o;clear hxx hR hN hp hρ;go_light;go_simp;exact ⟨rfl,rfl⟩
  ·rfl
  apply Chain.pure (LZ.refl _) (by rfl)
  ·intro vals γ w' ρ hR hN hp hρ hc hf hg;refine ⟨by show (boolOf (vals 3)==some false)=true; rw [show vals 3=.bool false from hp 3 (by decide)]; rfl,?_⟩;have e0:=hρ 0;(conv at e0=>rhs; whnf);clear hR hN hp hρ;go_light;go_simp;exact ⟨rfl,rfl⟩
  ·rfl
  apply Chain.pure (LZ.refl _) (by rfl)
  ·intro vals γ w' ρ hR hN hp hρ hc hf hg;refine ⟨by show (boolOf (vals 3)==some false)=true; rw [show vals 3=.bool false from hp 3 (by decide)]; rfl,?_⟩;have e68:ρ (.tmp 68)=_:=(hρ 68).trans (hp 6 (by decide));clear hR hN hp hρ;go_light;go_simp;exact ⟨rfl,rfl⟩
  ·rfl
  apply Chain.pure (LZ.refl _) (by rfl)
  ·intro vals γ w' ρ hR hN hp hρ hc hf hg;refine ⟨by show (boolOf (vals 3)==some false)=true; rw [show vals 3=.bool false from hp 3 (by decide)]; rfl,?_⟩;have e69:ρ (.tmp 69)=_:=(hρ 69).trans (hp 7 (by decide));clear hR hN hp hρ;go_light;go_simp;exact ⟨rfl,rfl⟩
  ·rfl
  apply Chain.pure (LZ.refl _) (by rfl)
  ·intro vals γ w' ρ hR hN hp hρ hc hf hg;refine ⟨by show (boolOf (vals 3)==some false)=true; rw [show vals 3=.bool false from hp 3 (by decide)]; rfl,?_⟩;have e70:ρ (.tmp 70)=_:=(hρ 70).trans (hp 8 (by decide));have hxx:=hR.ext0 (fun _ _ _ h=>h.elim);have k0:=hxx.cell K0.o;have k1:=hxx.cell KC.o;have k2:=hxx.cell KP.o;clear hxx hR hN hp hρ;go_light;go_simp;exact ⟨rfl,rfl⟩
  ·rfl
  apply Chain.pure (LZ.refl _) (by rfl)
  ·intro vals γ w' ρ hR hN hp hρ hc hf hg;refine ⟨by show (boolOf (vals 3)==some false)=true; rw [show vals 3=.bool false from hp 3 (by decide)]; rfl,?_⟩;have e71:ρ (.tmp 71)=_:=(hρ 71).trans (hp 9 (by decide));clear hR hN hp hρ;go_light;go_simp;exact ⟨rfl,rfl⟩
  ·rfl
  apply Chain.pure (LZ.refl _) (by rfl)
  ·intro vals γ w' ρ hR hN hp hρ hc hf hg;refine ⟨by show (boolOf (vals 3)==some false)=true; rw [show vals 3=.bool false from hp 3 (by decide)]; rfl,?_⟩;have e72:ρ (.tmp 72)=_:=(hρ 72).trans (hp 10 (by decide));clear hR hN hp hρ;go_light;go_simp;exact ⟨rfl,rfl⟩
  ·rfl
  apply Chain.pure (LZ.refl _) (by rfl)
  ·intro vals γ w' ρ hR hN hp hρ hc hf hg;refine ⟨by show (boolOf (vals 3)==some false)=true; rw [show vals 3=.bool false from hp 3 (by decide)]; rfl,?_⟩;have e73:ρ (.tmp 73)=_:=(hρ 73).trans (hp 11 (by decide));have hxx:=hR.ext0 (fun _ _ _ h=>h.elim);have k0:=hxx.cell K0.o;have k1:=hxx.cell KC.o;have k2:=hxx.cell KP.o;clear hxx hR hN hp hρ;go_light;go_simp;exact ⟨rfl,rfl⟩
  ·rfl
  apply Chain.pure (LZ.refl _) (by rfl)
  ·intro vals γ w' ρ hR hN hp hρ hc hf hg;refine ⟨by show (boolOf (vals 3)==some false)=true; rw [show vals 3=.bool false from hp 3 (by decide)]; rfl,?_⟩;have e74:ρ (.tmp 74)=_:=(hρ 74).trans (hp 12 (by decide));clear hR hN hp hρ;go_light;go_simp;exact ⟨rfl,rfl⟩
  ·rfl
  apply Chain.pure (LZ.refl _) (by rfl)
  ·intro vals γ w' ρ hR hN hp hρ hc hf hg;refine ⟨by show (boolOf (vals 3)==some false)=true; rw [show vals 3=.bool false from hp 3 (by decide)]; rfl,?_⟩;have e67:ρ (.tmp 67)=_:=(hρ 67).trans (hp 5 (by decide));have e75:ρ (.tmp 75)=_:=(hρ 75).trans (hp 13 (by decide));clear hR hN hp hρ;go_light;go_simp;exact ⟨rfl,rfl⟩
  ·rfl
  apply Chain.pure (LZ.refl _) (by rfl)
  ·intro vals γ w' ρ hR hN hp hρ hc hf hg;refine ⟨rfl,?_⟩;have e65:ρ (.tmp 65)=_:=(hρ 65).trans (hp 3 (by decide));have e76:ρ (.tmp 76)=_:=(hρ 76).trans (hp 14 (by decide));clear hR hN hp hρ;go_light;go_simp;exact ⟨rfl,rfl⟩
  ·rfl
  intro vals γ w9 hR hG;have v0:vals 0=_:=hG 0 (by decide);have v1:vals 1=_:=hG 1 (by decide);have v2:vals 2=_:=hG 2 (by decide);have v3:vals 3=_:=hG 3 (by decide);have v4:vals 4=_:=hG 4 (by decide);have v5:vals 5=_:=hG 5 (by decide);have v6:vals 6=_:=hG 6 (by decide);have v7:vals 7=_:=hG 7 (by decide);have v8:vals 8=_:=hG 8 (by decide);have v9:vals 9=_:=hG 9 (by decide);have v10:vals 10=_:=hG 10 (by decide);have v11:vals 11=_:=hG 11 (by decide);have v12:vals 12=_:=hG 12 (by decide);have v13:vals 13=_:=hG 13 (by decide);have v14:vals 14=_:=hG 14 (by decide);have v15:vals 15=_:=hG 15 (by decide);simp only [lexFrame,Act.put,List.setIfInBounds_toArray,List.set_cons_succ,List.set_cons_zero,Nat.zero_add,Nat.reduceAdd,v0,v1,v2,v3,v4,v5,v6,v7,v8,v9,v10,v11,v12,v13,v14,v15];clear v0 v1 v2 v3 v4 v5 v6 v7 v8 v9 v10 v11 v12 v13 v14 v15;have HX3:=Hd (show Ext w2 w9 from hR.ext0 (fun _ _ _ h=>h.elim));clear hR hG;obtain ⟨w3,hw3⟩:∃ w3:World,w3=w9:=⟨_,rfl⟩;rw [← hw3] at HX3 ⊢;clear hw3;have HX13:=Hd (HX2.o.trans HX3.o);have HCK3:=Hd (HCK1.o.ext HX13.o);have HBK3:=Hd (HBK.o.keep (HX3.o.kept _));obtain ⟨AA,ac,PA,pc,p1,p2,p3,p4,p5,p6⟩:=HCK3.o.pn;obtain ⟨bI,oI,BI,eI,rfl,_,hcI,_,hnI⟩:=p5.at_ (k:=im) (by simp; have:=HEN.o; omega);simp only [List.getElem_map,List.getElem_range,placesS_len] at hcI hnI;obtain ⟨rc3,hcb3⟩:=HCK3.o.ck;have K0:=Hd (HBK3.o.cell (i:=0) rfl);have KC:=Hd (hcb3.cell (i:=0) rfl);rw [← HEN.o] at p2;have KP:=Hd p2;obtain ⟨np,enp⟩:∃ np,np=l.length:=⟨_,rfl⟩;have HENP:=Hd enp;rw [← enp] at hcI;have KI:=Hd hcI;obtain ⟨a0,rfl⟩:∃ a,LA=some a:=by
   rcases HNU.o.1.some_ (by intro e; apply HNE.o; simpa [nums] using e) with ⟨b,o,e,_⟩
   exact ⟨_,e⟩
  have HNI:=Hd hnI;have HSP:=Hd (show ∀ w':World,Ext w3 w'→Calls Tryz.prog 63 #[.slice (some a0) n lc,.slice BI np eI] w' (fun e w''=>∃ (A4:Option Addr) (c4:Nat),e=.returned (.slice A4 ng c4)∧NN w'' (fun b=>w2.heap.size≤b) A4 gs∧Ext w' w'') from fun w' hx=>by
   have h1:=question_split a0 lc L BI eI (placesS l im) w' (fun _=>True) (((HNU.o.keep (HB1.o.kept fun b _ h f=>by rcases f with f | f; exact h.1 f; exact h.2 f)).keep ((HX13.o.trans hx).kept _)).mono fun _ _ _=>trivial) ((HNI.o.keep (hx.kept _)).mono fun _ _ _=>trivial) HNE.o HLEN.o (fun x hx=>by rw [placesS_len]; exact HI.o.2 x hx) (fun x hx=>by have:=placesS_le l im x hx; have:=HL.o; omega);rw [placesS_len,← HENP.o,← HEL.o] at h1;refine h1.mono ?_;rintro e w'' ⟨A4,c4,rfl,ho,hx2⟩;have e1:splitS L (placesS l im)=gs:=HGS.o.symm;rw [e1,← HENG.o];refine ⟨A4,c4,rfl,?_,hx2⟩;rw [HGS.o];refine (OwnNN.spl (l:=l) (m:=im) (L:=L) ho (by have:=HLEN.o; omega)).mono fun b _ hb => ?_;have:=hx.size;have:=HX3.o.size;omega)
  clear p1 p2 p3 p4 p5 p6 hcI hnI hcb3 enp
  go_upto_region 9 with fail
  refine wp_region_chain (by kernel_rfl) (fun i=>[i]) (by kernel_rfl) (LZ (fun _ _=>False)) (LZ.refl _) (LZ.trans _) (LK []) gz0 (LK.zero _) ?_;apply Chain.pure (LZ.refl _) (by rfl)
  ·intro vals γ w' ρ hR hN hp hρ hc hf hg;refine ⟨rfl,?_⟩;have e3:=hρ 3;(conv at e3=>rhs; whnf);clear hR hN hp hρ;go_light;go_simp;exact ⟨rfl,rfl⟩
  ·rfl
  apply Chain.pure (LZ.refl _) (by rfl)
  ·intro vals γ w' ρ hR hN hp hρ hc hf hg;refine ⟨rfl,?_⟩;have e0:=hρ 0;(conv at e0=>rhs; whnf);clear hR hN hp hρ;go_light;go_simp;exact ⟨rfl,rfl⟩
  ·rfl
  apply Chain.pure (LZ.refl _) (by rfl)
  ·intro vals γ w' ρ hR hN hp hρ hc hf hg;refine ⟨rfl,?_⟩;have e79:ρ (.tmp 79)=_:=(hρ 79).trans (hp 1 (by decide));clear hR hN hp hρ;go_light;go_simp;exact ⟨rfl,rfl⟩
  ·rfl
  apply Chain.pure (LZ.refl _) (by rfl)
  ·intro vals γ w' ρ hR hN hp hρ hc hf hg;refine ⟨rfl,?_⟩;have e80:ρ (.tmp 80)=_:=(hρ 80).trans (hp 2 (by decide));clear hR hN hp hρ;go_light;go_simp;exact ⟨rfl,rfl⟩
  ·rfl
  apply Chain.pure (LZ.refl _) (by rfl)
  ·intro vals γ w' ρ hR hN hp hρ hc hf hg;refine ⟨rfl,?_⟩;have e81:ρ (.tmp 81)=_:=(hρ 81).trans (hp 3 (by decide));have hxx:=hR.ext0 (fun _ _ _ h=>h.elim);have k0:=hxx.cell K0.o;have k1:=hxx.cell KC.o;have k2:=hxx.cell KP.o;have k3:=hxx.cell KI.o;clear hxx hR hN hp hρ;go_light;go_simp;exact ⟨rfl,rfl⟩
  ·rfl
  apply Chain.pure (LZ.refl _) (by rfl)
  ·intro vals γ w' ρ hR hN hp hρ hc hf hg;refine ⟨rfl,?_⟩;have e82:ρ (.tmp 82)=_:=(hρ 82).trans (hp 4 (by decide));clear hR hN hp hρ;go_light;go_simp;exact ⟨rfl,rfl⟩
  ·rfl
  apply Chain.pure (LZ.refl _) (by rfl)
  ·intro vals γ w' ρ hR hN hp hρ hc hf hg;refine ⟨rfl,?_⟩;have e83:ρ (.tmp 83)=_:=(hρ 83).trans (hp 5 (by decide));clear hR hN hp hρ;go_light;go_simp;exact ⟨rfl,rfl⟩
  ·rfl
  apply Chain.pure (LZ.refl _) (by rfl)
  ·intro vals γ w' ρ hR hN hp hρ hc hf hg;refine ⟨rfl,?_⟩;have e84:ρ (.tmp 84)=_:=(hρ 84).trans (hp 6 (by decide));have hxx:=hR.ext0 (fun _ _ _ h=>h.elim);have k0:=hxx.cell K0.o;have k1:=hxx.cell KC.o;have k2:=hxx.cell KP.o;have k3:=hxx.cell KI.o;clear hxx hR hN hp hρ;go_light;go_simp;exact ⟨rfl,rfl⟩
  ·rfl
  apply Chain.pure (LZ.refl _) (by rfl)
  ·intro vals γ w' ρ hR hN hp hρ hc hf hg;refine ⟨rfl,?_⟩;have e10:=hρ 10;(conv at e10=>rhs; whnf);clear hR hN hp hρ;go_light;go_simp;exact ⟨rfl,rfl⟩
  ·rfl
  apply Chain.pure (LZ.refl _) (by rfl)
  ·intro vals γ w' ρ hR hN hp hρ hc hf hg;refine ⟨rfl,?_⟩;have e86:ρ (.tmp 86)=_:=(hρ 86).trans (hp 8 (by decide));have hxx:=hR.ext0 (fun _ _ _ h=>h.elim);have k0:=hxx.cell K0.o;have k1:=hxx.cell KC.o;have k2:=hxx.cell KP.o;have k3:=hxx.cell KI.o;clear hxx hR hN hp hρ;go_light;go_simp;exact ⟨rfl,rfl⟩
  ·rfl
  apply Chain.pure (LZ.refl _) (by rfl)
  ·intro vals γ w' ρ hR hN hp hρ hc hf hg;refine ⟨rfl,?_⟩;have e85:ρ (.tmp 85)=_:=(hρ 85).trans (hp 7 (by decide));have e87:ρ (.tmp 87)=_:=(hρ 87).trans (hp 9 (by decide));clear hR hN hp hρ;go_light;go_simp;exact ⟨rfl,rfl⟩
  ·rfl
  apply Chain.pure (LZ.refl _) (by rfl)
  ·intro vals γ w' ρ hR hN hp hρ hc hf hg;refine ⟨rfl,?_⟩;have e88:ρ (.tmp 88)=_:=(hρ 88).trans (hp 10 (by decide));have hxx:=hR.ext0 (fun _ _ _ h=>h.elim);have k0:=hxx.cell K0.o;have k1:=hxx.cell KC.o;have k2:=hxx.cell KP.o;have k3:=hxx.cell KI.o;clear hxx hR hN hp hρ;go_light;go_simp;exact ⟨rfl,rfl⟩
  ·rfl
  refine Chain.step (FP fun v γ w'=>Vs12 ng gs w2.heap.size v w') (by rfl) (FP.stab ?_) ?_ ?_
  ·rintro v γ w1 γ' w2 rr ⟨A4,c4,h1,h2⟩;exact ⟨A4,c4,h1,h2.keep (rr.keptS fun b _ _ m hm=>hm.elim)⟩
  ·intro vals γ w' ρ hR hN hp hρ hc hf hg;refine ⟨rfl,?_⟩;have e78:ρ (.tmp 78)=_:=(hρ 78).trans (hp 0 (by decide));have e89:ρ (.tmp 89)=_:=(hρ 89).trans (hp 11 (by decide));have HR:=Hd hR;have hxx:=hR.ext0 (fun _ _ _ h=>h.elim);have HXW:=Hd hxx;clear hxx hR hN hp hρ;go_light;go_simp;refine (HSP.o w' HXW.o).mono ?_;rintro e1 w3 ⟨A4,c4,he,hnn,hx⟩;exact ⟨_,he,γ,LZ.of_ext _ γ hx,fun _ _ _ h=>h,⟨A4,c4,rfl,hnn⟩⟩
  refine Chain.step (FP fun v γ w'=>Vs12 ng gs w2.heap.size v w') (by rfl) (FP.stab ?_) ?_ ?_
  ·rintro v γ w1 γ' w2 rr ⟨A4,c4,h1,h2⟩;exact ⟨A4,c4,h1,h2.keep (rr.keptS fun b _ _ m hm=>hm.elim)⟩
  ·intro vals γ w' ρ hR hN hp hρ hc hf hg;refine ⟨rfl,?_⟩;have hg:=hp 12 (by decide);have e90:=hρ 90;(conv at e90=>rhs; whnf);have HG:=Hd hg;clear hR hN hp hρ hg;go_light;go_simp;exact ⟨γ,LZ.refl _ _ _,fun _ _ _ h=>h,HG.o⟩
  intro vals γ w9 hR hG;have v0:vals 0=_:=hG 0 (by decide);have v1:vals 1=_:=hG 1 (by decide);have v2:vals 2=_:=hG 2 (by decide);have v3:vals 3=_:=hG 3 (by decide);have v4:vals 4=_:=hG 4 (by decide);have v5:vals 5=_:=hG 5 (by decide);have v6:vals 6=_:=hG 6 (by decide);have v7:vals 7=_:=hG 7 (by decide);have v8:vals 8=_:=hG 8 (by decide);have v9:vals 9=_:=hG 9 (by decide);have v10:vals 10=_:=hG 10 (by decide);have v11:vals 11=_:=hG 11 (by decide);obtain ⟨A12,c12,v12,-⟩:=hG 12 (by decide);obtain ⟨A4,c4,v13,hnn4⟩:=hG 13 (by decide);simp only [lexFrame,Act.put,List.setIfInBounds_toArray,List.set_cons_succ,List.set_cons_zero,Nat.zero_add,Nat.reduceAdd,v0,v1,v2,v3,v4,v5,v6,v7,v8,v9,v10,v11,v12,v13];clear v0 v1 v2 v3 v4 v5 v6 v7 v8 v9 v10 v11 v12 v13;have HX4:=Hd (show Ext w3 w9 from hR.ext0 (fun _ _ _ h=>h.elim));have HN4:=Hd hnn4;clear hR hG hnn4;have HX34:=Hd (HX13.o.trans HX4.o);have HCK4:=Hd (HCK1.o.ext HX34.o);have HBK4:=Hd (HBK3.o.keep (HX4.o.kept _));have HBR4:=Hd (HBR1.o.keep (HX34.o.kept _));obtain ⟨w4,hw4⟩:∃ w4:World,w4=w9:=⟨_,rfl⟩;rw [← hw4] at HX4 HN4 HX34 HCK4 HBK4 HBR4 ⊢;have q0:=HBK4.o.cell (i:=0) rfl;have q1:=HBK4.o.cell (i:=1) rfl;have q2:=HBK4.o.cell (i:=2) rfl;have j2:¬ (ng:Int)<2:=(by omega);have j3:((ng:Int) != (ng:Int))=false:=(by simp);clear hw4;go_wp2
  go_loopw [12,112] (fun v i wr=>∃ (j a:Nat),j≤ng∧v=.int .i64 (a:Int)∧i=.int .i64 (j:Int)∧a≤20∧a=(gs.take j).foldl (fun a g=>max a (dep (spl l) (inpS l) g)) 0∧ButS (fun b=>b=bm∨b=bR) w4 wr∧CK wr bC bP bm bR l d (some ⟨ab,ao,none⟩) c Y qd ql∧Blk wr bR 4 (bcells (mark (r.set nX true) (nX+1) (planG (plan (spl l) (inpS l) (ans l)) (gs.take j) (X.length+1)).1.length))) (fun _ i _=>ng-(intOf i).toNat)
  case atStart=>exact ⟨0,0,Nat.zero_le _,rfl,rfl,Nat.zero_le _,rfl,ButS.refl _ _,HCK4.o,HBR4.o⟩
  case round =>
   clear q0 q1 q2;obtain ⟨j,a,hj,rfl,rfl,ha20,hae,hbut,hck5,hbr5⟩:=hrel;have HAE:=Hd hae;have HB5:=Hd hbut;have HCK5:=Hd hck5;have HBR5:=Hd hbr5;have hneR:=hck5.ne;have hA1:∀ b,b≠bm∧b≠bR→¬ (b=bm∨b=bR):=fun b e f=>by rcases f with f | f; exact e.1 f; exact e.2 f
   clear hae;by_cases hlt:j<ng
   ·have hjs:j<gs.length:=(by rw [← HENG.o]; exact hlt);have hbml:bm<w2.heap.size:=by
     obtain ⟨M,hM,_⟩:=HCK1.o.map;have:=hM.lt;have:=HX2.o.size;omega
    have hbRl:bR<w2.heap.size:=(by have:=HBR1.o.lt; have:=HX2.o.size; omega);have hnn5:=(HN4.o.mono (T:=fun b=>b≠bm∧b≠bR) fun b _ hb=>by omega).keep (hbut.kept fun b _ e=>hA1 b e);obtain ⟨bG,oG,B2g,e2g,rfl,_,hc2,-,hn2⟩:=hnn5.at_ hjs;obtain ⟨g,eg⟩:∃ g,g=gs[j]:=⟨_,rfl⟩;have hgm:g∈spl l im L:=(by rw [eg,← HGS.o]; exact List.getElem_mem hjs);rw [← eg] at hc2 hn2;have hsub:=(spl_is l im L).sub g hgm;obtain ⟨b2,o2,rfl,_,hg0⟩:=hn2.at_ (k:=0) (List.length_pos_iff.2 hsub.1);obtain ⟨x,ex⟩:∃ x,x=g[0]'(List.length_pos_iff.2 hsub.1):=⟨_,rfl⟩;have hxh:g.headD 0=x:=by
     rw [ex]
     match g,hsub.1 with
     | y :: _,_=>rfl
    rw [← ex,Nat.add_zero] at hg0;have hxl:x<l.length:=(by rw [ex]; exact HI.o.2 _ (hsub.2.subset (List.getElem_mem _)));obtain ⟨AA,ac,PA,pc,p1,p2,p3,p4,p5,p6⟩:=hck5.pn;obtain ⟨aa,ao3,C3,e3,rfl,_,hc3,-,hr3⟩:=p4.at_ hxl;have hkr:im<l[x].length:=(by rw [HW.o _ (List.getElem_mem hxl),← HEN.o]; exact hin);obtain ⟨rb,ro,A2,c2,B2,e2,rfl,z1,⟨y0,y1,y2,y3,y4,y5,y6⟩,hq,hrv⟩:=hr3.at_ hkr;obtain ⟨nr,enr⟩:∃ nr,nr=l[x].length:=⟨_,rfl⟩;obtain ⟨vx,evx⟩:∃ v,v=l[x][im]:=⟨_,rfl⟩;have hans:ans l im (g.headD 0)=vx:=(by rw [hxh,ans_of hxl hkr,evx]);have hrow5:=(Row.keep (HROW1.o) (HX34.o.kept _)).keep (hbut.kept fun b _ e=>hA1 b e);obtain ⟨va,vo,A1,c1,B1,e1,rfl,z2,⟨x0,x1,x2,x3,x4,x5,x6⟩,hq2,hrv2⟩:=hrow5.at_ (k:=j) (by rw [List.length_map]; exact hjs);rw [List.getElem_map,← eg,hans] at x0 x1 x2 x3 x4 x5 x6 hrv2;rw [← evx] at y0 y1 y2 y3 y4 y5 y6 hrv;rw [← enr] at hc3 hkr;rw [← HENP.o] at p1 hxl;have hbk5:Blk wr b10 59 #[.int .i64 (im:Int),.slice (some ⟨va,vo,none⟩) ng cc',.slice Ar' ng cr']:=HBK4.o.keep (hbut.kept fun b _ e f=>by
     have:=HB10.o;have h1:=HBR1.o.lt;obtain ⟨M,hM,_⟩:=HCK1.o.map;have:=hM.lt
     rcases f with f | f <;> omega)
    have HBK5:=Hd hbk5;obtain ⟨rc5,hcb5⟩:=hck5.ck;have HRX:=Hd hrv2;have HRY:=Hd hrv;have K0r:=Hd (hbk5.cell (i:=0) rfl);have K1r:=Hd (hbk5.cell (i:=1) rfl);have KCr:=Hd (hcb5.cell (i:=0) rfl);have KP0:=Hd p1;have G0:=Hd hg0;have P0:=Hd hc3;have X0:=Hd x0;have X1:=Hd x1;have X2:=Hd x2;have X3:=Hd x3;have X4:=Hd x4;have X5:=Hd x5;have X6:=Hd x6;have Y0:=Hd y0;have Y1:=Hd y1;have Y2:=Hd y2;have Y3:=Hd y3;have Y4:=Hd y4;have Y5:=Hd y5;have Y6:=Hd y6;have HG:=Hd eg;have HN2:=Hd hn2;have HSUB:=Hd hsub;have HGM:=Hd hgm;have HINT5:=Hd ((HINT1.o.keep (HX34.o.kept _)).keep (hbut.kept fun b _ e=>hA1 b e));obtain ⟨gn,egn⟩:∃ gn,gn=g.length:=⟨_,rfl⟩;have HGN:=Hd egn;rw [← egn] at hc2;have hgn0:0<gn:=(by rw [egn]; exact List.length_pos_iff.2 hsub.1);have k0:(0:Int)≤(j:Int):=(by omega);have k1:(j:Int)<(ng:Int):=(by omega);have k2:(0:Int)≤(x:Int):=(by omega);have k3:(x:Int)<(np:Int):=(by omega);have k4:(im:Int)<(nr:Int):=(by omega);have k5:(0:Int)<(gn:Int):=(by omega);clear hbut hck5 hbr5 hnn5 hn2 eg hgm hsub ex hxh hg0 p1 p2 p3 p4 p5 p6 hc3 hr3 hq hrv enr evx hans hrow5 x0 x1 x2 x3 x4 x5 x6 y0 y1 y2 y3 y4 y5 y6 hq2 hrv2 hbk5 hcb5 egn z1 z2 hneR hbml hbRl hA1
    go_upto_region 16 with fail
    refine wp_region_chain (by kernel_rfl) (fun i=>[i]) (by kernel_rfl) (LZ (fun _ _=>False)) (LZ.refl _) (LZ.trans _) (LK []) gz0 (LK.zero _) ?_;apply Chain.pure (LZ.refl _) (by rfl)
    ·intro vals γ w' ρ hR hN hp hρ hc hf hg;refine ⟨rfl,?_⟩;have e10:=hρ 10;(conv at e10=>rhs; whnf);clear hR hN hp hρ;go_light;go_simp;exact ⟨rfl,rfl⟩
    ·rfl
    apply Chain.pure (LZ.refl _) (by rfl)
    ·intro vals γ w' ρ hR hN hp hρ hc hf hg;refine ⟨rfl,?_⟩;have e117:ρ (.tmp 117)=_:=(hρ 117).trans (hp 0 (by decide));have hxx:=hR.ext0 (fun _ _ _ h=>h.elim);have k0:=hxx.cell K1r.o;have k1:=hxx.cell KCr.o;have k2:=hxx.cell KP0.o;have k3:=hxx.cell G0.o;have k4:=hxx.cell P0.o;have k5:=hxx.cell K0r.o;have k6:=hxx.cell X0.o;have k7:=hxx.cell X1.o;have k8:=hxx.cell X2.o;have k9:=hxx.cell X3.o;have k10:=hxx.cell X4.o;have k11:=hxx.cell X5.o;have k12:=hxx.cell X6.o;have k13:=hxx.cell Y0.o;have k14:=hxx.cell Y1.o;have k15:=hxx.cell Y2.o;have k16:=hxx.cell Y3.o;have k17:=hxx.cell Y4.o;have k18:=hxx.cell Y5.o;have k19:=hxx.cell Y6.o;clear hxx hR hN hp hρ;go_light;go_simp;exact ⟨rfl,rfl⟩
    ·rfl
    apply Chain.pure (LZ.refl _) (by rfl)
    ·intro vals γ w' ρ hR hN hp hρ hc hf hg;refine ⟨rfl,?_⟩;have e13:=hρ 13;(conv at e13=>rhs; whnf);clear hR hN hp hρ;go_light;go_simp;exact ⟨rfl,rfl⟩
    ·rfl
    apply Chain.pure (LZ.refl _) (by rfl)
    ·intro vals γ w' ρ hR hN hp hρ hc hf hg;refine ⟨rfl,?_⟩;have e118:ρ (.tmp 118)=_:=(hρ 118).trans (hp 1 (by decide));have e119:ρ (.tmp 119)=_:=(hρ 119).trans (hp 2 (by decide));clear hR hN hp hρ;go_light;go_simp;exact ⟨rfl,rfl⟩
    ·rfl
    apply Chain.pure (LZ.refl _) (by rfl)
    ·intro vals γ w' ρ hR hN hp hρ hc hf hg;refine ⟨rfl,?_⟩;have e120:ρ (.tmp 120)=_:=(hρ 120).trans (hp 3 (by decide));have hxx:=hR.ext0 (fun _ _ _ h=>h.elim);have k0:=hxx.cell K1r.o;have k1:=hxx.cell KCr.o;have k2:=hxx.cell KP0.o;have k3:=hxx.cell G0.o;have k4:=hxx.cell P0.o;have k5:=hxx.cell K0r.o;have k6:=hxx.cell X0.o;have k7:=hxx.cell X1.o;have k8:=hxx.cell X2.o;have k9:=hxx.cell X3.o;have k10:=hxx.cell X4.o;have k11:=hxx.cell X5.o;have k12:=hxx.cell X6.o;have k13:=hxx.cell Y0.o;have k14:=hxx.cell Y1.o;have k15:=hxx.cell Y2.o;have k16:=hxx.cell Y3.o;have k17:=hxx.cell Y4.o;have k18:=hxx.cell Y5.o;have k19:=hxx.cell Y6.o;clear hxx hR hN hp hρ;go_light;go_simp;exact ⟨rfl,rfl⟩
    ·rfl
    apply Chain.pure (LZ.refl _) (by rfl)
    ·intro vals γ w' ρ hR hN hp hρ hc hf hg;refine ⟨rfl,?_⟩;have e0:=hρ 0;(conv at e0=>rhs; whnf);clear hR hN hp hρ;go_light;go_simp;exact ⟨rfl,rfl⟩
    ·rfl
    apply Chain.pure (LZ.refl _) (by rfl)
    ·intro vals γ w' ρ hR hN hp hρ hc hf hg;refine ⟨rfl,?_⟩;have e122:ρ (.tmp 122)=_:=(hρ 122).trans (hp 5 (by decide));clear hR hN hp hρ;go_light;go_simp;exact ⟨rfl,rfl⟩
    ·rfl
    apply Chain.pure (LZ.refl _) (by rfl)
    ·intro vals γ w' ρ hR hN hp hρ hc hf hg;refine ⟨rfl,?_⟩;have e123:ρ (.tmp 123)=_:=(hρ 123).trans (hp 6 (by decide));clear hR hN hp hρ;go_light;go_simp;exact ⟨rfl,rfl⟩
    ·rfl
    apply Chain.pure (LZ.refl _) (by rfl)
    ·intro vals γ w' ρ hR hN hp hρ hc hf hg;refine ⟨rfl,?_⟩;have e124:ρ (.tmp 124)=_:=(hρ 124).trans (hp 7 (by decide));have hxx:=hR.ext0 (fun _ _ _ h=>h.elim);have k0:=hxx.cell K1r.o;have k1:=hxx.cell KCr.o;have k2:=hxx.cell KP0.o;have k3:=hxx.cell G0.o;have k4:=hxx.cell P0.o;have k5:=hxx.cell K0r.o;have k6:=hxx.cell X0.o;have k7:=hxx.cell X1.o;have k8:=hxx.cell X2.o;have k9:=hxx.cell X3.o;have k10:=hxx.cell X4.o;have k11:=hxx.cell X5.o;have k12:=hxx.cell X6.o;have k13:=hxx.cell Y0.o;have k14:=hxx.cell Y1.o;have k15:=hxx.cell Y2.o;have k16:=hxx.cell Y3.o;have k17:=hxx.cell Y4.o;have k18:=hxx.cell Y5.o;have k19:=hxx.cell Y6.o;clear hxx hR hN hp hρ;go_light;go_simp;exact ⟨rfl,rfl⟩
    ·rfl
    apply Chain.pure (LZ.refl _) (by rfl)
    ·intro vals γ w' ρ hR hN hp hρ hc hf hg;refine ⟨rfl,?_⟩;have e125:ρ (.tmp 125)=_:=(hρ 125).trans (hp 8 (by decide));clear hR hN hp hρ;go_light;go_simp;exact ⟨rfl,rfl⟩
    ·rfl
    apply Chain.pure (LZ.refl _) (by rfl)
    ·intro vals γ w' ρ hR hN hp hρ hc hf hg;refine ⟨rfl,?_⟩;have e126:ρ (.tmp 126)=_:=(hρ 126).trans (hp 9 (by decide));clear hR hN hp hρ;go_light;go_simp;exact ⟨rfl,rfl⟩
    ·rfl
    apply Chain.pure (LZ.refl _) (by rfl)
    ·intro vals γ w' ρ hR hN hp hρ hc hf hg;refine ⟨rfl,?_⟩;have e127:ρ (.tmp 127)=_:=(hρ 127).trans (hp 10 (by decide));have hxx:=hR.ext0 (fun _ _ _ h=>h.elim);have k0:=hxx.cell K1r.o;have k1:=hxx.cell KCr.o;have k2:=hxx.cell KP0.o;have k3:=hxx.cell G0.o;have k4:=hxx.cell P0.o;have k5:=hxx.cell K0r.o;have k6:=hxx.cell X0.o;have k7:=hxx.cell X1.o;have k8:=hxx.cell X2.o;have k9:=hxx.cell X3.o;have k10:=hxx.cell X4.o;have k11:=hxx.cell X5.o;have k12:=hxx.cell X6.o;have k13:=hxx.cell Y0.o;have k14:=hxx.cell Y1.o;have k15:=hxx.cell Y2.o;have k16:=hxx.cell Y3.o;have k17:=hxx.cell Y4.o;have k18:=hxx.cell Y5.o;have k19:=hxx.cell Y6.o;clear hxx hR hN hp hρ;go_light;go_simp;exact ⟨rfl,rfl⟩
    ·rfl
    apply Chain.pure (LZ.refl _) (by rfl)
    ·intro vals γ w' ρ hR hN hp hρ hc hf hg;refine ⟨rfl,?_⟩;have e14:=hρ 14;(conv at e14=>rhs; whnf);clear hR hN hp hρ;go_light;go_simp;exact ⟨rfl,rfl⟩
    ·rfl
    apply Chain.pure (LZ.refl _) (by rfl)
    ·intro vals γ w' ρ hR hN hp hρ hc hf hg;refine ⟨rfl,?_⟩;have e129:ρ (.tmp 129)=_:=(hρ 129).trans (hp 12 (by decide));clear hR hN hp hρ;go_light;go_simp;exact ⟨rfl,rfl⟩
    ·rfl
    apply Chain.pure (LZ.refl _) (by rfl)
    ·intro vals γ w' ρ hR hN hp hρ hc hf hg;refine ⟨rfl,?_⟩;have e130:ρ (.tmp 130)=_:=(hρ 130).trans (hp 13 (by decide));have hxx:=hR.ext0 (fun _ _ _ h=>h.elim);have k0:=hxx.cell K1r.o;have k1:=hxx.cell KCr.o;have k2:=hxx.cell KP0.o;have k3:=hxx.cell G0.o;have k4:=hxx.cell P0.o;have k5:=hxx.cell K0r.o;have k6:=hxx.cell X0.o;have k7:=hxx.cell X1.o;have k8:=hxx.cell X2.o;have k9:=hxx.cell X3.o;have k10:=hxx.cell X4.o;have k11:=hxx.cell X5.o;have k12:=hxx.cell X6.o;have k13:=hxx.cell Y0.o;have k14:=hxx.cell Y1.o;have k15:=hxx.cell Y2.o;have k16:=hxx.cell Y3.o;have k17:=hxx.cell Y4.o;have k18:=hxx.cell Y5.o;have k19:=hxx.cell Y6.o;clear hxx hR hN hp hρ;go_light;go_simp;exact ⟨rfl,rfl⟩
    ·rfl
    apply Chain.pure (LZ.refl _) (by rfl)
    ·intro vals γ w' ρ hR hN hp hρ hc hf hg;refine ⟨rfl,?_⟩;have e128:ρ (.tmp 128)=_:=(hρ 128).trans (hp 11 (by decide));have e131:ρ (.tmp 131)=_:=(hρ 131).trans (hp 14 (by decide));clear hR hN hp hρ;go_light;go_simp;exact ⟨rfl,rfl⟩
    ·rfl
    apply Chain.pure (LZ.refl _) (by rfl)
    ·intro vals γ w' ρ hR hN hp hρ hc hf hg;refine ⟨rfl,?_⟩;have e132:ρ (.tmp 132)=_:=(hρ 132).trans (hp 15 (by decide));have hxx:=hR.ext0 (fun _ _ _ h=>h.elim);have k0:=hxx.cell K1r.o;have k1:=hxx.cell KCr.o;have k2:=hxx.cell KP0.o;have k3:=hxx.cell G0.o;have k4:=hxx.cell P0.o;have k5:=hxx.cell K0r.o;have k6:=hxx.cell X0.o;have k7:=hxx.cell X1.o;have k8:=hxx.cell X2.o;have k9:=hxx.cell X3.o;have k10:=hxx.cell X4.o;have k11:=hxx.cell X5.o;have k12:=hxx.cell X6.o;have k13:=hxx.cell Y0.o;have k14:=hxx.cell Y1.o;have k15:=hxx.cell Y2.o;have k16:=hxx.cell Y3.o;have k17:=hxx.cell Y4.o;have k18:=hxx.cell Y5.o;have k19:=hxx.cell Y6.o;clear hxx hR hN hp hρ;go_light;go_simp;exact ⟨rfl,rfl⟩
    ·rfl
    apply Chain.pure (LZ.refl _) (by rfl)
    ·intro vals γ w' ρ hR hN hp hρ hc hf hg;refine ⟨rfl,?_⟩;have e10:=hρ 10;(conv at e10=>rhs; whnf);clear hR hN hp hρ;go_light;go_simp;exact ⟨rfl,rfl⟩
    ·rfl
    apply Chain.pure (LZ.refl _) (by rfl)
    ·intro vals γ w' ρ hR hN hp hρ hc hf hg;refine ⟨rfl,?_⟩;have e134:ρ (.tmp 134)=_:=(hρ 134).trans (hp 17 (by decide));have hxx:=hR.ext0 (fun _ _ _ h=>h.elim);have k0:=hxx.cell K1r.o;have k1:=hxx.cell KCr.o;have k2:=hxx.cell KP0.o;have k3:=hxx.cell G0.o;have k4:=hxx.cell P0.o;have k5:=hxx.cell K0r.o;have k6:=hxx.cell X0.o;have k7:=hxx.cell X1.o;have k8:=hxx.cell X2.o;have k9:=hxx.cell X3.o;have k10:=hxx.cell X4.o;have k11:=hxx.cell X5.o;have k12:=hxx.cell X6.o;have k13:=hxx.cell Y0.o;have k14:=hxx.cell Y1.o;have k15:=hxx.cell Y2.o;have k16:=hxx.cell Y3.o;have k17:=hxx.cell Y4.o;have k18:=hxx.cell Y5.o;have k19:=hxx.cell Y6.o;clear hxx hR hN hp hρ;go_light;go_simp;exact ⟨rfl,rfl⟩
    ·rfl
    apply Chain.pure (LZ.refl _) (by rfl)
    ·intro vals γ w' ρ hR hN hp hρ hc hf hg;refine ⟨rfl,?_⟩;have e133:ρ (.tmp 133)=_:=(hρ 133).trans (hp 16 (by decide));have e135:ρ (.tmp 135)=_:=(hρ 135).trans (hp 18 (by decide));clear hR hN hp hρ;go_light;go_simp;exact ⟨rfl,rfl⟩
    ·rfl
    apply Chain.pure (LZ.refl _) (by rfl)
    ·intro vals γ w' ρ hR hN hp hρ hc hf hg;refine ⟨rfl,?_⟩;have e136:ρ (.tmp 136)=_:=(hρ 136).trans (hp 19 (by decide));have hxx:=hR.ext0 (fun _ _ _ h=>h.elim);have k0:=hxx.cell K1r.o;have k1:=hxx.cell KCr.o;have k2:=hxx.cell KP0.o;have k3:=hxx.cell G0.o;have k4:=hxx.cell P0.o;have k5:=hxx.cell K0r.o;have k6:=hxx.cell X0.o;have k7:=hxx.cell X1.o;have k8:=hxx.cell X2.o;have k9:=hxx.cell X3.o;have k10:=hxx.cell X4.o;have k11:=hxx.cell X5.o;have k12:=hxx.cell X6.o;have k13:=hxx.cell Y0.o;have k14:=hxx.cell Y1.o;have k15:=hxx.cell Y2.o;have k16:=hxx.cell Y3.o;have k17:=hxx.cell Y4.o;have k18:=hxx.cell Y5.o;have k19:=hxx.cell Y6.o;clear hxx hR hN hp hρ;go_light;go_simp;exact ⟨rfl,rfl⟩
    ·rfl
    refine Chain.step (FP fun v γ w'=>v=.bool true) (by rfl) (FP.stab ?_) ?_ ?_
    ·intro v γ w1 γ' w2 r h;exact h
    ·intro vals γ w' ρ hR hN hp hρ hc hf hg;refine ⟨rfl,?_⟩;have e121:ρ (.tmp 121)=_:=(hρ 121).trans (hp 4 (by decide));have e137:ρ (.tmp 137)=_:=(hρ 137).trans (hp 20 (by decide));have HR:=Hd hR;have hxx:=hR.ext0 (fun _ _ _ h=>h.elim);have HVX:=Hd (HRX.o.keep (hxx.kept _));have HVY:=Hd (HRY.o.keep (hxx.kept _));clear hxx hR hN hp hρ;go_light;go_simp;refine (value_Equal (d-1) vx vx A1 B1 A2 B2 c1 e1 c2 e2 w' _ _ HVX.o HVY.o).mono ?_;rintro e1 w3 ⟨he,hx⟩;exact ⟨_,he,γ,LZ.of_ext _ γ hx,fun _ _ _ h=>h,by simp; rfl⟩
    apply Chain.pure (LZ.refl _) (by rfl)
    ·intro vals γ w' ρ hR hN hp hρ hc hf hg;refine ⟨rfl,?_⟩;have e138:ρ (.tmp 138)=_:=(hρ 138).trans (hp 21 (by decide));clear hR hN hp hρ;go_light;go_simp;exact ⟨rfl,rfl⟩
    ·rfl
    intro vals γ w9 hR hG;have v0:vals 0=_:=hG 0 (by decide);have v1:vals 1=_:=hG 1 (by decide);have v2:vals 2=_:=hG 2 (by decide);have v3:vals 3=_:=hG 3 (by decide);have v4:vals 4=_:=hG 4 (by decide);have v5:vals 5=_:=hG 5 (by decide);have v6:vals 6=_:=hG 6 (by decide);have v7:vals 7=_:=hG 7 (by decide);have v8:vals 8=_:=hG 8 (by decide);have v9:vals 9=_:=hG 9 (by decide);have v10:vals 10=_:=hG 10 (by decide);have v11:vals 11=_:=hG 11 (by decide);have v12:vals 12=_:=hG 12 (by decide);have v13:vals 13=_:=hG 13 (by decide);have v14:vals 14=_:=hG 14 (by decide);have v15:vals 15=_:=hG 15 (by decide);have v16:vals 16=_:=hG 16 (by decide);have v17:vals 17=_:=hG 17 (by decide);have v18:vals 18=_:=hG 18 (by decide);have v19:vals 19=_:=hG 19 (by decide);have v20:vals 20=_:=hG 20 (by decide);have v21:vals 21=_:=hG 21 (by decide);have v22:vals 22=_:=hG 22 (by decide);simp only [lexFrame,Act.put,List.setIfInBounds_toArray,List.set_cons_succ,List.set_cons_zero,Nat.zero_add,Nat.reduceAdd,v0,v1,v2,v3,v4,v5,v6,v7,v8,v9,v10,v11,v12,v13,v14,v15,v16,v17,v18,v19,v20,v21,v22];clear v0 v1 v2 v3 v4 v5 v6 v7 v8 v9 v10 v11 v12 v13 v14 v15 v16 v17 v18 v19 v20 v21 v22;have HX5:=Hd (show Ext wr w9 from hR.ext0 (fun _ _ _ h=>h.elim));clear hR hG;obtain ⟨D,eD⟩:∃ D,D=(planG (plan (spl l) (inpS l) (ans l)) (gs.take j) (X.length+1)).1:=⟨_,rfl⟩;obtain ⟨s1,s2,s3⟩:=planG_split (plan (spl l) (inpS l) (ans l)) hjs (X.length+1);rw [← eD,← HG.o] at s1 s2 s3;rw [← HREST.o] at s1;rw [← HNXT.o] at s2;rw [← eD] at HBR5;obtain ⟨XJ,eXJ⟩:∃ XJ,XJ=X++((im:Int),gs.map (fun g=>ans l im (g.headD 0)),nx) :: D:=⟨_,rfl⟩;have hXJ:XJ.length=X.length+1+D.length:=(by rw [eXJ]; simp; omega);rw [← hXJ] at s1 s2 s3;obtain ⟨nl,enl⟩:∃ nl,nl=(plan (spl l) (inpS l) (ans l) g XJ.length).length:=⟨_,rfl⟩;have hzero:(nl=0)↔dep (spl l) (inpS l) g=0:=(by rw [enl]; exact plan_nil (spl_small l) _ _ _);obtain ⟨dg,edg⟩:∃ dg,dg=dep (spl l) (inpS l) g:=⟨_,rfl⟩;have hnxj:nx[j]?=some (if dg=0 then -1 else (XJ.length:Int)):=by
     rw [s2,← enl];congr 1;rw [← edg] at hzero;by_cases e:dg=0
     ·rw [if_pos e,if_pos (hzero.2 e)]
     ·rw [if_neg e,if_neg fun h=>e (hzero.1 h)]
    obtain ⟨pj,epj⟩:∃ pj:Int,pj=if dg=0 then -1 else (XJ.length:Int):=⟨_,rfl⟩;rw [← epj] at hnxj;have hnxl:j<nx.length:=by
     rcases Nat.lt_or_ge j nx.length with h | h
     ·exact h
     ·rw [List.getElem?_eq_none h] at hnxj; cases hnxj
    have hnxj2:nx[j]=pj:=(by rw [List.getElem?_eq_getElem hnxl] at hnxj; exact Option.some.inj hnxj);have HB10w:=HBK5.o.keep (HX5.o.kept _);have q2:=HB10w.cell (i:=2) rfl;obtain ⟨nb,no,hAr,_,hnc⟩:=(HINT5.o.keep (HX5.o.kept _)).at_ hnxl;subst hAr;rw [hnxj2] at hnc;have h2p2:2≤(spl l im L).length:=(by rw [← HGS.o,← HENG.o]; exact h2p);have hgsm:=(spl_is l im L).small h2p2 g HGM.o;have hd20:dg≤20:=(by rw [edg]; have:=dep_len (spl_small l) (inpS l) g; have:=HLEN.o; omega);have hpl:(plan (spl l) (inpS l) (ans l) L X.length).length=1+rest.length:=(by rw [HPL.o]; simp; omega);have hrl:rest.length=D.length+nl+(planG (plan (spl l) (inpS l) (ans l)) (gs.drop (j+1)) (XJ.length+nl)).1.length:=(by rw [s1,← enl]; simp; omega);have HCALL:=Hd (ih (by have:=HF.o; omega) l bC bP bm bR d g (some ⟨b2,o2,none⟩) e2g (some ⟨ab,ao,none⟩) c Y XJ ((planG (plan (spl l) (inpS l) (ans l)) (gs.drop (j+1)) (XJ.length+nl)).1++Z) qd ql _ (nX:Int) w9 (by have:=HF.o; omega) HL.o HW.o (HCK5.o.ext HX5.o) (HI.o.sub HSUB.o.2) (fun e=>absurd e HSUB.o.1) (HN2.o.keep (HX5.o.kept _)) (by rw [HYY.o,s1,← enl,eXJ]; simp) (by rw [← HNY.o]; exact hYl) (by rw [mark_len,List.length_set]; exact HRL.o) (by have:=HNX.o; omega)
     (fun i h1 h2=>by
      rw [mark_out _ _ _ _ (by have:=HNX.o; omega),List.getElem?_set_ne (by have:=HNX.o; omega)];exact HRF.o i (by omega) (by omega)) (HBR5.o.keep (HX5.o.kept _)))
    rw [← edg,← epj,← HGN.o,← enl] at HCALL;have HT:=Hd (show (gs.take (j+1)).foldl (fun a g=>max a (dep (spl l) (inpS l) g)) 0=max a dg by rw [List.take_succ_eq_append_getElem hjs,List.foldl_append,← HAE.o,← HG.o,edg]; rfl);have HMA:=Hd (show mark (mark (r.set nX true) (nX+1) D.length) XJ.length nl=mark (r.set nX true) (nX+1) (planG (plan (spl l) (inpS l) (ans l)) (gs.take (j+1)) (X.length+1)).1.length by
     rw [s3,List.length_append,← enl,mark_add,hXJ,← HNX.o])
    rw [HMA.o] at HCALL;clear s1 s2 s3 eD eXJ hXJ enl hzero edg hnxj epj hnxl hnxj2 HB10w h2p2 hgsm hpl hrl;have q2':=q2
    go_wp2_with fail
    refine HCALL.o.mono ?_;rintro e10 w10 ⟨rfl,hb10,hr10,hm10⟩;have HB10':=Hd hb10;have HR10:=Hd hr10;have HCK10:=Hd ((HCK5.o.ext HX5.o).but hb10 hm10);clear hb10 hr10 hm10 HCALL;go_wp2;go_roundw
    case rel=>exact ⟨j+1,max a dg,by omega,by go_num,by go_num,by omega,HT.o.symm,(HB5.o.trans (ButS.of_ext HX5.o)).trans HB10'.out,HCK10.o,HR10.o⟩
    case measure=>simp [intOf]; omega
   ·obtain rfl:ng=j:=by omega
    have htk:gs.take ng=gs:=List.take_of_length_le (by rw [← HENG.o]; exact Nat.le_refl _);rw [htk] at HAE HBR5;rw [← HREST.o] at HBR5;have HFIN:=Hd (show dp=1+a by
     rw [HDP.o,← HID1.o];unfold dW;rw [if_neg (by rw [← HGS.o,← HENG.o]; omega),← HGS.o,← HAE.o])
    go_wp2;go_ret2;refine ⟨by rw [HFIN.o]; simp,((HB1.o.trans (ButS.of_ext HX34.o)).trans HB5.o),HBR5.o,HCK5.o.map⟩
theorem visit_ok (f:Nat):PVisit f:=by
 induction f with
 | zero=>exact visit_step 0 fun h=>absurd h (by omega)
 | succ f ih=>exact visit_step (f+1) fun _=>ih
/- The checker's visit of no question; whether all questions were reached. Conditions: the checker lies in memory. -/

set_option maxRecDepth 100000 in
set_option maxHeartbeats 1000000 in
theorem visit_none (l:List (List Val)) (bC bP bm bR d:Nat) (L:List Nat) (LA:Option Addr) (lc:Nat) (A:Option Addr) (c:Nat) (Y:List AskD) (qd ql:Int) (after:Int) (w:World) (hl:l.length<20) (hck:CK w bC bP bm bR l d A c Y qd ql) (hi:Inc l.length L) (h0:L=[]→inpS l=0) (hn:Nums w (fun b=>b≠bm∧b≠bR) LA L) :
  Calls Tryz.prog 60 #[.pointer (some ⟨bC,0,none⟩),.int .i64 after,.int .i64 (-1),.slice LA L.length lc] w (fun e w'=>e=.returned (.tuple #[.int .i64 0,.bool (((dep (spl l) (inpS l) L:Nat):Int)==0)])∧ButS (fun b=>b=bm∨b=bR) w w'):=by
 have HD1:=Hd (pl_depth L.length l bP bm L LA lc w (Nat.le_refl _) hl hck.pd hi h0 (hn.mono fun b _ e=>e.1));obtain ⟨rc,hcb⟩:=hck.ck;have c0:=hcb.cell (i:=0) rfl;obtain ⟨n,en⟩:∃ n,n=L.length:=⟨_,rfl⟩;rw [← en] at HD1 ⊢;obtain ⟨dp,edp⟩:∃ dp,dp=dep (spl l) (inpS l) L:=⟨_,rfl⟩;rw [← edp] at HD1 ⊢;clear hcb hck hl hi h0 hn en edp
 go_enter Tryz.func60,Tryz.ntmps60
 go_wp2_with fail
 refine HD1.o.mono ?_;rintro e1 w1 ⟨rfl,hb1,hm1⟩;have HB1:=Hd hb1;clear hb1 hm1;go_wp2;go_ret2;exact ⟨rfl,HB1.o.mono fun b _ e=>.inl e⟩
set_option maxRecDepth 100000 in
set_option maxHeartbeats 1000000 in
theorem Contains_true (r:List Bool) (g c:Nat) (w:World) (h:Blk w g 4 (bcells r)) (hr:∀ i,i<r.length→r[i]?=some true) (hl:r.length≤1000) :
  Calls Tryz.prog 61 #[.slice (some ⟨g,0,none⟩) r.length c,.bool false] w (RetB w false):=by
 have H:=Hd h;have HR:=Hd hr;obtain ⟨n,en⟩:∃ n,n=r.length:=⟨_,rfl⟩;have HN:=Hd en;rw [← en] at hl ⊢;clear h hr en
 go_enter Tryz.func61,Tryz.ntmps61
 go_wp2_with fail
 go_enter Tryz.func110,Tryz.ntmps110
 go_wp2
 go_loopw [8] (fun i wr=>∃ k:Nat,k≤n∧i=.int .i64 (k:Int)∧Ext w wr) (fun i _=>n-(intOf i).toNat)
 case atStart=>exact ⟨0,Nat.zero_le _,rfl,Ext.refl _⟩
 case round =>
  obtain ⟨k,hk,rfl,hx⟩:=hrel;have HX:=Hd hx;by_cases hlt:k<n
  ·have hc:=(H.o.keep (hx.kept _)).cell (bcells_at (HR.o k (by rw [← HN.o]; exact hlt)));have i0:(0:Int)≤(k:Int):=(by omega);have i1:(k:Int)<(n:Int):=(by omega);clear hx;go_wp2;go_roundw
   case rel=>exact ⟨k+1,by omega,by go_num,HX.o⟩
   case measure=>simp [intOf]; omega
  ·go_wp2;go_ret;exact ⟨rfl,HX.o⟩
/- Where Check begins: a planner, a slice of bools, and the checker, made in whatever order. No conditions. -/

theorem infoBo:(Tryz.prog.info? 4).map (fun i=>(i.zero,i.size,i.bytes))=some (some (.bool false),1,1):=by kernel_rfl
theorem run_mkB (n:Nat) (hn:n≤4294967296):∀ w:World,(Instr.makeSlice 98 (.int .i64 (n:Int)) (.int .i64 (n:Int))).run Tryz.prog w=.ok (.slice (some ⟨w.heap.size,0,none⟩) n n) (w.alloc (.cells (bcells (List.replicate n false)) 4)):=by
 intro w;obtain ⟨i0,h1,h2,h3,h4⟩:=info_parts infoBo;have hr:=run_make (P:=Tryz.prog) w 98 4 i0 (.bool false) Tryz.underlying98 h1 h2 .i64 .i64 n n (by omega) (by omega) (by rw [h4]; omega) (by omega);rw [h3,Nat.mul_one,Int.toNat_natCast,made_replicateC _ _ rfl] at hr;have e:Array.replicate n (Value.bool false)=bcells (List.replicate n false):=(by simp [bcells]);rw [hr,e]
def NpB (bP bm:Nat) (PA:Option Addr) (pc W:Nat) (l:List (List Val)) (A:Option Addr) (c:Nat) (γ:Gh) (w:World):Prop :=
 W≤bP∧W≤bm∧bP≠bm∧Free γ bP∧Free γ bm∧Blk w bP 93 #[.slice A l.length c,.slice PA (inpS l) pc,.map (some bm),.slice none 0 0]∧NN w (fun b=>W≤b∧b≠bm∧b≠bP∧Free γ b) PA ((List.range (inpS l)).map (placesS l))∧MapIs w bm encN []
def NpL (W:Nat) (l:List (List Val)) (A:Option Addr) (c:Nat) (v:Value) (γ:Gh) (w:World):Prop:=∃ (bP bm:Nat) (PA:Option Addr) (pc:Nat),v=.pointer (some ⟨bP,0,none⟩)∧NpB bP bm PA pc W l A c γ w
def BoL (W n:Nat) (v:Value) (γ:Gh) (w:World):Prop:=∃ bR:Nat,v=.slice (some ⟨bR,0,none⟩) n n∧W≤bR∧Free γ bR∧Blk w bR 4 (bcells (List.replicate n false))
abbrev X0:Nat→Nat→Prop:=fun _ _=>False
theorem NpB.lx {bP bm:Nat} {PA:Option Addr} {pc W:Nat} {l:List (List Val)} {A:Option Addr} {c:Nat} {γ γ':Gh} {w w':World} (r:LX X0 γ w γ' w') (h:NpB bP bm PA pc W l A c γ w):NpB bP bm PA pc W l A c γ' w':=by
 obtain ⟨h1,h2,h3,h4,h5,h6,h7,h8⟩:=h;have k:∀ S:Nat→Prop,(∀ b,b<w.heap.size→S b→Free γ b)→Kept S w w':=fun S hS=>r.keptS fun b hb e=>⟨hS b hb e,fun m hm=>hm.elim⟩;exact ⟨h1,h2,h3,r.free h6.lt h4,r.free h8.lt h5,h6.keep (k _ fun b _ e=>by rw [e]; exact h4),((h7.mono (T:=fun b=>(W≤b∧b≠bm∧b≠bP∧Free γ b)∧b<w.heap.size) fun b hb e=>⟨e,hb⟩).keep (k _ fun b _ e=>e.1.2.2.2)).mono fun b _ e=>⟨e.1.1,e.1.2.1,e.1.2.2.1,r.free e.2 e.1.2.2.2⟩,h8.keep (k _ fun b _ e=>by rw [e]; exact h5)⟩
theorem NpL.stab {W:Nat} {l:List (List Val)} {A:Option Addr} {c:Nat} : ∀ v γ w γ' w',LX X0 γ w γ' w'→NpL W l A c v γ w→NpL W l A c v γ' w':=by
 rintro v γ w γ' w' r ⟨bP,bm,PA,pc,h1,h2⟩;exact ⟨bP,bm,PA,pc,h1,h2.lx r⟩
theorem BoL.lx {bR W n:Nat} {γ γ':Gh} {w w':World} (r:LX X0 γ w γ' w') (h:W≤bR∧Free γ bR∧Blk w bR 4 (bcells (List.replicate n false))):W≤bR∧Free γ' bR∧Blk w' bR 4 (bcells (List.replicate n false)) :=
 ⟨h.1,r.free h.2.2.lt h.2.1,h.2.2.keep (r.keptS fun b _ e=>⟨by rw [e]; exact h.2.1,fun m hm=>hm.elim⟩)⟩
theorem BoL.stab {W n:Nat} : ∀ v γ w γ' w',LX X0 γ w γ' w'→BoL W n v γ w→BoL W n v γ' w':=by
 rintro v γ w γ' w' r ⟨bR,h1,h2⟩;exact ⟨bR,h1,BoL.lx r h2⟩
def C7 (A':Option Addr) (n' c':Nat) (dp lo:Int) (a b v:Value):Prop:=∃ (bP bR:Nat),a=.pointer (some ⟨bP,0,none⟩)∧b=.slice (some ⟨bR,0,none⟩) n' n'∧v=.agg #[.pointer (some ⟨bP,0,none⟩),.slice A' n' c',.int .i64 dp,.int .i64 lo,.slice (some ⟨bR,0,none⟩) n' n']
def CkF (W:Nat) (l:List (List Val)) (A:Option Addr) (c:Nat) (A':Option Addr) (n' c':Nat) (dp lo:Int) (p:Value) (γ:Gh) (w:World):Prop:=∃ (bP bm:Nat) (PA:Option Addr) (pc bR:Nat),
 VarXI X0 100 p #[.pointer (some ⟨bP,0,none⟩),.slice A' n' c',.int .i64 dp,.int .i64 lo,.slice (some ⟨bR,0,none⟩) n' n'] γ w∧NpB bP bm PA pc W l A c γ w∧(W≤bR∧Free γ bR∧Blk w bR 4 (bcells (List.replicate n' false)))
theorem CkF.lx {W:Nat} {l:List (List Val)} {A:Option Addr} {c:Nat} {A':Option Addr} {n' c':Nat} {dp lo:Int} {p:Value} {γ γ':Gh} {w w':World} (r:LX X0 γ w γ' w') (h:CkF W l A c A' n' c' dp lo p γ w):CkF W l A c A' n' c' dp lo p γ' w':=by
 obtain ⟨bP,bm,PA,pc,bR,h1,h2,h3⟩:=h;exact ⟨bP,bm,PA,pc,bR,VarXI.lx r h1,h2.lx r,BoL.lx r h3⟩
theorem Rd.noB {w:World} {S:Nat→Prop} {A:Option Addr} {xs:List Value} {bR:Nat} {r:List Bool} (h:Rd w S A xs) (hx:∀ u∈xs,∀ b,u≠.bool b) (hb:Blk w bR 4 (bcells r)):Rd w (fun b=>S b∧b≠bR) A xs:=by
 rcases h with h | ⟨b,o,h1,h2,h3,h4⟩
 ·exact .inl h
 ·match xs,hx,h4 with
  | [],_,_=>exact .inl rfl
  | u :: xs,hx,h4 =>
   refine .inr ⟨b,o,h1,⟨h2,fun e => ?_⟩,h3,h4⟩;subst e;have hc:=h4 0 u rfl;unfold Blk at hb;simp [World.cell?,hb,bcells] at hc
   rcases hc with ⟨_,rfl⟩ | ⟨_,rfl⟩
   ·exact hx _ List.mem_cons_self false rfl
   ·exact hx _ List.mem_cons_self true rfl
theorem NN.noB {w:World} {S:Nat→Prop} {A:Option Addr} {gs:List (List Nat)} {bR:Nat} {r:List Bool} (h:NN w S A gs) (hb:Blk w bR 4 (bcells r)):NN w (fun b=>S b∧b≠bR) A gs:=by
 obtain ⟨h0,hs,h1,h2,h3⟩:=h;refine ⟨h0,hs,h1.noB (fun u hu b e => ?_) hb,h2,fun i g hg => ?_⟩
 ·obtain ⟨i,hi,rfl⟩:=List.mem_iff_getElem.1 hu;obtain ⟨B,e',h4,-,-⟩:=h3 i gs[i] (List.getElem?_eq_getElem (by omega));rw [List.getElem?_eq_getElem hi] at h4;have:=Option.some.inj h4;rw [e] at this;cases this
 ·obtain ⟨B,e,h4,h5,h6⟩:=h3 i g hg;refine ⟨B,e,h4,h5,h6.1.noB (fun u hu b e => ?_) hb,h6.2⟩;obtain ⟨x,_,rfl⟩:=List.mem_map.1 hu;cases e
end Go.Proofs.YtomdpipekmcojaaGreatDoor
