/- The reference's Check, of the plan that Make gives. Conditions: the answers read as data, and hold no tables. -/
import Derived.Test.YtomdpipekmcojaaGreatDoorBw22
namespace Go.Proofs.YtomdpipekmcojaaGreatDoor
open Go Go.RowKit

theorem lowG_ge (wd df:Nat):∀ (f p n:Nat),n≤lowG wd df f p n
 | 0,_,_=>Nat.le_refl _
 | f+1,p,n=>by
  unfold lowG;split
  ·exact Nat.le_trans (Nat.le_succ n) (lowG_ge wd df f _ _)
  ·exact Nat.le_refl _
theorem low_pos {l:List (List Val)} (hT:Tri l) (hN:Wide l (inpS l)) (h:depA l≠0):lowF l≠0:=by
 obtain ⟨k1,k2,k3⟩:=kinds_of hT hN l.length (Nat.le_refl _);have h2:2≤diffs l l.length:=by
  rcases Nat.lt_or_ge (diffs l l.length) 2 with hlt | hge
  ·exfalso;apply h;have hall:alkR l (allP l)=true:=by
    unfold alkR;rw [List.all_eq_true];intro y hy;rw [decide_eq_true_eq];have hyl:y<l.length:=List.mem_range.1 (List.mem_of_mem_drop hy);have hhd:(allP l).headD 0<l.length:=by
     cases hq:allP l with
     | nil=>rw [hq] at hy; simp at hy
     | cons a b =>
      have:a∈allP l:=(by rw [hq]; simp);exact List.mem_range.1 this
    obtain ⟨a,ha,e1⟩:=k3 y hyl;obtain ⟨b,hb,e2⟩:=k3 _ hhd;have hab:a=b:=by
     rw [← k1] at hlt
     match hk:kindsR l l.length,hlt with
     | [],_=>rw [hk] at ha; cases ha
     | [c],_=>rw [hk] at ha hb; rw [List.mem_singleton.1 ha,List.mem_singleton.1 hb]
    rw [← e1,← e2,hab]
   have h3:=alk_dep hT hN (L:=allP l) (fun x hx=>List.mem_range.1 hx);rw [hall] at h3;unfold depA
   simpa using h3.symm
  ·exact hge
 unfold lowF;obtain ⟨f,hf⟩:∃ f,diffs l l.length=f+1:=⟨diffs l l.length-1,by omega⟩;rw [hf];unfold lowG;rw [if_pos (by omega)];have:=lowG_ge (widest l) (f+1) f (1*widest l) (0+1);omega
def CeF (W v n:Nat) (x:Value) (w':World):Prop:=∃ (A:Option Addr) (c:Nat),x=.tuple #[.int .i64 (v:Int),.slice A n c,.bool true]∧OwnN w' W A c (List.range' 0 n)
def CeG (W n:Nat) (x:Value) (w':World):Prop:=∃ (A:Option Addr) (c:Nat),x=.slice A n c∧OwnN w' W A c (List.range' 0 n)
def CeH (W n:Nat) (x:Value) (w':World):Prop:=∃ (A:Option Addr) (c:Nat),x=.slice A n c∧OwnN w' W A c (List.range n)
set_option maxRecDepth 100000 in
set_option maxHeartbeats 8000000 in
theorem r25_Check (d:Nat) (l:List (List Val)) (A:Option Addr) (c:Nat) (hz:Int) (A':Option Addr) (c':Nat) (w:World) (S U:Nat→Prop) (hr:Rows w S d A l) (hk:NoT l) (hT:rightA l=true→Tri l) (hl:l.length<20) (hp:AS w U d A' (makeF l hz).1) :
  Calls Tryz.prog 25 #[.slice A l.length c,.int .i64 hz,.agg #[.slice A' (makeF l hz).1.length c',.int .i64 ((makeF l hz).2.1:Int),.int .i64 ((makeF l hz).2.2:Int)]] w (RetB w (decide (errM l hz=0))):=by
 have HPE:=Hd (show ∀ w':World,Ext w w'→Calls Tryz.prog 56 #[.slice A l.length c,.int .i64 hz] w' (RetI w' (errP l hz)) from fun w' hx=>r25_permitted d l A c hz w' S (hr.keep (hx.kept S)) hk);have HEM:=Hd (errM_errP l hz);have HAR:=Hd (show errP l hz=0→∀ w':World,Ext w w'→AnsR w' S d A l from fun h0 w' hx=>by
  have h:=errP_wide h0;exact ⟨hr.keep (hx.kept S),hk,hT h.2.1,h.1,by omega⟩)
 have HLOW:=Hd (show errP l hz=0→depA l≠0→lowF l≠0 from fun h0 h=>by
  have h1:=errP_wide h0;exact low_pos (hT h1.2.1) h1.1 h)
 have HZ0:=Hd (show errP l hz=0→0≤hz from fun h=>by
  unfold errP at h;split at h
  ·cases h
  ·rename_i h1;omega)
 obtain ⟨ep,eep⟩:∃ ep,ep=errP l hz:=⟨_,rfl⟩;obtain ⟨em,eem⟩:∃ em,em=errM l hz:=⟨_,rfl⟩;obtain ⟨n,en⟩:∃ n,n=l.length:=⟨_,rfl⟩;have HNE:=Hd en;have hn20:n<20:=(by omega);obtain ⟨Y,eY⟩:∃ Y,Y=(makeF l hz).1:=⟨_,rfl⟩;obtain ⟨pd,epd⟩:∃ x,x=(makeF l hz).2.1:=⟨_,rfl⟩;obtain ⟨pl,epl⟩:∃ x,x=(makeF l hz).2.2:=⟨_,rfl⟩;have HMK:=Hd (show em=0→Y=planA l∧pd=depA l∧pl=lowF l from fun h=>by
  rw [eY,epd,epl];unfold makeF;rw [if_pos (by rw [← eem]; exact h)];exact ⟨rfl,rfl,rfl⟩)
 have HMN:=Hd (show em≠0→Y=[]∧pd=0∧pl=0 from fun h=>by
  rw [eY,epd,epl];unfold makeF;rw [if_neg (by rw [← eem]; exact h)];exact ⟨rfl,rfl,rfl⟩)
 have hYl:Y.length≤1000:=by
  rw [eY];unfold makeF;split
  ·show (planA l).length≤1000;unfold planA;by_cases e:allP l=[]
   ·rw [plan_eq (spl_small l),if_pos (by have:=dep_len (spl_small l) (inpS l) (allP l); rw [e] at this ⊢; simp at this; omega)];simp
   ·have h1:=plan_len l (inpS l) (ans l) _ (allP l) 0 (Nat.le_refl _) e;have h2:(allP l).length=l.length:=(by simp [allP]);omega
  ·simp
 rw [← eY] at hp;rw [← eY,← epd,← epl,← eem];rw [← eep] at HPE HEM HAR HLOW HZ0;rw [← eem] at HEM;rw [← en] at HPE ⊢;obtain ⟨nY,enY⟩:∃ n,n=Y.length:=⟨_,rfl⟩;have HNY:=Hd enY;rw [← enY] at hYl ⊢;obtain ⟨w0,hw0⟩:∃ x,x=w.alloc (.cells #[.slice A' nY c',.int .i64 (pd:Int),.int .i64 (pl:Int)] 29):=⟨_,rfl⟩;obtain ⟨b5,hb5⟩:∃ b,b=w.heap.size:=⟨_,rfl⟩;have hx0:Ext w w0:=(by rw [hw0]; exact (Ext.refl w).alloc _);have hk5:Blk w0 b5 29 #[.slice A' nY c',.int .i64 (pd:Int),.int .i64 (pl:Int)]:=(by rw [hw0,hb5]; exact Blk.new _ _ _);have HX0:=Hd hx0;have HK5:=Hd hk5;have HW0:=Hd (And.intro hw0 hb5);have HY:=Hd hp;have HRW:=Hd hr;have HKT:=Hd hk;have HL:=Hd hl;have Q0:=Hd (hk5.cell (i:=0) rfl);have Q1:=Hd (hk5.cell (i:=1) rfl);have Q2:=Hd (hk5.cell (i:=2) rfl);clear hr hk hT hl hp eep eem en eY epd epl enY hx0 hk5 hw0 hb5
 go_enter Tryz.func25,Tryz.ntmps25
 go_upto_region 1 with fail
 rw [← HW0.o.1,← HW0.o.2];obtain ⟨ws,ews⟩:∃ x:World,x=w0:=⟨_,rfl⟩;rw [← ews] at HX0 HK5 Q0 Q1 Q2 ⊢;clear ews;by_cases h0:ep=0
 ·have HL0:=Hd (r25_Lower d l A c);have he0:(ep != 0)=false:=(by rw [h0]; rfl);have HE0:=Hd h0;have HLO:=Hd (show ∀ w':World,Ext ws w'→Calls Tryz.prog 59 #[.slice A n c] w' (RetI w' ((lowF l:Nat):Int)) from fun w' hx=>by
   have h1:=r25_Lower d l A c w' S (HAR.o h0 w' (HX0.o.trans hx)) HL.o;rw [← HNE.o] at h1;exact h1)
  have HPE2:=Hd (show ∀ w':World,Ext ws w'→Calls Tryz.prog 56 #[.slice A n c,.int .i64 hz] w' (RetI w' ep) from fun w' hx=>HPE.o w' (HX0.o.trans hx));obtain ⟨lo,elo⟩:∃ x,x=lowF l:=⟨_,rfl⟩;rw [← elo] at HLO;have HLE:=Hd elo;have HEE:=Hd (show em=if hz<(depA l:Int) then 16 else 0 by rw [HEM.o,if_neg (by rw [h0]; decide)]);clear elo h0 HL0;by_cases hd:hz<(depA l:Int)
  ·have hem:em=16:=(by rw [HEE.o,if_pos hd]);have hz0:=HZ0.o HE0.o;obtain ⟨e1,e2,e3⟩:=HMN.o (by rw [hem]; decide);have hlo0:lo≠0:=(by rw [HLE.o]; exact HLOW.o HE0.o (by omega));have jl:((pl:Int) != (lo:Int))=true:=(by rw [e3,bne_iff_ne]; omega);have HDE:=Hd (show decide (em=0)=false by rw [hem]; rfl);clear hem e1 e2 e3 hd;refine wp_region_chain (by kernel_rfl) (fun i=>[i]) (by kernel_rfl) (LZ (fun _ _=>False)) (LZ.refl _) (LZ.trans _) (LK []) gz0 (LK.zero _) ?_;apply Chain.pure (LZ.refl _) (by rfl)
   ·intro vals γ w' ρ hR hN hp hρ hc hf hg;refine ⟨rfl,?_⟩;have e0:=hρ 0;(conv at e0=>rhs; whnf);clear hR hN hp hρ;go_light;go_simp;exact ⟨rfl,rfl⟩
   ·rfl
   apply Chain.pure (LZ.refl _) (by rfl)
   ·intro vals γ w' ρ hR hN hp hρ hc hf hg;refine ⟨rfl,?_⟩;have e1:=hρ 1;(conv at e1=>rhs; whnf);clear hR hN hp hρ;go_light;go_simp;exact ⟨rfl,rfl⟩
   ·rfl
   refine Chain.step (FP fun v γ w'=>v=.int .i64 ep) (by rfl) (FP.stab ?_) ?_ ?_
   ·intro v γ w1 γ' w2 r h;exact h
   ·intro vals γ w' ρ hR hN hp hρ hc hf hg;refine ⟨rfl,?_⟩;have e13:ρ (.tmp 13)=_:=(hρ 13).trans (hp 0 (by decide));have e14:ρ (.tmp 14)=_:=(hρ 14).trans (hp 1 (by decide));have HR:=Hd hR;have hxx:=hR.ext0 (fun _ _ _ h=>h.elim);have HXQ:=Hd hxx;clear hxx hR hN hp hρ;go_light;go_simp;refine (HPE2.o w' HXQ.o).mono ?_;rintro e1 w3 ⟨he,hx⟩;exact ⟨_,he,γ,LZ.of_ext _ γ hx,fun _ _ _ h=>h,rfl⟩
   apply Chain.pure (LZ.refl _) (by rfl)
   ·intro vals γ w' ρ hR hN hp hρ hc hf hg;refine ⟨rfl,?_⟩;have e15:ρ (.tmp 15)=_:=(hρ 15).trans (hp 2 (by decide));clear hR hN hp hρ;go_light;go_simp;exact ⟨rfl,rfl⟩
   ·rfl
   apply Chain.pure (LZ.refl _) (by rfl)
   ·intro vals γ w' ρ hR hN hp hρ hc hf hg;refine ⟨rfl,?_⟩;have e16:ρ (.tmp 16)=_:=(hρ 16).trans (hp 3 (by decide));clear hR hN hp hρ;go_light;go_simp;exact ⟨rfl,rfl⟩
   ·rfl
   apply Chain.pure (LZ.refl _) (by rfl)
   ·intro vals γ w' ρ hR hN hp hρ hc hf hg;refine ⟨by show (boolOf (vals 4)==some false)=true; rw [show vals 4=.bool false from hp 4 (by decide)]; rfl,?_⟩;have e5:=hρ 5;(conv at e5=>rhs; whnf);clear hR hN hp hρ;go_light;go_simp;exact ⟨rfl,rfl⟩
   ·rfl
   apply Chain.pure (LZ.refl _) (by rfl)
   ·intro vals γ w' ρ hR hN hp hρ hc hf hg;refine ⟨by show (boolOf (vals 4)==some false)=true; rw [show vals 4=.bool false from hp 4 (by decide)]; rfl,?_⟩;have e18:ρ (.tmp 18)=_:=(hρ 18).trans (hp 5 (by decide));have hxx:=hR.ext0 (fun _ _ _ h=>h.elim);have m0:=hxx.cell Q0.o;have m1:=hxx.cell Q1.o;have m2:=hxx.cell Q2.o;clear hxx hR hN hp hρ;go_light;go_simp;exact ⟨rfl,rfl⟩
   ·rfl
   apply Chain.pure (LZ.refl _) (by rfl)
   ·intro vals γ w' ρ hR hN hp hρ hc hf hg;refine ⟨by show (boolOf (vals 4)==some false)=true; rw [show vals 4=.bool false from hp 4 (by decide)]; rfl,?_⟩;have e0:=hρ 0;(conv at e0=>rhs; whnf);clear hR hN hp hρ;go_light;go_simp;exact ⟨rfl,rfl⟩
   ·rfl
   refine Chain.step (FP fun v γ w'=>v=.int .i64 (lo:Int)) (by rfl) (FP.stab ?_) ?_ ?_
   ·intro v γ w1 γ' w2 r h;exact h
   ·intro vals γ w' ρ hR hN hp hρ hc hf hg;refine ⟨by show (boolOf (vals 4)==some false)=true; rw [show vals 4=.bool false from hp 4 (by decide)]; rfl,?_⟩;have e20:ρ (.tmp 20)=_:=(hρ 20).trans (hp 7 (by decide));have HR:=Hd hR;have hxx:=hR.ext0 (fun _ _ _ h=>h.elim);have HXQ:=Hd hxx;clear hxx hR hN hp hρ;go_light;go_simp;refine (HLO.o w' HXQ.o).mono ?_;rintro e1 w3 ⟨he,hx⟩;exact ⟨_,he,γ,LZ.of_ext _ γ hx,fun _ _ _ h=>h,rfl⟩
   apply Chain.pure (LZ.refl _) (by rfl)
   ·intro vals γ w' ρ hR hN hp hρ hc hf hg;refine ⟨by show (boolOf (vals 4)==some false)=true; rw [show vals 4=.bool false from hp 4 (by decide)]; rfl,?_⟩;have e19:ρ (.tmp 19)=_:=(hρ 19).trans (hp 6 (by decide));have e21:ρ (.tmp 21)=_:=(hρ 21).trans (hp 8 (by decide));clear hR hN hp hρ;go_light;go_simp;exact ⟨rfl,rfl⟩
   ·rfl
   apply Chain.pure (LZ.refl _) (by rfl)
   ·intro vals γ w' ρ hR hN hp hρ hc hf hg;refine ⟨rfl,?_⟩;have e17:ρ (.tmp 17)=_:=(hρ 17).trans (hp 4 (by decide));have e22:ρ (.tmp 22)=_:=(hρ 22).trans (hp 9 (by decide));clear hR hN hp hρ;go_light;go_simp;exact ⟨rfl,rfl⟩
   ·rfl
   apply Chain.pure (LZ.refl _) (by rfl)
   ·intro vals γ w' ρ hR hN hp hρ hc hf hg;refine ⟨rfl,?_⟩;have e23:ρ (.tmp 23)=_:=(hρ 23).trans (hp 10 (by decide));clear hR hN hp hρ;go_light;go_simp;exact ⟨rfl,rfl⟩
   ·rfl
   refine Chain.no (by rfl) (by rfl) ?_ ?_
   ·intro vals γ w' hp;show (boolOf (vals 11)==some false)=false;rw [show vals 11=.bool true from hp 11 (by decide)]; rfl
   refine Chain.no (by rfl) (by rfl) ?_ ?_
   ·intro vals γ w' hp;show (boolOf (vals 11)==some false)=false;rw [show vals 11=.bool true from hp 11 (by decide)]; rfl
   refine Chain.no (by rfl) (by rfl) ?_ ?_
   ·intro vals γ w' hp;show (boolOf (vals 11)==some false)=false;rw [show vals 11=.bool true from hp 11 (by decide)]; rfl
   refine Chain.no (by rfl) (by rfl) ?_ ?_
   ·intro vals γ w' hp;show (boolOf (vals 11)==some false)=false;rw [show vals 11=.bool true from hp 11 (by decide)]; rfl
   apply Chain.pure (LZ.refl _) (by rfl)
   ·intro vals γ w' ρ hR hN hp hρ hc hf hg;refine ⟨rfl,?_⟩;have e24:ρ (.tmp 24)=_:=(hρ 24).trans (hp 11 (by decide));have e28:ρ (.tmp 28)=_:=(hρ 28).trans (hp 15 (by decide));clear hR hN hp hρ;go_light;go_simp;exact ⟨rfl,rfl⟩
   ·rfl
   intro vals γ w9 hR hG;have v0:vals 0=_:=hG 0 (by decide);have v1:vals 1=_:=hG 1 (by decide);have v2:vals 2=_:=hG 2 (by decide);have v3:vals 3=_:=hG 3 (by decide);have v4:vals 4=_:=hG 4 (by decide);have v5:vals 5=_:=hG 5 (by decide);have v6:vals 6=_:=hG 6 (by decide);have v7:vals 7=_:=hG 7 (by decide);have v8:vals 8=_:=hG 8 (by decide);have v9:vals 9=_:=hG 9 (by decide);have v10:vals 10=_:=hG 10 (by decide);have v11:vals 11=_:=hG 11 (by decide);have v12:vals 12=_:=hG 12 (by decide);have v13:vals 13=_:=hG 13 (by decide);have v14:vals 14=_:=hG 14 (by decide);have v15:vals 15=_:=hG 15 (by decide);have v16:vals 16=_:=hG 16 (by decide);simp only [lexFrame,Act.put,List.setIfInBounds_toArray,List.set_cons_succ,List.set_cons_zero,Nat.zero_add,Nat.reduceAdd,v0,v1,v2,v3,v4,v5,v6,v7,v8,v9,v10,v11,v12,v13,v14,v15,v16];clear v0 v1 v2 v3 v4 v5 v6 v7 v8 v9 v10 v11 v12 v13 v14 v15 v16;have HXN:=Hd (show Ext ws w9 from hR.ext0 (fun _ _ _ h=>h.elim));clear hR hG;go_wp2;go_ret;exact ⟨by rw [HDE.o]; rfl,HX0.o.trans HXN.o⟩
  ·have hem:em=0:=(by rw [HEE.o,if_neg hd]);obtain ⟨e1,e2,e3⟩:=HMK.o hem;have jl:((pl:Int) != (lo:Int))=false:=(by rw [e3,HLE.o]; simp);have jd:¬ hz<(pd:Int):=(by rw [e2]; exact hd);have HDE:=Hd (show decide (em=0)=true by rw [hem]; rfl);have HPY:=Hd (And.intro e1 e2);clear hem e1 e2 e3 hd;refine wp_region_chain (by kernel_rfl) (fun i=>[i]) (by kernel_rfl) (LZ (fun _ _=>False)) (LZ.refl _) (LZ.trans _) (LK []) gz0 (LK.zero _) ?_;apply Chain.pure (LZ.refl _) (by rfl)
   ·intro vals γ w' ρ hR hN hp hρ hc hf hg;refine ⟨rfl,?_⟩;have e0:=hρ 0;(conv at e0=>rhs; whnf);clear hR hN hp hρ;go_light;go_simp;exact ⟨rfl,rfl⟩
   ·rfl
   apply Chain.pure (LZ.refl _) (by rfl)
   ·intro vals γ w' ρ hR hN hp hρ hc hf hg;refine ⟨rfl,?_⟩;have e1:=hρ 1;(conv at e1=>rhs; whnf);clear hR hN hp hρ;go_light;go_simp;exact ⟨rfl,rfl⟩
   ·rfl
   refine Chain.step (FP fun v γ w'=>v=.int .i64 ep) (by rfl) (FP.stab ?_) ?_ ?_
   ·intro v γ w1 γ' w2 r h;exact h
   ·intro vals γ w' ρ hR hN hp hρ hc hf hg;refine ⟨rfl,?_⟩;have e13:ρ (.tmp 13)=_:=(hρ 13).trans (hp 0 (by decide));have e14:ρ (.tmp 14)=_:=(hρ 14).trans (hp 1 (by decide));have HR:=Hd hR;have hxx:=hR.ext0 (fun _ _ _ h=>h.elim);have HXQ:=Hd hxx;clear hxx hR hN hp hρ;go_light;go_simp;refine (HPE2.o w' HXQ.o).mono ?_;rintro e1 w3 ⟨he,hx⟩;exact ⟨_,he,γ,LZ.of_ext _ γ hx,fun _ _ _ h=>h,rfl⟩
   apply Chain.pure (LZ.refl _) (by rfl)
   ·intro vals γ w' ρ hR hN hp hρ hc hf hg;refine ⟨rfl,?_⟩;have e15:ρ (.tmp 15)=_:=(hρ 15).trans (hp 2 (by decide));clear hR hN hp hρ;go_light;go_simp;exact ⟨rfl,rfl⟩
   ·rfl
   apply Chain.pure (LZ.refl _) (by rfl)
   ·intro vals γ w' ρ hR hN hp hρ hc hf hg;refine ⟨rfl,?_⟩;have e16:ρ (.tmp 16)=_:=(hρ 16).trans (hp 3 (by decide));clear hR hN hp hρ;go_light;go_simp;exact ⟨rfl,rfl⟩
   ·rfl
   apply Chain.pure (LZ.refl _) (by rfl)
   ·intro vals γ w' ρ hR hN hp hρ hc hf hg;refine ⟨by show (boolOf (vals 4)==some false)=true; rw [show vals 4=.bool false from hp 4 (by decide)]; rfl,?_⟩;have e5:=hρ 5;(conv at e5=>rhs; whnf);clear hR hN hp hρ;go_light;go_simp;exact ⟨rfl,rfl⟩
   ·rfl
   apply Chain.pure (LZ.refl _) (by rfl)
   ·intro vals γ w' ρ hR hN hp hρ hc hf hg;refine ⟨by show (boolOf (vals 4)==some false)=true; rw [show vals 4=.bool false from hp 4 (by decide)]; rfl,?_⟩;have e18:ρ (.tmp 18)=_:=(hρ 18).trans (hp 5 (by decide));have hxx:=hR.ext0 (fun _ _ _ h=>h.elim);have m0:=hxx.cell Q0.o;have m1:=hxx.cell Q1.o;have m2:=hxx.cell Q2.o;clear hxx hR hN hp hρ;go_light;go_simp;exact ⟨rfl,rfl⟩
   ·rfl
   apply Chain.pure (LZ.refl _) (by rfl)
   ·intro vals γ w' ρ hR hN hp hρ hc hf hg;refine ⟨by show (boolOf (vals 4)==some false)=true; rw [show vals 4=.bool false from hp 4 (by decide)]; rfl,?_⟩;have e0:=hρ 0;(conv at e0=>rhs; whnf);clear hR hN hp hρ;go_light;go_simp;exact ⟨rfl,rfl⟩
   ·rfl
   refine Chain.step (FP fun v γ w'=>v=.int .i64 (lo:Int)) (by rfl) (FP.stab ?_) ?_ ?_
   ·intro v γ w1 γ' w2 r h;exact h
   ·intro vals γ w' ρ hR hN hp hρ hc hf hg;refine ⟨by show (boolOf (vals 4)==some false)=true; rw [show vals 4=.bool false from hp 4 (by decide)]; rfl,?_⟩;have e20:ρ (.tmp 20)=_:=(hρ 20).trans (hp 7 (by decide));have HR:=Hd hR;have hxx:=hR.ext0 (fun _ _ _ h=>h.elim);have HXQ:=Hd hxx;clear hxx hR hN hp hρ;go_light;go_simp;refine (HLO.o w' HXQ.o).mono ?_;rintro e1 w3 ⟨he,hx⟩;exact ⟨_,he,γ,LZ.of_ext _ γ hx,fun _ _ _ h=>h,rfl⟩
   apply Chain.pure (LZ.refl _) (by rfl)
   ·intro vals γ w' ρ hR hN hp hρ hc hf hg;refine ⟨by show (boolOf (vals 4)==some false)=true; rw [show vals 4=.bool false from hp 4 (by decide)]; rfl,?_⟩;have e19:ρ (.tmp 19)=_:=(hρ 19).trans (hp 6 (by decide));have e21:ρ (.tmp 21)=_:=(hρ 21).trans (hp 8 (by decide));clear hR hN hp hρ;go_light;go_simp;exact ⟨rfl,rfl⟩
   ·rfl
   apply Chain.pure (LZ.refl _) (by rfl)
   ·intro vals γ w' ρ hR hN hp hρ hc hf hg;refine ⟨rfl,?_⟩;have e17:ρ (.tmp 17)=_:=(hρ 17).trans (hp 4 (by decide));have e22:ρ (.tmp 22)=_:=(hρ 22).trans (hp 9 (by decide));clear hR hN hp hρ;go_light;go_simp;exact ⟨rfl,rfl⟩
   ·rfl
   apply Chain.pure (LZ.refl _) (by rfl)
   ·intro vals γ w' ρ hR hN hp hρ hc hf hg;refine ⟨rfl,?_⟩;have e23:ρ (.tmp 23)=_:=(hρ 23).trans (hp 10 (by decide));clear hR hN hp hρ;go_light;go_simp;exact ⟨rfl,rfl⟩
   ·rfl
   apply Chain.pure (LZ.refl _) (by rfl)
   ·intro vals γ w' ρ hR hN hp hρ hc hf hg;refine ⟨by show (boolOf (vals 11)==some false)=true; rw [show vals 11=.bool false from hp 11 (by decide)]; rfl,?_⟩;have e5:=hρ 5;(conv at e5=>rhs; whnf);clear hR hN hp hρ;go_light;go_simp;exact ⟨rfl,rfl⟩
   ·rfl
   apply Chain.pure (LZ.refl _) (by rfl)
   ·intro vals γ w' ρ hR hN hp hρ hc hf hg;refine ⟨by show (boolOf (vals 11)==some false)=true; rw [show vals 11=.bool false from hp 11 (by decide)]; rfl,?_⟩;have e25:ρ (.tmp 25)=_:=(hρ 25).trans (hp 12 (by decide));have hxx:=hR.ext0 (fun _ _ _ h=>h.elim);have m0:=hxx.cell Q0.o;have m1:=hxx.cell Q1.o;have m2:=hxx.cell Q2.o;clear hxx hR hN hp hρ;go_light;go_simp;exact ⟨rfl,rfl⟩
   ·rfl
   apply Chain.pure (LZ.refl _) (by rfl)
   ·intro vals γ w' ρ hR hN hp hρ hc hf hg;refine ⟨by show (boolOf (vals 11)==some false)=true; rw [show vals 11=.bool false from hp 11 (by decide)]; rfl,?_⟩;have e1:=hρ 1;(conv at e1=>rhs; whnf);clear hR hN hp hρ;go_light;go_simp;exact ⟨rfl,rfl⟩
   ·rfl
   apply Chain.pure (LZ.refl _) (by rfl)
   ·intro vals γ w' ρ hR hN hp hρ hc hf hg;refine ⟨by show (boolOf (vals 11)==some false)=true; rw [show vals 11=.bool false from hp 11 (by decide)]; rfl,?_⟩;have e26:ρ (.tmp 26)=_:=(hρ 26).trans (hp 13 (by decide));have e27:ρ (.tmp 27)=_:=(hρ 27).trans (hp 14 (by decide));clear hR hN hp hρ;go_light;go_simp;exact ⟨rfl,rfl⟩
   ·rfl
   apply Chain.pure (LZ.refl _) (by rfl)
   ·intro vals γ w' ρ hR hN hp hρ hc hf hg;refine ⟨rfl,?_⟩;have e24:ρ (.tmp 24)=_:=(hρ 24).trans (hp 11 (by decide));have e28:ρ (.tmp 28)=_:=(hρ 28).trans (hp 15 (by decide));clear hR hN hp hρ;go_light;go_simp;exact ⟨rfl,rfl⟩
   ·rfl
   intro vals γ w9 hR hG;have v0:vals 0=_:=hG 0 (by decide);have v1:vals 1=_:=hG 1 (by decide);have v2:vals 2=_:=hG 2 (by decide);have v3:vals 3=_:=hG 3 (by decide);have v4:vals 4=_:=hG 4 (by decide);have v5:vals 5=_:=hG 5 (by decide);have v6:vals 6=_:=hG 6 (by decide);have v7:vals 7=_:=hG 7 (by decide);have v8:vals 8=_:=hG 8 (by decide);have v9:vals 9=_:=hG 9 (by decide);have v10:vals 10=_:=hG 10 (by decide);have v11:vals 11=_:=hG 11 (by decide);have v12:vals 12=_:=hG 12 (by decide);have v13:vals 13=_:=hG 13 (by decide);have v14:vals 14=_:=hG 14 (by decide);have v15:vals 15=_:=hG 15 (by decide);have v16:vals 16=_:=hG 16 (by decide);simp only [lexFrame,Act.put,List.setIfInBounds_toArray,List.set_cons_succ,List.set_cons_zero,Nat.zero_add,Nat.reduceAdd,v0,v1,v2,v3,v4,v5,v6,v7,v8,v9,v10,v11,v12,v13,v14,v15,v16];clear v0 v1 v2 v3 v4 v5 v6 v7 v8 v9 v10 v11 v12 v13 v14 v15 v16;have HXN:=Hd (show Ext ws w9 from hR.ext0 (fun _ _ _ h=>h.elim));clear hR hG;obtain ⟨wt,ewt⟩:∃ x:World,x=w9:=⟨_,rfl⟩;rw [← ewt] at HXN ⊢;clear ewt w9;have q0:=HXN.o.cell Q0.o;have q1:=HXN.o.cell Q1.o;have q2:=HXN.o.cell Q2.o;have zb:=(HK5.o.keep (HXN.o.kept _)).lt;have HXT:=Hd (HX0.o.trans HXN.o);have HNIL:=Hd (show nY=0↔depA l=0 by
    rw [HNY.o,HPY.o.1];exact plan_nil (v:=ans l) (spl_small l) (inpS l) (allP l) 0)
   have HAP:=Hd (show allP l=List.range n by unfold allP; rw [HNE.o]);clear he0 jl jd;by_cases hY0:nY=0
   ·have j1:((nY:Int)==0)=true:=(by rw [beq_iff_eq]; omega);have hd0:=HNIL.o.1 hY0;have j2:((pd:Int)==0)=true:=(by rw [HPY.o.2,hd0]; rfl);have HAK:=Hd (show ∀ (A9:Option Addr) (c9:Nat) (w':World),Ext w w'→OwnN w' wt.heap.size A9 c9 (List.range n)→Calls Tryz.prog 32 #[.slice A n c,.slice A9 n c9] w' (RetB w' true) from fun A9 c9 w' hx ho=>by
     have h1:=r25_Alike d l A c (List.range n) A9 c9 w' S (fun _=>True) (HRW.o.keep (hx.kept S)) ⟨(Own.rd ho).mono fun _ _ _=>trivial,by simp; omega⟩ (fun x hx=>by rw [← HNE.o]; exact List.mem_range.1 hx) (by simp; omega);have har:=HAR.o HE0.o w' hx;rw [alk_dep har.tri har.wide (fun x hx=>by rw [← HNE.o]; exact List.mem_range.1 hx),← HAP.o,show dep (spl l) (inpS l) (allP l)=depA l from rfl,hd0,← HNE.o,HAP.o,List.length_range] at h1;exact h1)
    have HY0:=Hd hY0;clear hY0 hd0
    go_wp2_with fail
    refine (r25_All n (by omega) wt).mono ?_;rintro e4 wu ⟨A9,c9,rfl,ho9,hx9⟩;rw [List.length_range];have q1:=hx9.cell q1;have q2:=hx9.cell q2;have HX9:=Hd hx9;have HAK2:=Hd (HAK.o A9 c9 wu (HXT.o.trans hx9) ho9);clear ho9 hx9 HAK
    go_wp2_with fail
    refine HAK2.o.mono ?_;rintro e5 wv ⟨rfl,hxv⟩;have q1:=hxv.cell q1;have HXV:=Hd (HXT.o.trans (HX9.o.trans hxv));clear hxv;go_wp2;go_ret;exact ⟨by rw [HDE.o]; rfl,HXV.o⟩
   ·have j1:((nY:Int)==0)=false:=(by rw [beq_eq_false_iff_ne]; omega);have HWK:=Hd (show ∀ (A9:Option Addr) (c9:Nat) (w':World),Ext wt w'→OwnN w' wt.heap.size A9 c9 (List.range n)→Calls Tryz.prog 69 #[.slice A n c,.agg #[.slice A' nY c',.int .i64 (pd:Int),.int .i64 (pl:Int)],.int .i64 0,.slice A9 n c9] w' (RetWk w' pd 0 nY) from fun A9 c9 w' hx ho=>by
     have h1:=r25_walk n d l A c (List.range n) A9 c9 Y [] [] A' c' (pd:Int) (pl:Int) w' S (fun _=>True) U (by simp) (HAR.o HE0.o w' (HXT.o.trans hx)) ⟨⟨(Own.rd ho).mono fun _ _ _=>trivial,by simp; omega⟩,fun x hx=>by rw [← HNE.o]; exact List.mem_range.1 hx,by simp; omega⟩ (HY.o.keep ((HXT.o.trans hx).kept U)) (by rw [← HNY.o]; exact hYl) (by rw [HPY.o.1,← HAP.o]; simp [planA]) (by rw [← HAP.o]; exact fun e=>hY0 (HNIL.o.2 e));rw [← HAP.o,show dep (spl l) (inpS l) (allP l)=depA l from rfl,← HPY.o.2,show (plan (spl l) (inpS l) (ans l) (allP l) ([]:List AskD).length).length=nY by rw [HNY.o,HPY.o.1]; rfl,HAP.o,List.length_range,← HNE.o,← HNY.o] at h1;exact h1)
    have P0:=Hd q0;have P1:=Hd q1;have P2:=Hd q2
    go_upto_region 6 with fail
    clear q0 q1 q2 zb;refine wp_region_chain (by kernel_rfl) (fun i=>[i]) (by kernel_rfl) (LZ (fun _ _=>False)) (LZ.refl _) (LZ.trans _) (LK []) gz0 (LK.zero _) ?_;apply Chain.pure (LZ.refl _) (by rfl)
    ·intro vals γ w' ρ hR hN hp hρ hc hf hg;refine ⟨rfl,?_⟩;have e0:=hρ 0;(conv at e0=>rhs; whnf);clear hR hN hp hρ;go_light;go_simp;exact ⟨rfl,rfl⟩
    ·rfl
    apply Chain.pure (LZ.refl _) (by rfl)
    ·intro vals γ w' ρ hR hN hp hρ hc hf hg;refine ⟨rfl,?_⟩;have e5:=hρ 5;(conv at e5=>rhs; whnf);have hxx:=hR.ext0 (fun _ _ _ h=>h.elim);have m0:=hxx.cell P0.o;have m1:=hxx.cell P1.o;have m2:=hxx.cell P2.o;clear hxx hR hN hp hρ;go_light;go_simp;exact ⟨rfl,rfl⟩
    ·rfl
    apply Chain.pure (LZ.refl _) (by rfl)
    ·intro vals γ w' ρ hR hN hp hρ hc hf hg;refine ⟨rfl,?_⟩;have e0:=hρ 0;(conv at e0=>rhs; whnf);clear hR hN hp hρ;go_light;go_simp;exact ⟨rfl,rfl⟩
    ·rfl
    apply Chain.pure (LZ.refl _) (by rfl)
    ·intro vals γ w' ρ hR hN hp hρ hc hf hg;refine ⟨rfl,?_⟩;have e48:ρ (.tmp 48)=_:=(hρ 48).trans (hp 2 (by decide));clear hR hN hp hρ;go_light;go_simp;exact ⟨rfl,rfl⟩
    ·rfl
    refine Chain.step (FP fun v γ w'=>CeH wt.heap.size n v w') (by rfl) (FP.stab ?_) ?_ ?_
    ·rintro v γ w1 γ' w2 rr ⟨A9,c9,h1,h2⟩;exact ⟨A9,c9,h1,Own.keep h2 (rr.keptS fun b _ _ m hm=>hm.elim)⟩
    ·intro vals γ w' ρ hR hN hp hρ hc hf hg;refine ⟨rfl,?_⟩;have e49:ρ (.tmp 49)=_:=(hρ 49).trans (hp 3 (by decide));have HR:=Hd hR;clear hR hN hp hρ;go_light;go_simp;refine (r25_All n (by omega) w').mono ?_;rintro e1 w3 ⟨A9,c9,he,ho,hx⟩;exact ⟨_,he,γ,LZ.of_ext _ γ hx,fun _ _ _ h=>h,A9,c9,by show Value.slice A9 (List.range n).length c9=.slice A9 n c9; rw [List.length_range],Own.lower ho HR.o.size⟩
    refine Chain.step (FP fun v γ w'=>CeF wt.heap.size pd nY v w') (by rfl) (FP.stab ?_) ?_ ?_
    ·rintro v γ w1 γ' w2 rr ⟨A9,c9,h1,h2⟩;exact ⟨A9,c9,h1,Own.keep h2 (rr.keptS fun b _ _ m hm=>hm.elim)⟩
    ·intro vals γ w' ρ hR hN hp hρ hc hf hg;refine ⟨rfl,?_⟩;have e46:ρ (.tmp 46)=_:=(hρ 46).trans (hp 0 (by decide));have e47:ρ (.tmp 47)=_:=(hρ 47).trans (hp 1 (by decide));obtain ⟨A9,c9,hv,ho9⟩:=hp 4 (by decide);have e50:=(hρ 50).trans hv;have HR:=Hd hR;have hxx:=hR.ext0 (fun _ _ _ h=>h.elim);have HXQ:=Hd hxx;clear hxx;have HO9:=Hd ho9;clear ho9 hv hR hN hp hρ;go_light;go_simp;refine (HWK.o A9 c9 w' HXQ.o HO9.o).mono ?_;rintro e1 w3 ⟨A7,c7,he,ho,hx⟩;exact ⟨_,he,γ,LZ.of_ext _ γ hx,fun _ _ _ h=>h,A7,c7,rfl,Own.lower ho HR.o.size⟩
    refine Chain.step (FP fun v γ w'=>CeF wt.heap.size pd nY v w') (by rfl) (FP.stab ?_) ?_ ?_
    ·rintro v γ w1 γ' w2 rr ⟨A9,c9,h1,h2⟩;exact ⟨A9,c9,h1,Own.keep h2 (rr.keptS fun b _ _ m hm=>hm.elim)⟩
    ·intro vals γ w' ρ hR hN hp hρ hc hf hg;refine ⟨rfl,?_⟩;have hg:=hp 5 (by decide);have e51:=hρ 51;(conv at e51=>rhs; whnf);have HG:=Hd hg;clear hR hN hp hρ hg;go_light;go_simp;exact ⟨γ,LZ.refl _ _ _,fun _ _ _ h=>h,HG.o⟩
    apply Chain.pure (LZ.refl _) (by rfl)
    ·intro vals γ w' ρ hR hN hp hρ hc hf hg;refine ⟨rfl,?_⟩;obtain ⟨A9,c9,hv,ho9⟩:=hp 6 (by decide);have e45:=(hρ 45).trans hv;clear hR hN hp hρ;go_light;go_simp;exact ⟨rfl,rfl⟩
    ·rfl
    refine Chain.step (FP fun v γ w'=>CeG wt.heap.size nY v w') (by rfl) (FP.stab ?_) ?_ ?_
    ·rintro v γ w1 γ' w2 rr ⟨A9,c9,h1,h2⟩;exact ⟨A9,c9,h1,Own.keep h2 (rr.keptS fun b _ _ m hm=>hm.elim)⟩
    ·intro vals γ w' ρ hR hN hp hρ hc hf hg;refine ⟨rfl,?_⟩;obtain ⟨A9,c9,hv,ho9⟩:=hp 6 (by decide);have e45:=(hρ 45).trans hv;have HO9:=Hd ho9;clear hR hN hp hρ hv ho9;go_light;go_simp;exact ⟨γ,LZ.refl _ _ _,fun _ _ _ h=>h,A9,c9,rfl,HO9.o⟩
    apply Chain.pure (LZ.refl _) (by rfl)
    ·intro vals γ w' ρ hR hN hp hρ hc hf hg;refine ⟨rfl,?_⟩;obtain ⟨A9,c9,hv,ho9⟩:=hp 6 (by decide);have e45:=(hρ 45).trans hv;clear hR hN hp hρ;go_light;go_simp;exact ⟨rfl,rfl⟩
    ·rfl
    apply Chain.pure (LZ.refl _) (by rfl)
    ·intro vals γ w' ρ hR hN hp hρ hc hf hg;refine ⟨rfl,?_⟩;have e52:ρ (.tmp 52)=_:=(hρ 52).trans (hp 7 (by decide));clear hR hN hp hρ;go_light;go_simp;exact ⟨rfl,rfl⟩
    ·rfl
    refine Chain.step (FP fun v γ w'=>CeG wt.heap.size nY v w') (by rfl) (FP.stab ?_) ?_ ?_
    ·rintro v γ w1 γ' w2 rr ⟨A9,c9,h1,h2⟩;exact ⟨A9,c9,h1,Own.keep h2 (rr.keptS fun b _ _ m hm=>hm.elim)⟩
    ·intro vals γ w' ρ hR hN hp hρ hc hf hg;refine ⟨rfl,?_⟩;have hg:=hp 8 (by decide);have e53:=hρ 53;(conv at e53=>rhs; whnf);have HG:=Hd hg;clear hR hN hp hρ hg;go_light;go_simp;exact ⟨γ,LZ.refl _ _ _,fun _ _ _ h=>h,HG.o⟩
    apply Chain.pure (LZ.refl _) (by rfl)
    ·intro vals γ w' ρ hR hN hp hρ hc hf hg;refine ⟨rfl,?_⟩;have e54:ρ (.tmp 54)=_:=(hρ 54).trans (hp 9 (by decide));clear hR hN hp hρ;go_light;go_simp;exact ⟨rfl,rfl⟩
    ·rfl
    intro vals γ w9 hR hG;have v0:vals 0=_:=hG 0 (by decide);have v1:vals 1=_:=hG 1 (by decide);have v2:vals 2=_:=hG 2 (by decide);have v3:vals 3=_:=hG 3 (by decide);obtain ⟨A4,c4,v4,-⟩:=hG 4 (by decide);obtain ⟨A5,c5,v5,-⟩:=hG 5 (by decide);obtain ⟨A6,c6,v6,-⟩:=hG 6 (by decide);have v7:vals 7=_:=hG 7 (by decide);obtain ⟨A8,c8,v8,-⟩:=hG 8 (by decide);have v9:vals 9=_:=hG 9 (by decide);have v10:vals 10=_:=hG 10 (by decide);obtain ⟨A7,c7,v11,ho11⟩:=hG 11 (by decide);have v12:vals 12=_:=hG 12 (by decide);simp only [lexFrame,Act.put,List.setIfInBounds_toArray,List.set_cons_succ,List.set_cons_zero,Nat.zero_add,Nat.reduceAdd,v0,v1,v2,v3,v4,v5,v6,v7,v8,v9,v10,v11,v12];clear v0 v1 v2 v3 v4 v5 v6 v7 v8 v9 v10 v11 v12;have HXZ:=Hd (show Ext wt w9 from hR.ext0 (fun _ _ _ h=>h.elim));have HOZ:=Hd ho11;clear hR hG ho11;obtain ⟨wz,ewz⟩:∃ x:World,x=w9:=⟨_,rfl⟩;rw [← ewz] at HXZ HOZ ⊢;clear ewz w9;have q0:=HXZ.o.cell P0.o;have q1:=HXZ.o.cell P1.o;have zb:=((HK5.o.keep (HXN.o.kept _)).keep (HXZ.o.kept _)).lt;have HNZ:=Hd (show Nums wz (fun _=>True) A7 (List.range' 0 nY) from ⟨(Own.rd HOZ.o).mono fun _ _ _=>trivial,by simp; omega⟩);have j3:((pd:Int) != (pd:Int))=false:=(by simp);have j4:((nY:Int) != (nY:Int))=false:=(by simp);clear P0 P1 P2;go_wp2
    go_loopw [11,12] (fun v11 _u12 wr=>∃ k:Nat,k≤nY∧v11=.int .i64 (k:Int)∧Ext wz wr) (fun v11 _ _=>nY-(intOf v11).toNat)
    case atStart=>exact ⟨0,Nat.zero_le _,rfl,Ext.refl _⟩
    case round =>
     obtain ⟨k,hk,rfl,hx⟩:=hrel;obtain ⟨wo,rfl⟩:∃ x:World,x=wr:=⟨_,rfl⟩;have HXO:=Hd hx;clear hx;by_cases hlt:k<nY
     ·have i1:(k:Int)<(nY:Int):=(by omega);have i0:(0:Int)≤(k:Int):=(by omega);go_wp2
      go_loopw [12] (fun v12 wr=>∃ j:Nat,j≤k∧v12=.int .i64 (j:Int)∧Ext wo wr) (fun v12 _=>k-(intOf v12).toNat)
      case atStart=>exact ⟨0,Nat.zero_le _,rfl,Ext.refl _⟩
      case round =>
       obtain ⟨j,hj,rfl,hxj⟩:=hrel;obtain ⟨wa,rfl⟩:∃ x:World,x=wr:=⟨_,rfl⟩;have HXA:=Hd hxj;by_cases hjk:j<k
       ·have hjl:j<(List.range' 0 nY).length:=(by rw [List.length_range']; omega);have hkl:k<(List.range' 0 nY).length:=(by rw [List.length_range']; exact hlt);obtain ⟨bS,oS,hS,zS,cJ⟩:=(HNZ.o.keep ((HXO.o.trans hxj).kept _)).at_ hjl;obtain ⟨bS2,oS2,hS2,zS2,cK⟩:=(HNZ.o.keep ((HXO.o.trans hxj).kept _)).at_ hkl;rw [hS] at hS2;injection hS2 with hS2;injection hS2 with hs1 hs2;subst hS hs1 hs2;rw [show (List.range' 0 nY)[j]=j by simp] at cJ;rw [show (List.range' 0 nY)[k]=k by simp] at cK;have P0:=Hd cJ;have P1:=Hd cK;have jne:((j:Int)==(k:Int))=false:=(by rw [beq_eq_false_iff_ne]; omega);have j5:(0:Int)≤(j:Int):=(by omega);have j6:(j:Int)<(nY:Int):=(by omega);have j7:(j:Int)<(k:Int):=(by omega);clear hjl hkl cJ cK hxj
        go_upto_region 15 with fail
        refine wp_region_chain (by kernel_rfl) (fun i=>[i]) (by kernel_rfl) (LZ (fun _ _=>False)) (LZ.refl _) (LZ.trans _) (LK []) gz0 (LK.zero _) ?_;apply Chain.pure (LZ.refl _) (by rfl)
        ·intro vals γ w' ρ hR hN hp hρ hc hf hg;refine ⟨rfl,?_⟩;have e9:=hρ 9;(conv at e9=>rhs; whnf);clear hR hN hp hρ;go_light;go_simp;exact ⟨rfl,rfl⟩
        ·rfl
        apply Chain.pure (LZ.refl _) (by rfl)
        ·intro vals γ w' ρ hR hN hp hρ hc hf hg;refine ⟨rfl,?_⟩;have e12:=hρ 12;(conv at e12=>rhs; whnf);clear hR hN hp hρ;go_light;go_simp;exact ⟨rfl,rfl⟩
        ·rfl
        apply Chain.pure (LZ.refl _) (by rfl)
        ·intro vals γ w' ρ hR hN hp hρ hc hf hg;refine ⟨rfl,?_⟩;have e82:ρ (.tmp 82)=_:=(hρ 82).trans (hp 0 (by decide));have e83:ρ (.tmp 83)=_:=(hρ 83).trans (hp 1 (by decide));clear hR hN hp hρ;go_light;go_simp;exact ⟨rfl,rfl⟩
        ·rfl
        apply Chain.pure (LZ.refl _) (by rfl)
        ·intro vals γ w' ρ hR hN hp hρ hc hf hg;refine ⟨rfl,?_⟩;have e84:ρ (.tmp 84)=_:=(hρ 84).trans (hp 2 (by decide));have hxx:=hR.ext0 (fun _ _ _ h=>h.elim);have m0:=hxx.cell P0.o;have m1:=hxx.cell P1.o;clear hxx hR hN hp hρ;go_light;go_simp;exact ⟨rfl,rfl⟩
        ·rfl
        apply Chain.pure (LZ.refl _) (by rfl)
        ·intro vals γ w' ρ hR hN hp hρ hc hf hg;refine ⟨rfl,?_⟩;have e9:=hρ 9;(conv at e9=>rhs; whnf);clear hR hN hp hρ;go_light;go_simp;exact ⟨rfl,rfl⟩
        ·rfl
        apply Chain.pure (LZ.refl _) (by rfl)
        ·intro vals γ w' ρ hR hN hp hρ hc hf hg;refine ⟨rfl,?_⟩;have e11:=hρ 11;(conv at e11=>rhs; whnf);clear hR hN hp hρ;go_light;go_simp;exact ⟨rfl,rfl⟩
        ·rfl
        apply Chain.pure (LZ.refl _) (by rfl)
        ·intro vals γ w' ρ hR hN hp hρ hc hf hg;refine ⟨rfl,?_⟩;have e86:ρ (.tmp 86)=_:=(hρ 86).trans (hp 4 (by decide));have e87:ρ (.tmp 87)=_:=(hρ 87).trans (hp 5 (by decide));clear hR hN hp hρ;go_light;go_simp;exact ⟨rfl,rfl⟩
        ·rfl
        apply Chain.pure (LZ.refl _) (by rfl)
        ·intro vals γ w' ρ hR hN hp hρ hc hf hg;refine ⟨rfl,?_⟩;have e88:ρ (.tmp 88)=_:=(hρ 88).trans (hp 6 (by decide));have hxx:=hR.ext0 (fun _ _ _ h=>h.elim);have m0:=hxx.cell P0.o;have m1:=hxx.cell P1.o;clear hxx hR hN hp hρ;go_light;go_simp;exact ⟨rfl,rfl⟩
        ·rfl
        apply Chain.pure (LZ.refl _) (by rfl)
        ·intro vals γ w' ρ hR hN hp hρ hc hf hg;refine ⟨rfl,?_⟩;have e85:ρ (.tmp 85)=_:=(hρ 85).trans (hp 3 (by decide));have e89:ρ (.tmp 89)=_:=(hρ 89).trans (hp 7 (by decide));clear hR hN hp hρ;go_light;go_simp;exact ⟨rfl,rfl⟩
        ·rfl
        intro vals γ w9 hR hG;have v0:vals 0=_:=hG 0 (by decide);have v1:vals 1=_:=hG 1 (by decide);have v2:vals 2=_:=hG 2 (by decide);have v3:vals 3=_:=hG 3 (by decide);have v4:vals 4=_:=hG 4 (by decide);have v5:vals 5=_:=hG 5 (by decide);have v6:vals 6=_:=hG 6 (by decide);have v7:vals 7=_:=hG 7 (by decide);have v8:vals 8=_:=hG 8 (by decide);simp only [lexFrame,Act.put,List.setIfInBounds_toArray,List.set_cons_succ,List.set_cons_zero,Nat.zero_add,Nat.reduceAdd,v0,v1,v2,v3,v4,v5,v6,v7,v8];clear v0 v1 v2 v3 v4 v5 v6 v7 v8;have HXM:=Hd (show Ext wa w9 from hR.ext0 (fun _ _ _ h=>h.elim));clear hR hG;have HXB:=Hd (HXA.o.trans HXM.o);go_wp2;go_roundw
        case rel=>exact ⟨j+1,by omega,by go_num,HXB.o⟩
        case measure=>simp [intOf]; omega
       ·obtain rfl:j=k:=by omega
        go_wp2;go_roundw
        case rel=>exact ⟨j+1,by omega,by go_num,HXO.o.trans HXA.o⟩
        case measure=>simp [intOf]; omega
     ·obtain rfl:k=nY:=by omega
      go_wp2;go_ret;exact ⟨by rw [HDE.o]; rfl,HXT.o.trans (HXZ.o.trans HXO.o)⟩
 ·have he0:(ep != 0)=true:=(by rw [bne_iff_ne]; exact h0);have HPE2:=Hd (show ∀ w':World,Ext ws w'→Calls Tryz.prog 56 #[.slice A n c,.int .i64 hz] w' (RetI w' ep) from fun w' hx=>HPE.o w' (HX0.o.trans hx));have HDE:=Hd (show decide (em=0)=false by rw [HEM.o,if_pos h0]; simpa using h0);clear h0;refine wp_region_chain (by kernel_rfl) (fun i=>[i]) (by kernel_rfl) (LZ (fun _ _=>False)) (LZ.refl _) (LZ.trans _) (LK []) gz0 (LK.zero _) ?_;apply Chain.pure (LZ.refl _) (by rfl)
  ·intro vals γ w' ρ hR hN hp hρ hc hf hg;refine ⟨rfl,?_⟩;have e0:=hρ 0;(conv at e0=>rhs; whnf);clear hR hN hp hρ;go_light;go_simp;exact ⟨rfl,rfl⟩
  ·rfl
  apply Chain.pure (LZ.refl _) (by rfl)
  ·intro vals γ w' ρ hR hN hp hρ hc hf hg;refine ⟨rfl,?_⟩;have e1:=hρ 1;(conv at e1=>rhs; whnf);clear hR hN hp hρ;go_light;go_simp;exact ⟨rfl,rfl⟩
  ·rfl
  refine Chain.step (FP fun v γ w'=>v=.int .i64 ep) (by rfl) (FP.stab ?_) ?_ ?_
  ·intro v γ w1 γ' w2 r h;exact h
  ·intro vals γ w' ρ hR hN hp hρ hc hf hg;refine ⟨rfl,?_⟩;have e13:ρ (.tmp 13)=_:=(hρ 13).trans (hp 0 (by decide));have e14:ρ (.tmp 14)=_:=(hρ 14).trans (hp 1 (by decide));have HR:=Hd hR;have hxx:=hR.ext0 (fun _ _ _ h=>h.elim);have HXQ:=Hd hxx;clear hxx hR hN hp hρ;go_light;go_simp;refine (HPE2.o w' HXQ.o).mono ?_;rintro e1 w3 ⟨he,hx⟩;exact ⟨_,he,γ,LZ.of_ext _ γ hx,fun _ _ _ h=>h,rfl⟩
  apply Chain.pure (LZ.refl _) (by rfl)
  ·intro vals γ w' ρ hR hN hp hρ hc hf hg;refine ⟨rfl,?_⟩;have e15:ρ (.tmp 15)=_:=(hρ 15).trans (hp 2 (by decide));clear hR hN hp hρ;go_light;go_simp;exact ⟨rfl,rfl⟩
  ·rfl
  apply Chain.pure (LZ.refl _) (by rfl)
  ·intro vals γ w' ρ hR hN hp hρ hc hf hg;refine ⟨rfl,?_⟩;have e16:ρ (.tmp 16)=_:=(hρ 16).trans (hp 3 (by decide));clear hR hN hp hρ;go_light;go_simp;exact ⟨rfl,rfl⟩
  ·rfl
  refine Chain.no (by rfl) (by rfl) ?_ ?_
  ·intro vals γ w' hp;show (boolOf (vals 4)==some false)=false;rw [show vals 4=.bool true from hp 4 (by decide)]; rfl
  refine Chain.no (by rfl) (by rfl) ?_ ?_
  ·intro vals γ w' hp;show (boolOf (vals 4)==some false)=false;rw [show vals 4=.bool true from hp 4 (by decide)]; rfl
  refine Chain.no (by rfl) (by rfl) ?_ ?_
  ·intro vals γ w' hp;show (boolOf (vals 4)==some false)=false;rw [show vals 4=.bool true from hp 4 (by decide)]; rfl
  refine Chain.no (by rfl) (by rfl) ?_ ?_
  ·intro vals γ w' hp;show (boolOf (vals 4)==some false)=false;rw [show vals 4=.bool true from hp 4 (by decide)]; rfl
  refine Chain.no (by rfl) (by rfl) ?_ ?_
  ·intro vals γ w' hp;show (boolOf (vals 4)==some false)=false;rw [show vals 4=.bool true from hp 4 (by decide)]; rfl
  apply Chain.pure (LZ.refl _) (by rfl)
  ·intro vals γ w' ρ hR hN hp hρ hc hf hg;refine ⟨rfl,?_⟩;have e17:ρ (.tmp 17)=_:=(hρ 17).trans (hp 4 (by decide));have e22:ρ (.tmp 22)=_:=(hρ 22).trans (hp 9 (by decide));clear hR hN hp hρ;go_light;go_simp;exact ⟨rfl,rfl⟩
  ·rfl
  apply Chain.pure (LZ.refl _) (by rfl)
  ·intro vals γ w' ρ hR hN hp hρ hc hf hg;refine ⟨rfl,?_⟩;have e23:ρ (.tmp 23)=_:=(hρ 23).trans (hp 10 (by decide));clear hR hN hp hρ;go_light;go_simp;exact ⟨rfl,rfl⟩
  ·rfl
  refine Chain.no (by rfl) (by rfl) ?_ ?_
  ·intro vals γ w' hp;show (boolOf (vals 11)==some false)=false;rw [show vals 11=.bool true from hp 11 (by decide)]; rfl
  refine Chain.no (by rfl) (by rfl) ?_ ?_
  ·intro vals γ w' hp;show (boolOf (vals 11)==some false)=false;rw [show vals 11=.bool true from hp 11 (by decide)]; rfl
  refine Chain.no (by rfl) (by rfl) ?_ ?_
  ·intro vals γ w' hp;show (boolOf (vals 11)==some false)=false;rw [show vals 11=.bool true from hp 11 (by decide)]; rfl
  refine Chain.no (by rfl) (by rfl) ?_ ?_
  ·intro vals γ w' hp;show (boolOf (vals 11)==some false)=false;rw [show vals 11=.bool true from hp 11 (by decide)]; rfl
  apply Chain.pure (LZ.refl _) (by rfl)
  ·intro vals γ w' ρ hR hN hp hρ hc hf hg;refine ⟨rfl,?_⟩;have e24:ρ (.tmp 24)=_:=(hρ 24).trans (hp 11 (by decide));have e28:ρ (.tmp 28)=_:=(hρ 28).trans (hp 15 (by decide));clear hR hN hp hρ;go_light;go_simp;exact ⟨rfl,rfl⟩
  ·rfl
  intro vals γ w9 hR hG;have v0:vals 0=_:=hG 0 (by decide);have v1:vals 1=_:=hG 1 (by decide);have v2:vals 2=_:=hG 2 (by decide);have v3:vals 3=_:=hG 3 (by decide);have v4:vals 4=_:=hG 4 (by decide);have v5:vals 5=_:=hG 5 (by decide);have v6:vals 6=_:=hG 6 (by decide);have v7:vals 7=_:=hG 7 (by decide);have v8:vals 8=_:=hG 8 (by decide);have v9:vals 9=_:=hG 9 (by decide);have v10:vals 10=_:=hG 10 (by decide);have v11:vals 11=_:=hG 11 (by decide);have v12:vals 12=_:=hG 12 (by decide);have v13:vals 13=_:=hG 13 (by decide);have v14:vals 14=_:=hG 14 (by decide);have v15:vals 15=_:=hG 15 (by decide);have v16:vals 16=_:=hG 16 (by decide);simp only [lexFrame,Act.put,List.setIfInBounds_toArray,List.set_cons_succ,List.set_cons_zero,Nat.zero_add,Nat.reduceAdd,v0,v1,v2,v3,v4,v5,v6,v7,v8,v9,v10,v11,v12,v13,v14,v15,v16];clear v0 v1 v2 v3 v4 v5 v6 v7 v8 v9 v10 v11 v12 v13 v14 v15 v16;have HXN:=Hd (show Ext ws w9 from hR.ext0 (fun _ _ _ h=>h.elim));clear hR hG;go_wp2;go_ret;exact ⟨by rw [HDE.o]; rfl,HX0.o.trans HXN.o⟩
/- The reference's Made: its rows are the caller's own. Conditions: the numbers read as data. -/

def RetMw (w:World) (N:Nat) (e:Ending) (w':World):Prop:=∃ (L:List (List Val)) (A:Option Addr) (c:Nat),e=.returned (.slice A L.length c)∧(∀ r∈L,∀ x∈r,IsV x)∧Wide L N∧L.length≤12∧OwnRR w' w.heap.size (fun _=>False) 1 A c L∧Ext w w'
def MwOut (w:World) (N n:Nat) (v i:Value) (wr:World):Prop:=∃ (k:Nat) (A':Option Addr) (c':Nat) (L:List (List Val)),k≤n∧k≤12∧i=.int .i64 (k:Int)∧v=.slice A' k c'∧L.length=k∧(∀ r∈L,∀ x∈r,IsV x)∧Wide L (min N 10)∧Ext w wr∧OwnRR wr w.heap.size (fun _=>False) 1 A' c' L
set_option maxRecDepth 100000 in
set_option maxHeartbeats 2000000 in
theorem r25_MadeW (l:List (List Int)) (A:Option Addr) (c:Nat) (w:World) (S:Nat→Prop) (h:II w S A l):Calls Tryz.prog 13 #[.slice A l.length c] w (RetMw w (min (hdI l) 10)):=by
 have HI:=Hd h;have hll:=h.1;obtain ⟨n,en⟩:∃ n,n=l.length:=⟨_,rfl⟩;have HN:=Hd en;rw [← en] at hll ⊢;obtain ⟨N,eN⟩:∃ N,N=hdI l:=⟨_,rfl⟩;have HNN:=Hd eN;rw [← eN];clear h en eN
 go_enter Tryz.func13,Tryz.ntmps13
 go_wp2
 go_loopw [3,4,5,6,7] (fun v i _u5 _u6 _u7 wr=>MwOut w N n v i wr) (fun _ i _ _ _ _=>n-(intOf i).toNat)
 case atStart=>exact ⟨0,none,0,[],Nat.zero_le _,Nat.zero_le _,rfl,rfl,rfl,by simp,(by intro r hr; cases hr),Ext.refl _,OwnRR.nil _ _ _ _ (Nat.le_refl _)⟩
 case round =>
  obtain ⟨k,A',c',L,hk,hk12,rfl,rfl,hLL,hvc,hwd,hx,ho⟩:=hrel;have HLL:=Hd hLL;have HVC:=Hd hvc;have HWD:=Hd hwd;have HX:=Hd hx;have HO:=Hd ho;clear hLL hvc hwd hx ho;by_cases hlt:k<n
  ·by_cases h12:k<12
   ·have hn0:(0:Int)<(n:Int):=(by omega);have hn1:0<n:=(by omega);go_wp2;obtain ⟨wo,rfl⟩:∃ wo:World,wo=wr:=⟨_,rfl⟩
    go_loopw [5,6,7] (fun v j _u wi=>MdIn wo N v j wi) (fun _ j _ _=>N-(intOf j).toNat)
    case atStart=>exact ⟨0,none,0,[],Nat.zero_le _,Nat.zero_le _,rfl,rfl,rfl,by simp,Ext.refl _,OwnVs.nil _ _ _ _⟩
    case round =>
     obtain ⟨m,A2,c2,l2,hm,hm10,rfl,rfl,hl2,hv2,hbi,hoi⟩:=hrel;have HL2:=Hd hl2;have HV2:=Hd hv2;have HBI:=Hd hbi;have HOI:=Hd hoi;clear hl2 hv2 hbi hoi;have hx2:=HX.o.trans HBI.o;have hsz0:=HX.o.size;have hsz1:=HBI.o.size;obtain ⟨b0,o0,B0,e0,rfl,_,hc0,hr0,hr0z⟩:=(HI.o.keep (hx2.kept _)).at_ (k:=0) (by rw [← HN.o]; exact hn1);rw [Nat.add_zero,hdI_at (by rw [← HN.o]; exact hn1),← HNN.o] at hc0;rw [hdI_at (by rw [← HN.o]; exact hn1),← HNN.o] at hr0z;obtain ⟨b1,o1,B1,e1,eA,_,hc1,hr1,hr1z⟩:=(HI.o.keep (hx2.kept _)).at_ (k:=k) (by rw [← HN.o]; exact hlt);injection eA with eA;injection eA with eb eo _;subst eb eo;obtain ⟨rk,erk⟩:∃ r,r=l[k]'(by rw [← HN.o]; exact hlt):=⟨_,rfl⟩;rw [← erk] at hc1 hr1 hr1z;have HR1:=Hd hr1;clear hr0 hr1 hx2 erk;by_cases hlt2:m<N
     ·by_cases hm1:m<10
      ·by_cases hin:m<rk.length
       ·obtain ⟨b3,o3,rfl,_,hc3⟩:=HR1.o.at_ (k:=m) (u:=.int .i64 rk[m]) (by simp [hin]);obtain ⟨z,ez⟩:∃ z,z=rk[m]:=⟨_,rfl⟩;rw [← ez] at hc3;clear ez
        go_wp2_with fail
        refine (r25_ValueV _ _).mono ?_;rintro e3 w3 ⟨yk,ys,ya,yb,yn,hy,rfl,hx3⟩;have HX3:=Hd hx3;have HY:=Hd hy;have hz3:=hx3.size;obtain ⟨xs,hown,hvl⟩:=HOI.o.ext (HX3.o.alloc (.cells (vcells ⟨yk,ys,ya,yb,yn,[],[]⟩ none 0 none 0).toArray 47));rw [HL2.o] at hown;have HOWN:=Hd hown;have HVL:=Hd hvl;clear hvl hown hx3 hy
        go_wp2_with (at_builtin; go_must (refine wpList_app rfl (.tmp 44) (.tmp 47) rfl tiV rfl HOWN.o rfl (Blk.rd (Blk.new _ _ _)) rfl (by simp [Value.oneCell']) (by omega) (by decide) (by simp; omega) ?_); intro A4 c4 w4 hown4 hg4 hat4)
        go_roundw
        case rel =>
         refine ⟨m+1,A4,c4,l2++[⟨yk,ys,ya,yb,yn,[],[]⟩],by omega,by omega,by go_num,rfl,by simp [HL2.o],?_,?_,?_⟩
         ·intro x hx
          rcases List.mem_append.1 hx with hx | hx
          ·exact HV2.o x hx
          ·simp at hx; subst hx; exact HY.o
         ·exact ((HBI.o.trans HX3.o).alloc _).grown hg4 (fun k hk=>(HOWN.o.blk hk).1)
         ·exact OwnVs.push HVL.o (by rw [HL2.o]; exact hown4) hg4 hat4 ⟨by decide,Nat.zero_le _,Nat.zero_le _⟩ (flat_rv _ _ _ _ _ _ _ _ HY.o.size _ _)
        case measure=>simp [intOf]; omega
       ·go_wp2_with fail
        refine (r25_ValueV _ _).mono ?_;rintro e3 w3 ⟨yk,ys,ya,yb,yn,hy,rfl,hx3⟩;have HX3:=Hd hx3;have HY:=Hd hy;have hz3:=hx3.size;obtain ⟨xs,hown,hvl⟩:=HOI.o.ext (HX3.o.alloc (.cells (vcells ⟨yk,ys,ya,yb,yn,[],[]⟩ none 0 none 0).toArray 47));rw [HL2.o] at hown;have HOWN:=Hd hown;have HVL:=Hd hvl;clear hvl hown hx3 hy
        go_wp2_with (at_builtin; go_must (refine wpList_app rfl (.tmp 44) (.tmp 47) rfl tiV rfl HOWN.o rfl (Blk.rd (Blk.new _ _ _)) rfl (by simp [Value.oneCell']) (by omega) (by decide) (by simp; omega) ?_); intro A4 c4 w4 hown4 hg4 hat4)
        go_roundw
        case rel =>
         refine ⟨m+1,A4,c4,l2++[⟨yk,ys,ya,yb,yn,[],[]⟩],by omega,by omega,by go_num,rfl,by simp [HL2.o],?_,?_,?_⟩
         ·intro x hx
          rcases List.mem_append.1 hx with hx | hx
          ·exact HV2.o x hx
          ·simp at hx; subst hx; exact HY.o
         ·exact ((HBI.o.trans HX3.o).alloc _).grown hg4 (fun k hk=>(HOWN.o.blk hk).1)
         ·exact OwnVs.push HVL.o (by rw [HL2.o]; exact hown4) hg4 hat4 ⟨by decide,Nat.zero_le _,Nat.zero_le _⟩ (flat_rv _ _ _ _ _ _ _ _ HY.o.size _ _)
        case measure=>simp [intOf]; omega
      ·have HE2:=Hd (show m=min N 10 by omega);have hrow3:Row wr (fun b=>wo.heap.size≤b) 1 A2 l2:=HOI.o.row (by rw [HL2.o]; omega) (fun b hb=>(HOI.o.blk hb).1) (fun b hb=>hb);have HCAP:=Hd (show m≤c2 by obtain ⟨xs0,ho0,_⟩:=HOI.o; have:=ho0.cap; rw [HL2.o] at this; exact this);have HXA:=Hd (HBI.o.trans ((Ext.refl wr).alloc (.cells #[.slice A2 m c2] 42)));obtain ⟨hs,cut,hown0,hmon,hbase,htop,h5⟩:=HO.o;have hown:=hown0.ext HXA.o;have hvl:=HOI.o.ext ((Ext.refl wr).alloc (.cells #[.slice A2 m c2] 42));have HH5:=Hd (show ∀ (i:Nat) (r:List Val),L[i]?=some r→_ from fun i r hr=>by obtain ⟨B,e,g1,g2,g3⟩:=h5 i r hr; exact (⟨B,e,g1,g2.ext HXA.o,g3⟩:∃ (B:Option Addr) (e:Nat),hs[i]?=some (Value.slice B r.length e)∧OwnVs (wr.alloc (.cells #[.slice A2 m c2] 42)) (cut i) (fun b=>cut i≤b∧b<cut (i+1)∧ob A'≠some b∧¬ (fun _=>False) b) 1 B e r∧∀ b,ob B=some b→b<cut (i+1)∧ob A'≠some b∧¬ (fun _=>False) b));have HMB:=Hd (And.intro hmon (And.intro hbase htop));have HHS:=Hd (show hs.length=L.length by have:=hown.len; omega);rw [HLL.o] at hown;have HOWN:=Hd hown;have HVL:=Hd hvl;have HROW3:=Hd (hrow3.keep (Kept.alloc _ wr (.cells #[.slice A2 m c2] 42)));clear hvl hown hrow3 hown0 hmon hbase htop h5
       go_wp2_with (at_builtin; go_must (refine wpList_app rfl (.tmp 49) (.tmp 51) rfl tiR rfl HOWN.o rfl (Blk.rd (Blk.new _ _ _)) rfl (by simp [Value.oneCell']) (by omega) (by decide) (by simp; omega) ?_); intro A4 c4 w4 hown4 hg4 hat4)
       go_roundw
       case rel =>
        refine ⟨k+1,A4,c4,L++[l2],by omega,by omega,by go_num,rfl,by simp [HLL.o],?_,?_,?_,?_⟩
        ·intro r hr
         rcases List.mem_append.1 hr with hr | hr
         ·exact HVC.o r hr
         ·simp at hr; subst hr; exact HV2.o
        ·intro r hr
         rcases List.mem_append.1 hr with hr | hr
         ·exact HWD.o r hr
         ·simp at hr; subst hr; rw [HL2.o]; exact HE2.o
        ·exact (HX.o.trans HXA.o).grown hg4 (fun k hk=>(HOWN.o.blk hk).1)
        ·exact OwnRR.push (lo:=wo.heap.size) HMB.o.2.2 (by have:=HBI.o.size; simp; omega) HMB.o.1 HMB.o.2.1 HHS.o (fun b hb=>HO.o.blk hb) (fun b h=>h.elim) HH5.o HVL.o (by rw [HLL.o,HL2.o]; exact hown4) hg4 hat4
       case measure=>simp [intOf]; omega
     ·have HE2:=Hd (show m=min N 10 by omega);have hrow3:Row wr (fun b=>wo.heap.size≤b) 1 A2 l2:=HOI.o.row (by rw [HL2.o]; omega) (fun b hb=>(HOI.o.blk hb).1) (fun b hb=>hb);have HCAP:=Hd (show m≤c2 by obtain ⟨xs0,ho0,_⟩:=HOI.o; have:=ho0.cap; rw [HL2.o] at this; exact this);have HXA:=Hd (HBI.o.trans ((Ext.refl wr).alloc (.cells #[.slice A2 m c2] 42)));obtain ⟨hs,cut,hown0,hmon,hbase,htop,h5⟩:=HO.o;have hown:=hown0.ext HXA.o;have hvl:=HOI.o.ext ((Ext.refl wr).alloc (.cells #[.slice A2 m c2] 42));have HH5:=Hd (show ∀ (i:Nat) (r:List Val),L[i]?=some r→_ from fun i r hr=>by obtain ⟨B,e,g1,g2,g3⟩:=h5 i r hr; exact (⟨B,e,g1,g2.ext HXA.o,g3⟩:∃ (B:Option Addr) (e:Nat),hs[i]?=some (Value.slice B r.length e)∧OwnVs (wr.alloc (.cells #[.slice A2 m c2] 42)) (cut i) (fun b=>cut i≤b∧b<cut (i+1)∧ob A'≠some b∧¬ (fun _=>False) b) 1 B e r∧∀ b,ob B=some b→b<cut (i+1)∧ob A'≠some b∧¬ (fun _=>False) b));have HMB:=Hd (And.intro hmon (And.intro hbase htop));have HHS:=Hd (show hs.length=L.length by have:=hown.len; omega);rw [HLL.o] at hown;have HOWN:=Hd hown;have HVL:=Hd hvl;have HROW3:=Hd (hrow3.keep (Kept.alloc _ wr (.cells #[.slice A2 m c2] 42)));clear hvl hown hrow3 hown0 hmon hbase htop h5
      go_wp2_with (at_builtin; go_must (refine wpList_app rfl (.tmp 49) (.tmp 51) rfl tiR rfl HOWN.o rfl (Blk.rd (Blk.new _ _ _)) rfl (by simp [Value.oneCell']) (by omega) (by decide) (by simp; omega) ?_); intro A4 c4 w4 hown4 hg4 hat4)
      go_roundw
      case rel =>
       refine ⟨k+1,A4,c4,L++[l2],by omega,by omega,by go_num,rfl,by simp [HLL.o],?_,?_,?_,?_⟩
       ·intro r hr
        rcases List.mem_append.1 hr with hr | hr
        ·exact HVC.o r hr
        ·simp at hr; subst hr; exact HV2.o
       ·intro r hr
        rcases List.mem_append.1 hr with hr | hr
        ·exact HWD.o r hr
        ·simp at hr; subst hr; rw [HL2.o]; exact HE2.o
       ·exact (HX.o.trans HXA.o).grown hg4 (fun k hk=>(HOWN.o.blk hk).1)
       ·exact OwnRR.push (lo:=wo.heap.size) HMB.o.2.2 (by have:=HBI.o.size; simp; omega) HMB.o.1 HMB.o.2.1 HHS.o (fun b hb=>HO.o.blk hb) (fun b h=>h.elim) HH5.o HVL.o (by rw [HLL.o,HL2.o]; exact hown4) hg4 hat4
      case measure=>simp [intOf]; omega
   ·go_wp2;go_ret;exact ⟨L,A',c',by rw [HLL.o]; rfl,HVC.o,HWD.o,by rw [HLL.o]; omega,HO.o,HX.o⟩
  ·go_wp2;go_ret;exact ⟨L,A',c',by rw [HLL.o]; rfl,HVC.o,HWD.o,by rw [HLL.o]; omega,HO.o,HX.o⟩
/- Answers that are changed: when they are right, and that their values are in one order. No conditions. -/

def nine:Val:=⟨9,⟨#[]⟩,0,0,0,[],[]⟩
theorem flat_nine:flatB nine=false:=by kernel_rfl
def valW (m:Nat):Val:=if m<6 then valS (m:Int) else if m=6 then Val.zero else nine
theorem valW_all:((List.range 7).all fun i=>(List.range 7).all fun j=>lessF (valW i) (valW j) || lessF (valW j) (valW i) || decide (valW i=valW j))=true:=by kernel_rfl
theorem valW_kinds:((List.range 8).all fun i=>decide ((valW i).kind≠5))=true:=by kernel_rfl
def IsW (x:Val):Prop:=∃ m:Nat,m<8∧x=valW m
theorem IsV.isW {x:Val} (h:IsV x):IsW x:=by
 obtain ⟨m,hm,rfl⟩:=h;exact ⟨m,by omega,by unfold valW; rw [if_pos hm]⟩
theorem isW_zero:IsW Val.zero:=⟨6,by decide,rfl⟩
theorem isW_nine:IsW nine:=⟨7,by decide,rfl⟩
theorem rightA_flat {l:List (List Val)} (h:rightA l=true):∀ r∈l,∀ x∈r,flatB x=true:=by
 intro r hr x hx;unfold rightA at h;have h1:=List.all_eq_true.1 h r hr;rw [Bool.and_eq_true] at h1;exact List.all_eq_true.1 h1.2 x hx
theorem isW_noT {L:List (List Val)} (h:∀ r∈L,∀ x∈r,IsW x):NoT L:=by
 intro r hr x hx;obtain ⟨m,hm,rfl⟩:=h r hr x hx;have:=List.all_eq_true.1 valW_kinds m (List.mem_range.2 hm)
 simpa using this
theorem isW_tri {L:List (List Val)} (h:∀ r∈L,∀ x∈r,IsW x) (hR:rightA L=true):Tri L:=by
 intro r hr x hx r' hr' y hy h1 h2;have fx:=rightA_flat hR r hr x hx;have fy:=rightA_flat hR r' hr' y hy;obtain ⟨i,hi,rfl⟩:=h r hr x hx;obtain ⟨j,hj,rfl⟩:=h r' hr' y hy;have h7:i<7∧j<7:=by
  refine ⟨?_,?_⟩
  ·rcases Nat.lt_or_ge i 7 with hlt | hge
   ·exact hlt
   ·have e:i=7:=(by omega);subst e;rw [show valW 7=nine from rfl,flat_nine] at fx;cases fx
  ·rcases Nat.lt_or_ge j 7 with hlt | hge
   ·exact hlt
   ·have e:j=7:=(by omega);subst e;rw [show valW 7=nine from rfl,flat_nine] at fy;cases fy
 have h3:=List.all_eq_true.1 (List.all_eq_true.1 valW_all i (List.mem_range.2 h7.1)) j (List.mem_range.2 h7.2);rw [h1,h2] at h3
 simpa using h3
theorem groups_eqR {L:List (List Val)} (hT:rightA L=true→Tri L) (al:List Int) (i:Int):groupsR L al i=groupsS L al i:=by
 cases hR:rightA L
 ·unfold groupsR groupsS;rw [if_pos (.inl hR),if_pos (.inl hR)]
 ·exact groups_eq (hT hR) al i
theorem useful_eqR {L:List (List Val)} (hT:rightA L=true→Tri L):usefulR L=usefulS L:=by
 cases hR:rightA L
 ·unfold usefulR usefulS;rw [if_neg (by rw [hR]; simp),List.filter_eq_nil_iff];intro m _;rw [groupsR,if_pos (.inl hR)];simp
 ·exact useful_eq (hT hR)
/- Rows of zero values, made by the program. No conditions but bounds on the sizes. -/

def zeroRow (n:Nat):Array Value:=madeCells #[.int .i64 0,.string ⟨#[]⟩,.int .i64 0,.int .i64 0,.int .i64 0,.slice none 0 0,.slice none 0 0] (n*7)
theorem run_mkV (n:Nat) (hn:n≤1000000):∀ w:World,(Instr.makeSlice 42 (.int .i64 (n:Int)) (.int .i64 (n:Int))).run Tryz.prog w=.ok (.slice (some ⟨w.heap.size,0,none⟩) n n) (w.alloc (.cells (zeroRow n) 47)):=by
 intro w;obtain ⟨i0,h1,h2,h3,h4⟩:=info_parts infoV;have hr:=run_make (P:=Tryz.prog) w 42 47 i0 _ Tryz.underlying42 h1 h2 .i64 .i64 n n (by omega) (by omega) (by rw [h4]; omega) (by omega);rw [h3,Int.toNat_natCast] at hr;exact hr
theorem zeroRow_toList (n:Nat):(zeroRow n).toList=(List.replicate n Val.zero).flatMap fun y=>vcells y none 0 none 0:=by
 apply List.ext_getElem?;intro i;have hv:∀ m:Nat,((List.replicate m Val.zero).flatMap fun y=>vcells y none 0 none 0).length=m*7:=by
  intro m
  induction m with
  | zero=>rfl
  | succ m ih=>simp [List.replicate_succ,vcells]; omega
 have key:∀ (m i:Nat),i<m*7→((List.replicate m Val.zero).flatMap fun y=>vcells y none 0 none 0)[i]?=(vcells Val.zero none 0 none 0)[i % 7]?:=by
  intro m
  induction m with
  | zero=>intro i hi; omega
  | succ m ih =>
   intro i hi;simp only [List.replicate_succ,List.flatMap_cons]
   rcases Nat.lt_or_ge i 7 with h | h
   ·rw [List.getElem?_append_left (by simpa [vcells] using h),Nat.mod_eq_of_lt h]
   ·rw [List.getElem?_append_right (by simpa [vcells] using h)];have h7:(vcells Val.zero none 0 none 0).length=7:=rfl;rw [h7,ih (i-7) (by omega)];congr 1;omega
 rcases Nat.lt_or_ge i (n*7) with h | h
 ·rw [key n i h];have:i % 7<7:=Nat.mod_lt _ (by decide);simp only [zeroRow,madeCells,Array.toList_map,List.getElem?_map,Array.toList_range,List.getElem?_range h,Option.map_some];generalize i % 7=j at this ⊢
  match j,this with
  | 0,_=>rfl
  | 1,_=>rfl
  | 2,_=>rfl
  | 3,_=>rfl
  | 4,_=>rfl
  | 5,_=>rfl
  | 6,_=>rfl
  | j+7,h=>omega
 ·rw [List.getElem?_eq_none (by simpa [zeroRow,madeCells] using h),List.getElem?_eq_none (by rw [hv]; exact h)]
theorem OwnVs.zeros (w:World) (n d:Nat) (hd:0<d) (hn:n≤1000000):OwnVs (w.alloc (.cells (zeroRow n) 47)) w.heap.size (fun b=>w.heap.size≤b) d (some ⟨w.heap.size,0,none⟩) n (List.replicate n Val.zero):=by
 have hl:(zeroRow n).size=n*7:=(by simp [zeroRow,madeCells]);refine ⟨(zeroRow n).toList,⟨by simp [hl],.inr ⟨w.heap.size,n,zeroRow n,by simp,Nat.le_refl _,heap_alloc_new w _,by simp,by unfold maxLen; omega,hl,?_⟩⟩,?_⟩
 ·rw [List.length_replicate]; exact List.take_of_length_le (by simp [hl])
 ·rw [zeroRow_toList];exact VL.flat hd _ fun y hy=>by rw [List.mem_replicate] at hy; rw [hy.2]; exact ⟨rfl,rfl,Nat.zero_le _⟩

/- A copy of questions, the lists of one of them apart. No conditions. -/

def Plain (l:List Val):Prop:=∀ y∈l,y.cols=[]∧y.rows=[]
theorem cseg_ne (xs:List Value) (v:Value) {i j t:Nat} (h:i≠j) (ht:t<7):((xs.set (j*7+t) v).drop (i*7)).take 7=(xs.drop (i*7)).take 7:=by
 rw [List.drop_set];split
 ·rfl
 ·rw [List.take_set,List.set_eq_of_length_le (by simp; omega)]
theorem cseg_eq (xs:List Value) (v:Value) (j t:Nat):((xs.set (j*7+t) v).drop (j*7)).take 7=((xs.drop (j*7)).take 7).set t v:=by
 rw [List.drop_set,if_neg (by omega),List.take_set,Nat.add_sub_cancel_left]
theorem clist7 {xs:List Value} (h:xs.length=7) (a0 a1 a2 a3 a4 a5 a6:Value):((((((xs.set 0 a0).set 1 a1).set 2 a2).set 3 a3).set 4 a4).set 5 a5).set 6 a6=[a0,a1,a2,a3,a4,a5,a6]:=by
 match xs,h with
 | [_,_,_,_,_,_,_],_=>rfl
def set7 (w:World) (g j:Nat) (x:Val) (A1:Option Addr) (c1:Nat) (B1:Option Addr) (e1:Nat):World :=
 ((((((w.setCell ⟨g,j*7,none⟩ (.int .i64 x.kind)).setCell ⟨g,j*7+1,none⟩ (.string x.s)).setCell ⟨g,j*7+2,none⟩ (.int .i64 x.dn)).setCell ⟨g,j*7+3,none⟩ (.int .i64 x.ds)).setCell ⟨g,j*7+4,none⟩ (.int .i64 x.n)).setCell ⟨g,j*7+5,none⟩ (.slice A1 x.cols.length c1)).setCell ⟨g,j*7+6,none⟩ (.slice B1 x.rows.length e1)
structure CpK (w:World) (base d k:Nat) (Y:List AskD) (A:Option Addr) (c:Nat) (B:Option Addr) (e:Nat) (C:Option Addr) (f:Nat) (xs:List Value):Prop where
 own:Own w base 59 3 A Y.length c xs
 oth:∀ j t,j≠k→Y[j]?=some t→CA w (fun b=>base≤b∧ob A≠some b∧ob B≠some b∧ob C≠some b) d t ((xs.drop (j*3)).take 3)
 one:∀ t,Y[k]?=some t→(xs.drop (k*3)).take 3=acells t B e C f∧OwnVs w base FF d B e t.2.1∧OwnIs w base C f t.2.2
 no:Y.length≤k→B=none∧C=none
 nb:∀ b,ob B=some b→base≤b∧b<w.heap.size∧ob A≠some b∧ob C≠some b
 nc:∀ b,ob C=some b→base≤b∧b<w.heap.size∧ob A≠some b
section
variable {w w':World} {base d k:Nat} {Y:List AskD} {A:Option Addr} {c:Nat} {B:Option Addr} {e:Nat} {C:Option Addr} {f:Nat} {xs:List Value}
theorem CpK.nil (w:World) (base d k:Nat):CpK w base d k [] none 0 none 0 none 0 [] :=
 ⟨Own.nil _ _ _ _,by simp,by simp,fun _=>⟨rfl,rfl⟩,fun b h=>by simp [ob] at h,fun b h=>by simp [ob] at h⟩
theorem CpK.keep (h:CpK w base d k Y A c B e C f xs) (hk:Kept (fun b=>base≤b) w w'):CpK w' base d k Y A c B e C f xs:=by
 refine ⟨h.own.keep (hk.mono fun b _ e=>(h.own.blk e).1),fun j t hj ht=>(h.oth j t hj ht).keep (hk.mono fun b _ e=>e.1),fun t ht => ?_,h.no,fun b hb => ?_,fun b hb => ?_⟩
 ·obtain ⟨h1,h2,h3⟩:=h.one t ht;exact ⟨h1,h2.fkeep (hk.mono fun b _ e=>(h2.blk e).1),Own.keep h3 (hk.mono fun b _ e=>(Own.blk h3 e).1)⟩
 ·have:=h.nb b hb; exact ⟨this.1,Nat.lt_of_lt_of_le this.2.1 hk.1,this.2.2⟩
 ·have:=h.nc b hb; exact ⟨this.1,Nat.lt_of_lt_of_le this.2.1 hk.1,this.2.2⟩
theorem CpK.ext (h:CpK w base d k Y A c B e C f xs) (hx:Ext w w'):CpK w' base d k Y A c B e C f xs:=h.keep (hx.kept _)
theorem CpK.len (h:CpK w base d k Y A c B e C f xs):xs.length=Y.length*3:=h.own.1
theorem CpK.push {w9:World} {A':Option Addr} {c':Nat} {t:AskD} {B' C':Option Addr} {e' f':Nat} (h:CpK w base d k Y A c B e C f xs) (hw:Kept (fun b=>base≤b∧ob A≠some b) w w9) (hlo:base≤w.heap.size)
  (hB:OwnVs w9 w.heap.size FF d B' e' t.2.1) (hC:OwnIs w9 w.heap.size C' f' t.2.2) (hl1:t.2.1.length≤4294967296) (hl2:t.2.2.length≤4294967296)
  (hBC:∀ b,ob B'=some b→ob C'≠some b) (hown:Own w9 base 59 3 A' (Y.length+1) c' (xs++acells t B' e' C' f'))
  (hat:∀ b,ob A'=some b→(ob A=some b∨w.heap.size≤b)∧ob B'≠some b∧ob C'≠some b):∃ B2 e2 C2 f2,CpK w9 base d k (Y++[t]) A' c' B2 e2 C2 f2 (xs++acells t B' e' C' f'):=by
 have hxl:=h.len;have hs:=hw.1;have ha:∀ b,ob A=some b→b<w.heap.size:=fun b e=>(h.own.blk e).2;have hb':∀ b,ob B'=some b→w.heap.size≤b∧b<w9.heap.size:=fun b e=>hB.blk e;have hc':∀ b,ob C'=some b→w.heap.size≤b∧b<w9.heap.size:=fun b e=>Own.blk hC e;have hA':∀ b,b<w.heap.size→ob A≠some b→ob A'≠some b:=fun b hb hn e2=>by
  rcases (hat b e2).1 with e3 | e3
  ·exact hn e3
  ·omega
 have old:∀ (j:Nat) (t':AskD),j<Y.length→(Y++[t])[j]?=some t'→Y[j]?=some t'∧(((xs++acells t B' e' C' f').drop (j*3)).take 3=(xs.drop (j*3)).take 3):=by
  intro j t' hj ht;rw [List.getElem?_append_left hj] at ht;exact ⟨ht,by rw [List.drop_append_of_le_length (by omega),List.take_append_of_le_length (by simp; omega)]⟩
 have new:((xs++acells t B' e' C' f').drop (Y.length*3)).take 3=acells t B' e' C' f':=by
  rw [← hxl,List.drop_left]; rfl
 have hlast:∀ (j:Nat) (t':AskD),¬ j<Y.length→(Y++[t])[j]?=some t'→j=Y.length∧t'=t:=by
  intro j t' hj ht;have hjl:=(List.getElem?_eq_some_iff.1 ht).1;simp at hjl;have hje:j=Y.length:=(by omega);subst hje;simp at ht;exact ⟨rfl,ht.symm⟩
 by_cases hk:k=Y.length
 ·subst hk;obtain ⟨rfl,rfl⟩:=h.no (Nat.le_refl _);refine ⟨B',e',C',f',by rw [List.length_append]; exact hown,fun j t' hj ht => ?_,fun t' ht => ?_,fun hl => ?_,fun b hb => ?_,fun b hb => ?_⟩
  ·by_cases hjl:j<Y.length
   ·obtain ⟨h1,h2⟩:=old j t' hjl ht;rw [h2];refine (((h.oth j t' hj h1).mono (T:=fun b=>(base≤b∧ob A≠some b)∧b<w.heap.size) fun b hb e=>⟨⟨e.1,e.2.1⟩,hb⟩).keep (hw.mono fun b _ e=>e.1)).mono fun b _ e=>⟨e.1.1,hA' b e.2 e.1.2,fun e2 => ?_,fun e2 => ?_⟩
    ·have:=hb' b e2; omega
    ·have:=hc' b e2; omega
   ·exact absurd (hlast j t' hjl ht).1 hj
  ·obtain ⟨-,rfl⟩:=hlast _ _ (Nat.lt_irrefl _) ht;exact ⟨new,hB.lower hlo,Own.lower hC hlo⟩
  ·simp at hl; omega
  ·exact ⟨by have:=(hb' b hb).1; omega,(hb' b hb).2,fun e=>(hat b e).2.1 hb,hBC b hb⟩
  ·exact ⟨by have:=(hc' b hb).1; omega,(hc' b hb).2,fun e=>(hat b e).2.2 hb⟩
 ·refine ⟨B,e,C,f,by rw [List.length_append]; exact hown,fun j t' hj ht => ?_,fun t' ht => ?_,fun hl=>h.no (by simp at hl; omega),fun b hb => ?_,fun b hb => ?_⟩
  ·by_cases hjl:j<Y.length
   ·obtain ⟨h1,h2⟩:=old j t' hjl ht;rw [h2];exact (((h.oth j t' hj h1).mono (T:=fun b=>(base≤b∧ob A≠some b∧ob B≠some b∧ob C≠some b)∧b<w.heap.size) fun b hb e=>⟨e,hb⟩).keep (hw.mono fun b _ e=>⟨e.1.1,e.1.2.1⟩)).mono fun b _ e=>⟨e.1.1,hA' b e.2 e.1.2.1,e.1.2.2⟩
   ·obtain ⟨rfl,rfl⟩:=hlast j t' hjl ht;rw [new];refine ⟨B',e',C',f',rfl,⟨by obtain ⟨_,h1,_⟩:=hB; exact Own.cap h1,by simpa using Own.cap hC⟩,hB.row hl1 (fun b hb=>⟨?_,fun e=>(hat b e).2.1 hb,fun e => ?_,fun e => ?_⟩) fun b hb=>hb.elim,OwnIs.ints hC hl2 fun b hb=>⟨?_,fun e=>(hat b e).2.2 hb,fun e => ?_,fun e => ?_⟩⟩
    ·have:=(hb' b hb).1; omega
    ·have:=(hb' b hb).1; have:=(h.nb b e).2.1; omega
    ·have:=(hb' b hb).1; have:=(h.nc b e).2.1; omega
    ·have:=(hc' b hb).1; omega
    ·have:=(hc' b hb).1; have:=(h.nb b e).2.1; omega
    ·have:=(hc' b hb).1; have:=(h.nc b e).2.1; omega
  ·by_cases hkl:k<Y.length
   ·obtain ⟨h1,h2⟩:=old k t' hkl ht;obtain ⟨g1,g2,g3⟩:=h.one t' h1;exact ⟨by rw [h2]; exact g1,g2.fkeep (hw.mono fun b _ e=>⟨(h.nb b e).1,(h.nb b e).2.2.1⟩),Own.keep g3 (hw.mono fun b _ e=>⟨(h.nc b e).1,(h.nc b e).2.2⟩)⟩
   ·exact absurd (hlast k t' hkl ht).1 hk
  ·obtain ⟨h1,h2,h3,h4⟩:=h.nb b hb;exact ⟨h1,by omega,hA' b h2 h3,h4⟩
  ·obtain ⟨h1,h2,h3⟩:=h.nc b hb;exact ⟨h1,by omega,hA' b h2 h3⟩
theorem CpK.as_ (h:CpK w base d k Y A c B e C f xs) (hl:Y.length≤4294967296) (hl2:∀ t∈Y,t.2.1.length≤4294967296∧t.2.2.length≤4294967296):AS w (fun b=>base≤b) d A Y:=by
 refine ⟨hl,xs,h.own.rd.mono fun b _ e=>(h.own.blk e).1,h.len,fun j t ht => ?_⟩;by_cases hj:j=k
 ·subst hj;obtain ⟨h1,h2,h3⟩:=h.one t ht;have hb:=hl2 t (List.mem_of_getElem? ht);rw [h1];exact ⟨B,e,C,f,rfl,⟨by obtain ⟨_,h1,_⟩:=h2; exact Own.cap h1,by simpa using Own.cap h3⟩,h2.row hb.1 (fun b e=>(h2.blk e).1) fun b e=>e.elim,OwnIs.ints h3 hb.2 fun b e=>(Own.blk h3 e).1⟩
 ·exact (h.oth j t hj ht).mono fun b _ e=>e.1
theorem CpK.lower {base':Nat} (h:CpK w base d k Y A c B e C f xs) (hb:base'≤base):CpK w base' d k Y A c B e C f xs:=by
 refine ⟨h.own.lower hb,fun j t hj ht=>(h.oth j t hj ht).mono fun b _ e=>⟨by omega,e.2⟩,fun t ht => ?_,h.no,fun b e=>⟨by have:=(h.nb b e).1; omega,(h.nb b e).2⟩,fun b e=>⟨by have:=(h.nc b e).1; omega,(h.nc b e).2⟩⟩;obtain ⟨h1,h2,h3⟩:=h.one t ht;exact ⟨h1,h2.lower hb,Own.lower h3 hb⟩
theorem aseg_ne (xs:List Value) (v:Value) {i j t:Nat} (h:i≠j) (ht:t<3):((xs.set (j*3+t) v).drop (i*3)).take 3=(xs.drop (i*3)).take 3:=by
 rw [List.drop_set];split
 ·rfl
 ·rw [List.take_set,List.set_eq_of_length_le (by simp; omega)]
theorem aseg_eq (xs:List Value) (v:Value) (j t:Nat):((xs.set (j*3+t) v).drop (j*3)).take 3=((xs.drop (j*3)).take 3).set t v:=by
 rw [List.drop_set,if_neg (by omega),List.take_set,Nat.add_sub_cancel_left]
theorem CpK.cell {g i:Nat} {u:Value} {t t':AskD} (h:CpK w base d k Y (some ⟨g,0,none⟩) c B e C f xs) (ht:Y[k]?=some t) (hi:i<3) (hl:Y.length≤4294967296) (hl2:∀ t∈Y,t.2.1.length≤4294967296∧t.2.2.length≤4294967296)
  (hc:∃ (B':Option Addr) (e':Nat),(acells t B e C f).set i u=acells t' B' e' C f∧(t'.2.1.length≤e'∧t'.2.2.length≤f)∧Row w (fun b=>base≤b∧b≠g) d B' t'.2.1∧t'.2.2=t.2.2) :
  AS (w.setCell ⟨g,k*3+i,none⟩ u) (fun b=>base≤b) d (some ⟨g,0,none⟩) (Y.set k t'):=by
 have hkl:=(List.getElem?_eq_some_iff.1 ht).1;have ho:=h.own.put (i:=k*3+i) u;have hk:Kept (fun b=>base≤b∧b≠g) w (w.setCell ⟨g,k*3+i,none⟩ u):=Kept.of_set fun e=>e.2 rfl;obtain ⟨B',e',hc1,hc2,hc3,hc4⟩:=hc;refine ⟨by rw [List.length_set]; exact hl,_,ho.rd.mono fun b _ e=>(ho.blk e).1,by simp [h.len],fun j s hs => ?_⟩;by_cases hj:k=j
 ·subst hj;rw [List.getElem?_set_self hkl] at hs;obtain rfl:=Option.some.inj hs;obtain ⟨h1,h2,h3⟩:=h.one t ht;rw [aseg_eq,h1,hc1];have hb:=hl2 t (List.mem_of_getElem? ht);exact ⟨B',e',C,f,rfl,hc2,Row.mono (Row.keep hc3 hk) (fun b _ e=>e.1),by
   rw [hc4];exact (Ints.keep (OwnIs.ints (T:=fun b=>base≤b∧b≠g) h3 hb.2 fun b e=>⟨(Own.blk h3 e).1,fun e2=>by
    subst e2;exact (h.nc b e).2.2 rfl⟩) hk).mono fun b _ e=>e.1⟩
 ·rw [List.getElem?_set_ne hj] at hs;rw [aseg_ne _ _ (Ne.symm hj) hi];exact (((h.oth j s (Ne.symm hj) hs).mono (T:=fun b=>base≤b∧b≠g) fun b _ e=>⟨e.1,fun e2=>e.2.1 (by rw [e2]; rfl)⟩).keep hk).mono fun b _ e=>e.1
end
end Go.Proofs.YtomdpipekmcojaaGreatDoor
