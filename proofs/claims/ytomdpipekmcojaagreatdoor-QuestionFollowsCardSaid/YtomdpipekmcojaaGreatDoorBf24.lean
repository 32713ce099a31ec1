/- The reference's Follow. Conditions: the plan and the replies read as data. -/
import Derived.Test.YtomdpipekmcojaaGreatDoorBf23
namespace Go.Proofs.YtomdpipekmcojaaGreatDoor
open Go Go.RowKit

def nxR (al:List Val) (nl:List Int) (v:Val) (j:Nat):Int:=if idxV (al.drop j) v<0∨(nl.length:Int)≤(j:Int)+idxV (al.drop j) v then -2 else nl.getD ((j:Int)+idxV (al.drop j) v).toNat 0
theorem nxR_end (al:List Val) (nl:List Int) (v:Val):nxR al nl v al.length=-2:=by
 unfold nxR;rw [List.drop_length];rfl
theorem nxR_step {al:List Val} {nl:List Int} {v:Val} {j:Nat} (h:j<al.length):nxR al nl v j=if al[j]=v then (if j<nl.length then nl.getD j 0 else -2) else nxR al nl v (j+1):=by
 unfold nxR;rw [List.drop_eq_getElem_cons h];have hd:idxV (al[j] :: al.drop (j+1)) v=if al[j]=v then 0 else if idxV (al.drop (j+1)) v<0 then -1 else idxV (al.drop (j+1)) v+1:=rfl;rw [hd];by_cases e:al[j]=v
 ·rw [if_pos e,if_pos e];by_cases hj:j<nl.length
  ·rw [if_pos hj,if_neg (by omega)];congr 1
  ·rw [if_neg hj,if_pos (by omega)]
 ·rw [if_neg e,if_neg e];generalize idxV (al.drop (j+1)) v=i;by_cases hi:i<0
  ·rw [if_pos hi,if_pos (.inl (by omega)),if_pos (.inl hi)]
  ·rw [if_neg hi];by_cases hn:(nl.length:Int)≤((j+1:Nat):Int)+i
   ·rw [if_pos (.inr (by omega)),if_pos (.inr hn)]
   ·rw [if_neg (by omega),if_neg (by omega)];congr 2;omega
theorem nxR_zero (al:List Val) (nl:List Int) (v:Val):nxR al nl v 0=if idxV al v<0∨(nl.length:Int)≤idxV al v then -2 else nl.getD (idxV al v).toNat 0:=by
 unfold nxR;rw [List.drop_zero];simp
set_option maxRecDepth 100000 in
set_option maxHeartbeats 2000000 in
theorem r25_Follow (d:Nat) (Y:List AskD) (A:Option Addr) (c:Nat) (dp lo:Int) (vs:List Val) (B:Option Addr) (e:Nat) (w:World) (S T:Nat→Prop) (hY:AS w S d A Y) (hv:Row w T d B vs) :
  Calls Tryz.prog 29 #[.agg #[.slice A Y.length c,.int .i64 dp,.int .i64 lo],.slice B vs.length e] w (RetFo w (followS Y vs)):=by
 obtain ⟨n,en⟩:∃ n,n=Y.length:=⟨_,rfl⟩;obtain ⟨m,em⟩:∃ m,m=vs.length:=⟨_,rfl⟩;have hYl:=hY.1;have hvl:=hv.len;obtain ⟨w0,hw0⟩:∃ w0,w0=w.alloc (.cells #[.slice A n c,.int .i64 dp,.int .i64 lo] 29):=⟨_,rfl⟩;obtain ⟨b2,hb2⟩:∃ b2,b2=w.heap.size:=⟨_,rfl⟩;have hx0:Ext w w0:=(by rw [hw0]; exact (Ext.refl w).alloc _);have hbk:Blk w0 b2 29 #[.slice A n c,.int .i64 dp,.int .i64 lo]:=(by rw [hw0,hb2]; exact Blk.new _ _ _);have HYM:=Hd (hY.keep (hx0.kept S));have HVM:=Hd (Row.keep hv (hx0.kept T));have HEN:=Hd en;have HEM:=Hd em;have HX0:=Hd hx0;have HBK:=Hd hbk;have HW0:=Hd hw0;have HB2:=Hd hb2;have q0:=hbk.cell (i:=0) rfl;rw [← en,← em];rw [← en] at hYl;rw [← em] at hvl;clear hY hv hx0 hbk hw0 hb2 en em
 go_enter Tryz.func29,Tryz.ntmps29
 go_upto_region 2 with fail
 rw [← HW0.o,← HB2.o];by_cases hn0:n=0
 ·have j0:((n:Int)==0)=true:=(by rw [beq_iff_eq]; omega);have HYN:=Hd (show Y.length=0 by rw [← HEN.o]; exact hn0);clear hn0;go_wp2
  go_loopw [6,7,8,9,10] (fun p i _u8 _u9 _u10 wr=>p=.int .i64 (-1)∧i=.int .i64 0∧wr=w0) (fun _ _ _ _ _ _=>0)
  case atStart=>exact ⟨rfl,rfl,rfl⟩
  case round =>
   obtain ⟨rfl,rfl,rfl⟩:=hrel;by_cases hm0:m=0
   ·have HR:=Hd (show followS Y vs=(-1,true) by
     unfold followS;rw [if_pos HYN.o,List.eq_nil_of_length_eq_zero (show vs.length=0 by rw [← HEM.o]; exact hm0)];rfl)
    have i0:¬ (0:Int)<(m:Int):=(by omega);go_wp2;go_ret2;exact ⟨by rw [HR.o]; rfl,HX0.o⟩
   ·have HR:=Hd (show followS Y vs=(-1,false) by
     unfold followS;rw [if_pos HYN.o];cases vs with
     | nil=>exact absurd HEM.o hm0
     | cons v vs=>exact followF_neg _ _ _ _ (by decide))
    have i0:(0:Int)<(m:Int):=(by omega);go_wp2;go_ret2;exact ⟨by rw [HR.o]; rfl,HX0.o⟩
 ·have j0:((n:Int)==0)=false:=(by rw [beq_eq_false_iff_ne]; omega);have HFS:=Hd (show followS Y vs=followF Y vs 0 by unfold followS; rw [if_neg (by rw [← HEN.o]; exact hn0)]);go_wp2
  go_loopw [6,7,8,9,10] (fun p i _u8 _u9 _u10 wr=>∃ (k:Nat) (pl:Int),k≤m∧p=.int .i64 pl∧i=.int .i64 (k:Int)∧(pl=-1∨(0≤pl∧pl<(n:Int)))∧followF Y (vs.drop k) pl=followF Y vs 0∧Ext w0 wr) (fun _ i _ _ _ _=>m-(intOf i).toNat)
  case atStart=>exact ⟨0,0,Nat.zero_le _,rfl,rfl,.inr ⟨by omega,by omega⟩,by rw [List.drop_zero],Ext.refl _⟩
  case round =>
   clear q0;obtain ⟨k,pl,hk,rfl,rfl,hpl,hfo,hx⟩:=hrel;obtain ⟨wo,rfl⟩:∃ wo:World,wo=wr:=⟨_,rfl⟩;have HX:=Hd hx;have HFO:=Hd hfo;have HPL:=Hd hpl;clear hx hfo hpl;by_cases hlt:k<m
   ·have hks:k<vs.length:=(by rw [← HEM.o]; exact hlt);obtain ⟨g1,o1,A1,c1,B1,e1,hB,z1,⟨x0,x1,x2,x3,x4,x5,x6⟩,hq,hrv⟩:=(Row.keep HVM.o (HX.o.kept _)).at_ hks;subst hB;obtain ⟨v,ev⟩:∃ v,v=vs[k]:=⟨_,rfl⟩;rw [← ev] at x0 x1 x2 x3 x4 x5 x6 hrv;have HD:=Hd (show vs.drop k=v :: vs.drop (k+1) by rw [ev]; exact List.drop_eq_getElem_cons hks);have HRV:=Hd hrv;have i0:(0:Int)≤(k:Int):=(by omega);have i1:(k:Int)<(m:Int):=(by omega);have f0:=(HBK.o.keep (HX.o.kept _)).cell (i:=0) rfl;have z2:=(HBK.o.keep (HX.o.kept _)).lt;by_cases hneg:pl<0
    ·have HR:=Hd (show followS Y vs=(-1,false) by rw [HFS.o,← HFO.o,HD.o,followF_neg _ _ _ _ hneg]);clear ev hrv hq hks;go_wp2;go_ret2;exact ⟨by rw [HR.o]; rfl,HX0.o.trans HX.o⟩
    ·obtain ⟨p,rfl⟩:∃ p:Nat,pl=(p:Int):=⟨pl.toNat,by omega⟩;have hpn:p<n:=(by rcases HPL.o with h | h <;> omega);have hpY:p<Y.length:=(by rw [← HEN.o]; exact hpn);obtain ⟨ab,ao,Ac,cc,Ar,cr,hA,zA,⟨a0,a1,a2⟩,hcaps,hrow,hints⟩:=(HYM.o.keep (HX.o.kept _)).at_ hpY;subst hA;obtain ⟨a,ea⟩:∃ a,a=Y[p]:=⟨_,rfl⟩;rw [← ea] at a0 a1 a2 hcaps hrow hints;have HFC:=Hd (followF_cons Y v (vs.drop (k+1)) p a (by rw [ea]; exact List.getElem?_eq_getElem hpY));obtain ⟨al,eal⟩:∃ al,al=a.2.1:=⟨_,rfl⟩;obtain ⟨nl,enl⟩:∃ nl,nl=a.2.2:=⟨_,rfl⟩;rw [← eal] at a1 hrow;rw [← enl] at a2 hints;rw [← eal,← enl,← HEN.o] at HFC;have hal:=Row.len hrow;have hnl:=hints.2;obtain ⟨nn,enn⟩:∃ nn,nn=nl.length:=⟨_,rfl⟩;obtain ⟨na,ena⟩:∃ na,na=al.length:=⟨_,rfl⟩;have HNN:=Hd enn;have HNA:=Hd ena;rw [← enn] at a2 hnl HFC;rw [← ena] at a1 hal;have HROW:=Hd hrow;have HINT:=Hd hints;have HZ:=Hd (nxR_zero al nl v);rw [← enn] at HZ;have Q0:=Hd f0;have Q1:=Hd a1;have Q2:=Hd a2;have X0:=Hd x0;have X1:=Hd x1;have X2:=Hd x2;have X3:=Hd x3;have X4:=Hd x4;have X5:=Hd x5;have X6:=Hd x6;have i2:(0:Int)≤(p:Int):=(by omega);have i3:(p:Int)<(n:Int):=(by omega);clear ev hrv hq hks ea eal enl hrow hints hcaps enn ena hpY x0 x1 x2 x3 x4 x5 x6 a0 a2;go_wp2
     go_loopw [8,9,10] (fun nv jv _u10 wi=>∃ j:Nat,j≤na∧jv=.int .i64 ((j:Int)-1)∧nv=.int .i64 (nxR al nl v j)∧Ext wo wi) (fun _ jv _ _=>(intOf jv+1).toNat)
     case atStart=>exact ⟨na,Nat.le_refl _,rfl,by rw [HNA.o,nxR_end],Ext.refl _⟩
     case round =>
      obtain ⟨j,hj,rfl,rfl,hxi⟩:=hrel;obtain ⟨ws,rfl⟩:∃ ws:World,ws=wr:=⟨_,rfl⟩;have HXI:=Hd hxi;clear f0 a1;by_cases hj0:0<j
      ·obtain ⟨i,rfl⟩:∃ i,j=i+1:=⟨j-1,by omega⟩;have hin:i<na:=(by omega);have his:i<al.length:=(by rw [← HNA.o]; exact hin);obtain ⟨g2,o2,A2,c2,B2,e2,hAc,z2',⟨y0,y1,y2,y3,y4,y5,y6⟩,hq2,hry⟩:=(Row.keep HROW.o (hxi.kept _)).at_ his;subst hAc;have hst:=nxR_step (nl:=nl) (v:=v) his;obtain ⟨y,ey⟩:∃ y,y=al[i]:=⟨_,rfl⟩;rw [← ey] at y0 y1 y2 y3 y4 y5 y6 hry hst;obtain ⟨bv,ebv⟩:∃ bv,bv=decide (y=v):=⟨_,rfl⟩;have HBV:=Hd ebv;have HSTP:=Hd hst;have HSV:=Hd (show ∀ w':World,Ext ws w'→Calls Tryz.prog 31 #[(.agg #[.int .i64 y.kind,.string y.s,.int .i64 y.dn,.int .i64 y.ds,.int .i64 y.n,.slice A2 y.cols.length c2,.slice B2 y.rows.length e2]),(.agg #[.int .i64 v.kind,.string v.s,.int .i64 v.dn,.int .i64 v.ds,.int .i64 v.n,.slice A1 v.cols.length c1,.slice B1 v.rows.length e1])] w' (RetB w' bv) from fun w' hx=>by
        rw [ebv];exact r06_Equal (d-1) y v A2 B2 A1 B1 c2 e2 c1 e1 w' S T (hry.keep (hx.kept S)) (HRV.o.keep ((hxi.trans hx).kept T)))
       have k0:=Hd (hxi.cell Q0.o);have k1:=Hd (hxi.cell Q1.o);have k2:=Hd (hxi.cell X0.o);have k3:=Hd (hxi.cell X1.o);have k4:=Hd (hxi.cell X2.o);have k5:=Hd (hxi.cell X3.o);have k6:=Hd (hxi.cell X4.o);have k7:=Hd (hxi.cell X5.o);have k8:=Hd (hxi.cell X6.o);have k9:=Hd y0;have k10:=Hd y1;have k11:=Hd y2;have k12:=Hd y3;have k13:=Hd y4;have k14:=Hd y5;have k15:=Hd y6;have hii:((i+1:Nat):Int)-1=(i:Int):=(by omega);rw [hii];have i4:(0:Int)≤(i:Int):=(by omega);have i5:(i:Int)<(na:Int):=(by omega);clear hst ey ebv hry hq2 y0 y1 y2 y3 y4 y5 y6 hxi hii hj0 his
       go_upto_region 13 with fail
       refine wp_region_chain (by kernel_rfl) (fun i=>[i]) (by kernel_rfl) (LZ (fun _ _=>False)) (LZ.refl _) (LZ.trans _) (LK []) gz0 (LK.zero _) ?_;apply Chain.pure (LZ.refl _) (by rfl)
       ·intro vals γ w' ρ hR hN hp hρ hc hf hg;refine ⟨rfl,?_⟩;have e2:=hρ 2;(conv at e2=>rhs; whnf);clear hR hN hp hρ;go_light;go_simp;exact ⟨rfl,rfl⟩
       ·rfl
       apply Chain.pure (LZ.refl _) (by rfl)
       ·intro vals γ w' ρ hR hN hp hρ hc hf hg;refine ⟨rfl,?_⟩;have e35:ρ (.tmp 35)=_:=(hρ 35).trans (hp 0 (by decide));have hxx:=hR.ext0 (fun _ _ _ h=>h.elim);have m0:=hxx.cell k0.o;have m1:=hxx.cell k1.o;have m2:=hxx.cell k2.o;have m3:=hxx.cell k3.o;have m4:=hxx.cell k4.o;have m5:=hxx.cell k5.o;have m6:=hxx.cell k6.o;have m7:=hxx.cell k7.o;have m8:=hxx.cell k8.o;have m9:=hxx.cell k9.o;have m10:=hxx.cell k10.o;have m11:=hxx.cell k11.o;have m12:=hxx.cell k12.o;have m13:=hxx.cell k13.o;have m14:=hxx.cell k14.o;have m15:=hxx.cell k15.o;clear hxx hR hN hp hρ;go_light;go_simp;exact ⟨rfl,rfl⟩
       ·rfl
       apply Chain.pure (LZ.refl _) (by rfl)
       ·intro vals γ w' ρ hR hN hp hρ hc hf hg;refine ⟨rfl,?_⟩;have e6:=hρ 6;(conv at e6=>rhs; whnf);clear hR hN hp hρ;go_light;go_simp;exact ⟨rfl,rfl⟩
       ·rfl
       apply Chain.pure (LZ.refl _) (by rfl)
       ·intro vals γ w' ρ hR hN hp hρ hc hf hg;refine ⟨rfl,?_⟩;have e36:ρ (.tmp 36)=_:=(hρ 36).trans (hp 1 (by decide));have e37:ρ (.tmp 37)=_:=(hρ 37).trans (hp 2 (by decide));clear hR hN hp hρ;go_light;go_simp;exact ⟨rfl,rfl⟩
       ·rfl
       apply Chain.pure (LZ.refl _) (by rfl)
       ·intro vals γ w' ρ hR hN hp hρ hc hf hg;refine ⟨rfl,?_⟩;have e38:ρ (.tmp 38)=_:=(hρ 38).trans (hp 3 (by decide));clear hR hN hp hρ;go_light;go_simp;exact ⟨rfl,rfl⟩
       ·rfl
       apply Chain.pure (LZ.refl _) (by rfl)
       ·intro vals γ w' ρ hR hN hp hρ hc hf hg;refine ⟨rfl,?_⟩;have e39:ρ (.tmp 39)=_:=(hρ 39).trans (hp 4 (by decide));have hxx:=hR.ext0 (fun _ _ _ h=>h.elim);have m0:=hxx.cell k0.o;have m1:=hxx.cell k1.o;have m2:=hxx.cell k2.o;have m3:=hxx.cell k3.o;have m4:=hxx.cell k4.o;have m5:=hxx.cell k5.o;have m6:=hxx.cell k6.o;have m7:=hxx.cell k7.o;have m8:=hxx.cell k8.o;have m9:=hxx.cell k9.o;have m10:=hxx.cell k10.o;have m11:=hxx.cell k11.o;have m12:=hxx.cell k12.o;have m13:=hxx.cell k13.o;have m14:=hxx.cell k14.o;have m15:=hxx.cell k15.o;clear hxx hR hN hp hρ;go_light;go_simp;exact ⟨rfl,rfl⟩
       ·rfl
       apply Chain.pure (LZ.refl _) (by rfl)
       ·intro vals γ w' ρ hR hN hp hρ hc hf hg;refine ⟨rfl,?_⟩;have e9:=hρ 9;(conv at e9=>rhs; whnf);clear hR hN hp hρ;go_light;go_simp;exact ⟨rfl,rfl⟩
       ·rfl
       apply Chain.pure (LZ.refl _) (by rfl)
       ·intro vals γ w' ρ hR hN hp hρ hc hf hg;refine ⟨rfl,?_⟩;have e40:ρ (.tmp 40)=_:=(hρ 40).trans (hp 5 (by decide));have e41:ρ (.tmp 41)=_:=(hρ 41).trans (hp 6 (by decide));clear hR hN hp hρ;go_light;go_simp;exact ⟨rfl,rfl⟩
       ·rfl
       apply Chain.pure (LZ.refl _) (by rfl)
       ·intro vals γ w' ρ hR hN hp hρ hc hf hg;refine ⟨rfl,?_⟩;have e42:ρ (.tmp 42)=_:=(hρ 42).trans (hp 7 (by decide));have hxx:=hR.ext0 (fun _ _ _ h=>h.elim);have m0:=hxx.cell k0.o;have m1:=hxx.cell k1.o;have m2:=hxx.cell k2.o;have m3:=hxx.cell k3.o;have m4:=hxx.cell k4.o;have m5:=hxx.cell k5.o;have m6:=hxx.cell k6.o;have m7:=hxx.cell k7.o;have m8:=hxx.cell k8.o;have m9:=hxx.cell k9.o;have m10:=hxx.cell k10.o;have m11:=hxx.cell k11.o;have m12:=hxx.cell k12.o;have m13:=hxx.cell k13.o;have m14:=hxx.cell k14.o;have m15:=hxx.cell k15.o;clear hxx hR hN hp hρ;go_light;go_simp;exact ⟨rfl,rfl⟩
       ·rfl
       apply Chain.pure (LZ.refl _) (by rfl)
       ·intro vals γ w' ρ hR hN hp hρ hc hf hg;refine ⟨rfl,?_⟩;have e1:=hρ 1;(conv at e1=>rhs; whnf);clear hR hN hp hρ;go_light;go_simp;exact ⟨rfl,rfl⟩
       ·rfl
       apply Chain.pure (LZ.refl _) (by rfl)
       ·intro vals γ w' ρ hR hN hp hρ hc hf hg;refine ⟨rfl,?_⟩;have e7:=hρ 7;(conv at e7=>rhs; whnf);clear hR hN hp hρ;go_light;go_simp;exact ⟨rfl,rfl⟩
       ·rfl
       apply Chain.pure (LZ.refl _) (by rfl)
       ·intro vals γ w' ρ hR hN hp hρ hc hf hg;refine ⟨rfl,?_⟩;have e44:ρ (.tmp 44)=_:=(hρ 44).trans (hp 9 (by decide));have e45:ρ (.tmp 45)=_:=(hρ 45).trans (hp 10 (by decide));clear hR hN hp hρ;go_light;go_simp;exact ⟨rfl,rfl⟩
       ·rfl
       apply Chain.pure (LZ.refl _) (by rfl)
       ·intro vals γ w' ρ hR hN hp hρ hc hf hg;refine ⟨rfl,?_⟩;have e46:ρ (.tmp 46)=_:=(hρ 46).trans (hp 11 (by decide));have hxx:=hR.ext0 (fun _ _ _ h=>h.elim);have m0:=hxx.cell k0.o;have m1:=hxx.cell k1.o;have m2:=hxx.cell k2.o;have m3:=hxx.cell k3.o;have m4:=hxx.cell k4.o;have m5:=hxx.cell k5.o;have m6:=hxx.cell k6.o;have m7:=hxx.cell k7.o;have m8:=hxx.cell k8.o;have m9:=hxx.cell k9.o;have m10:=hxx.cell k10.o;have m11:=hxx.cell k11.o;have m12:=hxx.cell k12.o;have m13:=hxx.cell k13.o;have m14:=hxx.cell k14.o;have m15:=hxx.cell k15.o;clear hxx hR hN hp hρ;go_light;go_simp;exact ⟨rfl,rfl⟩
       ·rfl
       refine Chain.step (FP fun v γ w'=>v=.bool bv) (by rfl) (FP.stab ?_) ?_ ?_
       ·intro v γ w1 γ' w2 r h;exact h
       ·intro vals γ w' ρ hR hN hp hρ hc hf hg;refine ⟨rfl,?_⟩;have e43:ρ (.tmp 43)=_:=(hρ 43).trans (hp 8 (by decide));have e47:ρ (.tmp 47)=_:=(hρ 47).trans (hp 12 (by decide));have HR:=Hd hR;have hxx:=hR.ext0 (fun _ _ _ h=>h.elim);have HXW:=Hd hxx;clear hxx hR hN hp hρ;go_light;go_simp;refine (HSV.o w' HXW.o).mono ?_;rintro e1 w3 ⟨he,hx⟩;exact ⟨_,he,γ,LZ.of_ext _ γ hx,fun _ _ _ h=>h,rfl⟩
       apply Chain.pure (LZ.refl _) (by rfl)
       ·intro vals γ w' ρ hR hN hp hρ hc hf hg;refine ⟨rfl,?_⟩;have e48:ρ (.tmp 48)=_:=(hρ 48).trans (hp 13 (by decide));clear hR hN hp hρ;go_light;go_simp;exact ⟨rfl,rfl⟩
       ·rfl
       intro vals γ w9 hR hG;have v0:vals 0=_:=hG 0 (by decide);have v1:vals 1=_:=hG 1 (by decide);have v2:vals 2=_:=hG 2 (by decide);have v3:vals 3=_:=hG 3 (by decide);have v4:vals 4=_:=hG 4 (by decide);have v5:vals 5=_:=hG 5 (by decide);have v6:vals 6=_:=hG 6 (by decide);have v7:vals 7=_:=hG 7 (by decide);have v8:vals 8=_:=hG 8 (by decide);have v9:vals 9=_:=hG 9 (by decide);have v10:vals 10=_:=hG 10 (by decide);have v11:vals 11=_:=hG 11 (by decide);have v12:vals 12=_:=hG 12 (by decide);have v13:vals 13=_:=hG 13 (by decide);have v14:vals 14=_:=hG 14 (by decide);simp only [lexFrame,Act.put,List.setIfInBounds_toArray,List.set_cons_succ,List.set_cons_zero,Nat.zero_add,Nat.reduceAdd,v0,v1,v2,v3,v4,v5,v6,v7,v8,v9,v10,v11,v12,v13,v14];clear v0 v1 v2 v3 v4 v5 v6 v7 v8 v9 v10 v11 v12 v13 v14;have HXN:=Hd (show Ext ws w9 from hR.ext0 (fun _ _ _ h=>h.elim));clear hR hG;have HX9:=Hd (HXI.o.trans HXN.o);cases bv
       ·have HV:=Hd (show nxR al nl v (i+1)=nxR al nl v i by rw [HSTP.o,if_neg (by simpa using HBV.o.symm)]);go_wp2;go_roundw
        case rel=>exact ⟨i,by omega,rfl,by rw [HV.o],HX9.o⟩
        case measure=>simp [intOf]
       ·have HYV:=Hd (show y=v by simpa using HBV.o.symm);have f0:=HXN.o.cell k0.o;have f2:=HX9.o.cell Q2.o;by_cases hinn:i<nn
        ·have hil:i<nl.length:=(by rw [← HNN.o]; exact hinn);obtain ⟨nb,no,hAr,_,hnc⟩:=(HINT.o.keep (HX9.o.kept _)).at_ hil;subst hAr;obtain ⟨nx,enx⟩:∃ nx,nx=nl[i]:=⟨_,rfl⟩;rw [← enx] at hnc;have HV:=Hd (show nxR al nl v i=nx by rw [HSTP.o,if_pos HYV.o,if_pos hil,getD_of _ _ _ hil,enx]);have i6:(i:Int)<(nn:Int):=(by omega);clear enx hil;go_wp2;go_roundw
         case rel=>exact ⟨i,by omega,rfl,by rw [HV.o],HX9.o⟩
         case measure=>simp [intOf]
        ·have HV:=Hd (show nxR al nl v i=-2 by rw [HSTP.o,if_pos HYV.o,if_neg (by rw [← HNN.o]; exact hinn)]);have i6:¬ (i:Int)<(nn:Int):=(by omega);go_wp2;go_roundw
         case rel=>exact ⟨i,by omega,rfl,by rw [HV.o],HX9.o⟩
         case measure=>simp [intOf]
      ·obtain rfl:j=0:=by omega
       have f0:=hxi.cell Q0.o;obtain ⟨nx,enx⟩:∃ nx,nx=nxR al nl v 0:=⟨_,rfl⟩;have HNX:=Hd enx;have HF2:=Hd (show followF Y vs 0=if idxV al v<0∨(nn:Int)≤idxV al v then (-1,false) else if nx≠-1∧(nx≤(p:Int)∨(n:Int)≤nx) then (-1,false) else followF Y (vs.drop (k+1)) nx by
        rw [← HFO.o,HD.o,HFC.o];by_cases h:idxV al v<0∨(nn:Int)≤idxV al v
        ·rw [if_pos h,if_pos h]
        ·rw [if_neg h,if_neg h,enx,HZ.o,if_neg h])
       have HXX:=Hd (HX.o.trans hxi);rw [← enx];have hbad:(idxV al v<0∨(nn:Int)≤idxV al v)→nx=-2:=fun h=>by rw [enx,HZ.o,if_pos h]
       clear enx hxi;by_cases hm1:nx=-1
       ·have j1:(nx != -1)=false:=(by rw [bne_eq_false_iff_eq]; exact hm1);have HREL:=Hd (show followF Y (vs.drop (k+1)) nx=followF Y vs 0 by rw [HF2.o,if_neg (fun h=>by have:=hbad h; omega),if_neg (fun h=>h.1 hm1)]);have HM1:=Hd hm1;clear hm1 hbad;go_wp2;go_roundw
        case rel=>exact ⟨k+1,nx,by omega,rfl,by go_num,.inl HM1.o,HREL.o,HXX.o⟩
        case measure=>simp [intOf]; omega
       ·have j1:(nx != -1)=true:=(by rw [bne_iff_ne]; exact hm1);by_cases h1:nx≤(p:Int)
        ·have HR:=Hd (show followS Y vs=(-1,false) by
          rw [HFS.o,HF2.o];split
          ·rfl
          ·rw [if_pos ⟨hm1,.inl h1⟩])
         clear hbad hm1;go_wp2;go_ret2;exact ⟨by rw [HR.o]; rfl,HX0.o.trans HXX.o⟩
        ·by_cases h2:(n:Int)≤nx
         ·have HR:=Hd (show followS Y vs=(-1,false) by
           rw [HFS.o,HF2.o];split
           ·rfl
           ·rw [if_pos ⟨hm1,.inr h2⟩])
          clear hbad hm1;go_wp2;go_ret2;exact ⟨by rw [HR.o]; rfl,HX0.o.trans HXX.o⟩
         ·have HREL:=Hd (show followF Y (vs.drop (k+1)) nx=followF Y vs 0 by rw [HF2.o,if_neg (fun h=>by have:=hbad h; omega),if_neg (by rintro ⟨_,h | h⟩; exact h1 h; exact h2 h)]);clear hbad hm1;go_wp2;go_roundw
          case rel=>exact ⟨k+1,nx,by omega,rfl,by go_num,.inr ⟨by omega,by omega⟩,HREL.o,HXX.o⟩
          case measure=>simp [intOf]; omega
   ·have HFI:=Hd (show followS Y vs=(pl,true) by
     rw [HFS.o,← HFO.o,List.drop_of_length_le (by rw [← HEM.o]; omega)];rfl)
    have i0:¬ (k:Int)<(m:Int):=(by omega);go_wp2;go_ret2;exact ⟨by rw [HFI.o]; rfl,HX0.o.trans HX.o⟩
/- What the questions of a plan are, and slices of values: plain facts. No conditions. -/

theorem planG_mem {sub:List Nat→Nat→List AskD} {t:AskD} : ∀ (gs:List (List Nat)) (p:Nat),t∈(planG sub gs p).1→∃ g∈gs,∃ p',t∈sub g p'
 | [],_,h=>by simp [planG] at h
 | g :: gs,p,h=>by
  simp only [planG,List.mem_append] at h
  rcases h with h | h
  ·exact ⟨g,by simp,p,h⟩
  ·obtain ⟨g',hg,p',hp⟩:=planG_mem gs _ h;exact ⟨g',List.mem_cons_of_mem _ hg,p',hp⟩
theorem plan_mem (l:List (List Val)) (hv:∀ r∈l,∀ x∈r,IsV x) (hN:Wide l (inpS l)):∀ (f:Nat) (L:List Nat) (p:Nat),L.length≤f→(∀ x∈L,x<l.length)→∀ t∈plan (spl l) (inpS l) (ans l) L p,Plain t.2.1∧(2≤t.2.1.length∧2≤t.2.2.length)∧t.2.1.length≤L.length∧t.2.2.length≤L.length
 | f,L,p,hf,hL,t,ht=>by
  rw [plan_eq (spl_small l)] at ht;by_cases h0:dep (spl l) (inpS l) L=0
  ·rw [if_pos h0] at ht; cases ht
  ·rw [if_neg h0] at ht;obtain ⟨hm,-,-⟩:=inpF_at (spl_small l) (inpS l) L h0;have h2:=two_parts (spl_small l) (N:=inpS l) h0;generalize inpF (spl l) (inpS l) L=m at ht hm h2;have his:=spl_is l m L;have hle:=spl_len l m L
   rcases List.mem_cons.1 ht with rfl | ht
   ·refine ⟨fun y hy => ?_,⟨by simpa using h2,by rw [planG_len]; exact h2⟩,by simpa using hle,by rw [planG_len]; exact hle⟩;obtain ⟨g,hg,rfl⟩:=List.mem_map.1 hy;have hs:=his.sub g hg;have hx:g.headD 0∈L:=by
     cases g with
     | nil=>exact absurd rfl hs.1
     | cons x g=>exact hs.2.subset (by simp)
    have hxl:=hL _ hx;have hml:m<l[g.headD 0].length:=(by rw [hN _ (List.getElem_mem hxl)]; exact hm);rw [ans_of hxl hml];obtain ⟨i,hi,e⟩:=hv _ (List.getElem_mem hxl) _ (List.getElem_mem hml);rw [e];have:=valS_plain i hi;exact ⟨this.1,this.2.1⟩
   ·obtain ⟨g,hg,p',hp⟩:=planG_mem _ _ ht;have hs:=his.sub g hg;have hsm:=his.small h2 g hg
    match f,hf with
    | 0,hf=>omega
    | f+1,hf =>
     obtain ⟨a,b,c,d⟩:=plan_mem l hv hN f g p' (by omega) (fun x hx=>hL x (hs.2.subset hx)) t hp;exact ⟨a,b,by omega,by omega⟩
theorem makeF_ok {l:List (List Val)} (hv:∀ r∈l,∀ x∈r,IsV x) (hN:Wide l (inpS l)) (hl:l.length≤12) (h:Int):OkP (makeF l h).1:=by
 have hlen:=(show (makeF l h).1.length≤1000 by
  unfold makeF;split
  ·show (planA l).length≤1000;have h1:∀ (L:List Nat),(plan (spl l) (inpS l) (ans l) L 0).length≤L.length:=fun L=>by
    by_cases e:L=[]
    ·subst e;have h2:=dep_len (spl_small l) (inpS l) [];rw [plan_eq (spl_small l),if_pos (by simp at h2; omega)];exact Nat.le_refl _
    ·have:=plan_len l (inpS l) (ans l) _ L 0 (Nat.le_refl _) e;omega
   have h3:=h1 (allP l);have h4:(allP l).length=l.length:=(by simp [allP]);unfold planA;omega
  ·simp)
 have key:∀ t∈(makeF l h).1,Plain t.2.1∧(2≤t.2.1.length∧2≤t.2.2.length)∧t.2.1.length≤12∧t.2.2.length≤12:=by
  intro t ht;unfold makeF at ht;split at ht
  ·obtain ⟨a,b,c,d⟩:=plan_mem l hv hN _ (allP l) 0 (Nat.le_refl _) (fun x hx=>List.mem_range.1 hx) t ht;have h4:(allP l).length=l.length:=(by simp [allP]);exact ⟨a,b,by omega,by omega⟩
  ·cases ht
 exact ⟨fun t ht=>(key t ht).1,fun t ht=>(key t ht).2.1,fun t ht=>⟨by have:=(key t ht).2.2; omega,by have:=(key t ht).2.2; omega⟩,hlen⟩
theorem Row.takeB {w:World} {S:Nat→Prop} {d:Nat} {A:Option Addr} {l:List Val} (h:Row w S d A l) (k:Nat):Row w S d A (l.take k):=by
 obtain ⟨h0,xs,h1,h2,h3⟩:=h;refine ⟨by rw [List.length_take]; omega,xs.take (k*7),h1.take _,by rw [List.length_take,List.length_take,h2]; omega,fun j y hj => ?_⟩;rw [List.getElem?_take] at hj;split at hj
 ·rw [List.drop_take,List.take_take,Nat.min_eq_left (by omega)];exact h3 j y hj
 ·cases hj
/- The law QuestionFollows: places that replies lead to are those of the reference, in a plan and in a bent one. Conditions: the numbers read as data. -/

def BnF (W:Nat) (q:Nat) (v:Value) (w':World):Prop:=∃ (Y:List AskD) (A:Option Addr) (c:Nat) (dp lo:Int),v=.agg #[.slice A Y.length c,.int .i64 dp,.int .i64 lo]∧AS w' (fun b=>W≤b) q A Y
def BnG (W:Nat) (A3:Option Addr) (nY c3:Nat) (dp lo:Int) (v:Value) (w':World):Prop:=∃ (g:Nat) (Y:List AskD) (A:Option Addr) (c:Nat) (dp' lo':Int),v=.slice (some ⟨g,0,none⟩) 2 2∧Blk w' g 29 #[.slice A3 nY c3,.int .i64 dp,.int .i64 lo,.slice A Y.length c,.int .i64 dp',.int .i64 lo']∧AS w' (fun b=>W≤b) 1 A Y
theorem two_plans {w:World} {g i:Nat} {S T:Nat→Prop} {Y0 Y1:List AskD} {A0 A1:Option Addr} {c0 c1 n0 n1:Nat} {d0 l0 d1 l1:Int} (hb:Blk w g 29 #[.slice A0 n0 c0,.int .i64 d0,.int .i64 l0,.slice A1 n1 c1,.int .i64 d1,.int .i64 l1]) (h0:AS w S 1 A0 Y0) (h1:AS w T 1 A1 Y1) (e0:n0=Y0.length) (e1:n1=Y1.length) (hi:i<2) :
  ∃ (Y:List AskD) (A:Option Addr) (n c:Nat) (dp lo:Int),n=Y.length∧w.cell? ⟨g,i*3,none⟩=some (.slice A n c)∧w.cell? ⟨g,i*3+1,none⟩=some (.int .i64 dp)∧w.cell? ⟨g,i*3+2,none⟩=some (.int .i64 lo)∧AS w (fun _=>True) 1 A Y:=by
 match i,hi with
 | 0,_=>exact ⟨Y0,A0,n0,c0,d0,l0,e0,hb.cell (i:=0) rfl,hb.cell (i:=1) rfl,hb.cell (i:=2) rfl,h0.mono fun _ _ _=>trivial⟩
 | 1,_=>exact ⟨Y1,A1,n1,c1,d1,l1,e1,hb.cell (i:=3) rfl,hb.cell (i:=4) rfl,hb.cell (i:=5) rfl,h1.mono fun _ _ _=>trivial⟩
 | _+2,h=>exact absurd h (by omega)
theorem isV_rv {w:World} {S:Nat→Prop} {x:Val} {A B:Option Addr} {q:Nat} (h:IsV x):RV w S q x A B:=by
 obtain ⟨m,hm,rfl⟩:=h;have hp:=valS_plain m hm;cases q with
 | zero=>exact ⟨hp.2.2,by rw [hp.1]; exact ⟨Rd.nil,by simp,by simp⟩,by rw [hp.2.1]; exact ⟨by simp,[],Rd.nil,rfl,by simp⟩⟩
 | succ n=>exact ⟨hp.2.2,by rw [hp.1]; exact ⟨Rd.nil,by simp,by simp⟩,by rw [hp.2.1]; exact ⟨by simp,[],Rd.nil,rfl,by simp⟩⟩
set_option maxRecDepth 100000 in
set_option maxHeartbeats 2500000 in
theorem law_Follows (l:List (List Int)) (rs:List Int) (q0 q1 q2:Int) (A:Option Addr) (c:Nat) (B:Option Addr) (e:Nat) (w:World) (S T:Nat→Prop) (ht:Tens w) (h:II w S A l) (hac:l.length≤c) (hr:Rd w T B (rs.map (Value.int .i64))) (hrl:rs.length≤9223372036854775807) :
  Calls Tryz.prog 6 #[.slice A l.length c,.slice B rs.length e,.agg #[.int .i64 q0,.int .i64 q1,.int .i64 q2]] w (RetB w true):=by
 obtain ⟨w0,hw0⟩:∃ x,x=w.alloc (.cells #[.int .i64 q0,.int .i64 q1,.int .i64 q2] 49):=⟨_,rfl⟩;obtain ⟨b5,hb5⟩:∃ b,b=w.heap.size:=⟨_,rfl⟩;have hx0:Ext w w0:=(by rw [hw0]; exact (Ext.refl w).alloc _);have hk5:Blk w0 b5 49 #[.int .i64 q0,.int .i64 q1,.int .i64 q2]:=(by rw [hw0,hb5]; exact Blk.new _ _ _);have HT:=Hd (ht.ext hx0);have HI:=Hd (h.keep (hx0.kept S));have HRD:=Hd (hr.keep (hx0.kept T));have HX0:=Hd hx0;have HK5:=Hd hk5;have hll:=h.1;obtain ⟨n,en⟩:∃ n,n=l.length:=⟨_,rfl⟩;obtain ⟨nr,enr⟩:∃ n,n=rs.length:=⟨_,rfl⟩;have HN:=Hd en;have HNR:=Hd enr;have HW0:=Hd (And.intro hw0 hb5);rw [← en] at hll hac ⊢;rw [← enr] at hrl ⊢;clear ht h hr hx0 hk5 en enr hw0 hb5
 go_enter Tryz.func6,Tryz.ntmps6
 go_upto_region 1 with fail
 rw [← HW0.o.1,← HW0.o.2]
 go_wp2_with fail
 refine (l25_sanity w0 HT.o).mono ?_;rintro e1 w1 ⟨rfl,hx1⟩;have HX1:=Hd hx1;clear hx1;obtain ⟨m,em⟩:∃ m:Nat,m=min n 7:=⟨_,rfl⟩;have hm9:m≤7:=(by omega);have hmn:m≤n:=(by omega);have hmc:m≤c:=(by omega);have HM:=Hd (show (if (n:Int)<7 then (n:Int) else 7)=(m:Int) by split <;> omega);have HM2:=Hd (show min (n:Int) 7=(m:Int) by omega);clear em
 go_wp2_with fail
 rw [HM2.o,Int.toNat_natCast];have hlm:(l.take m).length=m:=(by rw [List.length_take,← HN.o]; omega);have HMD:=Hd (r25_Made (l.take m) A c w1 S ((HI.o.keep (HX1.o.kept S)).take m));rw [hlm] at HMD;refine HMD.o.mono ?_;rintro e2 w2 ⟨L,A2,c2,rfl,hv,hwd,h12,ho,hx2⟩;have HX2:=Hd (HX1.o.trans hx2);have HTR:=Hd (made_cells hv).tri;have HNT:=Hd (made_cells hv).noT;have HRT:=Hd (made_right hv hwd);have hin10:inpS L≤10:=(by have:=made_inp hwd; omega);have HOK:=Hd (makeF_ok hv (rightA_wide HRT.o) h12 6);have HRW:=Hd ((ho.mono (T:=fun b=>b<w2.heap.size) fun b hb _=>hb).rows (T:=fun b=>b<w2.heap.size) (by omega) (fun b hb=>(ho.blk hb).2) (fun b hb=>hb));have HMK:=Hd (r25_Make 1 L A2 c2 6 w2 _ HRW.o HNT.o (fun _=>HTR.o) (by omega));have hlo:=makeF_low (l:=L) (h:=6);have hdl:(makeF L 6).2.1≤1000:=by
  unfold makeF;split
  ·have:=depA_len (spl_small L); show depA L≤1000; omega
  ·simp
 obtain ⟨nL,enL⟩:∃ nL,nL=L.length:=⟨_,rfl⟩;have HNL:=Hd enL;rw [← enL] at HMK h12 ⊢;obtain ⟨Y,eY⟩:∃ Y,Y=(makeF L 6).1:=⟨_,rfl⟩;obtain ⟨dp,edp⟩:∃ x,x=(makeF L 6).2.1:=⟨_,rfl⟩;obtain ⟨lo,elo⟩:∃ x,x=(makeF L 6).2.2:=⟨_,rfl⟩;obtain ⟨er,eer⟩:∃ x,x=errM L 6:=⟨_,rfl⟩;have HMP:=Hd (show Calls Tryz.prog 15 #[.slice A2 nL c2,.int .i64 6] w2 (fun e w''=>∃ (A:Option Addr) (c:Nat),e=.returned (.tuple #[.agg #[.slice A Y.length c,.int .i64 (dp:Int),.int .i64 (lo:Int)],.int .i64 er])∧OwnAs w'' w2.heap.size (fun b=>w2.heap.size≤b) 1 A c Y∧Ext w2 w'') from HMK.o.mono fun e w'' hp=>by rw [eY,edp,elo,eer]; exact hp);rw [← eY] at HOK;rw [← elo,← edp] at hlo;rw [← edp] at hdl;have hYn:=HOK.o.few;obtain ⟨nY,enY⟩:∃ x,x=Y.length:=⟨_,rfl⟩;have HNY:=Hd enY;rw [← enY] at HMP hYn;clear hv hwd ho hx2 enL hlm HMD HMK hin10 eY edp elo eer enY
 go_wp2_with fail
 refine HMP.o.mono ?_;rintro e3 w3 ⟨A3,c3,rfl,ho3,hx3⟩;have HX3:=Hd (HX2.o.trans hx3);obtain ⟨b8,hb8⟩:∃ b,b=w3.heap.size:=⟨_,rfl⟩;obtain ⟨w4,hw4⟩:∃ x,x=w3.alloc (.cells #[.slice A3 nY c3,.int .i64 (dp:Int),.int .i64 (lo:Int)] 29):=⟨_,rfl⟩;have hx34:Ext w3 w4:=(by rw [hw4]; exact (Ext.refl _).alloc _);have HB8:=Hd (show Blk w4 b8 29 #[.slice A3 nY c3,.int .i64 (dp:Int),.int .i64 (lo:Int)] by rw [hw4,hb8]; exact Blk.new _ _ _);have HX4:=Hd (HX3.o.trans hx34);have HAS:=Hd ((ho3.ext hx34).as_ (T:=fun _=>True) (by rw [← HNY.o]; omega) (fun _ _=>trivial) fun _ _=>trivial);clear ho3 hx3 hx34
 go_upto_region 3 with fail
 rw [← hw4,← hb8];clear hw4 hb8;go_wp2
 go_loopw [10,11] (fun v10 i wr=>∃ (k:Nat) (A':Option Addr) (c':Nat) (vs:List Val),k≤nr∧k≤8∧v10=.slice A' k c'∧i=.int .i64 (k:Int)∧vs.length=k∧OwnVs wr w4.heap.size FF 1 A' c' vs∧Ext w4 wr) (fun _ i _=>8-(intOf i).toNat)
 case atStart=>exact ⟨0,none,0,[],Nat.zero_le _,Nat.zero_le _,rfl,rfl,rfl,OwnVs.nil _ _ _ _,Ext.refl _⟩
 case round =>
  obtain ⟨k,A',c',vs,hk,hk8,rfl,rfl,hvl,hvs,hx⟩:=hrel;obtain ⟨ws,rfl⟩:∃ ws:World,ws=wr:=⟨_,rfl⟩;have HX:=Hd hx;have HVS:=Hd hvs;have HVL:=Hd hvl;have hsz:=hx.size;clear hx hvs hvl;by_cases hlt:k<nr∧k<8
  ·obtain ⟨hlt1,hlt2⟩:=hlt;have hks:k<rs.length:=(by rw [← HNR.o]; exact hlt1);obtain ⟨bB,oB,hB,_,cB⟩:=(HRD.o.keep ((HX4.o.trans HX.o).kept _)).at_ (show (rs.map (Value.int .i64))[k]?=some (.int .i64 (rs[k]'hks)) by rw [List.getElem?_map,List.getElem?_eq_getElem hks]; rfl);subst hB;obtain ⟨z,ez⟩:∃ z,z=rs[k]'hks:=⟨_,rfl⟩;rw [← ez] at cB;have i0:(0:Int)≤(k:Int):=(by omega);have i1:(k:Int)<(nr:Int):=(by omega);have i2:(k:Int)<8:=(by omega);clear ez hks
   go_wp2_with fail
   refine (r25_ValueV z ws).mono ?_;rintro e5 w5 ⟨kd,sv,va,vb,vc,hiv,rfl,hx5⟩;have HX5:=Hd hx5;have HIV:=Hd hiv;obtain ⟨ys,hown,hvl2⟩:=HVS.o.ext (hx5.alloc (.cells (vcells ⟨kd,sv,va,vb,vc,[],[]⟩ none 0 none 0).toArray 47));rw [HVL.o] at hown;have HOV:=Hd hown;have HV2:=Hd hvl2;have hs5:=hx5.size;clear hx5 hiv hown hvl2
   go_wp2_with (at_builtin; go_must (refine wpList_app rfl (.tmp 40) (.tmp 46) rfl tiV rfl HOV.o rfl (Blk.rd (Blk.new _ _ _)) rfl (by simp [Value.oneCell']) (by omega) (by decide) (by simp; omega) ?_); intro A5 c5 w6 hown6 hg6 hat6)
   go_roundw
   case rel =>
    refine ⟨k+1,A5,c5,vs++[⟨kd,sv,va,vb,vc,[],[]⟩],by omega,by omega,rfl,by go_num,by rw [List.length_append,HVL.o]; rfl,OwnVs.push HV2.o (by rw [HVL.o]; exact hown6) hg6 hat6 ⟨Nat.one_pos,Nat.le_refl _,Nat.le_refl _⟩ (isV_rv HIV.o),((HX.o.trans HX5.o).alloc _).grown hg6 fun b e=>(HVS.o.blk e).1⟩
   case measure=>simp [intOf]; omega
  ·have HLT:=Hd hlt;obtain ⟨nb,enb⟩:∃ nb,nb=decide (k<nr):=⟨_,rfl⟩;have hcap:k≤c':=(by rw [← HVL.o]; obtain ⟨_,h1,_⟩:=HVS.o; exact Own.cap h1);have HB8S:=Hd (HB8.o.keep (HX.o.kept _));have HK5S:=Hd (HK5.o.keep ((HX4.o.trans HX.o).kept _));have HASS:=Hd (HAS.o.keep (HX.o.kept _));have HCALL:=Hd (show ∀ w':World,Ext ws w'→Calls Tryz.prog 27 #[.agg #[.slice A3 nY c3,.int .i64 (dp:Int),.int .i64 (lo:Int)],.agg #[.int .i64 q0,.int .i64 q1,.int .i64 q2]] w' (RetBt w' 1) from fun w' hx=>by
    have h1:=r25_Bent 1 Nat.one_pos Y A3 c3 (dp:Int) (lo:Int) q0 q1 q2 w' _ (HASS.o.keep (hx.kept _)) HOK.o (by omega) (by omega);rw [← HNY.o] at h1;exact h1)
   have Q0:=Hd (HB8S.o.cell (i:=0) rfl);have Q1:=Hd (HB8S.o.cell (i:=1) rfl);have Q2:=Hd (HB8S.o.cell (i:=2) rfl);have Q3:=Hd (HK5S.o.cell (i:=0) rfl);have Q4:=Hd (HK5S.o.cell (i:=1) rfl);have Q5:=Hd (HK5S.o.cell (i:=2) rfl);by_cases hb0:k<nr
   ·have i1:(k:Int)<(nr:Int):=(by omega);have i2:¬ (k:Int)<8:=(by have:=HLT.o; omega);clear hlt
    go_upto_region 8 with fail
    refine wp_region_chain (by kernel_rfl) (fun i=>[i]) (by kernel_rfl) (LZ (fun _ _=>False)) (LZ.refl _) (LZ.trans _) (LK []) gz0 (LK.zero _) ?_;apply Chain.pure (LZ.refl _) (by rfl)
    ·intro vals γ w' ρ hR hN hp hρ hc hf hg;refine ⟨rfl,?_⟩;have e8:=hρ 8;(conv at e8=>rhs; whnf);have hxx:=hR.ext0 (fun _ _ _ h=>h.elim);have m0:=hxx.cell Q0.o;have m1:=hxx.cell Q1.o;have m2:=hxx.cell Q2.o;have m3:=hxx.cell Q3.o;have m4:=hxx.cell Q4.o;have m5:=hxx.cell Q5.o;clear hxx hR hN hp hρ;go_light;go_simp;exact ⟨rfl,rfl⟩
    ·rfl
    apply Chain.pure (LZ.refl _) (by rfl)
    ·intro vals γ w' ρ hR hN hp hρ hc hf hg;refine ⟨rfl,?_⟩;have e8:=hρ 8;(conv at e8=>rhs; whnf);have hxx:=hR.ext0 (fun _ _ _ h=>h.elim);have m0:=hxx.cell Q0.o;have m1:=hxx.cell Q1.o;have m2:=hxx.cell Q2.o;have m3:=hxx.cell Q3.o;have m4:=hxx.cell Q4.o;have m5:=hxx.cell Q5.o;clear hxx hR hN hp hρ;go_light;go_simp;exact ⟨rfl,rfl⟩
    ·rfl
    apply Chain.pure (LZ.refl _) (by rfl)
    ·intro vals γ w' ρ hR hN hp hρ hc hf hg;refine ⟨rfl,?_⟩;have e5:=hρ 5;(conv at e5=>rhs; whnf);have hxx:=hR.ext0 (fun _ _ _ h=>h.elim);have m0:=hxx.cell Q0.o;have m1:=hxx.cell Q1.o;have m2:=hxx.cell Q2.o;have m3:=hxx.cell Q3.o;have m4:=hxx.cell Q4.o;have m5:=hxx.cell Q5.o;clear hxx hR hN hp hρ;go_light;go_simp;exact ⟨rfl,rfl⟩
    ·rfl
    refine Chain.step (FP fun v γ w'=>BnF ws.heap.size 1 v w') (by rfl) (FP.stab ?_) ?_ ?_
    ·rintro v γ w1 γ' w2 rr ⟨Y',AB,cB,dp',lo',h1,h2⟩;exact ⟨Y',AB,cB,dp',lo',h1,h2.keep (rr.keptS fun b _ _ m hm=>hm.elim)⟩
    ·intro vals γ w' ρ hR hN hp hρ hc hf hg;refine ⟨rfl,?_⟩;have e49:ρ (.tmp 49)=_:=(hρ 49).trans (hp 1 (by decide));have e50:ρ (.tmp 50)=_:=(hρ 50).trans (hp 2 (by decide));have HR:=Hd hR;have hxx:=hR.ext0 (fun _ _ _ h=>h.elim);have HXW:=Hd hxx;clear hxx hR hN hp hρ;go_light;go_simp;refine (HCALL.o w' HXW.o).mono ?_;rintro e1 w3 ⟨Y',AB,cB,dp',lo',he,has,hx⟩;exact ⟨_,he,γ,LZ.of_ext _ γ hx,fun _ _ _ h=>h,Y',AB,cB,dp',lo',rfl,has.mono fun b _ e=>Nat.le_trans HR.o.size e⟩
    refine Chain.step (FP fun v γ w'=>BnG ws.heap.size A3 nY c3 (dp:Int) (lo:Int) v w') (by rfl) (FP.stab ?_) ?_ ?_
    ·rintro v γ w1 γ' w2 rr ⟨g,Y',AB,cB,dp',lo',h1,h2,h3⟩;exact ⟨g,Y',AB,cB,dp',lo',h1,h2.keep (rr.keptS fun b _ _ m hm=>hm.elim),h3.keep (rr.keptS fun b _ _ m hm=>hm.elim)⟩
    ·intro vals γ w' ρ hR hN hp hρ hc hf hg;refine ⟨rfl,?_⟩;have e48:ρ (.tmp 48)=_:=(hρ 48).trans (hp 0 (by decide));obtain ⟨Y',AB,cB,dp',lo',hv,has⟩:=hp 3 (by decide);have e51:=(hρ 51).trans hv;have HR:=Hd hR;have HA:=Hd has;clear hR hN hp hρ hv has;go_light;go_simp;exact ⟨γ,LZ.of_ext _ γ ((Ext.refl _).alloc _),fun _ _ _ h=>h,_,Y',AB,cB,dp',lo',rfl,Blk.new _ _ _,HA.o.keep (Kept.alloc _ _ _)⟩
    apply Chain.pure (LZ.refl _) (by rfl)
    ·intro vals γ w' ρ hR hN hp hρ hc hf hg;refine ⟨rfl,?_⟩;obtain ⟨g,Y',AB,cB,dp',lo',hv,hb,has⟩:=hp 4 (by decide);have e52:=(hρ 52).trans hv;clear hR hN hp hρ;go_light;go_simp;exact ⟨rfl,rfl⟩
    ·rfl
    apply Chain.pure (LZ.refl _) (by rfl)
    ·intro vals γ w' ρ hR hN hp hρ hc hf hg;refine ⟨rfl,?_⟩;clear hR hN hp hρ;go_light;go_simp;exact ⟨rfl,rfl⟩
    ·rfl
    intro vals γ w9 hR hG;have v0:vals 0=_:=hG 0 (by decide);have v1:vals 1=_:=hG 1 (by decide);have v2:vals 2=_:=hG 2 (by decide);obtain ⟨Y3,A3',c3',d3,l3,v3,-⟩:=hG 3 (by decide);obtain ⟨g,Y',AB,cB,dp',lo',v4,hbg,hasg⟩:=hG 4 (by decide);have v5:vals 5=_:=hG 5 (by decide);have v6:vals 6=_:=hG 6 (by decide);simp only [lexFrame,Act.put,List.setIfInBounds_toArray,List.set_cons_succ,List.set_cons_zero,Nat.zero_add,Nat.reduceAdd,v0,v1,v2,v3,v4,v5,v6];clear v0 v1 v2 v3 v4 v5 v6;have HX9:=Hd (show Ext ws w9 from hR.ext0 (fun _ _ _ h=>h.elim));have HBG:=Hd hbg;have HASG:=Hd hasg;clear hR hG hbg hasg;obtain ⟨n',en'⟩:∃ x,x=Y'.length:=⟨_,rfl⟩;have HN':=Hd en';rw [← en'] at HBG;clear Q0 Q1 Q2 Q3 Q4 Q5 en';obtain ⟨wz,ewz⟩:∃ wz:World,wz=w9:=⟨_,rfl⟩;rw [← ewz] at HX9 HBG HASG ⊢;clear ewz;go_wp2
    go_loopw [13,14,15,16,17,18,54] (fun _u13 _u14 _u15 _u16 _u17 _u18 i wr=>∃ p:Nat,p≤2∧i=.int .i64 (p:Int)∧Ext wz wr) (fun _ _ _ _ _ _ i _=>2-(intOf i).toNat)
    case atStart=>exact ⟨0,by omega,rfl,Ext.refl _⟩
    case round =>
     obtain ⟨p,hp2,rfl,hx⟩:=hrel;obtain ⟨wa,rfl⟩:∃ wa:World,wa=wr:=⟨_,rfl⟩;have HXA:=Hd hx;by_cases hlp:p<2
     ·obtain ⟨Yp,Ap,np,cp,dpp,lop,ep,t0,t1,t2,hasp⟩:=two_plans (HBG.o.keep (hx.kept _)) (HASS.o.keep ((HX9.o.trans hx).kept _)) (HASG.o.keep (hx.kept _)) HNY.o HN'.out hlp;have HEP:=Hd ep;obtain ⟨b13,eb13⟩:∃ b,b=wa.heap.size:=⟨_,rfl⟩;obtain ⟨wb,hwb⟩:∃ x,x=wa.alloc (.cells #[.slice Ap np cp,.int .i64 dpp,.int .i64 lop] 29):=⟨_,rfl⟩;have hxab:Ext wa wb:=(by rw [hwb]; exact (Ext.refl _).alloc _);have HB13:=Hd (show Blk wb b13 29 #[.slice Ap np cp,.int .i64 dpp,.int .i64 lop] by rw [hwb,eb13]; exact Blk.new _ _ _);have HASP:=Hd (hasp.keep (hxab.kept _));have HXAB:=Hd (hx.trans hxab);have HVSB:=Hd (show Row wb (fun _=>True) 1 A' vs from (HVS.o.ext (HX9.o.trans (hx.trans hxab))).row (by rw [HVL.o]; omega) (fun _ _=>trivial) fun _ _=>trivial);have j1:(p:Int)<2:=(by omega);have j2:(0:Int)≤(p:Int):=(by omega);clear hx hxab hasp ep
      go_upto_region 11 with fail
      rw [← hwb,← eb13];clear hwb eb13 t0 t1 t2;go_wp2
      go_loopw [14,15,16,17,18,61] (fun _u14 _u15 _u16 _u17 _u18 i wr=>∃ q:Nat,q≤k+1∧i=.int .i64 (q:Int)∧Ext wb wr) (fun _ _ _ _ _ i _=>k+1-(intOf i).toNat)
      case atStart=>exact ⟨0,by omega,rfl,Ext.refl _⟩
      case round =>
       obtain ⟨q,hq,rfl,hx⟩:=hrel;obtain ⟨wc,rfl⟩:∃ wc:World,wc=wr:=⟨_,rfl⟩;have HXC:=Hd hx;by_cases hlq:q<k+1
       ·obtain ⟨r1,er1⟩:∃ r,r=(followS Yp (vs.take q)).1:=⟨_,rfl⟩;obtain ⟨r2,er2⟩:∃ r,r=(followS Yp (vs.take q)).2:=⟨_,rfl⟩;have hvt:(vs.take q).length=q:=(by rw [List.length_take,HVL.o]; omega);have HF1:=Hd (show ∀ w':World,Ext wc w'→Calls Tryz.prog 28 #[.agg #[.slice Ap np cp,.int .i64 dpp,.int .i64 lop],.slice A' q c'] w' (RetFo w' (r1,r2)) from fun w' hx=>by
         have h1:=question_Follow 1 Yp Ap cp dpp lop (vs.take q) A' c' w' _ _ (HASP.o.keep ((HXC.o.trans hx).kept _)) (Row.takeB (Row.keep HVSB.o ((HXC.o.trans hx).kept _)) q);rw [← HEP.o,hvt,show followS Yp (vs.take q)=(r1,r2) by rw [er1,er2]] at h1;exact h1)
        have HF2:=Hd (show ∀ w':World,Ext wc w'→Calls Tryz.prog 29 #[.agg #[.slice Ap np cp,.int .i64 dpp,.int .i64 lop],.slice A' q c'] w' (RetFo w' (r1,r2)) from fun w' hx=>by
         have h1:=r25_Follow 1 Yp Ap cp dpp lop (vs.take q) A' c' w' _ _ (HASP.o.keep ((HXC.o.trans hx).kept _)) (Row.takeB (Row.keep HVSB.o ((HXC.o.trans hx).kept _)) q);rw [← HEP.o,hvt,show followS Yp (vs.take q)=(r1,r2) by rw [er1,er2]] at h1;exact h1)
        have hbc:=HB13.o.keep (hx.kept _);have Q0:=Hd (hbc.cell (i:=0) rfl);have Q1:=Hd (hbc.cell (i:=1) rfl);have Q2:=Hd (hbc.cell (i:=2) rfl);have i5:(q:Int)<(k:Int)+1:=(by omega);have i6:(0:Int)≤(q:Int):=(by omega);have i7:q≤c':=(by omega);have i8:(q:Int)≤(c':Int):=(by omega);clear er1 er2 hvt hbc hx
        go_upto_region 14 with fail
        refine wp_region_chain (by kernel_rfl) (fun i=>[i]) (by kernel_rfl) (LZ (fun _ _=>False)) (LZ.refl _) (LZ.trans _) (LK []) gz0 (LK.zero _) ?_;apply Chain.pure (LZ.refl _) (by rfl)
        ·intro vals γ w' ρ hR hN hp hρ hc hf hg;refine ⟨rfl,?_⟩;have e13:=hρ 13;(conv at e13=>rhs; whnf);have hxx:=hR.ext0 (fun _ _ _ h=>h.elim);have m0:=hxx.cell Q0.o;have m1:=hxx.cell Q1.o;have m2:=hxx.cell Q2.o;clear hxx hR hN hp hρ;go_light;go_simp;exact ⟨rfl,rfl⟩
        ·rfl
        apply Chain.pure (LZ.refl _) (by rfl)
        ·intro vals γ w' ρ hR hN hp hρ hc hf hg;refine ⟨rfl,?_⟩;have e10:=hρ 10;(conv at e10=>rhs; whnf);clear hR hN hp hρ;go_light;go_simp;exact ⟨rfl,rfl⟩
        ·rfl
        apply Chain.pure (LZ.refl _) (by rfl)
        ·intro vals γ w' ρ hR hN hp hρ hc hf hg;refine ⟨rfl,?_⟩;have e14:=hρ 14;(conv at e14=>rhs; whnf);clear hR hN hp hρ;go_light;go_simp;exact ⟨rfl,rfl⟩
        ·rfl
        apply Chain.pure (LZ.refl _) (by rfl)
        ·intro vals γ w' ρ hR hN hp hρ hc hf hg;refine ⟨rfl,?_⟩;have e66:ρ (.tmp 66)=_:=(hρ 66).trans (hp 1 (by decide));have e67:ρ (.tmp 67)=_:=(hρ 67).trans (hp 2 (by decide));clear hR hN hp hρ;go_light;go_simp;exact ⟨rfl,rfl⟩
        ·rfl
        refine Chain.step (FP fun v γ w'=>v=.tuple #[.int .i64 r1,.bool r2]) (by rfl) (FP.stab ?_) ?_ ?_
        ·intro v γ w1 γ' w2 r h;exact h
        ·intro vals γ w' ρ hR hN hp hρ hc hf hg;refine ⟨rfl,?_⟩;have e65:ρ (.tmp 65)=_:=(hρ 65).trans (hp 0 (by decide));have e68:ρ (.tmp 68)=_:=(hρ 68).trans (hp 3 (by decide));have HR:=Hd hR;have hxx:=hR.ext0 (fun _ _ _ h=>h.elim);have HXW:=Hd hxx;clear hxx hR hN hp hρ;go_light;go_simp;refine (HF1.o w' HXW.o).mono ?_;rintro e1 w3 ⟨he,hx⟩;exact ⟨_,he,γ,LZ.of_ext _ γ hx,fun _ _ _ h=>h,rfl⟩
        refine Chain.step (FP fun v γ w'=>v=.tuple #[.int .i64 r1,.bool r2]) (by rfl) (FP.stab ?_) ?_ ?_
        ·intro v γ w1 γ' w2 r h;exact h
        ·intro vals γ w' ρ hR hN hp hρ hc hf hg;refine ⟨rfl,?_⟩;have hg:=hp 4 (by decide);have e69:=hρ 69;(conv at e69=>rhs; whnf);have HG:=Hd hg;clear hR hN hp hρ hg;go_light;go_simp;exact ⟨γ,LZ.refl _ _ _,fun _ _ _ h=>h,HG.o⟩
        apply Chain.pure (LZ.refl _) (by rfl)
        ·intro vals γ w' ρ hR hN hp hρ hc hf hg;refine ⟨rfl,?_⟩;have e64:ρ (.tmp 64)=_:=(hρ 64).trans (hp 5 (by decide));clear hR hN hp hρ;go_light;go_simp;exact ⟨rfl,rfl⟩
        ·rfl
        apply Chain.pure (LZ.refl _) (by rfl)
        ·intro vals γ w' ρ hR hN hp hρ hc hf hg;refine ⟨rfl,?_⟩;have e64:ρ (.tmp 64)=_:=(hρ 64).trans (hp 5 (by decide));clear hR hN hp hρ;go_light;go_simp;exact ⟨rfl,rfl⟩
        ·rfl
        apply Chain.pure (LZ.refl _) (by rfl)
        ·intro vals γ w' ρ hR hN hp hρ hc hf hg;refine ⟨rfl,?_⟩;have e70:ρ (.tmp 70)=_:=(hρ 70).trans (hp 6 (by decide));clear hR hN hp hρ;go_light;go_simp;exact ⟨rfl,rfl⟩
        ·rfl
        apply Chain.pure (LZ.refl _) (by rfl)
        ·intro vals γ w' ρ hR hN hp hρ hc hf hg;refine ⟨rfl,?_⟩;have e71:ρ (.tmp 71)=_:=(hρ 71).trans (hp 7 (by decide));clear hR hN hp hρ;go_light;go_simp;exact ⟨rfl,rfl⟩
        ·rfl
        intro vals γ w9 hR hG;have v0:vals 0=_:=hG 0 (by decide);have v1:vals 1=_:=hG 1 (by decide);have v2:vals 2=_:=hG 2 (by decide);have v3:vals 3=_:=hG 3 (by decide);have v4:vals 4=_:=hG 4 (by decide);have v5:vals 5=_:=hG 5 (by decide);have v6:vals 6=_:=hG 6 (by decide);have v7:vals 7=_:=hG 7 (by decide);have v8:vals 8=_:=hG 8 (by decide);have v9:vals 9=_:=hG 9 (by decide);simp only [lexFrame,Act.put,List.setIfInBounds_toArray,List.set_cons_succ,List.set_cons_zero,Nat.zero_add,Nat.reduceAdd,v0,v1,v2,v3,v4,v5,v6,v7,v8,v9];clear v0 v1 v2 v3 v4 v5 v6 v7 v8 v9;have HXN:=Hd (show Ext wc w9 from hR.ext0 (fun _ _ _ h=>h.elim));clear hR hG;obtain ⟨wd,ewd⟩:∃ wd:World,wd=w9:=⟨_,rfl⟩;rw [← ewd] at HXN ⊢;have HF2':=Hd (show ∀ w':World,Ext wd w'→Calls Tryz.prog 29 #[.agg #[.slice Ap np cp,.int .i64 dpp,.int .i64 lop],.slice A' q c'] w' (RetFo w' (r1,r2)) from fun w' hx=>HF2.o w' (HXN.o.trans hx));have q0':=HXN.o.cell Q0.o;have q1':=HXN.o.cell Q1.o;have q2':=HXN.o.cell Q2.o;clear ewd Q0 Q1 Q2;have Q0:=Hd q0';have Q1:=Hd q1';have Q2:=Hd q2';clear q0' q1' q2' w9
        go_upto_region 15 with fail
        refine wp_region_chain (by kernel_rfl) (fun i=>[i]) (by kernel_rfl) (LZ (fun _ _=>False)) (LZ.refl _) (LZ.trans _) (LK []) gz0 (LK.zero _) ?_;apply Chain.pure (LZ.refl _) (by rfl)
        ·intro vals γ w' ρ hR hN hp hρ hc hf hg;refine ⟨rfl,?_⟩;have e13:=hρ 13;(conv at e13=>rhs; whnf);have hxx:=hR.ext0 (fun _ _ _ h=>h.elim);have m0:=hxx.cell Q0.o;have m1:=hxx.cell Q1.o;have m2:=hxx.cell Q2.o;clear hxx hR hN hp hρ;go_light;go_simp;exact ⟨rfl,rfl⟩
        ·rfl
        apply Chain.pure (LZ.refl _) (by rfl)
        ·intro vals γ w' ρ hR hN hp hρ hc hf hg;refine ⟨rfl,?_⟩;have e10:=hρ 10;(conv at e10=>rhs; whnf);clear hR hN hp hρ;go_light;go_simp;exact ⟨rfl,rfl⟩
        ·rfl
        apply Chain.pure (LZ.refl _) (by rfl)
        ·intro vals γ w' ρ hR hN hp hρ hc hf hg;refine ⟨rfl,?_⟩;have e14:=hρ 14;(conv at e14=>rhs; whnf);clear hR hN hp hρ;go_light;go_simp;exact ⟨rfl,rfl⟩
        ·rfl
        apply Chain.pure (LZ.refl _) (by rfl)
        ·intro vals γ w' ρ hR hN hp hρ hc hf hg;refine ⟨rfl,?_⟩;have e74:ρ (.tmp 74)=_:=(hρ 74).trans (hp 1 (by decide));have e75:ρ (.tmp 75)=_:=(hρ 75).trans (hp 2 (by decide));clear hR hN hp hρ;go_light;go_simp;exact ⟨rfl,rfl⟩
        ·rfl
        refine Chain.step (FP fun v γ w'=>v=.tuple #[.int .i64 r1,.bool r2]) (by rfl) (FP.stab ?_) ?_ ?_
        ·intro v γ w1 γ' w2 r h;exact h
        ·intro vals γ w' ρ hR hN hp hρ hc hf hg;refine ⟨rfl,?_⟩;have e73:ρ (.tmp 73)=_:=(hρ 73).trans (hp 0 (by decide));have e76:ρ (.tmp 76)=_:=(hρ 76).trans (hp 3 (by decide));have HR:=Hd hR;have hxx:=hR.ext0 (fun _ _ _ h=>h.elim);have HXW:=Hd hxx;clear hxx hR hN hp hρ;go_light;go_simp;refine (HF2'.out w' HXW.o).mono ?_;rintro e1 w3 ⟨he,hx⟩;exact ⟨_,he,γ,LZ.of_ext _ γ hx,fun _ _ _ h=>h,rfl⟩
        refine Chain.step (FP fun v γ w'=>v=.tuple #[.int .i64 r1,.bool r2]) (by rfl) (FP.stab ?_) ?_ ?_
        ·intro v γ w1 γ' w2 r h;exact h
        ·intro vals γ w' ρ hR hN hp hρ hc hf hg;refine ⟨rfl,?_⟩;have hg:=hp 4 (by decide);have e77:=hρ 77;(conv at e77=>rhs; whnf);have HG:=Hd hg;clear hR hN hp hρ hg;go_light;go_simp;exact ⟨γ,LZ.refl _ _ _,fun _ _ _ h=>h,HG.o⟩
        apply Chain.pure (LZ.refl _) (by rfl)
        ·intro vals γ w' ρ hR hN hp hρ hc hf hg;refine ⟨rfl,?_⟩;have e72:ρ (.tmp 72)=_:=(hρ 72).trans (hp 5 (by decide));clear hR hN hp hρ;go_light;go_simp;exact ⟨rfl,rfl⟩
        ·rfl
        apply Chain.pure (LZ.refl _) (by rfl)
        ·intro vals γ w' ρ hR hN hp hρ hc hf hg;refine ⟨rfl,?_⟩;have e72:ρ (.tmp 72)=_:=(hρ 72).trans (hp 5 (by decide));clear hR hN hp hρ;go_light;go_simp;exact ⟨rfl,rfl⟩
        ·rfl
        apply Chain.pure (LZ.refl _) (by rfl)
        ·intro vals γ w' ρ hR hN hp hρ hc hf hg;refine ⟨rfl,?_⟩;have e78:ρ (.tmp 78)=_:=(hρ 78).trans (hp 6 (by decide));clear hR hN hp hρ;go_light;go_simp;exact ⟨rfl,rfl⟩
        ·rfl
        apply Chain.pure (LZ.refl _) (by rfl)
        ·intro vals γ w' ρ hR hN hp hρ hc hf hg;refine ⟨rfl,?_⟩;have e79:ρ (.tmp 79)=_:=(hρ 79).trans (hp 7 (by decide));clear hR hN hp hρ;go_light;go_simp;exact ⟨rfl,rfl⟩
        ·rfl
        intro vals γ w9 hR hG;have v0:vals 0=_:=hG 0 (by decide);have v1:vals 1=_:=hG 1 (by decide);have v2:vals 2=_:=hG 2 (by decide);have v3:vals 3=_:=hG 3 (by decide);have v4:vals 4=_:=hG 4 (by decide);have v5:vals 5=_:=hG 5 (by decide);have v6:vals 6=_:=hG 6 (by decide);have v7:vals 7=_:=hG 7 (by decide);have v8:vals 8=_:=hG 8 (by decide);have v9:vals 9=_:=hG 9 (by decide);simp only [lexFrame,Act.put,List.setIfInBounds_toArray,List.set_cons_succ,List.set_cons_zero,Nat.zero_add,Nat.reduceAdd,v0,v1,v2,v3,v4,v5,v6,v7,v8,v9];clear v0 v1 v2 v3 v4 v5 v6 v7 v8 v9;have HXO:=Hd (show Ext wd w9 from hR.ext0 (fun _ _ _ h=>h.elim));clear hR hG;have j0:(r1 != r1)=false:=(by simp);have j3:(r2 != r2)=false:=(by simp);have HXE:=Hd (HXC.o.trans (HXN.o.trans HXO.o));go_wp2;go_roundw
        case rel=>exact ⟨q+1,by omega,by go_num,HXE.o⟩
        case measure=>simp [intOf]; omega
       ·obtain rfl:q=k+1:=by omega
        have i5:¬ ((k+1:Nat):Int)<(k:Int)+1:=(by omega);go_wp2;go_roundw
        case rel=>exact ⟨p+1,by omega,by go_num,HXAB.o.trans HXC.o⟩
        case measure=>simp [intOf]; omega
     ·obtain rfl:p=2:=by omega
      go_wp2;go_ret;exact ⟨rfl,HX0.o.trans (HX4.o.trans (HX.o.trans (HX9.o.trans HXA.o)))⟩
   ·have i1:¬ (k:Int)<(nr:Int):=(by omega);clear hlt
    go_upto_region 8 with fail
    refine wp_region_chain (by kernel_rfl) (fun i=>[i]) (by kernel_rfl) (LZ (fun _ _=>False)) (LZ.refl _) (LZ.trans _) (LK []) gz0 (LK.zero _) ?_;apply Chain.pure (LZ.refl _) (by rfl)
    ·intro vals γ w' ρ hR hN hp hρ hc hf hg;refine ⟨rfl,?_⟩;have e8:=hρ 8;(conv at e8=>rhs; whnf);have hxx:=hR.ext0 (fun _ _ _ h=>h.elim);have m0:=hxx.cell Q0.o;have m1:=hxx.cell Q1.o;have m2:=hxx.cell Q2.o;have m3:=hxx.cell Q3.o;have m4:=hxx.cell Q4.o;have m5:=hxx.cell Q5.o;clear hxx hR hN hp hρ;go_light;go_simp;exact ⟨rfl,rfl⟩
    ·rfl
    apply Chain.pure (LZ.refl _) (by rfl)
    ·intro vals γ w' ρ hR hN hp hρ hc hf hg;refine ⟨rfl,?_⟩;have e8:=hρ 8;(conv at e8=>rhs; whnf);have hxx:=hR.ext0 (fun _ _ _ h=>h.elim);have m0:=hxx.cell Q0.o;have m1:=hxx.cell Q1.o;have m2:=hxx.cell Q2.o;have m3:=hxx.cell Q3.o;have m4:=hxx.cell Q4.o;have m5:=hxx.cell Q5.o;clear hxx hR hN hp hρ;go_light;go_simp;exact ⟨rfl,rfl⟩
    ·rfl
    apply Chain.pure (LZ.refl _) (by rfl)
    ·intro vals γ w' ρ hR hN hp hρ hc hf hg;refine ⟨rfl,?_⟩;have e5:=hρ 5;(conv at e5=>rhs; whnf);have hxx:=hR.ext0 (fun _ _ _ h=>h.elim);have m0:=hxx.cell Q0.o;have m1:=hxx.cell Q1.o;have m2:=hxx.cell Q2.o;have m3:=hxx.cell Q3.o;have m4:=hxx.cell Q4.o;have m5:=hxx.cell Q5.o;clear hxx hR hN hp hρ;go_light;go_simp;exact ⟨rfl,rfl⟩
    ·rfl
    refine Chain.step (FP fun v γ w'=>BnF ws.heap.size 1 v w') (by rfl) (FP.stab ?_) ?_ ?_
    ·rintro v γ w1 γ' w2 rr ⟨Y',AB,cB,dp',lo',h1,h2⟩;exact ⟨Y',AB,cB,dp',lo',h1,h2.keep (rr.keptS fun b _ _ m hm=>hm.elim)⟩
    ·intro vals γ w' ρ hR hN hp hρ hc hf hg;refine ⟨rfl,?_⟩;have e49:ρ (.tmp 49)=_:=(hρ 49).trans (hp 1 (by decide));have e50:ρ (.tmp 50)=_:=(hρ 50).trans (hp 2 (by decide));have HR:=Hd hR;have hxx:=hR.ext0 (fun _ _ _ h=>h.elim);have HXW:=Hd hxx;clear hxx hR hN hp hρ;go_light;go_simp;refine (HCALL.o w' HXW.o).mono ?_;rintro e1 w3 ⟨Y',AB,cB,dp',lo',he,has,hx⟩;exact ⟨_,he,γ,LZ.of_ext _ γ hx,fun _ _ _ h=>h,Y',AB,cB,dp',lo',rfl,has.mono fun b _ e=>Nat.le_trans HR.o.size e⟩
    refine Chain.step (FP fun v γ w'=>BnG ws.heap.size A3 nY c3 (dp:Int) (lo:Int) v w') (by rfl) (FP.stab ?_) ?_ ?_
    ·rintro v γ w1 γ' w2 rr ⟨g,Y',AB,cB,dp',lo',h1,h2,h3⟩;exact ⟨g,Y',AB,cB,dp',lo',h1,h2.keep (rr.keptS fun b _ _ m hm=>hm.elim),h3.keep (rr.keptS fun b _ _ m hm=>hm.elim)⟩
    ·intro vals γ w' ρ hR hN hp hρ hc hf hg;refine ⟨rfl,?_⟩;have e48:ρ (.tmp 48)=_:=(hρ 48).trans (hp 0 (by decide));obtain ⟨Y',AB,cB,dp',lo',hv,has⟩:=hp 3 (by decide);have e51:=(hρ 51).trans hv;have HR:=Hd hR;have HA:=Hd has;clear hR hN hp hρ hv has;go_light;go_simp;exact ⟨γ,LZ.of_ext _ γ ((Ext.refl _).alloc _),fun _ _ _ h=>h,_,Y',AB,cB,dp',lo',rfl,Blk.new _ _ _,HA.o.keep (Kept.alloc _ _ _)⟩
    apply Chain.pure (LZ.refl _) (by rfl)
    ·intro vals γ w' ρ hR hN hp hρ hc hf hg;refine ⟨rfl,?_⟩;obtain ⟨g,Y',AB,cB,dp',lo',hv,hb,has⟩:=hp 4 (by decide);have e52:=(hρ 52).trans hv;clear hR hN hp hρ;go_light;go_simp;exact ⟨rfl,rfl⟩
    ·rfl
    apply Chain.pure (LZ.refl _) (by rfl)
    ·intro vals γ w' ρ hR hN hp hρ hc hf hg;refine ⟨rfl,?_⟩;clear hR hN hp hρ;go_light;go_simp;exact ⟨rfl,rfl⟩
    ·rfl
    intro vals γ w9 hR hG;have v0:vals 0=_:=hG 0 (by decide);have v1:vals 1=_:=hG 1 (by decide);have v2:vals 2=_:=hG 2 (by decide);obtain ⟨Y3,A3',c3',d3,l3,v3,-⟩:=hG 3 (by decide);obtain ⟨g,Y',AB,cB,dp',lo',v4,hbg,hasg⟩:=hG 4 (by decide);have v5:vals 5=_:=hG 5 (by decide);have v6:vals 6=_:=hG 6 (by decide);simp only [lexFrame,Act.put,List.setIfInBounds_toArray,List.set_cons_succ,List.set_cons_zero,Nat.zero_add,Nat.reduceAdd,v0,v1,v2,v3,v4,v5,v6];clear v0 v1 v2 v3 v4 v5 v6;have HX9:=Hd (show Ext ws w9 from hR.ext0 (fun _ _ _ h=>h.elim));have HBG:=Hd hbg;have HASG:=Hd hasg;clear hR hG hbg hasg;obtain ⟨n',en'⟩:∃ x,x=Y'.length:=⟨_,rfl⟩;have HN':=Hd en';rw [← en'] at HBG;clear Q0 Q1 Q2 Q3 Q4 Q5 en';obtain ⟨wz,ewz⟩:∃ wz:World,wz=w9:=⟨_,rfl⟩;rw [← ewz] at HX9 HBG HASG ⊢;clear ewz;go_wp2
    go_loopw [13,14,15,16,17,18,54] (fun _u13 _u14 _u15 _u16 _u17 _u18 i wr=>∃ p:Nat,p≤2∧i=.int .i64 (p:Int)∧Ext wz wr) (fun _ _ _ _ _ _ i _=>2-(intOf i).toNat)
    case atStart=>exact ⟨0,by omega,rfl,Ext.refl _⟩
    case round =>
     obtain ⟨p,hp2,rfl,hx⟩:=hrel;obtain ⟨wa,rfl⟩:∃ wa:World,wa=wr:=⟨_,rfl⟩;have HXA:=Hd hx;by_cases hlp:p<2
     ·obtain ⟨Yp,Ap,np,cp,dpp,lop,ep,t0,t1,t2,hasp⟩:=two_plans (HBG.o.keep (hx.kept _)) (HASS.o.keep ((HX9.o.trans hx).kept _)) (HASG.o.keep (hx.kept _)) HNY.o HN'.out hlp;have HEP:=Hd ep;obtain ⟨b13,eb13⟩:∃ b,b=wa.heap.size:=⟨_,rfl⟩;obtain ⟨wb,hwb⟩:∃ x,x=wa.alloc (.cells #[.slice Ap np cp,.int .i64 dpp,.int .i64 lop] 29):=⟨_,rfl⟩;have hxab:Ext wa wb:=(by rw [hwb]; exact (Ext.refl _).alloc _);have HB13:=Hd (show Blk wb b13 29 #[.slice Ap np cp,.int .i64 dpp,.int .i64 lop] by rw [hwb,eb13]; exact Blk.new _ _ _);have HASP:=Hd (hasp.keep (hxab.kept _));have HXAB:=Hd (hx.trans hxab);have HVSB:=Hd (show Row wb (fun _=>True) 1 A' vs from (HVS.o.ext (HX9.o.trans (hx.trans hxab))).row (by rw [HVL.o]; omega) (fun _ _=>trivial) fun _ _=>trivial);have j1:(p:Int)<2:=(by omega);have j2:(0:Int)≤(p:Int):=(by omega);clear hx hxab hasp ep
      go_upto_region 11 with fail
      rw [← hwb,← eb13];clear hwb eb13 t0 t1 t2;go_wp2
      go_loopw [14,15,16,17,18,61] (fun _u14 _u15 _u16 _u17 _u18 i wr=>∃ q:Nat,q≤k+1∧i=.int .i64 (q:Int)∧Ext wb wr) (fun _ _ _ _ _ i _=>k+1-(intOf i).toNat)
      case atStart=>exact ⟨0,by omega,rfl,Ext.refl _⟩
      case round =>
       obtain ⟨q,hq,rfl,hx⟩:=hrel;obtain ⟨wc,rfl⟩:∃ wc:World,wc=wr:=⟨_,rfl⟩;have HXC:=Hd hx;by_cases hlq:q<k+1
       ·obtain ⟨r1,er1⟩:∃ r,r=(followS Yp (vs.take q)).1:=⟨_,rfl⟩;obtain ⟨r2,er2⟩:∃ r,r=(followS Yp (vs.take q)).2:=⟨_,rfl⟩;have hvt:(vs.take q).length=q:=(by rw [List.length_take,HVL.o]; omega);have HF1:=Hd (show ∀ w':World,Ext wc w'→Calls Tryz.prog 28 #[.agg #[.slice Ap np cp,.int .i64 dpp,.int .i64 lop],.slice A' q c'] w' (RetFo w' (r1,r2)) from fun w' hx=>by
         have h1:=question_Follow 1 Yp Ap cp dpp lop (vs.take q) A' c' w' _ _ (HASP.o.keep ((HXC.o.trans hx).kept _)) (Row.takeB (Row.keep HVSB.o ((HXC.o.trans hx).kept _)) q);rw [← HEP.o,hvt,show followS Yp (vs.take q)=(r1,r2) by rw [er1,er2]] at h1;exact h1)
        have HF2:=Hd (show ∀ w':World,Ext wc w'→Calls Tryz.prog 29 #[.agg #[.slice Ap np cp,.int .i64 dpp,.int .i64 lop],.slice A' q c'] w' (RetFo w' (r1,r2)) from fun w' hx=>by
         have h1:=r25_Follow 1 Yp Ap cp dpp lop (vs.take q) A' c' w' _ _ (HASP.o.keep ((HXC.o.trans hx).kept _)) (Row.takeB (Row.keep HVSB.o ((HXC.o.trans hx).kept _)) q);rw [← HEP.o,hvt,show followS Yp (vs.take q)=(r1,r2) by rw [er1,er2]] at h1;exact h1)
        have hbc:=HB13.o.keep (hx.kept _);have Q0:=Hd (hbc.cell (i:=0) rfl);have Q1:=Hd (hbc.cell (i:=1) rfl);have Q2:=Hd (hbc.cell (i:=2) rfl);have i5:(q:Int)<(k:Int)+1:=(by omega);have i6:(0:Int)≤(q:Int):=(by omega);have i7:q≤c':=(by omega);have i8:(q:Int)≤(c':Int):=(by omega);clear er1 er2 hvt hbc hx
        go_upto_region 14 with fail
        refine wp_region_chain (by kernel_rfl) (fun i=>[i]) (by kernel_rfl) (LZ (fun _ _=>False)) (LZ.refl _) (LZ.trans _) (LK []) gz0 (LK.zero _) ?_;apply Chain.pure (LZ.refl _) (by rfl)
        ·intro vals γ w' ρ hR hN hp hρ hc hf hg;refine ⟨rfl,?_⟩;have e13:=hρ 13;(conv at e13=>rhs; whnf);have hxx:=hR.ext0 (fun _ _ _ h=>h.elim);have m0:=hxx.cell Q0.o;have m1:=hxx.cell Q1.o;have m2:=hxx.cell Q2.o;clear hxx hR hN hp hρ;go_light;go_simp;exact ⟨rfl,rfl⟩
        ·rfl
        apply Chain.pure (LZ.refl _) (by rfl)
        ·intro vals γ w' ρ hR hN hp hρ hc hf hg;refine ⟨rfl,?_⟩;have e10:=hρ 10;(conv at e10=>rhs; whnf);clear hR hN hp hρ;go_light;go_simp;exact ⟨rfl,rfl⟩
        ·rfl
        apply Chain.pure (LZ.refl _) (by rfl)
        ·intro vals γ w' ρ hR hN hp hρ hc hf hg;refine ⟨rfl,?_⟩;have e14:=hρ 14;(conv at e14=>rhs; whnf);clear hR hN hp hρ;go_light;go_simp;exact ⟨rfl,rfl⟩
        ·rfl
        apply Chain.pure (LZ.refl _) (by rfl)
        ·intro vals γ w' ρ hR hN hp hρ hc hf hg;refine ⟨rfl,?_⟩;have e66:ρ (.tmp 66)=_:=(hρ 66).trans (hp 1 (by decide));have e67:ρ (.tmp 67)=_:=(hρ 67).trans (hp 2 (by decide));clear hR hN hp hρ;go_light;go_simp;exact ⟨rfl,rfl⟩
        ·rfl
        refine Chain.step (FP fun v γ w'=>v=.tuple #[.int .i64 r1,.bool r2]) (by rfl) (FP.stab ?_) ?_ ?_
        ·intro v γ w1 γ' w2 r h;exact h
        ·intro vals γ w' ρ hR hN hp hρ hc hf hg;refine ⟨rfl,?_⟩;have e65:ρ (.tmp 65)=_:=(hρ 65).trans (hp 0 (by decide));have e68:ρ (.tmp 68)=_:=(hρ 68).trans (hp 3 (by decide));have HR:=Hd hR;have hxx:=hR.ext0 (fun _ _ _ h=>h.elim);have HXW:=Hd hxx;clear hxx hR hN hp hρ;go_light;go_simp;refine (HF1.o w' HXW.o).mono ?_;rintro e1 w3 ⟨he,hx⟩;exact ⟨_,he,γ,LZ.of_ext _ γ hx,fun _ _ _ h=>h,rfl⟩
        refine Chain.step (FP fun v γ w'=>v=.tuple #[.int .i64 r1,.bool r2]) (by rfl) (FP.stab ?_) ?_ ?_
        ·intro v γ w1 γ' w2 r h;exact h
        ·intro vals γ w' ρ hR hN hp hρ hc hf hg;refine ⟨rfl,?_⟩;have hg:=hp 4 (by decide);have e69:=hρ 69;(conv at e69=>rhs; whnf);have HG:=Hd hg;clear hR hN hp hρ hg;go_light;go_simp;exact ⟨γ,LZ.refl _ _ _,fun _ _ _ h=>h,HG.o⟩
        apply Chain.pure (LZ.refl _) (by rfl)
        ·intro vals γ w' ρ hR hN hp hρ hc hf hg;refine ⟨rfl,?_⟩;have e64:ρ (.tmp 64)=_:=(hρ 64).trans (hp 5 (by decide));clear hR hN hp hρ;go_light;go_simp;exact ⟨rfl,rfl⟩
        ·rfl
        apply Chain.pure (LZ.refl _) (by rfl)
        ·intro vals γ w' ρ hR hN hp hρ hc hf hg;refine ⟨rfl,?_⟩;have e64:ρ (.tmp 64)=_:=(hρ 64).trans (hp 5 (by decide));clear hR hN hp hρ;go_light;go_simp;exact ⟨rfl,rfl⟩
        ·rfl
        apply Chain.pure (LZ.refl _) (by rfl)
        ·intro vals γ w' ρ hR hN hp hρ hc hf hg;refine ⟨rfl,?_⟩;have e70:ρ (.tmp 70)=_:=(hρ 70).trans (hp 6 (by decide));clear hR hN hp hρ;go_light;go_simp;exact ⟨rfl,rfl⟩
        ·rfl
        apply Chain.pure (LZ.refl _) (by rfl)
        ·intro vals γ w' ρ hR hN hp hρ hc hf hg;refine ⟨rfl,?_⟩;have e71:ρ (.tmp 71)=_:=(hρ 71).trans (hp 7 (by decide));clear hR hN hp hρ;go_light;go_simp;exact ⟨rfl,rfl⟩
        ·rfl
        intro vals γ w9 hR hG;have v0:vals 0=_:=hG 0 (by decide);have v1:vals 1=_:=hG 1 (by decide);have v2:vals 2=_:=hG 2 (by decide);have v3:vals 3=_:=hG 3 (by decide);have v4:vals 4=_:=hG 4 (by decide);have v5:vals 5=_:=hG 5 (by decide);have v6:vals 6=_:=hG 6 (by decide);have v7:vals 7=_:=hG 7 (by decide);have v8:vals 8=_:=hG 8 (by decide);have v9:vals 9=_:=hG 9 (by decide);simp only [lexFrame,Act.put,List.setIfInBounds_toArray,List.set_cons_succ,List.set_cons_zero,Nat.zero_add,Nat.reduceAdd,v0,v1,v2,v3,v4,v5,v6,v7,v8,v9];clear v0 v1 v2 v3 v4 v5 v6 v7 v8 v9;have HXN:=Hd (show Ext wc w9 from hR.ext0 (fun _ _ _ h=>h.elim));clear hR hG;obtain ⟨wd,ewd⟩:∃ wd:World,wd=w9:=⟨_,rfl⟩;rw [← ewd] at HXN ⊢;have HF2':=Hd (show ∀ w':World,Ext wd w'→Calls Tryz.prog 29 #[.agg #[.slice Ap np cp,.int .i64 dpp,.int .i64 lop],.slice A' q c'] w' (RetFo w' (r1,r2)) from fun w' hx=>HF2.o w' (HXN.o.trans hx));have q0':=HXN.o.cell Q0.o;have q1':=HXN.o.cell Q1.o;have q2':=HXN.o.cell Q2.o;clear ewd Q0 Q1 Q2;have Q0:=Hd q0';have Q1:=Hd q1';have Q2:=Hd q2';clear q0' q1' q2' w9
        go_upto_region 15 with fail
        refine wp_region_chain (by kernel_rfl) (fun i=>[i]) (by kernel_rfl) (LZ (fun _ _=>False)) (LZ.refl _) (LZ.trans _) (LK []) gz0 (LK.zero _) ?_;apply Chain.pure (LZ.refl _) (by rfl)
        ·intro vals γ w' ρ hR hN hp hρ hc hf hg;refine ⟨rfl,?_⟩;have e13:=hρ 13;(conv at e13=>rhs; whnf);have hxx:=hR.ext0 (fun _ _ _ h=>h.elim);have m0:=hxx.cell Q0.o;have m1:=hxx.cell Q1.o;have m2:=hxx.cell Q2.o;clear hxx hR hN hp hρ;go_light;go_simp;exact ⟨rfl,rfl⟩
        ·rfl
        apply Chain.pure (LZ.refl _) (by rfl)
        ·intro vals γ w' ρ hR hN hp hρ hc hf hg;refine ⟨rfl,?_⟩;have e10:=hρ 10;(conv at e10=>rhs; whnf);clear hR hN hp hρ;go_light;go_simp;exact ⟨rfl,rfl⟩
        ·rfl
        apply Chain.pure (LZ.refl _) (by rfl)
        ·intro vals γ w' ρ hR hN hp hρ hc hf hg;refine ⟨rfl,?_⟩;have e14:=hρ 14;(conv at e14=>rhs; whnf);clear hR hN hp hρ;go_light;go_simp;exact ⟨rfl,rfl⟩
        ·rfl
        apply Chain.pure (LZ.refl _) (by rfl)
        ·intro vals γ w' ρ hR hN hp hρ hc hf hg;refine ⟨rfl,?_⟩;have e74:ρ (.tmp 74)=_:=(hρ 74).trans (hp 1 (by decide));have e75:ρ (.tmp 75)=_:=(hρ 75).trans (hp 2 (by decide));clear hR hN hp hρ;go_light;go_simp;exact ⟨rfl,rfl⟩
        ·rfl
        refine Chain.step (FP fun v γ w'=>v=.tuple #[.int .i64 r1,.bool r2]) (by rfl) (FP.stab ?_) ?_ ?_
        ·intro v γ w1 γ' w2 r h;exact h
        ·intro vals γ w' ρ hR hN hp hρ hc hf hg;refine ⟨rfl,?_⟩;have e73:ρ (.tmp 73)=_:=(hρ 73).trans (hp 0 (by decide));have e76:ρ (.tmp 76)=_:=(hρ 76).trans (hp 3 (by decide));have HR:=Hd hR;have hxx:=hR.ext0 (fun _ _ _ h=>h.elim);have HXW:=Hd hxx;clear hxx hR hN hp hρ;go_light;go_simp;refine (HF2'.out w' HXW.o).mono ?_;rintro e1 w3 ⟨he,hx⟩;exact ⟨_,he,γ,LZ.of_ext _ γ hx,fun _ _ _ h=>h,rfl⟩
        refine Chain.step (FP fun v γ w'=>v=.tuple #[.int .i64 r1,.bool r2]) (by rfl) (FP.stab ?_) ?_ ?_
        ·intro v γ w1 γ' w2 r h;exact h
        ·intro vals γ w' ρ hR hN hp hρ hc hf hg;refine ⟨rfl,?_⟩;have hg:=hp 4 (by decide);have e77:=hρ 77;(conv at e77=>rhs; whnf);have HG:=Hd hg;clear hR hN hp hρ hg;go_light;go_simp;exact ⟨γ,LZ.refl _ _ _,fun _ _ _ h=>h,HG.o⟩
        apply Chain.pure (LZ.refl _) (by rfl)
        ·intro vals γ w' ρ hR hN hp hρ hc hf hg;refine ⟨rfl,?_⟩;have e72:ρ (.tmp 72)=_:=(hρ 72).trans (hp 5 (by decide));clear hR hN hp hρ;go_light;go_simp;exact ⟨rfl,rfl⟩
        ·rfl
        apply Chain.pure (LZ.refl _) (by rfl)
        ·intro vals γ w' ρ hR hN hp hρ hc hf hg;refine ⟨rfl,?_⟩;have e72:ρ (.tmp 72)=_:=(hρ 72).trans (hp 5 (by decide));clear hR hN hp hρ;go_light;go_simp;exact ⟨rfl,rfl⟩
        ·rfl
        apply Chain.pure (LZ.refl _) (by rfl)
        ·intro vals γ w' ρ hR hN hp hρ hc hf hg;refine ⟨rfl,?_⟩;have e78:ρ (.tmp 78)=_:=(hρ 78).trans (hp 6 (by decide));clear hR hN hp hρ;go_light;go_simp;exact ⟨rfl,rfl⟩
        ·rfl
        apply Chain.pure (LZ.refl _) (by rfl)
        ·intro vals γ w' ρ hR hN hp hρ hc hf hg;refine ⟨rfl,?_⟩;have e79:ρ (.tmp 79)=_:=(hρ 79).trans (hp 7 (by decide));clear hR hN hp hρ;go_light;go_simp;exact ⟨rfl,rfl⟩
        ·rfl
        intro vals γ w9 hR hG;have v0:vals 0=_:=hG 0 (by decide);have v1:vals 1=_:=hG 1 (by decide);have v2:vals 2=_:=hG 2 (by decide);have v3:vals 3=_:=hG 3 (by decide);have v4:vals 4=_:=hG 4 (by decide);have v5:vals 5=_:=hG 5 (by decide);have v6:vals 6=_:=hG 6 (by decide);have v7:vals 7=_:=hG 7 (by decide);have v8:vals 8=_:=hG 8 (by decide);have v9:vals 9=_:=hG 9 (by decide);simp only [lexFrame,Act.put,List.setIfInBounds_toArray,List.set_cons_succ,List.set_cons_zero,Nat.zero_add,Nat.reduceAdd,v0,v1,v2,v3,v4,v5,v6,v7,v8,v9];clear v0 v1 v2 v3 v4 v5 v6 v7 v8 v9;have HXO:=Hd (show Ext wd w9 from hR.ext0 (fun _ _ _ h=>h.elim));clear hR hG;have j0:(r1 != r1)=false:=(by simp);have j3:(r2 != r2)=false:=(by simp);have HXE:=Hd (HXC.o.trans (HXN.o.trans HXO.o));go_wp2;go_roundw
        case rel=>exact ⟨q+1,by omega,by go_num,HXE.o⟩
        case measure=>simp [intOf]; omega
       ·obtain rfl:q=k+1:=by omega
        have i5:¬ ((k+1:Nat):Int)<(k:Int)+1:=(by omega);go_wp2;go_roundw
        case rel=>exact ⟨p+1,by omega,by go_num,HXAB.o.trans HXC.o⟩
        case measure=>simp [intOf]; omega
     ·obtain rfl:p=2:=by omega
      go_wp2;go_ret;exact ⟨rfl,HX0.o.trans (HX4.o.trans (HX.o.trans (HX9.o.trans HXA.o)))⟩
end Go.Proofs.YtomdpipekmcojaaGreatDoor
