/- The reference's Same of plans. Conditions: both read as data. -/
import Derived.Test.YtomdpipekmcojaaGreatDoorBk15
namespace Go.Proofs.YtomdpipekmcojaaGreatDoor
open Go Go.RowKit

def sameP (da db la lb:Int) (a b:List AskD):Bool:=decide (da=db∧la=lb∧a=b)
theorem sameP_not {da db la lb:Int} {a b:List AskD} (h:¬ (da=db∧la=lb∧a=b)):sameP da db la lb a b=false:=decide_eq_false h
theorem sameP_eq (da la:Int) (a b:List AskD):sameP da da la la a b=decide (a=b):=by unfold sameP; simp
theorem take_snoc_eq {α:Type} {a b:List α} {k:Nat} (ha:k<a.length) (hb:k<b.length) (h:a.take k=b.take k) (e:a[k]=b[k]):a.take (k+1)=b.take (k+1):=by
 rw [List.take_succ_eq_append_getElem ha,List.take_succ_eq_append_getElem hb,h,e]
set_option maxRecDepth 100000 in
set_option maxHeartbeats 2000000 in
theorem r25_Same (d:Nat) (a b:List AskD) (A B:Option Addr) (c e:Nat) (da la db lb:Int) (w:World) (S T:Nat→Prop) (ha:AS w S d A a) (hb:AS w T d B b) :
  Calls Tryz.prog 16 #[.agg #[.slice A a.length c,.int .i64 da,.int .i64 la],.agg #[.slice B b.length e,.int .i64 db,.int .i64 lb]] w (RetB w (sameP da db la lb a b)):=by
 obtain ⟨na,ena⟩:∃ n,n=a.length:=⟨_,rfl⟩;obtain ⟨nb,enb⟩:∃ n,n=b.length:=⟨_,rfl⟩;obtain ⟨w0,hw0⟩:∃ w0,w0=(w.alloc (.cells #[.slice A na c,.int .i64 da,.int .i64 la] 29)).alloc (.cells #[.slice B nb e,.int .i64 db,.int .i64 lb] 29):=⟨_,rfl⟩;obtain ⟨p2,hp2⟩:∃ p2,p2=w.heap.size:=⟨_,rfl⟩;obtain ⟨p3,hp3⟩:∃ p3,p3=w.heap.size+1:=⟨_,rfl⟩;have hx0:Ext w w0:=(by rw [hw0]; exact ((Ext.refl w).alloc _).alloc _);have hb2:Blk w0 p2 29 #[.slice A na c,.int .i64 da,.int .i64 la]:=(by rw [hw0,hp2]; exact (Blk.new _ _ _).keep (Kept.alloc _ _ _));have hb3:Blk w0 p3 29 #[.slice B nb e,.int .i64 db,.int .i64 lb]:=by
  rw [hw0,hp3];have:=Blk.new (w.alloc (.cells #[.slice A na c,.int .i64 da,.int .i64 la] 29)) 29 #[.slice B nb e,.int .i64 db,.int .i64 lb]
  simpa using this
 have HA:=Hd (ha.keep (hx0.kept S));have HB:=Hd (hb.keep (hx0.kept T));have HNA:=Hd ena;have HNB:=Hd enb;have HX0:=Hd hx0;have HB2:=Hd hb2;have HB3:=Hd hb3;have HW0:=Hd hw0;have HP2:=Hd hp2;have HP3:=Hd hp3;have hal:=ha.1;have hbl:=hb.1;have q0:=hb2.cell (i:=0) rfl;have q1:=hb2.cell (i:=1) rfl;have q2:=hb2.cell (i:=2) rfl;have s0:=hb3.cell (i:=0) rfl;have s1:=hb3.cell (i:=1) rfl;have s2:=hb3.cell (i:=2) rfl;rw [← ena] at hal ⊢;rw [← enb] at hbl ⊢;clear ha hb hx0 hb2 hb3 hw0 hp2 hp3 ena enb
 go_enter Tryz.func16,Tryz.ntmps16
 go_upto_region 1 with fail
 rw [← HW0.o,← HP3.o,← HP2.o];by_cases h1:da=db
 ·by_cases h2:la=lb
  ·by_cases h3:na=nb
   ·subst h1 h2 h3;have HEND:=Hd (sameP_eq da la a b);go_wp2
    go_loopw [5] (fun i wr=>∃ k:Nat,k≤na∧a.take k=b.take k∧i=.int .i64 (k:Int)∧Ext w0 wr) (fun i _=>na-(intOf i).toNat)
    case atStart=>exact ⟨0,Nat.zero_le _,by simp,rfl,Ext.refl _⟩
    case round =>
     clear q0 q1 q2 s0 s1 s2;obtain ⟨k,hk,hpre,rfl,hx⟩:=hrel;have HX:=Hd hx;have HP:=Hd hpre;have hbk2:=HB2.o.keep (hx.kept _);have hbk3:=HB3.o.keep (hx.kept _);have q0:=hbk2.cell (i:=0) rfl;clear hx hpre;by_cases hlt:k<na
     ·have hka:k<a.length:=(by rw [← HNA.o]; exact hlt);have hkb:k<b.length:=(by rw [← HNB.o]; exact hlt);obtain ⟨ab,ao,Ac,cc,Ar,cr,hA,_,⟨a0,a1,a2⟩,-,hra,hia⟩:=(HA.o.keep (HX.o.kept _)).at_ hka;obtain ⟨bb,bo,Bc,cd,Br,dr,hB,_,⟨b0,b1,b2⟩,-,hrb,hib⟩:=(HB.o.keep (HX.o.kept _)).at_ hkb;subst hA hB;obtain ⟨x,ex⟩:∃ x,x=a[k]:=⟨_,rfl⟩;obtain ⟨y,ey⟩:∃ y,y=b[k]:=⟨_,rfl⟩;rw [← ex] at a0 a1 a2 hra hia;rw [← ey] at b0 b1 b2 hrb hib;have HEX:=Hd ex;have HEY:=Hd ey;obtain ⟨bv,ebv⟩:∃ bv,bv=decide (x.2.1=y.2.1):=⟨_,rfl⟩;have HBV:=Hd ebv;have HSV:=Hd (show ∀ w':World,Ext wr w'→Calls Tryz.prog 34 #[.slice Ac x.2.1.length cc,.slice Bc y.2.1.length cd] w' (RetB w' bv) from fun w' hx=>by
       rw [ebv];exact r06_Same d (fun _=>r06_Equal (d-1)) Ac Bc cc cd x.2.1 y.2.1 w' S T (Row.keep hra (hx.kept _)) (Row.keep hrb (hx.kept _)))
      obtain ⟨xl,exl⟩:∃ n,n=x.2.1.length:=⟨_,rfl⟩;obtain ⟨yl,eyl⟩:∃ n,n=y.2.1.length:=⟨_,rfl⟩;obtain ⟨xn,exn⟩:∃ n,n=x.2.2.length:=⟨_,rfl⟩;obtain ⟨yn,eyn⟩:∃ n,n=y.2.2.length:=⟨_,rfl⟩;obtain ⟨xi,exi⟩:∃ n,n=x.1:=⟨_,rfl⟩;obtain ⟨yi,eyi⟩:∃ n,n=y.1:=⟨_,rfl⟩;have HXN:=Hd exn;have HYN:=Hd eyn;have HXI:=Hd exi;have HYI:=Hd eyi;rw [← exl] at a1 HSV;rw [← eyl] at b1 HSV;rw [← exn] at a2;rw [← eyn] at b2;rw [← exi] at a0;rw [← eyi] at b0;have HIA:=Hd hia;have HIB:=Hd hib;have hxnl:xn≤4294967296:=(by rw [exn]; exact hia.2);have PA0:=Hd (hbk2.cell (i:=0) rfl);have PB0:=Hd (hbk3.cell (i:=0) rfl);have QA0:=Hd a0;have QA1:=Hd a1;have QA2:=Hd a2;have QB0:=Hd b0;have QB1:=Hd b1;have QB2:=Hd b2;have i0:(0:Int)≤(k:Int):=(by omega);have i1:(k:Int)<(na:Int):=(by omega);clear hra hrb hia hib ex ey exl eyl exn eyn exi eyi ebv a0 a1 a2 b0 b1 b2
      go_upto_region 6 with fail
      refine wp_region_chain (by kernel_rfl) (fun i=>[i]) (by kernel_rfl) (LZ (fun _ _=>False)) (LZ.refl _) (LZ.trans _) (LK []) gz0 (LK.zero _) ?_;apply Chain.pure (LZ.refl _) (by rfl)
      ·intro vals γ w' ρ hR hN hp hρ hc hf hg;refine ⟨rfl,?_⟩;have e2:=hρ 2;(conv at e2=>rhs; whnf);clear hR hN hp hρ;go_light;go_simp;exact ⟨rfl,rfl⟩
      ·rfl
      apply Chain.pure (LZ.refl _) (by rfl)
      ·intro vals γ w' ρ hR hN hp hρ hc hf hg;refine ⟨rfl,?_⟩;have e36:ρ (.tmp 36)=_:=(hρ 36).trans (hp 0 (by decide));have hxx:=hR.ext0 (fun _ _ _ h=>h.elim);have k0:=hxx.cell PA0.o;have k1:=hxx.cell PB0.o;have k2:=hxx.cell QA1.o;have k3:=hxx.cell QB1.o;clear hxx hR hN hp hρ;go_light;go_simp;exact ⟨rfl,rfl⟩
      ·rfl
      apply Chain.pure (LZ.refl _) (by rfl)
      ·intro vals γ w' ρ hR hN hp hρ hc hf hg;refine ⟨rfl,?_⟩;have e5:=hρ 5;(conv at e5=>rhs; whnf);clear hR hN hp hρ;go_light;go_simp;exact ⟨rfl,rfl⟩
      ·rfl
      apply Chain.pure (LZ.refl _) (by rfl)
      ·intro vals γ w' ρ hR hN hp hρ hc hf hg;refine ⟨rfl,?_⟩;have e37:ρ (.tmp 37)=_:=(hρ 37).trans (hp 1 (by decide));have e38:ρ (.tmp 38)=_:=(hρ 38).trans (hp 2 (by decide));clear hR hN hp hρ;go_light;go_simp;exact ⟨rfl,rfl⟩
      ·rfl
      apply Chain.pure (LZ.refl _) (by rfl)
      ·intro vals γ w' ρ hR hN hp hρ hc hf hg;refine ⟨rfl,?_⟩;have e39:ρ (.tmp 39)=_:=(hρ 39).trans (hp 3 (by decide));clear hR hN hp hρ;go_light;go_simp;exact ⟨rfl,rfl⟩
      ·rfl
      apply Chain.pure (LZ.refl _) (by rfl)
      ·intro vals γ w' ρ hR hN hp hρ hc hf hg;refine ⟨rfl,?_⟩;have e40:ρ (.tmp 40)=_:=(hρ 40).trans (hp 4 (by decide));have hxx:=hR.ext0 (fun _ _ _ h=>h.elim);have k0:=hxx.cell PA0.o;have k1:=hxx.cell PB0.o;have k2:=hxx.cell QA1.o;have k3:=hxx.cell QB1.o;clear hxx hR hN hp hρ;go_light;go_simp;exact ⟨rfl,rfl⟩
      ·rfl
      apply Chain.pure (LZ.refl _) (by rfl)
      ·intro vals γ w' ρ hR hN hp hρ hc hf hg;refine ⟨rfl,?_⟩;have e3:=hρ 3;(conv at e3=>rhs; whnf);clear hR hN hp hρ;go_light;go_simp;exact ⟨rfl,rfl⟩
      ·rfl
      apply Chain.pure (LZ.refl _) (by rfl)
      ·intro vals γ w' ρ hR hN hp hρ hc hf hg;refine ⟨rfl,?_⟩;have e42:ρ (.tmp 42)=_:=(hρ 42).trans (hp 6 (by decide));have hxx:=hR.ext0 (fun _ _ _ h=>h.elim);have k0:=hxx.cell PA0.o;have k1:=hxx.cell PB0.o;have k2:=hxx.cell QA1.o;have k3:=hxx.cell QB1.o;clear hxx hR hN hp hρ;go_light;go_simp;exact ⟨rfl,rfl⟩
      ·rfl
      apply Chain.pure (LZ.refl _) (by rfl)
      ·intro vals γ w' ρ hR hN hp hρ hc hf hg;refine ⟨rfl,?_⟩;have e5:=hρ 5;(conv at e5=>rhs; whnf);clear hR hN hp hρ;go_light;go_simp;exact ⟨rfl,rfl⟩
      ·rfl
      apply Chain.pure (LZ.refl _) (by rfl)
      ·intro vals γ w' ρ hR hN hp hρ hc hf hg;refine ⟨rfl,?_⟩;have e43:ρ (.tmp 43)=_:=(hρ 43).trans (hp 7 (by decide));have e44:ρ (.tmp 44)=_:=(hρ 44).trans (hp 8 (by decide));clear hR hN hp hρ;go_light;go_simp;exact ⟨rfl,rfl⟩
      ·rfl
      apply Chain.pure (LZ.refl _) (by rfl)
      ·intro vals γ w' ρ hR hN hp hρ hc hf hg;refine ⟨rfl,?_⟩;have e45:ρ (.tmp 45)=_:=(hρ 45).trans (hp 9 (by decide));clear hR hN hp hρ;go_light;go_simp;exact ⟨rfl,rfl⟩
      ·rfl
      apply Chain.pure (LZ.refl _) (by rfl)
      ·intro vals γ w' ρ hR hN hp hρ hc hf hg;refine ⟨rfl,?_⟩;have e46:ρ (.tmp 46)=_:=(hρ 46).trans (hp 10 (by decide));have hxx:=hR.ext0 (fun _ _ _ h=>h.elim);have k0:=hxx.cell PA0.o;have k1:=hxx.cell PB0.o;have k2:=hxx.cell QA1.o;have k3:=hxx.cell QB1.o;clear hxx hR hN hp hρ;go_light;go_simp;exact ⟨rfl,rfl⟩
      ·rfl
      refine Chain.step (FP fun v γ w'=>v=.bool bv) (by rfl) (FP.stab ?_) ?_ ?_
      ·intro v γ w1 γ' w2 r h;exact h
      ·intro vals γ w' ρ hR hN hp hρ hc hf hg;refine ⟨rfl,?_⟩;have e41:ρ (.tmp 41)=_:=(hρ 41).trans (hp 5 (by decide));have e47:ρ (.tmp 47)=_:=(hρ 47).trans (hp 11 (by decide));have HR:=Hd hR;have hxx:=hR.ext0 (fun _ _ _ h=>h.elim);have HXW:=Hd hxx;clear hxx hR hN hp hρ;go_light;go_simp;refine (HSV.o w' HXW.o).mono ?_;rintro e1 w3 ⟨he,hx⟩;exact ⟨_,he,γ,LZ.of_ext _ γ hx,fun _ _ _ h=>h,rfl⟩
      apply Chain.pure (LZ.refl _) (by rfl)
      ·intro vals γ w' ρ hR hN hp hρ hc hf hg;refine ⟨rfl,?_⟩;have e48:ρ (.tmp 48)=_:=(hρ 48).trans (hp 12 (by decide));clear hR hN hp hρ;go_light;go_simp;exact ⟨rfl,rfl⟩
      ·rfl
      intro vals γ w9 hR hG;have v0:vals 0=_:=hG 0 (by decide);have v1:vals 1=_:=hG 1 (by decide);have v2:vals 2=_:=hG 2 (by decide);have v3:vals 3=_:=hG 3 (by decide);have v4:vals 4=_:=hG 4 (by decide);have v5:vals 5=_:=hG 5 (by decide);have v6:vals 6=_:=hG 6 (by decide);have v7:vals 7=_:=hG 7 (by decide);have v8:vals 8=_:=hG 8 (by decide);have v9:vals 9=_:=hG 9 (by decide);have v10:vals 10=_:=hG 10 (by decide);have v11:vals 11=_:=hG 11 (by decide);have v12:vals 12=_:=hG 12 (by decide);have v13:vals 13=_:=hG 13 (by decide);simp only [lexFrame,Act.put,List.setIfInBounds_toArray,List.set_cons_succ,List.set_cons_zero,Nat.zero_add,Nat.reduceAdd,v0,v1,v2,v3,v4,v5,v6,v7,v8,v9,v10,v11,v12,v13];clear v0 v1 v2 v3 v4 v5 v6 v7 v8 v9 v10 v11 v12 v13;have HX9:=Hd (show Ext wr w9 from hR.ext0 (fun _ _ _ h=>h.elim));clear hR hG;obtain ⟨w2,hw2⟩:∃ w2:World,w2=w9:=⟨_,rfl⟩;rw [← hw2] at HX9 ⊢;have PA1:=Hd (HX9.o.cell PA0.o);have PB1:=Hd (HX9.o.cell PB0.o);have QA0:=Hd (HX9.o.cell QA0.o);have QA2:=Hd (HX9.o.cell QA2.o);have QB0:=Hd (HX9.o.cell QB0.o);have QB2:=Hd (HX9.o.cell QB2.o);have HX2:=Hd (HX.o.trans HX9.o);have HX9a:=Hd HX9.o;clear hw2 hbk2 hbk3 q0;have HNE:=Hd (show x≠y→sameP da da la la a b=false by
       intro h;rw [HEND.o,decide_eq_false_iff_not];rintro rfl;exact h (by rw [HEX.o,HEY.o]))
      by_cases hin:xi=yi
      ·cases bv
       ·have HIN:=Hd (show (xi != yi)=false by rw [bne_eq_false_iff_eq]; exact hin);have HF:=Hd (HNE.o (by
         intro h;have:=HBV.o;rw [h] at this;simp at this))
        clear hin
        go_upto_region 7 with fail
        refine wp_region_chain (by kernel_rfl) (fun i=>[i]) (by kernel_rfl) (LZ (fun _ _=>False)) (LZ.refl _) (LZ.trans _) (LK []) gz0 (LK.zero _) ?_;apply Chain.pure (LZ.refl _) (by rfl)
        ·intro vals γ w' ρ hR hN hp hρ hc hf hg;refine ⟨rfl,?_⟩;have e2:=hρ 2;(conv at e2=>rhs; whnf);clear hR hN hp hρ;go_light;go_simp;exact ⟨rfl,rfl⟩
        ·rfl
        apply Chain.pure (LZ.refl _) (by rfl)
        ·intro vals γ w' ρ hR hN hp hρ hc hf hg;refine ⟨rfl,?_⟩;have e49:ρ (.tmp 49)=_:=(hρ 49).trans (hp 0 (by decide));have hxx:=hR.ext0 (fun _ _ _ h=>h.elim);have k0:=hxx.cell PA1.o;have k1:=hxx.cell PB1.o;have k2:=hxx.cell QA0.o;have k3:=hxx.cell QB0.o;have k4:=hxx.cell QA2.o;have k5:=hxx.cell QB2.o;clear hxx hR hN hp hρ;go_light;go_simp;exact ⟨rfl,rfl⟩
        ·rfl
        apply Chain.pure (LZ.refl _) (by rfl)
        ·intro vals γ w' ρ hR hN hp hρ hc hf hg;refine ⟨rfl,?_⟩;have e5:=hρ 5;(conv at e5=>rhs; whnf);clear hR hN hp hρ;go_light;go_simp;exact ⟨rfl,rfl⟩
        ·rfl
        apply Chain.pure (LZ.refl _) (by rfl)
        ·intro vals γ w' ρ hR hN hp hρ hc hf hg;refine ⟨rfl,?_⟩;have e50:ρ (.tmp 50)=_:=(hρ 50).trans (hp 1 (by decide));have e51:ρ (.tmp 51)=_:=(hρ 51).trans (hp 2 (by decide));clear hR hN hp hρ;go_light;go_simp;exact ⟨rfl,rfl⟩
        ·rfl
        apply Chain.pure (LZ.refl _) (by rfl)
        ·intro vals γ w' ρ hR hN hp hρ hc hf hg;refine ⟨rfl,?_⟩;have e52:ρ (.tmp 52)=_:=(hρ 52).trans (hp 3 (by decide));clear hR hN hp hρ;go_light;go_simp;exact ⟨rfl,rfl⟩
        ·rfl
        apply Chain.pure (LZ.refl _) (by rfl)
        ·intro vals γ w' ρ hR hN hp hρ hc hf hg;refine ⟨rfl,?_⟩;have e53:ρ (.tmp 53)=_:=(hρ 53).trans (hp 4 (by decide));have hxx:=hR.ext0 (fun _ _ _ h=>h.elim);have k0:=hxx.cell PA1.o;have k1:=hxx.cell PB1.o;have k2:=hxx.cell QA0.o;have k3:=hxx.cell QB0.o;have k4:=hxx.cell QA2.o;have k5:=hxx.cell QB2.o;clear hxx hR hN hp hρ;go_light;go_simp;exact ⟨rfl,rfl⟩
        ·rfl
        apply Chain.pure (LZ.refl _) (by rfl)
        ·intro vals γ w' ρ hR hN hp hρ hc hf hg;refine ⟨rfl,?_⟩;have e3:=hρ 3;(conv at e3=>rhs; whnf);clear hR hN hp hρ;go_light;go_simp;exact ⟨rfl,rfl⟩
        ·rfl
        apply Chain.pure (LZ.refl _) (by rfl)
        ·intro vals γ w' ρ hR hN hp hρ hc hf hg;refine ⟨rfl,?_⟩;have e55:ρ (.tmp 55)=_:=(hρ 55).trans (hp 6 (by decide));have hxx:=hR.ext0 (fun _ _ _ h=>h.elim);have k0:=hxx.cell PA1.o;have k1:=hxx.cell PB1.o;have k2:=hxx.cell QA0.o;have k3:=hxx.cell QB0.o;have k4:=hxx.cell QA2.o;have k5:=hxx.cell QB2.o;clear hxx hR hN hp hρ;go_light;go_simp;exact ⟨rfl,rfl⟩
        ·rfl
        apply Chain.pure (LZ.refl _) (by rfl)
        ·intro vals γ w' ρ hR hN hp hρ hc hf hg;refine ⟨rfl,?_⟩;have e5:=hρ 5;(conv at e5=>rhs; whnf);clear hR hN hp hρ;go_light;go_simp;exact ⟨rfl,rfl⟩
        ·rfl
        apply Chain.pure (LZ.refl _) (by rfl)
        ·intro vals γ w' ρ hR hN hp hρ hc hf hg;refine ⟨rfl,?_⟩;have e56:ρ (.tmp 56)=_:=(hρ 56).trans (hp 7 (by decide));have e57:ρ (.tmp 57)=_:=(hρ 57).trans (hp 8 (by decide));clear hR hN hp hρ;go_light;go_simp;exact ⟨rfl,rfl⟩
        ·rfl
        apply Chain.pure (LZ.refl _) (by rfl)
        ·intro vals γ w' ρ hR hN hp hρ hc hf hg;refine ⟨rfl,?_⟩;have e58:ρ (.tmp 58)=_:=(hρ 58).trans (hp 9 (by decide));clear hR hN hp hρ;go_light;go_simp;exact ⟨rfl,rfl⟩
        ·rfl
        apply Chain.pure (LZ.refl _) (by rfl)
        ·intro vals γ w' ρ hR hN hp hρ hc hf hg;refine ⟨rfl,?_⟩;have e59:ρ (.tmp 59)=_:=(hρ 59).trans (hp 10 (by decide));have hxx:=hR.ext0 (fun _ _ _ h=>h.elim);have k0:=hxx.cell PA1.o;have k1:=hxx.cell PB1.o;have k2:=hxx.cell QA0.o;have k3:=hxx.cell QB0.o;have k4:=hxx.cell QA2.o;have k5:=hxx.cell QB2.o;clear hxx hR hN hp hρ;go_light;go_simp;exact ⟨rfl,rfl⟩
        ·rfl
        apply Chain.pure (LZ.refl _) (by rfl)
        ·intro vals γ w' ρ hR hN hp hρ hc hf hg;refine ⟨rfl,?_⟩;have e54:ρ (.tmp 54)=_:=(hρ 54).trans (hp 5 (by decide));have e60:ρ (.tmp 60)=_:=(hρ 60).trans (hp 11 (by decide));have z0:=HIN.o;clear hR hN hp hρ;go_light;go_simp;exact ⟨rfl,rfl⟩
        ·rfl
        apply Chain.pure (LZ.refl _) (by rfl)
        ·intro vals γ w' ρ hR hN hp hρ hc hf hg;refine ⟨rfl,?_⟩;have e61:ρ (.tmp 61)=_:=(hρ 61).trans (hp 12 (by decide));clear hR hN hp hρ;go_light;go_simp;exact ⟨rfl,rfl⟩
        ·rfl
        apply Chain.pure (LZ.refl _) (by rfl)
        ·intro vals γ w' ρ hR hN hp hρ hc hf hg;refine ⟨by show (boolOf (vals 13)==some false)=true; rw [show vals 13=.bool false from hp 13 (by decide)]; rfl,?_⟩;have e6:=hρ 6;(conv at e6=>rhs; whnf);clear hR hN hp hρ;go_light;go_simp;exact ⟨rfl,rfl⟩
        ·rfl
        apply Chain.pure (LZ.refl _) (by rfl)
        ·intro vals γ w' ρ hR hN hp hρ hc hf hg;refine ⟨by show (boolOf (vals 13)==some false)=true; rw [show vals 13=.bool false from hp 13 (by decide)]; rfl,?_⟩;have e63:ρ (.tmp 63)=_:=(hρ 63).trans (hp 14 (by decide));clear hR hN hp hρ;go_light;go_simp;exact ⟨rfl,rfl⟩
        ·rfl
        apply Chain.pure (LZ.refl _) (by rfl)
        ·intro vals γ w' ρ hR hN hp hρ hc hf hg;refine ⟨rfl,?_⟩;have e62:ρ (.tmp 62)=_:=(hρ 62).trans (hp 13 (by decide));have e64:ρ (.tmp 64)=_:=(hρ 64).trans (hp 15 (by decide));clear hR hN hp hρ;go_light;go_simp;exact ⟨rfl,rfl⟩
        ·rfl
        apply Chain.pure (LZ.refl _) (by rfl)
        ·intro vals γ w' ρ hR hN hp hρ hc hf hg;refine ⟨rfl,?_⟩;have e65:ρ (.tmp 65)=_:=(hρ 65).trans (hp 16 (by decide));clear hR hN hp hρ;go_light;go_simp;exact ⟨rfl,rfl⟩
        ·rfl
        refine Chain.no (by rfl) (by rfl) ?_ ?_
        ·intro vals γ w' hp;show (boolOf (vals 17)==some false)=false;rw [show vals 17=.bool true from hp 17 (by decide)]; rfl
        refine Chain.no (by rfl) (by rfl) ?_ ?_
        ·intro vals γ w' hp;show (boolOf (vals 17)==some false)=false;rw [show vals 17=.bool true from hp 17 (by decide)]; rfl
        refine Chain.no (by rfl) (by rfl) ?_ ?_
        ·intro vals γ w' hp;show (boolOf (vals 17)==some false)=false;rw [show vals 17=.bool true from hp 17 (by decide)]; rfl
        refine Chain.no (by rfl) (by rfl) ?_ ?_
        ·intro vals γ w' hp;show (boolOf (vals 17)==some false)=false;rw [show vals 17=.bool true from hp 17 (by decide)]; rfl
        refine Chain.no (by rfl) (by rfl) ?_ ?_
        ·intro vals γ w' hp;show (boolOf (vals 17)==some false)=false;rw [show vals 17=.bool true from hp 17 (by decide)]; rfl
        refine Chain.no (by rfl) (by rfl) ?_ ?_
        ·intro vals γ w' hp;show (boolOf (vals 17)==some false)=false;rw [show vals 17=.bool true from hp 17 (by decide)]; rfl
        refine Chain.no (by rfl) (by rfl) ?_ ?_
        ·intro vals γ w' hp;show (boolOf (vals 17)==some false)=false;rw [show vals 17=.bool true from hp 17 (by decide)]; rfl
        refine Chain.no (by rfl) (by rfl) ?_ ?_
        ·intro vals γ w' hp;show (boolOf (vals 17)==some false)=false;rw [show vals 17=.bool true from hp 17 (by decide)]; rfl
        refine Chain.no (by rfl) (by rfl) ?_ ?_
        ·intro vals γ w' hp;show (boolOf (vals 17)==some false)=false;rw [show vals 17=.bool true from hp 17 (by decide)]; rfl
        refine Chain.no (by rfl) (by rfl) ?_ ?_
        ·intro vals γ w' hp;show (boolOf (vals 17)==some false)=false;rw [show vals 17=.bool true from hp 17 (by decide)]; rfl
        refine Chain.no (by rfl) (by rfl) ?_ ?_
        ·intro vals γ w' hp;show (boolOf (vals 17)==some false)=false;rw [show vals 17=.bool true from hp 17 (by decide)]; rfl
        refine Chain.no (by rfl) (by rfl) ?_ ?_
        ·intro vals γ w' hp;show (boolOf (vals 17)==some false)=false;rw [show vals 17=.bool true from hp 17 (by decide)]; rfl
        refine Chain.no (by rfl) (by rfl) ?_ ?_
        ·intro vals γ w' hp;show (boolOf (vals 17)==some false)=false;rw [show vals 17=.bool true from hp 17 (by decide)]; rfl
        refine Chain.no (by rfl) (by rfl) ?_ ?_
        ·intro vals γ w' hp;show (boolOf (vals 17)==some false)=false;rw [show vals 17=.bool true from hp 17 (by decide)]; rfl
        refine Chain.no (by rfl) (by rfl) ?_ ?_
        ·intro vals γ w' hp;show (boolOf (vals 17)==some false)=false;rw [show vals 17=.bool true from hp 17 (by decide)]; rfl
        apply Chain.pure (LZ.refl _) (by rfl)
        ·intro vals γ w' ρ hR hN hp hρ hc hf hg;refine ⟨rfl,?_⟩;have e66:ρ (.tmp 66)=_:=(hρ 66).trans (hp 17 (by decide));have e81:ρ (.tmp 81)=_:=(hρ 81).trans (hp 32 (by decide));clear hR hN hp hρ;go_light;go_simp;exact ⟨rfl,rfl⟩
        ·rfl
        intro vals γ w9 hR hG;have v0:vals 0=_:=hG 0 (by decide);have v1:vals 1=_:=hG 1 (by decide);have v2:vals 2=_:=hG 2 (by decide);have v3:vals 3=_:=hG 3 (by decide);have v4:vals 4=_:=hG 4 (by decide);have v5:vals 5=_:=hG 5 (by decide);have v6:vals 6=_:=hG 6 (by decide);have v7:vals 7=_:=hG 7 (by decide);have v8:vals 8=_:=hG 8 (by decide);have v9:vals 9=_:=hG 9 (by decide);have v10:vals 10=_:=hG 10 (by decide);have v11:vals 11=_:=hG 11 (by decide);have v12:vals 12=_:=hG 12 (by decide);have v13:vals 13=_:=hG 13 (by decide);have v14:vals 14=_:=hG 14 (by decide);have v15:vals 15=_:=hG 15 (by decide);have v16:vals 16=_:=hG 16 (by decide);have v17:vals 17=_:=hG 17 (by decide);have v18:vals 18=_:=hG 18 (by decide);have v19:vals 19=_:=hG 19 (by decide);have v20:vals 20=_:=hG 20 (by decide);have v21:vals 21=_:=hG 21 (by decide);have v22:vals 22=_:=hG 22 (by decide);have v23:vals 23=_:=hG 23 (by decide);have v24:vals 24=_:=hG 24 (by decide);have v25:vals 25=_:=hG 25 (by decide);have v26:vals 26=_:=hG 26 (by decide);have v27:vals 27=_:=hG 27 (by decide);have v28:vals 28=_:=hG 28 (by decide);have v29:vals 29=_:=hG 29 (by decide);have v30:vals 30=_:=hG 30 (by decide);have v31:vals 31=_:=hG 31 (by decide);have v32:vals 32=_:=hG 32 (by decide);have v33:vals 33=_:=hG 33 (by decide);simp only [lexFrame,Act.put,List.setIfInBounds_toArray,List.set_cons_succ,List.set_cons_zero,Nat.zero_add,Nat.reduceAdd,v0,v1,v2,v3,v4,v5,v6,v7,v8,v9,v10,v11,v12,v13,v14,v15,v16,v17,v18,v19,v20,v21,v22,v23,v24,v25,v26,v27,v28,v29,v30,v31,v32,v33];clear v0 v1 v2 v3 v4 v5 v6 v7 v8 v9 v10 v11 v12 v13 v14 v15 v16 v17 v18 v19 v20 v21 v22 v23 v24 v25 v26 v27 v28 v29 v30 v31 v32 v33;have HX9:=Hd (show Ext w2 w9 from hR.ext0 (fun _ _ _ h=>h.elim));clear hR hG;go_wp2;go_ret;exact ⟨by rw [HF.o]; rfl,(HX0.o.trans HX2.o).trans HX9.o⟩
       ·have HIN:=Hd (show (xi != yi)=false by rw [bne_eq_false_iff_eq]; exact hin);have HINE:=Hd hin;clear hin
        go_upto_region 7 with fail
        refine wp_region_chain (by kernel_rfl) (fun i=>[i]) (by kernel_rfl) (LZ (fun _ _=>False)) (LZ.refl _) (LZ.trans _) (LK []) gz0 (LK.zero _) ?_;apply Chain.pure (LZ.refl _) (by rfl)
        ·intro vals γ w' ρ hR hN hp hρ hc hf hg;refine ⟨rfl,?_⟩;have e2:=hρ 2;(conv at e2=>rhs; whnf);clear hR hN hp hρ;go_light;go_simp;exact ⟨rfl,rfl⟩
        ·rfl
        apply Chain.pure (LZ.refl _) (by rfl)
        ·intro vals γ w' ρ hR hN hp hρ hc hf hg;refine ⟨rfl,?_⟩;have e49:ρ (.tmp 49)=_:=(hρ 49).trans (hp 0 (by decide));have hxx:=hR.ext0 (fun _ _ _ h=>h.elim);have k0:=hxx.cell PA1.o;have k1:=hxx.cell PB1.o;have k2:=hxx.cell QA0.o;have k3:=hxx.cell QB0.o;have k4:=hxx.cell QA2.o;have k5:=hxx.cell QB2.o;clear hxx hR hN hp hρ;go_light;go_simp;exact ⟨rfl,rfl⟩
        ·rfl
        apply Chain.pure (LZ.refl _) (by rfl)
        ·intro vals γ w' ρ hR hN hp hρ hc hf hg;refine ⟨rfl,?_⟩;have e5:=hρ 5;(conv at e5=>rhs; whnf);clear hR hN hp hρ;go_light;go_simp;exact ⟨rfl,rfl⟩
        ·rfl
        apply Chain.pure (LZ.refl _) (by rfl)
        ·intro vals γ w' ρ hR hN hp hρ hc hf hg;refine ⟨rfl,?_⟩;have e50:ρ (.tmp 50)=_:=(hρ 50).trans (hp 1 (by decide));have e51:ρ (.tmp 51)=_:=(hρ 51).trans (hp 2 (by decide));clear hR hN hp hρ;go_light;go_simp;exact ⟨rfl,rfl⟩
        ·rfl
        apply Chain.pure (LZ.refl _) (by rfl)
        ·intro vals γ w' ρ hR hN hp hρ hc hf hg;refine ⟨rfl,?_⟩;have e52:ρ (.tmp 52)=_:=(hρ 52).trans (hp 3 (by decide));clear hR hN hp hρ;go_light;go_simp;exact ⟨rfl,rfl⟩
        ·rfl
        apply Chain.pure (LZ.refl _) (by rfl)
        ·intro vals γ w' ρ hR hN hp hρ hc hf hg;refine ⟨rfl,?_⟩;have e53:ρ (.tmp 53)=_:=(hρ 53).trans (hp 4 (by decide));have hxx:=hR.ext0 (fun _ _ _ h=>h.elim);have k0:=hxx.cell PA1.o;have k1:=hxx.cell PB1.o;have k2:=hxx.cell QA0.o;have k3:=hxx.cell QB0.o;have k4:=hxx.cell QA2.o;have k5:=hxx.cell QB2.o;clear hxx hR hN hp hρ;go_light;go_simp;exact ⟨rfl,rfl⟩
        ·rfl
        apply Chain.pure (LZ.refl _) (by rfl)
        ·intro vals γ w' ρ hR hN hp hρ hc hf hg;refine ⟨rfl,?_⟩;have e3:=hρ 3;(conv at e3=>rhs; whnf);clear hR hN hp hρ;go_light;go_simp;exact ⟨rfl,rfl⟩
        ·rfl
        apply Chain.pure (LZ.refl _) (by rfl)
        ·intro vals γ w' ρ hR hN hp hρ hc hf hg;refine ⟨rfl,?_⟩;have e55:ρ (.tmp 55)=_:=(hρ 55).trans (hp 6 (by decide));have hxx:=hR.ext0 (fun _ _ _ h=>h.elim);have k0:=hxx.cell PA1.o;have k1:=hxx.cell PB1.o;have k2:=hxx.cell QA0.o;have k3:=hxx.cell QB0.o;have k4:=hxx.cell QA2.o;have k5:=hxx.cell QB2.o;clear hxx hR hN hp hρ;go_light;go_simp;exact ⟨rfl,rfl⟩
        ·rfl
        apply Chain.pure (LZ.refl _) (by rfl)
        ·intro vals γ w' ρ hR hN hp hρ hc hf hg;refine ⟨rfl,?_⟩;have e5:=hρ 5;(conv at e5=>rhs; whnf);clear hR hN hp hρ;go_light;go_simp;exact ⟨rfl,rfl⟩
        ·rfl
        apply Chain.pure (LZ.refl _) (by rfl)
        ·intro vals γ w' ρ hR hN hp hρ hc hf hg;refine ⟨rfl,?_⟩;have e56:ρ (.tmp 56)=_:=(hρ 56).trans (hp 7 (by decide));have e57:ρ (.tmp 57)=_:=(hρ 57).trans (hp 8 (by decide));clear hR hN hp hρ;go_light;go_simp;exact ⟨rfl,rfl⟩
        ·rfl
        apply Chain.pure (LZ.refl _) (by rfl)
        ·intro vals γ w' ρ hR hN hp hρ hc hf hg;refine ⟨rfl,?_⟩;have e58:ρ (.tmp 58)=_:=(hρ 58).trans (hp 9 (by decide));clear hR hN hp hρ;go_light;go_simp;exact ⟨rfl,rfl⟩
        ·rfl
        apply Chain.pure (LZ.refl _) (by rfl)
        ·intro vals γ w' ρ hR hN hp hρ hc hf hg;refine ⟨rfl,?_⟩;have e59:ρ (.tmp 59)=_:=(hρ 59).trans (hp 10 (by decide));have hxx:=hR.ext0 (fun _ _ _ h=>h.elim);have k0:=hxx.cell PA1.o;have k1:=hxx.cell PB1.o;have k2:=hxx.cell QA0.o;have k3:=hxx.cell QB0.o;have k4:=hxx.cell QA2.o;have k5:=hxx.cell QB2.o;clear hxx hR hN hp hρ;go_light;go_simp;exact ⟨rfl,rfl⟩
        ·rfl
        apply Chain.pure (LZ.refl _) (by rfl)
        ·intro vals γ w' ρ hR hN hp hρ hc hf hg;refine ⟨rfl,?_⟩;have e54:ρ (.tmp 54)=_:=(hρ 54).trans (hp 5 (by decide));have e60:ρ (.tmp 60)=_:=(hρ 60).trans (hp 11 (by decide));have z0:=HIN.o;clear hR hN hp hρ;go_light;go_simp;exact ⟨rfl,rfl⟩
        ·rfl
        apply Chain.pure (LZ.refl _) (by rfl)
        ·intro vals γ w' ρ hR hN hp hρ hc hf hg;refine ⟨rfl,?_⟩;have e61:ρ (.tmp 61)=_:=(hρ 61).trans (hp 12 (by decide));clear hR hN hp hρ;go_light;go_simp;exact ⟨rfl,rfl⟩
        ·rfl
        apply Chain.pure (LZ.refl _) (by rfl)
        ·intro vals γ w' ρ hR hN hp hρ hc hf hg;refine ⟨by show (boolOf (vals 13)==some false)=true; rw [show vals 13=.bool false from hp 13 (by decide)]; rfl,?_⟩;have e6:=hρ 6;(conv at e6=>rhs; whnf);clear hR hN hp hρ;go_light;go_simp;exact ⟨rfl,rfl⟩
        ·rfl
        apply Chain.pure (LZ.refl _) (by rfl)
        ·intro vals γ w' ρ hR hN hp hρ hc hf hg;refine ⟨by show (boolOf (vals 13)==some false)=true; rw [show vals 13=.bool false from hp 13 (by decide)]; rfl,?_⟩;have e63:ρ (.tmp 63)=_:=(hρ 63).trans (hp 14 (by decide));clear hR hN hp hρ;go_light;go_simp;exact ⟨rfl,rfl⟩
        ·rfl
        apply Chain.pure (LZ.refl _) (by rfl)
        ·intro vals γ w' ρ hR hN hp hρ hc hf hg;refine ⟨rfl,?_⟩;have e62:ρ (.tmp 62)=_:=(hρ 62).trans (hp 13 (by decide));have e64:ρ (.tmp 64)=_:=(hρ 64).trans (hp 15 (by decide));clear hR hN hp hρ;go_light;go_simp;exact ⟨rfl,rfl⟩
        ·rfl
        apply Chain.pure (LZ.refl _) (by rfl)
        ·intro vals γ w' ρ hR hN hp hρ hc hf hg;refine ⟨rfl,?_⟩;have e65:ρ (.tmp 65)=_:=(hρ 65).trans (hp 16 (by decide));clear hR hN hp hρ;go_light;go_simp;exact ⟨rfl,rfl⟩
        ·rfl
        apply Chain.pure (LZ.refl _) (by rfl)
        ·intro vals γ w' ρ hR hN hp hρ hc hf hg;refine ⟨by show (boolOf (vals 17)==some false)=true; rw [show vals 17=.bool false from hp 17 (by decide)]; rfl,?_⟩;have e2:=hρ 2;(conv at e2=>rhs; whnf);clear hR hN hp hρ;go_light;go_simp;exact ⟨rfl,rfl⟩
        ·rfl
        apply Chain.pure (LZ.refl _) (by rfl)
        ·intro vals γ w' ρ hR hN hp hρ hc hf hg;refine ⟨by show (boolOf (vals 17)==some false)=true; rw [show vals 17=.bool false from hp 17 (by decide)]; rfl,?_⟩;have e67:ρ (.tmp 67)=_:=(hρ 67).trans (hp 18 (by decide));have hxx:=hR.ext0 (fun _ _ _ h=>h.elim);have k0:=hxx.cell PA1.o;have k1:=hxx.cell PB1.o;have k2:=hxx.cell QA0.o;have k3:=hxx.cell QB0.o;have k4:=hxx.cell QA2.o;have k5:=hxx.cell QB2.o;clear hxx hR hN hp hρ;go_light;go_simp;exact ⟨rfl,rfl⟩
        ·rfl
        apply Chain.pure (LZ.refl _) (by rfl)
        ·intro vals γ w' ρ hR hN hp hρ hc hf hg;refine ⟨by show (boolOf (vals 17)==some false)=true; rw [show vals 17=.bool false from hp 17 (by decide)]; rfl,?_⟩;have e5:=hρ 5;(conv at e5=>rhs; whnf);clear hR hN hp hρ;go_light;go_simp;exact ⟨rfl,rfl⟩
        ·rfl
        apply Chain.pure (LZ.refl _) (by rfl)
        ·intro vals γ w' ρ hR hN hp hρ hc hf hg;refine ⟨by show (boolOf (vals 17)==some false)=true; rw [show vals 17=.bool false from hp 17 (by decide)]; rfl,?_⟩;have e68:ρ (.tmp 68)=_:=(hρ 68).trans (hp 19 (by decide));have e69:ρ (.tmp 69)=_:=(hρ 69).trans (hp 20 (by decide));clear hR hN hp hρ;go_light;go_simp;exact ⟨rfl,rfl⟩
        ·rfl
        apply Chain.pure (LZ.refl _) (by rfl)
        ·intro vals γ w' ρ hR hN hp hρ hc hf hg;refine ⟨by show (boolOf (vals 17)==some false)=true; rw [show vals 17=.bool false from hp 17 (by decide)]; rfl,?_⟩;have e70:ρ (.tmp 70)=_:=(hρ 70).trans (hp 21 (by decide));clear hR hN hp hρ;go_light;go_simp;exact ⟨rfl,rfl⟩
        ·rfl
        apply Chain.pure (LZ.refl _) (by rfl)
        ·intro vals γ w' ρ hR hN hp hρ hc hf hg;refine ⟨by show (boolOf (vals 17)==some false)=true; rw [show vals 17=.bool false from hp 17 (by decide)]; rfl,?_⟩;have e71:ρ (.tmp 71)=_:=(hρ 71).trans (hp 22 (by decide));have hxx:=hR.ext0 (fun _ _ _ h=>h.elim);have k0:=hxx.cell PA1.o;have k1:=hxx.cell PB1.o;have k2:=hxx.cell QA0.o;have k3:=hxx.cell QB0.o;have k4:=hxx.cell QA2.o;have k5:=hxx.cell QB2.o;clear hxx hR hN hp hρ;go_light;go_simp;exact ⟨rfl,rfl⟩
        ·rfl
        apply Chain.pure (LZ.refl _) (by rfl)
        ·intro vals γ w' ρ hR hN hp hρ hc hf hg;refine ⟨by show (boolOf (vals 17)==some false)=true; rw [show vals 17=.bool false from hp 17 (by decide)]; rfl,?_⟩;have e72:ρ (.tmp 72)=_:=(hρ 72).trans (hp 23 (by decide));clear hR hN hp hρ;go_light;go_simp;exact ⟨rfl,rfl⟩
        ·rfl
        apply Chain.pure (LZ.refl _) (by rfl)
        ·intro vals γ w' ρ hR hN hp hρ hc hf hg;refine ⟨by show (boolOf (vals 17)==some false)=true; rw [show vals 17=.bool false from hp 17 (by decide)]; rfl,?_⟩;have e3:=hρ 3;(conv at e3=>rhs; whnf);clear hR hN hp hρ;go_light;go_simp;exact ⟨rfl,rfl⟩
        ·rfl
        apply Chain.pure (LZ.refl _) (by rfl)
        ·intro vals γ w' ρ hR hN hp hρ hc hf hg;refine ⟨by show (boolOf (vals 17)==some false)=true; rw [show vals 17=.bool false from hp 17 (by decide)]; rfl,?_⟩;have e74:ρ (.tmp 74)=_:=(hρ 74).trans (hp 25 (by decide));have hxx:=hR.ext0 (fun _ _ _ h=>h.elim);have k0:=hxx.cell PA1.o;have k1:=hxx.cell PB1.o;have k2:=hxx.cell QA0.o;have k3:=hxx.cell QB0.o;have k4:=hxx.cell QA2.o;have k5:=hxx.cell QB2.o;clear hxx hR hN hp hρ;go_light;go_simp;exact ⟨rfl,rfl⟩
        ·rfl
        apply Chain.pure (LZ.refl _) (by rfl)
        ·intro vals γ w' ρ hR hN hp hρ hc hf hg;refine ⟨by show (boolOf (vals 17)==some false)=true; rw [show vals 17=.bool false from hp 17 (by decide)]; rfl,?_⟩;have e5:=hρ 5;(conv at e5=>rhs; whnf);clear hR hN hp hρ;go_light;go_simp;exact ⟨rfl,rfl⟩
        ·rfl
        apply Chain.pure (LZ.refl _) (by rfl)
        ·intro vals γ w' ρ hR hN hp hρ hc hf hg;refine ⟨by show (boolOf (vals 17)==some false)=true; rw [show vals 17=.bool false from hp 17 (by decide)]; rfl,?_⟩;have e75:ρ (.tmp 75)=_:=(hρ 75).trans (hp 26 (by decide));have e76:ρ (.tmp 76)=_:=(hρ 76).trans (hp 27 (by decide));clear hR hN hp hρ;go_light;go_simp;exact ⟨rfl,rfl⟩
        ·rfl
        apply Chain.pure (LZ.refl _) (by rfl)
        ·intro vals γ w' ρ hR hN hp hρ hc hf hg;refine ⟨by show (boolOf (vals 17)==some false)=true; rw [show vals 17=.bool false from hp 17 (by decide)]; rfl,?_⟩;have e77:ρ (.tmp 77)=_:=(hρ 77).trans (hp 28 (by decide));clear hR hN hp hρ;go_light;go_simp;exact ⟨rfl,rfl⟩
        ·rfl
        apply Chain.pure (LZ.refl _) (by rfl)
        ·intro vals γ w' ρ hR hN hp hρ hc hf hg;refine ⟨by show (boolOf (vals 17)==some false)=true; rw [show vals 17=.bool false from hp 17 (by decide)]; rfl,?_⟩;have e78:ρ (.tmp 78)=_:=(hρ 78).trans (hp 29 (by decide));have hxx:=hR.ext0 (fun _ _ _ h=>h.elim);have k0:=hxx.cell PA1.o;have k1:=hxx.cell PB1.o;have k2:=hxx.cell QA0.o;have k3:=hxx.cell QB0.o;have k4:=hxx.cell QA2.o;have k5:=hxx.cell QB2.o;clear hxx hR hN hp hρ;go_light;go_simp;exact ⟨rfl,rfl⟩
        ·rfl
        apply Chain.pure (LZ.refl _) (by rfl)
        ·intro vals γ w' ρ hR hN hp hρ hc hf hg;refine ⟨by show (boolOf (vals 17)==some false)=true; rw [show vals 17=.bool false from hp 17 (by decide)]; rfl,?_⟩;have e79:ρ (.tmp 79)=_:=(hρ 79).trans (hp 30 (by decide));clear hR hN hp hρ;go_light;go_simp;exact ⟨rfl,rfl⟩
        ·rfl
        apply Chain.pure (LZ.refl _) (by rfl)
        ·intro vals γ w' ρ hR hN hp hρ hc hf hg;refine ⟨by show (boolOf (vals 17)==some false)=true; rw [show vals 17=.bool false from hp 17 (by decide)]; rfl,?_⟩;have e73:ρ (.tmp 73)=_:=(hρ 73).trans (hp 24 (by decide));have e80:ρ (.tmp 80)=_:=(hρ 80).trans (hp 31 (by decide));clear hR hN hp hρ;go_light;go_simp;exact ⟨rfl,rfl⟩
        ·rfl
        apply Chain.pure (LZ.refl _) (by rfl)
        ·intro vals γ w' ρ hR hN hp hρ hc hf hg;refine ⟨rfl,?_⟩;have e66:ρ (.tmp 66)=_:=(hρ 66).trans (hp 17 (by decide));have e81:ρ (.tmp 81)=_:=(hρ 81).trans (hp 32 (by decide));clear hR hN hp hρ;go_light;go_simp;exact ⟨rfl,rfl⟩
        ·rfl
        intro vals γ w9 hR hG;have v0:vals 0=_:=hG 0 (by decide);have v1:vals 1=_:=hG 1 (by decide);have v2:vals 2=_:=hG 2 (by decide);have v3:vals 3=_:=hG 3 (by decide);have v4:vals 4=_:=hG 4 (by decide);have v5:vals 5=_:=hG 5 (by decide);have v6:vals 6=_:=hG 6 (by decide);have v7:vals 7=_:=hG 7 (by decide);have v8:vals 8=_:=hG 8 (by decide);have v9:vals 9=_:=hG 9 (by decide);have v10:vals 10=_:=hG 10 (by decide);have v11:vals 11=_:=hG 11 (by decide);have v12:vals 12=_:=hG 12 (by decide);have v13:vals 13=_:=hG 13 (by decide);have v14:vals 14=_:=hG 14 (by decide);have v15:vals 15=_:=hG 15 (by decide);have v16:vals 16=_:=hG 16 (by decide);have v17:vals 17=_:=hG 17 (by decide);have v18:vals 18=_:=hG 18 (by decide);have v19:vals 19=_:=hG 19 (by decide);have v20:vals 20=_:=hG 20 (by decide);have v21:vals 21=_:=hG 21 (by decide);have v22:vals 22=_:=hG 22 (by decide);have v23:vals 23=_:=hG 23 (by decide);have v24:vals 24=_:=hG 24 (by decide);have v25:vals 25=_:=hG 25 (by decide);have v26:vals 26=_:=hG 26 (by decide);have v27:vals 27=_:=hG 27 (by decide);have v28:vals 28=_:=hG 28 (by decide);have v29:vals 29=_:=hG 29 (by decide);have v30:vals 30=_:=hG 30 (by decide);have v31:vals 31=_:=hG 31 (by decide);have v32:vals 32=_:=hG 32 (by decide);have v33:vals 33=_:=hG 33 (by decide);simp only [lexFrame,Act.put,List.setIfInBounds_toArray,List.set_cons_succ,List.set_cons_zero,Nat.zero_add,Nat.reduceAdd,v0,v1,v2,v3,v4,v5,v6,v7,v8,v9,v10,v11,v12,v13,v14,v15,v16,v17,v18,v19,v20,v21,v22,v23,v24,v25,v26,v27,v28,v29,v30,v31,v32,v33];clear v0 v1 v2 v3 v4 v5 v6 v7 v8 v9 v10 v11 v12 v13 v14 v15 v16 v17 v18 v19 v20 v21 v22 v23 v24 v25 v26 v27 v28 v29 v30 v31 v32 v33;have HX9:=Hd (show Ext w2 w9 from hR.ext0 (fun _ _ _ h=>h.elim));clear hR hG;have HX3:=Hd (HX2.o.trans HX9.o);obtain ⟨w3,hw3⟩:∃ w3:World,w3=w9:=⟨_,rfl⟩;rw [← hw3] at HX3 HX9 ⊢;clear hw3;by_cases hn:xn=yn
        ·subst hn;have jn:((xn:Int) != (xn:Int))=false:=(by simp);go_wp2
         go_loopw [7] (fun i wi=>∃ j:Nat,j≤xn∧x.2.2.take j=y.2.2.take j∧i=.int .i64 (j:Int)∧Ext w3 wi) (fun i _=>xn-(intOf i).toNat)
         case atStart=>exact ⟨0,Nat.zero_le _,by simp,rfl,Ext.refl _⟩
         case round =>
          obtain ⟨j,hj,hpj,rfl,hxj⟩:=hrel;obtain ⟨wi,hwi⟩:∃ wi:World,wi=wr:=⟨_,rfl⟩;rw [← hwi] at hxj ⊢;clear hwi;have HXJ:=Hd hxj;have HPJ:=Hd hpj;have PA3:=Hd (hxj.cell (HX9.o.cell PA1.o));have PB3:=Hd (hxj.cell (HX9.o.cell PB1.o));have RA2:=Hd (hxj.cell (HX9.o.cell QA2.o));have RB2:=Hd (hxj.cell (HX9.o.cell QB2.o));have p0:=PA3.o;have p1:=RA2.o;clear hxj hpj;by_cases hltj:j<xn
          ·have hja:j<x.2.2.length:=(by rw [← HXN.o]; exact hltj);have hjb:j<y.2.2.length:=(by rw [← HYN.o]; exact hltj);obtain ⟨nb1,no1,hAr,_,hn1⟩:=(HIA.o.keep (((HX9a.o.trans HX9.o).trans HXJ.o).kept _)).at_ hja;obtain ⟨nb2,no2,hBr,_,hn2⟩:=(HIB.o.keep (((HX9a.o.trans HX9.o).trans HXJ.o).kept _)).at_ hjb;subst hAr hBr;obtain ⟨u,eu⟩:∃ u,u=x.2.2[j]:=⟨_,rfl⟩;obtain ⟨v,ev⟩:∃ v,v=y.2.2[j]:=⟨_,rfl⟩;rw [← eu] at hn1;rw [← ev] at hn2;have HEU:=Hd eu;have HEV:=Hd ev;have NA:=Hd hn1;have NB:=Hd hn2;have i2:(0:Int)≤(j:Int):=(by omega);have i3:(j:Int)<(xn:Int):=(by omega);clear eu ev hn1 hn2
           go_upto_region 12 with fail
           clear p0 p1;refine wp_region_chain (by kernel_rfl) (fun i=>[i]) (by kernel_rfl) (LZ (fun _ _=>False)) (LZ.refl _) (LZ.trans _) (LK []) gz0 (LK.zero _) ?_;apply Chain.pure (LZ.refl _) (by rfl)
           ·intro vals γ w' ρ hR hN hp hρ hc hf hg;refine ⟨rfl,?_⟩;have e2:=hρ 2;(conv at e2=>rhs; whnf);clear hR hN hp hρ;go_light;go_simp;exact ⟨rfl,rfl⟩
           ·rfl
           apply Chain.pure (LZ.refl _) (by rfl)
           ·intro vals γ w' ρ hR hN hp hρ hc hf hg;refine ⟨rfl,?_⟩;have e94:ρ (.tmp 94)=_:=(hρ 94).trans (hp 0 (by decide));have hxx:=hR.ext0 (fun _ _ _ h=>h.elim);have k0:=hxx.cell PA3.o;have k1:=hxx.cell PB3.o;have k2:=hxx.cell RA2.o;have k3:=hxx.cell RB2.o;have k4:=hxx.cell NA.o;have k5:=hxx.cell NB.o;clear hxx hR hN hp hρ;go_light;go_simp;exact ⟨rfl,rfl⟩
           ·rfl
           apply Chain.pure (LZ.refl _) (by rfl)
           ·intro vals γ w' ρ hR hN hp hρ hc hf hg;refine ⟨rfl,?_⟩;have e5:=hρ 5;(conv at e5=>rhs; whnf);clear hR hN hp hρ;go_light;go_simp;exact ⟨rfl,rfl⟩
           ·rfl
           apply Chain.pure (LZ.refl _) (by rfl)
           ·intro vals γ w' ρ hR hN hp hρ hc hf hg;refine ⟨rfl,?_⟩;have e95:ρ (.tmp 95)=_:=(hρ 95).trans (hp 1 (by decide));have e96:ρ (.tmp 96)=_:=(hρ 96).trans (hp 2 (by decide));clear hR hN hp hρ;go_light;go_simp;exact ⟨rfl,rfl⟩
           ·rfl
           apply Chain.pure (LZ.refl _) (by rfl)
           ·intro vals γ w' ρ hR hN hp hρ hc hf hg;refine ⟨rfl,?_⟩;have e97:ρ (.tmp 97)=_:=(hρ 97).trans (hp 3 (by decide));clear hR hN hp hρ;go_light;go_simp;exact ⟨rfl,rfl⟩
           ·rfl
           apply Chain.pure (LZ.refl _) (by rfl)
           ·intro vals γ w' ρ hR hN hp hρ hc hf hg;refine ⟨rfl,?_⟩;have e98:ρ (.tmp 98)=_:=(hρ 98).trans (hp 4 (by decide));have hxx:=hR.ext0 (fun _ _ _ h=>h.elim);have k0:=hxx.cell PA3.o;have k1:=hxx.cell PB3.o;have k2:=hxx.cell RA2.o;have k3:=hxx.cell RB2.o;have k4:=hxx.cell NA.o;have k5:=hxx.cell NB.o;clear hxx hR hN hp hρ;go_light;go_simp;exact ⟨rfl,rfl⟩
           ·rfl
           apply Chain.pure (LZ.refl _) (by rfl)
           ·intro vals γ w' ρ hR hN hp hρ hc hf hg;refine ⟨rfl,?_⟩;have e7:=hρ 7;(conv at e7=>rhs; whnf);clear hR hN hp hρ;go_light;go_simp;exact ⟨rfl,rfl⟩
           ·rfl
           apply Chain.pure (LZ.refl _) (by rfl)
           ·intro vals γ w' ρ hR hN hp hρ hc hf hg;refine ⟨rfl,?_⟩;have e99:ρ (.tmp 99)=_:=(hρ 99).trans (hp 5 (by decide));have e100:ρ (.tmp 100)=_:=(hρ 100).trans (hp 6 (by decide));clear hR hN hp hρ;go_light;go_simp;exact ⟨rfl,rfl⟩
           ·rfl
           apply Chain.pure (LZ.refl _) (by rfl)
           ·intro vals γ w' ρ hR hN hp hρ hc hf hg;refine ⟨rfl,?_⟩;have e101:ρ (.tmp 101)=_:=(hρ 101).trans (hp 7 (by decide));have hxx:=hR.ext0 (fun _ _ _ h=>h.elim);have k0:=hxx.cell PA3.o;have k1:=hxx.cell PB3.o;have k2:=hxx.cell RA2.o;have k3:=hxx.cell RB2.o;have k4:=hxx.cell NA.o;have k5:=hxx.cell NB.o;clear hxx hR hN hp hρ;go_light;go_simp;exact ⟨rfl,rfl⟩
           ·rfl
           apply Chain.pure (LZ.refl _) (by rfl)
           ·intro vals γ w' ρ hR hN hp hρ hc hf hg;refine ⟨rfl,?_⟩;have e3:=hρ 3;(conv at e3=>rhs; whnf);clear hR hN hp hρ;go_light;go_simp;exact ⟨rfl,rfl⟩
           ·rfl
           apply Chain.pure (LZ.refl _) (by rfl)
           ·intro vals γ w' ρ hR hN hp hρ hc hf hg;refine ⟨rfl,?_⟩;have e103:ρ (.tmp 103)=_:=(hρ 103).trans (hp 9 (by decide));have hxx:=hR.ext0 (fun _ _ _ h=>h.elim);have k0:=hxx.cell PA3.o;have k1:=hxx.cell PB3.o;have k2:=hxx.cell RA2.o;have k3:=hxx.cell RB2.o;have k4:=hxx.cell NA.o;have k5:=hxx.cell NB.o;clear hxx hR hN hp hρ;go_light;go_simp;exact ⟨rfl,rfl⟩
           ·rfl
           apply Chain.pure (LZ.refl _) (by rfl)
           ·intro vals γ w' ρ hR hN hp hρ hc hf hg;refine ⟨rfl,?_⟩;have e5:=hρ 5;(conv at e5=>rhs; whnf);clear hR hN hp hρ;go_light;go_simp;exact ⟨rfl,rfl⟩
           ·rfl
           apply Chain.pure (LZ.refl _) (by rfl)
           ·intro vals γ w' ρ hR hN hp hρ hc hf hg;refine ⟨rfl,?_⟩;have e104:ρ (.tmp 104)=_:=(hρ 104).trans (hp 10 (by decide));have e105:ρ (.tmp 105)=_:=(hρ 105).trans (hp 11 (by decide));clear hR hN hp hρ;go_light;go_simp;exact ⟨rfl,rfl⟩
           ·rfl
           apply Chain.pure (LZ.refl _) (by rfl)
           ·intro vals γ w' ρ hR hN hp hρ hc hf hg;refine ⟨rfl,?_⟩;have e106:ρ (.tmp 106)=_:=(hρ 106).trans (hp 12 (by decide));clear hR hN hp hρ;go_light;go_simp;exact ⟨rfl,rfl⟩
           ·rfl
           apply Chain.pure (LZ.refl _) (by rfl)
           ·intro vals γ w' ρ hR hN hp hρ hc hf hg;refine ⟨rfl,?_⟩;have e107:ρ (.tmp 107)=_:=(hρ 107).trans (hp 13 (by decide));have hxx:=hR.ext0 (fun _ _ _ h=>h.elim);have k0:=hxx.cell PA3.o;have k1:=hxx.cell PB3.o;have k2:=hxx.cell RA2.o;have k3:=hxx.cell RB2.o;have k4:=hxx.cell NA.o;have k5:=hxx.cell NB.o;clear hxx hR hN hp hρ;go_light;go_simp;exact ⟨rfl,rfl⟩
           ·rfl
           apply Chain.pure (LZ.refl _) (by rfl)
           ·intro vals γ w' ρ hR hN hp hρ hc hf hg;refine ⟨rfl,?_⟩;have e7:=hρ 7;(conv at e7=>rhs; whnf);clear hR hN hp hρ;go_light;go_simp;exact ⟨rfl,rfl⟩
           ·rfl
           apply Chain.pure (LZ.refl _) (by rfl)
           ·intro vals γ w' ρ hR hN hp hρ hc hf hg;refine ⟨rfl,?_⟩;have e108:ρ (.tmp 108)=_:=(hρ 108).trans (hp 14 (by decide));have e109:ρ (.tmp 109)=_:=(hρ 109).trans (hp 15 (by decide));clear hR hN hp hρ;go_light;go_simp;exact ⟨rfl,rfl⟩
           ·rfl
           apply Chain.pure (LZ.refl _) (by rfl)
           ·intro vals γ w' ρ hR hN hp hρ hc hf hg;refine ⟨rfl,?_⟩;have e110:ρ (.tmp 110)=_:=(hρ 110).trans (hp 16 (by decide));have hxx:=hR.ext0 (fun _ _ _ h=>h.elim);have k0:=hxx.cell PA3.o;have k1:=hxx.cell PB3.o;have k2:=hxx.cell RA2.o;have k3:=hxx.cell RB2.o;have k4:=hxx.cell NA.o;have k5:=hxx.cell NB.o;clear hxx hR hN hp hρ;go_light;go_simp;exact ⟨rfl,rfl⟩
           ·rfl
           apply Chain.pure (LZ.refl _) (by rfl)
           ·intro vals γ w' ρ hR hN hp hρ hc hf hg;refine ⟨rfl,?_⟩;have e102:ρ (.tmp 102)=_:=(hρ 102).trans (hp 8 (by decide));have e111:ρ (.tmp 111)=_:=(hρ 111).trans (hp 17 (by decide));clear hR hN hp hρ;go_light;go_simp;exact ⟨rfl,rfl⟩
           ·rfl
           intro vals γ w9 hR hG;have v0:vals 0=_:=hG 0 (by decide);have v1:vals 1=_:=hG 1 (by decide);have v2:vals 2=_:=hG 2 (by decide);have v3:vals 3=_:=hG 3 (by decide);have v4:vals 4=_:=hG 4 (by decide);have v5:vals 5=_:=hG 5 (by decide);have v6:vals 6=_:=hG 6 (by decide);have v7:vals 7=_:=hG 7 (by decide);have v8:vals 8=_:=hG 8 (by decide);have v9:vals 9=_:=hG 9 (by decide);have v10:vals 10=_:=hG 10 (by decide);have v11:vals 11=_:=hG 11 (by decide);have v12:vals 12=_:=hG 12 (by decide);have v13:vals 13=_:=hG 13 (by decide);have v14:vals 14=_:=hG 14 (by decide);have v15:vals 15=_:=hG 15 (by decide);have v16:vals 16=_:=hG 16 (by decide);have v17:vals 17=_:=hG 17 (by decide);have v18:vals 18=_:=hG 18 (by decide);simp only [lexFrame,Act.put,List.setIfInBounds_toArray,List.set_cons_succ,List.set_cons_zero,Nat.zero_add,Nat.reduceAdd,v0,v1,v2,v3,v4,v5,v6,v7,v8,v9,v10,v11,v12,v13,v14,v15,v16,v17,v18];clear v0 v1 v2 v3 v4 v5 v6 v7 v8 v9 v10 v11 v12 v13 v14 v15 v16 v17 v18;have HX9:=Hd (show Ext wi w9 from hR.ext0 (fun _ _ _ h=>h.elim));clear hR hG;have HXK:=Hd (HXJ.o.trans HX9.o);by_cases huv:u=v
           ·have juv:(u != v)=false:=(by rw [bne_eq_false_iff_eq]; exact huv);have HUV:=Hd huv;clear huv;go_wp2;go_roundw
            case rel=>exact ⟨j+1,by omega,take_snoc_eq hja hjb HPJ.o (by rw [← HEU.o,← HEV.o,HUV.o]),by go_num,HXK.o⟩
            case measure=>simp [intOf]; omega
           ·have juv:(u != v)=true:=(by rw [bne_iff_ne]; exact huv);have HF:=Hd (HNE.o (by
             intro h;apply huv;rw [HEU.o,HEV.o];subst h;rfl))
            clear huv;go_wp2;go_ret;exact ⟨by rw [HF.o]; rfl,(HX0.o.trans HX3.o).trans HXK.o⟩
          ·have HXY:=Hd (show x=y by
            have h1:=HPJ.o;rw [List.take_of_length_le (by rw [← HXN.o]; omega),List.take_of_length_le (by rw [← HYN.o]; omega)] at h1;have h2:x.2.1=y.2.1:=(by simpa using HBV.o.symm);have h3:x.1=y.1:=(by rw [← HXI.o,← HYI.o]; exact HINE.o);exact Prod.ext h3 (Prod.ext h2 h1))
           go_wp2;go_roundw
           case rel=>exact ⟨k+1,by omega,take_snoc_eq hka hkb HP.o (by rw [← HEX.o,← HEY.o,HXY.o]),by go_num,HX3.o.trans HXJ.o⟩
           case measure=>simp [intOf]; omega
        ·have jn:((xn:Int) != (yn:Int))=true:=(by rw [bne_iff_ne]; omega);have HF:=Hd (HNE.o (by intro h; apply hn; rw [HXN.o,HYN.o,h]));go_wp2;go_ret;exact ⟨by rw [HF.o]; rfl,HX0.o.trans HX3.o⟩
      ·have HIN:=Hd (show (xi != yi)=true by rw [bne_iff_ne]; exact hin);have HF:=Hd (HNE.o (by intro h; apply hin; rw [HXI.o,HYI.o,h]));clear hin
       go_upto_region 7 with fail
       refine wp_region_chain (by kernel_rfl) (fun i=>[i]) (by kernel_rfl) (LZ (fun _ _=>False)) (LZ.refl _) (LZ.trans _) (LK []) gz0 (LK.zero _) ?_;apply Chain.pure (LZ.refl _) (by rfl)
       ·intro vals γ w' ρ hR hN hp hρ hc hf hg;refine ⟨rfl,?_⟩;have e2:=hρ 2;(conv at e2=>rhs; whnf);clear hR hN hp hρ;go_light;go_simp;exact ⟨rfl,rfl⟩
       ·rfl
       apply Chain.pure (LZ.refl _) (by rfl)
       ·intro vals γ w' ρ hR hN hp hρ hc hf hg;refine ⟨rfl,?_⟩;have e49:ρ (.tmp 49)=_:=(hρ 49).trans (hp 0 (by decide));have hxx:=hR.ext0 (fun _ _ _ h=>h.elim);have k0:=hxx.cell PA1.o;have k1:=hxx.cell PB1.o;have k2:=hxx.cell QA0.o;have k3:=hxx.cell QB0.o;have k4:=hxx.cell QA2.o;have k5:=hxx.cell QB2.o;clear hxx hR hN hp hρ;go_light;go_simp;exact ⟨rfl,rfl⟩
       ·rfl
       apply Chain.pure (LZ.refl _) (by rfl)
       ·intro vals γ w' ρ hR hN hp hρ hc hf hg;refine ⟨rfl,?_⟩;have e5:=hρ 5;(conv at e5=>rhs; whnf);clear hR hN hp hρ;go_light;go_simp;exact ⟨rfl,rfl⟩
       ·rfl
       apply Chain.pure (LZ.refl _) (by rfl)
       ·intro vals γ w' ρ hR hN hp hρ hc hf hg;refine ⟨rfl,?_⟩;have e50:ρ (.tmp 50)=_:=(hρ 50).trans (hp 1 (by decide));have e51:ρ (.tmp 51)=_:=(hρ 51).trans (hp 2 (by decide));clear hR hN hp hρ;go_light;go_simp;exact ⟨rfl,rfl⟩
       ·rfl
       apply Chain.pure (LZ.refl _) (by rfl)
       ·intro vals γ w' ρ hR hN hp hρ hc hf hg;refine ⟨rfl,?_⟩;have e52:ρ (.tmp 52)=_:=(hρ 52).trans (hp 3 (by decide));clear hR hN hp hρ;go_light;go_simp;exact ⟨rfl,rfl⟩
       ·rfl
       apply Chain.pure (LZ.refl _) (by rfl)
       ·intro vals γ w' ρ hR hN hp hρ hc hf hg;refine ⟨rfl,?_⟩;have e53:ρ (.tmp 53)=_:=(hρ 53).trans (hp 4 (by decide));have hxx:=hR.ext0 (fun _ _ _ h=>h.elim);have k0:=hxx.cell PA1.o;have k1:=hxx.cell PB1.o;have k2:=hxx.cell QA0.o;have k3:=hxx.cell QB0.o;have k4:=hxx.cell QA2.o;have k5:=hxx.cell QB2.o;clear hxx hR hN hp hρ;go_light;go_simp;exact ⟨rfl,rfl⟩
       ·rfl
       apply Chain.pure (LZ.refl _) (by rfl)
       ·intro vals γ w' ρ hR hN hp hρ hc hf hg;refine ⟨rfl,?_⟩;have e3:=hρ 3;(conv at e3=>rhs; whnf);clear hR hN hp hρ;go_light;go_simp;exact ⟨rfl,rfl⟩
       ·rfl
       apply Chain.pure (LZ.refl _) (by rfl)
       ·intro vals γ w' ρ hR hN hp hρ hc hf hg;refine ⟨rfl,?_⟩;have e55:ρ (.tmp 55)=_:=(hρ 55).trans (hp 6 (by decide));have hxx:=hR.ext0 (fun _ _ _ h=>h.elim);have k0:=hxx.cell PA1.o;have k1:=hxx.cell PB1.o;have k2:=hxx.cell QA0.o;have k3:=hxx.cell QB0.o;have k4:=hxx.cell QA2.o;have k5:=hxx.cell QB2.o;clear hxx hR hN hp hρ;go_light;go_simp;exact ⟨rfl,rfl⟩
       ·rfl
       apply Chain.pure (LZ.refl _) (by rfl)
       ·intro vals γ w' ρ hR hN hp hρ hc hf hg;refine ⟨rfl,?_⟩;have e5:=hρ 5;(conv at e5=>rhs; whnf);clear hR hN hp hρ;go_light;go_simp;exact ⟨rfl,rfl⟩
       ·rfl
       apply Chain.pure (LZ.refl _) (by rfl)
       ·intro vals γ w' ρ hR hN hp hρ hc hf hg;refine ⟨rfl,?_⟩;have e56:ρ (.tmp 56)=_:=(hρ 56).trans (hp 7 (by decide));have e57:ρ (.tmp 57)=_:=(hρ 57).trans (hp 8 (by decide));clear hR hN hp hρ;go_light;go_simp;exact ⟨rfl,rfl⟩
       ·rfl
       apply Chain.pure (LZ.refl _) (by rfl)
       ·intro vals γ w' ρ hR hN hp hρ hc hf hg;refine ⟨rfl,?_⟩;have e58:ρ (.tmp 58)=_:=(hρ 58).trans (hp 9 (by decide));clear hR hN hp hρ;go_light;go_simp;exact ⟨rfl,rfl⟩
       ·rfl
       apply Chain.pure (LZ.refl _) (by rfl)
       ·intro vals γ w' ρ hR hN hp hρ hc hf hg;refine ⟨rfl,?_⟩;have e59:ρ (.tmp 59)=_:=(hρ 59).trans (hp 10 (by decide));have hxx:=hR.ext0 (fun _ _ _ h=>h.elim);have k0:=hxx.cell PA1.o;have k1:=hxx.cell PB1.o;have k2:=hxx.cell QA0.o;have k3:=hxx.cell QB0.o;have k4:=hxx.cell QA2.o;have k5:=hxx.cell QB2.o;clear hxx hR hN hp hρ;go_light;go_simp;exact ⟨rfl,rfl⟩
       ·rfl
       apply Chain.pure (LZ.refl _) (by rfl)
       ·intro vals γ w' ρ hR hN hp hρ hc hf hg;refine ⟨rfl,?_⟩;have e54:ρ (.tmp 54)=_:=(hρ 54).trans (hp 5 (by decide));have e60:ρ (.tmp 60)=_:=(hρ 60).trans (hp 11 (by decide));have z0:=HIN.o;clear hR hN hp hρ;go_light;go_simp;exact ⟨rfl,rfl⟩
       ·rfl
       apply Chain.pure (LZ.refl _) (by rfl)
       ·intro vals γ w' ρ hR hN hp hρ hc hf hg;refine ⟨rfl,?_⟩;have e61:ρ (.tmp 61)=_:=(hρ 61).trans (hp 12 (by decide));clear hR hN hp hρ;go_light;go_simp;exact ⟨rfl,rfl⟩
       ·rfl
       refine Chain.no (by rfl) (by rfl) ?_ ?_
       ·intro vals γ w' hp;show (boolOf (vals 13)==some false)=false;rw [show vals 13=.bool true from hp 13 (by decide)]; rfl
       refine Chain.no (by rfl) (by rfl) ?_ ?_
       ·intro vals γ w' hp;show (boolOf (vals 13)==some false)=false;rw [show vals 13=.bool true from hp 13 (by decide)]; rfl
       apply Chain.pure (LZ.refl _) (by rfl)
       ·intro vals γ w' ρ hR hN hp hρ hc hf hg;refine ⟨rfl,?_⟩;have e62:ρ (.tmp 62)=_:=(hρ 62).trans (hp 13 (by decide));have e64:ρ (.tmp 64)=_:=(hρ 64).trans (hp 15 (by decide));clear hR hN hp hρ;go_light;go_simp;exact ⟨rfl,rfl⟩
       ·rfl
       apply Chain.pure (LZ.refl _) (by rfl)
       ·intro vals γ w' ρ hR hN hp hρ hc hf hg;refine ⟨rfl,?_⟩;have e65:ρ (.tmp 65)=_:=(hρ 65).trans (hp 16 (by decide));clear hR hN hp hρ;go_light;go_simp;exact ⟨rfl,rfl⟩
       ·rfl
       refine Chain.no (by rfl) (by rfl) ?_ ?_
       ·intro vals γ w' hp;show (boolOf (vals 17)==some false)=false;rw [show vals 17=.bool true from hp 17 (by decide)]; rfl
       refine Chain.no (by rfl) (by rfl) ?_ ?_
       ·intro vals γ w' hp;show (boolOf (vals 17)==some false)=false;rw [show vals 17=.bool true from hp 17 (by decide)]; rfl
       refine Chain.no (by rfl) (by rfl) ?_ ?_
       ·intro vals γ w' hp;show (boolOf (vals 17)==some false)=false;rw [show vals 17=.bool true from hp 17 (by decide)]; rfl
       refine Chain.no (by rfl) (by rfl) ?_ ?_
       ·intro vals γ w' hp;show (boolOf (vals 17)==some false)=false;rw [show vals 17=.bool true from hp 17 (by decide)]; rfl
       refine Chain.no (by rfl) (by rfl) ?_ ?_
       ·intro vals γ w' hp;show (boolOf (vals 17)==some false)=false;rw [show vals 17=.bool true from hp 17 (by decide)]; rfl
       refine Chain.no (by rfl) (by rfl) ?_ ?_
       ·intro vals γ w' hp;show (boolOf (vals 17)==some false)=false;rw [show vals 17=.bool true from hp 17 (by decide)]; rfl
       refine Chain.no (by rfl) (by rfl) ?_ ?_
       ·intro vals γ w' hp;show (boolOf (vals 17)==some false)=false;rw [show vals 17=.bool true from hp 17 (by decide)]; rfl
       refine Chain.no (by rfl) (by rfl) ?_ ?_
       ·intro vals γ w' hp;show (boolOf (vals 17)==some false)=false;rw [show vals 17=.bool true from hp 17 (by decide)]; rfl
       refine Chain.no (by rfl) (by rfl) ?_ ?_
       ·intro vals γ w' hp;show (boolOf (vals 17)==some false)=false;rw [show vals 17=.bool true from hp 17 (by decide)]; rfl
       refine Chain.no (by rfl) (by rfl) ?_ ?_
       ·intro vals γ w' hp;show (boolOf (vals 17)==some false)=false;rw [show vals 17=.bool true from hp 17 (by decide)]; rfl
       refine Chain.no (by rfl) (by rfl) ?_ ?_
       ·intro vals γ w' hp;show (boolOf (vals 17)==some false)=false;rw [show vals 17=.bool true from hp 17 (by decide)]; rfl
       refine Chain.no (by rfl) (by rfl) ?_ ?_
       ·intro vals γ w' hp;show (boolOf (vals 17)==some false)=false;rw [show vals 17=.bool true from hp 17 (by decide)]; rfl
       refine Chain.no (by rfl) (by rfl) ?_ ?_
       ·intro vals γ w' hp;show (boolOf (vals 17)==some false)=false;rw [show vals 17=.bool true from hp 17 (by decide)]; rfl
       refine Chain.no (by rfl) (by rfl) ?_ ?_
       ·intro vals γ w' hp;show (boolOf (vals 17)==some false)=false;rw [show vals 17=.bool true from hp 17 (by decide)]; rfl
       refine Chain.no (by rfl) (by rfl) ?_ ?_
       ·intro vals γ w' hp;show (boolOf (vals 17)==some false)=false;rw [show vals 17=.bool true from hp 17 (by decide)]; rfl
       apply Chain.pure (LZ.refl _) (by rfl)
       ·intro vals γ w' ρ hR hN hp hρ hc hf hg;refine ⟨rfl,?_⟩;have e66:ρ (.tmp 66)=_:=(hρ 66).trans (hp 17 (by decide));have e81:ρ (.tmp 81)=_:=(hρ 81).trans (hp 32 (by decide));clear hR hN hp hρ;go_light;go_simp;exact ⟨rfl,rfl⟩
       ·rfl
       intro vals γ w9 hR hG;have v0:vals 0=_:=hG 0 (by decide);have v1:vals 1=_:=hG 1 (by decide);have v2:vals 2=_:=hG 2 (by decide);have v3:vals 3=_:=hG 3 (by decide);have v4:vals 4=_:=hG 4 (by decide);have v5:vals 5=_:=hG 5 (by decide);have v6:vals 6=_:=hG 6 (by decide);have v7:vals 7=_:=hG 7 (by decide);have v8:vals 8=_:=hG 8 (by decide);have v9:vals 9=_:=hG 9 (by decide);have v10:vals 10=_:=hG 10 (by decide);have v11:vals 11=_:=hG 11 (by decide);have v12:vals 12=_:=hG 12 (by decide);have v13:vals 13=_:=hG 13 (by decide);have v14:vals 14=_:=hG 14 (by decide);have v15:vals 15=_:=hG 15 (by decide);have v16:vals 16=_:=hG 16 (by decide);have v17:vals 17=_:=hG 17 (by decide);have v18:vals 18=_:=hG 18 (by decide);have v19:vals 19=_:=hG 19 (by decide);have v20:vals 20=_:=hG 20 (by decide);have v21:vals 21=_:=hG 21 (by decide);have v22:vals 22=_:=hG 22 (by decide);have v23:vals 23=_:=hG 23 (by decide);have v24:vals 24=_:=hG 24 (by decide);have v25:vals 25=_:=hG 25 (by decide);have v26:vals 26=_:=hG 26 (by decide);have v27:vals 27=_:=hG 27 (by decide);have v28:vals 28=_:=hG 28 (by decide);have v29:vals 29=_:=hG 29 (by decide);have v30:vals 30=_:=hG 30 (by decide);have v31:vals 31=_:=hG 31 (by decide);have v32:vals 32=_:=hG 32 (by decide);have v33:vals 33=_:=hG 33 (by decide);simp only [lexFrame,Act.put,List.setIfInBounds_toArray,List.set_cons_succ,List.set_cons_zero,Nat.zero_add,Nat.reduceAdd,v0,v1,v2,v3,v4,v5,v6,v7,v8,v9,v10,v11,v12,v13,v14,v15,v16,v17,v18,v19,v20,v21,v22,v23,v24,v25,v26,v27,v28,v29,v30,v31,v32,v33];clear v0 v1 v2 v3 v4 v5 v6 v7 v8 v9 v10 v11 v12 v13 v14 v15 v16 v17 v18 v19 v20 v21 v22 v23 v24 v25 v26 v27 v28 v29 v30 v31 v32 v33;have HX9:=Hd (show Ext w2 w9 from hR.ext0 (fun _ _ _ h=>h.elim));clear hR hG;go_wp2;go_ret;exact ⟨by rw [HF.o]; rfl,(HX0.o.trans HX2.o).trans HX9.o⟩
     ·have HF:=Hd (show sameP da da la la a b=true by
       have h:=HP.o;rw [List.take_of_length_le (by rw [← HNA.o]; omega),List.take_of_length_le (by rw [← HNB.o]; omega)] at h;rw [HEND.o,h]; simp)
      clear hbk2 hbk3;go_wp2;go_ret;exact ⟨by rw [HF.o]; rfl,HX0.o.trans HX.o⟩
   ·have j3:((na:Int) != (nb:Int))=true:=(by rw [bne_iff_ne]; omega);have HF:=Hd (show sameP da db la lb a b=false from sameP_not (by rintro ⟨_,_,h⟩; exact h3 (by rw [HNA.o,HNB.o,h])));subst h1 h2;go_wp2;go_ret;exact ⟨by rw [HF.o]; rfl,HX0.o⟩
  ·have j2:(la != lb)=true:=(by rw [bne_iff_ne]; exact h2);have HF:=Hd (show sameP da db la lb a b=false from sameP_not (by rintro ⟨_,h,_⟩; exact h2 h));subst h1;go_wp2;go_ret;exact ⟨by rw [HF.o]; rfl,HX0.o⟩
 ·have j1:(da != db)=true:=(by rw [bne_iff_ne]; exact h1);have HF:=Hd (show sameP da db la lb a b=false from sameP_not (by rintro ⟨h,_⟩; exact h1 h));go_wp2;go_ret;exact ⟨by rw [HF.o]; rfl,HX0.o⟩
end Go.Proofs.YtomdpipekmcojaaGreatDoor
