/- The library's stable sort of at most 20 numbers: parts by their places. Conditions: the comparison answers at each memory. -/
import Derived.Test.YtomdpipekmcojaaGreatDoorBk8
import Derived.IntWalk
namespace Go.Proofs.YtomdpipekmcojaaGreatDoor
open Go Go.RowKit

def RetSoQ (w:World) (g:Nat) (tl:Array Value) (l:List Nat) (e:Ending) (w':World):Prop:=e=.returned (.tuple #[])∧But g w w'∧Blk w' g 3 (dcells l++tl)
set_option maxRecDepth 100000 in
set_option maxHeartbeats 4000000 in
theorem insertion_Q (g c:Nat) (bP:Nat) (tl:Array Value) (es:List Nat) (lt:Nat→Nat→Bool) (hw:Wk lt) (n:Nat) (hn:n=es.length) (hn1:n≤1000) (w:World) (h:Blk w g 3 (dcells es++tl)) (hc:∀ w',But g w w'→∀ x∈es,∀ y∈es,Calls Tryz.prog 115 #[.int .i64 (x:Int),.int .i64 (y:Int),.pointer (some ⟨bP,0,none⟩)] w' (RetC w' (lt x y))) :
  Calls Tryz.prog 202 #[.slice (some ⟨g,0,none⟩) n c,.int .i64 0,.int .i64 (n:Int),.func (.func 115) #[] #[.pointer (some ⟨bP,0,none⟩)]] w (RetSoQ w g tl (sortG lt es)):=by
 have H:=Hd h;have HN:=Hd hn;have HC:=Hd hc;have HW:=Hd hw;clear h hn hc hw
 go_enter Tryz.func202,Tryz.ntmps202
 go_wp2
 go_loopw [8] (fun i wr=>∃ (k:Nat),1≤k∧(k≤n∨k=1)∧i=.int .i64 k∧But g w wr∧Blk wr g 3 (dcells (sortG lt (es.take k)++es.drop k)++tl)) (fun i _=>n+1-(intOf i).toNat)
 case atStart =>
  refine ⟨1,Nat.le_refl _,.inr rfl,rfl,But.refl _ _,?_⟩;have h1:sortG lt (es.take 1)=es.take 1:=by
   match es with
   | []=>rfl
   | x :: _=>rfl
  rw [h1,List.take_append_drop];exact H.o
 case round =>
  obtain ⟨k,hk1,hkn,rfl,hbut,hsrt⟩:=hrel;have HB:=Hd hbut;have HS:=Hd hsrt;clear hbut hsrt;by_cases hlt:k<n
  ·have hke:k<es.length:=(by rw [← HN.o]; exact hlt);obtain ⟨x,hx⟩:∃ x,x=es[k]:=⟨_,rfl⟩;obtain ⟨p,hp⟩:∃ p,p=sortG lt (es.take k):=⟨_,rfl⟩;obtain ⟨q,hq⟩:∃ q,q=es.drop (k+1):=⟨_,rfl⟩;have hpl:p.length=k:=(by rw [hp,len_sortG,List.length_take]; omega);have hql:q.length+k+1=n:=(by rw [hq,List.length_drop,HN.o]; omega);have HP:=Hd hp;have HQ:=Hd hq;have HX:=Hd hx;have HPL:=Hd hpl;have HQL:=Hd hql;have HXM:=Hd (show x∈es by rw [hx]; exact List.getElem_mem hke);have HPM:=Hd (show ∀ y∈p,y∈es by intro y hy; rw [hp,mem_sortG] at hy; exact List.mem_of_mem_take hy);have HPS:=Hd (show SrtG lt p by rw [hp]; exact SrtG.sort HW.o _);have HS0:=Hd (show Blk wr g 3 (dcells (p++x :: q)++tl) by have h1:=HS.o; rw [List.drop_eq_getElem_cons hke,← hp,← hq,← hx] at h1; exact h1);clear hx hp hq hpl hql HS;go_wp2;obtain ⟨wo,rfl⟩:∃ wo:World,wo=wr:=⟨_,rfl⟩
   go_loopw [9] (fun v wr=>∃ (j:Nat) (p1 p2:List Nat),j≤k∧v=.int .i64 j∧p=p1++p2∧p1.length=j∧(∀ y∈p2,lt x y=true)∧But g w wr∧Blk wr g 3 (dcells (p1++x :: p2++q)++tl)) (fun v _=>(intOf v).toNat)
   case atStart=>exact ⟨k,p,[],Nat.le_refl _,rfl,by simp,HPL.o,by simp,HB.o,by simpa using HS0.o⟩
   case round =>
    clear HS0 HB;obtain ⟨j,p1,p2,hjk,rfl,hpp,hp1,hall,hbut,hsrt⟩:=hrel;have HB:=Hd hbut;have HS:=Hd hsrt;have HPP:=Hd hpp;have HP1:=Hd hp1;have HALL:=Hd hall;clear hbut hsrt hpp hp1 hall;by_cases hj0:j=0
    ·have HDONE:=Hd (show insG lt x p=p1++x :: p2 from by
      rw [HPP.o];refine insG_at (fun z hz => ?_) (fun z hz=>HALL.o z (List.mem_of_mem_head? hz));have:p1=[]:=List.eq_nil_of_length_eq_zero (by rw [HP1.o]; exact hj0);rw [this] at hz;cases hz)
     go_upto_region 4 with fail
     refine wp_region_chain (by kernel_rfl) (fun i=>[i]) (by kernel_rfl) (LX (fun _ _=>False)) (LX.refl _) (LX.trans _) (LM []) gh0 (LM.zero _) ?_;apply Chain.pure (LX.refl _) (by rfl)
     ·intro vals γ w' ρ hR hN hp hρ hc hf hg;refine ⟨rfl,?_⟩;have e9:=hρ 9;(conv at e9=>rhs; whnf);clear hR hN hp hρ;go_light;go_simp;exact ⟨rfl,rfl⟩
     ·rfl
     apply Chain.pure (LX.refl _) (by rfl)
     ·intro vals γ w' ρ hR hN hp hρ hc hf hg;refine ⟨rfl,?_⟩;have e1:=hρ 1;(conv at e1=>rhs; whnf);clear hR hN hp hρ;go_light;go_simp;exact ⟨rfl,rfl⟩
     ·rfl
     apply Chain.pure (LX.refl _) (by rfl)
     ·intro vals γ w' ρ hR hN hp hρ hc hf hg;refine ⟨rfl,?_⟩;have e18:ρ (.tmp 18)=_:=(hρ 18).trans (hp 0 (by decide));have e19:ρ (.tmp 19)=_:=(hρ 19).trans (hp 1 (by decide));clear hR hN hp hρ;go_light;go_simp;exact ⟨rfl,rfl⟩
     ·rfl
     apply Chain.pure (LX.refl _) (by rfl)
     ·intro vals γ w' ρ hR hN hp hρ hc hf hg;refine ⟨rfl,?_⟩;have e20:ρ (.tmp 20)=_:=(hρ 20).trans (hp 2 (by decide));clear hR hN hp hρ;go_light;go_simp;exact ⟨rfl,rfl⟩
     ·rfl
     refine Chain.no (by rfl) (by rfl) ?_ ?_
     ·intro vals γ w' hp;show (boolOf (vals 3)==some true)=false;rw [show vals 3=.bool false from hp 3 (by decide)]; rfl
     refine Chain.no (by rfl) (by rfl) ?_ ?_
     ·intro vals γ w' hp;show (boolOf (vals 3)==some true)=false;rw [show vals 3=.bool false from hp 3 (by decide)]; rfl
     refine Chain.no (by rfl) (by rfl) ?_ ?_
     ·intro vals γ w' hp;show (boolOf (vals 3)==some true)=false;rw [show vals 3=.bool false from hp 3 (by decide)]; rfl
     refine Chain.no (by rfl) (by rfl) ?_ ?_
     ·intro vals γ w' hp;show (boolOf (vals 3)==some true)=false;rw [show vals 3=.bool false from hp 3 (by decide)]; rfl
     refine Chain.no (by rfl) (by rfl) ?_ ?_
     ·intro vals γ w' hp;show (boolOf (vals 3)==some true)=false;rw [show vals 3=.bool false from hp 3 (by decide)]; rfl
     refine Chain.no (by rfl) (by rfl) ?_ ?_
     ·intro vals γ w' hp;show (boolOf (vals 3)==some true)=false;rw [show vals 3=.bool false from hp 3 (by decide)]; rfl
     refine Chain.no (by rfl) (by rfl) ?_ ?_
     ·intro vals γ w' hp;show (boolOf (vals 3)==some true)=false;rw [show vals 3=.bool false from hp 3 (by decide)]; rfl
     refine Chain.no (by rfl) (by rfl) ?_ ?_
     ·intro vals γ w' hp;show (boolOf (vals 3)==some true)=false;rw [show vals 3=.bool false from hp 3 (by decide)]; rfl
     refine Chain.no (by rfl) (by rfl) ?_ ?_
     ·intro vals γ w' hp;show (boolOf (vals 3)==some true)=false;rw [show vals 3=.bool false from hp 3 (by decide)]; rfl
     refine Chain.no (by rfl) (by rfl) ?_ ?_
     ·intro vals γ w' hp;show (boolOf (vals 3)==some true)=false;rw [show vals 3=.bool false from hp 3 (by decide)]; rfl
     refine Chain.no (by rfl) (by rfl) ?_ ?_
     ·intro vals γ w' hp;show (boolOf (vals 3)==some true)=false;rw [show vals 3=.bool false from hp 3 (by decide)]; rfl
     refine Chain.no (by rfl) (by rfl) ?_ ?_
     ·intro vals γ w' hp;show (boolOf (vals 3)==some true)=false;rw [show vals 3=.bool false from hp 3 (by decide)]; rfl
     apply Chain.pure (LX.refl _) (by rfl)
     ·intro vals γ w' ρ hR hN hp hρ hc hf hg;refine ⟨rfl,?_⟩;have e21:ρ (.tmp 21)=_:=(hρ 21).trans (hp 3 (by decide));have e33:ρ (.tmp 33)=_:=(hρ 33).trans (hp 15 (by decide));clear hR hN hp hρ;go_light;go_simp;exact ⟨rfl,rfl⟩
     ·rfl
     intro vals γ w9 hR hG;have v0:vals 0=_:=hG 0 (by decide);have v1:vals 1=_:=hG 1 (by decide);have v2:vals 2=_:=hG 2 (by decide);have v3:vals 3=_:=hG 3 (by decide);have v4:vals 4=_:=hG 4 (by decide);have v5:vals 5=_:=hG 5 (by decide);have v6:vals 6=_:=hG 6 (by decide);have v7:vals 7=_:=hG 7 (by decide);have v8:vals 8=_:=hG 8 (by decide);have v9:vals 9=_:=hG 9 (by decide);have v10:vals 10=_:=hG 10 (by decide);have v11:vals 11=_:=hG 11 (by decide);have v12:vals 12=_:=hG 12 (by decide);have v13:vals 13=_:=hG 13 (by decide);have v14:vals 14=_:=hG 14 (by decide);have v15:vals 15=_:=hG 15 (by decide);have v16:vals 16=_:=hG 16 (by decide);simp only [lexFrame,Act.put,List.setIfInBounds_toArray,List.set_cons_succ,List.set_cons_zero,Nat.zero_add,Nat.reduceAdd,v0,v1,v2,v3,v4,v5,v6,v7,v8,v9,v10,v11,v12,v13,v14,v15,v16];clear v0 v1 v2 v3 v4 v5 v6 v7 v8 v9 v10 v11 v12 v13 v14 v15 v16;have hx6:Ext wr w9:=hR.ext0 (fun _ _ h=>h.elim);clear hR hG;have HB6:=Hd (HB.o.trans (But.of_ext hx6));have HS6:=Hd (HS.o.keep (hx6.kept _));clear hx6;go_wp2;go_roundw
     case rel=>exact ⟨k+1,by omega,by omega,by go_num,HB6.o,by rw [List.take_succ_eq_append_getElem hke,sortG_snoc,← HP.o,← HX.o,HDONE.o,← HQ.o]; exact HS6.o⟩
     case measure=>simp [intOf]; omega
    ·obtain ⟨j1,hj1⟩:∃ j1,j=j1+1:=⟨j-1,by omega⟩;have hne:p1≠[]:=fun e=>by have:=HP1.o; rw [e] at this; simp at this; omega
     obtain ⟨p',hp'⟩:∃ p',p'=p1.dropLast:=⟨_,rfl⟩;obtain ⟨y,hy⟩:∃ y,y=p1.getLast hne:=⟨_,rfl⟩;have hsplit:p1=p'++[y]:=(by rw [hp',hy,List.dropLast_concat_getLast]);have hpl':p'.length=j1:=(by have:=HP1.o; rw [hsplit] at this; simp at this; omega);have HSP:=Hd hsplit;have HPL':=Hd hpl';have HYM:=Hd (show y∈es from HPM.o y (by rw [HPP.o,hsplit]; simp));obtain ⟨es',hes'⟩:∃ es',es'=p'++y :: x :: (p2++q):=⟨_,rfl⟩;have hsy:Blk wr g 3 (dcells es'++tl):=(by have h1:=HS.o; rw [hsplit] at h1; rw [hes']; simpa using h1);have hlen:es'.length=n:=(by have h1:=HQL.o; have h2:=HPL.o; have h3:=HPP.o; rw [h3,hsplit] at h2; rw [hes']; simp at h2 ⊢; omega);have hy1:es'[j1]?=some y:=(by rw [hes',List.getElem?_append_right (by omega),hpl',Nat.sub_self]; rfl);have hx1:es'[j]?=some x:=(by rw [hes',List.getElem?_append_right (by omega),hpl',hj1,Nat.add_sub_cancel_left]; rfl);have CY:=Hd (show (dcells es'++tl)[j1]?=some (.int .i64 (y:Int)) by rw [dcellsA_at (by omega),getD_of _ _ _ (by omega)]; rw [List.getElem?_eq_getElem (by omega)] at hy1; injection hy1 with e; rw [e]);have CX:=Hd (show (dcells es'++tl)[j]?=some (.int .i64 (x:Int)) by rw [dcellsA_at (by omega),getD_of _ _ _ (by omega)]; rw [List.getElem?_eq_getElem (by omega)] at hx1; injection hx1 with e; rw [e]);have hsw:(es'.set j y).set j1 x=p'++x :: y :: (p2++q):=(by rw [hes',hj1,← hpl']; simp);have HSW:=Hd hsw;have X0:=Hd (hsy.cell CX.o);have Y0:=Hd (hsy.cell CY.o);obtain ⟨b,hb⟩:∃ b,b=lt x y:=⟨_,rfl⟩;have HBE:=Hd hb;have HSY:=Hd hsy;have HJW:=Hd (show (j:Int)-1=(j1:Int) by omega);have HJ1:=Hd hj1;have HJ2:=Hd (show IntKind.i64.wrap (j1:Int)=(j1:Int) from IntWalk.i64_in _ (by omega));have hj1j:j1<j:=(by omega);have hjn:j<n:=(by omega);have hj1n:j1<n:=(by omega);have hjp:0<j:=(by omega);have i0:(0:Int)≤(j:Int):=(by omega);have i1:(j:Int)<(n:Int):=(by omega);have i2:(0:Int)≤(j1:Int):=(by omega);have i3:(j1:Int)<(n:Int):=(by omega);have i4:(0:Int)<(j:Int):=(by omega);clear hj1 hne hp' hy hsplit hpl' hsy hb hes' hsw hy1 hx1;have HLEN:=Hd hlen;clear hlen
     go_upto_region 4 with fail
     refine wp_region_chain (by kernel_rfl) (fun i=>[i]) (by kernel_rfl) (LX (fun _ _=>False)) (LX.refl _) (LX.trans _) (LM []) gh0 (LM.zero _) ?_;apply Chain.pure (LX.refl _) (by rfl)
     ·intro vals γ w' ρ hR hN hp hρ hc hf hg;refine ⟨rfl,?_⟩;have e9:=hρ 9;(conv at e9=>rhs; whnf);clear hR hN hp hρ;go_light;go_simp;exact ⟨rfl,rfl⟩
     ·rfl
     apply Chain.pure (LX.refl _) (by rfl)
     ·intro vals γ w' ρ hR hN hp hρ hc hf hg;refine ⟨rfl,?_⟩;have e1:=hρ 1;(conv at e1=>rhs; whnf);clear hR hN hp hρ;go_light;go_simp;exact ⟨rfl,rfl⟩
     ·rfl
     apply Chain.pure (LX.refl _) (by rfl)
     ·intro vals γ w' ρ hR hN hp hρ hc hf hg;refine ⟨rfl,?_⟩;have e18:ρ (.tmp 18)=_:=(hρ 18).trans (hp 0 (by decide));have e19:ρ (.tmp 19)=_:=(hρ 19).trans (hp 1 (by decide));clear hR hN hp hρ;go_light;go_simp;exact ⟨rfl,rfl⟩
     ·rfl
     apply Chain.pure (LX.refl _) (by rfl)
     ·intro vals γ w' ρ hR hN hp hρ hc hf hg;refine ⟨rfl,?_⟩;have e20:ρ (.tmp 20)=_:=(hρ 20).trans (hp 2 (by decide));clear hR hN hp hρ;go_light;go_simp;exact ⟨rfl,rfl⟩
     ·rfl
     apply Chain.pure (LX.refl _) (by rfl)
     ·intro vals γ w' ρ hR hN hp hρ hc hf hg;refine ⟨by show (boolOf (vals 3)==some true)=true; rw [show vals 3=.bool true from hp 3 (by decide)]; rfl,?_⟩;have e3:=hρ 3;(conv at e3=>rhs; whnf);clear hR hN hp hρ;go_light;go_simp;exact ⟨rfl,rfl⟩
     ·rfl
     apply Chain.pure (LX.refl _) (by rfl)
     ·intro vals γ w' ρ hR hN hp hρ hc hf hg;refine ⟨by show (boolOf (vals 3)==some true)=true; rw [show vals 3=.bool true from hp 3 (by decide)]; rfl,?_⟩;have e0:=hρ 0;(conv at e0=>rhs; whnf);clear hR hN hp hρ;go_light;go_simp;exact ⟨rfl,rfl⟩
     ·rfl
     apply Chain.pure (LX.refl _) (by rfl)
     ·intro vals γ w' ρ hR hN hp hρ hc hf hg;refine ⟨by show (boolOf (vals 3)==some true)=true; rw [show vals 3=.bool true from hp 3 (by decide)]; rfl,?_⟩;have e9:=hρ 9;(conv at e9=>rhs; whnf);clear hR hN hp hρ;go_light;go_simp;exact ⟨rfl,rfl⟩
     ·rfl
     apply Chain.pure (LX.refl _) (by rfl)
     ·intro vals γ w' ρ hR hN hp hρ hc hf hg;refine ⟨by show (boolOf (vals 3)==some true)=true; rw [show vals 3=.bool true from hp 3 (by decide)]; rfl,?_⟩;have e23:ρ (.tmp 23)=_:=(hρ 23).trans (hp 5 (by decide));have e24:ρ (.tmp 24)=_:=(hρ 24).trans (hp 6 (by decide));clear hR hN hp hρ;go_light;go_simp;exact ⟨rfl,rfl⟩
     ·rfl
     apply Chain.pure (LX.refl _) (by rfl)
     ·intro vals γ w' ρ hR hN hp hρ hc hf hg;refine ⟨by show (boolOf (vals 3)==some true)=true; rw [show vals 3=.bool true from hp 3 (by decide)]; rfl,?_⟩;have e25:ρ (.tmp 25)=_:=(hρ 25).trans (hp 7 (by decide));have hxx:=hR.ext0 (fun _ _ h=>h.elim);have k0:=hxx.cell X0.o;have k1:=hxx.cell Y0.o;clear hxx hR hN hp hρ;go_light;go_simp;exact ⟨rfl,rfl⟩
     ·rfl
     apply Chain.pure (LX.refl _) (by rfl)
     ·intro vals γ w' ρ hR hN hp hρ hc hf hg;refine ⟨by show (boolOf (vals 3)==some true)=true; rw [show vals 3=.bool true from hp 3 (by decide)]; rfl,?_⟩;have e0:=hρ 0;(conv at e0=>rhs; whnf);clear hR hN hp hρ;go_light;go_simp;exact ⟨rfl,rfl⟩
     ·rfl
     apply Chain.pure (LX.refl _) (by rfl)
     ·intro vals γ w' ρ hR hN hp hρ hc hf hg;refine ⟨by show (boolOf (vals 3)==some true)=true; rw [show vals 3=.bool true from hp 3 (by decide)]; rfl,?_⟩;have e9:=hρ 9;(conv at e9=>rhs; whnf);clear hR hN hp hρ;go_light;go_simp;exact ⟨rfl,rfl⟩
     ·rfl
     apply Chain.pure (LX.refl _) (by rfl)
     ·intro vals γ w' ρ hR hN hp hρ hc hf hg;refine ⟨by show (boolOf (vals 3)==some true)=true; rw [show vals 3=.bool true from hp 3 (by decide)]; rfl,?_⟩;have e28:ρ (.tmp 28)=_:=(hρ 28).trans (hp 10 (by decide));have z1:=HJW.o;have z2:=HJ2.o;clear hR hN hp hρ;go_light;go_simp;exact ⟨rfl,rfl⟩
     ·rfl
     apply Chain.pure (LX.refl _) (by rfl)
     ·intro vals γ w' ρ hR hN hp hρ hc hf hg;refine ⟨by show (boolOf (vals 3)==some true)=true; rw [show vals 3=.bool true from hp 3 (by decide)]; rfl,?_⟩;have e27:ρ (.tmp 27)=_:=(hρ 27).trans (hp 9 (by decide));have e29:ρ (.tmp 29)=_:=(hρ 29).trans (hp 11 (by decide));clear hR hN hp hρ;go_light;go_simp;exact ⟨rfl,rfl⟩
     ·rfl
     apply Chain.pure (LX.refl _) (by rfl)
     ·intro vals γ w' ρ hR hN hp hρ hc hf hg;refine ⟨by show (boolOf (vals 3)==some true)=true; rw [show vals 3=.bool true from hp 3 (by decide)]; rfl,?_⟩;have e30:ρ (.tmp 30)=_:=(hρ 30).trans (hp 12 (by decide));have hxx:=hR.ext0 (fun _ _ h=>h.elim);have k0:=hxx.cell X0.o;have k1:=hxx.cell Y0.o;clear hxx hR hN hp hρ;go_light;go_simp;exact ⟨rfl,rfl⟩
     ·rfl
     refine Chain.step (FP fun v γ w'=>∃ r:Int,v=.int .i64 r∧(r<0↔b=true)) (by rfl) (FP.stab ?_) ?_ ?_
     ·intro v γ w1 γ' w2 r h;exact h
     ·intro vals γ w' ρ hR hN hp hρ hc hf hg;refine ⟨by show (boolOf (vals 3)==some true)=true; rw [show vals 3=.bool true from hp 3 (by decide)]; rfl,?_⟩;have e22:ρ (.tmp 22)=_:=(hρ 22).trans (hp 4 (by decide));have e26:ρ (.tmp 26)=_:=(hρ 26).trans (hp 8 (by decide));have e31:ρ (.tmp 31)=_:=(hρ 31).trans (hp 13 (by decide));have HR:=Hd hR;have HBW:=Hd (HB.o.trans (But.of_ext (hR.ext0 fun _ _ h=>h.elim)));clear hR hN hp hρ;go_light;go_simp;refine (HC.o w' HBW.o x HXM.o y HYM.o).mono ?_;rintro e1 w3 ⟨r,he,hr,hx⟩;exact ⟨_,he,γ,LX.of_ext _ γ hx,fun _ _ _ h=>h,r,rfl,by rw [HBE.o]; exact hr⟩
     refine Chain.step (FP fun v γ w'=>v=.bool b) (by rfl) (FP.stab ?_) ?_ ?_
     ·intro v γ w1 γ' w2 r h;exact h
     ·intro vals γ w' ρ hR hN hp hρ hc hf hg;refine ⟨by show (boolOf (vals 3)==some true)=true; rw [show vals 3=.bool true from hp 3 (by decide)]; rfl,?_⟩;obtain ⟨r,hr0,hr1⟩:=hp 14 (by decide);have e32:=(hρ 32).trans hr0;have HR1:=Hd hr1;clear hr0 hr1 hR hN hp hρ;go_light;go_simp;refine ⟨γ,LX.refl _ _ _,fun _ _ _ h=>h,?_⟩;show Value.bool (decide (r<0))=Value.bool b;rw [show decide (r<0)=b by cases b <;> simp [HR1.o]]
     apply Chain.pure (LX.refl _) (by rfl)
     ·intro vals γ w' ρ hR hN hp hρ hc hf hg;refine ⟨rfl,?_⟩;have e21:ρ (.tmp 21)=_:=(hρ 21).trans (hp 3 (by decide));have e33:ρ (.tmp 33)=_:=(hρ 33).trans (hp 15 (by decide));clear hR hN hp hρ;go_light;go_simp;exact ⟨rfl,rfl⟩
     ·rfl
     intro vals γ w9 hR hG;have v0:vals 0=_:=hG 0 (by decide);have v1:vals 1=_:=hG 1 (by decide);have v2:vals 2=_:=hG 2 (by decide);have v3:vals 3=_:=hG 3 (by decide);have v4:vals 4=_:=hG 4 (by decide);have v5:vals 5=_:=hG 5 (by decide);have v6:vals 6=_:=hG 6 (by decide);have v7:vals 7=_:=hG 7 (by decide);have v8:vals 8=_:=hG 8 (by decide);have v9:vals 9=_:=hG 9 (by decide);have v10:vals 10=_:=hG 10 (by decide);have v11:vals 11=_:=hG 11 (by decide);have v12:vals 12=_:=hG 12 (by decide);have v13:vals 13=_:=hG 13 (by decide);have v16:vals 16=_:=hG 16 (by decide);simp only [lexFrame,Act.put,List.setIfInBounds_toArray,List.set_cons_succ,List.set_cons_zero,Nat.zero_add,Nat.reduceAdd,v0,v1,v2,v3,v4,v5,v6,v7,v8,v9,v10,v11,v12,v13,v16];clear v0 v1 v2 v3 v4 v5 v6 v7 v8 v9 v10 v11 v12 v13 v16;have hx6:Ext wr w9:=hR.ext0 (fun _ _ h=>h.elim);clear hR hG;have HB6:=Hd (HB.o.trans (But.of_ext hx6));have HSY6:=Hd (HSY.o.keep (hx6.kept _));have HS6:=Hd (HS.o.keep (hx6.kept _));clear hx6 X0 Y0;cases b
     ·have HDONE:=Hd (show insG lt x p=p1++x :: p2 from by
       have hbf:lt x y=false:=HBE.o.symm;rw [HPP.o];refine insG_at (fun z hz => ?_) (fun z hz=>HALL.o z (List.mem_of_mem_head? hz));have hsort:=HPS.o;rw [HPP.o,HSP.o] at hsort;rw [HSP.o] at hz;exact SrtG.le_last HW.o (List.pairwise_append.1 hsort).1 hbf z hz)
      go_wp2;go_roundw
      case rel=>exact ⟨k+1,by omega,by omega,by go_num,HB6.o,by rw [List.take_succ_eq_append_getElem hke,sortG_snoc,← HP.o,← HX.o,HDONE.o,← HQ.o]; exact HS6.o⟩
      case measure=>simp [intOf]; omega
     ·obtain ⟨w6,hw6⟩:∃ w6,w6=w9:=⟨_,rfl⟩;rw [← hw6] at HB6 HSY6 ⊢;clear hw6;have HBK:=Hd HSY6.o
      go_upto_region 6 with fail
      refine wp_region_chain (by kernel_rfl) (fun i=>[i]) (by kernel_rfl) (LX (fun m b=>(m=1000∨m=1001)∧b=g)) (LX.refl _) (LX.trans _) (LM [(9,[1000,1001]),(13,[1000,1001]),(15,[1000,1001]),(17,[1001])]) gh0 (LM.zero _) ?_;apply Chain.pure (LX.refl _) (by rfl)
      ·intro vals γ w' ρ hR hN hp hρ hc hf hg;refine ⟨rfl,?_⟩;have e0:=hρ 0;(conv at e0=>rhs; whnf);clear hR hN hp hρ;go_light;go_simp;exact ⟨rfl,rfl⟩
      ·rfl
      apply Chain.pure (LX.refl _) (by rfl)
      ·intro vals γ w' ρ hR hN hp hρ hc hf hg;refine ⟨rfl,?_⟩;have e9:=hρ 9;(conv at e9=>rhs; whnf);clear hR hN hp hρ;go_light;go_simp;exact ⟨rfl,rfl⟩
      ·rfl
      apply Chain.pure (LX.refl _) (by rfl)
      ·intro vals γ w' ρ hR hN hp hρ hc hf hg;refine ⟨rfl,?_⟩;have e0:=hρ 0;(conv at e0=>rhs; whnf);clear hR hN hp hρ;go_light;go_simp;exact ⟨rfl,rfl⟩
      ·rfl
      apply Chain.pure (LX.refl _) (by rfl)
      ·intro vals γ w' ρ hR hN hp hρ hc hf hg;refine ⟨rfl,?_⟩;have e9:=hρ 9;(conv at e9=>rhs; whnf);clear hR hN hp hρ;go_light;go_simp;exact ⟨rfl,rfl⟩
      ·rfl
      apply Chain.pure (LX.refl _) (by rfl)
      ·intro vals γ w' ρ hR hN hp hρ hc hf hg;refine ⟨rfl,?_⟩;have e40:ρ (.tmp 40)=_:=(hρ 40).trans (hp 3 (by decide));have z1:=HJW.o;have z2:=HJ2.o;clear hR hN hp hρ;go_light;go_simp;exact ⟨rfl,rfl⟩
      ·rfl
      apply Chain.pure (LX.refl _) (by rfl)
      ·intro vals γ w' ρ hR hN hp hρ hc hf hg;refine ⟨rfl,?_⟩;have e0:=hρ 0;(conv at e0=>rhs; whnf);clear hR hN hp hρ;go_light;go_simp;exact ⟨rfl,rfl⟩
      ·rfl
      apply Chain.pure (LX.refl _) (by rfl)
      ·intro vals γ w' ρ hR hN hp hρ hc hf hg;refine ⟨rfl,?_⟩;have e9:=hρ 9;(conv at e9=>rhs; whnf);clear hR hN hp hρ;go_light;go_simp;exact ⟨rfl,rfl⟩
      ·rfl
      apply Chain.pure (LX.refl _) (by rfl)
      ·intro vals γ w' ρ hR hN hp hρ hc hf hg;refine ⟨rfl,?_⟩;have e43:ρ (.tmp 43)=_:=(hρ 43).trans (hp 6 (by decide));have z1:=HJW.o;have z2:=HJ2.o;clear hR hN hp hρ;go_light;go_simp;exact ⟨rfl,rfl⟩
      ·rfl
      apply Chain.pure (LX.refl _) (by rfl)
      ·intro vals γ w' ρ hR hN hp hρ hc hf hg;refine ⟨rfl,?_⟩;have e42:ρ (.tmp 42)=_:=(hρ 42).trans (hp 5 (by decide));have e44:ρ (.tmp 44)=_:=(hρ 44).trans (hp 7 (by decide));clear hR hN hp hρ;go_light;go_simp;exact ⟨rfl,rfl⟩
      ·rfl
      apply Chain.pure (LX.refl _) (by rfl)
      ·intro vals γ w' ρ hR hN hp hρ hc hf hg;refine ⟨rfl,?_⟩;have e45:ρ (.tmp 45)=_:=(hρ 45).trans (hp 8 (by decide));have hk1000:=hR.key0 hN (k:=1000) (by decide) (by decide);have hk1001:=hR.key0 hN (k:=1001) (by decide) (by decide);have hb0:=HBK.o.keep ((Kept.drew _ _).trans (hR.keptS (S:=fun b=>b=g) fun b _ e=>⟨free0 b,fun m hm=>by rcases hm.1 with rfl | rfl <;> assumption⟩));have qy:=hb0.cell (CY.o);clear hk1000 hk1001 hb0 hR hN hp hρ;go_light;go_simp;exact ⟨rfl,rfl⟩
      ·rfl
      apply Chain.pure (LX.refl _) (by rfl)
      ·intro vals γ w' ρ hR hN hp hρ hc hf hg;refine ⟨rfl,?_⟩;have e0:=hρ 0;(conv at e0=>rhs; whnf);clear hR hN hp hρ;go_light;go_simp;exact ⟨rfl,rfl⟩
      ·rfl
      apply Chain.pure (LX.refl _) (by rfl)
      ·intro vals γ w' ρ hR hN hp hρ hc hf hg;refine ⟨rfl,?_⟩;have e9:=hρ 9;(conv at e9=>rhs; whnf);clear hR hN hp hρ;go_light;go_simp;exact ⟨rfl,rfl⟩
      ·rfl
      apply Chain.pure (LX.refl _) (by rfl)
      ·intro vals γ w' ρ hR hN hp hρ hc hf hg;refine ⟨rfl,?_⟩;have e47:ρ (.tmp 47)=_:=(hρ 47).trans (hp 10 (by decide));have e48:ρ (.tmp 48)=_:=(hρ 48).trans (hp 11 (by decide));clear hR hN hp hρ;go_light;go_simp;exact ⟨rfl,rfl⟩
      ·rfl
      apply Chain.pure (LX.refl _) (by rfl)
      ·intro vals γ w' ρ hR hN hp hρ hc hf hg;refine ⟨rfl,?_⟩;have e49:ρ (.tmp 49)=_:=(hρ 49).trans (hp 12 (by decide));have hk1000:=hR.key0 hN (k:=1000) (by decide) (by decide);have hk1001:=hR.key0 hN (k:=1001) (by decide) (by decide);have hb0:=HBK.o.keep ((Kept.drew _ _).trans (hR.keptS (S:=fun b=>b=g) fun b _ e=>⟨free0 b,fun m hm=>by rcases hm.1 with rfl | rfl <;> assumption⟩));have qx:=hb0.cell (CX.o);clear hk1000 hk1001 hb0 hR hN hp hρ;go_light;go_simp;exact ⟨rfl,rfl⟩
      ·rfl
      apply Chain.pure (LX.refl _) (by rfl)
      ·intro vals γ w' ρ hR hN hp hρ hc hf hg;refine ⟨rfl,?_⟩;have e37:ρ (.tmp 37)=_:=(hρ 37).trans (hp 0 (by decide));have e38:ρ (.tmp 38)=_:=(hρ 38).trans (hp 1 (by decide));clear hR hN hp hρ;go_light;go_simp;exact ⟨rfl,rfl⟩
      ·rfl
      refine Chain.step (fun _ γ w'=>g<w'.heap.size∧γ 1000=some none∧Free γ g∧(γ 1001=none→Blk w' g 3 (dcells (es'.set j y)++tl))) (by rfl) ?_ ?_ ?_
      ·rintro l γ w1 γ' w2 rr ⟨h0,h1,h2,h3⟩;refine ⟨Nat.lt_of_lt_of_le h0 rr.size,rr.done _ h1,fun ⟨k',hk'⟩=>h2 ⟨k',rr.old k' _ hk' h0⟩,fun h4 => ?_⟩
       ·have h5:γ 1001=none:=by
         cases h6:γ 1001 with
         | none=>rfl
         | some z =>
          cases z with
          | none=>rw [rr.done _ h6] at h4; cases h4
          | some z=>rcases rr.on _ _ h6 with h7 | h7 <;> (rw [h7] at h4; cases h4)
        exact (h3 h5).keep (rr.keptS fun b _ e=>⟨by rw [e]; exact h2,fun m hm=>by rcases hm.1 with rfl | rfl <;> first | rw [h1,rr.done _ h1] | rw [h4,h5]⟩)
      ·intro vals γ w' ρ hR hN hp hρ hc hf hg;refine ⟨rfl,?_⟩;have e46:ρ (.tmp 46)=_:=(hρ 46).trans (hp 9 (by decide));have e51:ρ (.tmp 51)=_:=(hρ 51).trans (hp 14 (by decide));have HR:=Hd hR;have hk1000:=hR.key0 hN (k:=1000) (by decide) (by decide);have hk1001:=hR.key0 hN (k:=1001) (by decide) (by decide);have hb0:=HBK.o.keep ((Kept.drew _ _).trans (hR.keptS (S:=fun b=>b=g) fun b _ e=>⟨free0 b,fun m hm=>by rcases hm.1 with rfl | rfl <;> assumption⟩));have HB0:=Hd hb0;have qf:=hb0.frozen;have ql:=hb0.lt;have qc:=hb0.cell (dcellsA_at (tl:=tl) (m:=es') (k:=j) (by simp only [HLEN.o]; omega));have HK:=Hd hk1000;clear hR hN hp hρ hb0 hk1000 hk1001;go_light;go_simp;refine ⟨γ.put 1000 none,LX.write HK.o rfl rfl rfl (by simp [World.setCell]) (fun b hb hm=>((Only.refl g w').set j (.int .i64 (y:Int))).block b fun e=>hm ⟨by simp,e⟩),LM.done (by decide) (.inr (by decide)),?_⟩;have hb1:=HB0.o.set j (.int .i64 (y:Int));rw [dcellsA_set _ _ _ _ (by simp only [HLEN.o]; omega)] at hb1;exact ⟨by simpa [World.setCell] using HB0.o.lt,rfl,fun ⟨k',hk'⟩=>by unfold Gh.put at hk'; split at hk'; (cases hk'); exact absurd (HR.o.old k' _ hk' HBK.o.lt) (by simp [gh0]),fun _=>hb1⟩
      apply Chain.pure (LX.refl _) (by rfl)
      ·intro vals γ w' ρ hR hN hp hρ hc hf hg;refine ⟨rfl,?_⟩;have e39:ρ (.tmp 39)=_:=(hρ 39).trans (hp 2 (by decide));have e41:ρ (.tmp 41)=_:=(hρ 41).trans (hp 4 (by decide));clear hR hN hp hρ;go_light;go_simp;exact ⟨rfl,rfl⟩
      ·rfl
      refine Chain.step (fun _ γ w'=>g<w'.heap.size∧γ 1000=some none∧γ 1001=some none∧Free γ g∧Blk w' g 3 (dcells ((es'.set j y).set j1 x)++tl)) (by rfl) ?_ ?_ ?_
      ·rintro l γ w1 γ' w2 rr ⟨h0,h1,h2,h3,h4⟩;exact ⟨Nat.lt_of_lt_of_le h0 rr.size,rr.done _ h1,rr.done _ h2,fun ⟨k',hk'⟩=>h3 ⟨k',rr.old k' _ hk' h0⟩,h4.keep (rr.keptS fun b _ e=>⟨by rw [e]; exact h3,fun m hm=>by rcases hm.1 with rfl | rfl <;> first | rw [h1,rr.done _ h1] | rw [h2,rr.done _ h2]⟩)⟩
      ·intro vals γ w' ρ hR hN hp hρ hc hf hg;refine ⟨rfl,?_⟩;have e50:ρ (.tmp 50)=_:=(hρ 50).trans (hp 13 (by decide));have e52:ρ (.tmp 52)=_:=(hρ 52).trans (hp 16 (by decide));have HR:=Hd hR;have hq:=hp 15 (by decide);have hk1001:=hR.key0 hN (k:=1001) (by decide) (by decide);obtain ⟨-,hd1,hd2,hd3⟩:=hq;have hb0:=hd3 hk1001;have HD1:=Hd hd1;clear hd1 hd2 hd3;have HB0:=Hd hb0;have qf:=hb0.frozen;have ql:=hb0.lt;have qc:=hb0.cell (dcellsA_at (tl:=tl) (m:=(es'.set j y)) (k:=j1) (by simp only [List.length_set,HLEN.o]; omega));have HK:=Hd hk1001;clear hR hN hp hρ hb0 hk1001;go_light;go_simp;refine ⟨γ.put 1001 none,LX.write HK.o rfl rfl rfl (by simp [World.setCell]) (fun b hb hm=>((Only.refl g w').set j1 (.int .i64 (x:Int))).block b fun e=>hm ⟨by simp,e⟩),LM.done (by decide) (.inr (by decide)),?_⟩;have hb1:=HB0.o.set j1 (.int .i64 (x:Int));rw [dcellsA_set _ _ _ _ (by simp only [List.length_set,HLEN.o]; omega)] at hb1;exact ⟨by simpa [World.setCell] using HB0.o.lt,by simpa [Gh.put] using HD1.o,rfl,fun ⟨k',hk'⟩=>by unfold Gh.put at hk'; split at hk'; (cases hk'); exact absurd (HR.o.old k' _ hk' HBK.o.lt) (by simp [gh0]),hb1⟩
      intro vals γ w9 hR hG;have v0:vals 0=_:=hG 0 (by decide);have v1:vals 1=_:=hG 1 (by decide);have v2:vals 2=_:=hG 2 (by decide);have v3:vals 3=_:=hG 3 (by decide);have v4:vals 4=_:=hG 4 (by decide);have v5:vals 5=_:=hG 5 (by decide);have v6:vals 6=_:=hG 6 (by decide);have v7:vals 7=_:=hG 7 (by decide);have v8:vals 8=_:=hG 8 (by decide);have v9:vals 9=_:=hG 9 (by decide);have v10:vals 10=_:=hG 10 (by decide);have v11:vals 11=_:=hG 11 (by decide);have v12:vals 12=_:=hG 12 (by decide);have v13:vals 13=_:=hG 13 (by decide);have v14:vals 14=_:=hG 14 (by decide);have v16:vals 16=_:=hG 16 (by decide);simp only [lexFrame,Act.put,List.setIfInBounds_toArray,List.set_cons_succ,List.set_cons_zero,Nat.zero_add,Nat.reduceAdd,v0,v1,v2,v3,v4,v5,v6,v7,v8,v9,v10,v11,v12,v13,v14,v16];clear v0 v1 v2 v3 v4 v5 v6 v7 v8 v9 v10 v11 v12 v13 v14 v16;obtain ⟨-,-,-,-,hbf⟩:=hG 17 (by decide);have HBF:=Hd hbf;have HB7:=Hd (show But g w w9 from HB6.o.trans ((But.of_ext ((Ext.refl w6).drew)).trans ⟨hR.os,hR.tape,hR.output,hR.size,fun b hb hg=>hR.kept b hb (free0 b) fun m hm=>absurd hm.2 hg⟩));clear hR hG hbf;have HJW1:=HJW.o;have HJW2:=HJ2.o;go_wp2;go_roundw
      case rel =>
       refine ⟨j1,p',y :: p2,by omega,rfl,by rw [HPP.o,HSP.o]; simp,HPL'.out,fun z hz => ?_,HB7.o,by have:=HBF.o; rw [HSW.o] at this; simpa using this⟩
       rcases List.mem_cons.1 hz with rfl | hz
       ·exact HBE.o.symm
       ·exact HALL.o z hz
      case measure=>have:=HJ1.o; simp [intOf]; omega
  ·go_wp2
   go_end0
   refine ⟨rfl,HB.o,?_⟩;have h1:=HS.o;have h2:es.length≤k:=(by rw [← HN.o]; omega);rw [List.take_of_length_le h2,List.drop_of_length_le h2,List.append_nil] at h1;exact h1
set_option maxRecDepth 100000 in
set_option maxHeartbeats 1000000 in
theorem stable_Q (g c:Nat) (bP:Nat) (tl:Array Value) (es:List Nat) (lt:Nat→Nat→Bool) (hw:Wk lt) (n:Nat) (hn:n=es.length) (hn1:n<20) (w:World) (h:Blk w g 3 (dcells es++tl)) (hc:∀ w',But g w w'→∀ x∈es,∀ y∈es,Calls Tryz.prog 115 #[.int .i64 (x:Int),.int .i64 (y:Int),.pointer (some ⟨bP,0,none⟩)] w' (RetC w' (lt x y))) :
  Calls Tryz.prog 162 #[.slice (some ⟨g,0,none⟩) n c,.int .i64 (n:Int),.func (.func 115) #[] #[.pointer (some ⟨bP,0,none⟩)]] w (RetSoQ w g tl (sortG lt es)):=by
 have H:=Hd h;have HN:=Hd hn;have HC:=Hd hc;have HW:=Hd hw;clear h hn hc hw
 go_enter Tryz.func162,Tryz.ntmps162
 go_wp2
 go_loop [7,8] (fun a b=>a=.int .i64 0∧b=.int .i64 20) (fun _ _=>0)
 case atStart=>exact ⟨rfl,rfl⟩
 case round =>
  obtain ⟨rfl,rfl⟩:=hrel;have i1:¬ (20:Int)≤(n:Int):=(by omega);have i2:¬ (20:Int)<(n:Int):=(by omega)
  go_wp2_with fail
  refine (insertion_Q g c bP tl es lt HW.o n HN.o (by omega) w H.o HC.o).mono ?_;rintro e1 w1 ⟨rfl,hb,hs⟩;have HB:=Hd hb;have HS:=Hd hs;clear hb hs;go_wp2
  go_loop [6] (fun a=>a=.int .i64 20) (fun _=>0)
  case atStart=>rfl
  case round =>
   subst hrel;go_wp2
   go_end0
   exact ⟨rfl,HB.o,HS.o⟩
set_option maxRecDepth 100000 in
theorem SortStable_Q (g c:Nat) (bP:Nat) (tl:Array Value) (es:List Nat) (lt:Nat→Nat→Bool) (hw:Wk lt) (n:Nat) (hn:n=es.length) (hn1:n<20) (w:World) (h:Blk w g 3 (dcells es++tl)) (hc:∀ w',But g w w'→∀ x∈es,∀ y∈es,Calls Tryz.prog 115 #[.int .i64 (x:Int),.int .i64 (y:Int),.pointer (some ⟨bP,0,none⟩)] w' (RetC w' (lt x y))) :
  Calls Tryz.prog 114 #[.slice (some ⟨g,0,none⟩) n c,.func (.func 115) #[] #[.pointer (some ⟨bP,0,none⟩)]] w (RetSoQ w g tl (sortG lt es)):=by
 have H:=Hd h;have HN:=Hd hn;have HC:=Hd hc;have HW:=Hd hw;clear h hn hc hw
 go_enter Tryz.func114,Tryz.ntmps114
 go_wp2_with fail
 refine (stable_Q g c bP tl es lt HW.o n HN.o hn1 w H.o HC.o).mono ?_;rintro e1 w1 ⟨rfl,hb,hs⟩;have HB:=Hd hb;have HS:=Hd hs;clear hb hs;go_wp2
 go_end0
 exact ⟨rfl,HB.o,HS.o⟩
/- question.places: the places of programs by their answers at one input. Conditions: the answers read as data, and hold no tables. -/

def plc (eq:Nat→Nat→Bool):Option Nat→Nat→List Nat→List Nat→List Nat
 | _,_,[],acc=>acc
 | none,t,x :: s,acc=>plc eq (some x) t s (acc.set x t)
 | some p,t,x :: s,acc=>plc eq (some x) (if eq p x then t else t+1) s (acc.set x (if eq p x then t else t+1))
def ltA (l:List (List Val)) (m p q:Nat):Bool:=lessF (ans l m p) (ans l m q)
def eqA (l:List (List Val)) (m p q:Nat):Bool:=decide (ans l m p=ans l m q)
def srtA (l:List (List Val)) (m:Nat):List Nat:=sortG (ltA l m) (List.range l.length)
def placesS (l:List (List Val)) (m:Nat):List Nat:=plc (eqA l m) none 0 (srtA l m) (List.replicate l.length 0)
theorem Tens.kept {w w':World} {S:Nat→Prop} (h:Tens w) (k:Kept S w w') (hS:S 0):Tens w':=⟨k.cell hS h.1,k.cell hS h.2.1,k.cell hS h.2.2.1,k.cell hS h.2.2.2.1,k.cell hS h.2.2.2.2.1,k.cell hS h.2.2.2.2.2.1,k.cell hS h.2.2.2.2.2.2⟩
set_option maxRecDepth 100000 in
set_option maxHeartbeats 4000000 in
theorem question_places (d:Nat) (l:List (List Val)) (A:Option Addr) (c m:Nat) (w:World) (S:Nat→Prop) (h:Rows w S d A l) (hk:NoT l) (hN:l.length<20) (hm:∀ r∈l,m<r.length) (hw:Wk (ltA l m)) (ht:Tens w) :
  Calls Tryz.prog 65 #[.slice A l.length c,.int .i64 (m:Int)] w (RetNB w (placesS l m)):=by
 obtain ⟨n,en⟩:∃ n,n=l.length:=⟨_,rfl⟩;have HN:=Hd en;rw [← en] at hN ⊢;clear en;obtain ⟨w0,hw0⟩:∃ w0,w0=(w.alloc (.cells #[.slice A n c] 24)).alloc (.cells #[.int .i64 (m:Int)] 3):=⟨_,rfl⟩;obtain ⟨bA,hbA⟩:∃ b,b=w.heap.size:=⟨_,rfl⟩;obtain ⟨bM,hbM⟩:∃ b,b=w.heap.size+1:=⟨_,rfl⟩;have HW0:=Hd hw0;have HBA:=Hd hbA;have HBM:=Hd hbM;have HX0:=Hd (show Ext w w0 by rw [hw0]; exact ((Ext.refl w).alloc _).alloc _);have HB1:=Hd (show Blk w0 bA 24 #[.slice A n c] by rw [hw0,hbA]; exact (Blk.new _ _ _).keep (Kept.alloc _ _ _));have HB2:=Hd (show Blk w0 bM 3 #[.int .i64 (m:Int)] by
  rw [hw0,hbM];have:=Blk.new (w.alloc (.cells #[.slice A n c] 24)) 3 #[.int .i64 (m:Int)]
  simpa using this)
 have H:=Hd (h.keep (HX0.o.kept S));have HK:=Hd hk;have HM:=Hd hm;have HW:=Hd hw;have HT:=Hd (ht.ext HX0.o);clear h hk hm hw ht hw0 hbA hbM;have H1:=Hd (show w0.cell? ⟨bA,0,none⟩=some (.slice A n c) from HB1.o.cell (i:=0) rfl);have H2:=Hd (HB2.o.cell (i:=0) rfl);have Z1:=Hd HB1.o.lt;have Z2:=Hd HB2.o.lt
 go_enter Tryz.func65,Tryz.ntmps65
 go_wp2_with fail
 rw [← HW0.o];rw [← HBM.o,← HBA.o];refine (question_programs n (by omega) A c w0).mono ?_;rintro e1 w1 ⟨g,rfl,hg,hb,hx⟩;rw [List.length_range];have HX1:=Hd (HX0.o.trans hx);have HXa:=Hd hx;have HG:=Hd hg;have HB:=Hd hb;clear hg hb hx
 go_wp2_with fail
 have HRA:=Hd (show ∀ r,r<n→r<l.length∧∀ hr:r<l.length,m<l[r].length from fun r hr=>⟨by rw [← HN.o]; exact hr,fun h=>HM.o _ (List.getElem_mem h)⟩);refine (SortStable_P g n bA bM #[] (List.range n) (ltA l m) HW.o n (by simp) hN w1 (by simpa using HB.o) (fun w' hbut x hx y hy => ?_)).mono ?_
 ·have hx':=HRA.o x (List.mem_range.1 hx);have hy':=HRA.o y (List.mem_range.1 hy);have hg0:=HG.o;have z1:=Z1.o;have z2:=Z2.o;have hk1:=hbut.kept (S:=fun b=>b<w0.heap.size) (fun b _ hb=>by omega);refine places_1 d l A c m x y bA bM w' (fun b=>S b∧b<w0.heap.size) (((H.o.mono (T:=fun b=>S b∧b<w0.heap.size) fun i hi hs=>⟨hs,hi⟩).keep (HXa.o.kept _)).keep (hbut.kept fun b _ hb=>by have:=hb.2; omega)) HK.o ?_ ?_ hx'.1 hy'.1 (hx'.2 _) (hy'.2 _) ?_
  ·rw [← HN.o]; exact ((HB1.o.keep (HXa.o.kept _)).keep (hbut.kept fun b _ hb=>by omega)).cell (i:=0) rfl
  ·exact ((HB2.o.keep (HXa.o.kept _)).keep (hbut.kept fun b _ hb=>by omega)).cell (i:=0) rfl
  ·exact (HT.o.ext HXa.o).kept (hbut.kept (S:=fun b=>b<w0.heap.size) fun b _ hb=>by omega) HT.o.pos
 rintro e2 w2 ⟨rfl,hbut,hb2⟩;obtain ⟨s,hs⟩:∃ s,s=srtA l m:=⟨_,rfl⟩;have hss:sortG (ltA l m) (List.range n)=s:=(by rw [hs,HN.o]; rfl);rw [hss] at hb2;have HSE:=Hd hs;have HSL:=Hd (show s.length=n by rw [← hss,len_sortG,List.length_range]);have HSM:=Hd (show ∀ x∈s,x<n by intro x hx; rw [← hss,mem_sortG,List.mem_range] at hx; exact hx);have hzz:w0.heap.size≤g:=HG.o;have hz0:=HX0.o.size;have HX2:=Hd (But.exts HX1.o hbut (by omega));have HP2:=Hd (((H.o.mono (T:=fun b=>S b∧b<w0.heap.size) fun i hi hs=>⟨hs,hi⟩).keep (HXa.o.kept _)).keep (hbut.kept fun b _ hb=>by have:=hb.2; omega));have z1:=Z1.o;have z2:=Z2.o;have C1:=Hd (((HB1.o.keep (HXa.o.kept _)).keep (hbut.kept fun b _ hb=>by omega)).cell (i:=0) rfl);have C2:=Hd (((HB2.o.keep (HXa.o.kept _)).keep (hbut.kept fun b _ hb=>by omega)).cell (i:=0) rfl);have HS2:=Hd (show Blk w2 g 3 (dcells s) by simpa using hb2);have hs1:=hbut.size;have hs2:=HXa.o.size;have HZA:=Hd (show bA<w2.heap.size by omega);have HZM:=Hd (show bM<w2.heap.size by omega);have HZ0:=Hd (show w0.heap.size≤w2.heap.size by omega);clear hs1 hs2 hbut hb2 hs hss hzz hz0 z1 z2 HRA HB HT HW HXa H HB1 HB2 Z1 Z2 H1 H2;have c1:=C1.o;have hmk:=run_mkIC n (by omega);obtain ⟨w3,hw3⟩:∃ w3,w3=w2.alloc (.cells (Array.replicate n (.int .i64 0)) 3):=⟨_,rfl⟩;have HW3:=Hd hw3;obtain ⟨g2,hg2⟩:∃ g2,g2=w2.heap.size:=⟨_,rfl⟩;have HG2:=Hd hg2;clear hw3 hg2;go_wp2;rw [← HW3.o,← HG2.o]
 go_loopw [7,20] (fun t i wr=>∃ (k t0:Nat) (acc:List Nat),k≤n∧t0≤k∧t=.int .i64 (t0:Int)∧i=.int .i64 (k:Int)∧acc.length=n∧But g2 w3 wr∧Blk wr g2 3 (dcells acc)∧plc (eqA l m) (if k=0 then none else some (s.getD (k-1) 0)) t0 (s.drop k) acc=placesS l m) (fun _ i _=>n-(intOf i).toNat)
 case atStart=>exact ⟨0,0,List.replicate n 0,Nat.zero_le _,Nat.zero_le _,rfl,rfl,by simp,But.refl _ _,by rw [HW3.o,HG2.o,show dcells (List.replicate n 0)=Array.replicate n (.int .i64 0) by simp [dcells,nums]]; exact Blk.new _ _ _,by rw [if_pos rfl,List.drop_zero,HSE.o,HN.o]; rfl⟩
 case round =>
  clear hmk c1;obtain ⟨k,t0,acc,hk,htk,rfl,rfl,hal,hbut,hacc,hplc⟩:=hrel;have HBT:=Hd hbut;have HA:=Hd hacc;have HAL:=Hd hal;have HPL:=Hd hplc;clear hbut hacc hal hplc;by_cases hlt:k<n
  ·have hks:k<s.length:=(by rw [HSL.o]; exact hlt);obtain ⟨x,ex⟩:∃ x,x=s[k]:=⟨_,rfl⟩;have hxn:x<n:=(by rw [ex]; exact HSM.o _ (List.getElem_mem hks));have HE:=Hd ex;have HD:=Hd (show s.drop k=x :: s.drop (k+1) by rw [ex]; exact List.drop_eq_getElem_cons hks);have k3:Kept (fun b=>b<w2.heap.size) w2 wr:=by
    have e1:Ext w2 w3:=(by rw [HW3.o]; exact (Ext.refl _).alloc _);refine (e1.kept _).trans (HBT.o.kept fun b _ hb => ?_);have:=HG2.o;omega
   have HK3:=Hd k3;have s0:=(HS2.o.keep (k3.mono fun b hb e=>by rw [e]; exact HS2.o.lt)).cell (i:=k) (u:=.int .i64 (x:Int)) (by rw [dcells_at hks,getD_of _ _ _ hks,← ex]);have c1:=k3.cell (p:=⟨bA,0,none⟩) HZA.o C1.o;have i0:(0:Int)≤(k:Int):=(by omega);have i1:(k:Int)<(n:Int):=(by omega);have i2:(0:Int)≤(x:Int):=(by omega);have i3:(x:Int)<(n:Int):=(by omega);clear ex k3;by_cases hk0:k=0
   ·have HK0:=Hd hk0;clear hk0
    go_upto_region 8 with fail
    refine wp_region_chain (by kernel_rfl) (fun i=>[i]) (by kernel_rfl) (LX (fun _ _=>False)) (LX.refl _) (LX.trans _) (LM []) gh0 (LM.zero _) ?_;apply Chain.pure (LX.refl _) (by rfl)
    ·intro vals γ w' ρ hR hN hp hρ hc hf hg;refine ⟨rfl,?_⟩;have e8:=hρ 8;(conv at e8=>rhs; whnf);clear hR hN hp hρ;go_light;go_simp;exact ⟨rfl,rfl⟩
    ·rfl
    apply Chain.pure (LX.refl _) (by rfl)
    ·intro vals γ w' ρ hR hN hp hρ hc hf hg;refine ⟨rfl,?_⟩;have e25:ρ (.tmp 25)=_:=(hρ 25).trans (hp 0 (by decide));have z0:=HK0.o;clear hR hN hp hρ;go_light;go_simp;exact ⟨rfl,rfl⟩
    ·rfl
    apply Chain.pure (LX.refl _) (by rfl)
    ·intro vals γ w' ρ hR hN hp hρ hc hf hg;refine ⟨rfl,?_⟩;have e26:ρ (.tmp 26)=_:=(hρ 26).trans (hp 1 (by decide));clear hR hN hp hρ;go_light;go_simp;exact ⟨rfl,rfl⟩
    ·rfl
    refine Chain.no (by rfl) (by rfl) ?_ ?_
    ·intro vals γ w' hp;show (boolOf (vals 2)==some true)=false;rw [show vals 2=.bool false from hp 2 (by decide)]; rfl
    refine Chain.no (by rfl) (by rfl) ?_ ?_
    ·intro vals γ w' hp;show (boolOf (vals 2)==some true)=false;rw [show vals 2=.bool false from hp 2 (by decide)]; rfl
    refine Chain.no (by rfl) (by rfl) ?_ ?_
    ·intro vals γ w' hp;show (boolOf (vals 2)==some true)=false;rw [show vals 2=.bool false from hp 2 (by decide)]; rfl
    refine Chain.no (by rfl) (by rfl) ?_ ?_
    ·intro vals γ w' hp;show (boolOf (vals 2)==some true)=false;rw [show vals 2=.bool false from hp 2 (by decide)]; rfl
    refine Chain.no (by rfl) (by rfl) ?_ ?_
    ·intro vals γ w' hp;show (boolOf (vals 2)==some true)=false;rw [show vals 2=.bool false from hp 2 (by decide)]; rfl
    refine Chain.no (by rfl) (by rfl) ?_ ?_
    ·intro vals γ w' hp;show (boolOf (vals 2)==some true)=false;rw [show vals 2=.bool false from hp 2 (by decide)]; rfl
    refine Chain.no (by rfl) (by rfl) ?_ ?_
    ·intro vals γ w' hp;show (boolOf (vals 2)==some true)=false;rw [show vals 2=.bool false from hp 2 (by decide)]; rfl
    refine Chain.no (by rfl) (by rfl) ?_ ?_
    ·intro vals γ w' hp;show (boolOf (vals 2)==some true)=false;rw [show vals 2=.bool false from hp 2 (by decide)]; rfl
    refine Chain.no (by rfl) (by rfl) ?_ ?_
    ·intro vals γ w' hp;show (boolOf (vals 2)==some true)=false;rw [show vals 2=.bool false from hp 2 (by decide)]; rfl
    refine Chain.no (by rfl) (by rfl) ?_ ?_
    ·intro vals γ w' hp;show (boolOf (vals 2)==some true)=false;rw [show vals 2=.bool false from hp 2 (by decide)]; rfl
    refine Chain.no (by rfl) (by rfl) ?_ ?_
    ·intro vals γ w' hp;show (boolOf (vals 2)==some true)=false;rw [show vals 2=.bool false from hp 2 (by decide)]; rfl
    refine Chain.no (by rfl) (by rfl) ?_ ?_
    ·intro vals γ w' hp;show (boolOf (vals 2)==some true)=false;rw [show vals 2=.bool false from hp 2 (by decide)]; rfl
    refine Chain.no (by rfl) (by rfl) ?_ ?_
    ·intro vals γ w' hp;show (boolOf (vals 2)==some true)=false;rw [show vals 2=.bool false from hp 2 (by decide)]; rfl
    refine Chain.no (by rfl) (by rfl) ?_ ?_
    ·intro vals γ w' hp;show (boolOf (vals 2)==some true)=false;rw [show vals 2=.bool false from hp 2 (by decide)]; rfl
    refine Chain.no (by rfl) (by rfl) ?_ ?_
    ·intro vals γ w' hp;show (boolOf (vals 2)==some true)=false;rw [show vals 2=.bool false from hp 2 (by decide)]; rfl
    refine Chain.no (by rfl) (by rfl) ?_ ?_
    ·intro vals γ w' hp;show (boolOf (vals 2)==some true)=false;rw [show vals 2=.bool false from hp 2 (by decide)]; rfl
    refine Chain.no (by rfl) (by rfl) ?_ ?_
    ·intro vals γ w' hp;show (boolOf (vals 2)==some true)=false;rw [show vals 2=.bool false from hp 2 (by decide)]; rfl
    refine Chain.no (by rfl) (by rfl) ?_ ?_
    ·intro vals γ w' hp;show (boolOf (vals 2)==some true)=false;rw [show vals 2=.bool false from hp 2 (by decide)]; rfl
    refine Chain.no (by rfl) (by rfl) ?_ ?_
    ·intro vals γ w' hp;show (boolOf (vals 2)==some true)=false;rw [show vals 2=.bool false from hp 2 (by decide)]; rfl
    refine Chain.no (by rfl) (by rfl) ?_ ?_
    ·intro vals γ w' hp;show (boolOf (vals 2)==some true)=false;rw [show vals 2=.bool false from hp 2 (by decide)]; rfl
    apply Chain.pure (LX.refl _) (by rfl)
    ·intro vals γ w' ρ hR hN hp hρ hc hf hg;refine ⟨rfl,?_⟩;have e27:ρ (.tmp 27)=_:=(hρ 27).trans (hp 2 (by decide));have e47:ρ (.tmp 47)=_:=(hρ 47).trans (hp 22 (by decide));clear hR hN hp hρ;go_light;go_simp;exact ⟨rfl,rfl⟩
    ·rfl
    intro vals γ w9 hR hG;have v0:vals 0=_:=hG 0 (by decide);have v1:vals 1=_:=hG 1 (by decide);have v2:vals 2=_:=hG 2 (by decide);have v3:vals 3=_:=hG 3 (by decide);have v4:vals 4=_:=hG 4 (by decide);have v5:vals 5=_:=hG 5 (by decide);have v6:vals 6=_:=hG 6 (by decide);have v7:vals 7=_:=hG 7 (by decide);have v8:vals 8=_:=hG 8 (by decide);have v9:vals 9=_:=hG 9 (by decide);have v10:vals 10=_:=hG 10 (by decide);have v11:vals 11=_:=hG 11 (by decide);have v12:vals 12=_:=hG 12 (by decide);have v13:vals 13=_:=hG 13 (by decide);have v14:vals 14=_:=hG 14 (by decide);have v15:vals 15=_:=hG 15 (by decide);have v16:vals 16=_:=hG 16 (by decide);have v17:vals 17=_:=hG 17 (by decide);have v18:vals 18=_:=hG 18 (by decide);have v19:vals 19=_:=hG 19 (by decide);have v20:vals 20=_:=hG 20 (by decide);have v21:vals 21=_:=hG 21 (by decide);have v22:vals 22=_:=hG 22 (by decide);have v23:vals 23=_:=hG 23 (by decide);simp only [lexFrame,Act.put,List.setIfInBounds_toArray,List.set_cons_succ,List.set_cons_zero,Nat.zero_add,Nat.reduceAdd,v0,v1,v2,v3,v4,v5,v6,v7,v8,v9,v10,v11,v12,v13,v14,v15,v16,v17,v18,v19,v20,v21,v22,v23];clear v0 v1 v2 v3 v4 v5 v6 v7 v8 v9 v10 v11 v12 v13 v14 v15 v16 v17 v18 v19 v20 v21 v22 v23;have hx6:Ext wr w9:=hR.ext0 (fun _ _ h=>h.elim);clear hR hG;have HB6:=Hd (HBT.o.trans (But.of_ext hx6));have HA6:=Hd (HA.o.keep (hx6.kept _));have a0:=HA6.o.cell (dcells_at (m:=acc) (k:=x) (by rw [HAL.o]; exact hxn));have af:=HA6.o.frozen x;have al:=HA6.o.lt;clear hx6;have HPN:=Hd (show plc (eqA l m) (if k+1=0 then none else some (s.getD (k+1-1) 0)) t0 (s.drop (k+1)) (acc.set x t0)=placesS l m by
     have h1:=HPL.o;rw [HD.o,if_pos HK0.o] at h1;rw [if_neg (by omega),Nat.add_sub_cancel,getD_of _ _ _ hks,← HE.o];exact h1)
    go_wp2;go_roundw
    case rel =>
     refine ⟨k+1,t0,acc.set x t0,by omega,by omega,rfl,by go_num,by rw [List.length_set]; exact HAL.o,HB6.o.trans (But.of_only ((Only.refl g2 w9).set x (.int .i64 ((t0:Nat):Int)))),?_,?_⟩
     ·rw [← dcells_set]; exact HA6.o.set x _
     ·exact HPN.o
    case measure=>simp [intOf]; omega
   ·obtain ⟨k1,hk1⟩:∃ k1,k=k1+1:=⟨k-1,by omega⟩;have hk1s:k1<s.length:=(by omega);obtain ⟨p,ep⟩:∃ p,p=s[k1]:=⟨_,rfl⟩;have hpn:p<n:=(by rw [ep]; exact HSM.o _ (List.getElem_mem hk1s));have HEP:=Hd ep;have G1:=Hd ((HS2.o.keep (HK3.o.mono fun b hb e=>by rw [e]; exact HS2.o.lt)).cell (i:=k1) (u:=.int .i64 (p:Int)) (by rw [dcells_at hk1s,getD_of _ _ _ hk1s,← ep]));have H1r:=Hd c1;have H2r:=Hd (HK3.o.cell (p:=⟨bM,0,none⟩) HZM.o C2.o);have hrows:=HP2.o.keep (HK3.o.mono fun b _ hb=>Nat.lt_of_lt_of_le hb.2 HZ0.o);have hpl:p<l.length:=(by rw [← HN.o]; exact hpn);have hxl:x<l.length:=(by rw [← HN.o]; exact hxn);have hmp:m<l[p].length:=HM.o _ (List.getElem_mem hpl);have hmq:m<l[x].length:=HM.o _ (List.getElem_mem hxl);obtain ⟨b,o,C,e,hB,hb,hc,-,hr⟩:=hrows.at_ hpl;obtain ⟨b',o',C',e',hB',hb',hc',-,hr'⟩:=hrows.at_ hxl;subst hB;injection hB' with hB';injection hB' with hB1 hB2;subst hB1 hB2;obtain ⟨ga,oa,A1,c1',B1,e1,rfl,y1,⟨x0,x1,x2,x3,x4,x5,x6⟩,-,hrv⟩:=hr.at_ hmp;obtain ⟨gb,ob,A2,c2,B2,e2,rfl,y2,⟨v0,v1,v2,v3,v4,v5,v6⟩,-,hrv'⟩:=hr'.at_ hmq;obtain ⟨n1,en1⟩:∃ n1,n1=l[p].length:=⟨_,rfl⟩;obtain ⟨n2,en2⟩:∃ n2,n2=l[x].length:=⟨_,rfl⟩;obtain ⟨vx,evx⟩:∃ v,v=l[p][m]:=⟨_,rfl⟩;obtain ⟨vy,evy⟩:∃ v,v=l[x][m]:=⟨_,rfl⟩;have HEQ:=Hd (show eqA l m p x=decide (vx=vy) by unfold eqA; rw [ans_of hpl hmp,ans_of hxl hmq,evx,evy]);rw [← evx] at x0 x1 x2 x3 x4 x5 x6 hrv;rw [← evy] at v0 v1 v2 v3 v4 v5 v6 hrv';rw [← en1] at hc;rw [← en2] at hc';have HRX:=Hd hrv;have HRY:=Hd hrv';have P0:=Hd hc;have Q0:=Hd hc';have X0:=Hd x0;have X1:=Hd x1;have X2:=Hd x2;have X3:=Hd x3;have X4:=Hd x4;have X5:=Hd x5;have X6:=Hd x6;have Y0:=Hd v0;have Y1:=Hd v1;have Y2:=Hd v2;have Y3:=Hd v3;have Y4:=Hd v4;have Y5:=Hd v5;have Y6:=Hd v6;have i4:(0:Int)≤(p:Int):=(by omega);have i5:(p:Int)<(n:Int):=(by omega);have i6:(0:Int)≤(m:Int):=(by omega);have i7:(m:Int)<(n1:Int):=(by omega);have i8:(m:Int)<(n2:Int):=(by omega);have i9:(0:Int)<(k:Int):=(by omega);have i10:(0:Int)≤(k1:Int):=(by omega);have i12:0<k:=(by omega);have i13:k1<n:=(by omega);have i11:(k1:Int)<(n:Int):=(by omega);have HJW:=Hd (show (k:Int)-1=(k1:Int) by omega);have HJ2:=Hd (show IntKind.i64.wrap (k1:Int)=(k1:Int) from IntWalk.i64_in _ (by omega));have HTW:=Hd (show IntKind.i64.wrap ((t0+1:Nat):Int)=((t0+1:Nat):Int) from IntWalk.i64_in _ (by omega));have HK1:=Hd hk1;have HP0:=Hd (show s.getD (k-1) 0=p by rw [hk1,Nat.add_sub_cancel,getD_of _ _ _ hk1s,← HEP.o]);have HKN:=Hd hk0;obtain ⟨b0,hbe⟩:∃ b0,b0=decide (vx=vy):=⟨_,rfl⟩;have HBE:=Hd hbe;clear HEP hbe hk0 hk1 hk1s ep hrows hpl hxl hb hb' hr hr' hrv hrv' hc hc' en1 en2 evx evy x0 x1 x2 x3 x4 x5 x6 v0 v1 v2 v3 v4 v5 v6 hmp hmq y1 y2
    go_upto_region 8 with fail
    refine wp_region_chain (by kernel_rfl) (fun i=>[i]) (by kernel_rfl) (LX (fun _ _=>False)) (LX.refl _) (LX.trans _) (LM []) gh0 (LM.zero _) ?_;apply Chain.pure (LX.refl _) (by rfl)
    ·intro vals γ w' ρ hR hN hp hρ hc hf hg;refine ⟨rfl,?_⟩;have e8:=hρ 8;(conv at e8=>rhs; whnf);clear hR hN hp hρ;go_light;go_simp;exact ⟨rfl,rfl⟩
    ·rfl
    apply Chain.pure (LX.refl _) (by rfl)
    ·intro vals γ w' ρ hR hN hp hρ hc hf hg;refine ⟨rfl,?_⟩;have e25:ρ (.tmp 25)=_:=(hρ 25).trans (hp 0 (by decide));clear hR hN hp hρ;go_light;go_simp;exact ⟨rfl,rfl⟩
    ·rfl
    apply Chain.pure (LX.refl _) (by rfl)
    ·intro vals γ w' ρ hR hN hp hρ hc hf hg;refine ⟨rfl,?_⟩;have e26:ρ (.tmp 26)=_:=(hρ 26).trans (hp 1 (by decide));clear hR hN hp hρ;go_light;go_simp;exact ⟨rfl,rfl⟩
    ·rfl
    apply Chain.pure (LX.refl _) (by rfl)
    ·intro vals γ w' ρ hR hN hp hρ hc hf hg;refine ⟨by show (boolOf (vals 2)==some true)=true; rw [show vals 2=.bool true from hp 2 (by decide)]; rfl,?_⟩;have e2:=hρ 2;(conv at e2=>rhs; whnf);have hxx:=hR.ext0 (fun _ _ h=>h.elim);have k0:=hxx.cell H1r.o;have k1:=hxx.cell H2r.o;have k2:=hxx.cell G1.o;have k3:=hxx.cell P0.o;have k4:=hxx.cell Q0.o;have k5:=hxx.cell X0.o;have k6:=hxx.cell X1.o;have k7:=hxx.cell X2.o;have k8:=hxx.cell X3.o;have k9:=hxx.cell X4.o;have k10:=hxx.cell X5.o;have k11:=hxx.cell X6.o;have k12:=hxx.cell Y0.o;have k13:=hxx.cell Y1.o;have k14:=hxx.cell Y2.o;have k15:=hxx.cell Y3.o;have k16:=hxx.cell Y4.o;have k17:=hxx.cell Y5.o;have k18:=hxx.cell Y6.o;clear hxx hR hN hp hρ;go_light;go_simp;exact ⟨rfl,rfl⟩
    ·rfl
    apply Chain.pure (LX.refl _) (by rfl)
    ·intro vals γ w' ρ hR hN hp hρ hc hf hg;refine ⟨by show (boolOf (vals 2)==some true)=true; rw [show vals 2=.bool true from hp 2 (by decide)]; rfl,?_⟩;have e5:=hρ 5;(conv at e5=>rhs; whnf);clear hR hN hp hρ;go_light;go_simp;exact ⟨rfl,rfl⟩
    ·rfl
    apply Chain.pure (LX.refl _) (by rfl)
    ·intro vals γ w' ρ hR hN hp hρ hc hf hg;refine ⟨by show (boolOf (vals 2)==some true)=true; rw [show vals 2=.bool true from hp 2 (by decide)]; rfl,?_⟩;have e8:=hρ 8;(conv at e8=>rhs; whnf);clear hR hN hp hρ;go_light;go_simp;exact ⟨rfl,rfl⟩
    ·rfl
    apply Chain.pure (LX.refl _) (by rfl)
    ·intro vals γ w' ρ hR hN hp hρ hc hf hg;refine ⟨by show (boolOf (vals 2)==some true)=true; rw [show vals 2=.bool true from hp 2 (by decide)]; rfl,?_⟩;have e30:ρ (.tmp 30)=_:=(hρ 30).trans (hp 5 (by decide));have z1:=HJW.o;have z2:=HJ2.o;clear hR hN hp hρ;go_light;go_simp;exact ⟨rfl,rfl⟩
    ·rfl
    apply Chain.pure (LX.refl _) (by rfl)
    ·intro vals γ w' ρ hR hN hp hρ hc hf hg;refine ⟨by show (boolOf (vals 2)==some true)=true; rw [show vals 2=.bool true from hp 2 (by decide)]; rfl,?_⟩;have e29:ρ (.tmp 29)=_:=(hρ 29).trans (hp 4 (by decide));have e31:ρ (.tmp 31)=_:=(hρ 31).trans (hp 6 (by decide));clear hR hN hp hρ;go_light;go_simp;exact ⟨rfl,rfl⟩
    ·rfl
    apply Chain.pure (LX.refl _) (by rfl)
    ·intro vals γ w' ρ hR hN hp hρ hc hf hg;refine ⟨by show (boolOf (vals 2)==some true)=true; rw [show vals 2=.bool true from hp 2 (by decide)]; rfl,?_⟩;have e32:ρ (.tmp 32)=_:=(hρ 32).trans (hp 7 (by decide));have hxx:=hR.ext0 (fun _ _ h=>h.elim);have k0:=hxx.cell H1r.o;have k1:=hxx.cell H2r.o;have k2:=hxx.cell G1.o;have k3:=hxx.cell P0.o;have k4:=hxx.cell Q0.o;have k5:=hxx.cell X0.o;have k6:=hxx.cell X1.o;have k7:=hxx.cell X2.o;have k8:=hxx.cell X3.o;have k9:=hxx.cell X4.o;have k10:=hxx.cell X5.o;have k11:=hxx.cell X6.o;have k12:=hxx.cell Y0.o;have k13:=hxx.cell Y1.o;have k14:=hxx.cell Y2.o;have k15:=hxx.cell Y3.o;have k16:=hxx.cell Y4.o;have k17:=hxx.cell Y5.o;have k18:=hxx.cell Y6.o;clear hxx hR hN hp hρ;go_light;go_simp;exact ⟨rfl,rfl⟩
    ·rfl
    apply Chain.pure (LX.refl _) (by rfl)
    ·intro vals γ w' ρ hR hN hp hρ hc hf hg;refine ⟨by show (boolOf (vals 2)==some true)=true; rw [show vals 2=.bool true from hp 2 (by decide)]; rfl,?_⟩;have e28:ρ (.tmp 28)=_:=(hρ 28).trans (hp 3 (by decide));have e33:ρ (.tmp 33)=_:=(hρ 33).trans (hp 8 (by decide));clear hR hN hp hρ;go_light;go_simp;exact ⟨rfl,rfl⟩
    ·rfl
    apply Chain.pure (LX.refl _) (by rfl)
    ·intro vals γ w' ρ hR hN hp hρ hc hf hg;refine ⟨by show (boolOf (vals 2)==some true)=true; rw [show vals 2=.bool true from hp 2 (by decide)]; rfl,?_⟩;have e34:ρ (.tmp 34)=_:=(hρ 34).trans (hp 9 (by decide));have hxx:=hR.ext0 (fun _ _ h=>h.elim);have k0:=hxx.cell H1r.o;have k1:=hxx.cell H2r.o;have k2:=hxx.cell G1.o;have k3:=hxx.cell P0.o;have k4:=hxx.cell Q0.o;have k5:=hxx.cell X0.o;have k6:=hxx.cell X1.o;have k7:=hxx.cell X2.o;have k8:=hxx.cell X3.o;have k9:=hxx.cell X4.o;have k10:=hxx.cell X5.o;have k11:=hxx.cell X6.o;have k12:=hxx.cell Y0.o;have k13:=hxx.cell Y1.o;have k14:=hxx.cell Y2.o;have k15:=hxx.cell Y3.o;have k16:=hxx.cell Y4.o;have k17:=hxx.cell Y5.o;have k18:=hxx.cell Y6.o;clear hxx hR hN hp hρ;go_light;go_simp;exact ⟨rfl,rfl⟩
    ·rfl
    apply Chain.pure (LX.refl _) (by rfl)
    ·intro vals γ w' ρ hR hN hp hρ hc hf hg;refine ⟨by show (boolOf (vals 2)==some true)=true; rw [show vals 2=.bool true from hp 2 (by decide)]; rfl,?_⟩;have e3:=hρ 3;(conv at e3=>rhs; whnf);have hxx:=hR.ext0 (fun _ _ h=>h.elim);have k0:=hxx.cell H1r.o;have k1:=hxx.cell H2r.o;have k2:=hxx.cell G1.o;have k3:=hxx.cell P0.o;have k4:=hxx.cell Q0.o;have k5:=hxx.cell X0.o;have k6:=hxx.cell X1.o;have k7:=hxx.cell X2.o;have k8:=hxx.cell X3.o;have k9:=hxx.cell X4.o;have k10:=hxx.cell X5.o;have k11:=hxx.cell X6.o;have k12:=hxx.cell Y0.o;have k13:=hxx.cell Y1.o;have k14:=hxx.cell Y2.o;have k15:=hxx.cell Y3.o;have k16:=hxx.cell Y4.o;have k17:=hxx.cell Y5.o;have k18:=hxx.cell Y6.o;clear hxx hR hN hp hρ;go_light;go_simp;exact ⟨rfl,rfl⟩
    ·rfl
    apply Chain.pure (LX.refl _) (by rfl)
    ·intro vals γ w' ρ hR hN hp hρ hc hf hg;refine ⟨by show (boolOf (vals 2)==some true)=true; rw [show vals 2=.bool true from hp 2 (by decide)]; rfl,?_⟩;have e35:ρ (.tmp 35)=_:=(hρ 35).trans (hp 10 (by decide));have e36:ρ (.tmp 36)=_:=(hρ 36).trans (hp 11 (by decide));clear hR hN hp hρ;go_light;go_simp;exact ⟨rfl,rfl⟩
    ·rfl
    apply Chain.pure (LX.refl _) (by rfl)
    ·intro vals γ w' ρ hR hN hp hρ hc hf hg;refine ⟨by show (boolOf (vals 2)==some true)=true; rw [show vals 2=.bool true from hp 2 (by decide)]; rfl,?_⟩;have e37:ρ (.tmp 37)=_:=(hρ 37).trans (hp 12 (by decide));have hxx:=hR.ext0 (fun _ _ h=>h.elim);have k0:=hxx.cell H1r.o;have k1:=hxx.cell H2r.o;have k2:=hxx.cell G1.o;have k3:=hxx.cell P0.o;have k4:=hxx.cell Q0.o;have k5:=hxx.cell X0.o;have k6:=hxx.cell X1.o;have k7:=hxx.cell X2.o;have k8:=hxx.cell X3.o;have k9:=hxx.cell X4.o;have k10:=hxx.cell X5.o;have k11:=hxx.cell X6.o;have k12:=hxx.cell Y0.o;have k13:=hxx.cell Y1.o;have k14:=hxx.cell Y2.o;have k15:=hxx.cell Y3.o;have k16:=hxx.cell Y4.o;have k17:=hxx.cell Y5.o;have k18:=hxx.cell Y6.o;clear hxx hR hN hp hρ;go_light;go_simp;exact ⟨rfl,rfl⟩
    ·rfl
    apply Chain.pure (LX.refl _) (by rfl)
    ·intro vals γ w' ρ hR hN hp hρ hc hf hg;refine ⟨by show (boolOf (vals 2)==some true)=true; rw [show vals 2=.bool true from hp 2 (by decide)]; rfl,?_⟩;have e2:=hρ 2;(conv at e2=>rhs; whnf);have hxx:=hR.ext0 (fun _ _ h=>h.elim);have k0:=hxx.cell H1r.o;have k1:=hxx.cell H2r.o;have k2:=hxx.cell G1.o;have k3:=hxx.cell P0.o;have k4:=hxx.cell Q0.o;have k5:=hxx.cell X0.o;have k6:=hxx.cell X1.o;have k7:=hxx.cell X2.o;have k8:=hxx.cell X3.o;have k9:=hxx.cell X4.o;have k10:=hxx.cell X5.o;have k11:=hxx.cell X6.o;have k12:=hxx.cell Y0.o;have k13:=hxx.cell Y1.o;have k14:=hxx.cell Y2.o;have k15:=hxx.cell Y3.o;have k16:=hxx.cell Y4.o;have k17:=hxx.cell Y5.o;have k18:=hxx.cell Y6.o;clear hxx hR hN hp hρ;go_light;go_simp;exact ⟨rfl,rfl⟩
    ·rfl
    apply Chain.pure (LX.refl _) (by rfl)
    ·intro vals γ w' ρ hR hN hp hρ hc hf hg;refine ⟨by show (boolOf (vals 2)==some true)=true; rw [show vals 2=.bool true from hp 2 (by decide)]; rfl,?_⟩;have e9:=hρ 9;(conv at e9=>rhs; whnf);clear hR hN hp hρ;go_light;go_simp;exact ⟨rfl,rfl⟩
    ·rfl
    apply Chain.pure (LX.refl _) (by rfl)
    ·intro vals γ w' ρ hR hN hp hρ hc hf hg;refine ⟨by show (boolOf (vals 2)==some true)=true; rw [show vals 2=.bool true from hp 2 (by decide)]; rfl,?_⟩;have e39:ρ (.tmp 39)=_:=(hρ 39).trans (hp 14 (by decide));have e40:ρ (.tmp 40)=_:=(hρ 40).trans (hp 15 (by decide));clear hR hN hp hρ;go_light;go_simp;exact ⟨rfl,rfl⟩
    ·rfl
    apply Chain.pure (LX.refl _) (by rfl)
    ·intro vals γ w' ρ hR hN hp hρ hc hf hg;refine ⟨by show (boolOf (vals 2)==some true)=true; rw [show vals 2=.bool true from hp 2 (by decide)]; rfl,?_⟩;have e41:ρ (.tmp 41)=_:=(hρ 41).trans (hp 16 (by decide));have hxx:=hR.ext0 (fun _ _ h=>h.elim);have k0:=hxx.cell H1r.o;have k1:=hxx.cell H2r.o;have k2:=hxx.cell G1.o;have k3:=hxx.cell P0.o;have k4:=hxx.cell Q0.o;have k5:=hxx.cell X0.o;have k6:=hxx.cell X1.o;have k7:=hxx.cell X2.o;have k8:=hxx.cell X3.o;have k9:=hxx.cell X4.o;have k10:=hxx.cell X5.o;have k11:=hxx.cell X6.o;have k12:=hxx.cell Y0.o;have k13:=hxx.cell Y1.o;have k14:=hxx.cell Y2.o;have k15:=hxx.cell Y3.o;have k16:=hxx.cell Y4.o;have k17:=hxx.cell Y5.o;have k18:=hxx.cell Y6.o;clear hxx hR hN hp hρ;go_light;go_simp;exact ⟨rfl,rfl⟩
    ·rfl
    apply Chain.pure (LX.refl _) (by rfl)
    ·intro vals γ w' ρ hR hN hp hρ hc hf hg;refine ⟨by show (boolOf (vals 2)==some true)=true; rw [show vals 2=.bool true from hp 2 (by decide)]; rfl,?_⟩;have e3:=hρ 3;(conv at e3=>rhs; whnf);have hxx:=hR.ext0 (fun _ _ h=>h.elim);have k0:=hxx.cell H1r.o;have k1:=hxx.cell H2r.o;have k2:=hxx.cell G1.o;have k3:=hxx.cell P0.o;have k4:=hxx.cell Q0.o;have k5:=hxx.cell X0.o;have k6:=hxx.cell X1.o;have k7:=hxx.cell X2.o;have k8:=hxx.cell X3.o;have k9:=hxx.cell X4.o;have k10:=hxx.cell X5.o;have k11:=hxx.cell X6.o;have k12:=hxx.cell Y0.o;have k13:=hxx.cell Y1.o;have k14:=hxx.cell Y2.o;have k15:=hxx.cell Y3.o;have k16:=hxx.cell Y4.o;have k17:=hxx.cell Y5.o;have k18:=hxx.cell Y6.o;clear hxx hR hN hp hρ;go_light;go_simp;exact ⟨rfl,rfl⟩
    ·rfl
    apply Chain.pure (LX.refl _) (by rfl)
    ·intro vals γ w' ρ hR hN hp hρ hc hf hg;refine ⟨by show (boolOf (vals 2)==some true)=true; rw [show vals 2=.bool true from hp 2 (by decide)]; rfl,?_⟩;have e42:ρ (.tmp 42)=_:=(hρ 42).trans (hp 17 (by decide));have e43:ρ (.tmp 43)=_:=(hρ 43).trans (hp 18 (by decide));clear hR hN hp hρ;go_light;go_simp;exact ⟨rfl,rfl⟩
    ·rfl
    apply Chain.pure (LX.refl _) (by rfl)
    ·intro vals γ w' ρ hR hN hp hρ hc hf hg;refine ⟨by show (boolOf (vals 2)==some true)=true; rw [show vals 2=.bool true from hp 2 (by decide)]; rfl,?_⟩;have e44:ρ (.tmp 44)=_:=(hρ 44).trans (hp 19 (by decide));have hxx:=hR.ext0 (fun _ _ h=>h.elim);have k0:=hxx.cell H1r.o;have k1:=hxx.cell H2r.o;have k2:=hxx.cell G1.o;have k3:=hxx.cell P0.o;have k4:=hxx.cell Q0.o;have k5:=hxx.cell X0.o;have k6:=hxx.cell X1.o;have k7:=hxx.cell X2.o;have k8:=hxx.cell X3.o;have k9:=hxx.cell X4.o;have k10:=hxx.cell X5.o;have k11:=hxx.cell X6.o;have k12:=hxx.cell Y0.o;have k13:=hxx.cell Y1.o;have k14:=hxx.cell Y2.o;have k15:=hxx.cell Y3.o;have k16:=hxx.cell Y4.o;have k17:=hxx.cell Y5.o;have k18:=hxx.cell Y6.o;clear hxx hR hN hp hρ;go_light;go_simp;exact ⟨rfl,rfl⟩
    ·rfl
    refine Chain.step (FP fun v γ w'=>v=.bool b0) (by rfl) (FP.stab ?_) ?_ ?_
    ·intro v γ w1 γ' w2 r h;exact h
    ·intro vals γ w' ρ hR hN hp hρ hc hf hg;refine ⟨by show (boolOf (vals 2)==some true)=true; rw [show vals 2=.bool true from hp 2 (by decide)]; rfl,?_⟩;have e38:ρ (.tmp 38)=_:=(hρ 38).trans (hp 13 (by decide));have e45:ρ (.tmp 45)=_:=(hρ 45).trans (hp 20 (by decide));have HR:=Hd hR;have hkk:=hR.ext0 (fun _ _ h=>h.elim);have HVX:=Hd (HRX.o.keep (hkk.kept _));have HVY:=Hd (HRY.o.keep (hkk.kept _));clear hkk hR hN hp hρ;go_light;go_simp;refine (value_Equal (d-1) vx vy A1 B1 A2 B2 c1' e1 c2 e2 w' _ _ HVX.o HVY.o).mono ?_;rintro e1 w3 ⟨he,hx⟩;exact ⟨_,he,γ,LX.of_ext _ γ hx,fun _ _ _ h=>h,by rw [HBE.o]; rfl⟩
    apply Chain.pure (LX.refl _) (by rfl)
    ·intro vals γ w' ρ hR hN hp hρ hc hf hg;refine ⟨by show (boolOf (vals 2)==some true)=true; rw [show vals 2=.bool true from hp 2 (by decide)]; rfl,?_⟩;have e46:ρ (.tmp 46)=_:=(hρ 46).trans (hp 21 (by decide));clear hR hN hp hρ;go_light;go_simp;exact ⟨rfl,rfl⟩
    ·rfl
    apply Chain.pure (LX.refl _) (by rfl)
    ·intro vals γ w' ρ hR hN hp hρ hc hf hg;refine ⟨rfl,?_⟩;have e27:ρ (.tmp 27)=_:=(hρ 27).trans (hp 2 (by decide));have e47:ρ (.tmp 47)=_:=(hρ 47).trans (hp 22 (by decide));clear hR hN hp hρ;go_light;go_simp;exact ⟨rfl,rfl⟩
    ·rfl
    intro vals γ w9 hR hG;have v0:vals 0=_:=hG 0 (by decide);have v1:vals 1=_:=hG 1 (by decide);have v2:vals 2=_:=hG 2 (by decide);have v3:vals 3=_:=hG 3 (by decide);have v4:vals 4=_:=hG 4 (by decide);have v5:vals 5=_:=hG 5 (by decide);have v6:vals 6=_:=hG 6 (by decide);have v7:vals 7=_:=hG 7 (by decide);have v8:vals 8=_:=hG 8 (by decide);have v9:vals 9=_:=hG 9 (by decide);have v10:vals 10=_:=hG 10 (by decide);have v11:vals 11=_:=hG 11 (by decide);have v12:vals 12=_:=hG 12 (by decide);have v13:vals 13=_:=hG 13 (by decide);have v14:vals 14=_:=hG 14 (by decide);have v15:vals 15=_:=hG 15 (by decide);have v16:vals 16=_:=hG 16 (by decide);have v17:vals 17=_:=hG 17 (by decide);have v18:vals 18=_:=hG 18 (by decide);have v19:vals 19=_:=hG 19 (by decide);have v20:vals 20=_:=hG 20 (by decide);have v22:vals 22=_:=hG 22 (by decide);have v23:vals 23=_:=hG 23 (by decide);simp only [lexFrame,Act.put,List.setIfInBounds_toArray,List.set_cons_succ,List.set_cons_zero,Nat.zero_add,Nat.reduceAdd,v0,v1,v2,v3,v4,v5,v6,v7,v8,v9,v10,v11,v12,v13,v14,v15,v16,v17,v18,v19,v20,v22,v23];clear v0 v1 v2 v3 v4 v5 v6 v7 v8 v9 v10 v11 v12 v13 v14 v15 v16 v17 v18 v19 v20 v22 v23;have hx6:Ext wr w9:=hR.ext0 (fun _ _ h=>h.elim);clear hR hG;have HB6:=Hd (HBT.o.trans (But.of_ext hx6));have HA6:=Hd (HA.o.keep (hx6.kept _));have a0:=HA6.o.cell (dcells_at (m:=acc) (k:=x) (by rw [HAL.o]; exact hxn));have af:=HA6.o.frozen x;have al:=HA6.o.lt;have HPN:=Hd (show ∀ t1,t1=(if b0=true then t0 else t0+1)→plc (eqA l m) (if k+1=0 then none else some (s.getD (k+1-1) 0)) t1 (s.drop (k+1)) (acc.set x t1)=placesS l m by
     rintro t1 rfl;have h1:=HPL.o;rw [HD.o,if_neg HKN.o,HP0.o] at h1;rw [if_neg (by omega),Nat.add_sub_cancel,getD_of _ _ _ hks,← HE.o];unfold plc at h1;rw [HEQ.o,← HBE.o] at h1;exact h1)
    clear hx6;cases b0
    ·have z1:=HTW.o;go_wp2;go_roundw
     case rel =>
      refine ⟨k+1,t0+1,acc.set x (t0+1),by omega,by omega,by go_num,by go_num,by rw [List.length_set]; exact HAL.o,HB6.o.trans (But.of_only (by have:=(Only.refl g2 w9).set x (.int .i64 ((t0+1:Nat):Int)); simpa using this)),?_,?_⟩
      ·rw [← dcells_set]; have:=HA6.o.set x (.int .i64 ((t0+1:Nat):Int)); simpa using this
      ·exact HPN.o _ (by simp)
     case measure=>simp [intOf]; omega
    ·skip
     go_wp2;go_roundw
     case rel =>
      refine ⟨k+1,t0,acc.set x (t0),by omega,by omega,rfl,by go_num,by rw [List.length_set]; exact HAL.o,HB6.o.trans (But.of_only (by have:=(Only.refl g2 w9).set x (.int .i64 ((t0:Nat):Int)); simpa using this)),?_,?_⟩
      ·rw [← dcells_set]; have:=HA6.o.set x (.int .i64 ((t0:Nat):Int)); simpa using this
      ·exact HPN.o _ (by simp)
     case measure=>simp [intOf]; omega
  ·have HFIN:=Hd (show acc=placesS l m by
    have h1:=HPL.o;rw [List.drop_eq_nil_of_le (by rw [HSL.o]; omega)] at h1
    simpa [plc] using h1)
   have HLP:=Hd (show (placesS l m).length=n by rw [← HFIN.o]; exact HAL.o);have hsz:=HX2.o.size;have HGE:=Hd (show w.heap.size≤g2 by rw [HG2.o]; exact hsz);have HXE:=Hd (show Ext w wr from But.exts (by rw [HW3.o]; exact HX2.o.alloc _) HBT.o HGE.o);clear hsz;go_wp2;go_ret;exact ⟨g2,by rw [HLP.o]; rfl,HGE.o,by rw [← HFIN.o]; exact HA.o,HXE.o⟩
/- The order of values is an order with ties. No conditions. -/

theorem cmpS_lt (x y:ByteArray):(cmpS x y<0)↔x.data.toList<y.data.toList:=compare_negQ _ _
theorem cmpI_lt (x y:Int):(cmpI x y<0)↔x<y:=by
 unfold cmpI;by_cases h:x<y
 ·rw [if_pos h]; omega
 ·rw [if_neg h];by_cases h2:y<x
  ·rw [if_pos h2]; omega
  ·rw [if_neg h2]; omega
theorem lessK_iff (x y:Val):lessK x y=true↔x.kind<y.kind∨(x.kind=y.kind∧((x.kind=1∧x.s.data.toList<y.s.data.toList)∨(x.kind=2∧mu x.dn x.ds<mu y.dn y.ds)∨(x.kind≠1∧x.kind≠2∧x.n<y.n))):=by
 unfold lessK;by_cases h:x.kind=y.kind
 ·rw [if_neg (by simp [h])];by_cases h1:x.kind=1
  ·rw [if_pos h1,decide_eq_true_iff,cmpS_lt];constructor
   ·exact fun k=>.inr ⟨h,.inl ⟨h1,k⟩⟩
   ·rintro (k | ⟨-,⟨-,k⟩ | ⟨k,-⟩ | ⟨k,-⟩⟩)
    ·omega
    ·exact k
    ·omega
    ·exact absurd h1 k
  ·by_cases h2:x.kind=2
   ·rw [if_neg h1,if_pos h2,decide_eq_true_iff,cmpI_lt];constructor
    ·exact fun k=>.inr ⟨h,.inr (.inl ⟨h2,k⟩)⟩
    ·rintro (k | ⟨-,⟨k,-⟩ | ⟨-,k⟩ | ⟨-,k,-⟩⟩)
     ·omega
     ·exact absurd k h1
     ·exact k
     ·exact absurd h2 k
   ·rw [if_neg h1,if_neg h2,decide_eq_true_iff,cmpI_lt];constructor
    ·exact fun k=>.inr ⟨h,.inr (.inr ⟨h1,h2,k⟩)⟩
    ·rintro (k | ⟨-,⟨k,-⟩ | ⟨k,-⟩ | ⟨-,-,k⟩⟩)
     ·omega
     ·exact absurd k h1
     ·exact absurd k h2
     ·exact k
 ·rw [if_pos h,decide_eq_true_iff];constructor
  ·exact .inl
  ·rintro (k | ⟨k,-⟩)
   ·exact k
   ·exact absurd k h
theorem lessK_asy (x y:Val) (h:lessK x y=true):lessK y x=false:=by
 rw [← Bool.not_eq_true,lessK_iff];rw [lessK_iff] at h;rintro (k | ⟨k,k2⟩)
 ·rcases h with h | ⟨h,-⟩ <;> omega
 ·rcases h with h | ⟨-,h⟩
  ·omega
  ·rcases h with ⟨h1,h⟩ | ⟨h1,h⟩ | ⟨h1,h2,h⟩ <;> rcases k2 with ⟨k1,k2⟩ | ⟨k1,k2⟩ | ⟨k1,k3,k2⟩ <;> first | omega | exact List.lt_asymm h k2
theorem lessK_neg (x y z:Val) (h:lessK x y=false) (k:lessK y z=false):lessK x z=false:=by
 rw [← Bool.not_eq_true,lessK_iff] at h k ⊢;intro q;have a1:y.kind≤x.kind:=(by apply Int.not_lt.1; exact fun e=>h (.inl e));have a2:z.kind≤y.kind:=(by apply Int.not_lt.1; exact fun e=>k (.inl e))
 rcases q with q | ⟨q,q1⟩
 ·omega
 ·have b1:x.kind=y.kind:=(by omega);have b2:y.kind=z.kind:=(by omega)
  rcases q1 with ⟨c,q1⟩ | ⟨c,q1⟩ | ⟨c,c2,q1⟩
  ·have h1:¬ x.s.data.toList<y.s.data.toList:=fun e=>h (.inr ⟨b1,.inl ⟨c,e⟩⟩);have k1:¬ y.s.data.toList<z.s.data.toList:=fun e=>k (.inr ⟨b2,.inl ⟨by omega,e⟩⟩);exact absurd q1 (List.not_lt.2 (List.le_trans (List.not_lt.1 k1) (List.not_lt.1 h1)))
  ·have h1:¬ mu x.dn x.ds<mu y.dn y.ds:=fun e=>h (.inr ⟨b1,.inr (.inl ⟨c,e⟩)⟩);have k1:¬ mu y.dn y.ds<mu z.dn z.ds:=fun e=>k (.inr ⟨b2,.inr (.inl ⟨by omega,e⟩)⟩);omega
  ·have h1:¬ x.n<y.n:=fun e=>h (.inr ⟨b1,.inr (.inr ⟨c,c2,e⟩)⟩);have k1:¬ y.n<z.n:=fun e=>k (.inr ⟨b2,.inr (.inr ⟨by omega,by omega,e⟩)⟩);omega
theorem lessF_asy (x y:Val) (h:lessF x y=true):lessF y x=false:=by
 unfold lessF at h ⊢;cases hx:flatB x <;> cases hy:flatB y <;> simp [hx,hy] at h ⊢
 exact lessK_asy x y h
theorem lessF_neg (x y z:Val) (h:lessF x y=false) (k:lessF y z=false):lessF x z=false:=by
 unfold lessF at h k ⊢;cases hx:flatB x <;> cases hy:flatB y <;> cases hz:flatB z <;> simp [hx,hy,hz] at h k ⊢
 exact lessK_neg x y z h k
theorem wkA (l:List (List Val)) (m:Nat):Wk (ltA l m):=⟨fun _ _ h=>lessF_asy _ _ h,fun _ _ _ h k=>lessF_neg _ _ _ h k⟩
end Go.Proofs.YtomdpipekmcojaaGreatDoor
