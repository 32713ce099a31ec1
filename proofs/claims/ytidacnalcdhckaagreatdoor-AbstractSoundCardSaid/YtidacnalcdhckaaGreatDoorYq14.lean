/- Lemmas. No conditions. -/
import Derived.Test.YtidacnalcdhckaaGreatDoorYq13
import Derived.RangeFuncOwn
set_option maxRecDepth 100000
set_option maxHeartbeats 4000000
namespace Go.Proofs.YtidacnalcdhckaaGreatDoor
open Go Go.RowKit Go.Shelf Tryz
variable {qP:Prop}
attribute [local go_sem] Oper.semAt_some

theorem Jc{w:World}{p:Addr}{u:Value}(h:w.cell? p=some u):p.block<w.heap.size:=by
 unfold World.cell? at h
 rcases Nat.lt_or_ge p.block w.heap.size with h1|h1
 ·exact h1
 ·rw [Array.getElem?_eq_none h1] at h;cases h
def RY(C:World→Prop)(γ:Nat)(w:World)(γ':Nat)(w':World):Prop:=(γ'=γ∧w'=w)∨(γ=0∧γ'=1∧C w')
theorem RY.refl(C:World→Prop)(γ:Nat)(w:World):RY C γ w γ w:=.inl ⟨rfl,rfl⟩
theorem RY.trans(C:World→Prop)(γ:Nat)(w:World)(γ':Nat)(w':World)(γ'':Nat)(w'':World)(h:RY C γ w γ' w')(k:RY C γ' w' γ'' w''):RY C γ w γ'' w'':=by
 rcases h with ⟨rfl,rfl⟩|⟨h1,h2,h3⟩
 ·exact k
 ·rcases k with ⟨rfl,rfl⟩|⟨k1,k2,k3⟩
  ·exact .inr ⟨h1,h2,h3⟩
  ·omega
theorem RY.at_{C:World→Prop}{w w':World}{γ:Nat}(h:RY C 0 w γ w')(h0:C w):C w':=by
 rcases h with ⟨-,rfl⟩|⟨-,-,h⟩
 ·exact h0
 ·exact h
theorem RY.same{C:World→Prop}{w w':World}(h:RY C 0 w 0 w'):w'=w:=by
 rcases h with ⟨-,rfl⟩|⟨-,h,-⟩
 ·rfl
 ·cases h
def NY(i:Nat)(γ:Nat):Prop:=i=7→γ=0
def GS(back:Bool)(n k p:Nat):Prop:=if back then p+k+1=n else p=k
theorem BKA(h:qP:=by
 have hk3:Kept T wT w3:=by
  split at h
  ·exact HJK.o _ _ h
  ·exact HJXK.o _ _ h
 rw [eCW];exact ⟨hk3.cell HTB.o.1 CA.o,hk3.cell HTB.o.2.1 CB.o⟩):qP:=h
theorem OW(h:qP:=by
 clear hR hN hp hρ;go_light;go_simp;exact ⟨rfl,rfl⟩):qP:=h
theorem ZW(h:qP:=by
 intro vals γ w' ρ hR hN hp hρ hc hf hg;refine ⟨rfl,?_⟩;have e0:=hρ 0;(conv at e0=>rhs;whnf);exact OW):qP:=h
theorem AJA(h:qP:=by
 obtain ⟨m0,m1⟩:=HCW.o _ (hR.at_ HC0.o);exact OW):qP:=h
theorem ZU(h:qP:=by
 intro vals γ w' ρ hR hN hp hρ hc hf hg;refine ⟨rfl,?_⟩;have e1:=hρ 1;(conv at e1=>rhs;whnf);exact AJA):qP:=h
theorem ZM(h:qP:=by
 intro vals γ w' ρ hR hN hp hρ hc hf hg;refine ⟨rfl,?_⟩;have e6:=hρ 6;(conv at e6=>rhs;whnf);exact OW):qP:=h
theorem Zn(h:qP:=by
 intro vals γ w' ρ hR hN hp hρ hc hf hg;refine ⟨rfl,?_⟩;have e30:ρ (.tmp 30)=_:=(hρ 30).trans (hp 1 Y17);have e31:ρ (.tmp 31)=_:=(hρ 31).trans (hp 2 Y17);exact OW):qP:=h
theorem BQA(h:qP:=by
 intro vals γ w' ρ hR hN hp hρ hc hf hg;refine ⟨rfl,?_⟩;have e2:=hρ 2;(conv at e2=>rhs;whnf);exact AJA):qP:=h
theorem Yq(h:qP:=by
 intro vals γ w' ρ hR hN hp hρ hc hf hg;refine ⟨rfl,?_⟩;have e7:=hρ 7;(conv at e7=>rhs;whnf);exact OW):qP:=h
theorem Xz(h:qP:=by
 intro vals γ w' ρ hR hN hp hρ hc hf hg;refine ⟨rfl,?_⟩;have e33:ρ (.tmp 33)=_:=(hρ 33).trans (hp 4 Y17);have e34:ρ (.tmp 34)=_:=(hρ 34).trans (hp 5 Y17);exact OW):qP:=h
theorem BMA(h:qP:=by
 rintro v γ w1 γ' w2 r ⟨h1,h2,h3⟩
 rcases r with ⟨e1,e2⟩|⟨e1,-,-⟩
 ·exact ⟨h1,e1.trans h2,by rw [e2];exact h3⟩
 ·omega):qP:=h
theorem AqA(h:qP:=by
 intro vals γ w' ρ hR hN hp hρ hc hf hg;refine ⟨rfl,?_⟩;have e29:ρ (.tmp 29)=_:=(hρ 29).trans (hp 0 Y17);have e32:ρ (.tmp 32)=_:=(hρ 32).trans (hp 3 Y17);have e35:ρ (.tmp 35)=_:=(hρ 35).trans (hp 6 Y17);have hg0:=hN rfl;subst hg0;have hws:=hR.same;subst hws;have hy:=HY.o;clear hR hN hp hρ;go_light;go_simp;refine HRR.o.mono ?_;rintro e1 w3 ⟨he,hpost⟩;refine ⟨_,he,1,.inr ⟨rfl,rfl,?_⟩,fun j hj _ _ e=>absurd e hj,rfl,rfl,hpost⟩;exact HCP.o w3 hpost):qP:=h
theorem Xj(h:qP:=by
 intro vals γ w' ρ hR hN hp hρ hc hf hg;refine ⟨rfl,?_⟩;have e36:ρ (.tmp 36)=_:=(hρ 36).trans (hp 7 Y17).1;exact OW):qP:=h
theorem Y71(h:qP:=by rw [IntKind.wrap_i64];omega):qP:=h
theorem Oe(m:Nat)(hm:1≤m)(l ba bb bk:Nat)(wT W0:World)(T:NP)(a b:BA)(back:Bool)(ha:a.size≤4294967296)(hb:b.size≤4294967296)
  (hT:T ba∧T bb∧T bk) (ca:wT.cell? ⟨ba,0,none⟩=some (.string a)) (cb:wT.cell? ⟨bb,0,none⟩=some (.string b)) (ck:wT.cell? ⟨bk,0,none⟩=some (.bool back))
  (ans:Nat→Bool) (J Jx:Nat→World→Prop) (hJx:∀ k W W',J k W→Ext W W'→J k W') (hJk:∀ k W,J k W→Kept T wT W) (hJxk:∀ k W,Jx k W→Kept T wT W)
  (hround:∀ k W p q (hp:p<a.size) (hq:q<b.size),J k W→GS back a.size k p→GS back b.size k q →
   YieldAt Fence.wide (m-1) prog l #[.int .u8 (a[p].toNat:Int),.int .u8 (b[q].toNat:Int)] W fun e W'=>e=.returned (.bool (ans k))∧(if ans k=true then J (k+1) W' else Jx k W'))
  (h0:J 0 W0) :
  CallsIn Fence.wide m prog 237 #[.func (.yield l) #[] #[],.pointer (some ⟨ba,0,none⟩),.pointer (some ⟨bb,0,none⟩),.pointer (some ⟨bk,0,none⟩)] W0 fun e W'=>(∃ v,e=.returned v)∧(J (min a.size b.size) W'∨∃ k,k<min a.size b.size∧ans k=false∧Jx k W'):=by
 obtain ⟨HTB,CA,CB,CK,HJX,HJK,HJXK,HRD⟩:=Hd8 hT ca cb ck hJx hJk hJxk hround;have HJ0:=Hd h0;have k0:=hJk 0 W0 h0;have ca0:=k0.cell hT.1 ca;have cb0:=k0.cell hT.2.1 cb;have za:=Jc ca0;have zb:=Jc cb0;obtain ⟨n,en⟩:=eqx (min a.size b.size);have hmin:min (a.size:Int) (b.size:Int)=(n:Int):=Y4;have HN:=Hd (show n≤a.size∧n≤b.size∧n=min a.size b.size from ⟨Y4,Y4,en⟩);rw [←en];clear en hT ca cb ck hJx hJk hJxk hround h0 k0;refine callsIn_of_wp func237 rfl trivial ?_ rfl;simp only [ntmps237,List.size_toArray,List.length_cons,List.length_nil,Nat.reduceAdd,Nat.reduceSub,Array.replicate_succ,Array.replicate_zero,List.push_toArray,List.append_toArray,List.nil_append,List.cons_append]
 gi_wp2
 clear ca0 cb0 za zb hmin
 gi_loopw [13] (fun v13 wr=>∃ k:Nat,k≤n∧v13=.I (k:Int)∧J k wr) (fun v13 _=>n-(intOf v13).toNat)
 case atStart=>exact ⟨0,AE,rfl,HJ0.o⟩
 case round =>
  obtain ⟨k,hk,rfl,hjw⟩:=hrel;have HJW:=Hd hjw;have HKW:=Hd (HJK.o k wr hjw);clear hjw;have ck0:=HKW.o.cell HTB.o.2.2 CK.o;have zk:=Jc ck0;have hna:=HN.o.1;have hnb:=HN.o.2.1;by_cases hlt:k<n
  ·have hi1:(k:Int)<(n:Int):=Y4;have hi0:(0:Int)≤(k:Int):=Y4;cases back with
   |false =>
    have hp:k<a.size:=Y4;have hq:k<b.size:=Y4;have CAW:=Hd (HKW.o.cell HTB.o.1 CA.o);have CBW:=Hd (HKW.o.cell HTB.o.2.1 CB.o);obtain ⟨CW,eCW⟩:∃ CW:World→Prop,CW=fun w'=>w'.cell? ⟨ba,0,none⟩=some (.string a)∧w'.cell? ⟨bb,0,none⟩=some (.string b):=⟨_,rfl⟩;have HC0:=Hd (show CW wr.drew by rw [eCW];exact ⟨((Ext.refl wr).drew).cell CAW.o,((Ext.refl wr).drew).cell CBW.o⟩);have HCP:=Hd (show ∀ w3,(if ans k=true then J (k+1) w3 else Jx k w3)→CW w3 from fun w3 h=>by
     exact BKA)
    have HCW:=Hd (show ∀ w3,CW w3→w3.cell? ⟨ba,0,none⟩=some (.string a)∧w3.cell? ⟨bb,0,none⟩=some (.string b) from fun w3 h=>by rw [eCW] at h;exact h);clear eCW;obtain ⟨fn,tmps,assign,body,hy,hR2⟩:=HRD.o k wr.drew k k hp hq (HJX.o _ _ _ HJW.o ((Ext.refl wr).drew)) rfl rfl;have HY:=Hd hy;have HRR:=Hd hR2;clear hy hR2
    gi_wp2
    refine Eh Y11 Y11 (fun i=>[i]) Y11 (RY CW) (RY.refl CW) (RY.trans CW) NY 0 (fun _ _=>rfl) ?_;apply EyA (RY.refl CW) Y41
    ·exact ZW
    ·rfl
    apply EyA (RY.refl CW) Y41
    ·exact ZU
    ·rfl
    apply EyA (RY.refl CW) Y41
    ·exact ZM
    ·rfl
    apply EyA (RY.refl CW) Y41
    ·exact Zn
    ·rfl
    apply EyA (RY.refl CW) Y41
    ·exact BQA
    ·rfl
    apply EyA (RY.refl CW) Y41
    ·exact Yq
    ·rfl
    apply EyA (RY.refl CW) Y41
    ·exact Xz
    ·rfl
    refine ChainY.step (FP fun v γ w'=>v=.bool (ans k)∧γ=1∧(if ans k=true then J (k+1) w' else Jx k w')) Y41 (EuA ?_) ?_ ?_
    ·exact BMA
    ·exact AqA
    apply EyA (RY.refl CW) Y41
    ·exact Xj
    ·rfl
    intro vals γ w9 hR hG;have v0:vals 0=_:=hG 0 Y17;have v1:vals 1=_:=hG 1 Y17;have v2:vals 2=_:=hG 2 Y17;have v3:vals 3=_:=hG 3 Y17;have v4:vals 4=_:=hG 4 Y17;have v5:vals 5=_:=hG 5 Y17;have v6:vals 6=_:=hG 6 Y17;obtain ⟨v7,-,hpj⟩:=hG 7 Y17;have HPJ:=Hd hpj;have v8:vals 8=_:=hG 8 Y17;simp only [AR,Act.put,List.setIfInBounds_toArray,List.set_cons_succ,List.set_cons_zero,Nat.zero_add,Nat.reduceAdd,v0,v1,v2,v3,v4,v5,v6,v7,v8];clear v0 v1 v2 v3 v4 v5 v6 v7 v8 hR hG hpj;obtain ⟨s,es⟩:=eqx (ans k);rw [←es] at HPJ⊢;have HS:=Hd es;clear es;cases s with
    |true =>
     gi_wp2
     exact ⟨⟨k+1,Y4,Y3,by have:=HPJ.o;rwa [if_pos rfl] at this⟩,by simp [intOf];omega⟩
    |false =>
     gi_wp2
     refine bodyPost_ret (results_none results237 _ _ _) rfl ⟨⟨_,rfl⟩,.inr ⟨k,hlt,HS.o.symm,?_⟩⟩;have:=HPJ.o;rwa [if_neg Y3] at this
   |true =>
    obtain ⟨p,ep⟩:∃ p,p+k+1=a.size:=⟨a.size-1-k,Y4⟩;obtain ⟨q,eq⟩:∃ q,q+k+1=b.size:=⟨b.size-1-k,Y4⟩;have HP1:=Hd (show GS true a.size k p from ep);have HP2:=Hd (show GS true b.size k q from eq);have hp:p<a.size:=Y4;have hq:q<b.size:=Y4;have hu1:(a.size:Int)-1-(k:Int)=(p:Int):=Y4;have hu2:(b.size:Int)-1-(k:Int)=(q:Int):=Y4;have hz1:IntKind.i64.wrap ((a.size:Int)-1)=(a.size:Int)-1:=Y71;have hz2:IntKind.i64.wrap ((b.size:Int)-1)=(b.size:Int)-1:=Y71;have hz3:IntKind.i64.wrap ((a.size:Int)-1-(k:Int))=(p:Int):=(by rw [hu1];rw [IntKind.wrap_i64];omega);have hz4:IntKind.i64.wrap ((b.size:Int)-1-(k:Int))=(q:Int):=(by rw [hu2];rw [IntKind.wrap_i64];omega);clear ep eq hu1 hu2;have CAW:=Hd (HKW.o.cell HTB.o.1 CA.o);have CBW:=Hd (HKW.o.cell HTB.o.2.1 CB.o)
    gi_wp2
    refine Gg Y11 Y11 (fun i=>[i]) Y11 (LZ (fun _ _=>False)) (LZ.refl _) (LZ.trans _) (LK []) gz0 (LK.zero _) ?_
    iterate 12 refine Qp ?_
    intro vals γ w9 hR hG;refine Qx ?_;have HX5:=Hd (show Ext wr w9 from hR.ext0 (fun _ _ _ h=>h.elim));clear hR hG;have HKZ:=Hd (HJK.o k w9 (HJX.o _ _ _ HJW.o HX5.o));clear hz1 hz2 hz3 hz4;have CAZ:=Hd (HKZ.o.cell HTB.o.1 CA.o);have CBZ:=Hd (HKZ.o.cell HTB.o.2.1 CB.o);obtain ⟨CW,eCW⟩:∃ CW:World→Prop,CW=fun w'=>w'.cell? ⟨ba,0,none⟩=some (.string a)∧w'.cell? ⟨bb,0,none⟩=some (.string b):=⟨_,rfl⟩;have HC0:=Hd (show CW w9.drew by rw [eCW];exact ⟨((Ext.refl w9).drew).cell CAZ.o,((Ext.refl w9).drew).cell CBZ.o⟩);have HCP:=Hd (show ∀ w3,(if ans k=true then J (k+1) w3 else Jx k w3)→CW w3 from fun w3 h=>by
     exact BKA)
    have HCW:=Hd (show ∀ w3,CW w3→w3.cell? ⟨ba,0,none⟩=some (.string a)∧w3.cell? ⟨bb,0,none⟩=some (.string b) from fun w3 h=>by rw [eCW] at h;exact h);clear eCW;obtain ⟨fn,tmps,assign,body,hy,hR2⟩:=HRD.o k w9.drew p q hp hq (HJX.o _ _ _ HJW.o (HX5.o.drew)) HP1.o HP2.o;have HY:=Hd hy;have HRR:=Hd hR2;clear hy hR2
    gi_wp2
    refine Eh Y11 Y11 (fun i=>[i]) Y11 (RY CW) (RY.refl CW) (RY.trans CW) NY 0 (fun _ _=>rfl) ?_;apply EyA (RY.refl CW) Y41
    ·exact ZW
    ·rfl
    apply EyA (RY.refl CW) Y41
    ·exact ZU
    ·rfl
    apply EyA (RY.refl CW) Y41
    ·exact ZM
    ·rfl
    apply EyA (RY.refl CW) Y41
    ·exact Zn
    ·rfl
    apply EyA (RY.refl CW) Y41
    ·exact BQA
    ·rfl
    apply EyA (RY.refl CW) Y41
    ·exact Yq
    ·rfl
    apply EyA (RY.refl CW) Y41
    ·exact Xz
    ·rfl
    refine ChainY.step (FP fun v γ w'=>v=.bool (ans k)∧γ=1∧(if ans k=true then J (k+1) w' else Jx k w')) Y41 (EuA ?_) ?_ ?_
    ·exact BMA
    ·exact AqA
    apply EyA (RY.refl CW) Y41
    ·exact Xj
    ·rfl
    intro vals γ wz hR hG;have v0:vals 0=_:=hG 0 Y17;have v1:vals 1=_:=hG 1 Y17;have v2:vals 2=_:=hG 2 Y17;have v3:vals 3=_:=hG 3 Y17;have v4:vals 4=_:=hG 4 Y17;have v5:vals 5=_:=hG 5 Y17;have v6:vals 6=_:=hG 6 Y17;obtain ⟨v7,-,hpj⟩:=hG 7 Y17;have HPJ:=Hd hpj;have v8:vals 8=_:=hG 8 Y17;simp only [AR,Act.put,List.setIfInBounds_toArray,List.set_cons_succ,List.set_cons_zero,Nat.zero_add,Nat.reduceAdd,v0,v1,v2,v3,v4,v5,v6,v7,v8];clear v0 v1 v2 v3 v4 v5 v6 v7 v8 hR hG hpj;obtain ⟨s,es⟩:=eqx (ans k);rw [←es] at HPJ⊢;have HS:=Hd es;clear es;cases s with
    |true =>
     gi_wp2
     exact ⟨⟨k+1,Y4,Y3,by have:=HPJ.o;rwa [if_pos rfl] at this⟩,by simp [intOf];omega⟩
    |false =>
     gi_wp2
     refine bodyPost_ret (results_none results237 _ _ _) rfl ⟨⟨_,rfl⟩,.inr ⟨k,hlt,HS.o.symm,?_⟩⟩;have:=HPJ.o;rwa [if_neg Y3] at this
  ·have hke:k=n:=Y4;subst hke;have hi1:¬((k:Int)<(k:Int)):=Y4
   gi_wp2
   go_end0
   exact ⟨⟨_,rfl⟩,.inl HJW.o⟩
end Go.Proofs.YtidacnalcdhckaaGreatDoor
namespace Go.Proofs.YtidacnalcdhckaaGreatDoor
open Go Go.RowKit Go.Shelf Tryz
variable {qP:Prop}
attribute [local go_sem] Oper.semAt_some

abbrev SM(fn D id:Nat)(tmps:Array Value)(ps:Array Tmp)(assign body:Code)(go:Bool):Loop:={ state:=if go then .ready else .done,pending:=if go then none else some (.exit id),fn:=fn,tmps:=tmps,params:=ps,assign:=assign,body:=body,defers:=D }
section
variable {F:Fence}{n:Nat}{P:Program}
theorem Nq{JJ:World→Prop}{Mid:Act→World→Prop}{l D fn m id:Nat}{tmps:Array Value}{ps:Array Tmp}{assign body:Code}{args:Array Value}{W:World}{go:Bool}(hfn:F.fn fn)
  (hr:Rdy (SM fn D id tmps ps assign body true) l D W) (hps:args.size=ps.size)
  (hmid:∀ (a:Act) (W:World) (o o':Obj),Mid a W→W.heap[l]?=some o→o.isCells=false→Mid a (W.putObj l o')) (hJ:∀ (W:World) (o o':Obj),JJ W→W.heap[l]?=some o→o.isCells=false→JJ (W.putObj l o'))
  (hassign:assign.wpIn (F.inRound l) m P (Exit.then (fun a₁ W₁=>Mid a₁ W₁∧KeepsOthers W W₁) (fun _ _ _=>False)) { tmps:=(ps.zip args).foldl (fun t (p,v)=>t.setIfInBounds p v) tmps,defers:=[] } W)
  (hbody:∀ (a₁:Act) (W₁:World),Mid a₁ W₁→body.wpIn (F.inRound l) m P (fun e _ W₃=>e=(if go then .normal else .exit id)∧KeepsOthers W₁ W₃∧JJ W₃) a₁ W₁) :
  YieldAt F m P l args W fun e W'=>e=.returned (.bool go)∧JJ W'∧Rdy (SM fn D id tmps ps assign body go) l D W':=by
 obtain ⟨hl,hk,hDl⟩:=hr;refine ⟨fn,_,assign,body,run_yield hl hps,roundIn_of_wpIn hfn (wpIn_mono hassign ?_)⟩;intro e a W1 hp;cases e with
 |normal =>
  obtain ⟨hm,hk1⟩:=hp;have hl1:=hk1.same _ _ hl rfl;have hd1:=hk1.same _ _ hk rfl;refine ⟨_,run_beginRound hl1 rfl,wpIn_mono (hbody a _ (hmid a W1 _ _ hm hl1 rfl)) ?_⟩;rintro e3 a3 W3 ⟨he,hk3,hj3⟩;have hlt:l<W1.heap.size:=(Array.getElem?_eq_some_iff.1 hl1).1;have hl3:=hk3.same l _ (World.putObj_heap_same hlt) rfl;have hd3:=hk3.same D _ ((World.putObj_heap_other Y4).trans hd1) rfl;have hlt3:l<W3.heap.size:=(Array.getElem?_eq_some_iff.1 hl3).1;cases go with
  |true =>
   simp only [if_true] at he;subst he;exact ⟨_,_,run_endRound none hl3,rfl,hJ W3 _ _ hj3 hl3 rfl,World.putObj_heap_same hlt3,(World.putObj_heap_other Y4).trans hd3,hDl⟩
  |false =>
   simp only [Bool.false_eq_true,if_false] at he;subst he;exact ⟨_,_,run_endRound (some (.exit id)) hl3,rfl,hJ W3 _ _ hj3 hl3 rfl,World.putObj_heap_same hlt3,(World.putObj_heap_other Y4).trans hd3,hDl⟩
 |ret=>exact hp.elim
 |exit id=>exact hp.elim
 |goto t=>exact hp.elim
 |panic c=>exact hp.elim
 |outgrown=>exact hp.elim
theorem Kl{J0 J1 Jx:World→Prop}{g:Operand}{ps:Array Tmp}{assign body:Code}{Q:Exit→Act→World→Prop}{a:Act}{w:World}(id:Nat)
  (hro:F.round=none) (h1:1≤n) {gf:Nat} {lb:Array Value} (hg:a.eval g=.func (.func gf) #[] lb) (hFg:F.fn gf) (eg:∀ args w,(callFunc gf args).run P w=.ok (.enter gf args) w)
  (hJ1:∀ (W:World) (o o':Obj),J1 W→W.heap[w.heap.size+1]?=some o→o.isCells=false→J1 (W.putObj (w.heap.size+1) o')) (hJx:∀ (W:World) (o o':Obj),Jx W→W.heap[w.heap.size+1]?=some o→o.isCells=false→Jx (W.putObj (w.heap.size+1) o'))
  (h00:∀ r:Loop,J0 ((w.alloc (.deferred (some []))).alloc (.loop r)))
  (hiter:∀ (fn:Nat) (r:Bool→Loop) (W:World),F.fn fn→r=SM fn w.heap.size id a.tmps ps assign body→J0 W→Rdy (r true) (w.heap.size+1) w.heap.size W →
   CallsIn F (n-1) P gf (#[.func (.yield (w.heap.size+1)) #[] #[]]++lb) W fun e W'=>(∃ v,e=.returned v)∧((J1 W'∧Rdy (r true) (w.heap.size+1) w.heap.size W')∨(Jx W'∧Rdy (r false) (w.heap.size+1) w.heap.size W')))
  (hdone:∀ (W:World),J1 W→W.heap[w.heap.size]?=some (.deferred (some []))→Q .normal { a with defers:={ target:=.collected w.heap.size,args:=#[] }::a.defers } W)
  (hstop:∀ (W:World),Jx W→W.heap[w.heap.size]?=some (.deferred (some []))→(Code.exit id).wpIn F n P Q { a with defers:={ target:=.collected w.heap.size,args:=#[] }::a.defers } W) :
  (Code.rangeFunc g ps assign body).wpIn F n P Q a w:=by
 refine wpIn_rangeFunc ?_;intro fn hfn;rw [hro];obtain ⟨W1,hW1⟩:=eqx ((w.alloc (.deferred (some []))).alloc (.loop { state:=.ready,pending:=none,fn:=fn,tmps:=a.tmps,params:=ps,assign:=assign,body:=body,defers:=w.heap.size }));have hL1:W1.heap[w.heap.size+1]?=some (.loop { state:=.ready,pending:=none,fn:=fn,tmps:=a.tmps,params:=ps,assign:=assign,body:=body,defers:=w.heap.size }):=by
  have:=World.alloc_heap_new (w.alloc (.deferred (some []))) (.loop { state:=.ready,pending:=none,fn:=fn,tmps:=a.tmps,params:=ps,assign:=assign,body:=body,defers:=w.heap.size });rw [hW1];rwa [World.size_alloc] at this
 have hK1:W1.heap[w.heap.size]?=some (.deferred (some [])):=by
  rw [hW1];exact (Below.heap_alloc _ _ _ Y3).trans (World.alloc_heap_new w _)
 refine ⟨w.heap.size+1,[{ target:=.collected w.heap.size,args:=#[] }],W1,{ target:=.fn (.func gf) lb,args:=#[.func (.yield (w.heap.size+1)) #[] #[]] },W1,gf,#[.func (.yield (w.heap.size+1)) #[] #[]]++lb,W1,by rw [hW1];exact run_enterLoop_outer _ _ _ _ _,?_,?_,?_,fun _=>h1,?_⟩
 ·simp only [resolve,hg];simp [go_sem]
 ·intro f' hf';simp [Target.leads] at hf';subst hf';exact hFg
 ·simp [invoke,go_sem,eg]
 ·refine (hiter fn _ W1 hfn rfl (by rw [hW1];exact h00 _) ⟨hL1,hK1,Y4⟩).mono ?_;rintro e W2 ⟨⟨v,rfl⟩,⟨hj,hl,hk,hDl⟩|⟨hj,hl,hk,hDl⟩⟩
  ·exact ⟨none,_,run_endLoop hl Y3,hdone _ (hJ1 _ _ _ hj hl rfl) ((World.putObj_heap_other Y4).trans hk)⟩
  ·exact ⟨some (.exit id),_,run_endLoop hl Y3,hstop _ (hJx _ _ _ hj hl rfl) ((World.putObj_heap_other Y4).trans hk)⟩
end
theorem N5(a b:BA)(back:Bool)(w:World):Cl 205 #[.string a,.string b,.bool back] w (fun e w'=>e=.returned (.func (.func 237) #[] #[.pointer (some ⟨w.heap.size,0,none⟩),.pointer (some ⟨w.heap.size+1,0,none⟩),.pointer (some ⟨w.heap.size+2,0,none⟩)])∧w'=((w.alloc (.cells #[.string a] 9)).alloc (.cells #[.string b] 9)).alloc (.cells #[.bool back] 4)):=by
 go_enter func205,ntmps205
 exact Z49
theorem Kept.putObjY(W:World)(l:Nat)(o:Obj):Kept (fun b=>b≠l) W (W.putObj l o):=⟨by simp [World.putObj_size],fun b hb _=>World.putObj_heap_other hb⟩
def dL(back:Bool)(s:BA):List UInt8:=if back then s.data.toList.reverse else s.data.toList
def KG(a b:BA)(back:Bool)(k:Nat):Bool:=decide ((dL back a)[k]?=(dL back b)[k]?)
def Gu(a b:BA)(back:Bool):Nat:=if back then (FD a.data.toList b.data.toList).length else (Cz a.data.toList b.data.toList).length
theorem Yb(h:qP:=by
 rcases h4 with h|h|h
 ·exact .inl h
 ·exact .inr (.inl h)
 ·exact .inr (.inr (by simpa [KG,dL] using h))):qP:=h
theorem Kz(a b:BA)(back:Bool)(n:Nat)(h1:n≤a.size)(h2:n≤b.size)(h3:∀ j,j<n→KG a b back j=true)(h4:n=a.size∨n=b.size∨KG a b back n=false):Gu a b back=n:=by
 have la:a.data.toList.length=a.size:=rfl;have lb:b.data.toList.length=b.size:=rfl;cases back with
 |false =>
  have h:=EQ a.data.toList b.data.toList n h1 h2 (fun j hj=>by have:=h3 j hj;simpa [KG,dL] using this) (by
   exact Yb)
  unfold Gu;rw [if_neg Y3,h,List.length_take];omega
 |true =>
  have h:=GG a.data.toList b.data.toList n h1 h2 (fun j hj=>by have:=h3 j hj;simpa [KG,dL] using this) (by
   exact Yb)
  unfold Gu;rw [if_pos rfl,h,List.length_drop];omega
theorem Up{back:Bool}{s:BA}{k p:Nat}(hp:p<s.size)(h:GS back s.size k p):(dL back s)[k]?=some s[p]:=by
 cases back with
 |false =>
  have e:p=k:=(by simpa [GS] using h);subst e;exact IL hp
 |true =>
  have e:p+k+1=s.size:=(by simpa [GS] using h);exact Jf e
theorem Sz{back:Bool}{a b:BA}{k p q:Nat}(hp:p<a.size)(hq:q<b.size)(h1:GS back a.size k p)(h2:GS back b.size k q):KG a b back k=((a[p].toNat:Int)==(b[q].toNat:Int)):=by
 unfold KG;rw [Up hp h1,Up hq h2,G9];simp
structure CoJ(w w1:World)(g:Nat)(a b:BA)(back:Bool)(k:Nat)(W:World):Prop where
 ext:Ext w W
 o:Blk W g 3 #[.I (k:Int)]
 kept:Kept (fun x=>g<x∧x<w1.heap.size) w1 W
 all:∀ j,j<k→KG a b back j=true
theorem CoJ.more{w w1 W W':World}{g k:Nat}{a b:BA}{back:Bool}(h:CoJ w w1 g a b back k W)(hx:Ext W W'):CoJ w w1 g a b back k W' :=
 ⟨h.ext.trans hx,h.o.keep (hx.kept _),h.kept.trans (hx.kept _),h.all⟩
theorem CoJ.calm{w w1 W:World}{g k l:Nat}{a b:BA}{back:Bool}(h:CoJ w w1 g a b back k W)(hw:w.heap.size≤l)(hl:w1.heap.size≤l){o o':Obj}(ho:W.heap[l]?=some o)(hc:o.isCells=false):CoJ w w1 g a b back k (W.putObj l o') :=
 ⟨h.ext.putObj hw o',h.o.calm ho hc,h.kept.trans ((Kept.putObjY W l o').mono fun b _ hb=>Y4),h.all⟩
theorem Y72(h:qP:=by have:=HS1.o;omega):qP:=h
theorem VS(h:qP:=by
 intro W o o' h hl ho;exact h.calm Y72 Y4 hl ho):qP:=h
theorem Xc(h:qP:=by
 rintro A W o o' ⟨e,h⟩ hl ho;exact ⟨e,h.calm Y72 Y4 hl ho⟩):qP:=h
theorem BTA(h:qP:=by
 rintro e9 W9 ⟨he,hj9,hr9⟩;rw [hs];exact ⟨he,⟨hj9,hr9⟩⟩):qP:=h
theorem Hw(a b:BA)(back:Bool)(ha:a.size≤4294967296)(hb:b.size≤4294967296)(w:World):Cl 154 #[.string a,.string b,.bool back] w (fun e w'=>e=.returned (.I (Gu a b back:Nat))∧Ext w w'):=by
 refine (callsIn_wide (n:=4)).1 ?_;refine callsIn_of_wp_marks func154 rfl trivial ?_ rfl;simp only [ntmps154,List.size_toArray,List.length_cons,List.length_nil,Nat.reduceAdd,Nat.reduceSub,Array.replicate_succ,Array.replicate_zero,List.push_toArray,List.append_toArray,List.nil_append,List.cons_append]
 gi_wp2
 refine ⟨trivial,(callsIn_wide.2 (N5 a b back _)).mono ?_⟩;rintro e1 w1 ⟨rfl,hw1⟩;have hsz:(w.alloc (.cells #[.I 0] 3)).heap.size=w.heap.size+1:=Y3;simp only [hsz];obtain ⟨HJ0,HS1,HB1,HB2,HB3⟩:=Hd5 (show CoJ w w1 w.heap.size a b back 0 w1 from ⟨by rw [hw1];exact (excc w).alloc _,by rw [hw1];exact (Blk.new w _ _).keep ((excc _).kept _),Kept.refl _ _,fun j hj=>Y4⟩) (show w1.heap.size=w.heap.size+4 by rw [hw1];simp) (show Blk w1 (w.heap.size+1) 9 #[.string a] by rw [hw1];exact (FHA Y3).keep ((exbb _).kept _)) (show Blk w1 (w.heap.size+2) 9 #[.string b] by rw [hw1];exact (FHA Y3).keep ((exaa _).kept _)) (show Blk w1 (w.heap.size+3) 4 #[.bool back] by rw [hw1];exact FHA Y3);clear hw1 hsz
 gi_wp2
 refine Kl 0 (J0:=CoJ w w1 w.heap.size a b back 0) (J1:=CoJ w w1 w.heap.size a b back (min a.size b.size)) (Jx:=fun W=>∃ k,k<min a.size b.size∧KG a b back k=false∧CoJ w w1 w.heap.size a b back k W) rfl Y17 (gf:=237) rfl trivial (enters_of func237 Y11 rfl) ?c1 ?cx ?h00 ?hiter ?hdone ?hstop
 case c1 =>
  exact VS
 case cx =>
  rintro W o o' ⟨k,h1,h2,h⟩ hl ho;exact ⟨k,h1,h2,h.calm Y72 Y4 hl ho⟩
 case h00 =>
  intro r;exact HJ0.o.more (exbb w1)
 case hdone =>
  intro W hj hd;have HJ:=Hd hj;have c0:=hj.o.q0;have z0:=hj.o.lt;clear hj
  gi_wp2
  refine ⟨Y3,.inl ⟨_,_,rfl,run_takeDeferred hd,?_⟩⟩;refine ⟨.I (min a.size b.size:Nat),by simp [results,results154,go_sem],?_⟩;refine ⟨?_,HJ.o.ext.putObj Y72 _⟩;rw [Kz a b back (min a.size b.size) Y4 Y4 HJ.o.all Y4]
 case hstop =>
  rintro W ⟨k,h1,h2,hj⟩ hd;have HJ:=Hd hj;have c0:=hj.o.q0;have z0:=hj.o.lt;clear hj
  gi_wp2
  refine ⟨Y3,.inl ⟨_,_,rfl,run_takeDeferred hd,?_⟩⟩;refine ⟨.I (k:Nat),by simp [results,results154,go_sem],?_⟩;refine ⟨?_,HJ.o.ext.putObj Y72 _⟩;rw [Kz a b back k Y4 Y4 HJ.o.all (.inr (.inr h2))]
 case hiter =>
  rintro fn r W hfn er hj0 hr0;refine (Oe 3 Y17 (w1.heap.size+1) (w.heap.size+1) (w.heap.size+1+1) (w.heap.size+1+2) w1 W (fun x=>w.heap.size<x∧x<w1.heap.size) a b back ha hb ?hT (HB1.o.q0) (HB2.o.q0) (HB3.o.q0) (KG a b back)
   (fun k W=>CoJ w w1 w.heap.size a b back k W∧Rdy (r true) (w1.heap.size+1) w1.heap.size W) (fun k W=>CoJ w w1 w.heap.size a b back k W∧Rdy (r false) (w1.heap.size+1) w1.heap.size W) ?jx ?jk ?jxk ?round ⟨hj0,hr0⟩).mono ?fin
  case hT=>have:=HS1.o;omega
  case jx =>
   rintro k W1 W2 ⟨h,hr⟩ hx;exact ⟨h.more hx,hr.ext hx⟩
  case jk=>exact fun k W1 h=>h.1.kept
  case jxk=>exact fun k W1 h=>h.1.kept
  case fin =>
   rintro e8 W8 ⟨hv,⟨hj8,hr8⟩|⟨k,hk,hak,hj8,hr8⟩⟩
   ·exact ⟨hv,.inl ⟨hj8,hr8⟩⟩
   ·exact ⟨hv,.inr ⟨⟨k,hk,hak,hj8⟩,hr8⟩⟩
  case round =>
   rintro k W1 p q hp hq ⟨hj,hr⟩ h1 h2;subst er;have HJ:=Hd hj;have HKL:=Hd (show k<a.size∧k<b.size by
    unfold GS at h1 h2;split at h1<;>split at h2<;>first|omega|contradiction)
   have hs:=Sz hp hq h1 h2;clear hj h1 h2;cases hc:((a[p].toNat:Int)==(b[q].toNat:Int)) with
   |true =>
     rw [hc] at hs;refine YieldAt.mono (Nq (m:=3-1) (id:=0) (go:=true) (JJ:=CoJ w w1 w.heap.size a b back (k+1)) (Mid:=fun A W=>A = { tmps:=#[.string a,.string b,.bool back,undef,undef,undef,.I 0,.pointer (some ⟨w.heap.size,0,none⟩),.int .u8 (a[p].toNat:Int),.int .u8 (b[q].toNat:Int),.string a,.string b,.bool back,.func (.func 237) #[] #[.pointer (some ⟨w.heap.size+1,0,none⟩),.pointer (some ⟨w.heap.size+1+1,0,none⟩),.pointer (some ⟨w.heap.size+1+2,0,none⟩)],.int .u8 (a[p].toNat:Int),.int .u8 (b[q].toNat:Int),undef,undef,undef,undef,undef,undef],defers:=[] }∧CoJ w w1 w.heap.size a b back k W) hfn hr rfl ?mid ?calm2 ?assign ?body) ?post
     case mid =>
      exact Xc
     case calm2 =>
      exact VS
     case post =>
      exact BTA
     case assign =>
      gi_wp2
      exact ⟨HJ.o,(Ext.refl _).others⟩
     case body =>
      rintro A W2 ⟨rfl,hj2⟩;have HJ2:=Hd hj2;have q0:=hj2.o.q0;have qf:=hj2.o.frozen;have ql:=hj2.o.lt;have hak:k<a.size∧k<b.size:=HKL.o;clear hj2
      gi_wp2
      have hxt:Ext w (W2.setCell ⟨w.heap.size,0,none⟩ (.I ((k:Int)+1))):=HJ2.o.ext.set2 (AS) _;refine ⟨KeepsOthers.setCell _ _ _,hxt,?_,HJ2.o.kept.trans (Kept.set2 (Kept.refl _ _) fun h=>Y4),fun j hj => ?_⟩
      ·exact HJ2.o.o.set 0 _
      ·by_cases hjk:j=k
       ·subst hjk;exact hs
       ·exact HJ2.o.all j Y4
   |false =>
     rw [hc] at hs;refine YieldAt.mono (Nq (m:=3-1) (id:=0) (go:=false) (JJ:=CoJ w w1 w.heap.size a b back k) (Mid:=fun A W=>A = { tmps:=#[.string a,.string b,.bool back,undef,undef,undef,.I 0,.pointer (some ⟨w.heap.size,0,none⟩),.int .u8 (a[p].toNat:Int),.int .u8 (b[q].toNat:Int),.string a,.string b,.bool back,.func (.func 237) #[] #[.pointer (some ⟨w.heap.size+1,0,none⟩),.pointer (some ⟨w.heap.size+1+1,0,none⟩),.pointer (some ⟨w.heap.size+1+2,0,none⟩)],.int .u8 (a[p].toNat:Int),.int .u8 (b[q].toNat:Int),undef,undef,undef,undef,undef,undef],defers:=[] }∧CoJ w w1 w.heap.size a b back k W) hfn hr rfl ?mid ?calm2 ?assign ?body) ?post
     case mid =>
      exact Xc
     case calm2 =>
      exact VS
     case post =>
      exact BTA
     case assign =>
      gi_wp2
      exact ⟨HJ.o,(Ext.refl _).others⟩
     case body =>
      rintro A W2 ⟨rfl,hj2⟩;have HJ2:=Hd hj2;have q0:=hj2.o.q0;have qf:=hj2.o.frozen;have ql:=hj2.o.lt;have hak:k<a.size∧k<b.size:=HKL.o;clear hj2
      gi_wp2
      exact ⟨(Ext.refl _).others,HJ2.o⟩

theorem UA(a b:BA):a.extract 0 (Gu a b false)=bA (Cz a.data.toList b.data.toList):=by
 rw [EH];unfold Gu;rw [if_neg Y3,←List.prefix_iff_eq_take.1 (Dd _ _)]
theorem OM(a b:BA):Gu a b false≤a.size:=by
 unfold Gu;rw [if_neg Y3];exact (Dd _ _).length_le
theorem TC(a b:BA):a.extract (a.size-Gu a b true) a.size=bA (FD a.data.toList b.data.toList):=by
 rw [DG];unfold Gu;rw [if_pos rfl];congr 1;exact (List.suffix_iff_eq_drop.1 (GH _ _)).symm
theorem O6(a b:BA):Gu a b true≤a.size:=by
 unfold Gu;rw [if_pos rfl];exact (GH _ _).length_le
theorem St(h:qP:=by
 iterate 5 with_reducible refine Ext.set2 ?_ HG4.o _
 with_reducible exact HX3.o):qP:=h
theorem Y73(h:qP:=by simp [results,results81,go_sem,r0,r1,r2,r3,r4]):qP:=h
theorem JT(a b:Sh)(h1:a.b.size≤1000000000)(h2:a.e.size≤1000000000)(h3:b.b.size≤1000000000)(h4:b.e.size≤1000000000)(w:World):Cl 81 #[(Sq a),(Sq b)] w (Eg w (Aw a b)):=by
 obtain ⟨w0,hw0⟩:=eqx (((w.alloc (.cells (Sp a) 32)).alloc (.cells (Sp b) 32)).alloc (.cells #[.I 0,.I 0,.I 0,.string ⟨#[]⟩,.string ⟨#[]⟩] 32));have hx0:Ext w w0:=Y54;have hb2:Blk w0 w.heap.size 32 (Sp a):=Y65;have hb3:Blk w0 (w.heap.size+1) 32 (Sp b):=Y66;have hb4:Blk w0 (w.heap.size+2) 32 #[.I 0,.I 0,.I 0,.string ⟨#[]⟩,.string ⟨#[]⟩]:=Y67;obtain ⟨g2,hg2⟩:=eqx w.heap.size;obtain ⟨g3,hg3⟩:=eqx (w.heap.size+1);obtain ⟨g4,hg4⟩:=eqx (w.heap.size+2);rw [←hg2] at hb2;rw [←hg3] at hb3;rw [←hg4] at hb4;have HG4:=Hd (show w.heap.size≤g4 by omega);obtain ⟨la,hla⟩:=eqx (AG a);obtain ⟨lb,hlb⟩:=eqx (AG b);obtain ⟨ma,hma⟩:=eqx (Ag a);obtain ⟨mb,hmb⟩:=eqx (Ag b);obtain ⟨cc,hcc⟩:=eqx (bits .or .i64 (At a) (At b));obtain ⟨sp,hsp⟩:=eqx (bA (Cz a.B b.B));obtain ⟨ss,hss⟩:=eqx (bA (FD a.E b.E));obtain ⟨HLA,HLB,HMA,HMB⟩:=Hd4 (show ∀ w',Cl 151 #[(Sq a)] w' (CD w' la) from fun w'=>by rw [hla];exact CU a w') (show ∀ w',Cl 151 #[(Sq b)] w' (CD w' lb) from fun w'=>by rw [hlb];exact CU b w') (show ∀ w',Cl 152 #[(Sq a)] w' (CD w' ma) from fun w'=>by rw [hma];exact C6 a w') (show ∀ w',Cl 152 #[(Sq b)] w' (CD w' mb) from fun w'=>by rw [hmb];exact C6 b w');obtain ⟨oa,hoa⟩:=eqx (At a);obtain ⟨ob,hob⟩:=eqx (At b);obtain ⟨n1,hn1⟩:=eqx (Gu a.b b.b false);obtain ⟨n2,hn2⟩:=eqx (Gu a.e b.e true);obtain ⟨u2,hu2⟩:=eqx (a.e.size-n2);obtain ⟨HOA,HOB,HN1,HN2,HNO⟩:=Hd5 (show ∀ w',Cl 153 #[(Sq a)] w' (CD w' oa) from fun w'=>by rw [hoa];exact DX a w') (show ∀ w',Cl 153 #[(Sq b)] w' (CD w' ob) from fun w'=>by rw [hob];exact DX b w') (show ∀ w',Cl 154 #[.string a.b,.string b.b,.bool false] w' (CD w' (n1:Int)) from fun w'=>by rw [hn1];exact Hw a.b b.b false Y4 Y4 w') (show ∀ w',Cl 154 #[.string a.e,.string b.e,.bool true] w' (CD w' (n2:Int)) from fun w'=>by rw [hn2];exact Hw a.e b.e true Y4 Y4 w') (fun w'=>Em w');have hp0:n1≤a.b.size:=(by rw [hn1];exact OM _ _);have hs0:n2≤a.e.size:=(by rw [hn2];exact O6 _ _);have hp1:(n1:Int)≤(a.b.size:Int):=Y4;have hp2:(0:Int)≤(n1:Int):=Y4;have hs1:(u2:Int)≤(a.e.size:Int):=Y4;have hs2:(0:Int)≤(u2:Int):=Y4;have hs3:IntKind.i64.wrap ((a.e.size:Int)-(n2:Int))=(u2:Int):=Y71;have hxp:a.b.extract 0 n1=sp:=(by rw [hn1,hsp];exact UA a.b b.b);have hxs:a.e.extract u2 a.e.size=ss:=(by rw [hu2,hn2,hss];exact TC a.e b.e);obtain ⟨HEA,HEB,HJ⟩:=Hd3 (fun w'=>BO a Y4 Y4 w') (fun w'=>BO b Y4 Y4 w') (show Aw a b=if AI a=true then (if AI b=true then EwA else b) else if AI b=true then a else ⟨min la lb,max ma mb,cc,sp,ss⟩ from by rw [hla,hlb,hma,hmb,hcc,hsp,hss];rfl);have hor:bits .or .i64 oa ob=cc:=(by rw [hcc,hoa,hob]);generalize AI a=b1 at *;generalize AI b=b2 at *;obtain ⟨HX0,HW0,HE2,HE3,HE4,HB2_0,HB3_0,HB4_0⟩:=Hd8 hx0 hw0 hg2 hg3 hg4 hb2 hb3 hb4;obtain ⟨q0,q1,q2,q3,q4⟩:=hb2.qs5;obtain ⟨q5,q6,q7,q8,q9⟩:=hb3.qs5;clear hx0 hw0 hb2 hb3 hb4 hg2 hg3 hg4 hla hlb hma hmb hcc hsp hss hoa hob hn1 hn2 hu2 hp0 hs0
 go_enter func81,ntmps81
 go_upto_region 1 with fail
 rw [←HW0.o,show w.heap.size+1+1=g4 from HE4.o.symm,←HE3.o,←HE2.o];cases b1
 ·go_wp2_with fail
  refine (HEA.o _).mono ?_;rintro e1 w1 ⟨rfl,hx⟩;have HX1:=Hd (HX0.o.trans hx);have hb2:=HB2_0.o.keep (hx.kept _);have hb3:=HB3_0.o.keep (hx.kept _);have hb4:=HB4_0.o.keep (hx.kept _);obtain ⟨HB2_1,HB3_1,HB4_1⟩:=Hd3 hb2 hb3 hb4;clear q0 q1 q2 q3 q4 q5 q6 q7 q8 q9;obtain ⟨q0,q1,q2,q3,q4⟩:=hb2.qs5;obtain ⟨q5,q6,q7,q8,q9⟩:=hb3.qs5;clear hx hb2 hb3 hb4
  go_wp2_with fail
  refine (HEA.o _).mono ?_;rintro e2 w2 ⟨rfl,hx⟩;have HX2:=Hd (HX1.o.trans hx);have hb2:=HB2_1.o.keep (hx.kept _);have hb3:=HB3_1.o.keep (hx.kept _);have hb4:=HB4_1.o.keep (hx.kept _);obtain ⟨HB2_2,HB3_2,HB4_2⟩:=Hd3 hb2 hb3 hb4;clear q0 q1 q2 q3 q4 q5 q6 q7 q8 q9;obtain ⟨q0,q1,q2,q3,q4⟩:=hb2.qs5;obtain ⟨q5,q6,q7,q8,q9⟩:=hb3.qs5;clear hx hb2 hb3 hb4
  go_wp2_with fail
  refine (HEB.o _).mono ?_;rintro e3 w3 ⟨rfl,hx⟩;have HX3:=Hd (HX2.o.trans hx);have hb2:=HB2_2.o.keep (hx.kept _);have hb3:=HB3_2.o.keep (hx.kept _);have hb4:=HB4_2.o.keep (hx.kept _);obtain ⟨HB2_3,HB3_3,HB4_3⟩:=Hd3 hb2 hb3 hb4;clear q0 q1 q2 q3 q4 q5 q6 q7 q8 q9;obtain ⟨q0,q1,q2,q3,q4⟩:=hb2.qs5;obtain ⟨q5,q6,q7,q8,q9⟩:=hb3.qs5;clear hx hb2 hb3 hb4;cases b2
  ·obtain ⟨k0,k1,k2,k3,k4,k5,k6,k7⟩:=Hd8 q0 q1 q2 q3 q4 q5 q6 q7;have k8:=Hd q8;have k9:=Hd q9;clear q0 q1 q2 q3 q4 q5 q6 q7 q8 q9
   go_upto_region 7 with fail
   refine Qa (fun m b=>(m=1036∧b=g4)) (lk 37 [1036]) ?_;refine Qp ?_;refine Qc (fun w'=>HLA.o w') ?_;refine Qp ?_;refine Qc (fun w'=>HLB.o w') ?_
   iterate 2 refine Qp ?_
   refine Qc (fun w'=>HMA.o w') ?_;refine Qp ?_;refine Qc (fun w'=>HMB.o w') ?_
   iterate 2 refine Qp ?_
   refine Qc (fun w'=>HOA.o w') ?_;refine Qp ?_;refine Qc (fun w'=>HOB.o w') ?_
   iterate 7 refine Qp ?_
   refine Qc (fun w'=>HN1.o w') ?_
   iterate 10 refine Qp ?_
   refine Qc (fun w'=>HN2.o w') ?_
   iterate 3 refine Qp ?_
   refine Qs (fun _ γ w'=>Blk w' g4 32 #[.I (min la lb),.I (max ma mb),.I cc,.string sp,.string ss]∧γ 1036=true) ?_ ?_ ?_
   ·exact Ph
   ·intro vals γ w' ρ hR hN hp hρ zs zg;have hk1036:=hN.o.key (k:=1036) Y17;have hb0:=HB4_3.o.keep (hR.o.kept0 (S:=fun b=>b=g4) fun b _ e m hm=>by
     rw [hm.1];exact hk1036)
    have HB0:=Hd hb0;have HK:=Hd hk1036;obtain ⟨q0,q1,q2,q3,q4⟩:=hb0.qs5;have qf:=hb0.frozen;have ql:=hb0.lt;clear hb0 hk1036;refine Qr ?_;refine ⟨γ.put 1036,EvA HK.o rfl rfl rfl Y1 (fun b hb hm=>((((((Only.refl g4 w').set 0 (.I (min la lb))).set 1 (.I (max ma mb))).set 2 (.I cc)).set 3 (.string sp)).set 4 (.string ss)).block b fun e=>hm (⟨rfl,e⟩)),LK.done Y17,?_,Y64⟩;exact Zg
   intro vals γ w9 hR hG;refine Qx ?_;obtain ⟨hb36,-⟩:=hG 36 Y17;have HB36N:=Hd hb36;clear hb36;have HXN:=Hd (show Ext w w9 from AX HX3.o (hR.buts (S:=fun b=>b=g4) (fun m b _ hm _=>hm.2)) (fun b hb=>by
    rw [hb];exact HG4.o))
   clear hR hG;obtain ⟨s0,s1,s2,s3,s4⟩:=HB36N.o.qs5;go_wp2;rw [HJ.o,if_neg Y3,if_neg Y3];exact bodyPost_ret (v:=.agg #[.I (min la lb),.I (max ma mb),.I cc,.string sp,.string ss]) (by simp [results,results81,go_sem,s0,s1,s2,s3,s4]) rfl ⟨rfl,HXN.o⟩
  ·obtain ⟨r0,r1,r2,r3,r4⟩:=HB4_3.o.qs5;have qf:=HB4_3.o.frozen;have ql:=HB4_3.o.lt
   go_wp2_with fail
   rw [HJ.o,if_neg Y3,if_pos trivial];refine bodyPost_ret (v:=(Sq a)) Y73 rfl ⟨rfl,?_⟩;exact St
 ·go_wp2_with fail
  refine (HEA.o _).mono ?_;rintro e1 w1 ⟨rfl,hx⟩;have HX1:=Hd (HX0.o.trans hx);have hb2:=HB2_0.o.keep (hx.kept _);have hb3:=HB3_0.o.keep (hx.kept _);have hb4:=HB4_0.o.keep (hx.kept _);obtain ⟨HB2_1,HB3_1,HB4_1⟩:=Hd3 hb2 hb3 hb4;clear q0 q1 q2 q3 q4 q5 q6 q7 q8 q9;obtain ⟨q0,q1,q2,q3,q4⟩:=hb2.qs5;obtain ⟨q5,q6,q7,q8,q9⟩:=hb3.qs5;clear hx hb2 hb3 hb4
  go_wp2_with fail
  refine (HEB.o _).mono ?_;rintro e2 w2 ⟨rfl,hx⟩;have HX2:=Hd (HX1.o.trans hx);have hb2:=HB2_1.o.keep (hx.kept _);have hb3:=HB3_1.o.keep (hx.kept _);have hb4:=HB4_1.o.keep (hx.kept _);obtain ⟨HB2_2,HB3_2,HB4_2⟩:=Hd3 hb2 hb3 hb4;clear q0 q1 q2 q3 q4 q5 q6 q7 q8 q9;obtain ⟨q0,q1,q2,q3,q4⟩:=hb2.qs5;obtain ⟨q5,q6,q7,q8,q9⟩:=hb3.qs5;clear hx hb2 hb3 hb4;cases b2
  ·go_wp2_with fail
   refine (HEA.o _).mono ?_;rintro e3 w3 ⟨rfl,hx⟩;have HX3:=Hd (HX2.o.trans hx);have hb2:=HB2_2.o.keep (hx.kept _);have hb3:=HB3_2.o.keep (hx.kept _);have hb4:=HB4_2.o.keep (hx.kept _);obtain ⟨HB2_3,HB3_3,HB4_3⟩:=Hd3 hb2 hb3 hb4;clear q0 q1 q2 q3 q4 q5 q6 q7 q8 q9;obtain ⟨q0,q1,q2,q3,q4⟩:=hb2.qs5;obtain ⟨q5,q6,q7,q8,q9⟩:=hb3.qs5;clear hx hb2 hb3 hb4;obtain ⟨r0,r1,r2,r3,r4⟩:=HB4_3.o.qs5;have qf:=HB4_3.o.frozen;have ql:=HB4_3.o.lt
   go_wp2_with fail
   rw [HJ.o,if_pos trivial,if_neg Y3];refine bodyPost_ret (v:=(Sq b)) Y73 rfl ⟨rfl,?_⟩;exact St
  ·go_wp2_with fail
   refine (HNO.o _).mono ?_;rintro e3 w3 ⟨rfl,hx⟩;have HX3:=Hd (HX2.o.trans hx);have hb2:=HB2_2.o.keep (hx.kept _);have hb3:=HB3_2.o.keep (hx.kept _);have hb4:=HB4_2.o.keep (hx.kept _);obtain ⟨HB2_3,HB3_3,HB4_3⟩:=Hd3 hb2 hb3 hb4;clear q0 q1 q2 q3 q4 q5 q6 q7 q8 q9;obtain ⟨q0,q1,q2,q3,q4⟩:=hb2.qs5;obtain ⟨q5,q6,q7,q8,q9⟩:=hb3.qs5;clear hx hb2 hb3 hb4;obtain ⟨r0,r1,r2,r3,r4⟩:=HB4_3.o.qs5;have qf:=HB4_3.o.frozen;have ql:=HB4_3.o.lt
   go_wp2_with fail
   rw [HJ.o,if_pos trivial,if_pos trivial];refine bodyPost_ret (v:=(Sq EwA)) Y73 rfl ⟨rfl,?_⟩;exact St

def PN(w w0:World)(g:Nat)(A':OA)(c':Nat)(D':OA)(e':Nat)(b:Bool)(r1 r:Abs)(e:Ending)(w':World):Prop :=
 e=.returned (.bool b)∧(∃ s,s=(if b=true then r1 else r)∧Blk w' g 39 (Ap s A' c' D' e'))∧Ext w0 w'∧w.heap.size≤w'.heap.size
theorem AtA(h:qP:=by
 go_wp2_with fail
 go_ret;exact ⟨by rw [HP.o];rfl,⟨_,by rw [HP.o];rfl,HBR2.o⟩,HX2.o,HZ2.o.size⟩):qP:=h
theorem Y74(h:qP:=by rw [hw1];exact (Ext.refl w).alloc _):qP:=h
theorem Y75(h:qP:=by rw [hw1,hg4];exact Blk.new _ _ _):qP:=h
theorem OH(a r:Abs)(A D A' D':OA)(c e c' e' g:Nat)(w w0:World)(hx:Ext w0 w)(hg:w0.heap.size≤g)(hb:Blk w g 39 (Ap r A' c' D' e'))(h1:a.tx.b.size≤1000000000)(h2:a.tx.e.size≤1000000000) :
  Cl 122 #[.pointer (some ⟨g,0,none⟩),(Aq a A c D e),.I 1] w (PN w w0 g A' c' D' e' (BQ a 1) (CY a 1 r) r):=by
 obtain ⟨w1,hw1⟩:=eqx (w.alloc (.cells (Ap a A c D e) 39));obtain ⟨g4,hg4⟩:=eqx w.heap.size;have hx1:Ext w w1:=Y74;have hba:Blk w1 g4 39 (Ap a A c D e):=Y75;obtain ⟨HBA1,HBR1,HX1,HW,HG,HGE,HZ1,HEM⟩:=Hd8 hba (hb.keep (hx1.kept _)) (hx.trans hx1) hw1 hg4 hg hx1 (fun w'=>BO a.tx Y4 Y4 w');have HP:=Hd (show BQ a 1 = !AI a.tx from rfl);obtain ⟨em,hem⟩:=eqx (AI a.tx);rw [←hem] at HEM HP;obtain ⟨j,hj⟩:=eqx (Aw a.tx a.tx);have HJ:=Hd (show ∀ w',Cl 81 #[(Sq a.tx),(Sq a.tx)] w' (Eg w' j) from fun w'=>by rw [hj];exact JT a.tx a.tx h1 h2 h1 h2 w');have HJJ:=Hd hj;clear hem hj hx hg hb hx1 hba hw1 hg4;have q1:=HBA1.o.q1;have q2:=HBA1.o.q2;have q3:=HBA1.o.q3;have q4:=HBA1.o.q4;have q5:=HBA1.o.q5;have r1:=HBR1.o.q1;have r2:=HBR1.o.q2;have r3:=HBR1.o.q3;have r4:=HBR1.o.q4;have r5:=HBR1.o.q5
 go_enter func122,ntmps122
 go_upto_region 3 with fail
 rw [←HW.o,←HG.o];cases em
 ·go_wp2_with fail
  refine (HEM.o _).mono ?_;rintro e2 w2 ⟨rfl,hx⟩;obtain ⟨HX2,HZ2,HBA2,HBR2⟩:=Hd4 (HX1.o.trans hx) (HZ1.o.trans hx) (HBA1.o.keep (hx.kept _)) (HBR1.o.keep (hx.kept _));clear hx q1 q2 q3 q4 q5 r1 r2 r3 r4 r5;have q1:=HBA2.o.q1;have q2:=HBA2.o.q2;have q3:=HBA2.o.q3;have q4:=HBA2.o.q4;have q5:=HBA2.o.q5;have r1:=HBR2.o.q1;have r2:=HBR2.o.q2;have r3:=HBR2.o.q3;have r4:=HBR2.o.q4;have r5:=HBR2.o.q5
  go_wp2_with fail
  refine (HJ.o _).mono ?_;rintro e3 w3 ⟨rfl,hx⟩;obtain ⟨HX3,HZ3,HBA3,HBR3⟩:=Hd4 (HX2.o.trans hx) (HZ2.o.trans hx) (HBA2.o.keep (hx.kept _)) (HBR2.o.keep (hx.kept _));clear hx q1 q2 q3 q4 q5 r1 r2 r3 r4 r5;have q1:=HBA3.o.q1;have q2:=HBA3.o.q2;have q3:=HBA3.o.q3;have q4:=HBA3.o.q4;have q5:=HBA3.o.q5;have r1:=HBR3.o.q1;have r2:=HBR3.o.q2;have r3:=HBR3.o.q3;have r4:=HBR3.o.q4;have r5:=HBR3.o.q5;have rf:=HBR3.o.frozen;have rl:=HBR3.o.lt
  go_wp2_with fail
  go_ret;refine ⟨by rw [HP.o];rfl,⟨_,rfl,?_⟩,?_,by have:=HZ3.o.size;simpa [World.setCell] using this⟩
  ·rw [HP.o];have hbb:=(((((HBR3.o.set 1 (.I j.least)).set 2 (.I j.most)).set 3 (.I j.cls)).set 4 (.string j.b)).set 5 (.string j.e))
   simpa [CY,←HJJ.o] using hbb
  ·iterate 5 with_reducible refine Ext.set2 ?_ HGE.o _
   with_reducible exact HX3.o
 ·go_wp2_with fail
  refine (HEM.o _).mono ?_;rintro e2 w2 ⟨rfl,hx⟩;obtain ⟨HX2,HZ2,HBA2,HBR2⟩:=Hd4 (HX1.o.trans hx) (HZ1.o.trans hx) (HBA1.o.keep (hx.kept _)) (HBR1.o.keep (hx.kept _));clear hx q1 q2 q3 q4 q5 r1 r2 r3 r4 r5;have q1:=HBA2.o.q1;have q2:=HBA2.o.q2;have q3:=HBA2.o.q3;have q4:=HBA2.o.q4;have q5:=HBA2.o.q5;have r1:=HBR2.o.q1;have r2:=HBR2.o.q2;have r3:=HBR2.o.q3;have r4:=HBR2.o.q4;have r5:=HBR2.o.q5;exact AtA
theorem OZ(a r:Abs)(A D A' D':OA)(c e c' e' g:Nat)(w w0:World)(hx:Ext w0 w)(hg:w0.heap.size≤g)(hb:Blk w g 39 (Ap r A' c' D' e'))(ht:Tens w0) :
  Cl 122 #[.pointer (some ⟨g,0,none⟩),(Aq a A c D e),.I 2] w (PN w w0 g A' c' D' e' (BQ a 2) (CY a 2 r) r):=by
 obtain ⟨w1,hw1⟩:=eqx (w.alloc (.cells (Ap a A c D e) 39));obtain ⟨g4,hg4⟩:=eqx w.heap.size;have hx1:Ext w w1:=Y74;have hba:Blk w1 g4 39 (Ap a A c D e):=Y75;obtain ⟨HBA1,HBR1,HX1,HW,HG,HGE,HZ1,HEM⟩:=Hd8 hba (hb.keep (hx1.kept _)) (hx.trans hx1) hw1 hg4 hg hx1 (show ∀ w',Ext w1 w'→Cl 156 #[(Rq a.nu)] w' (AO w' (Ah a.nu)) from fun w' hx'=>Bv a.nu w' (ht.ext ((hx.trans hx1).trans hx')));have HP:=Hd (show BQ a 2 = !Ah a.nu from rfl);obtain ⟨em,hem⟩:=eqx (Ah a.nu);rw [←hem] at HEM HP;obtain ⟨j,hj⟩:=eqx (Bm a.nu a.nu);have HJ:=Hd (show ∀ w',Ext w1 w'→Cl 82 #[(Rq a.nu),(Rq a.nu)] w' (DJ w' j) from fun w' hx'=>by rw [hj];exact GO a.nu a.nu w' (ht.ext ((hx.trans hx1).trans hx')));have HJJ:=Hd hj;clear hem hj ht hx hg hb hx1 hba hw1 hg4;have q6:=HBA1.o.q6;have q7:=HBA1.o.q7;have q8:=HBA1.o.q8;have q9:=HBA1.o.q9;have r6:=HBR1.o.q6;have r7:=HBR1.o.q7;have r8:=HBR1.o.q8;have r9:=HBR1.o.q9
 go_enter func122,ntmps122
 go_upto_region 7 with fail
 rw [←HW.o,←HG.o];cases em
 ·go_wp2_with fail
  refine (HEM.o _ (Ext.refl _)).mono ?_;rintro e2 w2 ⟨rfl,hx⟩;obtain ⟨HX2,HU2,HZ2,HBA2,HBR2⟩:=Hd5 (HX1.o.trans hx) hx (HZ1.o.trans hx) (HBA1.o.keep (hx.kept _)) (HBR1.o.keep (hx.kept _));clear hx q6 q7 q8 q9 r6 r7 r8 r9;have q6:=HBA2.o.q6;have q7:=HBA2.o.q7;have q8:=HBA2.o.q8;have q9:=HBA2.o.q9;have r6:=HBR2.o.q6;have r7:=HBR2.o.q7;have r8:=HBR2.o.q8;have r9:=HBR2.o.q9
  go_wp2_with fail
  refine (HJ.o _ HU2.o).mono ?_;rintro e3 w3 ⟨rfl,hx⟩;obtain ⟨HX3,HZ3,HBA3,HBR3⟩:=Hd4 (HX2.o.trans hx) (HZ2.o.trans hx) (HBA2.o.keep (hx.kept _)) (HBR2.o.keep (hx.kept _));clear hx q6 q7 q8 q9 r6 r7 r8 r9;have q6:=HBA3.o.q6;have q7:=HBA3.o.q7;have q8:=HBA3.o.q8;have q9:=HBA3.o.q9;have r6:=HBR3.o.q6;have r7:=HBR3.o.q7;have r8:=HBR3.o.q8;have r9:=HBR3.o.q9;have rf:=HBR3.o.frozen;have rl:=HBR3.o.lt
  go_wp2_with fail
  go_ret;refine ⟨by rw [HP.o];rfl,⟨_,rfl,?_⟩,?_,by have:=HZ3.o.size;simpa [World.setCell] using this⟩
  ·rw [HP.o];have hbb:=((((HBR3.o.set 6 (.I j.ln)).set 7 (.I j.ls)).set 8 (.I j.hn)).set 9 (.I j.hs))
   simpa [CY,←HJJ.o] using hbb
  ·iterate 4 with_reducible refine Ext.set2 ?_ HGE.o _
   with_reducible exact HX3.o
 ·go_wp2_with fail
  refine (HEM.o _ (Ext.refl _)).mono ?_;rintro e2 w2 ⟨rfl,hx⟩;obtain ⟨HX2,HU2,HZ2,HBA2,HBR2⟩:=Hd5 (HX1.o.trans hx) hx (HZ1.o.trans hx) (HBA1.o.keep (hx.kept _)) (HBR1.o.keep (hx.kept _));clear hx q6 q7 q8 q9 r6 r7 r8 r9;have q6:=HBA2.o.q6;have q7:=HBA2.o.q7;have q8:=HBA2.o.q8;have q9:=HBA2.o.q9;have r6:=HBR2.o.q6;have r7:=HBR2.o.q7;have r8:=HBR2.o.q8;have r9:=HBR2.o.q9;exact AtA
theorem ZV(h:qP:=by
 intro vals γ w' ρ hR hN hp hρ zs zg;have HR:=hR;have HN:=hN;refine Qr ?_;exact ⟨γ.put 4 (some w'.heap.size),LX.new Y17 (HN.o.2 Y17 ⟨5,Y17⟩) _ _,FGA,VarX.new HR.o.inb0 rfl (fun _ _ h=>h.elim)⟩):qP:=h
theorem BcA(h:qP:=by
 intro l γ w1 γ' w2 rr h
 match l,h with
 |[],_=>trivial
 |[_],_=>trivial
 |[p,q],h=>exact FJA rr h
 |_::_::_::_,_=>trivial):qP:=h
theorem CdA(h:qP:=by
 obtain ⟨HST,HK,HB⟩:=Hd3 hst hk hb;obtain ⟨q0,q1⟩:=hb.qs2;have qf:=hb.frozen;have ql:=hb.lt;clear hR hN hp hρ hst hk hb hv;go_light;go_simp;obtain ⟨g1,g2⟩:=HST.o _ #[.I d1,.I d2] (((Only.refl g w').set 0 (.I d1)).set 1 (.I d2)) ((HB.o.set 0 (.I d1)).set 1 (.I d2)) rfl;exact ⟨γ.put 4 none,g1,LM.done Y17 (.inl ⟨g,HK.o⟩),g2⟩):qP:=h
theorem B3A(h:qP:=by
 match cl,hcs with
 |[x0,x1],_ =>
  exact CdA):qP:=h
theorem Y76(h:qP:=by rw [HPT.o];rfl):qP:=h
theorem Ov(a r:Abs)(A D A' D':OA)(c e c' e' g:Nat)(w w0:World)(hx:Ext w0 w)(hg:w0.heap.size≤g)(hb:Blk w g 39 (Ap r A' c' D' e')) :
  Cl 122 #[.pointer (some ⟨g,0,none⟩),(Aq a A c D e),.I 3] w (PN w w0 g A' c' D' e' (BQ a 3) (CY a 3 r) r):=by
 obtain ⟨w1,hw1⟩:=eqx (w.alloc (.cells (Ap a A c D e) 39));obtain ⟨g4,hg4⟩:=eqx w.heap.size;have hx1:Ext w w1:=Y74;have hba:Blk w1 g4 39 (Ap a A c D e):=Y75;obtain ⟨HBA1,HBR1,HX1,HW,HG,HGE,HZ1,HAL⟩:=Hd8 hba (hb.keep (hx1.kept _)) (hx.trans hx1) hw1 hg4 hg hx1 (show ∀ w',Cl 64 #[] w' (Bk w' (0,3652058)) from FE);obtain ⟨d1,hd1⟩:=eqx ((B3 a).1);obtain ⟨d2,hd2⟩:=eqx ((B3 a).2);obtain ⟨HP,HPP,HMS,k0,k1⟩:=Hd5 (show BQ a 3=decide (d1≤d2) by rw [hd1,hd2];rfl) (show CY a 3 r = { r with dl:=d1,dh:=d2 } by rw [hd1,hd2];rfl) (show ∀ w',Cl 89 #[.agg #[.I a.dl,.I a.dh],.agg #[.I 0,.I 3652058]] w' (Bk w' (d1,d2)) from fun w'=>by rw [show (d1,d2)=Bj (a.dl,a.dh) (0,3652058) by rw [hd1,hd2];rfl];exact CO _ _ _ _ w') (hba.q10) (hba.q11);clear hx hg hb hx1 hba hw1 hg4 hd1 hd2
 go_enter func122,ntmps122
 go_upto_region 11 with fail
 rw [←HW.o,←HG.o];refine Qb (fun|5=>[4,5]|i=>[i]) (fun _ _=>False) [(5,[4])] ?_
 iterate 2 refine Qp ?_
 refine Qc (x:=.agg #[.I 0,.I 3652058]) (fun w'=>HAL.o w') ?_;refine Qc (x:=.agg #[.I d1,.I d2]) (fun w'=>HMS.o w') ?_;refine Qs (FP (VarX (fun _ _=>False) 4 36 2)) (EuA E3A) ?_ ?_
 ·exact ZV
 refine Chain.step (fun vl γ w'=>match vl with|[p,_]=>VarXI (fun _ _=>False) 36 p #[.I d1,.I d2] γ w'|_=>True) Y41 ?_ ?_ ?_
 ·exact BcA
 ·intro vals γ w' ρ hR hN hp hρ hc hf hg;refine ⟨rfl,?_⟩;have e44:ρ (.tmp 44)=_:=(hρ 44).trans (hp 3 Y17);obtain ⟨g,⟨cl⟩,hv,hcs,hb,hk,hst⟩:=E1A (hp 4 Y17) (s:=5) (l:=[(5,[4])]) Y17 hN;have e7:=(hρ 7).trans hv;exact B3A
 intro vals γ w9 hR hG;obtain ⟨g5,v4,hb5,-,-⟩:=hG 5 Y17;refine Qx ?_;simp only [v4];have HX9:=Hd (show Ext w1 w9 from hR.ext0 (fun _ _ h=>h.elim));have HB5:=Hd hb5;clear hR hG hb5 v4;obtain ⟨HX2,HBR2,HZ2⟩:=Hd3 (HX1.o.trans HX9.o) (HBR1.o.keep (HX9.o.kept _)) (HZ1.o.trans HX9.o);obtain ⟨s0,s1⟩:=HB5.o.qs2;have r10:=HBR2.o.q10;have r11:=HBR2.o.q11;by_cases hle:d1≤d2
 ·have hle2:¬d2<d1:=Y4;have HPT:=Hd (show BQ a 3=true by rw [HP.o,decide_eq_true hle]);have rf:=HBR2.o.frozen;have rl:=HBR2.o.lt
  go_wp2_with fail
  go_ret;refine ⟨Y76,⟨_,rfl,?_⟩,?_,by have:=HZ2.o.size;simpa [World.setCell] using this⟩
  ·rw [HPT.o,HPP.o];have hbb:=(HBR2.o.set 10 (.I d1)).set 11 (.I d2)
   simpa using hbb
  ·iterate 2 with_reducible refine Ext.set2 ?_ HGE.o _
   with_reducible exact HX2.o
 ·have hle2:d2<d1:=Y4;have HPT:=Hd (show BQ a 3=false by rw [HP.o,decide_eq_false hle])
  go_wp2_with fail
  go_ret;exact ⟨Y76,⟨_,Y76,HBR2.o⟩,HX2.o,HZ2.o.size⟩
theorem OL(a r:Abs)(A D A' D':OA)(c e c' e' g:Nat)(w w0:World)(hx:Ext w0 w)(hg:w0.heap.size≤g)(hb:Blk w g 39 (Ap r A' c' D' e'))(hbo:r.bo=0) :
  Cl 122 #[.pointer (some ⟨g,0,none⟩),(Aq a A c D e),.I 4] w (PN w w0 g A' c' D' e' (BQ a 4) (CY a 4 r) r):=by
 obtain ⟨w1,hw1⟩:=eqx (w.alloc (.cells (Ap a A c D e) 39));obtain ⟨g4,hg4⟩:=eqx w.heap.size;have hx1:Ext w w1:=Y74;have hba:Blk w1 g4 39 (Ap a A c D e):=Y75;obtain ⟨HBA1,HBR1,HX1,HW,HG,HGE,HZ1⟩:=Hd7 hba (hb.keep (hx1.kept _)) (hx.trans hx1) hw1 hg4 hg hx1;obtain ⟨j,hj⟩:=eqx (boI a);obtain ⟨HP,HPP,HBO⟩:=Hd3 (show BQ a 4=decide (j≠0) by rw [hj];rfl) (show CY a 4 r = { r with bo:=j } by rw [hj];rfl) hbo;have hjj:bits .and .i64 a.bo 3=j:=hj.symm;clear hx hg hb hx1 hba hw1 hg4 hj hbo;have q12:=HBA1.o.q12;have r12:=HBR1.o.q12;have rf:=HBR1.o.frozen;have rl:=HBR1.o.lt;by_cases hz:j=0
 ·have HPT:=Hd (show BQ a 4=false by rw [HP.o,hz];rfl)
  go_enter func122,ntmps122
  go_upto_region 16 with fail
  rw [←HW.o,←HG.o]
  go_wp2_with fail
  go_ret;refine ⟨by rw [HPT.o];simp [hz],⟨r,Y76,?_⟩,Ext.set2 HX1.o HGE.o _,by have:=HZ1.o.size;simpa [World.setCell] using this⟩;have hbb:=HBR1.o.set 12 (.I 0);have hbo:=HBO.o
  simpa [hbo,hz] using hbb
 ·have HPT:=Hd (show BQ a 4=true by rw [HP.o,decide_eq_true hz])
  go_enter func122,ntmps122
  go_upto_region 16 with fail
  rw [←HW.o,←HG.o]
  go_wp2_with fail
  go_ret;refine ⟨by rw [HPT.o];simp [hz],⟨CY a 4 r,Y76,?_⟩,Ext.set2 HX1.o HGE.o _,by have:=HZ1.o.size;simpa [World.setCell] using this⟩;rw [HPP.o];have hbb:=HBR1.o.set 12 (.I j)
  simpa using hbb

theorem B8A(h:qP:=by
 go_enter func226,ntmps226
 exact Z44):qP:=h
theorem I0(s:BA)(hs:s.size≤4294967296)(w:World):Cl 226 #[.string s] w (SameB w (BC s)):=by
 by_cases hs0:s.size<1
 ·have HF:=Hd (show BC s=false by unfold BC;rw [decide_eq_false Y4];rfl);have hs1:(s.size:Int)<1:=Y4;clear hs0;exact B8A
 by_cases hs20:20<s.size
 ·have HF:=Hd (show BC s=false by unfold BC;rw [decide_eq_false Y4];rfl);have hs1:¬(s.size:Int)<1:=Y4;have hs2:20<(s.size:Int):=Y4;clear hs0 hs20;exact B8A
 have hs1:¬(s.size:Int)<1:=Y4;have hs2:¬20<(s.size:Int):=Y4
 go_enter func226,ntmps226
 go_wp2
 go_loop [16] (fun i=>∃ k:Nat,k≤s.size∧i=.I k∧∀ j (h:j<s.size),j<k→DU j (s[j].toNat:Int)=true) (fun i=>s.size-(intOf i).toNat)
 case atStart=>exact ⟨0,AE,rfl,Y8⟩
 case round =>
  obtain ⟨k,hk,rfl,hall⟩:=hrel;have HA:=Hd hall;clear hall;by_cases hlt:k<s.size
  ·exact Yh
  ·have HF:=Hd (show BC s=true by rw [Ku (s:=s) (fun j h=>HA.o j h Y4)];simp;omega);exact Z44
theorem B7A(h:qP:=by
 by_cases hjk:j=k
 ·subst hjk;exact HM.o
 ·exact HA.o j h Y4):qP:=h
theorem EMA(h:qP:=by
 refine ⟨k+1,Y4,Y5,fun j h hj => ?_⟩;exact B7A):qP:=h
theorem BjA(h:qP:=by
 go_wp2_with fail
 go_round
 case rel =>
  exact EMA
 case measure=>simp [intOf];omega):qP:=h
theorem Hi(A:OA)(c:Nat)(l:List BA)(w:World)(S:NP)(h:Strs w S A l):Cl 182 #[.slice A l.length c] w (SameB w (l.all BC)):=by
 have hn:=h.2.1;have H:=Hd h;clear h
 go_enter func182,ntmps182
 go_wp2
 go_loop [7] (fun i=>∃ k:Nat,k≤l.length∧i=.I k∧∀ j (h:j<l.length),j<k→BC l[j]=true) (fun i=>l.length-(intOf i).toNat)
 case atStart=>exact ⟨0,AE,rfl,Y8⟩
 case round =>
  obtain ⟨k,hk,rfl,hall⟩:=hrel;have HA:=Hd hall;clear hall;by_cases hlt:k<l.length
  ·obtain ⟨b1,o1,rfl,z1,c1⟩:=H.o.at_ hlt;have HC:=Hd (fun w'=>I0 l[k] (H.o.sz hlt) w');cases hm:BC l[k]
   ·rw [hm] at HC;have HF:=Hd (show l.all BC=false from Bg l BC k hlt hm);clear hm
    go_wp2_with fail
    refine (HC.o _).mono ?_;rintro e w' ⟨rfl,rfl⟩
    go_wp2_with fail
    exact Z45
   ·rw [hm] at HC;have HM:=Hd hm;clear hm
    go_wp2_with fail
    refine (HC.o _).mono ?_;rintro e w' ⟨rfl,rfl⟩;exact BjA
  ·have HF:=Hd (show l.all BC=true from BX l BC (fun j h=>HA.o j h Y4));exact Z44

theorem Hb(x y:BA)(w:World):Cl 181 #[.string x,.string y] w (SameB w (decide (x=y))):=by
 have HE:=Hd (BH x y)
 go_enter func181,ntmps181
 go_wp2;go_ret;exact ⟨by rw [←HE.o];rfl,rfl⟩
theorem ME(x y:BA)(g g2:Nat)(w:World)(hb:w.cell? ⟨g,0,none⟩=some (.func (.func 181) #[] #[]))(hb2:w.cell? ⟨g2,0,none⟩=some (.string x)) :
  Cl 225 #[.string y,.pointer (some ⟨g,0,none⟩),.pointer (some ⟨g2,0,none⟩)] w (SameB w (decide (x=y))):=by
 have HC:=Hd (Hb x y w)
 go_enter func225,ntmps225
 go_wp2_with fail
 refine HC.o.mono ?_;rintro e w' ⟨rfl,rfl⟩;exact CLA
theorem Gm(l:List BA)(x:BA)(A:OA)(c g g2:Nat)(w:World)(S:NP)(hl:Strs w S A l)(hb:w.cell? ⟨g,0,none⟩=some (.func (.func 181) #[] #[]))(hb2:w.cell? ⟨g2,0,none⟩=some (.string x)) :
  Cl 259 #[.slice A l.length c,.func (.func 225) #[] #[.pointer (some ⟨g,0,none⟩),.pointer (some ⟨g2,0,none⟩)]] w (BK w (Ee (fun y=>decide (x=y)) l)):=by
 have hn:=hl.2.1;have HC:=Hd (fun y=>ME x y g g2 w hb hb2);clear hb hb2
 go_enter func259,ntmps259
 go_wp2
 go_loop [8] (fun i=>∃ k:Nat,k≤l.length∧i=.I k∧∀ j (h:j<l.length),j<k→(fun y=>decide (x=y)) l[j]=false) (fun i=>l.length-(intOf i).toNat)
 case atStart=>exact ⟨0,AE,rfl,Y8⟩
 case round =>
  obtain ⟨k,hk,rfl,hall⟩:=hrel;have HA:=Hd hall;clear hall;by_cases hlt:k<l.length
  ·obtain ⟨b1,o1,rfl,z1,c1⟩:=hl.at_ hlt;cases hm:decide (x=l[k])
   ·have HM:=Hd hm;clear hm
    go_wp2_with fail
    refine (HC.o _).mono ?_;rintro e w' ⟨rfl,rfl⟩;rw [HM.o];exact BjA
   ·have HM:=Hd hm;clear hm
    go_wp2_with fail
    refine (HC.o _).mono ?_;rintro e w' ⟨rfl,rfl⟩;rw [HM.o]
    go_wp2_with fail
    go_ret;exact ⟨by rw [C7 hlt HA.o HM.o];rfl,rfl⟩
  ·exact Z99
theorem Fg(l:List BA)(x:BA)(A:OA)(c g g2:Nat)(w:World)(S:NP)(hl:Strs w S A l)(hb:w.cell? ⟨g,0,none⟩=some (.func (.func 181) #[] #[]))(hb2:w.cell? ⟨g2,0,none⟩=some (.string x)) :
  Cl 224 #[.slice A l.length c,.func (.func 225) #[] #[.pointer (some ⟨g,0,none⟩),.pointer (some ⟨g2,0,none⟩)]] w (SameB w (AZ l x)):=by
 have HC:=Hd (Gm l x A c g g2 w S hl hb hb2);have HI:=Hd (show (l.any fun y=>decide (x=y))=AZ l x by rw [Bool.eq_iff_iff,List.any_eq_true,AV];exact ⟨fun ⟨y,h1,h2⟩=>by rw [of_decide_eq_true h2];exact h1,fun h=>⟨x,h,decide_eq_true rfl⟩⟩);clear hb hb2 hl
 go_enter func224,ntmps224
 go_wp2_with fail
 refine HC.o.mono ?_;rintro e w' ⟨rfl,rfl⟩
 go_wp2_with fail
 go_ret;exact ⟨by rw [←HI.o,←Ec];rfl,rfl⟩
theorem J9{α:Type} [DecidableEq α](l:List α)(k:Nat)(hk:k<l.length):ddp (l.take (k+1))=if l[k]∈ddp (l.take k) then ddp (l.take k) else ddp (l.take k)++[l[k]]:=by
 rw [List.take_add_one,List.getElem?_eq_getElem hk,Option.toList_some,Fn]
theorem Wr(h:qP:=by
 refine Eo (P:=fun l=>(ddp l).length≤l.length) (by simp [ddp]) (fun l x ih => ?_) l;rw [Fn];split<;>simp<;>omega):qP:=h
theorem EK{α:Type} [DecidableEq α](l:List α):(ddp l).length≤l.length:=by
 exact Wr
def Uc(w:World)(l:List BA)(e:Ending)(w':World):Prop:=∃ A c,e=.returned (.slice A l.length c)∧l.length≤c∧OwnSs w' w.heap.size A c l∧Ext w w'
theorem Y77(h:qP:=by rw [HT.o];rfl):qP:=h
theorem Gj(l:List BA)(A:OA)(c:Nat)(w:World)(S:NP)(hA:Strs w S A l)(hl:l.length≤1000000) :
  Cl 180 #[.slice A l.length c,.func (.func 181) #[] #[]] w (Uc w (ddp l)):=by
 obtain ⟨HA,HB0,HX0⟩:=Hd3 hA (Blk.new w 130 #[.func (.func 181) #[] #[]]) ((Ext.refl w).alloc (.cells #[.func (.func 181) #[] #[]] 130));clear hA
 go_enter func180,ntmps180
 go_wp2
 go_loopw [10,5] (fun i v wr=>∃ (m:Nat) (A':OA) (c':Nat),m≤l.length∧i=.I m∧v=.slice A' (ddp (l.take m)).length c'∧Ext (w.alloc (.cells #[.func (.func 181) #[] #[]] 130)) wr∧OwnSs wr (w.heap.size+1) A' c' (ddp (l.take m))) (fun i _ _=>l.length-(intOf i).toNat)
 case atStart=>exact ⟨0,none,0,AE,rfl,rfl,Ext.refl _,OwnSs.nil _ _⟩
 case round =>
  obtain ⟨m,A',c',hm,rfl,rfl,hext,hown⟩:=hrel;have HE:=Hd hext;have HO:=Hd hown;clear hown;by_cases hlt:m<l.length
  ·obtain ⟨b1,o1,rfl,z1,c1⟩:=((HA.o.keep (HX0.o.kept S)).keep (hext.kept S)).at_ hlt;have hw0:wr.cell? ⟨w.heap.size,0,none⟩=some (.func (.func 181) #[] #[]):=hext.cell (HB0.o.cell rfl);obtain ⟨w1,hw1⟩:=eqx (wr.alloc (.cells #[.string l[m]] 9));have hx1:Ext wr w1:=(by rw [hw1];exact (Ext.refl wr).alloc _);have hown:=HO.o.ext hx1;have hst:=hown.strs (T:=fun _=>True) (by have:=EK (l.take m);rw [List.length_take] at this;omega) (fun _ _=>trivial);obtain ⟨HC,HT,HX1⟩:=Hd3 (Fg (ddp (l.take m)) l[m] A' c' w.heap.size wr.heap.size _ _ hst (hx1.cell hw0) ((show Blk w1 wr.heap.size 9 #[.string l[m]] by rw [hw1];exact Blk.new _ _ _).cell rfl)) (J9 l m hlt) hx1;have hszx:=hx1.size;have hbx:=(show Blk w1 wr.heap.size 9 #[.string l[m]] by rw [hw1];exact Blk.new _ _ _).q0;have HW1:=Hd hw1;have hln:=EK (l.take m);rw [List.length_take] at hln;have hsz:=HE.o.size;have hsz0:(w.alloc (.cells #[.func (.func 181) #[] #[]] 130)).heap.size=w.heap.size+1:=Y3;have hown0:=(hown.ext ((Ext.refl _).alloc (.cells #[.string l[m]] 9))).1;have HOWN:=Hd hown0;have hsl:=HA.o.sz hlt;clear hw0 hx1 hown hst hown0 hw1
   go_upto_region 5 with fail
   rw [←HW1.o];cases hd:AZ (ddp (l.take m)) l[m]
   ·have hn:¬l[m]∈ddp (l.take m):=fun h=>by rw [(AV _ _).2 h] at hd;cases hd
    rw [hd] at HC;rw [if_neg hn] at HT;clear hd hn
    go_wp2_with fail
    refine HC.o.mono ?_;rintro e w' ⟨rfl,rfl⟩
    go_wp2_with (at_builtin;go_must (refine AC rfl (.tmp 18) (.tmp 20) rfl tiS rfl HOWN.o rfl (Blk.rd (Blk.new _ _ _)) rfl Y18 Y4 Y17 Y16 ?_);intro A4 c4 w4 hown4 hg4 hat4)
    go_roundw
    case rel =>
     refine ⟨m+1,A4,c4,Y4,Y5,by rw [HT.o,List.length_append];rfl,Ext.grown ((HE.o.trans HX1.o).alloc _) hg4 (fun b hb=>Y32),?_,fun s hs => ?_⟩
     ·rw [HT.o,List.length_append,List.map_append];exact hown4
     ·rw [HT.o] at hs
      rcases List.mem_append.1 hs with hs|hs
      ·exact HO.o.2 s hs
      ·rw [List.mem_singleton.1 hs];exact hsl
    case measure=>simp [intOf];omega
   ·have hn:l[m]∈ddp (l.take m):=(AV _ _).1 hd;rw [hd] at HC;rw [if_pos hn] at HT;clear hd hn
    go_wp2_with fail
    refine HC.o.mono ?_;rintro e w' ⟨rfl,rfl⟩
    go_wp2_with fail
    go_roundw
    case rel =>
     refine ⟨m+1,A',c',Y4,Y5,by rw [HT.o],HE.o.trans HX1.o,?_⟩;rw [HT.o];exact HO.o.ext HX1.o
    case measure=>simp [intOf];omega
  ·obtain rfl:m=l.length:=Y4;have ho:=HO.o;rw [List.take_length] at ho;have HO2:=Hd ho;have HT:=Hd (show l.take l.length=l from List.take_length);clear ho hext;go_wp2;go_ret;exact ⟨A',c',Y77,Own.cap HO2.o.1,⟨Own.lower HO2.o.1 (Nat.le_succ _),HO2.o.2⟩,HX0.o.trans HE.o⟩

theorem KK(x y:Dep)(A B:OA)(ca cb g g2:Nat)(w:World)(S T:NP)(hb:w.cell? ⟨g,0,none⟩=some (.func (.func 185) #[] #[]))(hb2:w.cell? ⟨g2,0,none⟩=some (.slice B x.frm.length cb))(hb3:w.cell? ⟨g2,1,none⟩=some (.string x.to))(hx:Strs w S B x.frm)(hy:Strs w T A y.frm) :
  Cl 230 #[.agg #[.slice A y.frm.length ca,.string y.to],.pointer (some ⟨g,0,none⟩),.pointer (some ⟨g2,0,none⟩)] w (AO w (decide (x=y))):=by
 have hx0:=(Ext.refl w).alloc (.cells #[.slice A y.frm.length ca,.string y.to] 69);have HC:=Hd (IM x y B A cb ca _ S T (hx.keep (hx0.kept S)) (hy.keep (hx0.kept T)));have k1:=hx0.cell hb;have k2:=hx0.cell hb2;have k3:=hx0.cell hb3;have hbl:=Blk.new w 69 #[.slice A y.frm.length ca,.string y.to];obtain ⟨k4,k5⟩:=hbl.qs2;have HX0:=Hd hx0;clear hx0 hb hb2 hb3 hbl
 go_enter func230,ntmps230
 go_wp2_with fail
 refine HC.o.mono ?_;rintro e w' ⟨rfl,hx⟩;have HX:=Hd (HX0.o.trans hx);clear hx
 go_wp2_with fail
 go_ret;exact ⟨rfl,HX.o⟩
theorem Gf(l:List Dep)(x:Dep)(A B:OA)(c cb g g2:Nat)(w:World)(S T:NP)(hl:RDeps w S A l)(hb:w.cell? ⟨g,0,none⟩=some (.func (.func 185) #[] #[]))(hb2:w.cell? ⟨g2,0,none⟩=some (.slice B x.frm.length cb))(hb3:w.cell? ⟨g2,1,none⟩=some (.string x.to))(hx:Strs w T B x.frm) :
  Cl 271 #[.slice A l.length c,.func (.func 230) #[] #[.pointer (some ⟨g,0,none⟩),.pointer (some ⟨g2,0,none⟩)]] w (CD w (Ee (fun y=>decide (x=y)) l)):=by
 have hn:=hl.1;obtain ⟨HL,HB,HB2,HB3,HXX⟩:=Hd5 hl hb hb2 hb3 hx;clear hl hb hb2 hb3 hx
 go_enter func271,ntmps271
 go_wp2
 go_loopw [8] (fun i wr=>∃ k:Nat,k≤l.length∧i=.I k∧Ext w wr∧∀ j (h:j<l.length),j<k→(fun y=>decide (x=y)) l[j]=false) (fun i _=>l.length-(intOf i).toNat)
 case atStart=>exact ⟨0,AE,rfl,Ext.refl _,Y8⟩
 case round =>
  obtain ⟨k,hk,rfl,hext,hall⟩:=hrel;have HA:=Hd hall;have HE:=Hd hext;clear hall;by_cases hlt:k<l.length
  ·obtain ⟨b1,o1,B2,c2,rfl,z1,c1,c3,h4,h5,h6⟩:=(HL.o.keep (hext.kept S)).at_ hlt;have HC:=Hd (KK x l[k] B2 B c2 cb g g2 wr T S (hext.cell HB.o) (hext.cell HB2.o) (hext.cell HB3.o) (HXX.o.keep (hext.kept T)) h6);clear hext h6;cases hm:decide (x=l[k])
   ·rw [hm] at HC;have HM:=Hd hm;clear hm
    go_wp2_with fail
    refine HC.o.mono ?_;rintro e w' ⟨rfl,hx⟩;have HX:=Hd (HE.o.trans hx);clear hx
    go_wp2_with fail
    go_roundw
    case rel =>
     refine ⟨k+1,Y4,Y5,HX.o,fun j h hj => ?_⟩;exact B7A
    case measure=>simp [intOf];omega
   ·rw [hm] at HC;have HM:=Hd hm;clear hm
    go_wp2_with fail
    refine HC.o.mono ?_;rintro e w' ⟨rfl,hx⟩;have HX:=Hd (HE.o.trans hx);clear hx
    go_wp2_with fail
    go_ret;exact ⟨by rw [C7 hlt HA.o HM.o];rfl,HX.o⟩
  ·clear hext;go_wp2;go_ret;exact ⟨by rw [EN (fun j hj=>HA.o j hj Y4)];rfl,HE.o⟩
theorem Fe(l:List Dep)(x:Dep)(A B:OA)(c cb g g2:Nat)(w:World)(S T:NP)(hl:RDeps w S A l)(hb:w.cell? ⟨g,0,none⟩=some (.func (.func 185) #[] #[]))(hb2:w.cell? ⟨g2,0,none⟩=some (.slice B x.frm.length cb))(hb3:w.cell? ⟨g2,1,none⟩=some (.string x.to))(hx:Strs w T B x.frm) :
  Cl 229 #[.slice A l.length c,.func (.func 230) #[] #[.pointer (some ⟨g,0,none⟩),.pointer (some ⟨g2,0,none⟩)]] w (AO w (decide (x∈l))):=by
 have HC:=Hd (Gf l x A B c cb g g2 w S T hl hb hb2 hb3 hx);have HI:=Hd (show (l.any fun y=>decide (x=y))=decide (x∈l) by rw [Bool.eq_iff_iff,List.any_eq_true,decide_eq_true_eq];exact ⟨fun ⟨y,h1,h2⟩=>by rw [of_decide_eq_true h2];exact h1,fun h=>⟨x,h,decide_eq_true rfl⟩⟩);clear hb hb2 hl hb3 hx
 go_enter func229,ntmps229
 go_wp2_with fail
 refine HC.o.mono ?_;rintro e w' ⟨rfl,hx⟩;have HX:=Hd hx;clear hx
 go_wp2_with fail
 go_ret;exact ⟨by rw [←HI.o,←Ec];rfl,HX.o⟩
theorem OwnDs.lower{w:World}{base base' c:Nat}{X:NP}{A:OA}{l:List Dep}(h:OwnDs w base X A c l)(hb:base'≤base):OwnDs w base' X A c l:=by
 obtain ⟨hs,h1,h2⟩:=h;exact ⟨hs,h1.lower hb,h2⟩
def Fx(w:World)(S:NP)(l:List Dep)(e:Ending)(w':World):Prop:=∃ A c,e=.returned (.slice A l.length c)∧l.length≤c∧OwnDs w' w.heap.size S A c l∧Ext w w'
theorem Gp(l:List Dep)(A:OA)(c:Nat)(w:World)(S:NP)(hA:RDeps w S A l)(hl:l.length≤1000000) :
  Cl 184 #[.slice A l.length c,.func (.func 185) #[] #[]] w (Fx w S (ddp l)):=by
 obtain ⟨HA,HB0,HX0⟩:=Hd3 (hA.mono (T:=fun b=>S b∧b<w.heap.size) fun i hi hs=>⟨hs,hi⟩) (Blk.new w 89 #[.func (.func 185) #[] #[]]) ((Ext.refl w).alloc (.cells #[.func (.func 185) #[] #[]] 89));clear hA
 go_enter func184,ntmps184
 go_wp2
 go_loopw [10,5] (fun i v wr=>∃ (m:Nat) (A':OA) (c':Nat),m≤l.length∧i=.I m∧v=.slice A' (ddp (l.take m)).length c'∧Ext (w.alloc (.cells #[.func (.func 185) #[] #[]] 89)) wr∧OwnDs wr (w.heap.size+1) (fun b=>S b∧b<w.heap.size) A' c' (ddp (l.take m))) (fun i _ _=>l.length-(intOf i).toNat)
 case atStart=>exact ⟨0,none,0,AE,rfl,rfl,Ext.refl _,OwnDs.nil _ _ _⟩
 case round =>
  obtain ⟨m,A',c',hm,rfl,rfl,hext,hown⟩:=hrel;have HE:=Hd hext;have HO:=Hd hown;clear hown;by_cases hlt:m<l.length
  ·obtain ⟨b1,o1,B2,c2,rfl,z1,c1,c3,h4,h5,h6⟩:=((HA.o.keep (HX0.o.kept _)).keep (hext.kept _)).at_ hlt;have hw0:wr.cell? ⟨w.heap.size,0,none⟩=some (.func (.func 185) #[] #[]):=hext.cell (HB0.o.cell rfl);obtain ⟨w1,hw1⟩:=eqx (wr.alloc (.cells #[.slice B2 l[m].frm.length c2,.string l[m].to] 69));have hx1:Ext wr w1:=(by rw [hw1];exact (Ext.refl wr).alloc _);have hown:=HO.o.ext hx1;have hln:=EK (l.take m);rw [List.length_take] at hln;have hbx:Blk w1 wr.heap.size 69 #[.slice B2 l[m].frm.length c2,.string l[m].to]:=(by rw [hw1];exact Blk.new _ _ _);have HW1:=Hd hw1;have hst:=hown.rdeps (T:=fun _=>True) Y4 (fun _ _=>trivial) (fun _ _=>trivial);obtain ⟨HC,HT,HX1⟩:=Hd3 (Fe (ddp (l.take m)) l[m] A' B2 c' c2 w.heap.size wr.heap.size _ _ _ hst (hx1.cell hw0) (hbx.q0) (hbx.q1) (h6.keep (hx1.kept _))) (J9 l m hlt) hx1;have hszx:=hx1.size;have HBX:=Hd hbx;have H6:=Hd h6;obtain ⟨q0,q1⟩:=hbx.qs2;have hsz:=HE.o.size;have hsz0:(w.alloc (.cells #[.func (.func 185) #[] #[]] 89)).heap.size=w.heap.size+1:=Y3;clear hw0 hx1 hown hst hbx h6 hw1
   go_upto_region 5 with fail
   rw [←HW1.o];cases hd:decide (l[m]∈ddp (l.take m))
   ·have hn:¬l[m]∈ddp (l.take m):=of_decide_eq_false hd;rw [hd] at HC;rw [if_neg hn] at HT;clear hd hn
    go_wp2_with fail
    refine HC.o.mono ?_;rintro e w' ⟨rfl,hx⟩;have HX:=Hd (HX1.o.trans hx);have hszy:=hx.size;have q2:=hx.cell q0;have q3:=hx.cell q1;obtain ⟨hs9,hhs9,ho9,hv9⟩:=((HO.o.ext HX.o).ext ((Ext.refl _).alloc (.cells #[.slice B2 l[m].frm.length c2,.string l[m].to] 69))).add;obtain ⟨HOWN,HV,HHS⟩:=Hd3 ho9 hv9 hhs9;clear ho9 hv9 hhs9 hx q0 q1
    go_wp2_with (at_builtin;go_must (refine AC rfl (.tmp 18) (.tmp 20) rfl tiD rfl HOWN.o rfl (Blk.rd (Blk.new _ _ _)) rfl Y18 Y4 Y17 Y16 ?_);intro A4 c4 w4 hown4 hg4 hat4)
    go_roundw
    case rel =>
     refine ⟨m+1,A4,c4,Y4,Y5,by rw [HT.o,List.length_append];rfl,Ext.grown ((HE.o.trans HX.o).alloc _) hg4 (fun b hb=>Y32),?_⟩;rw [HT.o];refine OwnDs.push HHS.o HV.o hown4 hg4 hat4 h4 h5 (((H6.o.keep (HX.o.kept _)).keep (Kept.alloc _ _ _)).mono fun i _ hi=>⟨fun e => ?_,hi⟩);have:=(HO.o.blk e).1;have:=hi.2;omega
    case measure=>simp [intOf];omega
   ·have hn:l[m]∈ddp (l.take m):=of_decide_eq_true hd;rw [hd] at HC;rw [if_pos hn] at HT;clear hd hn
    go_wp2_with fail
    refine HC.o.mono ?_;rintro e w' ⟨rfl,hx⟩;have HX:=Hd (HX1.o.trans hx);have hszy:=hx.size;clear hx
    go_wp2_with fail
    go_roundw
    case rel =>
     refine ⟨m+1,A',c',Y4,Y5,by rw [HT.o],HE.o.trans HX.o,?_⟩;rw [HT.o];exact HO.o.ext HX.o
    case measure=>simp [intOf];omega
  ·obtain rfl:m=l.length:=Y4;have ho:=HO.o;rw [List.take_length] at ho;obtain ⟨HO2,HT,HC⟩:=Hd3 ho (show l.take l.length=l from List.take_length) (show (ddp l).length≤c' by obtain ⟨hs,_,h1,_⟩:=ho.add;exact h1.cap);clear ho hext;go_wp2;go_ret;exact ⟨A',c',Y77,HC.o,(HO2.o.lower (Nat.le_succ _)).mono fun _ _ h=>h.1,HX0.o.trans HE.o⟩
end Go.Proofs.YtidacnalcdhckaaGreatDoor
