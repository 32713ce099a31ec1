/- Lemmas. No conditions. -/
import Derived.Test.YtidacnalcdhckaaGreatDoorYq28
import Derived.Sort.Walk0
import Derived.Deep.DeepCutAuto
set_option maxRecDepth 100000
set_option maxHeartbeats 4000000
namespace Go.Proofs.YtidacnalcdhckaaGreatDoor
open Go Go.RowKit Tryz
variable {qP:Prop}

theorem Lh(h:qP:=by
 go_wp2_with fail
 go_ret;exact ⟨by rw [HF.o];rfl,HX1.o.trans HX3.o⟩):qP:=h
theorem TK(h:qP:=by
 iterate 6 refine Qn ?_
 refine Qp ?_;intro vals γ w9 hR hG;refine Qx ?_;have HX3:=Hd (show Ext w1 w9 from hR.ext0 (λ_ _ _ h=>h.elim));clear hR hG;exact Lh):qP:=h
theorem W6(a b:Sh)(h1:a.b.size<=1000000000)(h2:a.e.size<=1000000000)(h3:b.b.size<=1000000000)(h4:b.e.size<=1000000000)(w:World):Cl 92 #[(Sq a),(Sq b)] w (Ae w (Dr a b)):=by
 obtain ⟨w0,hw0⟩:=eqx ((w.alloc (.cells (Sp a) 32)).alloc (.cells (Sp b) 32));have hx0:Ext w w0:=Bh;have hb2:Blk w0 w.heap.size 32 (Sp a):=(by rw [hw0];exact (Blk.new _ _ _).keep ((exaa _).kept _));have O:Blk w0 (w.heap.size+1) 32 (Sp b):=(by rw [hw0];exact H6A _ _ _ _);obtain ⟨g2,hg2⟩:=eqx w.heap.size;obtain ⟨g3,hg3⟩:=eqx (w.heap.size+1);rw [<-hg2] at hb2;rw [<-hg3] at O;obtain ⟨la,hla⟩:=eqx (AQ a);obtain ⟨lb,hlb⟩:=eqx (AQ b);obtain ⟨ma,hma⟩:=eqx (BE a);obtain ⟨mb,hmb⟩:=eqx (BE b);obtain ⟨oa,hoa⟩:=eqx (BL a);obtain ⟨Y,hob⟩:=eqx (BL b);obtain ⟨a8,Z,HMA,HMB,HOA,HOB,HAM,HEA⟩:=Hd8 (show ∀ w',Cl 151 #[(Sq a)] w' (DG w' la) from λw'=>by rw [hla];exact Df a w') (show ∀ w',Cl 151 #[(Sq b)] w' (DG w' lb) from λw'=>by rw [hlb];exact Df b w') (show ∀ w',Cl 152 #[(Sq a)] w' (DG w' ma) from λw'=>by rw [hma];exact Ed a w') (show ∀ w',Cl 152 #[(Sq b)] w' (DG w' mb) from λw'=>by rw [hmb];exact Ed b w') (show ∀ w',Cl 153 #[(Sq a)] w' (DG w' oa) from λw'=>by rw [hoa];exact FD a w') (show ∀ w',Cl 153 #[(Sq b)] w' (DG w' Y) from λw'=>by rw [hob];exact FD b w') (λw'=>Fp oa Y w') (λw'=>Bz a AA AA w');obtain ⟨U,HP,HS,HJ⟩:=Hd4 (λw'=>Bz b AA AA w') (λw'=>Fe a.b b.b w') (λw'=>Fh a.e b.e AA w') (show Dr a b=(AT a||(!AT b&&decide (lb<=la)&&decide (ma<=mb)&&CM oa Y&&EA b.b a.b&&EB b.e a.e)) from by rw [hla,hlb,hma,hmb,hoa,hob];rfl);generalize AT a=ea at *;generalize AT b=eb at *;generalize CM oa Y=am at *;generalize EA b.b a.b=pp at *;generalize EB b.e a.e=sf at *;obtain ⟨HX0,HW0,HE2,HE3,HB2,HB3⟩:=Hd6 hx0 hw0 hg2 hg3 hb2 O;obtain ⟨q0,q1,q2,q3,q4⟩:=hb2.qs5;clear hx0 hw0 hb2 O hg2 hg3 hla hlb hma hmb hoa hob
 go_enter func92,ntmps92
 go_upto_region 1 with fail
 rw [<-HW0.o,<-HE3.o,<-HE2.o]
 go_wp2_with fail
 refine (HEA.o _).mono ?_;rintro e1 w1 ⟨rfl,hx1⟩;have HX1:=Hd (HX0.o.trans hx1);have hb2:=HB2.o.keep (hx1.kept _);have O:=HB3.o.keep (hx1.kept _);obtain ⟨k0,k1,k2,k3,k4,k5,k6,k7⟩:=Hd8 (hb2.q0) (hb2.q1) (hb2.q2) (hb2.q3) (hb2.q4) (O.q0) (O.q1) (O.q2);have k8:=Hd (O.q3);have k9:=Hd (O.q4);clear hx1 hb2 O q0 q1 q2 q3 q4;cases ea
 case' true =>
  have HF:=Hd (show Dr a b=true by rw [HJ.o];rfl)
  go_wp2_with fail
  go_ret;exact ⟨BB,HX1.o⟩
 go_upto_region 3 with fail
 cases eb
 case' true =>
  have HF:=Hd (show Dr a b=false by rw [HJ.o];rfl);refine Qa (λ_ _=>False) [] ?_;refine Qp ?_;refine Qc (λw'=>U.o w') ?_;refine Qp ?_
  iterate 5 refine Qn ?_
  iterate 2 refine Qp ?_
  iterate 5 refine Qn ?_
  iterate 2 refine Qp ?_
  iterate 6 refine Qn ?_
  refine Qp ?_;intro vals γ w9 hR hG;refine Qx ?_;have HX3:=Hd (show Ext w1 w9 from hR.ext0 (λ_ _ _ h=>h.elim));clear hR hG
  go_wp2_with fail
  go_ret;exact ⟨BB,HX1.o.trans HX3.o⟩
 by_cases c1:la<lb
 ·have HF:=Hd (show Dr a b=false by rw [HJ.o,show decide (lb<=la)=false from decide_eq_false AA];rfl);refine Qa (λ_ _=>False) [] ?_;refine Qp ?_;refine Qc (λw'=>U.o w') ?_
  iterate 2 refine Qp ?_
  refine Qc (λw'=>a8.o w') ?_;refine Qp ?_;refine Qc (λw'=>Z.o w') ?_
  iterate 3 refine Qp ?_
  iterate 5 refine Qn ?_
  iterate 2 refine Qp ?_
  exact TK
 by_cases c2:mb<ma
 ·have HF:=Hd (show Dr a b=false by rw [HJ.o,show decide (ma<=mb)=false from decide_eq_false AA,Bool.and_false];rfl);refine Qa (λ_ _=>False) [] ?_;refine Qp ?_;refine Qc (λw'=>U.o w') ?_
  iterate 2 refine Qp ?_
  refine Qc (λw'=>a8.o w') ?_;refine Qp ?_;refine Qc (λw'=>Z.o w') ?_
  iterate 4 refine Qp ?_
  refine Qc (λw'=>HMA.o w') ?_;refine Qp ?_;refine Qc (λw'=>HMB.o w') ?_
  iterate 3 refine Qp ?_
  exact TK
 have HJ2:=Hd (show Dr a b=(am&&pp&&sf) by rw [HJ.o,show decide (lb<=la)=true from decide_eq_true AA,show decide (ma<=mb)=true from decide_eq_true AA];rfl);cases am
 case' false =>
  have HF:=Hd (show Dr a b=false by rw [HJ2.o];rfl);refine Qa (λ_ _=>False) [] ?_;refine Qp ?_;refine Qc (λw'=>U.o w') ?_
  iterate 2 refine Qp ?_
  refine Qc (λw'=>a8.o w') ?_;refine Qp ?_;refine Qc (λw'=>Z.o w') ?_
  iterate 4 refine Qp ?_
  refine Qc (λw'=>HMA.o w') ?_;refine Qp ?_;refine Qc (λw'=>HMB.o w') ?_
  iterate 4 refine Qp ?_
  refine Qc (λw'=>HOA.o w') ?_;refine Qp ?_;refine Qc (λw'=>HOB.o w') ?_;refine Qc (λw'=>HAM.o w') ?_
  iterate 2 refine Qp ?_
  intro vals γ w9 hR hG;refine Qx ?_;have HX3:=Hd (show Ext w1 w9 from hR.ext0 (λ_ _ _ h=>h.elim));clear hR hG
  go_wp2_with fail
  go_ret;exact ⟨BB,HX1.o.trans HX3.o⟩
 refine Qa (λ_ _=>False) [] ?_;refine Qp ?_;refine Qc (λw'=>U.o w') ?_
 iterate 2 refine Qp ?_
 refine Qc (λw'=>a8.o w') ?_;refine Qp ?_;refine Qc (λw'=>Z.o w') ?_
 iterate 4 refine Qp ?_
 refine Qc (λw'=>HMA.o w') ?_;refine Qp ?_;refine Qc (λw'=>HMB.o w') ?_
 iterate 4 refine Qp ?_
 refine Qc (λw'=>HOA.o w') ?_;refine Qp ?_;refine Qc (λw'=>HOB.o w') ?_;refine Qc (λw'=>HAM.o w') ?_
 iterate 2 refine Qp ?_
 intro vals γ w9 hR hG;refine Qx ?_;have HX3:=Hd (show Ext w1 w9 from hR.ext0 (λ_ _ _ h=>h.elim));clear hR hG;have HF:=Hd (show Dr a b=(pp&&sf) by rw [HJ2.o];rfl);have m0:=HX3.o.cell k0.o;have m1:=HX3.o.cell k1.o;have m2:=HX3.o.cell k2.o;have m3:=HX3.o.cell k3.o;have m4:=HX3.o.cell k4.o;have m5:=HX3.o.cell k5.o;have m6:=HX3.o.cell k6.o;have m7:=HX3.o.cell k7.o;have m8:=HX3.o.cell k8.o;have m9:=HX3.o.cell k9.o
 go_wp2_with fail
 refine (HP.o _).mono ?_;rintro e2 w2 ⟨rfl,rfl⟩;cases pp
 ·exact Lh
 ·go_wp2_with fail
  refine (HS.o _).mono ?_;rintro e3 w3 ⟨rfl,rfl⟩;exact Lh

def HVA(n:Nat)(v:Value):Prop:=∃ (A:OA) (c:Nat),v=.slice A n c
noncomputable def EpA (a b:Abs):Bool:=decide (b.rl<=a.rl/\a.rh<=b.rh)&&b.cols.all (Aw a.cols)&&decide ((DK b.deps a).length=b.deps.length)
theorem T7(h:qP:=by
 have hxx:=hR.o.ext0 (λ_ _ _ h=>h.elim);have m0:w'.cell? ⟨g3,16,none⟩=some (.slice E b.deps.length eb):=(HB3.o.keep (hxx.kept _)).q16;clear hxx;exact Qk):qP:=h
theorem Jv(a b:Abs)(A D B E:OA)(c e cb eb:Nat)(w:World)(S:NP)(hA:Strs w S A a.cols)(hD:RDeps w S D a.deps)(hB:Strs w S B b.cols)(hE:RDeps w S E b.deps)(hz:AbN 50000 a)(hy:AbN 50000 b) :
  Cl 95 #[(Aq a A c D e),(Aq b B cb E eb)] w (Ae w (EpA a b)):=by
 obtain ⟨w0,hw0⟩:=eqx ((w.alloc (.cells (Ap a A c D e) 39)).alloc (.cells (Ap b B cb E eb) 39));obtain ⟨g2,hg2⟩:=eqx w.heap.size;obtain ⟨g3,hg3⟩:=eqx (w.heap.size+1);have hx0:Ext w w0:=Bh;have hb2:Blk w0 g2 39 (Ap a A c D e):=Gr;have O:Blk w0 g3 39 (Ap b B cb E eb):=FW;obtain ⟨d5,HG2,HG3,HX0,HB2,HB3,HA,b8⟩:=Hd8 hw0 hg2 hg3 hx0 hb2 O (hA.keep (hx0.kept _)) (hB.keep (hx0.kept _));obtain ⟨U,Z⟩:=eqx ((DK b.deps a).length);have a8:=Hd (show ∀ w',Ext w0 w'->Cl 86 #[.slice E b.deps.length eb,(Aq a A c D e)] w' (λen w''=>∃ A3 c3,en=.returned (.slice A3 U c3)/\U<=c3/\True/\Ext w' w'') from λw' hw'=>by
  rw [Z];exact (EZ b.deps a E A D eb c e w' S S (hE.keep ((hx0.trans hw').kept _)) (hA.keep ((hx0.trans hw').kept _)) (hD.keep ((hx0.trans hw').kept _)) hz (by have:=hy.2.2.2.1;omega) hy.2.2.2.2).mono λen w'' h=>by
   obtain ⟨A3,c3,h1,h2,h3,h4⟩:=h;exact ⟨A3,c3,h1,h2,trivial,h4⟩)
 have HF:=Hd (show EpA a b=(decide (b.rl<=a.rl)&&decide (a.rh<=b.rh)&&b.cols.all (Aw a.cols)&&decide (U=b.deps.length)) by unfold EpA;rw [Z,Bool.decide_and]);obtain ⟨sp,Y⟩:=eqx (decide (b.rl<=a.rl)&&decide (a.rh<=b.rh));have b9:=Hd (show ∀ w',Cl 94 #[.agg #[.I a.rl,.I a.rh],.agg #[.I b.rl,.I b.rh]] w' (Ae w' sp) from λw'=>by rw [Y];exact JU _ _ _ _ w');rw [<-Y] at HF;have hbl:=hB.2.1;have k0:=hb2.q13;have k1:=hb2.q14;have k2:=O.q13;have k3:=O.q14;clear hw0 hg2 hg3 hx0 hb2 O hA hD hB hE Z Y
 go_enter func95,ntmps95
 go_upto_region 1 with fail
 rw [<-d5.o,<-HG3.o,<-HG2.o]
 go_wp2_with fail
 refine (b9.o _).mono ?_;rintro e1 w1 ⟨rfl,hx1⟩;have HX1:=Hd hx1;clear hx1 k0 k1 k2 k3;cases sp
 ·go_wp2;go_ret;exact ⟨BB,HX0.o.trans HX1.o⟩
 have d4:=Hd (HA.o.keep (HX1.o.kept _));have HB1:=Hd (b8.o.keep (HX1.o.kept _));have q15:w1.cell? ⟨g3,15,none⟩=some (.slice B b.cols.length cb):=(HB3.o.keep (HX1.o.kept _)).q15;have b7:w1.cell? ⟨g2,15,none⟩=some (.slice A a.cols.length c):=(HB2.o.keep (HX1.o.kept _)).q15;go_wp2
 go_loopw [16] (λi wr=>∃ k:Nat,k<=b.cols.length/\i=.I k/\w1=wr/\∀ m (h:m<b.cols.length),m<k->Aw a.cols b.cols[m]=true) (λi _=>b.cols.length-(intOf i).toNat)
 case atStart=>exact ⟨0,AN,rfl,rfl,AK⟩
 case round =>
  obtain ⟨k,hk,rfl,rfl,hall⟩:=hrel;have HAL:=Hd hall;clear hall;by_cases hlt:k<b.cols.length
  ·obtain ⟨b2,o2,he2,z2,c2⟩:=HB1.o.at_ hlt;subst he2;have d3:=Hd (Bu A c a.cols b.cols[k] w1 _ d4.o)
   go_wp2_with fail
   refine d3.o.mono ?_;rintro e4 w4 ⟨rfl,rfl⟩;cases hoj:Aw a.cols b.cols[k]
   ·have HN:=Hd (show b.cols.all (Aw a.cols)=false from CX b.cols (Aw a.cols) k hlt hoj);clear hoj;go_wp2;go_ret;exact ⟨by rw [HF.o,HN.o];simp,HX0.o.trans HX1.o⟩
   ·have b6:=Hd hoj;clear hoj;go_wp2;go_roundw
    case rel =>
     refine ⟨k+1,AA,AE,by first|rfl|trivial,λm h hm => ?_⟩;by_cases hmj:m=k
     ·subst hmj;exact b6.o
     ·exact HAL.o m h AA
    case measure=>simp [intOf];omega
  ·have HN:=Hd (show b.cols.all (Aw a.cols)=true from CH b.cols (Aw a.cols) λm h=>HAL.o m h AA);have b5:=Hd (HX0.o.trans HX1.o);clear q15 b7;have b3:=HB2;have b0:=HB3;have a9:=a8;obtain ⟨w0',b4⟩:=eqx w1;obtain ⟨HB2,HB3,a8⟩:=Hd3 (b3.o.keep (HX1.o.kept _)) (b0.o.keep (HX1.o.kept _)) (λw' (hw':Ext w1 w')=>a9.o w' (HX1.o.trans hw'));clear b3 b0 a9 b4
   go_upto_region 9 with fail
   refine Qa (λ_ _=>False) [] ?_;refine Qp ?_;refine Qm (λvals γ w' ρ hR hN hp hρ zs zg=>by
    exact T7) ?_
   refine Qy HB2 AS AH ?_;refine Qs (FP λv γ w'=>HVA U v) (H1A ?_) ?_ ?_
   ·intro v γ w1 γ' w2 r h;exact h
   ·intro vals γ w' ρ hR hN hp hρ zs zg;have HR:=hR;have hxx:=hR.o.ext0 (λ_ _ _ h=>h.elim);have HXW:=Hd hxx;clear hxx;refine Qr ?_;refine (a8.o w' HXW.o).mono ?_;rintro e1 w3 ⟨A3,c3,he,hc,ho,hx⟩;exact ⟨_,he,γ,H4A _ γ hx,λ_ _ _ h=>h,A3,c3,rfl⟩
   refine Qm (λvals γ w' ρ hR hN hp hρ zs zg=>by
    obtain ⟨A3,c3,hv3⟩:=hp.o 3 AB;have e29:=(hρ.o 29).trans hv3;exact Qk) ?_
   refine Qp ?_;refine Qm (λvals γ w' ρ hR hN hp hρ zs zg=>by
    exact T7) ?_
   iterate 3 refine Qp ?_
   intro vals γ w9 hR hG;refine Qx ?_;have HXN:=Hd (show Ext w1 w9 from hR.ext0 (λ_ _ _ h=>h.elim));clear hR hG;go_wp2;go_ret;refine ⟨?_,b5.o.trans HXN.o⟩;rw [HF.o,HN.o];have hd:((U:Int)==(b.deps.length:Int))=decide (U=b.deps.length):=(by rw [Bool.eq_iff_iff,beq_iff_eq,decide_eq_true_eq];omega);rw [hd];rfl
theorem GHA(am1 e1 e2 b1 s1 b2 i1 b3 d1 am2 b5 tw:Bool):(am1&&(!e1||e2)&&(!b1||s1)&&(!b2||i1)&&(!b3||d1)&&am2&&(!b5||tw))=(!(!am1||(e1&&!e2))&&!(b1&&!s1)&&!(b2&&!i1)&&!(b3&&!d1)&&!(!am2)&&(!b5||tw)):=by
 cases am1<;>cases e1<;>cases e2<;>simp
theorem VP(h:qP:=by
 clear h0;go_wp2
 go_meet
 case rel=>exact ⟨by rw [HDx5.o,HDN.o];rfl,HX13.o⟩):qP:=h
theorem AY(h:qP:=by simp [execOp,go_sem]):qP:=h
theorem Fs(a b:Abs)(A D B E:OA)(c e cb eb:Nat)(w:World)(S:NP)(hA:Strs w S A a.cols)(hD:RDeps w S D a.deps)(hB:Strs w S B b.cols)(hE:RDeps w S E b.deps)(ht:Tens w)(hz:AbN 20000 a)(hy:AbN 20000 b) :
  Cl 32 #[(Aq a A c D e),(Aq b B cb E eb)] w (Ae w (KA a b)):=by
 obtain ⟨w0,hw0⟩:=eqx ((w.alloc (.cells (Ap a A c D e) 39)).alloc (.cells (Ap b B cb E eb) 39));obtain ⟨g2,hg2⟩:=eqx w.heap.size;obtain ⟨g3,hg3⟩:=eqx (w.heap.size+1);obtain ⟨N,hN⟩:=eqx (w.heap.size+2);have hx0:Ext w w0:=Bh;have hb2:Blk w0 g2 39 (Ap a A c D e):=Gr;have b4:Blk w0 g3 39 (Ap b B cb E eb):=FW;have hs0:w0.heap.size=w.heap.size+2:=GM;obtain ⟨HW0,HG2,HG3,HX0,HB2,HB3,HNN,HGG⟩:=Hd8 hw0 hg2 hg3 hx0 hb2 b4 (show N=w0.heap.size by omega) (show w.heap.size=g2/\g3=g2+1/\N=g2+2 by omega);obtain ⟨Ta,hTa⟩:∃ z:Nat->Prop,z=λb=>S b/\b<w.heap.size:=⟨_,rfl⟩;have HTL:=Hd (show ∀ b,Ta b->b<w.heap.size from λb hb=>JP);have HTA:=Hd hTa;have XNO:=Hd (show ∀ m b,(Ta b\/N<=b)->¬((m=1004/\b=g2)\/(m=1005/\b=g3)) from λm b hb hm=>by
  exact IS)
 have hA1:=hA.mono (T:=Ta) λi hi hs=>BV;have hD1:=hD.mono (T:=Ta) λi hi hs=>BV;have hB1:=hB.mono (T:=Ta) λi hi hs=>BV;have hE1:=hE.mono (T:=Ta) λi hi hs=>BV;obtain ⟨ca,hca⟩:=eqx (AX a);obtain ⟨cb',hcb⟩:=eqx (AX b);obtain ⟨HCA,HCB,HZA,HZB,HT,HAC,HBC⟩:=Hd7 (show ∀ w',Ext w0 w'->Cl 47 #[(Aq a A c D e)] w' (Eh w' Ta ca) from λw' hw'=>Kn) (show ∀ w',Ext w0 w'->Cl 47 #[(Aq b B cb E eb)] w' (Eh w' Ta cb') from λw' hw'=>Kf) (show AbN 20000 ca by rw [hca];exact hz.can) (show AbN 20000 cb' by rw [hcb];exact hy.can) ht hca hcb;clear hw0 hg2 hg3 hN hx0 hb2 b4 hs0 hTa hA hD hB hE hA1 hD1 hB1 hE1 hca hcb ht hz hy
 go_enter func32,ntmps32
 go_upto_region 1 with fail
 rw [<-HW0.o,<-HG3.o,<-HG2.o];refine Qa (λm b=>(m=1004/\b=g2)\/(m=1005/\b=g3)) [(0,[1004,1005]),(1,[1004,1005]),(2,[1005]),(3,[1004,1005]),(4,[1004,1005]),(5,[1005])] ?_;apply H9A (LZ.refl _) AG
 ·exact LA
 ·rfl
 refine Qs (FP λv γ w'=>JoP N Ta ca v w') (H1A ?_) ?_ ?_
 ·exact FA
 ·exact Ls
 apply H9A (LZ.refl _) AG
 ·exact Km
 ·rfl
 refine Qs (FP λv γ w'=>JoP N Ta cb' v w') (H1A ?_) ?_ ?_
 ·exact FA
 ·exact Mh
 refine Chain.step (λ_ γ w'=>JoB g2 N Ta ca w'/\γ 1004=true) AG ?_ ?_ ?_
 ·exact Ku
 ·exact RQ
 refine Chain.step (λ_ γ w'=>JoB g3 N Ta cb' w'/\γ 1005=true) AG ?_ ?_ ?_
 ·exact LJ
 ·exact PA
 intro vals γ w9 hR hG;obtain ⟨⟨A2,c2,D2,e2,hb29,hab2⟩,-⟩:=hG 4 AB;obtain ⟨⟨A3,c3,D3,e3,hb39,hab3⟩,-⟩:=hG 5 AB;obtain ⟨Y,a9,HAB2,HAB3,HX9,HSZ9⟩:=Hd6 hb29 hb39 hab2 hab3 (show Ext w w9 from Au HX0.o (hR.buts (S:=λb=>b=g2\/b=g3) (λm b _ hm _=>hm.imp And.right And.right)) (λb hb=>DB)) (show N<=w9.heap.size by have:=hR.size;have e0:w0.drew.heap.size=w0.heap.size:=rfl;have:=HNN.o;omega);refine Qx ?_;clear hR hG hb29 hb39 hab2 hab3;have b6:=Hd (Ext.refl w9);obtain ⟨n1,hn1⟩:=eqx (bits .andNot .i64 ca.kinds cb'.kinds);obtain ⟨n2,hn2⟩:=eqx (bits .andNot .i64 ca.bo cb'.bo);have hor1:bits .andNot .i64 ca.kinds cb'.kinds=n1:=hn1.symm;have hor2:bits .andNot .i64 ca.bo cb'.bo=n2:=hn2.symm;obtain ⟨b1,hb1⟩:=eqx (bt ca.kinds 1);obtain ⟨b2,hb2⟩:=eqx (bt ca.kinds 2);obtain ⟨b3,b4⟩:=eqx (bt ca.kinds 3);obtain ⟨b5,hb5⟩:=eqx (bt ca.kinds 5);obtain ⟨s1,hs1⟩:=eqx (Dr ca.tx cb'.tx);obtain ⟨i1,hi1⟩:=eqx (F5 ca.nu cb'.nu);obtain ⟨d1,hd1⟩:=eqx (decide (cb'.dl<=ca.dl)&&decide (ca.dh<=cb'.dh));obtain ⟨tw,htw⟩:=eqx (EpA ca cb');obtain ⟨x1,hx1⟩:=eqx (!decide (n1=0)||(ca.errs&&!cb'.errs));obtain ⟨x2,hx2⟩:=eqx (b1&&!s1);obtain ⟨x3,hx3⟩:=eqx (b2&&!i1);obtain ⟨x4,hx4⟩:=eqx (b3&&!d1);obtain ⟨x5,hx5⟩:=eqx (!decide (n2=0));have HF:=Hd (show KA a b=(!x1&&!x2&&!x3&&!x4&&!x5&&(!b5||tw)) by
  unfold KA XB;rw [<-HAC.o,<-HBC.o,hx1,hx2,hx3,hx4,hx5,hs1,hi1,hd1,htw,hb1,hb2,b4,hb5,hn1,hn2,<-Bool.decide_and];exact GHA _ _ _ _ _ _ _ _ _ _ _ _)
 obtain ⟨HDx1,HDx2,HDx3,HDx4,HDx5,Hb1,Hb2,Hb3⟩:=Hd8 hx1 hx2 hx3 hx4 hx5 (show ∀ w',Cl 84 #[(Aq ca A2 c2 D2 e2),.I 1] w' (Ae w' b1) from λw'=>by rw [hb1];exact BI ca A2 D2 c2 e2 1 AA w') (show ∀ w',Cl 84 #[(Aq ca A2 c2 D2 e2),.I 2] w' (Ae w' b2) from λw'=>by rw [hb2];exact BI ca A2 D2 c2 e2 2 AA w') (show ∀ w',Cl 84 #[(Aq ca A2 c2 D2 e2),.I 3] w' (Ae w' b3) from λw'=>by rw [b4];exact BI ca A2 D2 c2 e2 3 AA w');have Hb5:=Hd (show ∀ w',Cl 84 #[(Aq ca A2 c2 D2 e2),.I 5] w' (Ae w' b5) from λw'=>by rw [hb5];exact BI ca A2 D2 c2 e2 5 AA w');have hza:=HZA.o;have hzb:=HZB.o;obtain ⟨HWS,HWI,HWD⟩:=Hd3 (show ∀ w',Cl 92 #[(Sq ca.tx),(Sq cb'.tx)] w' (Ae w' s1) from λw'=>by rw [hs1];exact W6 ca.tx cb'.tx hza.1 hza.2.1 hzb.1 hzb.2.1 w') (show ∀ w',Ext w9 w'->Cl 93 #[(Rq ca.nu),(Rq cb'.nu)] w' (Ae w' i1) from λw' hw'=>by rw [hi1];exact OE ca.nu cb'.nu w' (HT.o.ext (HX9.o.trans hw'))) (show ∀ w',Cl 94 #[.agg #[.I ca.dl,.I ca.dh],.agg #[.I cb'.dl,.I cb'.dh]] w' (Ae w' d1) from λw'=>by rw [hd1];exact JU _ _ _ _ w');have HTW:=Hd (show ∀ w',Ext w9 w'->Cl 95 #[(Aq ca A2 c2 D2 e2),(Aq cb' A3 c3 D3 e3)] w' (Ae w' tw) from λw' hw'=>by
  rw [htw];have h2:=HAB2.o.keep (hw'.kept _);have h3:=HAB3.o.keep (hw'.kept _);exact Jv ca cb' A2 D2 A3 D3 c2 e2 c3 e3 w' _ h2.2.2.1 h2.2.2.2 h3.2.2.1 h3.2.2.2 (hza.mono AB) (hzb.mono AB))
 clear hn1 hn2 hb1 hb2 b4 hb5 hs1 hi1 hd1 htw hx1 hx2 hx3 hx4 hx5 hza hzb
 go_upto_region 2 with fail
 go_cut [23] (λv wx=>v=.bool x1/\Ext w9 wx)
 case first =>
  have O:=Y.o.keep (b6.o.kept _);have hbb:=a9.o.keep (b6.o.kept _);have m0:w9.cell? ⟨g2,0,none⟩=some (.I ca.kinds):=O.q0;have n0:w9.cell? ⟨g3,0,none⟩=some (.I cb'.kinds):=hbb.q0;have m17:w9.cell? ⟨g2,17,none⟩=some (.bool ca.errs):=O.q17;have n17:w9.cell? ⟨g3,17,none⟩=some (.bool cb'.errs):=hbb.q17;clear O hbb;obtain ⟨ea,hea⟩:=eqx ca.errs;obtain ⟨ec,hec⟩:=eqx cb'.errs;rw [<-hea] at m17;rw [<-hec] at n17;rw [<-hea,<-hec] at HDx1;clear hea hec;by_cases h0:n1=0
  ·have hd0:(n1 != 0)=false:=Ce;have HDN:=Hd (show decide (n1=0)=true by simp [h0]);clear h0;cases ea<;>cases ec
   all_goals
    go_wp2
    go_meet
    case rel=>exact ⟨by rw [HDx1.o,HDN.o];rfl,b6.o⟩
  ·have hd0:(n1 != 0)=true:=Ce;have HDN:=Hd (show decide (n1=0)=false by simp [h0]);clear h0;go_wp2
   go_meet
   case rel=>exact ⟨by rw [HDx1.o,HDN.o];rfl,b6.o⟩
 case rest =>
 obtain ⟨w10,rfl⟩:=eqx wc;obtain ⟨rfl,U⟩:=hcut;have HX10:=Hd U;clear U;cases x1
 case true =>
  go_wp2;go_ret;exact ⟨ER,HX9.o.trans HX10.o⟩
 go_upto_region 4 with fail
 go_cut [33] (λv wx=>v=.bool x2/\Ext w9 wx)
 case first =>
  refine wp_region_lit ?_;refine AJ rfl 39 _ rfl g2 rfl (Y.o.keep (HX10.o.kept _)) AS AH ?_
  go_wp2_with fail
  refine (Hb1.o _).mono ?_;rintro ee wz ⟨rfl,Z⟩;have HXZ:=Hd (HX10.o.trans Z);clear Z;cases b1
  ·go_wp2
   go_meet
   case rel=>exact ⟨by rw [HDx2.o];rfl,HXZ.o⟩
  ·have O:=Y.o.keep (HXZ.o.kept _);have hbb:=a9.o.keep (HXZ.o.kept _);have m1:=O.q1;have n1:=hbb.q1;have m2:=O.q2;have n2:=hbb.q2;have m3:=O.q3;have n3:=hbb.q3;have m4:=O.q4;have n4:=hbb.q4;have m5:=O.q5;have n5:=hbb.q5;clear O hbb
   go_wp2_with fail
   refine (HWS.o _).mono ?_;rintro ee wy ⟨rfl,a8⟩;have b0:=Hd (HXZ.o.trans a8);clear a8;cases s1
   all_goals
    go_wp2
    go_meet
    case rel=>exact ⟨by rw [HDx2.o];rfl,b0.o⟩
 case rest =>
 obtain ⟨w11,rfl⟩:=eqx wc;obtain ⟨rfl,U⟩:=hcut;have HX11:=Hd U;clear U;cases x2
 case true =>
  go_wp2;go_ret;exact ⟨ER,HX9.o.trans HX11.o⟩
 go_upto_region 6 with fail
 go_cut [43] (λv wx=>v=.bool x3/\Ext w9 wx)
 case first =>
  refine wp_region_lit ?_;refine AJ rfl 39 _ rfl g2 rfl (Y.o.keep (HX11.o.kept _)) AS AH ?_
  go_wp2_with fail
  refine (Hb2.o _).mono ?_;rintro ee wz ⟨rfl,Z⟩;have HXZ:=Hd (HX11.o.trans Z);clear Z;cases b2
  ·go_wp2
   go_meet
   case rel=>exact ⟨by rw [HDx3.o];rfl,HXZ.o⟩
  ·have O:=Y.o.keep (HXZ.o.kept _);have hbb:=a9.o.keep (HXZ.o.kept _);have m6:=O.q6;have n6:=hbb.q6;have m7:=O.q7;have n7:=hbb.q7;have m8:=O.q8;have n8:=hbb.q8;have m9:=O.q9;have n9:=hbb.q9;clear O hbb
   go_wp2_with fail
   refine (HWI.o _ HXZ.o).mono ?_;rintro ee wy ⟨rfl,a8⟩;have b0:=Hd (HXZ.o.trans a8);clear a8;cases i1
   all_goals
    go_wp2
    go_meet
    case rel=>exact ⟨by rw [HDx3.o];rfl,b0.o⟩
 case rest =>
 obtain ⟨w12,rfl⟩:=eqx wc;obtain ⟨rfl,U⟩:=hcut;have HX12:=Hd U;clear U;cases x3
 case true =>
  go_wp2;go_ret;exact ⟨ER,HX9.o.trans HX12.o⟩
 go_upto_region 8 with fail
 go_cut [53] (λv wx=>v=.bool x4/\Ext w9 wx)
 case first =>
  refine wp_region_lit ?_;refine AJ rfl 39 _ rfl g2 rfl (Y.o.keep (HX12.o.kept _)) AS AH ?_
  go_wp2_with fail
  refine (Hb3.o _).mono ?_;rintro ee wz ⟨rfl,Z⟩;have HXZ:=Hd (HX12.o.trans Z);clear Z;cases b3
  ·go_wp2
   go_meet
   case rel=>exact ⟨by rw [HDx4.o];rfl,HXZ.o⟩
  ·have O:=Y.o.keep (HXZ.o.kept _);have hbb:=a9.o.keep (HXZ.o.kept _);have m10:=O.q10;have n10:=hbb.q10;have m11:=O.q11;have n11:=hbb.q11;clear O hbb
   go_wp2_with fail
   refine (HWD.o _).mono ?_;rintro ee wy ⟨rfl,a8⟩;have b0:=Hd (HXZ.o.trans a8);clear a8;cases d1
   all_goals
    go_wp2
    go_meet
    case rel=>exact ⟨by rw [HDx4.o];rfl,b0.o⟩
 case rest =>
 obtain ⟨w13,rfl⟩:=eqx wc;obtain ⟨rfl,U⟩:=hcut;have HX13:=Hd U;clear U;cases x4
 case true =>
  go_wp2;go_ret;exact ⟨ER,HX9.o.trans HX13.o⟩
 go_upto_region 10 with fail
 go_cut [59] (λv wx=>v=.bool x5/\Ext w9 wx)
 case first =>
  have O:=Y.o.keep (HX13.o.kept _);have hbb:=a9.o.keep (HX13.o.kept _);have m12:w13.cell? ⟨g2,12,none⟩=some (.I ca.bo):=O.q12;have n12:w13.cell? ⟨g3,12,none⟩=some (.I cb'.bo):=hbb.q12;clear O hbb;by_cases h0:n2=0
  ·have hd0:(n2 != 0)=false:=Ce;have HDN:=Hd (show decide (n2=0)=true by simp [h0]);exact VP
  ·have hd0:(n2 != 0)=true:=Ce;have HDN:=Hd (show decide (n2=0)=false by simp [h0]);exact VP
 case rest =>
 obtain ⟨w14,rfl⟩:=eqx wc;obtain ⟨rfl,U⟩:=hcut;have HX14:=Hd U;clear U;cases x5
 case true =>
  go_wp2;go_ret;exact ⟨ER,HX9.o.trans HX14.o⟩
 go_upto_region 12 with fail
 refine wp_region_lit ?_;refine AJ rfl 39 _ rfl g2 rfl (Y.o.keep (HX14.o.kept _)) AS AH ?_
 go_wp2_with fail
 refine (Hb5.o _).mono ?_;rintro ee wz ⟨rfl,Z⟩;have HXZ:=Hd (HX14.o.trans Z);clear Z;cases b5
 ·go_wp2;go_ret;exact ⟨BB,HX9.o.trans HXZ.o⟩
 ·have HB2Z:=Hd (Y.o.keep (HXZ.o.kept _));have HB3Z:=Hd (a9.o.keep (HXZ.o.kept _));rename_i K1 hK1 K2 hK2;refine hK2 _ _ ?_;clear hK2;refine AZ rfl (.bool false) (w':=wz) AY ?_;refine AZ rfl (.bool false) (w':=wz) AY ?_;refine Be rfl 39 _ rfl g2 rfl HB2Z.o AS AH ?_;refine Be rfl 39 _ rfl g3 rfl HB3Z.o AS AH ?_
  go_wp2_with fail
  refine (HTW.o _ HXZ.o).mono ?_;rintro ee wy ⟨rfl,a8⟩;have b0:=Hd (HXZ.o.trans a8);clear a8;go_wp2;go_ret;exact ⟨ER,HX9.o.trans b0.o⟩




theorem R9(a b:Sh):BW a b=BW b a:=by
 unfold BW;cases ha:AT a<;>cases hb:AT b<;>simp only [Bool.false_eq_true,if_false,if_true]
 rw [WH,UI,UQ,Int.min_comm,Int.max_comm]
