/- Lemmas. No conditions. -/
import Derived.Test.YtidacnalcdhckaaGreatDoorYq18
set_option maxRecDepth 100000
set_option maxHeartbeats 4000000
namespace Go.Proofs.YtidacnalcdhckaaGreatDoor
open Go Go.RowKit Tryz
variable {qP:Prop}

theorem JK{a b m:Sh}(h1:false=AI a)(h2:false=AI b)(hm:Bh a b=m)(h:(Cq a.b m.b&&Cq b.b m.b&&Cs a.e m.e&&Cs b.e m.e&&!AI m)=false):CN a b=EwA:=by
 unfold CN;rw [if_neg (by rw [←h1,←h2];simp),hm,if_neg];rintro ⟨g1,g2,g3,g4,g5⟩;rw [g1,g2,g3,g4,g5] at h;cases h
theorem Hm{a b m:Sh}(h1:false=AI a)(h2:false=AI b)(hm:Bh a b=m)(h:(Cq a.b m.b&&Cq b.b m.b&&Cs a.e m.e&&Cs b.e m.e&&!AI m)=true):CN a b=m:=by
 unfold CN;simp only [Bool.and_eq_true,Bool.not_eq_true'] at h;obtain ⟨⟨⟨⟨g1,g2⟩,g3⟩,g4⟩,g5⟩:=h;rw [if_neg (by rw [←h1,←h2];simp),hm,if_pos ⟨g1,g2,g3,g4,g5⟩]
def UpG(w:World)(v:Value):Prop:=∃ g,v=.pointer (some ⟨g,0,none⟩)∧w.heap.size≤g
theorem Qo(h:qP:=by simp [results,results87,go_sem,r0,r1,r2,r3,r4]):qP:=h
theorem ACA(h:qP:=by
 refine bodyPost_ret (v:=(Sq EwA)) Qo rfl ⟨rfl,?_⟩;exact St):qP:=h
theorem Ty(h:qP:=by
 obtain ⟨r0,r1,r2,r3,r4⟩:=hb4.qs5;have qf:=hb4.frozen;have ql:=hb4.lt;clear hx hb4 q3 q4 q8 q9 s0 s1 s2 s3 s4 sf sl
 go_wp2_with fail
 rw [HF.o];exact ACA):qP:=h
theorem No(h:qP:=by
 have HF:=Hd (HE.o Y3)
 go_wp2_with fail
 refine (HNO.o _).mono ?_;rintro e3 w3 ⟨rfl,hx⟩;have HX3:=Hd (HX2.o.trans (HXb.o.trans hx));have hb4:=(HB4_2.o.keep (HXb.o.kept _)).keep (hx.kept _);exact Ty):qP:=h
theorem TE(h:qP:=by
 iterate 5 with_reducible refine Ext.set2 ?_ HG4.o _
 with_reducible exact HXF.o):qP:=h
theorem TP(h:qP:=by
 have q3:=HXL.o.cell k3.o;have q4:=HXL.o.cell k4.o;have q8:=HXL.o.cell k8.o;have q9:=HXL.o.cell k9.o;obtain ⟨s0,s1,s2,s3,s4⟩:=HBL.o.qs5;have sf:=HBL.o.frozen;have sl:=HBL.o.lt;have HF:=Hd (HE.o Y3)
 go_wp2_with fail
 refine (HNO.o _).mono ?_;rintro e3 w3 ⟨rfl,hx⟩;have HX3:=Hd (HX2.o.trans (HXL.o.trans hx));have hb4:=(HB4_2.o.keep (HXL.o.kept _)).keep (hx.kept _);exact Ty):qP:=h
theorem Tf(h:qP:=by
 have HF:=Hd (HE.o Y3)
 go_wp2_with fail
 refine (HNO.o _).mono ?_;rintro e3 w3 ⟨rfl,hx⟩;have HX3:=Hd (HX2.o.trans (HXa.o.trans hx));have hb4:=(HB4_2.o.keep (HXa.o.kept _)).keep (hx.kept _);exact Ty):qP:=h
theorem UU(h:qP:=by
 have HF:=Hd (HE.o Y3)
 go_wp2_with fail
 refine (HNO.o _).mono ?_;rintro e3 w3 ⟨rfl,hx⟩;have HX3:=Hd (HX2.o.trans (HX9.o.trans hx));have hb4:=(HB4_2.o.keep (HX9.o.kept _)).keep (hx.kept _);exact Ty):qP:=h
theorem N3(h:qP:=by rw [←hp1,←hp2,←hp3,←hp4,←hem];exact h):qP:=h
theorem UC(h:qP:=by rw [hp1];exact Df _ _ w'):qP:=h
theorem TT(h:qP:=by rw [hp2];exact Df _ _ w'):qP:=h
theorem S8(h:qP:=by rw [hp3];exact Dg _ _ (by omega) w'):qP:=h
theorem Tn(h:qP:=by rw [hp4];exact Dg _ _ (by omega) w'):qP:=h
theorem OS(a b:Sh)(h1:a.b.size≤1000000000)(h2:a.e.size≤1000000000)(h3:b.b.size≤1000000000)(h4:b.e.size≤1000000000)(w:World):Cl 87 #[(Sq a),(Sq b)] w (Eg w (CN a b)):=by
 obtain ⟨w0,hw0⟩:=eqx (((w.alloc (.cells (Sp a) 32)).alloc (.cells (Sp b) 32)).alloc (.cells #[.I 0,.I 0,.I 0,.string ⟨#[]⟩,.string ⟨#[]⟩] 32));have hx0:Ext w w0:=Y54;have hb2:Blk w0 w.heap.size 32 (Sp a):=Y65;have hb3:Blk w0 (w.heap.size+1) 32 (Sp b):=Y66;have hb4:Blk w0 (w.heap.size+2) 32 #[.I 0,.I 0,.I 0,.string ⟨#[]⟩,.string ⟨#[]⟩]:=Y67;obtain ⟨g2,hg2⟩:=eqx w.heap.size;obtain ⟨g3,hg3⟩:=eqx (w.heap.size+1);obtain ⟨g4,hg4⟩:=eqx (w.heap.size+2);rw [←hg2] at hb2;rw [←hg3] at hb3;rw [←hg4] at hb4;have HG4:=Hd (show w.heap.size≤g4 by omega);obtain ⟨la,hla⟩:=eqx (AG a);obtain ⟨lb,hlb⟩:=eqx (AG b);obtain ⟨ma,hma⟩:=eqx (Ag a);obtain ⟨mb,hmb⟩:=eqx (Ag b);obtain ⟨cc,hcc⟩:=eqx (bits .and .i64 (At a) (At b));obtain ⟨lm,hlm⟩:=eqx (max la lb);obtain ⟨mm,hmm⟩:=eqx (min ma mb);obtain ⟨HLA,HLB,HMA,HMB⟩:=Hd4 (show ∀ w',Cl 151 #[(Sq a)] w' (CD w' la) from fun w'=>by rw [hla];exact CU a w') (show ∀ w',Cl 151 #[(Sq b)] w' (CD w' lb) from fun w'=>by rw [hlb];exact CU b w') (show ∀ w',Cl 152 #[(Sq a)] w' (CD w' ma) from fun w'=>by rw [hma];exact C6 a w') (show ∀ w',Cl 152 #[(Sq b)] w' (CD w' mb) from fun w'=>by rw [hmb];exact C6 b w');obtain ⟨oa,hoa⟩:=eqx (At a);obtain ⟨ob,hob⟩:=eqx (At b);obtain ⟨HOA,HOB,HNO⟩:=Hd3 (show ∀ w',Cl 153 #[(Sq a)] w' (CD w' oa) from fun w'=>by rw [hoa];exact DX a w') (show ∀ w',Cl 153 #[(Sq b)] w' (CD w' ob) from fun w'=>by rw [hob];exact DX b w') (fun w'=>Em w');have hlm':max la lb=lm:=hlm.symm;have hmm':min ma mb=mm:=hmm.symm;obtain ⟨HEA,HEB,HJ,HM⟩:=Hd4 (fun w'=>BO a Y4 Y4 w') (fun w'=>BO b Y4 Y4 w') (show AI a=true∨AI b=true→CN a b=EwA from fun h=>if_pos h) (show Bh a b=⟨lm,mm,cc,if a.b.size<b.b.size then b.b else a.b,if a.e.size<b.e.size then b.e else a.e⟩ from by rw [hlm,hmm,hla,hlb,hma,hmb,hcc];rfl);have hor:bits .and .i64 oa ob=cc:=(by rw [hcc,hoa,hob]);obtain ⟨b1,hb1⟩:=eqx (AI a);obtain ⟨b2,hb2'⟩:=eqx (AI b);rw [←hb1] at HEA HJ;rw [←hb2'] at HEB HJ;have HN1:=Hd hb1;have HN2:=Hd hb2';clear hb1 hb2';obtain ⟨HX0,HW0,HE2,HE3,HE4,HB2_0,HB3_0,HB4_0⟩:=Hd8 hx0 hw0 hg2 hg3 hg4 hb2 hb3 hb4;obtain ⟨q0,q1,q2,q3,q4⟩:=hb2.qs5;obtain ⟨q5,q6,q7,q8,q9⟩:=hb3.qs5;clear hx0 hw0 hb2 hb3 hb4 hg2 hg3 hg4 hla hlb hma hmb hcc hoa hob hlm hmm
 go_enter func87,ntmps87
 go_upto_region 1 with fail
 rw [←HW0.o,show w.heap.size+1+1=g4 from HE4.o.symm,←HE3.o,←HE2.o];cases b1
 ·go_wp2_with fail
  refine (HEA.o _).mono ?_;rintro e1 w1 ⟨rfl,hx⟩;have HX1:=Hd (HX0.o.trans hx);have hb2:=HB2_0.o.keep (hx.kept _);have hb3:=HB3_0.o.keep (hx.kept _);have hb4:=HB4_0.o.keep (hx.kept _);obtain ⟨HB2_1,HB3_1,HB4_1⟩:=Hd3 hb2 hb3 hb4;clear q0 q1 q2 q3 q4 q5 q6 q7 q8 q9;obtain ⟨q0,q1,q2,q3,q4⟩:=hb2.qs5;obtain ⟨q5,q6,q7,q8,q9⟩:=hb3.qs5;clear hx hb2 hb3 hb4
  go_wp2_with fail
  refine (HEB.o _).mono ?_;rintro e2 w2 ⟨rfl,hx⟩;have HX2:=Hd (HX1.o.trans hx);have hb2:=HB2_1.o.keep (hx.kept _);have hb3:=HB3_1.o.keep (hx.kept _);have hb4:=HB4_1.o.keep (hx.kept _);obtain ⟨HB2_2,HB3_2,HB4_2⟩:=Hd3 hb2 hb3 hb4;clear q0 q1 q2 q3 q4 q5 q6 q7 q8 q9;obtain ⟨q0,q1,q2,q3,q4⟩:=hb2.qs5;obtain ⟨q5,q6,q7,q8,q9⟩:=hb3.qs5;clear hx hb2 hb3 hb4;cases b2
  ·obtain ⟨k0,k1,k2,k3,k4,k5,k6,k7⟩:=Hd8 q0 q1 q2 q3 q4 q5 q6 q7;have k8:=Hd q8;have k9:=Hd q9;clear q0 q1 q2 q3 q4 q5 q6 q7 q8 q9
   go_upto_region 3 with fail
   refine Qb (fun|21=>[20,21]|i=>[i]) (fun _ _=>False) [(21,[20])] ?_;refine Qp ?_;refine Qc (fun w'=>HLA.o w') ?_;refine Qp ?_;refine Qc (fun w'=>HLB.o w') ?_
   iterate 2 refine Qp ?_
   refine Qc (fun w'=>HMA.o w') ?_;refine Qp ?_;refine Qc (fun w'=>HMB.o w') ?_
   iterate 2 refine Qp ?_
   refine Qc (fun w'=>HOA.o w') ?_;refine Qp ?_;refine Qc (fun w'=>HOB.o w') ?_
   iterate 6 refine Qp ?_
   refine Qs (FP (VarX (fun _ _=>False) 20 32 5)) (EuA E3A) ?_ ?_
   ·intro vals γ w' ρ hR hN hp hρ zs zg;have HR:=hR;have HN:=hN;refine Qr ?_;exact ⟨γ.put 20 (some w'.heap.size),LX.new Y17 (HN.o.2 Y17 ⟨21,Y17⟩) _ _,FGA,VarX.new HR.o.inb0 rfl (fun _ _ h=>h.elim)⟩
   refine Chain.step (fun vl γ w'=>match vl with|[p,_]=>VarXI (fun _ _=>False) 32 p #[.I lm,.I mm,.I cc,.string a.b,.string a.e] γ w'∧UpG w2 p|_=>True) Y41 ?_ ?_ ?_
   ·exact KW
   ·intro vals γ w' ρ hR hN hp hρ hc hf hg;refine ⟨rfl,?_⟩;have e32:ρ (.tmp 32)=_:=(hρ 32).trans (hp 19 Y17);obtain ⟨g,⟨cl⟩,hv,hcs,hb,hk,hst⟩:=E1A (hp 20 Y17) (s:=21) (l:=[(21,[20])]) Y17 hN;have e5:=(hρ 5).trans hv
    match cl,hcs with
    |[x0,x1,x2,x3,x4],_ =>
     have hup:UpG w2 (vals 20):=⟨g,hv,by
       rcases Nat.lt_or_ge g w2.heap.size with h|h
       ·have h9:=hR.old 20 g hk h;cases h9
       ·exact h⟩
     obtain ⟨HST,HK,HB⟩:=Hd3 hst hk hb;obtain ⟨q0,q1,q2,q3,q4⟩:=hb.qs5;have qf:=hb.frozen;have ql:=hb.lt;clear hR hN hp hρ hst hk hb hv;go_light;go_simp;obtain ⟨g1,g2⟩:=HST.o _ #[.I lm,.I mm,.I cc,.string a.b,.string a.e] ((((((Only.refl g w').set 0 (.I lm)).set 1 (.I mm)).set 2 (.I cc)).set 3 (.string a.b)).set 4 (.string a.e)) (((((HB.o.set 0 (.I lm)).set 1 (.I mm)).set 2 (.I cc)).set 3 (.string a.b)).set 4 (.string a.e)) rfl;exact ⟨γ.put 20 none,g1,LM.done Y17 (.inl ⟨g,HK.o⟩),⟨g2,hup⟩⟩
   intro vals γ w9 hR hG;obtain ⟨⟨g5,v20,hb5,-,-⟩,g6,v20',hu6⟩:=hG 21 Y17;have hu5:w2.heap.size≤g5:=by
    rw [v20] at v20';injection v20' with v20';injection v20' with v20';injection v20' with v20';omega
   have HU5:=Hd hu5;refine Qx ?_;simp only [v20];have HX9:=Hd (show Ext w2 w9 from hR.ext0 (fun _ _ h=>h.elim));have HB5:=Hd hb5;clear hR hG hb5 v20 v20' hu5 hu6;have q3:=HX9.o.cell k3.o;have q4:=HX9.o.cell k4.o;have q8:=HX9.o.cell k8.o;have q9:=HX9.o.cell k9.o;obtain ⟨s0,s1,s2,s3,s4⟩:=HB5.o.qs5;have sf:=HB5.o.frozen;have sl:=HB5.o.lt;by_cases hlt1:a.b.size<b.b.size
   ·have hq1:(a.b.size:Int)<(b.b.size:Int):=Y4
    go_upto_region 6 with fail
    clear q3 q4 q8 q9 s0 s1 s2 s3 s4 sf sl;obtain ⟨wa,hw⟩:=eqx (w9.setCell ⟨g5,3,none⟩ (.string b.b));have HXa:=Hd (show Ext w2 wa by rw [hw];exact Ext.set2 HX9.o HU5.o _);have HBa:=Hd (show Blk wa g5 32 #[.I lm,.I mm,.I cc,.string b.b,.string a.e] by rw [hw];simpa using HB5.o.set 3 (.string b.b));rw [←hw];clear hw;have q3:=HXa.o.cell k3.o;have q4:=HXa.o.cell k4.o;have q8:=HXa.o.cell k8.o;have q9:=HXa.o.cell k9.o;obtain ⟨s0,s1,s2,s3,s4⟩:=HBa.o.qs5;have sf:=HBa.o.frozen;have sl:=HBa.o.lt;by_cases hlt2:a.e.size<b.e.size
    ·have hq2:(a.e.size:Int)<(b.e.size:Int):=Y4
     go_upto_region 8 with fail
     clear q3 q4 q8 q9 s0 s1 s2 s3 s4 sf sl;obtain ⟨wb,hw⟩:=eqx (wa.setCell ⟨g5,4,none⟩ (.string b.e));have HXb:=Hd (show Ext w2 wb by rw [hw];exact Ext.set2 HXa.o HU5.o _);have HBb:=Hd (show Blk wb g5 32 #[.I lm,.I mm,.I cc,.string b.b,.string b.e] by rw [hw];simpa using HBa.o.set 4 (.string b.e));rw [←hw];clear hw;have q3:=HXb.o.cell k3.o;have q4:=HXb.o.cell k4.o;have q8:=HXb.o.cell k8.o;have q9:=HXb.o.cell k9.o;obtain ⟨s0,s1,s2,s3,s4⟩:=HBb.o.qs5;have sf:=HBb.o.frozen;have sl:=HBb.o.lt;have hm:=HM.o;rw [if_pos hlt1,if_pos hlt2] at hm;obtain ⟨em,hem⟩:=eqx (AI ⟨lm,mm,cc,b.b,b.e⟩);obtain ⟨p1,hp1⟩:=eqx (Cq a.b b.b);obtain ⟨p2,hp2⟩:=eqx (Cq b.b b.b);obtain ⟨p3,hp3⟩:=eqx (Cs a.e b.e);obtain ⟨p4,hp4⟩:=eqx (Cs b.e b.e);obtain ⟨HE,HY,HP1,HP2,HP3,HP4,HEM⟩:=Hd7 (show (p1&&p2&&p3&&p4&&!em)=false→CN a b=EwA from fun h=>JK HN1.o HN2.o hm N3) (show (p1&&p2&&p3&&p4&&!em)=true→CN a b=⟨lm,mm,cc,b.b,b.e⟩ from fun h=>Hm HN1.o HN2.o hm N3) (show ∀ w',Cl 131 #[.string b.b,.string a.b] w' (SameB w' p1) from fun w'=>UC) (show ∀ w',Cl 131 #[.string b.b,.string b.b] w' (SameB w' p2) from fun w'=>TT) (show ∀ w',Cl 132 #[.string b.e,.string a.e] w' (SameB w' p3) from fun w'=>S8) (show ∀ w',Cl 132 #[.string b.e,.string b.e] w' (SameB w' p4) from fun w'=>Tn) (show ∀ w',Cl 150 #[.agg #[.I lm,.I mm,.I cc,.string b.b,.string b.e]] w' (AO w' em) from fun w'=>by rw [hem];exact BO (Sh.mk lm mm cc b.b b.e) (show b.b.size≤4294967296 by omega) (show b.e.size≤4294967296 by omega) w');clear hm hem hp1 hp2 hp3 hp4
     go_wp2_with fail
     refine (HP1.o _).mono ?_;rintro e1 w1 ⟨rfl,rfl⟩;cases p1
     ·exact No
     ·go_wp2_with fail
      refine (HP2.o _).mono ?_;rintro e1 w1 ⟨rfl,rfl⟩;cases p2
      ·exact No
      ·go_wp2_with fail
       refine (HP3.o _).mono ?_;rintro e1 w1 ⟨rfl,rfl⟩;cases p3
       ·exact No
       ·go_wp2_with fail
        refine (HP4.o _).mono ?_;rintro e1 w1 ⟨rfl,rfl⟩;cases p4
        ·exact No
        ·go_wp2_with fail
         refine (HEM.o _).mono ?_;rintro e3 w3 ⟨rfl,hx⟩;have HXL:=Hd (HXb.o.trans hx);have HBL:=Hd (HBb.o.keep (hx.kept _));clear hx q3 q4 q8 q9 s0 s1 s2 s3 s4 sf sl;cases em
         ·have q3:=HXL.o.cell k3.o;have q4:=HXL.o.cell k4.o;have q8:=HXL.o.cell k8.o;have q9:=HXL.o.cell k9.o;obtain ⟨s0,s1,s2,s3,s4⟩:=HBL.o.qs5;have sf:=HBL.o.frozen;have sl:=HBL.o.lt;have hb4:=HB4_2.o.keep (HXL.o.kept _);obtain ⟨r0,r1,r2,r3,r4⟩:=hb4.qs5;have qf:=hb4.frozen;have ql:=hb4.lt;have HXF:=Hd (HX2.o.trans HXL.o);have HF:=Hd (HY.o Y3);clear hb4
          go_wp2_with fail
          rw [HF.o];refine bodyPost_ret (v:=.agg #[.I lm,.I mm,.I cc,.string b.b,.string b.e]) Qo rfl ⟨rfl,?_⟩;exact TE
         ·exact TP
    ·have hq2:¬(a.e.size:Int)<(b.e.size:Int):=Y4
     go_upto_region 8 with fail
     have hm:=HM.o;rw [if_pos hlt1,if_neg hlt2] at hm;obtain ⟨em,hem⟩:=eqx (AI ⟨lm,mm,cc,b.b,a.e⟩);obtain ⟨p1,hp1⟩:=eqx (Cq a.b b.b);obtain ⟨p2,hp2⟩:=eqx (Cq b.b b.b);obtain ⟨p3,hp3⟩:=eqx (Cs a.e a.e);obtain ⟨p4,hp4⟩:=eqx (Cs b.e a.e);obtain ⟨HE,HY,HP1,HP2,HP3,HP4,HEM⟩:=Hd7 (show (p1&&p2&&p3&&p4&&!em)=false→CN a b=EwA from fun h=>JK HN1.o HN2.o hm N3) (show (p1&&p2&&p3&&p4&&!em)=true→CN a b=⟨lm,mm,cc,b.b,a.e⟩ from fun h=>Hm HN1.o HN2.o hm N3) (show ∀ w',Cl 131 #[.string b.b,.string a.b] w' (SameB w' p1) from fun w'=>UC) (show ∀ w',Cl 131 #[.string b.b,.string b.b] w' (SameB w' p2) from fun w'=>TT) (show ∀ w',Cl 132 #[.string a.e,.string a.e] w' (SameB w' p3) from fun w'=>S8) (show ∀ w',Cl 132 #[.string a.e,.string b.e] w' (SameB w' p4) from fun w'=>Tn) (show ∀ w',Cl 150 #[.agg #[.I lm,.I mm,.I cc,.string b.b,.string a.e]] w' (AO w' em) from fun w'=>by rw [hem];exact BO (Sh.mk lm mm cc b.b a.e) (show b.b.size≤4294967296 by omega) (show a.e.size≤4294967296 by omega) w');clear hm hem hp1 hp2 hp3 hp4
     go_wp2_with fail
     refine (HP1.o _).mono ?_;rintro e1 w1 ⟨rfl,rfl⟩;cases p1
     ·exact Tf
     ·go_wp2_with fail
      refine (HP2.o _).mono ?_;rintro e1 w1 ⟨rfl,rfl⟩;cases p2
      ·exact Tf
      ·go_wp2_with fail
       refine (HP3.o _).mono ?_;rintro e1 w1 ⟨rfl,rfl⟩;cases p3
       ·exact Tf
       ·go_wp2_with fail
        refine (HP4.o _).mono ?_;rintro e1 w1 ⟨rfl,rfl⟩;cases p4
        ·exact Tf
        ·go_wp2_with fail
         refine (HEM.o _).mono ?_;rintro e3 w3 ⟨rfl,hx⟩;have HXL:=Hd (HXa.o.trans hx);have HBL:=Hd (HBa.o.keep (hx.kept _));clear hx q3 q4 q8 q9 s0 s1 s2 s3 s4 sf sl;cases em
         ·have q3:=HXL.o.cell k3.o;have q4:=HXL.o.cell k4.o;have q8:=HXL.o.cell k8.o;have q9:=HXL.o.cell k9.o;obtain ⟨s0,s1,s2,s3,s4⟩:=HBL.o.qs5;have sf:=HBL.o.frozen;have sl:=HBL.o.lt;have hb4:=HB4_2.o.keep (HXL.o.kept _);obtain ⟨r0,r1,r2,r3,r4⟩:=hb4.qs5;have qf:=hb4.frozen;have ql:=hb4.lt;have HXF:=Hd (HX2.o.trans HXL.o);have HF:=Hd (HY.o Y3);clear hb4
          go_wp2_with fail
          rw [HF.o];refine bodyPost_ret (v:=.agg #[.I lm,.I mm,.I cc,.string b.b,.string a.e]) Qo rfl ⟨rfl,?_⟩;exact TE
         ·exact TP
   ·have hq1:¬(a.b.size:Int)<(b.b.size:Int):=Y4
    go_upto_region 6 with fail
    by_cases hlt2:a.e.size<b.e.size
    ·have hq2:(a.e.size:Int)<(b.e.size:Int):=Y4
     go_upto_region 8 with fail
     clear q3 q4 q8 q9 s0 s1 s2 s3 s4 sf sl;obtain ⟨wb,hw⟩:=eqx (w9.setCell ⟨g5,4,none⟩ (.string b.e));have HXb:=Hd (show Ext w2 wb by rw [hw];exact Ext.set2 HX9.o HU5.o _);have HBb:=Hd (show Blk wb g5 32 #[.I lm,.I mm,.I cc,.string a.b,.string b.e] by rw [hw];simpa using HB5.o.set 4 (.string b.e));rw [←hw];clear hw;have q3:=HXb.o.cell k3.o;have q4:=HXb.o.cell k4.o;have q8:=HXb.o.cell k8.o;have q9:=HXb.o.cell k9.o;obtain ⟨s0,s1,s2,s3,s4⟩:=HBb.o.qs5;have sf:=HBb.o.frozen;have sl:=HBb.o.lt;have hm:=HM.o;rw [if_neg hlt1,if_pos hlt2] at hm;obtain ⟨em,hem⟩:=eqx (AI ⟨lm,mm,cc,a.b,b.e⟩);obtain ⟨p1,hp1⟩:=eqx (Cq a.b a.b);obtain ⟨p2,hp2⟩:=eqx (Cq b.b a.b);obtain ⟨p3,hp3⟩:=eqx (Cs a.e b.e);obtain ⟨p4,hp4⟩:=eqx (Cs b.e b.e);obtain ⟨HE,HY,HP1,HP2,HP3,HP4,HEM⟩:=Hd7 (show (p1&&p2&&p3&&p4&&!em)=false→CN a b=EwA from fun h=>JK HN1.o HN2.o hm N3) (show (p1&&p2&&p3&&p4&&!em)=true→CN a b=⟨lm,mm,cc,a.b,b.e⟩ from fun h=>Hm HN1.o HN2.o hm N3) (show ∀ w',Cl 131 #[.string a.b,.string a.b] w' (SameB w' p1) from fun w'=>UC) (show ∀ w',Cl 131 #[.string a.b,.string b.b] w' (SameB w' p2) from fun w'=>TT) (show ∀ w',Cl 132 #[.string b.e,.string a.e] w' (SameB w' p3) from fun w'=>S8) (show ∀ w',Cl 132 #[.string b.e,.string b.e] w' (SameB w' p4) from fun w'=>Tn) (show ∀ w',Cl 150 #[.agg #[.I lm,.I mm,.I cc,.string a.b,.string b.e]] w' (AO w' em) from fun w'=>by rw [hem];exact BO (Sh.mk lm mm cc a.b b.e) (show a.b.size≤4294967296 by omega) (show b.e.size≤4294967296 by omega) w');clear hm hem hp1 hp2 hp3 hp4
     go_wp2_with fail
     refine (HP1.o _).mono ?_;rintro e1 w1 ⟨rfl,rfl⟩;cases p1
     ·exact No
     ·go_wp2_with fail
      refine (HP2.o _).mono ?_;rintro e1 w1 ⟨rfl,rfl⟩;cases p2
      ·exact No
      ·go_wp2_with fail
       refine (HP3.o _).mono ?_;rintro e1 w1 ⟨rfl,rfl⟩;cases p3
       ·exact No
       ·go_wp2_with fail
        refine (HP4.o _).mono ?_;rintro e1 w1 ⟨rfl,rfl⟩;cases p4
        ·exact No
        ·go_wp2_with fail
         refine (HEM.o _).mono ?_;rintro e3 w3 ⟨rfl,hx⟩;have HXL:=Hd (HXb.o.trans hx);have HBL:=Hd (HBb.o.keep (hx.kept _));clear hx q3 q4 q8 q9 s0 s1 s2 s3 s4 sf sl;cases em
         ·have q3:=HXL.o.cell k3.o;have q4:=HXL.o.cell k4.o;have q8:=HXL.o.cell k8.o;have q9:=HXL.o.cell k9.o;obtain ⟨s0,s1,s2,s3,s4⟩:=HBL.o.qs5;have sf:=HBL.o.frozen;have sl:=HBL.o.lt;have hb4:=HB4_2.o.keep (HXL.o.kept _);obtain ⟨r0,r1,r2,r3,r4⟩:=hb4.qs5;have qf:=hb4.frozen;have ql:=hb4.lt;have HXF:=Hd (HX2.o.trans HXL.o);have HF:=Hd (HY.o Y3);clear hb4
          go_wp2_with fail
          rw [HF.o];refine bodyPost_ret (v:=.agg #[.I lm,.I mm,.I cc,.string a.b,.string b.e]) Qo rfl ⟨rfl,?_⟩;exact TE
         ·exact TP
    ·have hq2:¬(a.e.size:Int)<(b.e.size:Int):=Y4
     go_upto_region 8 with fail
     have hm:=HM.o;rw [if_neg hlt1,if_neg hlt2] at hm;obtain ⟨em,hem⟩:=eqx (AI ⟨lm,mm,cc,a.b,a.e⟩);obtain ⟨p1,hp1⟩:=eqx (Cq a.b a.b);obtain ⟨p2,hp2⟩:=eqx (Cq b.b a.b);obtain ⟨p3,hp3⟩:=eqx (Cs a.e a.e);obtain ⟨p4,hp4⟩:=eqx (Cs b.e a.e);obtain ⟨HE,HY,HP1,HP2,HP3,HP4,HEM⟩:=Hd7 (show (p1&&p2&&p3&&p4&&!em)=false→CN a b=EwA from fun h=>JK HN1.o HN2.o hm N3) (show (p1&&p2&&p3&&p4&&!em)=true→CN a b=⟨lm,mm,cc,a.b,a.e⟩ from fun h=>Hm HN1.o HN2.o hm N3) (show ∀ w',Cl 131 #[.string a.b,.string a.b] w' (SameB w' p1) from fun w'=>UC) (show ∀ w',Cl 131 #[.string a.b,.string b.b] w' (SameB w' p2) from fun w'=>TT) (show ∀ w',Cl 132 #[.string a.e,.string a.e] w' (SameB w' p3) from fun w'=>S8) (show ∀ w',Cl 132 #[.string a.e,.string b.e] w' (SameB w' p4) from fun w'=>Tn) (show ∀ w',Cl 150 #[.agg #[.I lm,.I mm,.I cc,.string a.b,.string a.e]] w' (AO w' em) from fun w'=>by rw [hem];exact BO (Sh.mk lm mm cc a.b a.e) (show a.b.size≤4294967296 by omega) (show a.e.size≤4294967296 by omega) w');clear hm hem hp1 hp2 hp3 hp4
     go_wp2_with fail
     refine (HP1.o _).mono ?_;rintro e1 w1 ⟨rfl,rfl⟩;cases p1
     ·exact UU
     ·go_wp2_with fail
      refine (HP2.o _).mono ?_;rintro e1 w1 ⟨rfl,rfl⟩;cases p2
      ·exact UU
      ·go_wp2_with fail
       refine (HP3.o _).mono ?_;rintro e1 w1 ⟨rfl,rfl⟩;cases p3
       ·exact UU
       ·go_wp2_with fail
        refine (HP4.o _).mono ?_;rintro e1 w1 ⟨rfl,rfl⟩;cases p4
        ·exact UU
        ·go_wp2_with fail
         refine (HEM.o _).mono ?_;rintro e3 w3 ⟨rfl,hx⟩;have HXL:=Hd (HX9.o.trans hx);have HBL:=Hd (HB5.o.keep (hx.kept _));clear hx q3 q4 q8 q9 s0 s1 s2 s3 s4 sf sl;cases em
         ·have q3:=HXL.o.cell k3.o;have q4:=HXL.o.cell k4.o;have q8:=HXL.o.cell k8.o;have q9:=HXL.o.cell k9.o;obtain ⟨s0,s1,s2,s3,s4⟩:=HBL.o.qs5;have sf:=HBL.o.frozen;have sl:=HBL.o.lt;have hb4:=HB4_2.o.keep (HXL.o.kept _);obtain ⟨r0,r1,r2,r3,r4⟩:=hb4.qs5;have qf:=hb4.frozen;have ql:=hb4.lt;have HXF:=Hd (HX2.o.trans HXL.o);have HF:=Hd (HY.o Y3);clear hb4
          go_wp2_with fail
          rw [HF.o];refine bodyPost_ret (v:=.agg #[.I lm,.I mm,.I cc,.string a.b,.string a.e]) Qo rfl ⟨rfl,?_⟩;exact TE
         ·exact TP
  ·go_wp2_with fail
   refine (HNO.o _).mono ?_;rintro e3 w3 ⟨rfl,hx⟩;have HX3:=Hd (HX2.o.trans hx);have hb2:=HB2_2.o.keep (hx.kept _);have hb3:=HB3_2.o.keep (hx.kept _);have hb4:=HB4_2.o.keep (hx.kept _);obtain ⟨HB2_3,HB3_3,HB4_3⟩:=Hd3 hb2 hb3 hb4;clear q0 q1 q2 q3 q4 q5 q6 q7 q8 q9;obtain ⟨q0,q1,q2,q3,q4⟩:=hb2.qs5;obtain ⟨q5,q6,q7,q8,q9⟩:=hb3.qs5;clear hx hb2 hb3 hb4;obtain ⟨r0,r1,r2,r3,r4⟩:=HB4_3.o.qs5;have qf:=HB4_3.o.frozen;have ql:=HB4_3.o.lt
   go_wp2_with fail
   rw [HJ.o Y3];exact ACA
 ·go_wp2_with fail
  refine (HEA.o _).mono ?_;rintro e1 w1 ⟨rfl,hx⟩;have HX1:=Hd (HX0.o.trans hx);have hb2:=HB2_0.o.keep (hx.kept _);have hb3:=HB3_0.o.keep (hx.kept _);have hb4:=HB4_0.o.keep (hx.kept _);obtain ⟨HB2_1,HB3_1,HB4_1⟩:=Hd3 hb2 hb3 hb4;clear q0 q1 q2 q3 q4 q5 q6 q7 q8 q9;obtain ⟨q0,q1,q2,q3,q4⟩:=hb2.qs5;obtain ⟨q5,q6,q7,q8,q9⟩:=hb3.qs5;clear hx hb2 hb3 hb4
  go_wp2_with fail
  refine (HNO.o _).mono ?_;rintro e2 w2 ⟨rfl,hx⟩;have HX2:=Hd (HX1.o.trans hx);have hb2:=HB2_1.o.keep (hx.kept _);have hb3:=HB3_1.o.keep (hx.kept _);have hb4:=HB4_1.o.keep (hx.kept _);obtain ⟨HB2_2,HB3_2,HB4_2⟩:=Hd3 hb2 hb3 hb4;clear q0 q1 q2 q3 q4 q5 q6 q7 q8 q9;obtain ⟨q0,q1,q2,q3,q4⟩:=hb2.qs5;obtain ⟨q5,q6,q7,q8,q9⟩:=hb3.qs5;clear hx hb2 hb3 hb4;obtain ⟨r0,r1,r2,r3,r4⟩:=HB4_2.o.qs5;have qf:=HB4_2.o.frozen;have ql:=HB4_2.o.lt
  go_wp2_with fail
  rw [HJ.o Y3];refine bodyPost_ret (v:=(Sq EwA)) Qo rfl ⟨rfl,?_⟩
  iterate 5 with_reducible refine Ext.set2 ?_ HG4.o _
  with_reducible exact HX2.o

def MeB(t:TypeId)(cs:Array Value)(N:Nat)(v:Value)(w':World):Prop:=∃ g:Nat,v=.slice (some ⟨g,0,none⟩) 2 2∧N≤g∧Blk w' g t cs
def MeS(N:Nat)(l:List BA)(v:Value)(w':World):Prop:=∃ (A:OA) (c:Nat),v=.slice A l.length c∧OwnSs w' N A c l
def MeD(N:Nat)(S:NP)(l:List Dep)(v:Value)(w':World):Prop:=∃ (A:OA) (c:Nat),v=.slice A l.length c∧OwnDs w' N S A c l
def MeA(N:Nat)(T:NP)(s:Abs)(v:Value)(w':World):Prop:=∃ (A:OA) (c:Nat) (D:OA) (e:Nat),v=(Aq s A c D e)∧AbM w' (fun b=>T b∨N≤b) s A c D e
theorem XW(h:qP:=by
 intro vals γ w' ρ hR hN hp hρ hc hf hg;refine ⟨rfl,?_⟩;have e2:=hρ 2;(conv at e2=>rhs;whnf);obtain ⟨A1,c1,D1,e1,hv,hab⟩:=hp 1 Y17;have e6:=(hρ 6).trans hv;have hk0:=hN.key (k:=1004) Y17;have hgg:=HGG.o;have hb0:=HB2.o.keep (hR.kept0 (S:=fun b=>b=g2) fun b _ e m hm=>by rcases hm with ⟨rfl,h⟩|⟨rfl,h⟩;exact hk0;omega);refine Ay 39 rfl e2 e6 hb0 AA rfl Y11 ?_;exact Yd):qP:=h
theorem Y0(h:qP:=by
 intro vals γ w' ρ hR hN hp hρ hc hf hg;refine ⟨rfl,?_⟩;have e3:=hρ 3;(conv at e3=>rhs;whnf);obtain ⟨A1,c1,D1,e1,hv,hab⟩:=hp 3 Y17;have e8:=(hρ 8).trans hv;have hk0:=hN.key (k:=1005) Y17;have hgg:=HGG.o;have hb0:=HB3.o.keep (hR.kept0 (S:=fun b=>b=g3) fun b _ e m hm=>by rcases hm with ⟨rfl,h⟩|⟨rfl,h⟩;omega;exact hk0);refine Ay 39 rfl e3 e8 hb0 AA rfl Y11 ?_;exact YI):qP:=h
theorem CNA(h:qP:=by
 have hxx:=hR.o.kept0 (S:=fun b=>b<w9.heap.size∧b≠g4) fun b _ hb m hm=>absurd hm.2 hb.2;have hbx:=HB29.o.keep (hxx.mono fun b _ e=>Y99);have m0:w'.cell? ⟨g2,0,none⟩=some (.I ca.kinds):=hbx.q0;clear hxx hbx;exact Qk):qP:=h
theorem Zp(h:qP:=by
 have hxx:=hR.o.kept0 (S:=fun b=>b<w9.heap.size∧b≠g4) fun b _ hb m hm=>absurd hm.2 hb.2;have hbx:=HB39.o.keep (hxx.mono fun b _ e=>I9);have m0:w'.cell? ⟨g3,0,none⟩=some (.I cb'.kinds):=hbx.q0;clear hxx hbx;exact Qk):qP:=h
theorem AhA(h:qP:=by
 have hxx:=hR.o.kept0 (S:=fun b=>b<w9.heap.size∧b≠g4) fun b _ hb m hm=>absurd hm.2 hb.2;have hbx:=HB29.o.keep (hxx.mono fun b _ e=>Y99);have m1:w'.cell? ⟨g2,1,none⟩=some (.I ca.tx.least):=hbx.q1;have m2:w'.cell? ⟨g2,2,none⟩=some (.I ca.tx.most):=hbx.q2;have m3:w'.cell? ⟨g2,3,none⟩=some (.I ca.tx.cls):=hbx.q3;have m4:w'.cell? ⟨g2,4,none⟩=some (.string ca.tx.b):=hbx.q4;have m5:w'.cell? ⟨g2,5,none⟩=some (.string ca.tx.e):=hbx.q5;clear hxx hbx;exact Qk):qP:=h
theorem AgA(h:qP:=by
 have hxx:=hR.o.kept0 (S:=fun b=>b<w9.heap.size∧b≠g4) fun b _ hb m hm=>absurd hm.2 hb.2;have hbx:=HB39.o.keep (hxx.mono fun b _ e=>I9);have m1:w'.cell? ⟨g3,1,none⟩=some (.I cb'.tx.least):=hbx.q1;have m2:w'.cell? ⟨g3,2,none⟩=some (.I cb'.tx.most):=hbx.q2;have m3:w'.cell? ⟨g3,3,none⟩=some (.I cb'.tx.cls):=hbx.q3;have m4:w'.cell? ⟨g3,4,none⟩=some (.string cb'.tx.b):=hbx.q4;have m5:w'.cell? ⟨g3,5,none⟩=some (.string cb'.tx.e):=hbx.q5;clear hxx hbx;exact Qk):qP:=h
theorem Xr(h:qP:=by
 have hxx:=hR.o.kept0 (S:=fun b=>b<w9.heap.size∧b≠g4) fun b _ hb m hm=>absurd hm.2 hb.2;have hbx:=HB29.o.keep (hxx.mono fun b _ e=>Y99);have m6:w'.cell? ⟨g2,6,none⟩=some (.I ca.nu.ln):=hbx.q6;have m7:w'.cell? ⟨g2,7,none⟩=some (.I ca.nu.ls):=hbx.q7;have m8:w'.cell? ⟨g2,8,none⟩=some (.I ca.nu.hn):=hbx.q8;have m9:w'.cell? ⟨g2,9,none⟩=some (.I ca.nu.hs):=hbx.q9;clear hxx hbx;exact Qk):qP:=h
theorem Zs(h:qP:=by
 have hxx:=hR.o.kept0 (S:=fun b=>b<w9.heap.size∧b≠g4) fun b _ hb m hm=>absurd hm.2 hb.2;have hbx:=HB39.o.keep (hxx.mono fun b _ e=>I9);have m6:w'.cell? ⟨g3,6,none⟩=some (.I cb'.nu.ln):=hbx.q6;have m7:w'.cell? ⟨g3,7,none⟩=some (.I cb'.nu.ls):=hbx.q7;have m8:w'.cell? ⟨g3,8,none⟩=some (.I cb'.nu.hn):=hbx.q8;have m9:w'.cell? ⟨g3,9,none⟩=some (.I cb'.nu.hs):=hbx.q9;clear hxx hbx;exact Qk):qP:=h
theorem UE(h:qP:=by rw [hm.1];exact hk4):qP:=h
theorem AKA(h:qP:=by
 intro vals γ w' ρ hR hN hp hρ zs zg;have HR:=hR;have hk4:=hN.o.key (k:=1050) Y17;have hxx:=hR.o.ext0 (fun m b _ hm=>UE);have HXW:=Hd hxx;clear hxx hk4;refine Qr ?_;refine (HJI.o w' HXW.o).mono ?_;exact Ng):qP:=h
theorem XN(h:qP:=by
 have hxx:=hR.o.kept0 (S:=fun b=>b<w9.heap.size∧b≠g4) fun b _ hb m hm=>absurd hm.2 hb.2;have hbx:=HB29.o.keep (hxx.mono fun b _ e=>Y99);have m10:w'.cell? ⟨g2,10,none⟩=some (.I ca.dl):=hbx.q10;have m11:w'.cell? ⟨g2,11,none⟩=some (.I ca.dh):=hbx.q11;clear hxx hbx;exact Qk):qP:=h
theorem X0(h:qP:=by
 have hxx:=hR.o.kept0 (S:=fun b=>b<w9.heap.size∧b≠g4) fun b _ hb m hm=>absurd hm.2 hb.2;have hbx:=HB39.o.keep (hxx.mono fun b _ e=>I9);have m10:w'.cell? ⟨g3,10,none⟩=some (.I cb'.dl):=hbx.q10;have m11:w'.cell? ⟨g3,11,none⟩=some (.I cb'.dh):=hbx.q11;clear hxx hbx;exact Qk):qP:=h
theorem ZT(h:qP:=by
 have hxx:=hR.o.kept0 (S:=fun b=>b<w9.heap.size∧b≠g4) fun b _ hb m hm=>absurd hm.2 hb.2;have hbx:=HB29.o.keep (hxx.mono fun b _ e=>Y99);have m12:w'.cell? ⟨g2,12,none⟩=some (.I ca.bo):=hbx.q12;clear hxx hbx;exact Qk):qP:=h
theorem AQA(h:qP:=by
 have hxx:=hR.o.kept0 (S:=fun b=>b<w9.heap.size∧b≠g4) fun b _ hb m hm=>absurd hm.2 hb.2;have hbx:=HB39.o.keep (hxx.mono fun b _ e=>I9);have m12:w'.cell? ⟨g3,12,none⟩=some (.I cb'.bo):=hbx.q12;clear hxx hbx;exact Qk):qP:=h
theorem BmA(h:qP:=by
 have hxx:=hR.o.kept0 (S:=fun b=>b<w9.heap.size∧b≠g4) fun b _ hb m hm=>absurd hm.2 hb.2;have hbx:=HB29.o.keep (hxx.mono fun b _ e=>Y99);have m13:w'.cell? ⟨g2,13,none⟩=some (.I ca.rl):=hbx.q13;have m14:w'.cell? ⟨g2,14,none⟩=some (.I ca.rh):=hbx.q14;clear hxx hbx;exact Qk):qP:=h
theorem BWA(h:qP:=by
 have hxx:=hR.o.kept0 (S:=fun b=>b<w9.heap.size∧b≠g4) fun b _ hb m hm=>absurd hm.2 hb.2;have hbx:=HB39.o.keep (hxx.mono fun b _ e=>I9);have m13:w'.cell? ⟨g3,13,none⟩=some (.I cb'.rl):=hbx.q13;have m14:w'.cell? ⟨g3,14,none⟩=some (.I cb'.rh):=hbx.q14;clear hxx hbx;exact Qk):qP:=h
theorem BgA(h:qP:=by
 have hxx:=hR.o.kept0 (S:=fun b=>b<w9.heap.size∧b≠g4) fun b _ hb m hm=>absurd hm.2 hb.2;have hbx:=HB29.o.keep (hxx.mono fun b _ e=>Y99);have m15:w'.cell? ⟨g2,15,none⟩=some (.slice A2 ca.cols.length c2):=hbx.q15;clear hxx hbx;exact Qk):qP:=h
theorem Xy(h:qP:=by
 have hxx:=hR.o.kept0 (S:=fun b=>b<w9.heap.size∧b≠g4) fun b _ hb m hm=>absurd hm.2 hb.2;have hbx:=HB39.o.keep (hxx.mono fun b _ e=>I9);have m15:w'.cell? ⟨g3,15,none⟩=some (.slice A3 cb'.cols.length c3):=hbx.q15;clear hxx hbx;exact Qk):qP:=h
theorem TY(h:qP:=by
 rintro v γ wx γ' wy rr ⟨g,h1,h2,h3⟩;exact ⟨g,h1,h2,h3.keep (rr.keptS (S:=fun b=>b=g) fun b _ e m hm=>by have:=hm.2;have:=G4L.o;omega)⟩):qP:=h
theorem UL(h:qP:=by
 intro vals γ w' ρ hR hN hp hρ zs zg;have HR:=hR;refine Qr ?_;exact ⟨γ,ExA _ γ (exaa _),fun _ _ _ h=>h,_,rfl,HR.o.size,Blk.new _ _ _⟩):qP:=h
theorem Zj(h:qP:=by
 rintro v γ wx γ' wy rr ⟨A,c,h1,h2⟩;exact ⟨A,c,h1,Own.keep h2.1 (rr.keptS fun b _ e m hm=>by have:=(h2.1.blk e).1;have:=hm.2;have:=G4L.o;omega),h2.2⟩):qP:=h
theorem Zm(h:qP:=by
 intro vals γ w' ρ hR hN hp hρ zs zg;obtain ⟨g,hv,hg,hb⟩:=hp.o 34 Y17;have e43:=(hρ.o 43).trans hv;have hk4:=hN.o.key (k:=1050) Y17;have hxx:=hR.o.ext0 (fun m b _ hm=>UE);have HXW:=Hd hxx;clear hxx hk4;have HBG:=Hd hb;have HG:=Hd hg;clear hb hg hv;have HR:=hR;refine Qr ?_;refine (HCS.o w' HXW.o g HBG.o).mono ?_;rintro e1 w3 ⟨A5,c5,he,ho,hx⟩;exact ⟨_,he,γ,ExA _ γ hx,fun _ _ _ h=>h,A5,c5,rfl,⟨ho.1.lower (by have h:=HR.o.size;simp at h;omega),ho.2⟩⟩):qP:=h
theorem YW(h:qP:=by
 have hxx:=hR.o.kept0 (S:=fun b=>b<w9.heap.size∧b≠g4) fun b _ hb m hm=>absurd hm.2 hb.2;have hbx:=HB29.o.keep (hxx.mono fun b _ e=>Y99);have m16:w'.cell? ⟨g2,16,none⟩=some (.slice D2 ca.deps.length e2):=hbx.q16;clear hxx hbx;exact Qk):qP:=h
theorem BNA(h:qP:=by
 have hxx:=hR.o.kept0 (S:=fun b=>b<w9.heap.size∧b≠g4) fun b _ hb m hm=>absurd hm.2 hb.2;have hbx:=HB39.o.keep (hxx.mono fun b _ e=>I9);have m16:w'.cell? ⟨g3,16,none⟩=some (.slice D3 cb'.deps.length e3):=hbx.q16;clear hxx hbx;exact Qk):qP:=h
theorem DrA(h:qP:=by
 have:=e.1;have:=HTL.o;have:=HGG.o;rcases e.1 with e1|e1;(have:=HTL.o b e1;omega);omega):qP:=h
theorem CXA(h:qP:=by
 have h4:=hm.2;have:=G4L.o
 rcases e with e|e
 ·have:=(h2.blk e).1;omega
 ·exact DrA):qP:=h
theorem X2(h:qP:=by
 rintro v γ wx γ' wy rr ⟨A,c,h1,h2⟩;exact ⟨A,c,h1,h2.keep (rr.keptS fun b _ e m hm=>by
  exact CXA)⟩):qP:=h
theorem XC(h:qP:=by
 intro vals γ w' ρ hR hN hp hρ zs zg;obtain ⟨g,hv,hg,hb⟩:=hp.o 40 Y17;have e49:=(hρ.o 49).trans hv;have hk4:=hN.o.key (k:=1050) Y17;have hxx:=hR.o.ext0 (fun m b _ hm=>UE);have HXW:=Hd hxx;clear hxx hk4;have HBG:=Hd hb;have HG:=Hd hg;clear hb hg hv;have HR:=hR;refine Qr ?_;refine (HCD.o w' HXW.o g HBG.o).mono ?_;rintro e1 w3 ⟨A5,c5,he,ho,hx⟩;exact ⟨_,he,γ,ExA _ γ hx,fun _ _ _ h=>h,A5,c5,rfl,ho.lower (by have h:=HR.o.size;simp at h;omega)⟩):qP:=h
theorem AuA(h:qP:=by
 have hxx:=hR.o.kept0 (S:=fun b=>b<w9.heap.size∧b≠g4) fun b _ hb m hm=>absurd hm.2 hb.2;have hbx:=HB29.o.keep (hxx.mono fun b _ e=>Y99);have m17:w'.cell? ⟨g2,17,none⟩=some (.bool ca.errs):=hbx.q17;clear hxx hbx;exact Qk):qP:=h
theorem DpA(h:qP:=by
 have h4:=hm.2;exact UO):qP:=h
theorem Tt(h:qP:=by
 rintro v γ wx γ' wy rr ⟨A,c,D,e,h1,h2⟩;exact ⟨A,c,D,e,h1,h2.keep (rr.keptS fun b _ hb m hm=>by
  exact DpA)⟩):qP:=h
theorem CbA(h:qP:=by
 exact HO5.o.strs (by have:=HZA.o.2.2.1;have:=HZB.o.2.2.1;show (ca.cols++cb'.cols).length≤_;rw [List.length_append];omega) (fun b hb=>.inr (by have:=(HO5.o.1.blk hb).1;have:=HSZ9.o;omega))):qP:=h
theorem EgA(h:qP:=by
 exact HO6.o.rdeps (by have:=HZA.o.2.2.2.1;have:=HZB.o.2.2.2.1;show (ca.deps++cb'.deps).length≤_;rw [List.length_append];omega) (fun b hb=>.inr (by have:=(HO6.o.blk hb).1;have:=HSZ9.o;omega)) (fun b hb=>hb.1)):qP:=h
theorem Yt(h:qP:=by
 rw [HRM.o];refine ⟨HO5.o.1.cap,?_,?_,?_⟩
 ·obtain ⟨hs,hhs,hoo,-⟩:=HO6.o.add;exact hoo.cap
 ·exact CbA
 ·exact EgA):qP:=h
theorem DPA(h:qP:=by
 rcases hb with hb|hb
 ·exact hb
 ·right;have h1:=HXW.o.size;have:=HSZ9.o;omega):qP:=h
theorem ZS(h:qP:=by
 intro vals γ w' ρ hR hN hp hρ zs zg;obtain ⟨A7,c7,D7,e7,hv48,hab⟩:=hp.o 48 Y17;have e57:=(hρ.o 57).trans hv48;have hk4:=hN.o.key (k:=1050) Y17;have hxx:=hR.o.ext0 (fun m b _ hm=>UE);have HXW:=Hd hxx;clear hxx hk4;have HAB:=Hd hab;have HR:=hR;clear hab hv48;refine Qr ?_;refine (AU rm A7 D7 c7 e7 w' _ HAB.o.2.2.1 HAB.o.2.2.2 (HT.o.ext (HX9.o.trans HXW.o)) HZM.o).mono ?_;rintro e1 w3 ⟨A8,c8,D8,e8,he,hab8,hx⟩;exact ⟨_,he,γ,ExA _ γ hx,fun _ _ _ h=>h,A8,c8,D8,e8,rfl,hab8.mono fun b _ hb=>by
  exact DPA⟩):qP:=h
theorem AVA(h:qP:=by
 rintro l γ wx γ' wy rr ⟨⟨A1,c1,D1,e1,h1,h2⟩,h3⟩;exact ⟨⟨A1,c1,D1,e1,h1.keep (rr.keptS (S:=fun b=>b=g4) fun b _ e m hm=>by rw [hm.1,h3,rr.done _ h3]),h2.keep (rr.keptS fun b _ hb m hm=>by rw [hm.1,h3,rr.done _ h3])⟩,rr.done _ h3⟩):qP:=h
theorem CBA(h:qP:=by
 intro vals γ w' ρ hR hN hp hρ hc hf hg;refine ⟨rfl,?_⟩;obtain ⟨A7,c7,D7,e7,hv49,hab⟩:=hp 49 Y17;have e58:=(hρ 58).trans hv49;have e4:=hρ 4;(conv at e4=>rhs;whnf);have hk0:=hN.key (k:=1050) Y17;have hb0:=HB49.o.keep (hR.kept0 (S:=fun b=>b=g4) fun b _ e m hm=>Y45);refine Ay 39 rfl e4 e58 hb0 AA rfl Y11 ?_;intro w4 hb4 ho4;exact ⟨γ.put 1050,EvA hk0 ho4.os ho4.tape ho4.output (Nat.le_of_eq ho4.size.symm) (fun b hb hm=>ho4.block b fun e=>hm ⟨rfl,e⟩),LK.done Y17,⟨A7,c7,D7,e7,hb4,hab.keep (ho4.kept fun b _ hb e=>by have:=HGG.o;rcases hb with hb|hb;(have:=HTL.o b hb;omega);omega)⟩,Y64⟩):qP:=h
theorem GP(a b:Abs)(A D B E:OA)(c e cb eb:Nat)(w:World)(S:NP)(hA:Strs w S A a.cols)(hD:RDeps w S D a.deps)(hB:Strs w S B b.cols)(hE:RDeps w S E b.deps)(ht:Tens w)(hz:AbN 20000 a)(hy:AbN 20000 b) :
  Cl 31 #[(Aq a A c D e),(Aq b B cb E eb)] w (DD w S (EW a b)):=by
 obtain ⟨w0,hw0⟩:=eqx (((w.alloc (.cells (Ap a A c D e) 39)).alloc (.cells (Ap b B cb E eb) 39)).alloc (.cells Az 39));obtain ⟨g2,hg2⟩:=eqx w.heap.size;obtain ⟨g3,hg3⟩:=eqx (w.heap.size+1);obtain ⟨g4,hg4⟩:=eqx (w.heap.size+2);obtain ⟨N,hN⟩:=eqx (w.heap.size+3);have hx0:Ext w w0:=Y54;have hb2:Blk w0 g2 39 (Ap a A c D e):=(by rw [hw0,hg2];exact (Blk.new _ _ _).keep ((exbb _).kept _));have hb3:Blk w0 g3 39 (Ap b B cb E eb):=(by rw [hw0,hg3];exact (EzA _ _ _ _).keep ((exaa _).kept _));have hb4:Blk w0 g4 39 Az:=(by rw [hw0,hg4];exact E5A _ _ _ _ _);have hs0:w0.heap.size=w.heap.size+3:=Y96;obtain ⟨HW0,HG2,HG3,HG4,HX0,HB2,HB3,HB4⟩:=Hd8 hw0 hg2 hg3 hg4 hx0 hb2 hb3 hb4;have HNN:=Hd (show N=w0.heap.size by omega);have HGG:=Hd (show w.heap.size=g2∧g3=g2+1∧g4=g2+2∧N=g2+3 by omega);obtain ⟨Ta,hTa⟩:∃ z:Nat→Prop,z=fun b=>S b∧b<w.heap.size:=⟨_,rfl⟩;have HTL:=Hd (show ∀ b,Ta b→b<w.heap.size from fun b hb=>TZ);have HTA:=Hd hTa;have XNO:=Hd (show ∀ m b,(Ta b∨N≤b)→¬((m=1004∧b=g2)∨(m=1005∧b=g3)) from fun m b hb hm=>by
  exact UO)
 have hA1:=hA.mono (T:=Ta) fun i hi hs=>GK;have hD1:=hD.mono (T:=Ta) fun i hi hs=>GK;have hB1:=hB.mono (T:=Ta) fun i hi hs=>GK;have hE1:=hE.mono (T:=Ta) fun i hi hs=>GK;obtain ⟨ca,hca⟩:=eqx (AM a);obtain ⟨cb',hcb⟩:=eqx (AM b);obtain ⟨HCA,HCB,HZA,HZB,HT,HAC,HBC⟩:=Hd7 (show ∀ w',Ext w0 w'→Cl 47 #[(Aq a A c D e)] w' (DD w' Ta ca) from fun w' hw'=>VV) (show ∀ w',Ext w0 w'→Cl 47 #[(Aq b B cb E eb)] w' (DD w' Ta cb') from fun w' hw'=>WP) (show AbN 20000 ca by rw [hca];exact hz.can) (show AbN 20000 cb' by rw [hcb];exact hy.can) ht hca hcb;clear hw0 hg2 hg3 hg4 hN hx0 hb2 hb3 hb4 hs0 hTa hA hD hB hE hA1 hD1 hB1 hE1 hca hcb ht hz hy
 go_enter func31,ntmps31
 go_upto_region 1 with fail
 rw [←HW0.o,←HG4.o,←HG3.o,←HG2.o];refine Qa (fun m b=>(m=1004∧b=g2)∨(m=1005∧b=g3)) [(0,[1004,1005]),(1,[1004,1005]),(2,[1005]),(3,[1004,1005]),(4,[1004,1005]),(5,[1005])] ?_;apply E2A (LZ.refl _) Y41
 ·exact WF
 ·rfl
 refine Qs (FP fun v γ w'=>JoP N Ta ca v w') (EuA ?_) ?_ ?_
 ·exact QZ
 ·exact V0
 apply E2A (LZ.refl _) Y41
 ·exact Ux
 ·rfl
 refine Qs (FP fun v γ w'=>JoP N Ta cb' v w') (EuA ?_) ?_ ?_
 ·exact QZ
 ·exact VB
 refine Chain.step (fun _ γ w'=>JoB g2 N Ta ca w'∧γ 1004=true) Y41 ?_ ?_ ?_
 ·exact WZ
 ·exact XW
 refine Chain.step (fun _ γ w'=>JoB g3 N Ta cb' w'∧γ 1005=true) Y41 ?_ ?_ ?_
 ·exact WY
 ·exact Y0
 intro vals γ w9 hR hG;obtain ⟨⟨A2,c2,D2,e2,hb29,hab2⟩,-⟩:=hG 4 Y17;obtain ⟨⟨A3,c3,D3,e3,hb39,hab3⟩,-⟩:=hG 5 Y17;obtain ⟨HB29,HB39,HAB2,HAB3,HX9,HB49,HSZ9⟩:=Hd7 hb29 hb39 hab2 hab3 (show Ext w w9 from AX HX0.o (hR.buts (S:=fun b=>b=g2∨b=g3) (fun m b _ hm _=>hm.imp And.right And.right)) (fun b hb=>MO)) (HB4.o.keep (hR.kept0 (S:=fun b=>b=g4) fun b _ e m hm=>by have:=HGG.o;rcases hm with ⟨_,h⟩|⟨_,h⟩<;>omega)) (show N≤w9.heap.size by have:=hR.size;have e0:w0.drew.heap.size=w0.heap.size:=rfl;have:=HNN.o;omega);refine Qx ?_;clear hR hG hb29 hb39 hab2 hab3;obtain ⟨k5,hk5⟩:=eqx (bits .and .i64 ca.kinds cb'.kinds);obtain ⟨b5,hb5⟩:=eqx (bits .and .i64 ca.bo cb'.bo);obtain ⟨tj,htj⟩:=eqx (CN ca.tx cb'.tx);obtain ⟨nj,hnj⟩:=eqx (Hx ca.nu cb'.nu);obtain ⟨d1,hd1⟩:=eqx ((Bj (ca.dl,ca.dh) (cb'.dl,cb'.dh)).1);obtain ⟨d2,hd2⟩:=eqx ((Bj (ca.dl,ca.dh) (cb'.dl,cb'.dh)).2);obtain ⟨r1,hr1⟩:=eqx ((Bj (ca.rl,ca.rh) (cb'.rl,cb'.rh)).1);obtain ⟨r2,hr2⟩:=eqx ((Bj (ca.rl,ca.rh) (cb'.rl,cb'.rh)).2);obtain ⟨er,her⟩:=eqx (ca.errs&&cb'.errs);have hor1:bits .and .i64 ca.kinds cb'.kinds=k5:=hk5.symm;have hor2:bits .and .i64 ca.bo cb'.bo=b5:=hb5.symm;have hza:=HZA.o;have hzb:=HZB.o;obtain ⟨HJS,HJI,HJD,HJR,HEQ,HER⟩:=Hd6 (show ∀ w',Cl 87 #[(Sq ca.tx),(Sq cb'.tx)] w' (Eg w' tj) from fun w'=>by rw [htj];exact OS ca.tx cb'.tx hza.1 hza.2.1 hzb.1 hzb.2.1 w') (show ∀ w',Ext w9 w'→Cl 88 #[(Rq ca.nu),(Rq cb'.nu)] w' (DJ w' nj) from fun w' hw'=>by rw [hnj];exact Kh ca.nu cb'.nu w' (HT.o.ext (HX9.o.trans hw'))) (show ∀ w',Cl 89 #[.agg #[.I ca.dl,.I ca.dh],.agg #[.I cb'.dl,.I cb'.dh]] w' (Bk w' (d1,d2)) from fun w'=>by rw [hd1,hd2];exact CO _ _ _ _ w') (show ∀ w',Cl 89 #[.agg #[.I ca.rl,.I ca.rh],.agg #[.I cb'.rl,.I cb'.rh]] w' (Bk w' (r1,r2)) from fun w'=>by rw [hr1,hr2];exact CO _ _ _ _ w') (show FM ca cb'=⟨k5,tj,nj,d1,d2,b5,r1,r2,ca.cols++cb'.cols,ca.deps++cb'.deps,er⟩ by rw [hk5,hb5,htj,hnj,hd1,hd2,hr1,hr2,her];rfl) her;clear hk5 hb5 htj hnj hd1 hd2 hr1 hr2 her hza hzb;obtain ⟨rm,hrm⟩:∃ z:Abs,z=⟨k5,tj,nj,d1,d2,b5,r1,r2,ca.cols++cb'.cols,ca.deps++cb'.deps,er⟩:=⟨_,rfl⟩;have HRM:=Hd hrm;have HEM:=Hd (show FM ca cb'=rm by rw [HEQ.o,hrm]);obtain ⟨HZM,G2L,G3L,G4L,HA29,HA39,HCS⟩:=Hd7 (show AbN 1000000 rm by rw [←HEM.o];exact (HZA.o.meetRaw HZB.o).mono Y17) (show g2<w9.heap.size∧g2≠g4 from ⟨HB29.o.lt,MO⟩) (show g3<w9.heap.size∧g3≠g4 from ⟨HB39.o.lt,MO⟩) (show g4<w9.heap.size from HB49.o.lt) (HAB2.o.mono (T:=S9 Ta N w9) fun i hi hs=>⟨hs,hi⟩) (HAB3.o.mono (T:=S9 Ta N w9) fun i hi hs=>⟨hs,hi⟩) (show ∀ w',Ext w9 w'→∀ g,Blk w' g 26 #[.slice A2 ca.cols.length c2,.slice A3 cb'.cols.length c3]→Cl 90 #[.slice (some ⟨g,0,none⟩) 2 2] w' (Um w' (ca.cols++cb'.cols)) from fun w' hw' g hb=>Jb _ _ A2 A3 c2 c3 g w' _ _ ((HAB2.o.keep (hw'.kept _)).2.2.1) ((HAB3.o.keep (hw'.kept _)).2.2.1) hb (by have:=HZA.o.2.2.1;omega) (by have:=HZB.o.2.2.1;omega));have HCD:=Hd (show ∀ w',Ext w9 w'→∀ g,Blk w' g 37 #[.slice D2 ca.deps.length e2,.slice D3 cb'.deps.length e3]→Cl 91 #[.slice (some ⟨g,0,none⟩) 2 2] w' (Uj w' (S9 Ta N w9) (ca.deps++cb'.deps)) from fun w' hw' g hb=>Jg _ _ D2 D3 e2 e3 g w' _ (fun b hb=>by have:=hb.2;have:=hw'.size;omega) ((HA29.o.keep (hw'.kept _)).2.2.2) ((HA39.o.keep (hw'.kept _)).2.2.2) hb (by have:=HZA.o.2.2.2.1;omega) (by have:=HZB.o.2.2.2.1;omega));clear hrm
 go_upto_region 2 with fail
 cases he:ca.errs
 ·have HTR:=Hd (show er=false by rw [HER.o,he];rfl);have htr:=HTR.o;refine Qa (fun m b=>m=1050∧b=g4) (lk 51 [1050]) ?_;refine Qp ?_;refine Qm (fun vals γ w' ρ hR hN hp hρ zs zg=>by
   exact CNA) ?_
  refine Qp ?_;refine Qm (fun vals γ w' ρ hR hN hp hρ zs zg=>by
   exact Zp) ?_
  iterate 2 refine Qp ?_
  refine Qm (fun vals γ w' ρ hR hN hp hρ zs zg=>by
   exact AhA) ?_
  refine Qp ?_;refine Qm (fun vals γ w' ρ hR hN hp hρ zs zg=>by
   exact AgA) ?_
  refine Qc (x:=(Sq tj)) (fun w'=>HJS.o w') ?_;refine Qp ?_;refine Qm (fun vals γ w' ρ hR hN hp hρ zs zg=>by
   exact Xr) ?_
  refine Qp ?_;refine Qm (fun vals γ w' ρ hR hN hp hρ zs zg=>by
   exact Zs) ?_
  refine Qg (Rq nj) ?_ ?_
  ·exact AKA
  refine Qp ?_;refine Qm (fun vals γ w' ρ hR hN hp hρ zs zg=>by
   exact XN) ?_
  refine Qp ?_;refine Qm (fun vals γ w' ρ hR hN hp hρ zs zg=>by
   exact X0) ?_
  refine Qc (x:=.agg #[.I d1,.I d2]) (fun w'=>HJD.o w') ?_;refine Qp ?_;refine Qm (fun vals γ w' ρ hR hN hp hρ zs zg=>by
   exact ZT) ?_
  refine Qp ?_;refine Qm (fun vals γ w' ρ hR hN hp hρ zs zg=>by
   exact AQA) ?_
  iterate 2 refine Qp ?_
  refine Qm (fun vals γ w' ρ hR hN hp hρ zs zg=>by
   exact BmA) ?_
  refine Qp ?_;refine Qm (fun vals γ w' ρ hR hN hp hρ zs zg=>by
   exact BWA) ?_
  refine Qc (x:=.agg #[.I r1,.I r2]) (fun w'=>HJR.o w') ?_;refine Qp ?_;refine Qm (fun vals γ w' ρ hR hN hp hρ zs zg=>by
   exact BgA) ?_
  refine Qp ?_;refine Qm (fun vals γ w' ρ hR hN hp hρ zs zg=>by
   exact Xy) ?_
  refine Qs (FP fun v γ w'=>MeB 26 #[.slice A2 ca.cols.length c2,.slice A3 cb'.cols.length c3] w9.heap.size v w') (EuA ?_) ?_ ?_
  ·exact TY
  ·exact UL
  refine Qs (FP fun v γ w'=>MeS w9.heap.size (ca.cols++cb'.cols) v w') (EuA ?_) ?_ ?_
  ·exact Zj
  ·exact Zm
  refine Qp ?_;refine Qm (fun vals γ w' ρ hR hN hp hρ zs zg=>by
   exact YW) ?_
  refine Qp ?_;refine Qm (fun vals γ w' ρ hR hN hp hρ zs zg=>by
   exact BNA) ?_
  refine Qs (FP fun v γ w'=>MeB 37 #[.slice D2 ca.deps.length e2,.slice D3 cb'.deps.length e3] w9.heap.size v w') (EuA ?_) ?_ ?_
  ·exact TY
  ·exact UL
  refine Qs (FP fun v γ w'=>MeD w9.heap.size (S9 Ta N w9) (ca.deps++cb'.deps) v w') (EuA ?_) ?_ ?_
  ·exact X2
  ·exact XC
  refine Qp ?_;refine Qm (fun vals γ w' ρ hR hN hp hρ zs zg=>by
   exact AuA) ?_
  refine Qp ?_
  iterate 2 refine Qn ?_
  refine Qp ?_;refine Qs (FP fun v γ w'=>MeA N Ta rm v w') (EuA ?_) ?_ ?_
  ·exact Tt
  ·intro vals γ w' ρ hR hN hp hρ zs zg;obtain ⟨A5,c5,hv35,ho35⟩:=hp.o 35 Y17;have e44:=(hρ.o 44).trans hv35;clear hv35;obtain ⟨A6,c6,hv41,ho41⟩:=hp.o 41 Y17;have e50:=(hρ.o 50).trans hv41;clear hv41;have HO5:=Hd ho35;have HO6:=Hd ho41;clear ho35 ho41;refine Qr ?_;refine ⟨γ,LZ.refl _ _ _,fun _ _ _ h=>h,A5,c5,A6,c6,?_,?_⟩
   ·rw [HRM.o,HTR.o];simp only [List.length_append];rfl
   ·exact Yt
  refine Qs (FP fun v γ w'=>MeA N Ta (AM rm) v w') (EuA ?_) ?_ ?_
  ·exact Tt
  ·exact ZS
  refine Chain.step (fun _ γ w'=>JoB g4 N Ta (AM rm) w'∧γ 1050=true) Y41 ?_ ?_ ?_
  ·exact AVA
  ·exact CBA
  intro vals γ w10 hR hG;refine Qx ?_;obtain ⟨⟨A7,c7,D7,e7,hb50,hab50⟩,-⟩:=hG 50 Y17;obtain ⟨HB50,HAB50,HX10⟩:=Hd3 hb50 hab50 (show Ext w w10 from AX HX9.o (hR.buts (S:=fun b=>b=g4) (fun m b _ hm _=>hm.2)) (fun b hb=>MO));clear hR hG hb50 hab50;go_wp2;refine bodyPost_ret (BR results31 rfl (DM HB50.o AH AA)) rfl ?_;have HEND:=Hd (show EW a b=AM rm by unfold EW;rw [←HAC.o,←HBC.o,HEM.o]);rw [HEND.o];refine ⟨A7,c7,D7,e7,rfl,HAB50.o.mono fun b _ hb => ?_,HX10.o⟩
  rcases hb with hb|hb
  ·exact Tv
  ·right;have:=HGG.o;omega
 ·have hce:cb'.errs=er:=(by rw [HER.o,he];rfl);refine Qa (fun m b=>m=1050∧b=g4) (lk 51 [1050]) ?_;refine Qp ?_;refine Qm (fun vals γ w' ρ hR hN hp hρ zs zg=>by
   exact CNA) ?_
  refine Qp ?_;refine Qm (fun vals γ w' ρ hR hN hp hρ zs zg=>by
   exact Zp) ?_
  iterate 2 refine Qp ?_
  refine Qm (fun vals γ w' ρ hR hN hp hρ zs zg=>by
   exact AhA) ?_
  refine Qp ?_;refine Qm (fun vals γ w' ρ hR hN hp hρ zs zg=>by
   exact AgA) ?_
  refine Qc (x:=(Sq tj)) (fun w'=>HJS.o w') ?_;refine Qp ?_;refine Qm (fun vals γ w' ρ hR hN hp hρ zs zg=>by
   exact Xr) ?_
  refine Qp ?_;refine Qm (fun vals γ w' ρ hR hN hp hρ zs zg=>by
   exact Zs) ?_
  refine Qg (Rq nj) ?_ ?_
  ·exact AKA
  refine Qp ?_;refine Qm (fun vals γ w' ρ hR hN hp hρ zs zg=>by
   exact XN) ?_
  refine Qp ?_;refine Qm (fun vals γ w' ρ hR hN hp hρ zs zg=>by
   exact X0) ?_
  refine Qc (x:=.agg #[.I d1,.I d2]) (fun w'=>HJD.o w') ?_;refine Qp ?_;refine Qm (fun vals γ w' ρ hR hN hp hρ zs zg=>by
   exact ZT) ?_
  refine Qp ?_;refine Qm (fun vals γ w' ρ hR hN hp hρ zs zg=>by
   exact AQA) ?_
  iterate 2 refine Qp ?_
  refine Qm (fun vals γ w' ρ hR hN hp hρ zs zg=>by
   exact BmA) ?_
  refine Qp ?_;refine Qm (fun vals γ w' ρ hR hN hp hρ zs zg=>by
   exact BWA) ?_
  refine Qc (x:=.agg #[.I r1,.I r2]) (fun w'=>HJR.o w') ?_;refine Qp ?_;refine Qm (fun vals γ w' ρ hR hN hp hρ zs zg=>by
   exact BgA) ?_
  refine Qp ?_;refine Qm (fun vals γ w' ρ hR hN hp hρ zs zg=>by
   exact Xy) ?_
  refine Qs (FP fun v γ w'=>MeB 26 #[.slice A2 ca.cols.length c2,.slice A3 cb'.cols.length c3] w9.heap.size v w') (EuA ?_) ?_ ?_
  ·exact TY
  ·exact UL
  refine Qs (FP fun v γ w'=>MeS w9.heap.size (ca.cols++cb'.cols) v w') (EuA ?_) ?_ ?_
  ·exact Zj
  ·exact Zm
  refine Qp ?_;refine Qm (fun vals γ w' ρ hR hN hp hρ zs zg=>by
   exact YW) ?_
  refine Qp ?_;refine Qm (fun vals γ w' ρ hR hN hp hρ zs zg=>by
   exact BNA) ?_
  refine Qs (FP fun v γ w'=>MeB 37 #[.slice D2 ca.deps.length e2,.slice D3 cb'.deps.length e3] w9.heap.size v w') (EuA ?_) ?_ ?_
  ·exact TY
  ·exact UL
  refine Qs (FP fun v γ w'=>MeD w9.heap.size (S9 Ta N w9) (ca.deps++cb'.deps) v w') (EuA ?_) ?_ ?_
  ·exact X2
  ·exact XC
  refine Qp ?_;refine Qm (fun vals γ w' ρ hR hN hp hρ zs zg=>by
   exact AuA) ?_
  iterate 2 refine Qp ?_
  refine Qm (fun vals γ w' ρ hR hN hp hρ zs zg=>by
   have hxx:=hR.o.kept0 (S:=fun b=>b<w9.heap.size∧b≠g4) fun b _ hb m hm=>absurd hm.2 hb.2;have hbx:=HB39.o.keep (hxx.mono fun b _ e=>I9);have m17:w'.cell? ⟨g3,17,none⟩=some (.bool cb'.errs):=hbx.q17;clear hxx hbx;exact Qk) ?_
  refine Qp ?_;refine Qs (FP fun v γ w'=>MeA N Ta rm v w') (EuA ?_) ?_ ?_
  ·exact Tt
  ·intro vals γ w' ρ hR hN hp hρ zs zg;obtain ⟨A5,c5,hv35,ho35⟩:=hp.o 35 Y17;have e44:=(hρ.o 44).trans hv35;clear hv35;obtain ⟨A6,c6,hv41,ho41⟩:=hp.o 41 Y17;have e50:=(hρ.o 50).trans hv41;clear hv41;have HO5:=Hd ho35;have HO6:=Hd ho41;clear ho35 ho41;refine Qr ?_;refine ⟨γ,LZ.refl _ _ _,fun _ _ _ h=>h,A5,c5,A6,c6,?_,?_⟩
   ·rw [HRM.o];simp only [List.length_append];rfl
   ·exact Yt
  refine Qs (FP fun v γ w'=>MeA N Ta (AM rm) v w') (EuA ?_) ?_ ?_
  ·exact Tt
  ·exact ZS
  refine Chain.step (fun _ γ w'=>JoB g4 N Ta (AM rm) w'∧γ 1050=true) Y41 ?_ ?_ ?_
  ·exact AVA
  ·exact CBA
  intro vals γ w10 hR hG;refine Qx ?_;obtain ⟨⟨A7,c7,D7,e7,hb50,hab50⟩,-⟩:=hG 50 Y17;obtain ⟨HB50,HAB50,HX10⟩:=Hd3 hb50 hab50 (show Ext w w10 from AX HX9.o (hR.buts (S:=fun b=>b=g4) (fun m b _ hm _=>hm.2)) (fun b hb=>MO));clear hR hG hb50 hab50;go_wp2;refine bodyPost_ret (BR results31 rfl (DM HB50.o AH AA)) rfl ?_;have HEND:=Hd (show EW a b=AM rm by unfold EW;rw [←HAC.o,←HBC.o,HEM.o]);rw [HEND.o];refine ⟨A7,c7,D7,e7,rfl,HAB50.o.mono fun b _ hb => ?_,HX10.o⟩
  rcases hb with hb|hb
  ·exact Tv
  ·right;have:=HGG.o;omega
end Go.Proofs.YtidacnalcdhckaaGreatDoor
