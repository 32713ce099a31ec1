/- Lemmas. No conditions. -/
import Derived.Test.YtidacnalcdhckaaGreatDoorOq28
set_option maxRecDepth 100000
set_option maxHeartbeats 4000000
namespace Go.Proofs.YtidacnalcdhckaaGreatDoor
open Go Go.RowKit Tryz
variable {qP:Prop}

theorem OV{a b m:Sh}(h1:false=AT a)(h2:false=AT b)(hm:CY a b=m)(h:(EA a.b m.b&&EA b.b m.b&&EB a.e m.e&&EB b.e m.e&&!AT m)=false):DN a b=H3A:=by
 unfold DN;rw [if_neg (by rw [←h1,←h2];simp),hm,if_neg];rintro ⟨g1,g2,g3,g4,g5⟩;rw [g1,g2,g3,g4,g5] at h;cases h
theorem ND{a b m:Sh}(h1:false=AT a)(h2:false=AT b)(hm:CY a b=m)(h:(EA a.b m.b&&EA b.b m.b&&EB a.e m.e&&EB b.e m.e&&!AT m)=true):DN a b=m:=by
 unfold DN;simp only [Bool.and_eq_true,Bool.not_eq_true'] at h;obtain ⟨⟨⟨⟨g1,g2⟩,g3⟩,g4⟩,g5⟩:=h;rw [if_neg (by rw [←h1,←h2];simp),hm,if_pos ⟨g1,g2,g3,g4,g5⟩]
def UpG(w:World)(v:Value):Prop:=∃ g,v=.pointer (some ⟨g,0,none⟩)∧w.heap.size≤g
theorem Tk(h:qP:=by
 refine bodyPost_ret (v:=(Sq H3A)) (by simp [results,results87,go_sem,r0,r1,r2,r3,r4]) rfl ⟨rfl,?_⟩;exact JI):qP:=h
theorem Iz(h:qP:=by
 obtain ⟨r0,r1,r2,r3,r4⟩:=hb4.qs5;have qf:=hb4.frozen;have ql:=hb4.lt;clear hx hb4 q3 q4 q8 q9 s0 s1 s2 s3 s4 sf sl
 go_wp2_with fail
 rw [HF.o];exact Tk):qP:=h
theorem Di(h:qP:=by
 have HF:=Hd (HE.o (by simp))
 go_wp2_with fail
 refine (HNO.o _).mono ?_;rintro e3 w3 ⟨rfl,hx⟩;have HX3:=Hd (HX2.o.trans (HXb.o.trans hx));have hb4:=(HB4_2.o.keep (HXb.o.kept _)).keep (hx.kept _);exact Iz):qP:=h
theorem IJ(h:qP:=by
 iterate 5 with_reducible refine Ext.set2 ?_ HG4.o _
 with_reducible exact HXF.o):qP:=h
theorem Il(h:qP:=by
 have q3:=HXL.o.cell k3.o;have q4:=HXL.o.cell k4.o;have q8:=HXL.o.cell k8.o;have q9:=HXL.o.cell k9.o;obtain ⟨s0,s1,s2,s3,s4⟩:=HBL.o.qs5;have sf:=HBL.o.frozen;have sl:=HBL.o.lt;have HF:=Hd (HE.o (by simp))
 go_wp2_with fail
 refine (HNO.o _).mono ?_;rintro e3 w3 ⟨rfl,hx⟩;have HX3:=Hd (HX2.o.trans (HXL.o.trans hx));have hb4:=(HB4_2.o.keep (HXL.o.kept _)).keep (hx.kept _);exact Iz):qP:=h
theorem Ia(h:qP:=by
 have HF:=Hd (HE.o (by simp))
 go_wp2_with fail
 refine (HNO.o _).mono ?_;rintro e3 w3 ⟨rfl,hx⟩;have HX3:=Hd (HX2.o.trans (HXa.o.trans hx));have hb4:=(HB4_2.o.keep (HXa.o.kept _)).keep (hx.kept _);exact Iz):qP:=h
theorem I0(h:qP:=by
 have HF:=Hd (HE.o (by simp))
 go_wp2_with fail
 refine (HNO.o _).mono ?_;rintro e3 w3 ⟨rfl,hx⟩;have HX3:=Hd (HX2.o.trans (HX9.o.trans hx));have hb4:=(HB4_2.o.keep (HX9.o.kept _)).keep (hx.kept _);exact Iz):qP:=h
theorem Cn(h:qP:=by rw [←hp1,←hp2,←hp3,←hp4,←hem];exact h):qP:=h
theorem IR(h:qP:=by rw [hp1];exact Fe _ _ w'):qP:=h
theorem IU(h:qP:=by rw [hp2];exact Fe _ _ w'):qP:=h
theorem Gw(h:qP:=by rw [hp3];exact Fh _ _ (by omega) w'):qP:=h
theorem Gd(h:qP:=by rw [hp4];exact Fh _ _ (by omega) w'):qP:=h
theorem GZ(h:qP:=by simp [results,results87,go_sem,r0,r1,r2,r3,r4]):qP:=h
theorem ASA(a b:Sh)(h1:a.b.size≤1000000000)(h2:a.e.size≤1000000000)(h3:b.b.size≤1000000000)(h4:b.e.size≤1000000000)(w:World):Cl 87 #[(Sq a),(Sq b)] w (G0 w (DN a b)):=by
 obtain ⟨w0,hw0⟩:=eqx (((w.alloc (.cells (Sp a) 32)).alloc (.cells (Sp b) 32)).alloc (.cells #[.I 0,.I 0,.I 0,.string ⟨#[]⟩,.string ⟨#[]⟩] 32));have hx0:Ext w w0:=CC;have hb2:Blk w0 w.heap.size 32 (Sp a):=FH;have hb3:Blk w0 (w.heap.size+1) 32 (Sp b):=Fc;have hb4:Blk w0 (w.heap.size+2) 32 #[.I 0,.I 0,.I 0,.string ⟨#[]⟩,.string ⟨#[]⟩]:=GP;obtain ⟨g2,hg2⟩:=eqx w.heap.size;obtain ⟨g3,hg3⟩:=eqx (w.heap.size+1);obtain ⟨g4,hg4⟩:=eqx (w.heap.size+2);rw [←hg2] at hb2;rw [←hg3] at hb3;rw [←hg4] at hb4;have HG4:=Hd (show w.heap.size≤g4 by omega);obtain ⟨la,hla⟩:=eqx (AQ a);obtain ⟨lb,hlb⟩:=eqx (AQ b);obtain ⟨ma,hma⟩:=eqx (BE a);obtain ⟨mb,hmb⟩:=eqx (BE b);obtain ⟨cc,hcc⟩:=eqx (bits .and .i64 (BL a) (BL b));obtain ⟨lm,hlm⟩:=eqx (max la lb);obtain ⟨mm,hmm⟩:=eqx (min ma mb);obtain ⟨HLA,HLB,HMA,HMB⟩:=Hd4 (show ∀ w',Cl 151 #[(Sq a)] w' (DG w' la) from fun w'=>by rw [hla];exact Df a w') (show ∀ w',Cl 151 #[(Sq b)] w' (DG w' lb) from fun w'=>by rw [hlb];exact Df b w') (show ∀ w',Cl 152 #[(Sq a)] w' (DG w' ma) from fun w'=>by rw [hma];exact Ed a w') (show ∀ w',Cl 152 #[(Sq b)] w' (DG w' mb) from fun w'=>by rw [hmb];exact Ed b w');obtain ⟨oa,hoa⟩:=eqx (BL a);obtain ⟨ob,hob⟩:=eqx (BL b);obtain ⟨HOA,HOB,HNO⟩:=Hd3 (show ∀ w',Cl 153 #[(Sq a)] w' (DG w' oa) from fun w'=>by rw [hoa];exact FD a w') (show ∀ w',Cl 153 #[(Sq b)] w' (DG w' ob) from fun w'=>by rw [hob];exact FD b w') (fun w'=>Hf w');have hlm':max la lb=lm:=hlm.symm;have hmm':min ma mb=mm:=hmm.symm;obtain ⟨HEA,HEB,HJ,HM⟩:=Hd4 (fun w'=>Ax a AA AA w') (fun w'=>Ax b AA AA w') (show AT a=true∨AT b=true→DN a b=H3A from fun h=>if_pos h) (show CY a b=⟨lm,mm,cc,if a.b.size<b.b.size then b.b else a.b,if a.e.size<b.e.size then b.e else a.e⟩ from by rw [hlm,hmm,hla,hlb,hma,hmb,hcc];rfl);have hor:bits .and .i64 oa ob=cc:=(by rw [hcc,hoa,hob]);obtain ⟨b1,hb1⟩:=eqx (AT a);obtain ⟨b2,hb2'⟩:=eqx (AT b);rw [←hb1] at HEA HJ;rw [←hb2'] at HEB HJ;have HN1:=Hd hb1;have HN2:=Hd hb2';clear hb1 hb2';obtain ⟨HX0,HW0,HE2,HE3,HE4,HB2_0,HB3_0,HB4_0⟩:=Hd8 hx0 hw0 hg2 hg3 hg4 hb2 hb3 hb4;obtain ⟨q0,q1,q2,q3,q4⟩:=hb2.qs5;obtain ⟨q5,q6,q7,q8,q9⟩:=hb3.qs5;clear hx0 hw0 hb2 hb3 hb4 hg2 hg3 hg4 hla hlb hma hmb hcc hoa hob hlm hmm
 go_enter func87,ntmps87
 go_upto_region 1 with fail
 rw [←HW0.o,show w.heap.size+1+1=g4 from HE4.o.symm,←HE3.o,←HE2.o];cases b1
 ·go_wp2_with fail
  refine (HEA.o _).mono ?_;rintro e1 w1 ⟨rfl,hx⟩;have HX1:=Hd (HX0.o.trans hx);have hb2:=HB2_0.o.keep (hx.kept _);have hb3:=HB3_0.o.keep (hx.kept _);have hb4:=HB4_0.o.keep (hx.kept _);obtain ⟨HB2_1,HB3_1,HB4_1⟩:=Hd3 hb2 hb3 hb4;clear q0 q1 q2 q3 q4 q5 q6 q7 q8 q9;obtain ⟨q0,q1,q2,q3,q4⟩:=hb2.qs5;obtain ⟨q5,q6,q7,q8,q9⟩:=hb3.qs5;clear hx hb2 hb3 hb4
  go_wp2_with fail
  refine (HEB.o _).mono ?_;rintro e2 w2 ⟨rfl,hx⟩;have HX2:=Hd (HX1.o.trans hx);have hb2:=HB2_1.o.keep (hx.kept _);have hb3:=HB3_1.o.keep (hx.kept _);have hb4:=HB4_1.o.keep (hx.kept _);obtain ⟨HB2_2,HB3_2,HB4_2⟩:=Hd3 hb2 hb3 hb4;clear q0 q1 q2 q3 q4 q5 q6 q7 q8 q9;obtain ⟨q0,q1,q2,q3,q4⟩:=hb2.qs5;obtain ⟨q5,q6,q7,q8,q9⟩:=hb3.qs5;clear hx hb2 hb3 hb4;cases b2
  ·obtain ⟨k0,k1,k2,k3,k4,k5,k6,k7⟩:=Hd8 q0 q1 q2 q3 q4 q5 q6 q7;have k8:=Hd q8;have k9:=Hd q9;clear q0 q1 q2 q3 q4 q5 q6 q7 q8 q9
   go_upto_region 3 with fail
   refine Qb (fun|21=>[20,21]|i=>[i]) (fun _ _=>False) [(21,[20])] ?_;refine Qp ?_;refine Qc (fun w'=>HLA.o w') ?_;refine Qp ?_;refine Qc (fun w'=>HLB.o w') ?_
   iterate 2 refine Qp ?_
   refine Qc (fun w'=>HMA.o w') ?_;refine Qp ?_;refine Qc (fun w'=>HMB.o w') ?_
   iterate 2 refine Qp ?_
   refine Qc (fun w'=>HOA.o w') ?_;refine Qp ?_;refine Qc (fun w'=>HOB.o w') ?_
   iterate 6 refine Qp ?_
   refine Qs (FP (VarX (fun _ _=>False) 20 32 5)) (H1A IAA) ?_ ?_
   ·intro vals γ w' ρ hR hN hp hρ zs zg;have HR:=hR;have HN:=hN;refine Qr ?_;exact ⟨γ.put 20 (some w'.heap.size),LX.new AB (HN.o.2 AB ⟨21,AB⟩) _ _,INA,VarX.new HR.o.inb0 rfl (fun _ _ h=>h.elim)⟩
   refine Chain.step (fun vl γ w'=>match vl with|[p,_]=>VarXI (fun _ _=>False) 32 p #[.I lm,.I mm,.I cc,.string a.b,.string a.e] γ w'∧UpG w2 p|_=>True) AG ?_ ?_ ?_
   ·exact Cm
   ·intro vals γ w' ρ hR hN hp hρ hc hf hg;refine ⟨rfl,?_⟩;have e32:ρ (.tmp 32)=_:=(hρ 32).trans (hp 19 AB);obtain ⟨g,⟨cl⟩,hv,hcs,hb,hk,hst⟩:=VarX.stored (hp 20 AB) (s:=21) (l:=[(21,[20])]) AB hN;have e5:=(hρ 5).trans hv
    match cl,hcs with
    |[x0,x1,x2,x3,x4],_ =>
     have hup:UpG w2 (vals 20):=⟨g,hv,by
       rcases Nat.lt_or_ge g w2.heap.size with h|h
       ·have h9:=hR.old 20 g hk h;cases h9
       ·exact h⟩
     obtain ⟨HST,HK,HB⟩:=Hd3 hst hk hb;obtain ⟨q0,q1,q2,q3,q4⟩:=hb.qs5;have qf:=hb.frozen;have ql:=hb.lt;clear hR hN hp hρ hst hk hb hv;go_light;go_simp;obtain ⟨g1,g2⟩:=HST.o _ #[.I lm,.I mm,.I cc,.string a.b,.string a.e] ((((((Only.refl g w').set 0 (.I lm)).set 1 (.I mm)).set 2 (.I cc)).set 3 (.string a.b)).set 4 (.string a.e)) (((((HB.o.set 0 (.I lm)).set 1 (.I mm)).set 2 (.I cc)).set 3 (.string a.b)).set 4 (.string a.e)) rfl;exact ⟨γ.put 20 none,g1,LM.done AB (.inl ⟨g,HK.o⟩),⟨g2,hup⟩⟩
   intro vals γ w9 hR hG;obtain ⟨⟨g5,v20,hb5,-,-⟩,g6,v20',hu6⟩:=hG 21 AB;have hu5:w2.heap.size≤g5:=by
    rw [v20] at v20';injection v20' with v20';injection v20' with v20';injection v20' with v20';omega
   have HU5:=Hd hu5;refine Qx ?_;simp only [v20];have HX9:=Hd (show Ext w2 w9 from hR.ext0 (fun _ _ h=>h.elim));have HB5:=Hd hb5;clear hR hG hb5 v20 v20' hu5 hu6;have q3:=HX9.o.cell k3.o;have q4:=HX9.o.cell k4.o;have q8:=HX9.o.cell k8.o;have q9:=HX9.o.cell k9.o;obtain ⟨s0,s1,s2,s3,s4⟩:=HB5.o.qs5;have sf:=HB5.o.frozen;have sl:=HB5.o.lt;by_cases hlt1:a.b.size<b.b.size
   ·have hq1:(a.b.size:Int)<(b.b.size:Int):=AA
    go_upto_region 6 with fail
    clear q3 q4 q8 q9 s0 s1 s2 s3 s4 sf sl;obtain ⟨wa,hw⟩:=eqx (w9.setCell ⟨g5,3,none⟩ (.string b.b));have HXa:=Hd (show Ext w2 wa by rw [hw];exact Ext.set2 HX9.o HU5.o _);have HBa:=Hd (show Blk wa g5 32 #[.I lm,.I mm,.I cc,.string b.b,.string a.e] by rw [hw];simpa using HB5.o.set 3 (.string b.b));rw [←hw];clear hw;have q3:=HXa.o.cell k3.o;have q4:=HXa.o.cell k4.o;have q8:=HXa.o.cell k8.o;have q9:=HXa.o.cell k9.o;obtain ⟨s0,s1,s2,s3,s4⟩:=HBa.o.qs5;have sf:=HBa.o.frozen;have sl:=HBa.o.lt;by_cases hlt2:a.e.size<b.e.size
    ·have hq2:(a.e.size:Int)<(b.e.size:Int):=AA
     go_upto_region 8 with fail
     clear q3 q4 q8 q9 s0 s1 s2 s3 s4 sf sl;obtain ⟨wb,hw⟩:=eqx (wa.setCell ⟨g5,4,none⟩ (.string b.e));have HXb:=Hd (show Ext w2 wb by rw [hw];exact Ext.set2 HXa.o HU5.o _);have HBb:=Hd (show Blk wb g5 32 #[.I lm,.I mm,.I cc,.string b.b,.string b.e] by rw [hw];simpa using HBa.o.set 4 (.string b.e));rw [←hw];clear hw;have q3:=HXb.o.cell k3.o;have q4:=HXb.o.cell k4.o;have q8:=HXb.o.cell k8.o;have q9:=HXb.o.cell k9.o;obtain ⟨s0,s1,s2,s3,s4⟩:=HBb.o.qs5;have sf:=HBb.o.frozen;have sl:=HBb.o.lt;have hm:=HM.o;rw [if_pos hlt1,if_pos hlt2] at hm;obtain ⟨em,hem⟩:=eqx (AT ⟨lm,mm,cc,b.b,b.e⟩);obtain ⟨p1,hp1⟩:=eqx (EA a.b b.b);obtain ⟨p2,hp2⟩:=eqx (EA b.b b.b);obtain ⟨p3,hp3⟩:=eqx (EB a.e b.e);obtain ⟨p4,hp4⟩:=eqx (EB b.e b.e);obtain ⟨HE,HY,HP1,HP2,HP3,HP4,HEM⟩:=Hd7 (show (p1&&p2&&p3&&p4&&!em)=false→DN a b=H3A from fun h=>OV HN1.o HN2.o hm Cn) (show (p1&&p2&&p3&&p4&&!em)=true→DN a b=⟨lm,mm,cc,b.b,b.e⟩ from fun h=>ND HN1.o HN2.o hm Cn) (show ∀ w',Cl 131 #[.string b.b,.string a.b] w' (SameB w' p1) from fun w'=>IR) (show ∀ w',Cl 131 #[.string b.b,.string b.b] w' (SameB w' p2) from fun w'=>IU) (show ∀ w',Cl 132 #[.string b.e,.string a.e] w' (SameB w' p3) from fun w'=>Gw) (show ∀ w',Cl 132 #[.string b.e,.string b.e] w' (SameB w' p4) from fun w'=>Gd) (show ∀ w',Cl 150 #[.agg #[.I lm,.I mm,.I cc,.string b.b,.string b.e]] w' (Ae w' em) from fun w'=>by rw [hem];exact Ax (Sh.mk lm mm cc b.b b.e) (show b.b.size≤4294967296 by omega) (show b.e.size≤4294967296 by omega) w');clear hm hem hp1 hp2 hp3 hp4
     go_wp2_with fail
     refine (HP1.o _).mono ?_;rintro e1 w1 ⟨rfl,rfl⟩;cases p1
     ·exact Di
     ·go_wp2_with fail
      refine (HP2.o _).mono ?_;rintro e1 w1 ⟨rfl,rfl⟩;cases p2
      ·exact Di
      ·go_wp2_with fail
       refine (HP3.o _).mono ?_;rintro e1 w1 ⟨rfl,rfl⟩;cases p3
       ·exact Di
       ·go_wp2_with fail
        refine (HP4.o _).mono ?_;rintro e1 w1 ⟨rfl,rfl⟩;cases p4
        ·exact Di
        ·go_wp2_with fail
         refine (HEM.o _).mono ?_;rintro e3 w3 ⟨rfl,hx⟩;have HXL:=Hd (HXb.o.trans hx);have HBL:=Hd (HBb.o.keep (hx.kept _));clear hx q3 q4 q8 q9 s0 s1 s2 s3 s4 sf sl;cases em
         ·have q3:=HXL.o.cell k3.o;have q4:=HXL.o.cell k4.o;have q8:=HXL.o.cell k8.o;have q9:=HXL.o.cell k9.o;obtain ⟨s0,s1,s2,s3,s4⟩:=HBL.o.qs5;have sf:=HBL.o.frozen;have sl:=HBL.o.lt;have hb4:=HB4_2.o.keep (HXL.o.kept _);obtain ⟨r0,r1,r2,r3,r4⟩:=hb4.qs5;have qf:=hb4.frozen;have ql:=hb4.lt;have HXF:=Hd (HX2.o.trans HXL.o);have HF:=Hd (HY.o AC);clear hb4
          go_wp2_with fail
          rw [HF.o];refine bodyPost_ret (v:=.agg #[.I lm,.I mm,.I cc,.string b.b,.string b.e]) GZ rfl ⟨rfl,?_⟩;exact IJ
         ·exact Il
    ·have hq2:¬(a.e.size:Int)<(b.e.size:Int):=AA
     go_upto_region 8 with fail
     have hm:=HM.o;rw [if_pos hlt1,if_neg hlt2] at hm;obtain ⟨em,hem⟩:=eqx (AT ⟨lm,mm,cc,b.b,a.e⟩);obtain ⟨p1,hp1⟩:=eqx (EA a.b b.b);obtain ⟨p2,hp2⟩:=eqx (EA b.b b.b);obtain ⟨p3,hp3⟩:=eqx (EB a.e a.e);obtain ⟨p4,hp4⟩:=eqx (EB b.e a.e);obtain ⟨HE,HY,HP1,HP2,HP3,HP4,HEM⟩:=Hd7 (show (p1&&p2&&p3&&p4&&!em)=false→DN a b=H3A from fun h=>OV HN1.o HN2.o hm Cn) (show (p1&&p2&&p3&&p4&&!em)=true→DN a b=⟨lm,mm,cc,b.b,a.e⟩ from fun h=>ND HN1.o HN2.o hm Cn) (show ∀ w',Cl 131 #[.string b.b,.string a.b] w' (SameB w' p1) from fun w'=>IR) (show ∀ w',Cl 131 #[.string b.b,.string b.b] w' (SameB w' p2) from fun w'=>IU) (show ∀ w',Cl 132 #[.string a.e,.string a.e] w' (SameB w' p3) from fun w'=>Gw) (show ∀ w',Cl 132 #[.string a.e,.string b.e] w' (SameB w' p4) from fun w'=>Gd) (show ∀ w',Cl 150 #[.agg #[.I lm,.I mm,.I cc,.string b.b,.string a.e]] w' (Ae w' em) from fun w'=>by rw [hem];exact Ax (Sh.mk lm mm cc b.b a.e) (show b.b.size≤4294967296 by omega) (show a.e.size≤4294967296 by omega) w');clear hm hem hp1 hp2 hp3 hp4
     go_wp2_with fail
     refine (HP1.o _).mono ?_;rintro e1 w1 ⟨rfl,rfl⟩;cases p1
     ·exact Ia
     ·go_wp2_with fail
      refine (HP2.o _).mono ?_;rintro e1 w1 ⟨rfl,rfl⟩;cases p2
      ·exact Ia
      ·go_wp2_with fail
       refine (HP3.o _).mono ?_;rintro e1 w1 ⟨rfl,rfl⟩;cases p3
       ·exact Ia
       ·go_wp2_with fail
        refine (HP4.o _).mono ?_;rintro e1 w1 ⟨rfl,rfl⟩;cases p4
        ·exact Ia
        ·go_wp2_with fail
         refine (HEM.o _).mono ?_;rintro e3 w3 ⟨rfl,hx⟩;have HXL:=Hd (HXa.o.trans hx);have HBL:=Hd (HBa.o.keep (hx.kept _));clear hx q3 q4 q8 q9 s0 s1 s2 s3 s4 sf sl;cases em
         ·have q3:=HXL.o.cell k3.o;have q4:=HXL.o.cell k4.o;have q8:=HXL.o.cell k8.o;have q9:=HXL.o.cell k9.o;obtain ⟨s0,s1,s2,s3,s4⟩:=HBL.o.qs5;have sf:=HBL.o.frozen;have sl:=HBL.o.lt;have hb4:=HB4_2.o.keep (HXL.o.kept _);obtain ⟨r0,r1,r2,r3,r4⟩:=hb4.qs5;have qf:=hb4.frozen;have ql:=hb4.lt;have HXF:=Hd (HX2.o.trans HXL.o);have HF:=Hd (HY.o AC);clear hb4
          go_wp2_with fail
          rw [HF.o];refine bodyPost_ret (v:=.agg #[.I lm,.I mm,.I cc,.string b.b,.string a.e]) GZ rfl ⟨rfl,?_⟩;exact IJ
         ·exact Il
   ·have hq1:¬(a.b.size:Int)<(b.b.size:Int):=AA
    go_upto_region 6 with fail
    by_cases hlt2:a.e.size<b.e.size
    ·have hq2:(a.e.size:Int)<(b.e.size:Int):=AA
     go_upto_region 8 with fail
     clear q3 q4 q8 q9 s0 s1 s2 s3 s4 sf sl;obtain ⟨wb,hw⟩:=eqx (w9.setCell ⟨g5,4,none⟩ (.string b.e));have HXb:=Hd (show Ext w2 wb by rw [hw];exact Ext.set2 HX9.o HU5.o _);have HBb:=Hd (show Blk wb g5 32 #[.I lm,.I mm,.I cc,.string a.b,.string b.e] by rw [hw];simpa using HB5.o.set 4 (.string b.e));rw [←hw];clear hw;have q3:=HXb.o.cell k3.o;have q4:=HXb.o.cell k4.o;have q8:=HXb.o.cell k8.o;have q9:=HXb.o.cell k9.o;obtain ⟨s0,s1,s2,s3,s4⟩:=HBb.o.qs5;have sf:=HBb.o.frozen;have sl:=HBb.o.lt;have hm:=HM.o;rw [if_neg hlt1,if_pos hlt2] at hm;obtain ⟨em,hem⟩:=eqx (AT ⟨lm,mm,cc,a.b,b.e⟩);obtain ⟨p1,hp1⟩:=eqx (EA a.b a.b);obtain ⟨p2,hp2⟩:=eqx (EA b.b a.b);obtain ⟨p3,hp3⟩:=eqx (EB a.e b.e);obtain ⟨p4,hp4⟩:=eqx (EB b.e b.e);obtain ⟨HE,HY,HP1,HP2,HP3,HP4,HEM⟩:=Hd7 (show (p1&&p2&&p3&&p4&&!em)=false→DN a b=H3A from fun h=>OV HN1.o HN2.o hm Cn) (show (p1&&p2&&p3&&p4&&!em)=true→DN a b=⟨lm,mm,cc,a.b,b.e⟩ from fun h=>ND HN1.o HN2.o hm Cn) (show ∀ w',Cl 131 #[.string a.b,.string a.b] w' (SameB w' p1) from fun w'=>IR) (show ∀ w',Cl 131 #[.string a.b,.string b.b] w' (SameB w' p2) from fun w'=>IU) (show ∀ w',Cl 132 #[.string b.e,.string a.e] w' (SameB w' p3) from fun w'=>Gw) (show ∀ w',Cl 132 #[.string b.e,.string b.e] w' (SameB w' p4) from fun w'=>Gd) (show ∀ w',Cl 150 #[.agg #[.I lm,.I mm,.I cc,.string a.b,.string b.e]] w' (Ae w' em) from fun w'=>by rw [hem];exact Ax (Sh.mk lm mm cc a.b b.e) (show a.b.size≤4294967296 by omega) (show b.e.size≤4294967296 by omega) w');clear hm hem hp1 hp2 hp3 hp4
     go_wp2_with fail
     refine (HP1.o _).mono ?_;rintro e1 w1 ⟨rfl,rfl⟩;cases p1
     ·exact Di
     ·go_wp2_with fail
      refine (HP2.o _).mono ?_;rintro e1 w1 ⟨rfl,rfl⟩;cases p2
      ·exact Di
      ·go_wp2_with fail
       refine (HP3.o _).mono ?_;rintro e1 w1 ⟨rfl,rfl⟩;cases p3
       ·exact Di
       ·go_wp2_with fail
        refine (HP4.o _).mono ?_;rintro e1 w1 ⟨rfl,rfl⟩;cases p4
        ·exact Di
        ·go_wp2_with fail
         refine (HEM.o _).mono ?_;rintro e3 w3 ⟨rfl,hx⟩;have HXL:=Hd (HXb.o.trans hx);have HBL:=Hd (HBb.o.keep (hx.kept _));clear hx q3 q4 q8 q9 s0 s1 s2 s3 s4 sf sl;cases em
         ·have q3:=HXL.o.cell k3.o;have q4:=HXL.o.cell k4.o;have q8:=HXL.o.cell k8.o;have q9:=HXL.o.cell k9.o;obtain ⟨s0,s1,s2,s3,s4⟩:=HBL.o.qs5;have sf:=HBL.o.frozen;have sl:=HBL.o.lt;have hb4:=HB4_2.o.keep (HXL.o.kept _);obtain ⟨r0,r1,r2,r3,r4⟩:=hb4.qs5;have qf:=hb4.frozen;have ql:=hb4.lt;have HXF:=Hd (HX2.o.trans HXL.o);have HF:=Hd (HY.o AC);clear hb4
          go_wp2_with fail
          rw [HF.o];refine bodyPost_ret (v:=.agg #[.I lm,.I mm,.I cc,.string a.b,.string b.e]) GZ rfl ⟨rfl,?_⟩;exact IJ
         ·exact Il
    ·have hq2:¬(a.e.size:Int)<(b.e.size:Int):=AA
     go_upto_region 8 with fail
     have hm:=HM.o;rw [if_neg hlt1,if_neg hlt2] at hm;obtain ⟨em,hem⟩:=eqx (AT ⟨lm,mm,cc,a.b,a.e⟩);obtain ⟨p1,hp1⟩:=eqx (EA a.b a.b);obtain ⟨p2,hp2⟩:=eqx (EA b.b a.b);obtain ⟨p3,hp3⟩:=eqx (EB a.e a.e);obtain ⟨p4,hp4⟩:=eqx (EB b.e a.e);obtain ⟨HE,HY,HP1,HP2,HP3,HP4,HEM⟩:=Hd7 (show (p1&&p2&&p3&&p4&&!em)=false→DN a b=H3A from fun h=>OV HN1.o HN2.o hm Cn) (show (p1&&p2&&p3&&p4&&!em)=true→DN a b=⟨lm,mm,cc,a.b,a.e⟩ from fun h=>ND HN1.o HN2.o hm Cn) (show ∀ w',Cl 131 #[.string a.b,.string a.b] w' (SameB w' p1) from fun w'=>IR) (show ∀ w',Cl 131 #[.string a.b,.string b.b] w' (SameB w' p2) from fun w'=>IU) (show ∀ w',Cl 132 #[.string a.e,.string a.e] w' (SameB w' p3) from fun w'=>Gw) (show ∀ w',Cl 132 #[.string a.e,.string b.e] w' (SameB w' p4) from fun w'=>Gd) (show ∀ w',Cl 150 #[.agg #[.I lm,.I mm,.I cc,.string a.b,.string a.e]] w' (Ae w' em) from fun w'=>by rw [hem];exact Ax (Sh.mk lm mm cc a.b a.e) (show a.b.size≤4294967296 by omega) (show a.e.size≤4294967296 by omega) w');clear hm hem hp1 hp2 hp3 hp4
     go_wp2_with fail
     refine (HP1.o _).mono ?_;rintro e1 w1 ⟨rfl,rfl⟩;cases p1
     ·exact I0
     ·go_wp2_with fail
      refine (HP2.o _).mono ?_;rintro e1 w1 ⟨rfl,rfl⟩;cases p2
      ·exact I0
      ·go_wp2_with fail
       refine (HP3.o _).mono ?_;rintro e1 w1 ⟨rfl,rfl⟩;cases p3
       ·exact I0
       ·go_wp2_with fail
        refine (HP4.o _).mono ?_;rintro e1 w1 ⟨rfl,rfl⟩;cases p4
        ·exact I0
        ·go_wp2_with fail
         refine (HEM.o _).mono ?_;rintro e3 w3 ⟨rfl,hx⟩;have HXL:=Hd (HX9.o.trans hx);have HBL:=Hd (HB5.o.keep (hx.kept _));clear hx q3 q4 q8 q9 s0 s1 s2 s3 s4 sf sl;cases em
         ·have q3:=HXL.o.cell k3.o;have q4:=HXL.o.cell k4.o;have q8:=HXL.o.cell k8.o;have q9:=HXL.o.cell k9.o;obtain ⟨s0,s1,s2,s3,s4⟩:=HBL.o.qs5;have sf:=HBL.o.frozen;have sl:=HBL.o.lt;have hb4:=HB4_2.o.keep (HXL.o.kept _);obtain ⟨r0,r1,r2,r3,r4⟩:=hb4.qs5;have qf:=hb4.frozen;have ql:=hb4.lt;have HXF:=Hd (HX2.o.trans HXL.o);have HF:=Hd (HY.o AC);clear hb4
          go_wp2_with fail
          rw [HF.o];refine bodyPost_ret (v:=.agg #[.I lm,.I mm,.I cc,.string a.b,.string a.e]) GZ rfl ⟨rfl,?_⟩;exact IJ
         ·exact Il
  ·go_wp2_with fail
   refine (HNO.o _).mono ?_;rintro e3 w3 ⟨rfl,hx⟩;have HX3:=Hd (HX2.o.trans hx);have hb2:=HB2_2.o.keep (hx.kept _);have hb3:=HB3_2.o.keep (hx.kept _);have hb4:=HB4_2.o.keep (hx.kept _);obtain ⟨HB2_3,HB3_3,HB4_3⟩:=Hd3 hb2 hb3 hb4;clear q0 q1 q2 q3 q4 q5 q6 q7 q8 q9;obtain ⟨q0,q1,q2,q3,q4⟩:=hb2.qs5;obtain ⟨q5,q6,q7,q8,q9⟩:=hb3.qs5;clear hx hb2 hb3 hb4;obtain ⟨r0,r1,r2,r3,r4⟩:=HB4_3.o.qs5;have qf:=HB4_3.o.frozen;have ql:=HB4_3.o.lt
   go_wp2_with fail
   rw [HJ.o AC];exact Tk
 ·go_wp2_with fail
  refine (HEA.o _).mono ?_;rintro e1 w1 ⟨rfl,hx⟩;have HX1:=Hd (HX0.o.trans hx);have hb2:=HB2_0.o.keep (hx.kept _);have hb3:=HB3_0.o.keep (hx.kept _);have hb4:=HB4_0.o.keep (hx.kept _);obtain ⟨HB2_1,HB3_1,HB4_1⟩:=Hd3 hb2 hb3 hb4;clear q0 q1 q2 q3 q4 q5 q6 q7 q8 q9;obtain ⟨q0,q1,q2,q3,q4⟩:=hb2.qs5;obtain ⟨q5,q6,q7,q8,q9⟩:=hb3.qs5;clear hx hb2 hb3 hb4
  go_wp2_with fail
  refine (HNO.o _).mono ?_;rintro e2 w2 ⟨rfl,hx⟩;have HX2:=Hd (HX1.o.trans hx);have hb2:=HB2_1.o.keep (hx.kept _);have hb3:=HB3_1.o.keep (hx.kept _);have hb4:=HB4_1.o.keep (hx.kept _);obtain ⟨HB2_2,HB3_2,HB4_2⟩:=Hd3 hb2 hb3 hb4;clear q0 q1 q2 q3 q4 q5 q6 q7 q8 q9;obtain ⟨q0,q1,q2,q3,q4⟩:=hb2.qs5;obtain ⟨q5,q6,q7,q8,q9⟩:=hb3.qs5;clear hx hb2 hb3 hb4;obtain ⟨r0,r1,r2,r3,r4⟩:=HB4_2.o.qs5;have qf:=HB4_2.o.frozen;have ql:=HB4_2.o.lt
  go_wp2_with fail
  rw [HJ.o AC];refine bodyPost_ret (v:=(Sq H3A)) GZ rfl ⟨rfl,?_⟩
  iterate 5 with_reducible refine Ext.set2 ?_ HG4.o _
  with_reducible exact HX2.o
end Go.Proofs.YtidacnalcdhckaaGreatDoor
