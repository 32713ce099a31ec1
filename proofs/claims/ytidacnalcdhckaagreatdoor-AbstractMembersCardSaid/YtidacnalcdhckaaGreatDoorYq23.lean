/- Lemmas. No conditions. -/
import Derived.Test.YtidacnalcdhckaaGreatDoorYq22
set_option maxRecDepth 100000
set_option maxHeartbeats 4000000
namespace Go.Proofs.YtidacnalcdhckaaGreatDoor
open Go Go.RowKit Tryz
variable {qP:Prop}{a b m:Sh}

theorem OV(h1:false=AT a)(h2:false=AT b)(hm:CY a b=m)(h:(EA a.b m.b&&EA b.b m.b&&EB a.e m.e&&EB b.e m.e&&!AT m)=false):DN a b=H3A:=by
 unfold DN;rw [if_neg (by rw [<-h1,<-h2];simp),hm,if_neg];rintro ⟨g1,g2,g3,O,g5⟩;rw [g1,g2,g3,O,g5] at h;cases h
theorem ND(h1:false=AT a)(h2:false=AT b)(hm:CY a b=m)(h:(EA a.b m.b&&EA b.b m.b&&EB a.e m.e&&EB b.e m.e&&!AT m)=true):DN a b=m:=by
 unfold DN;simp only [Bool.and_eq_true,Bool.not_eq_true'] at h;obtain ⟨⟨⟨⟨g1,g2⟩,g3⟩,O⟩,g5⟩:=h;rw [if_neg (by rw [<-h1,<-h2];simp),hm,if_pos ⟨g1,g2,g3,O,g5⟩]
def UpG(w:World)(v:Value):Prop:=∃ g,v=.pointer (some ⟨g,0,none⟩)/\w.heap.size<=g
theorem Tk(h:qP:=by
 refine bodyPost_ret (v:=(Sq H3A)) (by simp [results,results87,go_sem,r0,r1,r2,r3,r4]) rfl ⟨rfl,?_⟩;exact JI):qP:=h
theorem Iz(h:qP:=by
 obtain ⟨r0,r1,r2,r3,r4⟩:=hb4.qs5;have qf:=hb4.frozen;have ql:=hb4.lt;clear hx hb4 q3 q4 q8 q9 s0 s1 s2 s3 s4 sf sl
 go_wp2_with fail
 rw [HF.o];exact Tk):qP:=h
theorem Di(h:qP:=by
 have HF:=Hd (HE.o (by simp))
 go_wp2_with fail
 refine (HNO.o _).mono ?_;rintro e3 w3 ⟨rfl,hx⟩;have HX3:=Hd (HX2.o.trans (HXb.o.trans hx));have hb4:=(HB4_2.o.keep (HXb.o.kept _)).keep (hx.kept _);exact Iz):qP:=h
theorem IJ(h:qP:=by
 iterate 5 with_reducible refine Ext.set2 ?_ HG4.o _
 with_reducible exact HXF.o):qP:=h
theorem Il(h:qP:=by
 have q3:=HXL.o.cell k3.o;have q4:=HXL.o.cell k4.o;have q8:=HXL.o.cell k8.o;have q9:=HXL.o.cell k9.o;obtain ⟨s0,s1,s2,s3,s4⟩:=HBL.o.qs5;have sf:=HBL.o.frozen;have sl:=HBL.o.lt;have HF:=Hd (HE.o (by simp))
 go_wp2_with fail
 refine (HNO.o _).mono ?_;rintro e3 w3 ⟨rfl,hx⟩;have HX3:=Hd (HX2.o.trans (HXL.o.trans hx));have hb4:=(HB4_2.o.keep (HXL.o.kept _)).keep (hx.kept _);exact Iz):qP:=h
theorem Ia(h:qP:=by
 have HF:=Hd (HE.o (by simp))
 go_wp2_with fail
 refine (HNO.o _).mono ?_;rintro e3 w3 ⟨rfl,hx⟩;have HX3:=Hd (HX2.o.trans (HXa.o.trans hx));have hb4:=(HB4_2.o.keep (HXa.o.kept _)).keep (hx.kept _);exact Iz):qP:=h
theorem I0(h:qP:=by
 have HF:=Hd (HE.o (by simp))
 go_wp2_with fail
 refine (HNO.o _).mono ?_;rintro e3 w3 ⟨rfl,hx⟩;have HX3:=Hd (HX2.o.trans (HX9.o.trans hx));have hb4:=(HB4_2.o.keep (HX9.o.kept _)).keep (hx.kept _);exact Iz):qP:=h
theorem Cn(h:qP:=by rw [<-hp1,<-hp2,<-hp3,<-hp4,<-hem];exact h):qP:=h
theorem IR(h:qP:=by rw [hp1];exact Fe _ _ w'):qP:=h
theorem IU(h:qP:=by rw [hp2];exact Fe _ _ w'):qP:=h
theorem Gw(h:qP:=by rw [hp3];exact Fh _ _ (by omega) w'):qP:=h
theorem Gd(h:qP:=by rw [hp4];exact Fh _ _ (by omega) w'):qP:=h
theorem GZ(h:qP:=by simp [results,results87,go_sem,r0,r1,r2,r3,r4]):qP:=h
theorem ASA(a b:Sh)(h1:a.b.size<=1000000000)(h2:a.e.size<=1000000000)(h3:b.b.size<=1000000000)(h4:b.e.size<=1000000000)(w:World):Cl 87 #[(Sq a),(Sq b)] w (G0 w (DN a b)):=by
 obtain ⟨w0,hw0⟩:=eqx (((w.alloc (.cells (Sp a) 32)).alloc (.cells (Sp b) 32)).alloc (.cells #[.I 0,.I 0,.I 0,.string ⟨#[]⟩,.string ⟨#[]⟩] 32));have hx0:Ext w w0:=CC;have hb2:Blk w0 w.heap.size 32 (Sp a):=FH;have O:Blk w0 (w.heap.size+1) 32 (Sp b):=Fc;have hb4:Blk w0 (w.heap.size+2) 32 #[.I 0,.I 0,.I 0,.string ⟨#[]⟩,.string ⟨#[]⟩]:=GP;obtain ⟨g2,hg2⟩:=eqx w.heap.size;obtain ⟨g3,hg3⟩:=eqx (w.heap.size+1);obtain ⟨g4,hg4⟩:=eqx (w.heap.size+2);rw [<-hg2] at hb2;rw [<-hg3] at O;rw [<-hg4] at hb4;have HG4:=Hd (show w.heap.size<=g4 by omega);obtain ⟨la,f6⟩:=eqx (AQ a);obtain ⟨lb,f0⟩:=eqx (AQ b);obtain ⟨ma,f8⟩:=eqx (BE a);obtain ⟨mb,g0⟩:=eqx (BE b);obtain ⟨cc,f9⟩:=eqx (bits .and .i64 (BL a) (BL b));obtain ⟨U,f7⟩:=eqx (max la lb);obtain ⟨Y,f4⟩:=eqx (min ma mb);obtain ⟨HLA,HLB,HMA,HMB⟩:=Hd4 (show ∀ w',Cl 151 #[(Sq a)] w' (DG w' la) from λw'=>by rw [f6];exact Df a w') (show ∀ w',Cl 151 #[(Sq b)] w' (DG w' lb) from λw'=>by rw [f0];exact Df b w') (show ∀ w',Cl 152 #[(Sq a)] w' (DG w' ma) from λw'=>by rw [f8];exact Ed a w') (show ∀ w',Cl 152 #[(Sq b)] w' (DG w' mb) from λw'=>by rw [g0];exact Ed b w');obtain ⟨oa,f1⟩:=eqx (BL a);obtain ⟨ob,f2⟩:=eqx (BL b);obtain ⟨HOA,HOB,HNO⟩:=Hd3 (show ∀ w',Cl 153 #[(Sq a)] w' (DG w' oa) from λw'=>by rw [f1];exact FD a w') (show ∀ w',Cl 153 #[(Sq b)] w' (DG w' ob) from λw'=>by rw [f2];exact FD b w') (λw'=>Hf w');have hlm':max la lb=U:=f7.symm;have hmm':min ma mb=Y:=f4.symm;obtain ⟨f5,HEB,HJ,HM⟩:=Hd4 (λw'=>Bz a AA AA w') (λw'=>Bz b AA AA w') (show AT a=true\/AT b=true->DN a b=H3A from λh=>if_pos h) (show CY a b=⟨U,Y,cc,if a.b.size<b.b.size then b.b else a.b,if a.e.size<b.e.size then b.e else a.e⟩ from by rw [f7,f4,f6,f0,f8,g0,f9];rfl);have hor:bits .and .i64 oa ob=cc:=(by rw [f9,f1,f2]);obtain ⟨b1,hb1⟩:=eqx (AT a);obtain ⟨b2,d3⟩:=eqx (AT b);rw [<-hb1] at f5 HJ;rw [<-d3] at HEB HJ;have HN1:=Hd hb1;have HN2:=Hd d3;clear hb1 d3;obtain ⟨HX0,HW0,HE2,HE3,HE4,d8,d5,d7⟩:=Hd8 hx0 hw0 hg2 hg3 hg4 hb2 O hb4;obtain ⟨q0,q1,q2,q3,q4⟩:=hb2.qs5;obtain ⟨q5,q6,q7,q8,q9⟩:=O.qs5;clear hx0 hw0 hb2 O hb4 hg2 hg3 hg4 f6 f0 f8 g0 f9 f1 f2 f7 f4
 go_enter func87,ntmps87
 go_upto_region 1 with fail
 rw [<-HW0.o,show w.heap.size+1+1=g4 from HE4.o.symm,<-HE3.o,<-HE2.o];cases b1
 ·go_wp2_with fail
  refine (f5.o _).mono ?_;rintro e1 w1 ⟨rfl,hx⟩;have HX1:=Hd (HX0.o.trans hx);have hb2:=d8.o.keep (hx.kept _);have O:=d5.o.keep (hx.kept _);have hb4:=d7.o.keep (hx.kept _);obtain ⟨b8,b6,b5⟩:=Hd3 hb2 O hb4;clear q0 q1 q2 q3 q4 q5 q6 q7 q8 q9;obtain ⟨q0,q1,q2,q3,q4⟩:=hb2.qs5;obtain ⟨q5,q6,q7,q8,q9⟩:=O.qs5;clear hx hb2 O hb4
  go_wp2_with fail
  refine (HEB.o _).mono ?_;rintro e2 w2 ⟨rfl,hx⟩;have HX2:=Hd (HX1.o.trans hx);have hb2:=b8.o.keep (hx.kept _);have O:=b6.o.keep (hx.kept _);have hb4:=b5.o.keep (hx.kept _);obtain ⟨d6,d4,HB4_2⟩:=Hd3 hb2 O hb4;clear q0 q1 q2 q3 q4 q5 q6 q7 q8 q9;obtain ⟨q0,q1,q2,q3,q4⟩:=hb2.qs5;obtain ⟨q5,q6,q7,q8,q9⟩:=O.qs5;clear hx hb2 O hb4;cases b2
  ·obtain ⟨k0,k1,k2,k3,k4,k5,k6,k7⟩:=Hd8 q0 q1 q2 q3 q4 q5 q6 q7;have k8:=Hd q8;have k9:=Hd q9;clear q0 q1 q2 q3 q4 q5 q6 q7 q8 q9
   go_upto_region 3 with fail
   refine Qb (fun|21=>[20,21]|i=>[i]) (λ_ _=>False) [(21,[20])] ?_;refine Qp ?_;refine Qc (λw'=>HLA.o w') ?_;refine Qp ?_;refine Qc (λw'=>HLB.o w') ?_
   iterate 2 refine Qp ?_
   refine Qc (λw'=>HMA.o w') ?_;refine Qp ?_;refine Qc (λw'=>HMB.o w') ?_
   iterate 2 refine Qp ?_
   refine Qc (λw'=>HOA.o w') ?_;refine Qp ?_;refine Qc (λw'=>HOB.o w') ?_
   iterate 6 refine Qp ?_
   refine Qs (FP (VarX (λ_ _=>False) 20 32 5)) (H1A IAA) ?_ ?_
   ·intro vals γ w' ρ hR hN hp hρ zs zg;have HR:=hR;have HN:=hN;refine Qr ?_;exact ⟨γ.put 20 (some w'.heap.size),LX.new AB (HN.o.2 AB ⟨21,AB⟩) _ _,INA,VarX.new HR.o.inb0 rfl (λ_ _ h=>h.elim)⟩
   refine Chain.step (λvl γ w'=>match vl with|[p,_]=>VarXI (λ_ _=>False) 32 p #[.I U,.I Y,.I cc,.string a.b,.string a.e] γ w'/\UpG w2 p|_=>True) AG ?_ ?_ ?_
   ·exact Cm
   ·intro vals γ w' ρ hR hN hp hρ hc hf hg;refine ⟨rfl,?_⟩;have e32:ρ (.tmp 32)=_:=(hρ 32).trans (hp 19 AB);obtain ⟨g,⟨cl⟩,hv,hcs,hb,hk,hst⟩:=H8A (hp 20 AB) (s:=21) (l:=[(21,[20])]) AB hN;have e5:=(hρ 5).trans hv
    match cl,hcs with
    |[x0,x1,x2,x3,x4],_ =>
     have hup:UpG w2 (vals 20):=⟨g,hv,by
       rcases Nat.lt_or_ge g w2.heap.size with h|h
       ·have h9:=hR.old 20 g hk h;cases h9
       ·exact h⟩
     obtain ⟨HST,HK,HB⟩:=Hd3 hst hk hb;obtain ⟨q0,q1,q2,q3,q4⟩:=hb.qs5;have qf:=hb.frozen;have ql:=hb.lt;clear hR hN hp hρ hst hk hb hv;go_light;go_simp;obtain ⟨g1,g2⟩:=HST.o _ #[.I U,.I Y,.I cc,.string a.b,.string a.e] ((((((Only.refl g w').set 0 (.I U)).set 1 (.I Y)).set 2 (.I cc)).set 3 (.string a.b)).set 4 (.string a.e)) (((((HB.o.set 0 (.I U)).set 1 (.I Y)).set 2 (.I cc)).set 3 (.string a.b)).set 4 (.string a.e)) rfl;exact ⟨γ.put 20 none,g1,LM.done AB (.inl ⟨g,HK.o⟩),⟨g2,hup⟩⟩
   intro vals γ w9 hR hG;obtain ⟨⟨g5,d9,hb5,-,-⟩,g6,Z,hu6⟩:=hG 21 AB;have hu5:w2.heap.size<=g5:=by
    rw [d9] at Z;injection Z with Z;injection Z with Z;injection Z with Z;omega
   have HU5:=Hd hu5;refine Qx ?_;simp only [d9];have HX9:=Hd (show Ext w2 w9 from hR.ext0 (λ_ _ h=>h.elim));have HB5:=Hd hb5;clear hR hG hb5 d9 Z hu5 hu6;have q3:=HX9.o.cell k3.o;have q4:=HX9.o.cell k4.o;have q8:=HX9.o.cell k8.o;have q9:=HX9.o.cell k9.o;obtain ⟨s0,s1,s2,s3,s4⟩:=HB5.o.qs5;have sf:=HB5.o.frozen;have sl:=HB5.o.lt;by_cases hlt1:a.b.size<b.b.size
   ·have hq1:(a.b.size:Int)<(b.b.size:Int):=AA
    go_upto_region 6 with fail
    clear q3 q4 q8 q9 s0 s1 s2 s3 s4 sf sl;obtain ⟨wa,hw⟩:=eqx (w9.setCell ⟨g5,3,none⟩ (.string b.b));have HXa:=Hd (show Ext w2 wa by rw [hw];exact Ext.set2 HX9.o HU5.o _);have b9:=Hd (show Blk wa g5 32 #[.I U,.I Y,.I cc,.string b.b,.string a.e] by rw [hw];simpa using HB5.o.set 3 (.string b.b));rw [<-hw];clear hw;have q3:=HXa.o.cell k3.o;have q4:=HXa.o.cell k4.o;have q8:=HXa.o.cell k8.o;have q9:=HXa.o.cell k9.o;obtain ⟨s0,s1,s2,s3,s4⟩:=b9.o.qs5;have sf:=b9.o.frozen;have sl:=b9.o.lt;by_cases hlt2:a.e.size<b.e.size
    ·have f3:(a.e.size:Int)<(b.e.size:Int):=AA
     go_upto_region 8 with fail
     clear q3 q4 q8 q9 s0 s1 s2 s3 s4 sf sl;obtain ⟨wb,hw⟩:=eqx (wa.setCell ⟨g5,4,none⟩ (.string b.e));have HXb:=Hd (show Ext w2 wb by rw [hw];exact Ext.set2 HXa.o HU5.o _);have a8:=Hd (show Blk wb g5 32 #[.I U,.I Y,.I cc,.string b.b,.string b.e] by rw [hw];simpa using b9.o.set 4 (.string b.e));rw [<-hw];clear hw;have q3:=HXb.o.cell k3.o;have q4:=HXb.o.cell k4.o;have q8:=HXb.o.cell k8.o;have q9:=HXb.o.cell k9.o;obtain ⟨s0,s1,s2,s3,s4⟩:=a8.o.qs5;have sf:=a8.o.frozen;have sl:=a8.o.lt;have hm:=HM.o;rw [if_pos hlt1,if_pos hlt2] at hm;obtain ⟨em,hem⟩:=eqx (AT ⟨U,Y,cc,b.b,b.e⟩);obtain ⟨p1,hp1⟩:=eqx (EA a.b b.b);obtain ⟨p2,hp2⟩:=eqx (EA b.b b.b);obtain ⟨p3,hp3⟩:=eqx (EB a.e b.e);obtain ⟨p4,hp4⟩:=eqx (EB b.e b.e);obtain ⟨HE,HY,HP1,b0,b4,b3,a9⟩:=Hd7 (show (p1&&p2&&p3&&p4&&!em)=false->DN a b=H3A from λh=>OV HN1.o HN2.o hm Cn) (show (p1&&p2&&p3&&p4&&!em)=true->DN a b=⟨U,Y,cc,b.b,b.e⟩ from λh=>ND HN1.o HN2.o hm Cn) (show ∀ w',Cl 131 #[.string b.b,.string a.b] w' (SameB w' p1) from λw'=>IR) (show ∀ w',Cl 131 #[.string b.b,.string b.b] w' (SameB w' p2) from λw'=>IU) (show ∀ w',Cl 132 #[.string b.e,.string a.e] w' (SameB w' p3) from λw'=>Gw) (show ∀ w',Cl 132 #[.string b.e,.string b.e] w' (SameB w' p4) from λw'=>Gd) (show ∀ w',Cl 150 #[.agg #[.I U,.I Y,.I cc,.string b.b,.string b.e]] w' (Ae w' em) from λw'=>by rw [hem];exact Bz (Sh.mk U Y cc b.b b.e) (show b.b.size<=4294967296 by omega) (show b.e.size<=4294967296 by omega) w');clear hm hem hp1 hp2 hp3 hp4
     go_wp2_with fail
     refine (HP1.o _).mono ?_;rintro e1 w1 ⟨rfl,rfl⟩;cases p1
     ·exact Di
     ·go_wp2_with fail
      refine (b0.o _).mono ?_;rintro e1 w1 ⟨rfl,rfl⟩;cases p2
      ·exact Di
      ·go_wp2_with fail
       refine (b4.o _).mono ?_;rintro e1 w1 ⟨rfl,rfl⟩;cases p3
       ·exact Di
       ·go_wp2_with fail
        refine (b3.o _).mono ?_;rintro e1 w1 ⟨rfl,rfl⟩;cases p4
        ·exact Di
        ·go_wp2_with fail
         refine (a9.o _).mono ?_;rintro e3 w3 ⟨rfl,hx⟩;have HXL:=Hd (HXb.o.trans hx);have HBL:=Hd (a8.o.keep (hx.kept _));clear hx q3 q4 q8 q9 s0 s1 s2 s3 s4 sf sl;cases em
         ·have q3:=HXL.o.cell k3.o;have q4:=HXL.o.cell k4.o;have q8:=HXL.o.cell k8.o;have q9:=HXL.o.cell k9.o;obtain ⟨s0,s1,s2,s3,s4⟩:=HBL.o.qs5;have sf:=HBL.o.frozen;have sl:=HBL.o.lt;have hb4:=HB4_2.o.keep (HXL.o.kept _);obtain ⟨r0,r1,r2,r3,r4⟩:=hb4.qs5;have qf:=hb4.frozen;have ql:=hb4.lt;have HXF:=Hd (HX2.o.trans HXL.o);have HF:=Hd (HY.o AC);clear hb4
          go_wp2_with fail
          rw [HF.o];refine bodyPost_ret (v:=.agg #[.I U,.I Y,.I cc,.string b.b,.string b.e]) GZ rfl ⟨rfl,?_⟩;exact IJ
         ·exact Il
    ·have f3:¬(a.e.size:Int)<(b.e.size:Int):=AA
     go_upto_region 8 with fail
     have hm:=HM.o;rw [if_pos hlt1,if_neg hlt2] at hm;obtain ⟨em,hem⟩:=eqx (AT ⟨U,Y,cc,b.b,a.e⟩);obtain ⟨p1,hp1⟩:=eqx (EA a.b b.b);obtain ⟨p2,hp2⟩:=eqx (EA b.b b.b);obtain ⟨p3,hp3⟩:=eqx (EB a.e a.e);obtain ⟨p4,hp4⟩:=eqx (EB b.e a.e);obtain ⟨HE,HY,HP1,b0,b4,b3,a9⟩:=Hd7 (show (p1&&p2&&p3&&p4&&!em)=false->DN a b=H3A from λh=>OV HN1.o HN2.o hm Cn) (show (p1&&p2&&p3&&p4&&!em)=true->DN a b=⟨U,Y,cc,b.b,a.e⟩ from λh=>ND HN1.o HN2.o hm Cn) (show ∀ w',Cl 131 #[.string b.b,.string a.b] w' (SameB w' p1) from λw'=>IR) (show ∀ w',Cl 131 #[.string b.b,.string b.b] w' (SameB w' p2) from λw'=>IU) (show ∀ w',Cl 132 #[.string a.e,.string a.e] w' (SameB w' p3) from λw'=>Gw) (show ∀ w',Cl 132 #[.string a.e,.string b.e] w' (SameB w' p4) from λw'=>Gd) (show ∀ w',Cl 150 #[.agg #[.I U,.I Y,.I cc,.string b.b,.string a.e]] w' (Ae w' em) from λw'=>by rw [hem];exact Bz (Sh.mk U Y cc b.b a.e) (show b.b.size<=4294967296 by omega) (show a.e.size<=4294967296 by omega) w');clear hm hem hp1 hp2 hp3 hp4
     go_wp2_with fail
     refine (HP1.o _).mono ?_;rintro e1 w1 ⟨rfl,rfl⟩;cases p1
     ·exact Ia
     ·go_wp2_with fail
      refine (b0.o _).mono ?_;rintro e1 w1 ⟨rfl,rfl⟩;cases p2
      ·exact Ia
      ·go_wp2_with fail
       refine (b4.o _).mono ?_;rintro e1 w1 ⟨rfl,rfl⟩;cases p3
       ·exact Ia
       ·go_wp2_with fail
        refine (b3.o _).mono ?_;rintro e1 w1 ⟨rfl,rfl⟩;cases p4
        ·exact Ia
        ·go_wp2_with fail
         refine (a9.o _).mono ?_;rintro e3 w3 ⟨rfl,hx⟩;have HXL:=Hd (HXa.o.trans hx);have HBL:=Hd (b9.o.keep (hx.kept _));clear hx q3 q4 q8 q9 s0 s1 s2 s3 s4 sf sl;cases em
         ·have q3:=HXL.o.cell k3.o;have q4:=HXL.o.cell k4.o;have q8:=HXL.o.cell k8.o;have q9:=HXL.o.cell k9.o;obtain ⟨s0,s1,s2,s3,s4⟩:=HBL.o.qs5;have sf:=HBL.o.frozen;have sl:=HBL.o.lt;have hb4:=HB4_2.o.keep (HXL.o.kept _);obtain ⟨r0,r1,r2,r3,r4⟩:=hb4.qs5;have qf:=hb4.frozen;have ql:=hb4.lt;have HXF:=Hd (HX2.o.trans HXL.o);have HF:=Hd (HY.o AC);clear hb4
          go_wp2_with fail
          rw [HF.o];refine bodyPost_ret (v:=.agg #[.I U,.I Y,.I cc,.string b.b,.string a.e]) GZ rfl ⟨rfl,?_⟩;exact IJ
         ·exact Il
   ·have hq1:¬(a.b.size:Int)<(b.b.size:Int):=AA
    go_upto_region 6 with fail
    by_cases hlt2:a.e.size<b.e.size
    ·have f3:(a.e.size:Int)<(b.e.size:Int):=AA
     go_upto_region 8 with fail
     clear q3 q4 q8 q9 s0 s1 s2 s3 s4 sf sl;obtain ⟨wb,hw⟩:=eqx (w9.setCell ⟨g5,4,none⟩ (.string b.e));have HXb:=Hd (show Ext w2 wb by rw [hw];exact Ext.set2 HX9.o HU5.o _);have a8:=Hd (show Blk wb g5 32 #[.I U,.I Y,.I cc,.string a.b,.string b.e] by rw [hw];simpa using HB5.o.set 4 (.string b.e));rw [<-hw];clear hw;have q3:=HXb.o.cell k3.o;have q4:=HXb.o.cell k4.o;have q8:=HXb.o.cell k8.o;have q9:=HXb.o.cell k9.o;obtain ⟨s0,s1,s2,s3,s4⟩:=a8.o.qs5;have sf:=a8.o.frozen;have sl:=a8.o.lt;have hm:=HM.o;rw [if_neg hlt1,if_pos hlt2] at hm;obtain ⟨em,hem⟩:=eqx (AT ⟨U,Y,cc,a.b,b.e⟩);obtain ⟨p1,hp1⟩:=eqx (EA a.b a.b);obtain ⟨p2,hp2⟩:=eqx (EA b.b a.b);obtain ⟨p3,hp3⟩:=eqx (EB a.e b.e);obtain ⟨p4,hp4⟩:=eqx (EB b.e b.e);obtain ⟨HE,HY,HP1,b0,b4,b3,a9⟩:=Hd7 (show (p1&&p2&&p3&&p4&&!em)=false->DN a b=H3A from λh=>OV HN1.o HN2.o hm Cn) (show (p1&&p2&&p3&&p4&&!em)=true->DN a b=⟨U,Y,cc,a.b,b.e⟩ from λh=>ND HN1.o HN2.o hm Cn) (show ∀ w',Cl 131 #[.string a.b,.string a.b] w' (SameB w' p1) from λw'=>IR) (show ∀ w',Cl 131 #[.string a.b,.string b.b] w' (SameB w' p2) from λw'=>IU) (show ∀ w',Cl 132 #[.string b.e,.string a.e] w' (SameB w' p3) from λw'=>Gw) (show ∀ w',Cl 132 #[.string b.e,.string b.e] w' (SameB w' p4) from λw'=>Gd) (show ∀ w',Cl 150 #[.agg #[.I U,.I Y,.I cc,.string a.b,.string b.e]] w' (Ae w' em) from λw'=>by rw [hem];exact Bz (Sh.mk U Y cc a.b b.e) (show a.b.size<=4294967296 by omega) (show b.e.size<=4294967296 by omega) w');clear hm hem hp1 hp2 hp3 hp4
     go_wp2_with fail
     refine (HP1.o _).mono ?_;rintro e1 w1 ⟨rfl,rfl⟩;cases p1
     ·exact Di
     ·go_wp2_with fail
      refine (b0.o _).mono ?_;rintro e1 w1 ⟨rfl,rfl⟩;cases p2
      ·exact Di
      ·go_wp2_with fail
       refine (b4.o _).mono ?_;rintro e1 w1 ⟨rfl,rfl⟩;cases p3
       ·exact Di
       ·go_wp2_with fail
        refine (b3.o _).mono ?_;rintro e1 w1 ⟨rfl,rfl⟩;cases p4
        ·exact Di
        ·go_wp2_with fail
         refine (a9.o _).mono ?_;rintro e3 w3 ⟨rfl,hx⟩;have HXL:=Hd (HXb.o.trans hx);have HBL:=Hd (a8.o.keep (hx.kept _));clear hx q3 q4 q8 q9 s0 s1 s2 s3 s4 sf sl;cases em
         ·have q3:=HXL.o.cell k3.o;have q4:=HXL.o.cell k4.o;have q8:=HXL.o.cell k8.o;have q9:=HXL.o.cell k9.o;obtain ⟨s0,s1,s2,s3,s4⟩:=HBL.o.qs5;have sf:=HBL.o.frozen;have sl:=HBL.o.lt;have hb4:=HB4_2.o.keep (HXL.o.kept _);obtain ⟨r0,r1,r2,r3,r4⟩:=hb4.qs5;have qf:=hb4.frozen;have ql:=hb4.lt;have HXF:=Hd (HX2.o.trans HXL.o);have HF:=Hd (HY.o AC);clear hb4
          go_wp2_with fail
          rw [HF.o];refine bodyPost_ret (v:=.agg #[.I U,.I Y,.I cc,.string a.b,.string b.e]) GZ rfl ⟨rfl,?_⟩;exact IJ
         ·exact Il
    ·have f3:¬(a.e.size:Int)<(b.e.size:Int):=AA
     go_upto_region 8 with fail
     have hm:=HM.o;rw [if_neg hlt1,if_neg hlt2] at hm;obtain ⟨em,hem⟩:=eqx (AT ⟨U,Y,cc,a.b,a.e⟩);obtain ⟨p1,hp1⟩:=eqx (EA a.b a.b);obtain ⟨p2,hp2⟩:=eqx (EA b.b a.b);obtain ⟨p3,hp3⟩:=eqx (EB a.e a.e);obtain ⟨p4,hp4⟩:=eqx (EB b.e a.e);obtain ⟨HE,HY,HP1,b0,b4,b3,a9⟩:=Hd7 (show (p1&&p2&&p3&&p4&&!em)=false->DN a b=H3A from λh=>OV HN1.o HN2.o hm Cn) (show (p1&&p2&&p3&&p4&&!em)=true->DN a b=⟨U,Y,cc,a.b,a.e⟩ from λh=>ND HN1.o HN2.o hm Cn) (show ∀ w',Cl 131 #[.string a.b,.string a.b] w' (SameB w' p1) from λw'=>IR) (show ∀ w',Cl 131 #[.string a.b,.string b.b] w' (SameB w' p2) from λw'=>IU) (show ∀ w',Cl 132 #[.string a.e,.string a.e] w' (SameB w' p3) from λw'=>Gw) (show ∀ w',Cl 132 #[.string a.e,.string b.e] w' (SameB w' p4) from λw'=>Gd) (show ∀ w',Cl 150 #[.agg #[.I U,.I Y,.I cc,.string a.b,.string a.e]] w' (Ae w' em) from λw'=>by rw [hem];exact Bz (Sh.mk U Y cc a.b a.e) (show a.b.size<=4294967296 by omega) (show a.e.size<=4294967296 by omega) w');clear hm hem hp1 hp2 hp3 hp4
     go_wp2_with fail
     refine (HP1.o _).mono ?_;rintro e1 w1 ⟨rfl,rfl⟩;cases p1
     ·exact I0
     ·go_wp2_with fail
      refine (b0.o _).mono ?_;rintro e1 w1 ⟨rfl,rfl⟩;cases p2
      ·exact I0
      ·go_wp2_with fail
       refine (b4.o _).mono ?_;rintro e1 w1 ⟨rfl,rfl⟩;cases p3
       ·exact I0
       ·go_wp2_with fail
        refine (b3.o _).mono ?_;rintro e1 w1 ⟨rfl,rfl⟩;cases p4
        ·exact I0
        ·go_wp2_with fail
         refine (a9.o _).mono ?_;rintro e3 w3 ⟨rfl,hx⟩;have HXL:=Hd (HX9.o.trans hx);have HBL:=Hd (HB5.o.keep (hx.kept _));clear hx q3 q4 q8 q9 s0 s1 s2 s3 s4 sf sl;cases em
         ·have q3:=HXL.o.cell k3.o;have q4:=HXL.o.cell k4.o;have q8:=HXL.o.cell k8.o;have q9:=HXL.o.cell k9.o;obtain ⟨s0,s1,s2,s3,s4⟩:=HBL.o.qs5;have sf:=HBL.o.frozen;have sl:=HBL.o.lt;have hb4:=HB4_2.o.keep (HXL.o.kept _);obtain ⟨r0,r1,r2,r3,r4⟩:=hb4.qs5;have qf:=hb4.frozen;have ql:=hb4.lt;have HXF:=Hd (HX2.o.trans HXL.o);have HF:=Hd (HY.o AC);clear hb4
          go_wp2_with fail
          rw [HF.o];refine bodyPost_ret (v:=.agg #[.I U,.I Y,.I cc,.string a.b,.string a.e]) GZ rfl ⟨rfl,?_⟩;exact IJ
         ·exact Il
  ·go_wp2_with fail
   refine (HNO.o _).mono ?_;rintro e3 w3 ⟨rfl,hx⟩;have HX3:=Hd (HX2.o.trans hx);have hb2:=d6.o.keep (hx.kept _);have O:=d4.o.keep (hx.kept _);have hb4:=HB4_2.o.keep (hx.kept _);obtain ⟨HB2_3,HB3_3,b7⟩:=Hd3 hb2 O hb4;clear q0 q1 q2 q3 q4 q5 q6 q7 q8 q9;obtain ⟨q0,q1,q2,q3,q4⟩:=hb2.qs5;obtain ⟨q5,q6,q7,q8,q9⟩:=O.qs5;clear hx hb2 O hb4;obtain ⟨r0,r1,r2,r3,r4⟩:=b7.o.qs5;have qf:=b7.o.frozen;have ql:=b7.o.lt
   go_wp2_with fail
   rw [HJ.o AC];exact Tk
 ·go_wp2_with fail
  refine (f5.o _).mono ?_;rintro e1 w1 ⟨rfl,hx⟩;have HX1:=Hd (HX0.o.trans hx);have hb2:=d8.o.keep (hx.kept _);have O:=d5.o.keep (hx.kept _);have hb4:=d7.o.keep (hx.kept _);obtain ⟨b8,b6,b5⟩:=Hd3 hb2 O hb4;clear q0 q1 q2 q3 q4 q5 q6 q7 q8 q9;obtain ⟨q0,q1,q2,q3,q4⟩:=hb2.qs5;obtain ⟨q5,q6,q7,q8,q9⟩:=O.qs5;clear hx hb2 O hb4
  go_wp2_with fail
  refine (HNO.o _).mono ?_;rintro e2 w2 ⟨rfl,hx⟩;have HX2:=Hd (HX1.o.trans hx);have hb2:=b8.o.keep (hx.kept _);have O:=b6.o.keep (hx.kept _);have hb4:=b5.o.keep (hx.kept _);obtain ⟨d6,d4,HB4_2⟩:=Hd3 hb2 O hb4;clear q0 q1 q2 q3 q4 q5 q6 q7 q8 q9;obtain ⟨q0,q1,q2,q3,q4⟩:=hb2.qs5;obtain ⟨q5,q6,q7,q8,q9⟩:=O.qs5;clear hx hb2 O hb4;obtain ⟨r0,r1,r2,r3,r4⟩:=HB4_2.o.qs5;have qf:=HB4_2.o.frozen;have ql:=HB4_2.o.lt
  go_wp2_with fail
  rw [HJ.o AC];refine bodyPost_ret (v:=(Sq H3A)) GZ rfl ⟨rfl,?_⟩
  iterate 5 with_reducible refine Ext.set2 ?_ HG4.o _
  with_reducible exact HX2.o

def MeB(t:TypeId)(cs:Array Value)(N:Nat)(v:Value)(w':World):Prop:=∃ g:Nat,v=.slice (some ⟨g,0,none⟩) 2 2/\N<=g/\Blk w' g t cs
def MeS(N:Nat)(l:List BA)(v:Value)(w':World):Prop:=∃ (A:OA) (c:Nat),v=.slice A l.length c/\OwnSs w' N A c l
def MeD(N:Nat)(S:NP)(l:List Dep)(v:Value)(w':World):Prop:=∃ (A:OA) (c:Nat),v=.slice A l.length c/\OwnDs w' N S A c l
def MeA(N:Nat)(T:NP)(s:Abs)(v:Value)(w':World):Prop:=∃ (A:OA) (c:Nat) (D:OA) (e:Nat),v=(Aq s A c D e)/\AbM w' (λb=>T b\/N<=b) s A c D e
theorem RQ(h:qP:=by
  intro vals γ w' ρ hR hN hp hρ hc hf hg
  refine ⟨rfl,?_⟩
  have e2:=hρ 2
  conv at e2=>rhs;whnf
  obtain ⟨A1,c1,D1,e1,hv,hab⟩:=hp 1 (by decide)
  have e6:=(hρ 6).trans hv
  have hk0:=hN.key (k:=1004) (by decide)
  have hgg:=HGG.o
  have hb0:=HB2.o.keep (hR.kept0 (S:=λb=>b=g2) λb _ e m hm=>by rcases hm with ⟨rfl,h⟩|⟨rfl,h⟩;exact hk0;omega)
  refine BY 39 rfl e2 e6 hb0 AH rfl (by kernel_rfl) ?_
  exact SH):qP:=h
theorem PA(h:qP:=by
  intro vals γ w' ρ hR hN hp hρ hc hf hg
  refine ⟨rfl,?_⟩
  have e3:=hρ 3
  conv at e3=>rhs;whnf
  obtain ⟨A1,c1,D1,e1,hv,hab⟩:=hp 3 (by decide)
  have e8:=(hρ 8).trans hv
  have hk0:=hN.key (k:=1005) (by decide)
  have hgg:=HGG.o
  have hb0:=HB3.o.keep (hR.kept0 (S:=λb=>b=g3) λb _ e m hm=>by rcases hm with ⟨rfl,h⟩|⟨rfl,h⟩;omega;exact hk0)
  refine BY 39 rfl e3 e8 hb0 AH rfl (by kernel_rfl) ?_
  exact R0):qP:=h
theorem Iu(h:qP:=by
  rintro v γ wx γ' wy rr ⟨g,h1,h2,h3⟩
  exact ⟨g,h1,h2,h3.keep (rr.keptS (S:=λb=>b=g) λb _ e m hm=>by have:=hm.2;have:=G4L.o;omega)⟩):qP:=h
theorem JB(h:qP:=by
  intro vals γ w' ρ hR hN hp hρ zs zg
  have HR:=hR
  refine Qr ?_
  exact ⟨γ,H4A _ γ (exaa _),λ_ _ _ h=>h,_,rfl,HR.o.size,Blk.new _ _ _⟩):qP:=h
theorem AGA(h:qP:=by
  have h4:=hm.2
  exact IS):qP:=h
theorem JH(h:qP:=by
  rintro v γ wx γ' wy rr ⟨A,c,D,e,h1,h2⟩
  exact ⟨A,c,D,e,h1,h2.keep (rr.keptS λb _ hb m hm=>by
    exact AGA)⟩):qP:=h
theorem Iw(h:qP:=by rw [hm.1];exact hk4):qP:=h
theorem KH(a b:Abs)(A D B E:OA)(c e cb eb:Nat)(w:World)(S:NP)(hA:Strs w S A a.cols)(hD:RDeps w S D a.deps)(hB:Strs w S B b.cols)(hE:RDeps w S E b.deps)(ht:Tens w)(hz:AbN 20000 a)(hy:AbN 20000 b) :
    Cl 31 #[(Aq a A c D e),(Aq b B cb E eb)] w (Eh w S (Gq a b)):=by
  obtain ⟨w0,hw0⟩:=eqx (((w.alloc (.cells (Ap a A c D e) 39)).alloc (.cells (Ap b B cb E eb) 39)).alloc (.cells Az 39))
  obtain ⟨g2,hg2⟩:=eqx w.heap.size
  obtain ⟨g3,hg3⟩:=eqx (w.heap.size+1)
  obtain ⟨O,hg4⟩:=eqx (w.heap.size+2)
  obtain ⟨N,hN⟩:=eqx (w.heap.size+3)
  have hx0:Ext w w0:=CC
  have hb2:Blk w0 g2 39 (Ap a A c D e):=by rw [hw0,hg2];exact (Blk.new _ _ _).keep ((exbb _).kept _)
  have hb3:Blk w0 g3 39 (Ap b B cb E eb):=by rw [hw0,hg3];exact (H6A _ _ _ _).keep ((exaa _).kept _)
  have hb4:Blk w0 O 39 Az:=by rw [hw0,hg4];exact ICA _ _ _ _ _
  have hs0:w0.heap.size=w.heap.size+3:=GM
  obtain ⟨HW0,HG2,HG3,HG4,HX0,HB2,HB3,HB4⟩:=Hd8 hw0 hg2 hg3 hg4 hx0 hb2 hb3 hb4
  have HNN:=Hd (show N=w0.heap.size by omega)
  have HGG:=Hd (show w.heap.size=g2/\g3=g2+1/\O=g2+2/\N=g2+3 by omega)
  obtain ⟨Ta,hTa⟩:∃ z:Nat->Prop,z=λb=>S b/\b<w.heap.size:=⟨_,rfl⟩
  have HTL:=Hd (show ∀ b,Ta b->b<w.heap.size from λb hb=>JP)
  have HTA:=Hd hTa
  have XNO:=Hd (show ∀ m b,(Ta b\/N<=b)->¬((m=1004/\b=g2)\/(m=1005/\b=g3)) from λm b hb hm=>by
    exact IS)
  have hA1:=hA.mono (T:=Ta) λi hi hs=>BV
  have hD1:=hD.mono (T:=Ta) λi hi hs=>BV
  have hB1:=hB.mono (T:=Ta) λi hi hs=>BV
  have hE1:=hE.mono (T:=Ta) λi hi hs=>BV
  obtain ⟨ca,hca⟩:=eqx (AX a)
  obtain ⟨cb',hcb⟩:=eqx (AX b)
  obtain ⟨HCA,HCB,a8,Z,HT,HAC,HBC⟩:=Hd7 (show ∀ w',Ext w0 w'->Cl 47 #[(Aq a A c D e)] w' (Eh w' Ta ca) from λw' hw'=>Kn) (show ∀ w',Ext w0 w'->Cl 47 #[(Aq b B cb E eb)] w' (Eh w' Ta cb') from λw' hw'=>Kf) (show AbN 20000 ca by rw [hca];exact hz.can) (show AbN 20000 cb' by rw [hcb];exact hy.can) ht hca hcb
  clear hw0 hg2 hg3 hg4 hN hx0 hb2 hb3 hb4 hs0 hTa hA hD hB hE hA1 hD1 hB1 hE1 hca hcb ht hz hy
  go_enter func31,ntmps31
  go_upto_region 1 with fail
  rw [<-HW0.o,<-HG4.o,<-HG3.o,<-HG2.o]
  refine Qa (λm b=>(m=1004/\b=g2)\/(m=1005/\b=g3)) [(0,[1004,1005]),(1,[1004,1005]),(2,[1005]),(3,[1004,1005]),(4,[1004,1005]),(5,[1005])] ?_
  apply H9A (LZ.refl _) AG
  · exact LA
  · rfl
  refine Qs (FP λv γ w'=>JoP N Ta ca v w') (H1A ?_) ?_ ?_
  · exact FA
  · exact Ls
  apply H9A (LZ.refl _) AG
  · exact Km
  · rfl
  refine Qs (FP λv γ w'=>JoP N Ta cb' v w') (H1A ?_) ?_ ?_
  · exact FA
  · exact Mh
  refine Chain.step (λ_ γ w'=>JoB g2 N Ta ca w'/\γ 1004=true) AG ?_ ?_ ?_
  · exact Ku
  · exact RQ
  refine Chain.step (λ_ γ w'=>JoB g3 N Ta cb' w'/\γ 1005=true) AG ?_ ?_ ?_
  · exact LJ
  · exact PA
  intro vals γ w9 hR hG
  obtain ⟨⟨A2,c2,D2,e2,hb29,hab2⟩,-⟩:=hG 4 AB
  obtain ⟨⟨A3,c3,D3,e3,hb39,hab3⟩,-⟩:=hG 5 AB
  obtain ⟨Y,U,HAB2,HAB3,HX9,HB49,HSZ9⟩:=Hd7 hb29 hb39 hab2 hab3 (show Ext w w9 from Au HX0.o (hR.buts (S:=λb=>b=g2\/b=g3) (λm b _ hm _=>hm.imp And.right And.right)) (λb hb=>DB)) (HB4.o.keep (hR.kept0 (S:=λb=>b=O) λb _ e m hm=>by have:=HGG.o;rcases hm with ⟨_,h⟩|⟨_,h⟩<;>omega)) (show N<=w9.heap.size by have:=hR.size;have e0:w0.drew.heap.size=w0.heap.size:=rfl;have:=HNN.o;omega)
  refine Qx ?_
  clear hR hG hb29 hb39 hab2 hab3
  obtain ⟨k5,hk5⟩:=eqx (bits .and .i64 ca.kinds cb'.kinds)
  obtain ⟨b5,hb5⟩:=eqx (bits .and .i64 ca.bo cb'.bo)
  obtain ⟨tj,htj⟩:=eqx (DN ca.tx cb'.tx)
  obtain ⟨nj,hnj⟩:=eqx (NB ca.nu cb'.nu)
  obtain ⟨d1,hd1⟩:=eqx ((CZ (ca.dl,ca.dh) (cb'.dl,cb'.dh)).1)
  obtain ⟨d2,hd2⟩:=eqx ((CZ (ca.dl,ca.dh) (cb'.dl,cb'.dh)).2)
  obtain ⟨r1,hr1⟩:=eqx ((CZ (ca.rl,ca.rh) (cb'.rl,cb'.rh)).1)
  obtain ⟨r2,hr2⟩:=eqx ((CZ (ca.rl,ca.rh) (cb'.rl,cb'.rh)).2)
  obtain ⟨er,her⟩:=eqx (ca.errs&&cb'.errs)
  have hor1:bits .and .i64 ca.kinds cb'.kinds=k5:=hk5.symm
  have hor2:bits .and .i64 ca.bo cb'.bo=b5:=hb5.symm
  have hza:=a8.o
  have hzb:=Z.o
  obtain ⟨HJS,HJI,HJD,HJR,HEQ,HER⟩:=Hd6 (show ∀ w',Cl 87 #[(Sq ca.tx),(Sq cb'.tx)] w' (G0 w' tj) from λw'=>by rw [htj];exact ASA ca.tx cb'.tx hza.1 hza.2.1 hzb.1 hzb.2.1 w') (show ∀ w',Ext w9 w'->Cl 88 #[(Rq ca.nu),(Rq cb'.nu)] w' (Em w' nj) from λw' hw'=>by rw [hnj];exact Ve ca.nu cb'.nu w' (HT.o.ext (HX9.o.trans hw'))) (show ∀ w',Cl 89 #[.agg #[.I ca.dl,.I ca.dh],.agg #[.I cb'.dl,.I cb'.dh]] w' (Cd w' (d1,d2)) from λw'=>by rw [hd1,hd2];exact DM _ _ _ _ w') (show ∀ w',Cl 89 #[.agg #[.I ca.rl,.I ca.rh],.agg #[.I cb'.rl,.I cb'.rh]] w' (Cd w' (r1,r2)) from λw'=>by rw [hr1,hr2];exact DM _ _ _ _ w') (show I1 ca cb'=⟨k5,tj,nj,d1,d2,b5,r1,r2,ca.cols++cb'.cols,ca.deps++cb'.deps,er⟩ by rw [hk5,hb5,htj,hnj,hd1,hd2,hr1,hr2,her];rfl) her
  clear hk5 hb5 htj hnj hd1 hd2 hr1 hr2 her hza hzb
  obtain ⟨rm,hrm⟩:∃ z:Abs,z=⟨k5,tj,nj,d1,d2,b5,r1,r2,ca.cols++cb'.cols,ca.deps++cb'.deps,er⟩:=⟨_,rfl⟩
  have HRM:=Hd hrm
  have HEM:=Hd (show I1 ca cb'=rm by rw [HEQ.o,hrm])
  obtain ⟨HZM,G2L,G3L,G4L,HA29,HA39,HCS⟩:=Hd7 (show AbN 1000000 rm by rw [<-HEM.o];exact (a8.o.meetRaw Z.o).mono AB) (show g2<w9.heap.size/\g2≠O from ⟨Y.o.lt,DB⟩) (show g3<w9.heap.size/\g3≠O from ⟨U.o.lt,DB⟩) (show O<w9.heap.size from HB49.o.lt) (HAB2.o.mono (T:=S9 Ta N w9) λi hi hs=>⟨hs,hi⟩) (HAB3.o.mono (T:=S9 Ta N w9) λi hi hs=>⟨hs,hi⟩) (show ∀ w',Ext w9 w'->∀ g,Blk w' g 26 #[.slice A2 ca.cols.length c2,.slice A3 cb'.cols.length c3]->Cl 90 #[.slice (some ⟨g,0,none⟩) 2 2] w' (FuA w' (ca.cols++cb'.cols)) from λw' hw' g hb=>Ph _ _ A2 A3 c2 c3 g w' _ _ ((HAB2.o.keep (hw'.kept _)).2.2.1) ((HAB3.o.keep (hw'.kept _)).2.2.1) hb (by have:=a8.o.2.2.1;omega) (by have:=Z.o.2.2.1;omega))
  have HCD:=Hd (show ∀ w',Ext w9 w'->∀ g,Blk w' g 37 #[.slice D2 ca.deps.length e2,.slice D3 cb'.deps.length e3]->Cl 91 #[.slice (some ⟨g,0,none⟩) 2 2] w' (FtA w' (S9 Ta N w9) (ca.deps++cb'.deps)) from λw' hw' g hb=>Ps _ _ D2 D3 e2 e3 g w' _ (λb hb=>by have:=hb.2;have:=hw'.size;omega) ((HA29.o.keep (hw'.kept _)).2.2.2) ((HA39.o.keep (hw'.kept _)).2.2.2) hb (by have:=a8.o.2.2.2.1;omega) (by have:=Z.o.2.2.2.1;omega))
  clear hrm
  go_upto_region 2 with fail
  cases he:ca.errs
  iterate 2
    · first
      | (have HTR:=Hd (show er=false by rw [HER.o,he];rfl)
         have htr:=HTR.o)
      |(have hce:cb'.errs=er:=by rw [HER.o,he];rfl)
      refine Qa (λm b=>m=1050/\b=O) (lk 51 [1050]) ?_
      refine Qp ?_
      refine Qm (λvals γ w' ρ hR hN hp hρ zs zg=>by
        have hxx:=hR.o.kept0 (S:=λb=>b<w9.heap.size/\b≠O) λb _ hb m hm=>absurd hm.2 hb.2
        have hbx:=Y.o.keep (hxx.mono λb _ e=>It)
        have m0:w'.cell? ⟨g2,0,none⟩=some (.I ca.kinds):=hbx.q0
        clear hxx hbx
        exact Qk) ?_
      refine Qp ?_
      refine Qm (λvals γ w' ρ hR hN hp hρ zs zg=>by
        have hxx:=hR.o.kept0 (S:=λb=>b<w9.heap.size/\b≠O) λb _ hb m hm=>absurd hm.2 hb.2
        have hbx:=U.o.keep (hxx.mono λb _ e=>Is)
        have m0:w'.cell? ⟨g3,0,none⟩=some (.I cb'.kinds):=hbx.q0
        clear hxx hbx
        exact Qk) ?_
      iterate 2 refine Qp ?_
      refine Qm (λvals γ w' ρ hR hN hp hρ zs zg=>by
        have hxx:=hR.o.kept0 (S:=λb=>b<w9.heap.size/\b≠O) λb _ hb m hm=>absurd hm.2 hb.2
        have hbx:=Y.o.keep (hxx.mono λb _ e=>It)
        have m1:w'.cell? ⟨g2,1,none⟩=some (.I ca.tx.least):=hbx.q1
        have m2:w'.cell? ⟨g2,2,none⟩=some (.I ca.tx.most):=hbx.q2
        have m3:w'.cell? ⟨g2,3,none⟩=some (.I ca.tx.cls):=hbx.q3
        have m4:w'.cell? ⟨g2,4,none⟩=some (.string ca.tx.b):=hbx.q4
        have m5:w'.cell? ⟨g2,5,none⟩=some (.string ca.tx.e):=hbx.q5
        clear hxx hbx
        exact Qk) ?_
      refine Qp ?_
      refine Qm (λvals γ w' ρ hR hN hp hρ zs zg=>by
        have hxx:=hR.o.kept0 (S:=λb=>b<w9.heap.size/\b≠O) λb _ hb m hm=>absurd hm.2 hb.2
        have hbx:=U.o.keep (hxx.mono λb _ e=>Is)
        have m1:w'.cell? ⟨g3,1,none⟩=some (.I cb'.tx.least):=hbx.q1
        have m2:w'.cell? ⟨g3,2,none⟩=some (.I cb'.tx.most):=hbx.q2
        have m3:w'.cell? ⟨g3,3,none⟩=some (.I cb'.tx.cls):=hbx.q3
        have m4:w'.cell? ⟨g3,4,none⟩=some (.string cb'.tx.b):=hbx.q4
        have m5:w'.cell? ⟨g3,5,none⟩=some (.string cb'.tx.e):=hbx.q5
        clear hxx hbx
        exact Qk) ?_
      refine Qc (x:=(Sq tj)) (λw'=>HJS.o w') ?_
      refine Qp ?_
      refine Qm (λvals γ w' ρ hR hN hp hρ zs zg=>by
        have hxx:=hR.o.kept0 (S:=λb=>b<w9.heap.size/\b≠O) λb _ hb m hm=>absurd hm.2 hb.2
        have hbx:=Y.o.keep (hxx.mono λb _ e=>It)
        have m6:w'.cell? ⟨g2,6,none⟩=some (.I ca.nu.ln):=hbx.q6
        have m7:w'.cell? ⟨g2,7,none⟩=some (.I ca.nu.ls):=hbx.q7
        have m8:w'.cell? ⟨g2,8,none⟩=some (.I ca.nu.hn):=hbx.q8
        have m9:w'.cell? ⟨g2,9,none⟩=some (.I ca.nu.hs):=hbx.q9
        clear hxx hbx
        exact Qk) ?_
      refine Qp ?_
      refine Qm (λvals γ w' ρ hR hN hp hρ zs zg=>by
        have hxx:=hR.o.kept0 (S:=λb=>b<w9.heap.size/\b≠O) λb _ hb m hm=>absurd hm.2 hb.2
        have hbx:=U.o.keep (hxx.mono λb _ e=>Is)
        have m6:w'.cell? ⟨g3,6,none⟩=some (.I cb'.nu.ln):=hbx.q6
        have m7:w'.cell? ⟨g3,7,none⟩=some (.I cb'.nu.ls):=hbx.q7
        have m8:w'.cell? ⟨g3,8,none⟩=some (.I cb'.nu.hn):=hbx.q8
        have m9:w'.cell? ⟨g3,9,none⟩=some (.I cb'.nu.hs):=hbx.q9
        clear hxx hbx
        exact Qk) ?_
      refine Qg (Rq nj) ?_ ?_
      · intro vals γ w' ρ hR hN hp hρ zs zg
        have HR:=hR
        have hk4:=hN.o.key (k:=1050) AB
        have hxx:=hR.o.ext0 (λm b _ hm=>Iw)
        have HXW:=Hd hxx
        clear hxx hk4
        refine Qr ?_
        refine (HJI.o w' HXW.o).mono ?_
        exact DR
      refine Qp ?_
      refine Qm (λvals γ w' ρ hR hN hp hρ zs zg=>by
        have hxx:=hR.o.kept0 (S:=λb=>b<w9.heap.size/\b≠O) λb _ hb m hm=>absurd hm.2 hb.2
        have hbx:=Y.o.keep (hxx.mono λb _ e=>It)
        have m10:w'.cell? ⟨g2,10,none⟩=some (.I ca.dl):=hbx.q10
        have m11:w'.cell? ⟨g2,11,none⟩=some (.I ca.dh):=hbx.q11
        clear hxx hbx
        exact Qk) ?_
      refine Qp ?_
      refine Qm (λvals γ w' ρ hR hN hp hρ zs zg=>by
        have hxx:=hR.o.kept0 (S:=λb=>b<w9.heap.size/\b≠O) λb _ hb m hm=>absurd hm.2 hb.2
        have hbx:=U.o.keep (hxx.mono λb _ e=>Is)
        have m10:w'.cell? ⟨g3,10,none⟩=some (.I cb'.dl):=hbx.q10
        have m11:w'.cell? ⟨g3,11,none⟩=some (.I cb'.dh):=hbx.q11
        clear hxx hbx
        exact Qk) ?_
      refine Qc (x:=.agg #[.I d1,.I d2]) (λw'=>HJD.o w') ?_
      refine Qp ?_
      refine Qm (λvals γ w' ρ hR hN hp hρ zs zg=>by
        have hxx:=hR.o.kept0 (S:=λb=>b<w9.heap.size/\b≠O) λb _ hb m hm=>absurd hm.2 hb.2
        have hbx:=Y.o.keep (hxx.mono λb _ e=>It)
        have m12:w'.cell? ⟨g2,12,none⟩=some (.I ca.bo):=hbx.q12
        clear hxx hbx
        exact Qk) ?_
      refine Qp ?_
      refine Qm (λvals γ w' ρ hR hN hp hρ zs zg=>by
        have hxx:=hR.o.kept0 (S:=λb=>b<w9.heap.size/\b≠O) λb _ hb m hm=>absurd hm.2 hb.2
        have hbx:=U.o.keep (hxx.mono λb _ e=>Is)
        have m12:w'.cell? ⟨g3,12,none⟩=some (.I cb'.bo):=hbx.q12
        clear hxx hbx
        exact Qk) ?_
      iterate 2 refine Qp ?_
      refine Qm (λvals γ w' ρ hR hN hp hρ zs zg=>by
        have hxx:=hR.o.kept0 (S:=λb=>b<w9.heap.size/\b≠O) λb _ hb m hm=>absurd hm.2 hb.2
        have hbx:=Y.o.keep (hxx.mono λb _ e=>It)
        have m13:w'.cell? ⟨g2,13,none⟩=some (.I ca.rl):=hbx.q13
        have m14:w'.cell? ⟨g2,14,none⟩=some (.I ca.rh):=hbx.q14
        clear hxx hbx
        exact Qk) ?_
      refine Qp ?_
      refine Qm (λvals γ w' ρ hR hN hp hρ zs zg=>by
        have hxx:=hR.o.kept0 (S:=λb=>b<w9.heap.size/\b≠O) λb _ hb m hm=>absurd hm.2 hb.2
        have hbx:=U.o.keep (hxx.mono λb _ e=>Is)
        have m13:w'.cell? ⟨g3,13,none⟩=some (.I cb'.rl):=hbx.q13
        have m14:w'.cell? ⟨g3,14,none⟩=some (.I cb'.rh):=hbx.q14
        clear hxx hbx
        exact Qk) ?_
      refine Qc (x:=.agg #[.I r1,.I r2]) (λw'=>HJR.o w') ?_
      refine Qp ?_
      refine Qm (λvals γ w' ρ hR hN hp hρ zs zg=>by
        have hxx:=hR.o.kept0 (S:=λb=>b<w9.heap.size/\b≠O) λb _ hb m hm=>absurd hm.2 hb.2
        have hbx:=Y.o.keep (hxx.mono λb _ e=>It)
        have m15:w'.cell? ⟨g2,15,none⟩=some (.slice A2 ca.cols.length c2):=hbx.q15
        clear hxx hbx
        exact Qk) ?_
      refine Qp ?_
      refine Qm (λvals γ w' ρ hR hN hp hρ zs zg=>by
        have hxx:=hR.o.kept0 (S:=λb=>b<w9.heap.size/\b≠O) λb _ hb m hm=>absurd hm.2 hb.2
        have hbx:=U.o.keep (hxx.mono λb _ e=>Is)
        have m15:w'.cell? ⟨g3,15,none⟩=some (.slice A3 cb'.cols.length c3):=hbx.q15
        clear hxx hbx
        exact Qk) ?_
      refine Qs (FP λv γ w'=>MeB 26 #[.slice A2 ca.cols.length c2,.slice A3 cb'.cols.length c3] w9.heap.size v w') (H1A ?_) ?_ ?_
      · exact Iu
      · exact JB
      refine Qs (FP λv γ w'=>MeS w9.heap.size (ca.cols++cb'.cols) v w') (H1A ?_) ?_ ?_
      · rintro v γ wx γ' wy rr ⟨A,c,h1,h2⟩
        exact ⟨A,c,h1,Own.keep h2.1 (rr.keptS λb _ e m hm=>by have:=(h2.1.blk e).1;have:=hm.2;have:=G4L.o;omega),h2.2⟩
      · intro vals γ w' ρ hR hN hp hρ zs zg
        obtain ⟨g,hv,hg,hb⟩:=hp.o 34 AB
        have e43:=(hρ.o 43).trans hv
        have hk4:=hN.o.key (k:=1050) AB
        have hxx:=hR.o.ext0 (λm b _ hm=>Iw)
        have HXW:=Hd hxx
        clear hxx hk4
        have HBG:=Hd hb
        have HG:=Hd hg
        clear hb hg hv
        have HR:=hR
        refine Qr ?_
        refine (HCS.o w' HXW.o g HBG.o).mono ?_
        rintro e1 w3 ⟨A5,c5,he,ho,hx⟩
        exact ⟨_,he,γ,H4A _ γ hx,λ_ _ _ h=>h,A5,c5,rfl,⟨ho.1.lower (by have h:=HR.o.size;simp at h;omega),ho.2⟩⟩
      refine Qp ?_
      refine Qm (λvals γ w' ρ hR hN hp hρ zs zg=>by
        have hxx:=hR.o.kept0 (S:=λb=>b<w9.heap.size/\b≠O) λb _ hb m hm=>absurd hm.2 hb.2
        have hbx:=Y.o.keep (hxx.mono λb _ e=>It)
        have m16:w'.cell? ⟨g2,16,none⟩=some (.slice D2 ca.deps.length e2):=hbx.q16
        clear hxx hbx
        exact Qk) ?_
      refine Qp ?_
      refine Qm (λvals γ w' ρ hR hN hp hρ zs zg=>by
        have hxx:=hR.o.kept0 (S:=λb=>b<w9.heap.size/\b≠O) λb _ hb m hm=>absurd hm.2 hb.2
        have hbx:=U.o.keep (hxx.mono λb _ e=>Is)
        have m16:w'.cell? ⟨g3,16,none⟩=some (.slice D3 cb'.deps.length e3):=hbx.q16
        clear hxx hbx
        exact Qk) ?_
      refine Qs (FP λv γ w'=>MeB 37 #[.slice D2 ca.deps.length e2,.slice D3 cb'.deps.length e3] w9.heap.size v w') (H1A ?_) ?_ ?_
      · exact Iu
      · exact JB
      refine Qs (FP λv γ w'=>MeD w9.heap.size (S9 Ta N w9) (ca.deps++cb'.deps) v w') (H1A ?_) ?_ ?_
      · rintro v γ wx γ' wy rr ⟨A,c,h1,h2⟩
        exact ⟨A,c,h1,h2.keep (rr.keptS λb _ e m hm=>by
          have h4:=hm.2
          have:=G4L.o
          rcases e with e|e
          · have:=(h2.blk e).1;omega
          · have:=e.1;have:=HTL.o;have:=HGG.o;rcases e.1 with e1 | e1;(have:=HTL.o b e1;omega);omega)⟩
      · intro vals γ w' ρ hR hN hp hρ zs zg
        obtain ⟨g,hv,hg,hb⟩:=hp.o 40 AB
        have e49:=(hρ.o 49).trans hv
        have hk4:=hN.o.key (k:=1050) AB
        have hxx:=hR.o.ext0 (λm b _ hm=>Iw)
        have HXW:=Hd hxx
        clear hxx hk4
        have HBG:=Hd hb
        have HG:=Hd hg
        clear hb hg hv
        have HR:=hR
        refine Qr ?_
        refine (HCD.o w' HXW.o g HBG.o).mono ?_
        rintro e1 w3 ⟨A5,c5,he,ho,hx⟩
        exact ⟨_,he,γ,H4A _ γ hx,λ_ _ _ h=>h,A5,c5,rfl,ho.lower (by have h:=HR.o.size;simp at h;omega)⟩
      refine Qp ?_
      refine Qm (λvals γ w' ρ hR hN hp hρ zs zg=>by
        have hxx:=hR.o.kept0 (S:=λb=>b<w9.heap.size/\b≠O) λb _ hb m hm=>absurd hm.2 hb.2
        have hbx:=Y.o.keep (hxx.mono λb _ e=>It)
        have m17:w'.cell? ⟨g2,17,none⟩=some (.bool ca.errs):=hbx.q17
        clear hxx hbx
        exact Qk) ?_
      first
      | (refine Qp ?_
         iterate 2 refine Qn ?_)
      | (iterate 2 refine Qp ?_
         refine Qm (λvals γ w' ρ hR hN hp hρ zs zg=>by
           have hxx:=hR.o.kept0 (S:=λb=>b<w9.heap.size/\b≠O) λb _ hb m hm=>absurd hm.2 hb.2
           have hbx:=U.o.keep (hxx.mono λb _ e=>Is)
           have m17:w'.cell? ⟨g3,17,none⟩=some (.bool cb'.errs):=hbx.q17
           clear hxx hbx
           exact Qk) ?_)
      refine Qp ?_
      refine Qs (FP λv γ w'=>MeA N Ta rm v w') (H1A ?_) ?_ ?_
      · exact JH
      · intro vals γ w' ρ hR hN hp hρ zs zg
        obtain ⟨A5,c5,hv35,ho35⟩:=hp.o 35 AB
        have e44:=(hρ.o 44).trans hv35
        clear hv35
        obtain ⟨A6,c6,hv41,ho41⟩:=hp.o 41 AB
        have e50:=(hρ.o 50).trans hv41
        clear hv41
        have HO5:=Hd ho35
        have HO6:=Hd ho41
        clear ho35 ho41
        refine Qr ?_
        refine ⟨γ,LZ.refl _ _ _,λ_ _ _ h=>h,A5,c5,A6,c6,?_,?_⟩
        first
        | (· rw [HRM.o,HTR.o]
             simp only [Aq,Ap,List.length_append]
             rfl)
        | (· rw [HRM.o]
             simp only [Aq,Ap,List.length_append]
             rfl)
        · rw [HRM.o]
          refine ⟨HO5.o.1.cap,?_,?_,?_⟩
          · obtain ⟨hs,hhs,hoo,-⟩:=HO6.o.add
            exact hoo.cap
          · exact HO5.o.strs (by have:=a8.o.2.2.1;have:=Z.o.2.2.1;show (ca.cols++cb'.cols).length<=_;rw [List.length_append];omega) (λb hb=>.inr (by have:=(HO5.o.1.blk hb).1;have:=HSZ9.o;omega))
          · exact HO6.o.rdeps (by have:=a8.o.2.2.2.1;have:=Z.o.2.2.2.1;show (ca.deps++cb'.deps).length<=_;rw [List.length_append];omega) (λb hb=>.inr (by have:=(HO6.o.blk hb).1;have:=HSZ9.o;omega)) (λb hb=>hb.1)
      refine Qs (FP λv γ w'=>MeA N Ta (AX rm) v w') (H1A ?_) ?_ ?_
      · exact JH
      · intro vals γ w' ρ hR hN hp hρ zs zg
        obtain ⟨A7,c7,D7,e7,hv48,hab⟩:=hp.o 48 AB
        have e57:=(hρ.o 57).trans hv48
        have hk4:=hN.o.key (k:=1050) AB
        have hxx:=hR.o.ext0 (λm b _ hm=>Iw)
        have HXW:=Hd hxx
        clear hxx hk4
        have HAB:=Hd hab
        have HR:=hR
        clear hab hv48
        refine Qr ?_
        refine (As rm A7 D7 c7 e7 w' _ HAB.o.2.2.1 HAB.o.2.2.2 (HT.o.ext (HX9.o.trans HXW.o)) HZM.o).mono ?_
        rintro e1 w3 ⟨A8,c8,D8,e8,he,hab8,hx⟩
        exact ⟨_,he,γ,H4A _ γ hx,λ_ _ _ h=>h,A8,c8,D8,e8,rfl,hab8.mono λb _ hb=>by
          rcases hb with hb|hb
          · exact hb
          · right;have h1:=HXW.o.size;have:=HSZ9.o;omega⟩
      refine Chain.step (λ_ γ w'=>JoB O N Ta (AX rm) w'/\γ 1050=true) AG ?_ ?_ ?_
      · rintro l γ wx γ' wy rr ⟨⟨A1,c1,D1,e1,h1,h2⟩,h3⟩
        exact ⟨⟨A1,c1,D1,e1,h1.keep (rr.keptS (S:=λb=>b=O) λb _ e m hm=>by rw [hm.1,h3,rr.done _ h3]),h2.keep (rr.keptS λb _ hb m hm=>by rw [hm.1,h3,rr.done _ h3])⟩,rr.done _ h3⟩
      · intro vals γ w' ρ hR hN hp hρ hc hf hg
        refine ⟨rfl,?_⟩
        obtain ⟨A7,c7,D7,e7,hv49,hab⟩:=hp 49 AB
        have e58:=(hρ 58).trans hv49
        have e4:=hρ 4
        conv at e4=>rhs;whnf
        have hk0:=hN.key (k:=1050) AB
        have hb0:=HB49.o.keep (hR.kept0 (S:=λb=>b=O) λb _ e m hm=>CF)
        refine BY 39 rfl e4 e58 hb0 AH rfl AD ?_
        intro w4 hb4 ho4
        exact ⟨γ.put 1050,H2A hk0 ho4.os ho4.tape ho4.output (Nat.le_of_eq ho4.size.symm) (λb hb hm=>ho4.block b λe=>hm ⟨rfl,e⟩),LK.done AB,⟨A7,c7,D7,e7,hb4,hab.keep (ho4.kept λb _ hb e=>by have:=HGG.o;rcases hb with hb|hb;(have:=HTL.o b hb;omega);omega)⟩,AU⟩
      intro vals γ w10 hR hG
      refine Qx ?_
      obtain ⟨⟨A7,c7,D7,e7,hb50,hab50⟩,-⟩:=hG 50 AB
      obtain ⟨HB50,HAB50,HX10⟩:=Hd3 hb50 hab50 (show Ext w w10 from Au HX9.o (hR.buts (S:=λb=>b=O) (λm b _ hm _=>hm.2)) (λb hb=>DB))
      clear hR hG hb50 hab50
      go_wp2
      refine bodyPost_ret (Bv results31 rfl (Eq HB50.o AS AH)) rfl ?_
      have HEND:=Hd (show Gq a b=AX rm by unfold Gq;rw [<-HAC.o,<-HBC.o,HEM.o])
      rw [HEND.o]
      refine ⟨A7,c7,D7,e7,rfl,HAB50.o.mono λb _ hb => ?_,HX10.o⟩
      rcases hb with hb|hb
      · rw [HTA.o] at hb;exact .inl hb.1
      · right;have:=HGG.o;omega
