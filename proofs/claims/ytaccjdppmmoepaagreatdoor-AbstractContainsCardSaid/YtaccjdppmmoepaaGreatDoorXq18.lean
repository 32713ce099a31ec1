/- Lemmas. No conditions. -/
import Derived.Test.YtaccjdppmmoepaaGreatDoorXq17
set_option maxRecDepth 100000
set_option maxHeartbeats 4000000
namespace Go.Proofs.YtaccjdppmmoepaaGreatDoor
open Go Go.RowKit Tryz
variable {qP:Prop}{a b m:Sh}

theorem OV(h1:false=AT a)(h2:false=AT b)(hm:CY a b=m)(h:(EA a.b m.b&&EA b.b m.b&&EB a.e m.e&&EB b.e m.e&&!AT m)=false):DN a b=H3A:=by
 unfold DN;rw [if_neg (by rw [<-h1,<-h2];simp),hm,if_neg];rintro ⟨g1,g2,g3,O,g5⟩;rw [g1,g2,g3,O,g5] at h;cases h
theorem ND(h1:false=AT a)(h2:false=AT b)(hm:CY a b=m)(h:(EA a.b m.b&&EA b.b m.b&&EB a.e m.e&&EB b.e m.e&&!AT m)=true):DN a b=m:=by
 unfold DN;simp only [Bool.and_eq_true,Bool.not_eq_true'] at h;obtain ⟨⟨⟨⟨g1,g2⟩,g3⟩,O⟩,g5⟩:=h;rw [if_neg (by rw [<-h1,<-h2];simp),hm,if_pos ⟨g1,g2,g3,O,g5⟩]
def UpG(w:World)(v:Value):Prop:=∃ g,v=.pointer (some ⟨g,0,none⟩)/\w.heap.size<=g
theorem Sf(h:qP:=by
 refine bodyPost_ret (v:=(Sq H3A)) (by simp [results,results72,go_sem,r0,r1,r2,r3,r4]) rfl ⟨rfl,?_⟩;exact JI):qP:=h
theorem Ip(h:qP:=by
 obtain ⟨r0,r1,r2,r3,r4⟩:=hb4.qs5;have qf:=hb4.frozen;have ql:=hb4.lt;clear hx hb4 q3 q4 q8 q9 s0 s1 s2 s3 s4 sf sl
 go_wp2_with fail
 rw [HF.o];exact Sf):qP:=h
theorem DW(h:qP:=by
 have HF:=Hd (HE.o (by simp))
 go_wp2_with fail
 refine (HNO.o _).mono ?_;rintro e3 w3 ⟨rfl,hx⟩;have HX3:=Hd (HX2.o.trans (HXb.o.trans hx));have hb4:=(HB4_2.o.keep (HXb.o.kept _)).keep (hx.kept _);exact Ip):qP:=h
theorem IJ(h:qP:=by
 iterate 5 with_reducible refine Ext.set2 ?_ HG4.o _
 with_reducible exact HXF.o):qP:=h
theorem Il(h:qP:=by
 have q3:=HXL.o.cell k3.o;have q4:=HXL.o.cell k4.o;have q8:=HXL.o.cell k8.o;have q9:=HXL.o.cell k9.o;obtain ⟨s0,s1,s2,s3,s4⟩:=HBL.o.qs5;have sf:=HBL.o.frozen;have sl:=HBL.o.lt;have HF:=Hd (HE.o (by simp))
 go_wp2_with fail
 refine (HNO.o _).mono ?_;rintro e3 w3 ⟨rfl,hx⟩;have HX3:=Hd (HX2.o.trans (HXL.o.trans hx));have hb4:=(HB4_2.o.keep (HXL.o.kept _)).keep (hx.kept _);exact Ip):qP:=h
theorem Ij(h:qP:=by
 have HF:=Hd (HE.o (by simp))
 go_wp2_with fail
 refine (HNO.o _).mono ?_;rintro e3 w3 ⟨rfl,hx⟩;have HX3:=Hd (HX2.o.trans (HXa.o.trans hx));have hb4:=(HB4_2.o.keep (HXa.o.kept _)).keep (hx.kept _);exact Ip):qP:=h
theorem Ie(h:qP:=by
 have HF:=Hd (HE.o (by simp))
 go_wp2_with fail
 refine (HNO.o _).mono ?_;rintro e3 w3 ⟨rfl,hx⟩;have HX3:=Hd (HX2.o.trans (HX9.o.trans hx));have hb4:=(HB4_2.o.keep (HX9.o.kept _)).keep (hx.kept _);exact Ip):qP:=h
theorem Cn(h:qP:=by rw [<-hp1,<-hp2,<-hp3,<-hp4,<-hem];exact h):qP:=h
theorem IR(h:qP:=by rw [hp1];exact Fe _ _ J):qP:=h
theorem IU(h:qP:=by rw [hp2];exact Fe _ _ J):qP:=h
theorem Gw(h:qP:=by rw [hp3];exact Fh _ _ (by omega) J):qP:=h
theorem Gd(h:qP:=by rw [hp4];exact Fh _ _ (by omega) J):qP:=h
theorem Gm(h:qP:=by simp [results,results72,go_sem,r0,r1,r2,r3,r4]):qP:=h
theorem ASA(a b:Sh)(h1:a.b.size<=1000000000)(h2:a.e.size<=1000000000)(h3:b.b.size<=1000000000)(h4:b.e.size<=1000000000)(w:World):Cl 72 #[(Sq a),(Sq b)] w (G0 w (DN a b)):=by
 obtain ⟨w0,hw0⟩:=eqx (((w.alloc (.cells (Sp a) 26)).alloc (.cells (Sp b) 26)).alloc (.cells #[.I 0,.I 0,.I 0,.string ⟨#[]⟩,.string ⟨#[]⟩] 26));have hx0:Ext w w0:=CC;have hb2:Blk w0 w.heap.size 26 (Sp a):=FH;have O:Blk w0 (w.heap.size+1) 26 (Sp b):=Fc;have hb4:Blk w0 (w.heap.size+2) 26 #[.I 0,.I 0,.I 0,.string ⟨#[]⟩,.string ⟨#[]⟩]:=GP;obtain ⟨g2,hg2⟩:=eqx w.heap.size;obtain ⟨g3,hg3⟩:=eqx (w.heap.size+1);obtain ⟨g4,hg4⟩:=eqx (w.heap.size+2);rw [<-hg2] at hb2;rw [<-hg3] at O;rw [<-hg4] at hb4;have HG4:=Hd (show w.heap.size<=g4 by omega);obtain ⟨la,f1⟩:=eqx (AQ a);obtain ⟨lb,d8⟩:=eqx (AQ b);obtain ⟨ma,f0⟩:=eqx (BE a);obtain ⟨mb,f4⟩:=eqx (BE b);obtain ⟨cc,f3⟩:=eqx (bits .and .i64 (BL a) (BL b));obtain ⟨U,f5⟩:=eqx (max la lb);obtain ⟨Y,f6⟩:=eqx (min ma mb);obtain ⟨HLA,HLB,HMA,HMB⟩:=Hd4 (show ∀ J,Cl 136 #[(Sq a)] J (DG J la) from λJ=>by rw [f1];exact Df a J) (show ∀ J,Cl 136 #[(Sq b)] J (DG J lb) from λJ=>by rw [d8];exact Df b J) (show ∀ J,Cl 137 #[(Sq a)] J (DG J ma) from λJ=>by rw [f0];exact Ed a J) (show ∀ J,Cl 137 #[(Sq b)] J (DG J mb) from λJ=>by rw [f4];exact Ed b J);obtain ⟨oa,d9⟩:=eqx (BL a);obtain ⟨ob,f9⟩:=eqx (BL b);obtain ⟨HOA,HOB,HNO⟩:=Hd3 (show ∀ J,Cl 138 #[(Sq a)] J (DG J oa) from λJ=>by rw [d9];exact FD a J) (show ∀ J,Cl 138 #[(Sq b)] J (DG J ob) from λJ=>by rw [f9];exact FD b J) (λJ=>Hf J);have hlm':max la lb=U:=f5.symm;have hmm':min ma mb=Y:=f6.symm;obtain ⟨f7,HEB,HJ,HM⟩:=Hd4 (λJ=>KA a AA AA J) (λJ=>KA b AA AA J) (show AT a=true\/AT b=true->DN a b=H3A from λh=>if_pos h) (show CY a b=⟨U,Y,cc,if a.b.size<b.b.size then b.b else a.b,if a.e.size<b.e.size then b.e else a.e⟩ from by rw [f5,f6,f1,d8,f0,f4,f3];rfl);have hor:bits .and .i64 oa ob=cc:=(by rw [f3,d9,f9]);obtain ⟨b1,hb1⟩:=eqx (AT a);obtain ⟨b2,b9⟩:=eqx (AT b);rw [<-hb1] at f7 HJ;rw [<-b9] at HEB HJ;have HN1:=Hd hb1;have HN2:=Hd b9;clear hb1 b9;obtain ⟨HX0,HW0,HE2,HE3,HE4,d3,d4,d7⟩:=Hd8 hx0 hw0 hg2 hg3 hg4 hb2 O hb4;obtain ⟨q0,q1,q2,q3,q4⟩:=hb2.qs5;obtain ⟨q5,q6,q7,q8,q9⟩:=O.qs5;clear hx0 hw0 hb2 O hb4 hg2 hg3 hg4 f1 d8 f0 f4 f3 d9 f9 f5 f6
 go_enter func72,ntmps72
 go_upto_region 1 with fail
 rw [<-HW0.o,show w.heap.size+1+1=g4 from HE4.o.symm,<-HE3.o,<-HE2.o];cases b1
 ·go_wp2_with fail
  refine (f7.o _).mono ?_;rintro e1 w1 ⟨rfl,hx⟩;have HX1:=Hd (HX0.o.trans hx);have hb2:=d3.o.keep (hx.kept _);have O:=d4.o.keep (hx.kept _);have hb4:=d7.o.keep (hx.kept _);obtain ⟨b6,b5,b4⟩:=Hd3 hb2 O hb4;clear q0 q1 q2 q3 q4 q5 q6 q7 q8 q9;obtain ⟨q0,q1,q2,q3,q4⟩:=hb2.qs5;obtain ⟨q5,q6,q7,q8,q9⟩:=O.qs5;clear hx hb2 O hb4
  go_wp2_with fail
  refine (HEB.o _).mono ?_;rintro e2 w2 ⟨rfl,hx⟩;have HX2:=Hd (HX1.o.trans hx);have hb2:=b6.o.keep (hx.kept _);have O:=b5.o.keep (hx.kept _);have hb4:=b4.o.keep (hx.kept _);obtain ⟨d6,d5,HB4_2⟩:=Hd3 hb2 O hb4;clear q0 q1 q2 q3 q4 q5 q6 q7 q8 q9;obtain ⟨q0,q1,q2,q3,q4⟩:=hb2.qs5;obtain ⟨q5,q6,q7,q8,q9⟩:=O.qs5;clear hx hb2 O hb4;cases b2
  ·obtain ⟨k0,k1,k2,k3,k4,k5,k6,k7⟩:=Hd8 q0 q1 q2 q3 q4 q5 q6 q7;have k8:=Hd q8;have k9:=Hd q9;clear q0 q1 q2 q3 q4 q5 q6 q7 q8 q9
   go_upto_region 3 with fail
   refine Qb (fun|21=>[20,21]|i=>[i]) (λ_ _=>False) [(21,[20])] ?_;refine Qp ?_;refine Qc (λJ=>HLA.o J) ?_;refine Qp ?_;refine Qc (λJ=>HLB.o J) ?_
   iterate 2 refine Qp ?_
   refine Qc (λJ=>HMA.o J) ?_;refine Qp ?_;refine Qc (λJ=>HMB.o J) ?_
   iterate 2 refine Qp ?_
   refine Qc (λJ=>HOA.o J) ?_;refine Qp ?_;refine Qc (λJ=>HOB.o J) ?_
   iterate 6 refine Qp ?_
   refine Qs (FP (VarX (λ_ _=>False) 20 26 5)) (H1A IAA) ?_ ?_
   ·intro V F J L hR hN hp hρ zs zg;have HR:=hR;have HN:=hN;refine Qr ?_;exact ⟨F.put 20 (some J.heap.size),LX.new AB (HN.o.2 AB ⟨21,AB⟩) _ _,INA,VarX.new HR.o.inb0 rfl (λ_ _ h=>h.elim)⟩
   refine Chain.step (λvl F J=>match vl with|[p,_]=>VarXI (λ_ _=>False) 26 p #[.I U,.I Y,.I cc,.string a.b,.string a.e] F J/\UpG w2 p|_=>True) AG ?_ ?_ ?_
   ·exact Cm
   ·intro V F J L hR hN hp hρ hc hf hg;refine ⟨rfl,?_⟩;have e32:L (.tmp 32)=_:=(hρ 32).trans (hp 19 AB);obtain ⟨g,⟨cl⟩,hv,hcs,hb,hk,hst⟩:=VarX.stored (hp 20 AB) (s:=21) (l:=[(21,[20])]) AB hN;have e5:=(hρ 5).trans hv
    match cl,hcs with
    |[x0,x1,x2,x3,x4],_ =>
     have hup:UpG w2 (V 20):=⟨g,hv,by
       rcases Nat.lt_or_ge g w2.heap.size with h|h
       ·have h9:=hR.old 20 g hk h;cases h9
       ·exact h⟩
     obtain ⟨HST,HK,HB⟩:=Hd3 hst hk hb;obtain ⟨q0,q1,q2,q3,q4⟩:=hb.qs5;have qf:=hb.frozen;have ql:=hb.lt;clear hR hN hp hρ hst hk hb hv;go_light;go_simp;obtain ⟨g1,g2⟩:=HST.o _ #[.I U,.I Y,.I cc,.string a.b,.string a.e] ((((((Only.refl g J).set 0 (.I U)).set 1 (.I Y)).set 2 (.I cc)).set 3 (.string a.b)).set 4 (.string a.e)) (((((HB.o.set 0 (.I U)).set 1 (.I Y)).set 2 (.I cc)).set 3 (.string a.b)).set 4 (.string a.e)) rfl;exact ⟨F.put 20 none,g1,LM.done AB (.inl ⟨g,HK.o⟩),⟨g2,hup⟩⟩
   intro V F w9 hR hG;obtain ⟨⟨g5,f2,hb5,-,-⟩,g6,Z,hu6⟩:=hG 21 AB;have hu5:w2.heap.size<=g5:=by
    rw [f2] at Z;injection Z with Z;injection Z with Z;injection Z with Z;omega
   have HU5:=Hd hu5;refine Qx ?_;simp only [f2];have HX9:=Hd (show Ext w2 w9 from hR.ext0 (λ_ _ h=>h.elim));have HB5:=Hd hb5;clear hR hG hb5 f2 Z hu5 hu6;have q3:=HX9.o.cell k3.o;have q4:=HX9.o.cell k4.o;have q8:=HX9.o.cell k8.o;have q9:=HX9.o.cell k9.o;obtain ⟨s0,s1,s2,s3,s4⟩:=HB5.o.qs5;have sf:=HB5.o.frozen;have sl:=HB5.o.lt;by_cases hlt1:a.b.size<b.b.size
   ·have hq1:(a.b.size:Int)<(b.b.size:Int):=AA
    go_upto_region 6 with fail
    clear q3 q4 q8 q9 s0 s1 s2 s3 s4 sf sl;obtain ⟨wa,hw⟩:=eqx (w9.setCell ⟨g5,3,none⟩ (.string b.b));have HXa:=Hd (show Ext w2 wa by rw [hw];exact Ext.set2 HX9.o HU5.o _);have b8:=Hd (show Blk wa g5 26 #[.I U,.I Y,.I cc,.string b.b,.string a.e] by rw [hw];simpa using HB5.o.set 3 (.string b.b));rw [<-hw];clear hw;have q3:=HXa.o.cell k3.o;have q4:=HXa.o.cell k4.o;have q8:=HXa.o.cell k8.o;have q9:=HXa.o.cell k9.o;obtain ⟨s0,s1,s2,s3,s4⟩:=b8.o.qs5;have sf:=b8.o.frozen;have sl:=b8.o.lt;by_cases hlt2:a.e.size<b.e.size
    ·have f8:(a.e.size:Int)<(b.e.size:Int):=AA
     go_upto_region 8 with fail
     clear q3 q4 q8 q9 s0 s1 s2 s3 s4 sf sl;obtain ⟨wb,hw⟩:=eqx (wa.setCell ⟨g5,4,none⟩ (.string b.e));have HXb:=Hd (show Ext w2 wb by rw [hw];exact Ext.set2 HXa.o HU5.o _);have a8:=Hd (show Blk wb g5 26 #[.I U,.I Y,.I cc,.string b.b,.string b.e] by rw [hw];simpa using b8.o.set 4 (.string b.e));rw [<-hw];clear hw;have q3:=HXb.o.cell k3.o;have q4:=HXb.o.cell k4.o;have q8:=HXb.o.cell k8.o;have q9:=HXb.o.cell k9.o;obtain ⟨s0,s1,s2,s3,s4⟩:=a8.o.qs5;have sf:=a8.o.frozen;have sl:=a8.o.lt;have hm:=HM.o;rw [if_pos hlt1,if_pos hlt2] at hm;obtain ⟨em,hem⟩:=eqx (AT ⟨U,Y,cc,b.b,b.e⟩);obtain ⟨p1,hp1⟩:=eqx (EA a.b b.b);obtain ⟨p2,hp2⟩:=eqx (EA b.b b.b);obtain ⟨p3,hp3⟩:=eqx (EB a.e b.e);obtain ⟨p4,hp4⟩:=eqx (EB b.e b.e);obtain ⟨HE,HY,HP1,b3,a9,b0,HEM⟩:=Hd7 (show (p1&&p2&&p3&&p4&&!em)=false->DN a b=H3A from λh=>OV HN1.o HN2.o hm Cn) (show (p1&&p2&&p3&&p4&&!em)=true->DN a b=⟨U,Y,cc,b.b,b.e⟩ from λh=>ND HN1.o HN2.o hm Cn) (show ∀ J,Cl 100 #[.string b.b,.string a.b] J (SameB J p1) from λJ=>IR) (show ∀ J,Cl 100 #[.string b.b,.string b.b] J (SameB J p2) from λJ=>IU) (show ∀ J,Cl 101 #[.string b.e,.string a.e] J (SameB J p3) from λJ=>Gw) (show ∀ J,Cl 101 #[.string b.e,.string b.e] J (SameB J p4) from λJ=>Gd) (show ∀ J,Cl 135 #[.agg #[.I U,.I Y,.I cc,.string b.b,.string b.e]] J (Ae J em) from λJ=>by rw [hem];exact KA (Sh.mk U Y cc b.b b.e) (show b.b.size<=4294967296 by omega) (show b.e.size<=4294967296 by omega) J);clear hm hem hp1 hp2 hp3 hp4
     go_wp2_with fail
     refine (HP1.o _).mono ?_;rintro e1 w1 ⟨rfl,rfl⟩;cases p1
     ·exact DW
     ·go_wp2_with fail
      refine (b3.o _).mono ?_;rintro e1 w1 ⟨rfl,rfl⟩;cases p2
      ·exact DW
      ·go_wp2_with fail
       refine (a9.o _).mono ?_;rintro e1 w1 ⟨rfl,rfl⟩;cases p3
       ·exact DW
       ·go_wp2_with fail
        refine (b0.o _).mono ?_;rintro e1 w1 ⟨rfl,rfl⟩;cases p4
        ·exact DW
        ·go_wp2_with fail
         refine (HEM.o _).mono ?_;rintro e3 w3 ⟨rfl,hx⟩;have HXL:=Hd (HXb.o.trans hx);have HBL:=Hd (a8.o.keep (hx.kept _));clear hx q3 q4 q8 q9 s0 s1 s2 s3 s4 sf sl;cases em
         ·have q3:=HXL.o.cell k3.o;have q4:=HXL.o.cell k4.o;have q8:=HXL.o.cell k8.o;have q9:=HXL.o.cell k9.o;obtain ⟨s0,s1,s2,s3,s4⟩:=HBL.o.qs5;have sf:=HBL.o.frozen;have sl:=HBL.o.lt;have hb4:=HB4_2.o.keep (HXL.o.kept _);obtain ⟨r0,r1,r2,r3,r4⟩:=hb4.qs5;have qf:=hb4.frozen;have ql:=hb4.lt;have HXF:=Hd (HX2.o.trans HXL.o);have HF:=Hd (HY.o AC);clear hb4
          go_wp2_with fail
          rw [HF.o];refine bodyPost_ret (v:=.agg #[.I U,.I Y,.I cc,.string b.b,.string b.e]) Gm rfl ⟨rfl,?_⟩;exact IJ
         ·exact Il
    ·have f8:¬(a.e.size:Int)<(b.e.size:Int):=AA
     go_upto_region 8 with fail
     have hm:=HM.o;rw [if_pos hlt1,if_neg hlt2] at hm;obtain ⟨em,hem⟩:=eqx (AT ⟨U,Y,cc,b.b,a.e⟩);obtain ⟨p1,hp1⟩:=eqx (EA a.b b.b);obtain ⟨p2,hp2⟩:=eqx (EA b.b b.b);obtain ⟨p3,hp3⟩:=eqx (EB a.e a.e);obtain ⟨p4,hp4⟩:=eqx (EB b.e a.e);obtain ⟨HE,HY,HP1,b3,a9,b0,HEM⟩:=Hd7 (show (p1&&p2&&p3&&p4&&!em)=false->DN a b=H3A from λh=>OV HN1.o HN2.o hm Cn) (show (p1&&p2&&p3&&p4&&!em)=true->DN a b=⟨U,Y,cc,b.b,a.e⟩ from λh=>ND HN1.o HN2.o hm Cn) (show ∀ J,Cl 100 #[.string b.b,.string a.b] J (SameB J p1) from λJ=>IR) (show ∀ J,Cl 100 #[.string b.b,.string b.b] J (SameB J p2) from λJ=>IU) (show ∀ J,Cl 101 #[.string a.e,.string a.e] J (SameB J p3) from λJ=>Gw) (show ∀ J,Cl 101 #[.string a.e,.string b.e] J (SameB J p4) from λJ=>Gd) (show ∀ J,Cl 135 #[.agg #[.I U,.I Y,.I cc,.string b.b,.string a.e]] J (Ae J em) from λJ=>by rw [hem];exact KA (Sh.mk U Y cc b.b a.e) (show b.b.size<=4294967296 by omega) (show a.e.size<=4294967296 by omega) J);clear hm hem hp1 hp2 hp3 hp4
     go_wp2_with fail
     refine (HP1.o _).mono ?_;rintro e1 w1 ⟨rfl,rfl⟩;cases p1
     ·exact Ij
     ·go_wp2_with fail
      refine (b3.o _).mono ?_;rintro e1 w1 ⟨rfl,rfl⟩;cases p2
      ·exact Ij
      ·go_wp2_with fail
       refine (a9.o _).mono ?_;rintro e1 w1 ⟨rfl,rfl⟩;cases p3
       ·exact Ij
       ·go_wp2_with fail
        refine (b0.o _).mono ?_;rintro e1 w1 ⟨rfl,rfl⟩;cases p4
        ·exact Ij
        ·go_wp2_with fail
         refine (HEM.o _).mono ?_;rintro e3 w3 ⟨rfl,hx⟩;have HXL:=Hd (HXa.o.trans hx);have HBL:=Hd (b8.o.keep (hx.kept _));clear hx q3 q4 q8 q9 s0 s1 s2 s3 s4 sf sl;cases em
         ·have q3:=HXL.o.cell k3.o;have q4:=HXL.o.cell k4.o;have q8:=HXL.o.cell k8.o;have q9:=HXL.o.cell k9.o;obtain ⟨s0,s1,s2,s3,s4⟩:=HBL.o.qs5;have sf:=HBL.o.frozen;have sl:=HBL.o.lt;have hb4:=HB4_2.o.keep (HXL.o.kept _);obtain ⟨r0,r1,r2,r3,r4⟩:=hb4.qs5;have qf:=hb4.frozen;have ql:=hb4.lt;have HXF:=Hd (HX2.o.trans HXL.o);have HF:=Hd (HY.o AC);clear hb4
          go_wp2_with fail
          rw [HF.o];refine bodyPost_ret (v:=.agg #[.I U,.I Y,.I cc,.string b.b,.string a.e]) Gm rfl ⟨rfl,?_⟩;exact IJ
         ·exact Il
   ·have hq1:¬(a.b.size:Int)<(b.b.size:Int):=AA
    go_upto_region 6 with fail
    by_cases hlt2:a.e.size<b.e.size
    ·have f8:(a.e.size:Int)<(b.e.size:Int):=AA
     go_upto_region 8 with fail
     clear q3 q4 q8 q9 s0 s1 s2 s3 s4 sf sl;obtain ⟨wb,hw⟩:=eqx (w9.setCell ⟨g5,4,none⟩ (.string b.e));have HXb:=Hd (show Ext w2 wb by rw [hw];exact Ext.set2 HX9.o HU5.o _);have a8:=Hd (show Blk wb g5 26 #[.I U,.I Y,.I cc,.string a.b,.string b.e] by rw [hw];simpa using HB5.o.set 4 (.string b.e));rw [<-hw];clear hw;have q3:=HXb.o.cell k3.o;have q4:=HXb.o.cell k4.o;have q8:=HXb.o.cell k8.o;have q9:=HXb.o.cell k9.o;obtain ⟨s0,s1,s2,s3,s4⟩:=a8.o.qs5;have sf:=a8.o.frozen;have sl:=a8.o.lt;have hm:=HM.o;rw [if_neg hlt1,if_pos hlt2] at hm;obtain ⟨em,hem⟩:=eqx (AT ⟨U,Y,cc,a.b,b.e⟩);obtain ⟨p1,hp1⟩:=eqx (EA a.b a.b);obtain ⟨p2,hp2⟩:=eqx (EA b.b a.b);obtain ⟨p3,hp3⟩:=eqx (EB a.e b.e);obtain ⟨p4,hp4⟩:=eqx (EB b.e b.e);obtain ⟨HE,HY,HP1,b3,a9,b0,HEM⟩:=Hd7 (show (p1&&p2&&p3&&p4&&!em)=false->DN a b=H3A from λh=>OV HN1.o HN2.o hm Cn) (show (p1&&p2&&p3&&p4&&!em)=true->DN a b=⟨U,Y,cc,a.b,b.e⟩ from λh=>ND HN1.o HN2.o hm Cn) (show ∀ J,Cl 100 #[.string a.b,.string a.b] J (SameB J p1) from λJ=>IR) (show ∀ J,Cl 100 #[.string a.b,.string b.b] J (SameB J p2) from λJ=>IU) (show ∀ J,Cl 101 #[.string b.e,.string a.e] J (SameB J p3) from λJ=>Gw) (show ∀ J,Cl 101 #[.string b.e,.string b.e] J (SameB J p4) from λJ=>Gd) (show ∀ J,Cl 135 #[.agg #[.I U,.I Y,.I cc,.string a.b,.string b.e]] J (Ae J em) from λJ=>by rw [hem];exact KA (Sh.mk U Y cc a.b b.e) (show a.b.size<=4294967296 by omega) (show b.e.size<=4294967296 by omega) J);clear hm hem hp1 hp2 hp3 hp4
     go_wp2_with fail
     refine (HP1.o _).mono ?_;rintro e1 w1 ⟨rfl,rfl⟩;cases p1
     ·exact DW
     ·go_wp2_with fail
      refine (b3.o _).mono ?_;rintro e1 w1 ⟨rfl,rfl⟩;cases p2
      ·exact DW
      ·go_wp2_with fail
       refine (a9.o _).mono ?_;rintro e1 w1 ⟨rfl,rfl⟩;cases p3
       ·exact DW
       ·go_wp2_with fail
        refine (b0.o _).mono ?_;rintro e1 w1 ⟨rfl,rfl⟩;cases p4
        ·exact DW
        ·go_wp2_with fail
         refine (HEM.o _).mono ?_;rintro e3 w3 ⟨rfl,hx⟩;have HXL:=Hd (HXb.o.trans hx);have HBL:=Hd (a8.o.keep (hx.kept _));clear hx q3 q4 q8 q9 s0 s1 s2 s3 s4 sf sl;cases em
         ·have q3:=HXL.o.cell k3.o;have q4:=HXL.o.cell k4.o;have q8:=HXL.o.cell k8.o;have q9:=HXL.o.cell k9.o;obtain ⟨s0,s1,s2,s3,s4⟩:=HBL.o.qs5;have sf:=HBL.o.frozen;have sl:=HBL.o.lt;have hb4:=HB4_2.o.keep (HXL.o.kept _);obtain ⟨r0,r1,r2,r3,r4⟩:=hb4.qs5;have qf:=hb4.frozen;have ql:=hb4.lt;have HXF:=Hd (HX2.o.trans HXL.o);have HF:=Hd (HY.o AC);clear hb4
          go_wp2_with fail
          rw [HF.o];refine bodyPost_ret (v:=.agg #[.I U,.I Y,.I cc,.string a.b,.string b.e]) Gm rfl ⟨rfl,?_⟩;exact IJ
         ·exact Il
    ·have f8:¬(a.e.size:Int)<(b.e.size:Int):=AA
     go_upto_region 8 with fail
     have hm:=HM.o;rw [if_neg hlt1,if_neg hlt2] at hm;obtain ⟨em,hem⟩:=eqx (AT ⟨U,Y,cc,a.b,a.e⟩);obtain ⟨p1,hp1⟩:=eqx (EA a.b a.b);obtain ⟨p2,hp2⟩:=eqx (EA b.b a.b);obtain ⟨p3,hp3⟩:=eqx (EB a.e a.e);obtain ⟨p4,hp4⟩:=eqx (EB b.e a.e);obtain ⟨HE,HY,HP1,b3,a9,b0,HEM⟩:=Hd7 (show (p1&&p2&&p3&&p4&&!em)=false->DN a b=H3A from λh=>OV HN1.o HN2.o hm Cn) (show (p1&&p2&&p3&&p4&&!em)=true->DN a b=⟨U,Y,cc,a.b,a.e⟩ from λh=>ND HN1.o HN2.o hm Cn) (show ∀ J,Cl 100 #[.string a.b,.string a.b] J (SameB J p1) from λJ=>IR) (show ∀ J,Cl 100 #[.string a.b,.string b.b] J (SameB J p2) from λJ=>IU) (show ∀ J,Cl 101 #[.string a.e,.string a.e] J (SameB J p3) from λJ=>Gw) (show ∀ J,Cl 101 #[.string a.e,.string b.e] J (SameB J p4) from λJ=>Gd) (show ∀ J,Cl 135 #[.agg #[.I U,.I Y,.I cc,.string a.b,.string a.e]] J (Ae J em) from λJ=>by rw [hem];exact KA (Sh.mk U Y cc a.b a.e) (show a.b.size<=4294967296 by omega) (show a.e.size<=4294967296 by omega) J);clear hm hem hp1 hp2 hp3 hp4
     go_wp2_with fail
     refine (HP1.o _).mono ?_;rintro e1 w1 ⟨rfl,rfl⟩;cases p1
     ·exact Ie
     ·go_wp2_with fail
      refine (b3.o _).mono ?_;rintro e1 w1 ⟨rfl,rfl⟩;cases p2
      ·exact Ie
      ·go_wp2_with fail
       refine (a9.o _).mono ?_;rintro e1 w1 ⟨rfl,rfl⟩;cases p3
       ·exact Ie
       ·go_wp2_with fail
        refine (b0.o _).mono ?_;rintro e1 w1 ⟨rfl,rfl⟩;cases p4
        ·exact Ie
        ·go_wp2_with fail
         refine (HEM.o _).mono ?_;rintro e3 w3 ⟨rfl,hx⟩;have HXL:=Hd (HX9.o.trans hx);have HBL:=Hd (HB5.o.keep (hx.kept _));clear hx q3 q4 q8 q9 s0 s1 s2 s3 s4 sf sl;cases em
         ·have q3:=HXL.o.cell k3.o;have q4:=HXL.o.cell k4.o;have q8:=HXL.o.cell k8.o;have q9:=HXL.o.cell k9.o;obtain ⟨s0,s1,s2,s3,s4⟩:=HBL.o.qs5;have sf:=HBL.o.frozen;have sl:=HBL.o.lt;have hb4:=HB4_2.o.keep (HXL.o.kept _);obtain ⟨r0,r1,r2,r3,r4⟩:=hb4.qs5;have qf:=hb4.frozen;have ql:=hb4.lt;have HXF:=Hd (HX2.o.trans HXL.o);have HF:=Hd (HY.o AC);clear hb4
          go_wp2_with fail
          rw [HF.o];refine bodyPost_ret (v:=.agg #[.I U,.I Y,.I cc,.string a.b,.string a.e]) Gm rfl ⟨rfl,?_⟩;exact IJ
         ·exact Il
  ·go_wp2_with fail
   refine (HNO.o _).mono ?_;rintro e3 w3 ⟨rfl,hx⟩;have HX3:=Hd (HX2.o.trans hx);have hb2:=d6.o.keep (hx.kept _);have O:=d5.o.keep (hx.kept _);have hb4:=HB4_2.o.keep (hx.kept _);obtain ⟨HB2_3,HB3_3,b7⟩:=Hd3 hb2 O hb4;clear q0 q1 q2 q3 q4 q5 q6 q7 q8 q9;obtain ⟨q0,q1,q2,q3,q4⟩:=hb2.qs5;obtain ⟨q5,q6,q7,q8,q9⟩:=O.qs5;clear hx hb2 O hb4;obtain ⟨r0,r1,r2,r3,r4⟩:=b7.o.qs5;have qf:=b7.o.frozen;have ql:=b7.o.lt
   go_wp2_with fail
   rw [HJ.o AC];exact Sf
 ·go_wp2_with fail
  refine (f7.o _).mono ?_;rintro e1 w1 ⟨rfl,hx⟩;have HX1:=Hd (HX0.o.trans hx);have hb2:=d3.o.keep (hx.kept _);have O:=d4.o.keep (hx.kept _);have hb4:=d7.o.keep (hx.kept _);obtain ⟨b6,b5,b4⟩:=Hd3 hb2 O hb4;clear q0 q1 q2 q3 q4 q5 q6 q7 q8 q9;obtain ⟨q0,q1,q2,q3,q4⟩:=hb2.qs5;obtain ⟨q5,q6,q7,q8,q9⟩:=O.qs5;clear hx hb2 O hb4
  go_wp2_with fail
  refine (HNO.o _).mono ?_;rintro e2 w2 ⟨rfl,hx⟩;have HX2:=Hd (HX1.o.trans hx);have hb2:=b6.o.keep (hx.kept _);have O:=b5.o.keep (hx.kept _);have hb4:=b4.o.keep (hx.kept _);obtain ⟨d6,d5,HB4_2⟩:=Hd3 hb2 O hb4;clear q0 q1 q2 q3 q4 q5 q6 q7 q8 q9;obtain ⟨q0,q1,q2,q3,q4⟩:=hb2.qs5;obtain ⟨q5,q6,q7,q8,q9⟩:=O.qs5;clear hx hb2 O hb4;obtain ⟨r0,r1,r2,r3,r4⟩:=HB4_2.o.qs5;have qf:=HB4_2.o.frozen;have ql:=HB4_2.o.lt
  go_wp2_with fail
  rw [HJ.o AC];refine bodyPost_ret (v:=(Sq H3A)) Gm rfl ⟨rfl,?_⟩
  iterate 5 with_reducible refine Ext.set2 ?_ HG4.o _
  with_reducible exact HX2.o

def MeB(t:TypeId)(cs:Array Value)(N:Nat)(v:Value)(J:World):Prop:=∃ g:Nat,v=.slice (some ⟨g,0,none⟩) 2 2/\N<=g/\Blk J g t cs
def MeS(N:Nat)(l:List BA)(v:Value)(J:World):Prop:=∃ (A:OA) (c:Nat),v=.slice A l.length c/\OwnSs J N A c l
def MeD(N:Nat)(S:NP)(l:List Dep)(v:Value)(J:World):Prop:=∃ (A:OA) (c:Nat),v=.slice A l.length c/\OwnDs J N S A c l
def MeA(N:Nat)(T:NP)(s:Abs)(v:Value)(J:World):Prop:=∃ (A:OA) (c:Nat) (D:OA) (e:Nat),v=(Aq s A c D e)/\AbM J (λb=>T b\/N<=b) s A c D e
theorem Iu(h:qP:=by
  rintro v F wx γ' wy rr ⟨g,h1,h2,h3⟩
  exact ⟨g,h1,h2,h3.keep (rr.keptS (S:=λb=>b=g) λb _ e m hm=>by have:=hm.2;have:=G4L.o;omega)⟩):qP:=h
theorem JB(h:qP:=by
  intro V F J L hR hN hp hρ zs zg
  have HR:=hR
  refine Qr ?_
  exact ⟨F,H4A _ F (exaa _),λ_ _ _ h=>h,_,rfl,HR.o.size,Blk.new _ _ _⟩):qP:=h
theorem AGA(h:qP:=by
  have h4:=hm.2
  exact IS):qP:=h
theorem JH(h:qP:=by
  rintro v F wx γ' wy rr ⟨A,c,D,e,h1,h2⟩
  exact ⟨A,c,D,e,h1,h2.keep (rr.keptS λb _ hb m hm=>by
    exact AGA)⟩):qP:=h
theorem Iw(h:qP:=by rw [hm.1];exact hk4):qP:=h
theorem KH(a b:Abs)(A D B E:OA)(c e cb eb:Nat)(w:World)(S:NP)(hA:Strs w S A a.cols)(hD:RDeps w S D a.deps)(hB:Strs w S B b.cols)(hE:RDeps w S E b.deps)(ht:Tens w)(hz:AbN 20000 a)(hy:AbN 20000 b) :
    Cl 23 #[(Aq a A c D e),(Aq b B cb E eb)] w (Eh w S (Gq a b)):=by
  obtain ⟨w0,hw0⟩:=eqx (((w.alloc (.cells (Ap a A c D e) 36)).alloc (.cells (Ap b B cb E eb) 36)).alloc (.cells Az 36))
  obtain ⟨g2,hg2⟩:=eqx w.heap.size
  obtain ⟨g3,hg3⟩:=eqx (w.heap.size+1)
  obtain ⟨O,hg4⟩:=eqx (w.heap.size+2)
  obtain ⟨N,hN⟩:=eqx (w.heap.size+3)
  have hx0:Ext w w0:=CC
  have hb2:Blk w0 g2 36 (Ap a A c D e):=by rw [hw0,hg2];exact (Blk.new _ _ _).keep ((exbb _).kept _)
  have hb3:Blk w0 g3 36 (Ap b B cb E eb):=by rw [hw0,hg3];exact (H6A _ _ _ _).keep ((exaa _).kept _)
  have hb4:Blk w0 O 36 Az:=by rw [hw0,hg4];exact ICA _ _ _ _ _
  have hs0:w0.heap.size=w.heap.size+3:=by rw [hw0];simp
  obtain ⟨HW0,HG2,HG3,HG4,HX0,HB2,HB3,HB4⟩:=Hd8 hw0 hg2 hg3 hg4 hx0 hb2 hb3 hb4
  have HNN:=Hd (show N=w0.heap.size by omega)
  have HGG:=Hd (show w.heap.size=g2/\g3=g2+1/\O=g2+2/\N=g2+3 by omega)
  obtain ⟨Ta,hTa⟩:∃ z:Nat->Prop,z=λb=>S b/\b<w.heap.size:=⟨_,rfl⟩
  have HTL:=Hd (show ∀ b,Ta b->b<w.heap.size from λb hb=>by rw [hTa] at hb;exact hb.2)
  have HTA:=Hd hTa
  have XNO:=Hd (show ∀ m b,(Ta b\/N<=b)->¬((m=1004/\b=g2)\/(m=1005/\b=g3)) from λm b hb hm=>by
    exact IS)
  have hA1:=hA.mono (T:=Ta) λi hi hs=>BV
  have hD1:=hD.mono (T:=Ta) λi hi hs=>BV
  have hB1:=hB.mono (T:=Ta) λi hi hs=>BV
  have hE1:=hE.mono (T:=Ta) λi hi hs=>BV
  obtain ⟨ca,hca⟩:=eqx (AX a)
  obtain ⟨cb',hcb⟩:=eqx (AX b)
  obtain ⟨HCA,HCB,Z,a8,HT,HAC,HBC⟩:=Hd7 (show ∀ J,Ext w0 J->Cl 37 #[(Aq a A c D e)] J (Eh J Ta ca) from λJ hw'=>by rw [hca];exact As a A D c e J Ta (hA1.keep ((hx0.trans hw').kept _)) (hD1.keep ((hx0.trans hw').kept _)) (ht.ext (hx0.trans hw')) (hz.mono AB)) (show ∀ J,Ext w0 J->Cl 37 #[(Aq b B cb E eb)] J (Eh J Ta cb') from λJ hw'=>by rw [hcb];exact As b B E cb eb J Ta (hB1.keep ((hx0.trans hw').kept _)) (hE1.keep ((hx0.trans hw').kept _)) (ht.ext (hx0.trans hw')) (hy.mono AB)) (show AbN 20000 ca by rw [hca];exact hz.can) (show AbN 20000 cb' by rw [hcb];exact hy.can) ht hca hcb
  clear hw0 hg2 hg3 hg4 hN hx0 hb2 hb3 hb4 hs0 hTa hA hD hB hE hA1 hD1 hB1 hE1 hca hcb ht hz hy
  go_enter func23,ntmps23
  go_upto_region 1 with fail
  rw [<-HW0.o,<-HG4.o,<-HG3.o,<-HG2.o]
  refine Qa (λm b=>(m=1004/\b=g2)\/(m=1005/\b=g3)) [(0,[1004,1005]),(1,[1004,1005]),(2,[1005]),(3,[1004,1005]),(4,[1004,1005]),(5,[1005])] ?_
  apply H9A (LZ.refl _) AG
  · exact LA
  · rfl
  refine Qs (FP λv F J=>JoP N Ta ca v J) (H1A ?_) ?_ ?_
  · exact FA
  · exact Ls
  apply H9A (LZ.refl _) AG
  · exact Km
  · rfl
  refine Qs (FP λv F J=>JoP N Ta cb' v J) (H1A ?_) ?_ ?_
  · exact FA
  · exact Mh
  refine Chain.step (λ_ F J=>JoB g2 N Ta ca J/\F 1004=true) AG ?_ ?_ ?_
  · exact Ku
  · intro V F J L hR hN hp hρ hc hf hg
    refine ⟨rfl,?_⟩
    have e2:=hρ 2
    conv at e2=>rhs;whnf
    obtain ⟨A1,c1,D1,e1,hv,hab⟩:=hp 1 AB
    have e6:=(hρ 6).trans hv
    have hk0:=hN.key (k:=1004) AB
    have hgg:=HGG.o
    have hb0:=HB2.o.keep (hR.kept0 (S:=λb=>b=g2) λb _ e m hm=>by rcases hm with ⟨rfl,h⟩|⟨rfl,h⟩;exact hk0;omega)
    refine BY 36 rfl e2 e6 hb0 AH rfl AD ?_
    exact SH
  refine Chain.step (λ_ F J=>JoB g3 N Ta cb' J/\F 1005=true) AG ?_ ?_ ?_
  · exact LJ
  · intro V F J L hR hN hp hρ hc hf hg
    refine ⟨rfl,?_⟩
    have e3:=hρ 3
    conv at e3=>rhs;whnf
    obtain ⟨A1,c1,D1,e1,hv,hab⟩:=hp 3 AB
    have e8:=(hρ 8).trans hv
    have hk0:=hN.key (k:=1005) AB
    have hgg:=HGG.o
    have hb0:=HB3.o.keep (hR.kept0 (S:=λb=>b=g3) λb _ e m hm=>by rcases hm with ⟨rfl,h⟩|⟨rfl,h⟩;omega;exact hk0)
    refine BY 36 rfl e3 e8 hb0 AH rfl AD ?_
    exact R0
  intro V F w9 hR hG
  obtain ⟨⟨A2,c2,D2,e2,hb29,hab2⟩,-⟩:=hG 4 AB
  obtain ⟨⟨A3,c3,D3,e3,hb39,hab3⟩,-⟩:=hG 5 AB
  obtain ⟨U,Y,HAB2,HAB3,HX9,HB49,HSZ9⟩:=Hd7 hb29 hb39 hab2 hab3 (show Ext w w9 from Au HX0.o (hR.buts (S:=λb=>b=g2\/b=g3) (λm b _ hm _=>hm.imp And.right And.right)) (λb hb=>DB)) (HB4.o.keep (hR.kept0 (S:=λb=>b=O) λb _ e m hm=>by have:=HGG.o;rcases hm with ⟨_,h⟩|⟨_,h⟩<;>omega)) (show N<=w9.heap.size by have:=hR.size;have e0:w0.drew.heap.size=w0.heap.size:=rfl;have:=HNN.o;omega)
  refine Qx ?_
  clear hR hG hb29 hb39 hab2 hab3
  obtain ⟨k5,hk5⟩:=eqx (bits .and .i64 ca.kinds cb'.kinds)
  obtain ⟨b5,hb5⟩:=eqx (bits .and .i64 ca.bo cb'.bo)
  obtain ⟨tj,htj⟩:=eqx (DN ca.tx cb'.tx)
  obtain ⟨nj,hnj⟩:=eqx (NB ca.nu cb'.nu)
  obtain ⟨d1,hd1⟩:=eqx ((CZ (ca.dl,ca.dh) (cb'.dl,cb'.dh)).1)
  obtain ⟨d2,hd2⟩:=eqx ((CZ (ca.dl,ca.dh) (cb'.dl,cb'.dh)).2)
  obtain ⟨r1,hr1⟩:=eqx ((CZ (ca.rl,ca.rh) (cb'.rl,cb'.rh)).1)
  obtain ⟨r2,hr2⟩:=eqx ((CZ (ca.rl,ca.rh) (cb'.rl,cb'.rh)).2)
  obtain ⟨er,her⟩:=eqx (ca.errs&&cb'.errs)
  have hor1:bits .and .i64 ca.kinds cb'.kinds=k5:=hk5.symm
  have hor2:bits .and .i64 ca.bo cb'.bo=b5:=hb5.symm
  have hza:=Z.o
  have hzb:=a8.o
  obtain ⟨HJS,HJI,HJD,HJR,HEQ,HER⟩:=Hd6 (show ∀ J,Cl 72 #[(Sq ca.tx),(Sq cb'.tx)] J (G0 J tj) from λJ=>by rw [htj];exact ASA ca.tx cb'.tx hza.1 hza.2.1 hzb.1 hzb.2.1 J) (show ∀ J,Ext w9 J->Cl 73 #[(Rq ca.nu),(Rq cb'.nu)] J (Em J nj) from λJ hw'=>by rw [hnj];exact Ve ca.nu cb'.nu J (HT.o.ext (HX9.o.trans hw'))) (show ∀ J,Cl 74 #[.agg #[.I ca.dl,.I ca.dh],.agg #[.I cb'.dl,.I cb'.dh]] J (Cd J (d1,d2)) from λJ=>by rw [hd1,hd2];exact DM _ _ _ _ J) (show ∀ J,Cl 74 #[.agg #[.I ca.rl,.I ca.rh],.agg #[.I cb'.rl,.I cb'.rh]] J (Cd J (r1,r2)) from λJ=>by rw [hr1,hr2];exact DM _ _ _ _ J) (show I1 ca cb'=⟨k5,tj,nj,d1,d2,b5,r1,r2,ca.cols++cb'.cols,ca.deps++cb'.deps,er⟩ by rw [hk5,hb5,htj,hnj,hd1,hd2,hr1,hr2,her];rfl) her
  clear hk5 hb5 htj hnj hd1 hd2 hr1 hr2 her hza hzb
  obtain ⟨rm,hrm⟩:∃ z:Abs,z=⟨k5,tj,nj,d1,d2,b5,r1,r2,ca.cols++cb'.cols,ca.deps++cb'.deps,er⟩:=⟨_,rfl⟩
  have HRM:=Hd hrm
  have HEM:=Hd (show I1 ca cb'=rm by rw [HEQ.o,hrm])
  obtain ⟨HZM,G2L,G3L,G4L,HA29,HA39,HCS⟩:=Hd7 (show AbN 1000000 rm by rw [<-HEM.o];exact (Z.o.meetRaw a8.o).mono AB) (show g2<w9.heap.size/\g2≠O from ⟨U.o.lt,DB⟩) (show g3<w9.heap.size/\g3≠O from ⟨Y.o.lt,DB⟩) (show O<w9.heap.size from HB49.o.lt) (HAB2.o.mono (T:=S9 Ta N w9) λi hi hs=>⟨hs,hi⟩) (HAB3.o.mono (T:=S9 Ta N w9) λi hi hs=>⟨hs,hi⟩) (show ∀ J,Ext w9 J->∀ g,Blk J g 33 #[.slice A2 ca.cols.length c2,.slice A3 cb'.cols.length c3]->Cl 75 #[.slice (some ⟨g,0,none⟩) 2 2] J (FuA J (ca.cols++cb'.cols)) from λJ hw' g hb=>Ph _ _ A2 A3 c2 c3 g J _ _ ((HAB2.o.keep (hw'.kept _)).2.2.1) ((HAB3.o.keep (hw'.kept _)).2.2.1) hb (by have:=Z.o.2.2.1;omega) (by have:=a8.o.2.2.1;omega))
  have HCD:=Hd (show ∀ J,Ext w9 J->∀ g,Blk J g 34 #[.slice D2 ca.deps.length e2,.slice D3 cb'.deps.length e3]->Cl 76 #[.slice (some ⟨g,0,none⟩) 2 2] J (FtA J (S9 Ta N w9) (ca.deps++cb'.deps)) from λJ hw' g hb=>Ps _ _ D2 D3 e2 e3 g J _ (λb hb=>by have:=hb.2;have:=hw'.size;omega) ((HA29.o.keep (hw'.kept _)).2.2.2) ((HA39.o.keep (hw'.kept _)).2.2.2) hb (by have:=Z.o.2.2.2.1;omega) (by have:=a8.o.2.2.2.1;omega))
  clear hrm
  go_upto_region 2 with fail
  cases he:ca.errs
  iterate 2
    · first
      | (have HTR:=Hd (show er=false by rw [HER.o,he];rfl)
         have htr:=HTR.o)
      |(have hce:cb'.errs=er:=by rw [HER.o,he];rfl)
      refine Qa (λm b=>m=1050/\b=O) (lk 51 [1050]) ?_
      refine Qp ?_
      refine Qm (λV F J L hR hN hp hρ zs zg=>by
        have hxx:=hR.o.kept0 (S:=λb=>b<w9.heap.size/\b≠O) λb _ hb m hm=>absurd hm.2 hb.2
        have hbx:=U.o.keep (hxx.mono λb _ e=>It)
        have m0:J.cell? ⟨g2,0,none⟩=some (.I ca.kinds):=hbx.q0
        clear hxx hbx
        exact Qk) ?_
      refine Qp ?_
      refine Qm (λV F J L hR hN hp hρ zs zg=>by
        have hxx:=hR.o.kept0 (S:=λb=>b<w9.heap.size/\b≠O) λb _ hb m hm=>absurd hm.2 hb.2
        have hbx:=Y.o.keep (hxx.mono λb _ e=>Is)
        have m0:J.cell? ⟨g3,0,none⟩=some (.I cb'.kinds):=hbx.q0
        clear hxx hbx
        exact Qk) ?_
      iterate 2 refine Qp ?_
      refine Qm (λV F J L hR hN hp hρ zs zg=>by
        have hxx:=hR.o.kept0 (S:=λb=>b<w9.heap.size/\b≠O) λb _ hb m hm=>absurd hm.2 hb.2
        have hbx:=U.o.keep (hxx.mono λb _ e=>It)
        have m1:J.cell? ⟨g2,1,none⟩=some (.I ca.tx.least):=hbx.q1
        have m2:J.cell? ⟨g2,2,none⟩=some (.I ca.tx.most):=hbx.q2
        have m3:J.cell? ⟨g2,3,none⟩=some (.I ca.tx.cls):=hbx.q3
        have m4:J.cell? ⟨g2,4,none⟩=some (.string ca.tx.b):=hbx.q4
        have m5:J.cell? ⟨g2,5,none⟩=some (.string ca.tx.e):=hbx.q5
        clear hxx hbx
        exact Qk) ?_
      refine Qp ?_
      refine Qm (λV F J L hR hN hp hρ zs zg=>by
        have hxx:=hR.o.kept0 (S:=λb=>b<w9.heap.size/\b≠O) λb _ hb m hm=>absurd hm.2 hb.2
        have hbx:=Y.o.keep (hxx.mono λb _ e=>Is)
        have m1:J.cell? ⟨g3,1,none⟩=some (.I cb'.tx.least):=hbx.q1
        have m2:J.cell? ⟨g3,2,none⟩=some (.I cb'.tx.most):=hbx.q2
        have m3:J.cell? ⟨g3,3,none⟩=some (.I cb'.tx.cls):=hbx.q3
        have m4:J.cell? ⟨g3,4,none⟩=some (.string cb'.tx.b):=hbx.q4
        have m5:J.cell? ⟨g3,5,none⟩=some (.string cb'.tx.e):=hbx.q5
        clear hxx hbx
        exact Qk) ?_
      refine Qc (x:=(Sq tj)) (λJ=>HJS.o J) ?_
      refine Qp ?_
      refine Qm (λV F J L hR hN hp hρ zs zg=>by
        have hxx:=hR.o.kept0 (S:=λb=>b<w9.heap.size/\b≠O) λb _ hb m hm=>absurd hm.2 hb.2
        have hbx:=U.o.keep (hxx.mono λb _ e=>It)
        have m6:J.cell? ⟨g2,6,none⟩=some (.I ca.nu.ln):=hbx.q6
        have m7:J.cell? ⟨g2,7,none⟩=some (.I ca.nu.ls):=hbx.q7
        have m8:J.cell? ⟨g2,8,none⟩=some (.I ca.nu.hn):=hbx.q8
        have m9:J.cell? ⟨g2,9,none⟩=some (.I ca.nu.hs):=hbx.q9
        clear hxx hbx
        exact Qk) ?_
      refine Qp ?_
      refine Qm (λV F J L hR hN hp hρ zs zg=>by
        have hxx:=hR.o.kept0 (S:=λb=>b<w9.heap.size/\b≠O) λb _ hb m hm=>absurd hm.2 hb.2
        have hbx:=Y.o.keep (hxx.mono λb _ e=>Is)
        have m6:J.cell? ⟨g3,6,none⟩=some (.I cb'.nu.ln):=hbx.q6
        have m7:J.cell? ⟨g3,7,none⟩=some (.I cb'.nu.ls):=hbx.q7
        have m8:J.cell? ⟨g3,8,none⟩=some (.I cb'.nu.hn):=hbx.q8
        have m9:J.cell? ⟨g3,9,none⟩=some (.I cb'.nu.hs):=hbx.q9
        clear hxx hbx
        exact Qk) ?_
      refine Qg (Rq nj) ?_ ?_
      · intro V F J L hR hN hp hρ zs zg
        have HR:=hR
        have hk4:=hN.o.key (k:=1050) AB
        have hxx:=hR.o.ext0 (λm b _ hm=>Iw)
        have HXW:=Hd hxx
        clear hxx hk4
        refine Qr ?_
        refine (HJI.o J HXW.o).mono ?_
        exact DR
      refine Qp ?_
      refine Qm (λV F J L hR hN hp hρ zs zg=>by
        have hxx:=hR.o.kept0 (S:=λb=>b<w9.heap.size/\b≠O) λb _ hb m hm=>absurd hm.2 hb.2
        have hbx:=U.o.keep (hxx.mono λb _ e=>It)
        have m10:J.cell? ⟨g2,10,none⟩=some (.I ca.dl):=hbx.q10
        have m11:J.cell? ⟨g2,11,none⟩=some (.I ca.dh):=hbx.q11
        clear hxx hbx
        exact Qk) ?_
      refine Qp ?_
      refine Qm (λV F J L hR hN hp hρ zs zg=>by
        have hxx:=hR.o.kept0 (S:=λb=>b<w9.heap.size/\b≠O) λb _ hb m hm=>absurd hm.2 hb.2
        have hbx:=Y.o.keep (hxx.mono λb _ e=>Is)
        have m10:J.cell? ⟨g3,10,none⟩=some (.I cb'.dl):=hbx.q10
        have m11:J.cell? ⟨g3,11,none⟩=some (.I cb'.dh):=hbx.q11
        clear hxx hbx
        exact Qk) ?_
      refine Qc (x:=.agg #[.I d1,.I d2]) (λJ=>HJD.o J) ?_
      refine Qp ?_
      refine Qm (λV F J L hR hN hp hρ zs zg=>by
        have hxx:=hR.o.kept0 (S:=λb=>b<w9.heap.size/\b≠O) λb _ hb m hm=>absurd hm.2 hb.2
        have hbx:=U.o.keep (hxx.mono λb _ e=>It)
        have m12:J.cell? ⟨g2,12,none⟩=some (.I ca.bo):=hbx.q12
        clear hxx hbx
        exact Qk) ?_
      refine Qp ?_
      refine Qm (λV F J L hR hN hp hρ zs zg=>by
        have hxx:=hR.o.kept0 (S:=λb=>b<w9.heap.size/\b≠O) λb _ hb m hm=>absurd hm.2 hb.2
        have hbx:=Y.o.keep (hxx.mono λb _ e=>Is)
        have m12:J.cell? ⟨g3,12,none⟩=some (.I cb'.bo):=hbx.q12
        clear hxx hbx
        exact Qk) ?_
      iterate 2 refine Qp ?_
      refine Qm (λV F J L hR hN hp hρ zs zg=>by
        have hxx:=hR.o.kept0 (S:=λb=>b<w9.heap.size/\b≠O) λb _ hb m hm=>absurd hm.2 hb.2
        have hbx:=U.o.keep (hxx.mono λb _ e=>It)
        have m13:J.cell? ⟨g2,13,none⟩=some (.I ca.rl):=hbx.q13
        have m14:J.cell? ⟨g2,14,none⟩=some (.I ca.rh):=hbx.q14
        clear hxx hbx
        exact Qk) ?_
      refine Qp ?_
      refine Qm (λV F J L hR hN hp hρ zs zg=>by
        have hxx:=hR.o.kept0 (S:=λb=>b<w9.heap.size/\b≠O) λb _ hb m hm=>absurd hm.2 hb.2
        have hbx:=Y.o.keep (hxx.mono λb _ e=>Is)
        have m13:J.cell? ⟨g3,13,none⟩=some (.I cb'.rl):=hbx.q13
        have m14:J.cell? ⟨g3,14,none⟩=some (.I cb'.rh):=hbx.q14
        clear hxx hbx
        exact Qk) ?_
      refine Qc (x:=.agg #[.I r1,.I r2]) (λJ=>HJR.o J) ?_
      refine Qp ?_
      refine Qm (λV F J L hR hN hp hρ zs zg=>by
        have hxx:=hR.o.kept0 (S:=λb=>b<w9.heap.size/\b≠O) λb _ hb m hm=>absurd hm.2 hb.2
        have hbx:=U.o.keep (hxx.mono λb _ e=>It)
        have m15:J.cell? ⟨g2,15,none⟩=some (.slice A2 ca.cols.length c2):=hbx.q15
        clear hxx hbx
        exact Qk) ?_
      refine Qp ?_
      refine Qm (λV F J L hR hN hp hρ zs zg=>by
        have hxx:=hR.o.kept0 (S:=λb=>b<w9.heap.size/\b≠O) λb _ hb m hm=>absurd hm.2 hb.2
        have hbx:=Y.o.keep (hxx.mono λb _ e=>Is)
        have m15:J.cell? ⟨g3,15,none⟩=some (.slice A3 cb'.cols.length c3):=hbx.q15
        clear hxx hbx
        exact Qk) ?_
      refine Qs (FP λv F J=>MeB 33 #[.slice A2 ca.cols.length c2,.slice A3 cb'.cols.length c3] w9.heap.size v J) (H1A ?_) ?_ ?_
      · exact Iu
      · exact JB
      refine Qs (FP λv F J=>MeS w9.heap.size (ca.cols++cb'.cols) v J) (H1A ?_) ?_ ?_
      · rintro v F wx γ' wy rr ⟨A,c,h1,h2⟩
        exact ⟨A,c,h1,Own.keep h2.1 (rr.keptS λb _ e m hm=>by have:=(h2.1.blk e).1;have:=hm.2;have:=G4L.o;omega),h2.2⟩
      · intro V F J L hR hN hp hρ zs zg
        obtain ⟨g,hv,hg,hb⟩:=hp.o 34 AB
        have e43:=(hρ.o 43).trans hv
        have hk4:=hN.o.key (k:=1050) AB
        have hxx:=hR.o.ext0 (λm b _ hm=>Iw)
        have HXW:=Hd hxx
        clear hxx hk4
        have HBG:=Hd hb
        have HG:=Hd hg
        clear hb hg hv
        have HR:=hR
        refine Qr ?_
        refine (HCS.o J HXW.o g HBG.o).mono ?_
        rintro e1 w3 ⟨A5,c5,he,ho,hx⟩
        exact ⟨_,he,F,H4A _ F hx,λ_ _ _ h=>h,A5,c5,rfl,⟨ho.1.lower (by have h:=HR.o.size;simp at h;omega),ho.2⟩⟩
      refine Qp ?_
      refine Qm (λV F J L hR hN hp hρ zs zg=>by
        have hxx:=hR.o.kept0 (S:=λb=>b<w9.heap.size/\b≠O) λb _ hb m hm=>absurd hm.2 hb.2
        have hbx:=U.o.keep (hxx.mono λb _ e=>It)
        have m16:J.cell? ⟨g2,16,none⟩=some (.slice D2 ca.deps.length e2):=hbx.q16
        clear hxx hbx
        exact Qk) ?_
      refine Qp ?_
      refine Qm (λV F J L hR hN hp hρ zs zg=>by
        have hxx:=hR.o.kept0 (S:=λb=>b<w9.heap.size/\b≠O) λb _ hb m hm=>absurd hm.2 hb.2
        have hbx:=Y.o.keep (hxx.mono λb _ e=>Is)
        have m16:J.cell? ⟨g3,16,none⟩=some (.slice D3 cb'.deps.length e3):=hbx.q16
        clear hxx hbx
        exact Qk) ?_
      refine Qs (FP λv F J=>MeB 34 #[.slice D2 ca.deps.length e2,.slice D3 cb'.deps.length e3] w9.heap.size v J) (H1A ?_) ?_ ?_
      · exact Iu
      · exact JB
      refine Qs (FP λv F J=>MeD w9.heap.size (S9 Ta N w9) (ca.deps++cb'.deps) v J) (H1A ?_) ?_ ?_
      · rintro v F wx γ' wy rr ⟨A,c,h1,h2⟩
        exact ⟨A,c,h1,h2.keep (rr.keptS λb _ e m hm=>by
          have h4:=hm.2
          have:=G4L.o
          rcases e with e|e
          · have:=(h2.blk e).1;omega
          · have:=e.1;have:=HTL.o;have:=HGG.o;rcases e.1 with e1 | e1;(have:=HTL.o b e1;omega);omega)⟩
      · intro V F J L hR hN hp hρ zs zg
        obtain ⟨g,hv,hg,hb⟩:=hp.o 40 AB
        have e49:=(hρ.o 49).trans hv
        have hk4:=hN.o.key (k:=1050) AB
        have hxx:=hR.o.ext0 (λm b _ hm=>Iw)
        have HXW:=Hd hxx
        clear hxx hk4
        have HBG:=Hd hb
        have HG:=Hd hg
        clear hb hg hv
        have HR:=hR
        refine Qr ?_
        refine (HCD.o J HXW.o g HBG.o).mono ?_
        rintro e1 w3 ⟨A5,c5,he,ho,hx⟩
        exact ⟨_,he,F,H4A _ F hx,λ_ _ _ h=>h,A5,c5,rfl,ho.lower (by have h:=HR.o.size;simp at h;omega)⟩
      refine Qp ?_
      refine Qm (λV F J L hR hN hp hρ zs zg=>by
        have hxx:=hR.o.kept0 (S:=λb=>b<w9.heap.size/\b≠O) λb _ hb m hm=>absurd hm.2 hb.2
        have hbx:=U.o.keep (hxx.mono λb _ e=>It)
        have m17:J.cell? ⟨g2,17,none⟩=some (.bool ca.errs):=hbx.q17
        clear hxx hbx
        exact Qk) ?_
      first
      | (refine Qp ?_
         iterate 2 refine Qn ?_)
      | (iterate 2 refine Qp ?_
         refine Qm (λV F J L hR hN hp hρ zs zg=>by
           have hxx:=hR.o.kept0 (S:=λb=>b<w9.heap.size/\b≠O) λb _ hb m hm=>absurd hm.2 hb.2
           have hbx:=Y.o.keep (hxx.mono λb _ e=>Is)
           have m17:J.cell? ⟨g3,17,none⟩=some (.bool cb'.errs):=hbx.q17
           clear hxx hbx
           exact Qk) ?_)
      refine Qp ?_
      refine Qs (FP λv F J=>MeA N Ta rm v J) (H1A ?_) ?_ ?_
      · exact JH
      · intro V F J L hR hN hp hρ zs zg
        obtain ⟨A5,c5,hv35,ho35⟩:=hp.o 35 AB
        have e44:=(hρ.o 44).trans hv35
        clear hv35
        obtain ⟨A6,c6,hv41,ho41⟩:=hp.o 41 AB
        have e50:=(hρ.o 50).trans hv41
        clear hv41
        have HO5:=Hd ho35
        have HO6:=Hd ho41
        clear ho35 ho41
        refine Qr ?_
        refine ⟨F,LZ.refl _ _ _,λ_ _ _ h=>h,A5,c5,A6,c6,?_,?_⟩
        first
        | (· rw [HRM.o,HTR.o]
             simp only [Aq,Ap,List.length_append]
             rfl)
        | (· rw [HRM.o]
             simp only [Aq,Ap,List.length_append]
             rfl)
        · rw [HRM.o]
          refine ⟨HO5.o.1.cap,?_,?_,?_⟩
          · obtain ⟨hs,hhs,hoo,-⟩:=HO6.o.add
            exact hoo.cap
          · exact HO5.o.strs (by have:=Z.o.2.2.1;have:=a8.o.2.2.1;show (ca.cols++cb'.cols).length<=_;rw [List.length_append];omega) (λb hb=>.inr (by have:=(HO5.o.1.blk hb).1;have:=HSZ9.o;omega))
          · exact HO6.o.rdeps (by have:=Z.o.2.2.2.1;have:=a8.o.2.2.2.1;show (ca.deps++cb'.deps).length<=_;rw [List.length_append];omega) (λb hb=>.inr (by have:=(HO6.o.blk hb).1;have:=HSZ9.o;omega)) (λb hb=>hb.1)
      refine Qs (FP λv F J=>MeA N Ta (AX rm) v J) (H1A ?_) ?_ ?_
      · exact JH
      · intro V F J L hR hN hp hρ zs zg
        obtain ⟨A7,c7,D7,e7,hv48,hab⟩:=hp.o 48 AB
        have e57:=(hρ.o 57).trans hv48
        have hk4:=hN.o.key (k:=1050) AB
        have hxx:=hR.o.ext0 (λm b _ hm=>Iw)
        have HXW:=Hd hxx
        clear hxx hk4
        have HAB:=Hd hab
        have HR:=hR
        clear hab hv48
        refine Qr ?_
        refine (As rm A7 D7 c7 e7 J _ HAB.o.2.2.1 HAB.o.2.2.2 (HT.o.ext (HX9.o.trans HXW.o)) HZM.o).mono ?_
        rintro e1 w3 ⟨A8,c8,D8,e8,he,hab8,hx⟩
        exact ⟨_,he,F,H4A _ F hx,λ_ _ _ h=>h,A8,c8,D8,e8,rfl,hab8.mono λb _ hb=>by
          rcases hb with hb|hb
          · exact hb
          · right;have h1:=HXW.o.size;have:=HSZ9.o;omega⟩
      refine Chain.step (λ_ F J=>JoB O N Ta (AX rm) J/\F 1050=true) AG ?_ ?_ ?_
      · rintro l F wx γ' wy rr ⟨⟨A1,c1,D1,e1,h1,h2⟩,h3⟩
        exact ⟨⟨A1,c1,D1,e1,h1.keep (rr.keptS (S:=λb=>b=O) λb _ e m hm=>by rw [hm.1,h3,rr.done _ h3]),h2.keep (rr.keptS λb _ hb m hm=>by rw [hm.1,h3,rr.done _ h3])⟩,rr.done _ h3⟩
      · intro V F J L hR hN hp hρ hc hf hg
        refine ⟨rfl,?_⟩
        obtain ⟨A7,c7,D7,e7,hv49,hab⟩:=hp 49 AB
        have e58:=(hρ 58).trans hv49
        have e4:=hρ 4
        conv at e4=>rhs;whnf
        have hk0:=hN.key (k:=1050) AB
        have hb0:=HB49.o.keep (hR.kept0 (S:=λb=>b=O) λb _ e m hm=>CF)
        refine BY 36 rfl e4 e58 hb0 AH rfl AD ?_
        intro w4 hb4 ho4
        exact ⟨F.put 1050,H2A hk0 ho4.os ho4.tape ho4.output (Nat.le_of_eq ho4.size.symm) (λb hb hm=>ho4.block b λe=>hm ⟨rfl,e⟩),LK.done AB,⟨A7,c7,D7,e7,hb4,hab.keep (ho4.kept λb _ hb e=>by have:=HGG.o;rcases hb with hb|hb;(have:=HTL.o b hb;omega);omega)⟩,AU⟩
      intro V F w10 hR hG
      refine Qx ?_
      obtain ⟨⟨A7,c7,D7,e7,hb50,hab50⟩,-⟩:=hG 50 AB
      obtain ⟨HB50,HAB50,HX10⟩:=Hd3 hb50 hab50 (show Ext w w10 from Au HX9.o (hR.buts (S:=λb=>b=O) (λm b _ hm _=>hm.2)) (λb hb=>DB))
      clear hR hG hb50 hab50
      go_wp2
      refine bodyPost_ret (Bv results23 rfl (Eq HB50.o AS AH)) rfl ?_
      have HEND:=Hd (show Gq a b=AX rm by unfold Gq;rw [<-HAC.o,<-HBC.o,HEM.o])
      rw [HEND.o]
      refine ⟨A7,c7,D7,e7,rfl,HAB50.o.mono λb _ hb => ?_,HX10.o⟩
      rcases hb with hb|hb
      · rw [HTA.o] at hb;exact .inl hb.1
      · right;have:=HGG.o;omega

def HdA(v:Val):Value:=.agg #[.I v.kind,.string v.s,.I v.dn,.I v.ds,.I v.n,.slice none 0 0,.slice none 0 0]
def G0A(w:World)(o:Option Val)(e:Ending)(J:World):Prop:=e=.returned (.tuple #[HdA (o.getD Val.zero),.bool o.isSome])/\Ext w J
def Do(c:Abs):Option Val :=
 if c.errs=true then none
 else if c.kinds=2 then (if c.tx.least=c.tx.b.size/\c.tx.most=c.tx.b.size then some ⟨1,c.tx.b,0,0,0,[],[]⟩ else none)
 else if c.kinds=4 then (if c.nu.ln=c.nu.hn/\c.nu.ls=c.nu.hs then some ⟨2,⟨#[]⟩,c.nu.ln,c.nu.ls,0,[],[]⟩ else none)
 else if c.kinds=8 then (if c.dl=c.dh then some ⟨3,⟨#[]⟩,0,0,c.dl,[],[]⟩ else none)
 else if c.kinds=16 then (if c.bo≠3 then some ⟨4,⟨#[]⟩,0,0,c.bo-1,[],[]⟩ else none)
 else none
theorem DGA(a:Abs):Cp a=Do (AX a):=rfl
theorem GRA{a:Abs}(h:(AX a).kinds=16):1<=(AX a).bo/\(AX a).bo<=3:=by
 have:=D3A (FSA a) (by rw [h];decide);omega
theorem EJ(h:qP:=by
 iterate 7 with_reducible refine Ext.set2 ?_ HG2L.o _
 with_reducible exact HX2.o):qP:=h
theorem UF(h:qP:=by
 go_wp2_with fail
 refine bodyPost_ret (v:=.tuple #[.agg Vz,.bool false]) (by simp [results,results22,go_sem,v0,v1,v2,v3,v4,v5,v6]) rfl ⟨?_,?_⟩
 ·rw [HF.o];rfl
 ·exact EJ):qP:=h
theorem IV(h:qP:=by
 rintro ee wz ⟨rfl,rfl⟩;exact UF):qP:=h
theorem VS(h:qP:=by
 clear ha
 go_wp2_with fail
 refine (HT1.o _).mono ?_;exact IV):qP:=h
theorem QU(h:qP:=by
 clear ha
 go_wp2_with fail
 refine (HT1.o _).mono ?_;rintro ee wz ⟨rfl,rfl⟩
 go_wp2_with fail
 refine (HT2.o _).mono ?_;exact IV):qP:=h
theorem EP(h:qP:=by simp [results,results22,go_sem,v0,v1,v2,v3,v4,v5,v6]):qP:=h
theorem JS(a:Abs)(A D:OA)(c e:Nat)(w:World)(S:NP)(hA:Strs w S A a.cols)(hD:RDeps w S D a.deps)(ht:Tens w)(hz:AbN 1000000 a) :
  Cl 22 #[(Aq a A c D e)] w (G0A w (Cp a)):=by
 obtain ⟨w0,hw0⟩:=eqx ((w.alloc (.cells (Ap a A c D e) 36)).alloc (.cells Vz 40));obtain ⟨g1,hg1⟩:=eqx w.heap.size;obtain ⟨g2,hg2⟩:=eqx (w.heap.size+1);have hx0:Ext w w0:=Bh;have hb1:Blk w0 g1 36 (Ap a A c D e):=Ic;have hb2:Blk w0 g2 40 Vz:=(by rw [hw0,hg2];exact H6A _ _ _ _);obtain ⟨b8,b7,HG2,HB1,HB2,HX0,HC⟩:=Hd7 hw0 hg1 hg2 hb1 hb2 hx0 (As a A D c e w0 S (hA.keep (hx0.kept _)) (hD.keep (hx0.kept _)) (ht.ext hx0) hz);obtain ⟨s,hs⟩:=eqx (AX a);obtain ⟨U,b6,HG2L⟩:=Hd3 (show Cp a=Do s by rw [hs];exact DGA a) (show s.kinds=16->1<=s.bo/\s.bo<=3 from λh=>by rw [hs] at h|-;exact GRA h) (show w.heap.size<=g2 by omega);rw [<-hs] at HC;clear hw0 hg1 hg2 hb1 hb2 hx0 hA hD ht hz hs
 go_enter func22,ntmps22
 go_upto_region 1 with fail
 rw [<-b8.o,<-HG2.o,<-b7.o];refine wp_region_lit ?_;refine AJ rfl 36 _ rfl g1 rfl HB1.o AS AH ?_
 go_wp2_with fail
 refine HC.o.mono ?_;rintro e1 w1 ⟨A',c',D',e',rfl,-,hx1⟩;have HX1:=Hd (HX0.o.trans hx1);have HB21:=Hd (HB2.o.keep (hx1.kept _));clear hx1;rename_i K1 hK1 K2 hK2;refine hK2 _ _ ?_;refine Ag rfl rfl ?_;obtain ⟨g3,hg3⟩:=eqx w1.heap.size;rw [<-hg3];refine AM rfl 36 _ _ rfl g3 (Ap s A' c' D' e') rfl rfl 36 _ (GK hg3) AH rfl AD ?_;intro w2 O b0;have hx2:Ext w1 w2:=(exaa w1).only b0 GI;have HX2:=Hd (HX1.o.trans hx2);have hb2:=HB21.o.keep (hx2.kept _);obtain ⟨q0,q1,q2⟩:=O.qs3;have q4:=O.q4;have q6:=O.q6;have q7:=O.q7;have q8:=O.q8;have q9:=O.q9;have q10:=O.q10;have q11:=O.q11;have q12:=O.q12;have q17:w2.cell? ⟨g3,17,none⟩=some (.bool s.errs):=O.q17;obtain ⟨v0,v1,v2,v3,v4,v5,v6⟩:=hb2.qs7;have vf:=hb2.frozen;have vl:=hb2.lt;obtain ⟨HT1,HT2,Z,a9⟩:=Hd4 (show ∀ J,Cl 32 #[.I 1] J (Bk J 2) from λJ=>At 1 AA J) (show ∀ J,Cl 32 #[.I 2] J (Bk J 4) from λJ=>At 2 AA J) (show ∀ J,Cl 32 #[.I 3] J (Bk J 8) from λJ=>At 3 AA J) (show ∀ J,Cl 32 #[.I 4] J (Bk J 16) from λJ=>At 4 AA J);refine hK1 _ _ ?_;clear hK1 hK2 O hb2 b0 hx2 hg3;cases he:s.errs
 case true =>
  have HF:=Hd (show Cp a=none by rw [U.o];unfold Do;simp [he]);exact UF
 by_cases h2:s.kinds=2
 case pos =>
  by_cases ha:s.tx.least=s.tx.b.size/\s.tx.most=s.tx.b.size
  case pos =>
   obtain ⟨Y,a8⟩:=ha;have HF:=Hd (show Cp a=some ⟨1,s.tx.b,0,0,0,[],[]⟩ by rw [U.o];unfold Do;simp [he,h2,Y,a8])
   go_wp2_with fail
   refine (HT1.o _).mono ?_;rintro ee wz ⟨rfl,rfl⟩
   go_wp2_with fail
   refine bodyPost_ret (v:=.tuple #[.agg #[.I 1,.string s.tx.b,.I 0,.I 0,.I 0,.slice none 0 0,.slice none 0 0],.bool true]) EP rfl ⟨?_,?_⟩
   ·rw [HF.o];rfl
   ·exact EJ
  case neg =>
   have HF:=Hd (show Cp a=none by rw [U.o];unfold Do;rw [if_neg De,if_pos h2,if_neg ha]);by_cases Y:s.tx.least=s.tx.b.size
   ·have a8:¬s.tx.most=s.tx.b.size:=λh=>ha ⟨Y,h⟩;exact VS
   ·exact VS
 by_cases h4:s.kinds=4
 case pos =>
  by_cases ha:s.nu.ln=s.nu.hn/\s.nu.ls=s.nu.hs
  case pos =>
   obtain ⟨Y,a8⟩:=ha;have HF:=Hd (show Cp a=some ⟨2,⟨#[]⟩,s.nu.hn,s.nu.hs,0,[],[]⟩ by rw [U.o];unfold Do;simp [he,h4,Y,a8])
   go_wp2_with fail
   refine (HT1.o _).mono ?_;rintro ee wz ⟨rfl,rfl⟩
   go_wp2_with fail
   refine (HT2.o _).mono ?_;rintro ee wz ⟨rfl,rfl⟩
   go_wp2_with fail
   refine bodyPost_ret (v:=.tuple #[.agg #[.I 2,.string ⟨#[]⟩,.I s.nu.hn,.I s.nu.hs,.I 0,.slice none 0 0,.slice none 0 0],.bool true]) EP rfl ⟨?_,?_⟩
   ·rw [HF.o];rfl
   ·exact EJ
  case neg =>
   have HF:=Hd (show Cp a=none by rw [U.o];unfold Do;rw [if_neg De,if_neg h2,if_pos h4,if_neg ha]);by_cases Y:s.nu.ln=s.nu.hn
   ·have a8:¬s.nu.ls=s.nu.hs:=λh=>ha ⟨Y,h⟩;exact QU
   ·exact QU
 by_cases h8:s.kinds=8
 case pos =>
  by_cases ha:s.dl=s.dh
  case pos =>
   have HF:=Hd (show Cp a=some ⟨3,⟨#[]⟩,0,0,s.dh,[],[]⟩ by rw [U.o];unfold Do;simp [he,h8,ha])
   go_wp2_with fail
   refine (HT1.o _).mono ?_;rintro ee wz ⟨rfl,rfl⟩
   go_wp2_with fail
   refine (HT2.o _).mono ?_;rintro ee wz ⟨rfl,rfl⟩
   go_wp2_with fail
   refine (Z.o _).mono ?_;rintro ee wz ⟨rfl,rfl⟩
   go_wp2_with fail
   refine bodyPost_ret (v:=.tuple #[.agg #[.I 3,.string ⟨#[]⟩,.I 0,.I 0,.I s.dh,.slice none 0 0,.slice none 0 0],.bool true]) EP rfl ⟨?_,?_⟩
   ·rw [HF.o];rfl
   ·exact EJ
  case neg =>
   have HF:=Hd (show Cp a=none by rw [U.o];unfold Do;simp [he,h8,ha])
   go_wp2_with fail
   refine (HT1.o _).mono ?_;rintro ee wz ⟨rfl,rfl⟩
   go_wp2_with fail
   refine (HT2.o _).mono ?_;rintro ee wz ⟨rfl,rfl⟩
   go_wp2_with fail
   refine (Z.o _).mono ?_;exact IV
 by_cases h16:s.kinds=16
 case pos =>
  have b4:=b6.o h16;by_cases ha:s.bo=3
  case pos =>
   have HF:=Hd (show Cp a=none by rw [U.o];unfold Do;simp [he,h16,ha])
   go_wp2_with fail
   refine (HT1.o _).mono ?_;rintro ee wz ⟨rfl,rfl⟩
   go_wp2_with fail
   refine (HT2.o _).mono ?_;rintro ee wz ⟨rfl,rfl⟩
   go_wp2_with fail
   refine (Z.o _).mono ?_;rintro ee wz ⟨rfl,rfl⟩
   go_wp2_with fail
   refine (a9.o _).mono ?_;exact IV
  case neg =>
   have b3:s.bo=1\/s.bo=2:=AA;clear b4
   rcases b3 with hb|hb
   ·have b5:IntKind.i64.wrap 1=1:=rfl;have HF:=Hd (show Cp a=some ⟨4,⟨#[]⟩,0,0,0,[],[]⟩ by rw [U.o];unfold Do;simp [he,h16,hb])
    go_wp2_with fail
    refine (HT1.o _).mono ?_;rintro ee wz ⟨rfl,rfl⟩
    go_wp2_with fail
    refine (HT2.o _).mono ?_;rintro ee wz ⟨rfl,rfl⟩
    go_wp2_with fail
    refine (Z.o _).mono ?_;rintro ee wz ⟨rfl,rfl⟩
    go_wp2_with fail
    refine (a9.o _).mono ?_;rintro ee wz ⟨rfl,rfl⟩
    go_wp2_with fail
    refine bodyPost_ret (v:=.tuple #[.agg #[.I 4,.string ⟨#[]⟩,.I 0,.I 0,.I 0,.slice none 0 0,.slice none 0 0],.bool true]) EP rfl ⟨?_,?_⟩
    ·rw [HF.o];rfl
    ·exact EJ
   ·have b5:IntKind.i64.wrap 2=2:=rfl;have HF:=Hd (show Cp a=some ⟨4,⟨#[]⟩,0,0,1,[],[]⟩ by rw [U.o];unfold Do;simp [he,h16,hb])
    go_wp2_with fail
    refine (HT1.o _).mono ?_;rintro ee wz ⟨rfl,rfl⟩
    go_wp2_with fail
    refine (HT2.o _).mono ?_;rintro ee wz ⟨rfl,rfl⟩
    go_wp2_with fail
    refine (Z.o _).mono ?_;rintro ee wz ⟨rfl,rfl⟩
    go_wp2_with fail
    refine (a9.o _).mono ?_;rintro ee wz ⟨rfl,rfl⟩
    go_wp2_with fail
    refine bodyPost_ret (v:=.tuple #[.agg #[.I 4,.string ⟨#[]⟩,.I 0,.I 0,.I 1,.slice none 0 0,.slice none 0 0],.bool true]) EP rfl ⟨?_,?_⟩
    ·rw [HF.o];rfl
    ·exact EJ
 have HF:=Hd (show Cp a=none by rw [U.o];unfold Do;rw [if_neg De,if_neg h2,if_neg h4,if_neg h8,if_neg h16])
 go_wp2_with fail
 refine (HT1.o _).mono ?_;rintro ee wz ⟨rfl,rfl⟩
 go_wp2_with fail
 refine (HT2.o _).mono ?_;rintro ee wz ⟨rfl,rfl⟩
 go_wp2_with fail
 refine (Z.o _).mono ?_;rintro ee wz ⟨rfl,rfl⟩
 go_wp2_with fail
 refine (a9.o _).mono ?_;rintro ee wz ⟨rfl,rfl⟩
 go_wp2_with fail
 refine bodyPost_ret (v:=.tuple #[.agg Vz,.bool false]) EP rfl ⟨?_,?_⟩
 ·rw [HF.o];rfl
 ·exact EJ

theorem Gr(h:qP:=by rw [hw0,hg2];exact (Blk.new _ _ _).keep ((exaa _).kept _)):qP:=h
theorem OQ(h:qP:=by rw [hw0,hg3];exact H6A _ _ _ _):qP:=h
theorem I9(q:Nat)(a:Abs)(x:Val)(A D B C:OA)(c e cb cc:Nat)(w:World)(S T:NP)(hA:Strs w S A a.cols)(hD:RDeps w S D a.deps)(hx:RV w T q x B C) :
  Cl 41 #[(Aq a A c D e),(Vq x B cb C cc)] w (Ae w (ED a x)):=by
 obtain ⟨w0,hw0⟩:=eqx ((w.alloc (.cells (Ap a A c D e) 36)).alloc (.cells (Vp x B cb C cc) 40));obtain ⟨g2,hg2⟩:=eqx w.heap.size;obtain ⟨g3,hg3⟩:=eqx (w.heap.size+1);have hx0:Ext w w0:=Bh;have hb2:Blk w0 g2 36 (Ap a A c D e):=Gr;have a8:Blk w0 g3 40 (Vp x B cb C cc):=OQ;have q13:=hb2.q13;have q14:=hb2.q14;have q15:w0.cell? ⟨g2,15,none⟩=some (.slice A a.cols.length c):=hb2.q15;have q16:w0.cell? ⟨g2,16,none⟩=some (.slice D a.deps.length e):=hb2.q16;have p5:=a8.q5;have p6:w0.cell? ⟨g3,6,none⟩=some (.slice C x.rows.length cc):=a8.q6;obtain ⟨HW0,HG2,HG3,HX0,HA,HD,HV,HP5⟩:=Hd8 hw0 hg2 hg3 hx0 (hA.keep (hx0.kept _)) (hD.keep (hx0.kept _)) (hx.keep (hx0.kept _)) p5;have HP6:=Hd p6;have hal:=hA.2.1;have hdl:=hD.1;obtain ⟨U,hnr⟩:=eqx x.rows.length;have HT:=Hd (show ED a x=(decide (a.rl<=(U:Int))&&decide ((U:Int)<=a.rh)&&a.cols.all (Aw x.cols)&&a.deps.all λd=>BH x.cols x.rows d.frm d.tov) by rw [hnr];rfl);have HNR:=Hd hnr;rw [<-hnr] at p6;clear hw0 hg2 hg3 hx0 hb2 a8 hA hD hx hnr
 go_enter func41,ntmps41
 go_upto_region 1 with fail
 rw [<-HW0.o,<-HG3.o,<-HG2.o];by_cases h1:a.rl<=(U:Int)
 case neg =>
  have h1':(U:Int)<a.rl:=AA;have HF:=Hd (show ED a x=false by rw [HT.o,decide_eq_false h1];rfl);go_wp2;exact Gi
 have h1':¬(U:Int)<a.rl:=AA;by_cases h2:(U:Int)<=a.rh
 case neg =>
  have h2':a.rh<(U:Int):=AA;have HF:=Hd (show ED a x=false by rw [HT.o,decide_eq_false h2,Bool.and_false];rfl);go_wp2;exact Gi
 have h2':¬a.rh<(U:Int):=AA;have HT2:=Hd (show ED a x=(a.cols.all (Aw x.cols)&&a.deps.all λd=>BH x.cols x.rows d.frm d.tov) by rw [HT.o,decide_eq_true h1,decide_eq_true h2];rfl);clear h1 h2;go_wp2
 go_loop [28] (λi=>∃ k:Nat,k<=a.cols.length/\i=.I k/\∀ j (h:j<a.cols.length),j<k->Aw x.cols a.cols[j]=true) (λi=>a.cols.length-(intOf i).toNat)
 case atStart=>exact ⟨0,AN,rfl,AK⟩
 case round =>
  obtain ⟨k,hk,rfl,hall⟩:=hrel;have HAL:=Hd hall;clear hall;by_cases hlt:k<a.cols.length
  ·obtain ⟨b1,o1,rfl,z1,c1⟩:=HA.o.at_ hlt;have HC:=Hd (λJ (hw':Ext w0 J)=>JK B cb x.cols a.cols[k] J T (HV.o.strs.keep (hw'.kept _)));cases hm:Aw x.cols a.cols[k]
   ·rw [hm] at HC;have HF:=Hd (show ED a x=false by rw [HT2.o,CX a.cols (Aw x.cols) k hlt hm];rfl);clear hm
    go_wp2_with fail
    refine (HC.o _ (Ext.refl _)).mono ?_;rintro ee J ⟨rfl,rfl⟩
    go_wp2_with fail
    exact Gi
   ·rw [hm] at HC;have HM:=Hd hm;clear hm
    go_wp2_with fail
    refine (HC.o _ (Ext.refl _)).mono ?_;rintro ee J ⟨rfl,rfl⟩
    go_wp2_with fail
    go_round
    case rel =>
     refine ⟨k+1,AA,AE,λj h hj => ?_⟩;by_cases hjk:j=k
     ·subst hjk;exact HM.o
     ·exact HAL.o j h AA
    case measure=>simp [intOf];omega
  ·have a9:=Hd (show ED a x=(a.deps.all λd=>BH x.cols x.rows d.frm d.tov) by rw [HT2.o,CH a.cols (Aw x.cols) (λj h=>HAL.o j h AA),Bool.true_and]);go_wp2
   go_loopw [41] (λi wr=>∃ k:Nat,k<=a.deps.length/\i=.I k/\Ext w0 wr/\∀ j (h:j<a.deps.length),j<k->(λd:Dep=>BH x.cols x.rows d.frm d.tov) a.deps[j]=true) (λi _=>a.deps.length-(intOf i).toNat)
   case atStart=>exact ⟨0,AN,rfl,Ext.refl _,AK⟩
   case round =>
    clear p5 p6 q13 q14 q15 q16;obtain ⟨m,hm,rfl,hext,hall⟩:=hrel;have HE:=Hd hext;have HDL:=Hd hall;clear hall;by_cases hlm:m<a.deps.length
    ·obtain ⟨b1,o1,B1,e1,he,z1,c1,c2,f1,f2,f3⟩:=(HD.o.keep (hext.kept _)).at_ hlm;subst he;obtain ⟨d,hd⟩:=eqx (a.deps[m]);rw [<-hd] at c1 c2 f1 f2 f3;have p5:=hext.cell HP5.o;have p6:=hext.cell HP6.o;obtain ⟨wv,Z⟩:=eqx (wr.alloc (.cells #[.slice B1 d.frm.length e1,.string d.tov] 64));have O:Ext wr wv:=(by rw [Z];exact (Ext.refl wr).alloc _);have b3:Blk wv wr.heap.size 64 #[.slice B1 d.frm.length e1,.string d.tov]:=(by rw [Z];exact Blk.new _ _ _);obtain ⟨r0,r1⟩:=b3.qs2;have p5':=O.cell p5;have p6':=O.cell p6;have hxx:=hext.trans O;obtain ⟨HH,HWV,HXV,HXW,b0⟩:=Hd5 (Xp q x.cols x.rows d.frm d.tov B C B1 cb cc e1 wv T T S (HV.o.strs.keep (hxx.kept _)) (HV.o.rows_.keep (hxx.kept _)) (f3.keep (O.kept _))) Z (HX0.o.trans hxx) hxx hd;clear Z O b3 hxx f1 f2 f3 hd hext
     go_upto_region 12 with fail
     rw [<-HWV.o];clear p5 p6 c1 c2;cases hh:BH x.cols x.rows d.frm d.tov
     ·rw [hh] at HH;have HF:=Hd (show ED a x=false by rw [a9.o];exact CX a.deps (λd=>BH x.cols x.rows d.frm d.tov) m hlm (by rw [<-b0.o];exact hh));clear hh
      go_wp2_with fail
      refine HH.o.mono ?_;rintro ee J ⟨rfl,Y⟩;have HXL:=Hd (HXV.o.trans Y);clear Y
      go_wp2_with fail
      go_ret;exact ⟨BB,HXL.o⟩
     ·rw [hh] at HH;have HM:=Hd hh;clear hh
      go_wp2_with fail
      refine HH.o.mono ?_;rintro ee J ⟨rfl,Y⟩;have HXL:=Hd (HXW.o.trans Y);clear Y
      go_wp2_with fail
      go_roundw
      case rel =>
       refine ⟨m+1,AA,AE,HXL.o,λj h hj => ?_⟩;by_cases hjk:j=m
       ·subst hjk;have:=HM.o;rw [b0.o] at this;exact this
       ·exact HDL.o j h AA
      case measure=>simp [intOf];omega
    ·have HF:=Hd (show ED a x=true by rw [a9.o];exact CH a.deps (λd=>BH x.cols x.rows d.frm d.tov) (λj h=>HDL.o j h AA));clear hext;go_wp2;go_ret;exact ⟨BB,HX0.o.trans HE.o⟩
