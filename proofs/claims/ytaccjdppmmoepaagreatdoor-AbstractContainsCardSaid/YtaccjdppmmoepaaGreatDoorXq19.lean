/- Lemmas. No conditions. -/
import Derived.Test.YtaccjdppmmoepaaGreatDoorXq18
set_option maxRecDepth 100000
set_option maxHeartbeats 4000000
namespace Go.Proofs.YtaccjdppmmoepaaGreatDoor
open Go Go.RowKit Tryz
variable {qP:Prop}

theorem GOA{v:Val}(hr:BC v=true)(hk:v.kind=4):v.n=0\/v.n=1:=Gx hr hk
theorem KX(h:qP:=by
 go_wp2_with fail
 exact Uj):qP:=h
theorem VC(h:qP:=by
 have HF:=Hd (show AW a x=false by unfold AW;rw [hr];rfl);rw [hr] at HRT;clear hr;refine HRT.o.mono ?_;rintro e1 w1 ⟨rfl,hx1⟩;have HX1:=Hd (HX0.o.trans hx1);clear hx1 p0 p1 p2 p3 p4 p5 p6;exact KX):qP:=h
theorem UV(h:qP:=by
 have q17:w1.cell? ⟨g2,17,none⟩=some (.bool a.errs):=HB21.o.q17;have hkk:(x.kind==0)=true:=(by rw [hk0];rfl);have HF:=Hd (show AW a x=a.errs by unfold AW;rw [HR.o,if_pos hk0];rfl);exact KX):qP:=h
theorem Wn(h:qP:=by
 have hkk:=HK.o;have hh:=HK5.o;rw [HPA.o];unfold Ha
 rcases (show k=1\/k=2\/k=3\/k=4\/k=5 by omega) with h | h | h | h | h<;>subst h<;>simp [hkk,hb]):qP:=h
theorem QR(h:qP:=by
 go_wp2_with fail
 refine HC.o.mono ?_;rintro e2 w2 ⟨rfl,hx2⟩;have HX2:=Hd (HXF.o.trans hx2);clear hx2;exact LS):qP:=h
theorem QE(h:qP:=by
 clear hk1 hk2;exact QR):qP:=h
theorem Sv(h:qP:=by
 have q1:=HB2X.o.q1;have q2:=HB2X.o.q2;have q3:=HB2X.o.q3;have q4:=HB2X.o.q4;have q5:=HB2X.o.q5;have p1:=HB3X.o.q1;exact QE):qP:=h
theorem VY(h:qP:=by
 have q6:=HB2X.o.q6;have q7:=HB2X.o.q7;have q8:=HB2X.o.q8;have q9:=HB2X.o.q9;have p2:=HB3X.o.q2;have p3:=HB3X.o.q3;exact QE):qP:=h
theorem BJA(h:qP:=by
 have HF2:=Hd (show AW a x=decide (x.n<=a.dh) by rw [HF.o,decide_eq_true hle,Bool.true_and])
 go_wp2_with fail
 go_ret;exact ⟨by rw [HF2.o];rfl,HXF.o⟩):qP:=h
theorem ARA(h:qP:=by
 have hlt:¬a.dl<=x.n:=hle;have HF2:=Hd (show AW a x=false by rw [HF.o,decide_eq_false hlt,Bool.false_and]);clear hlt
 go_wp2_with fail
 go_ret;exact ⟨by rw [HF2.o];first | rfl | (simp;omega),HXF.o⟩):qP:=h
theorem RR(h:qP:=by
 subst h;have hke:x.kind=3:=hk1;have HF:=Hd (show AW a x=(decide (a.dl<=x.n)&&decide (x.n<=a.dh)) by rw [HPA.o];unfold Ha;rw [if_neg (by omega),if_neg (by omega),if_pos hke,HB.o];simp);have q10:=HB2X.o.q10;have q11:=HB2X.o.q11;have p4:=HB3X.o.q4;clear hk1 hk2;by_cases hle:a.dl<=x.n
 ·exact BJA
 ·exact ARA):qP:=h
theorem RZ(h:qP:=by
 go_upto_region 15 with fail
 refine Qa (λ_ _=>False) [] ?_
 iterate 8 refine Qp ?_
 intro V F w9 hR hG;refine Qx ?_;have HXM:=Hd (show Ext wx w9 from hR.ext0 (λ_ _ _ h=>h.elim));clear hR hG;have HXG:=Hd (HXF.o.trans HXM.o)
 go_wp2_with fail
 go_ret;exact ⟨by rw [HF.o,<-HBZ.o];rfl,HXG.o⟩):qP:=h
theorem BX(q:Nat)(a:Abs)(x:Val)(A D B C:OA)(c e cb cc:Nat)(w:World)(S T:NP)(hA:Strs w S A a.cols)(hD:RDeps w S D a.deps)(hx:RV w T q x B C)(hcap:x.cols.length<=cb)(ht:Tens w)(hz:AbN 1000000 a) :
  Cl 9 #[(Aq a A c D e),(Vq x B cb C cc)] w (Ae w (AW a x)):=by
 obtain ⟨b7,b6,-⟩:=hz;obtain ⟨w0,hw0⟩:=eqx ((w.alloc (.cells (Ap a A c D e) 36)).alloc (.cells (Vp x B cb C cc) 40));obtain ⟨g2,hg2⟩:=eqx w.heap.size;obtain ⟨g3,hg3⟩:=eqx (w.heap.size+1);have hx0:Ext w w0:=Bh;have hb2:Blk w0 g2 36 (Ap a A c D e):=Gr;have a8:Blk w0 g3 40 (Vp x B cb C cc):=OQ;obtain ⟨p0,p1,p2,p3,p4,p5,p6⟩:=a8.qs7;obtain ⟨HB2,HB3,b5,HG2,HG3,HX0,HA,HD⟩:=Hd8 hb2 a8 hw0 hg2 hg3 hx0 (hA.keep (hx0.kept _)) (hD.keep (hx0.kept _));have HV:=Hd (hx.keep (hx0.kept _));have HT:=Hd (ht.ext hx0);have hss:=hx.size;have HRT:=Hd (Nx q x B C cb cc w0 T (hx.keep (hx0.kept _)) hcap);clear hw0 hg2 hg3 hx0 hb2 a8 hA hD hx ht hcap
 go_enter func9,ntmps9
 go_upto_region 1 with fail
 rw [<-b5.o,<-HG3.o,<-HG2.o]
 go_wp2_with fail
 cases hr:BC x
 ·exact VC
 have HR:=Hd hr;rw [hr] at HRT;clear hr;refine HRT.o.mono ?_;rintro e1 w1 ⟨rfl,hx1⟩;have HX1:=Hd (HX0.o.trans hx1);have HXA:=Hd hx1;clear hx1 p0 p1 p2 p3 p4 p5 p6;have HB21:=Hd (HB2.o.keep (HXA.o.kept _));have Y:=Hd (HB3.o.keep (HXA.o.kept _));have p0:=Y.o.q0;by_cases hk0:x.kind=0
 ·exact UV
 have b8:(x.kind==0)=false:=(by simpa using hk0);obtain ⟨k,hk⟩:∃ k:Nat,x.kind=(k:Int):=⟨x.kind.toNat,by rcases Dh HR.o with h|h|h|h|h|h<;>rw [h]<;>rfl⟩;have hk5:1<=k/\k<=5:=(by rcases Dh HR.o with h|h|h|h|h|h<;>omega);obtain ⟨p2,hp2⟩:=eqx ((2^k:Nat):Int);have HBI:=Hd (show ∀ J,Cl 32 #[.I x.kind] J (Bk J p2) from λJ=>by rw [hp2,hk];exact At k AA J);have O:=Mp a.kinds k AA;rw [<-hp2] at O;obtain ⟨y,hy⟩:=eqx (bits .and .i64 a.kinds p2);rw [<-hy] at O;obtain ⟨a9,HK,HK5⟩:=Hd3 O hk hk5;have hbx:bits .and .i64 a.kinds p2=y:=hy.symm;obtain ⟨HPA,k0,l0⟩:=Hd3 (show AW a x=Ha a x by unfold AW;rw [HR.o,if_neg hk0];rfl) (HB21.o.q0) (Y.o.q0);clear O hp2 hy hk hk5;by_cases hyz:y=0
 ·have HX0:=Hd (show (y==0)=true by rw [hyz];rfl);have HF:=Hd (show AW a x=false by
   have hb:bt a.kinds k=false:=(by rw [<-a9.o,hyz];rfl);exact Wn)
  clear hyz
  go_upto_region 5 with fail
  refine Qa (λ_ _=>False) [] ?_
  iterate 4 refine Qp ?_
  refine Qc (λJ=>HBI.o J) ?_;refine Qp ?_;refine Qm (λV F J L hR hN hp hρ zs zg=>by
   exact IN) ?_
  intro V F w9 hR hG;refine Qx ?_;have HXN:=Hd (show Ext w1 w9 from hR.ext0 (λ_ _ _ h=>h.elim));clear hR hG;have HXF:=Hd (HX1.o.trans HXN.o)
  go_wp2_with fail
  go_ret;exact ⟨BB,HXF.o⟩
 have b4:=HX0;have HB:=Hd (show bt a.kinds k=true by rw [<-a9.o];simpa using hyz);clear HX0;have HX0:=Hd (show (y==0)=false by simpa using hyz);clear hyz
 go_upto_region 5 with fail
 refine Qa (λ_ _=>False) [] ?_
 iterate 4 refine Qp ?_
 refine Qc (λJ=>HBI.o J) ?_;refine Qp ?_;refine Qm (λV F J L hR hN hp hρ zs zg=>by
  exact IN) ?_
 intro V F w9 hR hG;refine Qx ?_;have HXN:=Hd (show Ext w1 w9 from hR.ext0 (λ_ _ _ h=>h.elim));clear hR hG;obtain ⟨wx,U⟩:=eqx w9;rw [<-U];have HXW:=Hd (show Ext w0 wx by rw [U];exact HXA.o.trans HXN.o);obtain ⟨HXF,HB2X,HB3X⟩:=Hd3 (b4.out.trans HXW.o) (HB2.o.keep (HXW.o.kept _)) (HB3.o.keep (HXW.o.kept _));clear U p0 hbx;have p0:=HB3X.o.q0;have hk1:=HK.o;have hk2:=HK5.o
 rcases (show k=1\/k=2\/k=3\/k=4\/k=5 by omega) with h|h|h|h|h
 ·subst h;have hke:x.kind=1:=hk1;have HF:=Hd (show AW a x=Aj a.tx x.s by rw [HPA.o];unfold Ha;rw [if_pos hke,HB.o];rfl);have HC:=Hd (U0 a.tx x.s AA AA hss wx);exact Sv
 ·subst h;have hke:x.kind=2:=hk1;have HF:=Hd (show AW a x=BD a.nu x.dn x.ds by rw [HPA.o];unfold Ha;rw [if_neg AA,if_pos hke,HB.o];rfl);have HC:=Hd (M4 a.nu x.dn x.ds wx (HT.o.ext HXW.o));exact VY
 ·exact RR
 ·subst h;have hke:x.kind=4:=hk1;have HF:=Hd (show AW a x=bt a.bo x.n.toNat by rw [HPA.o];unfold Ha;rw [if_neg AA,if_neg AA,if_neg AA,if_pos hke,HB.o];rfl);have b0:=GOA HR.o hk1;have k12:=Hd (HB2X.o.q12);have l4:=Hd (HB3X.o.q4);obtain ⟨z,Z⟩:=eqx (bits .and .i64 a.bo (if x.n=0 then 1 else 2));have b3:(z != 0)=bt a.bo x.n.toNat:=by
   rw [Z]
   rcases b0 with h|h
   ·rw [h,if_pos rfl];exact Mp a.bo 0 AA
   ·rw [h,if_neg AB];exact Mp a.bo 1 AA
  have HBZ:=Hd b3;have O:bits .and .i64 a.bo (if x.n=0 then 1 else 2)=z:=Z.symm;clear Z b3
  rcases b0 with h0|h0
  ·rw [if_pos h0] at O;have hw1:IntKind.i64.wrap 1=1:=rfl;exact RZ
  ·rw [if_neg AA] at O;have hw1:IntKind.i64.wrap 2=2:=rfl;exact RZ
 ·subst h;have hke:x.kind=5:=hk1;have HF:=Hd (show AW a x=ED a x by rw [HPA.o];unfold Ha;rw [if_neg AA,if_neg AA,if_neg AA,if_neg AA,HB.o];rfl);have HC:=Hd (I9 q a x A D B C c e cb cc wx _ _ (HA.o.keep (HXW.o.kept _)) (HD.o.keep (HXW.o.kept _)) (HV.o.keep (HXW.o.kept _)));clear hk1 hk2
  go_upto_region 16 with fail
  clear hke p0;obtain ⟨p0,p1,p2,p3,p4,p5,p6⟩:=HB3X.o.qs7;refine wp_region_lit ?_;refine AJ rfl 36 _ rfl g2 rfl HB2X.o AS AH ?_;exact QR

theorem DRA(a:Abs)(A D B E:OA)(c e cb eb:Nat)(w:World)(S T:NP)(hA:Strs w S A a.cols)(hD:RDeps w S D a.deps)(hB:Strs w T B a.cols)(hE:RDeps w T E a.deps) :
  Cl 14 #[(Aq a A c D e),(Aq a B cb E eb)] w (Ae w true):=by
 obtain ⟨w0,hw0⟩:=eqx ((w.alloc (.cells (Ap a A c D e) 36)).alloc (.cells (Ap a B cb E eb) 36));obtain ⟨g2,hg2⟩:=eqx w.heap.size;obtain ⟨g3,hg3⟩:=eqx (w.heap.size+1);have hx0:Ext w w0:=Bh;have hb2:Blk w0 g2 36 (Ap a A c D e):=Gr;have O:Blk w0 g3 36 (Ap a B cb E eb):=OQ;obtain ⟨b3,HG2,HG3,HX0,HB2,HB3,HD,HE⟩:=Hd8 hw0 hg2 hg3 hx0 hb2 O (hD.keep (hx0.kept _)) (hE.keep (hx0.kept _));have hdl:=hD.1;have HST:=Hd (Jq A B c cb a.cols a.cols w0 S T (hA.keep (hx0.kept _)) (hB.keep (hx0.kept _)));rw [decide_eq_true rfl] at HST;clear hw0 hg2 hg3 hx0 hb2 O hA hD hB hE;have q15:w0.cell? ⟨g2,15,none⟩=some (.slice A a.cols.length c):=HB2.o.q15;have p15:w0.cell? ⟨g3,15,none⟩=some (.slice B a.cols.length cb):=HB3.o.q15
 go_enter func14,ntmps14
 go_upto_region 1 with fail
 rw [<-b3.o,<-HG3.o,<-HG2.o]
 go_wp2_with fail
 refine HST.o.mono ?_;rintro e1 w1 ⟨rfl,n,Z⟩;have U:Ext w0 w1:=(by rw [Z];exact (Ext.refl _).drewN n);have a8:=Hd U;have hb2:=HB2.o.keep (U.kept _);have O:=HB3.o.keep (U.kept _);have q0:w1.cell? ⟨g2,0,none⟩=some (.I a.kinds):=hb2.q0;have p0:w1.cell? ⟨g3,0,none⟩=some (.I a.kinds):=O.q0;have q1:w1.cell? ⟨g2,1,none⟩=some (.I a.tx.least):=hb2.q1;have p1:w1.cell? ⟨g3,1,none⟩=some (.I a.tx.least):=O.q1;have q2:w1.cell? ⟨g2,2,none⟩=some (.I a.tx.most):=hb2.q2;have p2:w1.cell? ⟨g3,2,none⟩=some (.I a.tx.most):=O.q2;have q3:w1.cell? ⟨g2,3,none⟩=some (.I a.tx.cls):=hb2.q3;have p3:w1.cell? ⟨g3,3,none⟩=some (.I a.tx.cls):=O.q3;have q4:w1.cell? ⟨g2,4,none⟩=some (.string a.tx.b):=hb2.q4;have p4:w1.cell? ⟨g3,4,none⟩=some (.string a.tx.b):=O.q4;have q5:w1.cell? ⟨g2,5,none⟩=some (.string a.tx.e):=hb2.q5;have p5:w1.cell? ⟨g3,5,none⟩=some (.string a.tx.e):=O.q5;have q6:w1.cell? ⟨g2,6,none⟩=some (.I a.nu.ln):=hb2.q6;have p6:w1.cell? ⟨g3,6,none⟩=some (.I a.nu.ln):=O.q6;have q7:w1.cell? ⟨g2,7,none⟩=some (.I a.nu.ls):=hb2.q7;have p7:w1.cell? ⟨g3,7,none⟩=some (.I a.nu.ls):=O.q7;have q8:w1.cell? ⟨g2,8,none⟩=some (.I a.nu.hn):=hb2.q8;have p8:w1.cell? ⟨g3,8,none⟩=some (.I a.nu.hn):=O.q8;have q9:w1.cell? ⟨g2,9,none⟩=some (.I a.nu.hs):=hb2.q9;have p9:w1.cell? ⟨g3,9,none⟩=some (.I a.nu.hs):=O.q9;have q10:w1.cell? ⟨g2,10,none⟩=some (.I a.dl):=hb2.q10;have b5:w1.cell? ⟨g3,10,none⟩=some (.I a.dl):=O.q10;have q11:w1.cell? ⟨g2,11,none⟩=some (.I a.dh):=hb2.q11;have b0:w1.cell? ⟨g3,11,none⟩=some (.I a.dh):=O.q11;have q12:w1.cell? ⟨g2,12,none⟩=some (.I a.bo):=hb2.q12;have p12:w1.cell? ⟨g3,12,none⟩=some (.I a.bo):=O.q12;have q13:w1.cell? ⟨g2,13,none⟩=some (.I a.rl):=hb2.q13;have p13:w1.cell? ⟨g3,13,none⟩=some (.I a.rl):=O.q13;have q14:w1.cell? ⟨g2,14,none⟩=some (.I a.rh):=hb2.q14;have b6:w1.cell? ⟨g3,14,none⟩=some (.I a.rh):=O.q14;have q16:w1.cell? ⟨g2,16,none⟩=some (.slice D a.deps.length e):=hb2.q16;have Y:w1.cell? ⟨g3,16,none⟩=some (.slice E a.deps.length eb):=O.q16;have q17:w1.cell? ⟨g2,17,none⟩=some (.bool a.errs):=hb2.q17;have p17:w1.cell? ⟨g3,17,none⟩=some (.bool a.errs):=O.q17;clear U Z hb2 O q15 p15
 go_upto_region 4 with fail
 clear q0 p0 q1 p1 q2 p2 q3 p3 q4 p4 q5 p5 q6 p6 q7 p7 q8 p8 q9 p9 q10 b5 q11 b0 q12 p12 q13 p13 q14 b6 q17 p17;go_wp2
 go_loopw [6] (λi wr=>∃ k:Nat,k<=a.deps.length/\i=.I k/\Ext w0 wr) (λi _=>a.deps.length-(intOf i).toNat)
 case atStart=>exact ⟨0,AN,rfl,a8.o⟩
 case round =>
  clear q16 Y;obtain ⟨k,hk,rfl,hext⟩:=hrel;have HXE:=Hd hext;have q16:wr.cell? ⟨g2,16,none⟩=some (.slice D a.deps.length e):=(HB2.o.keep (hext.kept _)).q16;have Y:wr.cell? ⟨g3,16,none⟩=some (.slice E a.deps.length eb):=(HB3.o.keep (hext.kept _)).q16;by_cases hlt:k<a.deps.length
  ·obtain ⟨b1,o1,B1,e1,he1,z1,c1,c2,f1,f2,f3⟩:=(HD.o.keep (hext.kept _)).at_ hlt;obtain ⟨b2,o2,B2,e2,he2,z2,d1,d2,k1,k2,k3⟩:=(HE.o.keep (hext.kept _)).at_ hlt;subst he1 he2;obtain ⟨K16,L16,C0,C1,C2,C3,HF3,b4⟩:=Hd8 q16 Y c1 c2 d1 d2 f3 k3;have a9:=Hd (show ∀ J,Ext wr J->Cl 52 #[.agg #[.slice B1 a.deps[k].frm.length e1,.string a.deps[k].tov],.agg #[.slice B2 a.deps[k].frm.length e2,.string a.deps[k].tov]] J (Ae J true) from λJ hw'=>by
    have h:=N5 a.deps[k] a.deps[k] B1 B2 e1 e2 J _ _ (HF3.o.keep (hw'.kept _)) (b4.o.keep (hw'.kept _));rwa [decide_eq_true rfl] at h)
   clear hext c1 c2 d1 d2 f1 f2 f3 k1 k2 k3
   go_upto_region 7 with fail
   clear q16 Y;refine Qa (λ_ _=>False) [] ?_
   iterate 10 refine Qp ?_
   refine Qd (λJ HXW=>a9.o J HXW.o) ?_;refine Qp ?_;intro V F w9 hR hG;refine Qx ?_;have HXN:=Hd (show Ext wr w9 from hR.ext0 (λ_ _ _ h=>h.elim));clear hR hG
   go_wp2_with fail
   go_roundw
   case rel=>exact ⟨k+1,AA,AE,HXE.o.trans HXN.o⟩
   case measure=>simp [intOf];omega
  ·have HXF:=Hd (HX0.o.trans hext);clear hext;go_wp2;go_ret;exact ⟨rfl,HXF.o⟩

theorem QV(w:World):Cl 17 #[] w (DoA w noneA):=by
 have U:=Hd (show ∀ J,Cl 57 #[] J (λe w''=>e=.returned (.agg #[.I 1,.I 0,.I 0,.string ⟨#[]⟩,.string ⟨#[]⟩])/\Ext J w'') from RC);have O:=Hd (show ∀ J,Cl 58 #[] J (λe w''=>e=.returned (.agg #[.I 1,.I 0])/\Ext J w'') from Xo)
 go_enter func17,ntmps17
 go_wp2_with fail
 refine (U.o _).mono ?_;rintro e1 w1 ⟨rfl,hx1⟩;have HX1:=Hd ((exaa w).trans hx1);have HB1:=Hd ((Blk.new w 36 Az).keep (hx1.kept _));clear hx1
 go_wp2_with fail
 refine (O.o _).mono ?_;rintro e2 w2 ⟨rfl,hx2⟩;have HX2:=Hd (HX1.o.trans hx2);have HB2:=Hd (HB1.o.keep (hx2.kept _));clear hx2
 go_wp2_with fail
 refine (O.o _).mono ?_;rintro e3 w3 ⟨rfl,hx3⟩;have HX3:=Hd (HX2.o.trans hx3);have HB3:=Hd (HB2.o.keep (hx3.kept _));clear hx3;rename_i K1 hK1 K2 hK2;refine hK2 _ _ ?_;refine wpList_build rfl 36 _ rfl AD ?_;refine AM rfl 36 _ _ rfl w.heap.size (Ap noneA none 0 none 0) rfl AD 36 _ HB3.o AH rfl AD ?_;intro w4 hb4 ho4;have HX4:=Hd (HX3.o.only ho4 (Al));refine hK1 _ _ ?_;clear hK1 hK2 HB1 HB2 HB3 HX1 HX2 HX3
 go_wp2_with fail
 exact bodyPost_ret (Bv results17 rfl (Eq hb4 AS AH)) rfl ⟨rfl,HX4.o⟩

def vA1:Val:=⟨1,⟨#[97,49]⟩,0,0,0,[],[]⟩
def CvA:Val:=⟨4,⟨#[]⟩,0,0,1,[],[]⟩
def vN1:Val:=⟨2,⟨#[]⟩,1,0,0,[],[]⟩
def vN2:Val:=⟨2,⟨#[]⟩,2,0,0,[],[]⟩
def vN3:Val:=⟨2,⟨#[]⟩,3,0,0,[],[]⟩
def EgA:Val:=⟨2,⟨#[]⟩,25,1,0,[],[]⟩
def FLA:Val:=⟨3,⟨#[]⟩,0,0,5,[],[]⟩
def FEA:Val:=⟨0,⟨#[]⟩,0,0,18,[],[]⟩
noncomputable def vJn:Abs:=Fk (ofA vN1) (ofA EgA)
noncomputable def vJd:Abs:=Fk (ofA FLA) (ofA FEA)
theorem Pu:(AX (ofA vA1)).kinds=2/\(AX (ofA vA1)).errs=false/\(AX (ofA vA1)).tx=⟨2,2,10,⟨#[97,49]⟩,⟨#[97,49]⟩⟩:=⟨AD,AD,AD⟩
theorem HoA:(AX vJn).kinds=4/\(AX vJn).errs=false/\(AX vJn).nu=⟨1,0,25,1⟩:=⟨AD,AD,AD⟩
theorem HlA:(AX vJd).kinds=8/\(AX vJd).errs=true/\(AX vJd).dl=5/\(AX vJd).dh=5:=⟨AD,AD,AD,AD⟩
theorem HnA:Gq (ofA vN1) (ofA vN2)=noneA:=by kernel_rfl
theorem HqA:Cp (ofA CvA)=some CvA:=by kernel_rfl
theorem HxA:Cp (Cs 4)=none:=by kernel_rfl
theorem HrA:AW (Cs 2) vN3=true:=by kernel_rfl
theorem GfA:AW (Cs 2) vA1=false:=by kernel_rfl
theorem E8(h:qP:=by show (0:Nat)<=_;omega):qP:=h
theorem DvA(k:Int):AbN 1000 (Cs k):=by
 unfold Cs;exact AbN.can ⟨E8,E8,E8,E8,λd hd=>BQ⟩
theorem FIA:AbN 1000000 (Cs 4):=(DvA 4).mono AB
theorem B3A:AbN 1000000 (Cs 2):=(DvA 2).mono AB
theorem OJ(w:World)(S:NP)(q:Nat)(k:Int)(s:BA)(a b n:Int)(hs:s.size<=4294967296)(A B:OA):RV w S q ⟨k,s,a,b,n,[],[]⟩ A B :=
 RV.mk hs ⟨.inl rfl,E8,by intro s hs;cases hs⟩ ⟨E8,[],.inl rfl,rfl,by intro i r hi;simp at hi⟩
def SvA(a:Abs)(v:Value)(J:World):Prop:=∃ (A:OA) (c:Nat) (D:OA) (e:Nat),v=(Aq a A c D e)/\AbM J (λ_=>True) a A c D e
theorem GgA(A D:OA)(c e:Nat)(w:World)(ht:Txa w)(h:AbM w (λ_=>True) (ofA vA1) A c D e)(hz:AbN 1000000 (ofA vA1)):Cl 18 #[(let av:=(ofA vA1);(Aq av A c D e))] w (Cu w ⟨#[116,101,120,116,40,50,32,50,32,49,48,32,50,58,97,49,32,50,58,97,49,41]⟩):=by
 have h1:=Pu;have h2:=ON (ofA vA1) (AX (ofA vA1)) A D c e w (λ_=>True) h.2.2.1 h.2.2.2 hz ht rfl h1.1 h1.2.1 (by rw [h1.2.2];exact ⟨⟨AB,AB⟩,⟨AB,AB⟩,⟨AB,AB⟩,AB,AB⟩) (by rw [h1.2.2];exact of_decide_eq_true AD);have h3:bsA ([116,101,120,116,40]++V1 (AX (ofA vA1)).tx++[41])=⟨#[116,101,120,116,40,50,32,50,32,49,48,32,50,58,97,49,32,50,58,97,49,41]⟩:=AD;rw [h3] at h2;exact h2
theorem HIA(A D:OA)(c e:Nat)(w:World)(ht:Txa w)(h:AbM w (λ_=>True) (vJn) A c D e)(hz:AbN 1000000 (vJn)):Cl 18 #[(let av:=(vJn);(Aq av A c D e))] w (Cu w ⟨#[110,117,109,98,101,114,40,49,46,46,50,46,53,41]⟩):=by
 have h1:=HoA;have h2:=OI (vJn) (AX (vJn)) A D c e w (λ_=>True) 0 1 h.2.2.1 h.2.2.2 hz ht rfl h1.1 h1.2.1 (by rw [h1.2.2];exact ⟨rfl,rfl,AB,AB,AB⟩) (by rw [h1.2.2];exact of_decide_eq_true AD);have h3:bsA ([110,117,109,98,101,114,40]++V3 (AX vJn).nu++[41])=⟨#[110,117,109,98,101,114,40,49,46,46,50,46,53,41]⟩:=AD;rw [h3] at h2;exact h2
theorem GzA(A D:OA)(c e:Nat)(w:World)(ht:Txa w)(h:AbM w (λ_=>True) (vJd) A c D e)(hz:AbN 1000000 (vJd)):Cl 18 #[(let av:=(vJd);(Aq av A c D e))] w (Cu w ⟨#[100,97,116,101,40,53,46,46,53,41,32,101,114,114,111,114]⟩):=by
 have h1:=HlA;have h2:=OP (vJd) (AX (vJd)) A D c e w (λ_=>True) h.2.2.1 h.2.2.2 hz ht rfl h1.1 h1.2.1 (by rw [h1.2.2.1,h1.2.2.2];exact ⟨⟨AB,AB⟩,⟨AB,AB⟩⟩) (by rw [h1.2.2.1,h1.2.2.2];exact of_decide_eq_true AD);have h3:bsA ([100,97,116,101,40]++V9 (AX vJd).dl (AX vJd).dh++[41]++[32]++[101,114,114,111,114])=⟨#[100,97,116,101,40,53,46,46,53,41,32,101,114,114,111,114]⟩:=AD;rw [h3] at h2;exact h2

theorem IO(n:Int)(w:World):Cl 21 #[.I n] w (λe J=>e=.returned (.agg #[.I 2,.string ⟨#[]⟩,.I n,.I 0,.I 0,.slice none 0 0,.slice none 0 0])/\Ext w J):=by
 go_enter func21,ntmps21
 go_wp2;exact bodyPost_ret (v:=.agg #[.I 2,.string ⟨#[]⟩,.I n,.I 0,.I 0,.slice none 0 0,.slice none 0 0]) (by simp [results,results21,go_sem]) rfl ⟨rfl,(Ext.refl _).alloc _⟩

theorem VV(h:qP:=by
 have hxx:=hR.o.ext0 (λ_ _ _ h=>h.elim);have HXW:=Hd hxx;have b1_0:=(HB1.o.keep (hxx.kept _)).q0;have b1_1:=(HB1.o.keep (hxx.kept _)).q1;have b1_2:=(HB1.o.keep (hxx.kept _)).q2;have b1_3:=(HB1.o.keep (hxx.kept _)).q3;have b1_4:=(HB1.o.keep (hxx.kept _)).q4;have b1_5:=(HB1.o.keep (hxx.kept _)).q5;have b1_6:=(HB1.o.keep (hxx.kept _)).q6;have b2_0:=(HB2.o.keep (hxx.kept _)).q0;have b2_1:=(HB2.o.keep (hxx.kept _)).q1;have b2_2:=(HB2.o.keep (hxx.kept _)).q2;have b2_3:=(HB2.o.keep (hxx.kept _)).q3;have b2_4:=(HB2.o.keep (hxx.kept _)).q4;have b2_5:=(HB2.o.keep (hxx.kept _)).q5;have b2_6:=(HB2.o.keep (hxx.kept _)).q6;have b3_0:=(HB3.o.keep (hxx.kept _)).q0;have b3_1:=(HB3.o.keep (hxx.kept _)).q1;have b3_2:=(HB3.o.keep (hxx.kept _)).q2;have b3_3:=(HB3.o.keep (hxx.kept _)).q3;have b3_4:=(HB3.o.keep (hxx.kept _)).q4;have b3_5:=(HB3.o.keep (hxx.kept _)).q5;have b3_6:=(HB3.o.keep (hxx.kept _)).q6;clear hxx;exact Qk):qP:=h
theorem Bn(h:qP:=by
 rintro v F wx γ' wy rr ⟨A1,c1,D1,e1,h1,h2⟩;exact ⟨A1,c1,D1,e1,h1,h2.keep (rr.keptS λb _ hb m hm=>hm.elim)⟩):qP:=h
theorem Gt(h:qP:=by
 rintro e1 w3 ⟨A4,c4,D4,e4,he,hab,hx⟩;exact ⟨_,he,F,H4A _ F hx,λ_ _ _ h=>h,A4,c4,D4,e4,rfl,hab.mono λ_ _ _=>trivial⟩):qP:=h
theorem VO(h:qP:=by
 intro V F J L hR hN hp hρ zs zg;have hxx:=hR.o.ext0 (λ_ _ _ h=>h.elim);have HXW:=Hd hxx;clear hxx;refine Qr ?_;refine (KP 2 J (HT.o.ext (HX.o.trans HXW.o)).tens).mono ?_;exact Gt):qP:=h
theorem Li(h:qP:=by
 have hxx:=hR.o.ext0 (λ_ _ _ h=>h.elim);have HXW:=Hd hxx;have b1_0:=(HB1.o.keep ((HX.o.trans hxx).kept _)).q0;have b1_1:=(HB1.o.keep ((HX.o.trans hxx).kept _)).q1;have b1_2:=(HB1.o.keep ((HX.o.trans hxx).kept _)).q2;have b1_3:=(HB1.o.keep ((HX.o.trans hxx).kept _)).q3;have b1_4:=(HB1.o.keep ((HX.o.trans hxx).kept _)).q4;have b1_5:=(HB1.o.keep ((HX.o.trans hxx).kept _)).q5;have b1_6:=(HB1.o.keep ((HX.o.trans hxx).kept _)).q6;have b2_0:=(HB2.o.keep ((HX.o.trans hxx).kept _)).q0;have b2_1:=(HB2.o.keep ((HX.o.trans hxx).kept _)).q1;have b2_2:=(HB2.o.keep ((HX.o.trans hxx).kept _)).q2;have b2_3:=(HB2.o.keep ((HX.o.trans hxx).kept _)).q3;have b2_4:=(HB2.o.keep ((HX.o.trans hxx).kept _)).q4;have b2_5:=(HB2.o.keep ((HX.o.trans hxx).kept _)).q5;have b2_6:=(HB2.o.keep ((HX.o.trans hxx).kept _)).q6;have b4_0:=(HB4.o.keep (hxx.kept _)).q0;have b4_1:=(HB4.o.keep (hxx.kept _)).q1;have b4_2:=(HB4.o.keep (hxx.kept _)).q2;have b4_3:=(HB4.o.keep (hxx.kept _)).q3;have b4_4:=(HB4.o.keep (hxx.kept _)).q4;have b4_5:=(HB4.o.keep (hxx.kept _)).q5;have b4_6:=(HB4.o.keep (hxx.kept _)).q6;clear hxx;exact Qk):qP:=h
theorem BXA(w:World)(ht:Txa w):Cl 4 #[] w (Ae w true):=by
 obtain ⟨w0,hw0⟩:=eqx (((w.alloc (.cells #[.I 1,.string ⟨#[97,49]⟩,.I 0,.I 0,.I 0,.slice none 0 0,.slice none 0 0] 40)).alloc (.cells #[.I 4,.string ⟨#[]⟩,.I 0,.I 0,.I 1,.slice none 0 0,.slice none 0 0] 40)).alloc (.cells #[.I 2,.string ⟨#[]⟩,.I 25,.I 1,.I 0,.slice none 0 0,.slice none 0 0] 40));obtain ⟨g1,hg1⟩:=eqx w.heap.size;obtain ⟨g2,hg2⟩:=eqx (w.heap.size+1);obtain ⟨g3,hg3⟩:=eqx (w.heap.size+2);have hx0:Ext w w0:=CC;obtain ⟨HB1,HB2,HB3,HT,HX0,i3,f9,HG2⟩:=Hd8 (show Blk w0 g1 40 #[.I 1,.string ⟨#[97,49]⟩,.I 0,.I 0,.I 0,.slice none 0 0,.slice none 0 0] by rw [hw0,hg1];exact (Blk.new _ _ _).keep ((exbb _).kept _)) (show Blk w0 g2 40 #[.I 4,.string ⟨#[]⟩,.I 0,.I 0,.I 1,.slice none 0 0,.slice none 0 0] by rw [hw0,hg2];exact (H6A _ _ _ _).keep ((exaa _).kept _)) (show Blk w0 g3 40 #[.I 2,.string ⟨#[]⟩,.I 25,.I 1,.I 0,.slice none 0 0,.slice none 0 0] by rw [hw0,hg3];exact ICA _ _ _ _ _) (ht.ext hx0) hx0 hw0 hg1 hg2;have HG3:=Hd hg3;clear hw0 hg1 hg2 hg3 hx0 ht
 go_enter func4,ntmps4
 go_upto_region 4 with fail
 rw [<-i3.o,<-HG3.o,<-HG2.o,<-f9.o];refine Qa (λ_ _=>False) [] ?_;refine Qm (λV F J L hR hN hp hρ zs zg=>by
  exact VV) ?_
 refine Qs (FP λv F J=>SvA (ofA vA1) v J) (H1A ?_) ?_ ?_
 ·exact Bn
 ·intro V F J L hR hN hp hρ zs zg;have hxx:=hR.o.ext0 (λ_ _ _ h=>h.elim);have HXW:=Hd hxx;clear hxx;refine Qr ?_;refine (Am 0 vA1 none none 0 0 J (λ_=>True) (OJ J (λ_=>True) 0 1 ⟨#[97,49]⟩ 0 0 0 AB none none) (Al) (HT.o.ext HXW.o).tens).mono ?_;exact Gt
 refine Qg (.string ⟨#[116,101,120,116,40,50,32,50,32,49,48,32,50,58,97,49,32,50,58,97,49,41]⟩) ?_ ?_
 ·intro V F J L hR hN hp hρ zs zg;obtain ⟨A1,c1,D1,e1,i5,f6⟩:=hp.o 1 AB;have e14:=(hρ.o 14).trans i5;have hxx:=hR.o.ext0 (λ_ _ _ h=>h.elim);have HXW:=Hd hxx;clear hxx;refine Qr ?_;refine (GgA A1 D1 c1 e1 J (HT.o.ext HXW.o) f6 ((Mx vA1).mono AB)).mono ?_;exact DR
 iterate 2 refine Qp ?_
 refine Qd (x:=.agg #[.I 2,.string ⟨#[]⟩,.I 1,.I 0,.I 0,.slice none 0 0,.slice none 0 0]) (λJ HXW=>IO 1 J) ?_;refine Qs (FP λv F J=>SvA (ofA vN1) v J) (H1A ?_) ?_ ?_
 ·exact Bn
 ·intro V F J L hR hN hp hρ zs zg;have hxx:=hR.o.ext0 (λ_ _ _ h=>h.elim);have HXW:=Hd hxx;clear hxx;refine Qr ?_;refine (Am 0 vN1 none none 0 0 J (λ_=>True) (OJ J (λ_=>True) 0 2 ⟨#[]⟩ 1 0 0 AB none none) (Al) (HT.o.ext HXW.o).tens).mono ?_;exact Gt
 refine Qm (λV F J L hR hN hp hρ zs zg=>by
  exact VV) ?_
 refine Qs (FP λv F J=>SvA (ofA EgA) v J) (H1A ?_) ?_ ?_
 ·exact Bn
 ·intro V F J L hR hN hp hρ zs zg;have hxx:=hR.o.ext0 (λ_ _ _ h=>h.elim);have HXW:=Hd hxx;clear hxx;refine Qr ?_;refine (Am 0 EgA none none 0 0 J (λ_=>True) (OJ J (λ_=>True) 0 2 ⟨#[]⟩ 25 1 0 AB none none) (Al) (HT.o.ext HXW.o).tens).mono ?_;exact Gt
 refine Qs (FP λv F J=>SvA (vJn) v J) (H1A ?_) ?_ ?_
 ·exact Bn
 ·intro V F J L hR hN hp hρ zs zg;obtain ⟨A6,c6,D6,e6,hv6,d7⟩:=hp.o 6 AB;have e19:=(hρ.o 19).trans hv6;obtain ⟨A8,c8,D8,e8,hv8,hab8⟩:=hp.o 8 AB;have e21:=(hρ.o 21).trans hv8;have hxx:=hR.o.ext0 (λ_ _ _ h=>h.elim);have HXW:=Hd hxx;clear hxx;refine Qr ?_;refine (Hn (ofA vN1) (ofA EgA) A6 D6 A8 D8 c6 e6 c8 e8 J (λ_=>True) d7.2.2.1 d7.2.2.2 hab8.2.2.1 hab8.2.2.2 (HT.o.ext HXW.o).tens ((Mx _).mono AB) ((Mx _).mono AB)).mono ?_;exact Gt
 refine Qg (.string ⟨#[110,117,109,98,101,114,40,49,46,46,50,46,53,41]⟩) ?_ ?_
 ·intro V F J L hR hN hp hρ zs zg;obtain ⟨A9,c9,D9,e9,i4,f5⟩:=hp.o 9 AB;have e22:=(hρ.o 22).trans i4;have hxx:=hR.o.ext0 (λ_ _ _ h=>h.elim);have HXW:=Hd hxx;clear hxx;refine Qr ?_;refine (HIA A9 D9 c9 e9 J (HT.o.ext HXW.o) f5 (((Mx vN1).join (Mx EgA)).mono AB)).mono ?_;exact DR
 iterate 2 refine Qp ?_
 intro V F w4 hR hG;refine Qx ?_;have HX4:=Hd (show Ext w0 w4 from hR.ext0 (λ_ _ _ h=>h.elim));clear hR hG
 go_upto_region 6 with fail
 go_wp2_with fail
 refine (Am 0 FLA none none 0 0 w4 (λ_=>True) (OJ w4 (λ_=>True) 0 3 ⟨#[]⟩ 0 0 5 AB none none) (Al) (HT.o.ext HX4.o).tens).mono ?_;rintro ee w5 ⟨A1,c1,D1,e1,rfl,hab,hx⟩;have HX5:=Hd (HX4.o.trans hx);clear hx HX4;have O:=Hd (hab.mono (T:=λ_=>True) λ_ _ _=>trivial);clear hab
 go_wp2_with fail
 refine (Am 0 FEA none none 0 0 w5 (λ_=>True) (OJ w5 (λ_=>True) 0 0 ⟨#[]⟩ 0 0 18 AB none none) (Al) (HT.o.ext HX5.o).tens).mono ?_;rintro ee w6 ⟨A2,c2,D2,e2,rfl,hab,hx⟩;have HX6:=Hd (HX5.o.trans hx)
 replace O:=Hd (O.o.keep (hx.kept _))
 clear hx HX5;have Z:=Hd (hab.mono (T:=λ_=>True) λ_ _ _=>trivial);clear hab
 go_wp2_with fail
 refine (Hn (ofA FLA) (ofA FEA) A1 D1 A2 D2 c1 e1 c2 e2 w6 (λ_=>True) O.o.2.2.1 O.o.2.2.2 Z.o.2.2.1 Z.o.2.2.2 (HT.o.ext HX6.o).tens ((Mx _).mono AB) ((Mx _).mono AB)).mono ?_;rintro ee w7 ⟨A3,c3,D3,e3,rfl,hab,hx⟩;have HX7:=Hd (HX6.o.trans hx);clear hx HX6;have f4:=Hd (show AbM w7 (λ_=>True) vJd A3 c3 D3 e3 from hab.mono (T:=λ_=>True) λ_ _ _=>trivial);clear hab O Z
 go_wp2_with fail
 refine (GzA A3 D3 c3 e3 w7 (HT.o.ext HX7.o) f4.o (((Mx FLA).join (Mx FEA)).mono AB)).mono ?_;rintro ee w8 ⟨rfl,hx⟩;have HX8:=Hd (HX7.o.trans hx);clear hx HX7 f4
 go_upto_region 8 with fail
 have b2_0:=(HB2.o.keep (HX8.o.kept _)).q0;have b2_1:=(HB2.o.keep (HX8.o.kept _)).q1;have b2_2:=(HB2.o.keep (HX8.o.kept _)).q2;have b2_3:=(HB2.o.keep (HX8.o.kept _)).q3;have b2_4:=(HB2.o.keep (HX8.o.kept _)).q4;have b2_5:=(HB2.o.keep (HX8.o.kept _)).q5;have b2_6:=(HB2.o.keep (HX8.o.kept _)).q6
 go_wp2_with fail
 refine (Am 0 CvA none none 0 0 w8 (λ_=>True) (OJ w8 (λ_=>True) 0 4 ⟨#[]⟩ 0 0 1 AB none none) (Al) (HT.o.ext HX8.o).tens).mono ?_;rintro ee w9 ⟨A1,c1,D1,e1,rfl,hab,hx⟩;have HX9:=Hd (HX8.o.trans hx);clear hx HX8;have O:=Hd (hab.mono (T:=λ_=>True) λ_ _ _=>trivial);clear hab b2_0 b2_1 b2_2 b2_3 b2_4 b2_5 b2_6
 go_wp2_with fail
 refine (JS (ofA CvA) A1 D1 c1 e1 w9 (λ_=>True) O.o.2.2.1 O.o.2.2.2 (HT.o.ext HX9.o).tens ((Mx _).mono AB)).mono ?_;rintro ee w10 ⟨he,hx⟩;have HX10:=Hd (HX9.o.trans hx);clear hx HX9;rw [HqA] at he;have he2:ee=.returned (.tuple #[.agg #[.I 4,.string ⟨#[]⟩,.I 0,.I 0,.I 1,.slice none 0 0,.slice none 0 0],.bool true]):=he;subst he2;clear he O
 go_upto_region 9 with fail
 obtain ⟨g4,hg4⟩:=eqx w10.heap.size;obtain ⟨b8,a8⟩:=eqx (w10.alloc (.cells #[.I 4,.string ⟨#[]⟩,.I 0,.I 0,.I 1,.slice none 0 0,.slice none 0 0] 40));rw [<-hg4,<-a8];have Y:=Hd (show Blk b8 g4 40 #[.I 4,.string ⟨#[]⟩,.I 0,.I 0,.I 1,.slice none 0 0,.slice none 0 0] by rw [a8,hg4];exact Blk.new _ _ _);have HX11:=Hd (show Ext w0 b8 by rw [a8];exact HX10.o.alloc _);clear hg4 a8 HX10
 go_wp2_with fail
 refine (KP 4 b8 (HT.o.ext HX11.o).tens).mono ?_;rintro ee i7 ⟨A1,c1,D1,e1,rfl,hab,hx⟩;have b5:=Hd (HX11.o.trans hx)
 replace Y:=Hd (Y.o.keep (hx.kept _))
 clear hx HX11;have O:=Hd (hab.mono (T:=λ_=>True) λ_ _ _=>trivial);clear hab
 go_wp2_with fail
 refine (JS (Cs 4) A1 D1 c1 e1 i7 (λ_=>True) O.o.2.2.1 O.o.2.2.2 (HT.o.ext b5.o).tens FIA).mono ?_;rintro ee f0 ⟨he,hx⟩;have d8:=Hd (b5.o.trans hx)
 replace Y:=Hd (Y.o.keep (hx.kept _))
 clear hx b5;rw [HxA] at he;have he2:ee=.returned (.tuple #[.agg Vz,.bool false]):=he;subst he2;clear he O
 go_upto_region 10 with fail
 obtain ⟨g6,hg6⟩:=eqx f0.heap.size;obtain ⟨f1,b6⟩:=eqx (f0.alloc (.cells Vz 40));rw [<-hg6,<-b6];have b3:Ext f0 f1:=(by rw [b6];exact (Ext.refl _).alloc _);have d9:=Hd (d8.o.trans b3);have U:=Hd (Y.o.keep (b3.kept _));clear hg6 b6 b3 d8 Y
 go_wp2_with fail
 refine (IO 1 f1).mono ?_;rintro ee f2 ⟨rfl,hx⟩;have a9:=Hd (d9.o.trans hx)
 replace U:=Hd (U.o.keep (hx.kept _))
 clear hx d9
 go_wp2_with fail
 refine (Am 0 vN1 none none 0 0 f2 (λ_=>True) (OJ f2 (λ_=>True) 0 2 ⟨#[]⟩ 1 0 0 AB none none) (Al) (HT.o.ext a9.o).tens).mono ?_;rintro ee f8 ⟨A1,c1,D1,e1,rfl,hab,hx⟩;have d3:=Hd (a9.o.trans hx)
 replace U:=Hd (U.o.keep (hx.kept _))
 clear hx a9;have O:=Hd (hab.mono (T:=λ_=>True) λ_ _ _=>trivial);clear hab
 go_wp2_with fail
 refine (IO 2 f8).mono ?_;rintro ee f3 ⟨rfl,hx⟩;have b0:=Hd (d3.o.trans hx)
 replace U:=Hd (U.o.keep (hx.kept _))
 replace O:=Hd (O.o.keep (hx.kept _))
 clear hx d3
 go_wp2_with fail
 refine (Am 0 vN2 none none 0 0 f3 (λ_=>True) (OJ f3 (λ_=>True) 0 2 ⟨#[]⟩ 2 0 0 AB none none) (Al) (HT.o.ext b0.o).tens).mono ?_;rintro ee i2 ⟨A2,c2,D2,e2,rfl,hab,hx⟩;have b4:=Hd (b0.o.trans hx)
 replace U:=Hd (U.o.keep (hx.kept _))
 replace O:=Hd (O.o.keep (hx.kept _))
 clear hx b0;have Z:=Hd (hab.mono (T:=λ_=>True) λ_ _ _=>trivial);clear hab
 go_wp2_with fail
 refine (KH (ofA vN1) (ofA vN2) A1 D1 A2 D2 c1 e1 c2 e2 i2 (λ_=>True) O.o.2.2.1 O.o.2.2.2 Z.o.2.2.1 Z.o.2.2.2 (HT.o.ext b4.o).tens ((Mx _).mono AB) ((Mx _).mono AB)).mono ?_;rintro ee d5 ⟨A8,c8,D8,e8,he,hab,hx⟩;have b9:=Hd (b4.o.trans hx)
 replace U:=Hd (U.o.keep (hx.kept _))
 clear hx b4;rw [HnA] at he;subst he;clear hab O Z;rename_i K1 hK1 K2 hK2;refine hK2 _ _ ?_;refine Ag rfl rfl ?_;obtain ⟨g8,hg⟩:=eqx d5.heap.size;rw [<-hg];refine AM rfl 36 _ _ rfl g8 (Ap noneA A8 c8 D8 e8) rfl rfl 36 _ (GK hg) AH rfl AD ?_;intro wp hb ho;refine hK1 _ _ ?_;have d4:Ext d5 wp:=(exaa d5).only ho Ez;obtain ⟨HX,f7,HB4⟩:=Hd3 (b9.o.trans d4) hb (U.o.keep (d4.kept _));clear hK1 hK2 hb ho d4 hg b9 U
 go_frame
 go_upto_region 11 with fail
 refine Qa (λ_ _=>False) [] ?_;refine Qs (FP λv F J=>SvA (Cs 2) v J) (H1A ?_) ?_ ?_
 ·exact Bn
 ·exact VO
 refine Qd (x:=.agg #[.I 2,.string ⟨#[]⟩,.I 3,.I 0,.I 0,.slice none 0 0,.slice none 0 0]) (λJ HXW=>IO 3 J) ?_;refine Qg (.bool true) ?_ ?_
 ·intro V F J L hR hN hp hρ zs zg;obtain ⟨A0,c0,D0,e0,g0,d6⟩:=hp.o 0 AB;have e49:=(hρ.o 49).trans g0;have hxx:=hR.o.ext0 (λ_ _ _ h=>h.elim);have HXW:=Hd hxx;clear hxx;refine Qr ?_;refine (BX 0 (Cs 2) vN3 A0 D0 none none c0 e0 0 0 J (λ_=>True) (λ_=>True) d6.2.2.1 d6.2.2.2 (OJ J (λ_=>True) 0 2 ⟨#[]⟩ 3 0 0 AB none none) (Al) (HT.o.ext (HX.o.trans HXW.o)).tens B3A).mono ?_;rintro e1 w3 ⟨he,hx⟩;rw [HrA] at he;exact DP
 refine Qp ?_;refine Qs (FP λv F J=>SvA (Cs 2) v J) (H1A ?_) ?_ ?_
 ·exact Bn
 ·exact VO
 refine Qm (λV F J L hR hN hp hρ zs zg=>by
  exact Li) ?_
 refine Qg (.bool false) ?_ ?_
 ·intro V F J L hR hN hp hρ zs zg;obtain ⟨A4,c4,D4,e4,hv4,b7⟩:=hp.o 4 AB;have e53:=(hρ.o 53).trans hv4;have hxx:=hR.o.ext0 (λ_ _ _ h=>h.elim);have HXW:=Hd hxx;clear hxx;refine Qr ?_;refine (BX 0 (Cs 2) vA1 A4 D4 none none c4 e4 0 0 J (λ_=>True) (λ_=>True) b7.2.2.1 b7.2.2.2 (OJ J (λ_=>True) 0 1 ⟨#[97,49]⟩ 0 0 0 AB none none) (Al) (HT.o.ext (HX.o.trans HXW.o)).tens B3A).mono ?_;rintro e1 w3 ⟨he,hx⟩;rw [GfA] at he;exact DP
 iterate 6 refine Qp ?_
 refine Qm (λV F J L hR hN hp hρ zs zg=>by
  exact Li) ?_
 refine Qm (λV F J L hR hN hp hρ zs zg=>by
  exact Li) ?_
 refine Qg (.bool true) ?_ ?_
 ·intro V F J L hR hN hp hρ zs zg;have hxx:=hR.o.ext0 (λ_ _ _ h=>h.elim);have HXW:=Hd hxx;clear hxx;refine Qr ?_;refine (Dn 0 CvA CvA none none none none 0 0 0 0 J (λ_=>True) (λ_=>True) (OJ J (λ_=>True) 0 4 ⟨#[]⟩ 0 0 1 AB none none) (OJ J (λ_=>True) 0 4 ⟨#[]⟩ 0 0 1 AB none none)).mono ?_;rintro e1 w3 ⟨he,hx⟩;rw [decide_eq_true rfl] at he;exact DP
 iterate 6 refine Qp ?_
 apply H9A (LZ.refl _) AG
 ·intro V F J L hR hN hp hρ hc hf hg;refine ⟨by show (NM (V 21)==some true)=true;rw [show V 21=.bool true from hp 21 AB];rfl,?_⟩;have e8:=hρ 8;(conv at e8=>rhs;whnf);have hxx:=hR.ext0 (λ_ _ _ h=>h.elim);have HXW:=Hd hxx;have i8:=f7.o.keep (hxx.kept _);exact FI rfl e8 i8 AS AH ⟨rfl,rfl⟩
 ·rfl
 refine Qd (x:=(Aq noneA none 0 none 0)) (λJ HXW=>QV J) ?_;refine Qd (λJ HXW=>DRA noneA A8 D8 none none c8 e8 0 0 J (λ_=>True) (λ_=>True) (AbM.nil (A:=A8) (D:=D8) (c:=c8) (e:=e8) ⟨rfl,rfl⟩).2.2.1 (AbM.nil (A:=A8) (D:=D8) (c:=c8) (e:=e8) ⟨rfl,rfl⟩).2.2.2 (AbM.nil (A:=none) (D:=none) (c:=0) (e:=0) ⟨rfl,rfl⟩).2.2.1 (AbM.nil (A:=none) (D:=none) (c:=0) (e:=0) ⟨rfl,rfl⟩).2.2.2) ?_
 iterate 2 refine Qp ?_
 intro V F w9 hR hG;refine Qx ?_;have i6:=Hd (show Ext wp w9 from hR.ext0 (λ_ _ _ h=>h.elim));clear hR hG;go_wp2;go_ret;exact ⟨rfl,(HX0.o.trans HX.o).trans i6.o⟩

theorem WT(n s:Int)(w:World):Cl 183 #[.agg #[.I n,.I s]] w (Fu w (Bg n s)):=by
 have HD:=Hd (λJ=>Ns n s J);cases hd:Dz n s
 all_goals
  have HV:=Hd (show Bg n s=if Dz n s=true then (n,s) else (0,0) from rfl);rw [hd] at HD HV;clear hd
  go_enter func183,ntmps183
  go_wp2_with fail
  refine (HD.o _).mono ?_;rintro e1 w1 ⟨rfl,hx1⟩;have hb1:=(Blk.new w 28 #[.I n,.I s]).keep (((exaa _).trans hx1).kept _);have hb2:=(H6A w (.cells #[.I n,.I s] 28) 28 #[.I 0,.I 0]).keep (hx1.kept _);obtain ⟨q0,q1⟩:=hb1.qs2;obtain ⟨q2,q3⟩:=hb2.qs2;have qf:=hb2.frozen;have ql:=hb2.lt;have HX:=Hd ((exbb w).trans hx1);clear hx1 hb1 hb2
  go_wp2_with fail
  rw [HV.o]
 ·refine bodyPost_ret (v:=.agg #[.I 0,.I 0]) (by simp [results,results183,go_sem,q2,q3]) rfl ⟨rfl,?_⟩;exact BT
 ·refine bodyPost_ret (v:=.agg #[.I n,.I s]) (by simp [results,results183,go_sem,q2,q3]) rfl ⟨rfl,?_⟩;exact BT
theorem NX(r:Rg)(w:World):Cl 110 #[(Rq r)] w (Ae w (BF r)):=by
 have HC:=Hd (λJ=>NK r.ln r.ls r.hn r.hs J);have HE:=Hd (show BF r=decide (CG (mu r.ln r.ls) (mu r.hn r.hs) > 0) by rw [Sb];rfl);generalize CG (mu r.ln r.ls) (mu r.hn r.hs)=z at *
 go_enter func110,ntmps110
 go_wp2_with fail
 refine (HC.o _).mono ?_;exact Oj
theorem ZH(r:Rg)(n s:Int)(w:World):Cl 44 #[(Rq r),.agg #[.I n,.I s]] w (Ae w (BD r n s)):=by
 obtain ⟨HC1,O,HD,HE⟩:=Hd4 (λJ=>NK r.ln r.ls n s J) (λJ=>NK n s r.hn r.hs J) (λJ=>Ns n s J) (show BD r n s=(Dz n s&&decide (CG (mu r.ln r.ls) (mu n s)<=0)&&decide (CG (mu n s) (mu r.hn r.hs)<=0)) by rw [XT,XT];rfl);generalize CG (mu r.ln r.ls) (mu n s)=z at *;generalize CG (mu n s) (mu r.hn r.hs)=y at *;generalize Dz n s=b at *
 go_enter func44,ntmps44
 go_wp2_with fail
 refine (HD.o _).mono ?_;rintro e1 w1 ⟨rfl,hx1⟩;have HX:=Hd ((exbb w).trans hx1);have hb1:=(Blk.new w 30 (Rp r)).keep (((exaa _).trans hx1).kept _);have hb2:=(H6A w (.cells (Rp r) 30) 28 #[.I n,.I s]).keep (hx1.kept _);obtain ⟨q0,q1,q2,q3⟩:=hb1.qs4;obtain ⟨q4,q5⟩:=hb2.qs2;clear hx1 hb1 hb2;cases b
 ·exact UI
 go_wp2_with fail
 refine (HC1.o _).mono ?_;rintro e2 w2 ⟨rfl,hx2⟩;have HX2:=Hd (HX.o.trans hx2);have q0:=hx2.cell q0;have q1:=hx2.cell q1;have q2:=hx2.cell q2;have q3:=hx2.cell q3;have q4:=hx2.cell q4;have q5:=hx2.cell q5;clear hx2;by_cases hz:z<=0
 ·have HF:=Hd (show BD r n s=decide (y<=0) by rw [HE.o,decide_eq_true hz];rfl)
  go_wp2_with fail
  refine (O.o _).mono ?_;exact TJ
 ·exact Ri
theorem N6(r:Rg)(w:World):Cl 115 #[.agg #[.I r.ln,.I r.ls],.agg #[.I r.hn,.I r.hs]] w (Em w (CI r)):=by
 have HN:=Hd (show CI r=if decide (CG (mu r.ln r.ls) (mu r.hn r.hs) > 0)=true then IBA else ⟨(Bg r.ln r.ls).1,(Bg r.ln r.ls).2,(Bg r.hn r.hs).1,(Bg r.hn r.hs).2⟩ by rw [Sb];rfl);have HC:=Hd (λJ=>NK r.ln r.ls r.hn r.hs J);obtain ⟨⟨u1,u2⟩,hu⟩:=eqx (Bg r.ln r.ls);obtain ⟨⟨v1,v2⟩,hv⟩:=eqx (Bg r.hn r.hs);have HR1:=Hd (show ∀ J,Cl 183 #[.agg #[.I r.ln,.I r.ls]] J (Fu J (u1,u2)) from λJ=>by rw [hu];exact WT _ _ J);have HR2:=Hd (show ∀ J,Cl 183 #[.agg #[.I r.hn,.I r.hs]] J (Fu J (v1,v2)) from λJ=>by rw [hv];exact WT _ _ J);rw [<-hu,<-hv] at HN;generalize CG (mu r.ln r.ls) (mu r.hn r.hs)=z at *;obtain ⟨g2,hg2⟩:=eqx (w.heap.size+2);have HGG:=Hd hg2;have HG2:=Hd (show w.heap.size<=g2 by omega);clear hu hv hg2
 go_enter func115,ntmps115
 go_wp2_with fail
 refine (HC.o _).mono ?_;rintro e1 w1 ⟨rfl,hx1⟩;have hb1:=(Blk.new w 28 #[.I r.ln,.I r.ls]).keep (((exbb _).trans hx1).kept _);have hb2:=(H6A w (.cells #[.I r.ln,.I r.ls] 28) 28 #[.I r.hn,.I r.hs]).keep (((exaa _).trans hx1).kept _);have O:=(ICA w (.cells #[.I r.ln,.I r.ls] 28) (.cells #[.I r.hn,.I r.hs] 28) 30 #[.I 0,.I 0,.I 0,.I 0]).keep (hx1.kept _);rw [<-HGG.o] at O;have HX1:=Hd ((excc w).trans hx1);have HB2:=Hd O;obtain ⟨r0,r1,r2,r3⟩:=O.qs4;have qf:=O.frozen;have ql:=O.lt;obtain ⟨Z,k1,k2,k3⟩:=Hd4 (hb1.q0) (hb1.q1) (hb2.q0) (hb2.q1);clear hx1 hb1 hb2 O;rw [show w.heap.size+1+1=g2 from HGG.o.symm];by_cases hz:z > 0
 ·have HF:=Hd (show CI r=IBA by rw [HN.o,decide_eq_true hz,if_pos rfl]);go_wp2;rw [HF.o];refine bodyPost_ret (v:=(Rq IBA)) (by simp [results,results115,go_sem,r0,r1,r2,r3,IBA]) rfl ⟨rfl,?_⟩
  iterate 4 with_reducible refine Ext.set2 ?_ HG2.o _
  with_reducible exact HX1.o
 ·have HF:=Hd (show CI r=⟨u1,u2,v1,v2⟩ by rw [HN.o,decide_eq_false hz,if_neg AC]);clear r0 r1 r2 r3 qf ql
  go_upto_region 3 with fail
  refine Qa (λm b=>(m=1005/\b=g2)) (lk 6 [1005]) ?_;refine Qp ?_;refine Qc (x:=.agg #[.I u1,.I u2]) (λJ=>HR1.o J) ?_;refine Qp ?_;refine Qc (x:=.agg #[.I v1,.I v2]) (λJ=>HR2.o J) ?_;refine Qp ?_;refine Qs (λ_ F J=>Blk J g2 30 #[.I u1,.I u2,.I v1,.I v2]/\F 1005=true) ?_ ?_ ?_
  ·exact FE
  ·intro V F J L hR hN hp hρ zs zg;have hk1005:=hN.o.key (k:=1005) AB;have hb0:=HB2.o.keep (hR.o.kept0 (S:=λb=>b=g2) λb _ e m hm=>by
    rw [hm.1];exact hk1005)
   have HB0:=Hd hb0;have HK:=Hd hk1005;obtain ⟨q0,q1,q2,q3⟩:=hb0.qs4;have qf:=hb0.frozen;have ql:=hb0.lt;clear hb0 hk1005;refine Qr ?_;refine ⟨F.put 1005,H2A HK.o rfl rfl rfl Y78171d3d0 (λb hb hm=>(((((Only.refl g2 J).set 0 (.I u1)).set 1 (.I u2)).set 2 (.I v1)).set 3 (.I v2)).block b λe=>hm (⟨rfl,e⟩)),LK.done AB,?_,AU⟩;exact Kv
  intro V F w9 hR hG;refine Qx ?_;obtain ⟨U,-⟩:=hG 5 AB;have Y:=Hd U;clear U;have HXN:=Hd (show Ext w w9 from Au HX1.o (hR.buts (S:=λb=>b=g2) (λm b _ hm _=>hm.2)) (λb hb=>by
   rw [hb];exact HG2.o))
  clear hR hG;obtain ⟨s0,s1,s2,s3⟩:=Y.o.qs4;go_wp2;rw [HF.o];exact bodyPost_ret (v:=.agg #[.I u1,.I u2,.I v1,.I v2]) (by simp [results,results115,go_sem,s0,s1,s2,s3]) rfl ⟨rfl,HXN.o⟩

theorem SM(h:qP:=by
 iterate 4 with_reducible refine Ext.set2 ?_ HG.o _
 iterate 2 with_reducible refine Ext.set2 ?_ HL5.o _
 with_reducible exact HXG.o):qP:=h
theorem SP(h:qP:=by
 iterate 4 with_reducible refine Ext.set2 ?_ HG.o _
 with_reducible exact HXG.o):qP:=h
theorem Ia(h:qP:=by simp [results,results81,go_sem,r0,r1,r2,r3]):qP:=h
theorem IL(h:qP:=by have:=H1.o;omega):qP:=h
theorem Yf(a b:Rg)(w:World):Cl 81 #[(Rq a),(Rq b)] w (Em w (Cc a b)):=by
 obtain ⟨x,hx⟩:=eqx (CI a);obtain ⟨y,hy⟩:=eqx (CI b);obtain ⟨HN1,HN2,HEX,HEY,HC1,HC2⟩:=Hd6 (show ∀ J,Cl 115 #[.agg #[.I a.ln,.I a.ls],.agg #[.I a.hn,.I a.hs]] J (Em J x) from λJ=>by rw [hx];exact N6 a J) (show ∀ J,Cl 115 #[.agg #[.I b.ln,.I b.ls],.agg #[.I b.hn,.I b.hs]] J (Em J y) from λJ=>by rw [hy];exact N6 b J) (λJ=>NX x J) (λJ=>NX y J) (λJ=>NK y.ln y.ls x.ln x.ls J) (λJ=>NK y.hn y.hs x.hn x.hs J);have HJ:=Hd (show Cc a b=if BF x=true then y else if BF y=true then x else ⟨if decide (CG (mu y.ln y.ls) (mu x.ln x.ls)<0)=true then y.ln else x.ln,if decide (CG (mu y.ln y.ls) (mu x.ln x.ls)<0)=true then y.ls else x.ls,if decide (CG (mu y.hn y.hs) (mu x.hn x.hs) > 0)=true then y.hn else x.hn,if decide (CG (mu y.hn y.hs) (mu x.hn x.hs) > 0)=true then y.hs else x.hs⟩ from by
  rw [DiA,Sb];unfold Cc;rw [<-hx,<-hy];unfold CiA CU Bm;simp only [decide_eq_true_eq];congr 2;by_cases h1:mu y.ln y.ls<mu x.ln x.ls<;>by_cases h2:mu x.hn x.hs<mu y.hn y.hs<;>simp [h1,h2])
 generalize CG (mu y.ln y.ls) (mu x.ln x.ls)=z1 at *;generalize CG (mu y.hn y.hs) (mu x.hn x.hs)=z2 at *;generalize BF x=b1 at *;generalize BF y=b2 at *;obtain ⟨gR,hgR⟩:=eqx (w.heap.size+1+1);have HGR:=Hd hgR;have HG:=Hd (show w.heap.size<=gR by omega);clear hx hy hgR
 go_enter func81,ntmps81
 go_wp2_with fail
 refine (HN1.o _).mono ?_;rintro e1 w1 ⟨rfl,hx1⟩;have hb2:=(H6A w (.cells (Rp a) 30) 30 (Rp b)).keep (((exaa _).trans hx1).kept _);have b6:=(ICA w (.cells (Rp a) 30) (.cells (Rp b) 30) 30 #[.I 0,.I 0,.I 0,.I 0]).keep (hx1.kept _);have e3:w.heap.size+2=gR:=HGR.o.symm;rw [e3] at b6;rw [show w.heap.size+1+1=gR from e3];clear e3;obtain ⟨w1',a8⟩:=eqx (w1.alloc (.cells (Rp x) 30));obtain ⟨p5,b8⟩:=eqx w1.heap.size;have b7:Ext w1 w1':=(by rw [a8];exact (Ext.refl _).alloc _);have O:Blk w1' p5 30 (Rp x):=(by rw [a8,b8];exact Blk.new _ _ _);have HXA:=Hd ((excc w).trans (hx1.trans b7));have HBR:=Hd (b6.keep (b7.kept _));have hb2:=hb2.keep (b7.kept _);obtain ⟨HB5,HW1,HP5,HL5⟩:=Hd4 O a8 b8 (show w.heap.size<=p5 by rw [b8];have:=(excc w).trans hx1 |>.size;omega);obtain ⟨q0,q1,q2,q3⟩:=hb2.qs4;have HN56:=Hd O.lt;have HNR:=Hd (show gR≠p5 from λe=>by have:=b6.lt;omega);clear hx1 b7 hb2 b6 O a8 b8
 go_upto_region 2 with fail
 rw [<-HW1.o,<-HP5.o]
 go_wp2_with fail
 refine (HN2.o _).mono ?_;rintro e2 w2 ⟨rfl,hx2⟩;obtain ⟨w2',a9⟩:=eqx (w2.alloc (.cells (Rp y) 30));obtain ⟨p6,hp6⟩:=eqx w2.heap.size;have b9:Ext w2 w2':=(by rw [a9];exact (Ext.refl _).alloc _);have U:Blk w2' p6 30 (Rp y):=(by rw [a9,hp6];exact Blk.new _ _ _);have HXB:=Hd (HXA.o.trans (hx2.trans b9));have HBR2:=Hd (HBR.o.keep ((hx2.trans b9).kept _));have O:=HB5.o.keep ((hx2.trans b9).kept _);obtain ⟨HB52,HB6,HW2,HP6,b5⟩:=Hd5 O U a9 hp6 (show p6≠p5 from λe=>by have:=HN56.o;have:=hx2.size;omega);obtain ⟨m0,m1,m2,m3⟩:=O.qs4;clear hx2 b9 O U a9 hp6 q0 q1 q2 q3
 go_upto_region 3 with fail
 rw [<-HW2.o,<-HP6.o]
 go_wp2_with fail
 refine (HEX.o _).mono ?_;rintro e3 w3 ⟨rfl,hx3⟩;obtain ⟨HXC,HBR3,HB53⟩:=Hd3 (HXB.o.trans hx3) (HBR2.o.keep (hx3.kept _)) (HB52.o.keep (hx3.kept _));have U:=HB6.o.keep (hx3.kept _);have HB63:=Hd U;obtain ⟨m4,m5,m6,m7⟩:=U.qs4;clear hx3 U m0 m1 m2 m3
 go_wp2_with fail
 refine (HEY.o _).mono ?_;rintro e4 w4 ⟨rfl,hx4⟩;have HXD:=Hd (HXC.o.trans hx4);have Y:=HBR3.o.keep (hx4.kept _);have O:=HB53.o.keep (hx4.kept _);have U:=HB63.o.keep (hx4.kept _);obtain ⟨HBRD,HB5D,HB6D⟩:=Hd3 Y O U;obtain ⟨m0,m1,m2,m3⟩:=O.qs4;obtain ⟨m4,m5,m6,m7⟩:=U.qs4;obtain ⟨r0,r1,r2,r3⟩:=Y.qs4;have qf:=Y.frozen;have ql:=Y.lt;clear hx4 Y O U;cases b1
 case' true =>
  go_wp2_with fail
  rw [HJ.o,if_pos trivial];refine bodyPost_ret (v:=(Rq y)) Ia rfl ⟨rfl,?_⟩
  iterate 4 with_reducible refine Ext.set2 ?_ HG.o _
  with_reducible exact HXD.o
 cases b2
 case' true =>
  go_wp2_with fail
  rw [HJ.o,if_neg AC,if_pos trivial];refine bodyPost_ret (v:=(Rq x)) Ia rfl ⟨rfl,?_⟩
  iterate 4 with_reducible refine Ext.set2 ?_ HG.o _
  with_reducible exact HXD.o
 go_wp2_with fail
 refine (HC1.o _).mono ?_;rintro e5 w5 ⟨rfl,hx5⟩;have HXE:=Hd (HXD.o.trans hx5);have Y:=HBRD.o.keep (hx5.kept _);have O:=HB5D.o.keep (hx5.kept _);have U:=HB6D.o.keep (hx5.kept _);obtain ⟨HBRE,HB5E,HB6E⟩:=Hd3 Y O U;obtain ⟨m0,m1,m2,m3⟩:=O.qs4;obtain ⟨m4,m5,m6,m7⟩:=U.qs4;have qf5:=O.frozen;have ql5:=O.lt;clear hx5 Y O U r0 r1 r2 r3 qf ql;by_cases h1:z1<0
 ·have H1:=Hd h1;obtain ⟨w6,hw6⟩:=eqx ((w5.setCell ⟨p5,0,none⟩ (.I y.ln)).setCell ⟨p5,1,none⟩ (.I y.ls));have ho:Only p5 w5 w6:=(by rw [hw6];exact ((Only.refl p5 w5).set 0 _).set 1 _);have O:Blk w6 p5 30 #[.I y.ln,.I y.ls,.I x.hn,.I x.hs]:=by
   rw [hw6];have:=(HB5E.o.set 0 (.I y.ln)).set 1 (.I y.ls)
   simpa using this
  obtain ⟨b3,b0,b4,HXF,HW6⟩:=Hd5 (HBRE.o.keep (ho.kept (S:=λb=>b=gR) λb _ e=>by rw [e];exact HNR.o)) (HB6E.o.keep (ho.kept (S:=λb=>b=p6) λb _ e=>by rw [e];exact b5.o)) O (show Ext w w6 by rw [hw6];exact (HXE.o.set2 HL5.o _).set2 HL5.o _) hw6;obtain ⟨d0,d1,d2,d3⟩:=O.qs4;obtain ⟨c4,c5,c6,c7⟩:=b0.o.qs4;clear ho O hw6
  go_upto_region 11 with fail
  rw [<-HW6.o];clear m0 m1 m2 m3 m4 m5 m6 m7
  go_wp2_with fail
  refine (HC2.o _).mono ?_;rintro e7 w7 ⟨rfl,Z⟩;have HXG:=Hd (HXF.o.trans Z);have Y:=b3.o.keep (Z.kept _);have O:=b4.o.keep (Z.kept _);have U:=b0.o.keep (Z.kept _);obtain ⟨m0,m1,m2,m3⟩:=O.qs4;obtain ⟨m4,m5,m6,m7⟩:=U.qs4;obtain ⟨r0,r1,r2,r3⟩:=Y.qs4;have qf:=Y.frozen;have ql:=Y.lt;have qf5:=O.frozen;have ql5:=O.lt;have hn1:=HNR.o;have hn2:=b5.o;clear Z Y O U;by_cases h2:z2 > 0
  ·have HF:=Hd (show Cc a b=⟨y.ln,y.ls,y.hn,y.hs⟩ by rw [HJ.o,if_neg AC,if_neg AC,show decide (z1<0)=true from decide_eq_true IL,show decide (z2 > 0)=true from decide_eq_true AA];rfl)
   go_wp2_with fail
   rw [HF.o];refine bodyPost_ret (v:=(Rq y)) (by simp [results,results81,go_sem,r0,r1,r2,r3]) rfl ⟨rfl,?_⟩;exact SM
  ·have HF:=Hd (show Cc a b=⟨y.ln,y.ls,x.hn,x.hs⟩ by rw [HJ.o,if_neg AC,if_neg AC,show decide (z1<0)=true from decide_eq_true IL,show decide (z2 > 0)=false from decide_eq_false AA];rfl)
   go_wp2_with fail
   rw [HF.o];refine bodyPost_ret (v:=.agg #[.I y.ln,.I y.ls,.I x.hn,.I x.hs]) Ia rfl ⟨rfl,?_⟩;exact SP
 ·have H1:=Hd h1;have HXF:=HXE;have b3:=HBRE;have b4:=HB5E;have b0:=HB6E
  go_wp2_with fail
  refine (HC2.o _).mono ?_;rintro e7 w7 ⟨rfl,Z⟩;have HXG:=Hd (HXF.o.trans Z);have Y:=b3.o.keep (Z.kept _);have O:=b4.o.keep (Z.kept _);have U:=b0.o.keep (Z.kept _);obtain ⟨m0,m1,m2,m3⟩:=O.qs4;obtain ⟨m4,m5,m6,m7⟩:=U.qs4;obtain ⟨r0,r1,r2,r3⟩:=Y.qs4;have qf:=Y.frozen;have ql:=Y.lt;have qf5:=O.frozen;have ql5:=O.lt;have hn1:=HNR.o;have hn2:=b5.o;clear Z Y O U;by_cases h2:z2 > 0
  ·have HF:=Hd (show Cc a b=⟨x.ln,x.ls,y.hn,y.hs⟩ by rw [HJ.o,if_neg AC,if_neg AC,show decide (z1<0)=false from decide_eq_false IL,show decide (z2 > 0)=true from decide_eq_true AA];rfl)
   go_wp2_with fail
   rw [HF.o];refine bodyPost_ret (v:=.agg #[.I x.ln,.I x.ls,.I y.hn,.I y.hs]) (by simp [results,results81,go_sem,r0,r1,r2,r3]) rfl ⟨rfl,?_⟩;exact SM
  ·have HF:=Hd (show Cc a b=⟨x.ln,x.ls,x.hn,x.hs⟩ by rw [HJ.o,if_neg AC,if_neg AC,show decide (z1<0)=false from decide_eq_false IL,show decide (z2 > 0)=false from decide_eq_false AA];rfl)
   go_wp2_with fail
   rw [HF.o];refine bodyPost_ret (v:=(Rq x)) Ia rfl ⟨rfl,?_⟩;exact SP

theorem EeA(l h:Int)(w:World):Cl 156 #[.I l,.I h] w (Cd w (CQ l h)):=by
 by_cases hl:h<l
 ·have HF:=Hd (show CQ l h=(1,0) by unfold CQ;rw [if_pos hl])
  go_enter func156,ntmps156
  go_wp2;rw [HF.o];refine bodyPost_ret (v:=.agg #[.I 1,.I 0]) (by simp [results,results156,go_sem]) rfl ⟨rfl,?_⟩;exact (Ext.refl w).alloc _
 ·have HF:=Hd (show CQ l h=(l,h) by unfold CQ;rw [if_neg hl])
  go_enter func156,ntmps156
  go_wp2;rw [HF.o];refine bodyPost_ret (v:=.agg #[.I l,.I h]) (by simp [results,results156,go_sem]) rfl ⟨rfl,?_⟩;exact (Ext.refl w).alloc _
theorem Oi(h:qP:=by
 rw [<-hu] at HF;clear hu
 go_enter func82,ntmps82
 go_wp2_with fail
 refine (HN.o _).mono ?_;rintro e1 w1 ⟨rfl,hx1⟩;have hb2:=(ICA w (.cells #[.I l,.I h] 32) (.cells #[.I l',.I h'] 32) 32 #[.I 0,.I 0]).keep (hx1.kept _);obtain ⟨r0,r1⟩:=hb2.qs2;have qf:=hb2.frozen;have ql:=hb2.lt;have HX:=Hd ((excc w).trans hx1);clear hx1 hb2
 go_wp2_with fail
 rw [HF.o];refine bodyPost_ret (v:=.agg #[.I u1,.I u2]) (by simp [results,results82,go_sem,r0,r1]) rfl ⟨rfl,?_⟩;exact BT):qP:=h
theorem MZ(h:qP:=by rw [hu];exact EeA _ _ J):qP:=h
theorem Qo(l h l' h':Int)(w:World):Cl 82 #[.agg #[.I l,.I h],.agg #[.I l',.I h']] w (Cd w (Cb (l,h) (l',h'))):=by
 by_cases h1:h<l
 ·have HF:=Hd (show Cb (l,h) (l',h')=CQ l' h' by unfold Cb;rw [if_pos h1]);obtain ⟨⟨u1,u2⟩,hu⟩:=eqx (CQ (l') (h'));have HN:=Hd (show ∀ J,Cl 156 #[.I (l'),.I (h')] J (Cd J (u1,u2)) from λJ=>MZ);exact Oi
 by_cases h2:h'<l'
 ·have HF:=Hd (show Cb (l,h) (l',h')=CQ l h by unfold Cb CQ;rw [if_neg h1,if_pos h2,if_neg h1]);obtain ⟨⟨u1,u2⟩,hu⟩:=eqx (CQ (l) (h));have HN:=Hd (show ∀ J,Cl 156 #[.I (l),.I (h)] J (Cd J (u1,u2)) from λJ=>MZ);exact Oi
 ·have HF:=Hd (show Cb (l,h) (l',h')=CQ (min l l') (max h h') by unfold Cb CQ;rw [if_neg h1,if_neg h2,if_neg AA]);obtain ⟨⟨u1,u2⟩,hu⟩:=eqx (CQ (min l l') (max h h'));have HN:=Hd (show ∀ J,Cl 156 #[.I (min l l'),.I (max h h')] J (Cd J (u1,u2)) from λJ=>MZ);exact Oi
theorem VH(h:qP:=by
 have HF:=Hd (show CZ (l,h) (l',h')=(1,0) by unfold CZ CQ;rw [if_pos (by simp only;omega)])
 go_enter func111,ntmps111
 go_wp2;rw [HF.o];refine bodyPost_ret (v:=.agg #[.I 1,.I 0]) (by simp [results,results111,go_sem]) rfl ⟨rfl,?_⟩;exact (exbb w).alloc _):qP:=h
theorem Ms(l h l' h':Int)(w:World):Cl 111 #[.agg #[.I l,.I h],.agg #[.I l',.I h']] w (Cd w (CZ (l,h) (l',h'))):=by
 by_cases h1:h<l
 ·exact VH
 by_cases h2:h'<l'
 ·exact VH
 ·have HF:=Hd (show CZ (l,h) (l',h')=CQ (max l l') (min h h') from rfl);obtain ⟨⟨u1,u2⟩,hu⟩:=eqx (CQ (max l l') (min h h'));have HN:=Hd (show ∀ J,Cl 156 #[.I (max l l'),.I (min h h')] J (Cd J (u1,u2)) from λJ=>MZ);rw [<-hu] at HF;clear hu
  go_enter func111,ntmps111
  go_wp2_with fail
  refine (HN.o _).mono ?_;rintro e1 w1 ⟨rfl,hx1⟩;have hb2:=(ICA w (.cells #[.I l,.I h] 32) (.cells #[.I l',.I h'] 32) 32 #[.I 0,.I 0]).keep (hx1.kept _);obtain ⟨r0,r1⟩:=hb2.qs2;have qf:=hb2.frozen;have ql:=hb2.lt;have HX:=Hd ((excc w).trans hx1);clear hx1 hb2
  go_wp2_with fail
  rw [HF.o];refine bodyPost_ret (v:=.agg #[.I u1,.I u2]) (by simp [results,results111,go_sem,r0,r1]) rfl ⟨rfl,?_⟩;exact BT
