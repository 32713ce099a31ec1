/- Lemmas. No conditions. -/
import Derived.Test.YtidacnalcdhckaaGreatDoorOq30
set_option maxRecDepth 100000
set_option maxHeartbeats 4000000
namespace Go.Proofs.YtidacnalcdhckaaGreatDoor
open Go Go.RowKit Tryz
variable {qP:Prop}

theorem DRA(a:Abs)(A D B E:OA)(c e cb eb:Nat)(w:World)(S T:NP)(hA:Strs w S A a.cols)(hD:RDeps w S D a.deps)(hB:Strs w T B a.cols)(hE:RDeps w T E a.deps) :
  Cl 21 #[(Aq a A c D e),(Aq a B cb E eb)] w (Ae w true):=by
 obtain ⟨w0,hw0⟩:=eqx ((w.alloc (.cells (Ap a A c D e) 39)).alloc (.cells (Ap a B cb E eb) 39));obtain ⟨g2,hg2⟩:=eqx w.heap.size;obtain ⟨g3,hg3⟩:=eqx (w.heap.size+1);have hx0:Ext w w0:=Bh;have hb2:Blk w0 g2 39 (Ap a A c D e):=Gr;have hb3:Blk w0 g3 39 (Ap a B cb E eb):=(by rw [hw0,hg3];exact H6A _ _ _ _);obtain ⟨HW0,HG2,HG3,HX0,HB2,HB3,HD,HE⟩:=Hd8 hw0 hg2 hg3 hx0 hb2 hb3 (hD.keep (hx0.kept _)) (hE.keep (hx0.kept _));have hdl:=hD.1;have HST:=Hd (Jq A B c cb a.cols a.cols w0 S T (hA.keep (hx0.kept _)) (hB.keep (hx0.kept _)));rw [decide_eq_true rfl] at HST;clear hw0 hg2 hg3 hx0 hb2 hb3 hA hD hB hE;have q15:w0.cell? ⟨g2,15,none⟩=some (.slice A a.cols.length c):=HB2.o.q15;have p15:w0.cell? ⟨g3,15,none⟩=some (.slice B a.cols.length cb):=HB3.o.q15
 go_enter func21,ntmps21
 go_upto_region 1 with fail
 rw [←HW0.o,←HG3.o,←HG2.o]
 go_wp2_with fail
 refine HST.o.mono ?_;rintro e1 w1 ⟨rfl,n,hwn⟩;have hxn:Ext w0 w1:=(by rw [hwn];exact (Ext.refl _).drewN n);have HXN1:=Hd hxn;have hb2:=HB2.o.keep (hxn.kept _);have hb3:=HB3.o.keep (hxn.kept _);have q0:w1.cell? ⟨g2,0,none⟩=some (.I a.kinds):=hb2.q0;have p0:w1.cell? ⟨g3,0,none⟩=some (.I a.kinds):=hb3.q0;have q1:w1.cell? ⟨g2,1,none⟩=some (.I a.tx.least):=hb2.q1;have p1:w1.cell? ⟨g3,1,none⟩=some (.I a.tx.least):=hb3.q1;have q2:w1.cell? ⟨g2,2,none⟩=some (.I a.tx.most):=hb2.q2;have p2:w1.cell? ⟨g3,2,none⟩=some (.I a.tx.most):=hb3.q2;have q3:w1.cell? ⟨g2,3,none⟩=some (.I a.tx.cls):=hb2.q3;have p3:w1.cell? ⟨g3,3,none⟩=some (.I a.tx.cls):=hb3.q3;have q4:w1.cell? ⟨g2,4,none⟩=some (.string a.tx.b):=hb2.q4;have p4:w1.cell? ⟨g3,4,none⟩=some (.string a.tx.b):=hb3.q4;have q5:w1.cell? ⟨g2,5,none⟩=some (.string a.tx.e):=hb2.q5;have p5:w1.cell? ⟨g3,5,none⟩=some (.string a.tx.e):=hb3.q5;have q6:w1.cell? ⟨g2,6,none⟩=some (.I a.nu.ln):=hb2.q6;have p6:w1.cell? ⟨g3,6,none⟩=some (.I a.nu.ln):=hb3.q6;have q7:w1.cell? ⟨g2,7,none⟩=some (.I a.nu.ls):=hb2.q7;have p7:w1.cell? ⟨g3,7,none⟩=some (.I a.nu.ls):=hb3.q7;have q8:w1.cell? ⟨g2,8,none⟩=some (.I a.nu.hn):=hb2.q8;have p8:w1.cell? ⟨g3,8,none⟩=some (.I a.nu.hn):=hb3.q8;have q9:w1.cell? ⟨g2,9,none⟩=some (.I a.nu.hs):=hb2.q9;have p9:w1.cell? ⟨g3,9,none⟩=some (.I a.nu.hs):=hb3.q9;have q10:w1.cell? ⟨g2,10,none⟩=some (.I a.dl):=hb2.q10;have p10:w1.cell? ⟨g3,10,none⟩=some (.I a.dl):=hb3.q10;have q11:w1.cell? ⟨g2,11,none⟩=some (.I a.dh):=hb2.q11;have p11:w1.cell? ⟨g3,11,none⟩=some (.I a.dh):=hb3.q11;have q12:w1.cell? ⟨g2,12,none⟩=some (.I a.bo):=hb2.q12;have p12:w1.cell? ⟨g3,12,none⟩=some (.I a.bo):=hb3.q12;have q13:w1.cell? ⟨g2,13,none⟩=some (.I a.rl):=hb2.q13;have p13:w1.cell? ⟨g3,13,none⟩=some (.I a.rl):=hb3.q13;have q14:w1.cell? ⟨g2,14,none⟩=some (.I a.rh):=hb2.q14;have p14:w1.cell? ⟨g3,14,none⟩=some (.I a.rh):=hb3.q14;have q16:w1.cell? ⟨g2,16,none⟩=some (.slice D a.deps.length e):=hb2.q16;have p16:w1.cell? ⟨g3,16,none⟩=some (.slice E a.deps.length eb):=hb3.q16;have q17:w1.cell? ⟨g2,17,none⟩=some (.bool a.errs):=hb2.q17;have p17:w1.cell? ⟨g3,17,none⟩=some (.bool a.errs):=hb3.q17;clear hxn hwn hb2 hb3 q15 p15
 go_upto_region 4 with fail
 clear q0 p0 q1 p1 q2 p2 q3 p3 q4 p4 q5 p5 q6 p6 q7 p7 q8 p8 q9 p9 q10 p10 q11 p11 q12 p12 q13 p13 q14 p14 q17 p17;go_wp2
 go_loopw [6] (fun i wr=>∃ k:Nat,k≤a.deps.length∧i=.I k∧Ext w0 wr) (fun i _=>a.deps.length-(intOf i).toNat)
 case atStart=>exact ⟨0,AN,rfl,HXN1.o⟩
 case round =>
  clear q16 p16;obtain ⟨k,hk,rfl,hext⟩:=hrel;have HXE:=Hd hext;have q16:wr.cell? ⟨g2,16,none⟩=some (.slice D a.deps.length e):=(HB2.o.keep (hext.kept _)).q16;have p16:wr.cell? ⟨g3,16,none⟩=some (.slice E a.deps.length eb):=(HB3.o.keep (hext.kept _)).q16;by_cases hlt:k<a.deps.length
  ·obtain ⟨b1,o1,B1,e1,he1,z1,c1,c2,f1,f2,f3⟩:=(HD.o.keep (hext.kept _)).at_ hlt;obtain ⟨b2,o2,B2,e2,he2,z2,d1,d2,k1,k2,k3⟩:=(HE.o.keep (hext.kept _)).at_ hlt;subst he1 he2;obtain ⟨K16,L16,C0,C1,C2,C3,HF3,HK3⟩:=Hd8 q16 p16 c1 c2 d1 d2 f3 k3;have HSD:=Hd (show ∀ w',Ext wr w'→Cl 61 #[.agg #[.slice B1 a.deps[k].frm.length e1,.string a.deps[k].tov],.agg #[.slice B2 a.deps[k].frm.length e2,.string a.deps[k].tov]] w' (Ae w' true) from fun w' hw'=>by
    have h:=N5 a.deps[k] a.deps[k] B1 B2 e1 e2 w' _ _ (HF3.o.keep (hw'.kept _)) (HK3.o.keep (hw'.kept _));rwa [decide_eq_true rfl] at h)
   clear hext c1 c2 d1 d2 f1 f2 f3 k1 k2 k3
   go_upto_region 7 with fail
   clear q16 p16;refine Qa (fun _ _=>False) [] ?_
   iterate 10 refine Qp ?_
   refine Qd (fun w' HXW=>HSD.o w' HXW.o) ?_;refine Qp ?_;intro vals γ w9 hR hG;refine Qx ?_;have HXN:=Hd (show Ext wr w9 from hR.ext0 (fun _ _ _ h=>h.elim));clear hR hG
   go_wp2_with fail
   go_roundw
   case rel=>exact ⟨k+1,AA,AE,HXE.o.trans HXN.o⟩
   case measure=>simp [intOf];omega
  ·have HXF:=Hd (HX0.o.trans hext);clear hext;go_wp2;go_ret;exact ⟨rfl,HXF.o⟩

theorem QV(w:World):Cl 28 #[] w (DoA w noneA):=by
 have HSH:=Hd (show ∀ w',Cl 73 #[] w' (fun e w''=>e=.returned (.agg #[.I 1,.I 0,.I 0,.string ⟨#[]⟩,.string ⟨#[]⟩])∧Ext w' w'') from RC);have HSP:=Hd (show ∀ w',Cl 74 #[] w' (fun e w''=>e=.returned (.agg #[.I 1,.I 0])∧Ext w' w'') from Xo)
 go_enter func28,ntmps28
 go_wp2_with fail
 refine (HSH.o _).mono ?_;rintro e1 w1 ⟨rfl,hx1⟩;have HX1:=Hd ((exaa w).trans hx1);have HB1:=Hd ((Blk.new w 39 Az).keep (hx1.kept _));clear hx1
 go_wp2_with fail
 refine (HSP.o _).mono ?_;rintro e2 w2 ⟨rfl,hx2⟩;have HX2:=Hd (HX1.o.trans hx2);have HB2:=Hd (HB1.o.keep (hx2.kept _));clear hx2
 go_wp2_with fail
 refine (HSP.o _).mono ?_;rintro e3 w3 ⟨rfl,hx3⟩;have HX3:=Hd (HX2.o.trans hx3);have HB3:=Hd (HB2.o.keep (hx3.kept _));clear hx3;rename_i K1 hK1 K2 hK2;refine hK2 _ _ ?_;refine wpList_build rfl 39 _ rfl AD ?_;refine AM rfl 39 _ _ rfl w.heap.size (Ap noneA none 0 none 0) rfl AD 39 _ HB3.o AH rfl AD ?_;intro w4 hb4 ho4;have HX4:=Hd (HX3.o.only ho4 (Al));refine hK1 _ _ ?_;clear hK1 hK2 HB1 HB2 HB3 HX1 HX2 HX3
 go_wp2_with fail
 exact bodyPost_ret (Bv results28 rfl (Eq hb4 AS AH)) rfl ⟨rfl,HX4.o⟩

def vA1:Val:=⟨1,⟨#[97,49]⟩,0,0,0,[],[]⟩
def CvA:Val:=⟨4,⟨#[]⟩,0,0,1,[],[]⟩
def vN1:Val:=⟨2,⟨#[]⟩,1,0,0,[],[]⟩
def vN2:Val:=⟨2,⟨#[]⟩,2,0,0,[],[]⟩
def vN3:Val:=⟨2,⟨#[]⟩,3,0,0,[],[]⟩
def EgA:Val:=⟨2,⟨#[]⟩,25,1,0,[],[]⟩
def FLA:Val:=⟨3,⟨#[]⟩,0,0,5,[],[]⟩
def FEA:Val:=⟨0,⟨#[]⟩,0,0,18,[],[]⟩
noncomputable def vJn:Abs:=Fk (ofA vN1) (ofA EgA)
noncomputable def vJd:Abs:=Fk (ofA FLA) (ofA FEA)
theorem Pu:(AX (ofA vA1)).kinds=2∧(AX (ofA vA1)).errs=false∧(AX (ofA vA1)).tx=⟨2,2,10,⟨#[97,49]⟩,⟨#[97,49]⟩⟩:=⟨AD,AD,AD⟩
theorem HoA:(AX vJn).kinds=4∧(AX vJn).errs=false∧(AX vJn).nu=⟨1,0,25,1⟩:=⟨AD,AD,AD⟩
theorem HlA:(AX vJd).kinds=8∧(AX vJd).errs=true∧(AX vJd).dl=5∧(AX vJd).dh=5:=⟨AD,AD,AD,AD⟩
theorem HnA:Gq (ofA vN1) (ofA vN2)=noneA:=by kernel_rfl
theorem HqA:Cp (ofA CvA)=some CvA:=by kernel_rfl
theorem HxA:Cp (Cs 4)=none:=by kernel_rfl
theorem HrA:AW (Cs 2) vN3=true:=by kernel_rfl
theorem GfA:AW (Cs 2) vA1=false:=by kernel_rfl
theorem E8(h:qP:=by show (0:Nat)≤_;omega):qP:=h
theorem DvA(k:Int):AbN 1000 (Cs k):=by
 unfold Cs;exact AbN.can ⟨E8,E8,E8,E8,fun d hd=>BQ⟩
theorem FIA:AbN 1000000 (Cs 4):=(DvA 4).mono AB
theorem B3A:AbN 1000000 (Cs 2):=(DvA 2).mono AB
theorem OJ(w:World)(S:NP)(q:Nat)(k:Int)(s:BA)(a b n:Int)(hs:s.size≤4294967296)(A B:OA):RV w S q ⟨k,s,a,b,n,[],[]⟩ A B :=
 RV.mk hs ⟨.inl rfl,E8,by intro s hs;cases hs⟩ ⟨E8,[],.inl rfl,rfl,by intro i r hi;simp at hi⟩
def SvA(a:Abs)(v:Value)(w':World):Prop:=∃ (A:OA) (c:Nat) (D:OA) (e:Nat),v=(Aq a A c D e)∧AbM w' (fun _=>True) a A c D e
theorem GgA(A D:OA)(c e:Nat)(w:World)(ht:Txa w)(h:AbM w (fun _=>True) (ofA vA1) A c D e)(hz:AbN 1000000 (ofA vA1)):Cl 33 #[(let av:=(ofA vA1);(Aq av A c D e))] w (Cu w ⟨#[116,101,120,116,40,50,32,50,32,49,48,32,50,58,97,49,32,50,58,97,49,41]⟩):=by
 have h1:=Pu;have h2:=ON (ofA vA1) (AX (ofA vA1)) A D c e w (fun _=>True) h.2.2.1 h.2.2.2 hz ht rfl h1.1 h1.2.1 (by rw [h1.2.2];exact ⟨⟨AB,AB⟩,⟨AB,AB⟩,⟨AB,AB⟩,AB,AB⟩) (by rw [h1.2.2];exact of_decide_eq_true AD);have h3:bsA ([116,101,120,116,40]++V1 (AX (ofA vA1)).tx++[41])=⟨#[116,101,120,116,40,50,32,50,32,49,48,32,50,58,97,49,32,50,58,97,49,41]⟩:=AD;rw [h3] at h2;exact h2
theorem HIA(A D:OA)(c e:Nat)(w:World)(ht:Txa w)(h:AbM w (fun _=>True) (vJn) A c D e)(hz:AbN 1000000 (vJn)):Cl 33 #[(let av:=(vJn);(Aq av A c D e))] w (Cu w ⟨#[110,117,109,98,101,114,40,49,46,46,50,46,53,41]⟩):=by
 have h1:=HoA;have h2:=OI (vJn) (AX (vJn)) A D c e w (fun _=>True) 0 1 h.2.2.1 h.2.2.2 hz ht rfl h1.1 h1.2.1 (by rw [h1.2.2];exact ⟨rfl,rfl,AB,AB,AB⟩) (by rw [h1.2.2];exact of_decide_eq_true AD);have h3:bsA ([110,117,109,98,101,114,40]++V3 (AX vJn).nu++[41])=⟨#[110,117,109,98,101,114,40,49,46,46,50,46,53,41]⟩:=AD;rw [h3] at h2;exact h2
theorem GzA(A D:OA)(c e:Nat)(w:World)(ht:Txa w)(h:AbM w (fun _=>True) (vJd) A c D e)(hz:AbN 1000000 (vJd)):Cl 33 #[(let av:=(vJd);(Aq av A c D e))] w (Cu w ⟨#[100,97,116,101,40,53,46,46,53,41,32,101,114,114,111,114]⟩):=by
 have h1:=HlA;have h2:=OP (vJd) (AX (vJd)) A D c e w (fun _=>True) h.2.2.1 h.2.2.2 hz ht rfl h1.1 h1.2.1 (by rw [h1.2.2.1,h1.2.2.2];exact ⟨⟨AB,AB⟩,⟨AB,AB⟩⟩) (by rw [h1.2.2.1,h1.2.2.2];exact of_decide_eq_true AD);have h3:bsA ([100,97,116,101,40]++V9 (AX vJd).dl (AX vJd).dh++[41]++[32]++[101,114,114,111,114])=⟨#[100,97,116,101,40,53,46,46,53,41,32,101,114,114,111,114]⟩:=AD;rw [h3] at h2;exact h2

theorem IO(n:Int)(w:World):Cl 34 #[.I n] w (fun e w'=>e=.returned (.agg #[.I 2,.string ⟨#[]⟩,.I n,.I 0,.I 0,.slice none 0 0,.slice none 0 0])∧Ext w w'):=by
 go_enter func34,ntmps34
 go_wp2;exact bodyPost_ret (v:=.agg #[.I 2,.string ⟨#[]⟩,.I n,.I 0,.I 0,.slice none 0 0,.slice none 0 0]) (by simp [results,results34,go_sem]) rfl ⟨rfl,(Ext.refl _).alloc _⟩

theorem VV(h:qP:=by
 have hxx:=hR.o.ext0 (fun _ _ _ h=>h.elim);have HXW:=Hd hxx;have b1_0:=(HB1.o.keep (hxx.kept _)).q0;have b1_1:=(HB1.o.keep (hxx.kept _)).q1;have b1_2:=(HB1.o.keep (hxx.kept _)).q2;have b1_3:=(HB1.o.keep (hxx.kept _)).q3;have b1_4:=(HB1.o.keep (hxx.kept _)).q4;have b1_5:=(HB1.o.keep (hxx.kept _)).q5;have b1_6:=(HB1.o.keep (hxx.kept _)).q6;have b2_0:=(HB2.o.keep (hxx.kept _)).q0;have b2_1:=(HB2.o.keep (hxx.kept _)).q1;have b2_2:=(HB2.o.keep (hxx.kept _)).q2;have b2_3:=(HB2.o.keep (hxx.kept _)).q3;have b2_4:=(HB2.o.keep (hxx.kept _)).q4;have b2_5:=(HB2.o.keep (hxx.kept _)).q5;have b2_6:=(HB2.o.keep (hxx.kept _)).q6;have b3_0:=(HB3.o.keep (hxx.kept _)).q0;have b3_1:=(HB3.o.keep (hxx.kept _)).q1;have b3_2:=(HB3.o.keep (hxx.kept _)).q2;have b3_3:=(HB3.o.keep (hxx.kept _)).q3;have b3_4:=(HB3.o.keep (hxx.kept _)).q4;have b3_5:=(HB3.o.keep (hxx.kept _)).q5;have b3_6:=(HB3.o.keep (hxx.kept _)).q6;clear hxx;exact Qk):qP:=h
theorem Bn(h:qP:=by
 rintro v γ wx γ' wy rr ⟨A1,c1,D1,e1,h1,h2⟩;exact ⟨A1,c1,D1,e1,h1,h2.keep (rr.keptS fun b _ hb m hm=>hm.elim)⟩):qP:=h
theorem Gt(h:qP:=by
 rintro e1 w3 ⟨A4,c4,D4,e4,he,hab,hx⟩;exact ⟨_,he,γ,H4A _ γ hx,fun _ _ _ h=>h,A4,c4,D4,e4,rfl,hab.mono fun _ _ _=>trivial⟩):qP:=h
theorem VO(h:qP:=by
 intro vals γ w' ρ hR hN hp hρ zs zg;have hxx:=hR.o.ext0 (fun _ _ _ h=>h.elim);have HXW:=Hd hxx;clear hxx;refine Qr ?_;refine (KP 2 w' (HT.o.ext (HX.o.trans HXW.o)).tens).mono ?_;exact Gt):qP:=h
theorem Li(h:qP:=by
 have hxx:=hR.o.ext0 (fun _ _ _ h=>h.elim);have HXW:=Hd hxx;have b1_0:=(HB1.o.keep ((HX.o.trans hxx).kept _)).q0;have b1_1:=(HB1.o.keep ((HX.o.trans hxx).kept _)).q1;have b1_2:=(HB1.o.keep ((HX.o.trans hxx).kept _)).q2;have b1_3:=(HB1.o.keep ((HX.o.trans hxx).kept _)).q3;have b1_4:=(HB1.o.keep ((HX.o.trans hxx).kept _)).q4;have b1_5:=(HB1.o.keep ((HX.o.trans hxx).kept _)).q5;have b1_6:=(HB1.o.keep ((HX.o.trans hxx).kept _)).q6;have b2_0:=(HB2.o.keep ((HX.o.trans hxx).kept _)).q0;have b2_1:=(HB2.o.keep ((HX.o.trans hxx).kept _)).q1;have b2_2:=(HB2.o.keep ((HX.o.trans hxx).kept _)).q2;have b2_3:=(HB2.o.keep ((HX.o.trans hxx).kept _)).q3;have b2_4:=(HB2.o.keep ((HX.o.trans hxx).kept _)).q4;have b2_5:=(HB2.o.keep ((HX.o.trans hxx).kept _)).q5;have b2_6:=(HB2.o.keep ((HX.o.trans hxx).kept _)).q6;have b4_0:=(HB4.o.keep (hxx.kept _)).q0;have b4_1:=(HB4.o.keep (hxx.kept _)).q1;have b4_2:=(HB4.o.keep (hxx.kept _)).q2;have b4_3:=(HB4.o.keep (hxx.kept _)).q3;have b4_4:=(HB4.o.keep (hxx.kept _)).q4;have b4_5:=(HB4.o.keep (hxx.kept _)).q5;have b4_6:=(HB4.o.keep (hxx.kept _)).q6;clear hxx;exact Qk):qP:=h
theorem BXA(w:World)(ht:Txa w):Cl 9 #[] w (Ae w true):=by
 obtain ⟨w0,hw0⟩:=eqx (((w.alloc (.cells #[.I 1,.string ⟨#[97,49]⟩,.I 0,.I 0,.I 0,.slice none 0 0,.slice none 0 0] 29)).alloc (.cells #[.I 4,.string ⟨#[]⟩,.I 0,.I 0,.I 1,.slice none 0 0,.slice none 0 0] 29)).alloc (.cells #[.I 2,.string ⟨#[]⟩,.I 25,.I 1,.I 0,.slice none 0 0,.slice none 0 0] 29));obtain ⟨g1,hg1⟩:=eqx w.heap.size;obtain ⟨g2,hg2⟩:=eqx (w.heap.size+1);obtain ⟨g3,hg3⟩:=eqx (w.heap.size+2);have hx0:Ext w w0:=CC;obtain ⟨HB1,HB2,HB3,HT,HX0,HW0,HG1,HG2⟩:=Hd8 (show Blk w0 g1 29 #[.I 1,.string ⟨#[97,49]⟩,.I 0,.I 0,.I 0,.slice none 0 0,.slice none 0 0] by rw [hw0,hg1];exact (Blk.new _ _ _).keep ((exbb _).kept _)) (show Blk w0 g2 29 #[.I 4,.string ⟨#[]⟩,.I 0,.I 0,.I 1,.slice none 0 0,.slice none 0 0] by rw [hw0,hg2];exact (H6A _ _ _ _).keep ((exaa _).kept _)) (show Blk w0 g3 29 #[.I 2,.string ⟨#[]⟩,.I 25,.I 1,.I 0,.slice none 0 0,.slice none 0 0] by rw [hw0,hg3];exact ICA _ _ _ _ _) (ht.ext hx0) hx0 hw0 hg1 hg2;have HG3:=Hd hg3;clear hw0 hg1 hg2 hg3 hx0 ht
 go_enter func9,ntmps9
 go_upto_region 4 with fail
 rw [←HW0.o,←HG3.o,←HG2.o,←HG1.o];refine Qa (fun _ _=>False) [] ?_;refine Qm (fun vals γ w' ρ hR hN hp hρ zs zg=>by
  exact VV) ?_
 refine Qs (FP fun v γ w'=>SvA (ofA vA1) v w') (H1A ?_) ?_ ?_
 ·exact Bn
 ·intro vals γ w' ρ hR hN hp hρ zs zg;have hxx:=hR.o.ext0 (fun _ _ _ h=>h.elim);have HXW:=Hd hxx;clear hxx;refine Qr ?_;refine (Am 0 vA1 none none 0 0 w' (fun _=>True) (OJ w' (fun _=>True) 0 1 ⟨#[97,49]⟩ 0 0 0 AB none none) (Al) (HT.o.ext HXW.o).tens).mono ?_;exact Gt
 refine Qg (.string ⟨#[116,101,120,116,40,50,32,50,32,49,48,32,50,58,97,49,32,50,58,97,49,41]⟩) ?_ ?_
 ·intro vals γ w' ρ hR hN hp hρ zs zg;obtain ⟨A1,c1,D1,e1,hv1,hab1⟩:=hp.o 1 AB;have e14:=(hρ.o 14).trans hv1;have hxx:=hR.o.ext0 (fun _ _ _ h=>h.elim);have HXW:=Hd hxx;clear hxx;refine Qr ?_;refine (GgA A1 D1 c1 e1 w' (HT.o.ext HXW.o) hab1 ((Mx vA1).mono AB)).mono ?_;exact DR
 iterate 2 refine Qp ?_
 refine Qd (x:=.agg #[.I 2,.string ⟨#[]⟩,.I 1,.I 0,.I 0,.slice none 0 0,.slice none 0 0]) (fun w' HXW=>IO 1 w') ?_;refine Qs (FP fun v γ w'=>SvA (ofA vN1) v w') (H1A ?_) ?_ ?_
 ·exact Bn
 ·intro vals γ w' ρ hR hN hp hρ zs zg;have hxx:=hR.o.ext0 (fun _ _ _ h=>h.elim);have HXW:=Hd hxx;clear hxx;refine Qr ?_;refine (Am 0 vN1 none none 0 0 w' (fun _=>True) (OJ w' (fun _=>True) 0 2 ⟨#[]⟩ 1 0 0 AB none none) (Al) (HT.o.ext HXW.o).tens).mono ?_;exact Gt
 refine Qm (fun vals γ w' ρ hR hN hp hρ zs zg=>by
  exact VV) ?_
 refine Qs (FP fun v γ w'=>SvA (ofA EgA) v w') (H1A ?_) ?_ ?_
 ·exact Bn
 ·intro vals γ w' ρ hR hN hp hρ zs zg;have hxx:=hR.o.ext0 (fun _ _ _ h=>h.elim);have HXW:=Hd hxx;clear hxx;refine Qr ?_;refine (Am 0 EgA none none 0 0 w' (fun _=>True) (OJ w' (fun _=>True) 0 2 ⟨#[]⟩ 25 1 0 AB none none) (Al) (HT.o.ext HXW.o).tens).mono ?_;exact Gt
 refine Qs (FP fun v γ w'=>SvA (vJn) v w') (H1A ?_) ?_ ?_
 ·exact Bn
 ·intro vals γ w' ρ hR hN hp hρ zs zg;obtain ⟨A6,c6,D6,e6,hv6,hab6⟩:=hp.o 6 AB;have e19:=(hρ.o 19).trans hv6;obtain ⟨A8,c8,D8,e8,hv8,hab8⟩:=hp.o 8 AB;have e21:=(hρ.o 21).trans hv8;have hxx:=hR.o.ext0 (fun _ _ _ h=>h.elim);have HXW:=Hd hxx;clear hxx;refine Qr ?_;refine (Hn (ofA vN1) (ofA EgA) A6 D6 A8 D8 c6 e6 c8 e8 w' (fun _=>True) hab6.2.2.1 hab6.2.2.2 hab8.2.2.1 hab8.2.2.2 (HT.o.ext HXW.o).tens ((Mx _).mono AB) ((Mx _).mono AB)).mono ?_;exact Gt
 refine Qg (.string ⟨#[110,117,109,98,101,114,40,49,46,46,50,46,53,41]⟩) ?_ ?_
 ·intro vals γ w' ρ hR hN hp hρ zs zg;obtain ⟨A9,c9,D9,e9,hv9,hab9⟩:=hp.o 9 AB;have e22:=(hρ.o 22).trans hv9;have hxx:=hR.o.ext0 (fun _ _ _ h=>h.elim);have HXW:=Hd hxx;clear hxx;refine Qr ?_;refine (HIA A9 D9 c9 e9 w' (HT.o.ext HXW.o) hab9 (((Mx vN1).join (Mx EgA)).mono AB)).mono ?_;exact DR
 iterate 2 refine Qp ?_
 intro vals γ w4 hR hG;refine Qx ?_;have HX4:=Hd (show Ext w0 w4 from hR.ext0 (fun _ _ _ h=>h.elim));clear hR hG
 go_upto_region 6 with fail
 go_wp2_with fail
 refine (Am 0 FLA none none 0 0 w4 (fun _=>True) (OJ w4 (fun _=>True) 0 3 ⟨#[]⟩ 0 0 5 AB none none) (Al) (HT.o.ext HX4.o).tens).mono ?_;rintro ee w5 ⟨A1,c1,D1,e1,rfl,hab,hx⟩;have HX5:=Hd (HX4.o.trans hx);clear hx HX4;have HA1:=Hd (hab.mono (T:=fun _=>True) fun _ _ _=>trivial);clear hab
 go_wp2_with fail
 refine (Am 0 FEA none none 0 0 w5 (fun _=>True) (OJ w5 (fun _=>True) 0 0 ⟨#[]⟩ 0 0 18 AB none none) (Al) (HT.o.ext HX5.o).tens).mono ?_;rintro ee w6 ⟨A2,c2,D2,e2,rfl,hab,hx⟩;have HX6:=Hd (HX5.o.trans hx)
 replace HA1:=Hd (HA1.o.keep (hx.kept _))
 clear hx HX5;have HA2:=Hd (hab.mono (T:=fun _=>True) fun _ _ _=>trivial);clear hab
 go_wp2_with fail
 refine (Hn (ofA FLA) (ofA FEA) A1 D1 A2 D2 c1 e1 c2 e2 w6 (fun _=>True) HA1.o.2.2.1 HA1.o.2.2.2 HA2.o.2.2.1 HA2.o.2.2.2 (HT.o.ext HX6.o).tens ((Mx _).mono AB) ((Mx _).mono AB)).mono ?_;rintro ee w7 ⟨A3,c3,D3,e3,rfl,hab,hx⟩;have HX7:=Hd (HX6.o.trans hx);clear hx HX6;have HA3:=Hd (show AbM w7 (fun _=>True) vJd A3 c3 D3 e3 from hab.mono (T:=fun _=>True) fun _ _ _=>trivial);clear hab HA1 HA2
 go_wp2_with fail
 refine (GzA A3 D3 c3 e3 w7 (HT.o.ext HX7.o) HA3.o (((Mx FLA).join (Mx FEA)).mono AB)).mono ?_;rintro ee w8 ⟨rfl,hx⟩;have HX8:=Hd (HX7.o.trans hx);clear hx HX7 HA3
 go_upto_region 8 with fail
 have b2_0:=(HB2.o.keep (HX8.o.kept _)).q0;have b2_1:=(HB2.o.keep (HX8.o.kept _)).q1;have b2_2:=(HB2.o.keep (HX8.o.kept _)).q2;have b2_3:=(HB2.o.keep (HX8.o.kept _)).q3;have b2_4:=(HB2.o.keep (HX8.o.kept _)).q4;have b2_5:=(HB2.o.keep (HX8.o.kept _)).q5;have b2_6:=(HB2.o.keep (HX8.o.kept _)).q6
 go_wp2_with fail
 refine (Am 0 CvA none none 0 0 w8 (fun _=>True) (OJ w8 (fun _=>True) 0 4 ⟨#[]⟩ 0 0 1 AB none none) (Al) (HT.o.ext HX8.o).tens).mono ?_;rintro ee w9 ⟨A1,c1,D1,e1,rfl,hab,hx⟩;have HX9:=Hd (HX8.o.trans hx);clear hx HX8;have HA1:=Hd (hab.mono (T:=fun _=>True) fun _ _ _=>trivial);clear hab b2_0 b2_1 b2_2 b2_3 b2_4 b2_5 b2_6
 go_wp2_with fail
 refine (JS (ofA CvA) A1 D1 c1 e1 w9 (fun _=>True) HA1.o.2.2.1 HA1.o.2.2.2 (HT.o.ext HX9.o).tens ((Mx _).mono AB)).mono ?_;rintro ee w10 ⟨he,hx⟩;have HX10:=Hd (HX9.o.trans hx);clear hx HX9;rw [HqA] at he;have he2:ee=.returned (.tuple #[.agg #[.I 4,.string ⟨#[]⟩,.I 0,.I 0,.I 1,.slice none 0 0,.slice none 0 0],.bool true]):=he;subst he2;clear he HA1
 go_upto_region 9 with fail
 obtain ⟨g4,hg4⟩:=eqx w10.heap.size;obtain ⟨w11,hw11⟩:=eqx (w10.alloc (.cells #[.I 4,.string ⟨#[]⟩,.I 0,.I 0,.I 1,.slice none 0 0,.slice none 0 0] 29));rw [←hg4,←hw11];have HB411:=Hd (show Blk w11 g4 29 #[.I 4,.string ⟨#[]⟩,.I 0,.I 0,.I 1,.slice none 0 0,.slice none 0 0] by rw [hw11,hg4];exact Blk.new _ _ _);have HX11:=Hd (show Ext w0 w11 by rw [hw11];exact HX10.o.alloc _);clear hg4 hw11 HX10
 go_wp2_with fail
 refine (KP 4 w11 (HT.o.ext HX11.o).tens).mono ?_;rintro ee w12 ⟨A1,c1,D1,e1,rfl,hab,hx⟩;have HX12:=Hd (HX11.o.trans hx)
 replace HB411:=Hd (HB411.o.keep (hx.kept _))
 clear hx HX11;have HA1:=Hd (hab.mono (T:=fun _=>True) fun _ _ _=>trivial);clear hab
 go_wp2_with fail
 refine (JS (Cs 4) A1 D1 c1 e1 w12 (fun _=>True) HA1.o.2.2.1 HA1.o.2.2.2 (HT.o.ext HX12.o).tens FIA).mono ?_;rintro ee w13 ⟨he,hx⟩;have HX13:=Hd (HX12.o.trans hx)
 replace HB411:=Hd (HB411.o.keep (hx.kept _))
 clear hx HX12;rw [HxA] at he;have he2:ee=.returned (.tuple #[.agg Vz,.bool false]):=he;subst he2;clear he HA1
 go_upto_region 10 with fail
 obtain ⟨g6,hg6⟩:=eqx w13.heap.size;obtain ⟨w14,hw14⟩:=eqx (w13.alloc (.cells Vz 29));rw [←hg6,←hw14];have hx14:Ext w13 w14:=(by rw [hw14];exact (Ext.refl _).alloc _);have HX14:=Hd (HX13.o.trans hx14);have HB414:=Hd (HB411.o.keep (hx14.kept _));clear hg6 hw14 hx14 HX13 HB411
 go_wp2_with fail
 refine (IO 1 w14).mono ?_;rintro ee w15 ⟨rfl,hx⟩;have HX15:=Hd (HX14.o.trans hx)
 replace HB414:=Hd (HB414.o.keep (hx.kept _))
 clear hx HX14
 go_wp2_with fail
 refine (Am 0 vN1 none none 0 0 w15 (fun _=>True) (OJ w15 (fun _=>True) 0 2 ⟨#[]⟩ 1 0 0 AB none none) (Al) (HT.o.ext HX15.o).tens).mono ?_;rintro ee w16 ⟨A1,c1,D1,e1,rfl,hab,hx⟩;have HX16:=Hd (HX15.o.trans hx)
 replace HB414:=Hd (HB414.o.keep (hx.kept _))
 clear hx HX15;have HA1:=Hd (hab.mono (T:=fun _=>True) fun _ _ _=>trivial);clear hab
 go_wp2_with fail
 refine (IO 2 w16).mono ?_;rintro ee w17 ⟨rfl,hx⟩;have HX17:=Hd (HX16.o.trans hx)
 replace HB414:=Hd (HB414.o.keep (hx.kept _))
 replace HA1:=Hd (HA1.o.keep (hx.kept _))
 clear hx HX16
 go_wp2_with fail
 refine (Am 0 vN2 none none 0 0 w17 (fun _=>True) (OJ w17 (fun _=>True) 0 2 ⟨#[]⟩ 2 0 0 AB none none) (Al) (HT.o.ext HX17.o).tens).mono ?_;rintro ee w18 ⟨A2,c2,D2,e2,rfl,hab,hx⟩;have HX18:=Hd (HX17.o.trans hx)
 replace HB414:=Hd (HB414.o.keep (hx.kept _))
 replace HA1:=Hd (HA1.o.keep (hx.kept _))
 clear hx HX17;have HA2:=Hd (hab.mono (T:=fun _=>True) fun _ _ _=>trivial);clear hab
 go_wp2_with fail
 refine (KH (ofA vN1) (ofA vN2) A1 D1 A2 D2 c1 e1 c2 e2 w18 (fun _=>True) HA1.o.2.2.1 HA1.o.2.2.2 HA2.o.2.2.1 HA2.o.2.2.2 (HT.o.ext HX18.o).tens ((Mx _).mono AB) ((Mx _).mono AB)).mono ?_;rintro ee w19 ⟨A8,c8,D8,e8,he,hab,hx⟩;have HX19:=Hd (HX18.o.trans hx)
 replace HB414:=Hd (HB414.o.keep (hx.kept _))
 clear hx HX18;rw [HnA] at he;subst he;clear hab HA1 HA2;rename_i K1 hK1 K2 hK2;refine hK2 _ _ ?_;refine Ag rfl rfl ?_;obtain ⟨g8,hg⟩:=eqx w19.heap.size;rw [←hg];refine AM rfl 39 _ _ rfl g8 (Ap noneA A8 c8 D8 e8) rfl rfl 39 _ (GK hg) AH rfl AD ?_;intro wp hb ho;refine hK1 _ _ ?_;have hxo:Ext w19 wp:=(exaa w19).only ho Ez;obtain ⟨HX,HB8,HB4⟩:=Hd3 (HX19.o.trans hxo) hb (HB414.o.keep (hxo.kept _));clear hK1 hK2 hb ho hxo hg HX19 HB414
 go_frame
 go_upto_region 11 with fail
 refine Qa (fun _ _=>False) [] ?_;refine Qs (FP fun v γ w'=>SvA (Cs 2) v w') (H1A ?_) ?_ ?_
 ·exact Bn
 ·exact VO
 refine Qd (x:=.agg #[.I 2,.string ⟨#[]⟩,.I 3,.I 0,.I 0,.slice none 0 0,.slice none 0 0]) (fun w' HXW=>IO 3 w') ?_;refine Qg (.bool true) ?_ ?_
 ·intro vals γ w' ρ hR hN hp hρ zs zg;obtain ⟨A0,c0,D0,e0,hv0,hab0⟩:=hp.o 0 AB;have e49:=(hρ.o 49).trans hv0;have hxx:=hR.o.ext0 (fun _ _ _ h=>h.elim);have HXW:=Hd hxx;clear hxx;refine Qr ?_;refine (BX 0 (Cs 2) vN3 A0 D0 none none c0 e0 0 0 w' (fun _=>True) (fun _=>True) hab0.2.2.1 hab0.2.2.2 (OJ w' (fun _=>True) 0 2 ⟨#[]⟩ 3 0 0 AB none none) (Al) (HT.o.ext (HX.o.trans HXW.o)).tens B3A).mono ?_;rintro e1 w3 ⟨he,hx⟩;rw [HrA] at he;exact DP
 refine Qp ?_;refine Qs (FP fun v γ w'=>SvA (Cs 2) v w') (H1A ?_) ?_ ?_
 ·exact Bn
 ·exact VO
 refine Qm (fun vals γ w' ρ hR hN hp hρ zs zg=>by
  exact Li) ?_
 refine Qg (.bool false) ?_ ?_
 ·intro vals γ w' ρ hR hN hp hρ zs zg;obtain ⟨A4,c4,D4,e4,hv4,hab4⟩:=hp.o 4 AB;have e53:=(hρ.o 53).trans hv4;have hxx:=hR.o.ext0 (fun _ _ _ h=>h.elim);have HXW:=Hd hxx;clear hxx;refine Qr ?_;refine (BX 0 (Cs 2) vA1 A4 D4 none none c4 e4 0 0 w' (fun _=>True) (fun _=>True) hab4.2.2.1 hab4.2.2.2 (OJ w' (fun _=>True) 0 1 ⟨#[97,49]⟩ 0 0 0 AB none none) (Al) (HT.o.ext (HX.o.trans HXW.o)).tens B3A).mono ?_;rintro e1 w3 ⟨he,hx⟩;rw [GfA] at he;exact DP
 iterate 6 refine Qp ?_
 refine Qm (fun vals γ w' ρ hR hN hp hρ zs zg=>by
  exact Li) ?_
 refine Qm (fun vals γ w' ρ hR hN hp hρ zs zg=>by
  exact Li) ?_
 refine Qg (.bool true) ?_ ?_
 ·intro vals γ w' ρ hR hN hp hρ zs zg;have hxx:=hR.o.ext0 (fun _ _ _ h=>h.elim);have HXW:=Hd hxx;clear hxx;refine Qr ?_;refine (Dn 0 CvA CvA none none none none 0 0 0 0 w' (fun _=>True) (fun _=>True) (OJ w' (fun _=>True) 0 4 ⟨#[]⟩ 0 0 1 AB none none) (OJ w' (fun _=>True) 0 4 ⟨#[]⟩ 0 0 1 AB none none)).mono ?_;rintro e1 w3 ⟨he,hx⟩;rw [decide_eq_true rfl] at he;exact DP
 iterate 6 refine Qp ?_
 apply H9A (LZ.refl _) AG
 ·intro vals γ w' ρ hR hN hp hρ hc hf hg;refine ⟨by show (NM (vals 21)==some true)=true;rw [show vals 21=.bool true from hp 21 AB];rfl,?_⟩;have e8:=hρ 8;(conv at e8=>rhs;whnf);have hxx:=hR.ext0 (fun _ _ _ h=>h.elim);have HXW:=Hd hxx;have hb8:=HB8.o.keep (hxx.kept _);exact FI rfl e8 hb8 AS AH ⟨rfl,rfl⟩
 ·rfl
 refine Qd (x:=(Aq noneA none 0 none 0)) (fun w' HXW=>QV w') ?_;refine Qd (fun w' HXW=>DRA noneA A8 D8 none none c8 e8 0 0 w' (fun _=>True) (fun _=>True) (AbM.nil (A:=A8) (D:=D8) (c:=c8) (e:=e8) ⟨rfl,rfl⟩).2.2.1 (AbM.nil (A:=A8) (D:=D8) (c:=c8) (e:=e8) ⟨rfl,rfl⟩).2.2.2 (AbM.nil (A:=none) (D:=none) (c:=0) (e:=0) ⟨rfl,rfl⟩).2.2.1 (AbM.nil (A:=none) (D:=none) (c:=0) (e:=0) ⟨rfl,rfl⟩).2.2.2) ?_
 iterate 2 refine Qp ?_
 intro vals γ w9 hR hG;refine Qx ?_;have HXE:=Hd (show Ext wp w9 from hR.ext0 (fun _ _ _ h=>h.elim));clear hR hG;go_wp2;go_ret;exact ⟨rfl,(HX0.o.trans HX.o).trans HXE.o⟩

theorem WT(n s:Int)(w:World):Cl 178 #[.agg #[.I n,.I s]] w (Fu w (Bg n s)):=by
 have HD:=Hd (fun w'=>Ns n s w');cases hd:Dz n s
 all_goals
  have HV:=Hd (show Bg n s=if Dz n s=true then (n,s) else (0,0) from rfl);rw [hd] at HD HV;clear hd
  go_enter func178,ntmps178
  go_wp2_with fail
  refine (HD.o _).mono ?_;rintro e1 w1 ⟨rfl,hx1⟩;have hb1:=(Blk.new w 25 #[.I n,.I s]).keep (((exaa _).trans hx1).kept _);have hb2:=(H6A w (.cells #[.I n,.I s] 25) 25 #[.I 0,.I 0]).keep (hx1.kept _);obtain ⟨q0,q1⟩:=hb1.qs2;obtain ⟨q2,q3⟩:=hb2.qs2;have qf:=hb2.frozen;have ql:=hb2.lt;have HX:=Hd ((exbb w).trans hx1);clear hx1 hb1 hb2
  go_wp2_with fail
  rw [HV.o]
 ·refine bodyPost_ret (v:=.agg #[.I 0,.I 0]) (by simp [results,results178,go_sem,q2,q3]) rfl ⟨rfl,?_⟩;exact BT
 ·refine bodyPost_ret (v:=.agg #[.I n,.I s]) (by simp [results,results178,go_sem,q2,q3]) rfl ⟨rfl,?_⟩;exact BT
theorem NX(r:Rg)(w:World):Cl 76 #[(Rq r)] w (Ae w (BF r)):=by
 have HC:=Hd (fun w'=>NK r.ln r.ls r.hn r.hs w');have HE:=Hd (show BF r=decide (CG (mu r.ln r.ls) (mu r.hn r.hs) > 0) by rw [Sb];rfl);generalize CG (mu r.ln r.ls) (mu r.hn r.hs)=z at *
 go_enter func76,ntmps76
 go_wp2_with fail
 refine (HC.o _).mono ?_;exact Oj
theorem N6(r:Rg)(w:World):Cl 118 #[.agg #[.I r.ln,.I r.ls],.agg #[.I r.hn,.I r.hs]] w (Em w (CI r)):=by
 have HN:=Hd (show CI r=if decide (CG (mu r.ln r.ls) (mu r.hn r.hs) > 0)=true then IBA else ⟨(Bg r.ln r.ls).1,(Bg r.ln r.ls).2,(Bg r.hn r.hs).1,(Bg r.hn r.hs).2⟩ by rw [Sb];rfl);have HC:=Hd (fun w'=>NK r.ln r.ls r.hn r.hs w');obtain ⟨⟨u1,u2⟩,hu⟩:=eqx (Bg r.ln r.ls);obtain ⟨⟨v1,v2⟩,hv⟩:=eqx (Bg r.hn r.hs);have HR1:=Hd (show ∀ w',Cl 178 #[.agg #[.I r.ln,.I r.ls]] w' (Fu w' (u1,u2)) from fun w'=>by rw [hu];exact WT _ _ w');have HR2:=Hd (show ∀ w',Cl 178 #[.agg #[.I r.hn,.I r.hs]] w' (Fu w' (v1,v2)) from fun w'=>by rw [hv];exact WT _ _ w');rw [←hu,←hv] at HN;generalize CG (mu r.ln r.ls) (mu r.hn r.hs)=z at *;obtain ⟨g2,hg2⟩:=eqx (w.heap.size+2);have HGG:=Hd hg2;have HG2:=Hd (show w.heap.size≤g2 by omega);clear hu hv hg2
 go_enter func118,ntmps118
 go_wp2_with fail
 refine (HC.o _).mono ?_;rintro e1 w1 ⟨rfl,hx1⟩;have hb1:=(Blk.new w 25 #[.I r.ln,.I r.ls]).keep (((exbb _).trans hx1).kept _);have hb2:=(H6A w (.cells #[.I r.ln,.I r.ls] 25) 25 #[.I r.hn,.I r.hs]).keep (((exaa _).trans hx1).kept _);have hb3:=(ICA w (.cells #[.I r.ln,.I r.ls] 25) (.cells #[.I r.hn,.I r.hs] 25) 34 #[.I 0,.I 0,.I 0,.I 0]).keep (hx1.kept _);rw [←HGG.o] at hb3;have HX1:=Hd ((excc w).trans hx1);have HB2:=Hd hb3;obtain ⟨r0,r1,r2,r3⟩:=hb3.qs4;have qf:=hb3.frozen;have ql:=hb3.lt;obtain ⟨k0,k1,k2,k3⟩:=Hd4 (hb1.q0) (hb1.q1) (hb2.q0) (hb2.q1);clear hx1 hb1 hb2 hb3;rw [show w.heap.size+1+1=g2 from HGG.o.symm];by_cases hz:z > 0
 ·have HF:=Hd (show CI r=IBA by rw [HN.o,decide_eq_true hz,if_pos rfl]);go_wp2;rw [HF.o];refine bodyPost_ret (v:=(Rq IBA)) (by simp [results,results118,go_sem,r0,r1,r2,r3,IBA]) rfl ⟨rfl,?_⟩
  iterate 4 with_reducible refine Ext.set2 ?_ HG2.o _
  with_reducible exact HX1.o
 ·have HF:=Hd (show CI r=⟨u1,u2,v1,v2⟩ by rw [HN.o,decide_eq_false hz,if_neg AC]);clear r0 r1 r2 r3 qf ql
  go_upto_region 3 with fail
  refine Qa (fun m b=>(m=1005∧b=g2)) (lk 6 [1005]) ?_;refine Qp ?_;refine Qc (x:=.agg #[.I u1,.I u2]) (fun w'=>HR1.o w') ?_;refine Qp ?_;refine Qc (x:=.agg #[.I v1,.I v2]) (fun w'=>HR2.o w') ?_;refine Qp ?_;refine Qs (fun _ γ w'=>Blk w' g2 34 #[.I u1,.I u2,.I v1,.I v2]∧γ 1005=true) ?_ ?_ ?_
  ·exact FE
  ·intro vals γ w' ρ hR hN hp hρ zs zg;have hk1005:=hN.o.key (k:=1005) AB;have hb0:=HB2.o.keep (hR.o.kept0 (S:=fun b=>b=g2) fun b _ e m hm=>by
    rw [hm.1];exact hk1005)
   have HB0:=Hd hb0;have HK:=Hd hk1005;obtain ⟨q0,q1,q2,q3⟩:=hb0.qs4;have qf:=hb0.frozen;have ql:=hb0.lt;clear hb0 hk1005;refine Qr ?_;refine ⟨γ.put 1005,H2A HK.o rfl rfl rfl Y78171d3d0 (fun b hb hm=>(((((Only.refl g2 w').set 0 (.I u1)).set 1 (.I u2)).set 2 (.I v1)).set 3 (.I v2)).block b fun e=>hm (⟨rfl,e⟩)),LK.done AB,?_,AU⟩;exact Kv
  intro vals γ w9 hR hG;refine Qx ?_;obtain ⟨hb5,-⟩:=hG 5 AB;have HB5N:=Hd hb5;clear hb5;have HXN:=Hd (show Ext w w9 from Au HX1.o (hR.buts (S:=fun b=>b=g2) (fun m b _ hm _=>hm.2)) (fun b hb=>by
   rw [hb];exact HG2.o))
  clear hR hG;obtain ⟨s0,s1,s2,s3⟩:=HB5N.o.qs4;go_wp2;rw [HF.o];exact bodyPost_ret (v:=.agg #[.I u1,.I u2,.I v1,.I v2]) (by simp [results,results118,go_sem,s0,s1,s2,s3]) rfl ⟨rfl,HXN.o⟩

theorem SM(h:qP:=by
 iterate 4 with_reducible refine Ext.set2 ?_ HG.o _
 iterate 2 with_reducible refine Ext.set2 ?_ HL5.o _
 with_reducible exact HXG.o):qP:=h
theorem SP(h:qP:=by
 iterate 4 with_reducible refine Ext.set2 ?_ HG.o _
 with_reducible exact HXG.o):qP:=h
theorem Gm(h:qP:=by simp [results,results42,go_sem,r0,r1,r2,r3]):qP:=h
theorem IL(h:qP:=by have:=H1.o;omega):qP:=h
theorem Yf(a b:Rg)(w:World):Cl 42 #[(Rq a),(Rq b)] w (Em w (Cc a b)):=by
 obtain ⟨x,hx⟩:=eqx (CI a);obtain ⟨y,hy⟩:=eqx (CI b);obtain ⟨HN1,HN2,HEX,HEY,HC1,HC2⟩:=Hd6 (show ∀ w',Cl 118 #[.agg #[.I a.ln,.I a.ls],.agg #[.I a.hn,.I a.hs]] w' (Em w' x) from fun w'=>by rw [hx];exact N6 a w') (show ∀ w',Cl 118 #[.agg #[.I b.ln,.I b.ls],.agg #[.I b.hn,.I b.hs]] w' (Em w' y) from fun w'=>by rw [hy];exact N6 b w') (fun w'=>NX x w') (fun w'=>NX y w') (fun w'=>NK y.ln y.ls x.ln x.ls w') (fun w'=>NK y.hn y.hs x.hn x.hs w');have HJ:=Hd (show Cc a b=if BF x=true then y else if BF y=true then x else ⟨if decide (CG (mu y.ln y.ls) (mu x.ln x.ls)<0)=true then y.ln else x.ln,if decide (CG (mu y.ln y.ls) (mu x.ln x.ls)<0)=true then y.ls else x.ls,if decide (CG (mu y.hn y.hs) (mu x.hn x.hs) > 0)=true then y.hn else x.hn,if decide (CG (mu y.hn y.hs) (mu x.hn x.hs) > 0)=true then y.hs else x.hs⟩ from by
  rw [DiA,Sb];unfold Cc;rw [←hx,←hy];unfold CiA CU Bm;simp only [decide_eq_true_eq];congr 2;by_cases h1:mu y.ln y.ls<mu x.ln x.ls<;>by_cases h2:mu x.hn x.hs<mu y.hn y.hs<;>simp [h1,h2])
 generalize CG (mu y.ln y.ls) (mu x.ln x.ls)=z1 at *;generalize CG (mu y.hn y.hs) (mu x.hn x.hs)=z2 at *;generalize BF x=b1 at *;generalize BF y=b2 at *;obtain ⟨gR,hgR⟩:=eqx (w.heap.size+1+1);have HGR:=Hd hgR;have HG:=Hd (show w.heap.size≤gR by omega);clear hx hy hgR
 go_enter func42,ntmps42
 go_wp2_with fail
 refine (HN1.o _).mono ?_;rintro e1 w1 ⟨rfl,hx1⟩;have hb2:=(H6A w (.cells (Rp a) 34) 34 (Rp b)).keep (((exaa _).trans hx1).kept _);have hb3:=(ICA w (.cells (Rp a) 34) (.cells (Rp b) 34) 34 #[.I 0,.I 0,.I 0,.I 0]).keep (hx1.kept _);have e3:w.heap.size+2=gR:=HGR.o.symm;rw [e3] at hb3;rw [show w.heap.size+1+1=gR from e3];clear e3;obtain ⟨w1',hw1'⟩:=eqx (w1.alloc (.cells (Rp x) 34));obtain ⟨p5,hp5⟩:=eqx w1.heap.size;have hxa:Ext w1 w1':=(by rw [hw1'];exact (Ext.refl _).alloc _);have hb5:Blk w1' p5 34 (Rp x):=(by rw [hw1',hp5];exact Blk.new _ _ _);have HXA:=Hd ((excc w).trans (hx1.trans hxa));have HBR:=Hd (hb3.keep (hxa.kept _));have hb2:=hb2.keep (hxa.kept _);obtain ⟨HB5,HW1,HP5,HL5⟩:=Hd4 hb5 hw1' hp5 (show w.heap.size≤p5 by rw [hp5];have:=(excc w).trans hx1 |>.size;omega);obtain ⟨q0,q1,q2,q3⟩:=hb2.qs4;have HN56:=Hd hb5.lt;have HNR:=Hd (show gR≠p5 from fun e=>by have:=hb3.lt;omega);clear hx1 hxa hb2 hb3 hb5 hw1' hp5
 go_upto_region 2 with fail
 rw [←HW1.o,←HP5.o]
 go_wp2_with fail
 refine (HN2.o _).mono ?_;rintro e2 w2 ⟨rfl,hx2⟩;obtain ⟨w2',hw2'⟩:=eqx (w2.alloc (.cells (Rp y) 34));obtain ⟨p6,hp6⟩:=eqx w2.heap.size;have hxb:Ext w2 w2':=(by rw [hw2'];exact (Ext.refl _).alloc _);have hb6:Blk w2' p6 34 (Rp y):=(by rw [hw2',hp6];exact Blk.new _ _ _);have HXB:=Hd (HXA.o.trans (hx2.trans hxb));have HBR2:=Hd (HBR.o.keep ((hx2.trans hxb).kept _));have hb5:=HB5.o.keep ((hx2.trans hxb).kept _);obtain ⟨HB52,HB6,HW2,HP6,HN65⟩:=Hd5 hb5 hb6 hw2' hp6 (show p6≠p5 from fun e=>by have:=HN56.o;have:=hx2.size;omega);obtain ⟨m0,m1,m2,m3⟩:=hb5.qs4;clear hx2 hxb hb5 hb6 hw2' hp6 q0 q1 q2 q3
 go_upto_region 3 with fail
 rw [←HW2.o,←HP6.o]
 go_wp2_with fail
 refine (HEX.o _).mono ?_;rintro e3 w3 ⟨rfl,hx3⟩;obtain ⟨HXC,HBR3,HB53⟩:=Hd3 (HXB.o.trans hx3) (HBR2.o.keep (hx3.kept _)) (HB52.o.keep (hx3.kept _));have hb6:=HB6.o.keep (hx3.kept _);have HB63:=Hd hb6;obtain ⟨m4,m5,m6,m7⟩:=hb6.qs4;clear hx3 hb6 m0 m1 m2 m3
 go_wp2_with fail
 refine (HEY.o _).mono ?_;rintro e4 w4 ⟨rfl,hx4⟩;have HXD:=Hd (HXC.o.trans hx4);have hbr:=HBR3.o.keep (hx4.kept _);have hb5:=HB53.o.keep (hx4.kept _);have hb6:=HB63.o.keep (hx4.kept _);obtain ⟨HBRD,HB5D,HB6D⟩:=Hd3 hbr hb5 hb6;obtain ⟨m0,m1,m2,m3⟩:=hb5.qs4;obtain ⟨m4,m5,m6,m7⟩:=hb6.qs4;obtain ⟨r0,r1,r2,r3⟩:=hbr.qs4;have qf:=hbr.frozen;have ql:=hbr.lt;clear hx4 hbr hb5 hb6;cases b1
 case' true =>
  go_wp2_with fail
  rw [HJ.o,if_pos trivial];refine bodyPost_ret (v:=(Rq y)) Gm rfl ⟨rfl,?_⟩
  iterate 4 with_reducible refine Ext.set2 ?_ HG.o _
  with_reducible exact HXD.o
 cases b2
 case' true =>
  go_wp2_with fail
  rw [HJ.o,if_neg AC,if_pos trivial];refine bodyPost_ret (v:=(Rq x)) Gm rfl ⟨rfl,?_⟩
  iterate 4 with_reducible refine Ext.set2 ?_ HG.o _
  with_reducible exact HXD.o
 go_wp2_with fail
 refine (HC1.o _).mono ?_;rintro e5 w5 ⟨rfl,hx5⟩;have HXE:=Hd (HXD.o.trans hx5);have hbr:=HBRD.o.keep (hx5.kept _);have hb5:=HB5D.o.keep (hx5.kept _);have hb6:=HB6D.o.keep (hx5.kept _);obtain ⟨HBRE,HB5E,HB6E⟩:=Hd3 hbr hb5 hb6;obtain ⟨m0,m1,m2,m3⟩:=hb5.qs4;obtain ⟨m4,m5,m6,m7⟩:=hb6.qs4;have qf5:=hb5.frozen;have ql5:=hb5.lt;clear hx5 hbr hb5 hb6 r0 r1 r2 r3 qf ql;by_cases h1:z1<0
 ·have H1:=Hd h1;obtain ⟨w6,hw6⟩:=eqx ((w5.setCell ⟨p5,0,none⟩ (.I y.ln)).setCell ⟨p5,1,none⟩ (.I y.ls));have ho:Only p5 w5 w6:=(by rw [hw6];exact ((Only.refl p5 w5).set 0 _).set 1 _);have hb5:Blk w6 p5 34 #[.I y.ln,.I y.ls,.I x.hn,.I x.hs]:=by
   rw [hw6];have:=(HB5E.o.set 0 (.I y.ln)).set 1 (.I y.ls)
   simpa using this
  obtain ⟨HBRF,HB6F,HB5F,HXF,HW6⟩:=Hd5 (HBRE.o.keep (ho.kept (S:=fun b=>b=gR) fun b _ e=>by rw [e];exact HNR.o)) (HB6E.o.keep (ho.kept (S:=fun b=>b=p6) fun b _ e=>by rw [e];exact HN65.o)) hb5 (show Ext w w6 by rw [hw6];exact (HXE.o.set2 HL5.o _).set2 HL5.o _) hw6;obtain ⟨d0,d1,d2,d3⟩:=hb5.qs4;obtain ⟨c4,c5,c6,c7⟩:=HB6F.o.qs4;clear ho hb5 hw6
  go_upto_region 11 with fail
  rw [←HW6.o];clear m0 m1 m2 m3 m4 m5 m6 m7
  go_wp2_with fail
  refine (HC2.o _).mono ?_;rintro e7 w7 ⟨rfl,hx7⟩;have HXG:=Hd (HXF.o.trans hx7);have hbr:=HBRF.o.keep (hx7.kept _);have hb5:=HB5F.o.keep (hx7.kept _);have hb6:=HB6F.o.keep (hx7.kept _);obtain ⟨m0,m1,m2,m3⟩:=hb5.qs4;obtain ⟨m4,m5,m6,m7⟩:=hb6.qs4;obtain ⟨r0,r1,r2,r3⟩:=hbr.qs4;have qf:=hbr.frozen;have ql:=hbr.lt;have qf5:=hb5.frozen;have ql5:=hb5.lt;have hn1:=HNR.o;have hn2:=HN65.o;clear hx7 hbr hb5 hb6;by_cases h2:z2 > 0
  ·have HF:=Hd (show Cc a b=⟨y.ln,y.ls,y.hn,y.hs⟩ by rw [HJ.o,if_neg AC,if_neg AC,show decide (z1<0)=true from decide_eq_true IL,show decide (z2 > 0)=true from decide_eq_true AA];rfl)
   go_wp2_with fail
   rw [HF.o];refine bodyPost_ret (v:=(Rq y)) (by simp [results,results42,go_sem,r0,r1,r2,r3]) rfl ⟨rfl,?_⟩;exact SM
  ·have HF:=Hd (show Cc a b=⟨y.ln,y.ls,x.hn,x.hs⟩ by rw [HJ.o,if_neg AC,if_neg AC,show decide (z1<0)=true from decide_eq_true IL,show decide (z2 > 0)=false from decide_eq_false AA];rfl)
   go_wp2_with fail
   rw [HF.o];refine bodyPost_ret (v:=.agg #[.I y.ln,.I y.ls,.I x.hn,.I x.hs]) Gm rfl ⟨rfl,?_⟩;exact SP
 ·have H1:=Hd h1;have HXF:=HXE;have HBRF:=HBRE;have HB5F:=HB5E;have HB6F:=HB6E
  go_wp2_with fail
  refine (HC2.o _).mono ?_;rintro e7 w7 ⟨rfl,hx7⟩;have HXG:=Hd (HXF.o.trans hx7);have hbr:=HBRF.o.keep (hx7.kept _);have hb5:=HB5F.o.keep (hx7.kept _);have hb6:=HB6F.o.keep (hx7.kept _);obtain ⟨m0,m1,m2,m3⟩:=hb5.qs4;obtain ⟨m4,m5,m6,m7⟩:=hb6.qs4;obtain ⟨r0,r1,r2,r3⟩:=hbr.qs4;have qf:=hbr.frozen;have ql:=hbr.lt;have qf5:=hb5.frozen;have ql5:=hb5.lt;have hn1:=HNR.o;have hn2:=HN65.o;clear hx7 hbr hb5 hb6;by_cases h2:z2 > 0
  ·have HF:=Hd (show Cc a b=⟨x.ln,x.ls,y.hn,y.hs⟩ by rw [HJ.o,if_neg AC,if_neg AC,show decide (z1<0)=false from decide_eq_false IL,show decide (z2 > 0)=true from decide_eq_true AA];rfl)
   go_wp2_with fail
   rw [HF.o];refine bodyPost_ret (v:=.agg #[.I x.ln,.I x.ls,.I y.hn,.I y.hs]) (by simp [results,results42,go_sem,r0,r1,r2,r3]) rfl ⟨rfl,?_⟩;exact SM
  ·have HF:=Hd (show Cc a b=⟨x.ln,x.ls,x.hn,x.hs⟩ by rw [HJ.o,if_neg AC,if_neg AC,show decide (z1<0)=false from decide_eq_false IL,show decide (z2 > 0)=false from decide_eq_false AA];rfl)
   go_wp2_with fail
   rw [HF.o];refine bodyPost_ret (v:=(Rq x)) Gm rfl ⟨rfl,?_⟩;exact SP

theorem EeA(l h:Int)(w:World):Cl 119 #[.I l,.I h] w (Cd w (CQ l h)):=by
 by_cases hl:h<l
 ·have HF:=Hd (show CQ l h=(1,0) by unfold CQ;rw [if_pos hl])
  go_enter func119,ntmps119
  go_wp2;rw [HF.o];refine bodyPost_ret (v:=.agg #[.I 1,.I 0]) (by simp [results,results119,go_sem]) rfl ⟨rfl,?_⟩;exact (Ext.refl w).alloc _
 ·have HF:=Hd (show CQ l h=(l,h) by unfold CQ;rw [if_neg hl])
  go_enter func119,ntmps119
  go_wp2;rw [HF.o];refine bodyPost_ret (v:=.agg #[.I l,.I h]) (by simp [results,results119,go_sem]) rfl ⟨rfl,?_⟩;exact (Ext.refl w).alloc _
theorem PP(h:qP:=by
 have HF:=Hd (show CZ (l,h) (l',h')=(1,0) by unfold CZ CQ;rw [if_pos (by simp only;omega)])
 go_enter func77,ntmps77
 go_wp2;rw [HF.o];refine bodyPost_ret (v:=.agg #[.I 1,.I 0]) (by simp [results,results77,go_sem]) rfl ⟨rfl,?_⟩;exact (exbb w).alloc _):qP:=h
theorem Ms(l h l' h':Int)(w:World):Cl 77 #[.agg #[.I l,.I h],.agg #[.I l',.I h']] w (Cd w (CZ (l,h) (l',h'))):=by
 by_cases h1:h<l
 ·exact PP
 by_cases h2:h'<l'
 ·exact PP
 ·have HF:=Hd (show CZ (l,h) (l',h')=CQ (max l l') (min h h') from rfl);obtain ⟨⟨u1,u2⟩,hu⟩:=eqx (CQ (max l l') (min h h'));have HN:=Hd (show ∀ w',Cl 119 #[.I (max l l'),.I (min h h')] w' (Cd w' (u1,u2)) from fun w'=>by rw [hu];exact EeA _ _ w');rw [←hu] at HF;clear hu
  go_enter func77,ntmps77
  go_wp2_with fail
  refine (HN.o _).mono ?_;rintro e1 w1 ⟨rfl,hx1⟩;have hb2:=(ICA w (.cells #[.I l,.I h] 36) (.cells #[.I l',.I h'] 36) 36 #[.I 0,.I 0]).keep (hx1.kept _);obtain ⟨r0,r1⟩:=hb2.qs2;have qf:=hb2.frozen;have ql:=hb2.lt;have HX:=Hd ((excc w).trans hx1);clear hx1 hb2
  go_wp2_with fail
  rw [HF.o];refine bodyPost_ret (v:=.agg #[.I u1,.I u2]) (by simp [results,results77,go_sem,r0,r1]) rfl ⟨rfl,?_⟩;exact BT
end Go.Proofs.YtidacnalcdhckaaGreatDoor
