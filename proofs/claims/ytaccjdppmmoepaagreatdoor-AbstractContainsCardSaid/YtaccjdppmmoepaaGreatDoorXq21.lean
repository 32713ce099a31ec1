/- Lemmas. No conditions. -/
import Derived.Test.YtaccjdppmmoepaaGreatDoorXq20
import Derived.Deep.DeepCutAuto
set_option maxRecDepth 100000
set_option maxHeartbeats 4000000
namespace Go.Proofs.YtaccjdppmmoepaaGreatDoor
open Go Go.RowKit Tryz
variable {qP:Prop}{A:OA}{K c g:Nat}{l:List Int}{w J:World}

def ZcP(ws:World)(x:BA)(F:Gz)(J:World)(v:Value):Prop:=∃ g:Nat,v=.slice (some ⟨g,0,none⟩) 1 1/\ws.heap.size<=g/\(F 1008=false->Blk J g 9 #[.string x])
def ZcA(M n:Nat)(l:List BA)(v:Value)(F:Gz)(J:World):Prop:=∃ (A:OA) (c:Nat),v=.slice A n c/\F 1008=true/\OwnSs J M A c l
theorem MR(h:qP:=by
 exfalso;have:=(HAL.o b h).1;have:=HGM.o;omega):qP:=h
theorem RS(h:qP:=by
 rcases hm with ⟨rfl,h|h⟩|⟨rfl,h⟩
 ·exact MR
 ·exfalso;have:=HGM5.o;omega
 ·exact hk10):qP:=h
theorem Sm(h:qP:=by
 have:=HU5.o;have:=HW9.o;have:=HWS.o
 rcases hm with ⟨_,h|h⟩|⟨_,h⟩
 ·have:=(HAL.o b h).1;omega
 ·omega
 ·omega):qP:=h
theorem To(h:qP:=by
 exfalso;exact Sm):qP:=h
theorem P3(h:qP:=by
 exfalso;have:=(h3.1.blk hb).1;have:=HGM.o;omega):qP:=h
theorem QL(h:qP:=by
 exfalso;have:=(HAL.o b hb).1;have:=HGM.o;omega):qP:=h
theorem QP(h:qP:=by
 rw [List.length_append,List.map_append];exact hown9):qP:=h
theorem Ob(h:qP:=by have h':g5<w9.heap.size:=h;omega):qP:=h
theorem D5A(a b:Abs)(A D B E:OA)(c e cb eb:Nat)(w:World)(S:NP)(hA:Strs w S A a.cols)(hD:RDeps w S D a.deps)(hB:Strs w S B b.cols)(hE:RDeps w S E b.deps)(hz:AbN 20000 a)(hy:AbN 20000 b) :
  Cl 27 #[(Aq a A c D e),(Aq b B cb E eb)] w (Eh w S (Fk a b)):=by
 obtain ⟨w0,hw0⟩:=eqx (((w.alloc (.cells (Ap a A c D e) 36)).alloc (.cells (Ap b B cb E eb) 36)).alloc (.cells Az 36));obtain ⟨ga,hga⟩:=eqx w.heap.size;obtain ⟨gb,hgb⟩:=eqx (w.heap.size+1);obtain ⟨g4,hg4⟩:=eqx (w.heap.size+2);obtain ⟨N,hN⟩:=eqx (w.heap.size+3);have hx0:Ext w w0:=CC;obtain ⟨HBA,HBB,HB4⟩:=Hd3 (show Blk w0 ga 36 (Ap a A c D e) by rw [hw0,hga];exact (Blk.new _ _ _).keep ((exbb _).kept _)) (show Blk w0 gb 36 (Ap b B cb E eb) by rw [hw0,hgb];exact (H6A _ _ _ _).keep ((exaa _).kept _)) (show Blk w0 g4 36 Az by rw [hw0,hg4];exact ICA _ _ _ _ _);have hs0:w0.heap.size=w.heap.size+3:=(by rw [hw0];simp);obtain ⟨HW0,HGA,HGB,HG4,HX0,HNN,HGG⟩:=Hd7 hw0 hga hgb hg4 hx0 (show N=w0.heap.size by omega) (show g4<N/\w.heap.size<=g4/\w.heap.size+3=N by omega);obtain ⟨Ta,hTa⟩:∃ z:Nat->Prop,z=λb=>S b/\b<w.heap.size:=⟨_,rfl⟩;have HTL:=Hd (show ∀ b,Ta b->b<w.heap.size from λb hb=>by rw [hTa] at hb;exact hb.2);have HTA:=Hd hTa;have hA1:=hA.mono (T:=Ta) λi hi hs=>BV;have hD1:=hD.mono (T:=Ta) λi hi hs=>BV;have hB1:=hB.mono (T:=Ta) λi hi hs=>BV;have hE1:=hE.mono (T:=Ta) λi hi hs=>BV;obtain ⟨ca,hca⟩:=eqx (AX a);obtain ⟨cb',hcb⟩:=eqx (AX b);obtain ⟨HCA,HCB,HZA,HZB,HAC,HBC⟩:=Hd6 (show ∀ J,Ext w0 J->Cl 50 #[(Aq a A c D e)] J (Eh J Ta ca) from λJ hw'=>by rw [hca];exact EG a A D c e J Ta (hA1.keep ((hx0.trans hw').kept _)) (hD1.keep ((hx0.trans hw').kept _)) (hz.mono AB)) (show ∀ J,Ext w0 J->Cl 50 #[(Aq b B cb E eb)] J (Eh J Ta cb') from λJ hw'=>by rw [hcb];exact EG b B E cb eb J Ta (hB1.keep ((hx0.trans hw').kept _)) (hE1.keep ((hx0.trans hw').kept _)) (hy.mono AB)) (show AbN 20000 ca by rw [hca];exact hz.can) (show AbN 20000 cb' by rw [hcb];exact hy.can) hca hcb;clear hw0 hga hgb hg4 hN hx0 hs0 hTa hA hD hB hE hA1 hD1 hB1 hE1 hca hcb hz hy
 go_enter func27,ntmps27
 go_upto_region 1 with fail
 rw [<-HW0.o,<-HG4.o,<-HGB.o,<-HGA.o];refine wp_region_lit ?_;refine AJ rfl 36 _ rfl ga rfl HBA.o AS AH ?_
 go_wp2_with fail
 refine (HCA.o _ (Ext.refl _)).mono ?_;rintro ee wt ⟨A2,c2,D2,e2,rfl,hab,a8⟩;rename_i K1 hK1 K2 hK2;refine hK2 _ _ ?_;refine Ag rfl rfl ?_;obtain ⟨g2,hg⟩:=eqx wt.heap.size;rw [<-hg];refine AM rfl 36 _ _ rfl g2 (Ap ca A2 c2 D2 e2) rfl rfl 36 _ (GK hg) AH rfl AD ?_;intro w1 hb ho;refine hK1 _ _ ?_;have hxo:Ext wt w1:=(exaa wt).only ho Ez;obtain ⟨HX1,HG2N,HB21,HAB21⟩:=Hd4 (a8.trans hxo) (show N<=g2 by rw [hg,HNN.o];exact a8.size) hb ((hab.mono (T:=λb=>Ta b\/N<=b) λb _ h=>by rw [HNN.o];exact h).keep (hxo.kept _));clear hK1 hK2 hb ho hxo a8 hab hg
 go_upto_region 2 with fail
 refine wp_region_lit ?_;refine AJ rfl 36 _ rfl gb rfl (HBB.o.keep (HX1.o.kept _)) AS AH ?_
 go_wp2_with fail
 refine (HCB.o _ HX1.o).mono ?_;rintro ee wt ⟨A3,c3,D3,e3,rfl,hab,a8⟩;rename_i K1 hK1 K2 hK2;refine hK2 _ _ ?_;refine Ag rfl rfl ?_;obtain ⟨g3,hg⟩:=eqx wt.heap.size;rw [<-hg];refine AM rfl 36 _ _ rfl g3 (Ap cb' A3 c3 D3 e3) rfl rfl 36 _ (GK hg) AH rfl AD ?_;intro w9 hb ho;refine hK1 _ _ ?_;have hxo:Ext wt w9:=(exaa wt).only ho Ez;have HX19:=Hd (a8.trans hxo);have HX09:=Hd (HX1.o.trans HX19.o);obtain ⟨HX9,HB29,HB39,HAB2,HAB3,HSZ9,HB49⟩:=Hd7 (HX0.o.trans HX09.o) (HB21.o.keep (HX19.o.kept _)) hb (HAB21.o.keep (HX19.o.kept _)) ((hab.mono (T:=λb=>Ta b\/N<=b) λb _ h=>h.imp id λh=>by rw [HNN.o];have:=HX1.o.size;omega).keep (hxo.kept _)) (show N<=w9.heap.size by rw [HNN.o];exact HX09.o.size) (HB4.o.keep (HX09.o.kept _));clear hK1 hK2 hb ho hxo a8 hab hg HB21 HAB21;obtain ⟨k5,hk5⟩:=eqx (bits .or .i64 ca.kinds cb'.kinds);obtain ⟨b5,hb5⟩:=eqx (bits .or .i64 ca.bo cb'.bo);obtain ⟨U,htj⟩:=eqx (BW ca.tx cb'.tx);obtain ⟨Y,hnj⟩:=eqx (Cc ca.nu cb'.nu);obtain ⟨d1,hd1⟩:=eqx ((Cb (ca.dl,ca.dh) (cb'.dl,cb'.dh)).1);obtain ⟨d2,hd2⟩:=eqx ((Cb (ca.dl,ca.dh) (cb'.dl,cb'.dh)).2);obtain ⟨r1,hr1⟩:=eqx ((Cb (ca.rl,ca.rh) (cb'.rl,cb'.rh)).1);obtain ⟨r2,hr2⟩:=eqx ((Cb (ca.rl,ca.rh) (cb'.rl,cb'.rh)).2);obtain ⟨er,her⟩:=eqx (ca.errs||cb'.errs);have hor1:bits .or .i64 ca.kinds cb'.kinds=k5:=hk5.symm;have hor2:bits .or .i64 ca.bo cb'.bo=b5:=hb5.symm;have hza:=HZA.o;have hzb:=HZB.o;obtain ⟨HJS,HJI,HJD,HJR,HEQ,HER⟩:=Hd6 (show ∀ J,Cl 80 #[(Sq ca.tx),(Sq cb'.tx)] J (G0 J U) from λJ=>by rw [htj];exact YJ ca.tx cb'.tx hza.1 hza.2.1 hzb.1 hzb.2.1 J) (show ∀ J,Ext w9 J->Cl 81 #[(Rq ca.nu),(Rq cb'.nu)] J (Em J Y) from λJ hw'=>by rw [hnj];exact Yf ca.nu cb'.nu J) (show ∀ J,Cl 82 #[.agg #[.I ca.dl,.I ca.dh],.agg #[.I cb'.dl,.I cb'.dh]] J (Cd J (d1,d2)) from λJ=>by rw [hd1,hd2];exact Qo _ _ _ _ J) (show ∀ J,Cl 82 #[.agg #[.I ca.rl,.I ca.rh],.agg #[.I cb'.rl,.I cb'.rh]] J (Cd J (r1,r2)) from λJ=>by rw [hr1,hr2];exact Qo _ _ _ _ J) (show F7 ca cb'=⟨k5,U,Y,d1,d2,b5,r1,r2,EE ca cb',BJ ca cb',er⟩ by rw [hk5,hb5,htj,hnj,hd1,hd2,hr1,hr2,her];rfl) her;clear hk5 hb5 htj hnj hd1 hd2 hr1 hr2 her hza hzb;have m0:=HB29.o.q0;have m12:=HB29.o.q12;have m17:w9.cell? ⟨g2,17,none⟩=some (.bool ca.errs):=HB29.o.q17;have n0:=HB39.o.q0;have n12:=HB39.o.q12;have n17:w9.cell? ⟨g3,17,none⟩=some (.bool cb'.errs):=HB39.o.q17;obtain ⟨g5,hg5⟩:=eqx w9.heap.size;have HU5:=Hd (show w9.heap.size<=g5 by rw [hg5];exact Al);have HG5:=Hd hg5;obtain ⟨ea,hea⟩:=eqx ca.errs;obtain ⟨ec,hec⟩:=eqx cb'.errs;rw [<-hea] at m17;rw [<-hec] at n17;have HEE:=Hd (show er=(ea||ec) by rw [HER.o,hea,hec]);clear hea hec hg5
 go_frame
 go_upto_region 3 with fail
 go_cut [7] (λv wx=>v=.pointer (some ⟨g5,0,none⟩)/\Ext w9 wx/\Blk wx g5 36 #[.I k5,.I 0,.I 0,.I 0,.string ⟨#[]⟩,.string ⟨#[]⟩,.I 0,.I 0,.I 0,.I 0,.I 0,.I 0,.I b5,.I 0,.I 0,.slice none 0 0,.slice none 0 0,.bool er])
 case first =>
  cases ea
  ·skip
   go_wp2_with (refine Ag rfl rfl ?_;rw [<-HG5.o];refine AM rfl 36 _ _ rfl g5 #[.I k5,.I 0,.I 0,.I 0,.string ⟨#[]⟩,.string ⟨#[]⟩,.I 0,.I 0,.I 0,.I 0,.I 0,.I 0,.I b5,.I 0,.I 0,.slice none 0 0,.slice none 0 0,.bool ec] rfl rfl 36 _ (GK HG5.o) AH rfl AD ?_;intro wv hbv hov)
   go_meet
   case rel=>exact ⟨rfl,(exaa w9).only hov HU5.o,by rw [show er=ec from by simpa using HEE.o];exact hbv⟩
  ·skip
   go_wp2_with (refine Ag rfl rfl ?_;rw [<-HG5.o];refine AM rfl 36 _ _ rfl g5 #[.I k5,.I 0,.I 0,.I 0,.string ⟨#[]⟩,.string ⟨#[]⟩,.I 0,.I 0,.I 0,.I 0,.I 0,.I 0,.I b5,.I 0,.I 0,.slice none 0 0,.slice none 0 0,.bool true] rfl rfl 36 _ (GK HG5.o) AH rfl AD ?_;intro wv hbv hov)
   go_meet
   case rel=>exact ⟨rfl,(exaa w9).only hov HU5.o,by rw [show er=true from by simpa using HEE.o];exact hbv⟩
 case rest =>
 obtain ⟨wa,rfl⟩:=eqx wc;obtain ⟨rfl,hxa,Z⟩:=hcut;have HXwa:=Hd hxa;have HBwa:=Hd Z;clear hxa Z m0 m12 m17 n0 n12 n17 HEE ea ec
 go_upto_region 4 with fail
 have Z:=HB29.o.keep (HXwa.o.kept _);have hbb:=HB39.o.keep (HXwa.o.kept _);have m1:wa.cell? ⟨g2,1,none⟩=some (.I ca.tx.least):=Z.q1;have n1:wa.cell? ⟨g3,1,none⟩=some (.I cb'.tx.least):=hbb.q1;have m2:wa.cell? ⟨g2,2,none⟩=some (.I ca.tx.most):=Z.q2;have n2:wa.cell? ⟨g3,2,none⟩=some (.I cb'.tx.most):=hbb.q2;have m3:wa.cell? ⟨g2,3,none⟩=some (.I ca.tx.cls):=Z.q3;have n3:wa.cell? ⟨g3,3,none⟩=some (.I cb'.tx.cls):=hbb.q3;have m4:wa.cell? ⟨g2,4,none⟩=some (.string ca.tx.b):=Z.q4;have n4:wa.cell? ⟨g3,4,none⟩=some (.string cb'.tx.b):=hbb.q4;have m5:wa.cell? ⟨g2,5,none⟩=some (.string ca.tx.e):=Z.q5;have n5:wa.cell? ⟨g3,5,none⟩=some (.string cb'.tx.e):=hbb.q5;clear Z hbb
 go_wp2_with fail
 refine (HJS.o _).mono ?_;rintro ee wt ⟨rfl,a8⟩;have HXT:=Hd (HXwa.o.trans a8);have O:=Hd (HBwa.o.keep (a8.kept _));clear a8 m1 n1 m2 n2 m3 n3 m4 n4 m5 n5;have rf:=O.o.frozen;have rl:=O.o.lt;have r1:wt.cell? ⟨g5,1,none⟩=some (.I 0):=O.o.q1;have r2:wt.cell? ⟨g5,2,none⟩=some (.I 0):=O.o.q2;have r3:wt.cell? ⟨g5,3,none⟩=some (.I 0):=O.o.q3;have r4:wt.cell? ⟨g5,4,none⟩=some (.string ⟨#[]⟩):=O.o.q4;have r5:wt.cell? ⟨g5,5,none⟩=some (.string ⟨#[]⟩):=O.o.q5
 go_upto_region 5 with fail
 obtain ⟨wb,hws⟩:=eqx ((((((wt.setCell ⟨g5,1,none⟩ (.I U.least)).setCell ⟨g5,2,none⟩ (.I U.most)).setCell ⟨g5,3,none⟩ (.I U.cls)).setCell ⟨g5,4,none⟩ (.string U.b)).setCell ⟨g5,5,none⟩ (.string U.e)));rw [<-hws];have HXwb:=Hd (show Ext w9 wb by rw [hws];exact (((((HXT.o.set2 HU5.o _).set2 HU5.o _).set2 HU5.o _).set2 HU5.o _).set2 HU5.o _));have HBwb:=Hd (show Blk wb g5 36 #[.I k5,.I U.least,.I U.most,.I U.cls,.string U.b,.string U.e,.I 0,.I 0,.I 0,.I 0,.I 0,.I 0,.I b5,.I 0,.I 0,.slice none 0 0,.slice none 0 0,.bool er] by rw [hws];simpa using (((((O.o.set 1 (.I U.least)).set 2 (.I U.most)).set 3 (.I U.cls)).set 4 (.string U.b)).set 5 (.string U.e)));clear hws rf rl HXT O r1 r2 r3 r4 r5;have Z:=HB29.o.keep (HXwb.o.kept _);have hbb:=HB39.o.keep (HXwb.o.kept _);have m6:wb.cell? ⟨g2,6,none⟩=some (.I ca.nu.ln):=Z.q6;have n6:wb.cell? ⟨g3,6,none⟩=some (.I cb'.nu.ln):=hbb.q6;have m7:wb.cell? ⟨g2,7,none⟩=some (.I ca.nu.ls):=Z.q7;have n7:wb.cell? ⟨g3,7,none⟩=some (.I cb'.nu.ls):=hbb.q7;have m8:wb.cell? ⟨g2,8,none⟩=some (.I ca.nu.hn):=Z.q8;have n8:wb.cell? ⟨g3,8,none⟩=some (.I cb'.nu.hn):=hbb.q8;have m9:wb.cell? ⟨g2,9,none⟩=some (.I ca.nu.hs):=Z.q9;have n9:wb.cell? ⟨g3,9,none⟩=some (.I cb'.nu.hs):=hbb.q9;clear Z hbb
 go_wp2_with fail
 refine (HJI.o _ HXwb.o).mono ?_;rintro ee wt ⟨rfl,a8⟩;have HXT:=Hd (HXwb.o.trans a8);have O:=Hd (HBwb.o.keep (a8.kept _));clear a8 m6 n6 m7 n7 m8 n8 m9 n9;have rf:=O.o.frozen;have rl:=O.o.lt;have r6:wt.cell? ⟨g5,6,none⟩=some (.I 0):=O.o.q6;have r7:wt.cell? ⟨g5,7,none⟩=some (.I 0):=O.o.q7;have r8:wt.cell? ⟨g5,8,none⟩=some (.I 0):=O.o.q8;have r9:wt.cell? ⟨g5,9,none⟩=some (.I 0):=O.o.q9
 go_upto_region 6 with fail
 obtain ⟨wd,hws⟩:=eqx (((((wt.setCell ⟨g5,6,none⟩ (.I Y.ln)).setCell ⟨g5,7,none⟩ (.I Y.ls)).setCell ⟨g5,8,none⟩ (.I Y.hn)).setCell ⟨g5,9,none⟩ (.I Y.hs)));rw [<-hws];have HXwd:=Hd (show Ext w9 wd by rw [hws];exact ((((HXT.o.set2 HU5.o _).set2 HU5.o _).set2 HU5.o _).set2 HU5.o _));have HBwd:=Hd (show Blk wd g5 36 #[.I k5,.I U.least,.I U.most,.I U.cls,.string U.b,.string U.e,.I Y.ln,.I Y.ls,.I Y.hn,.I Y.hs,.I 0,.I 0,.I b5,.I 0,.I 0,.slice none 0 0,.slice none 0 0,.bool er] by rw [hws];simpa using ((((O.o.set 6 (.I Y.ln)).set 7 (.I Y.ls)).set 8 (.I Y.hn)).set 9 (.I Y.hs)));clear hws rf rl HXT O r6 r7 r8 r9;have Z:=HB29.o.keep (HXwd.o.kept _);have hbb:=HB39.o.keep (HXwd.o.kept _);have m10:wd.cell? ⟨g2,10,none⟩=some (.I ca.dl):=Z.q10;have n10:wd.cell? ⟨g3,10,none⟩=some (.I cb'.dl):=hbb.q10;have m11:wd.cell? ⟨g2,11,none⟩=some (.I ca.dh):=Z.q11;have n11:wd.cell? ⟨g3,11,none⟩=some (.I cb'.dh):=hbb.q11;clear Z hbb
 go_wp2_with fail
 refine (HJD.o _).mono ?_;rintro ee wt ⟨rfl,a8⟩;have HXT:=Hd (HXwd.o.trans a8);have O:=Hd (HBwd.o.keep (a8.kept _));clear a8 m10 n10 m11 n11;have rf:=O.o.frozen;have rl:=O.o.lt;have r10:wt.cell? ⟨g5,10,none⟩=some (.I 0):=O.o.q10;have r11:wt.cell? ⟨g5,11,none⟩=some (.I 0):=O.o.q11
 go_upto_region 7 with fail
 obtain ⟨we,hws⟩:=eqx (((wt.setCell ⟨g5,10,none⟩ (.I d1)).setCell ⟨g5,11,none⟩ (.I d2)));rw [<-hws];have HXwe:=Hd (show Ext w9 we by rw [hws];exact ((HXT.o.set2 HU5.o _).set2 HU5.o _));have HBwe:=Hd (show Blk we g5 36 #[.I k5,.I U.least,.I U.most,.I U.cls,.string U.b,.string U.e,.I Y.ln,.I Y.ls,.I Y.hn,.I Y.hs,.I d1,.I d2,.I b5,.I 0,.I 0,.slice none 0 0,.slice none 0 0,.bool er] by rw [hws];simpa using ((O.o.set 10 (.I d1)).set 11 (.I d2)));clear hws rf rl HXT O r10 r11;have Z:=HB29.o.keep (HXwe.o.kept _);have hbb:=HB39.o.keep (HXwe.o.kept _);have m13:we.cell? ⟨g2,13,none⟩=some (.I ca.rl):=Z.q13;have n13:we.cell? ⟨g3,13,none⟩=some (.I cb'.rl):=hbb.q13;have m14:we.cell? ⟨g2,14,none⟩=some (.I ca.rh):=Z.q14;have n14:we.cell? ⟨g3,14,none⟩=some (.I cb'.rh):=hbb.q14;clear Z hbb
 go_wp2_with fail
 refine (HJR.o _).mono ?_;rintro ee wt ⟨rfl,a8⟩;have HXT:=Hd (HXwe.o.trans a8);have O:=Hd (HBwe.o.keep (a8.kept _));clear a8 m13 n13 m14 n14;have rf:=O.o.frozen;have rl:=O.o.lt;have r13:wt.cell? ⟨g5,13,none⟩=some (.I 0):=O.o.q13;have r14:wt.cell? ⟨g5,14,none⟩=some (.I 0):=O.o.q14
 go_upto_region 8 with fail
 obtain ⟨w10,hws⟩:=eqx (((wt.setCell ⟨g5,13,none⟩ (.I r1)).setCell ⟨g5,14,none⟩ (.I r2)));rw [<-hws];have HXw10:=Hd (show Ext w9 w10 by rw [hws];exact ((HXT.o.set2 HU5.o _).set2 HU5.o _));have HBw10:=Hd (show Blk w10 g5 36 #[.I k5,.I U.least,.I U.most,.I U.cls,.string U.b,.string U.e,.I Y.ln,.I Y.ls,.I Y.hn,.I Y.hs,.I d1,.I d2,.I b5,.I r1,.I r2,.slice none 0 0,.slice none 0 0,.bool er] by rw [hws];simpa using ((O.o.set 13 (.I r1)).set 14 (.I r2)));clear hws rf rl HXT O r13 r14;have HX10:=Hd HXw10.o;have HB5:=Hd HBw10.o;obtain ⟨rj,hrj⟩:∃ z:Abs,z=⟨k5,U,Y,d1,d2,b5,r1,r2,EE ca cb',BJ ca cb',er⟩:=⟨_,rfl⟩;obtain ⟨HRJ,HEJ,HB210,HB310,HA210,HA310,G2L,G3L⟩:=Hd8 hrj (show F7 ca cb'=rj by rw [HEQ.o,hrj]) (HB29.o.keep (HX10.o.kept _)) (HB39.o.keep (HX10.o.kept _)) ((HAB2.o.mono (T:=S9 Ta N w9) λi hi hs=>⟨hs,hi⟩).keep (HX10.o.kept _)) ((HAB3.o.mono (T:=S9 Ta N w9) λi hi hs=>⟨hs,hi⟩).keep (HX10.o.kept _)) (show g2<w9.heap.size from HB29.o.lt) (show g3<w9.heap.size from HB39.o.lt);have HN2:=Hd (show g2≠g5 by have:=G2L.o;have:=HU5.o;omega);have HN3:=Hd (show g3≠g5 by have:=G3L.o;have:=HU5.o;omega);obtain ⟨fa,hfa⟩:=eqx (bt ca.kinds 5);obtain ⟨fb,hfb⟩:=eqx (bt cb'.kinds 5);obtain ⟨HHA,HHB,HFA0,HFB0⟩:=Hd4 (show ∀ J,Cl 42 #[(Aq ca A2 c2 D2 e2),.I 5] J (Ae J fa) from λJ=>by rw [hfa];exact IC ca A2 D2 c2 e2 5 AA J) (show ∀ J,Cl 42 #[(Aq cb' A3 c3 D3 e3),.I 5] J (Ae J fb) from λJ=>by rw [hfb];exact IC cb' A3 D3 c3 e3 5 AA J) hfa hfb;clear hrj hfa hfb;refine wp_region_lit ?_;refine AJ rfl 36 _ rfl g2 rfl HB210.o AS AH ?_
 go_wp2_with fail
 refine (HHA.o _).mono ?_;rintro ee wz ⟨rfl,hxz⟩;obtain ⟨HXZ,HX10Z,HB5Z,HB2Z,HB3Z,HA2Z,HA3Z⟩:=Hd7 hxz (HX10.o.trans hxz) (HB5.o.keep (hxz.kept _)) (HB210.o.keep (hxz.kept _)) (HB310.o.keep (hxz.kept _)) (HA210.o.keep (hxz.kept _)) (HA310.o.keep (hxz.kept _));clear hxz
 go_upto_if 57 with fail
 go_cut [] (λwx=>JoR g5 N Ta w9 w10 rj wx)
 case first =>
  cases fa
  ·have HJC:=Hd (show EE ca cb'=cb'.cols by unfold EE;rw [if_pos HFA0.o.symm]);have HJD:=Hd (show BJ ca cb'=cb'.deps by unfold BJ;rw [if_pos HFA0.o.symm]);have m15:wz.cell? ⟨g3,15,none⟩=some (.slice A3 cb'.cols.length c3):=HB3Z.o.q15;have m16:wz.cell? ⟨g3,16,none⟩=some (.slice D3 cb'.deps.length e3):=HB3Z.o.q16;have q15:wz.cell? ⟨g5,15,none⟩=some (.slice none 0 0):=HB5Z.o.q15;have q16:wz.cell? ⟨g5,16,none⟩=some (.slice none 0 0):=HB5Z.o.q16;have qf:=HB5Z.o.frozen;have ql:=HB5Z.o.lt;have hne:g3≠g5:=HN3.o;have hne':g5≠g3:=λh=>hne h.symm;go_wp2
   go_meet
   case rel =>
    have hu5:=HU5.o;have hk:Kept (λb=>b<w9.heap.size) wz ((wz.setCell ⟨g5,15,none⟩ (.slice A3 cb'.cols.length c3)).setCell ⟨g5,16,none⟩ (.slice D3 cb'.deps.length e3)):=((Kept.refl _ _).set2 (λh=>Ob)).set2 (λh=>Ob);refine ⟨A3,c3,D3,e3,?_,?_,(HX10Z.o.set2 hu5 _).set2 hu5 _⟩
    ·rw [HRJ.o,HJC.o,HJD.o]
     simpa using (HB5Z.o.set 15 (.slice A3 cb'.cols.length c3)).set 16 (.slice D3 cb'.deps.length e3)
    ·exact ((HA3Z.o.keep (hk.mono λb _ hb=>hb.2)).mono λb _ hb=>.inl hb).tov NV O3
  ·go_upto_region 11 with fail
   refine wp_region_lit ?_;refine AJ rfl 36 _ rfl g3 rfl HB3Z.o AS AH ?_
   go_wp2_with fail
   refine (HHB.o _).mono ?_;rintro ee wy ⟨rfl,hxy⟩;obtain ⟨HX10Y,HB5Y,HB2Y,HB3Y,HA2Y,HA3Y,HSY⟩:=Hd7 (HX10Z.o.trans hxy) (HB5Z.o.keep (hxy.kept _)) (HB2Z.o.keep (hxy.kept _)) (HB3Z.o.keep (hxy.kept _)) (HA2Z.o.keep (hxy.kept _)) (HA3Z.o.keep (hxy.kept _)) (show w10.heap.size<=wy.heap.size by have:=HXZ.o.size;have:=hxy.size;omega);clear hxy HB5Z HB2Z HB3Z HA2Z HA3Z;cases fb
   ·have HJC:=Hd (show EE ca cb'=ca.cols by unfold EE;rw [if_neg Dk,if_pos HFB0.o.symm]);have HJD:=Hd (show BJ ca cb'=ca.deps by unfold BJ;rw [if_neg Dk,if_pos HFB0.o.symm]);have m15:wy.cell? ⟨g2,15,none⟩=some (.slice A2 ca.cols.length c2):=HB2Y.o.q15;have m16:wy.cell? ⟨g2,16,none⟩=some (.slice D2 ca.deps.length e2):=HB2Y.o.q16;have q15:wy.cell? ⟨g5,15,none⟩=some (.slice none 0 0):=HB5Y.o.q15;have q16:wy.cell? ⟨g5,16,none⟩=some (.slice none 0 0):=HB5Y.o.q16;have qf:=HB5Y.o.frozen;have ql:=HB5Y.o.lt;have hne:g2≠g5:=HN2.o;have hne':g5≠g2:=λh=>hne h.symm;go_wp2
    go_meet
    case rel =>
     have hu5:=HU5.o;have hk:Kept (λb=>b<w9.heap.size) wy ((wy.setCell ⟨g5,15,none⟩ (.slice A2 ca.cols.length c2)).setCell ⟨g5,16,none⟩ (.slice D2 ca.deps.length e2)):=((Kept.refl _ _).set2 (λh=>Ob)).set2 (λh=>Ob);refine ⟨A2,c2,D2,e2,?_,?_,(HX10Y.o.set2 hu5 _).set2 hu5 _⟩
     ·rw [HRJ.o,HJC.o,HJD.o]
      simpa using (HB5Y.o.set 15 (.slice A2 ca.cols.length c2)).set 16 (.slice D2 ca.deps.length e2)
     ·exact ((HA2Y.o.keep (hk.mono λb _ hb=>hb.2)).mono λb _ hb=>.inl hb).tov NV O3
   ·have HJC:=Hd (show EE ca cb'=ca.cols.filter (Aw cb'.cols) by unfold EE;rw [if_neg Dk,if_neg Mo]);have HJD:=Hd (show BJ ca cb'=DK ca.deps cb'++DK cb'.deps ca by unfold BJ;rw [if_neg Dk,if_neg Mo]);have hcl:=HZA.o.2.2.1;obtain ⟨M,hM⟩:=eqx wy.heap.size;have HM:=Hd hM;have HGM:=Hd (show g5<M by rw [hM];exact HB5Y.o.lt);clear hM;go_wp2
    go_loopw [8] (λi wr=>∃ (k:Nat) (A8:OA) (c8:Nat),k<=ca.cols.length/\i=.I k/\Blk wr g5 36 #[.I k5,.I U.least,.I U.most,.I U.cls,.string U.b,.string U.e,.I Y.ln,.I Y.ls,.I Y.hn,.I Y.hs,.I d1,.I d2,.I b5,.I r1,.I r2,.slice A8 ((ca.cols.take k).filter (Aw cb'.cols)).length c8,.slice none 0 0,.bool er]/\OwnSs wr M A8 c8 ((ca.cols.take k).filter (Aw cb'.cols))/\Ext w9 wr/\M<=wr.heap.size) (λi _=>ca.cols.length-(intOf i).toNat)
    case atStart=>exact ⟨0,none,0,AN,rfl,HB5Y.o,OwnSs.nil _ _,HX10Y.o,by rw [HM.o];exact Al⟩
    case round =>
     obtain ⟨k,A8,c8,hk,rfl,hb8,ho8,hx8,hm8⟩:=hrel;obtain ⟨HB8,HO8,HX8⟩:=Hd3 hb8 ho8 hx8;clear hb8 ho8 hx8;have p15:wr.cell? ⟨g2,15,none⟩=some (.slice A2 ca.cols.length c2):=(HB29.o.keep (HX8.o.kept _)).q15;by_cases hlt:k<ca.cols.length
     ·obtain ⟨ws,rfl⟩:=eqx wr;have hst:=(HAB2.o.keep (HX8.o.kept _)).2.2.1;obtain ⟨b1,o1,he1,z1,q0⟩:=hst.at_ hlt;have hb1l:b1<w9.heap.size:=by
       rcases HAB2.o.2.2.1.1 with h0|⟨b',o',h1,h2,h3,_⟩
       ·rw [List.map_eq_nil_iff] at h0;rw [h0] at hlt;simp at hlt
       ·rw [he1] at h1;injection h1 with h1;injection h1 with h1;rw [h1];exact h3
      clear hst;obtain ⟨x,hxx⟩:=eqx (ca.cols[k]);rw [<-hxx] at q0;subst he1;have HFT:=Hd (show (ca.cols.take (k+1)).filter (Aw cb'.cols)=if Aw cb'.cols x=true then (ca.cols.take k).filter (Aw cb'.cols)++[x] else (ca.cols.take k).filter (Aw cb'.cols) by rw [List.take_succ_eq_append_getElem hlt,List.filter_append,<-hxx];cases hq:Aw cb'.cols x<;>simp [hq]);have HXS:=Hd (show x.size<=4294967296 by rw [hxx];exact HAB2.o.2.2.1.2.2 _ (List.getElem_mem hlt));have hfl:((ca.cols.take k).filter (Aw cb'.cols)).length<=ca.cols.length:=Nat.le_trans (List.length_filter_le _ _) BP;obtain ⟨fk,hfk⟩:=eqx ((ca.cols.take k).filter (Aw cb'.cols));rw [<-hfk] at hfl HFT HB8 HO8;obtain ⟨P15,Q0,R15,HB2S,HCT⟩:=Hd5 p15 q0 (show ws.cell? ⟨g3,15,none⟩=some (.slice A3 cb'.cols.length c3) from (HB39.o.keep (HX8.o.kept _)).q15) (HB29.o.keep (HX8.o.kept _)) (show ∀ J,Ext ws J->Cl 45 #[.slice A3 cb'.cols.length c3,.string x] J (SameB J (Aw cb'.cols x)) from λJ hw'=>Y5 A3 c3 cb'.cols x J _ (HAB3.o.keep ((HX8.o.trans hw').kept _)).2.2.1);obtain ⟨mm,hmm⟩:=eqx (Aw cb'.cols x);rw [<-hmm] at HCT HFT;clear hfk hxx hmm q0
      go_upto_region 17 with fail
      clear p15;refine Qa (λ_ _=>False) [] ?_
      iterate 7 refine Qp ?_
      refine Qd (λJ HXW=>HCT.o J HXW.o) ?_;refine Qp ?_;intro V F w11 hR hG;refine Qx ?_;have HXN:=Hd (show Ext ws w11 from hR.ext0 (λ_ _ _ h=>h.elim));clear hR hG;obtain ⟨HX8N,HB8N,HO8N⟩:=Hd3 (HX8.o.trans HXN.o) (HB8.o.keep (HXN.o.kept _)) (HO8.o.ext HXN.o);have hm8n:M<=w11.heap.size:=(by have:=HXN.o.size;omega);cases mm
      ·have HS:=Hd (show (ca.cols.take (k+1)).filter (Aw cb'.cols)=fk by rw [HFT.o];rfl);go_wp2;go_roundw
       case rel=>exact ⟨k+1,A8,c8,AA,AE,by rw [HS.o];exact HB8N.o,by rw [HS.o];exact HO8N.o,HX8N.o,hm8n⟩
       case measure=>simp [intOf];omega
      ·have HS:=Hd (show (ca.cols.take (k+1)).filter (Aw cb'.cols)=fk++[x] by rw [HFT.o];rfl);have HGM5:=Hd (show g5<w11.heap.size from HB8N.o.lt);have hws:=hm8n;obtain ⟨HWS,P15N,Q0N,HAL,HW9,HB1L⟩:=Hd6 hws (HXN.o.cell P15.o) (HXN.o.cell Q0.o) (show ∀ b,ob A8=some b->M<=b/\b<w11.heap.size from λb hb=>HO8N.o.1.blk hb) (show w9.heap.size<=M by rw [HM.o];exact HX10Y.o.size) hb1l
       go_upto_region 19 with fail
       refine B6 AD (λ| 10=>[8,10] | i=>[i]) AD (LZ (λm b=>(m=1008/\(ob A8=some b\/w11.heap.size<=b))\/(m=1010/\b=g5))) (LZ.refl _) (LZ.trans _) (LK [(0,[1010]),(1,[1008,1010]),(2,[1010]),(3,[1010]),(4,[1010]),(5,[1010]),(6,[1010]),(7,[1008,1010]),(8,[1008,1010]),(9,[1010]),(10,[1010])]) gz0 (LK.zero _) ?_;refine Qp ?_;refine Qm (λV F J L hR hN hp hρ zs zg=>by
        have hk10:=hN.o.key (k:=1010) AB;have hb0:=HB8N.o.keep (hR.o.kept0 (S:=λb=>b=g5) λb _ e m hm=>by
         exact RS)
        have m0:J.cell? ⟨g5,15,none⟩=some (.slice A8 fk.length c8):=hb0.q15;clear hk10 hb0;exact Qk) ?_
       refine Qp ?_;refine Qm (λV F J L hR hN hp hρ zs zg=>by
        have hkk:=hR.o.kept0 (S:=λb=>b<w9.heap.size) λb _ hb m hm=>by
         exact To
        have m1:=Kept.cell hkk (HB29.o.lt) P15N.o;clear hkk;exact Qk) ?_
       iterate 2 refine Qp ?_
       refine Qm (λV F J L hR hN hp hρ zs zg=>by
        have hkk:=hR.o.kept0 (S:=λb=>b<w9.heap.size) λb _ hb m hm=>by
         exact To
        have m2:=Kept.cell hkk (HB1L.o) Q0N.o;clear hkk;exact Qk) ?_
       refine Qs (FP λv F J=>ZcP w11 x F J v) (H1A ?_) ?_ ?_
       ·rintro v F wx γ' wy rr ⟨g,h1,h2,h3⟩;refine ⟨g,h1,h2,λhk => ?_⟩;have hk0:F 1008=false:=by
         exact Ib
        refine (h3 hk0).keep (rr.keptS (S:=λb=>b=g) λb _ e m hm => ?_)
        rcases hm with ⟨rfl,h⟩|⟨rfl,h⟩
        ·rw [hk,hk0]
        ·exfalso;have:=HGM5.o;omega
       ·exact G7
       refine Chain.step (FP λv F J=>ZcA M (fk.length+1) (fk++[x]) v F J) AG (H1A ?_) ?_ ?_
       ·rintro v F wx γ' wy rr ⟨A9,c9,h1,h2,h3⟩;refine ⟨A9,c9,h1,rr.done _ h2,⟨Own.keep h3.1 (rr.keptS λb _ hb m hm => ?_),h3.2⟩⟩
        rcases hm with ⟨rfl,h⟩|⟨rfl,h⟩
        ·rw [h2,rr.done _ h2]
        ·exact P3
       ·intro V F J L hR hN hp hρ hc hf hg;refine ⟨rfl,?_⟩;have hk8:=hN.key (k:=1008) AB;have e90:L (.tmp 90)=_:=(hρ 90).trans (hp 1 AB);obtain ⟨g,hv7,hg7,hb7⟩:=hp 7 AB;have e96:=(hρ 96).trans hv7;have hoo:=Own.keep HO8N.o.1 (hR.kept0 (S:=λb=>ob A8=some b) λb _ hb m hm=>by
         rcases hm with ⟨rfl,h⟩|⟨rfl,h⟩
         ·exact hk8
         ·exact QL)
        have hsz:=hR.size;have e0:w11.drew.heap.size=w11.heap.size:=rfl;have hws2:=HWS.o;refine Cw (.tmp 90) (.tmp 96) rfl tiS e90 hoo e96 (Blk.rd (hb7 hk8)) rfl AP AA AB AA ?_;intro A9 c9 w9' hown9 hg9 hat9;refine ⟨F.put 1008,H2A hk8 hg9.os hg9.tape hg9.output hg9.size (λb hb hm=>hg9.block b hb λe=>hm (.inl ⟨rfl,.inl e.symm⟩)),LK.done AB,A9,c9,rfl,AU,⟨?_,λs hs => ?_⟩⟩
        ·exact QP
        ·exact UQ
       refine Qp ?_;refine Qs (λvl F J=>match vl with|[v,_]=>FlG (fk.length+1) (λJ h=>Blk J g5 36 #[.I k5,.I U.least,.I U.most,.I U.cls,.string U.b,.string U.e,.I Y.ln,.I Y.ls,.I Y.hn,.I Y.hs,.I d1,.I d2,.I b5,.I r1,.I r2,h,.slice none 0 0,.bool er]) v F J|_=>True) ?_ ?_ ?_
       ·intro l F wx γ' wy rr h
        match l,h with
        |[],_=>trivial
        |[_],_=>trivial
        | [p,q],h=>exact (by
         obtain ⟨A6,c6,h1,h2,h3⟩:=h;exact ⟨A6,c6,h1,h2.keep (rr.keptS (S:=λb=>b=g5) λb _ e m hm=>by
          rcases hm with ⟨rfl,h|h⟩|⟨rfl,h⟩
          ·exact MR
          ·exfalso;have:=HGM5.o;omega
          ·rw [h3,rr.done _ h3]),rr.done _ h3⟩)
        |_::_::_::_,_=>trivial
       ·intro V F J L hR hN hp hρ zs zg;obtain ⟨A9,c9,hv8,-,-⟩:=hp.o 8 AB;have e97:=(hρ.o 97).trans hv8;have hk10:=hN.o.key (k:=1010) AB;have hb0:=HB8N.o.keep (hR.o.kept0 (S:=λb=>b=g5) λb _ e m hm=>by
         exact RS)
        obtain ⟨HB0,HK,HV8⟩:=Hd3 hb0 hk10 hv8;have q15:J.cell? ⟨g5,15,none⟩=some (.slice A8 fk.length c8):=hb0.q15;have qf:=hb0.frozen;have ql:=hb0.lt;clear hb0 hk10 hv8;refine Qr ?_;refine ⟨F.put 1010,H2A HK.o rfl rfl rfl Y78171d3d0 (λb hb hm=>((Only.refl g5 J).set 15 (.slice A9 (fk.length+1) c9)).block b λe=>hm (.inr ⟨rfl,e⟩)),LK.done AB,A9,c9,HV8.o,?_,AU⟩;have hb1:=HB0.o.set 15 (.slice A9 (fk.length+1) c9)
        simpa using hb1
       intro V F w12 hR hG;refine Qx ?_;obtain ⟨A9,c9,v8,-,ho9⟩:=hG 8 AB;obtain ⟨A7,c7,v8',hb10,-⟩:=hG 10 AB;have hv:=v8.symm.trans v8';injection hv with hv1 hv2 hv3;rw [<-hv1,<-hv3] at hb10;have HB10:=Hd hb10;have HO9:=Hd ho9;have HX12:=Hd (show Ext w9 w12 from Au HX8N.o (hR.buts (S:=λb=>w9.heap.size<=b) (λm b _ hm _=>by
        exact Sm)) (λb hb=>hb))
       have HSZ12:=Hd (show w11.heap.size<=w12.heap.size by have h:=hR.size;exact h);clear hR hG hb10 ho9 v8 v8' hv1 hv2 hv3;go_wp2;go_roundw
       case rel =>
        refine ⟨k+1,A9,c9,AA,AE,?_,?_,HX12.o,by have:=HSZ12.o;omega⟩
        ·rw [HS.o,List.length_append];exact HB10.o
        ·rw [HS.o];exact HO9.o
       case measure=>simp [intOf];omega
     ·obtain rfl:k=ca.cols.length:=AA;obtain ⟨ws,rfl⟩:=eqx wr;have HTK:=Hd (show ca.cols.take ca.cols.length=ca.cols from List.take_length);have hb8:=HB8.o;have ho8:=HO8.o;rw [HTK.o] at hb8 ho8;obtain ⟨HB5L,HOL,HXL,HB2L,HB3L,WSL,G5L⟩:=Hd7 hb8 ho8 HX8.o (HB29.o.keep (HX8.o.kept _)) (HB39.o.keep (HX8.o.kept _)) (show w9.heap.size<=ws.heap.size from HX8.o.size) (show g5<ws.heap.size from HB8.o.lt);obtain ⟨l1,hl1⟩:=eqx (DK ca.deps cb');obtain ⟨l2,hl2⟩:=eqx (DK cb'.deps ca);obtain ⟨HA2S,HA3S,XLOW⟩:=Hd3 ((HAB2.o.mono (T:=S9 Ta N w9) λi hi hs=>⟨hs,hi⟩).keep (HX8.o.kept _)) ((HAB3.o.mono (T:=S9 Ta N w9) λi hi hs=>⟨hs,hi⟩).keep (HX8.o.kept _)) (show ∀ m b,b<w9.heap.size->¬((m=1008/\ws.heap.size<=b)\/(m=1010/\b=g5)) from λm b hb hm=>by have:=WSL.o;have:=HU5.o;rcases hm with ⟨_,h⟩ | ⟨_,h⟩<;>omega);have HFA:=Hd (show ∀ J,Kept (λb=>b<w9.heap.size) ws J->Cl 83 #[.slice D2 ca.deps.length e2,(Aq cb' A3 c3 D3 e3)] J (Jt J (S9 Ta N w9) l1) from λJ hw'=>by
       have h2:=HA2S.o.keep (hw'.mono λb _ hb=>hb.2);have h3:=HA3S.o.keep (hw'.mono λb _ hb=>hb.2);rw [hl1];exact RQ ca.deps cb' D2 A3 D3 e2 c3 e3 J _ _ h2.2.2.2 h3.2.2.1 h3.2.2.2 (HZB.o.mono AB) (by have:=HZA.o.2.2.2.1;omega) (λd hd=>by have:=HZA.o.2.2.2.2 d hd;omega))
      have HFB:=Hd (show ∀ J,Kept (λb=>b<w9.heap.size) ws J->Cl 83 #[.slice D3 cb'.deps.length e3,(Aq ca A2 c2 D2 e2)] J (Jt J (S9 Ta N w9) l2) from λJ hw'=>by
       have h2:=HA2S.o.keep (hw'.mono λb _ hb=>hb.2);have h3:=HA3S.o.keep (hw'.mono λb _ hb=>hb.2);rw [hl2];exact RQ cb'.deps ca D3 A2 D2 e3 c2 e2 J _ _ h3.2.2.2 h2.2.2.1 h2.2.2.2 (HZA.o.mono AB) (by have:=HZB.o.2.2.2.1;omega) (λd hd=>by have:=HZB.o.2.2.2.2 d hd;omega))
      obtain ⟨HL1,HL2,HJD'⟩:=Hd3 (show l1.length<=20000 by rw [hl1];exact Nat.le_trans (List.length_filter_le _ _) HZA.o.2.2.2.1) (show l2.length<=20000 by rw [hl2];exact Nat.le_trans (List.length_filter_le _ _) HZB.o.2.2.2.1) (show BJ ca cb'=l1++l2 by rw [HJD.o,hl1,hl2]);obtain ⟨fs,hfs⟩:=eqx (ca.cols.filter (Aw cb'.cols));rw [<-hfs] at HB5L HOL HJC;have HFS:=Hd (show fs.length<=20000 by rw [hfs];exact Nat.le_trans (List.length_filter_le _ _) HZA.o.2.2.1);clear hb8 ho8 hl1 hl2 hfs HB8 HO8
      go_upto_region 20 with fail
      clear p15;refine B6 AD (λ| 7=>[3,7] | 10=>[8,10] | i=>[i]) AD (LZ (λm b=>(m=1008/\ws.heap.size<=b)\/(m=1010/\b=g5))) (LZ.refl _) (LZ.trans _) (LK [(7,[1008]),(8,[1008]),(10,[1010])]) gz0 (LK.zero _) ?_;refine Qp ?_;refine Qm (λV F J L hR hN hp hρ zs zg=>by
       exact VB) ?_
      apply H9A (LZ.refl _) AG
      ·intro V F J L hR hN hp hρ hc hf hg;refine ⟨rfl,?_⟩;have e6:=hρ 6;(conv at e6=>rhs;whnf);have hkk:=hR.kept0 (S:=λb=>b<w9.heap.size) λb _ hb m hm=>absurd hm (XLOW.o m b hb);have hb1:=HB3L.o.keep (hkk.mono λb _ e=>Is);exact FI rfl e6 hb1 AS AH ⟨rfl,rfl⟩
      ·rfl
      refine Qs (FP λv F J=>FlD ws (S9 Ta N w9) l1 v F J) (H1A ?_) ?_ ?_
      ·exact U5
      ·exact SU
      refine Qp ?_;refine Qm (λV F J L hR hN hp hρ zs zg=>by
       exact UK) ?_
      apply H9A (LZ.refl _) AG
      ·intro V F J L hR hN hp hρ hc hf hg;refine ⟨rfl,?_⟩;have e5:=hρ 5;(conv at e5=>rhs;whnf);have hkk:=hR.kept0 (S:=λb=>b<w9.heap.size) λb _ hb m hm=>absurd hm (XLOW.o m b hb);have hb1:=HB2L.o.keep (hkk.mono λb _ e=>It);exact FI rfl e5 hb1 AS AH ⟨rfl,rfl⟩
      ·rfl
      refine Qs (λvl F J=>match vl with|[p,v]=>FlE ws (S9 Ta N w9) l1 l2 p v F J|_=>True) ?_ ?_ ?_
      ·exact UM
      ·exact T2
      refine Chain.step (FP λv F J=>FlF ws (λb=>S9 Ta N w9 b\/ws.heap.size<=b) (l1++l2) (l1.length+l2.length) v F J) AG (H1A ?_) ?_ ?_
      ·exact VI
      ·intro V F J L hR hN hp hρ hc hf hg;refine ⟨rfl,?_⟩;have hk8:=hN.key (k:=1008) AB;obtain ⟨A4,c4,A5,c5,hv3,hv7,hc7,h7⟩:=hp 7 AB;have e102:=(hρ 102).trans hv3;have e106:=(hρ 106).trans hv7;obtain ⟨ho4,hr5⟩:=h7 hk8;have hsz:=hR.size;have e0:ws.drew.heap.size=ws.heap.size:=rfl;have hl1:=HL1.o;have hl2:=HL2.o;obtain ⟨hs,hhs,hoo,hvv⟩:=ho4.add;obtain ⟨-,ys,hry,hyl,hyd⟩:=hr5;refine Cw (.tmp 102) (.tmp 106) rfl tiD e102 hoo e106 hry hyl (Hs hyl hyd) AA AB AA ?_;exact TK
      refine Qp ?_;refine Qs (λvl F J=>match vl with|[v,_]=>FlG (l1.length+l2.length) (λJ h=>Blk J g5 36 #[.I k5,.I U.least,.I U.most,.I U.cls,.string U.b,.string U.e,.I Y.ln,.I Y.ls,.I Y.hn,.I Y.hs,.I d1,.I d2,.I b5,.I r1,.I r2,.slice A8 fs.length c8,h,.bool er]) v F J|_=>True) ?_ ?_ ?_
      ·exact WH
      ·intro V F J L hR hN hp hρ zs zg;obtain ⟨A6,c6,hv8,hg8,-⟩:=hp.o 8 AB;have e107:=(hρ.o 107).trans hv8;exact UB
      intro V F w11 hR hG;refine Qx ?_;obtain ⟨A6,c6,v8,-,ho8⟩:=hG 8 AB;obtain ⟨A7,c7,v8',hb10,-⟩:=hG 10 AB;have hv:=v8.symm.trans v8';injection hv with hv1 hv2 hv3;rw [<-hv1,<-hv3] at hb10;obtain ⟨HB10,HO8,HX11,HK11⟩:=Hd4 hb10 ho8 (show Ext w9 w11 from Au HXL.o (hR.buts (S:=λb=>w9.heap.size<=b) (λm b _ hm _=>by have:=HU5.o;have:=WSL.o;rcases hm with ⟨_,h⟩|⟨_,h⟩<;>omega)) (λb hb=>hb)) (hR.kept0 (S:=λb=>b<ws.heap.size/\b≠g5) λb _ hb m hm=>FJ);clear hR hG hb10 ho8 v8 v8' hv1 hv2 hv3
      go_wp2_with fail
      go_meet
      case rel =>
       exact Sk
 case rest =>
 obtain ⟨w12,rfl⟩:=eqx wc;obtain ⟨A8,c8,D8,e8,hb12,hab12,hx12⟩:=hcut;obtain ⟨HB12,HAB12,HX12,HX12',HZJ,HB412⟩:=Hd6 hb12 hab12 (HX9.o.trans hx12) hx12 (show AbN 40000 rj by rw [<-HEJ.o];exact HZA.o.joinRaw HZB.o) (HB49.o.keep (hx12.kept _));have HCN:=Hd (EG rj A8 D8 c8 e8 w12 _ hab12.2.2.1 hab12.2.2.2 (HZJ.o.mono AB));clear hb12 hab12 hx12
 go_upto_region 21 with fail
 refine wp_region_lit ?_;refine AJ rfl 36 _ rfl g5 rfl HB12.o AS AH ?_
 go_wp2_with fail
 refine HCN.o.mono ?_;rintro e13 w13 ⟨A9,c9,D9,e9,rfl,hab13,hx13⟩;have hb413:=HB412.o.keep (hx13.kept _);rename_i K1 hK1 K2 hK2;refine hK2 _ _ ?_;refine AM rfl 36 _ _ rfl g4 (Ap (AX rj) A9 c9 D9 e9) rfl rfl 36 _ hb413 AH rfl AD ?_;intro wf hbf hof;refine hK1 _ _ ?_;have HXF:=Hd ((HX12.o.trans hx13).only hof DB);have HBF:=Hd hbf;have hkf:=hof.kept (S:=λb=>(Ta b\/N<=b)) (λb _ hb e=>by have:=HGG.o;rcases hb with h | h;(have:=HTL.o b h;omega);omega);have HABF:=Hd ((hab13.mono (T:=λb=>Ta b\/N<=b) λb _ hb=>by
  exact V8).keep hkf)
 clear hK1 hK2 hbf hb413 hx13 hab13 hof hkf
 go_wp2_with fail
 refine bodyPost_ret (Bv results27 rfl (Eq HBF.o AS AH)) rfl ?_;have HEND:=Hd (show Fk a b=AX rj by unfold Fk;rw [<-HAC.o,<-HBC.o,HEJ.o]);rw [HEND.o];refine ⟨A9,c9,D9,e9,rfl,HABF.o.mono λb _ hb => ?_,HXF.o⟩
 rcases hb with hb|hb
 ·rw [HTA.o] at hb;exact .inl hb.1
 ·right;have:=HGG.o;omega

def Uq(w:World)(m:Nat)(e:Ending)(J:World):Prop:=∃ r:Nat,r<m/\e=.returned (.I (r:Int))/\w=J
theorem Qu(a:Int)(m:Nat)(h0:0<m)(h1:m<=1000)(w:World):Cl 86 #[.I a,.I (m:Int)] w (Uq w m):=by
 have hlt:=Int.tmod_lt_of_pos a (b:=(m:Int)) AA;have O:=Int.tmod_lt_of_pos (-a) (b:=(m:Int)) AA;rw [Int.neg_tmod] at O;have Z:((m:Int)==0)=false:=AI;by_cases hneg:a.tmod (m:Int)<0
 ·obtain ⟨r,hr⟩:∃ r:Nat,a.tmod (m:Int)+(m:Int)=(r:Int):=⟨(a.tmod (m:Int)+(m:Int)).toNat,AA⟩;have U:r<m:=AA;have Y:wrap64 (a.tmod (m:Int)+(m:Int))=(r:Int):=(by rw [hr];unfold wrap64;omega);clear hlt O hr h0 h1
  go_enter func86,ntmps86
  go_wp2;go_ret;exact ⟨r,U,by rw [<-Y];rfl,rfl⟩
 ·obtain ⟨r,hr⟩:∃ r:Nat,a.tmod (m:Int)=(r:Int):=⟨(a.tmod (m:Int)).toNat,AA⟩;have U:r<m:=AA;have hn:¬((r:Int)<0):=AA;clear hlt O h0 h1 hneg
  go_enter func86,ntmps86
  go_wp2;go_ret;exact ⟨r,U,by first|rfl|(rw [<-hr];rfl),rfl⟩
theorem C2A(a:Int)(m:Nat)(h0:0<m)(h1:m<=1000)(w:World):Cl 160 #[.I a,.I (m:Int)] w (Uq w m):=by
 have hlt:=Int.tmod_lt_of_pos a (b:=(m:Int)) AA;have O:=Int.tmod_lt_of_pos (-a) (b:=(m:Int)) AA;rw [Int.neg_tmod] at O;have Z:((m:Int)==0)=false:=AI;obtain ⟨u,hu⟩:∃ u:Int,u=a.tmod (m:Int)+(m:Int):=⟨_,rfl⟩;have U:wrap64 (a.tmod (m:Int)+(m:Int))=u:=(by rw [<-hu];unfold wrap64;omega);have hb1:=Int.emod_nonneg u (b:=(m:Int)) AA;have hb2:=Int.emod_lt_of_pos u (b:=(m:Int)) AA;obtain ⟨r,hr⟩:∃ r:Nat,u.tmod (m:Int)=(r:Int):=⟨(u % (m:Int)).toNat,by rw [Int.tmod_eq_emod_of_nonneg AA];omega⟩;rw [<-Int.tmod_eq_emod_of_nonneg AA,hr] at hb2;have Y:r<m:=AA;clear hb1 hb2 hu hlt O h0 h1
 go_enter func160,ntmps160
 go_wp2;go_ret;exact ⟨r,Y,by first|rfl|(rw [<-hr,<-U];rfl),rfl⟩
def MqD(v:Value):Prop:=∃ a b:Int,v=.agg #[.I a,.I b]
def MqR(v:Value):Prop:=∃ r:Rg,v=(Rq r)
def F8A(w:World)(e:Ending)(J:World):Prop:=∃ a b:Int,e=.returned (.agg #[.I a,.I b])/\Ext w J
theorem FTA(n:Int)(h1:-1000000000000000<=n)(h2:n<=1000000000000000)(w:World):Cl 184 #[.I n] w (λe J=>e=.returned (.tuple #[.agg #[.I n,.I 0],.bool true])/\Ext w J):=by
 have hf:KF (decide (n<0)) n.natAbs 0=((n,0),true):=by
  unfold KF F0;rw [if_pos (by constructor<;>simp<;>omega)];by_cases hn:n<0
  ·simp [hn];omega
  ·simp [hn];omega
 obtain ⟨w0,hw0⟩:=eqx (w.alloc (.cells #[.I 0,.I 0] 28));have hm:=Yb n 0 h1 h2 AA w0;rw [hf] at hm;obtain ⟨HM,HB0,HX0,HW⟩:=Hd4 hm (show Blk w0 w.heap.size 28 #[.I 0,.I 0] by rw [hw0];exact Blk.new _ _ _) (show Ext w w0 by rw [hw0];exact (Ext.refl w).alloc _) hw0;clear hm hf hw0
 go_enter func184,ntmps184
 go_wp2_with fail
 rw [<-HW.o];refine HM.o.mono ?_;rintro e1 w1 ⟨rfl,hx1⟩;have HX1:=Hd (HX0.o.trans hx1);have hb1:=HB0.o.keep (hx1.kept _);obtain ⟨r0,r1⟩:=hb1.qs2;have rf:=hb1.frozen;have rl:=hb1.lt;clear hx1 hb1;go_wp2;refine bodyPost_ret (v:=.tuple #[.agg #[.I n,.I 0],.bool true]) (by simp [results,results184,go_sem,r0,r1]) rfl ⟨rfl,?_⟩
 iterate 2 with_reducible refine Ext.set2 ?_ AA _
 with_reducible exact HX1.o
theorem YN(n:Int)(h1:-1000000000000000<=n)(h2:n<=1000000000000000)(w:World):Cl 116 #[.I n] w (Fu w (n,0)):=by
 have HO:=Hd (FTA n h1 h2)
 go_enter func116,ntmps116
 go_wp2_with fail
 refine (HO.o _).mono ?_;rintro e1 w1 ⟨rfl,hx1⟩;have HX1:=Hd (((Ext.refl w).alloc (.cells #[.I 0,.I 0] 28)).trans hx1);have hb1:=(Blk.new w 28 #[.I 0,.I 0]).keep (hx1.kept _);obtain ⟨r0,r1⟩:=hb1.qs2;have rf:=hb1.frozen;have rl:=hb1.lt;have hsz:=HX1.o.size;clear hx1 hb1;go_wp2;refine bodyPost_ret (v:=.agg #[.I n,.I 0]) (by simp [results,results116,go_sem,r0,r1,rl]) rfl ⟨rfl,?_⟩
 repeat' first|with_reducible exact HX1.o|with_reducible refine Ext.set2 ?_ AA _|with_reducible refine Ext.alloc ?_ _
theorem EAA(w:World):Cl 54 #[] w (Em w Rg.full):=by
 have HL:=Hd (λJ=>YN (-1000000000000000) AB AB J);have HH:=Hd (λJ=>YN 1000000000000000 AB AB J);have hn:CI Rg.full=Rg.full:=AD;have HB:=Hd (λJ=>N6 Rg.full J);rw [hn] at HB;clear hn
 go_enter func54,ntmps54
 go_wp2_with fail
 refine (HL.o _).mono ?_;rintro e1 w1 ⟨rfl,hx1⟩;have HX1:=Hd (((Ext.refl w).alloc (.cells #[.I 0,.I 0,.I 0,.I 0] 30)).trans hx1);have HB1:=Hd ((Blk.new w 30 #[.I 0,.I 0,.I 0,.I 0]).keep (hx1.kept _));clear hx1
 go_wp2_with fail
 refine (HH.o _).mono ?_;rintro e2 w2 ⟨rfl,hx2⟩;have HX2:=Hd (HX1.o.trans hx2);have HB2:=Hd (HB1.o.keep (hx2.kept _));clear hx2
 go_wp2_with fail
 refine (HB.o _).mono ?_;rintro e3 w3 ⟨rfl,hx3⟩;have HX3:=Hd (HX2.o.trans hx3);have O:=HB2.o.keep (hx3.kept _);obtain ⟨r0,r1,r2,r3⟩:=O.qs4;have rf:=O.frozen;have rl:=O.lt;clear hx3 O;go_wp2;refine bodyPost_ret (v:=(Rq Rg.full)) (by simp [results,results54,go_sem,r0,r1,r2,r3]) rfl ⟨rfl,?_⟩
 iterate 4 with_reducible refine Ext.set2 ?_ AA _
 with_reducible exact HX3.o
theorem DuA(a b:Int)(w:World):Cl 84 #[.I a,.I b] w (F8A w):=by
 have hlt:=Int.tmod_lt_of_pos a (b:=(1000000000000001:Int)) AA;have O:=Int.tmod_lt_of_pos (-a) (b:=(1000000000000001:Int)) AA;rw [Int.neg_tmod] at O;obtain ⟨t,ht⟩:∃ z,a.tmod 1000000000000001=z:=⟨_,rfl⟩;rw [ht] at hlt O;have HM:=Hd (show ∀ (s:Nat) (J:World),s<7->Cl 159 #[.I t,.I (s:Int)] J (λe w2=>∃ p q z,e=.returned (.tuple #[.agg #[.I p,.I q],.bool z])/\Ext J w2) from λs J hs=>(Yb t s AA AA AA J).mono λe w2 h=>⟨_,_,_,h⟩);have U:=Hd (show ∀ J,Cl 160 #[.I b,.I 7] J (Uq J 7) from λJ=>C2A b 7 AB AB J);clear hlt O
 go_enter func84,ntmps84
 go_wp2_with fail
 refine (U.o _).mono ?_;rintro e1 w1 ⟨s,hs,rfl,rfl⟩
 go_wp2_with fail
 refine (HM.o s _ hs).mono ?_;rintro e2 w2 ⟨p,q,z,rfl,hx2⟩;have HX2:=Hd (((Ext.refl w).alloc (.cells #[.I 0,.I 0] 28)).trans hx2);have hb2:=(Blk.new w 28 #[.I 0,.I 0]).keep (hx2.kept _);obtain ⟨r0,r1⟩:=hb2.qs2;have rf:=hb2.frozen;have rl:=hb2.lt;have hsz:=HX2.o.size;clear hx2 hb2;go_wp2;refine bodyPost_ret (v:=.agg #[.I p,.I q]) (by simp [results,results84,go_sem,r0,r1,rl]) rfl ⟨p,q,rfl,?_⟩
 repeat' first|with_reducible exact HX2.o|with_reducible refine Ext.set2 ?_ AA _|with_reducible refine Ext.alloc ?_ _
def GAA(w:World)(e:Ending)(J:World):Prop:=∃ s:BA,e=.returned (.string s)/\s.size<=10/\Ext w J
def wrdsA:Array Value:=#[.string ⟨#[]⟩,.string ⟨#[97]⟩,.string ⟨#[97,98]⟩,.string ⟨#[97,98,97]⟩,.string ⟨#[98,97]⟩,.string ⟨#[66,49]⟩,.string ⟨#[45]⟩,.string ⟨#[49]⟩,.string ⟨#[32,120]⟩,.string ⟨#[65,98,45,49]⟩,.string ⟨#[98,97,98]⟩]
theorem ESA(k:Nat)(hk:k<11):∃ t:BA,wrdsA.toList[k]'hk=.string t/\t.size<=10:=by
 match k,hk with
 |0,_=>exact ⟨_,rfl,AB⟩
 |1,_=>exact ⟨_,rfl,AB⟩
 |2,_=>exact ⟨_,rfl,AB⟩
 |3,_=>exact ⟨_,rfl,AB⟩
 |4,_=>exact ⟨_,rfl,AB⟩
 |5,_=>exact ⟨_,rfl,AB⟩
 |6,_=>exact ⟨_,rfl,AB⟩
 |7,_=>exact ⟨_,rfl,AB⟩
 |8,_=>exact ⟨_,rfl,AB⟩
 |9,_=>exact ⟨_,rfl,AB⟩
 |10,_=>exact ⟨_,rfl,AB⟩
 |n+11,h=>omega
theorem EGA(n:Int)(w:World):Cl 87 #[.I n] w (GAA w):=by
 have U:=Hd (show ∀ J,Cl 86 #[.I n,.I 11] J (Uq J 11) from λJ=>Qu n 11 AB AB J)
 go_enter func87,ntmps87
 go_wp2_with fail
 refine (U.o _).mono ?_;rintro e1 w1 ⟨k,hk,rfl,rfl⟩;obtain ⟨t,ht,O⟩:=ESA k hk;have i0:(0:Int)<=(k:Int):=AA;have i1:(k:Int)<11:=AA;have HT:=Hd ht;clear ht;go_wp2;go_ret;refine ⟨t,?_,O,(Ext.refl w).alloc _⟩;rw [<-HT.o];rfl
theorem EvA:(prog.info? 30).map (·.size)=some 4:=by kernel_rfl
def MqJ(g5:Nat)(w0 wx:World):Prop:=∃ r:Rg,Blk wx g5 30 (Rp r)/\Ext w0 wx
def GkA(w:World)(e:Ending)(J:World):Prop:=∃ r:Rg,e=.returned (Rq r)/\Ext w J
theorem Rt(h:qP:=by
 rintro e1 w3 ⟨d1,d2,he,hx⟩;exact ⟨_,he,F,IDA _ F hx,λ_ _ _ h=>h,d1,d2,rfl⟩):qP:=h
theorem CeA(q0 q1 q2 q3:Int)(s:Bool)(w:World):Cl 28 #[.agg #[.I q0,.I q1,.I q2,.I q3],.bool s] w (GkA w):=by
 obtain ⟨w0,hw0⟩:=eqx ((w.alloc (.cells #[.I q0,.I q1,.I q2,.I q3] 23)).alloc (.cells #[.I 0,.I 0,.I 0,.I 0] 30));obtain ⟨g1,hg1⟩:=eqx w.heap.size;obtain ⟨g2,hg2⟩:=eqx (w.heap.size+1);have hb1:Blk w0 g1 23 #[.I q0,.I q1,.I q2,.I q3]:=Ic;obtain ⟨HB2,HX0,b5,d3,K0,K1,K2,K3⟩:=Hd8 (show Blk w0 g2 30 #[.I 0,.I 0,.I 0,.I 0] by rw [hw0,hg2];exact H6A _ _ _ _) (show Ext w w0 by rw [hw0];exact (exaa w).alloc _) (λa b J=>DuA a b J) (λa b a' b' J=>NK a b a' b' J) (hb1.q0) (hb1.q1) (hb1.q2) (hb1.q3);obtain ⟨d5,d4,HG2⟩:=Hd3 hw0 hg1 hg2;clear hw0 hg1 hg2 hb1
 go_enter func28,ntmps28
 go_upto_region 1 with fail
 rw [<-d5.o,<-HG2.o,<-d4.o];refine Qb (fun|12=>[11,12]|i=>[i]) (λ_ _=>False) [(12,[11])] ?_
 iterate 4 refine Qp ?_
 refine Qs (FP λv F J=>MqD v) (H1A ?_) ?_ ?_
 ·intro v F w1 γ' w2 r h;exact h
 ·intro V F J L hR hN hp hρ zs zg;have HR:=hR;refine Qr ?_;refine (b5.o q0 q1 J).mono ?_;exact Rt
 iterate 4 refine Qp ?_
 refine Qs (FP λv F J=>MqD v) (H1A ?_) ?_ ?_
 ·intro v F w1 γ' w2 r h;exact h
 ·intro V F J L hR hN hp hρ zs zg;have HR:=hR;refine Qr ?_;refine (b5.o q2 q3 J).mono ?_;exact Rt
 refine Qs (FP λv F J=>MqR v) (H1A ?_) ?_ ?_
 ·intro v F w1 γ' w2 r h;exact h
 ·intro V F J L hR hN hp hρ zs zg;obtain ⟨a1,b1,hv4⟩:=hp.o 4 AB;have e11:=(hρ.o 11).trans hv4;obtain ⟨a2,b2,d7⟩:=hp.o 9 AB;have e16:=(hρ.o 16).trans d7;refine Qr ?_;exact ⟨F,LX.refl _ _ _,λ_ _ _ h=>h,⟨a1,b1,a2,b2⟩,rfl⟩
 refine Qs (FP (VarX (λ_ _=>False) 11 30 4)) (H1A IAA) ?_ ?_
 ·intro V F J L hR hN hp hρ zs zg;have HR:=hR;have HN:=hN;refine Qr ?_;exact ⟨F.put 11 (some J.heap.size),LX.new AB (HN.o.2 AB ⟨12,AB⟩) _ _,INA,VarX.new HR.o.inb0 rfl (λ_ _ h=>h.elim)⟩
 refine Chain.step (λvl F J=>match vl with|[p,_]=>∃ r:Rg,VarXI (λ_ _=>False) 30 p (Rp r) F J/\UpN w0.heap.size p|_=>True) AG ?_ ?_ ?_
 ·intro l F w1 γ' w2 rr h
  match l,h with
  |[],_=>trivial
  |[_],_=>trivial
  | [p,q],h=>exact (by
   obtain ⟨r,h1,hup⟩:=h;exact ⟨r,IQA rr h1,hup⟩)
  |_::_::_::_,_=>trivial
 ·intro V F J L hR hN hp hρ hc hf hg;refine ⟨rfl,?_⟩;obtain ⟨r,b9⟩:=hp 10 AB;have d6:=(hρ 17).trans b9;obtain ⟨g,⟨cl⟩,hv,hcs,hb,hk,hst⟩:=VarX.stored (hp 11 AB) (s:=12) (l:=[(12,[11])]) AB hN;have e5:=(hρ 5).trans hv
  match cl,hcs with
  |[x0,x1,x2,x3],_ =>
   have hup:UpN w0.heap.size (V 11):=⟨g,hv,by
    rcases Nat.lt_or_ge g w0.heap.size with h|h
    ·have h9:=hR.old 11 g hk h;cases h9
    ·exact h⟩
   have HST:=Hd hst;have HK:=Hd hk;refine BY 30 rfl e5 d6 hb EvA rfl AD ?_;intro w4 hb4 ho4;obtain ⟨g1,g2⟩:=HST.o _ (Rp r) ho4 hb4 rfl;exact ⟨F.put 11 none,g1,LM.done AB (.inl ⟨g,HK.o⟩),r,g2,hup⟩
 intro V F w1 hR hG;obtain ⟨r,⟨g5,b3,a8,-,-⟩,g6,O,d8⟩:=hG 12 AB;have hg5:w0.heap.size<=g5:=by
  rw [b3] at O;injection O with O;injection O with O;injection O with O;omega
 have HX1:=Hd (show Ext w0 w1 from hR.ext0 (λ_ _ h=>h.elim));refine Qx ?_;simp only [b3];have HB5:=Hd a8;clear hR hG a8 b3 O d8;have hg2l:=HB2.o.lt;have HGW:=Hd (show w.heap.size<=g2 by have:=HG2.o;omega);have hgw:=HGW.o
 go_upto_region 2 with fail
 go_cut [26] (λv wx=>∃ b:Bool,v=.bool b/\Ext w1 wx)
 case first =>
  obtain ⟨r0,r1,r2,r3⟩:=HB5.o.qs4;cases s
  ·go_wp2
   go_meet
   case rel=>exact ⟨false,rfl,Ext.refl _⟩
  ·go_wp2_with fail
   refine (d3.o r.ln r.ls r.hn r.hs w1).mono ?_;rintro e2 w2 ⟨rfl,hx2⟩;have HX2:=Hd hx2;obtain ⟨cv,b7⟩:=eqx (CG (mu r.ln r.ls) (mu r.hn r.hs));rw [<-b7];clear b7 hx2;go_wp2
   go_meet
   case rel=>exact ⟨decide (0<cv),rfl,HX2.o⟩
 case rest =>
 obtain ⟨w2,rfl⟩:=eqx wc;obtain ⟨sb,rfl,hx2⟩:=hcut;have HX2:=Hd (HX1.o.trans hx2);have Y:=Hd (HB5.o.keep (hx2.kept _));clear hx2
 go_upto_if 26 with fail
 go_cut [] (λwx=>MqJ g5 w0 wx)
 case first =>
  obtain ⟨r0,r1,r2,r3⟩:=Y.o.qs4;have rf:=Y.o.frozen;have rl:=Y.o.lt;have hsz2:=HX2.o.size;cases sb
  ·go_wp2
   go_meet
   case rel=>exact ⟨r,Y.o,HX2.o⟩
  ·go_upto_region 4 with fail
   obtain ⟨w4,b0⟩:=eqx (w2.alloc (.cells #[.I r.ln,.I r.ls] 28));have hx4:Ext w2 w4:=(by rw [b0];exact (Ext.refl w2).alloc _);have hb4:Blk w4 w2.heap.size 28 #[.I r.ln,.I r.ls]:=(by rw [b0];exact Blk.new w2 _ _);rw [<-b0];obtain ⟨HX4,Z,b8⟩:=Hd3 (HX2.o.trans hx4) (Y.o.keep (hx4.kept _)) hb4;have hlt5:g5<w2.heap.size:=rl;clear b0 hx4 hb4 r0 r1 r2 r3 rf rl;obtain ⟨r0,r1,r2,r3⟩:=Z.o.qs4;have rf:=Z.o.frozen;have rl:=Z.o.lt
   go_upto_region 5 with fail
   obtain ⟨w5,a9⟩:=eqx ((w4.setCell ⟨g5,0,none⟩ (.I r.hn)).setCell ⟨g5,1,none⟩ (.I r.hs));have a8:Blk w5 g5 30 #[.I r.hn,.I r.hs,.I r.hn,.I r.hs]:=(by rw [a9];simpa using (Z.o.set 0 (.I r.hn)).set 1 (.I r.hs));have hx5:Ext w0 w5:=(by rw [a9];exact (HX4.o.set2 hg5 _).set2 hg5 _);have b4:Blk w5 w2.heap.size 28 #[.I r.ln,.I r.ls]:=(by rw [a9];exact b8.o.keep (((Kept.refl _ _).set2 AA).set2 AA));rw [<-a9];have HX5:=Hd hx5;have U:=Hd a8;clear a9 hx5 a8 r0 r1 r2 r3 rf rl;obtain ⟨s0,s1⟩:=b4.qs2;have r2:=U.o.q2;have r3:=U.o.q3;have rf:=U.o.frozen;have rl:=U.o.lt;clear b4;go_wp2
   go_meet
   case rel =>
    refine ⟨⟨r.hn,r.hs,r.ln,r.ls⟩,?_,(HX5.o.set2 hg5 _).set2 hg5 _⟩
    simpa using (U.o.set 2 (.I r.ln)).set 3 (.I r.ls)
 case rest =>
 obtain ⟨w3,rfl⟩:=eqx wc;obtain ⟨r',b6,hx3⟩:=hcut;have HX3:=Hd hx3;have hb2:=HB2.o.keep (hx3.kept _);obtain ⟨r0,r1,r2,r3⟩:=b6.qs4;obtain ⟨s0,s1,s2,s3⟩:=hb2.qs4;have sf:=hb2.frozen;have sl:=hb2.lt;have hsz0:=HX0.o.size;clear hb2 b6 hx3;go_wp2;refine bodyPost_ret (v:=(Rq r')) (by simp [results,results28,go_sem,s0,s1,s2,s3]) rfl ⟨r',rfl,?_⟩
 iterate 4 with_reducible refine Ext.set2 ?_ AA _
 with_reducible exact HX0.o.trans HX3.o

def HJA(w:World)(g:Nat)(A:OA)(len c:Nat)(n:Int)(K:Nat)(e:Ending)(J:World):Prop:=∃ (r:Int) (K':Nat),e=.returned (.I r)/\0<=r/\r<n/\((K<len/\K'=K+1)\/(len<=K/\K'=K/\r=0))/\NumIs J g A len c K'/\Only g w J
theorem WD(n:Int)(g:Nat)(A:OA)(l:List Int)(c K:Nat)(w:World)(S:NP)(hn1:1<=n)(hn2:n<=4000000000000000)(hm:NumIs w g A l.length c K)(hl:IntsL w S A l)(hS:¬S g) :
  Cl 25 #[.pointer (some ⟨g,0,none⟩),.I n] w (HJA w g A l.length c n K):=by
 have hlen:=hl.2;have hK:=hm.2;obtain ⟨Y,k1⟩:=hm.1.qs2;have kf:=hm.1.frozen;have kz:=hm.1.lt;have HM:=Hd hm;have HL:=Hd hl;clear hm hl;by_cases hlt:K<l.length
 ·obtain ⟨b,o,rfl,hb,hc⟩:=HL.o.at_ hlt;have hbg:b≠g:=by
   rcases HL.o.1 with h|⟨b',o',h1,h2,_⟩
   ·rw [List.map_eq_nil_iff] at h;subst h;simp at hlt
   ·injection h1 with h1;injection h1 with h1;subst h1;rintro rfl;exact hS h2
  have U:decide (l.length<=K)=false:=(by simpa using hlt);have hnn:decide (n<1)=false:=(by simpa using hn1);obtain ⟨r1,r2⟩:=FyA l[K] n hn1;obtain ⟨b1,b2⟩:=BzA l[K] n hn1
  go_enter func25,ntmps25
  go_wp2
  go_quiet (fail)
  go_wp2;obtain ⟨w2,O⟩:=eqx ((w.drewN nq).setCell ⟨g,1,none⟩ (.I ((K:Int)+1)));rw [<-O];have ho:Only g w w2:=(by rw [O];exact ((Only.refl g w).drewN nq).set _ _);have hb2:Blk w2 g 60 #[.slice (some ⟨b,o,none⟩) l.length c,.I ((K:Int)+1)]:=by
   rw [O];exact (HM.o.1.keep (Kept.drewN _ _ _)).set 1 _
  have hc2:w2.cell? ⟨b,o+K,none⟩=some (.I l[K]):=(World.cell?_of_block (w:=w) (ho.block b hbg)).trans hc;clear O Y k1 kf hc;obtain ⟨Y,k1⟩:=hb2.qs2;have HO:=Hd ho;have HB2:=Hd hb2;clear ho hb2 HM HL;have q1:IntKind.i64.wrap ((K:Int)+1-1)=(K:Int):=(by rw [IntWalk.i64_in _ AA];omega);have q2:(0:Int)<=(K:Int):=AA;have q3:(K:Int)<(l.length:Int):=AA;have q4:IntKind.i64.wrap (l[K].tmod n)=l[K].tmod n:=IntWalk.i64_in _ AA;have q5:IntKind.i64.wrap (l[K].tmod n+n)=l[K].tmod n+n:=IntWalk.i64_in _ AA;have q6:IntKind.i64.wrap ((l[K].tmod n+n).tmod n)=(l[K].tmod n+n).tmod n:=IntWalk.i64_in _ AA;have q7:(n==0)=false:=AI
  go_quiet (fail)
  go_wp2;go_ret;refine ⟨_,K+1,rfl,Int.emod_nonneg _ AA,Int.emod_lt_of_pos _ AA,.inl ⟨AA,rfl⟩,⟨?_,AA⟩,HO.o.drewN _⟩;have:=λm=>HB2.o.keep (J:=w2.drewN m) (Kept.drewN _ _ _);rw [show (((K+1:Nat)):Int)=(K:Int)+1 by omega];exact this _
 ·have U:decide (l.length<=K)=true:=(by simpa using hlt);have Z:=Hd (show l.length<=K by omega);clear hlt
  go_enter func25,ntmps25
  go_wp2
  go_quiet (fail)
  go_wp2;go_ret;exact ⟨0,K,rfl,Int.le_refl _,AA,.inr ⟨Z.o,rfl,rfl⟩,HM.o.keep (Kept.drewN _ _ _),(Only.refl g w).drewN _⟩

def NSt(w:World)(g:Nat)(A:OA)(l:List Int)(c K:Nat):Prop:=NumIs w g A l.length c K/\∃ S:Nat->Prop,¬S g/\IntsL w S A l
theorem NSt.ext(h:NSt w g A l c K)(hx:Ext w J):NSt J g A l c K:=by
 obtain ⟨h1,S,h2,h3⟩:=h;exact ⟨h1.keep (hx.kept _),S,h2,h3.keep (hx.kept _)⟩
theorem SF(h:qP:=by
 subst hl;exact ⟨λ_=>False,λh=>h,.inl rfl,h3.2⟩):qP:=h
theorem NSt.grown(h:NSt w g A l c K){row:Option Nat}(hg:w.grownBy J row)(hr:∀ k,row=some k->k≠g)(hd:∀ k,row=some k->∀ b o,A=some ⟨b,o,none⟩->l≠[]->k≠b):NSt J g A l c K:=by
 obtain ⟨h1,S,h2,h3⟩:=h;refine ⟨h1.keep (Kept.of_grown hg λb hb _ e=>hr b e.symm hb),?_⟩
 rcases h3.1 with h4|⟨b,o,hA,hb,hlt,hc⟩
 ·exact ⟨λ_=>False,λh=>h,.inl h4,h3.2⟩
 ·by_cases hl:l=[]
  ·exact SF
  ·refine ⟨λx=>x=b,λe=>h2 (e ▸ hb),?_⟩;have h5:IntsL w (λx=>x=b) A l:=⟨.inr ⟨b,o,hA,rfl,hlt,hc⟩,h3.2⟩;exact h5.keep (Kept.of_grown hg λx hx _ e=>hd x e.symm b o hA hl hx)
def RetR(w:World)(g:Nat)(A:OA)(l:List Int)(c:Nat)(n:Int)(K:Nat)(e:Ending)(J:World):Prop:=∃ (r K':Nat),e=.returned (.I (r:Int))/\(r:Int)<n/\((K<l.length/\K'=K+1)\/(l.length<=K/\K'=K/\r=0))/\NSt J g A l c K'/\But g w J/\J.heap.size=w.heap.size
theorem Bb(n:Int)(g:Nat)(A:OA)(l:List Int)(c K:Nat)(w:World)(hn1:1<=n)(hn2:n<=4000000000000000)(h:NSt w g A l c K) :
  Cl 25 #[.pointer (some ⟨g,0,none⟩),.I n] w (RetR w g A l c n K):=by
 obtain ⟨h1,S,h2,h3⟩:=h;refine (WD n g A l c K w S hn1 hn2 h1 h3 h2).mono ?_;rintro e J ⟨r,K',he,U,O,hK,hN,ho⟩;refine ⟨r.toNat,K',by rw [he];congr 2;omega,AA,?_,⟨hN,S,h2,h3.keep (ho.kept λb _ hb e=>h2 (e ▸ hb))⟩,But.of_only ho,ho.size⟩
 rcases hK with h|⟨h4,h5,h6⟩
 ·exact .inl h
 ·exact .inr ⟨h4,h5,AA⟩

theorem D2A{base n:Nat}{xs:List Int}(h:Own w base 5 1 A n c (xs.map (Value.int .u8)))(hn:xs.length=n){dst:Nat}(hd:prog.underlying dst=some .string) :
  (convert 68 dst (.slice A n c)).run prog w=.ok (.string (strOfNums xs)) w:=by
 rcases h.2 with ⟨hv,O⟩|⟨g,cap,cur,hv,hb,hh,U,Y,hcs,ht⟩
 ·obtain ⟨rfl,rfl⟩:A=none/\c=0:=GU;have hx:xs=[]:=List.eq_nil_of_length_eq_zero AA;subst hx;have e0:strOfNums []=ByteArray.empty:=rfl;rw [e0];exact run_convert_bytes_nil (P:=prog) w 68 5 underlying68 underlying5 n 0 dst hd
 ·obtain ⟨rfl,rfl⟩:A=some ⟨g,0,none⟩/\c=cap:=GU;refine run_convert_bytes_arg (P:=prog) w 68 5 underlying68 underlying5 g 0 n c xs hn (λi hi => ?_) dst hd;obtain ⟨b,o,hA,-,hc⟩:=(Own.rd h).at_ (k:=i) (u:=.int .u8 (xs.getD i 0)) (by
   rw [List.getElem?_map,List.getElem?_eq_getElem AA];simp [List.getD,List.getElem?_eq_getElem (show i<xs.length by omega)])
  exact Ly

def Nn:Array Value:=#[.string ⟨#[]⟩,.string ⟨#[97]⟩,.string ⟨#[98]⟩,.string ⟨#[97,98]⟩,.string ⟨#[105,116,39,115]⟩,.string ⟨#[50,48,50,52,45,48,49,45,51,49]⟩,.string ⟨#[49,50]⟩,.string ⟨#[45,51,46,53]⟩,.string ⟨#[65,124,66,44,91,99,93,59]⟩,.string ⟨#[78,111,114,116,104,32,55]⟩,.string ⟨#[120,32,121]⟩,.string ⟨#[39,39]⟩,.string ⟨#[97,98,99,97,98,99]⟩,.string ⟨#[48]⟩,.string ⟨#[55,46,50,53]⟩]
theorem C3A(w:World):Cl 163 #[] w (λe J=>e=.returned (.slice (some ⟨w.heap.size,0,none⟩) 15 15)/\J=w.alloc (.cells Nn 9)):=by
 go_enter func163,ntmps163
 exact Ea

theorem RetR.le{_w:World}{_g:Nat}{_A:OA}{_c:Nat}{K' r:Nat}(h:(K<l.length/\K'=K+1)\/(l.length<=K/\K'=K/\r=0)):K<=K':=by omega

structure TxR(w:World)(g:Nat)(A:OA)(l:List Int)(c K:Nat)(B j:Nat)(A':OA)(c':Nat)(xs:List Int)(wr:World):Prop where
 but:But g w wr
 low:w.heap.size<=B/\B<=wr.heap.size
 num:∃ K',K<=K'/\NSt wr g A l c K'
 own:Own wr B 5 1 A' j c' (xs.map (Value.int .u8))
 len:xs.length=j
theorem TxR.data(h:NSt w g A l c K):∀ b o,A=some ⟨b,o,none⟩->l≠[]->b<w.heap.size:=by
 obtain ⟨_,S,_,h3⟩:=h;intro b o hA hl
 rcases h3.1 with h4|⟨b',o',O,hb,hlt,hc⟩
 ·rw [List.map_eq_nil_iff] at h4;exact absurd h4 hl
 ·rw [hA] at O;injection O with O;injection O with h1 _;subst h1;exact hlt

