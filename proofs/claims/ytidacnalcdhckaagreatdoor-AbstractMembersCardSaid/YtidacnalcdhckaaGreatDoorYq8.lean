/- Lemmas. No conditions. -/
import Derived.Test.YtidacnalcdhckaaGreatDoorYq7
import Derived.WalkLawsBesides
set_option maxRecDepth 100000
set_option maxHeartbeats 4000000
namespace Go.Proofs.YtidacnalcdhckaaGreatDoor
open Go Go.RowKit Tryz
variable {qP:Prop}{a b v:Int}{l:List Nat}{s:Nat}{w:World}

theorem LT(h:qP:=by
 have hk:=hR.o.kept0 (S:=λb=>b=g1) (λb hb m hm=>hne (hb.symm.trans hm.2));have k1:=HC1.o.keep hk;obtain ⟨k10,k11,k12⟩:=k1.qs3;clear hk k1;exact Qk):qP:=h
theorem Kl(h:qP:=by
 intro l γ w1 γ' w2 rr h;obtain ⟨r,⟨h1,h2,h3⟩,hnr⟩:=h;exact ⟨r,⟨h1.keep (rr.keptS λb _ e=>⟨by rw [e];exact h3,λm hm=>by rw [hm.1,h2,rr.done _ h2]⟩),rr.done _ h2,rr.free h1.lt h3⟩,hnr⟩):qP:=h
theorem WM(neg:Bool)(N:BA)(s k:Nat)(h32:N.size<=4294967296)(hN:AO N<256^50)(hsk:s<=k)(hk:k<=6)(w:World) :
  Cl 218 #[.agg #[.bool neg,.string N,.I (s:Int)],.I (k:Int)] w (EfA w neg (AO N*10^(k-s)) k):=by
 obtain ⟨w0,hw0⟩:=eqx ((w.alloc (.cells #[.bool neg,.string N,.I (s:Int)] 168)).alloc (.cells #[.bool false,.string ⟨#[]⟩,.I 0] 168));have hb1:Blk w0 w.heap.size 168 #[.bool neg,.string N,.I (s:Int)]:=Im;have hb2:Blk w0 (w.heap.size+1) 168 #[.bool false,.string ⟨#[]⟩,.I 0]:=by
  rw [hw0];have:=Blk.new (w.alloc (.cells #[.bool neg,.string N,.I (s:Int)] 168)) 168 #[.bool false,.string ⟨#[]⟩,.I 0]
  simpa using this
 have hx0:Ext w w0:=Bh;obtain ⟨g1,hg1⟩:=eqx w.heap.size;obtain ⟨g2,hg2⟩:=eqx (w.heap.size+1);have hne:g1≠g2:=AA;obtain ⟨HW0,b7,HG2⟩:=Hd3 hw0 hg1 hg2;have HGW:w.heap.size<=g2:=AA;rw [<-hg1] at hb1;rw [<-hg2] at hb2;obtain ⟨HC1,HC2,HX0⟩:=Hd3 hb1 hb2 hx0;obtain ⟨U,b0⟩:=eqx (k-s);have HD:=Hd (show IntKind.i64.wrap ((k:Int)-(s:Int))=(U:Int) by rw [show (k:Int)-(s:Int)=(U:Int) by omega];exact IntWalk.i64_in _ AA);have b8:U<=6:=AA;rw [<-b0];clear hb1 hb2 hx0 hw0 hg1 hg2 b0
 go_enter func218,ntmps218
 go_upto_region 1 with fail
 rw [<-HW0.o,<-HG2.o,<-b7.o];refine Qb (λi=>[i]) (λm b=>m=1012/\b=g2) [(12,[1012])] ?_;refine Qp ?_;refine Qm (λvals γ w' ρ hR hN hp hρ zs zg=>by
  exact LT) ?_
 refine Qp ?_;refine Qm (λvals γ w' ρ hR hN hp hρ zs zg=>by
  exact LT) ?_
 iterate 2 refine Qp ?_
 refine Qm (λvals γ w' ρ hR hN hp hρ zs zg=>by
  exact LT) ?_
 refine Qm (λvals γ w' ρ hR hN hp hρ zs zg=>by
  have hd:=HD.o;exact Qk) ?_
 refine Qs (FP λv γ w'=>∃ r,v=.string r/\isN r (10^U)) (H1A ?_) ?_ ?_
 ·intro v γ w1 γ' w2 r h;exact h
 ·intro vals γ w' ρ hR hN hp hρ zs zg;have HR:=hR;refine Qr ?_;refine (DAA U AA w').mono ?_;exact Ss
 refine Qs (FP λv γ w'=>∃ r,v=.string r/\isN r (AO N*10^U)) (H1A ?_) ?_ ?_
 ·intro v γ w1 γ' w2 r h;exact h
 ·intro vals γ w' ρ hR hN hp hρ zs zg;obtain ⟨r8,hv8,a9⟩:=hp.o 8 AB;have e13:=(hρ.o 13).trans hv8;have HR:=hR;have Y:=Hd a9;clear a9 hN;refine Qr ?_;refine (CMA N r8 h32 Y.o.2.2 (Nat.lt_trans hN (Nat.pow_lt_pow_right AB AB)) (by rw [Y.o.1];exact Nat.lt_of_le_of_lt (Nat.pow_le_pow_right AB b8) AB) w').mono ?_;rintro e1 w3 ⟨r,he,h1,h2,h3,hx⟩;exact ⟨_,he,γ,IDA _ γ hx,λ_ _ _ h=>h,r,rfl,by rw [h1,Y.o.1],h2,h3⟩
 refine Qp ?_;refine Qs (FP λv γ w'=>∃ r,v=.agg #[.bool neg,.string r,.I (k:Int)]/\isN r (AO N*10^U)) (H1A ?_) ?_ ?_
 ·intro v γ w1 γ' w2 r h;exact h
 ·intro vals γ w' ρ hR hN hp hρ zs zg;obtain ⟨r9,b6,O⟩:=hp.o 9 AB;have e14:=(hρ.o 14).trans b6;have Z:=Hd O;clear O;refine Qr ?_;exact ⟨γ,LX.refl _ _ _,λ_ _ _ h=>h,r9,rfl,Z.o⟩
 refine Qs (λ_ γ w'=>∃ r,(Blk w' g2 168 #[.bool neg,.string r,.I (k:Int)]/\γ 1012=some none/\Ec γ g2)/\isN r (AO N*10^U)) ?_ ?_ ?_
 ·exact Kl
 ·intro vals γ w' ρ hR hN hp hρ zs zg;obtain ⟨r,b5,a8⟩:=hp.o 11 AB;have e16:=(hρ.o 16).trans b5;have b4:=Hd a8;clear a8;have HR:=hR;have hk0:=hR.o.key0 hN.o (k:=1012) AB AB;have HK:=Hd hk0;have hb0:=HC2.o.keep ((Kept.drew _ _).trans (hR.o.keptS (S:=λb=>b=g2) λb _ e=>⟨Nu b,λm hm=>CF⟩));have HB0:=Hd hb0;obtain ⟨q0,q1,q2⟩:=hb0.qs3;have qf:=hb0.frozen;have ql:=hb0.lt;clear hk0 hb0;refine Qr ?_;refine ⟨γ.put 1012 none,ILA HK.o rfl rfl rfl Y78171d3d0 (λb hb hm=>(((((Only.refl g2 w').set 0 (.bool neg)).set 1 (.string r)).set 2 (.I (k:Int)))).block b λe=>hm ⟨rfl,e⟩),LM.done AB (.inr AB),?_⟩;have hb1:=HB0.o;exact ⟨r,⟨by simpa using (((hb1.set 0 (.bool neg)).set 1 (.string r)).set 2 (.I (k:Int))),rfl,λ⟨k',hk'⟩=>by unfold Gh.put at hk';split at hk';(cases hk');exact absurd (HR.o.old k' _ hk' (by have:=HC2.o.lt;exact this)) (by simp [gh0])⟩,b4.o⟩
 intro vals γ w9 hR hG;obtain ⟨q8,v8,-⟩:=hG 8 AB;obtain ⟨q9,v9,-⟩:=hG 9 AB;obtain ⟨q11,b3,-⟩:=hG 11 AB;refine Qx ?_;simp only [v8,v9,b3];clear v8 v9 b3;obtain ⟨r,⟨hb9,-,-⟩,O⟩:=hG 12 AB;obtain ⟨c0,c1,c2⟩:=hb9.qs3;have cl:=hb9.lt;have HX9:=Hd (hR.extB HX0.o λm b hm=>IZ);have Z:=Hd O;clear hb9 O hR hG;go_wp2;refine bodyPost_ret (v:=.agg #[.bool neg,.string r,.I (k:Int)]) (by simp [results,results218,go_sem,c0,c1,c2]) rfl ⟨r,rfl,Z.o,HX9.o⟩

def sv(neg:Bool)(n:Nat):Int:=if neg then -(n:Int) else n
def GZA(w:World)(v:Int)(s:Nat)(e:Ending)(w':World):Prop:=∃ (neg:Bool) (r:BA) (n:Nat),e=.returned (.agg #[.bool neg,.string r,.I (s:Int)])/\isN r n/\sv neg n=v/\n<256^50/\Ext w w'
theorem CIA{n k:Nat}(hn:n<256^20)(hk:k<=6):n*10^k<256^40:=by
 have h1:10^k<=10^6:=Nat.pow_le_pow_right AB hk;have h2:n*10^k<=256^20*10^6:=Nat.mul_le_mul AA h1;exact Nat.lt_of_le_of_lt h2 AB
theorem X4{w4 w6:World}{gx gy g3 t:Nat}{u0 u1 u2:Value}{p0 p1 p2 q0 q1 q2:Value}{o:Obj}(hw:w6=(((((((w4.setCell ⟨gx,0,none⟩ q0).setCell ⟨gx,1,none⟩ q1).setCell ⟨gx,2,none⟩ q2).setCell ⟨gy,0,none⟩ p0).setCell ⟨gy,1,none⟩ p1).setCell ⟨gy,2,none⟩ p2).alloc o))
  (hb:Blk w4 gx t #[u0,u1,u2]) (hx:Ext w w4) (hxy:gx≠gy) (hx3:g3≠gx) (h3y:g3≠gy) (h1:w.heap.size<=gx) (h2:w.heap.size<=gy):Kept (λb=>b=g3) w4 w6/\Ext w w6/\Blk w6 gx t #[q0,q1,q2]:=by
 subst hw;have st:∀ (gg:Nat) {a b:World} {g i:Nat} {u:Value},Kept (λx=>x=gg) a b->g≠gg->Kept (λx=>x=gg) a (b.setCell ⟨g,i,none⟩ u):=λgg a b g i u h e=>Kept.set2 (S:=λx=>x=gg) h e;refine ⟨?_,?_,?_⟩
 ·refine Kept.trans ?_ (Kept.alloc _ _ _);exact st g3 (st g3 (st g3 (st g3 (st g3 (st g3 (Kept.refl _ _) hx3.symm) hx3.symm) hx3.symm) h3y.symm) h3y.symm) h3y.symm
 ·exact (((((((hx.set2 h1 _).set2 h1 _).set2 h1 _).set2 h2 _).set2 h2 _).set2 h2 _).alloc _)
 ·have h3:Blk (((w4.setCell ⟨gx,0,none⟩ q0).setCell ⟨gx,1,none⟩ q1).setCell ⟨gx,2,none⟩ q2) gx t #[q0,q1,q2]:=((hb.set 0 q0).set 1 q1).set 2 q2;exact h3.keep ((st gx (st gx (st gx (Kept.refl _ _) hxy.symm) hxy.symm) hxy.symm).trans (Kept.alloc _ _ _))
theorem DV(h:qP:=by
 have hk:=hR.o.kept0 (S:=λb=>b=gx\/b=gy) (λb hb m hm=>by rcases hb with e | e<;>omega);have kx:=HBX4.o.keep (hk.mono λb _ e=>.inl e);have ky:=HBY.o.keep (hk.mono λb _ e=>.inr e);obtain ⟨kx0,kx1,kx2⟩:=kx.qs3;obtain ⟨ky0,ky1,ky2⟩:=ky.qs3;clear hk kx ky;exact Qk):qP:=h
theorem Rz(h:qP:=by
 intro vals γ w' ρ hR hN hp hρ zs zg;have HR:=hR;refine Qr ?_;refine (FDA r1 r2 HR1.o.2.2 HR2.o.2.2 (by rw [HR1.o.1];exact Nat.lt_trans HM1.o (Nat.pow_lt_pow_right (by decide) (by decide))) (by rw [HR2.o.1];exact Nat.lt_trans HM2.o (Nat.pow_lt_pow_right (by decide) (by decide))) w').mono ?_;rintro e1 w3 ⟨r,he,h1,h2,h3,hx⟩;exact ⟨_,he,γ,IDA _ γ hx,λ_ _ _ h=>h,r,rfl,by rw [h1,HR1.o.1,HR2.o.1],h2,h3⟩):qP:=h
theorem Qh(h:qP:=by
 intro vals γ w' ρ hR hN hp hρ zs zg;obtain ⟨r6,hv6,hn6⟩:=hp.o 6 (by decide);have e35:=(hρ.o 35).trans hv6;have HN6:=Hd hn6;clear hn6;refine Qr ?_;exact ⟨γ,LX.refl _ _ _,λ_ _ _ h=>h,r6,rfl,HN6.o⟩):qP:=h
theorem Ud(h:qP:=by
 exact ((HX7.o.set2 HGW _).set2 HGW _).set2 HGW _):qP:=h
theorem UF(h:qP:=by
 clear hz hdl hr hrz hd;go_wp2;refine bodyPost_ret (v:=.agg #[.bool false,.string r,.I (S:Int)]) (by simp [results,results175,go_sem,d0,d1,d2]) rfl ⟨false,r,d,rfl,HRR.o,HF.o,HDL.o,?_⟩;exact Ud):qP:=h
theorem Ka(h:qP:=by
 have HDL:=Hd (show d<256^50 by have h1:=HD.o;have h2:=Nat.lt_trans HM2.o (show (256:Nat)^40<256^50 from Nat.pow_lt_pow_right (by decide) (by decide));omega);exact UF):qP:=h
theorem Of(h:qP:=by
 clear hz hdl hr hrz hd;go_wp2;refine bodyPost_ret (v:=.agg #[.bool true,.string r,.I (S:Int)]) (by simp [results,results175,go_sem,d0,d1,d2]) rfl ⟨true,r,d,rfl,HRR.o,HF.o,HDL.o,?_⟩;exact Ud):qP:=h
theorem Ki(h:qP:=by
 have HDL:=Hd (show d<256^50 by have h1:=HD.o;have h2:=Nat.lt_trans HM1.o (show (256:Nat)^40<256^50 from Nat.pow_lt_pow_right (by decide) (by decide));omega);exact UF):qP:=h
theorem CC(h:qP:=by rw [hw0];exact (exbb w).alloc _):qP:=h
theorem IK(h:qP:=by have:=HLE.o;omega):qP:=h
theorem DYA(n1 n2:Bool)(N1 N2:BA)(s1 s2 S:Nat)(h1:N1.size<=4294967296)(h2:N2.size<=4294967296)(hN1:AO N1<256^20)(hN2:AO N2<256^20)(hs1:s1<=6)(hs2:s2<=6)(hS:S=max s1 s2)(w:World) :
  Cl 175 #[.agg #[.bool n1,.string N1,.I (s1:Int)],.agg #[.bool n2,.string N2,.I (s2:Int)]] w (GZA w (sv n1 (AO N1*10^(S-s1))+sv n2 (AO N2*10^(S-s2))) S):=by
 obtain ⟨w0,hw0⟩:=eqx (((w.alloc (.cells #[.bool n1,.string N1,.I (s1:Int)] 168)).alloc (.cells #[.bool n2,.string N2,.I (s2:Int)] 168)).alloc (.cells #[.bool false,.string ⟨#[]⟩,.I 0] 168));have hb1:Blk w0 w.heap.size 168 #[.bool n1,.string N1,.I (s1:Int)]:=(by rw [hw0];exact ((Blk.new _ _ _).keep (Kept.alloc _ _ _)).keep (Kept.alloc _ _ _));have hb2:Blk w0 (w.heap.size+1) 168 #[.bool n2,.string N2,.I (s2:Int)]:=by
  rw [hw0];have:=(Blk.new (w.alloc (.cells #[.bool n1,.string N1,.I (s1:Int)] 168)) 168 #[.bool n2,.string N2,.I (s2:Int)]).keep (Kept.alloc _ _ (.cells #[.bool false,.string ⟨#[]⟩,.I 0] 168))
  simpa using this
 have hb3:Blk w0 (w.heap.size+1+1) 168 #[.bool false,.string ⟨#[]⟩,.I 0]:=by
  rw [hw0];have:=Blk.new ((w.alloc (.cells #[.bool n1,.string N1,.I (s1:Int)] 168)).alloc (.cells #[.bool n2,.string N2,.I (s2:Int)] 168)) 168 #[.bool false,.string ⟨#[]⟩,.I 0]
  simpa using this
 have hx0:Ext w w0:=CC;obtain ⟨g1,hg1⟩:=eqx w.heap.size;obtain ⟨g2,hg2⟩:=eqx (w.heap.size+1);obtain ⟨g3,hg3⟩:=eqx (w.heap.size+1+1);obtain ⟨HW0,HG1,HG2,HG3⟩:=Hd4 hw0 hg1 hg2 hg3;have HGW:w.heap.size<=g3:=AA;rw [<-hg1] at hb1;rw [<-hg2] at hb2;rw [<-hg3] at hb3;obtain ⟨HC1,HC2,HC3,HX0,HS⟩:=Hd5 hb1 hb2 hb3 hx0 (show max (s1:Int) (s2:Int)=(S:Int) by omega);have ha1:s1<=S:=AA;have ha2:s2<=S:=AA;have ha6:S<=6:=AA;have HM1:=Hd (CIA hN1 (k:=S-s1) AA);have HM2:=Hd (CIA hN2 (k:=S-s2) AA);obtain ⟨m1,hm1⟩:=eqx (AO N1*10^(S-s1));obtain ⟨O,hm2⟩:=eqx (AO N2*10^(S-s2));rw [<-hm1] at HM1|-;rw [<-hm2] at HM2|-;obtain ⟨HE1,HE2,HP1,HP2⟩:=Hd4 hm1 hm2 (show AO N1<256^50 from Nat.lt_trans hN1 (Nat.pow_lt_pow_right AB AB)) (show AO N2<256^50 from Nat.lt_trans hN2 (Nat.pow_lt_pow_right AB AB));clear hb1 hb2 hb3 hx0 hw0 hg1 hg2 hg3 hS hm1 hm2 hN1 hN2
 go_enter func175,ntmps175
 go_wp2_with fail
 rw [<-HW0.o,<-HG3.o,<-HG2.o,<-HG1.o,HS.o];refine (WM n1 N1 s1 S h1 HP1.o ha1 ha6 w0).mono ?_;rintro e1 w1 ⟨r1,rfl,hr1,hx1⟩;rw [<-HE1.o] at hr1;have HR1:=Hd hr1;obtain ⟨w2,hw2⟩:=eqx (w1.alloc (.cells #[.bool n1,.string r1,.I (S:Int)] 168));obtain ⟨gx,hgx⟩:=eqx w1.heap.size;have hx12:Ext w1 w2:=(by rw [hw2];exact (Ext.refl _).alloc _);obtain ⟨HBX,HX2,HB1,HB2,HD1,HD2,HD3⟩:=Hd7 (show Blk w2 gx 168 #[.bool n1,.string r1,.I (S:Int)] by rw [hw2,hgx];exact Blk.new _ _ _) (HX0.o.trans (hx1.trans hx12)) (HC1.o.keep (hx1.kept _)) (HC2.o.keep (hx1.kept _)) (HC1.o.keep ((hx1.trans hx12).kept _)) (HC2.o.keep ((hx1.trans hx12).kept _)) (HC3.o.keep ((hx1.trans hx12).kept _));have hx3:g3≠gx:=(by have:=HC3.o.lt;have:=hx1.size;omega);have HW2:=Hd hw2;have HGX:=Hd hgx;have hgw:w.heap.size<=gx:=(by have:=HX0.o.size;have:=hx1.size;omega);obtain ⟨p0,p1,p2⟩:=HB1.o.qs3;have pf:=HB1.o.frozen;have pl:=HB1.o.lt;obtain ⟨q0,q1,q2⟩:=HB2.o.qs3;have qf:=HB2.o.frozen;have ql:=HB2.o.lt;clear hr1 hw2 hgx hx12 hx1 HC1 HC2 HC3 HX0 HW0
 go_wp2_with fail
 rw [<-HW2.o,<-HGX.o,HS.o];refine (WM n2 N2 s2 S h2 HP2.o ha2 ha6 w2).mono ?_;rintro e3 w3 ⟨r2,rfl,hr2,hx3⟩;rw [<-HE2.o] at hr2;have HR2:=Hd hr2;obtain ⟨w4,hw4⟩:=eqx (w3.alloc (.cells #[.bool n2,.string r2,.I (S:Int)] 168));obtain ⟨gy,hgy⟩:=eqx w3.heap.size;have hx34:Ext w3 w4:=(by rw [hw4];exact (Ext.refl _).alloc _);obtain ⟨HBY,HBX3,HBX4,HX4,Z⟩:=Hd5 (show Blk w4 gy 168 #[.bool n2,.string r2,.I (S:Int)] by rw [hw4,hgy];exact Blk.new _ _ _) (HBX.o.keep (hx3.kept _)) (HBX.o.keep ((hx3.trans hx34).kept _)) (HX2.o.trans (hx3.trans hx34)) (HD3.o.keep ((hx3.trans hx34).kept _));have hxy:gx≠gy:=(by have:=HBX.o.lt;have:=hx3.size;omega);have h3y:g3≠gy:=(by have:=HD3.o.lt;have:=hx3.size;omega);have hgw2:w.heap.size<=gy:=(by have:=HX2.o.size;have:=hx3.size;omega);have HW4:=Hd hw4;have HGY:=Hd hgy;have HR1b:=HR1;obtain ⟨x0,x1,x2⟩:=HBX3.o.qs3;have xf:=HBX3.o.frozen;have xl:=HBX3.o.lt;clear hr2 hw4 hgy hx34 hx3 HD1 HD2 HD3 HX2 HW2 HBX p0 p1 p2 pf pl q0 q1 q2 qf ql
 rcases n1 with _|_<;>rcases n2 with _|_
 ·go_upto_region 4 with fail
  rw [<-HW4.o,<-HGY.o];clear x0 x1 x2 xf xl;refine Qb (λi=>[i]) (λm b=>m=1010/\b=g3) [(10,[1010])] ?_;refine Qp ?_;refine Qm (λvals γ w' ρ hR hN hp hρ zs zg=>by
   exact DV) ?_
  refine Qp ?_;refine Qm (λvals γ w' ρ hR hN hp hρ zs zg=>by
   exact DV) ?_
  refine Qp ?_;refine Qm (λvals γ w' ρ hR hN hp hρ zs zg=>by
   exact DV) ?_
  refine Qs (FP λv γ w'=>∃ r,v=.string r/\isN r (m1+O)) (H1A ?_) ?_ ?_
  ·intro v γ w1 γ' w2 r h;exact h
  ·exact Rz
  refine Qp ?_;refine Qm (λvals γ w' ρ hR hN hp hρ zs zg=>by
   exact DV) ?_
  refine Qs (FP λv γ w'=>∃ r,v=.agg #[.bool false,.string r,.I (S:Int)]/\isN r (m1+O)) (H1A ?_) ?_ ?_
  ·intro v γ w1 γ' w2 r h;exact h
  ·exact Qh
  refine Qs (λ_ γ w'=>∃ r,(Blk w' g3 168 #[.bool false,.string r,.I (S:Int)]/\γ 1010=some none/\Ec γ g3)/\isN r (m1+O)) ?_ ?_ ?_
  ·exact Kl
  ·intro vals γ w' ρ hR hN hp hρ zs zg;obtain ⟨r,hv9,b6⟩:=hp.o 9 AB;have e38:=(hρ.o 38).trans hv9;have HN9:=Hd b6;clear b6;have HR:=hR;have hk0:=hR.o.key0 hN.o (k:=1010) AB AB;have HK:=Hd hk0;have hb0:=Z.o.keep ((Kept.drew _ _).trans (hR.o.keptS (S:=λb=>b=g3) λb _ e=>⟨Nu b,λm hm=>CF⟩));have HB0:=Hd hb0;obtain ⟨q0,q1,q2⟩:=hb0.qs3;have qf:=hb0.frozen;have ql:=hb0.lt;clear hk0 hb0;refine Qr ?_;refine ⟨γ.put 1010 none,ILA HK.o rfl rfl rfl Y78171d3d0 (λb hb hm=>(((((Only.refl g3 w').set 0 (.bool false)).set 1 (.string r)).set 2 (.I (S:Int)))).block b λe=>hm ⟨rfl,e⟩),LM.done AB (.inr AB),?_⟩;have hb1:=HB0.o;exact ⟨r,⟨by simpa using (((hb1.set 0 (.bool false)).set 1 (.string r)).set 2 (.I (S:Int))),rfl,λ⟨k',hk'⟩=>by unfold Gh.put at hk';split at hk';(cases hk');exact absurd (HR.o.old k' _ hk' (by have:=Z.o.lt;exact this)) (by simp [gh0])⟩,HN9.o⟩
  intro vals γ w9 hR hG;obtain ⟨q6,v6,-⟩:=hG 6 AB;obtain ⟨q9,v9,-⟩:=hG 9 AB;refine Qx ?_;simp only [v6,v9];clear v6 v9;obtain ⟨r,⟨hb9,-,-⟩,b6⟩:=hG 10 AB;obtain ⟨c0,c1,c2⟩:=hb9.qs3;have cl:=hb9.lt;have HX9:=Hd (hR.extB HX4.o λm b hm=>IZ);have HN9:=Hd b6;clear hb9 b6 hR hG;go_wp2;refine bodyPost_ret (v:=.agg #[.bool false,.string r,.I (S:Int)]) (by simp [results,results175,go_sem,c0,c1,c2]) rfl ⟨false,r,m1+O,rfl,HN9.o,by simp [sv];try omega,?_,HX9.o⟩;exact Nat.lt_of_lt_of_le (Nat.add_lt_add HM1.o HM2.o) AB
 ·go_wp2_with fail
  rw [<-HW4.o]
  try rw [<-HGY.o]
  clear x0 x1 x2 xf xl;refine (XI r1 r2 HR1.o.2.2 HR2.o.2.2 w4).mono ?_;rintro e5 w5 ⟨rfl,rfl⟩;rw [HR1.o.1,HR2.o.1];by_cases hlt:m1<O
  ·have hc:Fv m1 O<0:=(by unfold Fv;rw [if_pos hlt];decide);obtain ⟨cn,b4⟩:=eqx (Fv m1 O);rw [<-b4] at hc|-;clear b4;obtain ⟨z0,z1,z2⟩:=Z.o.qs3;have zf:=Z.o.frozen;have zl:=Z.o.lt;obtain ⟨x0,x1,x2⟩:=HBX4.o.qs3;have xf:=HBX4.o.frozen;have xl:=HBX4.o.lt;obtain ⟨y0,y1,y2⟩:=HBY.o.qs3;have yf:=HBY.o.frozen;have yl:=HBY.o.lt
   go_wp2_with fail
   obtain ⟨w6,hw6⟩:=eqx ((((((((w4.setCell ⟨gx,0,none⟩ (.bool true)).setCell ⟨gx,1,none⟩ (.string r2)).setCell ⟨gx,2,none⟩ (.I (S:Int))).setCell ⟨gy,0,none⟩ (.bool false)).setCell ⟨gy,1,none⟩ (.string r1)).setCell ⟨gy,2,none⟩ (.I (S:Int))).alloc (.cells #[.bool false,.string r1,.I (S:Int)] 168)));have hsw:=X4 (w:=w) (g3:=g3) hw6 HBX4.o HX4.o hxy hx3 h3y hgw hgw2;obtain ⟨b5,b3,a9⟩:=hsw;rw [<-hw6];obtain ⟨HBX6,HX6,HE6⟩:=Hd3 a9 b3 (Z.o.keep b5);have hle:m1<=O:=AA;have HLE:=Hd hle;clear hw6 b5 b3 a9 hle hlt hc z0 z1 z2 zf zl x0 x1 x2 xf xl y0 y1 y2 yf yl;refine (OX r2 r1 HR2.o.2.2 HR1.o.2.2 (by rw [HR2.o.1,HR1.o.1];exact HLE.o) (by rw [HR2.o.1];exact Nat.lt_trans HM2.o (Nat.pow_lt_pow_right AB AB)) w6).mono ?_;rintro e7 w7 ⟨r,rfl,hr,b0⟩;rw [HR2.o.1,HR1.o.1] at hr;obtain ⟨d,hd⟩:=eqx (O-m1);rw [<-hd] at hr;have HRR:=Hd hr;have hdl:m1+d=O:=IK;obtain ⟨HX7,U,Y⟩:=Hd3 (HX6.o.trans b0) (HE6.o.keep (b0.kept _)) (HBX6.o.keep (b0.kept _));have hrz:=If hr.2.1;have HD:=Hd hdl;obtain ⟨z0,z1,z2⟩:=U.o.qs3;have zf:=U.o.frozen;have zl:=U.o.lt;obtain ⟨x0,x1,x2⟩:=Y.o.qs3;have xf:=Y.o.frozen;have xl:=Y.o.lt;by_cases h0:d=0
   ·have a8:r.size=0:=hrz.2 (hr.1.trans h0);have hs1:¬0<r.size:=AA;clear a8;have H0:=Hd h0;clear h0;have hz:=((U.o.set 0 (.bool false)).set 1 (.string r)).set 2 (.I (S:Int));obtain ⟨d0,d1,d2⟩:=hz.qs3;have dl:=hz.lt;have HF:=Hd (show sv false d=sv false m1+sv true O by have:=HD.o;have:=H0.o;simp [sv];omega);exact Ka
   ·have a8:r.size≠0:=λe=>h0 (hr.1.symm.trans (hrz.1 e));have hs1:0<r.size:=AA;clear a8;have hz:=((U.o.set 0 (.bool true)).set 1 (.string r)).set 2 (.I (S:Int));obtain ⟨d0,d1,d2⟩:=hz.qs3;have dl:=hz.lt;have HF:=Hd (show sv true d=sv false m1+sv true O by have:=HD.o;simp [sv];omega);have HDL:=Hd (show d<256^50 by have h1:=HD.o;have h2:=Nat.lt_trans HM2.o (show (256:Nat)^40<256^50 from Nat.pow_lt_pow_right AB AB);omega);exact Of
  ·have hc:¬Fv m1 O<0:=(by unfold Fv;rw [if_neg hlt];split<;>decide);obtain ⟨cn,b4⟩:=eqx (Fv m1 O);rw [<-b4] at hc|-;clear b4;obtain ⟨z0,z1,z2⟩:=Z.o.qs3;have zf:=Z.o.frozen;have zl:=Z.o.lt;obtain ⟨x0,x1,x2⟩:=HBX4.o.qs3;have xf:=HBX4.o.frozen;have xl:=HBX4.o.lt;obtain ⟨y0,y1,y2⟩:=HBY.o.qs3;have yf:=HBY.o.frozen;have yl:=HBY.o.lt
   go_wp2_with fail
   obtain ⟨w6,hw6⟩:=eqx w4;have b5:Kept (λb=>b=g3) w4 w6:=(by rw [hw6];exact Kept.refl _ _);have b3:Ext w w6:=(by rw [hw6];exact HX4.o);have a9:Blk w6 gx 168 #[.bool false,.string r1,.I (S:Int)]:=(by rw [hw6];exact HBX4.o);rw [<-hw6];obtain ⟨HBX6,HX6,HE6⟩:=Hd3 a9 b3 (Z.o.keep b5);have hle:O<=m1:=AA;have HLE:=Hd hle;clear hw6 b5 b3 a9 hle hlt hc z0 z1 z2 zf zl x0 x1 x2 xf xl y0 y1 y2 yf yl;refine (OX r1 r2 HR1.o.2.2 HR2.o.2.2 (by rw [HR1.o.1,HR2.o.1];exact HLE.o) (by rw [HR1.o.1];exact Nat.lt_trans HM1.o (Nat.pow_lt_pow_right AB AB)) w6).mono ?_;rintro e7 w7 ⟨r,rfl,hr,b0⟩;rw [HR1.o.1,HR2.o.1] at hr;obtain ⟨d,hd⟩:=eqx (m1-O);rw [<-hd] at hr;have HRR:=Hd hr;have hdl:O+d=m1:=IK;obtain ⟨HX7,U,Y⟩:=Hd3 (HX6.o.trans b0) (HE6.o.keep (b0.kept _)) (HBX6.o.keep (b0.kept _));have hrz:=If hr.2.1;have HD:=Hd hdl;obtain ⟨z0,z1,z2⟩:=U.o.qs3;have zf:=U.o.frozen;have zl:=U.o.lt;obtain ⟨x0,x1,x2⟩:=Y.o.qs3;have xf:=Y.o.frozen;have xl:=Y.o.lt;by_cases h0:d=0
   ·have a8:r.size=0:=hrz.2 (hr.1.trans h0);have hs1:¬0<r.size:=AA;clear a8;have H0:=Hd h0;clear h0;have hz:=((U.o.set 0 (.bool false)).set 1 (.string r)).set 2 (.I (S:Int));obtain ⟨d0,d1,d2⟩:=hz.qs3;have dl:=hz.lt;have HF:=Hd (show sv false d=sv false m1+sv true O by have:=HD.o;have:=H0.o;simp [sv];omega);exact Ki
   ·have a8:r.size≠0:=λe=>h0 (hr.1.symm.trans (hrz.1 e));have hs1:0<r.size:=AA;clear a8;have hz:=((U.o.set 0 (.bool false)).set 1 (.string r)).set 2 (.I (S:Int));obtain ⟨d0,d1,d2⟩:=hz.qs3;have dl:=hz.lt;have HF:=Hd (show sv false d=sv false m1+sv true O by have:=HD.o;simp [sv];omega);exact Ki
 ·go_wp2_with fail
  rw [<-HW4.o]
  try rw [<-HGY.o]
  clear x0 x1 x2 xf xl;refine (XI r1 r2 HR1.o.2.2 HR2.o.2.2 w4).mono ?_;rintro e5 w5 ⟨rfl,rfl⟩;rw [HR1.o.1,HR2.o.1];by_cases hlt:m1<O
  ·have hc:Fv m1 O<0:=(by unfold Fv;rw [if_pos hlt];decide);obtain ⟨cn,b4⟩:=eqx (Fv m1 O);rw [<-b4] at hc|-;clear b4;obtain ⟨z0,z1,z2⟩:=Z.o.qs3;have zf:=Z.o.frozen;have zl:=Z.o.lt;obtain ⟨x0,x1,x2⟩:=HBX4.o.qs3;have xf:=HBX4.o.frozen;have xl:=HBX4.o.lt;obtain ⟨y0,y1,y2⟩:=HBY.o.qs3;have yf:=HBY.o.frozen;have yl:=HBY.o.lt
   go_wp2_with fail
   obtain ⟨w6,hw6⟩:=eqx ((((((((w4.setCell ⟨gx,0,none⟩ (.bool false)).setCell ⟨gx,1,none⟩ (.string r2)).setCell ⟨gx,2,none⟩ (.I (S:Int))).setCell ⟨gy,0,none⟩ (.bool true)).setCell ⟨gy,1,none⟩ (.string r1)).setCell ⟨gy,2,none⟩ (.I (S:Int))).alloc (.cells #[.bool true,.string r1,.I (S:Int)] 168)));have hsw:=X4 (w:=w) (g3:=g3) hw6 HBX4.o HX4.o hxy hx3 h3y hgw hgw2;obtain ⟨b5,b3,a9⟩:=hsw;rw [<-hw6];obtain ⟨HBX6,HX6,HE6⟩:=Hd3 a9 b3 (Z.o.keep b5);have hle:m1<=O:=AA;have HLE:=Hd hle;clear hw6 b5 b3 a9 hle hlt hc z0 z1 z2 zf zl x0 x1 x2 xf xl y0 y1 y2 yf yl;refine (OX r2 r1 HR2.o.2.2 HR1.o.2.2 (by rw [HR2.o.1,HR1.o.1];exact HLE.o) (by rw [HR2.o.1];exact Nat.lt_trans HM2.o (Nat.pow_lt_pow_right AB AB)) w6).mono ?_;rintro e7 w7 ⟨r,rfl,hr,b0⟩;rw [HR2.o.1,HR1.o.1] at hr;obtain ⟨d,hd⟩:=eqx (O-m1);rw [<-hd] at hr;have HRR:=Hd hr;have hdl:m1+d=O:=IK;obtain ⟨HX7,U,Y⟩:=Hd3 (HX6.o.trans b0) (HE6.o.keep (b0.kept _)) (HBX6.o.keep (b0.kept _));have hrz:=If hr.2.1;have HD:=Hd hdl;obtain ⟨z0,z1,z2⟩:=U.o.qs3;have zf:=U.o.frozen;have zl:=U.o.lt;obtain ⟨x0,x1,x2⟩:=Y.o.qs3;have xf:=Y.o.frozen;have xl:=Y.o.lt;by_cases h0:d=0
   ·have a8:r.size=0:=hrz.2 (hr.1.trans h0);have hs1:¬0<r.size:=AA;clear a8;have H0:=Hd h0;clear h0;have hz:=((U.o.set 0 (.bool false)).set 1 (.string r)).set 2 (.I (S:Int));obtain ⟨d0,d1,d2⟩:=hz.qs3;have dl:=hz.lt;have HF:=Hd (show sv false d=sv true m1+sv false O by have:=HD.o;have:=H0.o;simp [sv];omega);exact Ka
   ·have a8:r.size≠0:=λe=>h0 (hr.1.symm.trans (hrz.1 e));have hs1:0<r.size:=AA;clear a8;have hz:=((U.o.set 0 (.bool false)).set 1 (.string r)).set 2 (.I (S:Int));obtain ⟨d0,d1,d2⟩:=hz.qs3;have dl:=hz.lt;have HF:=Hd (show sv false d=sv true m1+sv false O by have:=HD.o;simp [sv];omega);exact Ka
  ·have hc:¬Fv m1 O<0:=(by unfold Fv;rw [if_neg hlt];split<;>decide);obtain ⟨cn,b4⟩:=eqx (Fv m1 O);rw [<-b4] at hc|-;clear b4;obtain ⟨z0,z1,z2⟩:=Z.o.qs3;have zf:=Z.o.frozen;have zl:=Z.o.lt;obtain ⟨x0,x1,x2⟩:=HBX4.o.qs3;have xf:=HBX4.o.frozen;have xl:=HBX4.o.lt;obtain ⟨y0,y1,y2⟩:=HBY.o.qs3;have yf:=HBY.o.frozen;have yl:=HBY.o.lt
   go_wp2_with fail
   obtain ⟨w6,hw6⟩:=eqx w4;have b5:Kept (λb=>b=g3) w4 w6:=(by rw [hw6];exact Kept.refl _ _);have b3:Ext w w6:=(by rw [hw6];exact HX4.o);have a9:Blk w6 gx 168 #[.bool true,.string r1,.I (S:Int)]:=(by rw [hw6];exact HBX4.o);rw [<-hw6];obtain ⟨HBX6,HX6,HE6⟩:=Hd3 a9 b3 (Z.o.keep b5);have hle:O<=m1:=AA;have HLE:=Hd hle;clear hw6 b5 b3 a9 hle hlt hc z0 z1 z2 zf zl x0 x1 x2 xf xl y0 y1 y2 yf yl;refine (OX r1 r2 HR1.o.2.2 HR2.o.2.2 (by rw [HR1.o.1,HR2.o.1];exact HLE.o) (by rw [HR1.o.1];exact Nat.lt_trans HM1.o (Nat.pow_lt_pow_right AB AB)) w6).mono ?_;rintro e7 w7 ⟨r,rfl,hr,b0⟩;rw [HR1.o.1,HR2.o.1] at hr;obtain ⟨d,hd⟩:=eqx (m1-O);rw [<-hd] at hr;have HRR:=Hd hr;have hdl:O+d=m1:=IK;obtain ⟨HX7,U,Y⟩:=Hd3 (HX6.o.trans b0) (HE6.o.keep (b0.kept _)) (HBX6.o.keep (b0.kept _));have hrz:=If hr.2.1;have HD:=Hd hdl;obtain ⟨z0,z1,z2⟩:=U.o.qs3;have zf:=U.o.frozen;have zl:=U.o.lt;obtain ⟨x0,x1,x2⟩:=Y.o.qs3;have xf:=Y.o.frozen;have xl:=Y.o.lt;by_cases h0:d=0
   ·have a8:r.size=0:=hrz.2 (hr.1.trans h0);have hs1:¬0<r.size:=AA;clear a8;have H0:=Hd h0;clear h0;have hz:=((U.o.set 0 (.bool false)).set 1 (.string r)).set 2 (.I (S:Int));obtain ⟨d0,d1,d2⟩:=hz.qs3;have dl:=hz.lt;have HF:=Hd (show sv false d=sv true m1+sv false O by have:=HD.o;have:=H0.o;simp [sv];omega);exact Ki
   ·have a8:r.size≠0:=λe=>h0 (hr.1.symm.trans (hrz.1 e));have hs1:0<r.size:=AA;clear a8;have hz:=((U.o.set 0 (.bool true)).set 1 (.string r)).set 2 (.I (S:Int));obtain ⟨d0,d1,d2⟩:=hz.qs3;have dl:=hz.lt;have HF:=Hd (show sv true d=sv true m1+sv false O by have:=HD.o;simp [sv];omega);have HDL:=Hd (show d<256^50 by have h1:=HD.o;have h2:=Nat.lt_trans HM1.o (show (256:Nat)^40<256^50 from Nat.pow_lt_pow_right AB AB);omega);exact Of
 ·go_upto_region 4 with fail
  rw [<-HW4.o,<-HGY.o];clear x0 x1 x2 xf xl;refine Qb (λi=>[i]) (λm b=>m=1010/\b=g3) [(10,[1010])] ?_;refine Qp ?_;refine Qm (λvals γ w' ρ hR hN hp hρ zs zg=>by
   exact DV) ?_
  refine Qp ?_;refine Qm (λvals γ w' ρ hR hN hp hρ zs zg=>by
   exact DV) ?_
  refine Qp ?_;refine Qm (λvals γ w' ρ hR hN hp hρ zs zg=>by
   exact DV) ?_
  refine Qs (FP λv γ w'=>∃ r,v=.string r/\isN r (m1+O)) (H1A ?_) ?_ ?_
  ·intro v γ w1 γ' w2 r h;exact h
  ·exact Rz
  refine Qp ?_;refine Qm (λvals γ w' ρ hR hN hp hρ zs zg=>by
   exact DV) ?_
  refine Qs (FP λv γ w'=>∃ r,v=.agg #[.bool true,.string r,.I (S:Int)]/\isN r (m1+O)) (H1A ?_) ?_ ?_
  ·intro v γ w1 γ' w2 r h;exact h
  ·exact Qh
  refine Qs (λ_ γ w'=>∃ r,(Blk w' g3 168 #[.bool true,.string r,.I (S:Int)]/\γ 1010=some none/\Ec γ g3)/\isN r (m1+O)) ?_ ?_ ?_
  ·exact Kl
  ·intro vals γ w' ρ hR hN hp hρ zs zg;obtain ⟨r,hv9,b6⟩:=hp.o 9 AB;have e38:=(hρ.o 38).trans hv9;have HN9:=Hd b6;clear b6;have HR:=hR;have hk0:=hR.o.key0 hN.o (k:=1010) AB AB;have HK:=Hd hk0;have hb0:=Z.o.keep ((Kept.drew _ _).trans (hR.o.keptS (S:=λb=>b=g3) λb _ e=>⟨Nu b,λm hm=>CF⟩));have HB0:=Hd hb0;obtain ⟨q0,q1,q2⟩:=hb0.qs3;have qf:=hb0.frozen;have ql:=hb0.lt;clear hk0 hb0;refine Qr ?_;refine ⟨γ.put 1010 none,ILA HK.o rfl rfl rfl Y78171d3d0 (λb hb hm=>(((((Only.refl g3 w').set 0 (.bool true)).set 1 (.string r)).set 2 (.I (S:Int)))).block b λe=>hm ⟨rfl,e⟩),LM.done AB (.inr AB),?_⟩;have hb1:=HB0.o;exact ⟨r,⟨by simpa using (((hb1.set 0 (.bool true)).set 1 (.string r)).set 2 (.I (S:Int))),rfl,λ⟨k',hk'⟩=>by unfold Gh.put at hk';split at hk';(cases hk');exact absurd (HR.o.old k' _ hk' (by have:=Z.o.lt;exact this)) (by simp [gh0])⟩,HN9.o⟩
  intro vals γ w9 hR hG;obtain ⟨q6,v6,-⟩:=hG 6 AB;obtain ⟨q9,v9,-⟩:=hG 9 AB;refine Qx ?_;simp only [v6,v9];clear v6 v9;obtain ⟨r,⟨hb9,-,-⟩,b6⟩:=hG 10 AB;obtain ⟨c0,c1,c2⟩:=hb9.qs3;have cl:=hb9.lt;have HX9:=Hd (hR.extB HX4.o λm b hm=>IZ);have HN9:=Hd b6;clear hb9 b6 hR hG;go_wp2;refine bodyPost_ret (v:=.agg #[.bool true,.string r,.I (S:Int)]) (by simp [results,results175,go_sem,c0,c1,c2]) rfl ⟨true,r,m1+O,rfl,HN9.o,by simp [sv];try omega,?_,HX9.o⟩;exact Nat.lt_of_lt_of_le (Nat.add_lt_add HM1.o HM2.o) AB

theorem Yg:∀ S:Nat,S<7->∀ s:Nat,s<S+1->pw (6-(s:Int))=((10^(S-s):Nat):Int)*pw (6-(S:Int)):=by decide
theorem FwA:∀ S:Nat,S<7->0<pw (6-(S:Int)):=by decide
theorem F1A(v:Int):sv (decide (v<0)) v.natAbs=v:=by unfold sv;by_cases h:v<0<;>simp [h]<;>omega
theorem GSA(v:Int):sv (!decide (v<0)) v.natAbs=-v:=by unfold sv;by_cases h:v<0<;>simp [h]<;>omega
theorem DDA(b:Bool)(n k:Nat):sv b (n*k)=sv b n*(k:Int):=by cases b<;>simp [sv,Int.neg_mul]
structure Dc(a b v:Int)(s:Nat):Prop where
 mu:mu a b=v*pw (6-(s:Int))
 s6:s<=6
 v1:(Bg a b).1=v
 v2:(Bg a b).2.toNat=s
 lo:-1000000000000000<=v
 hi:v<=1000000000000000
theorem IXA(a b:Int):∃ v s,Dc a b v s:=by
 have h:=GX a b;refine ⟨(Bg a b).1,(Bg a b).2.toNat,?_,AA,rfl,rfl,h.2.2.1,h.2.2.2⟩;rw [Int.toNat_of_nonneg h.1];rfl
theorem Dc.lt(h:Dc a b v s):v.natAbs<256^20:=by
 have h1:=h.lo;have h2:=h.hi;exact Nat.lt_of_le_of_lt (show v.natAbs<=1000000000000000 by omega) AB
theorem GCA{a' b' v':Int}{s' S:Nat}(h:Dc a b v s)(h':Dc a' b' v' s')(hS:S=max s s'):(v*((10^(S-s):Nat):Int)+(-v')*((10^(S-s'):Nat):Int))*pw (6-(S:Int))=mu a b-mu a' b':=by
 have h1:=h.s6;have h2:=h'.s6;rw [h.mu,h'.mu,Yg S AA s AA,Yg S AA s' AA,Int.add_mul,Int.neg_mul,Int.neg_mul,Int.mul_assoc,Int.mul_assoc];exact Int.sub_eq_add_neg.symm
theorem ECA{V p x y:Int}(hp:0<p)(h:V*p=x-y):(V=0->CG x y=0)/\(V<0->CG x y=-1)/\(0<V->CG x y=1):=by
 refine ⟨λh0 => ?_,λh0 => ?_,λh0 => ?_⟩
 ·rw [h0,Int.zero_mul] at h;unfold CG;rw [if_neg AA,if_neg AA]
 ·have:=Int.mul_neg_of_neg_of_pos h0 hp;unfold CG;rw [if_pos AA]
 ·have:=Int.mul_pos h0 hp;unfold CG;rw [if_neg AA,if_pos AA]
theorem PN(h:qP:=by
 clear hrz;go_wp2;go_ret;exact ⟨by rw [HF.o];rfl,HX5.o.alloc _⟩):qP:=h
theorem NK(a b a' b':Int)(w:World):Cl 105 #[.agg #[.I a,.I b],.agg #[.I a',.I b']] w (DG w (CG (mu a b) (mu a' b'))):=by
 obtain ⟨v1,s1,U⟩:=IXA a b;obtain ⟨v2,s2,O⟩:=IXA a' b';obtain ⟨S,hS⟩:=eqx (max s1 s2);have a9:=GCA U O hS;have b8:=ECA (FwA S (by have:=U.s6;have:=O.s6;omega)) a9;obtain ⟨Y,HD1,HD2,HS⟩:=Hd4 b8 U O hS;obtain ⟨n1,hn1⟩:=eqx (decide (v1<0));obtain ⟨n2,hn2⟩:=eqx (decide (v2<0));have HN1:=Hd hn1;have HN2:=Hd hn2;clear a9 b8 U O hS hn1 hn2;obtain ⟨w0,hw0⟩:=eqx ((w.alloc (.cells #[.I a,.I b] 25)).alloc (.cells #[.I a',.I b'] 25));have hb1:Blk w0 w.heap.size 25 #[.I a,.I b]:=Im;have hb2:Blk w0 (w.heap.size+1) 25 #[.I a',.I b']:=by
  rw [hw0];have:=Blk.new (w.alloc (.cells #[.I a,.I b] 25)) 25 #[.I a',.I b']
  simpa using this
 have hx0:Ext w w0:=Bh;obtain ⟨d3,HX0,HB2⟩:=Hd3 hw0 hx0 hb2;clear hw0 hx0 hb1 hb2
 go_enter func105,ntmps105
 go_wp2_with fail
 rw [<-d3.o];refine (CQA a b w0).mono ?_;rintro e1 w1 ⟨N1,rfl,b6,hx1⟩;rw [HD1.o.v1,HD1.o.v2,<-HN1.o];rw [HD1.o.v1] at b6;have HR1:=Hd b6;obtain ⟨w2,Z⟩:=eqx (w1.alloc (.cells #[.bool n1,.string N1,.I (s1:Int)] 168));obtain ⟨gx,b5⟩:=eqx w1.heap.size;have a8:Ext w1 w2:=(by rw [Z];exact (Ext.refl _).alloc _);have d4:=Hd (show Blk w2 gx 168 #[.bool n1,.string N1,.I (s1:Int)] by rw [Z,b5];exact Blk.new _ _ _);have HX2:=Hd (HX0.o.trans (hx1.trans a8));have hb2:=HB2.o.keep (hx1.kept _);obtain ⟨p0,p1⟩:=hb2.qs2;have pl:=hb2.lt;have hgw:w.heap.size<=gx:=(by have:=HX0.o.size;have:=hx1.size;omega);have b9:=Hd Z;have HGX:=Hd b5;clear b6 hx1 Z b5 a8 hb2 HB2 HX0 d3
 go_wp2_with fail
 rw [<-b9.o,<-HGX.o];clear p0 p1 pl;refine (CQA a' b' w2).mono ?_;rintro e3 w3 ⟨N2,rfl,b0,hx3⟩;rw [HD2.o.v1,HD2.o.v2,<-HN2.o];rw [HD2.o.v1] at b0;have HR2:=Hd b0;obtain ⟨w4,b3⟩:=eqx (w3.alloc (.cells #[.bool (!n2),.string N2,.I (s2:Int)] 168));have b7:Ext w3 w4:=(by rw [b3];exact (Ext.refl _).alloc _);have HX4:=Hd (HX2.o.trans (hx3.trans b7));have hbx:=d4.o.keep (hx3.kept _);obtain ⟨q0,q1,q2⟩:=hbx.qs3;have ql:=hbx.lt;have HW4:=Hd b3;clear b0 hx3 b3 b7 hbx HX2 b9 d4
 go_wp2_with fail
 rw [<-HW4.o];refine (DYA n1 (!n2) N1 N2 s1 s2 S HR1.o.2.2 HR2.o.2.2 (by rw [HR1.o.1];exact HD1.o.lt) (by rw [HR2.o.1];exact HD2.o.lt) HD1.o.s6 HD2.o.s6 HS.o w4).mono ?_;rintro e5 w5 ⟨neg,r,n,rfl,hr,b4,-,hx5⟩;rw [HR1.o.1,HR2.o.1,DDA,DDA,HN1.o,HN2.o,F1A,GSA] at b4;rw [<-b4] at Y;have hrz:=If hr.2.1;rw [hr.1] at hrz;have HX5:=Hd (HX4.o.trans hx5);clear b4 hr hx5 q0 q1 q2 ql;by_cases h0:n=0
 ·have hf:=Y.o.1 (by subst h0;cases neg<;>rfl);have HF:=Hd hf;have hs0:((r.size:Int)==0)=true:=(by rw [hrz.2 h0];rfl);clear hf hrz;go_wp2;go_ret;exact ⟨BB,HX5.o.alloc _⟩
 ·have hs0:((r.size:Int)==0)=false:=(by rw [beq_eq_false_iff_ne];intro e;exact h0 (hrz.1 AA));cases neg
  ·have HF:=Hd (Y.o.2.2 (by simp [sv];omega));exact PN
  ·have HF:=Hd (Y.o.2.1 (by simp [sv];omega));exact PN

theorem Ie(h:qP:=by
 go_enter func20,ntmps20
 go_wp2;go_ret;exact ⟨by rw [HF.o,decide_eq_false (by omega),Bool.false_and];rfl,(exbb w)⟩):qP:=h
theorem Xj(q:Nat)(x:Val)(A B:OA)(c e:Nat)(w:World)(S:NP)(h:RV w S q x A B)(hk:x.kind=0):Cl 20 #[(Vq x A c B e)] w (Ae w (BG x)):=by
 have hf:BG x=(decide (0<=x.n/\x.n<=99)&&decide (x=⟨x.kind,⟨#[]⟩,0,0,x.n,[],[]⟩)):=by
  cases x;simp_all [BG,Cz]
 have HF:=Hd hf;have H:=Hd h;have O:(x.kind==0)=true:=AF;have k1:(x.kind==1)=false:=AF;have k2:(x.kind==2)=false:=AF;have k3:(x.kind==3)=false:=AF;have k4:(x.kind==4)=false:=AF;have k5:(x.kind==5)=false:=AF;clear hf hk h;by_cases h1:0<=x.n
 ·by_cases h2:x.n<=99
  ·go_enter func20,ntmps20
   go_wp2_with fail
   refine (Dn q x ⟨x.kind,⟨#[]⟩,0,0,x.n,[],[]⟩ A B none none c e 0 0 _ S S (H.o.keep ((exbb w).kept _)) (RV.mk (AN) Strs.nil Rows.nil)).mono ?_;rintro e1 w2 ⟨rfl,hx2⟩;have HX2:=Hd hx2;clear hx2;go_wp2;go_ret;exact ⟨by rw [HF.o,decide_eq_true (show (0<=x.n/\x.n<=99) from ⟨h1,h2⟩),Bool.true_and];rfl,Ext.trans (exbb w) HX2.o⟩
  ·exact Ie
 ·exact Ie

theorem Xm(q:Nat)(x:Val)(A B:OA)(c e:Nat)(w:World)(S:NP)(h:RV w S q x A B)(hk:x.kind=1):Cl 20 #[(Vq x A c B e)] w (Ae w (BG x)):=by
 have hf:BG x=(Ca x.s&&decide (x=⟨x.kind,x.s,0,0,0,[],[]⟩)):=by
  cases x;simp_all [BG,Cz]
 have HF:=Hd hf;have H:=Hd h;have O:(x.kind==0)=false:=AF;have k1:(x.kind==1)=true:=AF;have k2:(x.kind==2)=false:=AF;have k3:(x.kind==3)=false:=AF;have k4:(x.kind==4)=false:=AF;have k5:(x.kind==5)=false:=AF;clear hf hk h;have hs:=H.o.size;cases ht:Ca x.s
 ·have HT:=Hd ht;clear ht
  go_enter func20,ntmps20
  go_wp2_with (go_at_call 58;refine (Wi _ hs _).mono ?_;rintro e w' ⟨rfl,rfl⟩;rw [HT.o])
  go_ret;exact ⟨by rw [HF.o,HT.o];rfl,(exbb w)⟩
 ·have HT:=Hd ht;clear ht
  go_enter func20,ntmps20
  go_wp2_with (go_at_call 58;refine (Wi _ hs _).mono ?_;rintro e w' ⟨rfl,rfl⟩;rw [HT.o])
  refine (Dn q x ⟨x.kind,x.s,0,0,0,[],[]⟩ A B none none c e 0 0 _ S S (H.o.keep ((exbb w).kept _)) (RV.mk H.o.size Strs.nil Rows.nil)).mono ?_;rintro e1 w2 ⟨rfl,hx2⟩;have HX2:=Hd hx2;clear hx2;go_wp2;go_ret;exact ⟨by rw [HF.o,HT.o,Bool.true_and];rfl,Ext.trans (exbb w) HX2.o⟩

theorem X0(q:Nat)(x:Val)(A B:OA)(c e:Nat)(w:World)(S:NP)(h:RV w S q x A B)(hk:x.kind=2):Cl 20 #[(Vq x A c B e)] w (Ae w (BG x)):=by
 have hf:BG x=(Dz x.dn x.ds&&decide (x=⟨x.kind,⟨#[]⟩,x.dn,x.ds,0,[],[]⟩)):=by
  cases x;simp_all [BG,Cz]
 have HF:=Hd hf;have H:=Hd h;have k0:(x.kind==0)=false:=AF;have k1:(x.kind==1)=false:=AF;have k2:(x.kind==2)=true:=AF;have k3:(x.kind==3)=false:=AF;have k4:(x.kind==4)=false:=AF;have k5:(x.kind==5)=false:=AF;clear hf hk h
 go_enter func20,ntmps20
 go_wp2_with fail
 refine (Ns x.dn x.ds _).mono ?_;rintro e1 w1 ⟨rfl,hx1⟩;obtain ⟨O,U⟩:=Wm hx1;have Y:=hx1.size;simp at O U Y;have a8:w.heap.size<w1.heap.size:=AA;have Z:w.heap.size+1<w1.heap.size:=AA;have HX:=Hd hx1;cases ht:Dz x.dn x.ds
 ·have HT:=Hd ht;clear ht hx1;exact S3
 ·have HT:=Hd ht;clear ht hx1
  go_wp2_with fail
  refine (Dn q x ⟨x.kind,⟨#[]⟩,x.dn,x.ds,0,[],[]⟩ A B none none c e 0 0 _ S S (H.o.keep ((Ext.trans (exbb w) HX.o).kept _)) (RV.mk (AN) Strs.nil Rows.nil)).mono ?_;rintro e1 w2 ⟨rfl,hx2⟩;have HX2:=Hd hx2;clear hx2;go_wp2;go_ret;exact ⟨by rw [HF.o,HT.o,Bool.true_and];rfl,Ext.trans (Ext.trans (exbb w) HX.o) HX2.o⟩

theorem X1(q:Nat)(x:Val)(A B:OA)(c e:Nat)(w:World)(S:NP)(h:RV w S q x A B)(hk:x.kind=3):Cl 20 #[(Vq x A c B e)] w (Ae w (BG x)):=by
 have hf:BG x=(decide (0<=x.n/\x.n<=3652058)&&decide (x=⟨x.kind,⟨#[]⟩,0,0,x.n,[],[]⟩)):=by
  cases x;simp_all [BG,Cz]
 have HF:=Hd hf;have H:=Hd h;have O:(x.kind==0)=false:=AF;have k1:(x.kind==1)=false:=AF;have k2:(x.kind==2)=false:=AF;have k3:(x.kind==3)=true:=AF;have k4:(x.kind==4)=false:=AF;have k5:(x.kind==5)=false:=AF;clear hf hk h;by_cases h1:0<=x.n
 ·by_cases h2:x.n<=3652058
  ·go_enter func20,ntmps20
   go_wp2_with fail
   refine (Dn q x ⟨x.kind,⟨#[]⟩,0,0,x.n,[],[]⟩ A B none none c e 0 0 _ S S (H.o.keep ((exbb w).kept _)) (RV.mk (AN) Strs.nil Rows.nil)).mono ?_;rintro e1 w2 ⟨rfl,hx2⟩;have HX2:=Hd hx2;clear hx2;go_wp2;go_ret;exact ⟨by rw [HF.o,decide_eq_true (show (0<=x.n/\x.n<=3652058) from ⟨h1,h2⟩),Bool.true_and];rfl,Ext.trans (exbb w) HX2.o⟩
  ·exact Ie
 ·exact Ie

theorem X9(q:Nat)(x:Val)(A B:OA)(c e:Nat)(w:World)(S:NP)(h:RV w S q x A B)(hk:x.kind=4):Cl 20 #[(Vq x A c B e)] w (Ae w (BG x)):=by
 have hf:BG x=(decide (x.n=0\/x.n=1)&&decide (x=⟨x.kind,⟨#[]⟩,0,0,x.n,[],[]⟩)):=by
  cases x;simp_all [BG,Cz]
 have HF:=Hd hf;have H:=Hd h;have O:(x.kind==0)=false:=AF;have k1:(x.kind==1)=false:=AF;have k2:(x.kind==2)=false:=AF;have k3:(x.kind==3)=false:=AF;have k4:(x.kind==4)=true:=AF;have k5:(x.kind==5)=false:=AF;clear hf hk h;by_cases h1:x.n=0
 ·have n0:(x.n==0)=true:=(by simp [h1]);have H1:=Hd h1;clear h1
  go_enter func20,ntmps20
  go_wp2_with fail
  refine (Dn q x ⟨x.kind,⟨#[]⟩,0,0,x.n,[],[]⟩ A B none none c e 0 0 _ S S (H.o.keep ((exbb w).kept _)) (RV.mk (AN) Strs.nil Rows.nil)).mono ?_;rintro e1 w2 ⟨rfl,hx2⟩;have HX2:=Hd hx2;clear hx2;go_wp2;go_ret;exact ⟨by rw [HF.o,decide_eq_true (show x.n=0\/x.n=1 from .inl H1.o),Bool.true_and];rfl,Ext.trans (exbb w) HX2.o⟩
 ·have n0:(x.n==0)=false:=(by simp [h1]);have H1:=Hd h1;clear h1;by_cases h2:x.n=1
  ·have n1:(x.n==1)=true:=DZ;have H2:=Hd h2;clear h2
   go_enter func20,ntmps20
   go_wp2_with fail
   refine (Dn q x ⟨x.kind,⟨#[]⟩,0,0,x.n,[],[]⟩ A B none none c e 0 0 _ S S (H.o.keep ((exbb w).kept _)) (RV.mk (AN) Strs.nil Rows.nil)).mono ?_;rintro e1 w2 ⟨rfl,hx2⟩;have HX2:=Hd hx2;clear hx2;go_wp2;go_ret;exact ⟨by rw [HF.o,decide_eq_true (show x.n=0\/x.n=1 from .inr H2.o),Bool.true_and];rfl,Ext.trans (exbb w) HX2.o⟩
  ·have n1:(x.n==1)=false:=DZ;have H2:=Hd h2;clear h2
   go_enter func20,ntmps20
   go_wp2;go_ret;exact ⟨by rw [HF.o,decide_eq_false (show ¬(x.n=0\/x.n=1) from λh=>h.elim H1.o H2.o),Bool.false_and];rfl,(exbb w)⟩

theorem Ji(q:Nat)(x:Val)(A B:OA)(c e:Nat)(w:World)(S:NP)(h:RV w S q x A B)(hk:x.kind≠5):Cl 20 #[(Vq x A c B e)] w (Ae w (BG x)):=by
 by_cases g0:x.kind=0
 ·exact Xj q x A B c e w S h g0
 by_cases g1:x.kind=1
 ·exact Xm q x A B c e w S h g1
 by_cases g2:x.kind=2
 ·exact X0 q x A B c e w S h g2
 by_cases g3:x.kind=3
 ·exact X1 q x A B c e w S h g3
 by_cases g4:x.kind=4
 ·exact X9 q x A B c e w S h g4
 have hf:BG x=false:=(by simp [BG,g0,g1,g2,g3,g4]);have HF:=Hd hf;have O:(x.kind==0)=false:=(by simp [g0]);have k1:(x.kind==1)=false:=(by simp [g1]);have k2:(x.kind==2)=false:=(by simp [g2]);have k3:(x.kind==3)=false:=(by simp [g3]);have k4:(x.kind==4)=false:=(by simp [g4]);have k5:(x.kind==5)=false:=AF;clear hf hk h g0 g1 g2 g3 g4
 go_enter func20,ntmps20
 go_wp2;go_ret;exact ⟨BB,(exbb w)⟩

theorem LE(h:qP:=by
 go_enter func60,ntmps60
 go_wp2_with (go_at_call 147;refine (WZ A c cols _ S HSA.o).mono ?_;rintro e1 w1 ⟨rfl,n1,rfl⟩;rw [HN.o])
 go_ret;exact ⟨by rw [HF.o];rfl,(Ext.refl _).drewN _⟩):qP:=h
theorem D9A(q:Nat)(cols:List BA)(rows:List (List Val))(A B:OA)(c e:Nat)(w:World)(S T:NP)(hA:Strs w S A cols)(hB:Rows w T q B rows) :
  Cl 60 #[.slice A cols.length c,.slice B rows.length e] w (Ae w (BK cols rows)):=by
 have hn:=hA.2.1;have hm:=hB.len;have HSA:=Hd hA;have HSB:=Hd hB;clear hA hB;cases hnm:XP cols
 case false =>
  have HN:=Hd hnm;have HF:=Hd (show BK cols rows=false by unfold BK;rw [show (List.range cols.length).all (Fj cols)=false from hnm];simp);clear hnm;exact LE
 have HN:=Hd hnm;clear hnm;by_cases h1:cols.length<=8
 case neg =>
  have HF:=Hd (show BK cols rows=false by unfold BK;rw [decide_eq_false AA];rfl);have a8:(8:Int)<(cols.length:Int):=AA;exact LE
 by_cases h2:rows.length<=100
 case neg =>
  have HF:=Hd (show BK cols rows=false by unfold BK;rw [decide_eq_false AA];rfl);have a8:¬(8:Int)<(cols.length:Int):=AA;have h2':(100:Int)<(rows.length:Int):=AA;exact LE
 have a8:¬(8:Int)<(cols.length:Int):=AA;have h2':¬(100:Int)<(rows.length:Int):=AA;have h3':(cols.length:Int)<=8:=AA;have h4':(rows.length:Int)<=100:=AA
 go_enter func60,ntmps60
 go_wp2_with (go_at_call 147;refine (WZ A c cols _ S HSA.o).mono ?_;rintro e1 w1 ⟨rfl,n1,rfl⟩;rw [HN.o])
 go_loopw [6] (λi wr=>∃ k:Nat,k<=rows.length/\i=.I k/\Ext w wr/\∀ j (h:j<rows.length),j<k->Ew cols.length rows[j]=true) (λi _=>rows.length-(intOf i).toNat)
 case atStart=>exact ⟨0,AN,rfl,(Ext.refl _).drewN _,AK⟩
 case round =>
  obtain ⟨i,hi,rfl,hext,hall⟩:=hrel;have HR:=Hd hall;have HE:=Hd hext;clear hall;by_cases hlt2:i<rows.length
  ·obtain ⟨b1,o1,A2,c2,rfl,z1,p0,hcr,U⟩:=(HSB.o.keep (hext.kept T)).at_ hlt2;have hrl:=U.len;have HROW:=Hd U;clear U hext;by_cases hln:rows[i].length=cols.length
   ·have hn1:((rows[i].length:Int) != (cols.length:Int))=false:=(by simp [hln]);have HLN:=Hd hln;clear hln;go_wp2;obtain ⟨wo,rfl⟩:∃ wo:World,wo=wr:=⟨_,rfl⟩;have HP0:=Hd p0;clear p0
    go_loopw [7] (λv wi=>∃ j:Nat,j<=rows[i].length/\v=.I j/\Ext wo wi/\∀ m (h:m<rows[i].length),m<j->DU rows[i][m]=true) (λv _=>rows[i].length-(intOf v).toNat)
    case atStart=>exact ⟨0,AN,rfl,Ext.refl _,AK⟩
    case round =>
     obtain ⟨j,hj,rfl,O,Y⟩:=hrel;have HI:=Hd Y;have HEI:=Hd O;have p0:=O.cell HP0.o;have z1':=Nat.lt_of_lt_of_le z1 O.size;clear Y;by_cases hlt3:j<rows[i].length
     ·obtain ⟨b2,o2,A5,c5,B5,e5,rfl,z2,⟨q0,q1,q2,q3,q4,q5,q6⟩,⟨hq,_,_⟩,hv⟩:=(HROW.o.keep (O.kept T)).at_ hlt3;have HV:=Hd hv;clear hv O;by_cases hk5:rows[i][j].kind=5
      ·have a9:(rows[i][j].kind==5)=true:=(by simp [hk5]);have HF:=Hd (show BK cols rows=false by
        exact Pp)
       clear hk5;go_wp2;go_ret;exact ⟨BB,HE.o.trans HEI.o⟩
      ·have a9:(rows[i][j].kind==5)=false:=(by simp [hk5]);have Z:=Hd hk5;clear hk5
       go_wp2_with fail
       refine (Ji (q-1) rows[i][j] A5 B5 c5 e5 _ T HV.o Z.o).mono ?_;rintro e1 w1 ⟨rfl,hx1⟩;have HX1:=Hd hx1;clear hx1;cases hfl:BG rows[i][j]
       ·have HF:=Hd (show BK cols rows=false by
         exact Uz)
        clear hfl;go_wp2;go_ret;exact ⟨BB,HE.o.trans (HEI.o.trans HX1.o)⟩
       ·have HFL:=Hd (show DU rows[i][j]=true by simp [DU,hfl,Z.o]);clear hfl;go_wp2;go_roundw
        case rel =>
         refine ⟨j+1,AA,AE,HEI.o.trans HX1.o,λm h hm => ?_⟩;exact QZ
        case measure=>simp [intOf];omega
     ·have HRO:=Hd (show Ew cols.length rows[i]=true by
       exact Tg)
      clear O;exact U2
   ·exact Sn
  ·have HF:=Hd (show BK cols rows=true by
    unfold BK;rw [show (List.range cols.length).all (Fj cols)=true from HN.o,CH rows (Ew cols.length) (λj h=>HR.o j h AA),decide_eq_true ⟨h1,h2⟩];rfl)
   exact FC

theorem Yz(q:Nat)(x:Val)(A B:OA)(c e:Nat)(w:World)(S:NP)(h:RV w S q x A B)(hk:x.kind=5):Cl 20 #[(Vq x A c B e)] w (Ae w (BC x)):=by
 have hf:BC x=(BK x.cols x.rows&&decide (x=⟨x.kind,⟨#[]⟩,0,0,0,x.cols,x.rows⟩)):=by
  cases x;simp_all [BC,Cz]
 have HF:=Hd hf;have H:=Hd h;have k0:(x.kind==0)=false:=AF;have k1:(x.kind==1)=false:=AF;have k2:(x.kind==2)=false:=AF;have k3:(x.kind==3)=false:=AF;have k4:(x.kind==4)=false:=AF;have k5:(x.kind==5)=true:=AF;clear hf hk h
 go_enter func20,ntmps20
 go_wp2_with fail
 refine (D9A q x.cols x.rows A B c e _ S S (H.o.strs.keep ((exbb w).kept _)) (H.o.rows_.keep ((exbb w).kept _))).mono ?_;rintro e1 w1 ⟨rfl,hx1⟩;obtain ⟨O,U⟩:=Wm hx1;have Y:=hx1.size;simp at O U Y;have a8:w.heap.size<w1.heap.size:=AA;have Z:w.heap.size+1<w1.heap.size:=AA;have HX:=Hd hx1;cases ht:BK x.cols x.rows
 ·exact Ko
 ·have HT:=Hd ht;clear ht hx1
  go_wp2_with fail
  have HY:=Hd (H.o.keep ((Ext.trans (exbb w) HX.o).kept S));refine (Dn q x ⟨x.kind,⟨#[]⟩,0,0,0,x.cols,x.rows⟩ A B A B c e c e _ S S HY.o (RV.mk (AN) HY.o.strs HY.o.rows_)).mono ?_;rintro e1 w2 ⟨rfl,hx2⟩;have HX2:=Hd hx2;clear hx2;go_wp2;go_ret;exact ⟨by rw [HF.o,HT.o,Bool.true_and];rfl,Ext.trans (exbb w) (Ext.trans HX.o HX2.o)⟩

theorem C8A(q:Nat)(x:Val)(A B:OA)(c e:Nat)(w:World)(S:NP)(h:RV w S q x A B):Cl 20 #[(Vq x A c B e)] w (Ae w (BC x)):=by
 by_cases hk:x.kind=5
 ·exact Yz q x A B c e w S h hk
 ·have:=Ji q x A B c e w S h hk;rwa [show BG x=BC x by simp [BC,hk]] at this




theorem OwnN.of_blk{base g:Nat}(h:Blk w g 3 (DD l))(hg:base<=g)(hl:l.length<=4294967296):OwnN w base (some ⟨g,0,none⟩) l.length l:=by
 refine ⟨by simp [Ds],.inr ⟨g,l.length,DD l,rfl,hg,h,Al,Bd,by rw [X8];omega,?_⟩⟩;rw [List.take_of_length_le (by simp [DD,Ds])];simp [DD]
def RetNB(w:World)(l:List Nat)(e:Ending)(w':World):Prop:=∃ g,e=.returned (.slice (some ⟨g,0,none⟩) l.length l.length)/\w.heap.size<=g/\Blk w' g 3 (DD l)/\Ext w w'
theorem RetNB.ret{w':World}{e:Ending}(h:RetNB w l e w')(hl:l.length<=4294967296):HgA w l e w':=by
 obtain ⟨g,h1,h2,h3,h4⟩:=h;exact ⟨_,_,h1,OwnN.of_blk h3 h2 hl,h4⟩
