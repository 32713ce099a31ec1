/- Lemmas. No conditions. -/
import Derived.Test.YtaccjdppmmoepaaGreatDoorXq6
import Derived.WalkLawsBesides
import Derived.Shelf.Unicode.PredsPay
import Derived.Lib.ItoaLen
import Derived.Lib.AppendIntMem
set_option maxRecDepth 100000
set_option maxHeartbeats 4000000
namespace Go.Proofs.YtaccjdppmmoepaaGreatDoor
open Go Go.RowKit Tryz
variable {qP:Prop}

def sv(neg:Bool)(n:Nat):Int:=if neg then -(n:Int) else n
def GZA(w:World)(v:Int)(s:Nat)(e:Ending)(J:World):Prop:=∃ (neg:Bool) (r:BA) (n:Nat),e=.returned (.agg #[.bool neg,.string r,.I (s:Int)])/\isN r n/\sv neg n=v/\n<256^50/\Ext w J
theorem CIA{n k:Nat}(hn:n<256^20)(hk:k<=6):n*10^k<256^40:=by
 have h1:10^k<=10^6:=Nat.pow_le_pow_right AB hk;have h2:n*10^k<=256^20*10^6:=Nat.mul_le_mul AA h1;exact Nat.lt_of_le_of_lt h2 AB
theorem X4{w w4 w6:World}{gx gy g3 t:Nat}{u0 u1 u2:Value}{p0 p1 p2 q0 q1 q2:Value}{o:Obj}(hw:w6=(((((((w4.setCell ⟨gx,0,none⟩ q0).setCell ⟨gx,1,none⟩ q1).setCell ⟨gx,2,none⟩ q2).setCell ⟨gy,0,none⟩ p0).setCell ⟨gy,1,none⟩ p1).setCell ⟨gy,2,none⟩ p2).alloc o))
  (hb:Blk w4 gx t #[u0,u1,u2]) (hx:Ext w w4) (hxy:gx≠gy) (hx3:g3≠gx) (h3y:g3≠gy) (h1:w.heap.size<=gx) (h2:w.heap.size<=gy):Kept (λb=>b=g3) w4 w6/\Ext w w6/\Blk w6 gx t #[q0,q1,q2]:=by
 subst hw;have st:∀ (gg:Nat) {a b:World} {g i:Nat} {u:Value},Kept (λx=>x=gg) a b->g≠gg->Kept (λx=>x=gg) a (b.setCell ⟨g,i,none⟩ u):=λgg a b g i u h e=>Kept.set2 (S:=λx=>x=gg) h e;refine ⟨?_,?_,?_⟩
 ·refine Kept.trans ?_ (Kept.alloc _ _ _);exact st g3 (st g3 (st g3 (st g3 (st g3 (st g3 (Kept.refl _ _) hx3.symm) hx3.symm) hx3.symm) h3y.symm) h3y.symm) h3y.symm
 ·exact (((((((hx.set2 h1 _).set2 h1 _).set2 h1 _).set2 h2 _).set2 h2 _).set2 h2 _).alloc _)
 ·have h3:Blk (((w4.setCell ⟨gx,0,none⟩ q0).setCell ⟨gx,1,none⟩ q1).setCell ⟨gx,2,none⟩ q2) gx t #[q0,q1,q2]:=((hb.set 0 q0).set 1 q1).set 2 q2;exact h3.keep ((st gx (st gx (st gx (Kept.refl _ _) hxy.symm) hxy.symm) hxy.symm).trans (Kept.alloc _ _ _))
theorem DV(h:qP:=by
 have hk:=hR.o.kept0 (S:=λb=>b=gx\/b=gy) (λb hb m hm=>by rcases hb with e | e<;>omega);have kx:=HBX4.o.keep (hk.mono λb _ e=>.inl e);have ky:=HBY.o.keep (hk.mono λb _ e=>.inr e);obtain ⟨kx0,kx1,kx2⟩:=kx.qs3;obtain ⟨ky0,ky1,ky2⟩:=ky.qs3;clear hk kx ky;exact Qk):qP:=h
theorem Rz(h:qP:=by
 intro V F J L hR hN hp hρ zs zg;have HR:=hR;refine Qr ?_;refine (FDA r1 r2 HR1.o.2.2 HR2.o.2.2 (by rw [HR1.o.1];exact Nat.lt_trans HM1.o (Nat.pow_lt_pow_right (by decide) (by decide))) (by rw [HR2.o.1];exact Nat.lt_trans HM2.o (Nat.pow_lt_pow_right (by decide) (by decide))) J).mono ?_;rintro e1 w3 ⟨r,he,h1,h2,h3,hx⟩;exact ⟨_,he,F,IDA _ F hx,λ_ _ _ h=>h,r,rfl,by rw [h1,HR1.o.1,HR2.o.1],h2,h3⟩):qP:=h
theorem Qh(h:qP:=by
 intro V F J L hR hN hp hρ zs zg;obtain ⟨r6,hv6,hn6⟩:=hp.o 6 (by decide);have e35:=(hρ.o 35).trans hv6;have HN6:=Hd hn6;clear hn6;refine Qr ?_;exact ⟨F,LX.refl _ _ _,λ_ _ _ h=>h,r6,rfl,HN6.o⟩):qP:=h
theorem Ud(h:qP:=by
 exact ((HX7.o.set2 HGW _).set2 HGW _).set2 HGW _):qP:=h
theorem U3(h:qP:=by
 clear hz hdl hr hrz hd;go_wp2;refine bodyPost_ret (v:=.agg #[.bool false,.string r,.I (S:Int)]) (by simp [results,results162,go_sem,d0,d1,d2]) rfl ⟨false,r,d,rfl,HRR.o,HF.o,HDL.o,?_⟩;exact Ud):qP:=h
theorem JL(h:qP:=by
 have HDL:=Hd (show d<256^50 by have h1:=HD.o;have h2:=Nat.lt_trans HM2.o (show (256:Nat)^40<256^50 from Nat.pow_lt_pow_right (by decide) (by decide));omega);exact U3):qP:=h
theorem Tw(h:qP:=by
 clear hz hdl hr hrz hd;go_wp2;refine bodyPost_ret (v:=.agg #[.bool true,.string r,.I (S:Int)]) (by simp [results,results162,go_sem,d0,d1,d2]) rfl ⟨true,r,d,rfl,HRR.o,HF.o,HDL.o,?_⟩;exact Ud):qP:=h
theorem Lh(h:qP:=by
 have HDL:=Hd (show d<256^50 by have h1:=HD.o;have h2:=Nat.lt_trans HM1.o (show (256:Nat)^40<256^50 from Nat.pow_lt_pow_right (by decide) (by decide));omega);exact U3):qP:=h
theorem CC(h:qP:=by rw [hw0];exact (exbb w).alloc _):qP:=h
theorem IK(h:qP:=by have:=HLE.o;omega):qP:=h
theorem DYA(n1 n2:Bool)(N1 N2:BA)(s1 s2 S:Nat)(h1:N1.size<=4294967296)(h2:N2.size<=4294967296)(hN1:AO N1<256^20)(hN2:AO N2<256^20)(hs1:s1<=6)(hs2:s2<=6)(hS:S=max s1 s2)(w:World) :
  Cl 162 #[.agg #[.bool n1,.string N1,.I (s1:Int)],.agg #[.bool n2,.string N2,.I (s2:Int)]] w (GZA w (sv n1 (AO N1*10^(S-s1))+sv n2 (AO N2*10^(S-s2))) S):=by
 obtain ⟨w0,hw0⟩:=eqx (((w.alloc (.cells #[.bool n1,.string N1,.I (s1:Int)] 159)).alloc (.cells #[.bool n2,.string N2,.I (s2:Int)] 159)).alloc (.cells #[.bool false,.string ⟨#[]⟩,.I 0] 159));have hb1:Blk w0 w.heap.size 159 #[.bool n1,.string N1,.I (s1:Int)]:=(by rw [hw0];exact ((Blk.new _ _ _).keep (Kept.alloc _ _ _)).keep (Kept.alloc _ _ _));have hb2:Blk w0 (w.heap.size+1) 159 #[.bool n2,.string N2,.I (s2:Int)]:=by
  rw [hw0];have:=(Blk.new (w.alloc (.cells #[.bool n1,.string N1,.I (s1:Int)] 159)) 159 #[.bool n2,.string N2,.I (s2:Int)]).keep (Kept.alloc _ _ (.cells #[.bool false,.string ⟨#[]⟩,.I 0] 159))
  simpa using this
 have hb3:Blk w0 (w.heap.size+1+1) 159 #[.bool false,.string ⟨#[]⟩,.I 0]:=by
  rw [hw0];have:=Blk.new ((w.alloc (.cells #[.bool n1,.string N1,.I (s1:Int)] 159)).alloc (.cells #[.bool n2,.string N2,.I (s2:Int)] 159)) 159 #[.bool false,.string ⟨#[]⟩,.I 0]
  simpa using this
 have hx0:Ext w w0:=CC;obtain ⟨g1,hg1⟩:=eqx w.heap.size;obtain ⟨g2,hg2⟩:=eqx (w.heap.size+1);obtain ⟨g3,hg3⟩:=eqx (w.heap.size+1+1);obtain ⟨HW0,HG1,HG2,HG3⟩:=Hd4 hw0 hg1 hg2 hg3;have HGW:w.heap.size<=g3:=AA;rw [<-hg1] at hb1;rw [<-hg2] at hb2;rw [<-hg3] at hb3;obtain ⟨HC1,HC2,HC3,HX0,HS⟩:=Hd5 hb1 hb2 hb3 hx0 (show max (s1:Int) (s2:Int)=(S:Int) by omega);have ha1:s1<=S:=AA;have ha2:s2<=S:=AA;have ha6:S<=6:=AA;have HM1:=Hd (CIA hN1 (k:=S-s1) AA);have HM2:=Hd (CIA hN2 (k:=S-s2) AA);obtain ⟨m1,hm1⟩:=eqx (AO N1*10^(S-s1));obtain ⟨O,hm2⟩:=eqx (AO N2*10^(S-s2));rw [<-hm1] at HM1|-;rw [<-hm2] at HM2|-;obtain ⟨HE1,HE2,HP1,HP2⟩:=Hd4 hm1 hm2 (show AO N1<256^50 from Nat.lt_trans hN1 (Nat.pow_lt_pow_right AB AB)) (show AO N2<256^50 from Nat.lt_trans hN2 (Nat.pow_lt_pow_right AB AB));clear hb1 hb2 hb3 hx0 hw0 hg1 hg2 hg3 hS hm1 hm2 hN1 hN2
 go_enter func162,ntmps162
 go_wp2_with fail
 rw [<-HW0.o,<-HG3.o,<-HG2.o,<-HG1.o,HS.o];refine (WM n1 N1 s1 S h1 HP1.o ha1 ha6 w0).mono ?_;rintro e1 w1 ⟨r1,rfl,hr1,hx1⟩;rw [<-HE1.o] at hr1;have HR1:=Hd hr1;obtain ⟨w2,hw2⟩:=eqx (w1.alloc (.cells #[.bool n1,.string r1,.I (S:Int)] 159));obtain ⟨gx,hgx⟩:=eqx w1.heap.size;have hx12:Ext w1 w2:=(by rw [hw2];exact (Ext.refl _).alloc _);obtain ⟨HBX,HX2,HB1,HB2,HD1,HD2,HD3⟩:=Hd7 (show Blk w2 gx 159 #[.bool n1,.string r1,.I (S:Int)] by rw [hw2,hgx];exact Blk.new _ _ _) (HX0.o.trans (hx1.trans hx12)) (HC1.o.keep (hx1.kept _)) (HC2.o.keep (hx1.kept _)) (HC1.o.keep ((hx1.trans hx12).kept _)) (HC2.o.keep ((hx1.trans hx12).kept _)) (HC3.o.keep ((hx1.trans hx12).kept _));have hx3:g3≠gx:=(by have:=HC3.o.lt;have:=hx1.size;omega);have HW2:=Hd hw2;have HGX:=Hd hgx;have hgw:w.heap.size<=gx:=(by have:=HX0.o.size;have:=hx1.size;omega);obtain ⟨p0,p1,p2⟩:=HB1.o.qs3;have pf:=HB1.o.frozen;have pl:=HB1.o.lt;obtain ⟨q0,q1,q2⟩:=HB2.o.qs3;have qf:=HB2.o.frozen;have ql:=HB2.o.lt;clear hr1 hw2 hgx hx12 hx1 HC1 HC2 HC3 HX0 HW0
 go_wp2_with fail
 rw [<-HW2.o,<-HGX.o,HS.o];refine (WM n2 N2 s2 S h2 HP2.o ha2 ha6 w2).mono ?_;rintro e3 w3 ⟨r2,rfl,hr2,hx3⟩;rw [<-HE2.o] at hr2;have HR2:=Hd hr2;obtain ⟨w4,hw4⟩:=eqx (w3.alloc (.cells #[.bool n2,.string r2,.I (S:Int)] 159));obtain ⟨gy,hgy⟩:=eqx w3.heap.size;have hx34:Ext w3 w4:=(by rw [hw4];exact (Ext.refl _).alloc _);obtain ⟨HBY,HBX3,HBX4,HX4,Z⟩:=Hd5 (show Blk w4 gy 159 #[.bool n2,.string r2,.I (S:Int)] by rw [hw4,hgy];exact Blk.new _ _ _) (HBX.o.keep (hx3.kept _)) (HBX.o.keep ((hx3.trans hx34).kept _)) (HX2.o.trans (hx3.trans hx34)) (HD3.o.keep ((hx3.trans hx34).kept _));have hxy:gx≠gy:=(by have:=HBX.o.lt;have:=hx3.size;omega);have h3y:g3≠gy:=(by have:=HD3.o.lt;have:=hx3.size;omega);have hgw2:w.heap.size<=gy:=(by have:=HX2.o.size;have:=hx3.size;omega);have HW4:=Hd hw4;have HGY:=Hd hgy;have HR1b:=HR1;obtain ⟨x0,x1,x2⟩:=HBX3.o.qs3;have xf:=HBX3.o.frozen;have xl:=HBX3.o.lt;clear hr2 hw4 hgy hx34 hx3 HD1 HD2 HD3 HX2 HW2 HBX p0 p1 p2 pf pl q0 q1 q2 qf ql
 rcases n1 with _|_<;>rcases n2 with _|_
 ·go_upto_region 4 with fail
  rw [<-HW4.o,<-HGY.o];clear x0 x1 x2 xf xl;refine Qb (λi=>[i]) (λm b=>m=1010/\b=g3) [(10,[1010])] ?_;refine Qp ?_;refine Qm (λV F J L hR hN hp hρ zs zg=>by
   exact DV) ?_
  refine Qp ?_;refine Qm (λV F J L hR hN hp hρ zs zg=>by
   exact DV) ?_
  refine Qp ?_;refine Qm (λV F J L hR hN hp hρ zs zg=>by
   exact DV) ?_
  refine Qs (FP λv F J=>∃ r,v=.string r/\isN r (m1+O)) (H1A ?_) ?_ ?_
  ·intro v F w1 γ' w2 r h;exact h
  ·exact Rz
  refine Qp ?_;refine Qm (λV F J L hR hN hp hρ zs zg=>by
   exact DV) ?_
  refine Qs (FP λv F J=>∃ r,v=.agg #[.bool false,.string r,.I (S:Int)]/\isN r (m1+O)) (H1A ?_) ?_ ?_
  ·intro v F w1 γ' w2 r h;exact h
  ·exact Qh
  refine Qs (λ_ F J=>∃ r,(Blk J g3 159 #[.bool false,.string r,.I (S:Int)]/\F 1010=some none/\Ec F g3)/\isN r (m1+O)) ?_ ?_ ?_
  ·exact Kl
  ·intro V F J L hR hN hp hρ zs zg;obtain ⟨r,hv9,b4⟩:=hp.o 9 AB;have e38:=(hρ.o 38).trans hv9;have HN9:=Hd b4;clear b4;have HR:=hR;have hk0:=hR.o.key0 hN.o (k:=1010) AB AB;have HK:=Hd hk0;have hb0:=Z.o.keep ((Kept.drew _ _).trans (hR.o.keptS (S:=λb=>b=g3) λb _ e=>⟨Nu b,λm hm=>CF⟩));have HB0:=Hd hb0;obtain ⟨q0,q1,q2⟩:=hb0.qs3;have qf:=hb0.frozen;have ql:=hb0.lt;clear hk0 hb0;refine Qr ?_;refine ⟨F.put 1010 none,ILA HK.o rfl rfl rfl Y78171d3d0 (λb hb hm=>(((((Only.refl g3 J).set 0 (.bool false)).set 1 (.string r)).set 2 (.I (S:Int)))).block b λe=>hm ⟨rfl,e⟩),LM.done AB (.inr AB),?_⟩;have hb1:=HB0.o;exact ⟨r,⟨by simpa using (((hb1.set 0 (.bool false)).set 1 (.string r)).set 2 (.I (S:Int))),rfl,λ⟨k',hk'⟩=>by unfold Gh.put at hk';split at hk';(cases hk');exact absurd (HR.o.old k' _ hk' (by have:=Z.o.lt;exact this)) (by simp [gh0])⟩,HN9.o⟩
  intro V F w9 hR hG;obtain ⟨q6,v6,-⟩:=hG 6 AB;obtain ⟨q9,v9,-⟩:=hG 9 AB;refine Qx ?_;simp only [v6,v9];clear v6 v9;obtain ⟨r,⟨hb9,-,-⟩,b4⟩:=hG 10 AB;obtain ⟨c0,c1,c2⟩:=hb9.qs3;have cl:=hb9.lt;have HX9:=Hd (hR.extB HX4.o λm b hm=>IZ);have HN9:=Hd b4;clear hb9 b4 hR hG;go_wp2;refine bodyPost_ret (v:=.agg #[.bool false,.string r,.I (S:Int)]) (by simp [results,results162,go_sem,c0,c1,c2]) rfl ⟨false,r,m1+O,rfl,HN9.o,by simp [sv];try omega,?_,HX9.o⟩;exact Nat.lt_of_lt_of_le (Nat.add_lt_add HM1.o HM2.o) AB
 ·go_wp2_with fail
  rw [<-HW4.o]
  try rw [<-HGY.o]
  clear x0 x1 x2 xf xl;refine (XI r1 r2 HR1.o.2.2 HR2.o.2.2 w4).mono ?_;rintro e5 w5 ⟨rfl,rfl⟩;rw [HR1.o.1,HR2.o.1];by_cases hlt:m1<O
  ·have hc:Fv m1 O<0:=(by unfold Fv;rw [if_pos hlt];decide);obtain ⟨cn,b5⟩:=eqx (Fv m1 O);rw [<-b5] at hc|-;clear b5;obtain ⟨z0,z1,z2⟩:=Z.o.qs3;have zf:=Z.o.frozen;have zl:=Z.o.lt;obtain ⟨x0,x1,x2⟩:=HBX4.o.qs3;have xf:=HBX4.o.frozen;have xl:=HBX4.o.lt;obtain ⟨y0,y1,y2⟩:=HBY.o.qs3;have yf:=HBY.o.frozen;have yl:=HBY.o.lt
   go_wp2_with fail
   obtain ⟨w6,hw6⟩:=eqx ((((((((w4.setCell ⟨gx,0,none⟩ (.bool true)).setCell ⟨gx,1,none⟩ (.string r2)).setCell ⟨gx,2,none⟩ (.I (S:Int))).setCell ⟨gy,0,none⟩ (.bool false)).setCell ⟨gy,1,none⟩ (.string r1)).setCell ⟨gy,2,none⟩ (.I (S:Int))).alloc (.cells #[.bool false,.string r1,.I (S:Int)] 159)));have hsw:=X4 (w:=w) (g3:=g3) hw6 HBX4.o HX4.o hxy hx3 h3y hgw hgw2;obtain ⟨b3,b6,a8⟩:=hsw;rw [<-hw6];obtain ⟨HBX6,HX6,HE6⟩:=Hd3 a8 b6 (Z.o.keep b3);have hle:m1<=O:=AA;have HLE:=Hd hle;clear hw6 b3 b6 a8 hle hlt hc z0 z1 z2 zf zl x0 x1 x2 xf xl y0 y1 y2 yf yl;refine (OX r2 r1 HR2.o.2.2 HR1.o.2.2 (by rw [HR2.o.1,HR1.o.1];exact HLE.o) (by rw [HR2.o.1];exact Nat.lt_trans HM2.o (Nat.pow_lt_pow_right AB AB)) w6).mono ?_;rintro e7 w7 ⟨r,rfl,hr,b0⟩;rw [HR2.o.1,HR1.o.1] at hr;obtain ⟨d,hd⟩:=eqx (O-m1);rw [<-hd] at hr;have HRR:=Hd hr;have hdl:m1+d=O:=IK;obtain ⟨HX7,U,Y⟩:=Hd3 (HX6.o.trans b0) (HE6.o.keep (b0.kept _)) (HBX6.o.keep (b0.kept _));have hrz:=If hr.2.1;have HD:=Hd hdl;obtain ⟨z0,z1,z2⟩:=U.o.qs3;have zf:=U.o.frozen;have zl:=U.o.lt;obtain ⟨x0,x1,x2⟩:=Y.o.qs3;have xf:=Y.o.frozen;have xl:=Y.o.lt;by_cases h0:d=0
   ·have a9:r.size=0:=hrz.2 (hr.1.trans h0);have hs1:¬0<r.size:=AA;clear a9;have H0:=Hd h0;clear h0;have hz:=((U.o.set 0 (.bool false)).set 1 (.string r)).set 2 (.I (S:Int));obtain ⟨d0,d1,d2⟩:=hz.qs3;have dl:=hz.lt;have HF:=Hd (show sv false d=sv false m1+sv true O by have:=HD.o;have:=H0.o;simp [sv];omega);exact JL
   ·have a9:r.size≠0:=λe=>h0 (hr.1.symm.trans (hrz.1 e));have hs1:0<r.size:=AA;clear a9;have hz:=((U.o.set 0 (.bool true)).set 1 (.string r)).set 2 (.I (S:Int));obtain ⟨d0,d1,d2⟩:=hz.qs3;have dl:=hz.lt;have HF:=Hd (show sv true d=sv false m1+sv true O by have:=HD.o;simp [sv];omega);have HDL:=Hd (show d<256^50 by have h1:=HD.o;have h2:=Nat.lt_trans HM2.o (show (256:Nat)^40<256^50 from Nat.pow_lt_pow_right AB AB);omega);exact Tw
  ·have hc:¬Fv m1 O<0:=(by unfold Fv;rw [if_neg hlt];split<;>decide);obtain ⟨cn,b5⟩:=eqx (Fv m1 O);rw [<-b5] at hc|-;clear b5;obtain ⟨z0,z1,z2⟩:=Z.o.qs3;have zf:=Z.o.frozen;have zl:=Z.o.lt;obtain ⟨x0,x1,x2⟩:=HBX4.o.qs3;have xf:=HBX4.o.frozen;have xl:=HBX4.o.lt;obtain ⟨y0,y1,y2⟩:=HBY.o.qs3;have yf:=HBY.o.frozen;have yl:=HBY.o.lt
   go_wp2_with fail
   obtain ⟨w6,hw6⟩:=eqx w4;have b3:Kept (λb=>b=g3) w4 w6:=(by rw [hw6];exact Kept.refl _ _);have b6:Ext w w6:=(by rw [hw6];exact HX4.o);have a8:Blk w6 gx 159 #[.bool false,.string r1,.I (S:Int)]:=(by rw [hw6];exact HBX4.o);rw [<-hw6];obtain ⟨HBX6,HX6,HE6⟩:=Hd3 a8 b6 (Z.o.keep b3);have hle:O<=m1:=AA;have HLE:=Hd hle;clear hw6 b3 b6 a8 hle hlt hc z0 z1 z2 zf zl x0 x1 x2 xf xl y0 y1 y2 yf yl;refine (OX r1 r2 HR1.o.2.2 HR2.o.2.2 (by rw [HR1.o.1,HR2.o.1];exact HLE.o) (by rw [HR1.o.1];exact Nat.lt_trans HM1.o (Nat.pow_lt_pow_right AB AB)) w6).mono ?_;rintro e7 w7 ⟨r,rfl,hr,b0⟩;rw [HR1.o.1,HR2.o.1] at hr;obtain ⟨d,hd⟩:=eqx (m1-O);rw [<-hd] at hr;have HRR:=Hd hr;have hdl:O+d=m1:=IK;obtain ⟨HX7,U,Y⟩:=Hd3 (HX6.o.trans b0) (HE6.o.keep (b0.kept _)) (HBX6.o.keep (b0.kept _));have hrz:=If hr.2.1;have HD:=Hd hdl;obtain ⟨z0,z1,z2⟩:=U.o.qs3;have zf:=U.o.frozen;have zl:=U.o.lt;obtain ⟨x0,x1,x2⟩:=Y.o.qs3;have xf:=Y.o.frozen;have xl:=Y.o.lt;by_cases h0:d=0
   ·have a9:r.size=0:=hrz.2 (hr.1.trans h0);have hs1:¬0<r.size:=AA;clear a9;have H0:=Hd h0;clear h0;have hz:=((U.o.set 0 (.bool false)).set 1 (.string r)).set 2 (.I (S:Int));obtain ⟨d0,d1,d2⟩:=hz.qs3;have dl:=hz.lt;have HF:=Hd (show sv false d=sv false m1+sv true O by have:=HD.o;have:=H0.o;simp [sv];omega);exact Lh
   ·have a9:r.size≠0:=λe=>h0 (hr.1.symm.trans (hrz.1 e));have hs1:0<r.size:=AA;clear a9;have hz:=((U.o.set 0 (.bool false)).set 1 (.string r)).set 2 (.I (S:Int));obtain ⟨d0,d1,d2⟩:=hz.qs3;have dl:=hz.lt;have HF:=Hd (show sv false d=sv false m1+sv true O by have:=HD.o;simp [sv];omega);exact Lh
 ·go_wp2_with fail
  rw [<-HW4.o]
  try rw [<-HGY.o]
  clear x0 x1 x2 xf xl;refine (XI r1 r2 HR1.o.2.2 HR2.o.2.2 w4).mono ?_;rintro e5 w5 ⟨rfl,rfl⟩;rw [HR1.o.1,HR2.o.1];by_cases hlt:m1<O
  ·have hc:Fv m1 O<0:=(by unfold Fv;rw [if_pos hlt];decide);obtain ⟨cn,b5⟩:=eqx (Fv m1 O);rw [<-b5] at hc|-;clear b5;obtain ⟨z0,z1,z2⟩:=Z.o.qs3;have zf:=Z.o.frozen;have zl:=Z.o.lt;obtain ⟨x0,x1,x2⟩:=HBX4.o.qs3;have xf:=HBX4.o.frozen;have xl:=HBX4.o.lt;obtain ⟨y0,y1,y2⟩:=HBY.o.qs3;have yf:=HBY.o.frozen;have yl:=HBY.o.lt
   go_wp2_with fail
   obtain ⟨w6,hw6⟩:=eqx ((((((((w4.setCell ⟨gx,0,none⟩ (.bool false)).setCell ⟨gx,1,none⟩ (.string r2)).setCell ⟨gx,2,none⟩ (.I (S:Int))).setCell ⟨gy,0,none⟩ (.bool true)).setCell ⟨gy,1,none⟩ (.string r1)).setCell ⟨gy,2,none⟩ (.I (S:Int))).alloc (.cells #[.bool true,.string r1,.I (S:Int)] 159)));have hsw:=X4 (w:=w) (g3:=g3) hw6 HBX4.o HX4.o hxy hx3 h3y hgw hgw2;obtain ⟨b3,b6,a8⟩:=hsw;rw [<-hw6];obtain ⟨HBX6,HX6,HE6⟩:=Hd3 a8 b6 (Z.o.keep b3);have hle:m1<=O:=AA;have HLE:=Hd hle;clear hw6 b3 b6 a8 hle hlt hc z0 z1 z2 zf zl x0 x1 x2 xf xl y0 y1 y2 yf yl;refine (OX r2 r1 HR2.o.2.2 HR1.o.2.2 (by rw [HR2.o.1,HR1.o.1];exact HLE.o) (by rw [HR2.o.1];exact Nat.lt_trans HM2.o (Nat.pow_lt_pow_right AB AB)) w6).mono ?_;rintro e7 w7 ⟨r,rfl,hr,b0⟩;rw [HR2.o.1,HR1.o.1] at hr;obtain ⟨d,hd⟩:=eqx (O-m1);rw [<-hd] at hr;have HRR:=Hd hr;have hdl:m1+d=O:=IK;obtain ⟨HX7,U,Y⟩:=Hd3 (HX6.o.trans b0) (HE6.o.keep (b0.kept _)) (HBX6.o.keep (b0.kept _));have hrz:=If hr.2.1;have HD:=Hd hdl;obtain ⟨z0,z1,z2⟩:=U.o.qs3;have zf:=U.o.frozen;have zl:=U.o.lt;obtain ⟨x0,x1,x2⟩:=Y.o.qs3;have xf:=Y.o.frozen;have xl:=Y.o.lt;by_cases h0:d=0
   ·have a9:r.size=0:=hrz.2 (hr.1.trans h0);have hs1:¬0<r.size:=AA;clear a9;have H0:=Hd h0;clear h0;have hz:=((U.o.set 0 (.bool false)).set 1 (.string r)).set 2 (.I (S:Int));obtain ⟨d0,d1,d2⟩:=hz.qs3;have dl:=hz.lt;have HF:=Hd (show sv false d=sv true m1+sv false O by have:=HD.o;have:=H0.o;simp [sv];omega);exact JL
   ·have a9:r.size≠0:=λe=>h0 (hr.1.symm.trans (hrz.1 e));have hs1:0<r.size:=AA;clear a9;have hz:=((U.o.set 0 (.bool false)).set 1 (.string r)).set 2 (.I (S:Int));obtain ⟨d0,d1,d2⟩:=hz.qs3;have dl:=hz.lt;have HF:=Hd (show sv false d=sv true m1+sv false O by have:=HD.o;simp [sv];omega);exact JL
  ·have hc:¬Fv m1 O<0:=(by unfold Fv;rw [if_neg hlt];split<;>decide);obtain ⟨cn,b5⟩:=eqx (Fv m1 O);rw [<-b5] at hc|-;clear b5;obtain ⟨z0,z1,z2⟩:=Z.o.qs3;have zf:=Z.o.frozen;have zl:=Z.o.lt;obtain ⟨x0,x1,x2⟩:=HBX4.o.qs3;have xf:=HBX4.o.frozen;have xl:=HBX4.o.lt;obtain ⟨y0,y1,y2⟩:=HBY.o.qs3;have yf:=HBY.o.frozen;have yl:=HBY.o.lt
   go_wp2_with fail
   obtain ⟨w6,hw6⟩:=eqx w4;have b3:Kept (λb=>b=g3) w4 w6:=(by rw [hw6];exact Kept.refl _ _);have b6:Ext w w6:=(by rw [hw6];exact HX4.o);have a8:Blk w6 gx 159 #[.bool true,.string r1,.I (S:Int)]:=(by rw [hw6];exact HBX4.o);rw [<-hw6];obtain ⟨HBX6,HX6,HE6⟩:=Hd3 a8 b6 (Z.o.keep b3);have hle:O<=m1:=AA;have HLE:=Hd hle;clear hw6 b3 b6 a8 hle hlt hc z0 z1 z2 zf zl x0 x1 x2 xf xl y0 y1 y2 yf yl;refine (OX r1 r2 HR1.o.2.2 HR2.o.2.2 (by rw [HR1.o.1,HR2.o.1];exact HLE.o) (by rw [HR1.o.1];exact Nat.lt_trans HM1.o (Nat.pow_lt_pow_right AB AB)) w6).mono ?_;rintro e7 w7 ⟨r,rfl,hr,b0⟩;rw [HR1.o.1,HR2.o.1] at hr;obtain ⟨d,hd⟩:=eqx (m1-O);rw [<-hd] at hr;have HRR:=Hd hr;have hdl:O+d=m1:=IK;obtain ⟨HX7,U,Y⟩:=Hd3 (HX6.o.trans b0) (HE6.o.keep (b0.kept _)) (HBX6.o.keep (b0.kept _));have hrz:=If hr.2.1;have HD:=Hd hdl;obtain ⟨z0,z1,z2⟩:=U.o.qs3;have zf:=U.o.frozen;have zl:=U.o.lt;obtain ⟨x0,x1,x2⟩:=Y.o.qs3;have xf:=Y.o.frozen;have xl:=Y.o.lt;by_cases h0:d=0
   ·have a9:r.size=0:=hrz.2 (hr.1.trans h0);have hs1:¬0<r.size:=AA;clear a9;have H0:=Hd h0;clear h0;have hz:=((U.o.set 0 (.bool false)).set 1 (.string r)).set 2 (.I (S:Int));obtain ⟨d0,d1,d2⟩:=hz.qs3;have dl:=hz.lt;have HF:=Hd (show sv false d=sv true m1+sv false O by have:=HD.o;have:=H0.o;simp [sv];omega);exact Lh
   ·have a9:r.size≠0:=λe=>h0 (hr.1.symm.trans (hrz.1 e));have hs1:0<r.size:=AA;clear a9;have hz:=((U.o.set 0 (.bool true)).set 1 (.string r)).set 2 (.I (S:Int));obtain ⟨d0,d1,d2⟩:=hz.qs3;have dl:=hz.lt;have HF:=Hd (show sv true d=sv true m1+sv false O by have:=HD.o;simp [sv];omega);have HDL:=Hd (show d<256^50 by have h1:=HD.o;have h2:=Nat.lt_trans HM1.o (show (256:Nat)^40<256^50 from Nat.pow_lt_pow_right AB AB);omega);exact Tw
 ·go_upto_region 4 with fail
  rw [<-HW4.o,<-HGY.o];clear x0 x1 x2 xf xl;refine Qb (λi=>[i]) (λm b=>m=1010/\b=g3) [(10,[1010])] ?_;refine Qp ?_;refine Qm (λV F J L hR hN hp hρ zs zg=>by
   exact DV) ?_
  refine Qp ?_;refine Qm (λV F J L hR hN hp hρ zs zg=>by
   exact DV) ?_
  refine Qp ?_;refine Qm (λV F J L hR hN hp hρ zs zg=>by
   exact DV) ?_
  refine Qs (FP λv F J=>∃ r,v=.string r/\isN r (m1+O)) (H1A ?_) ?_ ?_
  ·intro v F w1 γ' w2 r h;exact h
  ·exact Rz
  refine Qp ?_;refine Qm (λV F J L hR hN hp hρ zs zg=>by
   exact DV) ?_
  refine Qs (FP λv F J=>∃ r,v=.agg #[.bool true,.string r,.I (S:Int)]/\isN r (m1+O)) (H1A ?_) ?_ ?_
  ·intro v F w1 γ' w2 r h;exact h
  ·exact Qh
  refine Qs (λ_ F J=>∃ r,(Blk J g3 159 #[.bool true,.string r,.I (S:Int)]/\F 1010=some none/\Ec F g3)/\isN r (m1+O)) ?_ ?_ ?_
  ·exact Kl
  ·intro V F J L hR hN hp hρ zs zg;obtain ⟨r,hv9,b4⟩:=hp.o 9 AB;have e38:=(hρ.o 38).trans hv9;have HN9:=Hd b4;clear b4;have HR:=hR;have hk0:=hR.o.key0 hN.o (k:=1010) AB AB;have HK:=Hd hk0;have hb0:=Z.o.keep ((Kept.drew _ _).trans (hR.o.keptS (S:=λb=>b=g3) λb _ e=>⟨Nu b,λm hm=>CF⟩));have HB0:=Hd hb0;obtain ⟨q0,q1,q2⟩:=hb0.qs3;have qf:=hb0.frozen;have ql:=hb0.lt;clear hk0 hb0;refine Qr ?_;refine ⟨F.put 1010 none,ILA HK.o rfl rfl rfl Y78171d3d0 (λb hb hm=>(((((Only.refl g3 J).set 0 (.bool true)).set 1 (.string r)).set 2 (.I (S:Int)))).block b λe=>hm ⟨rfl,e⟩),LM.done AB (.inr AB),?_⟩;have hb1:=HB0.o;exact ⟨r,⟨by simpa using (((hb1.set 0 (.bool true)).set 1 (.string r)).set 2 (.I (S:Int))),rfl,λ⟨k',hk'⟩=>by unfold Gh.put at hk';split at hk';(cases hk');exact absurd (HR.o.old k' _ hk' (by have:=Z.o.lt;exact this)) (by simp [gh0])⟩,HN9.o⟩
  intro V F w9 hR hG;obtain ⟨q6,v6,-⟩:=hG 6 AB;obtain ⟨q9,v9,-⟩:=hG 9 AB;refine Qx ?_;simp only [v6,v9];clear v6 v9;obtain ⟨r,⟨hb9,-,-⟩,b4⟩:=hG 10 AB;obtain ⟨c0,c1,c2⟩:=hb9.qs3;have cl:=hb9.lt;have HX9:=Hd (hR.extB HX4.o λm b hm=>IZ);have HN9:=Hd b4;clear hb9 b4 hR hG;go_wp2;refine bodyPost_ret (v:=.agg #[.bool true,.string r,.I (S:Int)]) (by simp [results,results162,go_sem,c0,c1,c2]) rfl ⟨true,r,m1+O,rfl,HN9.o,by simp [sv];try omega,?_,HX9.o⟩;exact Nat.lt_of_lt_of_le (Nat.add_lt_add HM1.o HM2.o) AB

theorem Yg:∀ S:Nat,S<7->∀ s:Nat,s<S+1->pw (6-(s:Int))=((10^(S-s):Nat):Int)*pw (6-(S:Int)):=by decide
theorem FwA:∀ S:Nat,S<7->0<pw (6-(S:Int)):=by decide
theorem F1A(v:Int):sv (decide (v<0)) v.natAbs=v:=by unfold sv;by_cases h:v<0<;>simp [h]<;>omega
theorem GSA(v:Int):sv (!decide (v<0)) v.natAbs=-v:=by unfold sv;by_cases h:v<0<;>simp [h]<;>omega
theorem DDA(b:Bool)(n k:Nat):sv b (n*k)=sv b n*(k:Int):=by cases b<;>simp [sv,Int.neg_mul]
structure Dc(a b v:Int)(s:Nat):Prop where
 mu:mu a b=v*pw (6-(s:Int))
 s6:s<=6
 v1:(Bg a b).1=v
 v2:(Bg a b).2.toNat=s
 lo:-1000000000000000<=v
 hi:v<=1000000000000000
theorem IXA(a b:Int):∃ v s,Dc a b v s:=by
 have h:=GX a b;refine ⟨(Bg a b).1,(Bg a b).2.toNat,?_,AA,rfl,rfl,h.2.2.1,h.2.2.2⟩;rw [Int.toNat_of_nonneg h.1];rfl
theorem Dc.lt{a b v:Int}{s:Nat}(h:Dc a b v s):v.natAbs<256^20:=by
 have h1:=h.lo;have h2:=h.hi;exact Nat.lt_of_le_of_lt (show v.natAbs<=1000000000000000 by omega) AB
theorem GCA{a b v a' b' v':Int}{s s' S:Nat}(h:Dc a b v s)(h':Dc a' b' v' s')(hS:S=max s s'):(v*((10^(S-s):Nat):Int)+(-v')*((10^(S-s'):Nat):Int))*pw (6-(S:Int))=mu a b-mu a' b':=by
 have h1:=h.s6;have h2:=h'.s6;rw [h.mu,h'.mu,Yg S AA s AA,Yg S AA s' AA,Int.add_mul,Int.neg_mul,Int.neg_mul,Int.mul_assoc,Int.mul_assoc];exact Int.sub_eq_add_neg.symm
theorem ECA{V_ p x y:Int}(hp:0<p)(h:V_*p=x-y):(V_=0->CG x y=0)/\(V_<0->CG x y=-1)/\(0<V_->CG x y=1):=by
 refine ⟨λh0 => ?_,λh0 => ?_,λh0 => ?_⟩
 ·rw [h0,Int.zero_mul] at h;unfold CG;rw [if_neg AA,if_neg AA]
 ·have:=Int.mul_neg_of_neg_of_pos h0 hp;unfold CG;rw [if_pos AA]
 ·have:=Int.mul_pos h0 hp;unfold CG;rw [if_neg AA,if_pos AA]
theorem PN(h:qP:=by
 clear hrz;go_wp2;go_ret;exact ⟨by rw [HF.o];rfl,HX5.o.alloc _⟩):qP:=h
theorem NK(a b a' b':Int)(w:World):Cl 85 #[.agg #[.I a,.I b],.agg #[.I a',.I b']] w (DG w (CG (mu a b) (mu a' b'))):=by
 obtain ⟨v1,s1,U⟩:=IXA a b;obtain ⟨v2,s2,Z⟩:=IXA a' b';obtain ⟨S,hS⟩:=eqx (max s1 s2);have b6:=GCA U Z hS;have b8:=ECA (FwA S (by have:=U.s6;have:=Z.s6;omega)) b6;obtain ⟨O,HD1,HD2,HS⟩:=Hd4 b8 U Z hS;obtain ⟨n1,hn1⟩:=eqx (decide (v1<0));obtain ⟨n2,hn2⟩:=eqx (decide (v2<0));have HN1:=Hd hn1;have HN2:=Hd hn2;clear b6 b8 U Z hS hn1 hn2;obtain ⟨w0,hw0⟩:=eqx ((w.alloc (.cells #[.I a,.I b] 28)).alloc (.cells #[.I a',.I b'] 28));have hb1:Blk w0 w.heap.size 28 #[.I a,.I b]:=Im;have hb2:Blk w0 (w.heap.size+1) 28 #[.I a',.I b']:=by
  rw [hw0];have:=Blk.new (w.alloc (.cells #[.I a,.I b] 28)) 28 #[.I a',.I b']
  simpa using this
 have hx0:Ext w w0:=Bh;obtain ⟨d3,HX0,HB2⟩:=Hd3 hw0 hx0 hb2;clear hw0 hx0 hb1 hb2
 go_enter func85,ntmps85
 go_wp2_with fail
 rw [<-d3.o];refine (CQA a b w0).mono ?_;rintro e1 w1 ⟨N1,rfl,b0,hx1⟩;rw [HD1.o.v1,HD1.o.v2,<-HN1.o];rw [HD1.o.v1] at b0;have HR1:=Hd b0;obtain ⟨w2,Y⟩:=eqx (w1.alloc (.cells #[.bool n1,.string N1,.I (s1:Int)] 159));obtain ⟨gx,b5⟩:=eqx w1.heap.size;have b4:Ext w1 w2:=(by rw [Y];exact (Ext.refl _).alloc _);have b9:=Hd (show Blk w2 gx 159 #[.bool n1,.string N1,.I (s1:Int)] by rw [Y,b5];exact Blk.new _ _ _);have HX2:=Hd (HX0.o.trans (hx1.trans b4));have hb2:=HB2.o.keep (hx1.kept _);obtain ⟨p0,p1⟩:=hb2.qs2;have pl:=hb2.lt;have hgw:w.heap.size<=gx:=(by have:=HX0.o.size;have:=hx1.size;omega);have d4:=Hd Y;have HGX:=Hd b5;clear b0 hx1 Y b5 b4 hb2 HB2 HX0 d3
 go_wp2_with fail
 rw [<-d4.o,<-HGX.o];clear p0 p1 pl;refine (CQA a' b' w2).mono ?_;rintro e3 w3 ⟨N2,rfl,a9,hx3⟩;rw [HD2.o.v1,HD2.o.v2,<-HN2.o];rw [HD2.o.v1] at a9;have HR2:=Hd a9;obtain ⟨w4,b7⟩:=eqx (w3.alloc (.cells #[.bool (!n2),.string N2,.I (s2:Int)] 159));have a8:Ext w3 w4:=(by rw [b7];exact (Ext.refl _).alloc _);have HX4:=Hd (HX2.o.trans (hx3.trans a8));have hbx:=b9.o.keep (hx3.kept _);obtain ⟨q0,q1,q2⟩:=hbx.qs3;have ql:=hbx.lt;have HW4:=Hd b7;clear a9 hx3 b7 a8 hbx HX2 d4 b9
 go_wp2_with fail
 rw [<-HW4.o];refine (DYA n1 (!n2) N1 N2 s1 s2 S HR1.o.2.2 HR2.o.2.2 (by rw [HR1.o.1];exact HD1.o.lt) (by rw [HR2.o.1];exact HD2.o.lt) HD1.o.s6 HD2.o.s6 HS.o w4).mono ?_;rintro e5 w5 ⟨neg,r,n,rfl,hr,b3,-,hx5⟩;rw [HR1.o.1,HR2.o.1,DDA,DDA,HN1.o,HN2.o,F1A,GSA] at b3;rw [<-b3] at O;have hrz:=If hr.2.1;rw [hr.1] at hrz;have HX5:=Hd (HX4.o.trans hx5);clear b3 hr hx5 q0 q1 q2 ql;by_cases h0:n=0
 ·have hf:=O.o.1 (by subst h0;cases neg<;>rfl);have HF:=Hd hf;have hs0:((r.size:Int)==0)=true:=(by rw [hrz.2 h0];rfl);clear hf hrz;go_wp2;go_ret;exact ⟨BB,HX5.o.alloc _⟩
 ·have hs0:((r.size:Int)==0)=false:=(by rw [beq_eq_false_iff_ne];intro e;exact h0 (hrz.1 AA));cases neg
  ·have HF:=Hd (O.o.2.2 (by simp [sv];omega));exact PN
  ·have HF:=Hd (O.o.2.1 (by simp [sv];omega));exact PN

theorem I4(h:qP:=by
 go_enter func11,ntmps11
 go_wp2;go_ret;exact ⟨by rw [HF.o,decide_eq_false (by omega),Bool.false_and];rfl,(exbb w)⟩):qP:=h
theorem Xj(q:Nat)(x:Val)(A B:OA)(c e:Nat)(w:World)(S:NP)(h:RV w S q x A B)(hk:x.kind=0):Cl 11 #[(Vq x A c B e)] w (Ae w (BG x)):=by
 have hf:BG x=(decide (0<=x.n/\x.n<=99)&&decide (x=⟨x.kind,⟨#[]⟩,0,0,x.n,[],[]⟩)):=by
  cases x;simp_all [BG,KU]
 have HF:=Hd hf;have H:=Hd h;have O:(x.kind==0)=true:=AF;have k1:(x.kind==1)=false:=AF;have k2:(x.kind==2)=false:=AF;have k3:(x.kind==3)=false:=AF;have k4:(x.kind==4)=false:=AF;have k5:(x.kind==5)=false:=AF;clear hf hk h;by_cases h1:0<=x.n
 ·by_cases h2:x.n<=99
  ·go_enter func11,ntmps11
   go_wp2_with fail
   refine (Dn q x ⟨x.kind,⟨#[]⟩,0,0,x.n,[],[]⟩ A B none none c e 0 0 _ S S (H.o.keep ((exbb w).kept _)) (RV.mk (AN) Strs.nil Rows.nil)).mono ?_;rintro e1 w2 ⟨rfl,hx2⟩;have HX2:=Hd hx2;clear hx2;go_wp2;go_ret;exact ⟨by rw [HF.o,decide_eq_true (show (0<=x.n/\x.n<=99) from ⟨h1,h2⟩),Bool.true_and];rfl,Ext.trans (exbb w) HX2.o⟩
  ·exact I4
 ·exact I4

theorem Xm(q:Nat)(x:Val)(A B:OA)(c e:Nat)(w:World)(S:NP)(h:RV w S q x A B)(hk:x.kind=1):Cl 11 #[(Vq x A c B e)] w (Ae w (BG x)):=by
 have hf:BG x=(Ca x.s&&decide (x=⟨x.kind,x.s,0,0,0,[],[]⟩)):=by
  cases x;simp_all [BG,KU]
 have HF:=Hd hf;have H:=Hd h;have O:(x.kind==0)=false:=AF;have k1:(x.kind==1)=true:=AF;have k2:(x.kind==2)=false:=AF;have k3:(x.kind==3)=false:=AF;have k4:(x.kind==4)=false:=AF;have k5:(x.kind==5)=false:=AF;clear hf hk h;have hs:=H.o.size;cases ht:Ca x.s
 ·have HT:=Hd ht;clear ht
  go_enter func11,ntmps11
  go_wp2_with (go_at_call 47;refine (Wi _ hs _).mono ?_;rintro e J ⟨rfl,rfl⟩;rw [HT.o])
  go_ret;exact ⟨by rw [HF.o,HT.o];rfl,(exbb w)⟩
 ·have HT:=Hd ht;clear ht
  go_enter func11,ntmps11
  go_wp2_with (go_at_call 47;refine (Wi _ hs _).mono ?_;rintro e J ⟨rfl,rfl⟩;rw [HT.o])
  refine (Dn q x ⟨x.kind,x.s,0,0,0,[],[]⟩ A B none none c e 0 0 _ S S (H.o.keep ((exbb w).kept _)) (RV.mk H.o.size Strs.nil Rows.nil)).mono ?_;rintro e1 w2 ⟨rfl,hx2⟩;have HX2:=Hd hx2;clear hx2;go_wp2;go_ret;exact ⟨by rw [HF.o,HT.o,Bool.true_and];rfl,Ext.trans (exbb w) HX2.o⟩

theorem Kf(q:Nat)(x:Val)(A B:OA)(c e:Nat)(w:World)(S:NP)(h:RV w S q x A B)(hk:x.kind=2):Cl 11 #[(Vq x A c B e)] w (Ae w (BG x)):=by
 have hf:BG x=(Dz x.dn x.ds&&decide (x=⟨x.kind,⟨#[]⟩,x.dn,x.ds,0,[],[]⟩)):=by
  cases x;simp_all [BG,KU]
 have HF:=Hd hf;have H:=Hd h;have k0:(x.kind==0)=false:=AF;have k1:(x.kind==1)=false:=AF;have k2:(x.kind==2)=true:=AF;have k3:(x.kind==3)=false:=AF;have k4:(x.kind==4)=false:=AF;have k5:(x.kind==5)=false:=AF;clear hf hk h
 go_enter func11,ntmps11
 go_wp2_with fail
 refine (Ns x.dn x.ds _).mono ?_;rintro e1 w1 ⟨rfl,hx1⟩;obtain ⟨Y,O⟩:=Wm hx1;have U:=hx1.size;simp at Y O U;have a8:w.heap.size<w1.heap.size:=AA;have Z:w.heap.size+1<w1.heap.size:=AA;have HX:=Hd hx1;cases ht:Dz x.dn x.ds
 ·have HT:=Hd ht;clear ht hx1;exact S3
 ·have HT:=Hd ht;clear ht hx1
  go_wp2_with fail
  refine (Dn q x ⟨x.kind,⟨#[]⟩,x.dn,x.ds,0,[],[]⟩ A B none none c e 0 0 _ S S (H.o.keep ((Ext.trans (exbb w) HX.o).kept _)) (RV.mk (AN) Strs.nil Rows.nil)).mono ?_;rintro e1 w2 ⟨rfl,hx2⟩;have HX2:=Hd hx2;clear hx2;go_wp2;go_ret;exact ⟨by rw [HF.o,HT.o,Bool.true_and];rfl,Ext.trans (Ext.trans (exbb w) HX.o) HX2.o⟩

theorem Kn(q:Nat)(x:Val)(A B:OA)(c e:Nat)(w:World)(S:NP)(h:RV w S q x A B)(hk:x.kind=3):Cl 11 #[(Vq x A c B e)] w (Ae w (BG x)):=by
 have hf:BG x=(decide (0<=x.n/\x.n<=3652058)&&decide (x=⟨x.kind,⟨#[]⟩,0,0,x.n,[],[]⟩)):=by
  cases x;simp_all [BG,KU]
 have HF:=Hd hf;have H:=Hd h;have O:(x.kind==0)=false:=AF;have k1:(x.kind==1)=false:=AF;have k2:(x.kind==2)=false:=AF;have k3:(x.kind==3)=true:=AF;have k4:(x.kind==4)=false:=AF;have k5:(x.kind==5)=false:=AF;clear hf hk h;by_cases h1:0<=x.n
 ·by_cases h2:x.n<=3652058
  ·go_enter func11,ntmps11
   go_wp2_with fail
   refine (Dn q x ⟨x.kind,⟨#[]⟩,0,0,x.n,[],[]⟩ A B none none c e 0 0 _ S S (H.o.keep ((exbb w).kept _)) (RV.mk (AN) Strs.nil Rows.nil)).mono ?_;rintro e1 w2 ⟨rfl,hx2⟩;have HX2:=Hd hx2;clear hx2;go_wp2;go_ret;exact ⟨by rw [HF.o,decide_eq_true (show (0<=x.n/\x.n<=3652058) from ⟨h1,h2⟩),Bool.true_and];rfl,Ext.trans (exbb w) HX2.o⟩
  ·exact I4
 ·exact I4

theorem X9(q:Nat)(x:Val)(A B:OA)(c e:Nat)(w:World)(S:NP)(h:RV w S q x A B)(hk:x.kind=4):Cl 11 #[(Vq x A c B e)] w (Ae w (BG x)):=by
 have hf:BG x=(decide (x.n=0\/x.n=1)&&decide (x=⟨x.kind,⟨#[]⟩,0,0,x.n,[],[]⟩)):=by
  cases x;simp_all [BG,KU]
 have HF:=Hd hf;have H:=Hd h;have O:(x.kind==0)=false:=AF;have k1:(x.kind==1)=false:=AF;have k2:(x.kind==2)=false:=AF;have k3:(x.kind==3)=false:=AF;have k4:(x.kind==4)=true:=AF;have k5:(x.kind==5)=false:=AF;clear hf hk h;by_cases h1:x.n=0
 ·have n0:(x.n==0)=true:=(by simp [h1]);have H1:=Hd h1;clear h1
  go_enter func11,ntmps11
  go_wp2_with fail
  refine (Dn q x ⟨x.kind,⟨#[]⟩,0,0,x.n,[],[]⟩ A B none none c e 0 0 _ S S (H.o.keep ((exbb w).kept _)) (RV.mk (AN) Strs.nil Rows.nil)).mono ?_;rintro e1 w2 ⟨rfl,hx2⟩;have HX2:=Hd hx2;clear hx2;go_wp2;go_ret;exact ⟨by rw [HF.o,decide_eq_true (show x.n=0\/x.n=1 from .inl H1.o),Bool.true_and];rfl,Ext.trans (exbb w) HX2.o⟩
 ·have n0:(x.n==0)=false:=(by simp [h1]);have H1:=Hd h1;clear h1;by_cases h2:x.n=1
  ·have n1:(x.n==1)=true:=DZ;have H2:=Hd h2;clear h2
   go_enter func11,ntmps11
   go_wp2_with fail
   refine (Dn q x ⟨x.kind,⟨#[]⟩,0,0,x.n,[],[]⟩ A B none none c e 0 0 _ S S (H.o.keep ((exbb w).kept _)) (RV.mk (AN) Strs.nil Rows.nil)).mono ?_;rintro e1 w2 ⟨rfl,hx2⟩;have HX2:=Hd hx2;clear hx2;go_wp2;go_ret;exact ⟨by rw [HF.o,decide_eq_true (show x.n=0\/x.n=1 from .inr H2.o),Bool.true_and];rfl,Ext.trans (exbb w) HX2.o⟩
  ·have n1:(x.n==1)=false:=DZ;have H2:=Hd h2;clear h2
   go_enter func11,ntmps11
   go_wp2;go_ret;exact ⟨by rw [HF.o,decide_eq_false (show ¬(x.n=0\/x.n=1) from λh=>h.elim H1.o H2.o),Bool.false_and];rfl,(exbb w)⟩

theorem Ji(q:Nat)(x:Val)(A B:OA)(c e:Nat)(w:World)(S:NP)(h:RV w S q x A B)(hk:x.kind≠5):Cl 11 #[(Vq x A c B e)] w (Ae w (BG x)):=by
 by_cases g0:x.kind=0
 ·exact Xj q x A B c e w S h g0
 by_cases g1:x.kind=1
 ·exact Xm q x A B c e w S h g1
 by_cases g2:x.kind=2
 ·exact Kf q x A B c e w S h g2
 by_cases g3:x.kind=3
 ·exact Kn q x A B c e w S h g3
 by_cases g4:x.kind=4
 ·exact X9 q x A B c e w S h g4
 have hf:BG x=false:=(by simp [BG,g0,g1,g2,g3,g4]);have HF:=Hd hf;have O:(x.kind==0)=false:=(by simp [g0]);have k1:(x.kind==1)=false:=(by simp [g1]);have k2:(x.kind==2)=false:=(by simp [g2]);have k3:(x.kind==3)=false:=(by simp [g3]);have k4:(x.kind==4)=false:=(by simp [g4]);have k5:(x.kind==5)=false:=AF;clear hf hk h g0 g1 g2 g3 g4
 go_enter func11,ntmps11
 go_wp2;go_ret;exact ⟨BB,(exbb w)⟩

theorem Of(h:qP:=by
 go_enter func49,ntmps49
 go_wp2_with (go_at_call 108;refine (WZ A c cols _ S HSA.o).mono ?_;rintro e1 w1 ⟨rfl,n1,rfl⟩;rw [HN.o])
 go_ret;exact ⟨by rw [HF.o];rfl,(Ext.refl _).drewN _⟩):qP:=h
theorem D9A(q:Nat)(cols:List BA)(rows:List (List Val))(A B:OA)(c e:Nat)(w:World)(S T:NP)(hA:Strs w S A cols)(hB:Rows w T q B rows) :
  Cl 49 #[.slice A cols.length c,.slice B rows.length e] w (Ae w (BK cols rows)):=by
 have hn:=hA.2.1;have hm:=hB.len;have HSA:=Hd hA;have HSB:=Hd hB;clear hA hB;cases hnm:XP cols
 case false =>
  have HN:=Hd hnm;have HF:=Hd (show BK cols rows=false by unfold BK;rw [show (List.range cols.length).all (Fj cols)=false from hnm];simp);clear hnm;exact Of
 have HN:=Hd hnm;clear hnm;by_cases h1:cols.length<=8
 case neg =>
  have HF:=Hd (show BK cols rows=false by unfold BK;rw [decide_eq_false AA];rfl);have Z:(8:Int)<(cols.length:Int):=AA;exact Of
 by_cases h2:rows.length<=100
 case neg =>
  have HF:=Hd (show BK cols rows=false by unfold BK;rw [decide_eq_false AA];rfl);have Z:¬(8:Int)<(cols.length:Int):=AA;have h2':(100:Int)<(rows.length:Int):=AA;exact Of
 have Z:¬(8:Int)<(cols.length:Int):=AA;have h2':¬(100:Int)<(rows.length:Int):=AA;have h3':(cols.length:Int)<=8:=AA;have h4':(rows.length:Int)<=100:=AA
 go_enter func49,ntmps49
 go_wp2_with (go_at_call 108;refine (WZ A c cols _ S HSA.o).mono ?_;rintro e1 w1 ⟨rfl,n1,rfl⟩;rw [HN.o])
 go_loopw [6] (λi wr=>∃ k:Nat,k<=rows.length/\i=.I k/\Ext w wr/\∀ j (h:j<rows.length),j<k->Ew cols.length rows[j]=true) (λi _=>rows.length-(intOf i).toNat)
 case atStart=>exact ⟨0,AN,rfl,(Ext.refl _).drewN _,AK⟩
 case round =>
  obtain ⟨i,hi,rfl,hext,hall⟩:=hrel;have HR:=Hd hall;have HE:=Hd hext;clear hall;by_cases hlt2:i<rows.length
  ·obtain ⟨b1,o1,A2,c2,rfl,z1,p0,hcr,U⟩:=(HSB.o.keep (hext.kept T)).at_ hlt2;have hrl:=U.len;have a8:=Hd U;clear U hext;by_cases hln:rows[i].length=cols.length
   ·have hn1:((rows[i].length:Int) != (cols.length:Int))=false:=(by simp [hln]);have HLN:=Hd hln;clear hln;go_wp2;obtain ⟨wo,rfl⟩:∃ wo:World,wo=wr:=⟨_,rfl⟩;have HP0:=Hd p0;clear p0
    go_loopw [7] (λv wi=>∃ j:Nat,j<=rows[i].length/\v=.I j/\Ext wo wi/\∀ m (h:m<rows[i].length),m<j->DU rows[i][m]=true) (λv _=>rows[i].length-(intOf v).toNat)
    case atStart=>exact ⟨0,AN,rfl,Ext.refl _,AK⟩
    case round =>
     obtain ⟨j,hj,rfl,O,Y⟩:=hrel;have HI:=Hd Y;have HEI:=Hd O;have p0:=O.cell HP0.o;have z1':=Nat.lt_of_lt_of_le z1 O.size;clear Y;by_cases hlt3:j<rows[i].length
     ·obtain ⟨b2,o2,A5,c5,B5,e5,rfl,z2,⟨q0,q1,q2,q3,q4,q5,q6⟩,⟨hq,_,_⟩,hv⟩:=(a8.o.keep (O.kept T)).at_ hlt3;have HV:=Hd hv;clear hv O;by_cases hk5:rows[i][j].kind=5
      ·have hk5':(rows[i][j].kind==5)=true:=(by simp [hk5]);have HF:=Hd (show BK cols rows=false by
        exact Pp)
       clear hk5;go_wp2;go_ret;exact ⟨BB,HE.o.trans HEI.o⟩
      ·have hk5':(rows[i][j].kind==5)=false:=(by simp [hk5]);have HK5:=Hd hk5;clear hk5
       go_wp2_with fail
       refine (Ji (q-1) rows[i][j] A5 B5 c5 e5 _ T HV.o HK5.o).mono ?_;rintro e1 w1 ⟨rfl,hx1⟩;have HX1:=Hd hx1;clear hx1;cases hfl:BG rows[i][j]
       ·have HF:=Hd (show BK cols rows=false by
         exact Uz)
        clear hfl;go_wp2;go_ret;exact ⟨BB,HE.o.trans (HEI.o.trans HX1.o)⟩
       ·have HFL:=Hd (show DU rows[i][j]=true by simp [DU,hfl,HK5.o]);clear hfl;go_wp2;go_roundw
        case rel =>
         refine ⟨j+1,AA,AE,HEI.o.trans HX1.o,λm h hm => ?_⟩;exact QZ
        case measure=>simp [intOf];omega
     ·have HRO:=Hd (show Ew cols.length rows[i]=true by
       exact Tg)
      clear O;exact U2
   ·exact Sn
  ·have HF:=Hd (show BK cols rows=true by
    unfold BK;rw [show (List.range cols.length).all (Fj cols)=true from HN.o,CH rows (Ew cols.length) (λj h=>HR.o j h AA),decide_eq_true ⟨h1,h2⟩];rfl)
   exact FC

theorem Yz(q:Nat)(x:Val)(A B:OA)(c e:Nat)(w:World)(S:NP)(h:RV w S q x A B)(hk:x.kind=5):Cl 11 #[(Vq x A c B e)] w (Ae w (BC x)):=by
 have hf:BC x=(BK x.cols x.rows&&decide (x=⟨x.kind,⟨#[]⟩,0,0,0,x.cols,x.rows⟩)):=by
  cases x;simp_all [BC,KU]
 have HF:=Hd hf;have H:=Hd h;have k0:(x.kind==0)=false:=AF;have k1:(x.kind==1)=false:=AF;have k2:(x.kind==2)=false:=AF;have k3:(x.kind==3)=false:=AF;have k4:(x.kind==4)=false:=AF;have k5:(x.kind==5)=true:=AF;clear hf hk h
 go_enter func11,ntmps11
 go_wp2_with fail
 refine (D9A q x.cols x.rows A B c e _ S S (H.o.strs.keep ((exbb w).kept _)) (H.o.rows_.keep ((exbb w).kept _))).mono ?_;rintro e1 w1 ⟨rfl,hx1⟩;obtain ⟨Y,O⟩:=Wm hx1;have U:=hx1.size;simp at Y O U;have a8:w.heap.size<w1.heap.size:=AA;have Z:w.heap.size+1<w1.heap.size:=AA;have HX:=Hd hx1;cases ht:BK x.cols x.rows
 ·exact Ko
 ·have HT:=Hd ht;clear ht hx1
  go_wp2_with fail
  have HY:=Hd (H.o.keep ((Ext.trans (exbb w) HX.o).kept S));refine (Dn q x ⟨x.kind,⟨#[]⟩,0,0,0,x.cols,x.rows⟩ A B A B c e c e _ S S HY.o (RV.mk (AN) HY.o.strs HY.o.rows_)).mono ?_;rintro e1 w2 ⟨rfl,hx2⟩;have HX2:=Hd hx2;clear hx2;go_wp2;go_ret;exact ⟨by rw [HF.o,HT.o,Bool.true_and];rfl,Ext.trans (exbb w) (Ext.trans HX.o HX2.o)⟩

theorem C8A(q:Nat)(x:Val)(A B:OA)(c e:Nat)(w:World)(S:NP)(h:RV w S q x A B):Cl 11 #[(Vq x A c B e)] w (Ae w (BC x)):=by
 by_cases hk:x.kind=5
 ·exact Yz q x A B c e w S h hk
 ·have:=Ji q x A B c e w S h hk;rwa [show BG x=BC x by simp [BC,hk]] at this




theorem OwnN.of_blk{w:World}{base g:Nat}{l:List Nat}(h:Blk w g 3 (DD l))(hg:base<=g)(hl:l.length<=4294967296):OwnN w base (some ⟨g,0,none⟩) l.length l:=by
 refine ⟨by simp [Ds],.inr ⟨g,l.length,DD l,rfl,hg,h,Al,Bd,by rw [X8];omega,?_⟩⟩;rw [List.take_of_length_le (by simp [DD,Ds])];simp [DD]
def RetNB(w:World)(l:List Nat)(e:Ending)(J:World):Prop:=∃ g,e=.returned (.slice (some ⟨g,0,none⟩) l.length l.length)/\w.heap.size<=g/\Blk J g 3 (DD l)/\Ext w J
theorem RetNB.ret{w J:World}{l:List Nat}{e:Ending}(h:RetNB w l e J)(hl:l.length<=4294967296):HgA w l e J:=by
 obtain ⟨g,h1,h2,h3,h4⟩:=h;exact ⟨_,_,h1,OwnN.of_blk h3 h2 hl,h4⟩

def Nums(w:World)(S:NP)(A:OA)(l:List Nat):Prop:=Rd w S A ((Ds l).map (Value.int .i64))/\l.length<=4294967296
def NN(w:World)(S:NP)(A:OA)(gs:List (List Nat)):Prop :=
 gs.length<=4294967296/\∃ hs:List Value,Rd w S A hs/\hs.length=gs.length/\∀ (i:Nat) (g:List Nat),gs[i]?=some g->∃ (B:OA) (e:Nat),hs[i]?=some (Value.slice B g.length e)/\g.length<=e/\Nums w S B g
section
variable {w J:World}{S T:NP}{A:OA}{l:List Nat}{gs:List (List Nat)}
theorem FPA{l:List Nat}{k:Nat}(h:k<l.length):((Ds l).map (Value.int .i64))[k]?=some (.I ((l[k]:Nat):Int)):=by simp [Ds,h]
theorem Nums.keep(h:Nums w S A l)(k:Kept S w J):Nums J S A l:=⟨h.1.keep k,h.2⟩
theorem Nums.mono(h:Nums w S A l)(k:∀ i,i<w.heap.size->S i->T i):Nums w T A l:=⟨h.1.mono k,h.2⟩
theorem Nums.at_(h:Nums w S A l){k:Nat}(hk:k<l.length):∃ b o,A=some ⟨b,o,none⟩/\b<w.heap.size/\w.cell? ⟨b,o+k,none⟩=some (.I ((l[k]:Nat):Int)):=h.1.at_ (FPA hk)
theorem Nums.take(h:Nums w S A l)(k:Nat):Nums w S A (l.take k):=⟨by have:=h.1.take k;simpa [Ds,List.map_take] using this,by have:=h.2;rw [List.length_take];omega⟩
theorem NN.keep(h:NN w S A gs)(k:Kept S w J):NN J S A gs:=by
 obtain ⟨h0,hs,h1,h2,h3⟩:=h;refine ⟨h0,hs,h1.keep k,h2,λi g hg => ?_⟩;obtain ⟨B,e,h4,h5,h6⟩:=h3 i g hg;exact ⟨B,e,h4,h5,h6.keep k⟩
theorem NN.mono(h:NN w S A gs)(k:∀ i,i<w.heap.size->S i->T i):NN w T A gs:=by
 obtain ⟨h0,hs,h1,h2,h3⟩:=h;refine ⟨h0,hs,h1.mono k,h2,λi g hg => ?_⟩;obtain ⟨B,e,h4,h5,h6⟩:=h3 i g hg;exact ⟨B,e,h4,h5,h6.mono k⟩
theorem NN.at_(h:NN w S A gs){k:Nat}(hk:k<gs.length):∃ b o B e,A=some ⟨b,o,none⟩/\b<w.heap.size/\w.cell? ⟨b,o+k,none⟩=some (.slice B gs[k].length e)/\gs[k].length<=e/\Nums w S B gs[k]:=by
 obtain ⟨h0,hs,h1,h2,h3⟩:=h;obtain ⟨B,e,h4,h5,h6⟩:=h3 k gs[k] (List.getElem?_eq_getElem hk);obtain ⟨b,o,e1,e2,e3⟩:=h1.at_ h4;exact ⟨b,o,B,e,e1,e2,e3,h5,h6⟩
theorem NN.nil:NN w S A []:=⟨AC,[],.inl rfl,rfl,AC⟩
theorem OwnN.nums{base c:Nat}(h:OwnN w base A c l)(hl:l.length<=4294967296):Nums w (λb=>ob A=some b) A l:=⟨Own.rd h,hl⟩
theorem Own.put{base e sz n c g i:Nat}{xs:List Value}(h:Own w base e sz (some ⟨g,0,none⟩) n c xs)(u:Value):Own (w.setCell ⟨g,i,none⟩ u) base e sz (some ⟨g,0,none⟩) n c (xs.set i u):=by
 refine ⟨by rw [List.length_set];exact h.1,?_⟩
 rcases h.2 with ⟨hv,h0⟩|⟨g',cap,cur,hv,hb,hh,U,Y,hcs,ht⟩
 ·cases hv
 ·injection hv with O Z hv3;injection O with O;injection O with O;subst O hv3;refine .inr ⟨g,c,cur.setIfInBounds i u,rfl,hb,Blk.set hh i u,U,Y,by simpa using hcs,?_⟩;rw [Array.toList_setIfInBounds,List.take_set,ht]
end

def hdr(bs:List (Nat × Nat))(gs:List (List Nat)):List Value:=List.zipWith (λb g=>Value.slice (some ⟨b.1,0,none⟩) g.length b.2) bs gs
structure Parts(w:World)(base:Nat)(bs:List (Nat × Nat))(gs:List (List Nat)):Prop where
 len:bs.length=gs.length
 own:∀ (i:Nat) (b:Nat × Nat) (g:List Nat),bs[i]?=some b->gs[i]?=some g->OwnN w base (some ⟨b.1,0,none⟩) b.2 g
 nd:(bs.map (·.1)).Nodup
def OwnNN(w:World)(base:Nat)(A:OA)(c:Nat)(gs:List (List Nat)):Prop :=
 ∃ bs,Parts w base bs gs/\Own w base 22 1 A gs.length c (hdr bs gs)/\∀ b∈bs,ob A≠some b.1
section
variable {w J:World}{base c:Nat}{A:OA}{bs:List (Nat × Nat)}{gs:List (List Nat)}
theorem Parts.keep(h:Parts w base bs gs)(hk:Kept (λb=>b∈bs.map (·.1)) w J):Parts J base bs gs :=
 ⟨h.len,λi b g hb hg=>Own.keep (h.own i b g hb hg) (hk.mono λx _ hx=>by
  have:x=b.1:=(by simp [ob] at hx;exact hx.symm);rw [this];exact List.mem_map.2 ⟨b,List.mem_of_getElem? hb,rfl⟩),h.nd⟩
theorem Parts.nil:Parts w base [] []:=⟨rfl,AC,AC⟩
theorem XO(h:bs.length=gs.length):(hdr bs gs).length=gs.length:=by simp [hdr,h]
theorem GWA{i:Nat}{b:Nat × Nat}{g:List Nat}(hb:bs[i]?=some b)(hg:gs[i]?=some g):(hdr bs gs)[i]?=some (.slice (some ⟨b.1,0,none⟩) g.length b.2):=by
 simp [hdr,List.getElem?_zipWith,hb,hg]
theorem EmA(i:Nat)(b:Nat × Nat)(g:List Nat):(hdr bs gs).set i (.slice (some ⟨b.1,0,none⟩) g.length b.2)=hdr (bs.set i b) (gs.set i g):=by
 apply List.ext_getElem?;intro j;by_cases hj:i=j
 ·subst hj;simp only [hdr,List.getElem?_zipWith,List.getElem?_set_self'];cases h1:bs[i]?<;>cases h2:gs[i]?<;>simp
 ·simp only [hdr,List.getElem?_zipWith,List.getElem?_set_ne hj]
theorem FaA{bs2:List (Nat × Nat)}{gs2:List (List Nat)}(h:bs.length=gs.length):hdr (bs++bs2) (gs++gs2)=hdr bs gs++hdr bs2 gs2:=by
 simp [hdr,List.zipWith_append h]
theorem Parts.lt(h:Parts w base bs gs):∀ b∈bs,base<=b.1/\b.1<w.heap.size:=by
 intro b hb;obtain ⟨i,hi,rfl⟩:=List.mem_iff_getElem.1 hb;have:=h.own i bs[i] (gs[i]'(by rw [<-h.len];exact hi)) (List.getElem?_eq_getElem hi) (List.getElem?_eq_getElem (by rw [<-h.len];exact hi));exact Own.blk this rfl
theorem OwnNN.ext(h:OwnNN w base A c gs)(hx:Ext w J):OwnNN J base A c gs:=by
 obtain ⟨bs,h1,h2,h3⟩:=h;exact ⟨bs,h1.keep (hx.kept _),Own.ext h2 hx,h3⟩
theorem OwnNN.nil(w:World)(base:Nat):OwnNN w base none 0 []:=⟨[],Parts.nil,Own.nil _ _ _ _,AC⟩
theorem OwnNN.blk(h:OwnNN w base A c gs){k:Nat}(hk:ob A=some k):base<=k/\k<w.heap.size:=by
 obtain ⟨bs,h1,h2,h3⟩:=h;exact Own.blk h2 hk
theorem OwnNN.nn(h:OwnNN w base A c gs)(hl:gs.length<=4294967296)(hg:∀ g∈gs,g.length<=4294967296):NN w (λb=>base<=b) A gs:=by
 obtain ⟨bs,h1,h2,h3⟩:=h;refine ⟨hl,hdr bs gs,h2.rd.mono λb _ hb=>(Own.blk h2 hb).1,XO h1.len,λi g hi => ?_⟩;have O:i<bs.length:=by
  rw [h1.len]
  rcases Nat.lt_or_ge i gs.length with h|h
  ·exact h
  ·rw [List.getElem?_eq_none h] at hi;cases hi
 have ho:=h1.own i bs[i] g (List.getElem?_eq_getElem O) hi;refine ⟨_,_,GWA (List.getElem?_eq_getElem O) hi,Own.cap ho,(OwnN.nums ho (hg g (List.mem_of_getElem? hi))).mono λb _ hb=>(Own.blk ho hb).1⟩
theorem Own.some_{e sz n:Nat}{xs:List Value}(h:Own w base e sz A n c xs)(hn:0<n):∃ g,A=some ⟨g,0,none⟩:=by
 rcases h.2 with ⟨hv,h0⟩|⟨g',cap,cur,hv,_⟩
 ·omega
 ·injection hv with O;exact ⟨g',O⟩
theorem Rn(h:qP:=by
 obtain rfl:=Option.some.inj hd;obtain rfl:=Option.some.inj hg';exact Own.set ho (by simp [ob];omega) _):qP:=h
theorem OwnNN.grow{gA i:Nat}{b:Nat × Nat}{g g2:List Nat}{A2:OA}{c2:Nat}{w1 w2:World}(h1:Parts w base bs gs)(h2:Own w base 22 1 (some ⟨gA,0,none⟩) gs.length c (hdr bs gs))(h3:∀ b∈bs,gA≠b.1)
  (hb:bs[i]?=some b) (_hg:gs[i]?=some g) (hx:Ext w w1) (ho:OwnN w2 base A2 c2 g2) (hgr:w1.grownBy w2 (some b.1)) (hat:ob A2=some b.1\/ob A2=some w1.heap.size) (hne:0<g2.length) :
  OwnNN (w2.setCell ⟨gA,i,none⟩ (.slice A2 g2.length c2)) base (some ⟨gA,0,none⟩) c (gs.set i g2):=by
 obtain ⟨x,rfl⟩:=Own.some_ ho hne;have U:x=b.1\/x=w1.heap.size:=(by simpa [ob] using hat);have Y:b∈bs:=List.mem_of_getElem? hb;have b4:=h1.lt b Y;have b8:=Own.blk h2 (k:=gA) rfl;have b6:=h3 b Y;have b5:=hx.size;have b0:gA≠x:=(by rcases U with rfl | rfl<;>omega);have hk1:∀ S:Nat->Prop,(∀ y,S y->y<w.heap.size->y≠b.1)->Kept S w w2:=λS hS=>(hx.kept S).trans (Kept.of_grown hgr λy hy _ hyb=>by
  have Z:y=b.1:=Option.some.inj hyb;exact hS y hy AA Z)
 have hi:i<bs.length:=by
  rcases Nat.lt_or_ge i bs.length with h|h
  ·exact h
  ·rw [List.getElem?_eq_none h] at hb;cases hb
 have a8:bs[i]=b:=(by rw [List.getElem?_eq_getElem hi] at hb;exact Option.some.inj hb);have O:∀ (j:Nat) (d:Nat × Nat),bs[j]?=some d->j≠i->d.1≠b.1:=by
  intro j d hd hji e;have hj:j<bs.length:=by
   rcases Nat.lt_or_ge j bs.length with h|h
   ·exact h
   ·rw [List.getElem?_eq_none h] at hd;cases hd
  have b3:bs[j]=d:=(by rw [List.getElem?_eq_getElem hj] at hd;exact Option.some.inj hd);have:=(List.getElem_inj (xs:=bs.map (·.1)) (i:=j) (j:=i) (h₀:=ET) (h₁:=Bp) h1.nd).1 (by simp [b3,a8,e]);exact hji this
 refine ⟨bs.set i (x,c2),⟨by simp [h1.len],λj d g' hd hg' => ?_,?_⟩,?_,?_⟩
 ·by_cases hji:j=i
  ·subst hji;rw [List.getElem?_set_self hi] at hd;rw [List.getElem?_set_self (by rw [<-h1.len];exact hi)] at hg';exact Rn
  ·rw [List.getElem?_set_ne (λe=>hji e.symm)] at hd hg';have a9:=h1.own j d g' hd hg';have b9:gA≠d.1:=h3 d (List.mem_of_getElem? hd);refine Own.set (Own.keep a9 (hk1 _ λy hy _ => ?_)) (by simp [ob];omega) _;simp [ob] at hy;rw [<-hy];exact O j d hd hji
 ·rw [List.map_set];rw [List.nodup_iff_pairwise_ne,List.pairwise_iff_getElem];intro p q hp hq b7;simp only [List.length_set,List.length_map] at hp hq;have hlt:∀ (j:Nat) (hj:j<bs.length),j≠i->bs[j].1≠x:=by
   intro j hj hji;have:=O j bs[j] (List.getElem?_eq_getElem hj) hji;have:=(h1.lt bs[j] (List.getElem_mem hj)).2
   rcases U with rfl|rfl<;>omega
  rw [List.getElem_set,List.getElem_set];split
  ·subst_vars
   rw [if_neg AA,List.getElem_map];exact λe=>hlt q (by simpa using hq) AA e.symm
  ·split
   ·subst_vars
    rw [List.getElem_map];exact λe=>hlt p (by simpa using hp) AA e
   ·rw [List.getElem_map,List.getElem_map];intro e;have:=(List.getElem_inj (xs:=bs.map (·.1)) (i:=p) (j:=q) (h₀:=by simpa using hp) (h₁:=by simpa using hq) h1.nd).1 (by simpa using e);omega
 ·have h4:=Own.put (i:=i) (Own.keep h2 (hk1 _ λy hy _=>by simp [ob] at hy;omega)) (.slice (some ⟨x,0,none⟩) g2.length c2);rw [EmA i (x,c2) g2] at h4
  simpa using h4
 ·intro d hd
  rcases List.mem_or_eq_of_mem_set hd with hd|rfl
  ·have:=h3 d hd
   simpa [ob] using this
  ·simpa [ob] using b0
theorem OwnNN.push{gA:Nat}{g2:List Nat}{A2:OA}{c2:Nat}{w1 w2:World}(h1:Parts w base bs gs)(h2:Own w base 22 1 (some ⟨gA,0,none⟩) (gs.length+1) c (hdr bs gs++[.slice none 0 0]))(h3:∀ b∈bs,gA≠b.1)
  (hx:Ext w w1) (ho:OwnN w2 base A2 c2 g2) (hgr:w1.grownBy w2 none) (hat:ob A2=none\/ob A2=some w1.heap.size) (hne:0<g2.length) :
  OwnNN (w2.setCell ⟨gA,gs.length,none⟩ (.slice A2 g2.length c2)) base (some ⟨gA,0,none⟩) c (gs++[g2]):=by
 obtain ⟨x,rfl⟩:=Own.some_ ho hne;have U:x=w1.heap.size:=(by simpa [ob] using hat);have Y:=Own.blk h2 (k:=gA) rfl;have a8:=hx.size;have hk1:∀ S:Nat->Prop,Kept S w w2:=λS=>(hx.kept S).trans (Kept.of_grown hgr λy hy _ hyb=>by cases hyb);refine ⟨bs++[(x,c2)],⟨by simp [h1.len],λj d g' hd hg' => ?_,?_⟩,?_,?_⟩
 ·rcases Nat.lt_or_ge j bs.length with hj|hj
  ·rw [List.getElem?_append_left hj] at hd;rw [List.getElem?_append_left (by rw [<-h1.len];exact hj)] at hg';have O:=h1.own j d g' hd hg';have Z:gA≠d.1:=h3 d (List.mem_of_getElem? hd);exact Own.set (Own.keep O (hk1 _)) (by simp [ob];omega) _
  ·rw [List.getElem?_append_right hj] at hd;rw [List.getElem?_append_right (by rw [<-h1.len];exact hj),<-h1.len] at hg';have hj0:j-bs.length=0:=by
    rcases Nat.eq_zero_or_pos (j-bs.length) with h0|h0
    ·exact h0
    ·rw [List.getElem?_eq_none AI] at hd;cases hd
   rw [hj0] at hd hg';exact Rn
 ·rw [List.map_append,List.nodup_append];refine ⟨h1.nd,AC,λa ha b hb => ?_⟩;simp at hb;obtain ⟨d,hd,rfl⟩:=List.mem_map.1 ha;have:=(h1.lt d hd).2;omega
 ·have h4:=Own.put (i:=gs.length) (Own.keep h2 (hk1 _)) (.slice (some ⟨x,0,none⟩) g2.length c2);have e:(hdr bs gs++[Value.slice none 0 0]).set gs.length (.slice (some ⟨x,0,none⟩) g2.length c2)=hdr (bs++[(x,c2)]) (gs++[g2]):=by
   rw [FaA h1.len,List.set_append_right _ _ (by rw [XO h1.len];exact Al),XO h1.len,Nat.sub_self];rfl
  rw [e] at h4
  simpa using h4
 ·intro d hd
  rcases List.mem_append.1 hd with hd|hd
  ·have:=h3 d hd
   simpa [ob] using this
  ·simp at hd;subst hd;simp [ob];omega
end
section
variable {w:World}{base e sz n c g:Nat}{xs:List Value}
theorem Own.cell_(h:Own w base e sz (some ⟨g,0,none⟩) n c xs){j:Nat}{u:Value}(hj:xs[j]?=some u):w.cell? ⟨g,j,none⟩=some u:=by
 obtain ⟨b,o,e1,_,e3⟩:=h.rd.at_ hj;injection e1 with e1;injection e1 with e1 e2;subst e1 e2;rwa [Nat.zero_add] at e3
theorem Own.lt_(h:Own w base e sz (some ⟨g,0,none⟩) n c xs):g<w.heap.size:=(Own.blk h rfl).2
theorem Own.frozen_(h:Own w base e sz (some ⟨g,0,none⟩) n c xs)(i:Nat):w.frozen? ⟨g,i,none⟩=false:=by
 rcases h.2 with ⟨hv,_⟩|⟨g',cap,cur,hv,_,hh,_⟩
 ·cases hv
 ·injection hv with O;injection O with O;injection O with O;subst O;exact Blk.frozen hh i
end
theorem OwnNN.lower{w:World}{base base' c:Nat}{A:OA}{gs:List (List Nat)}(h:OwnNN w base A c gs)(hb:base'<=base):OwnNN w base' A c gs:=by
 obtain ⟨bs,h1,h2,h3⟩:=h;exact ⟨bs,⟨h1.len,λi b g hi hg=>Own.lower (h1.own i b g hi hg) hb,h1.nd⟩,Own.lower h2 hb,h3⟩

structure ButS(S:NP)(w J:World):Prop where
 os:J.os=w.os
 tape:J.tape=w.tape
 output:J.output=w.output
 size:w.heap.size<=J.heap.size
 block:∀ b,b<w.heap.size->¬S b->J.heap[b]?=w.heap[b]?
section
variable {S T:NP}{w J w'':World}
theorem ButS.refl(S:NP)(w:World):ButS S w w:=⟨rfl,rfl,rfl,Al,λ_ _ _=>rfl⟩
theorem ButS.trans2(h:ButS S w J)(k:ButS T J w'')(hT:∀ b,b<w.heap.size->T b->S b):ButS S w w'' :=
 ⟨k.os.trans h.os,k.tape.trans h.tape,k.output.trans h.output,Nat.le_trans h.size k.size,λb hb hg=>(k.block b (Nat.lt_of_lt_of_le hb h.size) λe=>hg (hT b hb e)).trans (h.block b hb hg)⟩
theorem ButS.trans(h:ButS S w J)(k:ButS S J w''):ButS S w w'':=h.trans2 k λ_ _ e=>e
theorem ButS.mono(h:ButS S w J)(hT:∀ b,b<w.heap.size->S b->T b):ButS T w J:=⟨h.os,h.tape,h.output,h.size,λb hb hg=>h.block b hb λe=>hg (hT b hb e)⟩
theorem IJA(h:Ext w J):ButS S w J:=⟨h.os,h.tape,h.output,h.size,λb hb _=>h.block b hb⟩
theorem ButS.but{g:Nat}(h:ButS S w J)(hg:∀ b,b<w.heap.size->S b->b=g):But g w J:=⟨h.os,h.tape,h.output,h.size,λb hb hn=>h.block b hb λe=>hn (hg b hb e)⟩
theorem ButS.kept(h:ButS S w J)(hS:∀ b,b<w.heap.size->T b->¬S b):Kept T w J:=⟨h.size,λb hb hl=>h.block b hl (hS b hl hb)⟩
theorem ButS.ext(h:ButS S w J)(hg:∀ b,S b->w.heap.size<=b):Ext w J:=⟨h.os,h.tape,h.output,h.size,λb hb=>h.block b hb λe=>by have:=hg b e;omega⟩
theorem ButS.exts{a:World}(h:Ext a w)(k:ButS S w J)(hg:∀ b,S b->a.heap.size<=b):Ext a J:=⟨k.os.trans h.os,k.tape.trans h.tape,k.output.trans h.output,Nat.le_trans h.size k.size,λb hb=>(k.block b (Nat.lt_of_lt_of_le hb h.size) λe=>by have:=hg b e;omega).trans (h.block b hb)⟩
theorem ButS.grown{row:Option Nat}(h:ButS S w J)(hg:J.grownBy w'' row)(hr:∀ k,row=some k->S k\/w.heap.size<=k):ButS S w w'':=⟨hg.os.trans h.os,hg.tape.trans h.tape,hg.output.trans h.output,Nat.le_trans h.size hg.size,λb hb hx=>(hg.block b (Nat.lt_of_lt_of_le hb h.size) λe=>by
 rcases hr b e.symm with h1|h1
 ·exact hx h1
 ·omega).trans (h.block b hb hx)⟩
theorem ButS.set{b i:Nat}{u:Value}(h:ButS S w J)(hb:S b\/w.heap.size<=b):ButS S w (J.setCell ⟨b,i,none⟩ u):=⟨h.os,h.tape,h.output,by simpa [World.setCell] using h.size,λx hx hg=>(Below.heap_setCell _ _ _ _ (by
 show x≠b;rintro rfl
 rcases hb with h1|h1
 ·exact hg h1
 ·omega)).trans (h.block x hx hg)⟩
theorem ButS.alloc(h:ButS S w J)(o:Obj):ButS S w (J.alloc o):=h.trans (IJA ((Ext.refl _).alloc o))
theorem ButS.drew(h:ButS S w J):ButS S w J.drew:=h.trans (IJA ((Ext.refl _).drew))
theorem ButS.drewN(h:ButS S w J)(n:Nat):ButS S w (J.drewN n):=h.trans (IJA ((Ext.refl _).drewN n))
theorem ButS.cell(h:ButS S w J){p:Addr}{u:Value}(hp:¬S p.block)(hc:w.cell? p=some u):J.cell? p=some u:=by
 have hl:p.block<w.heap.size:=by
  exact Zbea95ee93
 rw [World.cell?_of_block (w:=w) (h.block _ hl hp)];exact hc
theorem ButS.blk{b t:Nat}{cs:Array Value}(h:ButS S w J)(hb:Blk w b t cs)(hg:¬S b):Blk J b t cs:=hb.keep (h.kept λx _ e=>by rw [e];exact hg)
end

abbrev Gz:=Nat->Bool
def gz0:Gz:=λ_=>false
def Gz.put(F:Gz)(k:Nat):Gz:=λj=>if j=k then true else F j
structure LZ(X:Nat->Nat->Prop)(F:Gz)(w:World)(γ':Gz)(J:World):Prop where
 os:J.os=w.os
 tape:J.tape=w.tape
 output:J.output=w.output
 size:w.heap.size<=J.heap.size
 kept:∀ b,b<w.heap.size->(∀ m,X m b->γ' m=F m)->J.heap[b]?=w.heap[b]?
 done:∀ k,F k=true->γ' k=true
section
variable {X:Nat->Nat->Prop}{F γ' γ'':Gz}{w J w'':World}
theorem LZ.refl(X:Nat->Nat->Prop)(F:Gz)(w:World):LZ X F w F w:=⟨rfl,rfl,rfl,Al,λ_ _ _=>rfl,λ_ h=>h⟩
theorem LZ.mid(h:LZ X F w γ' J)(k:LZ X γ' J γ'' w''){m:Nat}(e:γ'' m=F m):γ' m=F m/\γ'' m=γ' m:=by
 cases h0:F m with
 |true=>have h1:=h.done m h0;exact ⟨h1,(k.done m h1).trans h1.symm⟩
 |false =>
  rw [h0] at e;cases h1:γ' m with
  |false=>exact ⟨rfl,e⟩
  |true=>rw [k.done m h1] at e;cases e
theorem LZ.trans(X:Nat->Nat->Prop)(F:Gz)(w:World)(γ':Gz)(J:World)(γ'':Gz)(w'':World)(h:LZ X F w γ' J)(k:LZ X γ' J γ'' w''):LZ X F w γ'' w'' :=
 ⟨k.os.trans h.os,k.tape.trans h.tape,k.output.trans h.output,Nat.le_trans h.size k.size,λb hb hm=>(k.kept b (Nat.lt_of_lt_of_le hb h.size) λm hX=>(h.mid k (hm m hX)).2).trans (h.kept b hb λm hX=>(h.mid k (hm m hX)).1),λi hi=>k.done i (h.done i hi)⟩
theorem H4A(X:Nat->Nat->Prop)(F:Gz)(h:Ext w J):LZ X F w F J:=⟨h.os,h.tape,h.output,h.size,λb hb _=>h.block b hb,λ_ h=>h⟩
theorem LZ.keptS(h:LZ X F w γ' J){S:NP}(hS:∀ b,b<w.heap.size->S b->∀ m,X m b->γ' m=F m):Kept S w J:=⟨h.size,λb hs hb=>h.kept b hb (hS b hb hs)⟩
theorem LZ.kept0(h:LZ X gz0 w.drew γ' J){S:NP}(hS:∀ b,b<w.heap.size->S b->∀ m,X m b->γ' m=false):Kept S w J:=(Kept.drew S w).trans (h.keptS hS)
theorem LZ.buts(h:LZ X gz0 w.drew γ' J){S:NP}(hS:∀ m b,b<w.heap.size->X m b->γ' m=true->S b):ButS S w J:=⟨h.os,h.tape,h.output,h.size,λb hb hn=>h.kept b hb λm hm=>by
 cases e:γ' m with
 |false=>rfl
 | true=>exact absurd (hS m b hb hm e) hn⟩
theorem LZ.ext0(h:LZ X gz0 w.drew γ' J)(hX:∀ m b,b<w.heap.size->X m b->γ' m=false):Ext w J:=⟨h.os,h.tape,h.output,h.size,λb hb=>h.kept b hb λm hm=>hX m b hb hm⟩
theorem H2A{m:Nat}(hm:F m=false)(hos:J.os=w.os)(ht:J.tape=w.tape)(hou:J.output=w.output)(hz:w.heap.size<=J.heap.size)(hb:∀ b,b<w.heap.size->¬X m b->J.heap[b]?=w.heap[b]?):LZ X F w (F.put m) J:=by
 refine ⟨hos,ht,hou,hz,λb hl hX=>hb b hl λh => ?_,λk hk => ?_⟩
 ·have:=hX m h;simp [Gz.put,hm] at this
 ·unfold Gz.put;split
  ·rfl
  ·exact hk
end
def LK(l:List (Nat × List Nat))(i:Nat)(F:Gz):Prop:=∀ k∈alF l i,F k=false
theorem LK.zero(l:List (Nat × List Nat))(i:Nat):LK l i gz0:=λ_ _=>rfl
theorem LK.done{l:List (Nat × List Nat)}{F:Gz}{s k:Nat}{p:List Nat}(h:(l.all λq => !(q.2.contains k)||decide (q.1=s)||p.contains q.1)=true):∀ j,j≠s->j ∉ p->LK l j F->LK l j (F.put k):=by
 intro j hj hp h1 k' hk';unfold Gz.put;exact RB
theorem Br(h:qP:=by simpa using hk):qP:=h
theorem LK.key{l:List (Nat × List Nat)}{F:Gz}{i k:Nat}(h:LK l i F)(hk:(alF l i).contains k=true):F k=false:=h k Br
instance (X:Nat->Nat->Prop):Rf (LZ X):=⟨LZ.refl X⟩
instance (X:Nat->Nat->Prop):Re (LZ X):=⟨λF _ _ h=>H4A X F h⟩
instance:Rx (LZ (λ_ _=>False)) gz0:=⟨λ_ _ _ h=>h.ext0 λ_ _ _ h=>h.elim⟩
theorem Qa{P:Program}{l:List Oper}{Q:Exit->Act->World->Prop}{id:Nat}{a0:Act}{w0:World}(X:Nat->Nat->Prop)(al:List (Nat × List Nat))
  (h:Chain P l.toArray (λi=>[i]) (LZ X) (LK al) a0 gz0 w0.drew (λΦs=>∀ V F w,LZ X gz0 w0.drew F w->(∀ i,i<l.length->gOf Φs i ([i].map V) F w)->Q .normal (Ah V l 0 a0) w) 0 [] l)
  (hm:P.follows .mixedOrders=true:=by kernel_rfl) (hB:R8 l.toArray (λi=>[i]) a0.tmps.size=true:=by kernel_rfl):(Code.region id l.toArray true).wp P Q a0 w0 :=
 B6 hm (λi=>[i]) hB (LZ X) (LZ.refl X) (LZ.trans X) (LK al) gz0 (LK.zero al) h


def bsA(l:List UInt8):BA:=⟨l.toArray⟩
theorem Cr(a b:List UInt8):bsA a++bsA b=bsA (a++b):=by
 apply ByteArray.ext;simp [bsA,ByteArray.data_append]
def Cu(w:World)(s:BA)(e:Ending)(J:World):Prop:=e=.returned (.string s)/\Ext w J
theorem Ext.grow{w J:World}(h:Ext w J)(os:Array Obj):Ext w (Go.Sort.grow J os):=⟨h.os,h.tape,h.output,by simp only [Go.Sort.grow,Array.size_append];have:=h.size;omega,λb hb=>by
 have h1:=h.block b hb;have h2:=h.size;simp only [Go.Sort.grow];rw [Array.getElem?_append_left AA];exact h1⟩
theorem GdA:prog.globalNamed "internal/strconv.uint64pow10" = some 1:=by kernel_rfl
theorem Mr(n:Nat)(h:n<=9223372036854775807):(Lib.itoa (n:Int)).length<=21:=Lib.itoa_length_le n AA AA
end Go.Proofs.YtaccjdppmmoepaaGreatDoor
namespace Go.Proofs.YtaccjdppmmoepaaGreatDoor
open Go Go.RowKit Go.Sort Tryz
variable {qP:Prop}

theorem CYA(u:Nat)(h:u<100)(w:World):Cl 222 #[.int .u64 (u:Int),.I 10] w (Cu w (bsA (Lib.decDigits u))):=by
 obtain ⟨z,O⟩:=eqx (bsA (Lib.decDigits u));have HS:=Hd (show ∀ J,Cl 223 #[.I (u:Int)] J (λe w2=>e=.returned (.string z)/\w2=J) from λJ=>by rw [O];exact Any.internal_strconv_small Tryz.lt283 u h J);rw [<-O];clear O
 go_enter func222,ntmps222
 go_wp2_with fail
 refine (HS.o _).mono ?_;rintro e2 w2 ⟨rfl,rfl⟩
 go_wp2_with fail
 go_ret;exact ⟨rfl,Ext.refl _⟩

theorem Nw(l:List UInt8)(a b:Nat):(bsA l).extract a b=bsA ((l.drop a).take (b-a)):=by
 apply ByteArray.ext;show ((bsA l).extract a b).data=_;rw [ByteArray.data_extract];apply Array.ext';simp [bsA,List.extract]

theorem Ra(h:qP:=by
 go_wp2_with fail
 go_ret;exact ⟨rfl,rfl⟩):qP:=h
theorem RN(h:qP:=by
 have hw:IntKind.u64.wrap (u:Int)=(u:Int):=(by rw [IntKind.wrap_u64];omega);rw [hu]
 go_enter func187,ntmps187
 exact Ra):qP:=h
theorem XV(n:Int)(h0:-1000000000000000<=n)(h1:n<=1000000000000000)(w:World):Cl 187 #[.I n] w (λe J=>e=.returned (.int .u64 (n.natAbs:Int))/\J=w):=by
 by_cases hn:n<0
 ·obtain ⟨u,rfl⟩:∃ u:Nat,n=-(u:Int):=⟨n.natAbs,AA⟩;have hu:(-(u:Int)).natAbs=u:=AA;exact RN
 ·obtain ⟨u,rfl⟩:∃ u:Nat,n=(u:Int):=⟨n.natAbs,AA⟩;have hu:(u:Int).natAbs=u:=AA;exact RN
def V2(n:Int)(s:Nat):List UInt8:=Lib.repeatL [48] (s+1-(Lib.decDigits n.natAbs).length)++Lib.decDigits n.natAbs
def XH(n:Int)(s:Nat):List UInt8:=if 0<s then (V2 n s).take ((V2 n s).length-s)++[46]++(V2 n s).drop ((V2 n s).length-s) else V2 n s
def OL(n:Int)(s:Nat):List UInt8:=if n<0 then 45::XH n s else XH n s
theorem Wr(n:Nat):Lib.repeatL [48] (n+1)=48::Lib.repeatL [48] n:=by simp [Lib.repeatL]
