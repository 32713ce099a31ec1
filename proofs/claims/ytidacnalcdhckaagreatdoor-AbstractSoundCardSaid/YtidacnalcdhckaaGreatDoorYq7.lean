/- Lemmas. No conditions. -/
import Derived.Test.YtidacnalcdhckaaGreatDoorYq6
import Derived.WalkLawsBesides
import Derived.Shelf.Unicode.PredsPay
import Derived.Lib.ItoaLen
set_option maxRecDepth 100000
set_option maxHeartbeats 4000000
namespace Go.Proofs.YtidacnalcdhckaaGreatDoor
open Go Go.RowKit Tryz
variable {qP:Prop}

def sv(neg:Bool)(n:Nat):Int:=if neg then -(n:Int) else n
def YO(w:World)(v:Int)(s:Nat)(e:Ending)(w':World):Prop:=∃ (neg:Bool) (r:BA) (n:Nat),e=.returned (.agg #[.bool neg,.string r,.I (s:Int)])∧isN r n∧sv neg n=v∧n<256^50∧Ext w w'
theorem PM{n k:Nat}(hn:n<256^20)(hk:k≤6):n*10^k<256^40:=by
 have h1:10^k≤10^6:=Nat.pow_le_pow_right Y17 hk;have h2:n*10^k≤256^20*10^6:=Nat.mul_le_mul Y4 h1;exact Nat.lt_of_le_of_lt h2 Y17
theorem NH{w w4 w6:World}{gx gy g3 t:Nat}{u0 u1 u2:Value}{p0 p1 p2 q0 q1 q2:Value}{o:Obj}(hw:w6=(((((((w4.setCell ⟨gx,0,none⟩ q0).setCell ⟨gx,1,none⟩ q1).setCell ⟨gx,2,none⟩ q2).setCell ⟨gy,0,none⟩ p0).setCell ⟨gy,1,none⟩ p1).setCell ⟨gy,2,none⟩ p2).alloc o))
  (hb:Blk w4 gx t #[u0,u1,u2]) (hx:Ext w w4) (hxy:gx≠gy) (hx3:g3≠gx) (h3y:g3≠gy) (h1:w.heap.size≤gx) (h2:w.heap.size≤gy):Kept (fun b=>b=g3) w4 w6∧Ext w w6∧Blk w6 gx t #[q0,q1,q2]:=by
 subst hw;have st:∀ (gg:Nat) {a b:World} {g i:Nat} {u:Value},Kept (fun x=>x=gg) a b→g≠gg→Kept (fun x=>x=gg) a (b.setCell ⟨g,i,none⟩ u):=fun gg a b g i u h e=>Kept.set2 (S:=fun x=>x=gg) h e;refine ⟨?_,?_,?_⟩
 ·refine Kept.trans ?_ (Kept.alloc _ _ _);exact st g3 (st g3 (st g3 (st g3 (st g3 (st g3 (Kept.refl _ _) hx3.symm) hx3.symm) hx3.symm) h3y.symm) h3y.symm) h3y.symm
 ·exact (((((((hx.set2 h1 _).set2 h1 _).set2 h1 _).set2 h2 _).set2 h2 _).set2 h2 _).alloc _)
 ·have h3:Blk (((w4.setCell ⟨gx,0,none⟩ q0).setCell ⟨gx,1,none⟩ q1).setCell ⟨gx,2,none⟩ q2) gx t #[q0,q1,q2]:=((hb.set 0 q0).set 1 q1).set 2 q2;exact h3.keep ((st gx (st gx (st gx (Kept.refl _ _) hxy.symm) hxy.symm) hxy.symm).trans (Kept.alloc _ _ _))
theorem My(h:qP:=by
 have hk:=hR.o.kept0 (S:=fun b=>b=gx∨b=gy) (fun b hb m hm=>by rcases hb with e|e<;>omega);have kx:=HBX4.o.keep (hk.mono fun b _ e=>.inl e);have ky:=HBY.o.keep (hk.mono fun b _ e=>.inr e);obtain ⟨kx0,kx1,kx2⟩:=kx.qs3;obtain ⟨ky0,ky1,ky2⟩:=ky.qs3;clear hk kx ky;exact Qk):qP:=h
theorem Y52(h:qP:=by rw [HR1.o.1];exact Nat.lt_trans HM1.o (Nat.pow_lt_pow_right (by decide) (by decide))):qP:=h
theorem Y53(h:qP:=by rw [HR2.o.1];exact Nat.lt_trans HM2.o (Nat.pow_lt_pow_right (by decide) (by decide))):qP:=h
theorem Ya(h:qP:=by
 intro vals γ w' ρ hR hN hp hρ zs zg;have HR:=hR;refine Qr ?_;refine (TX r1 r2 HR1.o.2.2 HR2.o.2.2 Y52 Y53 w').mono ?_;rintro e1 w3 ⟨r,he,h1,h2,h3,hx⟩;exact ⟨_,he,γ,E6A _ γ hx,fun _ _ _ h=>h,r,rfl,by rw [h1,HR1.o.1,HR2.o.1],h2,h3⟩):qP:=h
theorem Xw(h:qP:=by
 intro vals γ w' ρ hR hN hp hρ zs zg;obtain ⟨r6,hv6,hn6⟩:=hp.o 6 Y17;have e35:=(hρ.o 35).trans hv6;have HN6:=Hd hn6;clear hn6;refine Qr ?_;exact ⟨γ,LX.refl _ _ _,fun _ _ _ h=>h,r6,rfl,HN6.o⟩):qP:=h
theorem XR(h:qP:=by
 exact ((HX7.o.set2 HGW _).set2 HGW _).set2 HGW _):qP:=h
theorem BCA(h:qP:=by
 clear hz hdl hr hrz hd;go_wp2;refine bodyPost_ret (v:=.agg #[.bool false,.string r,.I (S:Int)]) (by simp [results,results175,go_sem,d0,d1,d2]) rfl ⟨false,r,d,rfl,HRR.o,HF.o,HDL.o,?_⟩;exact XR):qP:=h
theorem WQ(h:qP:=by
 have HDL:=Hd (show d<256^50 by have h1:=HD.o;have h2:=Nat.lt_trans HM2.o (show (256:Nat)^40<256^50 from Nat.pow_lt_pow_right Y17 Y17);omega);exact BCA):qP:=h
theorem ZY(h:qP:=by
 clear hz hdl hr hrz hd;go_wp2;refine bodyPost_ret (v:=.agg #[.bool true,.string r,.I (S:Int)]) (by simp [results,results175,go_sem,d0,d1,d2]) rfl ⟨true,r,d,rfl,HRR.o,HF.o,HDL.o,?_⟩;exact XR):qP:=h
theorem VH(h:qP:=by
 have HDL:=Hd (show d<256^50 by have h1:=HD.o;have h2:=Nat.lt_trans HM1.o (show (256:Nat)^40<256^50 from Nat.pow_lt_pow_right Y17 Y17);omega);exact BCA):qP:=h
theorem Y54(h:qP:=by rw [hw0];exact (exbb w).alloc _):qP:=h
theorem Y55(h:qP:=by have:=HLE.o;omega):qP:=h
theorem RT(n1 n2:Bool)(N1 N2:BA)(s1 s2 S:Nat)(h1:N1.size≤4294967296)(h2:N2.size≤4294967296)(hN1:AF N1<256^20)(hN2:AF N2<256^20)(hs1:s1≤6)(hs2:s2≤6)(hS:S=max s1 s2)(w:World) :
  Cl 175 #[.agg #[.bool n1,.string N1,.I (s1:Int)],.agg #[.bool n2,.string N2,.I (s2:Int)]] w (YO w (sv n1 (AF N1*10^(S-s1))+sv n2 (AF N2*10^(S-s2))) S):=by
 obtain ⟨w0,hw0⟩:=eqx (((w.alloc (.cells #[.bool n1,.string N1,.I (s1:Int)] 168)).alloc (.cells #[.bool n2,.string N2,.I (s2:Int)] 168)).alloc (.cells #[.bool false,.string ⟨#[]⟩,.I 0] 168));have hb1:Blk w0 w.heap.size 168 #[.bool n1,.string N1,.I (s1:Int)]:=(by rw [hw0];exact ((Blk.new _ _ _).keep (Kept.alloc _ _ _)).keep (Kept.alloc _ _ _));have hb2:Blk w0 (w.heap.size+1) 168 #[.bool n2,.string N2,.I (s2:Int)]:=by
  rw [hw0];have:=(Blk.new (w.alloc (.cells #[.bool n1,.string N1,.I (s1:Int)] 168)) 168 #[.bool n2,.string N2,.I (s2:Int)]).keep (Kept.alloc _ _ (.cells #[.bool false,.string ⟨#[]⟩,.I 0] 168))
  simpa using this
 have hb3:Blk w0 (w.heap.size+1+1) 168 #[.bool false,.string ⟨#[]⟩,.I 0]:=by
  rw [hw0];have:=Blk.new ((w.alloc (.cells #[.bool n1,.string N1,.I (s1:Int)] 168)).alloc (.cells #[.bool n2,.string N2,.I (s2:Int)] 168)) 168 #[.bool false,.string ⟨#[]⟩,.I 0]
  simpa using this
 have hx0:Ext w w0:=Y54;obtain ⟨g1,hg1⟩:=eqx w.heap.size;obtain ⟨g2,hg2⟩:=eqx (w.heap.size+1);obtain ⟨g3,hg3⟩:=eqx (w.heap.size+1+1);obtain ⟨HW0,HG1,HG2,HG3⟩:=Hd4 hw0 hg1 hg2 hg3;have HGW:w.heap.size≤g3:=Y4;rw [←hg1] at hb1;rw [←hg2] at hb2;rw [←hg3] at hb3;obtain ⟨HC1,HC2,HC3,HX0,HS⟩:=Hd5 hb1 hb2 hb3 hx0 (show max (s1:Int) (s2:Int)=(S:Int) by omega);have ha1:s1≤S:=Y4;have ha2:s2≤S:=Y4;have ha6:S≤6:=Y4;have HM1:=Hd (PM hN1 (k:=S-s1) Y4);have HM2:=Hd (PM hN2 (k:=S-s2) Y4);obtain ⟨m1,hm1⟩:=eqx (AF N1*10^(S-s1));obtain ⟨m2,hm2⟩:=eqx (AF N2*10^(S-s2));rw [←hm1] at HM1⊢;rw [←hm2] at HM2⊢;obtain ⟨HE1,HE2,HP1,HP2⟩:=Hd4 hm1 hm2 (show AF N1<256^50 from Nat.lt_trans hN1 (Nat.pow_lt_pow_right Y17 Y17)) (show AF N2<256^50 from Nat.lt_trans hN2 (Nat.pow_lt_pow_right Y17 Y17));clear hb1 hb2 hb3 hx0 hw0 hg1 hg2 hg3 hS hm1 hm2 hN1 hN2
 go_enter func175,ntmps175
 go_wp2_with fail
 rw [←HW0.o,←HG3.o,←HG2.o,←HG1.o,HS.o];refine (LG n1 N1 s1 S h1 HP1.o ha1 ha6 w0).mono ?_;rintro e1 w1 ⟨r1,rfl,hr1,hx1⟩;rw [←HE1.o] at hr1;have HR1:=Hd hr1;obtain ⟨w2,hw2⟩:=eqx (w1.alloc (.cells #[.bool n1,.string r1,.I (S:Int)] 168));obtain ⟨gx,hgx⟩:=eqx w1.heap.size;have hx12:Ext w1 w2:=(by rw [hw2];exact (Ext.refl _).alloc _);obtain ⟨HBX,HX2,HB1,HB2,HD1,HD2,HD3⟩:=Hd7 (show Blk w2 gx 168 #[.bool n1,.string r1,.I (S:Int)] by rw [hw2,hgx];exact Blk.new _ _ _) (HX0.o.trans (hx1.trans hx12)) (HC1.o.keep (hx1.kept _)) (HC2.o.keep (hx1.kept _)) (HC1.o.keep ((hx1.trans hx12).kept _)) (HC2.o.keep ((hx1.trans hx12).kept _)) (HC3.o.keep ((hx1.trans hx12).kept _));have hx3:g3≠gx:=(by have:=HC3.o.lt;have:=hx1.size;omega);have HW2:=Hd hw2;have HGX:=Hd hgx;have hgw:w.heap.size≤gx:=(by have:=HX0.o.size;have:=hx1.size;omega);obtain ⟨p0,p1,p2⟩:=HB1.o.qs3;have pf:=HB1.o.frozen;have pl:=HB1.o.lt;obtain ⟨q0,q1,q2⟩:=HB2.o.qs3;have qf:=HB2.o.frozen;have ql:=HB2.o.lt;clear hr1 hw2 hgx hx12 hx1 HC1 HC2 HC3 HX0 HW0
 go_wp2_with fail
 rw [←HW2.o,←HGX.o,HS.o];refine (LG n2 N2 s2 S h2 HP2.o ha2 ha6 w2).mono ?_;rintro e3 w3 ⟨r2,rfl,hr2,hx3⟩;rw [←HE2.o] at hr2;have HR2:=Hd hr2;obtain ⟨w4,hw4⟩:=eqx (w3.alloc (.cells #[.bool n2,.string r2,.I (S:Int)] 168));obtain ⟨gy,hgy⟩:=eqx w3.heap.size;have hx34:Ext w3 w4:=(by rw [hw4];exact (Ext.refl _).alloc _);obtain ⟨HBY,HBX3,HBX4,HX4,HE3⟩:=Hd5 (show Blk w4 gy 168 #[.bool n2,.string r2,.I (S:Int)] by rw [hw4,hgy];exact Blk.new _ _ _) (HBX.o.keep (hx3.kept _)) (HBX.o.keep ((hx3.trans hx34).kept _)) (HX2.o.trans (hx3.trans hx34)) (HD3.o.keep ((hx3.trans hx34).kept _));have hxy:gx≠gy:=(by have:=HBX.o.lt;have:=hx3.size;omega);have h3y:g3≠gy:=(by have:=HD3.o.lt;have:=hx3.size;omega);have hgw2:w.heap.size≤gy:=(by have:=HX2.o.size;have:=hx3.size;omega);have HW4:=Hd hw4;have HGY:=Hd hgy;have HR1b:=HR1;obtain ⟨x0,x1,x2⟩:=HBX3.o.qs3;have xf:=HBX3.o.frozen;have xl:=HBX3.o.lt;clear hr2 hw4 hgy hx34 hx3 HD1 HD2 HD3 HX2 HW2 HBX p0 p1 p2 pf pl q0 q1 q2 qf ql
 rcases n1 with _|_<;>rcases n2 with _|_
 ·go_upto_region 4 with fail
  rw [←HW4.o,←HGY.o];clear x0 x1 x2 xf xl;refine Qb (fun i=>[i]) (fun m b=>m=1010∧b=g3) [(10,[1010])] ?_;refine Qp ?_;refine Qm (fun vals γ w' ρ hR hN hp hρ zs zg=>by
   exact My) ?_
  refine Qp ?_;refine Qm (fun vals γ w' ρ hR hN hp hρ zs zg=>by
   exact My) ?_
  refine Qp ?_;refine Qm (fun vals γ w' ρ hR hN hp hρ zs zg=>by
   exact My) ?_
  refine Qs (FP fun v γ w'=>∃ r,v=.string r∧isN r (m1+m2)) (EuA ?_) ?_ ?_
  ·intro v γ w1 γ' w2 r h;exact h
  ·exact Ya
  refine Qp ?_;refine Qm (fun vals γ w' ρ hR hN hp hρ zs zg=>by
   exact My) ?_
  refine Qs (FP fun v γ w'=>∃ r,v=.agg #[.bool false,.string r,.I (S:Int)]∧isN r (m1+m2)) (EuA ?_) ?_ ?_
  ·intro v γ w1 γ' w2 r h;exact h
  ·exact Xw
  refine Qs (fun _ γ w'=>∃ r,(Blk w' g3 168 #[.bool false,.string r,.I (S:Int)]∧γ 1010=some none∧C4 γ g3)∧isN r (m1+m2)) ?_ ?_ ?_
  ·exact VA
  ·intro vals γ w' ρ hR hN hp hρ zs zg;obtain ⟨r,hv9,hn9⟩:=hp.o 9 Y17;have e38:=(hρ.o 38).trans hv9;have HN9:=Hd hn9;clear hn9;have HR:=hR;have hk0:=hR.o.key0 hN.o (k:=1010) Y17 Y17;have HK:=Hd hk0;have hb0:=HE3.o.keep ((Kept.drew _ _).trans (hR.o.keptS (S:=fun b=>b=g3) fun b _ e=>⟨Is b,fun m hm=>Y45⟩));have HB0:=Hd hb0;obtain ⟨q0,q1,q2⟩:=hb0.qs3;have qf:=hb0.frozen;have ql:=hb0.lt;clear hk0 hb0;refine Qr ?_;refine ⟨γ.put 1010 none,FCA HK.o rfl rfl rfl Y1 (fun b hb hm=>(((((Only.refl g3 w').set 0 (.bool false)).set 1 (.string r)).set 2 (.I (S:Int)))).block b fun e=>hm ⟨rfl,e⟩),LM.done Y17 (.inr Y17),?_⟩;have hb1:=HB0.o;exact ⟨r,⟨by simpa using (((hb1.set 0 (.bool false)).set 1 (.string r)).set 2 (.I (S:Int))),rfl,fun ⟨k',hk'⟩=>by unfold Gh.put at hk';split at hk';(cases hk');exact absurd (HR.o.old k' _ hk' (by have:=HE3.o.lt;exact this)) (by simp [gh0])⟩,HN9.o⟩
  intro vals γ w9 hR hG;obtain ⟨q6,v6,-⟩:=hG 6 Y17;obtain ⟨q9,v9,-⟩:=hG 9 Y17;refine Qx ?_;simp only [v6,v9];clear v6 v9;obtain ⟨r,⟨hb9,-,-⟩,hn9⟩:=hG 10 Y17;obtain ⟨c0,c1,c2⟩:=hb9.qs3;have cl:=hb9.lt;have HX9:=Hd (hR.extB HX4.o fun m b hm=>Y51);have HN9:=Hd hn9;clear hb9 hn9 hR hG;go_wp2;refine bodyPost_ret (v:=.agg #[.bool false,.string r,.I (S:Int)]) (by simp [results,results175,go_sem,c0,c1,c2]) rfl ⟨false,r,m1+m2,rfl,HN9.o,by simp [sv];try omega,?_,HX9.o⟩;exact Nat.lt_of_lt_of_le (Nat.add_lt_add HM1.o HM2.o) Y17
 ·go_wp2_with fail
  rw [←HW4.o]
  try rw [←HGY.o]
  clear x0 x1 x2 xf xl;refine (Lo r1 r2 HR1.o.2.2 HR2.o.2.2 w4).mono ?_;rintro e5 w5 ⟨rfl,rfl⟩;rw [HR1.o.1,HR2.o.1];by_cases hlt:m1<m2
  ·have hc:Du m1 m2<0:=(by unfold Du;rw [if_pos hlt];decide);obtain ⟨cn,hcn⟩:=eqx (Du m1 m2);rw [←hcn] at hc⊢;clear hcn;obtain ⟨z0,z1,z2⟩:=HE3.o.qs3;have zf:=HE3.o.frozen;have zl:=HE3.o.lt;obtain ⟨x0,x1,x2⟩:=HBX4.o.qs3;have xf:=HBX4.o.frozen;have xl:=HBX4.o.lt;obtain ⟨y0,y1,y2⟩:=HBY.o.qs3;have yf:=HBY.o.frozen;have yl:=HBY.o.lt
   go_wp2_with fail
   obtain ⟨w6,hw6⟩:=eqx ((((((((w4.setCell ⟨gx,0,none⟩ (.bool true)).setCell ⟨gx,1,none⟩ (.string r2)).setCell ⟨gx,2,none⟩ (.I (S:Int))).setCell ⟨gy,0,none⟩ (.bool false)).setCell ⟨gy,1,none⟩ (.string r1)).setCell ⟨gy,2,none⟩ (.I (S:Int))).alloc (.cells #[.bool false,.string r1,.I (S:Int)] 168)));have hsw:=NH (w:=w) (g3:=g3) hw6 HBX4.o HX4.o hxy hx3 h3y hgw hgw2;obtain ⟨hk6,hx6,hbx6⟩:=hsw;rw [←hw6];obtain ⟨HBX6,HX6,HE6⟩:=Hd3 hbx6 hx6 (HE3.o.keep hk6);have hle:m1≤m2:=Y4;have HLE:=Hd hle;clear hw6 hk6 hx6 hbx6 hle hlt hc z0 z1 z2 zf zl x0 x1 x2 xf xl y0 y1 y2 yf yl;refine (JG r2 r1 HR2.o.2.2 HR1.o.2.2 (by rw [HR2.o.1,HR1.o.1];exact HLE.o) Y53 w6).mono ?_;rintro e7 w7 ⟨r,rfl,hr,hx7⟩;rw [HR2.o.1,HR1.o.1] at hr;obtain ⟨d,hd⟩:=eqx (m2-m1);rw [←hd] at hr;have HRR:=Hd hr;have hdl:m1+d=m2:=Y55;obtain ⟨HX7,HE7,HBX7⟩:=Hd3 (HX6.o.trans hx7) (HE6.o.keep (hx7.kept _)) (HBX6.o.keep (hx7.kept _));have hrz:=FS hr.2.1;have HD:=Hd hdl;obtain ⟨z0,z1,z2⟩:=HE7.o.qs3;have zf:=HE7.o.frozen;have zl:=HE7.o.lt;obtain ⟨x0,x1,x2⟩:=HBX7.o.qs3;have xf:=HBX7.o.frozen;have xl:=HBX7.o.lt;by_cases h0:d=0
   ·have hs0:r.size=0:=hrz.2 (hr.1.trans h0);have hs1:¬0<r.size:=Y4;clear hs0;have H0:=Hd h0;clear h0;have hz:=((HE7.o.set 0 (.bool false)).set 1 (.string r)).set 2 (.I (S:Int));obtain ⟨d0,d1,d2⟩:=hz.qs3;have dl:=hz.lt;have HF:=Hd (show sv false d=sv false m1+sv true m2 by have:=HD.o;have:=H0.o;simp [sv];omega);exact WQ
   ·have hs0:r.size≠0:=fun e=>h0 (hr.1.symm.trans (hrz.1 e));have hs1:0<r.size:=Y4;clear hs0;have hz:=((HE7.o.set 0 (.bool true)).set 1 (.string r)).set 2 (.I (S:Int));obtain ⟨d0,d1,d2⟩:=hz.qs3;have dl:=hz.lt;have HF:=Hd (show sv true d=sv false m1+sv true m2 by have:=HD.o;simp [sv];omega);have HDL:=Hd (show d<256^50 by have h1:=HD.o;have h2:=Nat.lt_trans HM2.o (show (256:Nat)^40<256^50 from Nat.pow_lt_pow_right Y17 Y17);omega);exact ZY
  ·have hc:¬Du m1 m2<0:=(by unfold Du;rw [if_neg hlt];split<;>decide);obtain ⟨cn,hcn⟩:=eqx (Du m1 m2);rw [←hcn] at hc⊢;clear hcn;obtain ⟨z0,z1,z2⟩:=HE3.o.qs3;have zf:=HE3.o.frozen;have zl:=HE3.o.lt;obtain ⟨x0,x1,x2⟩:=HBX4.o.qs3;have xf:=HBX4.o.frozen;have xl:=HBX4.o.lt;obtain ⟨y0,y1,y2⟩:=HBY.o.qs3;have yf:=HBY.o.frozen;have yl:=HBY.o.lt
   go_wp2_with fail
   obtain ⟨w6,hw6⟩:=eqx w4;have hk6:Kept (fun b=>b=g3) w4 w6:=(by rw [hw6];exact Kept.refl _ _);have hx6:Ext w w6:=(by rw [hw6];exact HX4.o);have hbx6:Blk w6 gx 168 #[.bool false,.string r1,.I (S:Int)]:=(by rw [hw6];exact HBX4.o);rw [←hw6];obtain ⟨HBX6,HX6,HE6⟩:=Hd3 hbx6 hx6 (HE3.o.keep hk6);have hle:m2≤m1:=Y4;have HLE:=Hd hle;clear hw6 hk6 hx6 hbx6 hle hlt hc z0 z1 z2 zf zl x0 x1 x2 xf xl y0 y1 y2 yf yl;refine (JG r1 r2 HR1.o.2.2 HR2.o.2.2 (by rw [HR1.o.1,HR2.o.1];exact HLE.o) Y52 w6).mono ?_;rintro e7 w7 ⟨r,rfl,hr,hx7⟩;rw [HR1.o.1,HR2.o.1] at hr;obtain ⟨d,hd⟩:=eqx (m1-m2);rw [←hd] at hr;have HRR:=Hd hr;have hdl:m2+d=m1:=Y55;obtain ⟨HX7,HE7,HBX7⟩:=Hd3 (HX6.o.trans hx7) (HE6.o.keep (hx7.kept _)) (HBX6.o.keep (hx7.kept _));have hrz:=FS hr.2.1;have HD:=Hd hdl;obtain ⟨z0,z1,z2⟩:=HE7.o.qs3;have zf:=HE7.o.frozen;have zl:=HE7.o.lt;obtain ⟨x0,x1,x2⟩:=HBX7.o.qs3;have xf:=HBX7.o.frozen;have xl:=HBX7.o.lt;by_cases h0:d=0
   ·have hs0:r.size=0:=hrz.2 (hr.1.trans h0);have hs1:¬0<r.size:=Y4;clear hs0;have H0:=Hd h0;clear h0;have hz:=((HE7.o.set 0 (.bool false)).set 1 (.string r)).set 2 (.I (S:Int));obtain ⟨d0,d1,d2⟩:=hz.qs3;have dl:=hz.lt;have HF:=Hd (show sv false d=sv false m1+sv true m2 by have:=HD.o;have:=H0.o;simp [sv];omega);exact VH
   ·have hs0:r.size≠0:=fun e=>h0 (hr.1.symm.trans (hrz.1 e));have hs1:0<r.size:=Y4;clear hs0;have hz:=((HE7.o.set 0 (.bool false)).set 1 (.string r)).set 2 (.I (S:Int));obtain ⟨d0,d1,d2⟩:=hz.qs3;have dl:=hz.lt;have HF:=Hd (show sv false d=sv false m1+sv true m2 by have:=HD.o;simp [sv];omega);exact VH
 ·go_wp2_with fail
  rw [←HW4.o]
  try rw [←HGY.o]
  clear x0 x1 x2 xf xl;refine (Lo r1 r2 HR1.o.2.2 HR2.o.2.2 w4).mono ?_;rintro e5 w5 ⟨rfl,rfl⟩;rw [HR1.o.1,HR2.o.1];by_cases hlt:m1<m2
  ·have hc:Du m1 m2<0:=(by unfold Du;rw [if_pos hlt];decide);obtain ⟨cn,hcn⟩:=eqx (Du m1 m2);rw [←hcn] at hc⊢;clear hcn;obtain ⟨z0,z1,z2⟩:=HE3.o.qs3;have zf:=HE3.o.frozen;have zl:=HE3.o.lt;obtain ⟨x0,x1,x2⟩:=HBX4.o.qs3;have xf:=HBX4.o.frozen;have xl:=HBX4.o.lt;obtain ⟨y0,y1,y2⟩:=HBY.o.qs3;have yf:=HBY.o.frozen;have yl:=HBY.o.lt
   go_wp2_with fail
   obtain ⟨w6,hw6⟩:=eqx ((((((((w4.setCell ⟨gx,0,none⟩ (.bool false)).setCell ⟨gx,1,none⟩ (.string r2)).setCell ⟨gx,2,none⟩ (.I (S:Int))).setCell ⟨gy,0,none⟩ (.bool true)).setCell ⟨gy,1,none⟩ (.string r1)).setCell ⟨gy,2,none⟩ (.I (S:Int))).alloc (.cells #[.bool true,.string r1,.I (S:Int)] 168)));have hsw:=NH (w:=w) (g3:=g3) hw6 HBX4.o HX4.o hxy hx3 h3y hgw hgw2;obtain ⟨hk6,hx6,hbx6⟩:=hsw;rw [←hw6];obtain ⟨HBX6,HX6,HE6⟩:=Hd3 hbx6 hx6 (HE3.o.keep hk6);have hle:m1≤m2:=Y4;have HLE:=Hd hle;clear hw6 hk6 hx6 hbx6 hle hlt hc z0 z1 z2 zf zl x0 x1 x2 xf xl y0 y1 y2 yf yl;refine (JG r2 r1 HR2.o.2.2 HR1.o.2.2 (by rw [HR2.o.1,HR1.o.1];exact HLE.o) Y53 w6).mono ?_;rintro e7 w7 ⟨r,rfl,hr,hx7⟩;rw [HR2.o.1,HR1.o.1] at hr;obtain ⟨d,hd⟩:=eqx (m2-m1);rw [←hd] at hr;have HRR:=Hd hr;have hdl:m1+d=m2:=Y55;obtain ⟨HX7,HE7,HBX7⟩:=Hd3 (HX6.o.trans hx7) (HE6.o.keep (hx7.kept _)) (HBX6.o.keep (hx7.kept _));have hrz:=FS hr.2.1;have HD:=Hd hdl;obtain ⟨z0,z1,z2⟩:=HE7.o.qs3;have zf:=HE7.o.frozen;have zl:=HE7.o.lt;obtain ⟨x0,x1,x2⟩:=HBX7.o.qs3;have xf:=HBX7.o.frozen;have xl:=HBX7.o.lt;by_cases h0:d=0
   ·have hs0:r.size=0:=hrz.2 (hr.1.trans h0);have hs1:¬0<r.size:=Y4;clear hs0;have H0:=Hd h0;clear h0;have hz:=((HE7.o.set 0 (.bool false)).set 1 (.string r)).set 2 (.I (S:Int));obtain ⟨d0,d1,d2⟩:=hz.qs3;have dl:=hz.lt;have HF:=Hd (show sv false d=sv true m1+sv false m2 by have:=HD.o;have:=H0.o;simp [sv];omega);exact WQ
   ·have hs0:r.size≠0:=fun e=>h0 (hr.1.symm.trans (hrz.1 e));have hs1:0<r.size:=Y4;clear hs0;have hz:=((HE7.o.set 0 (.bool false)).set 1 (.string r)).set 2 (.I (S:Int));obtain ⟨d0,d1,d2⟩:=hz.qs3;have dl:=hz.lt;have HF:=Hd (show sv false d=sv true m1+sv false m2 by have:=HD.o;simp [sv];omega);exact WQ
  ·have hc:¬Du m1 m2<0:=(by unfold Du;rw [if_neg hlt];split<;>decide);obtain ⟨cn,hcn⟩:=eqx (Du m1 m2);rw [←hcn] at hc⊢;clear hcn;obtain ⟨z0,z1,z2⟩:=HE3.o.qs3;have zf:=HE3.o.frozen;have zl:=HE3.o.lt;obtain ⟨x0,x1,x2⟩:=HBX4.o.qs3;have xf:=HBX4.o.frozen;have xl:=HBX4.o.lt;obtain ⟨y0,y1,y2⟩:=HBY.o.qs3;have yf:=HBY.o.frozen;have yl:=HBY.o.lt
   go_wp2_with fail
   obtain ⟨w6,hw6⟩:=eqx w4;have hk6:Kept (fun b=>b=g3) w4 w6:=(by rw [hw6];exact Kept.refl _ _);have hx6:Ext w w6:=(by rw [hw6];exact HX4.o);have hbx6:Blk w6 gx 168 #[.bool true,.string r1,.I (S:Int)]:=(by rw [hw6];exact HBX4.o);rw [←hw6];obtain ⟨HBX6,HX6,HE6⟩:=Hd3 hbx6 hx6 (HE3.o.keep hk6);have hle:m2≤m1:=Y4;have HLE:=Hd hle;clear hw6 hk6 hx6 hbx6 hle hlt hc z0 z1 z2 zf zl x0 x1 x2 xf xl y0 y1 y2 yf yl;refine (JG r1 r2 HR1.o.2.2 HR2.o.2.2 (by rw [HR1.o.1,HR2.o.1];exact HLE.o) Y52 w6).mono ?_;rintro e7 w7 ⟨r,rfl,hr,hx7⟩;rw [HR1.o.1,HR2.o.1] at hr;obtain ⟨d,hd⟩:=eqx (m1-m2);rw [←hd] at hr;have HRR:=Hd hr;have hdl:m2+d=m1:=Y55;obtain ⟨HX7,HE7,HBX7⟩:=Hd3 (HX6.o.trans hx7) (HE6.o.keep (hx7.kept _)) (HBX6.o.keep (hx7.kept _));have hrz:=FS hr.2.1;have HD:=Hd hdl;obtain ⟨z0,z1,z2⟩:=HE7.o.qs3;have zf:=HE7.o.frozen;have zl:=HE7.o.lt;obtain ⟨x0,x1,x2⟩:=HBX7.o.qs3;have xf:=HBX7.o.frozen;have xl:=HBX7.o.lt;by_cases h0:d=0
   ·have hs0:r.size=0:=hrz.2 (hr.1.trans h0);have hs1:¬0<r.size:=Y4;clear hs0;have H0:=Hd h0;clear h0;have hz:=((HE7.o.set 0 (.bool false)).set 1 (.string r)).set 2 (.I (S:Int));obtain ⟨d0,d1,d2⟩:=hz.qs3;have dl:=hz.lt;have HF:=Hd (show sv false d=sv true m1+sv false m2 by have:=HD.o;have:=H0.o;simp [sv];omega);exact VH
   ·have hs0:r.size≠0:=fun e=>h0 (hr.1.symm.trans (hrz.1 e));have hs1:0<r.size:=Y4;clear hs0;have hz:=((HE7.o.set 0 (.bool true)).set 1 (.string r)).set 2 (.I (S:Int));obtain ⟨d0,d1,d2⟩:=hz.qs3;have dl:=hz.lt;have HF:=Hd (show sv true d=sv true m1+sv false m2 by have:=HD.o;simp [sv];omega);have HDL:=Hd (show d<256^50 by have h1:=HD.o;have h2:=Nat.lt_trans HM1.o (show (256:Nat)^40<256^50 from Nat.pow_lt_pow_right Y17 Y17);omega);exact ZY
 ·go_upto_region 4 with fail
  rw [←HW4.o,←HGY.o];clear x0 x1 x2 xf xl;refine Qb (fun i=>[i]) (fun m b=>m=1010∧b=g3) [(10,[1010])] ?_;refine Qp ?_;refine Qm (fun vals γ w' ρ hR hN hp hρ zs zg=>by
   exact My) ?_
  refine Qp ?_;refine Qm (fun vals γ w' ρ hR hN hp hρ zs zg=>by
   exact My) ?_
  refine Qp ?_;refine Qm (fun vals γ w' ρ hR hN hp hρ zs zg=>by
   exact My) ?_
  refine Qs (FP fun v γ w'=>∃ r,v=.string r∧isN r (m1+m2)) (EuA ?_) ?_ ?_
  ·intro v γ w1 γ' w2 r h;exact h
  ·exact Ya
  refine Qp ?_;refine Qm (fun vals γ w' ρ hR hN hp hρ zs zg=>by
   exact My) ?_
  refine Qs (FP fun v γ w'=>∃ r,v=.agg #[.bool true,.string r,.I (S:Int)]∧isN r (m1+m2)) (EuA ?_) ?_ ?_
  ·intro v γ w1 γ' w2 r h;exact h
  ·exact Xw
  refine Qs (fun _ γ w'=>∃ r,(Blk w' g3 168 #[.bool true,.string r,.I (S:Int)]∧γ 1010=some none∧C4 γ g3)∧isN r (m1+m2)) ?_ ?_ ?_
  ·exact VA
  ·intro vals γ w' ρ hR hN hp hρ zs zg;obtain ⟨r,hv9,hn9⟩:=hp.o 9 Y17;have e38:=(hρ.o 38).trans hv9;have HN9:=Hd hn9;clear hn9;have HR:=hR;have hk0:=hR.o.key0 hN.o (k:=1010) Y17 Y17;have HK:=Hd hk0;have hb0:=HE3.o.keep ((Kept.drew _ _).trans (hR.o.keptS (S:=fun b=>b=g3) fun b _ e=>⟨Is b,fun m hm=>Y45⟩));have HB0:=Hd hb0;obtain ⟨q0,q1,q2⟩:=hb0.qs3;have qf:=hb0.frozen;have ql:=hb0.lt;clear hk0 hb0;refine Qr ?_;refine ⟨γ.put 1010 none,FCA HK.o rfl rfl rfl Y1 (fun b hb hm=>(((((Only.refl g3 w').set 0 (.bool true)).set 1 (.string r)).set 2 (.I (S:Int)))).block b fun e=>hm ⟨rfl,e⟩),LM.done Y17 (.inr Y17),?_⟩;have hb1:=HB0.o;exact ⟨r,⟨by simpa using (((hb1.set 0 (.bool true)).set 1 (.string r)).set 2 (.I (S:Int))),rfl,fun ⟨k',hk'⟩=>by unfold Gh.put at hk';split at hk';(cases hk');exact absurd (HR.o.old k' _ hk' (by have:=HE3.o.lt;exact this)) (by simp [gh0])⟩,HN9.o⟩
  intro vals γ w9 hR hG;obtain ⟨q6,v6,-⟩:=hG 6 Y17;obtain ⟨q9,v9,-⟩:=hG 9 Y17;refine Qx ?_;simp only [v6,v9];clear v6 v9;obtain ⟨r,⟨hb9,-,-⟩,hn9⟩:=hG 10 Y17;obtain ⟨c0,c1,c2⟩:=hb9.qs3;have cl:=hb9.lt;have HX9:=Hd (hR.extB HX4.o fun m b hm=>Y51);have HN9:=Hd hn9;clear hb9 hn9 hR hG;go_wp2;refine bodyPost_ret (v:=.agg #[.bool true,.string r,.I (S:Int)]) (by simp [results,results175,go_sem,c0,c1,c2]) rfl ⟨true,r,m1+m2,rfl,HN9.o,by simp [sv];try omega,?_,HX9.o⟩;exact Nat.lt_of_lt_of_le (Nat.add_lt_add HM1.o HM2.o) Y17

theorem Ms:∀ S:Nat,S<7→∀ s:Nat,s<S+1→pw (6-(s:Int))=((10^(S-s):Nat):Int)*pw (6-(S:Int)):=by decide
theorem VU:∀ S:Nat,S<7→0<pw (6-(S:Int)):=by decide
theorem Uy(v:Int):sv (decide (v<0)) v.natAbs=v:=by unfold sv;by_cases h:v<0<;>simp [h]<;>omega
theorem Wc(v:Int):sv (!decide (v<0)) v.natAbs=-v:=by unfold sv;by_cases h:v<0<;>simp [h]<;>omega
theorem Qz(b:Bool)(n k:Nat):sv b (n*k)=sv b n*(k:Int):=by cases b<;>simp [sv,Int.neg_mul]
structure Dc(a b v:Int)(s:Nat):Prop where
 mu:mu a b=v*pw (6-(s:Int))
 s6:s≤6
 v1:(BG a b).1=v
 v2:(BG a b).2.toNat=s
 lo:-1000000000000000≤v
 hi:v≤1000000000000000
theorem FQA(a b:Int):∃ v s,Dc a b v s:=by
 have h:=Ek a b;refine ⟨(BG a b).1,(BG a b).2.toNat,?_,Y4,rfl,rfl,h.2.2.1,h.2.2.2⟩;rw [Int.toNat_of_nonneg h.1];rfl
theorem Dc.lt{a b v:Int}{s:Nat}(h:Dc a b v s):v.natAbs<256^20:=by
 have h1:=h.lo;have h2:=h.hi;exact Nat.lt_of_le_of_lt (show v.natAbs≤1000000000000000 by omega) Y17
theorem WM{a b v a' b' v':Int}{s s' S:Nat}(h:Dc a b v s)(h':Dc a' b' v' s')(hS:S=max s s'):(v*((10^(S-s):Nat):Int)+(-v')*((10^(S-s'):Nat):Int))*pw (6-(S:Int))=mu a b-mu a' b':=by
 have h1:=h.s6;have h2:=h'.s6;rw [h.mu,h'.mu,Ms S Y4 s Y4,Ms S Y4 s' Y4,Int.add_mul,Int.neg_mul,Int.neg_mul,Int.mul_assoc,Int.mul_assoc];exact Int.sub_eq_add_neg.symm
theorem Ss{V p x y:Int}(hp:0<p)(h:V*p=x-y):(V=0→BW x y=0)∧(V<0→BW x y=-1)∧(0<V→BW x y=1):=by
 refine ⟨fun h0 => ?_,fun h0 => ?_,fun h0 => ?_⟩
 ·rw [h0,Int.zero_mul] at h;unfold BW;rw [if_neg Y4,if_neg Y4]
 ·have:=Int.mul_neg_of_neg_of_pos h0 hp;unfold BW;rw [if_pos Y4]
 ·have:=Int.mul_pos h0 hp;unfold BW;rw [if_neg Y4,if_pos Y4]
theorem BIA(h:qP:=by
 clear hrz;go_wp2;go_ret;exact ⟨Y19,HX5.o.alloc _⟩):qP:=h
theorem Gv(a b a' b':Int)(w:World):Cl 105 #[.agg #[.I a,.I b],.agg #[.I a',.I b']] w (CD w (BW (mu a b) (mu a' b'))):=by
 obtain ⟨v1,s1,hd1⟩:=FQA a b;obtain ⟨v2,s2,hd2⟩:=FQA a' b';obtain ⟨S,hS⟩:=eqx (max s1 s2);have hdif:=WM hd1 hd2 hS;have hsg:=Ss (VU S (by have:=hd1.s6;have:=hd2.s6;omega)) hdif;obtain ⟨HSG,HD1,HD2,HS⟩:=Hd4 hsg hd1 hd2 hS;obtain ⟨n1,hn1⟩:=eqx (decide (v1<0));obtain ⟨n2,hn2⟩:=eqx (decide (v2<0));have HN1:=Hd hn1;have HN2:=Hd hn2;clear hdif hsg hd1 hd2 hS hn1 hn2;obtain ⟨w0,hw0⟩:=eqx ((w.alloc (.cells #[.I a,.I b] 25)).alloc (.cells #[.I a',.I b'] 25));have hb1:Blk w0 w.heap.size 25 #[.I a,.I b]:=Y48;have hb2:Blk w0 (w.heap.size+1) 25 #[.I a',.I b']:=by
  rw [hw0];have:=Blk.new (w.alloc (.cells #[.I a,.I b] 25)) 25 #[.I a',.I b']
  simpa using this
 have hx0:Ext w w0:=Y49;obtain ⟨HW0,HX0,HB2⟩:=Hd3 hw0 hx0 hb2;clear hw0 hx0 hb1 hb2
 go_enter func105,ntmps105
 go_wp2_with fail
 rw [←HW0.o];refine (PA a b w0).mono ?_;rintro e1 w1 ⟨N1,rfl,hr1,hx1⟩;rw [HD1.o.v1,HD1.o.v2,←HN1.o];rw [HD1.o.v1] at hr1;have HR1:=Hd hr1;obtain ⟨w2,hw2⟩:=eqx (w1.alloc (.cells #[.bool n1,.string N1,.I (s1:Int)] 168));obtain ⟨gx,hgx⟩:=eqx w1.heap.size;have hx12:Ext w1 w2:=(by rw [hw2];exact (Ext.refl _).alloc _);have HBX:=Hd (show Blk w2 gx 168 #[.bool n1,.string N1,.I (s1:Int)] by rw [hw2,hgx];exact Blk.new _ _ _);have HX2:=Hd (HX0.o.trans (hx1.trans hx12));have hb2:=HB2.o.keep (hx1.kept _);obtain ⟨p0,p1⟩:=hb2.qs2;have pl:=hb2.lt;have hgw:w.heap.size≤gx:=(by have:=HX0.o.size;have:=hx1.size;omega);have HW2:=Hd hw2;have HGX:=Hd hgx;clear hr1 hx1 hw2 hgx hx12 hb2 HB2 HX0 HW0
 go_wp2_with fail
 rw [←HW2.o,←HGX.o];clear p0 p1 pl;refine (PA a' b' w2).mono ?_;rintro e3 w3 ⟨N2,rfl,hr2,hx3⟩;rw [HD2.o.v1,HD2.o.v2,←HN2.o];rw [HD2.o.v1] at hr2;have HR2:=Hd hr2;obtain ⟨w4,hw4⟩:=eqx (w3.alloc (.cells #[.bool (!n2),.string N2,.I (s2:Int)] 168));have hx34:Ext w3 w4:=(by rw [hw4];exact (Ext.refl _).alloc _);have HX4:=Hd (HX2.o.trans (hx3.trans hx34));have hbx:=HBX.o.keep (hx3.kept _);obtain ⟨q0,q1,q2⟩:=hbx.qs3;have ql:=hbx.lt;have HW4:=Hd hw4;clear hr2 hx3 hw4 hx34 hbx HX2 HW2 HBX
 go_wp2_with fail
 rw [←HW4.o];refine (RT n1 (!n2) N1 N2 s1 s2 S HR1.o.2.2 HR2.o.2.2 (by rw [HR1.o.1];exact HD1.o.lt) (by rw [HR2.o.1];exact HD2.o.lt) HD1.o.s6 HD2.o.s6 HS.o w4).mono ?_;rintro e5 w5 ⟨neg,r,n,rfl,hr,hsv,-,hx5⟩;rw [HR1.o.1,HR2.o.1,Qz,Qz,HN1.o,HN2.o,Uy,Wc] at hsv;rw [←hsv] at HSG;have hrz:=FS hr.2.1;rw [hr.1] at hrz;have HX5:=Hd (HX4.o.trans hx5);clear hsv hr hx5 q0 q1 q2 ql;by_cases h0:n=0
 ·have hf:=HSG.o.1 (by subst h0;cases neg<;>rfl);have HF:=Hd hf;have hs0:((r.size:Int)==0)=true:=(by rw [hrz.2 h0];rfl);clear hf hrz;go_wp2;go_ret;exact ⟨Y19,HX5.o.alloc _⟩
 ·have hs0:((r.size:Int)==0)=false:=(by rw [beq_eq_false_iff_ne];intro e;exact h0 (hrz.1 Y4));cases neg
  ·have HF:=Hd (HSG.o.2.2 (by simp [sv];omega));exact BIA
  ·have HF:=Hd (HSG.o.2.1 (by simp [sv];omega));exact BIA

theorem US(h:qP:=by
 go_enter func20,ntmps20
 go_wp2;go_ret;exact ⟨by rw [HF.o,decide_eq_false Y4,Bool.false_and];rfl,(exbb w)⟩):qP:=h
theorem M0(q:Nat)(x:Val)(A B:OA)(c e:Nat)(w:World)(S:NP)(h:RV w S q x A B)(hk:x.kind=0):Cl 20 #[(Vq x A c B e)] w (AO w (Aj x)):=by
 have hf:Aj x=(decide (0≤x.n∧x.n≤99)&&decide (x=⟨x.kind,⟨#[]⟩,0,0,x.n,[],[]⟩)):=by
  cases x;simp_all [Aj,B6]
 have HF:=Hd hf;have H:=Hd h;have k0:(x.kind==0)=true:=Y2;have k1:(x.kind==1)=false:=Y2;have k2:(x.kind==2)=false:=Y2;have k3:(x.kind==3)=false:=Y2;have k4:(x.kind==4)=false:=Y2;have k5:(x.kind==5)=false:=Y2;clear hf hk h;by_cases h1:0≤x.n
 ·by_cases h2:x.n≤99
  ·go_enter func20,ntmps20
   go_wp2_with fail
   refine (Ch q x ⟨x.kind,⟨#[]⟩,0,0,x.n,[],[]⟩ A B none none c e 0 0 _ S S (H.o.keep ((exbb w).kept _)) (RV.mk (AE) Strs.nil Rows.nil)).mono ?_;rintro e1 w2 ⟨rfl,hx2⟩;have HX2:=Hd hx2;clear hx2;go_wp2;go_ret;exact ⟨by rw [HF.o,decide_eq_true (show (0≤x.n∧x.n≤99) from ⟨h1,h2⟩),Bool.true_and];rfl,Ext.trans (exbb w) HX2.o⟩
  ·exact US
 ·exact US

theorem Na(q:Nat)(x:Val)(A B:OA)(c e:Nat)(w:World)(S:NP)(h:RV w S q x A B)(hk:x.kind=1):Cl 20 #[(Vq x A c B e)] w (AO w (Aj x)):=by
 have hf:Aj x=(Bi x.s&&decide (x=⟨x.kind,x.s,0,0,0,[],[]⟩)):=by
  cases x;simp_all [Aj,B6]
 have HF:=Hd hf;have H:=Hd h;have k0:(x.kind==0)=false:=Y2;have k1:(x.kind==1)=true:=Y2;have k2:(x.kind==2)=false:=Y2;have k3:(x.kind==3)=false:=Y2;have k4:(x.kind==4)=false:=Y2;have k5:(x.kind==5)=false:=Y2;clear hf hk h;have hs:=H.o.size;cases ht:Bi x.s
 ·have HT:=Hd ht;clear ht
  go_enter func20,ntmps20
  go_wp2_with (go_at_call 58;refine (Ks _ hs _).mono ?_;rintro e w' ⟨rfl,rfl⟩;rw [HT.o])
  go_ret;exact ⟨Y24,(exbb w)⟩
 ·have HT:=Hd ht;clear ht
  go_enter func20,ntmps20
  go_wp2_with (go_at_call 58;refine (Ks _ hs _).mono ?_;rintro e w' ⟨rfl,rfl⟩;rw [HT.o])
  refine (Ch q x ⟨x.kind,x.s,0,0,0,[],[]⟩ A B none none c e 0 0 _ S S (H.o.keep ((exbb w).kept _)) (RV.mk H.o.size Strs.nil Rows.nil)).mono ?_;rintro e1 w2 ⟨rfl,hx2⟩;have HX2:=Hd hx2;clear hx2;go_wp2;go_ret;exact ⟨by rw [HF.o,HT.o,Bool.true_and];rfl,Ext.trans (exbb w) HX2.o⟩

theorem Mt(q:Nat)(x:Val)(A B:OA)(c e:Nat)(w:World)(S:NP)(h:RV w S q x A B)(hk:x.kind=2):Cl 20 #[(Vq x A c B e)] w (AO w (Aj x)):=by
 have hf:Aj x=(Cm x.dn x.ds&&decide (x=⟨x.kind,⟨#[]⟩,x.dn,x.ds,0,[],[]⟩)):=by
  cases x;simp_all [Aj,B6]
 have HF:=Hd hf;have H:=Hd h;have k0:(x.kind==0)=false:=Y2;have k1:(x.kind==1)=false:=Y2;have k2:(x.kind==2)=true:=Y2;have k3:(x.kind==3)=false:=Y2;have k4:(x.kind==4)=false:=Y2;have k5:(x.kind==5)=false:=Y2;clear hf hk h
 go_enter func20,ntmps20
 go_wp2_with fail
 refine (IN x.dn x.ds _).mono ?_;rintro e1 w1 ⟨rfl,hx1⟩;obtain ⟨hc1,hf1⟩:=LS hx1;have hz1:=hx1.size;simp at hc1 hf1 hz1;have hz2:w.heap.size<w1.heap.size:=Y4;have hz3:w.heap.size+1<w1.heap.size:=Y4;have HX:=Hd hx1;cases ht:Cm x.dn x.ds
 ·have HT:=Hd ht;clear ht hx1;exact Z64
 ·have HT:=Hd ht;clear ht hx1
  go_wp2_with fail
  refine (Ch q x ⟨x.kind,⟨#[]⟩,x.dn,x.ds,0,[],[]⟩ A B none none c e 0 0 _ S S (H.o.keep ((Ext.trans (exbb w) HX.o).kept _)) (RV.mk (AE) Strs.nil Rows.nil)).mono ?_;rintro e1 w2 ⟨rfl,hx2⟩;have HX2:=Hd hx2;clear hx2;go_wp2;go_ret;exact ⟨by rw [HF.o,HT.o,Bool.true_and];rfl,Ext.trans (Ext.trans (exbb w) HX.o) HX2.o⟩

theorem NM(q:Nat)(x:Val)(A B:OA)(c e:Nat)(w:World)(S:NP)(h:RV w S q x A B)(hk:x.kind=3):Cl 20 #[(Vq x A c B e)] w (AO w (Aj x)):=by
 have hf:Aj x=(decide (0≤x.n∧x.n≤3652058)&&decide (x=⟨x.kind,⟨#[]⟩,0,0,x.n,[],[]⟩)):=by
  cases x;simp_all [Aj,B6]
 have HF:=Hd hf;have H:=Hd h;have k0:(x.kind==0)=false:=Y2;have k1:(x.kind==1)=false:=Y2;have k2:(x.kind==2)=false:=Y2;have k3:(x.kind==3)=true:=Y2;have k4:(x.kind==4)=false:=Y2;have k5:(x.kind==5)=false:=Y2;clear hf hk h;by_cases h1:0≤x.n
 ·by_cases h2:x.n≤3652058
  ·go_enter func20,ntmps20
   go_wp2_with fail
   refine (Ch q x ⟨x.kind,⟨#[]⟩,0,0,x.n,[],[]⟩ A B none none c e 0 0 _ S S (H.o.keep ((exbb w).kept _)) (RV.mk (AE) Strs.nil Rows.nil)).mono ?_;rintro e1 w2 ⟨rfl,hx2⟩;have HX2:=Hd hx2;clear hx2;go_wp2;go_ret;exact ⟨by rw [HF.o,decide_eq_true (show (0≤x.n∧x.n≤3652058) from ⟨h1,h2⟩),Bool.true_and];rfl,Ext.trans (exbb w) HX2.o⟩
  ·exact US
 ·exact US

theorem OC(q:Nat)(x:Val)(A B:OA)(c e:Nat)(w:World)(S:NP)(h:RV w S q x A B)(hk:x.kind=4):Cl 20 #[(Vq x A c B e)] w (AO w (Aj x)):=by
 have hf:Aj x=(decide (x.n=0∨x.n=1)&&decide (x=⟨x.kind,⟨#[]⟩,0,0,x.n,[],[]⟩)):=by
  cases x;simp_all [Aj,B6]
 have HF:=Hd hf;have H:=Hd h;have k0:(x.kind==0)=false:=Y2;have k1:(x.kind==1)=false:=Y2;have k2:(x.kind==2)=false:=Y2;have k3:(x.kind==3)=false:=Y2;have k4:(x.kind==4)=true:=Y2;have k5:(x.kind==5)=false:=Y2;clear hf hk h;by_cases h1:x.n=0
 ·have n0:(x.n==0)=true:=(by simp [h1]);have H1:=Hd h1;clear h1
  go_enter func20,ntmps20
  go_wp2_with fail
  refine (Ch q x ⟨x.kind,⟨#[]⟩,0,0,x.n,[],[]⟩ A B none none c e 0 0 _ S S (H.o.keep ((exbb w).kept _)) (RV.mk (AE) Strs.nil Rows.nil)).mono ?_;rintro e1 w2 ⟨rfl,hx2⟩;have HX2:=Hd hx2;clear hx2;go_wp2;go_ret;exact ⟨by rw [HF.o,decide_eq_true (show x.n=0∨x.n=1 from .inl H1.o),Bool.true_and];rfl,Ext.trans (exbb w) HX2.o⟩
 ·have n0:(x.n==0)=false:=(by simp [h1]);have H1:=Hd h1;clear h1;by_cases h2:x.n=1
  ·have n1:(x.n==1)=true:=Y21;have H2:=Hd h2;clear h2
   go_enter func20,ntmps20
   go_wp2_with fail
   refine (Ch q x ⟨x.kind,⟨#[]⟩,0,0,x.n,[],[]⟩ A B none none c e 0 0 _ S S (H.o.keep ((exbb w).kept _)) (RV.mk (AE) Strs.nil Rows.nil)).mono ?_;rintro e1 w2 ⟨rfl,hx2⟩;have HX2:=Hd hx2;clear hx2;go_wp2;go_ret;exact ⟨by rw [HF.o,decide_eq_true (show x.n=0∨x.n=1 from .inr H2.o),Bool.true_and];rfl,Ext.trans (exbb w) HX2.o⟩
  ·have n1:(x.n==1)=false:=Y21;have H2:=Hd h2;clear h2
   go_enter func20,ntmps20
   go_wp2;go_ret;exact ⟨by rw [HF.o,decide_eq_false (show ¬(x.n=0∨x.n=1) from fun h=>h.elim H1.o H2.o),Bool.false_and];rfl,(exbb w)⟩

theorem Fi(q:Nat)(x:Val)(A B:OA)(c e:Nat)(w:World)(S:NP)(h:RV w S q x A B)(hk:x.kind≠5):Cl 20 #[(Vq x A c B e)] w (AO w (Aj x)):=by
 by_cases g0:x.kind=0
 ·exact M0 q x A B c e w S h g0
 by_cases g1:x.kind=1
 ·exact Na q x A B c e w S h g1
 by_cases g2:x.kind=2
 ·exact Mt q x A B c e w S h g2
 by_cases g3:x.kind=3
 ·exact NM q x A B c e w S h g3
 by_cases g4:x.kind=4
 ·exact OC q x A B c e w S h g4
 have hf:Aj x=false:=(by simp [Aj,g0,g1,g2,g3,g4]);have HF:=Hd hf;have k0:(x.kind==0)=false:=(by simp [g0]);have k1:(x.kind==1)=false:=(by simp [g1]);have k2:(x.kind==2)=false:=(by simp [g2]);have k3:(x.kind==3)=false:=(by simp [g3]);have k4:(x.kind==4)=false:=(by simp [g4]);have k5:(x.kind==5)=false:=Y2;clear hf hk h g0 g1 g2 g3 g4
 go_enter func20,ntmps20
 go_wp2;go_ret;exact ⟨Y19,(exbb w)⟩

theorem Vg(h:qP:=by
 go_enter func60,ntmps60
 go_wp2_with (go_at_call 147;refine (LB A c cols _ S HSA.o).mono ?_;rintro e1 w1 ⟨rfl,n1,rfl⟩;rw [HN.o])
 go_ret;exact ⟨Y19,(Ext.refl _).drewN _⟩):qP:=h
theorem Rz(q:Nat)(cols:List BA)(rows:List (List Val))(A B:OA)(c e:Nat)(w:World)(S T:NP)(hA:Strs w S A cols)(hB:Rows w T q B rows) :
  Cl 60 #[.slice A cols.length c,.slice B rows.length e] w (AO w (Ao cols rows)):=by
 have hn:=hA.2.1;have hm:=hB.len;have HSA:=Hd hA;have HSB:=Hd hB;clear hA hB;cases hnm:Lm cols
 case false =>
  have HN:=Hd hnm;have HF:=Hd (show Ao cols rows=false by unfold Ao;rw [show (List.range cols.length).all (Dq cols)=false from hnm];simp);clear hnm;exact Vg
 have HN:=Hd hnm;clear hnm;by_cases h1:cols.length≤8
 case neg =>
  have HF:=Hd (show Ao cols rows=false by unfold Ao;rw [decide_eq_false Y4];rfl);have h1':(8:Int)<(cols.length:Int):=Y4;exact Vg
 by_cases h2:rows.length≤100
 case neg =>
  have HF:=Hd (show Ao cols rows=false by unfold Ao;rw [decide_eq_false Y4];rfl);have h1':¬(8:Int)<(cols.length:Int):=Y4;have h2':(100:Int)<(rows.length:Int):=Y4;exact Vg
 have h1':¬(8:Int)<(cols.length:Int):=Y4;have h2':¬(100:Int)<(rows.length:Int):=Y4;have h3':(cols.length:Int)≤8:=Y4;have h4':(rows.length:Int)≤100:=Y4
 go_enter func60,ntmps60
 go_wp2_with (go_at_call 147;refine (LB A c cols _ S HSA.o).mono ?_;rintro e1 w1 ⟨rfl,n1,rfl⟩;rw [HN.o])
 go_loopw [6] (fun i wr=>∃ k:Nat,k≤rows.length∧i=.I k∧Ext w wr∧∀ j (h:j<rows.length),j<k→DS cols.length rows[j]=true) (fun i _=>rows.length-(intOf i).toNat)
 case atStart=>exact ⟨0,AE,rfl,(Ext.refl _).drewN _,Y8⟩
 case round =>
  obtain ⟨i,hi,rfl,hext,hall⟩:=hrel;have HR:=Hd hall;have HE:=Hd hext;clear hall;by_cases hlt2:i<rows.length
  ·obtain ⟨b1,o1,A2,c2,rfl,z1,p0,hcr,hrow⟩:=(HSB.o.keep (hext.kept T)).at_ hlt2;have hrl:=hrow.len;have HROW:=Hd hrow;clear hrow hext;by_cases hln:rows[i].length=cols.length
   ·have hn1:((rows[i].length:Int) != (cols.length:Int))=false:=(by simp [hln]);have HLN:=Hd hln;clear hln;go_wp2;obtain ⟨wo,rfl⟩:∃ wo:World,wo=wr:=⟨_,rfl⟩;have HP0:=Hd p0;clear p0
    go_loopw [7] (fun v wi=>∃ j:Nat,j≤rows[i].length∧v=.I j∧Ext wo wi∧∀ m (h:m<rows[i].length),m<j→CX rows[i][m]=true) (fun v _=>rows[i].length-(intOf v).toNat)
    case atStart=>exact ⟨0,AE,rfl,Ext.refl _,Y8⟩
    case round =>
     obtain ⟨j,hj,rfl,hexi,halli⟩:=hrel;have HI:=Hd halli;have HEI:=Hd hexi;have p0:=hexi.cell HP0.o;have z1':=Nat.lt_of_lt_of_le z1 hexi.size;clear halli;by_cases hlt3:j<rows[i].length
     ·obtain ⟨b2,o2,A5,c5,B5,e5,rfl,z2,⟨q0,q1,q2,q3,q4,q5,q6⟩,⟨hq,_,_⟩,hv⟩:=(HROW.o.keep (hexi.kept T)).at_ hlt3;have HV:=Hd hv;clear hv hexi;by_cases hk5:rows[i][j].kind=5
      ·have hk5':(rows[i][j].kind==5)=true:=(by simp [hk5]);have HF:=Hd (show Ao cols rows=false by
        exact Z70)
       clear hk5;go_wp2;go_ret;exact ⟨Y19,HE.o.trans HEI.o⟩
      ·have hk5':(rows[i][j].kind==5)=false:=(by simp [hk5]);have HK5:=Hd hk5;clear hk5
       go_wp2_with fail
       refine (Fi (q-1) rows[i][j] A5 B5 c5 e5 _ T HV.o HK5.o).mono ?_;rintro e1 w1 ⟨rfl,hx1⟩;have HX1:=Hd hx1;clear hx1;cases hfl:Aj rows[i][j]
       ·have HF:=Hd (show Ao cols rows=false by
         exact Z71)
        clear hfl;go_wp2;go_ret;exact ⟨Y19,HE.o.trans (HEI.o.trans HX1.o)⟩
       ·have HFL:=Hd (show CX rows[i][j]=true by simp [CX,hfl,HK5.o]);clear hfl;go_wp2;go_roundw
        case rel =>
         refine ⟨j+1,Y4,Y5,HEI.o.trans HX1.o,fun m h hm => ?_⟩;exact Z72
        case measure=>simp [intOf];omega
     ·have HRO:=Hd (show DS cols.length rows[i]=true by
       exact Z75)
      clear hexi;exact Z73
   ·exact Z76
  ·have HF:=Hd (show Ao cols rows=true by
    unfold Ao;rw [show (List.range cols.length).all (Dq cols)=true from HN.o,BX rows (DS cols.length) (fun j h=>HR.o j h Y4),decide_eq_true ⟨h1,h2⟩];rfl)
   exact Z80

theorem NU(q:Nat)(x:Val)(A B:OA)(c e:Nat)(w:World)(S:NP)(h:RV w S q x A B)(hk:x.kind=5):Cl 20 #[(Vq x A c B e)] w (AO w (Ae x)):=by
 have hf:Ae x=(Ao x.cols x.rows&&decide (x=⟨x.kind,⟨#[]⟩,0,0,0,x.cols,x.rows⟩)):=by
  cases x;simp_all [Ae,B6]
 have HF:=Hd hf;have H:=Hd h;have k0:(x.kind==0)=false:=Y2;have k1:(x.kind==1)=false:=Y2;have k2:(x.kind==2)=false:=Y2;have k3:(x.kind==3)=false:=Y2;have k4:(x.kind==4)=false:=Y2;have k5:(x.kind==5)=true:=Y2;clear hf hk h
 go_enter func20,ntmps20
 go_wp2_with fail
 refine (Rz q x.cols x.rows A B c e _ S S (H.o.strs.keep ((exbb w).kept _)) (H.o.rows_.keep ((exbb w).kept _))).mono ?_;rintro e1 w1 ⟨rfl,hx1⟩;obtain ⟨hc1,hf1⟩:=LS hx1;have hz1:=hx1.size;simp at hc1 hf1 hz1;have hz2:w.heap.size<w1.heap.size:=Y4;have hz3:w.heap.size+1<w1.heap.size:=Y4;have HX:=Hd hx1;cases ht:Ao x.cols x.rows
 ·exact Z65
 ·have HT:=Hd ht;clear ht hx1
  go_wp2_with fail
  have HY:=Hd (H.o.keep ((Ext.trans (exbb w) HX.o).kept S));refine (Ch q x ⟨x.kind,⟨#[]⟩,0,0,0,x.cols,x.rows⟩ A B A B c e c e _ S S HY.o (RV.mk (AE) HY.o.strs HY.o.rows_)).mono ?_;rintro e1 w2 ⟨rfl,hx2⟩;have HX2:=Hd hx2;clear hx2;go_wp2;go_ret;exact ⟨by rw [HF.o,HT.o,Bool.true_and];rfl,Ext.trans (exbb w) (Ext.trans HX.o HX2.o)⟩

theorem QI(q:Nat)(x:Val)(A B:OA)(c e:Nat)(w:World)(S:NP)(h:RV w S q x A B):Cl 20 #[(Vq x A c B e)] w (AO w (Ae x)):=by
 by_cases hk:x.kind=5
 ·exact NU q x A B c e w S h hk
 ·have:=Fi q x A B c e w S h hk;rwa [show Aj x=Ae x by simp [Ae,hk]] at this




theorem OwnN.of_blk{w:World}{base g:Nat}{l:List Nat}(h:Blk w g 3 (CC l))(hg:base≤g)(hl:l.length≤4294967296):OwnN w base (some ⟨g,0,none⟩) l.length l:=by
 refine ⟨by simp [Cg],.inr ⟨g,l.length,CC l,rfl,hg,h,AS,Y14,by rw [Ni];omega,?_⟩⟩;rw [List.take_of_length_le (by simp [CC,Cg])];simp [CC]
def RetNB(w:World)(l:List Nat)(e:Ending)(w':World):Prop:=∃ g,e=.returned (.slice (some ⟨g,0,none⟩) l.length l.length)∧w.heap.size≤g∧Blk w' g 3 (CC l)∧Ext w w'
theorem RetNB.ret{w w':World}{l:List Nat}{e:Ending}(h:RetNB w l e w')(hl:l.length≤4294967296):D3A w l e w':=by
 obtain ⟨g,h1,h2,h3,h4⟩:=h;exact ⟨_,_,h1,OwnN.of_blk h3 h2 hl,h4⟩

def Nums(w:World)(S:NP)(A:OA)(l:List Nat):Prop:=Rd w S A ((Cg l).map (Value.int .i64))∧l.length≤4294967296
def NN(w:World)(S:NP)(A:OA)(gs:List (List Nat)):Prop :=
 gs.length≤4294967296∧∃ hs:List Value,Rd w S A hs∧hs.length=gs.length∧∀ (i:Nat) (g:List Nat),gs[i]?=some g→∃ (B:OA) (e:Nat),hs[i]?=some (Value.slice B g.length e)∧g.length≤e∧Nums w S B g
section
variable {w w':World}{S T:NP}{A:OA}{l:List Nat}{gs:List (List Nat)}
theorem Tl{l:List Nat}{k:Nat}(h:k<l.length):((Cg l).map (Value.int .i64))[k]?=some (.I ((l[k]:Nat):Int)):=by simp [Cg,h]
theorem Nums.keep(h:Nums w S A l)(k:Kept S w w'):Nums w' S A l:=⟨h.1.keep k,h.2⟩
theorem Nums.mono(h:Nums w S A l)(k:∀ i,i<w.heap.size→S i→T i):Nums w T A l:=⟨h.1.mono k,h.2⟩
theorem Nums.at_(h:Nums w S A l){k:Nat}(hk:k<l.length):∃ b o,A=some ⟨b,o,none⟩∧b<w.heap.size∧w.cell? ⟨b,o+k,none⟩=some (.I ((l[k]:Nat):Int)):=h.1.at_ (Tl hk)
theorem Nums.take(h:Nums w S A l)(k:Nat):Nums w S A (l.take k):=⟨by have:=h.1.take k;simpa [Cg,List.map_take] using this,by have:=h.2;rw [List.length_take];omega⟩
theorem NN.keep(h:NN w S A gs)(k:Kept S w w'):NN w' S A gs:=by
 obtain ⟨h0,hs,h1,h2,h3⟩:=h;refine ⟨h0,hs,h1.keep k,h2,fun i g hg => ?_⟩;obtain ⟨B,e,h4,h5,h6⟩:=h3 i g hg;exact ⟨B,e,h4,h5,h6.keep k⟩
theorem NN.mono(h:NN w S A gs)(k:∀ i,i<w.heap.size→S i→T i):NN w T A gs:=by
 obtain ⟨h0,hs,h1,h2,h3⟩:=h;refine ⟨h0,hs,h1.mono k,h2,fun i g hg => ?_⟩;obtain ⟨B,e,h4,h5,h6⟩:=h3 i g hg;exact ⟨B,e,h4,h5,h6.mono k⟩
theorem NN.at_(h:NN w S A gs){k:Nat}(hk:k<gs.length):∃ b o B e,A=some ⟨b,o,none⟩∧b<w.heap.size∧w.cell? ⟨b,o+k,none⟩=some (.slice B gs[k].length e)∧gs[k].length≤e∧Nums w S B gs[k]:=by
 obtain ⟨h0,hs,h1,h2,h3⟩:=h;obtain ⟨B,e,h4,h5,h6⟩:=h3 k gs[k] (List.getElem?_eq_getElem hk);obtain ⟨b,o,e1,e2,e3⟩:=h1.at_ h4;exact ⟨b,o,B,e,e1,e2,e3,h5,h6⟩
theorem NN.nil:NN w S A []:=⟨Y3,[],.inl rfl,rfl,Y3⟩
theorem OwnN.nums{base c:Nat}(h:OwnN w base A c l)(hl:l.length≤4294967296):Nums w (fun b=>ob A=some b) A l:=⟨Own.rd h,hl⟩
theorem Own.put{base e sz n c g i:Nat}{xs:List Value}(h:Own w base e sz (some ⟨g,0,none⟩) n c xs)(u:Value):Own (w.setCell ⟨g,i,none⟩ u) base e sz (some ⟨g,0,none⟩) n c (xs.set i u):=by
 refine ⟨by rw [List.length_set];exact h.1,?_⟩
 rcases h.2 with ⟨hv,h0⟩|⟨g',cap,cur,hv,hb,hh,hnc,hcm,hcs,ht⟩
 ·cases hv
 ·injection hv with hv1 hv2 hv3;injection hv1 with hv1;injection hv1 with hv1;subst hv1 hv3;refine .inr ⟨g,c,cur.setIfInBounds i u,rfl,hb,Blk.set hh i u,hnc,hcm,by simpa using hcs,?_⟩;rw [Array.toList_setIfInBounds,List.take_set,ht]
end

def hdr(bs:List (Nat × Nat))(gs:List (List Nat)):List Value:=List.zipWith (fun b g=>Value.slice (some ⟨b.1,0,none⟩) g.length b.2) bs gs
structure Parts(w:World)(base:Nat)(bs:List (Nat × Nat))(gs:List (List Nat)):Prop where
 len:bs.length=gs.length
 own:∀ (i:Nat) (b:Nat × Nat) (g:List Nat),bs[i]?=some b→gs[i]?=some g→OwnN w base (some ⟨b.1,0,none⟩) b.2 g
 nd:(bs.map (·.1)).Nodup
def OwnNN(w:World)(base:Nat)(A:OA)(c:Nat)(gs:List (List Nat)):Prop :=
 ∃ bs,Parts w base bs gs∧Own w base 22 1 A gs.length c (hdr bs gs)∧∀ b∈bs,ob A≠some b.1
section
variable {w w':World}{base c:Nat}{A:OA}{bs:List (Nat × Nat)}{gs:List (List Nat)}
theorem Parts.keep(h:Parts w base bs gs)(hk:Kept (fun b=>b∈bs.map (·.1)) w w'):Parts w' base bs gs :=
 ⟨h.len,fun i b g hb hg=>Own.keep (h.own i b g hb hg) (hk.mono fun x _ hx=>by
  have:x=b.1:=(by simp [ob] at hx;exact hx.symm);rw [this];exact List.mem_map.2 ⟨b,List.mem_of_getElem? hb,rfl⟩),h.nd⟩
theorem Parts.nil:Parts w base [] []:=⟨rfl,Y3,Y3⟩
theorem MI(h:bs.length=gs.length):(hdr bs gs).length=gs.length:=by simp [hdr,h]
theorem Wd{i:Nat}{b:Nat × Nat}{g:List Nat}(hb:bs[i]?=some b)(hg:gs[i]?=some g):(hdr bs gs)[i]?=some (.slice (some ⟨b.1,0,none⟩) g.length b.2):=by
 simp [hdr,List.getElem?_zipWith,hb,hg]
theorem Tm(i:Nat)(b:Nat × Nat)(g:List Nat):(hdr bs gs).set i (.slice (some ⟨b.1,0,none⟩) g.length b.2)=hdr (bs.set i b) (gs.set i g):=by
 apply List.ext_getElem?;intro j;by_cases hj:i=j
 ·subst hj;simp only [hdr,List.getElem?_zipWith,List.getElem?_set_self'];cases h1:bs[i]?<;>cases h2:gs[i]?<;>simp
 ·simp only [hdr,List.getElem?_zipWith,List.getElem?_set_ne hj]
theorem TL{bs2:List (Nat × Nat)}{gs2:List (List Nat)}(h:bs.length=gs.length):hdr (bs++bs2) (gs++gs2)=hdr bs gs++hdr bs2 gs2:=by
 simp [hdr,List.zipWith_append h]
theorem Parts.lt(h:Parts w base bs gs):∀ b∈bs,base≤b.1∧b.1<w.heap.size:=by
 intro b hb;obtain ⟨i,hi,rfl⟩:=List.mem_iff_getElem.1 hb;have:=h.own i bs[i] (gs[i]'(by rw [←h.len];exact hi)) (List.getElem?_eq_getElem hi) (List.getElem?_eq_getElem (by rw [←h.len];exact hi));exact Own.blk this rfl
theorem OwnNN.ext(h:OwnNN w base A c gs)(hx:Ext w w'):OwnNN w' base A c gs:=by
 obtain ⟨bs,h1,h2,h3⟩:=h;exact ⟨bs,h1.keep (hx.kept _),Own.ext h2 hx,h3⟩
theorem OwnNN.nil(w:World)(base:Nat):OwnNN w base none 0 []:=⟨[],Parts.nil,Own.nil _ _ _ _,Y3⟩
theorem OwnNN.blk(h:OwnNN w base A c gs){k:Nat}(hk:ob A=some k):base≤k∧k<w.heap.size:=by
 obtain ⟨bs,h1,h2,h3⟩:=h;exact Own.blk h2 hk
theorem OwnNN.nn(h:OwnNN w base A c gs)(hl:gs.length≤4294967296)(hg:∀ g∈gs,g.length≤4294967296):NN w (fun b=>base≤b) A gs:=by
 obtain ⟨bs,h1,h2,h3⟩:=h;refine ⟨hl,hdr bs gs,h2.rd.mono fun b _ hb=>(Own.blk h2 hb).1,MI h1.len,fun i g hi => ?_⟩;have hib:i<bs.length:=by
  rw [h1.len]
  rcases Nat.lt_or_ge i gs.length with h|h
  ·exact h
  ·rw [List.getElem?_eq_none h] at hi;cases hi
 have ho:=h1.own i bs[i] g (List.getElem?_eq_getElem hib) hi;refine ⟨_,_,Wd (List.getElem?_eq_getElem hib) hi,Own.cap ho,(OwnN.nums ho (hg g (List.mem_of_getElem? hi))).mono fun b _ hb=>(Own.blk ho hb).1⟩
theorem Own.some_{e sz n:Nat}{xs:List Value}(h:Own w base e sz A n c xs)(hn:0<n):∃ g,A=some ⟨g,0,none⟩:=by
 rcases h.2 with ⟨hv,h0⟩|⟨g',cap,cur,hv,_⟩
 ·omega
 ·injection hv with hv1;exact ⟨g',hv1⟩
theorem CUA(h:qP:=by
 obtain rfl:=Option.some.inj hd;obtain rfl:=Option.some.inj hg';exact Own.set ho (by simp [ob];omega) _):qP:=h
theorem OwnNN.grow{gA i:Nat}{b:Nat × Nat}{g g2:List Nat}{A2:OA}{c2:Nat}{w1 w2:World}(h1:Parts w base bs gs)(h2:Own w base 22 1 (some ⟨gA,0,none⟩) gs.length c (hdr bs gs))(h3:∀ b∈bs,gA≠b.1)
  (hb:bs[i]?=some b) (_hg:gs[i]?=some g) (hx:Ext w w1) (ho:OwnN w2 base A2 c2 g2) (hgr:w1.grownBy w2 (some b.1)) (hat:ob A2=some b.1∨ob A2=some w1.heap.size) (hne:0<g2.length) :
  OwnNN (w2.setCell ⟨gA,i,none⟩ (.slice A2 g2.length c2)) base (some ⟨gA,0,none⟩) c (gs.set i g2):=by
 obtain ⟨x,rfl⟩:=Own.some_ ho hne;have hx':x=b.1∨x=w1.heap.size:=(by simpa [ob] using hat);have hbm:b∈bs:=List.mem_of_getElem? hb;have hblt:=h1.lt b hbm;have hgA:=Own.blk h2 (k:=gA) rfl;have hgb:=h3 b hbm;have hxz:=hx.size;have hxA:gA≠x:=(by rcases hx' with rfl|rfl<;>omega);have hk1:∀ S:Nat→Prop,(∀ y,S y→y<w.heap.size→y≠b.1)→Kept S w w2:=fun S hS=>(hx.kept S).trans (Kept.of_grown hgr fun y hy _ hyb=>by
  have hyb':y=b.1:=Option.some.inj hyb;exact hS y hy Y4 hyb')
 have hi:i<bs.length:=by
  rcases Nat.lt_or_ge i bs.length with h|h
  ·exact h
  ·rw [List.getElem?_eq_none h] at hb;cases hb
 have hbi:bs[i]=b:=(by rw [List.getElem?_eq_getElem hi] at hb;exact Option.some.inj hb);have hne2:∀ (j:Nat) (d:Nat × Nat),bs[j]?=some d→j≠i→d.1≠b.1:=by
  intro j d hd hji e;have hj:j<bs.length:=by
   rcases Nat.lt_or_ge j bs.length with h|h
   ·exact h
   ·rw [List.getElem?_eq_none h] at hd;cases hd
  have hdj:bs[j]=d:=(by rw [List.getElem?_eq_getElem hj] at hd;exact Option.some.inj hd);have:=(List.getElem_inj (xs:=bs.map (·.1)) (i:=j) (j:=i) (h₀:=Y15) (h₁:=Y34) h1.nd).1 (by simp [hdj,hbi,e]);exact hji this
 refine ⟨bs.set i (x,c2),⟨by simp [h1.len],fun j d g' hd hg' => ?_,?_⟩,?_,?_⟩
 ·by_cases hji:j=i
  ·subst hji;rw [List.getElem?_set_self hi] at hd;rw [List.getElem?_set_self (by rw [←h1.len];exact hi)] at hg';exact CUA
  ·rw [List.getElem?_set_ne (fun e=>hji e.symm)] at hd hg';have hd':=h1.own j d g' hd hg';have hdA:gA≠d.1:=h3 d (List.mem_of_getElem? hd);refine Own.set (Own.keep hd' (hk1 _ fun y hy _ => ?_)) (by simp [ob];omega) _;simp [ob] at hy;rw [←hy];exact hne2 j d hd hji
 ·rw [List.map_set];rw [List.nodup_iff_pairwise_ne,List.pairwise_iff_getElem];intro p q hp hq hpq;simp only [List.length_set,List.length_map] at hp hq;have hlt:∀ (j:Nat) (hj:j<bs.length),j≠i→bs[j].1≠x:=by
   intro j hj hji;have:=hne2 j bs[j] (List.getElem?_eq_getElem hj) hji;have:=(h1.lt bs[j] (List.getElem_mem hj)).2
   rcases hx' with rfl|rfl<;>omega
  rw [List.getElem_set,List.getElem_set];split
  ·subst_vars
   rw [if_neg Y4,List.getElem_map];exact fun e=>hlt q (by simpa using hq) Y4 e.symm
  ·split
   ·subst_vars
    rw [List.getElem_map];exact fun e=>hlt p (by simpa using hp) Y4 e
   ·rw [List.getElem_map,List.getElem_map];intro e;have:=(List.getElem_inj (xs:=bs.map (·.1)) (i:=p) (j:=q) (h₀:=by simpa using hp) (h₁:=by simpa using hq) h1.nd).1 (by simpa using e);omega
 ·have h4:=Own.put (i:=i) (Own.keep h2 (hk1 _ fun y hy _=>by simp [ob] at hy;omega)) (.slice (some ⟨x,0,none⟩) g2.length c2);rw [Tm i (x,c2) g2] at h4
  simpa using h4
 ·intro d hd
  rcases List.mem_or_eq_of_mem_set hd with hd|rfl
  ·have:=h3 d hd
   simpa [ob] using this
  ·simpa [ob] using hxA
theorem OwnNN.push{gA:Nat}{g2:List Nat}{A2:OA}{c2:Nat}{w1 w2:World}(h1:Parts w base bs gs)(h2:Own w base 22 1 (some ⟨gA,0,none⟩) (gs.length+1) c (hdr bs gs++[.slice none 0 0]))(h3:∀ b∈bs,gA≠b.1)
  (hx:Ext w w1) (ho:OwnN w2 base A2 c2 g2) (hgr:w1.grownBy w2 none) (hat:ob A2=none∨ob A2=some w1.heap.size) (hne:0<g2.length) :
  OwnNN (w2.setCell ⟨gA,gs.length,none⟩ (.slice A2 g2.length c2)) base (some ⟨gA,0,none⟩) c (gs++[g2]):=by
 obtain ⟨x,rfl⟩:=Own.some_ ho hne;have hx':x=w1.heap.size:=(by simpa [ob] using hat);have hgA:=Own.blk h2 (k:=gA) rfl;have hxz:=hx.size;have hk1:∀ S:Nat→Prop,Kept S w w2:=fun S=>(hx.kept S).trans (Kept.of_grown hgr fun y hy _ hyb=>by cases hyb);refine ⟨bs++[(x,c2)],⟨by simp [h1.len],fun j d g' hd hg' => ?_,?_⟩,?_,?_⟩
 ·rcases Nat.lt_or_ge j bs.length with hj|hj
  ·rw [List.getElem?_append_left hj] at hd;rw [List.getElem?_append_left (by rw [←h1.len];exact hj)] at hg';have hd':=h1.own j d g' hd hg';have hdA:gA≠d.1:=h3 d (List.mem_of_getElem? hd);exact Own.set (Own.keep hd' (hk1 _)) (by simp [ob];omega) _
  ·rw [List.getElem?_append_right hj] at hd;rw [List.getElem?_append_right (by rw [←h1.len];exact hj),←h1.len] at hg';have hj0:j-bs.length=0:=by
    rcases Nat.eq_zero_or_pos (j-bs.length) with h0|h0
    ·exact h0
    ·rw [List.getElem?_eq_none Y16] at hd;cases hd
   rw [hj0] at hd hg';exact CUA
 ·rw [List.map_append,List.nodup_append];refine ⟨h1.nd,Y3,fun a ha b hb => ?_⟩;simp at hb;obtain ⟨d,hd,rfl⟩:=List.mem_map.1 ha;have:=(h1.lt d hd).2;omega
 ·have h4:=Own.put (i:=gs.length) (Own.keep h2 (hk1 _)) (.slice (some ⟨x,0,none⟩) g2.length c2);have e:(hdr bs gs++[Value.slice none 0 0]).set gs.length (.slice (some ⟨x,0,none⟩) g2.length c2)=hdr (bs++[(x,c2)]) (gs++[g2]):=by
   rw [TL h1.len,List.set_append_right _ _ (by rw [MI h1.len];exact AS),MI h1.len,Nat.sub_self];rfl
  rw [e] at h4
  simpa using h4
 ·intro d hd
  rcases List.mem_append.1 hd with hd|hd
  ·have:=h3 d hd
   simpa [ob] using this
  ·simp at hd;subst hd;simp [ob];omega
end
section
variable {w:World}{base e sz n c g:Nat}{xs:List Value}
theorem Own.cell_(h:Own w base e sz (some ⟨g,0,none⟩) n c xs){j:Nat}{u:Value}(hj:xs[j]?=some u):w.cell? ⟨g,j,none⟩=some u:=by
 obtain ⟨b,o,e1,_,e3⟩:=h.rd.at_ hj;injection e1 with e1;injection e1 with e1 e2;subst e1 e2;rwa [Nat.zero_add] at e3
theorem Own.lt_(h:Own w base e sz (some ⟨g,0,none⟩) n c xs):g<w.heap.size:=(Own.blk h rfl).2
theorem Own.frozen_(h:Own w base e sz (some ⟨g,0,none⟩) n c xs)(i:Nat):w.frozen? ⟨g,i,none⟩=false:=by
 rcases h.2 with ⟨hv,_⟩|⟨g',cap,cur,hv,_,hh,_⟩
 ·cases hv
 ·injection hv with hv1;injection hv1 with hv1;injection hv1 with hv1;subst hv1;exact Blk.frozen hh i
end
theorem OwnNN.lower{w:World}{base base' c:Nat}{A:OA}{gs:List (List Nat)}(h:OwnNN w base A c gs)(hb:base'≤base):OwnNN w base' A c gs:=by
 obtain ⟨bs,h1,h2,h3⟩:=h;exact ⟨bs,⟨h1.len,fun i b g hi hg=>Own.lower (h1.own i b g hi hg) hb,h1.nd⟩,Own.lower h2 hb,h3⟩

structure ButS(S:NP)(w w':World):Prop where
 os:w'.os=w.os
 tape:w'.tape=w.tape
 output:w'.output=w.output
 size:w.heap.size≤w'.heap.size
 block:∀ b,b<w.heap.size→¬S b→w'.heap[b]?=w.heap[b]?
section
variable {S T:NP}{w w' w'':World}
theorem ButS.refl(S:NP)(w:World):ButS S w w:=⟨rfl,rfl,rfl,AS,fun _ _ _=>rfl⟩
theorem ButS.trans2(h:ButS S w w')(k:ButS T w' w'')(hT:∀ b,b<w.heap.size→T b→S b):ButS S w w'' :=
 ⟨k.os.trans h.os,k.tape.trans h.tape,k.output.trans h.output,Nat.le_trans h.size k.size,fun b hb hg=>(k.block b (Nat.lt_of_lt_of_le hb h.size) fun e=>hg (hT b hb e)).trans (h.block b hb hg)⟩
theorem ButS.trans(h:ButS S w w')(k:ButS S w' w''):ButS S w w'':=h.trans2 k fun _ _ e=>e
theorem ButS.mono(h:ButS S w w')(hT:∀ b,b<w.heap.size→S b→T b):ButS T w w':=⟨h.os,h.tape,h.output,h.size,fun b hb hg=>h.block b hb fun e=>hg (hT b hb e)⟩
theorem FDA(h:Ext w w'):ButS S w w':=⟨h.os,h.tape,h.output,h.size,fun b hb _=>h.block b hb⟩
theorem ButS.but{g:Nat}(h:ButS S w w')(hg:∀ b,b<w.heap.size→S b→b=g):But g w w':=⟨h.os,h.tape,h.output,h.size,fun b hb hn=>h.block b hb fun e=>hn (hg b hb e)⟩
theorem ButS.kept(h:ButS S w w')(hS:∀ b,b<w.heap.size→T b→¬S b):Kept T w w':=⟨h.size,fun b hb hl=>h.block b hl (hS b hl hb)⟩
theorem ButS.ext(h:ButS S w w')(hg:∀ b,S b→w.heap.size≤b):Ext w w':=⟨h.os,h.tape,h.output,h.size,fun b hb=>h.block b hb fun e=>by have:=hg b e;omega⟩
theorem ButS.exts{a:World}(h:Ext a w)(k:ButS S w w')(hg:∀ b,S b→a.heap.size≤b):Ext a w':=⟨k.os.trans h.os,k.tape.trans h.tape,k.output.trans h.output,Nat.le_trans h.size k.size,fun b hb=>(k.block b (Nat.lt_of_lt_of_le hb h.size) fun e=>by have:=hg b e;omega).trans (h.block b hb)⟩
theorem ButS.grown{row:Option Nat}(h:ButS S w w')(hg:w'.grownBy w'' row)(hr:∀ k,row=some k→S k∨w.heap.size≤k):ButS S w w'':=⟨hg.os.trans h.os,hg.tape.trans h.tape,hg.output.trans h.output,Nat.le_trans h.size hg.size,fun b hb hx=>(hg.block b (Nat.lt_of_lt_of_le hb h.size) fun e=>by
 rcases hr b e.symm with h1|h1
 ·exact hx h1
 ·omega).trans (h.block b hb hx)⟩
theorem ButS.set{b i:Nat}{u:Value}(h:ButS S w w')(hb:S b∨w.heap.size≤b):ButS S w (w'.setCell ⟨b,i,none⟩ u):=⟨h.os,h.tape,h.output,by simpa [World.setCell] using h.size,fun x hx hg=>(Below.heap_setCell _ _ _ _ (by
 show x≠b;rintro rfl
 rcases hb with h1|h1
 ·exact hg h1
 ·omega)).trans (h.block x hx hg)⟩
theorem ButS.alloc(h:ButS S w w')(o:Obj):ButS S w (w'.alloc o):=h.trans (FDA ((Ext.refl _).alloc o))
theorem ButS.drew(h:ButS S w w'):ButS S w w'.drew:=h.trans (FDA ((Ext.refl _).drew))
theorem ButS.drewN(h:ButS S w w')(n:Nat):ButS S w (w'.drewN n):=h.trans (FDA ((Ext.refl _).drewN n))
theorem ButS.cell(h:ButS S w w'){p:Addr}{u:Value}(hp:¬S p.block)(hc:w.cell? p=some u):w'.cell? p=some u:=by
 have hl:p.block<w.heap.size:=by
  exact Z1
 rw [World.cell?_of_block (w:=w) (h.block _ hl hp)];exact hc
theorem ButS.blk{b t:Nat}{cs:Array Value}(h:ButS S w w')(hb:Blk w b t cs)(hg:¬S b):Blk w' b t cs:=hb.keep (h.kept fun x _ e=>by rw [e];exact hg)
end

abbrev Gz:=Nat→Bool
def gz0:Gz:=fun _=>false
def Gz.put(γ:Gz)(k:Nat):Gz:=fun j=>if j=k then true else γ j
structure LZ(X:Nat→Nat→Prop)(γ:Gz)(w:World)(γ':Gz)(w':World):Prop where
 os:w'.os=w.os
 tape:w'.tape=w.tape
 output:w'.output=w.output
 size:w.heap.size≤w'.heap.size
 kept:∀ b,b<w.heap.size→(∀ m,X m b→γ' m=γ m)→w'.heap[b]?=w.heap[b]?
 done:∀ k,γ k=true→γ' k=true
section
variable {X:Nat→Nat→Prop}{γ γ' γ'':Gz}{w w' w'':World}
theorem LZ.refl(X:Nat→Nat→Prop)(γ:Gz)(w:World):LZ X γ w γ w:=⟨rfl,rfl,rfl,AS,fun _ _ _=>rfl,fun _ h=>h⟩
theorem LZ.mid(h:LZ X γ w γ' w')(k:LZ X γ' w' γ'' w''){m:Nat}(e:γ'' m=γ m):γ' m=γ m∧γ'' m=γ' m:=by
 cases h0:γ m with
 |true=>have h1:=h.done m h0;exact ⟨h1,(k.done m h1).trans h1.symm⟩
 |false =>
  rw [h0] at e;cases h1:γ' m with
  |false=>exact ⟨rfl,e⟩
  |true=>rw [k.done m h1] at e;cases e
theorem LZ.trans(X:Nat→Nat→Prop)(γ:Gz)(w:World)(γ':Gz)(w':World)(γ'':Gz)(w'':World)(h:LZ X γ w γ' w')(k:LZ X γ' w' γ'' w''):LZ X γ w γ'' w'' :=
 ⟨k.os.trans h.os,k.tape.trans h.tape,k.output.trans h.output,Nat.le_trans h.size k.size,fun b hb hm=>(k.kept b (Nat.lt_of_lt_of_le hb h.size) fun m hX=>(h.mid k (hm m hX)).2).trans (h.kept b hb fun m hX=>(h.mid k (hm m hX)).1),fun i hi=>k.done i (h.done i hi)⟩
theorem ExA(X:Nat→Nat→Prop)(γ:Gz)(h:Ext w w'):LZ X γ w γ w':=⟨h.os,h.tape,h.output,h.size,fun b hb _=>h.block b hb,fun _ h=>h⟩
theorem LZ.keptS(h:LZ X γ w γ' w'){S:NP}(hS:∀ b,b<w.heap.size→S b→∀ m,X m b→γ' m=γ m):Kept S w w':=⟨h.size,fun b hs hb=>h.kept b hb (hS b hb hs)⟩
theorem LZ.kept0(h:LZ X gz0 w.drew γ' w'){S:NP}(hS:∀ b,b<w.heap.size→S b→∀ m,X m b→γ' m=false):Kept S w w':=(Kept.drew S w).trans (h.keptS hS)
theorem LZ.buts(h:LZ X gz0 w.drew γ' w'){S:NP}(hS:∀ m b,b<w.heap.size→X m b→γ' m=true→S b):ButS S w w':=⟨h.os,h.tape,h.output,h.size,fun b hb hn=>h.kept b hb fun m hm=>by
 cases e:γ' m with
 |false=>rfl
 |true=>exact absurd (hS m b hb hm e) hn⟩
theorem LZ.ext0(h:LZ X gz0 w.drew γ' w')(hX:∀ m b,b<w.heap.size→X m b→γ' m=false):Ext w w':=⟨h.os,h.tape,h.output,h.size,fun b hb=>h.kept b hb fun m hm=>hX m b hb hm⟩
theorem EvA{m:Nat}(hm:γ m=false)(hos:w'.os=w.os)(ht:w'.tape=w.tape)(hou:w'.output=w.output)(hz:w.heap.size≤w'.heap.size)(hb:∀ b,b<w.heap.size→¬X m b→w'.heap[b]?=w.heap[b]?):LZ X γ w (γ.put m) w':=by
 refine ⟨hos,ht,hou,hz,fun b hl hX=>hb b hl fun h => ?_,fun k hk => ?_⟩
 ·have:=hX m h;simp [Gz.put,hm] at this
 ·unfold Gz.put;split
  ·rfl
  ·exact hk
end
def LK(l:List (Nat × List Nat))(i:Nat)(γ:Gz):Prop:=∀ k∈alF l i,γ k=false
theorem LK.zero(l:List (Nat × List Nat))(i:Nat):LK l i gz0:=fun _ _=>rfl
theorem LK.done{l:List (Nat × List Nat)}{γ:Gz}{s k:Nat}{p:List Nat}(h:(l.all fun q => !(q.2.contains k)||decide (q.1=s)||p.contains q.1)=true):∀ j,j≠s→j ∉ p→LK l j γ→LK l j (γ.put k):=by
 intro j hj hp h1 k' hk';unfold Gz.put;exact CRA
theorem LK.key{l:List (Nat × List Nat)}{γ:Gz}{i k:Nat}(h:LK l i γ)(hk:(alF l i).contains k=true):γ k=false:=h k (by simpa using hk)
instance (X:Nat→Nat→Prop):Rf (LZ X):=⟨LZ.refl X⟩
instance (X:Nat→Nat→Prop):Re (LZ X):=⟨fun γ _ _ h=>ExA X γ h⟩
instance:Rx (LZ (fun _ _=>False)) gz0:=⟨fun _ _ _ h=>h.ext0 fun _ _ _ h=>h.elim⟩
theorem Qa{P:Program}{l:List Oper}{Q:Exit→Act→World→Prop}{id:Nat}{a0:Act}{w0:World}(X:Nat→Nat→Prop)(al:List (Nat × List Nat))
  (h:Chain P l.toArray (fun i=>[i]) (LZ X) (LK al) a0 gz0 w0.drew (fun Φs=>∀ vals γ w,LZ X gz0 w0.drew γ w→(∀ i,i<l.length→gOf Φs i ([i].map vals) γ w)→Q .normal (AR vals l 0 a0) w) 0 [] l)
  (hm:P.follows .mixedOrders=true:=Y11) (hB:KB l.toArray (fun i=>[i]) a0.tmps.size=true:=Y11):(Code.region id l.toArray true).wp P Q a0 w0 :=
 BT hm (fun i=>[i]) hB (LZ X) (LZ.refl X) (LZ.trans X) (LK al) gz0 (LK.zero al) h


def bsA(l:List UInt8):BA:=⟨l.toArray⟩
theorem Br(a b:List UInt8):bsA a++bsA b=bsA (a++b):=by
 apply ByteArray.ext;simp [bsA,ByteArray.data_append]
def Bt(w:World)(s:BA)(e:Ending)(w':World):Prop:=e=.returned (.string s)∧Ext w w'
theorem Ext.grow{w w':World}(h:Ext w w')(os:Array Obj):Ext w (Go.Sort.grow w' os):=⟨h.os,h.tape,h.output,by simp only [Go.Sort.grow,Array.size_append];have:=h.size;omega,fun b hb=>by
 have h1:=h.block b hb;have h2:=h.size;simp only [Go.Sort.grow];rw [Array.getElem?_append_left Y4];exact h1⟩
theorem A2A:prog.globalNamed "internal/strconv.uint64pow10" = some 1:=by kernel_rfl
theorem Hv(n:Nat)(h:n≤9223372036854775807):(Lib.itoa (n:Int)).length≤21:=Lib.itoa_length_le n Y4 Y4
end Go.Proofs.YtidacnalcdhckaaGreatDoor
