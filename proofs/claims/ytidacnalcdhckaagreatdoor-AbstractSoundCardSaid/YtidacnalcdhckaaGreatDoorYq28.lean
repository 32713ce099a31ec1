/- Lemmas. No conditions. -/
import Derived.Test.YtidacnalcdhckaaGreatDoorYq27
import Derived.Deep.DeepCutAuto
set_option maxRecDepth 100000
set_option maxHeartbeats 4000000
namespace Go.Proofs.YtidacnalcdhckaaGreatDoor
open Go Go.RowKit Tryz
variable {qP:Prop}

def CZA(n:Nat)(v:Value):Prop:=∃ (A:OA) (c:Nat),v=.slice A n c
noncomputable def Tz (a b:Abs):Bool:=decide (b.rl≤a.rl∧a.rh≤b.rh)&&b.cols.all (AZ a.cols)&&decide ((CJ b.deps a).length=b.deps.length)
theorem AwA(h:qP:=by
 have hxx:=hR.o.ext0 (fun _ _ _ h=>h.elim);have m0:w'.cell? ⟨g3,16,none⟩=some (.slice E b.deps.length eb):=(HB3.o.keep (hxx.kept _)).q16;clear hxx;exact Qk):qP:=h
theorem Fp(a b:Abs)(A D B E:OA)(c e cb eb:Nat)(w:World)(S:NP)(hA:Strs w S A a.cols)(hD:RDeps w S D a.deps)(hB:Strs w S B b.cols)(hE:RDeps w S E b.deps)(hz:AbN 50000 a)(hy:AbN 50000 b) :
  Cl 95 #[(Aq a A c D e),(Aq b B cb E eb)] w (AO w (Tz a b)):=by
 obtain ⟨w0,hw0⟩:=eqx ((w.alloc (.cells (Ap a A c D e) 39)).alloc (.cells (Ap b B cb E eb) 39));obtain ⟨g2,hg2⟩:=eqx w.heap.size;obtain ⟨g3,hg3⟩:=eqx (w.heap.size+1);have hx0:Ext w w0:=Y49;have hb2:Blk w0 g2 39 (Ap a A c D e):=R2;have hb3:Blk w0 g3 39 (Ap b B cb E eb):=Rv;obtain ⟨HW0,HG2,HG3,HX0,HB2,HB3,HA,HBC⟩:=Hd8 hw0 hg2 hg3 hx0 hb2 hb3 (hA.keep (hx0.kept _)) (hB.keep (hx0.kept _));obtain ⟨fo,hfo⟩:=eqx ((CJ b.deps a).length);have HFO:=Hd (show ∀ w',Ext w0 w'→Cl 86 #[.slice E b.deps.length eb,(Aq a A c D e)] w' (fun en w''=>∃ A3 c3,en=.returned (.slice A3 fo c3)∧fo≤c3∧True∧Ext w' w'') from fun w' hw'=>by
  rw [hfo];exact (C5 b.deps a E A D eb c e w' S S (hE.keep ((hx0.trans hw').kept _)) (hA.keep ((hx0.trans hw').kept _)) (hD.keep ((hx0.trans hw').kept _)) hz (by have:=hy.2.2.2.1;omega) hy.2.2.2.2).mono fun en w'' h=>by
   obtain ⟨A3,c3,h1,h2,h3,h4⟩:=h;exact ⟨A3,c3,h1,h2,trivial,h4⟩)
 have HF:=Hd (show Tz a b=(decide (b.rl≤a.rl)&&decide (a.rh≤b.rh)&&b.cols.all (AZ a.cols)&&decide (fo=b.deps.length)) by unfold Tz;rw [hfo,Bool.decide_and]);obtain ⟨sp,hsp⟩:=eqx (decide (b.rl≤a.rl)&&decide (a.rh≤b.rh));have HSP:=Hd (show ∀ w',Cl 94 #[.agg #[.I a.rl,.I a.rh],.agg #[.I b.rl,.I b.rh]] w' (AO w' sp) from fun w'=>by rw [hsp];exact Fa _ _ _ _ w');rw [←hsp] at HF;have hbl:=hB.2.1;have k0:=hb2.q13;have k1:=hb2.q14;have k2:=hb3.q13;have k3:=hb3.q14;clear hw0 hg2 hg3 hx0 hb2 hb3 hA hD hB hE hfo hsp
 go_enter func95,ntmps95
 go_upto_region 1 with fail
 rw [←HW0.o,←HG3.o,←HG2.o]
 go_wp2_with fail
 refine (HSP.o _).mono ?_;rintro e1 w1 ⟨rfl,hx1⟩;have HX1:=Hd hx1;clear hx1 k0 k1 k2 k3;cases sp
 ·go_wp2;go_ret;exact ⟨Y19,HX0.o.trans HX1.o⟩
 have HA1:=Hd (HA.o.keep (HX1.o.kept _));have HB1:=Hd (HBC.o.keep (HX1.o.kept _));have q15:w1.cell? ⟨g3,15,none⟩=some (.slice B b.cols.length cb):=(HB3.o.keep (HX1.o.kept _)).q15;have p15:w1.cell? ⟨g2,15,none⟩=some (.slice A a.cols.length c):=(HB2.o.keep (HX1.o.kept _)).q15;go_wp2
 go_loopw [16] (fun i wr=>∃ k:Nat,k≤b.cols.length∧i=.I k∧w1=wr∧∀ m (h:m<b.cols.length),m<k→AZ a.cols b.cols[m]=true) (fun i _=>b.cols.length-(intOf i).toNat)
 case atStart=>exact ⟨0,AE,rfl,rfl,Y8⟩
 case round =>
  obtain ⟨k,hk,rfl,rfl,hall⟩:=hrel;have HAL:=Hd hall;clear hall;by_cases hlt:k<b.cols.length
  ·obtain ⟨b2,o2,he2,z2,c2⟩:=HB1.o.at_ hlt;subst he2;have HCF:=Hd (BU A c a.cols b.cols[k] w1 _ HA1.o)
   go_wp2_with fail
   refine HCF.o.mono ?_;rintro e4 w4 ⟨rfl,rfl⟩;cases hoj:AZ a.cols b.cols[k]
   ·have HN:=Hd (show b.cols.all (AZ a.cols)=false from Bg b.cols (AZ a.cols) k hlt hoj);clear hoj;go_wp2;go_ret;exact ⟨by rw [HF.o,HN.o];simp,HX0.o.trans HX1.o⟩
   ·have HOJ:=Hd hoj;clear hoj;go_wp2;go_roundw
    case rel =>
     refine ⟨k+1,Y4,Y5,by first|rfl|trivial,fun m h hm => ?_⟩;by_cases hmj:m=k
     ·subst hmj;exact HOJ.o
     ·exact HAL.o m h Y4
    case measure=>simp [intOf];omega
  ·have HN:=Hd (show b.cols.all (AZ a.cols)=true from BX b.cols (AZ a.cols) fun m h=>HAL.o m h Y4);have HX01:=Hd (HX0.o.trans HX1.o);clear q15 p15;have HB20:=HB2;have HB30:=HB3;have HFO0:=HFO;obtain ⟨w0',hw0'⟩:=eqx w1;obtain ⟨HB2,HB3,HFO⟩:=Hd3 (HB20.o.keep (HX1.o.kept _)) (HB30.o.keep (HX1.o.kept _)) (fun w' (hw':Ext w1 w')=>HFO0.o w' (HX1.o.trans hw'));clear HB20 HB30 HFO0 hw0'
   go_upto_region 9 with fail
   refine Qa (fun _ _=>False) [] ?_;refine Qp ?_;refine Qm (fun vals γ w' ρ hR hN hp hρ zs zg=>by
    exact AwA) ?_
   refine Qy HB2 AH AA ?_;refine Qs (FP fun v γ w'=>CZA fo v) (EuA ?_) ?_ ?_
   ·intro v γ w1 γ' w2 r h;exact h
   ·intro vals γ w' ρ hR hN hp hρ zs zg;have HR:=hR;have hxx:=hR.o.ext0 (fun _ _ _ h=>h.elim);have HXW:=Hd hxx;clear hxx;refine Qr ?_;refine (HFO.o w' HXW.o).mono ?_;rintro e1 w3 ⟨A3,c3,he,hc,ho,hx⟩;exact ⟨_,he,γ,ExA _ γ hx,fun _ _ _ h=>h,A3,c3,rfl⟩
   refine Qm (fun vals γ w' ρ hR hN hp hρ zs zg=>by
    obtain ⟨A3,c3,hv3⟩:=hp.o 3 Y17;have e29:=(hρ.o 29).trans hv3;exact Qk) ?_
   refine Qp ?_;refine Qm (fun vals γ w' ρ hR hN hp hρ zs zg=>by
    exact AwA) ?_
   iterate 3 refine Qp ?_
   intro vals γ w9 hR hG;refine Qx ?_;have HXN:=Hd (show Ext w1 w9 from hR.ext0 (fun _ _ _ h=>h.elim));clear hR hG;go_wp2;go_ret;refine ⟨?_,HX01.o.trans HXN.o⟩;rw [HF.o,HN.o];have hd:((fo:Int)==(b.deps.length:Int))=decide (fo=b.deps.length):=(by rw [Bool.eq_iff_iff,beq_iff_eq,decide_eq_true_eq];omega);rw [hd];rfl
theorem WL(am1 e1 e2 b1 s1 b2 i1 b3 d1 am2 b5 tw:Bool):(am1&&(!e1||e2)&&(!b1||s1)&&(!b2||i1)&&(!b3||d1)&&am2&&(!b5||tw))=(!(!am1||(e1&&!e2))&&!(b1&&!s1)&&!(b2&&!i1)&&!(b3&&!d1)&&!(!am2)&&(!b5||tw)):=by
 cases am1<;>cases e1<;>cases e2<;>simp
theorem Xf(h:qP:=by
 go_wp2
 go_meet
 case rel=>exact ⟨by rw [HDx1.o,HDN.o];rfl,HX99.o⟩):qP:=h
theorem AmA(h:qP:=by
 clear h0;go_wp2
 go_meet
 case rel=>exact ⟨by rw [HDx5.o,HDN.o];rfl,HX13.o⟩):qP:=h
theorem Cn(h:qP:=by simp [execOp,go_sem]):qP:=h
theorem Dv(a b:Abs)(A D B E:OA)(c e cb eb:Nat)(w:World)(S:NP)(hA:Strs w S A a.cols)(hD:RDeps w S D a.deps)(hB:Strs w S B b.cols)(hE:RDeps w S E b.deps)(ht:Tens w)(hz:AbN 20000 a)(hy:AbN 20000 b) :
  Cl 32 #[(Aq a A c D e),(Aq b B cb E eb)] w (AO w (F8 a b)):=by
 obtain ⟨w0,hw0⟩:=eqx ((w.alloc (.cells (Ap a A c D e) 39)).alloc (.cells (Ap b B cb E eb) 39));obtain ⟨g2,hg2⟩:=eqx w.heap.size;obtain ⟨g3,hg3⟩:=eqx (w.heap.size+1);obtain ⟨N,hN⟩:=eqx (w.heap.size+2);have hx0:Ext w w0:=Y49;have hb2:Blk w0 g2 39 (Ap a A c D e):=R2;have hb3:Blk w0 g3 39 (Ap b B cb E eb):=Rv;have hs0:w0.heap.size=w.heap.size+2:=Y96;obtain ⟨HW0,HG2,HG3,HX0,HB2,HB3,HNN,HGG⟩:=Hd8 hw0 hg2 hg3 hx0 hb2 hb3 (show N=w0.heap.size by omega) (show w.heap.size=g2∧g3=g2+1∧N=g2+2 by omega);obtain ⟨Ta,hTa⟩:∃ z:Nat→Prop,z=fun b=>S b∧b<w.heap.size:=⟨_,rfl⟩;have HTL:=Hd (show ∀ b,Ta b→b<w.heap.size from fun b hb=>TZ);have HTA:=Hd hTa;have XNO:=Hd (show ∀ m b,(Ta b∨N≤b)→¬((m=1004∧b=g2)∨(m=1005∧b=g3)) from fun m b hb hm=>by
  exact UO)
 have hA1:=hA.mono (T:=Ta) fun i hi hs=>GK;have hD1:=hD.mono (T:=Ta) fun i hi hs=>GK;have hB1:=hB.mono (T:=Ta) fun i hi hs=>GK;have hE1:=hE.mono (T:=Ta) fun i hi hs=>GK;obtain ⟨ca,hca⟩:=eqx (AM a);obtain ⟨cb',hcb⟩:=eqx (AM b);obtain ⟨HCA,HCB,HZA,HZB,HT,HAC,HBC⟩:=Hd7 (show ∀ w',Ext w0 w'→Cl 47 #[(Aq a A c D e)] w' (DD w' Ta ca) from fun w' hw'=>VV) (show ∀ w',Ext w0 w'→Cl 47 #[(Aq b B cb E eb)] w' (DD w' Ta cb') from fun w' hw'=>WP) (show AbN 20000 ca by rw [hca];exact hz.can) (show AbN 20000 cb' by rw [hcb];exact hy.can) ht hca hcb;clear hw0 hg2 hg3 hN hx0 hb2 hb3 hs0 hTa hA hD hB hE hA1 hD1 hB1 hE1 hca hcb ht hz hy
 go_enter func32,ntmps32
 go_upto_region 1 with fail
 rw [←HW0.o,←HG3.o,←HG2.o];refine Qa (fun m b=>(m=1004∧b=g2)∨(m=1005∧b=g3)) [(0,[1004,1005]),(1,[1004,1005]),(2,[1005]),(3,[1004,1005]),(4,[1004,1005]),(5,[1005])] ?_;apply E2A (LZ.refl _) Y41
 ·exact WF
 ·rfl
 refine Qs (FP fun v γ w'=>JoP N Ta ca v w') (EuA ?_) ?_ ?_
 ·exact QZ
 ·exact V0
 apply E2A (LZ.refl _) Y41
 ·exact Ux
 ·rfl
 refine Qs (FP fun v γ w'=>JoP N Ta cb' v w') (EuA ?_) ?_ ?_
 ·exact QZ
 ·exact VB
 refine Chain.step (fun _ γ w'=>JoB g2 N Ta ca w'∧γ 1004=true) Y41 ?_ ?_ ?_
 ·exact WZ
 ·exact XW
 refine Chain.step (fun _ γ w'=>JoB g3 N Ta cb' w'∧γ 1005=true) Y41 ?_ ?_ ?_
 ·exact WY
 ·exact Y0
 intro vals γ w9 hR hG;obtain ⟨⟨A2,c2,D2,e2,hb29,hab2⟩,-⟩:=hG 4 Y17;obtain ⟨⟨A3,c3,D3,e3,hb39,hab3⟩,-⟩:=hG 5 Y17;obtain ⟨HB29,HB39,HAB2,HAB3,HX9,HSZ9⟩:=Hd6 hb29 hb39 hab2 hab3 (show Ext w w9 from AX HX0.o (hR.buts (S:=fun b=>b=g2∨b=g3) (fun m b _ hm _=>hm.imp And.right And.right)) (fun b hb=>MO)) (show N≤w9.heap.size by have:=hR.size;have e0:w0.drew.heap.size=w0.heap.size:=rfl;have:=HNN.o;omega);refine Qx ?_;clear hR hG hb29 hb39 hab2 hab3;have HX99:=Hd (Ext.refl w9);obtain ⟨n1,hn1⟩:=eqx (bits .andNot .i64 ca.kinds cb'.kinds);obtain ⟨n2,hn2⟩:=eqx (bits .andNot .i64 ca.bo cb'.bo);have hor1:bits .andNot .i64 ca.kinds cb'.kinds=n1:=hn1.symm;have hor2:bits .andNot .i64 ca.bo cb'.bo=n2:=hn2.symm;obtain ⟨b1,hb1⟩:=eqx (bt ca.kinds 1);obtain ⟨b2,hb2⟩:=eqx (bt ca.kinds 2);obtain ⟨b3,hb3⟩:=eqx (bt ca.kinds 3);obtain ⟨b5,hb5⟩:=eqx (bt ca.kinds 5);obtain ⟨s1,hs1⟩:=eqx (Cc ca.tx cb'.tx);obtain ⟨i1,hi1⟩:=eqx (EG ca.nu cb'.nu);obtain ⟨d1,hd1⟩:=eqx (decide (cb'.dl≤ca.dl)&&decide (ca.dh≤cb'.dh));obtain ⟨tw,htw⟩:=eqx (Tz ca cb');obtain ⟨x1,hx1⟩:=eqx (!decide (n1=0)||(ca.errs&&!cb'.errs));obtain ⟨x2,hx2⟩:=eqx (b1&&!s1);obtain ⟨x3,hx3⟩:=eqx (b2&&!i1);obtain ⟨x4,hx4⟩:=eqx (b3&&!d1);obtain ⟨x5,hx5⟩:=eqx (!decide (n2=0));have HF:=Hd (show F8 a b=(!x1&&!x2&&!x3&&!x4&&!x5&&(!b5||tw)) by
  unfold F8 Lh;rw [←HAC.o,←HBC.o,hx1,hx2,hx3,hx4,hx5,hs1,hi1,hd1,htw,hb1,hb2,hb3,hb5,hn1,hn2,←Bool.decide_and];exact WL _ _ _ _ _ _ _ _ _ _ _ _)
 obtain ⟨HDx1,HDx2,HDx3,HDx4,HDx5,Hb1,Hb2,Hb3⟩:=Hd8 hx1 hx2 hx3 hx4 hx5 (show ∀ w',Cl 84 #[(Aq ca A2 c2 D2 e2),.I 1] w' (AO w' b1) from fun w'=>by rw [hb1];exact Am ca A2 D2 c2 e2 1 Y4 w') (show ∀ w',Cl 84 #[(Aq ca A2 c2 D2 e2),.I 2] w' (AO w' b2) from fun w'=>by rw [hb2];exact Am ca A2 D2 c2 e2 2 Y4 w') (show ∀ w',Cl 84 #[(Aq ca A2 c2 D2 e2),.I 3] w' (AO w' b3) from fun w'=>by rw [hb3];exact Am ca A2 D2 c2 e2 3 Y4 w');have Hb5:=Hd (show ∀ w',Cl 84 #[(Aq ca A2 c2 D2 e2),.I 5] w' (AO w' b5) from fun w'=>by rw [hb5];exact Am ca A2 D2 c2 e2 5 Y4 w');have hza:=HZA.o;have hzb:=HZB.o;obtain ⟨HWS,HWI,HWD⟩:=Hd3 (show ∀ w',Cl 92 #[(Sq ca.tx),(Sq cb'.tx)] w' (AO w' s1) from fun w'=>by rw [hs1];exact Ly ca.tx cb'.tx hza.1 hza.2.1 hzb.1 hzb.2.1 w') (show ∀ w',Ext w9 w'→Cl 93 #[(Rq ca.nu),(Rq cb'.nu)] w' (AO w' i1) from fun w' hw'=>by rw [hi1];exact I8 ca.nu cb'.nu w' (HT.o.ext (HX9.o.trans hw'))) (show ∀ w',Cl 94 #[.agg #[.I ca.dl,.I ca.dh],.agg #[.I cb'.dl,.I cb'.dh]] w' (AO w' d1) from fun w'=>by rw [hd1];exact Fa _ _ _ _ w');have HTW:=Hd (show ∀ w',Ext w9 w'→Cl 95 #[(Aq ca A2 c2 D2 e2),(Aq cb' A3 c3 D3 e3)] w' (AO w' tw) from fun w' hw'=>by
  rw [htw];have h2:=HAB2.o.keep (hw'.kept _);have h3:=HAB3.o.keep (hw'.kept _);exact Fp ca cb' A2 D2 A3 D3 c2 e2 c3 e3 w' _ h2.2.2.1 h2.2.2.2 h3.2.2.1 h3.2.2.2 (hza.mono Y17) (hzb.mono Y17))
 clear hn1 hn2 hb1 hb2 hb3 hb5 hs1 hi1 hd1 htw hx1 hx2 hx3 hx4 hx5 hza hzb
 go_upto_region 2 with fail
 go_cut [23] (fun v wx=>v=.bool x1∧Ext w9 wx)
 case first =>
  have hba:=HB29.o.keep (HX99.o.kept _);have hbb:=HB39.o.keep (HX99.o.kept _);have m0:w9.cell? ⟨g2,0,none⟩=some (.I ca.kinds):=hba.q0;have n0:w9.cell? ⟨g3,0,none⟩=some (.I cb'.kinds):=hbb.q0;have m17:w9.cell? ⟨g2,17,none⟩=some (.bool ca.errs):=hba.q17;have n17:w9.cell? ⟨g3,17,none⟩=some (.bool cb'.errs):=hbb.q17;clear hba hbb;obtain ⟨ea,hea⟩:=eqx ca.errs;obtain ⟨ec,hec⟩:=eqx cb'.errs;rw [←hea] at m17;rw [←hec] at n17;rw [←hea,←hec] at HDx1;clear hea hec;by_cases h0:n1=0
  ·have hd0:(n1 != 0)=false:=Y25;have HDN:=Hd (show decide (n1=0)=true by simp [h0]);clear h0;cases ea<;>cases ec
   all_goals
    exact Xf
  ·have hd0:(n1 != 0)=true:=Y25;have HDN:=Hd (show decide (n1=0)=false by simp [h0]);clear h0;exact Xf
 case rest =>
 obtain ⟨w10,rfl⟩:=eqx wc;obtain ⟨rfl,hxc⟩:=hcut;have HX10:=Hd hxc;clear hxc;cases x1
 case true =>
  go_wp2;go_ret;exact ⟨Ox,HX9.o.trans HX10.o⟩
 go_upto_region 4 with fail
 go_cut [33] (fun v wx=>v=.bool x2∧Ext w9 wx)
 case first =>
  refine wp_region_lit ?_;refine AB rfl 39 _ rfl g2 rfl (HB29.o.keep (HX10.o.kept _)) AH AA ?_
  go_wp2_with fail
  refine (Hb1.o _).mono ?_;rintro ee wz ⟨rfl,hxz⟩;have HXZ:=Hd (HX10.o.trans hxz);clear hxz;cases b1
  ·go_wp2
   go_meet
   case rel=>exact ⟨by rw [HDx2.o];rfl,HXZ.o⟩
  ·have hba:=HB29.o.keep (HXZ.o.kept _);have hbb:=HB39.o.keep (HXZ.o.kept _);have m1:=hba.q1;have n1:=hbb.q1;have m2:=hba.q2;have n2:=hbb.q2;have m3:=hba.q3;have n3:=hbb.q3;have m4:=hba.q4;have n4:=hbb.q4;have m5:=hba.q5;have n5:=hbb.q5;clear hba hbb
   go_wp2_with fail
   refine (HWS.o _).mono ?_;rintro ee wy ⟨rfl,hxy⟩;have HXY:=Hd (HXZ.o.trans hxy);clear hxy;cases s1
   all_goals
    go_wp2
    go_meet
    case rel=>exact ⟨by rw [HDx2.o];rfl,HXY.o⟩
 case rest =>
 obtain ⟨w11,rfl⟩:=eqx wc;obtain ⟨rfl,hxc⟩:=hcut;have HX11:=Hd hxc;clear hxc;cases x2
 case true =>
  go_wp2;go_ret;exact ⟨Ox,HX9.o.trans HX11.o⟩
 go_upto_region 6 with fail
 go_cut [43] (fun v wx=>v=.bool x3∧Ext w9 wx)
 case first =>
  refine wp_region_lit ?_;refine AB rfl 39 _ rfl g2 rfl (HB29.o.keep (HX11.o.kept _)) AH AA ?_
  go_wp2_with fail
  refine (Hb2.o _).mono ?_;rintro ee wz ⟨rfl,hxz⟩;have HXZ:=Hd (HX11.o.trans hxz);clear hxz;cases b2
  ·go_wp2
   go_meet
   case rel=>exact ⟨by rw [HDx3.o];rfl,HXZ.o⟩
  ·have hba:=HB29.o.keep (HXZ.o.kept _);have hbb:=HB39.o.keep (HXZ.o.kept _);have m6:=hba.q6;have n6:=hbb.q6;have m7:=hba.q7;have n7:=hbb.q7;have m8:=hba.q8;have n8:=hbb.q8;have m9:=hba.q9;have n9:=hbb.q9;clear hba hbb
   go_wp2_with fail
   refine (HWI.o _ HXZ.o).mono ?_;rintro ee wy ⟨rfl,hxy⟩;have HXY:=Hd (HXZ.o.trans hxy);clear hxy;cases i1
   all_goals
    go_wp2
    go_meet
    case rel=>exact ⟨by rw [HDx3.o];rfl,HXY.o⟩
 case rest =>
 obtain ⟨w12,rfl⟩:=eqx wc;obtain ⟨rfl,hxc⟩:=hcut;have HX12:=Hd hxc;clear hxc;cases x3
 case true =>
  go_wp2;go_ret;exact ⟨Ox,HX9.o.trans HX12.o⟩
 go_upto_region 8 with fail
 go_cut [53] (fun v wx=>v=.bool x4∧Ext w9 wx)
 case first =>
  refine wp_region_lit ?_;refine AB rfl 39 _ rfl g2 rfl (HB29.o.keep (HX12.o.kept _)) AH AA ?_
  go_wp2_with fail
  refine (Hb3.o _).mono ?_;rintro ee wz ⟨rfl,hxz⟩;have HXZ:=Hd (HX12.o.trans hxz);clear hxz;cases b3
  ·go_wp2
   go_meet
   case rel=>exact ⟨by rw [HDx4.o];rfl,HXZ.o⟩
  ·have hba:=HB29.o.keep (HXZ.o.kept _);have hbb:=HB39.o.keep (HXZ.o.kept _);have m10:=hba.q10;have n10:=hbb.q10;have m11:=hba.q11;have n11:=hbb.q11;clear hba hbb
   go_wp2_with fail
   refine (HWD.o _).mono ?_;rintro ee wy ⟨rfl,hxy⟩;have HXY:=Hd (HXZ.o.trans hxy);clear hxy;cases d1
   all_goals
    go_wp2
    go_meet
    case rel=>exact ⟨by rw [HDx4.o];rfl,HXY.o⟩
 case rest =>
 obtain ⟨w13,rfl⟩:=eqx wc;obtain ⟨rfl,hxc⟩:=hcut;have HX13:=Hd hxc;clear hxc;cases x4
 case true =>
  go_wp2;go_ret;exact ⟨Ox,HX9.o.trans HX13.o⟩
 go_upto_region 10 with fail
 go_cut [59] (fun v wx=>v=.bool x5∧Ext w9 wx)
 case first =>
  have hba:=HB29.o.keep (HX13.o.kept _);have hbb:=HB39.o.keep (HX13.o.kept _);have m12:w13.cell? ⟨g2,12,none⟩=some (.I ca.bo):=hba.q12;have n12:w13.cell? ⟨g3,12,none⟩=some (.I cb'.bo):=hbb.q12;clear hba hbb;by_cases h0:n2=0
  ·have hd0:(n2 != 0)=false:=Y25;have HDN:=Hd (show decide (n2=0)=true by simp [h0]);exact AmA
  ·have hd0:(n2 != 0)=true:=Y25;have HDN:=Hd (show decide (n2=0)=false by simp [h0]);exact AmA
 case rest =>
 obtain ⟨w14,rfl⟩:=eqx wc;obtain ⟨rfl,hxc⟩:=hcut;have HX14:=Hd hxc;clear hxc;cases x5
 case true =>
  go_wp2;go_ret;exact ⟨Ox,HX9.o.trans HX14.o⟩
 go_upto_region 12 with fail
 refine wp_region_lit ?_;refine AB rfl 39 _ rfl g2 rfl (HB29.o.keep (HX14.o.kept _)) AH AA ?_
 go_wp2_with fail
 refine (Hb5.o _).mono ?_;rintro ee wz ⟨rfl,hxz⟩;have HXZ:=Hd (HX14.o.trans hxz);clear hxz;cases b5
 ·go_wp2;go_ret;exact ⟨Y19,HX9.o.trans HXZ.o⟩
 ·have HB2Z:=Hd (HB29.o.keep (HXZ.o.kept _));have HB3Z:=Hd (HB39.o.keep (HXZ.o.kept _));rename_i K1 hK1 K2 hK2;refine hK2 _ _ ?_;clear hK2;refine AL rfl (.bool false) (w':=wz) Cn ?_;refine AL rfl (.bool false) (w':=wz) Cn ?_;refine BE rfl 39 _ rfl g2 rfl HB2Z.o AH AA ?_;refine BE rfl 39 _ rfl g3 rfl HB3Z.o AH AA ?_
  go_wp2_with fail
  refine (HTW.o _ HXZ.o).mono ?_;rintro ee wy ⟨rfl,hxy⟩;have HXY:=Hd (HXZ.o.trans hxy);clear hxy;go_wp2;go_ret;exact ⟨Ox,HX9.o.trans HXY.o⟩




theorem WK(h:qP:=by
 go_wp2;go_ret;exact ⟨rfl,HX12.o⟩):qP:=h
theorem BZA(h:qP:=by
 refine Qt ?_;refine AL rfl (.bool true) (w':=w11) Cn ?_;refine Qt ?_;refine AL rfl (.bool true) (w':=w11) Cn ?_;refine Qt ?_;refine DB rfl ?_;refine Qt ?_;refine AL rfl (.bool true) (w':=w11) Cn ?_;refine Qt ?_;refine AL rfl (.bool true) (w':=w11) Cn ?_;refine Qt ?_;refine AL rfl (.bool true) (w':=w11) Cn ?_;refine Qt ?_;refine BE rfl 39 _ rfl g8 rfl (HB8.o.keep (HE11.o.kept _)) AH AA ?_
 go_wp2_with fail
 refine (F7 (aa) A8 D8 c8 e8 w11 (fun _=>True) (HA8.o.keep (HE11.o.kept _)).2.2.1 (HA8.o.keep (HE11.o.kept _)).2.2.2 (HT.o.ext HX11.o).tens (HZ8.o.mono Y17)).mono ?_;rintro ee w12 ⟨he,hx⟩;rw [HEM.o] at he;subst he;have HX12:=Hd (HX11.o.trans hx);clear hx;cases em
 ·exact WK
 ·exact WK):qP:=h
theorem EqA(h:qP:=by
 refine AL rfl (.bool true) (w':=w11) Cn ?_;refine Qt ?_;refine AL rfl (.bool true) (w':=w11) Cn ?_;refine Qt ?_;refine DB rfl ?_;refine Qt ?_;refine DB rfl ?_;exact BZA):qP:=h
theorem CmA(h:qP:=by
 refine AL rfl (.bool false) (w':=w11) Cn ?_;refine Qt ?_;refine AL rfl (.bool false) (w':=w11) Cn ?_;refine Qt ?_;refine AL rfl (.bool false) (w':=w11) Cn ?_;refine Qt ?_;refine AL rfl (.bool true) (w':=w11) Cn ?_;exact BZA):qP:=h
theorem Wv(h:qP:=by
 intro vals γ w10 hR hG;refine Qx ?_;have HE10:=Hd (show Ext w9 w10 from hR.ext0 (fun _ _ _ h=>h.elim));clear hR hG;have HX10:=Hd (HX9.o.trans HE10.o)
 go_upto_region 7 with fail
 refine wp_region_lit ?_;refine AL rfl (.bool true) (w':=w10) Cn ?_;refine Qt ?_;refine AL rfl (.bool true) (w':=w10) Cn ?_;refine Qt ?_;refine BE rfl 39 _ rfl g8 rfl (HB8.o.keep (HE10.o.kept _)) AH AA ?_;refine BE rfl 39 _ rfl g9 rfl (HB9.o.keep (HE10.o.kept _)) AH AA ?_
 go_wp2_with fail
 refine (Dv (aa) (ab) A8 D8 A9 D9 c8 e8 c9 e9 w10 (fun _=>True) (HA8.o.keep (HE10.o.kept _)).2.2.1 (HA8.o.keep (HE10.o.kept _)).2.2.2 (HA9.o.keep (HE10.o.kept _)).2.2.1 (HA9.o.keep (HE10.o.kept _)).2.2.2 (HT.o.ext HX10.o).tens (HZ8.o.mono Y17) (HZ9.o.mono Y17)).mono ?_;rintro ee w11 ⟨he,hx⟩;rw [HW.o] at he;subst he;have HX11:=Hd (HX10.o.trans hx);have HE11:=Hd (HE10.o.trans hx);clear hx;rename_i K1 hK1 K2 hK2;refine hK2 _ _ ?_;clear hK2;cases wn
 ·exact EqA
 ·exact CmA):qP:=h
theorem Zv(h:qP:=by
 rintro e1 w3 ⟨A4',c4',D4',e4',he,hab,hx⟩;exact ⟨_,he,γ,ExA _ γ hx,fun _ _ _ h=>h,A4',c4',D4',e4',rfl,hab.mono fun _ _ _=>trivial⟩):qP:=h
theorem UB(h:qP:=by
 intro vals γ w' ρ hR hN hp hρ zs zg;have hxx:=hR.o.ext0 (fun _ _ _ h=>h.elim);have HXW:=Hd hxx;clear hxx;refine Qr ?_;refine (GP (aa) (ab) A8 D8 A9 D9 c8 e8 c9 e9 w' (fun _=>True) (HA8.o.keep (HXW.o.kept _)).2.2.1 (HA8.o.keep (HXW.o.kept _)).2.2.2 (HA9.o.keep (HXW.o.kept _)).2.2.1 (HA9.o.keep (HXW.o.kept _)).2.2.2 (HT.o.ext (HX9.o.trans HXW.o)).tens (HZ8.o.mono Y17) (HZ9.o.mono Y17)).mono ?_;exact Zv):qP:=h
theorem Th(h:qP:=by
 intro vals γ w' ρ hR hN hp hρ zs zg;obtain ⟨A2,c2,D2,e2,hv2,hab2⟩:=hp.o 2 Y17;have e28:=(hρ.o 28).trans hv2;have hxx:=hR.o.ext0 (fun _ _ _ h=>h.elim);have HXW:=Hd hxx;clear hxx;refine Qr ?_;refine (BS 1 (EW (aa) (ab)) x A2 D2 B10 C10 c2 e2 b10 k10 w' (fun _=>True) (fun _=>True) hab2.2.2.1 hab2.2.2.2 (HV10.o.keep (HXW.o.kept _)) HC10.o (HT.o.ext (HX9.o.trans HXW.o)).tens ((AbN.meet HZ8.o HZ9.o).mono Y17)).mono ?_;rintro e1 w3 ⟨he,hx⟩;rw [HM.o] at he;exact Nu):qP:=h
theorem Vv(h:qP:=by
 intro vals γ w' ρ hR hN hp hρ zs zg;have hxx:=hR.o.ext0 (fun _ _ _ h=>h.elim);have HXW:=Hd hxx;clear hxx;refine Qr ?_;refine (Ev (aa) (ab) A8 D8 A9 D9 c8 e8 c9 e9 w' (fun _=>True) (HA8.o.keep (HXW.o.kept _)).2.2.1 (HA8.o.keep (HXW.o.kept _)).2.2.2 (HA9.o.keep (HXW.o.kept _)).2.2.1 (HA9.o.keep (HXW.o.kept _)).2.2.2 (HT.o.ext (HX9.o.trans HXW.o)).tens (HZ8.o.mono Y17) (HZ9.o.mono Y17)).mono ?_;exact Zv):qP:=h
theorem WO(h:qP:=by
 intro vals γ w' ρ hR hN hp hρ zs zg;obtain ⟨A18,c18,D18,e18,hv18,hab18⟩:=hp.o 18 Y17;have e44:=(hρ.o 44).trans hv18;have hxx:=hR.o.ext0 (fun _ _ _ h=>h.elim);have HXW:=Hd hxx;clear hxx;refine Qr ?_;refine (BS 1 (Do (aa) (ab)) x A18 D18 B10 C10 c18 e18 b10 k10 w' (fun _=>True) (fun _=>True) hab18.2.2.1 hab18.2.2.2 (HV10.o.keep (HXW.o.kept _)) HC10.o (HT.o.ext (HX9.o.trans HXW.o)).tens ((AbN.join HZ8.o HZ9.o).mono Y17)).mono ?_;rintro e1 w3 ⟨he,hx⟩;rw [HJ1.o] at he;exact Nu):qP:=h
theorem EcA(h:qP:=by
 exact absurd (HEI.o rfl) Y17):qP:=h
theorem Wz(h:qP:=by
 refine Qt ?_;refine AL rfl (.bool true) (w':=w11) Cn ?_;refine Qt ?_;refine AL rfl (.bool true) (w':=w11) Cn ?_;refine Qt ?_;refine AL rfl (.bool true) (w':=w11) Cn ?_;refine Qt ?_;refine BE rfl 39 _ rfl g8 rfl (HB8.o.keep (HE11.o.kept _)) AH AA ?_
 go_wp2_with fail
 refine (F7 (aa) A8 D8 c8 e8 w11 (fun _=>True) (HA8.o.keep (HE11.o.kept _)).2.2.1 (HA8.o.keep (HE11.o.kept _)).2.2.2 (HT.o.ext HX11.o).tens (HZ8.o.mono Y17)).mono ?_;rintro ee w12 ⟨he,hx⟩;rw [HEM.o] at he;subst he;have HX12:=Hd (HX11.o.trans hx);clear hx;cases em
 ·exact WK
 ·exact EcA):qP:=h
theorem Yz(h:qP:=by
 refine AL rfl (.bool true) (w':=w11) Cn ?_;refine Qt ?_;refine AL rfl (.bool true) (w':=w11) Cn ?_;refine Qt ?_;refine DB rfl ?_;refine Qt ?_;refine DB rfl ?_;refine Qt ?_;refine AL rfl (.bool true) (w':=w11) Cn ?_;refine Qt ?_;refine AL rfl (.bool true) (w':=w11) Cn ?_;refine Qt ?_;refine DB rfl ?_;exact Wz):qP:=h
theorem QT(l0:List Int)(l1:List Int)(l2:List Int)(a0:OA)(d0:Nat)(a1:OA)(d1:Nat)(a2:OA)(d2:Nat)(w:World)(S:NP)(ht:Txa w)(h0:IntsL w S a0 l0)(k0:l0.length≤d0)(h1:IntsL w S a1 l1)(k1:l1.length≤d1)(h2:IntsL w S a2 l2)(k2:l2.length≤d2) :
  Cl 8 #[.slice a0 l0.length d0,.slice a1 l1.length d1,.slice a2 l2.length d2] w (AO w true):=by
 obtain ⟨HT,H0,K0,H1,K1,H2,K2⟩:=Hd7 ht h0 k0 h1 k1 h2 k2;clear ht h0 k0 h1 k1 h2 k2
 go_enter func8,ntmps8
 go_wp2_with fail
 refine (OU w HT.o).mono ?_;rintro ee w1 ⟨rfl,hx⟩;have HX1:=Hd hx;clear hx
 go_wp2_with fail
 refine (OD l0 a0 d0 w1 S (H0.o.keep (HX1.o.kept _)) K0.o).mono ?_;rintro ee w2 ⟨aa,hz,A8,c8,D8,e8,rfl,hab,hx⟩;obtain ⟨HZ8,HX2,HE2,HA8⟩:=Hd4 hz (HX1.o.trans hx) hx (hab.mono (T:=(fun _=>True)) fun _ _ _=>trivial);clear hz hab hx
 go_wp2_with fail
 refine (OD l1 a1 d1 w2 S (H1.o.keep (HX2.o.kept _)) K1.o).mono ?_;rintro ee w3 ⟨ab,hz,A9,c9,D9,e9,rfl,hab,hx⟩;obtain ⟨HZ9,HX3,HE3,HA9⟩:=Hd4 hz (HX2.o.trans hx) hx (hab.mono (T:=(fun _=>True)) fun _ _ _=>trivial);clear hz hab hx
 replace HA8:=Hd (HA8.o.keep (HE3.o.kept _))
 clear HE2 HE3 HX2;rename_i K1 hK1 K2 hK2;refine hK2 _ _ ?_;refine AP rfl rfl ?_;obtain ⟨g8,hg8⟩:=eqx w3.heap.size;rw [←hg8];have hb8:=EX hg8;refine AP rfl rfl ?_;generalize hw4:w3.alloc _=w4 at hb8⊢;obtain ⟨g9,hg9⟩:=eqx w4.heap.size;rw [←hg9];have hb9:=EX hg9;have hb8':=hb8.keep ((((Ext.refl w4).alloc (.cells Az 39))).kept _);refine AD rfl 39 _ _ rfl g8 (Ap aa A8 c8 D8 e8) rfl rfl 39 _ hb8' AA rfl Y11 ?_;intro w5 hb8n ho8;have hne:g8≠g9:=(by have:=hb8.lt;omega);have hb9':=hb9.keep (ho8.kept fun b _ e e'=>hne (e'.symm.trans e));refine AD rfl 39 _ _ rfl g9 (Ap ab A9 c9 D9 e9) rfl rfl 39 _ hb9' AA rfl Y11 ?_;intro w6 hb9n ho9;refine hK1 _ _ ?_;have hx4:Ext w3 w4:=(by rw [←hw4];exact (Ext.refl _).alloc _);have hxs:Ext w3 w6:=((hx4.alloc _).only ho8 (by rw [hg8];exact AS)).only ho9 (by rw [hg9];exact hx4.size);obtain ⟨HX6,HB8,HB9⟩:=Hd3 (HX3.o.trans hxs) (hb8n.keep (ho9.kept fun b _ e e'=>hne (e.symm.trans e'))) hb9n
 replace HA8:=Hd (HA8.o.keep (hxs.kept _))
 replace HA9:=Hd (HA9.o.keep (hxs.kept _))
 clear hb8 hb8' hb8n hb9 hb9' hb9n ho8 ho9 hne hg8 hg9 hw4 hx4 hxs hK1 hK2 HX3
 go_frame
 go_upto_region 3 with fail
 go_wp2_with fail
 refine (Id l2 a2 d2 w6 S (H2.o.keep (HX6.o.kept _))).mono ?_;rintro ee w7 ⟨x,hrx,B10,b10,C10,k10,rfl,hcp,hrv,hx⟩;obtain ⟨HR10,HX7,HC10,HV10⟩:=Hd4 hrx (HX6.o.trans hx) hcp.1 (hrv.mono (T:=(fun _=>True)) fun _ _ _=>trivial)
 replace HA8:=Hd (HA8.o.keep (hx.kept _))
 replace HA9:=Hd (HA9.o.keep (hx.kept _))
 replace HB8:=Hd (HB8.o.keep (hx.kept _))
 replace HB9:=Hd (HB9.o.keep (hx.kept _))
 clear hx hrx hcp hrv
 go_upto_region 4 with fail
 obtain ⟨g10,hg⟩:=eqx w7.heap.size;rw [←hg];obtain ⟨w8,hw⟩:=eqx (w7.alloc (.cells (Vp x B10 b10 C10 k10) 29));rw [←hw];have hx:Ext w7 w8:=(by rw [hw];exact (Ext.refl _).alloc _);have HB10:=Hd (show Blk w8 g10 29 (Vp x B10 b10 C10 k10) by rw [hw,hg];exact Blk.new _ _ _);have HX8:=Hd (HX7.o.trans hx)
 replace HA8:=Hd (HA8.o.keep (hx.kept _))
 replace HA9:=Hd (HA9.o.keep (hx.kept _))
 replace HB8:=Hd (HB8.o.keep (hx.kept _))
 replace HB9:=Hd (HB9.o.keep (hx.kept _))
 replace HV10:=Hd (HV10.o.keep (hx.kept _))
 clear hx hw hg HX6 HX7;obtain ⟨p,hp⟩:=eqx (AK aa x);obtain ⟨q,hq⟩:=eqx (AK ab x);obtain ⟨wn,hwn⟩:=eqx (F8 aa ab);obtain ⟨em,hem⟩:=eqx (Gn aa);obtain ⟨HP,HQ,HW,HEM⟩:=Hd4 hp.symm hq.symm hwn.symm hem.symm;obtain ⟨HM,HJ,HWI,HEI⟩:=Hd4 (show AK (EW aa ab) x=(p&&q) by rw [Km,HP.o,HQ.o]) (show (p||q)=true→AK (Do aa ab) x=true from fun h=>KS (by rw [HP.o,HQ.o];simpa using h)) (show wn=true→p=true→q=true from fun h1 h2=>by rw [←HQ.o];exact I5 (by rw [HW.o];exact h1) (by rw [HP.o];exact h2)) (show em=true→p=false from fun h=>by rw [←HP.o];exact Jy (by rw [HEM.o];exact h) x);clear hp hq hwn hem;refine Qa (fun _ _=>False) [] ?_;refine Qy HB8 AH AA ?_;refine Qy HB10 FN ED ?_;refine Qg (.bool p) ?_ ?_
 ·intro vals γ w' ρ hR hN hp hρ zs zg;have hxx:=hR.o.ext0 (fun _ _ _ h=>h.elim);have HXW:=Hd hxx;clear hxx;refine Qr ?_;refine (BS 1 (aa) x A8 D8 B10 C10 c8 e8 b10 k10 w' (fun _=>True) (fun _=>True) (HA8.o.keep (HXW.o.kept _)).2.2.1 (HA8.o.keep (HXW.o.kept _)).2.2.2 (HV10.o.keep (HXW.o.kept _)) HC10.o (HT.o.ext (HX8.o.trans HXW.o)).tens (HZ8.o.mono Y17)).mono ?_;rintro e1 w3 ⟨he,hx⟩;rw [HP.o] at he;exact Nu
 refine Qy HB9 AH AA ?_;refine Qy HB10 FN ED ?_;refine Qg (.bool q) ?_ ?_
 ·intro vals γ w' ρ hR hN hp hρ zs zg;have hxx:=hR.o.ext0 (fun _ _ _ h=>h.elim);have HXW:=Hd hxx;clear hxx;refine Qr ?_;refine (BS 1 (ab) x A9 D9 B10 C10 c9 e9 b10 k10 w' (fun _=>True) (fun _=>True) (HA9.o.keep (HXW.o.kept _)).2.2.1 (HA9.o.keep (HXW.o.kept _)).2.2.2 (HV10.o.keep (HXW.o.kept _)) HC10.o (HT.o.ext (HX8.o.trans HXW.o)).tens (HZ9.o.mono Y17)).mono ?_;rintro e1 w3 ⟨he,hx⟩;rw [HQ.o] at he;exact Nu
 iterate 2 refine Qp ?_
 intro vals γ w9 hR hG;refine Qx ?_;have HE9:=Hd (show Ext w8 w9 from hR.ext0 (fun _ _ _ h=>h.elim));clear hR hG;have HX9:=Hd (HX8.o.trans HE9.o)
 replace HB8:=Hd (HB8.o.keep (HE9.o.kept _))
 replace HB9:=Hd (HB9.o.keep (HE9.o.kept _))
 replace HB10:=Hd (HB10.o.keep (HE9.o.kept _))
 replace HA8:=Hd (HA8.o.keep (HE9.o.kept _))
 replace HA9:=Hd (HA9.o.keep (HE9.o.kept _))
 replace HV10:=Hd (HV10.o.keep (HE9.o.kept _))
 clear HX8 HE9;cases p<;>cases q
 ·go_upto_region 5 with fail
  refine Qa (fun _ _=>False) [] ?_;refine Qy HB8 AH AA ?_;refine Qy HB9 AH AA ?_;refine Qs (FP fun v γ w'=>SvA (EW (aa) (ab)) v w') (EuA ?_) ?_ ?_
  ·exact IC
  ·exact UB
  refine Qy HB10 FN ED ?_;refine Qg (.bool false) ?_ ?_
  ·exact Th
  iterate 2 refine Qp ?_
  refine Qn ?_
  iterate 8 refine Qp ?_
  iterate 6 refine Qn ?_
  iterate 2 refine Qp ?_
  exact Wv
 ·have HJ1:=Hd (HJ.o rfl)
  go_upto_region 5 with fail
  refine Qa (fun _ _=>False) [] ?_;refine Qy HB8 AH AA ?_;refine Qy HB9 AH AA ?_;refine Qs (FP fun v γ w'=>SvA (EW (aa) (ab)) v w') (EuA ?_) ?_ ?_
  ·exact IC
  ·exact UB
  refine Qy HB10 FN ED ?_;refine Qg (.bool false) ?_ ?_
  ·exact Th
  iterate 2 refine Qp ?_
  refine Qn ?_
  iterate 8 refine Qp ?_
  refine Qy HB8 AH AA ?_;refine Qy HB9 AH AA ?_;refine Qs (FP fun v γ w'=>SvA (Do (aa) (ab)) v w') (EuA ?_) ?_ ?_
  ·exact IC
  ·exact Vv
  refine Qy HB10 FN ED ?_;refine Qg (.bool true) ?_ ?_
  ·exact WO
  iterate 3 refine Qp ?_
  exact Wv
 ·have HJ1:=Hd (HJ.o rfl)
  go_upto_region 5 with fail
  refine Qa (fun _ _=>False) [] ?_;refine Qy HB8 AH AA ?_;refine Qy HB9 AH AA ?_;refine Qs (FP fun v γ w'=>SvA (EW (aa) (ab)) v w') (EuA ?_) ?_ ?_
  ·exact IC
  ·exact UB
  refine Qy HB10 FN ED ?_;refine Qg (.bool false) ?_ ?_
  ·exact Th
  iterate 8 refine Qp ?_
  refine Qn ?_
  iterate 2 refine Qp ?_
  refine Qy HB8 AH AA ?_;refine Qy HB9 AH AA ?_;refine Qs (FP fun v γ w'=>SvA (Do (aa) (ab)) v w') (EuA ?_) ?_ ?_
  ·exact IC
  ·exact Vv
  refine Qy HB10 FN ED ?_;refine Qg (.bool true) ?_ ?_
  ·exact WO
  iterate 3 refine Qp ?_
  intro vals γ w10 hR hG;refine Qx ?_;have HE10:=Hd (show Ext w9 w10 from hR.ext0 (fun _ _ _ h=>h.elim));clear hR hG;have HX10:=Hd (HX9.o.trans HE10.o)
  go_upto_region 7 with fail
  refine wp_region_lit ?_;refine AL rfl (.bool true) (w':=w10) Cn ?_;refine Qt ?_;refine AL rfl (.bool true) (w':=w10) Cn ?_;refine Qt ?_;refine BE rfl 39 _ rfl g8 rfl (HB8.o.keep (HE10.o.kept _)) AH AA ?_;refine BE rfl 39 _ rfl g9 rfl (HB9.o.keep (HE10.o.kept _)) AH AA ?_
  go_wp2_with fail
  refine (Dv (aa) (ab) A8 D8 A9 D9 c8 e8 c9 e9 w10 (fun _=>True) (HA8.o.keep (HE10.o.kept _)).2.2.1 (HA8.o.keep (HE10.o.kept _)).2.2.2 (HA9.o.keep (HE10.o.kept _)).2.2.1 (HA9.o.keep (HE10.o.kept _)).2.2.2 (HT.o.ext HX10.o).tens (HZ8.o.mono Y17) (HZ9.o.mono Y17)).mono ?_;rintro ee w11 ⟨he,hx⟩;rw [HW.o] at he;subst he;have HX11:=Hd (HX10.o.trans hx);have HE11:=Hd (HE10.o.trans hx);clear hx;rename_i K1 hK1 K2 hK2;refine hK2 _ _ ?_;clear hK2;cases wn
  ·exact Yz
  ·exact (by have h:=HWI.o;simp at h)
 ·have HJ1:=Hd (HJ.o rfl)
  go_upto_region 5 with fail
  refine Qa (fun _ _=>False) [] ?_;refine Qy HB8 AH AA ?_;refine Qy HB9 AH AA ?_;refine Qs (FP fun v γ w'=>SvA (EW (aa) (ab)) v w') (EuA ?_) ?_ ?_
  ·exact IC
  ·exact UB
  refine Qy HB10 FN ED ?_;refine Qg (.bool true) ?_ ?_
  ·exact Th
  iterate 8 refine Qp ?_
  refine Qn ?_
  iterate 2 refine Qp ?_
  refine Qy HB8 AH AA ?_;refine Qy HB9 AH AA ?_;refine Qs (FP fun v γ w'=>SvA (Do (aa) (ab)) v w') (EuA ?_) ?_ ?_
  ·exact IC
  ·exact Vv
  refine Qy HB10 FN ED ?_;refine Qg (.bool true) ?_ ?_
  ·exact WO
  iterate 3 refine Qp ?_
  intro vals γ w10 hR hG;refine Qx ?_;have HE10:=Hd (show Ext w9 w10 from hR.ext0 (fun _ _ _ h=>h.elim));clear hR hG;have HX10:=Hd (HX9.o.trans HE10.o)
  go_upto_region 7 with fail
  refine wp_region_lit ?_;refine AL rfl (.bool true) (w':=w10) Cn ?_;refine Qt ?_;refine AL rfl (.bool true) (w':=w10) Cn ?_;refine Qt ?_;refine BE rfl 39 _ rfl g8 rfl (HB8.o.keep (HE10.o.kept _)) AH AA ?_;refine BE rfl 39 _ rfl g9 rfl (HB9.o.keep (HE10.o.kept _)) AH AA ?_
  go_wp2_with fail
  refine (Dv (aa) (ab) A8 D8 A9 D9 c8 e8 c9 e9 w10 (fun _=>True) (HA8.o.keep (HE10.o.kept _)).2.2.1 (HA8.o.keep (HE10.o.kept _)).2.2.2 (HA9.o.keep (HE10.o.kept _)).2.2.1 (HA9.o.keep (HE10.o.kept _)).2.2.2 (HT.o.ext HX10.o).tens (HZ8.o.mono Y17) (HZ9.o.mono Y17)).mono ?_;rintro ee w11 ⟨he,hx⟩;rw [HW.o] at he;subst he;have HX11:=Hd (HX10.o.trans hx);have HE11:=Hd (HE10.o.trans hx);clear hx;rename_i K1 hK1 K2 hK2;refine hK2 _ _ ?_;clear hK2;cases wn
  ·exact Yz
  ·refine AL rfl (.bool false) (w':=w11) Cn ?_;refine Qt ?_;refine AL rfl (.bool false) (w':=w11) Cn ?_;refine Qt ?_;refine AL rfl (.bool true) (w':=w11) Cn ?_;refine Qt ?_;refine AL rfl (.bool false) (w':=w11) Cn ?_;refine Qt ?_;refine AL rfl (.bool false) (w':=w11) Cn ?_;refine Qt ?_;refine AL rfl (.bool false) (w':=w11) Cn ?_;refine Qt ?_;refine AL rfl (.bool true) (w':=w11) Cn ?_;exact Wz
end Go.Proofs.YtidacnalcdhckaaGreatDoor
