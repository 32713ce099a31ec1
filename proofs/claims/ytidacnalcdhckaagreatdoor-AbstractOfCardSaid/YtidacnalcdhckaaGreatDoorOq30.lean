/- Lemmas. No conditions. -/
import Derived.Test.YtidacnalcdhckaaGreatDoorOq25
import Derived.Test.YtidacnalcdhckaaGreatDoorOq29
set_option maxRecDepth 100000
set_option maxHeartbeats 4000000
namespace Go.Proofs.YtidacnalcdhckaaGreatDoor
open Go Go.RowKit Tryz
variable {qP:Prop}

def MeB(t:TypeId)(cs:Array Value)(N:Nat)(v:Value)(w':World):Prop:=∃ g:Nat,v=.slice (some ⟨g,0,none⟩) 2 2∧N≤g∧Blk w' g t cs
def MeS(N:Nat)(l:List BA)(v:Value)(w':World):Prop:=∃ (A:OA) (c:Nat),v=.slice A l.length c∧OwnSs w' N A c l
def MeD(N:Nat)(S:NP)(l:List Dep)(v:Value)(w':World):Prop:=∃ (A:OA) (c:Nat),v=.slice A l.length c∧OwnDs w' N S A c l
def MeA(N:Nat)(T:NP)(s:Abs)(v:Value)(w':World):Prop:=∃ (A:OA) (c:Nat) (D:OA) (e:Nat),v=(Aq s A c D e)∧AbM w' (fun b=>T b∨N≤b) s A c D e
theorem Iu(h:qP:=by
  rintro v γ wx γ' wy rr ⟨g,h1,h2,h3⟩
  exact ⟨g,h1,h2,h3.keep (rr.keptS (S:=fun b=>b=g) fun b _ e m hm=>by have:=hm.2;have:=G4L.o;omega)⟩):qP:=h
theorem JB(h:qP:=by
  intro vals γ w' ρ hR hN hp hρ zs zg
  have HR:=hR
  refine Qr ?_
  exact ⟨γ,H4A _ γ (exaa _),fun _ _ _ h=>h,_,rfl,HR.o.size,Blk.new _ _ _⟩):qP:=h
theorem AGA(h:qP:=by
  have h4:=hm.2
  exact IS):qP:=h
theorem JH(h:qP:=by
  rintro v γ wx γ' wy rr ⟨A,c,D,e,h1,h2⟩
  exact ⟨A,c,D,e,h1,h2.keep (rr.keptS fun b _ hb m hm=>by
    exact AGA)⟩):qP:=h
theorem Iw(h:qP:=by rw [hm.1];exact hk4):qP:=h
theorem KH(a b:Abs)(A D B E:OA)(c e cb eb:Nat)(w:World)(S:NP)(hA:Strs w S A a.cols)(hD:RDeps w S D a.deps)(hB:Strs w S B b.cols)(hE:RDeps w S E b.deps)(ht:Tens w)(hz:AbN 20000 a)(hy:AbN 20000 b) :
    Cl 31 #[(Aq a A c D e),(Aq b B cb E eb)] w (Eh w S (Gq a b)):=by
  obtain ⟨w0,hw0⟩:=eqx (((w.alloc (.cells (Ap a A c D e) 39)).alloc (.cells (Ap b B cb E eb) 39)).alloc (.cells Az 39))
  obtain ⟨g2,hg2⟩:=eqx w.heap.size
  obtain ⟨g3,hg3⟩:=eqx (w.heap.size+1)
  obtain ⟨g4,hg4⟩:=eqx (w.heap.size+2)
  obtain ⟨N,hN⟩:=eqx (w.heap.size+3)
  have hx0:Ext w w0:=CC
  have hb2:Blk w0 g2 39 (Ap a A c D e):=by rw [hw0,hg2];exact (Blk.new _ _ _).keep ((exbb _).kept _)
  have hb3:Blk w0 g3 39 (Ap b B cb E eb):=by rw [hw0,hg3];exact (H6A _ _ _ _).keep ((exaa _).kept _)
  have hb4:Blk w0 g4 39 Az:=by rw [hw0,hg4];exact ICA _ _ _ _ _
  have hs0:w0.heap.size=w.heap.size+3:=by rw [hw0];simp
  obtain ⟨HW0,HG2,HG3,HG4,HX0,HB2,HB3,HB4⟩:=Hd8 hw0 hg2 hg3 hg4 hx0 hb2 hb3 hb4
  have HNN:=Hd (show N=w0.heap.size by omega)
  have HGG:=Hd (show w.heap.size=g2∧g3=g2+1∧g4=g2+2∧N=g2+3 by omega)
  obtain ⟨Ta,hTa⟩:∃ z:Nat→Prop,z=fun b=>S b∧b<w.heap.size:=⟨_,rfl⟩
  have HTL:=Hd (show ∀ b,Ta b→b<w.heap.size from fun b hb=>by rw [hTa] at hb;exact hb.2)
  have HTA:=Hd hTa
  have XNO:=Hd (show ∀ m b,(Ta b∨N≤b)→¬((m=1004∧b=g2)∨(m=1005∧b=g3)) from fun m b hb hm=>by
    exact IS)
  have hA1:=hA.mono (T:=Ta) fun i hi hs=>BV
  have hD1:=hD.mono (T:=Ta) fun i hi hs=>BV
  have hB1:=hB.mono (T:=Ta) fun i hi hs=>BV
  have hE1:=hE.mono (T:=Ta) fun i hi hs=>BV
  obtain ⟨ca,hca⟩:=eqx (AX a)
  obtain ⟨cb',hcb⟩:=eqx (AX b)
  obtain ⟨HCA,HCB,HZA,HZB,HT,HAC,HBC⟩:=Hd7 (show ∀ w',Ext w0 w'→Cl 47 #[(Aq a A c D e)] w' (Eh w' Ta ca) from fun w' hw'=>by rw [hca];exact As a A D c e w' Ta (hA1.keep ((hx0.trans hw').kept _)) (hD1.keep ((hx0.trans hw').kept _)) (ht.ext (hx0.trans hw')) (hz.mono AB)) (show ∀ w',Ext w0 w'→Cl 47 #[(Aq b B cb E eb)] w' (Eh w' Ta cb') from fun w' hw'=>by rw [hcb];exact As b B E cb eb w' Ta (hB1.keep ((hx0.trans hw').kept _)) (hE1.keep ((hx0.trans hw').kept _)) (ht.ext (hx0.trans hw')) (hy.mono AB)) (show AbN 20000 ca by rw [hca];exact hz.can) (show AbN 20000 cb' by rw [hcb];exact hy.can) ht hca hcb
  clear hw0 hg2 hg3 hg4 hN hx0 hb2 hb3 hb4 hs0 hTa hA hD hB hE hA1 hD1 hB1 hE1 hca hcb ht hz hy
  go_enter func31,ntmps31
  go_upto_region 1 with fail
  rw [←HW0.o,←HG4.o,←HG3.o,←HG2.o]
  refine Qa (fun m b=>(m=1004∧b=g2)∨(m=1005∧b=g3)) [(0,[1004,1005]),(1,[1004,1005]),(2,[1005]),(3,[1004,1005]),(4,[1004,1005]),(5,[1005])] ?_
  apply H9A (LZ.refl _) AG
  · exact LA
  · rfl
  refine Qs (FP fun v γ w'=>JoP N Ta ca v w') (H1A ?_) ?_ ?_
  · exact FA
  · exact Ls
  apply H9A (LZ.refl _) AG
  · exact Km
  · rfl
  refine Qs (FP fun v γ w'=>JoP N Ta cb' v w') (H1A ?_) ?_ ?_
  · exact FA
  · exact Mh
  refine Chain.step (fun _ γ w'=>JoB g2 N Ta ca w'∧γ 1004=true) AG ?_ ?_ ?_
  · exact Ku
  · intro vals γ w' ρ hR hN hp hρ hc hf hg
    refine ⟨rfl,?_⟩
    have e2:=hρ 2
    conv at e2=>rhs;whnf
    obtain ⟨A1,c1,D1,e1,hv,hab⟩:=hp 1 AB
    have e6:=(hρ 6).trans hv
    have hk0:=hN.key (k:=1004) AB
    have hgg:=HGG.o
    have hb0:=HB2.o.keep (hR.kept0 (S:=fun b=>b=g2) fun b _ e m hm=>by rcases hm with ⟨rfl,h⟩|⟨rfl,h⟩;exact hk0;omega)
    refine BY 39 rfl e2 e6 hb0 AH rfl AD ?_
    exact SH
  refine Chain.step (fun _ γ w'=>JoB g3 N Ta cb' w'∧γ 1005=true) AG ?_ ?_ ?_
  · exact LJ
  · intro vals γ w' ρ hR hN hp hρ hc hf hg
    refine ⟨rfl,?_⟩
    have e3:=hρ 3
    conv at e3=>rhs;whnf
    obtain ⟨A1,c1,D1,e1,hv,hab⟩:=hp 3 AB
    have e8:=(hρ 8).trans hv
    have hk0:=hN.key (k:=1005) AB
    have hgg:=HGG.o
    have hb0:=HB3.o.keep (hR.kept0 (S:=fun b=>b=g3) fun b _ e m hm=>by rcases hm with ⟨rfl,h⟩|⟨rfl,h⟩;omega;exact hk0)
    refine BY 39 rfl e3 e8 hb0 AH rfl AD ?_
    exact R0
  intro vals γ w9 hR hG
  obtain ⟨⟨A2,c2,D2,e2,hb29,hab2⟩,-⟩:=hG 4 AB
  obtain ⟨⟨A3,c3,D3,e3,hb39,hab3⟩,-⟩:=hG 5 AB
  obtain ⟨HB29,HB39,HAB2,HAB3,HX9,HB49,HSZ9⟩:=Hd7 hb29 hb39 hab2 hab3 (show Ext w w9 from Au HX0.o (hR.buts (S:=fun b=>b=g2∨b=g3) (fun m b _ hm _=>hm.imp And.right And.right)) (fun b hb=>DB)) (HB4.o.keep (hR.kept0 (S:=fun b=>b=g4) fun b _ e m hm=>by have:=HGG.o;rcases hm with ⟨_,h⟩|⟨_,h⟩<;>omega)) (show N≤w9.heap.size by have:=hR.size;have e0:w0.drew.heap.size=w0.heap.size:=rfl;have:=HNN.o;omega)
  refine Qx ?_
  clear hR hG hb29 hb39 hab2 hab3
  obtain ⟨k5,hk5⟩:=eqx (bits .and .i64 ca.kinds cb'.kinds)
  obtain ⟨b5,hb5⟩:=eqx (bits .and .i64 ca.bo cb'.bo)
  obtain ⟨tj,htj⟩:=eqx (DN ca.tx cb'.tx)
  obtain ⟨nj,hnj⟩:=eqx (NB ca.nu cb'.nu)
  obtain ⟨d1,hd1⟩:=eqx ((CZ (ca.dl,ca.dh) (cb'.dl,cb'.dh)).1)
  obtain ⟨d2,hd2⟩:=eqx ((CZ (ca.dl,ca.dh) (cb'.dl,cb'.dh)).2)
  obtain ⟨r1,hr1⟩:=eqx ((CZ (ca.rl,ca.rh) (cb'.rl,cb'.rh)).1)
  obtain ⟨r2,hr2⟩:=eqx ((CZ (ca.rl,ca.rh) (cb'.rl,cb'.rh)).2)
  obtain ⟨er,her⟩:=eqx (ca.errs&&cb'.errs)
  have hor1:bits .and .i64 ca.kinds cb'.kinds=k5:=hk5.symm
  have hor2:bits .and .i64 ca.bo cb'.bo=b5:=hb5.symm
  have hza:=HZA.o
  have hzb:=HZB.o
  obtain ⟨HJS,HJI,HJD,HJR,HEQ,HER⟩:=Hd6 (show ∀ w',Cl 87 #[(Sq ca.tx),(Sq cb'.tx)] w' (G0 w' tj) from fun w'=>by rw [htj];exact ASA ca.tx cb'.tx hza.1 hza.2.1 hzb.1 hzb.2.1 w') (show ∀ w',Ext w9 w'→Cl 88 #[(Rq ca.nu),(Rq cb'.nu)] w' (Em w' nj) from fun w' hw'=>by rw [hnj];exact Ve ca.nu cb'.nu w' (HT.o.ext (HX9.o.trans hw'))) (show ∀ w',Cl 89 #[.agg #[.I ca.dl,.I ca.dh],.agg #[.I cb'.dl,.I cb'.dh]] w' (Cd w' (d1,d2)) from fun w'=>by rw [hd1,hd2];exact DM _ _ _ _ w') (show ∀ w',Cl 89 #[.agg #[.I ca.rl,.I ca.rh],.agg #[.I cb'.rl,.I cb'.rh]] w' (Cd w' (r1,r2)) from fun w'=>by rw [hr1,hr2];exact DM _ _ _ _ w') (show I1 ca cb'=⟨k5,tj,nj,d1,d2,b5,r1,r2,ca.cols++cb'.cols,ca.deps++cb'.deps,er⟩ by rw [hk5,hb5,htj,hnj,hd1,hd2,hr1,hr2,her];rfl) her
  clear hk5 hb5 htj hnj hd1 hd2 hr1 hr2 her hza hzb
  obtain ⟨rm,hrm⟩:∃ z:Abs,z=⟨k5,tj,nj,d1,d2,b5,r1,r2,ca.cols++cb'.cols,ca.deps++cb'.deps,er⟩:=⟨_,rfl⟩
  have HRM:=Hd hrm
  have HEM:=Hd (show I1 ca cb'=rm by rw [HEQ.o,hrm])
  obtain ⟨HZM,G2L,G3L,G4L,HA29,HA39,HCS⟩:=Hd7 (show AbN 1000000 rm by rw [←HEM.o];exact (HZA.o.meetRaw HZB.o).mono AB) (show g2<w9.heap.size∧g2≠g4 from ⟨HB29.o.lt,DB⟩) (show g3<w9.heap.size∧g3≠g4 from ⟨HB39.o.lt,DB⟩) (show g4<w9.heap.size from HB49.o.lt) (HAB2.o.mono (T:=S9 Ta N w9) fun i hi hs=>⟨hs,hi⟩) (HAB3.o.mono (T:=S9 Ta N w9) fun i hi hs=>⟨hs,hi⟩) (show ∀ w',Ext w9 w'→∀ g,Blk w' g 26 #[.slice A2 ca.cols.length c2,.slice A3 cb'.cols.length c3]→Cl 90 #[.slice (some ⟨g,0,none⟩) 2 2] w' (FuA w' (ca.cols++cb'.cols)) from fun w' hw' g hb=>Ph _ _ A2 A3 c2 c3 g w' _ _ ((HAB2.o.keep (hw'.kept _)).2.2.1) ((HAB3.o.keep (hw'.kept _)).2.2.1) hb (by have:=HZA.o.2.2.1;omega) (by have:=HZB.o.2.2.1;omega))
  have HCD:=Hd (show ∀ w',Ext w9 w'→∀ g,Blk w' g 37 #[.slice D2 ca.deps.length e2,.slice D3 cb'.deps.length e3]→Cl 91 #[.slice (some ⟨g,0,none⟩) 2 2] w' (FtA w' (S9 Ta N w9) (ca.deps++cb'.deps)) from fun w' hw' g hb=>Ps _ _ D2 D3 e2 e3 g w' _ (fun b hb=>by have:=hb.2;have:=hw'.size;omega) ((HA29.o.keep (hw'.kept _)).2.2.2) ((HA39.o.keep (hw'.kept _)).2.2.2) hb (by have:=HZA.o.2.2.2.1;omega) (by have:=HZB.o.2.2.2.1;omega))
  clear hrm
  go_upto_region 2 with fail
  cases he:ca.errs
  iterate 2
    · first
      | (have HTR:=Hd (show er=false by rw [HER.o,he];rfl)
         have htr:=HTR.o)
      |(have hce:cb'.errs=er:=by rw [HER.o,he];rfl)
      refine Qa (fun m b=>m=1050∧b=g4) (lk 51 [1050]) ?_
      refine Qp ?_
      refine Qm (fun vals γ w' ρ hR hN hp hρ zs zg=>by
        have hxx:=hR.o.kept0 (S:=fun b=>b<w9.heap.size∧b≠g4) fun b _ hb m hm=>absurd hm.2 hb.2
        have hbx:=HB29.o.keep (hxx.mono fun b _ e=>It)
        have m0:w'.cell? ⟨g2,0,none⟩=some (.I ca.kinds):=hbx.q0
        clear hxx hbx
        exact Qk) ?_
      refine Qp ?_
      refine Qm (fun vals γ w' ρ hR hN hp hρ zs zg=>by
        have hxx:=hR.o.kept0 (S:=fun b=>b<w9.heap.size∧b≠g4) fun b _ hb m hm=>absurd hm.2 hb.2
        have hbx:=HB39.o.keep (hxx.mono fun b _ e=>Is)
        have m0:w'.cell? ⟨g3,0,none⟩=some (.I cb'.kinds):=hbx.q0
        clear hxx hbx
        exact Qk) ?_
      iterate 2 refine Qp ?_
      refine Qm (fun vals γ w' ρ hR hN hp hρ zs zg=>by
        have hxx:=hR.o.kept0 (S:=fun b=>b<w9.heap.size∧b≠g4) fun b _ hb m hm=>absurd hm.2 hb.2
        have hbx:=HB29.o.keep (hxx.mono fun b _ e=>It)
        have m1:w'.cell? ⟨g2,1,none⟩=some (.I ca.tx.least):=hbx.q1
        have m2:w'.cell? ⟨g2,2,none⟩=some (.I ca.tx.most):=hbx.q2
        have m3:w'.cell? ⟨g2,3,none⟩=some (.I ca.tx.cls):=hbx.q3
        have m4:w'.cell? ⟨g2,4,none⟩=some (.string ca.tx.b):=hbx.q4
        have m5:w'.cell? ⟨g2,5,none⟩=some (.string ca.tx.e):=hbx.q5
        clear hxx hbx
        exact Qk) ?_
      refine Qp ?_
      refine Qm (fun vals γ w' ρ hR hN hp hρ zs zg=>by
        have hxx:=hR.o.kept0 (S:=fun b=>b<w9.heap.size∧b≠g4) fun b _ hb m hm=>absurd hm.2 hb.2
        have hbx:=HB39.o.keep (hxx.mono fun b _ e=>Is)
        have m1:w'.cell? ⟨g3,1,none⟩=some (.I cb'.tx.least):=hbx.q1
        have m2:w'.cell? ⟨g3,2,none⟩=some (.I cb'.tx.most):=hbx.q2
        have m3:w'.cell? ⟨g3,3,none⟩=some (.I cb'.tx.cls):=hbx.q3
        have m4:w'.cell? ⟨g3,4,none⟩=some (.string cb'.tx.b):=hbx.q4
        have m5:w'.cell? ⟨g3,5,none⟩=some (.string cb'.tx.e):=hbx.q5
        clear hxx hbx
        exact Qk) ?_
      refine Qc (x:=(Sq tj)) (fun w'=>HJS.o w') ?_
      refine Qp ?_
      refine Qm (fun vals γ w' ρ hR hN hp hρ zs zg=>by
        have hxx:=hR.o.kept0 (S:=fun b=>b<w9.heap.size∧b≠g4) fun b _ hb m hm=>absurd hm.2 hb.2
        have hbx:=HB29.o.keep (hxx.mono fun b _ e=>It)
        have m6:w'.cell? ⟨g2,6,none⟩=some (.I ca.nu.ln):=hbx.q6
        have m7:w'.cell? ⟨g2,7,none⟩=some (.I ca.nu.ls):=hbx.q7
        have m8:w'.cell? ⟨g2,8,none⟩=some (.I ca.nu.hn):=hbx.q8
        have m9:w'.cell? ⟨g2,9,none⟩=some (.I ca.nu.hs):=hbx.q9
        clear hxx hbx
        exact Qk) ?_
      refine Qp ?_
      refine Qm (fun vals γ w' ρ hR hN hp hρ zs zg=>by
        have hxx:=hR.o.kept0 (S:=fun b=>b<w9.heap.size∧b≠g4) fun b _ hb m hm=>absurd hm.2 hb.2
        have hbx:=HB39.o.keep (hxx.mono fun b _ e=>Is)
        have m6:w'.cell? ⟨g3,6,none⟩=some (.I cb'.nu.ln):=hbx.q6
        have m7:w'.cell? ⟨g3,7,none⟩=some (.I cb'.nu.ls):=hbx.q7
        have m8:w'.cell? ⟨g3,8,none⟩=some (.I cb'.nu.hn):=hbx.q8
        have m9:w'.cell? ⟨g3,9,none⟩=some (.I cb'.nu.hs):=hbx.q9
        clear hxx hbx
        exact Qk) ?_
      refine Qg (Rq nj) ?_ ?_
      · intro vals γ w' ρ hR hN hp hρ zs zg
        have HR:=hR
        have hk4:=hN.o.key (k:=1050) AB
        have hxx:=hR.o.ext0 (fun m b _ hm=>Iw)
        have HXW:=Hd hxx
        clear hxx hk4
        refine Qr ?_
        refine (HJI.o w' HXW.o).mono ?_
        exact DR
      refine Qp ?_
      refine Qm (fun vals γ w' ρ hR hN hp hρ zs zg=>by
        have hxx:=hR.o.kept0 (S:=fun b=>b<w9.heap.size∧b≠g4) fun b _ hb m hm=>absurd hm.2 hb.2
        have hbx:=HB29.o.keep (hxx.mono fun b _ e=>It)
        have m10:w'.cell? ⟨g2,10,none⟩=some (.I ca.dl):=hbx.q10
        have m11:w'.cell? ⟨g2,11,none⟩=some (.I ca.dh):=hbx.q11
        clear hxx hbx
        exact Qk) ?_
      refine Qp ?_
      refine Qm (fun vals γ w' ρ hR hN hp hρ zs zg=>by
        have hxx:=hR.o.kept0 (S:=fun b=>b<w9.heap.size∧b≠g4) fun b _ hb m hm=>absurd hm.2 hb.2
        have hbx:=HB39.o.keep (hxx.mono fun b _ e=>Is)
        have m10:w'.cell? ⟨g3,10,none⟩=some (.I cb'.dl):=hbx.q10
        have m11:w'.cell? ⟨g3,11,none⟩=some (.I cb'.dh):=hbx.q11
        clear hxx hbx
        exact Qk) ?_
      refine Qc (x:=.agg #[.I d1,.I d2]) (fun w'=>HJD.o w') ?_
      refine Qp ?_
      refine Qm (fun vals γ w' ρ hR hN hp hρ zs zg=>by
        have hxx:=hR.o.kept0 (S:=fun b=>b<w9.heap.size∧b≠g4) fun b _ hb m hm=>absurd hm.2 hb.2
        have hbx:=HB29.o.keep (hxx.mono fun b _ e=>It)
        have m12:w'.cell? ⟨g2,12,none⟩=some (.I ca.bo):=hbx.q12
        clear hxx hbx
        exact Qk) ?_
      refine Qp ?_
      refine Qm (fun vals γ w' ρ hR hN hp hρ zs zg=>by
        have hxx:=hR.o.kept0 (S:=fun b=>b<w9.heap.size∧b≠g4) fun b _ hb m hm=>absurd hm.2 hb.2
        have hbx:=HB39.o.keep (hxx.mono fun b _ e=>Is)
        have m12:w'.cell? ⟨g3,12,none⟩=some (.I cb'.bo):=hbx.q12
        clear hxx hbx
        exact Qk) ?_
      iterate 2 refine Qp ?_
      refine Qm (fun vals γ w' ρ hR hN hp hρ zs zg=>by
        have hxx:=hR.o.kept0 (S:=fun b=>b<w9.heap.size∧b≠g4) fun b _ hb m hm=>absurd hm.2 hb.2
        have hbx:=HB29.o.keep (hxx.mono fun b _ e=>It)
        have m13:w'.cell? ⟨g2,13,none⟩=some (.I ca.rl):=hbx.q13
        have m14:w'.cell? ⟨g2,14,none⟩=some (.I ca.rh):=hbx.q14
        clear hxx hbx
        exact Qk) ?_
      refine Qp ?_
      refine Qm (fun vals γ w' ρ hR hN hp hρ zs zg=>by
        have hxx:=hR.o.kept0 (S:=fun b=>b<w9.heap.size∧b≠g4) fun b _ hb m hm=>absurd hm.2 hb.2
        have hbx:=HB39.o.keep (hxx.mono fun b _ e=>Is)
        have m13:w'.cell? ⟨g3,13,none⟩=some (.I cb'.rl):=hbx.q13
        have m14:w'.cell? ⟨g3,14,none⟩=some (.I cb'.rh):=hbx.q14
        clear hxx hbx
        exact Qk) ?_
      refine Qc (x:=.agg #[.I r1,.I r2]) (fun w'=>HJR.o w') ?_
      refine Qp ?_
      refine Qm (fun vals γ w' ρ hR hN hp hρ zs zg=>by
        have hxx:=hR.o.kept0 (S:=fun b=>b<w9.heap.size∧b≠g4) fun b _ hb m hm=>absurd hm.2 hb.2
        have hbx:=HB29.o.keep (hxx.mono fun b _ e=>It)
        have m15:w'.cell? ⟨g2,15,none⟩=some (.slice A2 ca.cols.length c2):=hbx.q15
        clear hxx hbx
        exact Qk) ?_
      refine Qp ?_
      refine Qm (fun vals γ w' ρ hR hN hp hρ zs zg=>by
        have hxx:=hR.o.kept0 (S:=fun b=>b<w9.heap.size∧b≠g4) fun b _ hb m hm=>absurd hm.2 hb.2
        have hbx:=HB39.o.keep (hxx.mono fun b _ e=>Is)
        have m15:w'.cell? ⟨g3,15,none⟩=some (.slice A3 cb'.cols.length c3):=hbx.q15
        clear hxx hbx
        exact Qk) ?_
      refine Qs (FP fun v γ w'=>MeB 26 #[.slice A2 ca.cols.length c2,.slice A3 cb'.cols.length c3] w9.heap.size v w') (H1A ?_) ?_ ?_
      · exact Iu
      · exact JB
      refine Qs (FP fun v γ w'=>MeS w9.heap.size (ca.cols++cb'.cols) v w') (H1A ?_) ?_ ?_
      · rintro v γ wx γ' wy rr ⟨A,c,h1,h2⟩
        exact ⟨A,c,h1,Own.keep h2.1 (rr.keptS fun b _ e m hm=>by have:=(h2.1.blk e).1;have:=hm.2;have:=G4L.o;omega),h2.2⟩
      · intro vals γ w' ρ hR hN hp hρ zs zg
        obtain ⟨g,hv,hg,hb⟩:=hp.o 34 AB
        have e43:=(hρ.o 43).trans hv
        have hk4:=hN.o.key (k:=1050) AB
        have hxx:=hR.o.ext0 (fun m b _ hm=>Iw)
        have HXW:=Hd hxx
        clear hxx hk4
        have HBG:=Hd hb
        have HG:=Hd hg
        clear hb hg hv
        have HR:=hR
        refine Qr ?_
        refine (HCS.o w' HXW.o g HBG.o).mono ?_
        rintro e1 w3 ⟨A5,c5,he,ho,hx⟩
        exact ⟨_,he,γ,H4A _ γ hx,fun _ _ _ h=>h,A5,c5,rfl,⟨ho.1.lower (by have h:=HR.o.size;simp at h;omega),ho.2⟩⟩
      refine Qp ?_
      refine Qm (fun vals γ w' ρ hR hN hp hρ zs zg=>by
        have hxx:=hR.o.kept0 (S:=fun b=>b<w9.heap.size∧b≠g4) fun b _ hb m hm=>absurd hm.2 hb.2
        have hbx:=HB29.o.keep (hxx.mono fun b _ e=>It)
        have m16:w'.cell? ⟨g2,16,none⟩=some (.slice D2 ca.deps.length e2):=hbx.q16
        clear hxx hbx
        exact Qk) ?_
      refine Qp ?_
      refine Qm (fun vals γ w' ρ hR hN hp hρ zs zg=>by
        have hxx:=hR.o.kept0 (S:=fun b=>b<w9.heap.size∧b≠g4) fun b _ hb m hm=>absurd hm.2 hb.2
        have hbx:=HB39.o.keep (hxx.mono fun b _ e=>Is)
        have m16:w'.cell? ⟨g3,16,none⟩=some (.slice D3 cb'.deps.length e3):=hbx.q16
        clear hxx hbx
        exact Qk) ?_
      refine Qs (FP fun v γ w'=>MeB 37 #[.slice D2 ca.deps.length e2,.slice D3 cb'.deps.length e3] w9.heap.size v w') (H1A ?_) ?_ ?_
      · exact Iu
      · exact JB
      refine Qs (FP fun v γ w'=>MeD w9.heap.size (S9 Ta N w9) (ca.deps++cb'.deps) v w') (H1A ?_) ?_ ?_
      · rintro v γ wx γ' wy rr ⟨A,c,h1,h2⟩
        exact ⟨A,c,h1,h2.keep (rr.keptS fun b _ e m hm=>by
          have h4:=hm.2
          have:=G4L.o
          rcases e with e|e
          · have:=(h2.blk e).1;omega
          · have:=e.1;have:=HTL.o;have:=HGG.o;rcases e.1 with e1 | e1;(have:=HTL.o b e1;omega);omega)⟩
      · intro vals γ w' ρ hR hN hp hρ zs zg
        obtain ⟨g,hv,hg,hb⟩:=hp.o 40 AB
        have e49:=(hρ.o 49).trans hv
        have hk4:=hN.o.key (k:=1050) AB
        have hxx:=hR.o.ext0 (fun m b _ hm=>Iw)
        have HXW:=Hd hxx
        clear hxx hk4
        have HBG:=Hd hb
        have HG:=Hd hg
        clear hb hg hv
        have HR:=hR
        refine Qr ?_
        refine (HCD.o w' HXW.o g HBG.o).mono ?_
        rintro e1 w3 ⟨A5,c5,he,ho,hx⟩
        exact ⟨_,he,γ,H4A _ γ hx,fun _ _ _ h=>h,A5,c5,rfl,ho.lower (by have h:=HR.o.size;simp at h;omega)⟩
      refine Qp ?_
      refine Qm (fun vals γ w' ρ hR hN hp hρ zs zg=>by
        have hxx:=hR.o.kept0 (S:=fun b=>b<w9.heap.size∧b≠g4) fun b _ hb m hm=>absurd hm.2 hb.2
        have hbx:=HB29.o.keep (hxx.mono fun b _ e=>It)
        have m17:w'.cell? ⟨g2,17,none⟩=some (.bool ca.errs):=hbx.q17
        clear hxx hbx
        exact Qk) ?_
      first
      | (refine Qp ?_
         iterate 2 refine Qn ?_)
      | (iterate 2 refine Qp ?_
         refine Qm (fun vals γ w' ρ hR hN hp hρ zs zg=>by
           have hxx:=hR.o.kept0 (S:=fun b=>b<w9.heap.size∧b≠g4) fun b _ hb m hm=>absurd hm.2 hb.2
           have hbx:=HB39.o.keep (hxx.mono fun b _ e=>Is)
           have m17:w'.cell? ⟨g3,17,none⟩=some (.bool cb'.errs):=hbx.q17
           clear hxx hbx
           exact Qk) ?_)
      refine Qp ?_
      refine Qs (FP fun v γ w'=>MeA N Ta rm v w') (H1A ?_) ?_ ?_
      · exact JH
      · intro vals γ w' ρ hR hN hp hρ zs zg
        obtain ⟨A5,c5,hv35,ho35⟩:=hp.o 35 AB
        have e44:=(hρ.o 44).trans hv35
        clear hv35
        obtain ⟨A6,c6,hv41,ho41⟩:=hp.o 41 AB
        have e50:=(hρ.o 50).trans hv41
        clear hv41
        have HO5:=Hd ho35
        have HO6:=Hd ho41
        clear ho35 ho41
        refine Qr ?_
        refine ⟨γ,LZ.refl _ _ _,fun _ _ _ h=>h,A5,c5,A6,c6,?_,?_⟩
        first
        | (· rw [HRM.o,HTR.o]
             simp only [Aq,Ap,List.length_append]
             rfl)
        | (· rw [HRM.o]
             simp only [Aq,Ap,List.length_append]
             rfl)
        · rw [HRM.o]
          refine ⟨HO5.o.1.cap,?_,?_,?_⟩
          · obtain ⟨hs,hhs,hoo,-⟩:=HO6.o.add
            exact hoo.cap
          · exact HO5.o.strs (by have:=HZA.o.2.2.1;have:=HZB.o.2.2.1;show (ca.cols++cb'.cols).length≤_;rw [List.length_append];omega) (fun b hb=>.inr (by have:=(HO5.o.1.blk hb).1;have:=HSZ9.o;omega))
          · exact HO6.o.rdeps (by have:=HZA.o.2.2.2.1;have:=HZB.o.2.2.2.1;show (ca.deps++cb'.deps).length≤_;rw [List.length_append];omega) (fun b hb=>.inr (by have:=(HO6.o.blk hb).1;have:=HSZ9.o;omega)) (fun b hb=>hb.1)
      refine Qs (FP fun v γ w'=>MeA N Ta (AX rm) v w') (H1A ?_) ?_ ?_
      · exact JH
      · intro vals γ w' ρ hR hN hp hρ zs zg
        obtain ⟨A7,c7,D7,e7,hv48,hab⟩:=hp.o 48 AB
        have e57:=(hρ.o 57).trans hv48
        have hk4:=hN.o.key (k:=1050) AB
        have hxx:=hR.o.ext0 (fun m b _ hm=>Iw)
        have HXW:=Hd hxx
        clear hxx hk4
        have HAB:=Hd hab
        have HR:=hR
        clear hab hv48
        refine Qr ?_
        refine (As rm A7 D7 c7 e7 w' _ HAB.o.2.2.1 HAB.o.2.2.2 (HT.o.ext (HX9.o.trans HXW.o)) HZM.o).mono ?_
        rintro e1 w3 ⟨A8,c8,D8,e8,he,hab8,hx⟩
        exact ⟨_,he,γ,H4A _ γ hx,fun _ _ _ h=>h,A8,c8,D8,e8,rfl,hab8.mono fun b _ hb=>by
          rcases hb with hb|hb
          · exact hb
          · right;have h1:=HXW.o.size;have:=HSZ9.o;omega⟩
      refine Chain.step (fun _ γ w'=>JoB g4 N Ta (AX rm) w'∧γ 1050=true) AG ?_ ?_ ?_
      · rintro l γ wx γ' wy rr ⟨⟨A1,c1,D1,e1,h1,h2⟩,h3⟩
        exact ⟨⟨A1,c1,D1,e1,h1.keep (rr.keptS (S:=fun b=>b=g4) fun b _ e m hm=>by rw [hm.1,h3,rr.done _ h3]),h2.keep (rr.keptS fun b _ hb m hm=>by rw [hm.1,h3,rr.done _ h3])⟩,rr.done _ h3⟩
      · intro vals γ w' ρ hR hN hp hρ hc hf hg
        refine ⟨rfl,?_⟩
        obtain ⟨A7,c7,D7,e7,hv49,hab⟩:=hp 49 AB
        have e58:=(hρ 58).trans hv49
        have e4:=hρ 4
        conv at e4=>rhs;whnf
        have hk0:=hN.key (k:=1050) AB
        have hb0:=HB49.o.keep (hR.kept0 (S:=fun b=>b=g4) fun b _ e m hm=>CF)
        refine BY 39 rfl e4 e58 hb0 AH rfl AD ?_
        intro w4 hb4 ho4
        exact ⟨γ.put 1050,H2A hk0 ho4.os ho4.tape ho4.output (Nat.le_of_eq ho4.size.symm) (fun b hb hm=>ho4.block b fun e=>hm ⟨rfl,e⟩),LK.done AB,⟨A7,c7,D7,e7,hb4,hab.keep (ho4.kept fun b _ hb e=>by have:=HGG.o;rcases hb with hb|hb;(have:=HTL.o b hb;omega);omega)⟩,AU⟩
      intro vals γ w10 hR hG
      refine Qx ?_
      obtain ⟨⟨A7,c7,D7,e7,hb50,hab50⟩,-⟩:=hG 50 AB
      obtain ⟨HB50,HAB50,HX10⟩:=Hd3 hb50 hab50 (show Ext w w10 from Au HX9.o (hR.buts (S:=fun b=>b=g4) (fun m b _ hm _=>hm.2)) (fun b hb=>DB))
      clear hR hG hb50 hab50
      go_wp2
      refine bodyPost_ret (Bv results31 rfl (Eq HB50.o AS AH)) rfl ?_
      have HEND:=Hd (show Gq a b=AX rm by unfold Gq;rw [←HAC.o,←HBC.o,HEM.o])
      rw [HEND.o]
      refine ⟨A7,c7,D7,e7,rfl,HAB50.o.mono fun b _ hb => ?_,HX10.o⟩
      rcases hb with hb|hb
      · rw [HTA.o] at hb;exact .inl hb.1
      · right;have:=HGG.o;omega

def HdA(v:Val):Value:=.agg #[.I v.kind,.string v.s,.I v.dn,.I v.ds,.I v.n,.slice none 0 0,.slice none 0 0]
def G0A(w:World)(o:Option Val)(e:Ending)(w':World):Prop:=e=.returned (.tuple #[HdA (o.getD Val.zero),.bool o.isSome])∧Ext w w'
def Do(c:Abs):Option Val :=
 if c.errs=true then none
 else if c.kinds=2 then (if c.tx.least=c.tx.b.size∧c.tx.most=c.tx.b.size then some ⟨1,c.tx.b,0,0,0,[],[]⟩ else none)
 else if c.kinds=4 then (if c.nu.ln=c.nu.hn∧c.nu.ls=c.nu.hs then some ⟨2,⟨#[]⟩,c.nu.ln,c.nu.ls,0,[],[]⟩ else none)
 else if c.kinds=8 then (if c.dl=c.dh then some ⟨3,⟨#[]⟩,0,0,c.dl,[],[]⟩ else none)
 else if c.kinds=16 then (if c.bo≠3 then some ⟨4,⟨#[]⟩,0,0,c.bo-1,[],[]⟩ else none)
 else none
theorem DGA(a:Abs):Cp a=Do (AX a):=rfl
theorem GRA{a:Abs}(h:(AX a).kinds=16):1≤(AX a).bo∧(AX a).bo≤3:=by
 have:=D3A (FSA a) (by rw [h];decide);omega
theorem EJ(h:qP:=by
 iterate 7 with_reducible refine Ext.set2 ?_ HG2L.o _
 with_reducible exact HX2.o):qP:=h
theorem SV(h:qP:=by
 go_wp2_with fail
 refine bodyPost_ret (v:=.tuple #[.agg Vz,.bool false]) (by simp [results,results14,go_sem,v0,v1,v2,v3,v4,v5,v6]) rfl ⟨?_,?_⟩
 ·rw [HF.o];rfl
 ·exact EJ):qP:=h
theorem I4(h:qP:=by
 rintro ee wz ⟨rfl,rfl⟩;exact SV):qP:=h
theorem QT(h:qP:=by
 clear ha
 go_wp2_with fail
 refine (HT1.o _).mono ?_;exact I4):qP:=h
theorem TU(h:qP:=by
 clear ha
 go_wp2_with fail
 refine (HT1.o _).mono ?_;rintro ee wz ⟨rfl,rfl⟩
 go_wp2_with fail
 refine (HT2.o _).mono ?_;exact I4):qP:=h
theorem EP(h:qP:=by simp [results,results14,go_sem,v0,v1,v2,v3,v4,v5,v6]):qP:=h
theorem JS(a:Abs)(A D:OA)(c e:Nat)(w:World)(S:NP)(hA:Strs w S A a.cols)(hD:RDeps w S D a.deps)(ht:Tens w)(hz:AbN 1000000 a) :
  Cl 14 #[(Aq a A c D e)] w (G0A w (Cp a)):=by
 obtain ⟨w0,hw0⟩:=eqx ((w.alloc (.cells (Ap a A c D e) 39)).alloc (.cells Vz 29));obtain ⟨g1,hg1⟩:=eqx w.heap.size;obtain ⟨g2,hg2⟩:=eqx (w.heap.size+1);have hx0:Ext w w0:=Bh;have hb1:Blk w0 g1 39 (Ap a A c D e):=Ic;have hb2:Blk w0 g2 29 Vz:=(by rw [hw0,hg2];exact H6A _ _ _ _);obtain ⟨HW0,HG1,HG2,HB1,HB2,HX0,HC⟩:=Hd7 hw0 hg1 hg2 hb1 hb2 hx0 (As a A D c e w0 S (hA.keep (hx0.kept _)) (hD.keep (hx0.kept _)) (ht.ext hx0) hz);obtain ⟨s,hs⟩:=eqx (AX a);obtain ⟨HSI,HBO,HG2L⟩:=Hd3 (show Cp a=Do s by rw [hs];exact DGA a) (show s.kinds=16→1≤s.bo∧s.bo≤3 from fun h=>by rw [hs] at h⊢;exact GRA h) (show w.heap.size≤g2 by omega);rw [←hs] at HC;clear hw0 hg1 hg2 hb1 hb2 hx0 hA hD ht hz hs
 go_enter func14,ntmps14
 go_upto_region 1 with fail
 rw [←HW0.o,←HG2.o,←HG1.o];refine wp_region_lit ?_;refine AJ rfl 39 _ rfl g1 rfl HB1.o AS AH ?_
 go_wp2_with fail
 refine HC.o.mono ?_;rintro e1 w1 ⟨A',c',D',e',rfl,-,hx1⟩;have HX1:=Hd (HX0.o.trans hx1);have HB21:=Hd (HB2.o.keep (hx1.kept _));clear hx1;rename_i K1 hK1 K2 hK2;refine hK2 _ _ ?_;refine Ag rfl rfl ?_;obtain ⟨g3,hg3⟩:=eqx w1.heap.size;rw [←hg3];refine AM rfl 39 _ _ rfl g3 (Ap s A' c' D' e') rfl rfl 39 _ (GK hg3) AH rfl AD ?_;intro w2 hb3 ho2;have hx2:Ext w1 w2:=(exaa w1).only ho2 GI;have HX2:=Hd (HX1.o.trans hx2);have hb2:=HB21.o.keep (hx2.kept _);obtain ⟨q0,q1,q2⟩:=hb3.qs3;have q4:=hb3.q4;have q6:=hb3.q6;have q7:=hb3.q7;have q8:=hb3.q8;have q9:=hb3.q9;have q10:=hb3.q10;have q11:=hb3.q11;have q12:=hb3.q12;have q17:w2.cell? ⟨g3,17,none⟩=some (.bool s.errs):=hb3.q17;obtain ⟨v0,v1,v2,v3,v4,v5,v6⟩:=hb2.qs7;have vf:=hb2.frozen;have vl:=hb2.lt;obtain ⟨HT1,HT2,HT3,HT4⟩:=Hd4 (show ∀ w',Cl 48 #[.I 1] w' (Bk w' 2) from fun w'=>At 1 AA w') (show ∀ w',Cl 48 #[.I 2] w' (Bk w' 4) from fun w'=>At 2 AA w') (show ∀ w',Cl 48 #[.I 3] w' (Bk w' 8) from fun w'=>At 3 AA w') (show ∀ w',Cl 48 #[.I 4] w' (Bk w' 16) from fun w'=>At 4 AA w');refine hK1 _ _ ?_;clear hK1 hK2 hb3 hb2 ho2 hx2 hg3;cases he:s.errs
 case true =>
  have HF:=Hd (show Cp a=none by rw [HSI.o];unfold Do;simp [he]);exact SV
 by_cases h2:s.kinds=2
 case pos =>
  by_cases ha:s.tx.least=s.tx.b.size∧s.tx.most=s.tx.b.size
  case pos =>
   obtain ⟨ha1,ha2⟩:=ha;have HF:=Hd (show Cp a=some ⟨1,s.tx.b,0,0,0,[],[]⟩ by rw [HSI.o];unfold Do;simp [he,h2,ha1,ha2])
   go_wp2_with fail
   refine (HT1.o _).mono ?_;rintro ee wz ⟨rfl,rfl⟩
   go_wp2_with fail
   refine bodyPost_ret (v:=.tuple #[.agg #[.I 1,.string s.tx.b,.I 0,.I 0,.I 0,.slice none 0 0,.slice none 0 0],.bool true]) EP rfl ⟨?_,?_⟩
   ·rw [HF.o];rfl
   ·exact EJ
  case neg =>
   have HF:=Hd (show Cp a=none by rw [HSI.o];unfold Do;rw [if_neg De,if_pos h2,if_neg ha]);by_cases ha1:s.tx.least=s.tx.b.size
   ·have ha2:¬s.tx.most=s.tx.b.size:=fun h=>ha ⟨ha1,h⟩;exact QT
   ·exact QT
 by_cases h4:s.kinds=4
 case pos =>
  by_cases ha:s.nu.ln=s.nu.hn∧s.nu.ls=s.nu.hs
  case pos =>
   obtain ⟨ha1,ha2⟩:=ha;have HF:=Hd (show Cp a=some ⟨2,⟨#[]⟩,s.nu.hn,s.nu.hs,0,[],[]⟩ by rw [HSI.o];unfold Do;simp [he,h4,ha1,ha2])
   go_wp2_with fail
   refine (HT1.o _).mono ?_;rintro ee wz ⟨rfl,rfl⟩
   go_wp2_with fail
   refine (HT2.o _).mono ?_;rintro ee wz ⟨rfl,rfl⟩
   go_wp2_with fail
   refine bodyPost_ret (v:=.tuple #[.agg #[.I 2,.string ⟨#[]⟩,.I s.nu.hn,.I s.nu.hs,.I 0,.slice none 0 0,.slice none 0 0],.bool true]) EP rfl ⟨?_,?_⟩
   ·rw [HF.o];rfl
   ·exact EJ
  case neg =>
   have HF:=Hd (show Cp a=none by rw [HSI.o];unfold Do;rw [if_neg De,if_neg h2,if_pos h4,if_neg ha]);by_cases ha1:s.nu.ln=s.nu.hn
   ·have ha2:¬s.nu.ls=s.nu.hs:=fun h=>ha ⟨ha1,h⟩;exact TU
   ·exact TU
 by_cases h8:s.kinds=8
 case pos =>
  by_cases ha:s.dl=s.dh
  case pos =>
   have HF:=Hd (show Cp a=some ⟨3,⟨#[]⟩,0,0,s.dh,[],[]⟩ by rw [HSI.o];unfold Do;simp [he,h8,ha])
   go_wp2_with fail
   refine (HT1.o _).mono ?_;rintro ee wz ⟨rfl,rfl⟩
   go_wp2_with fail
   refine (HT2.o _).mono ?_;rintro ee wz ⟨rfl,rfl⟩
   go_wp2_with fail
   refine (HT3.o _).mono ?_;rintro ee wz ⟨rfl,rfl⟩
   go_wp2_with fail
   refine bodyPost_ret (v:=.tuple #[.agg #[.I 3,.string ⟨#[]⟩,.I 0,.I 0,.I s.dh,.slice none 0 0,.slice none 0 0],.bool true]) EP rfl ⟨?_,?_⟩
   ·rw [HF.o];rfl
   ·exact EJ
  case neg =>
   have HF:=Hd (show Cp a=none by rw [HSI.o];unfold Do;simp [he,h8,ha])
   go_wp2_with fail
   refine (HT1.o _).mono ?_;rintro ee wz ⟨rfl,rfl⟩
   go_wp2_with fail
   refine (HT2.o _).mono ?_;rintro ee wz ⟨rfl,rfl⟩
   go_wp2_with fail
   refine (HT3.o _).mono ?_;exact I4
 by_cases h16:s.kinds=16
 case pos =>
  have hbo:=HBO.o h16;by_cases ha:s.bo=3
  case pos =>
   have HF:=Hd (show Cp a=none by rw [HSI.o];unfold Do;simp [he,h16,ha])
   go_wp2_with fail
   refine (HT1.o _).mono ?_;rintro ee wz ⟨rfl,rfl⟩
   go_wp2_with fail
   refine (HT2.o _).mono ?_;rintro ee wz ⟨rfl,rfl⟩
   go_wp2_with fail
   refine (HT3.o _).mono ?_;rintro ee wz ⟨rfl,rfl⟩
   go_wp2_with fail
   refine (HT4.o _).mono ?_;exact I4
  case neg =>
   have hb12:s.bo=1∨s.bo=2:=AA;clear hbo
   rcases hb12 with hb|hb
   ·have hwr:IntKind.i64.wrap 1=1:=rfl;have HF:=Hd (show Cp a=some ⟨4,⟨#[]⟩,0,0,0,[],[]⟩ by rw [HSI.o];unfold Do;simp [he,h16,hb])
    go_wp2_with fail
    refine (HT1.o _).mono ?_;rintro ee wz ⟨rfl,rfl⟩
    go_wp2_with fail
    refine (HT2.o _).mono ?_;rintro ee wz ⟨rfl,rfl⟩
    go_wp2_with fail
    refine (HT3.o _).mono ?_;rintro ee wz ⟨rfl,rfl⟩
    go_wp2_with fail
    refine (HT4.o _).mono ?_;rintro ee wz ⟨rfl,rfl⟩
    go_wp2_with fail
    refine bodyPost_ret (v:=.tuple #[.agg #[.I 4,.string ⟨#[]⟩,.I 0,.I 0,.I 0,.slice none 0 0,.slice none 0 0],.bool true]) EP rfl ⟨?_,?_⟩
    ·rw [HF.o];rfl
    ·exact EJ
   ·have hwr:IntKind.i64.wrap 2=2:=rfl;have HF:=Hd (show Cp a=some ⟨4,⟨#[]⟩,0,0,1,[],[]⟩ by rw [HSI.o];unfold Do;simp [he,h16,hb])
    go_wp2_with fail
    refine (HT1.o _).mono ?_;rintro ee wz ⟨rfl,rfl⟩
    go_wp2_with fail
    refine (HT2.o _).mono ?_;rintro ee wz ⟨rfl,rfl⟩
    go_wp2_with fail
    refine (HT3.o _).mono ?_;rintro ee wz ⟨rfl,rfl⟩
    go_wp2_with fail
    refine (HT4.o _).mono ?_;rintro ee wz ⟨rfl,rfl⟩
    go_wp2_with fail
    refine bodyPost_ret (v:=.tuple #[.agg #[.I 4,.string ⟨#[]⟩,.I 0,.I 0,.I 1,.slice none 0 0,.slice none 0 0],.bool true]) EP rfl ⟨?_,?_⟩
    ·rw [HF.o];rfl
    ·exact EJ
 have HF:=Hd (show Cp a=none by rw [HSI.o];unfold Do;rw [if_neg De,if_neg h2,if_neg h4,if_neg h8,if_neg h16])
 go_wp2_with fail
 refine (HT1.o _).mono ?_;rintro ee wz ⟨rfl,rfl⟩
 go_wp2_with fail
 refine (HT2.o _).mono ?_;rintro ee wz ⟨rfl,rfl⟩
 go_wp2_with fail
 refine (HT3.o _).mono ?_;rintro ee wz ⟨rfl,rfl⟩
 go_wp2_with fail
 refine (HT4.o _).mono ?_;rintro ee wz ⟨rfl,rfl⟩
 go_wp2_with fail
 refine bodyPost_ret (v:=.tuple #[.agg Vz,.bool false]) EP rfl ⟨?_,?_⟩
 ·rw [HF.o];rfl
 ·exact EJ

theorem Gr(h:qP:=by rw [hw0,hg2];exact (Blk.new _ _ _).keep ((exaa _).kept _)):qP:=h
theorem I9(q:Nat)(a:Abs)(x:Val)(A D B C:OA)(c e cb cc:Nat)(w:World)(S T:NP)(hA:Strs w S A a.cols)(hD:RDeps w S D a.deps)(hx:RV w T q x B C) :
  Cl 54 #[(Aq a A c D e),(Vq x B cb C cc)] w (Ae w (ED a x)):=by
 obtain ⟨w0,hw0⟩:=eqx ((w.alloc (.cells (Ap a A c D e) 39)).alloc (.cells (Vp x B cb C cc) 29));obtain ⟨g2,hg2⟩:=eqx w.heap.size;obtain ⟨g3,hg3⟩:=eqx (w.heap.size+1);have hx0:Ext w w0:=Bh;have hb2:Blk w0 g2 39 (Ap a A c D e):=Gr;have hb3:Blk w0 g3 29 (Vp x B cb C cc):=(by rw [hw0,hg3];exact H6A _ _ _ _);have q13:=hb2.q13;have q14:=hb2.q14;have q15:w0.cell? ⟨g2,15,none⟩=some (.slice A a.cols.length c):=hb2.q15;have q16:w0.cell? ⟨g2,16,none⟩=some (.slice D a.deps.length e):=hb2.q16;have p5:=hb3.q5;have p6:w0.cell? ⟨g3,6,none⟩=some (.slice C x.rows.length cc):=hb3.q6;obtain ⟨HW0,HG2,HG3,HX0,HA,HD,HV,HP5⟩:=Hd8 hw0 hg2 hg3 hx0 (hA.keep (hx0.kept _)) (hD.keep (hx0.kept _)) (hx.keep (hx0.kept _)) p5;have HP6:=Hd p6;have hal:=hA.2.1;have hdl:=hD.1;obtain ⟨nr,hnr⟩:=eqx x.rows.length;have HT:=Hd (show ED a x=(decide (a.rl≤(nr:Int))&&decide ((nr:Int)≤a.rh)&&a.cols.all (Aw x.cols)&&a.deps.all fun d=>BH x.cols x.rows d.frm d.tov) by rw [hnr];rfl);have HNR:=Hd hnr;rw [←hnr] at p6;clear hw0 hg2 hg3 hx0 hb2 hb3 hA hD hx hnr
 go_enter func54,ntmps54
 go_upto_region 1 with fail
 rw [←HW0.o,←HG3.o,←HG2.o];by_cases h1:a.rl≤(nr:Int)
 case neg =>
  have h1':(nr:Int)<a.rl:=AA;have HF:=Hd (show ED a x=false by rw [HT.o,decide_eq_false h1];rfl);go_wp2;exact Gi
 have h1':¬(nr:Int)<a.rl:=AA;by_cases h2:(nr:Int)≤a.rh
 case neg =>
  have h2':a.rh<(nr:Int):=AA;have HF:=Hd (show ED a x=false by rw [HT.o,decide_eq_false h2,Bool.and_false];rfl);go_wp2;exact Gi
 have h2':¬a.rh<(nr:Int):=AA;have HT2:=Hd (show ED a x=(a.cols.all (Aw x.cols)&&a.deps.all fun d=>BH x.cols x.rows d.frm d.tov) by rw [HT.o,decide_eq_true h1,decide_eq_true h2];rfl);clear h1 h2;go_wp2
 go_loop [28] (fun i=>∃ k:Nat,k≤a.cols.length∧i=.I k∧∀ j (h:j<a.cols.length),j<k→Aw x.cols a.cols[j]=true) (fun i=>a.cols.length-(intOf i).toNat)
 case atStart=>exact ⟨0,AN,rfl,AK⟩
 case round =>
  obtain ⟨k,hk,rfl,hall⟩:=hrel;have HAL:=Hd hall;clear hall;by_cases hlt:k<a.cols.length
  ·obtain ⟨b1,o1,rfl,z1,c1⟩:=HA.o.at_ hlt;have HC:=Hd (fun w' (hw':Ext w0 w')=>Ai B cb x.cols a.cols[k] w' T (HV.o.strs.keep (hw'.kept _)));cases hm:Aw x.cols a.cols[k]
   ·rw [hm] at HC;have HF:=Hd (show ED a x=false by rw [HT2.o,CX a.cols (Aw x.cols) k hlt hm];rfl);clear hm
    go_wp2_with fail
    refine (HC.o _ (Ext.refl _)).mono ?_;rintro ee w' ⟨rfl,rfl⟩
    go_wp2_with fail
    exact Gi
   ·rw [hm] at HC;have HM:=Hd hm;clear hm
    go_wp2_with fail
    refine (HC.o _ (Ext.refl _)).mono ?_;rintro ee w' ⟨rfl,rfl⟩
    go_wp2_with fail
    go_round
    case rel =>
     refine ⟨k+1,AA,AE,fun j h hj => ?_⟩;by_cases hjk:j=k
     ·subst hjk;exact HM.o
     ·exact HAL.o j h AA
    case measure=>simp [intOf];omega
  ·have HT3:=Hd (show ED a x=(a.deps.all fun d=>BH x.cols x.rows d.frm d.tov) by rw [HT2.o,CH a.cols (Aw x.cols) (fun j h=>HAL.o j h AA),Bool.true_and]);go_wp2
   go_loopw [41] (fun i wr=>∃ k:Nat,k≤a.deps.length∧i=.I k∧Ext w0 wr∧∀ j (h:j<a.deps.length),j<k→(fun d:Dep=>BH x.cols x.rows d.frm d.tov) a.deps[j]=true) (fun i _=>a.deps.length-(intOf i).toNat)
   case atStart=>exact ⟨0,AN,rfl,Ext.refl _,AK⟩
   case round =>
    clear p5 p6 q13 q14 q15 q16;obtain ⟨m,hm,rfl,hext,hall⟩:=hrel;have HE:=Hd hext;have HDL:=Hd hall;clear hall;by_cases hlm:m<a.deps.length
    ·obtain ⟨b1,o1,B1,e1,he,z1,c1,c2,f1,f2,f3⟩:=(HD.o.keep (hext.kept _)).at_ hlm;subst he;obtain ⟨d,hd⟩:=eqx (a.deps[m]);rw [←hd] at c1 c2 f1 f2 f3;have p5:=hext.cell HP5.o;have p6:=hext.cell HP6.o;obtain ⟨wv,hwv⟩:=eqx (wr.alloc (.cells #[.slice B1 d.frm.length e1,.string d.tov] 69));have hxv:Ext wr wv:=(by rw [hwv];exact (Ext.refl wr).alloc _);have hbv:Blk wv wr.heap.size 69 #[.slice B1 d.frm.length e1,.string d.tov]:=(by rw [hwv];exact Blk.new _ _ _);obtain ⟨r0,r1⟩:=hbv.qs2;have p5':=hxv.cell p5;have p6':=hxv.cell p6;have hxx:=hext.trans hxv;obtain ⟨HH,HWV,HXV,HXW,HDM⟩:=Hd5 (Xp q x.cols x.rows d.frm d.tov B C B1 cb cc e1 wv T T S (HV.o.strs.keep (hxx.kept _)) (HV.o.rows_.keep (hxx.kept _)) (f3.keep (hxv.kept _))) hwv (HX0.o.trans hxx) hxx hd;clear hwv hxv hbv hxx f1 f2 f3 hd hext
     go_upto_region 12 with fail
     rw [←HWV.o];clear p5 p6 c1 c2;cases hh:BH x.cols x.rows d.frm d.tov
     ·rw [hh] at HH;have HF:=Hd (show ED a x=false by rw [HT3.o];exact CX a.deps (fun d=>BH x.cols x.rows d.frm d.tov) m hlm (by rw [←HDM.o];exact hh));clear hh
      go_wp2_with fail
      refine HH.o.mono ?_;rintro ee w' ⟨rfl,hx'⟩;have HXL:=Hd (HXV.o.trans hx');clear hx'
      go_wp2_with fail
      go_ret;exact ⟨BB,HXL.o⟩
     ·rw [hh] at HH;have HM:=Hd hh;clear hh
      go_wp2_with fail
      refine HH.o.mono ?_;rintro ee w' ⟨rfl,hx'⟩;have HXL:=Hd (HXW.o.trans hx');clear hx'
      go_wp2_with fail
      go_roundw
      case rel =>
       refine ⟨m+1,AA,AE,HXL.o,fun j h hj => ?_⟩;by_cases hjk:j=m
       ·subst hjk;have:=HM.o;rw [HDM.o] at this;exact this
       ·exact HDL.o j h AA
      case measure=>simp [intOf];omega
    ·have HF:=Hd (show ED a x=true by rw [HT3.o];exact CH a.deps (fun d=>BH x.cols x.rows d.frm d.tov) (fun j h=>HDL.o j h AA));clear hext;go_wp2;go_ret;exact ⟨BB,HX0.o.trans HE.o⟩

theorem GOA{v:Val}(hr:BC v=true)(hk:v.kind=4):v.n=0∨v.n=1:=Gx hr hk
theorem KX(h:qP:=by
 go_wp2_with fail
 exact Uj):qP:=h
theorem QR(h:qP:=by
 go_wp2_with fail
 refine HC.o.mono ?_;rintro e2 w2 ⟨rfl,hx2⟩;have HX2:=Hd (HXF.o.trans hx2);clear hx2;exact LS):qP:=h
theorem QE(h:qP:=by
 clear hk1 hk2;exact QR):qP:=h
theorem RZ(h:qP:=by
 go_upto_region 15 with fail
 refine Qa (fun _ _=>False) [] ?_
 iterate 8 refine Qp ?_
 intro vals γ w9 hR hG;refine Qx ?_;have HXM:=Hd (show Ext wx w9 from hR.ext0 (fun _ _ _ h=>h.elim));clear hR hG;have HXG:=Hd (HXF.o.trans HXM.o)
 go_wp2_with fail
 go_ret;exact ⟨by rw [HF.o,←HBZ.o];rfl,HXG.o⟩):qP:=h
theorem BX(q:Nat)(a:Abs)(x:Val)(A D B C:OA)(c e cb cc:Nat)(w:World)(S T:NP)(hA:Strs w S A a.cols)(hD:RDeps w S D a.deps)(hx:RV w T q x B C)(hcap:x.cols.length≤cb)(ht:Tens w)(hz:AbN 1000000 a) :
  Cl 17 #[(Aq a A c D e),(Vq x B cb C cc)] w (Ae w (AW a x)):=by
 obtain ⟨hz1,hz2,-⟩:=hz;obtain ⟨w0,hw0⟩:=eqx ((w.alloc (.cells (Ap a A c D e) 39)).alloc (.cells (Vp x B cb C cc) 29));obtain ⟨g2,hg2⟩:=eqx w.heap.size;obtain ⟨g3,hg3⟩:=eqx (w.heap.size+1);have hx0:Ext w w0:=Bh;have hb2:Blk w0 g2 39 (Ap a A c D e):=Gr;have hb3:Blk w0 g3 29 (Vp x B cb C cc):=(by rw [hw0,hg3];exact H6A _ _ _ _);obtain ⟨p0,p1,p2,p3,p4,p5,p6⟩:=hb3.qs7;obtain ⟨HB2,HB3,HW0,HG2,HG3,HX0,HA,HD⟩:=Hd8 hb2 hb3 hw0 hg2 hg3 hx0 (hA.keep (hx0.kept _)) (hD.keep (hx0.kept _));have HV:=Hd (hx.keep (hx0.kept _));have HT:=Hd (ht.ext hx0);have hss:=hx.size;have HRT:=Hd (Nx q x B C cb cc w0 T (hx.keep (hx0.kept _)) hcap);clear hw0 hg2 hg3 hx0 hb2 hb3 hA hD hx ht hcap
 go_enter func17,ntmps17
 go_upto_region 1 with fail
 rw [←HW0.o,←HG3.o,←HG2.o]
 go_wp2_with fail
 cases hr:BC x
 ·have HF:=Hd (show AW a x=false by unfold AW;rw [hr];rfl);rw [hr] at HRT;clear hr;refine HRT.o.mono ?_;rintro e1 w1 ⟨rfl,hx1⟩;have HX1:=Hd (HX0.o.trans hx1);clear hx1 p0 p1 p2 p3 p4 p5 p6;exact KX
 have HR:=Hd hr;rw [hr] at HRT;clear hr;refine HRT.o.mono ?_;rintro e1 w1 ⟨rfl,hx1⟩;have HX1:=Hd (HX0.o.trans hx1);have HXA:=Hd hx1;clear hx1 p0 p1 p2 p3 p4 p5 p6;have HB21:=Hd (HB2.o.keep (HXA.o.kept _));have HB31:=Hd (HB3.o.keep (HXA.o.kept _));have p0:=HB31.o.q0;by_cases hk0:x.kind=0
 ·have q17:w1.cell? ⟨g2,17,none⟩=some (.bool a.errs):=HB21.o.q17;have hkk:(x.kind==0)=true:=(by rw [hk0];rfl);have HF:=Hd (show AW a x=a.errs by unfold AW;rw [HR.o,if_pos hk0];rfl);exact KX
 have hkz:(x.kind==0)=false:=(by simpa using hk0);obtain ⟨k,hk⟩:∃ k:Nat,x.kind=(k:Int):=⟨x.kind.toNat,by rcases Dh HR.o with h|h|h|h|h|h<;>rw [h]<;>rfl⟩;have hk5:1≤k∧k≤5:=(by rcases Dh HR.o with h|h|h|h|h|h<;>omega);obtain ⟨p2,hp2⟩:=eqx ((2^k:Nat):Int);have HBI:=Hd (show ∀ w',Cl 48 #[.I x.kind] w' (Bk w' p2) from fun w'=>by rw [hp2,hk];exact At k AA w');have hand:=Mp a.kinds k AA;rw [←hp2] at hand;obtain ⟨y,hy⟩:=eqx (bits .and .i64 a.kinds p2);rw [←hy] at hand;obtain ⟨HAND,HK,HK5⟩:=Hd3 hand hk hk5;have hbx:bits .and .i64 a.kinds p2=y:=hy.symm;obtain ⟨HPA,k0,l0⟩:=Hd3 (show AW a x=Ha a x by unfold AW;rw [HR.o,if_neg hk0];rfl) (HB21.o.q0) (HB31.o.q0);clear hand hp2 hy hk hk5;by_cases hyz:y=0
 ·have HX0:=Hd (show (y==0)=true by rw [hyz];rfl);have HF:=Hd (show AW a x=false by
   have hb:bt a.kinds k=false:=(by rw [←HAND.o,hyz];rfl);have hkk:=HK.o;have hh:=HK5.o;rw [HPA.o];unfold Ha
   rcases (show k=1∨k=2∨k=3∨k=4∨k=5 by omega) with h | h | h | h | h<;>subst h<;>simp [hkk,hb])
  clear hyz
  go_upto_region 5 with fail
  refine Qa (fun _ _=>False) [] ?_
  iterate 4 refine Qp ?_
  refine Qc (fun w'=>HBI.o w') ?_;refine Qp ?_;refine Qm (fun vals γ w' ρ hR hN hp hρ zs zg=>by
   exact IN) ?_
  intro vals γ w9 hR hG;refine Qx ?_;have HXN:=Hd (show Ext w1 w9 from hR.ext0 (fun _ _ _ h=>h.elim));clear hR hG;have HXF:=Hd (HX1.o.trans HXN.o)
  go_wp2_with fail
  go_ret;exact ⟨BB,HXF.o⟩
 have HX0':=HX0;have HB:=Hd (show bt a.kinds k=true by rw [←HAND.o];simpa using hyz);clear HX0;have HX0:=Hd (show (y==0)=false by simpa using hyz);clear hyz
 go_upto_region 5 with fail
 refine Qa (fun _ _=>False) [] ?_
 iterate 4 refine Qp ?_
 refine Qc (fun w'=>HBI.o w') ?_;refine Qp ?_;refine Qm (fun vals γ w' ρ hR hN hp hρ zs zg=>by
  exact IN) ?_
 intro vals γ w9 hR hG;refine Qx ?_;have HXN:=Hd (show Ext w1 w9 from hR.ext0 (fun _ _ _ h=>h.elim));clear hR hG;obtain ⟨wx,hwx⟩:=eqx w9;rw [←hwx];have HXW:=Hd (show Ext w0 wx by rw [hwx];exact HXA.o.trans HXN.o);obtain ⟨HXF,HB2X,HB3X⟩:=Hd3 (HX0'.out.trans HXW.o) (HB2.o.keep (HXW.o.kept _)) (HB3.o.keep (HXW.o.kept _));clear hwx p0 hbx;have p0:=HB3X.o.q0;have hk1:=HK.o;have hk2:=HK5.o
 rcases (show k=1∨k=2∨k=3∨k=4∨k=5 by omega) with h|h|h|h|h
 ·subst h;have hke:x.kind=1:=hk1;have HF:=Hd (show AW a x=Aj a.tx x.s by rw [HPA.o];unfold Ha;rw [if_pos hke,HB.o];rfl);have HC:=Hd (U0 a.tx x.s AA AA hss wx);have q1:=HB2X.o.q1;have q2:=HB2X.o.q2;have q3:=HB2X.o.q3;have q4:=HB2X.o.q4;have q5:=HB2X.o.q5;have p1:=HB3X.o.q1;exact QE
 ·subst h;have hke:x.kind=2:=hk1;have HF:=Hd (show AW a x=BD a.nu x.dn x.ds by rw [HPA.o];unfold Ha;rw [if_neg AA,if_pos hke,HB.o];rfl);have HC:=Hd (M4 a.nu x.dn x.ds wx (HT.o.ext HXW.o));have q6:=HB2X.o.q6;have q7:=HB2X.o.q7;have q8:=HB2X.o.q8;have q9:=HB2X.o.q9;have p2:=HB3X.o.q2;have p3:=HB3X.o.q3;exact QE
 ·subst h;have hke:x.kind=3:=hk1;have HF:=Hd (show AW a x=(decide (a.dl≤x.n)&&decide (x.n≤a.dh)) by rw [HPA.o];unfold Ha;rw [if_neg AA,if_neg AA,if_pos hke,HB.o];simp);have q10:=HB2X.o.q10;have q11:=HB2X.o.q11;have p4:=HB3X.o.q4;clear hk1 hk2;by_cases hle:a.dl≤x.n
  ·have HF2:=Hd (show AW a x=decide (x.n≤a.dh) by rw [HF.o,decide_eq_true hle,Bool.true_and])
   go_wp2_with fail
   go_ret;exact ⟨by rw [HF2.o];rfl,HXF.o⟩
  ·have hlt:¬a.dl≤x.n:=hle;have HF2:=Hd (show AW a x=false by rw [HF.o,decide_eq_false hlt,Bool.false_and]);clear hlt
   go_wp2_with fail
   go_ret;exact ⟨by rw [HF2.o];first|rfl|(simp;omega),HXF.o⟩
 ·subst h;have hke:x.kind=4:=hk1;have HF:=Hd (show AW a x=bt a.bo x.n.toNat by rw [HPA.o];unfold Ha;rw [if_neg AA,if_neg AA,if_neg AA,if_pos hke,HB.o];rfl);have hbn:=GOA HR.o hk1;have k12:=Hd (HB2X.o.q12);have l4:=Hd (HB3X.o.q4);obtain ⟨z,hzz⟩:=eqx (bits .and .i64 a.bo (if x.n=0 then 1 else 2));have hbz:(z != 0)=bt a.bo x.n.toNat:=by
   rw [hzz]
   rcases hbn with h|h
   ·rw [h,if_pos rfl];exact Mp a.bo 0 AA
   ·rw [h,if_neg AB];exact Mp a.bo 1 AA
  have HBZ:=Hd hbz;have hand:bits .and .i64 a.bo (if x.n=0 then 1 else 2)=z:=hzz.symm;clear hzz hbz
  rcases hbn with h0|h0
  ·rw [if_pos h0] at hand;have hw1:IntKind.i64.wrap 1=1:=rfl;exact RZ
  ·rw [if_neg AA] at hand;have hw1:IntKind.i64.wrap 2=2:=rfl;exact RZ
 ·subst h;have hke:x.kind=5:=hk1;have HF:=Hd (show AW a x=ED a x by rw [HPA.o];unfold Ha;rw [if_neg AA,if_neg AA,if_neg AA,if_neg AA,HB.o];rfl);have HC:=Hd (I9 q a x A D B C c e cb cc wx _ _ (HA.o.keep (HXW.o.kept _)) (HD.o.keep (HXW.o.kept _)) (HV.o.keep (HXW.o.kept _)));clear hk1 hk2
  go_upto_region 16 with fail
  clear hke p0;obtain ⟨p0,p1,p2,p3,p4,p5,p6⟩:=HB3X.o.qs7;refine wp_region_lit ?_;refine AJ rfl 39 _ rfl g2 rfl HB2X.o AS AH ?_;exact QR
end Go.Proofs.YtidacnalcdhckaaGreatDoor
