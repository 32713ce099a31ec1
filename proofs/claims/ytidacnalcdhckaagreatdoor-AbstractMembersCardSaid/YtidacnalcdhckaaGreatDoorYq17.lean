/- Lemmas. No conditions. -/
import Derived.Test.YtidacnalcdhckaaGreatDoorYq16
import Derived.Sort.OwnSorted
import Derived.Shelf.SortM.Plain
import Derived.Shelf.SortM.SortNone
set_option maxRecDepth 100000
set_option maxHeartbeats 4000000
namespace Go.Proofs.YtidacnalcdhckaaGreatDoor
open Go Go.RowKit Tryz
variable {qP:Prop}{A:OA}{X:NP}{base c:Nat}{l:List Dep}{w:World}

theorem EqA(a b:BA):a.extract 0 (Mi a b false)=bA (ES a.data.toList b.data.toList):=by
 rw [F8];unfold Mi;rw [if_neg AC,<-List.prefix_iff_eq_take.1 (FK _ _)]
theorem AHA(a b:BA):Mi a b false<=a.size:=by
 unfold Mi;rw [if_neg AC];exact (FK _ _).length_le
theorem EoA(a b:BA):a.extract (a.size-Mi a b true) a.size=bA (Hv a.data.toList b.data.toList):=by
 rw [Et];unfold Mi;rw [if_pos rfl];congr 1;exact (List.suffix_iff_eq_drop.1 (J8 _ _)).symm
theorem AaA(a b:BA):Mi a b true<=a.size:=by
 unfold Mi;rw [if_pos rfl];exact (J8 _ _).length_le
theorem JI(h:qP:=by
 iterate 5 with_reducible refine Ext.set2 ?_ HG4.o _
 with_reducible exact HX3.o):qP:=h
theorem Ij(h:qP:=by simp [results,results81,go_sem,r0,r1,r2,r3,r4]):qP:=h
theorem SD(a b:Sh)(h1:a.b.size<=1000000000)(h2:a.e.size<=1000000000)(h3:b.b.size<=1000000000)(h4:b.e.size<=1000000000)(w:World):Cl 81 #[(Sq a),(Sq b)] w (G0 w (BW a b)):=by
 obtain ⟨w0,hw0⟩:=eqx (((w.alloc (.cells (Sp a) 32)).alloc (.cells (Sp b) 32)).alloc (.cells #[.I 0,.I 0,.I 0,.string ⟨#[]⟩,.string ⟨#[]⟩] 32));have hx0:Ext w w0:=CC;have hb2:Blk w0 w.heap.size 32 (Sp a):=FH;have O:Blk w0 (w.heap.size+1) 32 (Sp b):=Fc;have hb4:Blk w0 (w.heap.size+2) 32 #[.I 0,.I 0,.I 0,.string ⟨#[]⟩,.string ⟨#[]⟩]:=GP;obtain ⟨g2,hg2⟩:=eqx w.heap.size;obtain ⟨g3,hg3⟩:=eqx (w.heap.size+1);obtain ⟨g4,hg4⟩:=eqx (w.heap.size+2);rw [<-hg2] at hb2;rw [<-hg3] at O;rw [<-hg4] at hb4;have HG4:=Hd (show w.heap.size<=g4 by omega);obtain ⟨la,hla⟩:=eqx (AQ a);obtain ⟨lb,hlb⟩:=eqx (AQ b);obtain ⟨ma,hma⟩:=eqx (BE a);obtain ⟨mb,hmb⟩:=eqx (BE b);obtain ⟨cc,hcc⟩:=eqx (bits .or .i64 (BL a) (BL b));obtain ⟨sp,hsp⟩:=eqx (bA (ES a.B b.B));obtain ⟨ss,hss⟩:=eqx (bA (Hv a.E b.E));obtain ⟨HLA,HLB,HMA,HMB⟩:=Hd4 (show ∀ w',Cl 151 #[(Sq a)] w' (DG w' la) from λw'=>by rw [hla];exact Df a w') (show ∀ w',Cl 151 #[(Sq b)] w' (DG w' lb) from λw'=>by rw [hlb];exact Df b w') (show ∀ w',Cl 152 #[(Sq a)] w' (DG w' ma) from λw'=>by rw [hma];exact Ed a w') (show ∀ w',Cl 152 #[(Sq b)] w' (DG w' mb) from λw'=>by rw [hmb];exact Ed b w');obtain ⟨oa,hoa⟩:=eqx (BL a);obtain ⟨ob,hob⟩:=eqx (BL b);obtain ⟨n1,hn1⟩:=eqx (Mi a.b b.b false);obtain ⟨n2,hn2⟩:=eqx (Mi a.e b.e true);obtain ⟨u2,hu2⟩:=eqx (a.e.size-n2);obtain ⟨HOA,HOB,HN1,HN2,HNO⟩:=Hd5 (show ∀ w',Cl 153 #[(Sq a)] w' (DG w' oa) from λw'=>by rw [hoa];exact FD a w') (show ∀ w',Cl 153 #[(Sq b)] w' (DG w' ob) from λw'=>by rw [hob];exact FD b w') (show ∀ w',Cl 154 #[.string a.b,.string b.b,.bool false] w' (DG w' (n1:Int)) from λw'=>by rw [hn1];exact NL a.b b.b false AA AA w') (show ∀ w',Cl 154 #[.string a.e,.string b.e,.bool true] w' (DG w' (n2:Int)) from λw'=>by rw [hn2];exact NL a.e b.e true AA AA w') (λw'=>Hf w');have hp0:n1<=a.b.size:=(by rw [hn1];exact AHA _ _);have hs0:n2<=a.e.size:=(by rw [hn2];exact AaA _ _);have hp1:(n1:Int)<=(a.b.size:Int):=AA;have hp2:(0:Int)<=(n1:Int):=AA;have hs1:(u2:Int)<=(a.e.size:Int):=AA;have hs2:(0:Int)<=(u2:Int):=AA;have hs3:IntKind.i64.wrap ((a.e.size:Int)-(n2:Int))=(u2:Int):=Ee;have hxp:a.b.extract 0 n1=sp:=(by rw [hn1,hsp];exact EqA a.b b.b);have hxs:a.e.extract u2 a.e.size=ss:=(by rw [hu2,hn2,hss];exact EoA a.e b.e);obtain ⟨HEA,HEB,HJ⟩:=Hd3 (λw'=>Bz a AA AA w') (λw'=>Bz b AA AA w') (show BW a b=if AT a=true then (if AT b=true then H3A else b) else if AT b=true then a else ⟨min la lb,max ma mb,cc,sp,ss⟩ from by rw [hla,hlb,hma,hmb,hcc,hsp,hss];rfl);have hor:bits .or .i64 oa ob=cc:=(by rw [hcc,hoa,hob]);generalize AT a=b1 at *;generalize AT b=b2 at *;obtain ⟨HX0,HW0,HE2,HE3,HE4,HB2_0,HB3_0,HB4_0⟩:=Hd8 hx0 hw0 hg2 hg3 hg4 hb2 O hb4;obtain ⟨q0,q1,q2,q3,q4⟩:=hb2.qs5;obtain ⟨q5,q6,q7,q8,q9⟩:=O.qs5;clear hx0 hw0 hb2 O hb4 hg2 hg3 hg4 hla hlb hma hmb hcc hsp hss hoa hob hn1 hn2 hu2 hp0 hs0
 go_enter func81,ntmps81
 go_upto_region 1 with fail
 rw [<-HW0.o,show w.heap.size+1+1=g4 from HE4.o.symm,<-HE3.o,<-HE2.o];cases b1
 ·go_wp2_with fail
  refine (HEA.o _).mono ?_;rintro e1 w1 ⟨rfl,hx⟩;have HX1:=Hd (HX0.o.trans hx);have hb2:=HB2_0.o.keep (hx.kept _);have O:=HB3_0.o.keep (hx.kept _);have hb4:=HB4_0.o.keep (hx.kept _);obtain ⟨b3,b0,a9⟩:=Hd3 hb2 O hb4;clear q0 q1 q2 q3 q4 q5 q6 q7 q8 q9;obtain ⟨q0,q1,q2,q3,q4⟩:=hb2.qs5;obtain ⟨q5,q6,q7,q8,q9⟩:=O.qs5;clear hx hb2 O hb4
  go_wp2_with fail
  refine (HEA.o _).mono ?_;rintro e2 w2 ⟨rfl,hx⟩;have HX2:=Hd (HX1.o.trans hx);have hb2:=b3.o.keep (hx.kept _);have O:=b0.o.keep (hx.kept _);have hb4:=a9.o.keep (hx.kept _);obtain ⟨Z,Y,HB4_2⟩:=Hd3 hb2 O hb4;clear q0 q1 q2 q3 q4 q5 q6 q7 q8 q9;obtain ⟨q0,q1,q2,q3,q4⟩:=hb2.qs5;obtain ⟨q5,q6,q7,q8,q9⟩:=O.qs5;clear hx hb2 O hb4
  go_wp2_with fail
  refine (HEB.o _).mono ?_;rintro e3 w3 ⟨rfl,hx⟩;have HX3:=Hd (HX2.o.trans hx);have hb2:=Z.o.keep (hx.kept _);have O:=Y.o.keep (hx.kept _);have hb4:=HB4_2.o.keep (hx.kept _);obtain ⟨HB2_3,HB3_3,U⟩:=Hd3 hb2 O hb4;clear q0 q1 q2 q3 q4 q5 q6 q7 q8 q9;obtain ⟨q0,q1,q2,q3,q4⟩:=hb2.qs5;obtain ⟨q5,q6,q7,q8,q9⟩:=O.qs5;clear hx hb2 O hb4;cases b2
  ·obtain ⟨k0,k1,k2,k3,k4,k5,k6,k7⟩:=Hd8 q0 q1 q2 q3 q4 q5 q6 q7;have k8:=Hd q8;have k9:=Hd q9;clear q0 q1 q2 q3 q4 q5 q6 q7 q8 q9
   go_upto_region 7 with fail
   refine Qa (λm b=>(m=1036/\b=g4)) (lk 37 [1036]) ?_;refine Qp ?_;refine Qc (λw'=>HLA.o w') ?_;refine Qp ?_;refine Qc (λw'=>HLB.o w') ?_
   iterate 2 refine Qp ?_
   refine Qc (λw'=>HMA.o w') ?_;refine Qp ?_;refine Qc (λw'=>HMB.o w') ?_
   iterate 2 refine Qp ?_
   refine Qc (λw'=>HOA.o w') ?_;refine Qp ?_;refine Qc (λw'=>HOB.o w') ?_
   iterate 7 refine Qp ?_
   refine Qc (λw'=>HN1.o w') ?_
   iterate 10 refine Qp ?_
   refine Qc (λw'=>HN2.o w') ?_
   iterate 3 refine Qp ?_
   refine Qs (λ_ γ w'=>Blk w' g4 32 #[.I (min la lb),.I (max ma mb),.I cc,.string sp,.string ss]/\γ 1036=true) ?_ ?_ ?_
   ·exact FE
   ·intro vals γ w' ρ hR hN hp hρ zs zg;have a8:=hN.o.key (k:=1036) AB;have hb0:=U.o.keep (hR.o.kept0 (S:=λb=>b=g4) λb _ e m hm=>by
     rw [hm.1];exact a8)
    have HB0:=Hd hb0;have HK:=Hd a8;obtain ⟨q0,q1,q2,q3,q4⟩:=hb0.qs5;have qf:=hb0.frozen;have ql:=hb0.lt;clear hb0 a8;refine Qr ?_;refine ⟨γ.put 1036,H2A HK.o rfl rfl rfl Y78171d3d0 (λb hb hm=>((((((Only.refl g4 w').set 0 (.I (min la lb))).set 1 (.I (max ma mb))).set 2 (.I cc)).set 3 (.string sp)).set 4 (.string ss)).block b λe=>hm (⟨rfl,e⟩)),LK.done AB,?_,AU⟩;exact Q6
   intro vals γ w9 hR hG;refine Qx ?_;obtain ⟨hb36,-⟩:=hG 36 AB;have HB36N:=Hd hb36;clear hb36;have HXN:=Hd (show Ext w w9 from Au HX3.o (hR.buts (S:=λb=>b=g4) (λm b _ hm _=>hm.2)) (λb hb=>by
    rw [hb];exact HG4.o))
   clear hR hG;obtain ⟨s0,s1,s2,s3,s4⟩:=HB36N.o.qs5;go_wp2;rw [HJ.o,if_neg AC,if_neg AC];exact bodyPost_ret (v:=.agg #[.I (min la lb),.I (max ma mb),.I cc,.string sp,.string ss]) (by simp [results,results81,go_sem,s0,s1,s2,s3,s4]) rfl ⟨rfl,HXN.o⟩
  ·obtain ⟨r0,r1,r2,r3,r4⟩:=U.o.qs5;have qf:=U.o.frozen;have ql:=U.o.lt
   go_wp2_with fail
   rw [HJ.o,if_neg AC,if_pos trivial];refine bodyPost_ret (v:=(Sq a)) Ij rfl ⟨rfl,?_⟩;exact JI
 ·go_wp2_with fail
  refine (HEA.o _).mono ?_;rintro e1 w1 ⟨rfl,hx⟩;have HX1:=Hd (HX0.o.trans hx);have hb2:=HB2_0.o.keep (hx.kept _);have O:=HB3_0.o.keep (hx.kept _);have hb4:=HB4_0.o.keep (hx.kept _);obtain ⟨b3,b0,a9⟩:=Hd3 hb2 O hb4;clear q0 q1 q2 q3 q4 q5 q6 q7 q8 q9;obtain ⟨q0,q1,q2,q3,q4⟩:=hb2.qs5;obtain ⟨q5,q6,q7,q8,q9⟩:=O.qs5;clear hx hb2 O hb4
  go_wp2_with fail
  refine (HEB.o _).mono ?_;rintro e2 w2 ⟨rfl,hx⟩;have HX2:=Hd (HX1.o.trans hx);have hb2:=b3.o.keep (hx.kept _);have O:=b0.o.keep (hx.kept _);have hb4:=a9.o.keep (hx.kept _);obtain ⟨Z,Y,HB4_2⟩:=Hd3 hb2 O hb4;clear q0 q1 q2 q3 q4 q5 q6 q7 q8 q9;obtain ⟨q0,q1,q2,q3,q4⟩:=hb2.qs5;obtain ⟨q5,q6,q7,q8,q9⟩:=O.qs5;clear hx hb2 O hb4;cases b2
  ·go_wp2_with fail
   refine (HEA.o _).mono ?_;rintro e3 w3 ⟨rfl,hx⟩;have HX3:=Hd (HX2.o.trans hx);have hb2:=Z.o.keep (hx.kept _);have O:=Y.o.keep (hx.kept _);have hb4:=HB4_2.o.keep (hx.kept _);obtain ⟨HB2_3,HB3_3,U⟩:=Hd3 hb2 O hb4;clear q0 q1 q2 q3 q4 q5 q6 q7 q8 q9;obtain ⟨q0,q1,q2,q3,q4⟩:=hb2.qs5;obtain ⟨q5,q6,q7,q8,q9⟩:=O.qs5;clear hx hb2 O hb4;obtain ⟨r0,r1,r2,r3,r4⟩:=U.o.qs5;have qf:=U.o.frozen;have ql:=U.o.lt
   go_wp2_with fail
   rw [HJ.o,if_pos trivial,if_neg AC];refine bodyPost_ret (v:=(Sq b)) Ij rfl ⟨rfl,?_⟩;exact JI
  ·go_wp2_with fail
   refine (HNO.o _).mono ?_;rintro e3 w3 ⟨rfl,hx⟩;have HX3:=Hd (HX2.o.trans hx);have hb2:=Z.o.keep (hx.kept _);have O:=Y.o.keep (hx.kept _);have hb4:=HB4_2.o.keep (hx.kept _);obtain ⟨HB2_3,HB3_3,U⟩:=Hd3 hb2 O hb4;clear q0 q1 q2 q3 q4 q5 q6 q7 q8 q9;obtain ⟨q0,q1,q2,q3,q4⟩:=hb2.qs5;obtain ⟨q5,q6,q7,q8,q9⟩:=O.qs5;clear hx hb2 O hb4;obtain ⟨r0,r1,r2,r3,r4⟩:=U.o.qs5;have qf:=U.o.frozen;have ql:=U.o.lt
   go_wp2_with fail
   rw [HJ.o,if_pos trivial,if_pos trivial];refine bodyPost_ret (v:=(Sq H3A)) Ij rfl ⟨rfl,?_⟩;exact JI

def CKA(w w0:World)(g:Nat)(A':OA)(c':Nat)(D':OA)(e':Nat)(b:Bool)(r1 r:Abs)(e:Ending)(w':World):Prop :=
 e=.returned (.bool b)/\(∃ s,s=(if b=true then r1 else r)/\Blk w' g 39 (Ap s A' c' D' e'))/\Ext w0 w'/\w.heap.size<=w'.heap.size
theorem VE(h:qP:=by
 go_wp2_with fail
 go_ret;exact ⟨by rw [HP.o];rfl,⟨_,by rw [HP.o];rfl,HBR2.o⟩,HX2.o,HZ2.o.size⟩):qP:=h
theorem GS(h:qP:=by rw [hw1];exact (Ext.refl w).alloc _):qP:=h
theorem GN(h:qP:=by rw [hw1,hg4];exact Blk.new _ _ _):qP:=h
theorem BgA(a r:Abs)(A D A' D':OA)(c e c' e' g:Nat)(w w0:World)(hx:Ext w0 w)(hg:w0.heap.size<=g)(hb:Blk w g 39 (Ap r A' c' D' e'))(h1:a.tx.b.size<=1000000000)(h2:a.tx.e.size<=1000000000) :
  Cl 122 #[.pointer (some ⟨g,0,none⟩),(Aq a A c D e),.I 1] w (CKA w w0 g A' c' D' e' (Bw a 1) (Dp a 1 r) r):=by
 obtain ⟨w1,hw1⟩:=eqx (w.alloc (.cells (Ap a A c D e) 39));obtain ⟨g4,hg4⟩:=eqx w.heap.size;have hx1:Ext w w1:=GS;have b0:Blk w1 g4 39 (Ap a A c D e):=GN;obtain ⟨Y,U,HX1,HW,HG,HGE,a9,a8⟩:=Hd8 b0 (hb.keep (hx1.kept _)) (hx.trans hx1) hw1 hg4 hg hx1 (λw'=>Bz a.tx AA AA w');have HP:=Hd (show Bw a 1 = !AT a.tx from rfl);obtain ⟨em,hem⟩:=eqx (AT a.tx);rw [<-hem] at a8 HP;obtain ⟨j,hj⟩:=eqx (BW a.tx a.tx);have HJ:=Hd (show ∀ w',Cl 81 #[(Sq a.tx),(Sq a.tx)] w' (G0 w' j) from λw'=>by rw [hj];exact SD a.tx a.tx h1 h2 h1 h2 w');have b3:=Hd hj;clear hem hj hx hg hb hx1 b0 hw1 hg4;have q1:=Y.o.q1;have q2:=Y.o.q2;have q3:=Y.o.q3;have q4:=Y.o.q4;have q5:=Y.o.q5;have r1:=U.o.q1;have r2:=U.o.q2;have r3:=U.o.q3;have r4:=U.o.q4;have r5:=U.o.q5
 go_enter func122,ntmps122
 go_upto_region 3 with fail
 rw [<-HW.o,<-HG.o];cases em
 ·go_wp2_with fail
  refine (a8.o _).mono ?_;rintro e2 w2 ⟨rfl,hx⟩;obtain ⟨HX2,HZ2,O,HBR2⟩:=Hd4 (HX1.o.trans hx) (a9.o.trans hx) (Y.o.keep (hx.kept _)) (U.o.keep (hx.kept _));clear hx q1 q2 q3 q4 q5 r1 r2 r3 r4 r5;have q1:=O.o.q1;have q2:=O.o.q2;have q3:=O.o.q3;have q4:=O.o.q4;have q5:=O.o.q5;have r1:=HBR2.o.q1;have r2:=HBR2.o.q2;have r3:=HBR2.o.q3;have r4:=HBR2.o.q4;have r5:=HBR2.o.q5
  go_wp2_with fail
  refine (HJ.o _).mono ?_;rintro e3 w3 ⟨rfl,hx⟩;obtain ⟨HX3,HZ3,Z,HBR3⟩:=Hd4 (HX2.o.trans hx) (HZ2.o.trans hx) (O.o.keep (hx.kept _)) (HBR2.o.keep (hx.kept _));clear hx q1 q2 q3 q4 q5 r1 r2 r3 r4 r5;have q1:=Z.o.q1;have q2:=Z.o.q2;have q3:=Z.o.q3;have q4:=Z.o.q4;have q5:=Z.o.q5;have r1:=HBR3.o.q1;have r2:=HBR3.o.q2;have r3:=HBR3.o.q3;have r4:=HBR3.o.q4;have r5:=HBR3.o.q5;have rf:=HBR3.o.frozen;have rl:=HBR3.o.lt
  go_wp2_with fail
  go_ret;refine ⟨by rw [HP.o];rfl,⟨_,rfl,?_⟩,?_,by have:=HZ3.o.size;simpa [World.setCell] using this⟩
  ·rw [HP.o];have hbb:=(((((HBR3.o.set 1 (.I j.least)).set 2 (.I j.most)).set 3 (.I j.cls)).set 4 (.string j.b)).set 5 (.string j.e))
   simpa [Dp,<-b3.o] using hbb
  ·iterate 5 with_reducible refine Ext.set2 ?_ HGE.o _
   with_reducible exact HX3.o
 ·go_wp2_with fail
  refine (a8.o _).mono ?_;rintro e2 w2 ⟨rfl,hx⟩;obtain ⟨HX2,HZ2,O,HBR2⟩:=Hd4 (HX1.o.trans hx) (a9.o.trans hx) (Y.o.keep (hx.kept _)) (U.o.keep (hx.kept _));clear hx q1 q2 q3 q4 q5 r1 r2 r3 r4 r5;have q1:=O.o.q1;have q2:=O.o.q2;have q3:=O.o.q3;have q4:=O.o.q4;have q5:=O.o.q5;have r1:=HBR2.o.q1;have r2:=HBR2.o.q2;have r3:=HBR2.o.q3;have r4:=HBR2.o.q4;have r5:=HBR2.o.q5;exact VE
theorem Zi(a r:Abs)(A D A' D':OA)(c e c' e' g:Nat)(w w0:World)(hx:Ext w0 w)(hg:w0.heap.size<=g)(hb:Blk w g 39 (Ap r A' c' D' e'))(ht:Tens w0) :
  Cl 122 #[.pointer (some ⟨g,0,none⟩),(Aq a A c D e),.I 2] w (CKA w w0 g A' c' D' e' (Bw a 2) (Dp a 2 r) r):=by
 obtain ⟨w1,hw1⟩:=eqx (w.alloc (.cells (Ap a A c D e) 39));obtain ⟨g4,hg4⟩:=eqx w.heap.size;have hx1:Ext w w1:=GS;have hba:Blk w1 g4 39 (Ap a A c D e):=GN;obtain ⟨Y,U,HX1,HW,HG,HGE,HZ1,HEM⟩:=Hd8 hba (hb.keep (hx1.kept _)) (hx.trans hx1) hw1 hg4 hg hx1 (show ∀ w',Ext w1 w'->Cl 156 #[(Rq a.nu)] w' (Ae w' (BF a.nu)) from λw' hx'=>Ct a.nu w' (ht.ext ((hx.trans hx1).trans hx')));have HP:=Hd (show Bw a 2 = !BF a.nu from rfl);obtain ⟨em,hem⟩:=eqx (BF a.nu);rw [<-hem] at HEM HP;obtain ⟨j,hj⟩:=eqx (Cc a.nu a.nu);have HJ:=Hd (show ∀ w',Ext w1 w'->Cl 82 #[(Rq a.nu),(Rq a.nu)] w' (Em w' j) from λw' hx'=>by rw [hj];exact KG a.nu a.nu w' (ht.ext ((hx.trans hx1).trans hx')));have HJJ:=Hd hj;clear hem hj ht hx hg hb hx1 hba hw1 hg4;have q6:=Y.o.q6;have q7:=Y.o.q7;have q8:=Y.o.q8;have q9:=Y.o.q9;have r6:=U.o.q6;have r7:=U.o.q7;have r8:=U.o.q8;have r9:=U.o.q9
 go_enter func122,ntmps122
 go_upto_region 7 with fail
 rw [<-HW.o,<-HG.o];cases em
 ·go_wp2_with fail
  refine (HEM.o _ (Ext.refl _)).mono ?_;rintro e2 w2 ⟨rfl,hx⟩;obtain ⟨HX2,HU2,HZ2,O,HBR2⟩:=Hd5 (HX1.o.trans hx) hx (HZ1.o.trans hx) (Y.o.keep (hx.kept _)) (U.o.keep (hx.kept _));clear hx q6 q7 q8 q9 r6 r7 r8 r9;have q6:=O.o.q6;have q7:=O.o.q7;have q8:=O.o.q8;have q9:=O.o.q9;have r6:=HBR2.o.q6;have r7:=HBR2.o.q7;have r8:=HBR2.o.q8;have r9:=HBR2.o.q9
  go_wp2_with fail
  refine (HJ.o _ HU2.o).mono ?_;rintro e3 w3 ⟨rfl,hx⟩;obtain ⟨HX3,HZ3,Z,HBR3⟩:=Hd4 (HX2.o.trans hx) (HZ2.o.trans hx) (O.o.keep (hx.kept _)) (HBR2.o.keep (hx.kept _));clear hx q6 q7 q8 q9 r6 r7 r8 r9;have q6:=Z.o.q6;have q7:=Z.o.q7;have q8:=Z.o.q8;have q9:=Z.o.q9;have r6:=HBR3.o.q6;have r7:=HBR3.o.q7;have r8:=HBR3.o.q8;have r9:=HBR3.o.q9;have rf:=HBR3.o.frozen;have rl:=HBR3.o.lt
  go_wp2_with fail
  go_ret;refine ⟨by rw [HP.o];rfl,⟨_,rfl,?_⟩,?_,by have:=HZ3.o.size;simpa [World.setCell] using this⟩
  ·rw [HP.o];have hbb:=((((HBR3.o.set 6 (.I j.ln)).set 7 (.I j.ls)).set 8 (.I j.hn)).set 9 (.I j.hs))
   simpa [Dp,<-HJJ.o] using hbb
  ·iterate 4 with_reducible refine Ext.set2 ?_ HGE.o _
   with_reducible exact HX3.o
 ·go_wp2_with fail
  refine (HEM.o _ (Ext.refl _)).mono ?_;rintro e2 w2 ⟨rfl,hx⟩;obtain ⟨HX2,HU2,HZ2,O,HBR2⟩:=Hd5 (HX1.o.trans hx) hx (HZ1.o.trans hx) (Y.o.keep (hx.kept _)) (U.o.keep (hx.kept _));clear hx q6 q7 q8 q9 r6 r7 r8 r9;have q6:=O.o.q6;have q7:=O.o.q7;have q8:=O.o.q8;have q9:=O.o.q9;have r6:=HBR2.o.q6;have r7:=HBR2.o.q7;have r8:=HBR2.o.q8;have r9:=HBR2.o.q9;exact VE
theorem Pb(h:qP:=by
 intro vals γ w' ρ hR hN hp hρ zs zg;have HR:=hR;have HN:=hN;refine Qr ?_;exact ⟨γ.put 4 (some w'.heap.size),LX.new (by decide) (HN.o.2 (by decide) ⟨5,by decide⟩) _ _,INA,VarX.new HR.o.inb0 rfl (λ_ _ h=>h.elim)⟩):qP:=h
theorem SB(h:qP:=by
 intro l γ w1 γ' w2 rr h
 match l,h with
 |[],_=>trivial
 |[_],_=>trivial
 |[p,q],h=>exact VarXI.lx rr h
 | _::_::_::_,_=>trivial):qP:=h
theorem AgA(h:qP:=by
 obtain ⟨HST,HK,HB⟩:=Hd3 hst hk hb;obtain ⟨q0,q1⟩:=hb.qs2;have qf:=hb.frozen;have ql:=hb.lt;clear hR hN hp hρ hst hk hb hv;go_light;go_simp;obtain ⟨g1,g2⟩:=HST.o _ #[.I d1,.I d2] (((Only.refl g w').set 0 (.I d1)).set 1 (.I d2)) ((HB.o.set 0 (.I d1)).set 1 (.I d2)) rfl;exact ⟨γ.put 4 none,g1,LM.done (by decide) (.inl ⟨g,HK.o⟩),g2⟩):qP:=h
theorem PF(h:qP:=by
 match cl,hcs with
 |[x0,x1],_ =>
  exact AgA):qP:=h
theorem EY(h:qP:=by rw [HPT.o];rfl):qP:=h
theorem ZA(a r:Abs)(A D A' D':OA)(c e c' e' g:Nat)(w w0:World)(hx:Ext w0 w)(hg:w0.heap.size<=g)(hb:Blk w g 39 (Ap r A' c' D' e')) :
  Cl 122 #[.pointer (some ⟨g,0,none⟩),(Aq a A c D e),.I 3] w (CKA w w0 g A' c' D' e' (Bw a 3) (Dp a 3 r) r):=by
 obtain ⟨w1,hw1⟩:=eqx (w.alloc (.cells (Ap a A c D e) 39));obtain ⟨g4,hg4⟩:=eqx w.heap.size;have hx1:Ext w w1:=GS;have O:Blk w1 g4 39 (Ap a A c D e):=GN;obtain ⟨b4,a9,HX1,HW,HG,HGE,b0,HAL⟩:=Hd8 O (hb.keep (hx1.kept _)) (hx.trans hx1) hw1 hg4 hg hx1 (show ∀ w',Cl 64 #[] w' (Cd w' (0,3652058)) from Ho);obtain ⟨d1,U⟩:=eqx ((Cy a).1);obtain ⟨d2,Y⟩:=eqx ((Cy a).2);obtain ⟨HP,b3,HMS,k0,k1⟩:=Hd5 (show Bw a 3=decide (d1<=d2) by rw [U,Y];rfl) (show Dp a 3 r = { r with dl:=d1,dh:=d2 } by rw [U,Y];rfl) (show ∀ w',Cl 89 #[.agg #[.I a.dl,.I a.dh],.agg #[.I 0,.I 3652058]] w' (Cd w' (d1,d2)) from λw'=>by rw [show (d1,d2)=CZ (a.dl,a.dh) (0,3652058) by rw [U,Y];rfl];exact DM _ _ _ _ w') (O.q10) (O.q11);clear hx hg hb hx1 O hw1 hg4 U Y
 go_enter func122,ntmps122
 go_upto_region 11 with fail
 rw [<-HW.o,<-HG.o];refine Qb (fun|5=>[4,5]|i=>[i]) (λ_ _=>False) [(5,[4])] ?_
 iterate 2 refine Qp ?_
 refine Qc (x:=.agg #[.I 0,.I 3652058]) (λw'=>HAL.o w') ?_;refine Qc (x:=.agg #[.I d1,.I d2]) (λw'=>HMS.o w') ?_;refine Qs (FP (VarX (λ_ _=>False) 4 36 2)) (H1A IAA) ?_ ?_
 ·exact Pb
 refine Chain.step (λvl γ w'=>match vl with|[p,_]=>VarXI (λ_ _=>False) 36 p #[.I d1,.I d2] γ w'|_=>True) AG ?_ ?_ ?_
 ·exact SB
 ·intro vals γ w' ρ hR hN hp hρ hc hf hg;refine ⟨rfl,?_⟩;have e44:ρ (.tmp 44)=_:=(hρ 44).trans (hp 3 AB);obtain ⟨g,⟨cl⟩,hv,hcs,hb,hk,hst⟩:=H8A (hp 4 AB) (s:=5) (l:=[(5,[4])]) AB hN;have e7:=(hρ 7).trans hv;exact PF
 intro vals γ w9 hR hG;obtain ⟨g5,v4,Z,-,-⟩:=hG 5 AB;refine Qx ?_;simp only [v4];have HX9:=Hd (show Ext w1 w9 from hR.ext0 (λ_ _ h=>h.elim));have HB5:=Hd Z;clear hR hG Z v4;obtain ⟨HX2,HBR2,HZ2⟩:=Hd3 (HX1.o.trans HX9.o) (a9.o.keep (HX9.o.kept _)) (b0.o.trans HX9.o);obtain ⟨s0,s1⟩:=HB5.o.qs2;have r10:=HBR2.o.q10;have r11:=HBR2.o.q11;by_cases hle:d1<=d2
 ·have a8:¬d2<d1:=AA;have HPT:=Hd (show Bw a 3=true by rw [HP.o,decide_eq_true hle]);have rf:=HBR2.o.frozen;have rl:=HBR2.o.lt
  go_wp2_with fail
  go_ret;refine ⟨EY,⟨_,rfl,?_⟩,?_,by have:=HZ2.o.size;simpa [World.setCell] using this⟩
  ·rw [HPT.o,b3.o];have hbb:=(HBR2.o.set 10 (.I d1)).set 11 (.I d2)
   simpa using hbb
  ·iterate 2 with_reducible refine Ext.set2 ?_ HGE.o _
   with_reducible exact HX2.o
 ·have a8:d2<d1:=AA;have HPT:=Hd (show Bw a 3=false by rw [HP.o,decide_eq_false hle])
  go_wp2_with fail
  go_ret;exact ⟨EY,⟨_,EY,HBR2.o⟩,HX2.o,HZ2.o.size⟩
theorem Z7(a r:Abs)(A D A' D':OA)(c e c' e' g:Nat)(w w0:World)(hx:Ext w0 w)(hg:w0.heap.size<=g)(hb:Blk w g 39 (Ap r A' c' D' e'))(hbo:r.bo=0) :
  Cl 122 #[.pointer (some ⟨g,0,none⟩),(Aq a A c D e),.I 4] w (CKA w w0 g A' c' D' e' (Bw a 4) (Dp a 4 r) r):=by
 obtain ⟨w1,hw1⟩:=eqx (w.alloc (.cells (Ap a A c D e) 39));obtain ⟨g4,hg4⟩:=eqx w.heap.size;have hx1:Ext w w1:=GS;have Y:Blk w1 g4 39 (Ap a A c D e):=GN;obtain ⟨Z,O,HX1,HW,HG,HGE,U⟩:=Hd7 Y (hb.keep (hx1.kept _)) (hx.trans hx1) hw1 hg4 hg hx1;obtain ⟨j,hj⟩:=eqx (boI a);obtain ⟨HP,a9,a8⟩:=Hd3 (show Bw a 4=decide (j≠0) by rw [hj];rfl) (show Dp a 4 r = { r with bo:=j } by rw [hj];rfl) hbo;have hjj:bits .and .i64 a.bo 3=j:=hj.symm;clear hx hg hb hx1 Y hw1 hg4 hj hbo;have q12:=Z.o.q12;have r12:=O.o.q12;have rf:=O.o.frozen;have rl:=O.o.lt;by_cases hz:j=0
 ·have HPT:=Hd (show Bw a 4=false by rw [HP.o,hz];rfl)
  go_enter func122,ntmps122
  go_upto_region 16 with fail
  rw [<-HW.o,<-HG.o]
  go_wp2_with fail
  go_ret;refine ⟨by rw [HPT.o];simp,⟨r,EY,?_⟩,Ext.set2 HX1.o HGE.o _,by have:=U.o.size;simpa [World.setCell] using this⟩;have hbb:=O.o.set 12 (.I 0);have hbo:=a8.o
  simpa [hbo,hz,Ap] using hbb
 ·have HPT:=Hd (show Bw a 4=true by rw [HP.o,decide_eq_true hz])
  go_enter func122,ntmps122
  go_upto_region 16 with fail
  rw [<-HW.o,<-HG.o]
  go_wp2_with fail
  go_ret;refine ⟨by rw [HPT.o];simp [hz],⟨Dp a 4 r,EY,?_⟩,Ext.set2 HX1.o HGE.o _,by have:=U.o.size;simpa [World.setCell] using this⟩;rw [a9.o];have hbb:=O.o.set 12 (.I j)
  simpa using hbb

theorem RH(h:qP:=by
 go_enter func226,ntmps226
 exact Bf):qP:=h
theorem OF(s:BA)(hs:s.size<=4294967296)(w:World):Cl 226 #[.string s] w (SameB w (Ba s)):=by
 by_cases hs0:s.size<1
 ·have HF:=Hd (show Ba s=false by unfold Ba;rw [decide_eq_false AA];rfl);have hs1:(s.size:Int)<1:=AA;clear hs0;exact RH
 by_cases hs20:20<s.size
 ·have HF:=Hd (show Ba s=false by unfold Ba;rw [decide_eq_false AA];rfl);have hs1:¬(s.size:Int)<1:=AA;have hs2:20<(s.size:Int):=AA;clear hs0 hs20;exact RH
 have hs1:¬(s.size:Int)<1:=AA;have hs2:¬20<(s.size:Int):=AA
 go_enter func226,ntmps226
 go_wp2
 go_loop [16] (λi=>∃ k:Nat,k<=s.size/\i=.I k/\∀ j (h:j<s.size),j<k->Fa j (s[j].toNat:Int)=true) (λi=>s.size-(intOf i).toNat)
 case atStart=>exact ⟨0,AN,rfl,AK⟩
 case round =>
  obtain ⟨k,hk,rfl,hall⟩:=hrel;have HA:=Hd hall;clear hall;by_cases hlt:k<s.size
  ·exact Pj
  ·have HF:=Hd (show Ba s=true by rw [WQ (s:=s) (λj h=>HA.o j h AA)];simp;omega);exact Bf
theorem TW(h:qP:=by
 by_cases hjk:j=k
 ·subst hjk;exact HM.o
 ·exact HA.o j h (by omega)):qP:=h
theorem Zj(h:qP:=by
 refine ⟨k+1,by omega,by go_num,λj h hj => ?_⟩;exact TW):qP:=h
theorem UN(h:qP:=by
 go_wp2_with fail
 go_round
 case rel =>
  exact Zj
 case measure=>simp [intOf];omega):qP:=h
theorem Mv(A:OA)(c:Nat)(l:List BA)(w:World)(S:NP)(h:Strs w S A l):Cl 182 #[.slice A l.length c] w (SameB w (l.all Ba)):=by
 have hn:=h.2.1;have H:=Hd h;clear h
 go_enter func182,ntmps182
 go_wp2
 go_loop [7] (λi=>∃ k:Nat,k<=l.length/\i=.I k/\∀ j (h:j<l.length),j<k->Ba l[j]=true) (λi=>l.length-(intOf i).toNat)
 case atStart=>exact ⟨0,AN,rfl,AK⟩
 case round =>
  obtain ⟨k,hk,rfl,hall⟩:=hrel;have HA:=Hd hall;clear hall;by_cases hlt:k<l.length
  ·obtain ⟨b1,o1,rfl,z1,c1⟩:=H.o.at_ hlt;have HC:=Hd (λw'=>OF l[k] (H.o.sz hlt) w');cases hm:Ba l[k]
   ·rw [hm] at HC;have HF:=Hd (show l.all Ba=false from CX l Ba k hlt hm);clear hm
    go_wp2_with fail
    refine (HC.o _).mono ?_;rintro e w' ⟨rfl,rfl⟩
    go_wp2_with fail
    exact FR
   ·rw [hm] at HC;have HM:=Hd hm;clear hm
    go_wp2_with fail
    refine (HC.o _).mono ?_;rintro e w' ⟨rfl,rfl⟩;exact UN
  ·have HF:=Hd (show l.all Ba=true from CH l Ba (λj h=>HA.o j h AA));exact Bf

theorem NG(x y:BA)(w:World):Cl 181 #[.string x,.string y] w (SameB w (decide (x=y))):=by
 have HE:=Hd (Bj x y)
 go_enter func181,ntmps181
 go_wp2;go_ret;exact ⟨by rw [<-HE.o];rfl,rfl⟩
theorem XX(x y:BA)(g g2:Nat)(w:World)(hb:w.cell? ⟨g,0,none⟩=some (.func (.func 181) #[] #[]))(hb2:w.cell? ⟨g2,0,none⟩=some (.string x)) :
  Cl 225 #[.string y,.pointer (some ⟨g,0,none⟩),.pointer (some ⟨g2,0,none⟩)] w (SameB w (decide (x=y))):=by
 have HC:=Hd (NG x y w)
 go_enter func225,ntmps225
 go_wp2_with fail
 refine HC.o.mono ?_;rintro e w' ⟨rfl,rfl⟩;exact Ra
theorem Ky(l:List BA)(x:BA)(A:OA)(c g g2:Nat)(w:World)(S:NP)(hl:Strs w S A l)(hb:w.cell? ⟨g,0,none⟩=some (.func (.func 181) #[] #[]))(hb2:w.cell? ⟨g2,0,none⟩=some (.string x)) :
  Cl 259 #[.slice A l.length c,.func (.func 225) #[] #[.pointer (some ⟨g,0,none⟩),.pointer (some ⟨g2,0,none⟩)]] w (Bk w (Gv (λy=>decide (x=y)) l)):=by
 have hn:=hl.2.1;have HC:=Hd (λy=>XX x y g g2 w hb hb2);clear hb hb2
 go_enter func259,ntmps259
 go_wp2
 go_loop [8] (λi=>∃ k:Nat,k<=l.length/\i=.I k/\∀ j (h:j<l.length),j<k->(λy=>decide (x=y)) l[j]=false) (λi=>l.length-(intOf i).toNat)
 case atStart=>exact ⟨0,AN,rfl,AK⟩
 case round =>
  obtain ⟨k,hk,rfl,hall⟩:=hrel;have HA:=Hd hall;clear hall;by_cases hlt:k<l.length
  ·obtain ⟨b1,o1,rfl,z1,c1⟩:=hl.at_ hlt;cases hm:decide (x=l[k])
   ·have HM:=Hd hm;clear hm
    go_wp2_with fail
    refine (HC.o _).mono ?_;rintro e w' ⟨rfl,rfl⟩;rw [HM.o];exact UN
   ·have HM:=Hd hm;clear hm
    go_wp2_with fail
    refine (HC.o _).mono ?_;rintro e w' ⟨rfl,rfl⟩;rw [HM.o]
    go_wp2_with fail
    go_ret;exact ⟨by rw [EO hlt HA.o HM.o];rfl,rfl⟩
  ·exact Ll
theorem JZ(l:List BA)(x:BA)(A:OA)(c g g2:Nat)(w:World)(S:NP)(hl:Strs w S A l)(hb:w.cell? ⟨g,0,none⟩=some (.func (.func 181) #[] #[]))(hb2:w.cell? ⟨g2,0,none⟩=some (.string x)) :
  Cl 224 #[.slice A l.length c,.func (.func 225) #[] #[.pointer (some ⟨g,0,none⟩),.pointer (some ⟨g2,0,none⟩)]] w (SameB w (Aw l x)):=by
 have HC:=Hd (Ky l x A c g g2 w S hl hb hb2);have HI:=Hd (show (l.any λy=>decide (x=y))=Aw l x by rw [Bool.eq_iff_iff,List.any_eq_true,Ao];exact ⟨λ⟨y,h1,h2⟩=>by rw [of_decide_eq_true h2];exact h1,λh=>⟨x,h,decide_eq_true rfl⟩⟩);clear hb hb2 hl
 go_enter func224,ntmps224
 go_wp2_with fail
 refine HC.o.mono ?_;rintro e w' ⟨rfl,rfl⟩
 go_wp2_with fail
 go_ret;exact ⟨by rw [<-HI.o,<-G5];rfl,rfl⟩
theorem O6{α:Type} [DecidableEq α](l:List α)(k:Nat)(hk:k<l.length):ddp (l.take (k+1))=if l[k]∈ddp (l.take k) then ddp (l.take k) else ddp (l.take k)++[l[k]]:=by
 rw [List.take_add_one,List.getElem?_eq_getElem hk,Option.toList_some,Jl]
theorem QO(h:qP:=by
 refine Hb (P:=λl=>(ddp l).length<=l.length) (by simp [ddp]) (λl x ih => ?_) l;rw [Jl];split<;>simp<;>omega):qP:=h
theorem F4{α:Type} [DecidableEq α](l:List α):(ddp l).length<=l.length:=by
 exact QO
def FfA(w:World)(l:List BA)(e:Ending)(w':World):Prop:=∃ A c,e=.returned (.slice A l.length c)/\l.length<=c/\OwnSs w' w.heap.size A c l/\Ext w w'
theorem EM(h:qP:=by rw [HT.o];rfl):qP:=h
theorem MP(l:List BA)(A:OA)(c:Nat)(w:World)(S:NP)(hA:Strs w S A l)(hl:l.length<=1000000) :
  Cl 180 #[.slice A l.length c,.func (.func 181) #[] #[]] w (FfA w (ddp l)):=by
 obtain ⟨HA,HB0,HX0⟩:=Hd3 hA (Blk.new w 130 #[.func (.func 181) #[] #[]]) ((Ext.refl w).alloc (.cells #[.func (.func 181) #[] #[]] 130));clear hA
 go_enter func180,ntmps180
 go_wp2
 go_loopw [10,5] (λi v wr=>∃ (m:Nat) (A':OA) (c':Nat),m<=l.length/\i=.I m/\v=.slice A' (ddp (l.take m)).length c'/\Ext (w.alloc (.cells #[.func (.func 181) #[] #[]] 130)) wr/\OwnSs wr (w.heap.size+1) A' c' (ddp (l.take m))) (λi _ _=>l.length-(intOf i).toNat)
 case atStart=>exact ⟨0,none,0,AN,rfl,rfl,Ext.refl _,OwnSs.nil _ _⟩
 case round =>
  obtain ⟨m,A',c',hm,rfl,rfl,hext,hown⟩:=hrel;have HE:=Hd hext;have HO:=Hd hown;clear hown;by_cases hlt:m<l.length
  ·obtain ⟨b1,o1,rfl,z1,c1⟩:=((HA.o.keep (HX0.o.kept S)).keep (hext.kept S)).at_ hlt;have hw0:wr.cell? ⟨w.heap.size,0,none⟩=some (.func (.func 181) #[] #[]):=hext.cell (HB0.o.cell rfl);obtain ⟨w1,hw1⟩:=eqx (wr.alloc (.cells #[.string l[m]] 9));have hx1:Ext wr w1:=(by rw [hw1];exact (Ext.refl wr).alloc _);have hown:=HO.o.ext hx1;have hst:=hown.strs (T:=λ_=>True) (by have:=F4 (l.take m);rw [List.length_take] at this;omega) (λ_ _=>trivial);obtain ⟨HC,HT,HX1⟩:=Hd3 (JZ (ddp (l.take m)) l[m] A' c' w.heap.size wr.heap.size _ _ hst (hx1.cell hw0) ((show Blk w1 wr.heap.size 9 #[.string l[m]] by rw [hw1];exact Blk.new _ _ _).cell rfl)) (O6 l m hlt) hx1;have a9:=hx1.size;have hbx:=(show Blk w1 wr.heap.size 9 #[.string l[m]] by rw [hw1];exact Blk.new _ _ _).q0;have Z:=Hd hw1;have hln:=F4 (l.take m);rw [List.length_take] at hln;have hsz:=HE.o.size;have a8:(w.alloc (.cells #[.func (.func 181) #[] #[]] 130)).heap.size=w.heap.size+1:=AC;have O:=(hown.ext ((Ext.refl _).alloc (.cells #[.string l[m]] 9))).1;have HOWN:=Hd O;have Y:=HA.o.sz hlt;clear hw0 hx1 hown hst O hw1
   go_upto_region 5 with fail
   rw [<-Z.o];cases hd:Aw (ddp (l.take m)) l[m]
   ·have hn:¬l[m]∈ddp (l.take m):=λh=>by rw [(Ao _ _).2 h] at hd;cases hd
    rw [hd] at HC;rw [if_neg hn] at HT;clear hd hn
    go_wp2_with fail
    refine HC.o.mono ?_;rintro e w' ⟨rfl,rfl⟩
    go_wp2_with (at_builtin;go_must (refine AL rfl (.tmp 18) (.tmp 20) rfl tiS rfl HOWN.o rfl (Blk.rd (Blk.new _ _ _)) rfl AP AA AB AI ?_);intro A4 c4 w4 hown4 hg4 hat4)
    go_roundw
    case rel =>
     refine ⟨m+1,A4,c4,AA,AE,by rw [HT.o,List.length_append];rfl,Ext.grown ((HE.o.trans HX1.o).alloc _) hg4 (λb hb=>Ii),?_,λs hs => ?_⟩
     ·rw [HT.o,List.length_append,List.map_append];exact hown4
     ·rw [HT.o] at hs
      rcases List.mem_append.1 hs with hs|hs
      ·exact HO.o.2 s hs
      ·rw [List.mem_singleton.1 hs];exact Y
    case measure=>simp [intOf];omega
   ·have hn:l[m]∈ddp (l.take m):=(Ao _ _).1 hd;rw [hd] at HC;rw [if_pos hn] at HT;clear hd hn
    go_wp2_with fail
    refine HC.o.mono ?_;rintro e w' ⟨rfl,rfl⟩
    go_wp2_with fail
    go_roundw
    case rel =>
     refine ⟨m+1,A',c',AA,AE,by rw [HT.o],HE.o.trans HX1.o,?_⟩;rw [HT.o];exact HO.o.ext HX1.o
    case measure=>simp [intOf];omega
  ·obtain rfl:m=l.length:=AA;have ho:=HO.o;rw [List.take_length] at ho;have U:=Hd ho;have HT:=Hd (show l.take l.length=l from List.take_length);clear ho hext;go_wp2;go_ret;exact ⟨A',c',EM,Own.cap U.o.1,⟨Own.lower U.o.1 (Nat.le_succ _),U.o.2⟩,HX0.o.trans HE.o⟩

theorem Vk(x y:Dep)(A B:OA)(ca cb g g2:Nat)(w:World)(S T:NP)(hb:w.cell? ⟨g,0,none⟩=some (.func (.func 185) #[] #[]))(hb2:w.cell? ⟨g2,0,none⟩=some (.slice B x.frm.length cb))(hb3:w.cell? ⟨g2,1,none⟩=some (.string x.tov))(hx:Strs w S B x.frm)(hy:Strs w T A y.frm) :
  Cl 230 #[.agg #[.slice A y.frm.length ca,.string y.tov],.pointer (some ⟨g,0,none⟩),.pointer (some ⟨g2,0,none⟩)] w (Ae w (decide (x=y))):=by
 have hx0:=(Ext.refl w).alloc (.cells #[.slice A y.frm.length ca,.string y.tov] 69);have HC:=Hd (Nr x y B A cb ca _ S T (hx.keep (hx0.kept S)) (hy.keep (hx0.kept T)));have k1:=hx0.cell hb;have k2:=hx0.cell hb2;have k3:=hx0.cell hb3;have hbl:=Blk.new w 69 #[.slice A y.frm.length ca,.string y.tov];obtain ⟨k4,k5⟩:=hbl.qs2;have HX0:=Hd hx0;clear hx0 hb hb2 hb3 hbl
 go_enter func230,ntmps230
 go_wp2_with fail
 refine HC.o.mono ?_;rintro e w' ⟨rfl,hx⟩;have HX:=Hd (HX0.o.trans hx);clear hx
 go_wp2_with fail
 go_ret;exact ⟨rfl,HX.o⟩
theorem Ln(l:List Dep)(x:Dep)(A B:OA)(c cb g g2:Nat)(w:World)(S T:NP)(hl:RDeps w S A l)(hb:w.cell? ⟨g,0,none⟩=some (.func (.func 185) #[] #[]))(hb2:w.cell? ⟨g2,0,none⟩=some (.slice B x.frm.length cb))(hb3:w.cell? ⟨g2,1,none⟩=some (.string x.tov))(hx:Strs w T B x.frm) :
  Cl 271 #[.slice A l.length c,.func (.func 230) #[] #[.pointer (some ⟨g,0,none⟩),.pointer (some ⟨g2,0,none⟩)]] w (DG w (Gv (λy=>decide (x=y)) l)):=by
 have hn:=hl.1;obtain ⟨HL,HB,HB2,HB3,O⟩:=Hd5 hl hb hb2 hb3 hx;clear hl hb hb2 hb3 hx
 go_enter func271,ntmps271
 go_wp2
 go_loopw [8] (λi wr=>∃ k:Nat,k<=l.length/\i=.I k/\Ext w wr/\∀ j (h:j<l.length),j<k->(λy=>decide (x=y)) l[j]=false) (λi _=>l.length-(intOf i).toNat)
 case atStart=>exact ⟨0,AN,rfl,Ext.refl _,AK⟩
 case round =>
  obtain ⟨k,hk,rfl,hext,hall⟩:=hrel;have HA:=Hd hall;have HE:=Hd hext;clear hall;by_cases hlt:k<l.length
  ·obtain ⟨b1,o1,B2,c2,rfl,z1,c1,c3,h4,h5,h6⟩:=(HL.o.keep (hext.kept S)).at_ hlt;have HC:=Hd (Vk x l[k] B2 B c2 cb g g2 wr T S (hext.cell HB.o) (hext.cell HB2.o) (hext.cell HB3.o) (O.o.keep (hext.kept T)) h6);clear hext h6;cases hm:decide (x=l[k])
   ·rw [hm] at HC;have HM:=Hd hm;clear hm
    go_wp2_with fail
    refine HC.o.mono ?_;rintro e w' ⟨rfl,hx⟩;have HX:=Hd (HE.o.trans hx);clear hx
    go_wp2_with fail
    go_roundw
    case rel =>
     refine ⟨k+1,AA,AE,HX.o,λj h hj => ?_⟩;exact TW
    case measure=>simp [intOf];omega
   ·rw [hm] at HC;have HM:=Hd hm;clear hm
    go_wp2_with fail
    refine HC.o.mono ?_;rintro e w' ⟨rfl,hx⟩;have HX:=Hd (HE.o.trans hx);clear hx
    go_wp2_with fail
    go_ret;exact ⟨by rw [EO hlt HA.o HM.o];rfl,HX.o⟩
  ·clear hext;go_wp2;go_ret;exact ⟨by rw [GG (λj hj=>HA.o j hj AA)];rfl,HE.o⟩
theorem Ja(l:List Dep)(x:Dep)(A B:OA)(c cb g g2:Nat)(w:World)(S T:NP)(hl:RDeps w S A l)(hb:w.cell? ⟨g,0,none⟩=some (.func (.func 185) #[] #[]))(hb2:w.cell? ⟨g2,0,none⟩=some (.slice B x.frm.length cb))(hb3:w.cell? ⟨g2,1,none⟩=some (.string x.tov))(hx:Strs w T B x.frm) :
  Cl 229 #[.slice A l.length c,.func (.func 230) #[] #[.pointer (some ⟨g,0,none⟩),.pointer (some ⟨g2,0,none⟩)]] w (Ae w (decide (x∈l))):=by
 have HC:=Hd (Ln l x A B c cb g g2 w S T hl hb hb2 hb3 hx);have HI:=Hd (show (l.any λy=>decide (x=y))=decide (x∈l) by rw [Bool.eq_iff_iff,List.any_eq_true,decide_eq_true_eq];exact ⟨λ⟨y,h1,h2⟩=>by rw [of_decide_eq_true h2];exact h1,λh=>⟨x,h,decide_eq_true rfl⟩⟩);clear hb hb2 hl hb3 hx
 go_enter func229,ntmps229
 go_wp2_with fail
 refine HC.o.mono ?_;rintro e w' ⟨rfl,hx⟩;have HX:=Hd hx;clear hx
 go_wp2_with fail
 go_ret;exact ⟨by rw [<-HI.o,<-G5];rfl,HX.o⟩
theorem OwnDs.lower{base':Nat}(h:OwnDs w base X A c l)(hb:base'<=base):OwnDs w base' X A c l:=by
 obtain ⟨hs,h1,h2⟩:=h;exact ⟨hs,h1.lower hb,h2⟩
def Jt(w:World)(S:NP)(l:List Dep)(e:Ending)(w':World):Prop:=∃ A c,e=.returned (.slice A l.length c)/\l.length<=c/\OwnDs w' w.heap.size S A c l/\Ext w w'
theorem Lu(l:List Dep)(A:OA)(c:Nat)(w:World)(S:NP)(hA:RDeps w S A l)(hl:l.length<=1000000) :
  Cl 184 #[.slice A l.length c,.func (.func 185) #[] #[]] w (Jt w S (ddp l)):=by
 obtain ⟨HA,HB0,HX0⟩:=Hd3 (hA.mono (T:=λb=>S b/\b<w.heap.size) λi hi hs=>⟨hs,hi⟩) (Blk.new w 89 #[.func (.func 185) #[] #[]]) ((Ext.refl w).alloc (.cells #[.func (.func 185) #[] #[]] 89));clear hA
 go_enter func184,ntmps184
 go_wp2
 go_loopw [10,5] (λi v wr=>∃ (m:Nat) (A':OA) (c':Nat),m<=l.length/\i=.I m/\v=.slice A' (ddp (l.take m)).length c'/\Ext (w.alloc (.cells #[.func (.func 185) #[] #[]] 89)) wr/\OwnDs wr (w.heap.size+1) (λb=>S b/\b<w.heap.size) A' c' (ddp (l.take m))) (λi _ _=>l.length-(intOf i).toNat)
 case atStart=>exact ⟨0,none,0,AN,rfl,rfl,Ext.refl _,OwnDs.nil _ _ _⟩
 case round =>
  obtain ⟨m,A',c',hm,rfl,rfl,hext,hown⟩:=hrel;have HE:=Hd hext;have HO:=Hd hown;clear hown;by_cases hlt:m<l.length
  ·obtain ⟨b1,o1,B2,c2,rfl,z1,c1,c3,h4,h5,h6⟩:=((HA.o.keep (HX0.o.kept _)).keep (hext.kept _)).at_ hlt;have hw0:wr.cell? ⟨w.heap.size,0,none⟩=some (.func (.func 185) #[] #[]):=hext.cell (HB0.o.cell rfl);obtain ⟨w1,hw1⟩:=eqx (wr.alloc (.cells #[.slice B2 l[m].frm.length c2,.string l[m].tov] 69));have hx1:Ext wr w1:=(by rw [hw1];exact (Ext.refl wr).alloc _);have hown:=HO.o.ext hx1;have hln:=F4 (l.take m);rw [List.length_take] at hln;have hbx:Blk w1 wr.heap.size 69 #[.slice B2 l[m].frm.length c2,.string l[m].tov]:=(by rw [hw1];exact Blk.new _ _ _);have a8:=Hd hw1;have hst:=hown.rdeps (T:=λ_=>True) AA (λ_ _=>trivial) (λ_ _=>trivial);obtain ⟨HC,HT,HX1⟩:=Hd3 (Ja (ddp (l.take m)) l[m] A' B2 c' c2 w.heap.size wr.heap.size _ _ _ hst (hx1.cell hw0) (hbx.q0) (hbx.q1) (h6.keep (hx1.kept _))) (O6 l m hlt) hx1;have b0:=hx1.size;have HBX:=Hd hbx;have H6:=Hd h6;obtain ⟨q0,q1⟩:=hbx.qs2;have hsz:=HE.o.size;have b3:(w.alloc (.cells #[.func (.func 185) #[] #[]] 89)).heap.size=w.heap.size+1:=AC;clear hw0 hx1 hown hst hbx h6 hw1
   go_upto_region 5 with fail
   rw [<-a8.o];cases hd:decide (l[m]∈ddp (l.take m))
   ·have hn:¬l[m]∈ddp (l.take m):=of_decide_eq_false hd;rw [hd] at HC;rw [if_neg hn] at HT;clear hd hn
    go_wp2_with fail
    refine HC.o.mono ?_;rintro e w' ⟨rfl,hx⟩;have HX:=Hd (HX1.o.trans hx);have Z:=hx.size;have q2:=hx.cell q0;have q3:=hx.cell q1;obtain ⟨hs9,O,Y,U⟩:=((HO.o.ext HX.o).ext ((Ext.refl _).alloc (.cells #[.slice B2 l[m].frm.length c2,.string l[m].tov] 69))).add;obtain ⟨HOWN,HV,HHS⟩:=Hd3 Y U O;clear Y U O hx q0 q1
    go_wp2_with (at_builtin;go_must (refine AL rfl (.tmp 18) (.tmp 20) rfl tiD rfl HOWN.o rfl (Blk.rd (Blk.new _ _ _)) rfl AP AA AB AI ?_);intro A4 c4 w4 hown4 hg4 hat4)
    go_roundw
    case rel =>
     refine ⟨m+1,A4,c4,AA,AE,by rw [HT.o,List.length_append];rfl,Ext.grown ((HE.o.trans HX.o).alloc _) hg4 (λb hb=>Ii),?_⟩;rw [HT.o];refine OwnDs.push HHS.o HV.o hown4 hg4 hat4 h4 h5 (((H6.o.keep (HX.o.kept _)).keep (Kept.alloc _ _ _)).mono λi _ hi=>⟨λe => ?_,hi⟩);have:=(HO.o.blk e).1;have:=hi.2;omega
    case measure=>simp [intOf];omega
   ·have hn:l[m]∈ddp (l.take m):=of_decide_eq_true hd;rw [hd] at HC;rw [if_pos hn] at HT;clear hd hn
    go_wp2_with fail
    refine HC.o.mono ?_;rintro e w' ⟨rfl,hx⟩;have HX:=Hd (HX1.o.trans hx);have Z:=hx.size;clear hx
    go_wp2_with fail
    go_roundw
    case rel =>
     refine ⟨m+1,A',c',AA,AE,by rw [HT.o],HE.o.trans HX.o,?_⟩;rw [HT.o];exact HO.o.ext HX.o
    case measure=>simp [intOf];omega
  ·obtain rfl:m=l.length:=AA;have ho:=HO.o;rw [List.take_length] at ho;obtain ⟨a9,HT,HC⟩:=Hd3 ho (show l.take l.length=l from List.take_length) (show (ddp l).length<=c' by obtain ⟨hs,_,h1,_⟩:=ho.add;exact h1.cap);clear ho hext;go_wp2;go_ret;exact ⟨A',c',EM,HC.o,(a9.o.lower (Nat.le_succ _)).mono λ_ _ h=>h.1,HX0.o.trans HE.o⟩

theorem F6A(l:List BA):l.map Value.string=(l.map λs=>s.data.toList).map encStr:=by
 rw [List.map_map];rfl
theorem ElA(g c:Nat)(ss:List (List UInt8))(w:World)(hH:Sort.Holds encStr w g 0 ss.toArray)(hb:g<w.heap.size)(hsz:ss.length<4611686018427387904) :
  Cl 183 #[.slice (some ⟨g,0,none⟩) ss.length c] w λe w' =>
   e=.returned (.tuple #[])/\∃ n os,w'=Sort.grow (Sort.putRow encStr (Sort.ahead w n) g 0 (ss.mergeSort λx y=>decide (x<=y)).toArray) os:=AnyM.slices_Sort_string Tryz.sort183 g 0 c ss w hH hb hsz
theorem CTA{l:List BA}(h:OwnSs w base A c l)(hl:l.length<=17592186044416) :
  Cl 183 #[.slice A l.length c] w (λe w'=>e=.returned (.tuple #[])/\w.grownBy w' (ob A)/\OwnSs w' base A c (An l)):=by
 have hsz:∀ s∈An l,s.size<=4294967296:=λs hs=>h.2 s (by
  unfold An at hs;obtain ⟨b,hb,rfl⟩:=List.mem_map.1 hs;rw [List.mem_mergeSort] at hb;obtain ⟨x,hx,rfl⟩:=List.mem_map.1 hb;have:(⟨x.data.toList.toArray⟩:BA)=x:=(by cases x;simp);rw [this];exact hx)
 have Z:(An l).length=l.length:=by simp [An]
 rcases h.1.2 with ⟨hv,hn⟩|⟨g,cap,cur,hv,hb,hh,a9,b0,hcs,ht⟩
 ·injection hv with U b4 hv3;subst U hv3;have a8:l=[]:=List.eq_nil_of_length_eq_zero hn;subst a8;refine (show Cl 183 #[.slice none 0 0] w (λe w'=>e=.returned (.tuple #[])/\w'=w) from AnyM.slices_Sort_string_none Tryz.sort183 none 0 w).mono ?_;rintro e w' ⟨rfl,rfl⟩;exact ⟨rfl,World.grownBy.refl _ _,by rw [show An []=[] by simp [An]];exact OwnSs.nil _ _⟩
 ·injection hv with U b4 hv3;subst U hv3;have Y:w.heap[g]?=some (.cells cur 9 (0,0)):=hh;have O:(l.map λs=>s.data.toList).length=l.length:=AC;have b3:cur.toList.take (l.map λs=>s.data.toList).length=(l.map λs=>s.data.toList).map encStr:=by
   rw [<-F6A,O,<-ht,Nat.mul_one]
  have h1:=ElA g c (l.map λs=>s.data.toList) w (holds_of_block Y b3) (Blk.lt hh) (by rw [O];omega);rw [O] at h1;refine h1.mono ?_;rintro e w' ⟨rfl,n,os,rfl⟩;refine ⟨rfl,grownBy_sorted _,?_,hsz⟩;have h2:=ownsRow_sorted (w:=w) (base:=base) (n:=n) (os:=os) (ss:=l.map λs=>s.data.toList) (ts:=(l.map λs=>s.data.toList).mergeSort λx y=>decide (x<=y)) AC hb Y (by rw [O];exact a9) b0 hcs;rw [O] at h2;rw [Z];have h3:(An l).map Value.string=((l.map λs=>s.data.toList).mergeSort λx y=>decide (x<=y)).map encStr:=by
   unfold An;rw [List.map_map];rfl
  rw [h3];exact h2
theorem OwnDs.put{g:Nat}(h:OwnDs w base X (some ⟨g,0,none⟩) c l){i:Nat}(hi:i<l.length){B:OA}{e:Nat}(he:l[i].frm.length<=e)(hs:Strs w (λb=>b≠g/\X b) B l[i].frm) :
  OwnDs (w.setCell ⟨g,i*2,none⟩ (.slice B l[i].frm.length e)) base X (some ⟨g,0,none⟩) c l:=by
 obtain ⟨xs,ho,hv⟩:=h;have U:xs.length=l.length*2:=ho.len;have hk:Kept (λb=>ob (some ⟨g,0,none⟩)≠some b/\X b) w (w.setCell ⟨g,i*2,none⟩ (.slice B l[i].frm.length e)):=Kept.of_set λhh=>hh.1 rfl;refine ⟨xs.set (i*2) (.slice B l[i].frm.length e),Own.put ho _,λj d hj => ?_⟩;obtain ⟨B',e',h3,h4,h5,h6,h7⟩:=hv j d hj;have O:(xs.set (i*2) (.slice B l[i].frm.length e))[j*2+1]?=some (.string d.tov):=(by rw [List.getElem?_set_ne AA];exact h4);by_cases hji:j=i
 ·subst hji;rw [List.getElem?_eq_getElem hi] at hj;injection hj with hj;subst hj;refine ⟨B,e,by rw [List.getElem?_set_self AA],O,he,h6,(hs.mono λb _ hb=>⟨λe=>hb.1 (by injection e with e;exact e.symm),hb.2⟩).keep hk⟩
 ·exact ⟨B',e',by rw [List.getElem?_set_ne AA];exact h3,O,h5,h6,h7.keep hk⟩
