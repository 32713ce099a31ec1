/- Lemmas. No conditions. -/
import Derived.Test.YtidacnalcdhckaaGreatDoorYq29
set_option maxRecDepth 100000
set_option maxHeartbeats 4000000
namespace Go.Proofs.YtidacnalcdhckaaGreatDoor
open Go Go.RowKit Tryz
variable {qP:Prop}

def JR:Abs:=⟨0,⟨0,0,0,⟨#[]⟩,⟨#[]⟩⟩,⟨0,0,0,0⟩,0,0,0,0,0,[],[],false⟩
theorem PW(h:qP:=by
 right;have:=HU5.o;have:=HSU.o;omega):qP:=h
theorem Zo(h:qP:=by
 rcases hb with h|h
 ·exact .inl h
 ·exact PW):qP:=h
theorem Z2(h:qP:=by
 right;have:=HX0.o.size;omega):qP:=h
theorem VS(h:qP:=by
 clear hK1 hK2 hbf hb28 hx8 hab8 hof hkf
 go_wp2_with fail
 refine bodyPost_ret (Bv results12 rfl (Eq HBF.o AS AH)) rfl ?_;rw [HOF.o,HCE.o];refine ⟨A7,c7,D7,e7,rfl,HABF.o.mono λb _ hb => ?_,HXF.o⟩
 rcases hb with hb|hb
 ·exact .inl hb.1
 ·exact Z2):qP:=h
theorem GL(h:qP:=by
 have HCN:=Hd (EG r0 none none 0 0 w7 _ HAB.o.2.2.1 HAB.o.2.2.2 HRN.o);refine wp_region_lit ?_;refine AJ rfl 39 _ rfl g5 rfl HB7.o AS AH ?_
 go_wp2_with fail
 refine HCN.o.mono ?_;rintro e8 w8 ⟨A7,c7,D7,e7,rfl,hab8,hx8⟩;have HX8:=Hd (HX7.o.trans hx8);have hb28:=HB2.o.keep (HX8.o.kept _);rename_i K1 hK1 K2 hK2;refine hK2 _ _ ?_;refine AM rfl 39 _ _ rfl g2 (Ap (AX r0) A7 c7 D7 e7) rfl rfl 39 _ hb28 AH rfl (by kernel_rfl) ?_;intro wf hbf hof;refine hK1 _ _ ?_;have HXF:=Hd ((HX0.o.trans HX8.o).only hof (by have:=HG2.o;omega));have HBF:=Hd hbf;have hg5l:=HB7.o.lt;have hg2l:=HB2.o.lt;have hkf:=hof.kept (S:=λb=>(T b/\b<w.heap.size)\/w0.heap.size<=b) (λb _ hb e=>by have:=HG2.o;rcases hb with h | h;(have:=h.2;omega);omega);have HABF:=Hd ((hab8.mono (T:=λb=>(T b/\b<w.heap.size)\/w0.heap.size<=b) λb _ hb=>by
  exact Zo).keep hkf)
 exact VS):qP:=h
theorem EQ(h:qP:=by
 intro vals γ w' ρ hR hN hp hρ zs zg;have HR:=hR;have HN:=hN;refine Qr ?_;exact ⟨γ.put 7 (some w'.heap.size),LX.new (by decide) (HN.o.2 (by decide) ⟨8,by decide⟩) _ _,INA,VarX.new HR.o.inb0 rfl (λ_ _ h=>h.elim)⟩):qP:=h
theorem BmA(h:qP:=by
 have h9:=hR.old 7 g hk h;cases h9):qP:=h
theorem FN(h:qP:=by
 rcases Nat.lt_or_ge g w3.heap.size with h|h
 ·exact BmA
 ·exact h):qP:=h
theorem EI(h:qP:=by
 rw [v7] at v9';injection v9' with v9';injection v9' with v9';injection v9' with v9';omega):qP:=h
theorem I3(h:qP:=by
 rw [HRR.o]
 simpa [JR,Ap] using hbb):qP:=h
theorem FU(h:qP:=by
 rw [<-hw7] at hbb;exact I3):qP:=h
theorem UO(h:qP:=by
 have HAB:=Hd (show AbM w7 (λb=>T b/\b<w.heap.size) r0 none 0 none 0 from AbM.nil (by rw [HRR.o];exact ⟨rfl,rfl⟩));clear hw7 p0 rf rl p4 r12;exact GL):qP:=h
theorem Tw(h:qP:=by
 intro vals γ w' ρ hR hN hp hρ hc hf hg;refine ⟨rfl,?_⟩;have e16:ρ (.tmp 16)=_:=(hρ 16).trans (hp 6 (by decide));obtain ⟨g,⟨cl⟩,hv,hcs,hb,hk,hst⟩:=H8A (hp 7 (by decide)) (s:=8) (l:=[(8,[7])]) (by decide) hN;have e4:=(hρ 4).trans hv
 match cl,hcs with
 |[x0,x1,x2,x3,x4,x5,x6,x7,x8,x9,x10,x11,x12,x13,x14,x15,x16,x17],_ =>
  have hup:UpN w3.heap.size (vals 7):=⟨g,hv,by
    exact FN⟩
  have HST:=Hd hst;have HK:=Hd hk;refine BY 39 rfl e4 e16 hb AH rfl (by kernel_rfl) ?_;intro w4 hb4 ho4;obtain ⟨g1,g2⟩:=HST.o _ #[.I 16,.I 0,.I 0,.I 0,.string ⟨#[]⟩,.string ⟨#[]⟩,.I 0,.I 0,.I 0,.I 0,.I 0,.I 0,.I 0,.I 0,.I 0,.slice none 0 0,.slice none 0 0,.bool false] ho4 hb4 rfl;exact ⟨γ.put 7 none,g1,LM.done (by decide) (.inl ⟨g,HK.o⟩),⟨g2,hup⟩⟩):qP:=h
theorem EK(h:qP:=by simp [CO,NO,hk]):qP:=h
theorem I5(h:qP:=by simp [CO,hk]):qP:=h
theorem Af(h:qP:=by exfalso;revert h;simp [CO,NO,hk];try decide):qP:=h
theorem FT(h:qP:=by rw [HRR.o];exact ⟨rfl,rfl⟩):qP:=h
theorem CP(h:qP:=by simp [CO,JR,hk]):qP:=h
theorem BR(h:qP:=by have:=HU5.o;have:=HSU.o;omega):qP:=h
theorem DKA(q:Nat)(x:Val)(B C:OA)(cb cc:Nat)(w:World)(T:NP)(hx:RV w T q x B C)(hcap:x.cols.length<=cb) :
  Cl 12 #[(Vq x B cb C cc)] w (Eh w T (ofA x)):=by
 obtain ⟨w0,hw0⟩:=eqx ((w.alloc (.cells (Vp x B cb C cc) 29)).alloc (.cells Az 39));obtain ⟨g1,hg1⟩:=eqx w.heap.size;obtain ⟨g2,hg2⟩:=eqx (w.heap.size+1);have hx0:Ext w w0:=Bh;have hb1:Blk w0 g1 29 (Vp x B cb C cc):=Ic;have hb2:Blk w0 g2 39 Az:=(by rw [hw0,hg2];exact H6A _ _ _ _);obtain ⟨HW0,HG1,HG2,HX0,HB1,HB2,HV⟩:=Hd7 hw0 hg1 hg2 hx0 hb1 hb2 ((hx.mono (T:=λb=>T b/\b<w.heap.size) λi hi hs=>⟨hs,hi⟩).keep (hx0.kept _));have b3:=Hd (C8A q x B C cb cc w0 _ HV.o);have hss:=hx.size;have hcp:=hcap;obtain ⟨p0,p1,p2,p3,p4,p5,p6⟩:=hb1.qs7;clear hw0 hg1 hg2 hx0 hb1 hb2 hx hcap
 go_enter func12,ntmps12
 go_upto_region 1 with fail
 rw [<-HW0.o,<-HG2.o,<-HG1.o]
 go_wp2_with fail
 cases hr:BC x
 ·have HF:=Hd (show ofA x=noneA by unfold ofA;rw [hr];rfl);rw [hr] at b3;clear hr;refine b3.o.mono ?_;rintro e3 w3 ⟨rfl,hx3⟩;have HX3:=Hd hx3;clear hx3 p0 p1 p2 p3 p4 p5 p6
  go_wp2_with fail
  refine (QV _).mono ?_;rintro e4 w4 ⟨rfl,hx4⟩;have hb24:=HB2.o.keep ((HX3.o.trans hx4).kept _);have HX4:=Hd (HX3.o.trans hx4);rename_i K1 hK1 K2 hK2;refine hK2 _ _ ?_;refine AM rfl 39 _ _ rfl g2 (Ap noneA none 0 none 0) rfl rfl 39 _ hb24 AH rfl AD ?_;intro wf hbf hof;refine hK1 _ _ ?_;have HXF:=Hd ((HX0.o.trans HX4.o).only hof Bq);have HBF:=Hd hbf;clear hbf hof hx4 hb24 hK1 hK2
  go_wp2_with fail
  refine bodyPost_ret (Bv results12 rfl (Eq HBF.o AS AH)) rfl ?_;exact UU
 have HR:=Hd hr;rw [hr] at b3;have HOF:=Hd (show ofA x=AX (CO x) by unfold ofA;rw [hr];rfl);clear hr;refine b3.o.mono ?_;rintro e3 w3 ⟨rfl,hx3⟩;obtain ⟨HX3,HSU,P0⟩:=Hd3 hx3 hx3.size (hx3.cell p0);clear hx3 p0 p1 p2 p3 p4 p5 p6
 rcases Dh HR.o with hk|hk|hk|hk|hk|hk
 ·obtain ⟨r0,O⟩:∃ z:Abs,z = { JR with kinds:=1,errs:=true }:=⟨_,rfl⟩;obtain ⟨HCE,HRR,HRN⟩:=Hd3 (show AX (CO x)=AX r0 by rw [O];exact DO EK I5 (λh=>Af) (λh=>Af) (λh=>Af) (λh=>Af) (λh=>Af)) O (show AbN 1000000 r0 by rw [O];exact ⟨AN,AN,AN,AN,λd hd=>BQ⟩);clear O
  go_upto_region 4 with fail
  refine Qb (fun|8=>[7,8]|i=>[i]) (λ_ _=>False) [(8,[7])] ?_
  iterate 7 refine Qp ?_
  refine Qs (FP (VarX (λ_ _=>False) 7 39 18)) (H1A IAA) ?_ ?_
  ·exact EQ
  refine Chain.step (λvl γ w'=>match vl with|[p,_]=>VarXI (λ_ _=>False) 39 p #[.I 1,.I 0,.I 0,.I 0,.string ⟨#[]⟩,.string ⟨#[]⟩,.I 0,.I 0,.I 0,.I 0,.I 0,.I 0,.I 0,.I 0,.I 0,.slice none 0 0,.slice none 0 0,.bool true] γ w'/\UpN w3.heap.size p|_=>True) AG ?_ ?_ ?_
  ·exact Cm
  ·intro vals γ w' ρ hR hN hp hρ hc hf hg;refine ⟨rfl,?_⟩;have e16:ρ (.tmp 16)=_:=(hρ 16).trans (hp 6 AB);obtain ⟨g,⟨cl⟩,hv,hcs,hb,hk,hst⟩:=H8A (hp 7 AB) (s:=8) (l:=[(8,[7])]) AB hN;have e4:=(hρ 4).trans hv
   match cl,hcs with
   |[x0,x1,x2,x3,x4,x5,x6,x7,x8,x9,x10,x11,x12,x13,x14,x15,x16,x17],_ =>
    have hup:UpN w3.heap.size (vals 7):=⟨g,hv,by
      exact FN⟩
    have HST:=Hd hst;have HK:=Hd hk;refine BY 39 rfl e4 e16 hb AH rfl AD ?_;intro w4 hb4 ho4;obtain ⟨g1,g2⟩:=HST.o _ #[.I 1,.I 0,.I 0,.I 0,.string ⟨#[]⟩,.string ⟨#[]⟩,.I 0,.I 0,.I 0,.I 0,.I 0,.I 0,.I 0,.I 0,.I 0,.slice none 0 0,.slice none 0 0,.bool true] ho4 hb4 rfl;exact ⟨γ.put 7 none,g1,LM.done AB (.inl ⟨g,HK.o⟩),⟨g2,hup⟩⟩
  intro vals γ w4 hR hG;obtain ⟨⟨g5,v7,Y,-,-⟩,g6,v9',a8⟩:=hG 8 AB;have Z:w3.heap.size<=g5:=by
   exact EI
  refine Qx ?_;simp only [v7];obtain ⟨HX5,HB5,HU5⟩:=Hd3 (show Ext w3 w4 from hR.ext0 (λ_ _ h=>h.elim)) Y Z;clear hR hG Y v7 v9' Z a8;have HX4:=Hd (HX3.o.trans HX5.o);have U:=HB1.o.keep (HX4.o.kept _);have p0:=U.q0;clear U;have rf:=HB5.o.frozen;have rl:=HB5.o.lt
  go_upto_region 18 with fail
  obtain ⟨w7,hw7⟩:=eqx w4;rw [<-hw7] at HB5|-;have HX7:=Hd (show Ext w0 w7 by rw [hw7];exact HX4.o);have HB7:=Hd (show Blk w7 g5 39 (Ap r0 none 0 none 0) by
   have hbb:=HB5.o;exact I3)
  have HAB:=Hd (show AbM w7 (λb=>T b/\b<w.heap.size) r0 none 0 none 0 from AbM.nil FT);clear hw7 p0 rf rl;exact GL
 ·obtain ⟨r0,O⟩:∃ z:Abs,z = { JR with kinds:=2,tx:=ofS x.s }:=⟨_,rfl⟩;obtain ⟨HCE,HRR,HRN⟩:=Hd3 (show AX (CO x)=AX r0 by rw [O];exact DO EK CP (λ_=>I5) (λh=>Af) (λh=>Af) (λh=>Af) (λh=>Af)) O (show AbN 1000000 r0 by rw [O];exact ⟨Nat.le_trans (YT x.s).1 AB,Nat.le_trans (YT x.s).2 AB,AN,AN,λd hd=>BQ⟩);clear O
  go_upto_region 4 with fail
  refine Qb (fun|8=>[7,8]|i=>[i]) (λ_ _=>False) [(8,[7])] ?_
  iterate 7 refine Qp ?_
  refine Qs (FP (VarX (λ_ _=>False) 7 39 18)) (H1A IAA) ?_ ?_
  ·exact EQ
  refine Chain.step (λvl γ w'=>match vl with|[p,_]=>VarXI (λ_ _=>False) 39 p #[.I 2,.I 0,.I 0,.I 0,.string ⟨#[]⟩,.string ⟨#[]⟩,.I 0,.I 0,.I 0,.I 0,.I 0,.I 0,.I 0,.I 0,.I 0,.slice none 0 0,.slice none 0 0,.bool false] γ w'/\UpN w3.heap.size p|_=>True) AG ?_ ?_ ?_
  ·exact Cm
  ·intro vals γ w' ρ hR hN hp hρ hc hf hg;refine ⟨rfl,?_⟩;have e16:ρ (.tmp 16)=_:=(hρ 16).trans (hp 6 AB);obtain ⟨g,⟨cl⟩,hv,hcs,hb,hk,hst⟩:=H8A (hp 7 AB) (s:=8) (l:=[(8,[7])]) AB hN;have e4:=(hρ 4).trans hv
   match cl,hcs with
   |[x0,x1,x2,x3,x4,x5,x6,x7,x8,x9,x10,x11,x12,x13,x14,x15,x16,x17],_ =>
    have hup:UpN w3.heap.size (vals 7):=⟨g,hv,by
      exact FN⟩
    have HST:=Hd hst;have HK:=Hd hk;refine BY 39 rfl e4 e16 hb AH rfl AD ?_;intro w4 hb4 ho4;obtain ⟨g1,g2⟩:=HST.o _ #[.I 2,.I 0,.I 0,.I 0,.string ⟨#[]⟩,.string ⟨#[]⟩,.I 0,.I 0,.I 0,.I 0,.I 0,.I 0,.I 0,.I 0,.I 0,.slice none 0 0,.slice none 0 0,.bool false] ho4 hb4 rfl;exact ⟨γ.put 7 none,g1,LM.done AB (.inl ⟨g,HK.o⟩),⟨g2,hup⟩⟩
  intro vals γ w4 hR hG;obtain ⟨⟨g5,v7,Y,-,-⟩,g6,v9',a8⟩:=hG 8 AB;have Z:w3.heap.size<=g5:=by
   exact EI
  refine Qx ?_;simp only [v7];obtain ⟨HX5,HB5,HU5⟩:=Hd3 (show Ext w3 w4 from hR.ext0 (λ_ _ h=>h.elim)) Y Z;clear hR hG Y v7 v9' Z a8;have HX4:=Hd (HX3.o.trans HX5.o);have U:=HB1.o.keep (HX4.o.kept _);obtain ⟨p0,p1⟩:=U.qs2;clear U
  go_wp2_with fail
  refine (DOA x.s hss _).mono ?_;rintro e6 w6 ⟨rfl,hx6⟩;have HX6:=Hd (HX4.o.trans hx6);have a9:=Hd (HB5.o.keep (hx6.kept _));clear hx6;have rf:=a9.o.frozen;have rl:=a9.o.lt;have r1:w6.cell? ⟨g5,1,none⟩=some (.I 0):=a9.o.q1;have r2:w6.cell? ⟨g5,2,none⟩=some (.I 0):=a9.o.q2;have r3:w6.cell? ⟨g5,3,none⟩=some (.I 0):=a9.o.q3;have r4:w6.cell? ⟨g5,4,none⟩=some (.string ⟨#[]⟩):=a9.o.q4;have r5:w6.cell? ⟨g5,5,none⟩=some (.string ⟨#[]⟩):=a9.o.q5
  go_upto_region 18 with fail
  obtain ⟨w7,hw7⟩:=eqx ((((((w6.setCell ⟨g5,1,none⟩ (.I (ofS x.s).least)).setCell ⟨g5,2,none⟩ (.I (ofS x.s).most)).setCell ⟨g5,3,none⟩ (.I (ofS x.s).cls)).setCell ⟨g5,4,none⟩ (.string (ofS x.s).b)).setCell ⟨g5,5,none⟩ (.string (ofS x.s).e)));rw [<-hw7];have HX7:=Hd (show Ext w0 w7 by rw [hw7];exact (((((HX6.o.set2 BR _).set2 BR _).set2 BR _).set2 BR _).set2 BR _));have HB7:=Hd (show Blk w7 g5 39 (Ap r0 none 0 none 0) by
   have hbb:=(((((a9.o.set 1 (.I (ofS x.s).least)).set 2 (.I (ofS x.s).most)).set 3 (.I (ofS x.s).cls)).set 4 (.string (ofS x.s).b)).set 5 (.string (ofS x.s).e));exact FU)
  have HAB:=Hd (show AbM w7 (λb=>T b/\b<w.heap.size) r0 none 0 none 0 from AbM.nil FT);clear hw7 p0 rf rl p1 r1 r2 r3 r4 r5;exact GL
 ·obtain ⟨r0,O⟩:∃ z:Abs,z = { JR with kinds:=4,nu:=⟨x.dn,x.ds,x.dn,x.ds⟩ }:=⟨_,rfl⟩;obtain ⟨HCE,HRR,HRN⟩:=Hd3 (show AX (CO x)=AX r0 by rw [O];exact DO EK CP (λh=>Af) (λ_=>I5) (λh=>Af) (λh=>Af) (λh=>Af)) O (show AbN 1000000 r0 by rw [O];exact ⟨AN,AN,AN,AN,λd hd=>BQ⟩);clear O
  go_upto_region 4 with fail
  refine Qb (fun|8=>[7,8]|i=>[i]) (λ_ _=>False) [(8,[7])] ?_
  iterate 7 refine Qp ?_
  refine Qs (FP (VarX (λ_ _=>False) 7 39 18)) (H1A IAA) ?_ ?_
  ·exact EQ
  refine Chain.step (λvl γ w'=>match vl with|[p,_]=>VarXI (λ_ _=>False) 39 p #[.I 4,.I 0,.I 0,.I 0,.string ⟨#[]⟩,.string ⟨#[]⟩,.I 0,.I 0,.I 0,.I 0,.I 0,.I 0,.I 0,.I 0,.I 0,.slice none 0 0,.slice none 0 0,.bool false] γ w'/\UpN w3.heap.size p|_=>True) AG ?_ ?_ ?_
  ·exact Cm
  ·intro vals γ w' ρ hR hN hp hρ hc hf hg;refine ⟨rfl,?_⟩;have e16:ρ (.tmp 16)=_:=(hρ 16).trans (hp 6 AB);obtain ⟨g,⟨cl⟩,hv,hcs,hb,hk,hst⟩:=H8A (hp 7 AB) (s:=8) (l:=[(8,[7])]) AB hN;have e4:=(hρ 4).trans hv
   match cl,hcs with
   |[x0,x1,x2,x3,x4,x5,x6,x7,x8,x9,x10,x11,x12,x13,x14,x15,x16,x17],_ =>
    have hup:UpN w3.heap.size (vals 7):=⟨g,hv,by
      exact FN⟩
    have HST:=Hd hst;have HK:=Hd hk;refine BY 39 rfl e4 e16 hb AH rfl AD ?_;intro w4 hb4 ho4;obtain ⟨g1,g2⟩:=HST.o _ #[.I 4,.I 0,.I 0,.I 0,.string ⟨#[]⟩,.string ⟨#[]⟩,.I 0,.I 0,.I 0,.I 0,.I 0,.I 0,.I 0,.I 0,.I 0,.slice none 0 0,.slice none 0 0,.bool false] ho4 hb4 rfl;exact ⟨γ.put 7 none,g1,LM.done AB (.inl ⟨g,HK.o⟩),⟨g2,hup⟩⟩
  intro vals γ w4 hR hG;obtain ⟨⟨g5,v7,Y,-,-⟩,g6,v9',a8⟩:=hG 8 AB;have Z:w3.heap.size<=g5:=by
   exact EI
  refine Qx ?_;simp only [v7];obtain ⟨HX5,HB5,HU5⟩:=Hd3 (show Ext w3 w4 from hR.ext0 (λ_ _ h=>h.elim)) Y Z;clear hR hG Y v7 v9' Z a8;have HX4:=Hd (HX3.o.trans HX5.o);have U:=HB1.o.keep (HX4.o.kept _);have p0:=U.q0;have p2:=U.q2;have p3:=U.q3;clear U;have rf:=HB5.o.frozen;have rl:=HB5.o.lt;have r6:w4.cell? ⟨g5,6,none⟩=some (.I 0):=HB5.o.q6;have r7:w4.cell? ⟨g5,7,none⟩=some (.I 0):=HB5.o.q7;have r8:w4.cell? ⟨g5,8,none⟩=some (.I 0):=HB5.o.q8;have r9:w4.cell? ⟨g5,9,none⟩=some (.I 0):=HB5.o.q9
  go_upto_region 18 with fail
  obtain ⟨w7,hw7⟩:=eqx (((((w4.setCell ⟨g5,6,none⟩ (.I x.dn)).setCell ⟨g5,7,none⟩ (.I x.ds)).setCell ⟨g5,8,none⟩ (.I x.dn)).setCell ⟨g5,9,none⟩ (.I x.ds)));rw [<-hw7];have HX7:=Hd (show Ext w0 w7 by rw [hw7];exact ((((HX4.o.set2 BR _).set2 BR _).set2 BR _).set2 BR _));have HB7:=Hd (show Blk w7 g5 39 (Ap r0 none 0 none 0) by
   have hbb:=((((HB5.o.set 6 (.I x.dn)).set 7 (.I x.ds)).set 8 (.I x.dn)).set 9 (.I x.ds));exact FU)
  have HAB:=Hd (show AbM w7 (λb=>T b/\b<w.heap.size) r0 none 0 none 0 from AbM.nil FT);clear hw7 p0 rf rl p2 p3 r6 r7 r8 r9;exact GL
 ·obtain ⟨r0,O⟩:∃ z:Abs,z = { JR with kinds:=8,dl:=x.n,dh:=x.n }:=⟨_,rfl⟩;obtain ⟨HCE,HRR,HRN⟩:=Hd3 (show AX (CO x)=AX r0 by rw [O];exact DO EK CP (λh=>Af) (λh=>Af) (λ_=>I5) (λh=>Af) (λh=>Af)) O (show AbN 1000000 r0 by rw [O];exact ⟨AN,AN,AN,AN,λd hd=>BQ⟩);clear O
  go_upto_region 4 with fail
  refine Qb (fun|8=>[7,8]|i=>[i]) (λ_ _=>False) [(8,[7])] ?_
  iterate 7 refine Qp ?_
  refine Qs (FP (VarX (λ_ _=>False) 7 39 18)) (H1A IAA) ?_ ?_
  ·exact EQ
  refine Chain.step (λvl γ w'=>match vl with|[p,_]=>VarXI (λ_ _=>False) 39 p #[.I 8,.I 0,.I 0,.I 0,.string ⟨#[]⟩,.string ⟨#[]⟩,.I 0,.I 0,.I 0,.I 0,.I 0,.I 0,.I 0,.I 0,.I 0,.slice none 0 0,.slice none 0 0,.bool false] γ w'/\UpN w3.heap.size p|_=>True) AG ?_ ?_ ?_
  ·exact Cm
  ·intro vals γ w' ρ hR hN hp hρ hc hf hg;refine ⟨rfl,?_⟩;have e16:ρ (.tmp 16)=_:=(hρ 16).trans (hp 6 AB);obtain ⟨g,⟨cl⟩,hv,hcs,hb,hk,hst⟩:=H8A (hp 7 AB) (s:=8) (l:=[(8,[7])]) AB hN;have e4:=(hρ 4).trans hv
   match cl,hcs with
   |[x0,x1,x2,x3,x4,x5,x6,x7,x8,x9,x10,x11,x12,x13,x14,x15,x16,x17],_ =>
    have hup:UpN w3.heap.size (vals 7):=⟨g,hv,by
      exact FN⟩
    have HST:=Hd hst;have HK:=Hd hk;refine BY 39 rfl e4 e16 hb AH rfl AD ?_;intro w4 hb4 ho4;obtain ⟨g1,g2⟩:=HST.o _ #[.I 8,.I 0,.I 0,.I 0,.string ⟨#[]⟩,.string ⟨#[]⟩,.I 0,.I 0,.I 0,.I 0,.I 0,.I 0,.I 0,.I 0,.I 0,.slice none 0 0,.slice none 0 0,.bool false] ho4 hb4 rfl;exact ⟨γ.put 7 none,g1,LM.done AB (.inl ⟨g,HK.o⟩),⟨g2,hup⟩⟩
  intro vals γ w4 hR hG;obtain ⟨⟨g5,v7,Y,-,-⟩,g6,v9',a8⟩:=hG 8 AB;have Z:w3.heap.size<=g5:=by
   exact EI
  refine Qx ?_;simp only [v7];obtain ⟨HX5,HB5,HU5⟩:=Hd3 (show Ext w3 w4 from hR.ext0 (λ_ _ h=>h.elim)) Y Z;clear hR hG Y v7 v9' Z a8;have HX4:=Hd (HX3.o.trans HX5.o);have U:=HB1.o.keep (HX4.o.kept _);have p0:=U.q0;have p4:=U.q4;clear U;have rf:=HB5.o.frozen;have rl:=HB5.o.lt;have r10:w4.cell? ⟨g5,10,none⟩=some (.I 0):=HB5.o.q10;have r11:w4.cell? ⟨g5,11,none⟩=some (.I 0):=HB5.o.q11
  go_upto_region 18 with fail
  obtain ⟨w7,hw7⟩:=eqx (((w4.setCell ⟨g5,10,none⟩ (.I x.n)).setCell ⟨g5,11,none⟩ (.I x.n)));rw [<-hw7];have HX7:=Hd (show Ext w0 w7 by rw [hw7];exact ((HX4.o.set2 BR _).set2 BR _));have HB7:=Hd (show Blk w7 g5 39 (Ap r0 none 0 none 0) by
   have hbb:=((HB5.o.set 10 (.I x.n)).set 11 (.I x.n));exact FU)
  have HAB:=Hd (show AbM w7 (λb=>T b/\b<w.heap.size) r0 none 0 none 0 from AbM.nil FT);clear hw7 p0 rf rl p4 r10 r11;exact GL
 ·have hbn:=Gx HR.o hk
  rcases hbn with h4|h4
  ·obtain ⟨r0,O⟩:∃ z:Abs,z = { JR with kinds:=16,bo:=1 }:=⟨_,rfl⟩;obtain ⟨HCE,HRR,HRN⟩:=Hd3 (show AX (CO x)=AX r0 by rw [O];exact DO EK CP (λh=>Af) (λh=>Af) (λh=>Af) (λ_=>by simp [CO,hk,h4]) (λh=>Af)) O (show AbN 1000000 r0 by rw [O];exact ⟨AN,AN,AN,AN,λd hd=>BQ⟩);clear O;have hw1:IntKind.i64.wrap 1=1:=rfl
   go_upto_region 4 with fail
   refine Qb (fun|8=>[7,8]|i=>[i]) (λ_ _=>False) [(8,[7])] ?_
   iterate 7 refine Qp ?_
   refine Qs (FP (VarX (λ_ _=>False) 7 39 18)) (H1A IAA) ?_ ?_
   ·exact EQ
   refine Chain.step (λvl γ w'=>match vl with|[p,_]=>VarXI (λ_ _=>False) 39 p #[.I 16,.I 0,.I 0,.I 0,.string ⟨#[]⟩,.string ⟨#[]⟩,.I 0,.I 0,.I 0,.I 0,.I 0,.I 0,.I 0,.I 0,.I 0,.slice none 0 0,.slice none 0 0,.bool false] γ w'/\UpN w3.heap.size p|_=>True) AG ?_ ?_ ?_
   ·exact Cm
   ·exact Tw
   intro vals γ w4 hR hG;obtain ⟨⟨g5,v7,Y,-,-⟩,g6,v9',a8⟩:=hG 8 AB;have Z:w3.heap.size<=g5:=by
    exact EI
   refine Qx ?_;simp only [v7];obtain ⟨HX5,HB5,HU5⟩:=Hd3 (show Ext w3 w4 from hR.ext0 (λ_ _ h=>h.elim)) Y Z;clear hR hG Y v7 v9' Z a8;have HX4:=Hd (HX3.o.trans HX5.o);have U:=HB1.o.keep (HX4.o.kept _);have p0:=U.q0;have p4:=U.q4;clear U;have rf:=HB5.o.frozen;have rl:=HB5.o.lt;have r12:w4.cell? ⟨g5,12,none⟩=some (.I 0):=HB5.o.q12
   go_upto_region 18 with fail
   obtain ⟨w7,hw7⟩:=eqx (w4.setCell ⟨g5,12,none⟩ (.I 1));rw [<-hw7];have HX7:=Hd (show Ext w0 w7 by rw [hw7];exact (HX4.o.set2 BR _));have HB7:=Hd (show Blk w7 g5 39 (Ap r0 none 0 none 0) by
    have hbb:=(HB5.o.set 12 (.I 1));exact FU)
   exact UO
  ·obtain ⟨r0,O⟩:∃ z:Abs,z = { JR with kinds:=16,bo:=2 }:=⟨_,rfl⟩;obtain ⟨HCE,HRR,HRN⟩:=Hd3 (show AX (CO x)=AX r0 by rw [O];exact DO EK CP (λh=>Af) (λh=>Af) (λh=>Af) (λ_=>by simp [CO,hk,h4]) (λh=>Af)) O (show AbN 1000000 r0 by rw [O];exact ⟨AN,AN,AN,AN,λd hd=>BQ⟩);clear O;have hw1:IntKind.i64.wrap 2=2:=rfl
   go_upto_region 4 with fail
   refine Qb (fun|8=>[7,8]|i=>[i]) (λ_ _=>False) [(8,[7])] ?_
   iterate 7 refine Qp ?_
   refine Qs (FP (VarX (λ_ _=>False) 7 39 18)) (H1A IAA) ?_ ?_
   ·exact EQ
   refine Chain.step (λvl γ w'=>match vl with|[p,_]=>VarXI (λ_ _=>False) 39 p #[.I 16,.I 0,.I 0,.I 0,.string ⟨#[]⟩,.string ⟨#[]⟩,.I 0,.I 0,.I 0,.I 0,.I 0,.I 0,.I 0,.I 0,.I 0,.slice none 0 0,.slice none 0 0,.bool false] γ w'/\UpN w3.heap.size p|_=>True) AG ?_ ?_ ?_
   ·exact Cm
   ·exact Tw
   intro vals γ w4 hR hG;obtain ⟨⟨g5,v7,Y,-,-⟩,g6,v9',a8⟩:=hG 8 AB;have Z:w3.heap.size<=g5:=by
    exact EI
   refine Qx ?_;simp only [v7];obtain ⟨HX5,HB5,HU5⟩:=Hd3 (show Ext w3 w4 from hR.ext0 (λ_ _ h=>h.elim)) Y Z;clear hR hG Y v7 v9' Z a8;have HX4:=Hd (HX3.o.trans HX5.o);have U:=HB1.o.keep (HX4.o.kept _);have p0:=U.q0;have p4:=U.q4;clear U;have rf:=HB5.o.frozen;have rl:=HB5.o.lt;have r12:w4.cell? ⟨g5,12,none⟩=some (.I 0):=HB5.o.q12
   go_upto_region 18 with fail
   obtain ⟨w7,hw7⟩:=eqx (w4.setCell ⟨g5,12,none⟩ (.I 2));rw [<-hw7];have HX7:=Hd (show Ext w0 w7 by rw [hw7];exact (HX4.o.set2 BR _));have HB7:=Hd (show Blk w7 g5 39 (Ap r0 none 0 none 0) by
    have hbb:=(HB5.o.set 12 (.I 2));exact FU)
   exact UO
 ·obtain ⟨r0,O⟩:∃ z:Abs,z = { JR with kinds:=32,rl:=x.rows.length,rh:=x.rows.length,cols:=x.cols,deps:=Co x.cols x.rows }:=⟨_,rfl⟩;have HCE:=Hd (show AX (CO x)=AX r0 by rw [O];exact DO EK CP (λh=>Af) (λh=>Af) (λh=>Af) (λh=>Af) (λ_=>I5));have HRR:=Hd O;have hc8:=Jm HR.o hk;have HRN:=Hd (show AbN 1000000 r0 by rw [O];exact ⟨AN,AN,by show x.cols.length<=_;omega,Nat.le_trans (Ju _ _ hc8).1 AB,λd hd=>Nat.le_trans ((Ju _ _ hc8).2 d hd) AB⟩);clear O
  go_upto_region 4 with fail
  refine Qb (fun|8=>[7,8]|i=>[i]) (λ_ _=>False) [(8,[7])] ?_
  iterate 7 refine Qp ?_
  refine Qs (FP (VarX (λ_ _=>False) 7 39 18)) (H1A IAA) ?_ ?_
  ·exact EQ
  refine Chain.step (λvl γ w'=>match vl with|[p,_]=>VarXI (λ_ _=>False) 39 p #[.I 32,.I 0,.I 0,.I 0,.string ⟨#[]⟩,.string ⟨#[]⟩,.I 0,.I 0,.I 0,.I 0,.I 0,.I 0,.I 0,.I 0,.I 0,.slice none 0 0,.slice none 0 0,.bool false] γ w'/\UpN w3.heap.size p|_=>True) AG ?_ ?_ ?_
  ·exact Cm
  ·intro vals γ w' ρ hR hN hp hρ hc hf hg;refine ⟨rfl,?_⟩;have e16:ρ (.tmp 16)=_:=(hρ 16).trans (hp 6 AB);obtain ⟨g,⟨cl⟩,hv,hcs,hb,hk,hst⟩:=H8A (hp 7 AB) (s:=8) (l:=[(8,[7])]) AB hN;have e4:=(hρ 4).trans hv
   match cl,hcs with
   |[x0,x1,x2,x3,x4,x5,x6,x7,x8,x9,x10,x11,x12,x13,x14,x15,x16,x17],_ =>
    have hup:UpN w3.heap.size (vals 7):=⟨g,hv,by
      exact FN⟩
    have HST:=Hd hst;have HK:=Hd hk;refine BY 39 rfl e4 e16 hb AH rfl AD ?_;intro w4 hb4 ho4;obtain ⟨g1,g2⟩:=HST.o _ #[.I 32,.I 0,.I 0,.I 0,.string ⟨#[]⟩,.string ⟨#[]⟩,.I 0,.I 0,.I 0,.I 0,.I 0,.I 0,.I 0,.I 0,.I 0,.slice none 0 0,.slice none 0 0,.bool false] ho4 hb4 rfl;exact ⟨γ.put 7 none,g1,LM.done AB (.inl ⟨g,HK.o⟩),⟨g2,hup⟩⟩
  intro vals γ w4 hR hG;obtain ⟨⟨g5,v7,Y,-,-⟩,g6,v9',a8⟩:=hG 8 AB;have Z:w3.heap.size<=g5:=by
   exact EI
  refine Qx ?_;simp only [v7];obtain ⟨HX5,HB5,HU5⟩:=Hd3 (show Ext w3 w4 from hR.ext0 (λ_ _ h=>h.elim)) Y Z;clear hR hG Y v7 v9' Z a8;have HX4:=Hd (HX3.o.trans HX5.o);have U:=HB1.o.keep (HX4.o.kept _);have p0:=U.q0;have p5:=U.q5;have p6:=U.q6;clear U;have rf:=HB5.o.frozen;have rl:=HB5.o.lt;have r13:w4.cell? ⟨g5,13,none⟩=some (.I 0):=HB5.o.q13;have r14:w4.cell? ⟨g5,14,none⟩=some (.I 0):=HB5.o.q14;have r15:w4.cell? ⟨g5,15,none⟩=some (.slice none 0 0):=HB5.o.q15
  go_upto_region 17 with fail
  obtain ⟨w6,hw6⟩:=eqx ((((w4.setCell ⟨g5,13,none⟩ (.I (x.rows.length:Int))).setCell ⟨g5,14,none⟩ (.I (x.rows.length:Int))).setCell ⟨g5,15,none⟩ (.slice B x.cols.length cb)));rw [<-hw6];have HX6:=Hd (show Ext w0 w6 by rw [hw6];exact (((HX4.o.set2 BR _).set2 BR _).set2 BR _));have a9:=Hd (show Blk w6 g5 39 #[.I 32,.I 0,.I 0,.I 0,.string ⟨#[]⟩,.string ⟨#[]⟩,.I 0,.I 0,.I 0,.I 0,.I 0,.I 0,.I 0,.I (x.rows.length:Int),.I (x.rows.length:Int),.slice B x.cols.length cb,.slice none 0 0,.bool false] by
   have hbb:=(((HB5.o.set 13 (.I (x.rows.length:Int))).set 14 (.I (x.rows.length:Int))).set 15 (.slice B x.cols.length cb));rw [<-hw6] at hbb
   simpa [Ap] using hbb)
  clear hw6 rf rl p0 p5 p6 r13 r14 r15;have HV6:=Hd (HV.o.keep (HX6.o.kept _));have HKY:=Hd (DzA q x.cols x.rows B C cb cc w6 _ _ HV6.o.strs HV6.o.rows_ AA hcp);have U:=HB1.o.keep (HX6.o.kept _);have p5:=U.q5;have p6:=U.q6;clear U
  go_wp2_with fail
  refine HKY.o.mono ?_;rintro e9 w9 ⟨D9,b0,rfl,hcd,hod,b5⟩;obtain ⟨HX9,b4,HV9⟩:=Hd3 (HX6.o.trans b5) (a9.o.keep (b5.kept _)) (HV6.o.keep (b5.kept _));have hg5l:=a9.o.lt;have hkl:=Ju x.cols x.rows hc8;have HRD:=Hd (hod.rdeps (T:=λb=>w6.heap.size<=b) AA (λb hb=>(hod.blk hb).1) (λb hb=>hb));have HCD:=Hd hcd;clear b5 hod hcd p5 p6;have rf:=b4.o.frozen;have rl:=b4.o.lt;have r16:w9.cell? ⟨g5,16,none⟩=some (.slice none 0 0):=b4.o.q16
  go_upto_region 18 with fail
  obtain ⟨w7,hw7⟩:=eqx (w9.setCell ⟨g5,16,none⟩ (.slice D9 (Co x.cols x.rows).length b0));rw [<-hw7];have HX7:=Hd (show Ext w0 w7 by rw [hw7];exact HX9.o.set2 BR _);have HB7:=Hd (show Blk w7 g5 39 (Ap r0 B cb D9 b0) by
   have hbb:=b4.o.set 16 (.slice D9 (Co x.cols x.rows).length b0);exact FU)
  have hk7:Kept (λb=>(T b/\b<w.heap.size)\/w6.heap.size<=b) w9 w7:=(by rw [hw7];exact (Kept.refl _ _).set2 (λh=>by have:=HU5.o;have:=HSU.o;have:=HX0.o.size;rcases h with h | h;(have:=h.2;omega);omega));have HAB:=Hd (show AbM w7 (λb=>(T b/\b<w.heap.size)\/w6.heap.size<=b) r0 B cb D9 b0 by
   rw [HRR.o];exact ⟨hcp,HCD.o,(HV9.o.strs.keep (hk7.mono λb _ h=>.inl h)).mono λb _ h=>.inl h,(HRD.o.keep (hk7.mono λb _ h=>.inr h)).mono λb _ h=>.inr h⟩)
  clear hw7 hk7 r16 rf rl;have HCN:=Hd (EG r0 B D9 cb b0 w7 _ HAB.o.2.2.1 HAB.o.2.2.2 HRN.o);refine wp_region_lit ?_;refine AJ rfl 39 _ rfl g5 rfl HB7.o AS AH ?_
  go_wp2_with fail
  refine HCN.o.mono ?_;rintro e8 w8 ⟨A7,c7,D7,e7,rfl,hab8,hx8⟩;have HX8:=Hd (HX7.o.trans hx8);have hb28:=HB2.o.keep (HX8.o.kept _);rename_i K1 hK1 K2 hK2;refine hK2 _ _ ?_;refine AM rfl 39 _ _ rfl g2 (Ap (AX r0) A7 c7 D7 e7) rfl rfl 39 _ hb28 AH rfl AD ?_;intro wf hbf hof;refine hK1 _ _ ?_;have HXF:=Hd ((HX0.o.trans HX8.o).only hof Bq);have HBF:=Hd hbf;have hg5l:=HB7.o.lt;have hg2l:=HB2.o.lt;have hkf:=hof.kept (S:=λb=>(T b/\b<w.heap.size)\/w0.heap.size<=b) (λb _ hb e=>by have:=HG2.o;rcases hb with h | h;(have:=h.2;omega);omega);have HABF:=Hd ((hab8.mono (T:=λb=>(T b/\b<w.heap.size)\/w0.heap.size<=b) λb _ hb=>by
   rcases hb with h|h
   ·rcases h with h|h
    ·exact .inl h
    ·right;have:=HX6.o.size;omega
   ·exact PW).keep hkf)
  exact VS
