/- Lemmas. No conditions. -/
import Derived.Test.YtidacnalcdhckaaGreatDoorYq18
set_option maxRecDepth 100000
set_option maxHeartbeats 4000000
namespace Go.Proofs.YtidacnalcdhckaaGreatDoor
open Go Go.RowKit Tryz
variable {qP:Prop}{v:Val}

theorem Rj{w:World}{base c:Nat}{A:OA}{ls:List (List UInt8)}(h:Own w base 9 1 A ls.length c ((ls.map bsA).map Value.string))(hne:ls≠[])(hs:(Lib.join ls [32]).length<=140737488355328)(hn:ls.length<=1000) :
  Cl 100 #[.slice A ls.length c,.string ⟨#[32]⟩] w (Cu w (bsA (Lib.join ls [32]))):=by
 have hd:(ls.map bsA).map (λx:BA=>x.data.toList)=ls:=by
  rw [List.map_map];(conv=>rhs;rw [<-List.map_id ls]);exact List.map_congr_left λx _=>rfl
 rcases h.rd with h0|⟨b,o,hA,-,hlt,hc⟩
 ·simp at h0;exact absurd h0 hne
 ·subst hA;have hl:(ls.map bsA).length=ls.length:=List.length_map _;have hj:=Any.strings_Join Tryz.lt156 Tryz.xt156 b o c (ls.map bsA) ⟨#[32]⟩ w (λj x hj=>hc j _ (by rw [List.getElem?_map,hj];rfl)) hlt AA (by rw [hl];exact h.cap) (by rw [hd];exact hs);rw [hd,hl] at hj;exact hj

theorem QK(h:qP:=by
 rintro ee wz ⟨rfl,hx⟩;have HXZ:=Hd (HX.o.trans hx);clear hx hj hsz hbl;go_wp2;go_ret;exact ⟨by rw [HJN.o];rfl,HX0.o.trans HXZ.o⟩):qP:=h
theorem Pl(h:qP:=by
 rw [<-hjn] at hj;have HJN:=Hd (show jn=res by rw [hjn,HRES.o];simp [Lib.join_cons,Lib.joinTail]);clear hjn;refine Calls.mono (show Cl 100 #[.slice A9 1 c9,.string ⟨#[32]⟩] w8 _ from hj) ?_;exact QK):qP:=h
theorem MM(h:qP:=by
 rw [<-hca];exact As a A D c e w0 _ ((hA.mono (T:=λb=>S b/\b<w.heap.size) λi hi hs=>⟨hs,hi⟩).keep (hx0.kept _)) ((hD.mono (T:=λb=>S b/\b<w.heap.size) λi hi hs=>⟨hs,hi⟩).keep (hx0.kept _)) (ht.ext hx0).tens hz):qP:=h
theorem Od(h:qP:=by
 rw [show bt ca.kinds 2=false from by rw [HK.o];decide] at h;exact h):qP:=h
theorem Tt(h:qP:=by
 have h:=BI ca A2 D2 c2 e2 3 (by omega) w5;rw [show bt ca.kinds 3=false from by rw [HK.o];decide] at h;exact h):qP:=h
theorem Kg(h:qP:=by
 have h:=BI ca A2 D2 c2 e2 4 (by omega) w6;rw [show bt ca.kinds 4=false from by rw [HK.o];decide] at h;exact h):qP:=h
theorem LO(h:qP:=by
 have h:=BI ca A2 D2 c2 e2 5 (by omega) w7;rw [show bt ca.kinds 5=false from by rw [HK.o];decide] at h;exact h):qP:=h
theorem Ez(h:qP:=by rw [hg];exact Al):qP:=h
theorem Kw(h:qP:=by have h:=HB38.o.cell (i:=17) (u:=.bool ca.errs) rfl;rw [HER.o] at h;exact h):qP:=h
theorem MH(h:qP:=by have h:=HOW.o;rw [HTT.o] at h;exact h):qP:=h
theorem MC(h:qP:=by simp only [Lib.join_cons,Lib.joinTail,Lib.join_one,List.map_cons,List.map_nil,List.flatten_cons,List.flatten_nil,List.length_append,List.length_cons,List.length_nil];omega):qP:=h
theorem ON(a ca:Abs)(A D:OA)(c e:Nat)(w:World)(S:NP)(hA:Strs w S A a.cols)(hD:RDeps w S D a.deps)(hz:AbN 1000000 a)(ht:Txa w)(hca:AX a=ca)(hk:ca.kinds=2)(he:ca.errs=false)(hI:I64 ca.tx.least/\I64 ca.tx.most/\I64 ca.tx.cls/\ca.tx.b.size<=1000000/\ca.tx.e.size<=1000000)(hsz:(bsA (V1 ca.tx)).size<=3000000) :
  Cl 33 #[(Aq a A c D e)] w (Cu w (bsA ([116,101,120,116,40]++V1 ca.tx++[41]))):=by
 obtain ⟨w0,hw0⟩:=eqx (w.alloc (.cells (Ap a A c D e) 39));obtain ⟨g1,hg1⟩:=eqx w.heap.size;have hx0:Ext w w0:=BS;obtain ⟨res,b0⟩:=eqx (bsA ([116,101,120,116,40]++V1 ca.tx++[41]));rw [<-b0];have HRES:=Hd b0;clear b0;obtain ⟨HX0,HB1,HT0,HI,HSZ,HK,HER⟩:=Hd7 hx0 (show Blk w0 g1 39 (Ap a A c D e) by rw [hw0,hg1];exact Blk.new _ _ _) (ht.ext hx0) hI hsz hk he;have HCA:=Hd (show Cl 47 #[(Aq a A c D e)] w0 (Eh w0 (λb=>S b/\b<w.heap.size) ca) by
  exact MM)
 have HW0:=Hd hw0;have HG1:=Hd hg1;clear hw0 hg1 hx0 hI hsz hk he hA hD hz ht hca
 go_enter func33,ntmps33
 go_upto_region 1 with fail
 rw [<-HW0.o,<-HG1.o];refine wp_region_lit ?_;refine AJ rfl 39 _ rfl g1 rfl HB1.o AS AH ?_
 go_wp2_with fail
 refine HCA.o.mono ?_;rintro ee wt ⟨A2,c2,D2,e2,rfl,hab,hxt⟩;rename_i K1 hK1 K2 hK2;refine hK2 _ _ ?_;refine Ag rfl rfl ?_;obtain ⟨g3,hg⟩:=eqx wt.heap.size;rw [<-hg];refine AM rfl 39 _ _ rfl g3 (Ap ca A2 c2 D2 e2) rfl rfl 39 _ (GK hg) AH rfl AD ?_;intro w1 hb ho;refine hK1 _ _ ?_;have hxo:Ext wt w1:=(exaa wt).only ho Ez;have HX1:=Hd (hxt.trans hxo);have a8:=Hd hb;clear hK1 hK2 hb ho hxo hxt hab hg
 go_frame
 go_upto_region 3 with fail
 have HH:=Hd (show Cl 84 #[(Aq ca A2 c2 D2 e2),.I 1] w1 (Ae w1 true) by
  have h:=BI ca A2 D2 c2 e2 1 AA w1;rw [show bt ca.kinds 1=true from by rw [HK.o];decide] at h;exact h)
 refine wp_region_lit ?_;refine AJ rfl 39 _ rfl g3 rfl a8.o AS AH ?_
 go_wp2_with fail
 refine HH.o.mono ?_;rintro ee w2 ⟨rfl,hx⟩;have HX2:=Hd (HX1.o.trans hx);have O:=Hd (a8.o.keep (hx.kept _));clear hx HH HX1 a8
 go_upto_region 4 with fail
 have m1:=O.o.q1;have m2:=O.o.q2;have m3:=O.o.q3;have m4:=O.o.q4;have m5:=O.o.q5
 go_wp2_with fail
 have hI:=HI.o;refine (BSA ca.tx hI.1 hI.2.1 hI.2.2.1 hI.2.2.2.1 hI.2.2.2.2 _ (HT0.o.ext HX2.o)).mono ?_;rintro ee w3 ⟨rfl,hx⟩;have HX3:=Hd (HX2.o.trans hx);have b7:=Hd (O.o.keep (hx.kept _));clear hx hI HX2 O m1 m2 m3 m4 m5;obtain ⟨tx,b3⟩:=eqx (bsA (V1 ca.tx));rw [<-b3];have hsz:tx.size<=3000000:=(by rw [b3];exact HSZ.o);have HTX:=Hd b3;have hsl:(⟨#[116,101,120,116,40]⟩:BA).size=5:=rfl;have hs1:¬(9223372036854775807<5+tx.size):=AA;have hs2:¬(9223372036854775807<5+tx.size+1):=AA;have HON:=Hd (OwnSs.nil w3 w0.heap.size);clear b3 hsl;obtain ⟨M,hM⟩:=eqx w3.heap.size;have HM:=Hd (show w0.heap.size<=M by rw [hM];exact HX3.o.size);have HOC:=Hd (show Own w3 w0.heap.size 9 1 none 0 0 [] from (OwnSs.nil _ _).1);have hszw:=HX3.o.size;clear hM
 go_upto_region 5 with (at_builtin;go_must (refine AL rfl (.tmp 12) (.tmp 18) rfl tiS rfl (HOC.o.ext (exaa _)) rfl (Blk.rd (Blk.new _ _ _)) rfl AP AA AB AI ?_);intro A9 c9 w9 U b4 hat9)
 obtain ⟨tt,b6⟩:=eqx ((⟨#[116,101,120,116,40]⟩:BA)++tx++⟨#[41]⟩);rw [<-b6] at U b4;obtain ⟨HTT,HX4,a9,b9⟩:=Hd4 (show tt=bsA ([116,101,120,116,40]++V1 ca.tx++[41]) by rw [b6,HTX.o,show (⟨#[116,101,120,116,40]⟩:BA)=bsA [116,101,120,116,40] from rfl,show (⟨#[41]⟩:BA)=bsA [41] from rfl,Cr,Cr]) (Ext.grown (HX3.o.alloc (.cells #[.string tt] 9)) b4 (λb hb=>by cases hb)) (b7.o.keep ((Kept.alloc _ _ (.cells #[.string tt] 9)).trans (Kept.of_grown (S:=λb=>b=g3) b4 (λb _ _ e=>by cases e)))) (show Own w9 w0.heap.size 9 1 A9 1 c9 [.string tt] from U);obtain ⟨w4,rfl⟩:=eqx w9;clear U b4 hat9 b6 hs1 hs2 hsz HON HOC hszw HX3 b7;have HH:=Hd (show Cl 84 #[(Aq ca A2 c2 D2 e2),.I 2] w4 (Ae w4 false) by
  have h:=BI ca A2 D2 c2 e2 2 AA w4;exact Od)
 refine wp_region_lit ?_;refine AJ rfl 39 _ rfl g3 rfl a9.o AS AH ?_
 go_wp2_with fail
 refine HH.o.mono ?_;rintro ee w5 ⟨rfl,hx⟩;obtain ⟨HX5,Y,b8⟩:=Hd3 (HX4.o.trans hx) (a9.o.keep (hx.kept _)) (b9.o.ext hx);clear b9 hx HH HX4 a9
 go_upto_region 7 with fail
 have HH:=Hd (show Cl 84 #[(Aq ca A2 c2 D2 e2),.I 3] w5 (Ae w5 false) by
  exact Tt)
 refine wp_region_lit ?_;refine AJ rfl 39 _ rfl g3 rfl Y.o AS AH ?_
 go_wp2_with fail
 refine HH.o.mono ?_;rintro ee w6 ⟨rfl,hx⟩;obtain ⟨HX6,Z,b5⟩:=Hd3 (HX5.o.trans hx) (Y.o.keep (hx.kept _)) (b8.o.ext hx);clear b8 hx HH HX5 Y
 go_upto_region 9 with fail
 have HH:=Hd (show Cl 84 #[(Aq ca A2 c2 D2 e2),.I 4] w6 (Ae w6 false) by
  exact Kg)
 refine wp_region_lit ?_;refine AJ rfl 39 _ rfl g3 rfl Z.o AS AH ?_
 go_wp2_with fail
 refine HH.o.mono ?_;rintro ee w7 ⟨rfl,hx⟩;obtain ⟨HX7,HB37,d3⟩:=Hd3 (HX6.o.trans hx) (Z.o.keep (hx.kept _)) (b5.o.ext hx);clear b5 hx HH HX6 Z
 go_upto_region 11 with fail
 have HH:=Hd (show Cl 84 #[(Aq ca A2 c2 D2 e2),.I 5] w7 (Ae w7 false) by
  exact LO)
 refine wp_region_lit ?_;refine AJ rfl 39 _ rfl g3 rfl HB37.o AS AH ?_
 go_wp2_with fail
 refine HH.o.mono ?_;rintro ee w8 ⟨rfl,hx⟩;obtain ⟨HX8,HB38,HOW8⟩:=Hd3 (HX7.o.trans hx) (HB37.o.keep (hx.kept _)) (d3.o.ext hx);clear d3 hx HH HX7 HB37
 go_upto_region 19 with fail
 have m17:w8.cell? ⟨g3,17,none⟩=some (.bool false):=Kw;have HX:=HX8;have HOW:=HOW8
 go_upto_region 21 with fail
 clear m17
 go_wp2_with fail
 have hbl:∀ l:List UInt8,(bsA l).size=l.length:=λl=>rfl;have hsz:=HSZ.o;rw [hbl] at hsz;have hj:=Rj (w:=w8) (base:=w0.heap.size) (c:=c9) (A:=A9) (ls:=[[116,101,120,116,40]++V1 ca.tx++[41]]) MH AC MC AC;obtain ⟨jn,hjn⟩:=eqx (bsA (Lib.join [[116,101,120,116,40]++V1 ca.tx++[41]] [32]));exact Pl

theorem Va(h:qP:=by
 have h:=BI ca A2 D2 c2 e2 1 (by omega) w1;rw [show bt ca.kinds 1=false from by rw [HK.o];decide] at h;exact h):qP:=h
theorem OI(a ca:Abs)(A D:OA)(c e:Nat)(w:World)(S:NP)(p q:Nat)(hA:Strs w S A a.cols)(hD:RDeps w S D a.deps)(hz:AbN 1000000 a)(ht:Txa w)(hca:AX a=ca)(hk:ca.kinds=4)(he:ca.errs=false)(hI:ca.nu.ls=p/\ca.nu.hs=q/\Dz ca.nu.ln ca.nu.ls=true/\Dz ca.nu.hn ca.nu.hs=true/\BF ca.nu=false)(hsz:(bsA (V3 ca.nu)).size<=3000000) :
  Cl 33 #[(Aq a A c D e)] w (Cu w (bsA ([110,117,109,98,101,114,40]++V3 ca.nu++[41]))):=by
 obtain ⟨w0,hw0⟩:=eqx (w.alloc (.cells (Ap a A c D e) 39));obtain ⟨g1,hg1⟩:=eqx w.heap.size;have hx0:Ext w w0:=BS;obtain ⟨res,b0⟩:=eqx (bsA ([110,117,109,98,101,114,40]++V3 ca.nu++[41]));rw [<-b0];have HRES:=Hd b0;clear b0;obtain ⟨HX0,HB1,HT0,HI,HSZ,HK,HER⟩:=Hd7 hx0 (show Blk w0 g1 39 (Ap a A c D e) by rw [hw0,hg1];exact Blk.new _ _ _) (ht.ext hx0) hI hsz hk he;have HCA:=Hd (show Cl 47 #[(Aq a A c D e)] w0 (Eh w0 (λb=>S b/\b<w.heap.size) ca) by
  exact MM)
 have HW0:=Hd hw0;have HG1:=Hd hg1;clear hw0 hg1 hx0 hI hsz hk he hA hD hz ht hca
 go_enter func33,ntmps33
 go_upto_region 1 with fail
 rw [<-HW0.o,<-HG1.o];refine wp_region_lit ?_;refine AJ rfl 39 _ rfl g1 rfl HB1.o AS AH ?_
 go_wp2_with fail
 refine HCA.o.mono ?_;rintro ee wt ⟨A2,c2,D2,e2,rfl,hab,hxt⟩;rename_i K1 hK1 K2 hK2;refine hK2 _ _ ?_;refine Ag rfl rfl ?_;obtain ⟨g3,hg⟩:=eqx wt.heap.size;rw [<-hg];refine AM rfl 39 _ _ rfl g3 (Ap ca A2 c2 D2 e2) rfl rfl 39 _ (GK hg) AH rfl AD ?_;intro w1 hb ho;refine hK1 _ _ ?_;have hxo:Ext wt w1:=(exaa wt).only ho Ez;have HX1:=Hd (hxt.trans hxo);have a9:=Hd hb;clear hK1 hK2 hb ho hxo hxt hab hg
 go_frame
 go_upto_region 3 with fail
 have HH:=Hd (show Cl 84 #[(Aq ca A2 c2 D2 e2),.I 1] w1 (Ae w1 false) by
  exact Va)
 refine wp_region_lit ?_;refine AJ rfl 39 _ rfl g3 rfl a9.o AS AH ?_
 go_wp2_with fail
 refine HH.o.mono ?_;rintro ee w2 ⟨rfl,hx⟩;have HX2:=Hd (HX1.o.trans hx);have Z:=Hd (a9.o.keep (hx.kept _));clear hx HH HX1 a9
 go_upto_region 5 with fail
 have HH:=Hd (show Cl 84 #[(Aq ca A2 c2 D2 e2),.I 2] w2 (Ae w2 true) by
  have h:=BI ca A2 D2 c2 e2 2 AA w2;rw [show bt ca.kinds 2=true from by rw [HK.o];decide] at h;exact h)
 refine wp_region_lit ?_;refine AJ rfl 39 _ rfl g3 rfl Z.o AS AH ?_
 go_wp2_with fail
 refine HH.o.mono ?_;rintro ee w3 ⟨rfl,hx⟩;have HX3:=Hd (HX2.o.trans hx);have O:=Hd (Z.o.keep (hx.kept _));clear hx HH HX2 Z
 go_upto_region 6 with fail
 have m6:=O.o.q6;have m7:=O.o.q7;have m8:=O.o.q8;have m9:=O.o.q9
 go_wp2_with fail
 have hI:=HI.o;refine (Vc ca.nu p q hI.1 hI.2.1 hI.2.2.1 hI.2.2.2.1 hI.2.2.2.2 _ (HT0.o.ext HX3.o)).mono ?_;rintro ee w4 ⟨rfl,hx⟩;have HX4:=Hd (HX3.o.trans hx);have b9:=Hd (O.o.keep (hx.kept _));clear hx hI HX3 O m6 m7 m8 m9;obtain ⟨tx,b3⟩:=eqx (bsA (V3 ca.nu));rw [<-b3];have hsz:tx.size<=3000000:=(by rw [b3];exact HSZ.o);have HTX:=Hd b3;have hsl:(⟨#[110,117,109,98,101,114,40]⟩:BA).size=7:=rfl;have hs1:¬(9223372036854775807<7+tx.size):=AA;have hs2:¬(9223372036854775807<7+tx.size+1):=AA;have HON:=Hd (OwnSs.nil w4 w0.heap.size);clear b3 hsl;obtain ⟨M,hM⟩:=eqx w4.heap.size;have HM:=Hd (show w0.heap.size<=M by rw [hM];exact HX4.o.size);have HOC:=Hd (show Own w4 w0.heap.size 9 1 none 0 0 [] from (OwnSs.nil _ _).1);have hszw:=HX4.o.size;clear hM
 go_upto_region 7 with (at_builtin;go_must (refine AL rfl (.tmp 22) (.tmp 28) rfl tiS rfl (HOC.o.ext (exaa _)) rfl (Blk.rd (Blk.new _ _ _)) rfl AP AA AB AI ?_);intro A9 c9 w9 U b4 hat9)
 obtain ⟨tt,b6⟩:=eqx ((⟨#[110,117,109,98,101,114,40]⟩:BA)++tx++⟨#[41]⟩);rw [<-b6] at U b4;obtain ⟨HTT,HX5,Y,b7⟩:=Hd4 (show tt=bsA ([110,117,109,98,101,114,40]++V3 ca.nu++[41]) by rw [b6,HTX.o,show (⟨#[110,117,109,98,101,114,40]⟩:BA)=bsA [110,117,109,98,101,114,40] from rfl,show (⟨#[41]⟩:BA)=bsA [41] from rfl,Cr,Cr]) (Ext.grown (HX4.o.alloc (.cells #[.string tt] 9)) b4 (λb hb=>by cases hb)) (b9.o.keep ((Kept.alloc _ _ (.cells #[.string tt] 9)).trans (Kept.of_grown (S:=λb=>b=g3) b4 (λb _ _ e=>by cases e)))) (show Own w9 w0.heap.size 9 1 A9 1 c9 [.string tt] from U);obtain ⟨w5,rfl⟩:=eqx w9;clear U b4 hat9 b6 hs1 hs2 hsz HON HOC hszw HX4 b9;have HH:=Hd (show Cl 84 #[(Aq ca A2 c2 D2 e2),.I 3] w5 (Ae w5 false) by
  exact Tt)
 refine wp_region_lit ?_;refine AJ rfl 39 _ rfl g3 rfl Y.o AS AH ?_
 go_wp2_with fail
 refine HH.o.mono ?_;rintro ee w6 ⟨rfl,hx⟩;obtain ⟨HX6,a8,b5⟩:=Hd3 (HX5.o.trans hx) (Y.o.keep (hx.kept _)) (b7.o.ext hx);clear b7 hx HH HX5 Y
 go_upto_region 9 with fail
 have HH:=Hd (show Cl 84 #[(Aq ca A2 c2 D2 e2),.I 4] w6 (Ae w6 false) by
  exact Kg)
 refine wp_region_lit ?_;refine AJ rfl 39 _ rfl g3 rfl a8.o AS AH ?_
 go_wp2_with fail
 refine HH.o.mono ?_;rintro ee w7 ⟨rfl,hx⟩;obtain ⟨HX7,HB37,b8⟩:=Hd3 (HX6.o.trans hx) (a8.o.keep (hx.kept _)) (b5.o.ext hx);clear b5 hx HH HX6 a8
 go_upto_region 11 with fail
 have HH:=Hd (show Cl 84 #[(Aq ca A2 c2 D2 e2),.I 5] w7 (Ae w7 false) by
  exact LO)
 refine wp_region_lit ?_;refine AJ rfl 39 _ rfl g3 rfl HB37.o AS AH ?_
 go_wp2_with fail
 refine HH.o.mono ?_;rintro ee w8 ⟨rfl,hx⟩;obtain ⟨HX8,HB38,HOW8⟩:=Hd3 (HX7.o.trans hx) (HB37.o.keep (hx.kept _)) (b8.o.ext hx);clear b8 hx HH HX7 HB37
 go_upto_region 19 with fail
 have m17:w8.cell? ⟨g3,17,none⟩=some (.bool false):=Kw;have HX:=HX8;have HOW:=HOW8
 go_upto_region 21 with fail
 clear m17
 go_wp2_with fail
 have hbl:∀ l:List UInt8,(bsA l).size=l.length:=λl=>rfl;have hsz:=HSZ.o;rw [hbl] at hsz;have hj:=Rj (w:=w8) (base:=w0.heap.size) (c:=c9) (A:=A9) (ls:=[[110,117,109,98,101,114,40]++V3 ca.nu++[41]]) MH AC MC AC;obtain ⟨jn,hjn⟩:=eqx (bsA (Lib.join [[110,117,109,98,101,114,40]++V3 ca.nu++[41]] [32]));exact Pl

theorem OP(a ca:Abs)(A D:OA)(c e:Nat)(w:World)(S:NP)(hA:Strs w S A a.cols)(hD:RDeps w S D a.deps)(hz:AbN 1000000 a)(ht:Txa w)(hca:AX a=ca)(hk:ca.kinds=8)(he:ca.errs=true)(hI:I64 ca.dl/\I64 ca.dh)(hsz:(bsA (V9 ca.dl ca.dh)).size<=3000000) :
  Cl 33 #[(Aq a A c D e)] w (Cu w (bsA ([100,97,116,101,40]++V9 ca.dl ca.dh++[41]++[32]++[101,114,114,111,114]))):=by
 obtain ⟨w0,hw0⟩:=eqx (w.alloc (.cells (Ap a A c D e) 39));obtain ⟨g1,hg1⟩:=eqx w.heap.size;have hx0:Ext w w0:=BS;obtain ⟨res,b3⟩:=eqx (bsA ([100,97,116,101,40]++V9 ca.dl ca.dh++[41]++[32]++[101,114,114,111,114]));rw [<-b3];have HRES:=Hd b3;clear b3;obtain ⟨HX0,HB1,HT0,HI,HSZ,HK,HER⟩:=Hd7 hx0 (show Blk w0 g1 39 (Ap a A c D e) by rw [hw0,hg1];exact Blk.new _ _ _) (ht.ext hx0) hI hsz hk he;have HCA:=Hd (show Cl 47 #[(Aq a A c D e)] w0 (Eh w0 (λb=>S b/\b<w.heap.size) ca) by
  exact MM)
 have HW0:=Hd hw0;have HG1:=Hd hg1;clear hw0 hg1 hx0 hI hsz hk he hA hD hz ht hca
 go_enter func33,ntmps33
 go_upto_region 1 with fail
 rw [<-HW0.o,<-HG1.o];refine wp_region_lit ?_;refine AJ rfl 39 _ rfl g1 rfl HB1.o AS AH ?_
 go_wp2_with fail
 refine HCA.o.mono ?_;rintro ee wt ⟨A2,c2,D2,e2,rfl,hab,hxt⟩;rename_i K1 hK1 K2 hK2;refine hK2 _ _ ?_;refine Ag rfl rfl ?_;obtain ⟨g3,hg⟩:=eqx wt.heap.size;rw [<-hg];refine AM rfl 39 _ _ rfl g3 (Ap ca A2 c2 D2 e2) rfl rfl 39 _ (GK hg) AH rfl AD ?_;intro w1 hb ho;refine hK1 _ _ ?_;have hxo:Ext wt w1:=(exaa wt).only ho Ez;have HX1:=Hd (hxt.trans hxo);have b0:=Hd hb;clear hK1 hK2 hb ho hxo hxt hab hg
 go_frame
 go_upto_region 3 with fail
 have HH:=Hd (show Cl 84 #[(Aq ca A2 c2 D2 e2),.I 1] w1 (Ae w1 false) by
  exact Va)
 refine wp_region_lit ?_;refine AJ rfl 39 _ rfl g3 rfl b0.o AS AH ?_
 go_wp2_with fail
 refine HH.o.mono ?_;rintro ee w2 ⟨rfl,hx⟩;have HX2:=Hd (HX1.o.trans hx);have Y:=Hd (b0.o.keep (hx.kept _));clear hx HH HX1 b0
 go_upto_region 5 with fail
 have HH:=Hd (show Cl 84 #[(Aq ca A2 c2 D2 e2),.I 2] w2 (Ae w2 false) by
  have h:=BI ca A2 D2 c2 e2 2 AA w2;exact Od)
 refine wp_region_lit ?_;refine AJ rfl 39 _ rfl g3 rfl Y.o AS AH ?_
 go_wp2_with fail
 refine HH.o.mono ?_;rintro ee w3 ⟨rfl,hx⟩;have HX3:=Hd (HX2.o.trans hx);have a8:=Hd (Y.o.keep (hx.kept _));clear hx HH HX2 Y
 go_upto_region 7 with fail
 have HH:=Hd (show Cl 84 #[(Aq ca A2 c2 D2 e2),.I 3] w3 (Ae w3 true) by
  have h:=BI ca A2 D2 c2 e2 3 AA w3;rw [show bt ca.kinds 3=true from by rw [HK.o];decide] at h;exact h)
 refine wp_region_lit ?_;refine AJ rfl 39 _ rfl g3 rfl a8.o AS AH ?_
 go_wp2_with fail
 refine HH.o.mono ?_;rintro ee w4 ⟨rfl,hx⟩;have HX4:=Hd (HX3.o.trans hx);have U:=Hd (a8.o.keep (hx.kept _));clear hx HH HX3 a8
 go_upto_region 8 with fail
 have m10:=U.o.q10;have m11:=U.o.q11
 go_wp2_with fail
 have hI:=HI.o;refine (M7 ca.dl ca.dh hI.1 hI.2 _ (HT0.o.ext HX4.o)).mono ?_;rintro ee w5 ⟨rfl,hx⟩;have HX5:=Hd (HX4.o.trans hx);have b7:=Hd (U.o.keep (hx.kept _));clear hx hI HX4 U m10 m11;obtain ⟨tx,b5⟩:=eqx (bsA (V9 ca.dl ca.dh));rw [<-b5];have hsz:tx.size<=3000000:=(by rw [b5];exact HSZ.o);have HTX:=Hd b5;have hsl:(⟨#[100,97,116,101,40]⟩:BA).size=5:=rfl;have hs1:¬(9223372036854775807<5+tx.size):=AA;have hs2:¬(9223372036854775807<5+tx.size+1):=AA;have HON:=Hd (OwnSs.nil w5 w0.heap.size);clear b5 hsl;obtain ⟨M,hM⟩:=eqx w5.heap.size;have HM:=Hd (show w0.heap.size<=M by rw [hM];exact HX5.o.size);have HOC:=Hd (show Own w5 w0.heap.size 9 1 none 0 0 [] from (OwnSs.nil _ _).1);have a9:=HX5.o.size;clear hM
 go_upto_region 9 with (at_builtin;go_must (refine AL rfl (.tmp 32) (.tmp 38) rfl tiS rfl (HOC.o.ext (exaa _)) rfl (Blk.rd (Blk.new _ _ _)) rfl AP AA AB AI ?_);intro A9 c9 w9 O b6 hat9)
 obtain ⟨tt,b9⟩:=eqx ((⟨#[100,97,116,101,40]⟩:BA)++tx++⟨#[41]⟩);rw [<-b9] at O b6;obtain ⟨HTT,HX6,Z,b8⟩:=Hd4 (show tt=bsA ([100,97,116,101,40]++V9 ca.dl ca.dh++[41]) by rw [b9,HTX.o,show (⟨#[100,97,116,101,40]⟩:BA)=bsA [100,97,116,101,40] from rfl,show (⟨#[41]⟩:BA)=bsA [41] from rfl,Cr,Cr]) (Ext.grown (HX5.o.alloc (.cells #[.string tt] 9)) b6 (λb hb=>by cases hb)) (b7.o.keep ((Kept.alloc _ _ (.cells #[.string tt] 9)).trans (Kept.of_grown (S:=λb=>b=g3) b6 (λb _ _ e=>by cases e)))) (show Own w9 w0.heap.size 9 1 A9 1 c9 [.string tt] from O);obtain ⟨w6,rfl⟩:=eqx w9;clear O b6 hat9 b9 hs1 hs2 hsz HON HOC a9 HX5 b7;have HH:=Hd (show Cl 84 #[(Aq ca A2 c2 D2 e2),.I 4] w6 (Ae w6 false) by
  exact Kg)
 refine wp_region_lit ?_;refine AJ rfl 39 _ rfl g3 rfl Z.o AS AH ?_
 go_wp2_with fail
 refine HH.o.mono ?_;rintro ee w7 ⟨rfl,hx⟩;obtain ⟨HX7,HB37,HOW7⟩:=Hd3 (HX6.o.trans hx) (Z.o.keep (hx.kept _)) (b8.o.ext hx);clear b8 hx HH HX6 Z
 go_upto_region 11 with fail
 have HH:=Hd (show Cl 84 #[(Aq ca A2 c2 D2 e2),.I 5] w7 (Ae w7 false) by
  exact LO)
 refine wp_region_lit ?_;refine AJ rfl 39 _ rfl g3 rfl HB37.o AS AH ?_
 go_wp2_with fail
 refine HH.o.mono ?_;rintro ee w8 ⟨rfl,hx⟩;obtain ⟨HX8,HB38,HOW8⟩:=Hd3 (HX7.o.trans hx) (HB37.o.keep (hx.kept _)) (HOW7.o.ext hx);clear HOW7 hx HH HX7 HB37
 go_upto_region 19 with fail
 have m17:w8.cell? ⟨g3,17,none⟩=some (.bool true):=Kw
 go_upto_region 20 with fail
 have a9:=HX8.o.size
 go_upto_region 21 with (at_builtin;go_must (refine AL rfl (.tmp 86) (.tmp 87) rfl tiS rfl (HOW8.o.ext (exaa _)) rfl (Blk.rd (Blk.new _ _ _)) rfl AP AA AB AI ?_);intro A8 c8 w8 b4 hg8 hat8)
 have hx8:=Ext.grown (HX8.o.alloc (.cells #[.string ⟨#[101,114,114,111,114]⟩] 9)) hg8 (λb hb=>(HOW8.o.blk hb).1);have HX:=Hd hx8;have HOW:=Hd (show Own w8 w0.heap.size 9 1 A8 2 c8 [.string tt,.string ⟨#[101,114,114,111,114]⟩] from b4);clear m17 b4 hg8 hat8 hx8 a9
 go_wp2_with fail
 have hbl:∀ l:List UInt8,(bsA l).size=l.length:=λl=>rfl;have hsz:=HSZ.o;rw [hbl] at hsz;have hj:=Rj (w:=w8) (base:=w0.heap.size) (c:=c8) (A:=A8) (ls:=[[100,97,116,101,40]++V9 ca.dl ca.dh++[41],[101,114,114,111,114]]) MH AC MC AC;obtain ⟨jn,hjn⟩:=eqx (bsA (Lib.join [[100,97,116,101,40]++V9 ca.dl ca.dh++[41],[101,114,114,111,114]] [32]));rw [<-hjn] at hj;have HJN:=Hd (show jn=res by rw [hjn,HRES.o];simp [Lib.join_cons,Lib.joinTail]);clear hjn;refine Calls.mono (show Cl 100 #[.slice A8 2 c8,.string ⟨#[32]⟩] w8 _ from hj) ?_;exact QK

theorem YT(s:BA):ShN 200 (ofS s):=by
 unfold ofS;split
 ·rename_i h;have:s.size<=200:=by
   unfold Ca at h;simp at h;exact h.1
  exact ⟨this,this⟩
 ·exact IGA _
theorem Jm(hr:BC v=true)(hk:v.kind=5):v.cols.length<=8:=by
 unfold BC at hr;rw [if_pos hk,Bool.and_eq_true] at hr;have h:=hr.1;unfold BK at h;simp only [Bool.and_eq_true,decide_eq_true_eq] at h;exact h.1.1.1
theorem FpA(hr:BC v=true):AbN 300 (CO v):=by
 have ht:ShN 200 (CO v).tx:=by
  show ShN 200 (if v.kind=1 then ofS v.s else H3A);split
  ·exact YT _
  ·exact IGA _
 refine ⟨Nat.le_trans ht.1 AB,Nat.le_trans ht.2 AB,?_,?_,?_⟩
 ·show (if v.kind=5 then v.cols else []).length<=300;split
  ·rename_i hk;have:=Jm hr hk;omega
  ·exact AN
 ·show (if v.kind=5 then Co v.cols v.rows else []).length<=300;split
  ·rename_i hk;exact (Ju _ _ (Jm hr hk)).1
  ·exact AN
 ·show ∀ d∈(if v.kind=5 then Co v.cols v.rows else []),d.frm.length<=300;split
  ·rename_i hk;intro d hd;have:=(Ju _ _ (Jm hr hk)).2 d hd;omega
  ·intro d hd;cases hd
theorem Mx(v:Val):AbN 300 (ofA v):=by
 unfold ofA;split
 ·rename_i h;exact (FpA h).can
 ·exact ISA _
theorem DXA(hk:v.kind=0):AX (CO v) = { noneA with errs:=true }:=by
 have hb:(CO v).kinds=1:=by
  show NO v.kind=1;rw [hk];rfl
 have h1:pT (CO v)=false:=(by unfold pT;rw [hb];rfl);have h2:pN (CO v)=false:=(by unfold pN;rw [hb];rfl);have h3:pD (CO v)=false:=(by unfold pD;rw [hb];rfl);have h4:pB (CO v)=false:=(by unfold pB;rw [hb];rfl);have h5:pR (CO v)=false:=(by unfold pR;rw [hb];rfl);have he:(CO v).errs=true:=(by show decide (v.kind=0)=true;rw [hk];rfl);unfold AX;rw [h1,h2,h3,h4,h5,he];rfl
theorem UU(h:qP:=by
 rw [HF.o];exact ⟨_,_,_,_,rfl,AbM.nil ⟨rfl,rfl⟩,HXF.o⟩):qP:=h
theorem P9(h:qP:=by
 have HBF:=Hd hbf;clear hbf hof
 go_wp2_with fail
 refine bodyPost_ret (Bv results19 rfl (Eq HBF.o AS AH)) rfl ?_;exact UU):qP:=h
theorem Oe(h:qP:=by
 have hbb:=HR6.o.set 0 (.I p2);rw [<-hwb] at hbb;rw [HR0.o]
 simpa using hbb):qP:=h
theorem AiA(h:qP:=by
 have h:=((show AbM w6 (λb=>(T b/\b<w.heap.size)\/g3<b) r0 none 0 none 0 from AbM.nil (by rw [HRR.o];exact ⟨rfl,rfl⟩))).keep hkb;rw [HR0.o];exact h):qP:=h
theorem IV(h:qP:=by
 clear p0;have p0:=(HB1.o.keep (HX6.o.kept _)).q0;have r0c:=HR6.o.q0;have rf:=HR6.o.frozen;have rl:=HR6.o.lt
 go_wp2_with fail
 refine (HBI.o _).mono ?_;rintro e9 w9 ⟨rfl,rfl⟩
 go_upto_region 21 with fail
 obtain ⟨wb,hwb⟩:=eqx (w6.setCell ⟨g3,0,none⟩ (.I p2));rw [<-hwb];have HXB:=Hd (show Ext w1 wb by rw [hwb];exact HX6.o.set2 (Bl HG3.o) _);have hrb:Blk wb g3 39 (Ap raw none 0 none 0):=by
  exact Oe
 have HRB:=Hd hrb;have hkb:Kept (λb=>(T b/\b<w.heap.size)\/g3<b) w6 wb:=(by rw [hwb];exact (Kept.refl _ _).set2 (λh=>by have:=HG3.o;have:=HXW.o.size;rcases h with h | h;(have:=h.2;omega);omega));have HAB:=Hd (show AbM wb (λb=>(T b/\b<w.heap.size)\/g3<b) raw none 0 none 0 from by
  exact AiA)
 clear hwb hrb hkb p0 r0c rf rl;have HCN:=Hd (As raw none none 0 0 wb _ HAB.o.2.2.1 HAB.o.2.2.2 (HT.o.ext (HXW.o.trans HXB.o)) HNR.o);refine wp_region_lit ?_;refine AJ rfl 39 _ rfl g3 rfl HRB.o AS AH ?_
 go_wp2_with fail
 refine HCN.o.mono ?_;rintro e5 w5 ⟨A5,c5,D5,e5,rfl,hab5,hx5⟩;have HX5:=Hd (HXB.o.trans hx5);have HAB5:=Hd hab5;have hb25:=HB2.o.keep (HX5.o.kept _);rename_i K1 hK1 K2 hK2;refine hK2 _ _ ?_;refine AM rfl 39 _ _ rfl g2 (Ap (AX raw) A5 c5 D5 e5) rfl rfl 39 _ hb25 AH rfl (by kernel_rfl) ?_;intro wf hbf hof;refine hK1 _ _ ?_;obtain ⟨HXF,HBF,HABF⟩:=Hd3 ((HXW.o.trans HX5.o).only hof (by have:=HG2.o;omega)) hbf hab5;have hkf:=hof.kept (S:=λb=>(T b/\b<w.heap.size)\/g3<b) (λb _ hb e=>by have:=HG2.o;have:=HG3.o;have:=HB2.o.lt;rcases hb with h|h;(have:=h.2;omega);omega);have HKF:=Hd hkf;clear hK1 hK2 hbf hb25 hx5 hab5 hof hkf
 go_wp2_with fail
 refine bodyPost_ret (Bv results19 rfl (Eq HBF.o AS AH)) rfl ?_;rw [HOF.o,<-HRAW.o];exact ⟨A5,c5,D5,e5,rfl,((HABF.o.mono (T:=λb=>(T b/\b<w.heap.size)\/g3<b) λb _ hb=>by rcases hb with h | h;exact h;exact .inr (by have:=HRB.o.lt;omega)).keep HKF.o).mono λb _ hb=>hb.imp And.left λh=>by have:=HG3.o;have:=HXW.o.size;omega,HXF.o⟩):qP:=h
theorem B4(h:qP:=by
 rw [<-hw6] at hbb;rw [HRR.o]
 simpa using hbb):qP:=h
theorem VH(h:qP:=by
 clear hw6 rf rl p4 r12;exact IV):qP:=h
theorem Ic(h:qP:=by rw [hw0,hg1];exact (Blk.new _ _ _).keep ((exaa _).kept _)):qP:=h
theorem Lf(h:qP:=by have:=HG3.o;have:=HXW.o.size;have:=h.2;omega):qP:=h
theorem C5(q:Nat)(x:Val)(B C:OA)(cb cc:Nat)(w:World)(T:NP)(hx:RV w T q x B C)(hcap:x.cols.length<=cb)(ht:Tens w) :
  Cl 19 #[(Vq x B cb C cc)] w (Eh w T (ofA x)):=by
 obtain ⟨w0,hw0⟩:=eqx ((w.alloc (.cells (Vp x B cb C cc) 29)).alloc (.cells Az 39));obtain ⟨g1,hg1⟩:=eqx w.heap.size;obtain ⟨g2,hg2⟩:=eqx (w.heap.size+1);have hx0:Ext w w0:=Bh;have hb1:Blk w0 g1 29 (Vp x B cb C cc):=Ic;have hb2:Blk w0 g2 39 Az:=(by rw [hw0,hg2];exact H6A _ _ _ _);obtain ⟨f8,d7,HG2,HX0,HB10,d5,HV,HT⟩:=Hd8 hw0 hg1 hg2 hx0 hb1 hb2 (hx.mono (T:=λb=>T b/\b<w.heap.size) λi hi hs=>⟨hs,hi⟩) ht;have hss:=hx.size;have hcp:=hcap;clear hw0 hg1 hg2 hx0 hb1 hb2 hx ht hcap
 go_enter func19,ntmps19
 go_upto_region 1 with fail
 rw [<-f8.o,<-HG2.o,<-d7.o]
 go_wp2_with fail
 refine (Hk _).mono ?_;rintro e1 w1 ⟨rfl,hx1⟩;rename_i K1 hK1 K2 hK2;refine hK2 _ _ ?_;refine Ag rfl rfl ?_;obtain ⟨g3,hg3⟩:=eqx w1.heap.size;rw [<-hg3];refine AM rfl 39 _ _ rfl g3 (Ap noneA none 0 none 0) rfl rfl 39 _ (GK hg3) AH rfl AD ?_;intro w2 b9 b7;have hx2:Ext w1 w2:=(exaa w1).only b7 GI;obtain ⟨HXW,HB1,HB2,HX2,HR2,HG3⟩:=Hd6 (HX0.o.trans hx1) (HB10.o.keep (hx1.kept _)) (d5.o.keep (hx1.kept _)) hx2 b9 hg3;have b8:=Hd ((HV.o.keep (HXW.o.kept _)).keep (hx2.kept _));have b0:=Hd (Nx q x B C cb cc w2 _ b8.o hcp);refine hK1 _ _ ?_;clear hK1 hK2 b9 b7 hx1 hx2 hg3;have U:=HB1.o.keep (HX2.o.kept _);obtain ⟨p0,p1,p2,p3,p4,p5,p6⟩:=U.qs7;clear U
 go_wp2_with fail
 cases hr:BC x
 ·have HF:=Hd (show ofA x=noneA by unfold ofA;rw [hr];rfl);rw [hr] at b0;clear hr;refine b0.o.mono ?_;rintro e3 w3 ⟨rfl,hx3⟩;have HX3:=Hd (HX2.o.trans hx3);have O:=Hd (HR2.o.keep (hx3.kept _));clear hx3 p0 p1 p2 p3 p4 p5 p6
  go_upto_region 3 with fail
  refine wp_region_lit ?_;refine AJ rfl 39 _ rfl g3 rfl O.o AS AH ?_;refine AM rfl 39 _ _ rfl g2 (Ap noneA none 0 none 0) rfl rfl 39 _ (HB2.o.keep (HX3.o.kept _)) AH rfl AD ?_;intro wf hbf hof;refine wpList_nil ?_;have HXF:=Hd ((HXW.o.trans HX3.o).only hof Bq);exact P9
 have HR:=Hd hr;rw [hr] at b0;have HOF:=Hd (show ofA x=AX (CO x) by unfold ofA;rw [hr];rfl);have HNR:=Hd ((FpA hr).mono (m:=1000000) AB);clear hr;refine b0.o.mono ?_;rintro e3 w3 ⟨rfl,hx3⟩;obtain ⟨HX3,O,HV3⟩:=Hd3 (HX2.o.trans hx3) (HR2.o.keep (hx3.kept _)) (b8.o.keep (hx3.kept _));clear hx3 p0 p1 p2 p3 p4 p5 p6;have U:=HB1.o.keep (HX3.o.kept _);have p0:=U.q0;have rf:=O.o.frozen;have rl:=O.o.lt;obtain ⟨raw,a9⟩:=eqx (CO x);rw [<-a9] at HNR;have HRAW:=Hd a9;clear a9
 rcases Dh HR.o with hk|hk|hk|hk|hk|hk
 ·have HF:=Hd (show ofA x = { noneA with errs:=true } by rw [HOF.o];exact DXA hk);have f1:w3.cell? ⟨g3,17,none⟩=some (.bool noneA.errs):=O.o.q17;clear U
  go_upto_region 7 with fail
  obtain ⟨w4,Z⟩:=eqx (w3.setCell ⟨g3,17,none⟩ (.bool true));rw [<-Z];have HX4:=Hd (show Ext w1 w4 by rw [Z];exact HX3.o.set2 (Bl HG3.o) _);have HR4:=Hd (show Blk w4 g3 39 #[.I noneA.kinds,.I noneA.tx.least,.I noneA.tx.most,.I noneA.tx.cls,.string noneA.tx.b,.string noneA.tx.e,.I noneA.nu.ln,.I noneA.nu.ls,.I noneA.nu.hn,.I noneA.nu.hs,.I noneA.dl,.I noneA.dh,.I noneA.bo,.I noneA.rl,.I noneA.rh,.slice none noneA.cols.length 0,.slice none noneA.deps.length 0,.bool true] by rw [Z];simpa using O.o.set 17 (.bool true));clear Z f1 p0 rf rl;refine wp_region_lit ?_;refine AJ rfl 39 _ rfl g3 rfl HR4.o AS AH ?_;refine AM rfl 39 _ _ rfl g2 #[.I noneA.kinds,.I noneA.tx.least,.I noneA.tx.most,.I noneA.tx.cls,.string noneA.tx.b,.string noneA.tx.e,.I noneA.nu.ln,.I noneA.nu.ls,.I noneA.nu.hn,.I noneA.nu.hs,.I noneA.dl,.I noneA.dh,.I noneA.bo,.I noneA.rl,.I noneA.rh,.slice none noneA.cols.length 0,.slice none noneA.deps.length 0,.bool true] rfl rfl 39 _ (HB2.o.keep (HX4.o.kept _)) AH rfl AD ?_;intro wf hbf hof;refine wpList_nil ?_;have HXF:=Hd ((HXW.o.trans HX4.o).only hof Bq);exact P9
 ·obtain ⟨p2,hp2⟩:∃ z:Int,z=((2^1:Nat):Int):=⟨_,rfl⟩;have HBI:=Hd (show ∀ w',Cl 48 #[.I 1] w' (Bk w' p2) from λw'=>by rw [hp2];exact At 1 AA w');obtain ⟨r0,Y⟩:∃ z:Abs,z = { noneA with tx:=ofS x.s }:=⟨_,rfl⟩;obtain ⟨HR0,HRR,HK⟩:=Hd3 (show raw = { r0 with kinds:=p2 } by rw [HRAW.o,Y,hp2];unfold CO noneA;simp [hk,NO]) Y hk;clear hp2 Y;have p1:=U.q1;clear U rf rl
  go_wp2_with fail
  refine (DZA x.s hss _).mono ?_;rintro e4 w4 ⟨rfl,hx4⟩;have HX4:=Hd (HX3.o.trans hx4);have HR4:=Hd (O.o.keep (hx4.kept _));clear hx4;have rf:=HR4.o.frozen;have rl:=HR4.o.lt;have r1:=HR4.o.q1;have r2:=HR4.o.q2;have r3:=HR4.o.q3;have r4:=HR4.o.q4;have r5:=HR4.o.q5
  go_upto_region 20 with fail
  obtain ⟨w6,hw6⟩:=eqx ((((((w4.setCell ⟨g3,1,none⟩ (.I (ofS x.s).least)).setCell ⟨g3,2,none⟩ (.I (ofS x.s).most)).setCell ⟨g3,3,none⟩ (.I (ofS x.s).cls)).setCell ⟨g3,4,none⟩ (.string (ofS x.s).b)).setCell ⟨g3,5,none⟩ (.string (ofS x.s).e)));rw [<-hw6];have HX6:=Hd (show Ext w1 w6 by rw [hw6];exact (((((HX4.o.set2 (Bl HG3.o) _).set2 (Bl HG3.o) _).set2 (Bl HG3.o) _).set2 (Bl HG3.o) _).set2 (Bl HG3.o) _));have HR6:=Hd (show Blk w6 g3 39 (Ap r0 none 0 none 0) by
   have hbb:=(((((HR4.o.set 1 (.I (ofS x.s).least)).set 2 (.I (ofS x.s).most)).set 3 (.I (ofS x.s).cls)).set 4 (.string (ofS x.s).b)).set 5 (.string (ofS x.s).e));exact B4)
  clear hw6 rf rl p1 r1 r2 r3 r4 r5;exact IV
 ·obtain ⟨p2,hp2⟩:∃ z:Int,z=((2^2:Nat):Int):=⟨_,rfl⟩;have HBI:=Hd (show ∀ w',Cl 48 #[.I 2] w' (Bk w' p2) from λw'=>by rw [hp2];exact At 2 AA w');obtain ⟨r0,Y⟩:∃ z:Abs,z = { noneA with nu:=⟨x.dn,x.ds,x.dn,x.ds⟩ }:=⟨_,rfl⟩;obtain ⟨HR0,HRR,HK⟩:=Hd3 (show raw = { r0 with kinds:=p2 } by rw [HRAW.o,Y,hp2];unfold CO noneA;simp [hk,NO]) Y hk;clear hp2 Y;have p2:=U.q2;have p3:=U.q3;clear U;have r6:=O.o.q6;have r7:=O.o.q7;have r8:=O.o.q8;have r9:=O.o.q9
  go_upto_region 20 with fail
  obtain ⟨w6,hw6⟩:=eqx (((((w3.setCell ⟨g3,6,none⟩ (.I x.dn)).setCell ⟨g3,7,none⟩ (.I x.ds)).setCell ⟨g3,8,none⟩ (.I x.dn)).setCell ⟨g3,9,none⟩ (.I x.ds)));rw [<-hw6];have HX6:=Hd (show Ext w1 w6 by rw [hw6];exact ((((HX3.o.set2 (Bl HG3.o) _).set2 (Bl HG3.o) _).set2 (Bl HG3.o) _).set2 (Bl HG3.o) _));have HR6:=Hd (show Blk w6 g3 39 (Ap r0 none 0 none 0) by
   have hbb:=((((O.o.set 6 (.I x.dn)).set 7 (.I x.ds)).set 8 (.I x.dn)).set 9 (.I x.ds));exact B4)
  clear hw6 rf rl p2 p3 r6 r7 r8 r9;exact IV
 ·obtain ⟨p2,hp2⟩:∃ z:Int,z=((2^3:Nat):Int):=⟨_,rfl⟩;have HBI:=Hd (show ∀ w',Cl 48 #[.I 3] w' (Bk w' p2) from λw'=>by rw [hp2];exact At 3 AA w');obtain ⟨r0,Y⟩:∃ z:Abs,z = { noneA with dl:=x.n,dh:=x.n }:=⟨_,rfl⟩;obtain ⟨HR0,HRR,HK⟩:=Hd3 (show raw = { r0 with kinds:=p2 } by rw [HRAW.o,Y,hp2];unfold CO noneA;simp [hk,NO]) Y hk;clear hp2 Y;have p4:=U.q4;clear U;have g0:=O.o.q10;have f3:=O.o.q11
  go_upto_region 20 with fail
  obtain ⟨w6,hw6⟩:=eqx (((w3.setCell ⟨g3,10,none⟩ (.I x.n)).setCell ⟨g3,11,none⟩ (.I x.n)));rw [<-hw6];have HX6:=Hd (show Ext w1 w6 by rw [hw6];exact ((HX3.o.set2 (Bl HG3.o) _).set2 (Bl HG3.o) _));have HR6:=Hd (show Blk w6 g3 39 (Ap r0 none 0 none 0) by
   have hbb:=((O.o.set 10 (.I x.n)).set 11 (.I x.n));exact B4)
  clear hw6 rf rl p4 g0 f3;exact IV
 ·have d9:=Gx HR.o hk
  rcases d9 with h4|h4
  ·have hw1:IntKind.i64.wrap 1=1:=rfl;obtain ⟨p2,hp2⟩:∃ z:Int,z=((2^4:Nat):Int):=⟨_,rfl⟩;have HBI:=Hd (show ∀ w',Cl 48 #[.I 4] w' (Bk w' p2) from λw'=>by rw [hp2];exact At 4 AA w');obtain ⟨r0,Y⟩:∃ z:Abs,z = { noneA with bo:=1 }:=⟨_,rfl⟩;obtain ⟨HR0,HRR,HK⟩:=Hd3 (show raw = { r0 with kinds:=p2 } by rw [HRAW.o,Y,hp2];unfold CO noneA;simp [hk,NO,h4]) Y hk;clear hp2 Y;have p4:=U.q4;clear U;have r12:=O.o.q12
   go_upto_region 20 with fail
   obtain ⟨w6,hw6⟩:=eqx (w3.setCell ⟨g3,12,none⟩ (.I 1));rw [<-hw6];have HX6:=Hd (show Ext w1 w6 by rw [hw6];exact (HX3.o.set2 (Bl HG3.o) _));have HR6:=Hd (show Blk w6 g3 39 (Ap r0 none 0 none 0) by
    have hbb:=(O.o.set 12 (.I 1));exact B4)
   exact VH
  ·have hw1:IntKind.i64.wrap 2=2:=rfl;obtain ⟨p2,hp2⟩:∃ z:Int,z=((2^4:Nat):Int):=⟨_,rfl⟩;have HBI:=Hd (show ∀ w',Cl 48 #[.I 4] w' (Bk w' p2) from λw'=>by rw [hp2];exact At 4 AA w');obtain ⟨r0,Y⟩:∃ z:Abs,z = { noneA with bo:=2 }:=⟨_,rfl⟩;obtain ⟨HR0,HRR,HK⟩:=Hd3 (show raw = { r0 with kinds:=p2 } by rw [HRAW.o,Y,hp2];unfold CO noneA;simp [hk,NO,h4]) Y hk;clear hp2 Y;have p4:=U.q4;clear U;have r12:=O.o.q12
   go_upto_region 20 with fail
   obtain ⟨w6,hw6⟩:=eqx (w3.setCell ⟨g3,12,none⟩ (.I 2));rw [<-hw6];have HX6:=Hd (show Ext w1 w6 by rw [hw6];exact (HX3.o.set2 (Bl HG3.o) _));have HR6:=Hd (show Blk w6 g3 39 (Ap r0 none 0 none 0) by
    have hbb:=(O.o.set 12 (.I 2));exact B4)
   exact VH
 ·obtain ⟨p2,hp2⟩:∃ z:Int,z=((2^5:Nat):Int):=⟨_,rfl⟩;have HBI:=Hd (show ∀ w',Cl 48 #[.I 5] w' (Bk w' p2) from λw'=>by rw [hp2];exact At 5 AA w');obtain ⟨r0,Y⟩:∃ z:Abs,z = { noneA with rl:=x.rows.length,rh:=x.rows.length,cols:=x.cols,deps:=Co x.cols x.rows }:=⟨_,rfl⟩;obtain ⟨HR0,HRR,HK⟩:=Hd3 (show raw = { r0 with kinds:=p2 } by rw [HRAW.o,Y,hp2];unfold CO noneA;simp [hk,NO]) Y hk;clear hp2 Y;have hc8:=Jm HR.o hk;have p5:=U.q5;have p6:=U.q6;clear U;have f7:=O.o.q13;have f6:=O.o.q14;have f0:w3.cell? ⟨g3,15,none⟩=some (.slice none noneA.cols.length 0):=O.o.q15
  go_upto_region 19 with fail
  obtain ⟨w4,Z⟩:=eqx ((((w3.setCell ⟨g3,13,none⟩ (.I (x.rows.length:Int))).setCell ⟨g3,14,none⟩ (.I (x.rows.length:Int))).setCell ⟨g3,15,none⟩ (.slice B x.cols.length cb)));rw [<-Z];have HX4:=Hd (show Ext w1 w4 by rw [Z];exact (((HX3.o.set2 (Bl HG3.o) _).set2 (Bl HG3.o) _).set2 (Bl HG3.o) _));have HR4:=Hd (show Blk w4 g3 39 #[.I noneA.kinds,.I noneA.tx.least,.I noneA.tx.most,.I noneA.tx.cls,.string noneA.tx.b,.string noneA.tx.e,.I noneA.nu.ln,.I noneA.nu.ls,.I noneA.nu.hn,.I noneA.nu.hs,.I noneA.dl,.I noneA.dh,.I noneA.bo,.I (x.rows.length:Int),.I (x.rows.length:Int),.slice B x.cols.length cb,.slice none noneA.deps.length 0,.bool noneA.errs] by
   have hbb:=(((O.o.set 13 (.I (x.rows.length:Int))).set 14 (.I (x.rows.length:Int))).set 15 (.slice B x.cols.length cb));rw [<-Z] at hbb
   simpa using hbb)
  have d3:Kept (λb=>T b/\b<w.heap.size) w3 w4:=(by rw [Z];exact (((Kept.refl _ _).set2 (λh=>Lf)).set2 (λh=>Lf)).set2 (λh=>Lf));have b4:=Hd (HV3.o.keep d3);clear Z d3 f7 f6 f0 rf rl p0 p5 p6;have U:=HB1.o.keep (HX4.o.kept _);have p5:=U.q5;have p6:=U.q6;clear U;have f4:=Hd (AVA q x.cols x.rows B C cb cc w4 _ _ b4.o.strs b4.o.rows_ AA)
  go_wp2_with fail
  refine f4.o.mono ?_;rintro e5 w5 ⟨D5,a8,rfl,b5,b6,hx5⟩;obtain ⟨HX5,HR5,f2⟩:=Hd3 (HX4.o.trans hx5) (HR4.o.keep (hx5.kept _)) (b4.o.keep (hx5.kept _));have d4:=HR4.o.lt;have d8:=Hd (b6.mono (T:=λb=>g3<b) λb _ (hb:w4.heap.size<=b)=>AA);have f9:=Hd b5;clear hx5 b6 b5 d4 p5 p6;have rf:=HR5.o.frozen;have rl:=HR5.o.lt;have f5:w5.cell? ⟨g3,16,none⟩=some (.slice none noneA.deps.length 0):=HR5.o.q16
  go_upto_region 20 with fail
  obtain ⟨w6,hw6⟩:=eqx (w5.setCell ⟨g3,16,none⟩ (.slice D5 (Co x.cols x.rows).length a8));rw [<-hw6];have HX6:=Hd (show Ext w1 w6 by rw [hw6];exact HX5.o.set2 (Bl HG3.o) _);have HR6:=Hd (show Blk w6 g3 39 (Ap r0 B cb D5 a8) by
   have hbb:=HR5.o.set 16 (.slice D5 (Co x.cols x.rows).length a8);exact B4)
  have b3:Kept (λb=>(T b/\b<w.heap.size)\/g3<b) w5 w6:=(by rw [hw6];exact (Kept.refl _ _).set2 (λh=>by have:=HG3.o;have:=HXW.o.size;rcases h with h | h;(have:=h.2;omega);omega));have d6:=Hd (show AbM w6 (λb=>(T b/\b<w.heap.size)\/g3<b) r0 B cb D5 a8 by
   rw [HRR.o];exact ⟨hcp,f9.o,(f2.o.strs.keep (b3.mono λb _ h=>.inl h)).mono λb _ h=>.inl h,(d8.o.keep (b3.mono λb _ h=>.inr h)).mono λb _ h=>.inr h⟩)
  clear hw6 b3 f5 rf rl;have p0:=(HB1.o.keep (HX6.o.kept _)).q0;have r0c:=HR6.o.q0;have rf:=HR6.o.frozen;have rl:=HR6.o.lt
  go_wp2_with fail
  refine (HBI.o _).mono ?_;rintro e9 w9 ⟨rfl,rfl⟩
  go_upto_region 21 with fail
  obtain ⟨wb,hwb⟩:=eqx (w6.setCell ⟨g3,0,none⟩ (.I p2));rw [<-hwb];have HXB:=Hd (show Ext w1 wb by rw [hwb];exact HX6.o.set2 (Bl HG3.o) _);have hrb:Blk wb g3 39 (Ap raw B cb D5 a8):=by
   exact Oe
  have HRB:=Hd hrb;have hkb:Kept (λb=>(T b/\b<w.heap.size)\/g3<b) w6 wb:=(by rw [hwb];exact (Kept.refl _ _).set2 (λh=>by have:=HG3.o;have:=HXW.o.size;rcases h with h | h;(have:=h.2;omega);omega));have HAB:=Hd (show AbM wb (λb=>(T b/\b<w.heap.size)\/g3<b) raw B cb D5 a8 from by
   have h:=(d6.o).keep hkb;rw [HR0.o];exact h)
  clear hwb hrb hkb p0 r0c rf rl;have HCN:=Hd (As raw B D5 cb a8 wb _ HAB.o.2.2.1 HAB.o.2.2.2 (HT.o.ext (HXW.o.trans HXB.o)) HNR.o);refine wp_region_lit ?_;refine AJ rfl 39 _ rfl g3 rfl HRB.o AS AH ?_
  go_wp2_with fail
  refine HCN.o.mono ?_;rintro e8 w8 ⟨A5,c5,D7,e7,rfl,hab5,hx5⟩;have HX5:=Hd (HXB.o.trans hx5);have HAB5:=Hd hab5;have hb25:=HB2.o.keep (HX5.o.kept _);rename_i K1 hK1 K2 hK2;refine hK2 _ _ ?_;refine AM rfl 39 _ _ rfl g2 (Ap (AX raw) A5 c5 D7 e7) rfl rfl 39 _ hb25 AH rfl AD ?_;intro wf hbf hof;refine hK1 _ _ ?_;obtain ⟨HXF,HBF,HABF⟩:=Hd3 ((HXW.o.trans HX5.o).only hof Bq) hbf hab5;have hkf:=hof.kept (S:=λb=>(T b/\b<w.heap.size)\/g3<b) (λb _ hb e=>by have:=HG2.o;have:=HG3.o;have:=HB2.o.lt;rcases hb with h|h;(have:=h.2;omega);omega);have HKF:=Hd hkf;clear hK1 hK2 hbf hb25 hx5 hab5 hof hkf
  go_wp2_with fail
  refine bodyPost_ret (Bv results19 rfl (Eq HBF.o AS AH)) rfl ?_;rw [HOF.o,<-HRAW.o];exact ⟨A5,c5,D7,e7,rfl,((HABF.o.mono (T:=λb=>(T b/\b<w.heap.size)\/g3<b) λb _ hb=>by rcases hb with h|h;exact h;exact .inr (by have:=HRB.o.lt;omega)).keep HKF.o).mono λb _ hb=>hb.imp And.left λh=>by have:=HG3.o;have:=HXW.o.size;omega,HXF.o⟩
