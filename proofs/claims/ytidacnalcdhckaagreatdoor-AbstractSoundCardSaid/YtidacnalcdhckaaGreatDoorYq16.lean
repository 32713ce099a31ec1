/- Lemmas. No conditions. -/
import Derived.Test.YtidacnalcdhckaaGreatDoorYq15
set_option maxRecDepth 100000
set_option maxHeartbeats 4000000
namespace Go.Proofs.YtidacnalcdhckaaGreatDoor
open Go Go.RowKit Tryz
variable {qP:Prop}

theorem Jq{w:World}{base c:Nat}{A:OA}{ls:List (List UInt8)}(h:Own w base 9 1 A ls.length c ((ls.map bsA).map Value.string))(hne:ls≠[])(hs:(Lib.join ls [32]).length≤140737488355328)(hn:ls.length≤1000) :
  Cl 100 #[.slice A ls.length c,.string ⟨#[32]⟩] w (Bt w (bsA (Lib.join ls [32]))):=by
 have hd:(ls.map bsA).map (fun x:BA=>x.data.toList)=ls:=by
  rw [List.map_map];(conv=>rhs;rw [←List.map_id ls]);exact List.map_congr_left fun x _=>rfl
 rcases h.rd with h0|⟨b,o,hA,-,hlt,hc⟩
 ·simp at h0;exact absurd h0 hne
 ·subst hA;have hl:(ls.map bsA).length=ls.length:=List.length_map _;have hj:=Any.strings_Join Tryz.lt156 Tryz.xt156 b o c (ls.map bsA) ⟨#[32]⟩ w (fun j x hj=>hc j _ (by rw [List.getElem?_map,hj];rfl)) hlt Y4 (by rw [hl];exact h.cap) (by rw [hd];exact hs);rw [hd,hl] at hj;exact hj

theorem Yi(h:qP:=by
 rintro ee wz ⟨rfl,hx⟩;have HXZ:=Hd (HX.o.trans hx);clear hx hj hsz hbl;go_wp2;go_ret;exact ⟨by rw [HJN.o];rfl,HX0.o.trans HXZ.o⟩):qP:=h
theorem BRA(h:qP:=by
 rw [←hjn] at hj;have HJN:=Hd (show jn=res by rw [hjn,HRES.o];simp [Lib.join_cons,Lib.joinTail]);clear hjn;refine Calls.mono (show Cl 100 #[.slice A9 1 c9,.string ⟨#[32]⟩] w8 _ from hj) ?_;exact Yi):qP:=h
theorem V2(h:qP:=by
 rw [←hca];exact AU a A D c e w0 _ ((hA.mono (T:=fun b=>S b∧b<w.heap.size) fun i hi hs=>⟨hs,hi⟩).keep (hx0.kept _)) ((hD.mono (T:=fun b=>S b∧b<w.heap.size) fun i hi hs=>⟨hs,hi⟩).keep (hx0.kept _)) (ht.ext hx0).tens hz):qP:=h
theorem Y82(h:qP:=by rw [HK.o];decide):qP:=h
theorem W6(h:qP:=by
 rw [show bt ca.kinds 2=false from Y82] at h;exact h):qP:=h
theorem BbA(h:qP:=by
 have h:=Am ca A2 D2 c2 e2 3 Y4 w5;rw [show bt ca.kinds 3=false from Y82] at h;exact h):qP:=h
theorem Uv(h:qP:=by
 have h:=Am ca A2 D2 c2 e2 4 Y4 w6;rw [show bt ca.kinds 4=false from Y82] at h;exact h):qP:=h
theorem WV(h:qP:=by
 have h:=Am ca A2 D2 c2 e2 5 Y4 w7;rw [show bt ca.kinds 5=false from Y82] at h;exact h):qP:=h
theorem Y83(h:qP:=by rw [hg];exact AS):qP:=h
theorem Y84(h:qP:=by have h:=HB38.o.cell (i:=17) (u:=.bool ca.errs) rfl;rw [HER.o] at h;exact h):qP:=h
theorem Y85(h:qP:=by have h:=HOW.o;rw [HTT.o] at h;exact h):qP:=h
theorem Y86(h:qP:=by simp only [Lib.join_cons,Lib.joinTail,Lib.join_one,List.map_cons,List.map_nil,List.flatten_cons,List.flatten_nil,List.length_append,List.length_cons,List.length_nil];omega):qP:=h
theorem JC(a ca:Abs)(A D:OA)(c e:Nat)(w:World)(S:NP)(hA:Strs w S A a.cols)(hD:RDeps w S D a.deps)(hz:AbN 1000000 a)(ht:Txa w)(hca:AM a=ca)(hk:ca.kinds=2)(he:ca.errs=false)(hI:I64 ca.tx.least∧I64 ca.tx.most∧I64 ca.tx.cls∧ca.tx.b.size≤1000000∧ca.tx.e.size≤1000000)(hsz:(bsA (KR ca.tx)).size≤3000000) :
  Cl 33 #[(Aq a A c D e)] w (Bt w (bsA ([116,101,120,116,40]++KR ca.tx++[41]))):=by
 obtain ⟨w0,hw0⟩:=eqx (w.alloc (.cells (Ap a A c D e) 39));obtain ⟨g1,hg1⟩:=eqx w.heap.size;have hx0:Ext w w0:=Y68;obtain ⟨res,hres⟩:=eqx (bsA ([116,101,120,116,40]++KR ca.tx++[41]));rw [←hres];have HRES:=Hd hres;clear hres;obtain ⟨HX0,HB1,HT0,HI,HSZ,HK,HER⟩:=Hd7 hx0 (show Blk w0 g1 39 (Ap a A c D e) by rw [hw0,hg1];exact Blk.new _ _ _) (ht.ext hx0) hI hsz hk he;have HCA:=Hd (show Cl 47 #[(Aq a A c D e)] w0 (DD w0 (fun b=>S b∧b<w.heap.size) ca) by
  exact V2)
 have HW0:=Hd hw0;have HG1:=Hd hg1;clear hw0 hg1 hx0 hI hsz hk he hA hD hz ht hca
 go_enter func33,ntmps33
 go_upto_region 1 with fail
 rw [←HW0.o,←HG1.o];refine wp_region_lit ?_;refine AB rfl 39 _ rfl g1 rfl HB1.o AH AA ?_
 go_wp2_with fail
 refine HCA.o.mono ?_;rintro ee wt ⟨A2,c2,D2,e2,rfl,hab,hxt⟩;rename_i K1 hK1 K2 hK2;refine hK2 _ _ ?_;refine AP rfl rfl ?_;obtain ⟨g3,hg⟩:=eqx wt.heap.size;rw [←hg];refine AD rfl 39 _ _ rfl g3 (Ap ca A2 c2 D2 e2) rfl rfl 39 _ (EX hg) AA rfl Y11 ?_;intro w1 hb ho;refine hK1 _ _ ?_;have hxo:Ext wt w1:=(exaa wt).only ho Y83;have HX1:=Hd (hxt.trans hxo);have HB31:=Hd hb;clear hK1 hK2 hb ho hxo hxt hab hg
 go_frame
 go_upto_region 3 with fail
 have HH:=Hd (show Cl 84 #[(Aq ca A2 c2 D2 e2),.I 1] w1 (AO w1 true) by
  have h:=Am ca A2 D2 c2 e2 1 Y4 w1;rw [show bt ca.kinds 1=true from Y82] at h;exact h)
 refine wp_region_lit ?_;refine AB rfl 39 _ rfl g3 rfl HB31.o AH AA ?_
 go_wp2_with fail
 refine HH.o.mono ?_;rintro ee w2 ⟨rfl,hx⟩;have HX2:=Hd (HX1.o.trans hx);have HB32:=Hd (HB31.o.keep (hx.kept _));clear hx HH HX1 HB31
 go_upto_region 4 with fail
 have m1:=HB32.o.q1;have m2:=HB32.o.q2;have m3:=HB32.o.q3;have m4:=HB32.o.q4;have m5:=HB32.o.q5
 go_wp2_with fail
 have hI:=HI.o;refine (Ob ca.tx hI.1 hI.2.1 hI.2.2.1 hI.2.2.2.1 hI.2.2.2.2 _ (HT0.o.ext HX2.o)).mono ?_;rintro ee w3 ⟨rfl,hx⟩;have HX3:=Hd (HX2.o.trans hx);have HB33:=Hd (HB32.o.keep (hx.kept _));clear hx hI HX2 HB32 m1 m2 m3 m4 m5;obtain ⟨tx,htx⟩:=eqx (bsA (KR ca.tx));rw [←htx];have hsz:tx.size≤3000000:=(by rw [htx];exact HSZ.o);have HTX:=Hd htx;have hsl:(⟨#[116,101,120,116,40]⟩:BA).size=5:=rfl;have hs1:¬(9223372036854775807<5+tx.size):=Y4;have hs2:¬(9223372036854775807<5+tx.size+1):=Y4;have HON:=Hd (OwnSs.nil w3 w0.heap.size);clear htx hsl;obtain ⟨M,hM⟩:=eqx w3.heap.size;have HM:=Hd (show w0.heap.size≤M by rw [hM];exact HX3.o.size);have HOC:=Hd (show Own w3 w0.heap.size 9 1 none 0 0 [] from (OwnSs.nil _ _).1);have hszw:=HX3.o.size;clear hM
 go_upto_region 5 with (at_builtin;go_must (refine AC rfl (.tmp 12) (.tmp 18) rfl tiS rfl (HOC.o.ext (exaa _)) rfl (Blk.rd (Blk.new _ _ _)) rfl Y18 Y4 Y17 Y16 ?_);intro A9 c9 w9 hown9 hg9 hat9)
 obtain ⟨tt,htt⟩:=eqx ((⟨#[116,101,120,116,40]⟩:BA)++tx++⟨#[41]⟩);rw [←htt] at hown9 hg9;obtain ⟨HTT,HX4,HB34,HOW4⟩:=Hd4 (show tt=bsA ([116,101,120,116,40]++KR ca.tx++[41]) by rw [htt,HTX.o,show (⟨#[116,101,120,116,40]⟩:BA)=bsA [116,101,120,116,40] from rfl,show (⟨#[41]⟩:BA)=bsA [41] from rfl,Br,Br]) (Ext.grown (HX3.o.alloc (.cells #[.string tt] 9)) hg9 (fun b hb=>by cases hb)) (HB33.o.keep ((Kept.alloc _ _ (.cells #[.string tt] 9)).trans (Kept.of_grown (S:=fun b=>b=g3) hg9 (fun b _ _ e=>by cases e)))) (show Own w9 w0.heap.size 9 1 A9 1 c9 [.string tt] from hown9);obtain ⟨w4,rfl⟩:=eqx w9;clear hown9 hg9 hat9 htt hs1 hs2 hsz HON HOC hszw HX3 HB33;have HH:=Hd (show Cl 84 #[(Aq ca A2 c2 D2 e2),.I 2] w4 (AO w4 false) by
  have h:=Am ca A2 D2 c2 e2 2 Y4 w4;exact W6)
 refine wp_region_lit ?_;refine AB rfl 39 _ rfl g3 rfl HB34.o AH AA ?_
 go_wp2_with fail
 refine HH.o.mono ?_;rintro ee w5 ⟨rfl,hx⟩;obtain ⟨HX5,HB35,HOW5⟩:=Hd3 (HX4.o.trans hx) (HB34.o.keep (hx.kept _)) (HOW4.o.ext hx);clear HOW4 hx HH HX4 HB34
 go_upto_region 7 with fail
 have HH:=Hd (show Cl 84 #[(Aq ca A2 c2 D2 e2),.I 3] w5 (AO w5 false) by
  exact BbA)
 refine wp_region_lit ?_;refine AB rfl 39 _ rfl g3 rfl HB35.o AH AA ?_
 go_wp2_with fail
 refine HH.o.mono ?_;rintro ee w6 ⟨rfl,hx⟩;obtain ⟨HX6,HB36,HOW6⟩:=Hd3 (HX5.o.trans hx) (HB35.o.keep (hx.kept _)) (HOW5.o.ext hx);clear HOW5 hx HH HX5 HB35
 go_upto_region 9 with fail
 have HH:=Hd (show Cl 84 #[(Aq ca A2 c2 D2 e2),.I 4] w6 (AO w6 false) by
  exact Uv)
 refine wp_region_lit ?_;refine AB rfl 39 _ rfl g3 rfl HB36.o AH AA ?_
 go_wp2_with fail
 refine HH.o.mono ?_;rintro ee w7 ⟨rfl,hx⟩;obtain ⟨HX7,HB37,HOW7⟩:=Hd3 (HX6.o.trans hx) (HB36.o.keep (hx.kept _)) (HOW6.o.ext hx);clear HOW6 hx HH HX6 HB36
 go_upto_region 11 with fail
 have HH:=Hd (show Cl 84 #[(Aq ca A2 c2 D2 e2),.I 5] w7 (AO w7 false) by
  exact WV)
 refine wp_region_lit ?_;refine AB rfl 39 _ rfl g3 rfl HB37.o AH AA ?_
 go_wp2_with fail
 refine HH.o.mono ?_;rintro ee w8 ⟨rfl,hx⟩;obtain ⟨HX8,HB38,HOW8⟩:=Hd3 (HX7.o.trans hx) (HB37.o.keep (hx.kept _)) (HOW7.o.ext hx);clear HOW7 hx HH HX7 HB37
 go_upto_region 19 with fail
 have m17:w8.cell? ⟨g3,17,none⟩=some (.bool false):=Y84;have HX:=HX8;have HOW:=HOW8
 go_upto_region 21 with fail
 clear m17
 go_wp2_with fail
 have hbl:∀ l:List UInt8,(bsA l).size=l.length:=fun l=>rfl;have hsz:=HSZ.o;rw [hbl] at hsz;have hj:=Jq (w:=w8) (base:=w0.heap.size) (c:=c9) (A:=A9) (ls:=[[116,101,120,116,40]++KR ca.tx++[41]]) Y85 Y3 Y86 Y3;obtain ⟨jn,hjn⟩:=eqx (bsA (Lib.join [[116,101,120,116,40]++KR ca.tx++[41]] [32]));exact BRA

theorem AIA(h:qP:=by
 have h:=Am ca A2 D2 c2 e2 1 Y4 w1;rw [show bt ca.kinds 1=false from Y82] at h;exact h):qP:=h
theorem Ix(a ca:Abs)(A D:OA)(c e:Nat)(w:World)(S:NP)(p q:Nat)(hA:Strs w S A a.cols)(hD:RDeps w S D a.deps)(hz:AbN 1000000 a)(ht:Txa w)(hca:AM a=ca)(hk:ca.kinds=4)(he:ca.errs=false)(hI:ca.nu.ls=p∧ca.nu.hs=q∧Cm ca.nu.ln ca.nu.ls=true∧Cm ca.nu.hn ca.nu.hs=true∧Ah ca.nu=false)(hsz:(bsA (Kf ca.nu)).size≤3000000) :
  Cl 33 #[(Aq a A c D e)] w (Bt w (bsA ([110,117,109,98,101,114,40]++Kf ca.nu++[41]))):=by
 obtain ⟨w0,hw0⟩:=eqx (w.alloc (.cells (Ap a A c D e) 39));obtain ⟨g1,hg1⟩:=eqx w.heap.size;have hx0:Ext w w0:=Y68;obtain ⟨res,hres⟩:=eqx (bsA ([110,117,109,98,101,114,40]++Kf ca.nu++[41]));rw [←hres];have HRES:=Hd hres;clear hres;obtain ⟨HX0,HB1,HT0,HI,HSZ,HK,HER⟩:=Hd7 hx0 (show Blk w0 g1 39 (Ap a A c D e) by rw [hw0,hg1];exact Blk.new _ _ _) (ht.ext hx0) hI hsz hk he;have HCA:=Hd (show Cl 47 #[(Aq a A c D e)] w0 (DD w0 (fun b=>S b∧b<w.heap.size) ca) by
  exact V2)
 have HW0:=Hd hw0;have HG1:=Hd hg1;clear hw0 hg1 hx0 hI hsz hk he hA hD hz ht hca
 go_enter func33,ntmps33
 go_upto_region 1 with fail
 rw [←HW0.o,←HG1.o];refine wp_region_lit ?_;refine AB rfl 39 _ rfl g1 rfl HB1.o AH AA ?_
 go_wp2_with fail
 refine HCA.o.mono ?_;rintro ee wt ⟨A2,c2,D2,e2,rfl,hab,hxt⟩;rename_i K1 hK1 K2 hK2;refine hK2 _ _ ?_;refine AP rfl rfl ?_;obtain ⟨g3,hg⟩:=eqx wt.heap.size;rw [←hg];refine AD rfl 39 _ _ rfl g3 (Ap ca A2 c2 D2 e2) rfl rfl 39 _ (EX hg) AA rfl Y11 ?_;intro w1 hb ho;refine hK1 _ _ ?_;have hxo:Ext wt w1:=(exaa wt).only ho Y83;have HX1:=Hd (hxt.trans hxo);have HB31:=Hd hb;clear hK1 hK2 hb ho hxo hxt hab hg
 go_frame
 go_upto_region 3 with fail
 have HH:=Hd (show Cl 84 #[(Aq ca A2 c2 D2 e2),.I 1] w1 (AO w1 false) by
  exact AIA)
 refine wp_region_lit ?_;refine AB rfl 39 _ rfl g3 rfl HB31.o AH AA ?_
 go_wp2_with fail
 refine HH.o.mono ?_;rintro ee w2 ⟨rfl,hx⟩;have HX2:=Hd (HX1.o.trans hx);have HB32:=Hd (HB31.o.keep (hx.kept _));clear hx HH HX1 HB31
 go_upto_region 5 with fail
 have HH:=Hd (show Cl 84 #[(Aq ca A2 c2 D2 e2),.I 2] w2 (AO w2 true) by
  have h:=Am ca A2 D2 c2 e2 2 Y4 w2;rw [show bt ca.kinds 2=true from Y82] at h;exact h)
 refine wp_region_lit ?_;refine AB rfl 39 _ rfl g3 rfl HB32.o AH AA ?_
 go_wp2_with fail
 refine HH.o.mono ?_;rintro ee w3 ⟨rfl,hx⟩;have HX3:=Hd (HX2.o.trans hx);have HB33:=Hd (HB32.o.keep (hx.kept _));clear hx HH HX2 HB32
 go_upto_region 6 with fail
 have m6:=HB33.o.q6;have m7:=HB33.o.q7;have m8:=HB33.o.q8;have m9:=HB33.o.q9
 go_wp2_with fail
 have hI:=HI.o;refine (Ki ca.nu p q hI.1 hI.2.1 hI.2.2.1 hI.2.2.2.1 hI.2.2.2.2 _ (HT0.o.ext HX3.o)).mono ?_;rintro ee w4 ⟨rfl,hx⟩;have HX4:=Hd (HX3.o.trans hx);have HB34:=Hd (HB33.o.keep (hx.kept _));clear hx hI HX3 HB33 m6 m7 m8 m9;obtain ⟨tx,htx⟩:=eqx (bsA (Kf ca.nu));rw [←htx];have hsz:tx.size≤3000000:=(by rw [htx];exact HSZ.o);have HTX:=Hd htx;have hsl:(⟨#[110,117,109,98,101,114,40]⟩:BA).size=7:=rfl;have hs1:¬(9223372036854775807<7+tx.size):=Y4;have hs2:¬(9223372036854775807<7+tx.size+1):=Y4;have HON:=Hd (OwnSs.nil w4 w0.heap.size);clear htx hsl;obtain ⟨M,hM⟩:=eqx w4.heap.size;have HM:=Hd (show w0.heap.size≤M by rw [hM];exact HX4.o.size);have HOC:=Hd (show Own w4 w0.heap.size 9 1 none 0 0 [] from (OwnSs.nil _ _).1);have hszw:=HX4.o.size;clear hM
 go_upto_region 7 with (at_builtin;go_must (refine AC rfl (.tmp 22) (.tmp 28) rfl tiS rfl (HOC.o.ext (exaa _)) rfl (Blk.rd (Blk.new _ _ _)) rfl Y18 Y4 Y17 Y16 ?_);intro A9 c9 w9 hown9 hg9 hat9)
 obtain ⟨tt,htt⟩:=eqx ((⟨#[110,117,109,98,101,114,40]⟩:BA)++tx++⟨#[41]⟩);rw [←htt] at hown9 hg9;obtain ⟨HTT,HX5,HB35,HOW5⟩:=Hd4 (show tt=bsA ([110,117,109,98,101,114,40]++Kf ca.nu++[41]) by rw [htt,HTX.o,show (⟨#[110,117,109,98,101,114,40]⟩:BA)=bsA [110,117,109,98,101,114,40] from rfl,show (⟨#[41]⟩:BA)=bsA [41] from rfl,Br,Br]) (Ext.grown (HX4.o.alloc (.cells #[.string tt] 9)) hg9 (fun b hb=>by cases hb)) (HB34.o.keep ((Kept.alloc _ _ (.cells #[.string tt] 9)).trans (Kept.of_grown (S:=fun b=>b=g3) hg9 (fun b _ _ e=>by cases e)))) (show Own w9 w0.heap.size 9 1 A9 1 c9 [.string tt] from hown9);obtain ⟨w5,rfl⟩:=eqx w9;clear hown9 hg9 hat9 htt hs1 hs2 hsz HON HOC hszw HX4 HB34;have HH:=Hd (show Cl 84 #[(Aq ca A2 c2 D2 e2),.I 3] w5 (AO w5 false) by
  exact BbA)
 refine wp_region_lit ?_;refine AB rfl 39 _ rfl g3 rfl HB35.o AH AA ?_
 go_wp2_with fail
 refine HH.o.mono ?_;rintro ee w6 ⟨rfl,hx⟩;obtain ⟨HX6,HB36,HOW6⟩:=Hd3 (HX5.o.trans hx) (HB35.o.keep (hx.kept _)) (HOW5.o.ext hx);clear HOW5 hx HH HX5 HB35
 go_upto_region 9 with fail
 have HH:=Hd (show Cl 84 #[(Aq ca A2 c2 D2 e2),.I 4] w6 (AO w6 false) by
  exact Uv)
 refine wp_region_lit ?_;refine AB rfl 39 _ rfl g3 rfl HB36.o AH AA ?_
 go_wp2_with fail
 refine HH.o.mono ?_;rintro ee w7 ⟨rfl,hx⟩;obtain ⟨HX7,HB37,HOW7⟩:=Hd3 (HX6.o.trans hx) (HB36.o.keep (hx.kept _)) (HOW6.o.ext hx);clear HOW6 hx HH HX6 HB36
 go_upto_region 11 with fail
 have HH:=Hd (show Cl 84 #[(Aq ca A2 c2 D2 e2),.I 5] w7 (AO w7 false) by
  exact WV)
 refine wp_region_lit ?_;refine AB rfl 39 _ rfl g3 rfl HB37.o AH AA ?_
 go_wp2_with fail
 refine HH.o.mono ?_;rintro ee w8 ⟨rfl,hx⟩;obtain ⟨HX8,HB38,HOW8⟩:=Hd3 (HX7.o.trans hx) (HB37.o.keep (hx.kept _)) (HOW7.o.ext hx);clear HOW7 hx HH HX7 HB37
 go_upto_region 19 with fail
 have m17:w8.cell? ⟨g3,17,none⟩=some (.bool false):=Y84;have HX:=HX8;have HOW:=HOW8
 go_upto_region 21 with fail
 clear m17
 go_wp2_with fail
 have hbl:∀ l:List UInt8,(bsA l).size=l.length:=fun l=>rfl;have hsz:=HSZ.o;rw [hbl] at hsz;have hj:=Jq (w:=w8) (base:=w0.heap.size) (c:=c9) (A:=A9) (ls:=[[110,117,109,98,101,114,40]++Kf ca.nu++[41]]) Y85 Y3 Y86 Y3;obtain ⟨jn,hjn⟩:=eqx (bsA (Lib.join [[110,117,109,98,101,114,40]++Kf ca.nu++[41]] [32]));exact BRA

theorem I4(a ca:Abs)(A D:OA)(c e:Nat)(w:World)(S:NP)(hA:Strs w S A a.cols)(hD:RDeps w S D a.deps)(hz:AbN 1000000 a)(ht:Txa w)(hca:AM a=ca)(hk:ca.kinds=8)(he:ca.errs=true)(hI:I64 ca.dl∧I64 ca.dh)(hsz:(bsA (KN ca.dl ca.dh)).size≤3000000) :
  Cl 33 #[(Aq a A c D e)] w (Bt w (bsA ([100,97,116,101,40]++KN ca.dl ca.dh++[41]++[32]++[101,114,114,111,114]))):=by
 obtain ⟨w0,hw0⟩:=eqx (w.alloc (.cells (Ap a A c D e) 39));obtain ⟨g1,hg1⟩:=eqx w.heap.size;have hx0:Ext w w0:=Y68;obtain ⟨res,hres⟩:=eqx (bsA ([100,97,116,101,40]++KN ca.dl ca.dh++[41]++[32]++[101,114,114,111,114]));rw [←hres];have HRES:=Hd hres;clear hres;obtain ⟨HX0,HB1,HT0,HI,HSZ,HK,HER⟩:=Hd7 hx0 (show Blk w0 g1 39 (Ap a A c D e) by rw [hw0,hg1];exact Blk.new _ _ _) (ht.ext hx0) hI hsz hk he;have HCA:=Hd (show Cl 47 #[(Aq a A c D e)] w0 (DD w0 (fun b=>S b∧b<w.heap.size) ca) by
  exact V2)
 have HW0:=Hd hw0;have HG1:=Hd hg1;clear hw0 hg1 hx0 hI hsz hk he hA hD hz ht hca
 go_enter func33,ntmps33
 go_upto_region 1 with fail
 rw [←HW0.o,←HG1.o];refine wp_region_lit ?_;refine AB rfl 39 _ rfl g1 rfl HB1.o AH AA ?_
 go_wp2_with fail
 refine HCA.o.mono ?_;rintro ee wt ⟨A2,c2,D2,e2,rfl,hab,hxt⟩;rename_i K1 hK1 K2 hK2;refine hK2 _ _ ?_;refine AP rfl rfl ?_;obtain ⟨g3,hg⟩:=eqx wt.heap.size;rw [←hg];refine AD rfl 39 _ _ rfl g3 (Ap ca A2 c2 D2 e2) rfl rfl 39 _ (EX hg) AA rfl Y11 ?_;intro w1 hb ho;refine hK1 _ _ ?_;have hxo:Ext wt w1:=(exaa wt).only ho Y83;have HX1:=Hd (hxt.trans hxo);have HB31:=Hd hb;clear hK1 hK2 hb ho hxo hxt hab hg
 go_frame
 go_upto_region 3 with fail
 have HH:=Hd (show Cl 84 #[(Aq ca A2 c2 D2 e2),.I 1] w1 (AO w1 false) by
  exact AIA)
 refine wp_region_lit ?_;refine AB rfl 39 _ rfl g3 rfl HB31.o AH AA ?_
 go_wp2_with fail
 refine HH.o.mono ?_;rintro ee w2 ⟨rfl,hx⟩;have HX2:=Hd (HX1.o.trans hx);have HB32:=Hd (HB31.o.keep (hx.kept _));clear hx HH HX1 HB31
 go_upto_region 5 with fail
 have HH:=Hd (show Cl 84 #[(Aq ca A2 c2 D2 e2),.I 2] w2 (AO w2 false) by
  have h:=Am ca A2 D2 c2 e2 2 Y4 w2;exact W6)
 refine wp_region_lit ?_;refine AB rfl 39 _ rfl g3 rfl HB32.o AH AA ?_
 go_wp2_with fail
 refine HH.o.mono ?_;rintro ee w3 ⟨rfl,hx⟩;have HX3:=Hd (HX2.o.trans hx);have HB33:=Hd (HB32.o.keep (hx.kept _));clear hx HH HX2 HB32
 go_upto_region 7 with fail
 have HH:=Hd (show Cl 84 #[(Aq ca A2 c2 D2 e2),.I 3] w3 (AO w3 true) by
  have h:=Am ca A2 D2 c2 e2 3 Y4 w3;rw [show bt ca.kinds 3=true from Y82] at h;exact h)
 refine wp_region_lit ?_;refine AB rfl 39 _ rfl g3 rfl HB33.o AH AA ?_
 go_wp2_with fail
 refine HH.o.mono ?_;rintro ee w4 ⟨rfl,hx⟩;have HX4:=Hd (HX3.o.trans hx);have HB34:=Hd (HB33.o.keep (hx.kept _));clear hx HH HX3 HB33
 go_upto_region 8 with fail
 have m10:=HB34.o.q10;have m11:=HB34.o.q11
 go_wp2_with fail
 have hI:=HI.o;refine (G4 ca.dl ca.dh hI.1 hI.2 _ (HT0.o.ext HX4.o)).mono ?_;rintro ee w5 ⟨rfl,hx⟩;have HX5:=Hd (HX4.o.trans hx);have HB35:=Hd (HB34.o.keep (hx.kept _));clear hx hI HX4 HB34 m10 m11;obtain ⟨tx,htx⟩:=eqx (bsA (KN ca.dl ca.dh));rw [←htx];have hsz:tx.size≤3000000:=(by rw [htx];exact HSZ.o);have HTX:=Hd htx;have hsl:(⟨#[100,97,116,101,40]⟩:BA).size=5:=rfl;have hs1:¬(9223372036854775807<5+tx.size):=Y4;have hs2:¬(9223372036854775807<5+tx.size+1):=Y4;have HON:=Hd (OwnSs.nil w5 w0.heap.size);clear htx hsl;obtain ⟨M,hM⟩:=eqx w5.heap.size;have HM:=Hd (show w0.heap.size≤M by rw [hM];exact HX5.o.size);have HOC:=Hd (show Own w5 w0.heap.size 9 1 none 0 0 [] from (OwnSs.nil _ _).1);have hszw:=HX5.o.size;clear hM
 go_upto_region 9 with (at_builtin;go_must (refine AC rfl (.tmp 32) (.tmp 38) rfl tiS rfl (HOC.o.ext (exaa _)) rfl (Blk.rd (Blk.new _ _ _)) rfl Y18 Y4 Y17 Y16 ?_);intro A9 c9 w9 hown9 hg9 hat9)
 obtain ⟨tt,htt⟩:=eqx ((⟨#[100,97,116,101,40]⟩:BA)++tx++⟨#[41]⟩);rw [←htt] at hown9 hg9;obtain ⟨HTT,HX6,HB36,HOW6⟩:=Hd4 (show tt=bsA ([100,97,116,101,40]++KN ca.dl ca.dh++[41]) by rw [htt,HTX.o,show (⟨#[100,97,116,101,40]⟩:BA)=bsA [100,97,116,101,40] from rfl,show (⟨#[41]⟩:BA)=bsA [41] from rfl,Br,Br]) (Ext.grown (HX5.o.alloc (.cells #[.string tt] 9)) hg9 (fun b hb=>by cases hb)) (HB35.o.keep ((Kept.alloc _ _ (.cells #[.string tt] 9)).trans (Kept.of_grown (S:=fun b=>b=g3) hg9 (fun b _ _ e=>by cases e)))) (show Own w9 w0.heap.size 9 1 A9 1 c9 [.string tt] from hown9);obtain ⟨w6,rfl⟩:=eqx w9;clear hown9 hg9 hat9 htt hs1 hs2 hsz HON HOC hszw HX5 HB35;have HH:=Hd (show Cl 84 #[(Aq ca A2 c2 D2 e2),.I 4] w6 (AO w6 false) by
  exact Uv)
 refine wp_region_lit ?_;refine AB rfl 39 _ rfl g3 rfl HB36.o AH AA ?_
 go_wp2_with fail
 refine HH.o.mono ?_;rintro ee w7 ⟨rfl,hx⟩;obtain ⟨HX7,HB37,HOW7⟩:=Hd3 (HX6.o.trans hx) (HB36.o.keep (hx.kept _)) (HOW6.o.ext hx);clear HOW6 hx HH HX6 HB36
 go_upto_region 11 with fail
 have HH:=Hd (show Cl 84 #[(Aq ca A2 c2 D2 e2),.I 5] w7 (AO w7 false) by
  exact WV)
 refine wp_region_lit ?_;refine AB rfl 39 _ rfl g3 rfl HB37.o AH AA ?_
 go_wp2_with fail
 refine HH.o.mono ?_;rintro ee w8 ⟨rfl,hx⟩;obtain ⟨HX8,HB38,HOW8⟩:=Hd3 (HX7.o.trans hx) (HB37.o.keep (hx.kept _)) (HOW7.o.ext hx);clear HOW7 hx HH HX7 HB37
 go_upto_region 19 with fail
 have m17:w8.cell? ⟨g3,17,none⟩=some (.bool true):=Y84
 go_upto_region 20 with fail
 have hszw:=HX8.o.size
 go_upto_region 21 with (at_builtin;go_must (refine AC rfl (.tmp 86) (.tmp 87) rfl tiS rfl (HOW8.o.ext (exaa _)) rfl (Blk.rd (Blk.new _ _ _)) rfl Y18 Y4 Y17 Y16 ?_);intro A8 c8 w8 hown8 hg8 hat8)
 have hx8:=Ext.grown (HX8.o.alloc (.cells #[.string ⟨#[101,114,114,111,114]⟩] 9)) hg8 (fun b hb=>(HOW8.o.blk hb).1);have HX:=Hd hx8;have HOW:=Hd (show Own w8 w0.heap.size 9 1 A8 2 c8 [.string tt,.string ⟨#[101,114,114,111,114]⟩] from hown8);clear m17 hown8 hg8 hat8 hx8 hszw
 go_wp2_with fail
 have hbl:∀ l:List UInt8,(bsA l).size=l.length:=fun l=>rfl;have hsz:=HSZ.o;rw [hbl] at hsz;have hj:=Jq (w:=w8) (base:=w0.heap.size) (c:=c8) (A:=A8) (ls:=[[100,97,116,101,40]++KN ca.dl ca.dh++[41],[101,114,114,111,114]]) Y85 Y3 Y86 Y3;obtain ⟨jn,hjn⟩:=eqx (bsA (Lib.join [[100,97,116,101,40]++KN ca.dl ca.dh++[41],[101,114,114,111,114]] [32]));rw [←hjn] at hj;have HJN:=Hd (show jn=res by rw [hjn,HRES.o];simp [Lib.join_cons,Lib.joinTail]);clear hjn;refine Calls.mono (show Cl 100 #[.slice A8 2 c8,.string ⟨#[32]⟩] w8 _ from hj) ?_;exact Yi

theorem Mu(s:BA):ShN 200 (ofS s):=by
 unfold ofS;split
 ·rename_i h;have:s.size≤200:=by
   unfold Bi at h;simp at h;exact h.1
  exact ⟨this,this⟩
 ·exact E9A _
theorem Fv{v:Val}(hr:Ae v=true)(hk:v.kind=5):v.cols.length≤8:=by
 unfold Ae at hr;rw [if_pos hk,Bool.and_eq_true] at hr;have h:=hr.1;unfold Ao at h;simp only [Bool.and_eq_true,decide_eq_true_eq] at h;exact h.1.1.1
theorem Ui{v:Val}(hr:Ae v=true):AbN 300 (Bc v):=by
 have ht:ShN 200 (Bc v).tx:=by
  show ShN 200 (if v.kind=1 then ofS v.s else EwA);split
  ·exact Mu _
  ·exact E9A _
 refine ⟨Nat.le_trans ht.1 Y17,Nat.le_trans ht.2 Y17,?_,?_,?_⟩
 ·show (if v.kind=5 then v.cols else []).length≤300;split
  ·rename_i hk;have:=Fv hr hk;omega
  ·exact AE
 ·show (if v.kind=5 then Bp v.cols v.rows else []).length≤300;split
  ·rename_i hk;exact (F4 _ _ (Fv hr hk)).1
  ·exact AE
 ·show ∀ d∈(if v.kind=5 then Bp v.cols v.rows else []),d.frm.length≤300;split
  ·rename_i hk;intro d hd;have:=(F4 _ _ (Fv hr hk)).2 d hd;omega
  ·intro d hd;cases hd
theorem Ha(v:Val):AbN 300 (ofA v):=by
 unfold ofA;split
 ·rename_i h;exact (Ui h).can
 ·exact FMA _
theorem RS{v:Val}(hk:v.kind=0):AM (Bc v) = { noneA with errs:=true }:=by
 have hb:(Bc v).kinds=1:=by
  show IW v.kind=1;rw [hk];rfl
 have h1:pT (Bc v)=false:=(by unfold pT;rw [hb];rfl);have h2:pN (Bc v)=false:=(by unfold pN;rw [hb];rfl);have h3:pD (Bc v)=false:=(by unfold pD;rw [hb];rfl);have h4:pB (Bc v)=false:=(by unfold pB;rw [hb];rfl);have h5:pR (Bc v)=false:=(by unfold pR;rw [hb];rfl);have he:(Bc v).errs=true:=(by show decide (v.kind=0)=true;rw [hk];rfl);unfold AM;rw [h1,h2,h3,h4,h5,he];rfl
theorem A4A(h:qP:=by
 rw [HF.o];exact ⟨_,_,_,_,rfl,AbM.nil ⟨rfl,rfl⟩,HXF.o⟩):qP:=h
theorem Yk(h:qP:=by
 have HBF:=Hd hbf;clear hbf hof
 go_wp2_with fail
 refine bodyPost_ret (BR results19 rfl (DM HBF.o AH AA)) rfl ?_;exact A4A):qP:=h
theorem BVA(h:qP:=by
 have hbb:=HR6.o.set 0 (.I p2);rw [←hwb] at hbb;rw [HR0.o]
 simpa using hbb):qP:=h
theorem Y87(h:qP:=by rw [HRR.o];exact ⟨rfl,rfl⟩):qP:=h
theorem C9A(h:qP:=by
 have h:=((show AbM w6 (fun b=>(T b∧b<w.heap.size)∨g3<b) r0 none 0 none 0 from AbM.nil Y87)).keep hkb;rw [HR0.o];exact h):qP:=h
theorem Y88(h:qP:=by have:=HG3.o;have:=HXW.o.size;rcases h with h|h;(have:=h.2;omega);omega):qP:=h
theorem Y89(h:qP:=by have:=HG3.o;have:=HXW.o.size;omega):qP:=h
theorem T4(h:qP:=by
 clear p0;have p0:=(HB1.o.keep (HX6.o.kept _)).q0;have r0c:=HR6.o.q0;have rf:=HR6.o.frozen;have rl:=HR6.o.lt
 go_wp2_with fail
 refine (HBI.o _).mono ?_;rintro e9 w9 ⟨rfl,rfl⟩
 go_upto_region 21 with fail
 obtain ⟨wb,hwb⟩:=eqx (w6.setCell ⟨g3,0,none⟩ (.I p2));rw [←hwb];have HXB:=Hd (show Ext w1 wb by rw [hwb];exact HX6.o.set2 (BI HG3.o) _);have hrb:Blk wb g3 39 (Ap raw none 0 none 0):=by
  exact BVA
 have HRB:=Hd hrb;have hkb:Kept (fun b=>(T b∧b<w.heap.size)∨g3<b) w6 wb:=(by rw [hwb];exact (Kept.refl _ _).set2 (fun h=>Y88));have HAB:=Hd (show AbM wb (fun b=>(T b∧b<w.heap.size)∨g3<b) raw none 0 none 0 from by
  exact C9A)
 clear hwb hrb hkb p0 r0c rf rl;have HCN:=Hd (AU raw none none 0 0 wb _ HAB.o.2.2.1 HAB.o.2.2.2 (HT.o.ext (HXW.o.trans HXB.o)) HNR.o);refine wp_region_lit ?_;refine AB rfl 39 _ rfl g3 rfl HRB.o AH AA ?_
 go_wp2_with fail
 refine HCN.o.mono ?_;rintro e5 w5 ⟨A5,c5,D5,e5,rfl,hab5,hx5⟩;have HX5:=Hd (HXB.o.trans hx5);have HAB5:=Hd hab5;have hb25:=HB2.o.keep (HX5.o.kept _);rename_i K1 hK1 K2 hK2;refine hK2 _ _ ?_;refine AD rfl 39 _ _ rfl g2 (Ap (AM raw) A5 c5 D5 e5) rfl rfl 39 _ hb25 AA rfl Y11 ?_;intro wf hbf hof;refine hK1 _ _ ?_;obtain ⟨HXF,HBF,HABF⟩:=Hd3 ((HXW.o.trans HX5.o).only hof Y80) hbf hab5;have hkf:=hof.kept (S:=fun b=>(T b∧b<w.heap.size)∨g3<b) (fun b _ hb e=>by have:=HG2.o;have:=HG3.o;have:=HB2.o.lt;rcases hb with h|h;(have:=h.2;omega);omega);have HKF:=Hd hkf;clear hK1 hK2 hbf hb25 hx5 hab5 hof hkf
 go_wp2_with fail
 refine bodyPost_ret (BR results19 rfl (DM HBF.o AH AA)) rfl ?_;rw [HOF.o,←HRAW.o];exact ⟨A5,c5,D5,e5,rfl,((HABF.o.mono (T:=fun b=>(T b∧b<w.heap.size)∨g3<b) fun b _ hb=>by rcases hb with h|h;exact h;exact .inr (by have:=HRB.o.lt;omega)).keep HKF.o).mono fun b _ hb=>hb.imp And.left fun h=>Y89,HXF.o⟩):qP:=h
theorem I6(h:qP:=by
 rw [←hw6] at hbb;rw [HRR.o]
 simpa using hbb):qP:=h
theorem Ww(h:qP:=by
 clear hw6 rf rl p4 r12;exact T4):qP:=h
theorem Y90(h:qP:=by rw [hw0,hg1];exact (Blk.new _ _ _).keep ((exaa _).kept _)):qP:=h
theorem Y91(h:qP:=by have:=HG3.o;have:=HXW.o.size;have:=h.2;omega):qP:=h
theorem B4(q:Nat)(x:Val)(B C:OA)(cb cc:Nat)(w:World)(T:NP)(hx:RV w T q x B C)(hcap:x.cols.length≤cb)(ht:Tens w) :
  Cl 19 #[(Vq x B cb C cc)] w (DD w T (ofA x)):=by
 obtain ⟨w0,hw0⟩:=eqx ((w.alloc (.cells (Vp x B cb C cc) 29)).alloc (.cells Az 39));obtain ⟨g1,hg1⟩:=eqx w.heap.size;obtain ⟨g2,hg2⟩:=eqx (w.heap.size+1);have hx0:Ext w w0:=Y49;have hb1:Blk w0 g1 29 (Vp x B cb C cc):=Y90;have hb2:Blk w0 g2 39 Az:=(by rw [hw0,hg2];exact EzA _ _ _ _);obtain ⟨HW0,HG1,HG2,HX0,HB10,HB20,HV,HT⟩:=Hd8 hw0 hg1 hg2 hx0 hb1 hb2 (hx.mono (T:=fun b=>T b∧b<w.heap.size) fun i hi hs=>⟨hs,hi⟩) ht;have hss:=hx.size;have hcp:=hcap;clear hw0 hg1 hg2 hx0 hb1 hb2 hx ht hcap
 go_enter func19,ntmps19
 go_upto_region 1 with fail
 rw [←HW0.o,←HG2.o,←HG1.o]
 go_wp2_with fail
 refine (Ew _).mono ?_;rintro e1 w1 ⟨rfl,hx1⟩;rename_i K1 hK1 K2 hK2;refine hK2 _ _ ?_;refine AP rfl rfl ?_;obtain ⟨g3,hg3⟩:=eqx w1.heap.size;rw [←hg3];refine AD rfl 39 _ _ rfl g3 (Ap noneA none 0 none 0) rfl rfl 39 _ (EX hg3) AA rfl Y11 ?_;intro w2 hb3 ho2;have hx2:Ext w1 w2:=(exaa w1).only ho2 Y78;obtain ⟨HXW,HB1,HB2,HX2,HR2,HG3⟩:=Hd6 (HX0.o.trans hx1) (HB10.o.keep (hx1.kept _)) (HB20.o.keep (hx1.kept _)) hx2 hb3 hg3;have HV2:=Hd ((HV.o.keep (HXW.o.kept _)).keep (hx2.kept _));have HRT:=Hd (Im q x B C cb cc w2 _ HV2.o hcp);refine hK1 _ _ ?_;clear hK1 hK2 hb3 ho2 hx1 hx2 hg3;have hba:=HB1.o.keep (HX2.o.kept _);obtain ⟨p0,p1,p2,p3,p4,p5,p6⟩:=hba.qs7;clear hba
 go_wp2_with fail
 cases hr:Ae x
 ·have HF:=Hd (show ofA x=noneA by unfold ofA;rw [hr];rfl);rw [hr] at HRT;clear hr;refine HRT.o.mono ?_;rintro e3 w3 ⟨rfl,hx3⟩;have HX3:=Hd (HX2.o.trans hx3);have HR3:=Hd (HR2.o.keep (hx3.kept _));clear hx3 p0 p1 p2 p3 p4 p5 p6
  go_upto_region 3 with fail
  refine wp_region_lit ?_;refine AB rfl 39 _ rfl g3 rfl HR3.o AH AA ?_;refine AD rfl 39 _ _ rfl g2 (Ap noneA none 0 none 0) rfl rfl 39 _ (HB2.o.keep (HX3.o.kept _)) AA rfl Y11 ?_;intro wf hbf hof;refine wpList_nil ?_;have HXF:=Hd ((HXW.o.trans HX3.o).only hof Y80);exact Yk
 have HR:=Hd hr;rw [hr] at HRT;have HOF:=Hd (show ofA x=AM (Bc x) by unfold ofA;rw [hr];rfl);have HNR:=Hd ((Ui hr).mono (m:=1000000) Y17);clear hr;refine HRT.o.mono ?_;rintro e3 w3 ⟨rfl,hx3⟩;obtain ⟨HX3,HR3,HV3⟩:=Hd3 (HX2.o.trans hx3) (HR2.o.keep (hx3.kept _)) (HV2.o.keep (hx3.kept _));clear hx3 p0 p1 p2 p3 p4 p5 p6;have hba:=HB1.o.keep (HX3.o.kept _);have p0:=hba.q0;have rf:=HR3.o.frozen;have rl:=HR3.o.lt;obtain ⟨raw,hraw⟩:=eqx (Bc x);rw [←hraw] at HNR;have HRAW:=Hd hraw;clear hraw
 rcases CQ HR.o with hk|hk|hk|hk|hk|hk
 ·have HF:=Hd (show ofA x = { noneA with errs:=true } by rw [HOF.o];exact RS hk);have r17:w3.cell? ⟨g3,17,none⟩=some (.bool noneA.errs):=HR3.o.q17;clear hba
  go_upto_region 7 with fail
  obtain ⟨w4,hw4⟩:=eqx (w3.setCell ⟨g3,17,none⟩ (.bool true));rw [←hw4];have HX4:=Hd (show Ext w1 w4 by rw [hw4];exact HX3.o.set2 (BI HG3.o) _);have HR4:=Hd (show Blk w4 g3 39 #[.I noneA.kinds,.I noneA.tx.least,.I noneA.tx.most,.I noneA.tx.cls,.string noneA.tx.b,.string noneA.tx.e,.I noneA.nu.ln,.I noneA.nu.ls,.I noneA.nu.hn,.I noneA.nu.hs,.I noneA.dl,.I noneA.dh,.I noneA.bo,.I noneA.rl,.I noneA.rh,.slice none noneA.cols.length 0,.slice none noneA.deps.length 0,.bool true] by rw [hw4];simpa using HR3.o.set 17 (.bool true));clear hw4 r17 p0 rf rl;refine wp_region_lit ?_;refine AB rfl 39 _ rfl g3 rfl HR4.o AH AA ?_;refine AD rfl 39 _ _ rfl g2 #[.I noneA.kinds,.I noneA.tx.least,.I noneA.tx.most,.I noneA.tx.cls,.string noneA.tx.b,.string noneA.tx.e,.I noneA.nu.ln,.I noneA.nu.ls,.I noneA.nu.hn,.I noneA.nu.hs,.I noneA.dl,.I noneA.dh,.I noneA.bo,.I noneA.rl,.I noneA.rh,.slice none noneA.cols.length 0,.slice none noneA.deps.length 0,.bool true] rfl rfl 39 _ (HB2.o.keep (HX4.o.kept _)) AA rfl Y11 ?_;intro wf hbf hof;refine wpList_nil ?_;have HXF:=Hd ((HXW.o.trans HX4.o).only hof Y80);exact Yk
 ·obtain ⟨p2,hp2⟩:∃ z:Int,z=((2^1:Nat):Int):=⟨_,rfl⟩;have HBI:=Hd (show ∀ w',Cl 48 #[.I 1] w' (BK w' p2) from fun w'=>by rw [hp2];exact AW 1 Y4 w');obtain ⟨r0,hr0⟩:∃ z:Abs,z = { noneA with tx:=ofS x.s }:=⟨_,rfl⟩;obtain ⟨HR0,HRR,HK⟩:=Hd3 (show raw = { r0 with kinds:=p2 } by rw [HRAW.o,hr0,hp2];unfold Bc noneA;simp [hk,IW]) hr0 hk;clear hp2 hr0;have p1:=hba.q1;clear hba rf rl
  go_wp2_with fail
  refine (Rc x.s hss _).mono ?_;rintro e4 w4 ⟨rfl,hx4⟩;have HX4:=Hd (HX3.o.trans hx4);have HR4:=Hd (HR3.o.keep (hx4.kept _));clear hx4;have rf:=HR4.o.frozen;have rl:=HR4.o.lt;have r1:=HR4.o.q1;have r2:=HR4.o.q2;have r3:=HR4.o.q3;have r4:=HR4.o.q4;have r5:=HR4.o.q5
  go_upto_region 20 with fail
  obtain ⟨w6,hw6⟩:=eqx ((((((w4.setCell ⟨g3,1,none⟩ (.I (ofS x.s).least)).setCell ⟨g3,2,none⟩ (.I (ofS x.s).most)).setCell ⟨g3,3,none⟩ (.I (ofS x.s).cls)).setCell ⟨g3,4,none⟩ (.string (ofS x.s).b)).setCell ⟨g3,5,none⟩ (.string (ofS x.s).e)));rw [←hw6];have HX6:=Hd (show Ext w1 w6 by rw [hw6];exact (((((HX4.o.set2 (BI HG3.o) _).set2 (BI HG3.o) _).set2 (BI HG3.o) _).set2 (BI HG3.o) _).set2 (BI HG3.o) _));have HR6:=Hd (show Blk w6 g3 39 (Ap r0 none 0 none 0) by
   have hbb:=(((((HR4.o.set 1 (.I (ofS x.s).least)).set 2 (.I (ofS x.s).most)).set 3 (.I (ofS x.s).cls)).set 4 (.string (ofS x.s).b)).set 5 (.string (ofS x.s).e));exact I6)
  clear hw6 rf rl p1 r1 r2 r3 r4 r5;exact T4
 ·obtain ⟨p2,hp2⟩:∃ z:Int,z=((2^2:Nat):Int):=⟨_,rfl⟩;have HBI:=Hd (show ∀ w',Cl 48 #[.I 2] w' (BK w' p2) from fun w'=>by rw [hp2];exact AW 2 Y4 w');obtain ⟨r0,hr0⟩:∃ z:Abs,z = { noneA with nu:=⟨x.dn,x.ds,x.dn,x.ds⟩ }:=⟨_,rfl⟩;obtain ⟨HR0,HRR,HK⟩:=Hd3 (show raw = { r0 with kinds:=p2 } by rw [HRAW.o,hr0,hp2];unfold Bc noneA;simp [hk,IW]) hr0 hk;clear hp2 hr0;have p2:=hba.q2;have p3:=hba.q3;clear hba;have r6:=HR3.o.q6;have r7:=HR3.o.q7;have r8:=HR3.o.q8;have r9:=HR3.o.q9
  go_upto_region 20 with fail
  obtain ⟨w6,hw6⟩:=eqx (((((w3.setCell ⟨g3,6,none⟩ (.I x.dn)).setCell ⟨g3,7,none⟩ (.I x.ds)).setCell ⟨g3,8,none⟩ (.I x.dn)).setCell ⟨g3,9,none⟩ (.I x.ds)));rw [←hw6];have HX6:=Hd (show Ext w1 w6 by rw [hw6];exact ((((HX3.o.set2 (BI HG3.o) _).set2 (BI HG3.o) _).set2 (BI HG3.o) _).set2 (BI HG3.o) _));have HR6:=Hd (show Blk w6 g3 39 (Ap r0 none 0 none 0) by
   have hbb:=((((HR3.o.set 6 (.I x.dn)).set 7 (.I x.ds)).set 8 (.I x.dn)).set 9 (.I x.ds));exact I6)
  clear hw6 rf rl p2 p3 r6 r7 r8 r9;exact T4
 ·obtain ⟨p2,hp2⟩:∃ z:Int,z=((2^3:Nat):Int):=⟨_,rfl⟩;have HBI:=Hd (show ∀ w',Cl 48 #[.I 3] w' (BK w' p2) from fun w'=>by rw [hp2];exact AW 3 Y4 w');obtain ⟨r0,hr0⟩:∃ z:Abs,z = { noneA with dl:=x.n,dh:=x.n }:=⟨_,rfl⟩;obtain ⟨HR0,HRR,HK⟩:=Hd3 (show raw = { r0 with kinds:=p2 } by rw [HRAW.o,hr0,hp2];unfold Bc noneA;simp [hk,IW]) hr0 hk;clear hp2 hr0;have p4:=hba.q4;clear hba;have r10:=HR3.o.q10;have r11:=HR3.o.q11
  go_upto_region 20 with fail
  obtain ⟨w6,hw6⟩:=eqx (((w3.setCell ⟨g3,10,none⟩ (.I x.n)).setCell ⟨g3,11,none⟩ (.I x.n)));rw [←hw6];have HX6:=Hd (show Ext w1 w6 by rw [hw6];exact ((HX3.o.set2 (BI HG3.o) _).set2 (BI HG3.o) _));have HR6:=Hd (show Blk w6 g3 39 (Ap r0 none 0 none 0) by
   have hbb:=((HR3.o.set 10 (.I x.n)).set 11 (.I x.n));exact I6)
  clear hw6 rf rl p4 r10 r11;exact T4
 ·have hbn:=ES HR.o hk
  rcases hbn with h4|h4
  ·have hw1:IntKind.i64.wrap 1=1:=rfl;obtain ⟨p2,hp2⟩:∃ z:Int,z=((2^4:Nat):Int):=⟨_,rfl⟩;have HBI:=Hd (show ∀ w',Cl 48 #[.I 4] w' (BK w' p2) from fun w'=>by rw [hp2];exact AW 4 Y4 w');obtain ⟨r0,hr0⟩:∃ z:Abs,z = { noneA with bo:=1 }:=⟨_,rfl⟩;obtain ⟨HR0,HRR,HK⟩:=Hd3 (show raw = { r0 with kinds:=p2 } by rw [HRAW.o,hr0,hp2];unfold Bc noneA;simp [hk,IW,h4]) hr0 hk;clear hp2 hr0;have p4:=hba.q4;clear hba;have r12:=HR3.o.q12
   go_upto_region 20 with fail
   obtain ⟨w6,hw6⟩:=eqx (w3.setCell ⟨g3,12,none⟩ (.I 1));rw [←hw6];have HX6:=Hd (show Ext w1 w6 by rw [hw6];exact (HX3.o.set2 (BI HG3.o) _));have HR6:=Hd (show Blk w6 g3 39 (Ap r0 none 0 none 0) by
    have hbb:=(HR3.o.set 12 (.I 1));exact I6)
   exact Ww
  ·have hw1:IntKind.i64.wrap 2=2:=rfl;obtain ⟨p2,hp2⟩:∃ z:Int,z=((2^4:Nat):Int):=⟨_,rfl⟩;have HBI:=Hd (show ∀ w',Cl 48 #[.I 4] w' (BK w' p2) from fun w'=>by rw [hp2];exact AW 4 Y4 w');obtain ⟨r0,hr0⟩:∃ z:Abs,z = { noneA with bo:=2 }:=⟨_,rfl⟩;obtain ⟨HR0,HRR,HK⟩:=Hd3 (show raw = { r0 with kinds:=p2 } by rw [HRAW.o,hr0,hp2];unfold Bc noneA;simp [hk,IW,h4]) hr0 hk;clear hp2 hr0;have p4:=hba.q4;clear hba;have r12:=HR3.o.q12
   go_upto_region 20 with fail
   obtain ⟨w6,hw6⟩:=eqx (w3.setCell ⟨g3,12,none⟩ (.I 2));rw [←hw6];have HX6:=Hd (show Ext w1 w6 by rw [hw6];exact (HX3.o.set2 (BI HG3.o) _));have HR6:=Hd (show Blk w6 g3 39 (Ap r0 none 0 none 0) by
    have hbb:=(HR3.o.set 12 (.I 2));exact I6)
   exact Ww
 ·obtain ⟨p2,hp2⟩:∃ z:Int,z=((2^5:Nat):Int):=⟨_,rfl⟩;have HBI:=Hd (show ∀ w',Cl 48 #[.I 5] w' (BK w' p2) from fun w'=>by rw [hp2];exact AW 5 Y4 w');obtain ⟨r0,hr0⟩:∃ z:Abs,z = { noneA with rl:=x.rows.length,rh:=x.rows.length,cols:=x.cols,deps:=Bp x.cols x.rows }:=⟨_,rfl⟩;obtain ⟨HR0,HRR,HK⟩:=Hd3 (show raw = { r0 with kinds:=p2 } by rw [HRAW.o,hr0,hp2];unfold Bc noneA;simp [hk,IW]) hr0 hk;clear hp2 hr0;have hc8:=Fv HR.o hk;have p5:=hba.q5;have p6:=hba.q6;clear hba;have r13:=HR3.o.q13;have r14:=HR3.o.q14;have r15:w3.cell? ⟨g3,15,none⟩=some (.slice none noneA.cols.length 0):=HR3.o.q15
  go_upto_region 19 with fail
  obtain ⟨w4,hw4⟩:=eqx ((((w3.setCell ⟨g3,13,none⟩ (.I (x.rows.length:Int))).setCell ⟨g3,14,none⟩ (.I (x.rows.length:Int))).setCell ⟨g3,15,none⟩ (.slice B x.cols.length cb)));rw [←hw4];have HX4:=Hd (show Ext w1 w4 by rw [hw4];exact (((HX3.o.set2 (BI HG3.o) _).set2 (BI HG3.o) _).set2 (BI HG3.o) _));have HR4:=Hd (show Blk w4 g3 39 #[.I noneA.kinds,.I noneA.tx.least,.I noneA.tx.most,.I noneA.tx.cls,.string noneA.tx.b,.string noneA.tx.e,.I noneA.nu.ln,.I noneA.nu.ls,.I noneA.nu.hn,.I noneA.nu.hs,.I noneA.dl,.I noneA.dh,.I noneA.bo,.I (x.rows.length:Int),.I (x.rows.length:Int),.slice B x.cols.length cb,.slice none noneA.deps.length 0,.bool noneA.errs] by
   have hbb:=(((HR3.o.set 13 (.I (x.rows.length:Int))).set 14 (.I (x.rows.length:Int))).set 15 (.slice B x.cols.length cb));rw [←hw4] at hbb
   simpa using hbb)
  have hkv:Kept (fun b=>T b∧b<w.heap.size) w3 w4:=(by rw [hw4];exact (((Kept.refl _ _).set2 (fun h=>Y91)).set2 (fun h=>Y91)).set2 (fun h=>Y91));have HV4:=Hd (HV3.o.keep hkv);clear hw4 hkv r13 r14 r15 rf rl p0 p5 p6;have hba:=HB1.o.keep (HX4.o.kept _);have p5:=hba.q5;have p6:=hba.q6;clear hba;have HKY:=Hd (O4 q x.cols x.rows B C cb cc w4 _ _ HV4.o.strs HV4.o.rows_ Y4)
  go_wp2_with fail
  refine HKY.o.mono ?_;rintro e5 w5 ⟨D5,e5',rfl,hcd,hrd,hx5⟩;obtain ⟨HX5,HR5,HV5⟩:=Hd3 (HX4.o.trans hx5) (HR4.o.keep (hx5.kept _)) (HV4.o.keep (hx5.kept _));have hg3l:=HR4.o.lt;have HD5:=Hd (hrd.mono (T:=fun b=>g3<b) fun b _ (hb:w4.heap.size≤b)=>Y4);have HCD:=Hd hcd;clear hx5 hrd hcd hg3l p5 p6;have rf:=HR5.o.frozen;have rl:=HR5.o.lt;have r16:w5.cell? ⟨g3,16,none⟩=some (.slice none noneA.deps.length 0):=HR5.o.q16
  go_upto_region 20 with fail
  obtain ⟨w6,hw6⟩:=eqx (w5.setCell ⟨g3,16,none⟩ (.slice D5 (Bp x.cols x.rows).length e5'));rw [←hw6];have HX6:=Hd (show Ext w1 w6 by rw [hw6];exact HX5.o.set2 (BI HG3.o) _);have HR6:=Hd (show Blk w6 g3 39 (Ap r0 B cb D5 e5') by
   have hbb:=HR5.o.set 16 (.slice D5 (Bp x.cols x.rows).length e5');exact I6)
  have hk6:Kept (fun b=>(T b∧b<w.heap.size)∨g3<b) w5 w6:=(by rw [hw6];exact (Kept.refl _ _).set2 (fun h=>Y88));have HAB6:=Hd (show AbM w6 (fun b=>(T b∧b<w.heap.size)∨g3<b) r0 B cb D5 e5' by
   rw [HRR.o];exact ⟨hcp,HCD.o,(HV5.o.strs.keep (hk6.mono fun b _ h=>.inl h)).mono fun b _ h=>.inl h,(HD5.o.keep (hk6.mono fun b _ h=>.inr h)).mono fun b _ h=>.inr h⟩)
  clear hw6 hk6 r16 rf rl;have p0:=(HB1.o.keep (HX6.o.kept _)).q0;have r0c:=HR6.o.q0;have rf:=HR6.o.frozen;have rl:=HR6.o.lt
  go_wp2_with fail
  refine (HBI.o _).mono ?_;rintro e9 w9 ⟨rfl,rfl⟩
  go_upto_region 21 with fail
  obtain ⟨wb,hwb⟩:=eqx (w6.setCell ⟨g3,0,none⟩ (.I p2));rw [←hwb];have HXB:=Hd (show Ext w1 wb by rw [hwb];exact HX6.o.set2 (BI HG3.o) _);have hrb:Blk wb g3 39 (Ap raw B cb D5 e5'):=by
   exact BVA
  have HRB:=Hd hrb;have hkb:Kept (fun b=>(T b∧b<w.heap.size)∨g3<b) w6 wb:=(by rw [hwb];exact (Kept.refl _ _).set2 (fun h=>Y88));have HAB:=Hd (show AbM wb (fun b=>(T b∧b<w.heap.size)∨g3<b) raw B cb D5 e5' from by
   have h:=(HAB6.o).keep hkb;rw [HR0.o];exact h)
  clear hwb hrb hkb p0 r0c rf rl;have HCN:=Hd (AU raw B D5 cb e5' wb _ HAB.o.2.2.1 HAB.o.2.2.2 (HT.o.ext (HXW.o.trans HXB.o)) HNR.o);refine wp_region_lit ?_;refine AB rfl 39 _ rfl g3 rfl HRB.o AH AA ?_
  go_wp2_with fail
  refine HCN.o.mono ?_;rintro e8 w8 ⟨A5,c5,D7,e7,rfl,hab5,hx5⟩;have HX5:=Hd (HXB.o.trans hx5);have HAB5:=Hd hab5;have hb25:=HB2.o.keep (HX5.o.kept _);rename_i K1 hK1 K2 hK2;refine hK2 _ _ ?_;refine AD rfl 39 _ _ rfl g2 (Ap (AM raw) A5 c5 D7 e7) rfl rfl 39 _ hb25 AA rfl Y11 ?_;intro wf hbf hof;refine hK1 _ _ ?_;obtain ⟨HXF,HBF,HABF⟩:=Hd3 ((HXW.o.trans HX5.o).only hof Y80) hbf hab5;have hkf:=hof.kept (S:=fun b=>(T b∧b<w.heap.size)∨g3<b) (fun b _ hb e=>by have:=HG2.o;have:=HG3.o;have:=HB2.o.lt;rcases hb with h|h;(have:=h.2;omega);omega);have HKF:=Hd hkf;clear hK1 hK2 hbf hb25 hx5 hab5 hof hkf
  go_wp2_with fail
  refine bodyPost_ret (BR results19 rfl (DM HBF.o AH AA)) rfl ?_;rw [HOF.o,←HRAW.o];exact ⟨A5,c5,D7,e7,rfl,((HABF.o.mono (T:=fun b=>(T b∧b<w.heap.size)∨g3<b) fun b _ hb=>by rcases hb with h|h;exact h;exact .inr (by have:=HRB.o.lt;omega)).keep HKF.o).mono fun b _ hb=>hb.imp And.left fun h=>Y89,HXF.o⟩

theorem CM{x y:Abs}(hk:x.kinds=y.kinds)(he:x.errs=y.errs)(h1:bt x.kinds 1=true→x.tx=y.tx)(h2:bt x.kinds 2=true→x.nu=y.nu)(h3:bt x.kinds 3=true→x.dl=y.dl∧x.dh=y.dh)(h4:bt x.kinds 4=true→x.bo=y.bo)
  (h5:bt x.kinds 5=true→x.rl=y.rl∧x.rh=y.rh∧x.cols=y.cols∧x.deps=y.deps):AM x=AM y:=by
 have e1:pT x=pT y∧(pT x=true→x.tx=y.tx):=by
  unfold pT;rw [←hk];cases hb:bt x.kinds 1
  ·simp
  ·rw [h1 hb];simp
 have e2:pN x=pN y∧(pN x=true→x.nu=y.nu):=by
  unfold pN;rw [←hk];cases hb:bt x.kinds 2
  ·simp
  ·rw [h2 hb];simp
 have e3:pD x=pD y∧(pD x=true→B3 x=B3 y):=by
  unfold pD;rw [←hk];cases hb:bt x.kinds 3
  ·simp
  ·have hd:B3 x=B3 y:=(by unfold B3;rw [(h3 hb).1,(h3 hb).2]);rw [hd];exact ⟨rfl,fun _=>rfl⟩
 have e4:pB x=pB y∧(pB x=true→boI x=boI y):=by
  unfold pB;rw [←hk];cases hb:bt x.kinds 4
  ·simp
  ·have hb4:boI x=boI y:=(by unfold boI;rw [h4 hb]);rw [hb4];exact ⟨rfl,fun _=>rfl⟩
 have e5:pR x=pR y∧(pR x=true→CE x=CE y∧x.cols=y.cols∧x.deps=y.deps):=by
  unfold pR;rw [←hk];cases hb:bt x.kinds 5
  ·simp
  ·obtain ⟨a1,a2,a3,a4⟩:=h5 hb;have hr:CE x=CE y:=(by unfold CE;rw [a1,a2]);rw [hr,a3,a4];exact ⟨rfl,fun _=>⟨rfl,rfl,rfl⟩⟩
 have f:∀ {α:Type} (p:Bool) (u v z:α),(p=true→u=v)→(if p=true then u else z)=(if p=true then v else z):=by
  intro α p u v z h;cases p
  ·rfl
  ·rw [h rfl]
 have g1:=f (pT x) (Aw x.tx x.tx) (Aw y.tx y.tx) EwA (fun h=>by rw [e1.2 h]);have g2:=f (pN x) (Bm x.nu x.nu) (Bm y.nu y.nu) E4A (fun h=>by rw [e2.2 h]);have g3:=f (pD x) (B3 x).1 (B3 y).1 1 (fun h=>by rw [e3.2 h]);have g4:=f (pD x) (B3 x).2 (B3 y).2 0 (fun h=>by rw [e3.2 h]);have g5:=f (pB x) (boI x) (boI y) 0 (fun h=>e4.2 h);have g6:=f (pR x) (CE x).1 (CE y).1 1 (fun h=>by rw [(e5.2 h).1]);have g7:=f (pR x) (CE x).2 (CE y).2 0 (fun h=>by rw [(e5.2 h).1]);have g8:=f (pR x) (AT (ddp x.cols)) (AT (ddp y.cols)) [] (fun h=>by rw [(e5.2 h).2.1]);have g9:=f (pR x) (ddp x.deps) (ddp y.deps) [] (fun h=>by rw [(e5.2 h).2.2]);unfold AM;rw [←e1.1,←e2.1,←e3.1,←e4.1,←e5.1,he,g1,g2,g3,g4,g5,g6,g7,g8,g9]
theorem XU(h:qP:=by
 clear hK1 hK2 hbf hb25 hx5 hab5 hof hkf
 go_wp2_with fail
 refine bodyPost_ret (BR results23 rfl (DM HBF.o AH AA)) rfl ?_;rw [HRE.o];exact ⟨A5,c5,D5,e5,rfl,HABF.o.mono fun b _ hb=>.inr Y89,HXF.o⟩):qP:=h
theorem P5(h:qP:=by
 have HAB:=Hd (show AbM w6 (fun b=>False) r0 none 0 none 0 from AbM.nil HRN.o.1);have HCN:=Hd (AU r0 none none 0 0 w6 _ HAB.o.2.2.1 HAB.o.2.2.2 (HT.o.ext (HXW.o.trans HX6.o)) HRN.o.2);refine wp_region_lit ?_;refine AB rfl 39 _ rfl g3 rfl HR6.o AH AA ?_
 go_wp2_with fail
 refine HCN.o.mono ?_;rintro e5 w5 ⟨A5,c5,D5,e5,rfl,hab5,hx5⟩;have HX5:=Hd (HX6.o.trans hx5);have hb25:=HB2.o.keep (HX5.o.kept _);rename_i K1 hK1 K2 hK2;refine hK2 _ _ ?_;refine AD rfl 39 _ _ rfl g2 (Ap (AM r0) A5 c5 D5 e5) rfl rfl 39 _ hb25 AA rfl Y11 ?_;intro wf hbf hof;refine hK1 _ _ ?_;have HXF:=Hd ((HXW.o.trans HX5.o).only hof Y80);have HBF:=Hd hbf;have hkf:=hof.kept (S:=fun b=>g3<b) (fun b _ hb e=>by have:=HG3.o;have:=HB2.o.lt;omega);have HABF:=Hd ((hab5.mono (T:=fun b=>g3<b) fun b _ hb=>by have:=HR6.o.lt;rcases hb with h|h;exact h.elim;omega).keep hkf);exact XU):qP:=h
theorem Y92(h:qP:=by simp [FK,IW,noneA]):qP:=h
theorem Y93(h:qP:=by exfalso;revert h;simp [FK,IW];try decide):qP:=h
theorem Y94(h:qP:=by simp [FK,noneA]):qP:=h
theorem Y95(h:qP:=by exfalso;revert h;simp [FK,HK15.o];try decide):qP:=h
theorem GT(k:Int)(w:World)(ht:Tens w):Cl 23 #[.I k] w (DD w (fun _=>False) (By k)):=by
 obtain ⟨w0,hw0⟩:=eqx (w.alloc (.cells Az 39));obtain ⟨g2,hg2⟩:=eqx w.heap.size;have hx0:Ext w w0:=Y68;have hb2:Blk w0 g2 39 Az:=(by rw [hw0,hg2];exact Blk.new _ _ _);obtain ⟨HW0,HG2,HX0,HB20,HT⟩:=Hd5 hw0 hg2 hx0 hb2 ht;clear hw0 hg2 hx0 hb2 ht
 go_enter func23,ntmps23
 go_upto_region 1 with fail
 rw [←HW0.o,←HG2.o]
 go_wp2_with fail
 refine (Ew _).mono ?_;rintro e1 w1 ⟨rfl,hx1⟩;rename_i K1 hK1 K2 hK2;refine hK2 _ _ ?_;refine AP rfl rfl ?_;obtain ⟨g3,hg3⟩:=eqx w1.heap.size;rw [←hg3];refine AD rfl 39 _ _ rfl g3 (Ap noneA none 0 none 0) rfl rfl 39 _ (EX hg3) AA rfl Y11 ?_;intro w2 hb3 ho2;have hx2:Ext w1 w2:=(exaa w1).only ho2 Y78;obtain ⟨HXW,HB2,HX2,HR2,HG3⟩:=Hd5 (HX0.o.trans hx1) (HB20.o.keep (hx1.kept _)) hx2 hb3 hg3;refine hK1 _ _ ?_;clear hK1 hK2 hb3 ho2 hx1 hx2 hg3;have rf:=HR2.o.frozen;have rl:=HR2.o.lt;by_cases hk:k=0
 case pos =>
  subst hk;obtain ⟨r0,hr0⟩:∃ z:Abs,z = { noneA with errs:=true }:=⟨_,rfl⟩;obtain ⟨HRE,HRN,HRR⟩:=Hd3 (show By 0=AM r0 by rw [hr0];unfold By;exact CM Y92 Y92 (fun h=>Y93) (fun h=>Y93) (fun h=>Y93) (fun h=>Y93) (fun h=>Y93)) (show (r0.cols=[]∧r0.deps=[])∧AbN 1000000 r0 by rw [hr0];exact ⟨⟨rfl,rfl⟩,Y17,Y17,AE,AE,fun d hd=>Y81⟩) hr0;clear hr0;have cc17:w2.cell? ⟨g3,17,none⟩=some (.bool noneA.errs):=HR2.o.q17
  go_upto_region 15 with fail
  obtain ⟨w6,hw6⟩:=eqx (w2.setCell ⟨g3,17,none⟩ (.bool true));rw [←hw6];have HX6:=Hd (show Ext w1 w6 by rw [hw6];exact (HX2.o.set2 (BI HG3.o) _));have HR6:=Hd (show Blk w6 g3 39 (Ap r0 none 0 none 0) by
   have hbb:=(HR2.o.set 17 (.bool true));exact I6)
  clear hw6 rf rl cc17;exact P5
 by_cases hk:k=1
 case pos =>
  subst hk;obtain ⟨r0,hr0⟩:∃ z:Abs,z = { noneA with kinds:=2,tx:=Sh.full }:=⟨_,rfl⟩;obtain ⟨HRE,HRN,HRR⟩:=Hd3 (show By 1=AM r0 by rw [hr0];unfold By;exact CM Y92 Y92 (fun _=>Y94) (fun h=>Y93) (fun h=>Y93) (fun h=>Y93) (fun h=>Y93)) (show (r0.cols=[]∧r0.deps=[])∧AbN 1000000 r0 by rw [hr0];exact ⟨⟨rfl,rfl⟩,Y17,Y17,AE,AE,fun d hd=>Y81⟩) hr0;clear hr0 rf rl
  go_wp2_with fail
  refine ((show ∀ w',Cl 48 #[.I 1] w' (BK w' 2) from fun w'=>AW 1 Y4 w') _).mono ?_;rintro ee ww ⟨rfl,rfl⟩
  go_wp2_with fail
  refine (OR _).mono ?_;rintro ee w3 ⟨rfl,hxn⟩;have HX3:=Hd (HX2.o.trans hxn);have HR3:=Hd (HR2.o.keep (hxn.kept _));clear hxn;have rf:=HR3.o.frozen;have rl:=HR3.o.lt;have cc0:w3.cell? ⟨g3,0,none⟩=some (.I noneA.kinds):=HR3.o.q0;have cc1:w3.cell? ⟨g3,1,none⟩=some (.I noneA.tx.least):=HR3.o.q1;have cc2:w3.cell? ⟨g3,2,none⟩=some (.I noneA.tx.most):=HR3.o.q2;have cc3:w3.cell? ⟨g3,3,none⟩=some (.I noneA.tx.cls):=HR3.o.q3;have cc4:w3.cell? ⟨g3,4,none⟩=some (.string noneA.tx.b):=HR3.o.q4;have cc5:w3.cell? ⟨g3,5,none⟩=some (.string noneA.tx.e):=HR3.o.q5
  go_upto_region 15 with fail
  obtain ⟨w6,hw6⟩:=eqx (((((((w3.setCell ⟨g3,0,none⟩ (.I 2)).setCell ⟨g3,1,none⟩ (.I Sh.full.least)).setCell ⟨g3,2,none⟩ (.I Sh.full.most)).setCell ⟨g3,3,none⟩ (.I Sh.full.cls)).setCell ⟨g3,4,none⟩ (.string Sh.full.b)).setCell ⟨g3,5,none⟩ (.string Sh.full.e)));rw [←hw6];have HX6:=Hd (show Ext w1 w6 by rw [hw6];exact ((((((HX3.o.set2 (BI HG3.o) _).set2 (BI HG3.o) _).set2 (BI HG3.o) _).set2 (BI HG3.o) _).set2 (BI HG3.o) _).set2 (BI HG3.o) _));have HR6:=Hd (show Blk w6 g3 39 (Ap r0 none 0 none 0) by
   have hbb:=((((((HR3.o.set 0 (.I 2)).set 1 (.I Sh.full.least)).set 2 (.I Sh.full.most)).set 3 (.I Sh.full.cls)).set 4 (.string Sh.full.b)).set 5 (.string Sh.full.e));exact I6)
  clear hw6 rf rl cc0 cc1 cc2 cc3 cc4 cc5;exact P5
 by_cases hk:k=2
 case pos =>
  subst hk;obtain ⟨r0,hr0⟩:∃ z:Abs,z = { noneA with kinds:=4,nu:=Rg.full }:=⟨_,rfl⟩;obtain ⟨HRE,HRN,HRR⟩:=Hd3 (show By 2=AM r0 by rw [hr0];unfold By;exact CM Y92 Y92 (fun h=>Y93) (fun _=>Y94) (fun h=>Y93) (fun h=>Y93) (fun h=>Y93)) (show (r0.cols=[]∧r0.deps=[])∧AbN 1000000 r0 by rw [hr0];exact ⟨⟨rfl,rfl⟩,Y17,Y17,AE,AE,fun d hd=>Y81⟩) hr0;clear hr0 rf rl
  go_wp2_with fail
  refine ((show ∀ w',Cl 48 #[.I 2] w' (BK w' 4) from fun w'=>AW 2 Y4 w') _).mono ?_;rintro ee ww ⟨rfl,rfl⟩
  go_wp2_with fail
  refine (Ke _).mono ?_;rintro ee w3 ⟨rfl,hxn⟩;have HX3:=Hd (HX2.o.trans hxn);have HR3:=Hd (HR2.o.keep (hxn.kept _));clear hxn;have rf:=HR3.o.frozen;have rl:=HR3.o.lt;have cc0:w3.cell? ⟨g3,0,none⟩=some (.I noneA.kinds):=HR3.o.q0;have cc6:w3.cell? ⟨g3,6,none⟩=some (.I noneA.nu.ln):=HR3.o.q6;have cc7:w3.cell? ⟨g3,7,none⟩=some (.I noneA.nu.ls):=HR3.o.q7;have cc8:w3.cell? ⟨g3,8,none⟩=some (.I noneA.nu.hn):=HR3.o.q8;have cc9:w3.cell? ⟨g3,9,none⟩=some (.I noneA.nu.hs):=HR3.o.q9
  go_upto_region 15 with fail
  obtain ⟨w6,hw6⟩:=eqx ((((((w3.setCell ⟨g3,0,none⟩ (.I 4)).setCell ⟨g3,6,none⟩ (.I Rg.full.ln)).setCell ⟨g3,7,none⟩ (.I Rg.full.ls)).setCell ⟨g3,8,none⟩ (.I Rg.full.hn)).setCell ⟨g3,9,none⟩ (.I Rg.full.hs)));rw [←hw6];have HX6:=Hd (show Ext w1 w6 by rw [hw6];exact (((((HX3.o.set2 (BI HG3.o) _).set2 (BI HG3.o) _).set2 (BI HG3.o) _).set2 (BI HG3.o) _).set2 (BI HG3.o) _));have HR6:=Hd (show Blk w6 g3 39 (Ap r0 none 0 none 0) by
   have hbb:=(((((HR3.o.set 0 (.I 4)).set 6 (.I Rg.full.ln)).set 7 (.I Rg.full.ls)).set 8 (.I Rg.full.hn)).set 9 (.I Rg.full.hs));exact I6)
  clear hw6 rf rl cc0 cc6 cc7 cc8 cc9;exact P5
 by_cases hk:k=3
 case pos =>
  subst hk;obtain ⟨r0,hr0⟩:∃ z:Abs,z = { noneA with kinds:=8,dl:=0,dh:=3652058 }:=⟨_,rfl⟩;obtain ⟨HRE,HRN,HRR⟩:=Hd3 (show By 3=AM r0 by rw [hr0];unfold By;exact CM Y92 Y92 (fun h=>Y93) (fun h=>Y93) (fun _=>Y94) (fun h=>Y93) (fun h=>Y93)) (show (r0.cols=[]∧r0.deps=[])∧AbN 1000000 r0 by rw [hr0];exact ⟨⟨rfl,rfl⟩,Y17,Y17,AE,AE,fun d hd=>Y81⟩) hr0;clear hr0 rf rl
  go_wp2_with fail
  refine ((show ∀ w',Cl 48 #[.I 3] w' (BK w' 8) from fun w'=>AW 3 Y4 w') _).mono ?_;rintro ee ww ⟨rfl,rfl⟩
  go_wp2_with fail
  refine (FE _).mono ?_;rintro ee w3 ⟨rfl,hxn⟩;have HX3:=Hd (HX2.o.trans hxn);have HR3:=Hd (HR2.o.keep (hxn.kept _));clear hxn;have rf:=HR3.o.frozen;have rl:=HR3.o.lt;have cc0:w3.cell? ⟨g3,0,none⟩=some (.I noneA.kinds):=HR3.o.q0;have cc10:w3.cell? ⟨g3,10,none⟩=some (.I noneA.dl):=HR3.o.q10;have cc11:w3.cell? ⟨g3,11,none⟩=some (.I noneA.dh):=HR3.o.q11
  go_upto_region 15 with fail
  obtain ⟨w6,hw6⟩:=eqx ((((w3.setCell ⟨g3,0,none⟩ (.I 8)).setCell ⟨g3,10,none⟩ (.I 0)).setCell ⟨g3,11,none⟩ (.I 3652058)));rw [←hw6];have HX6:=Hd (show Ext w1 w6 by rw [hw6];exact (((HX3.o.set2 (BI HG3.o) _).set2 (BI HG3.o) _).set2 (BI HG3.o) _));have HR6:=Hd (show Blk w6 g3 39 (Ap r0 none 0 none 0) by
   have hbb:=(((HR3.o.set 0 (.I 8)).set 10 (.I 0)).set 11 (.I 3652058));exact I6)
  clear hw6 rf rl cc0 cc10 cc11;exact P5
 by_cases hk:k=4
 case pos =>
  subst hk;obtain ⟨r0,hr0⟩:∃ z:Abs,z = { noneA with kinds:=16,bo:=3 }:=⟨_,rfl⟩;obtain ⟨HRE,HRN,HRR⟩:=Hd3 (show By 4=AM r0 by rw [hr0];unfold By;exact CM Y92 Y92 (fun h=>Y93) (fun h=>Y93) (fun h=>Y93) (fun _=>Y94) (fun h=>Y93)) (show (r0.cols=[]∧r0.deps=[])∧AbN 1000000 r0 by rw [hr0];exact ⟨⟨rfl,rfl⟩,Y17,Y17,AE,AE,fun d hd=>Y81⟩) hr0;clear hr0 rf rl
  go_wp2_with fail
  refine ((show ∀ w',Cl 48 #[.I 4] w' (BK w' 16) from fun w'=>AW 4 Y4 w') _).mono ?_;rintro ee ww ⟨rfl,rfl⟩;have rf:=HR2.o.frozen;have rl:=HR2.o.lt;have cc0:w2.cell? ⟨g3,0,none⟩=some (.I noneA.kinds):=HR2.o.q0;have cc12:w2.cell? ⟨g3,12,none⟩=some (.I noneA.bo):=HR2.o.q12
  go_upto_region 15 with fail
  obtain ⟨w6,hw6⟩:=eqx (((w2.setCell ⟨g3,0,none⟩ (.I 16)).setCell ⟨g3,12,none⟩ (.I 3)));rw [←hw6];have HX6:=Hd (show Ext w1 w6 by rw [hw6];exact ((HX2.o.set2 (BI HG3.o) _).set2 (BI HG3.o) _));have HR6:=Hd (show Blk w6 g3 39 (Ap r0 none 0 none 0) by
   have hbb:=((HR2.o.set 0 (.I 16)).set 12 (.I 3));exact I6)
  clear hw6 rf rl cc0 cc12;exact P5
 by_cases hk:k=5
 case pos =>
  subst hk;obtain ⟨r0,hr0⟩:∃ z:Abs,z = { noneA with kinds:=32,rl:=0,rh:=100 }:=⟨_,rfl⟩;obtain ⟨HRE,HRN,HRR⟩:=Hd3 (show By 5=AM r0 by rw [hr0];unfold By;exact CM Y92 Y92 (fun h=>Y93) (fun h=>Y93) (fun h=>Y93) (fun h=>Y93) (fun _=>Y94)) (show (r0.cols=[]∧r0.deps=[])∧AbN 1000000 r0 by rw [hr0];exact ⟨⟨rfl,rfl⟩,Y17,Y17,AE,AE,fun d hd=>Y81⟩) hr0;clear hr0 rf rl
  go_wp2_with fail
  refine ((show ∀ w',Cl 48 #[.I 5] w' (BK w' 32) from fun w'=>AW 5 Y4 w') _).mono ?_;rintro ee ww ⟨rfl,rfl⟩
  go_wp2_with fail
  refine (EZ _).mono ?_;rintro ee w3 ⟨rfl,hxn⟩;have HX3:=Hd (HX2.o.trans hxn);have HR3:=Hd (HR2.o.keep (hxn.kept _));clear hxn;have rf:=HR3.o.frozen;have rl:=HR3.o.lt;have cc0:w3.cell? ⟨g3,0,none⟩=some (.I noneA.kinds):=HR3.o.q0;have cc13:w3.cell? ⟨g3,13,none⟩=some (.I noneA.rl):=HR3.o.q13;have cc14:w3.cell? ⟨g3,14,none⟩=some (.I noneA.rh):=HR3.o.q14
  go_upto_region 15 with fail
  obtain ⟨w6,hw6⟩:=eqx ((((w3.setCell ⟨g3,0,none⟩ (.I 32)).setCell ⟨g3,13,none⟩ (.I 0)).setCell ⟨g3,14,none⟩ (.I 100)));rw [←hw6];have HX6:=Hd (show Ext w1 w6 by rw [hw6];exact (((HX3.o.set2 (BI HG3.o) _).set2 (BI HG3.o) _).set2 (BI HG3.o) _));have HR6:=Hd (show Blk w6 g3 39 (Ap r0 none 0 none 0) by
   have hbb:=(((HR3.o.set 0 (.I 32)).set 13 (.I 0)).set 14 (.I 100));exact I6)
  clear hw6 rf rl cc0 cc13 cc14;exact P5
 have HK15:=Hd (show ¬(1≤k∧k≤5) by omega);have HK0:=Hd (show ¬k=0 by assumption);have HRE:=Hd (show By k=AM noneA by unfold By;exact CM (by simp [FK,noneA,HK15.o]) (by simp [FK,noneA,HK0.o]) (fun h=>Y95) (fun h=>Y95) (fun h=>Y95) (fun h=>Y95) (fun h=>Y95));have HRN:=Hd (show (noneA.cols=[]∧noneA.deps=[])∧AbN 1000000 noneA from ⟨⟨rfl,rfl⟩,FMA _⟩);clear rf rl
 go_upto_region 15 with fail
 have HAB:=Hd (show AbM w2 (fun b=>False) noneA none 0 none 0 from AbM.nil HRN.o.1);have HCN:=Hd (AU noneA none none 0 0 w2 _ HAB.o.2.2.1 HAB.o.2.2.2 (HT.o.ext (HXW.o.trans HX2.o)) HRN.o.2);refine wp_region_lit ?_;refine AB rfl 39 _ rfl g3 rfl HR2.o AH AA ?_
 go_wp2_with fail
 refine HCN.o.mono ?_;rintro e5 w5 ⟨A5,c5,D5,e5,rfl,hab5,hx5⟩;have HX5:=Hd (HX2.o.trans hx5);have hb25:=HB2.o.keep (HX5.o.kept _);rename_i K1 hK1 K2 hK2;refine hK2 _ _ ?_;refine AD rfl 39 _ _ rfl g2 (Ap (AM noneA) A5 c5 D5 e5) rfl rfl 39 _ hb25 AA rfl Y11 ?_;intro wf hbf hof;refine hK1 _ _ ?_;have HXF:=Hd ((HXW.o.trans HX5.o).only hof Y80);have HBF:=Hd hbf;have hkf:=hof.kept (S:=fun b=>g3<b) (fun b _ hb e=>by have:=HG3.o;have:=HB2.o.lt;omega);have HABF:=Hd ((hab5.mono (T:=fun b=>g3<b) fun b _ hb=>by have:=HR2.o.lt;rcases hb with h|h;exact h.elim;omega).keep hkf);exact XU
end Go.Proofs.YtidacnalcdhckaaGreatDoor
