/- The law TableSelf: true. Conditions: the arguments read as data; the table of tens and the texts' tables are there. -/
import Derived.Test.YthmckfloppblcaaGreatDoorBv2
set_option maxRecDepth 100000
set_option maxHeartbeats 8000000
namespace Go.Proofs.YthmckfloppblcaaGreatDoor
open Go Go.RowKit
theorem law_Self (l:List Int) (n:Int) (A:Option Addr) (c:Nat) (w:World) (S:Nat→Prop) (ht:Tens w) (hT:TxM w) (hl:IntsL w S A l) :
  Calls Tryz.prog 4 #[.slice A l.length c,.int .i64 n] w (RetB w true):=by
 have HT:=Hd ht;have HTX:=Hd hT;have HL:=Hd hl;obtain ⟨m,hm⟩:∃ m:Nat,(n.tmod 5+5).tmod 5=(m:Int):=⟨((n.tmod 5+5).tmod 5).toNat,by have:=(next_r n 5 (by omega)).1; omega⟩;have HM:=Hd hm;obtain ⟨v,hv⟩:∃ v,v=cellS 1 m:=⟨_,rfl⟩;have HVE:=Hd hv;have hfl:flatV v:=(by rw [hv]; exact cellS_flat _ _);have HFL:=Hd hfl;clear ht hT hl hm hv hfl
 go_enter Tryz.func4,Tryz.ntmps4
 go_wp2_with fail
 refine (law_sanity w HT.o).mono ?_;rintro e1 w1 ⟨rfl,hx1⟩
 go_wp2_with fail
 refine (r09_Made ⟨#[116]⟩ l A c w1 S (HL.o.keep (hx1.kept _)) (by decide)).mono ?_;rintro e2 w2 ⟨t,hmt,At,ct,Bt,et,rfl,⟨hct,het⟩,hrl,hx2⟩;obtain ⟨cs,hcs⟩:=made_city hmt;have htab:=self_tab hmt (by decide);obtain ⟨x,hx⟩:∃ x,x=tabV t.cols t.rows:=⟨_,rfl⟩;have HXE:=Hd hx;have HMT:=Hd hmt;have HCS:=Hd hcs;have HTAB:=Hd htab;have HCX:=Hd (show x.cols.length≤ct∧x.rows.length≤et by rw [hx]; exact ⟨hct,het⟩);have HJX:=Hd (show JOk x.rows by rw [hx]; exact JOk.of hmt.odd.1 hmt.odd.2);have HRX:=Hd (show RV w2 (fun _=>True) 2 x At Bt by rw [hx]; exact (((hrl.up (d':=2) (by omega)).val).mono (T:=fun _=>True) fun _ _ _=>trivial));have HX:=Hd (hx1.trans hx2);have hxz:=Ext.refl w2;clear hx hmt hcs htab hct het hrl hx1 hx2;obtain ⟨w3,hw3⟩:∃ z:World,z=w2.alloc (.cells #[.string t.name,.slice At t.cols.length ct,.slice Bt t.rows.length et] 36):=⟨_,rfl⟩;obtain ⟨g6,hg6⟩:∃ g,g=w2.heap.size:=⟨_,rfl⟩;have hxa:Ext w2 w3:=(by rw [hw3]; exact (Ext.refl _).alloc _);have hxb:=hxz.trans hxa;have HRX:=Hd (HRX.o.keep (hxb.kept _));have HX:=Hd (HX.o.trans hxb);have HBg6:=Hd (show Blk w3 g6 36 #[.string t.name,.slice At t.cols.length ct,.slice Bt t.rows.length et] by rw [hw3,hg6]; exact Blk.at0 rfl);have HW:=Hd hw3;have HG:=Hd hg6;clear hw3 hg6 hxa hxb hxz
 go_upto_region 3 with fail
 rw [← HW.o,← HG.o];clear HW HG;have p0:=HBg6.o.cell (i:=0) rfl;have p1:=HBg6.o.cell (i:=1) rfl;have p2:=HBg6.o.cell (i:=2) rfl;have pz:=HBg6.o.lt
 go_wp2_with fail
 clear p0 p1 p2 pz HBg6;refine (r09_Value t x HXE.o At Bt ct et w3).mono ?_;rintro e3 w4 ⟨rfl,hx4⟩;obtain ⟨w5,hw5⟩:∃ z:World,z=w4.alloc (.cells #[.int .i64 x.kind,.string x.s,.int .i64 x.dn,.int .i64 x.ds,.int .i64 x.n,.slice At x.cols.length ct,.slice Bt x.rows.length et] 31):=⟨_,rfl⟩;obtain ⟨g7,hg7⟩:∃ g,g=w4.heap.size:=⟨_,rfl⟩;have hxa:Ext w4 w5:=(by rw [hw5]; exact (Ext.refl _).alloc _);have hxb:=hx4.trans hxa;have HRX:=Hd (HRX.o.keep (hxb.kept _));have HX:=Hd (HX.o.trans hxb);have HBg7:=Hd (show Blk w5 g7 31 #[.int .i64 x.kind,.string x.s,.int .i64 x.dn,.int .i64 x.ds,.int .i64 x.n,.slice At x.cols.length ct,.slice Bt x.rows.length et] by rw [hw5,hg7]; exact Blk.at0 rfl);have HW:=Hd hw5;have HG:=Hd hg7;clear hw5 hg7 hxa hxb hx4
 go_upto_region 4 with fail
 rw [← HW.o,← HG.o];clear HW HG
 go_wp2_with fail
 refine (r09_Cell 1 n w5 m HM.o).mono ?_;rintro e6 w6 ⟨rfl,hx6⟩;rw [← HVE.o];obtain ⟨w7,hw7⟩:∃ z:World,z=w6.alloc (.cells #[.int .i64 v.kind,.string v.s,.int .i64 v.dn,.int .i64 v.ds,.int .i64 v.n,.slice none v.cols.length 0,.slice none v.rows.length 0] 31):=⟨_,rfl⟩;obtain ⟨g8,hg8⟩:∃ g,g=w6.heap.size:=⟨_,rfl⟩;have hxa:Ext w6 w7:=(by rw [hw7]; exact (Ext.refl _).alloc _);have hxb:=hx6.trans hxa;have HRX:=Hd (HRX.o.keep (hxb.kept _));have HBg7:=Hd (HBg7.o.keep (hxb.kept _));have HX:=Hd (HX.o.trans hxb);have HBg8:=Hd (show Blk w7 g8 31 #[.int .i64 v.kind,.string v.s,.int .i64 v.dn,.int .i64 v.ds,.int .i64 v.n,.slice none v.cols.length 0,.slice none v.rows.length 0] by rw [hw7,hg8]; exact Blk.at0 rfl);have HW:=Hd hw7;have HG:=Hd hg8;clear hw7 hg8 hxa hxb hx6
 go_upto_region 5 with fail
 rw [← HW.o,← HG.o];clear HW HG;obtain ⟨a,ha⟩:∃ a,a=tabV t.cols (whereRows 0 v t.rows):=⟨_,rfl⟩;have HAE:=Hd ha;have HW1:=Hd (show whereS x sCity v=(a,0) by rw [HXE.o,ha]; have h:=HTAB.o; rw [HCS.o] at h ⊢; exact where_self h v);have HW2:=Hd (show whereS a sCity v=(a,0) by rw [ha]; have h:=tab_filter HTAB.o (fun r=>isB (r.getD 0 Val.zero) v); rw [HCS.o] at h ⊢; rw [where_self (rows:=whereRows 0 v t.rows) h v,where_twice]);have HP1:=Hd (show pickS x x.cols=(x,0) by rw [HXE.o]; exact pick_all HTAB.o);obtain ⟨o,ho⟩:∃ o,o=tabV [sCity] (oneR t.rows):=⟨_,rfl⟩;have HOE:=Hd ho;have HP2:=Hd (show pickS x [sCity]=(o,0) by rw [HXE.o,ho]; have h:=HTAB.o; rw [HCS.o] at h ⊢; exact pick_city h);obtain ⟨d,hd⟩:∃ d,d=tabV t.cols (joinRows t.rows (oneR t.rows) 0 (prsU t.rows (oneR t.rows) 0 0 t.rows.length)):=⟨_,rfl⟩;have HDE:=Hd hd;have HJ1:=Hd (show joinT x o sCity=(d,0) by rw [HXE.o,ho,hd]; exact join_self HMT.o HCS.o HTAB.o);have HJO:=Hd (show JOk o.rows by rw [ho]; exact one_ok HMT.o HCS.o HTAB.o);clear ha ho hd;have p0:=HBg7.o.cell (i:=0) rfl;have p1:=HBg7.o.cell (i:=1) rfl;have p2:=HBg7.o.cell (i:=2) rfl;have p3:=HBg7.o.cell (i:=3) rfl;have p4:=HBg7.o.cell (i:=4) rfl;have p5:=HBg7.o.cell (i:=5) rfl;have p6:=HBg7.o.cell (i:=6) rfl;have pz:=HBg7.o.lt;have q0:=HBg8.o.cell (i:=0) rfl;have q1:=HBg8.o.cell (i:=1) rfl;have q2:=HBg8.o.cell (i:=2) rfl;have q3:=HBg8.o.cell (i:=3) rfl;have q4:=HBg8.o.cell (i:=4) rfl;have q5:=HBg8.o.cell (i:=5) rfl;have q6:=HBg8.o.cell (i:=6) rfl;have qz:=HBg8.o.lt
 go_wp2_with fail
 clear p0 p1 p2 p3 p4 p5 p6 pz q0 q1 q2 q3 q4 q5 q6 qz;have hcall:=table_Where 2 x sCity v At Bt none none ct et 0 0 w7 _ (fun _=>True) HRX.o HCX.o.1 (RV.flat HFL.o);rw [HW1.o] at hcall;refine hcall.mono ?_;rintro e9 w8 ⟨A1,c1,B1,e1,rfl,hcp,hrv,hxc⟩;clear hcall;obtain ⟨w9,hw9⟩:∃ z:World,z=w8.alloc (.cells #[.int .i64 a.kind,.string a.s,.int .i64 a.dn,.int .i64 a.ds,.int .i64 a.n,.slice A1 a.cols.length c1,.slice B1 a.rows.length e1] 31):=⟨_,rfl⟩;obtain ⟨g9,hg9⟩:∃ g,g=w8.heap.size:=⟨_,rfl⟩;have hxa:Ext w8 w9:=(by rw [hw9]; exact (Ext.refl _).alloc _);have hxb:=hxc.trans hxa;have HRX:=Hd (HRX.o.keep (hxb.kept _));have HBg7:=Hd (HBg7.o.keep (hxb.kept _));have HBg8:=Hd (HBg8.o.keep (hxb.kept _));have HX:=Hd (HX.o.trans hxb);have HBg9:=Hd (show Blk w9 g9 31 #[.int .i64 a.kind,.string a.s,.int .i64 a.dn,.int .i64 a.ds,.int .i64 a.n,.slice A1 a.cols.length c1,.slice B1 a.rows.length e1] by rw [hw9,hg9]; exact Blk.at0 rfl);have HRA1:=Hd ((hrv.keep (hxa.kept _)).mono (T:=fun _=>True) fun _ _ _=>trivial);have HCA1:=Hd hcp;clear hrv hcp;have HW:=Hd hw9;have HG:=Hd hg9;clear hw9 hg9 hxa hxb hxc
 go_upto_region 6 with fail
 rw [← HW.o,← HG.o];clear HW HG;have p0:=HBg9.o.cell (i:=0) rfl;have p1:=HBg9.o.cell (i:=1) rfl;have p2:=HBg9.o.cell (i:=2) rfl;have p3:=HBg9.o.cell (i:=3) rfl;have p4:=HBg9.o.cell (i:=4) rfl;have p5:=HBg9.o.cell (i:=5) rfl;have p6:=HBg9.o.cell (i:=6) rfl;have pz:=HBg9.o.lt;have q0:=HBg8.o.cell (i:=0) rfl;have q1:=HBg8.o.cell (i:=1) rfl;have q2:=HBg8.o.cell (i:=2) rfl;have q3:=HBg8.o.cell (i:=3) rfl;have q4:=HBg8.o.cell (i:=4) rfl;have q5:=HBg8.o.cell (i:=5) rfl;have q6:=HBg8.o.cell (i:=6) rfl;have qz:=HBg8.o.lt
 go_wp2_with fail
 clear p0 p1 p2 p3 p4 p5 p6 pz q0 q1 q2 q3 q4 q5 q6 qz;have hcall:=table_Where 2 a sCity v A1 B1 none none c1 e1 0 0 w9 _ (fun _=>True) HRA1.o HCA1.o.1 (RV.flat HFL.o);rw [HW2.o] at hcall;refine hcall.mono ?_;rintro e9 w10 ⟨A2,c2,B2,e2,rfl,hcp,hrv,hxc⟩;clear hcall;obtain ⟨w11,hw11⟩:∃ z:World,z=w10.alloc (.cells #[.int .i64 a.kind,.string a.s,.int .i64 a.dn,.int .i64 a.ds,.int .i64 a.n,.slice A2 a.cols.length c2,.slice B2 a.rows.length e2] 31):=⟨_,rfl⟩;obtain ⟨g11,hg11⟩:∃ g,g=w10.heap.size:=⟨_,rfl⟩;have hxa:Ext w10 w11:=(by rw [hw11]; exact (Ext.refl _).alloc _);have hxb:=hxc.trans hxa;have HRX:=Hd (HRX.o.keep (hxb.kept _));have HBg7:=Hd (HBg7.o.keep (hxb.kept _));have HBg8:=Hd (HBg8.o.keep (hxb.kept _));have HBg9:=Hd (HBg9.o.keep (hxb.kept _));have HRA1:=Hd (HRA1.o.keep (hxb.kept _));have HX:=Hd (HX.o.trans hxb);have HBg11:=Hd (show Blk w11 g11 31 #[.int .i64 a.kind,.string a.s,.int .i64 a.dn,.int .i64 a.ds,.int .i64 a.n,.slice A2 a.cols.length c2,.slice B2 a.rows.length e2] by rw [hw11,hg11]; exact Blk.at0 rfl);have HRA2:=Hd ((hrv.keep (hxa.kept _)).mono (T:=fun _=>True) fun _ _ _=>trivial);have HCA2:=Hd hcp;clear hrv hcp;have HW:=Hd hw11;have HG:=Hd hg11;clear hw11 hg11 hxa hxb hxc
 go_upto_region 7 with fail
 rw [← HW.o,← HG.o];clear HW HG;have p0:=HBg7.o.cell (i:=0) rfl;have p1:=HBg7.o.cell (i:=1) rfl;have p2:=HBg7.o.cell (i:=2) rfl;have p3:=HBg7.o.cell (i:=3) rfl;have p4:=HBg7.o.cell (i:=4) rfl;have p5:=HBg7.o.cell (i:=5) rfl;have p6:=HBg7.o.cell (i:=6) rfl;have pz:=HBg7.o.lt
 go_wp2_with fail
 clear p0 p1 p2 p3 p4 p5 p6 pz;have hcall:=table_Pick 2 x x.cols At Bt At ct et ct w11 _ _ HRX.o HCX.o.1 HRX.o.strs HCX.o.1;rw [HP1.o] at hcall;refine hcall.mono ?_;rintro e9 w12 ⟨A3,c3,B3,e3,rfl,hcp,hrv,hxc⟩;clear hcall;obtain ⟨w13,hw13⟩:∃ z:World,z=w12.alloc (.cells #[.int .i64 x.kind,.string x.s,.int .i64 x.dn,.int .i64 x.ds,.int .i64 x.n,.slice A3 x.cols.length c3,.slice B3 x.rows.length e3] 31):=⟨_,rfl⟩;obtain ⟨g13,hg13⟩:∃ g,g=w12.heap.size:=⟨_,rfl⟩;have hxa:Ext w12 w13:=(by rw [hw13]; exact (Ext.refl _).alloc _);have hxb:=hxc.trans hxa;have HRX:=Hd (HRX.o.keep (hxb.kept _));have HBg7:=Hd (HBg7.o.keep (hxb.kept _));have HBg8:=Hd (HBg8.o.keep (hxb.kept _));have HBg9:=Hd (HBg9.o.keep (hxb.kept _));have HRA1:=Hd (HRA1.o.keep (hxb.kept _));have HBg11:=Hd (HBg11.o.keep (hxb.kept _));have HRA2:=Hd (HRA2.o.keep (hxb.kept _));have HX:=Hd (HX.o.trans hxb);have HBg13:=Hd (show Blk w13 g13 31 #[.int .i64 x.kind,.string x.s,.int .i64 x.dn,.int .i64 x.ds,.int .i64 x.n,.slice A3 x.cols.length c3,.slice B3 x.rows.length e3] by rw [hw13,hg13]; exact Blk.at0 rfl);have HRX3:=Hd ((hrv.keep (hxa.kept _)).mono (T:=fun _=>True) fun _ _ _=>trivial);have HCX3:=Hd hcp;clear hrv hcp;have HW:=Hd hw13;have HG:=Hd hg13;clear hw13 hg13 hxa hxb hxc
 go_upto_region 8 with fail
 rw [← HW.o,← HG.o];clear HW HG;have p0:=HBg7.o.cell (i:=0) rfl;have p1:=HBg7.o.cell (i:=1) rfl;have p2:=HBg7.o.cell (i:=2) rfl;have p3:=HBg7.o.cell (i:=3) rfl;have p4:=HBg7.o.cell (i:=4) rfl;have p5:=HBg7.o.cell (i:=5) rfl;have p6:=HBg7.o.cell (i:=6) rfl;have pz:=HBg7.o.lt;obtain ⟨w14,hw14⟩:∃ z:World,z=w13.alloc (.cells #[.string ⟨#[99,105,116,121]⟩] 9):=⟨_,rfl⟩;obtain ⟨g14,hg14⟩:∃ g,g=w13.heap.size:=⟨_,rfl⟩;have hx14:Ext w13 w14:=(by rw [hw14]; exact (Ext.refl _).alloc _);have hb14:Blk w14 g14 9 #[.string sCity]:=(by rw [hw14,hg14]; exact Blk.at0 rfl);have HS14:=Hd (show Strs w14 (fun b=>b=g14) (some ⟨g14,0,none⟩) [sCity] from ⟨hb14.rd,by simp,fun s hs=>by have:=List.mem_singleton.1 hs; subst this; decide⟩);have HRX:=Hd (HRX.o.keep (hx14.kept _));have HBg7:=Hd (HBg7.o.keep (hx14.kept _));have HBg8:=Hd (HBg8.o.keep (hx14.kept _));have HBg9:=Hd (HBg9.o.keep (hx14.kept _));have HRA1:=Hd (HRA1.o.keep (hx14.kept _));have HBg11:=Hd (HBg11.o.keep (hx14.kept _));have HRA2:=Hd (HRA2.o.keep (hx14.kept _));have HBg13:=Hd (HBg13.o.keep (hx14.kept _));have HRX3:=Hd (HRX3.o.keep (hx14.kept _));have HX:=Hd (HX.o.trans hx14);have HW14:=Hd hw14;have HG14:=Hd hg14;clear hw14 hg14 hx14 hb14
 go_wp2_with fail
 clear p0 p1 p2 p3 p4 p5 p6 pz;rw [← HW14.o,← HG14.o];clear HW14 HG14;have hcall:=table_Pick 2 x [sCity] At Bt (some ⟨g14,0,none⟩) ct et 1 w14 _ _ HRX.o HCX.o.1 HS14.o (by simp);rw [HP2.o] at hcall;refine hcall.mono ?_;rintro e9 w15 ⟨A4,c4,B4,e4,rfl,hcp,hrv,hxc⟩;clear hcall HS14;obtain ⟨w16,hw16⟩:∃ z:World,z=w15.alloc (.cells #[.int .i64 o.kind,.string o.s,.int .i64 o.dn,.int .i64 o.ds,.int .i64 o.n,.slice A4 o.cols.length c4,.slice B4 o.rows.length e4] 31):=⟨_,rfl⟩;obtain ⟨g16,hg16⟩:∃ g,g=w15.heap.size:=⟨_,rfl⟩;have hxa:Ext w15 w16:=(by rw [hw16]; exact (Ext.refl _).alloc _);have hxb:=hxc.trans hxa;have HRX:=Hd (HRX.o.keep (hxb.kept _));have HBg7:=Hd (HBg7.o.keep (hxb.kept _));have HBg8:=Hd (HBg8.o.keep (hxb.kept _));have HBg9:=Hd (HBg9.o.keep (hxb.kept _));have HRA1:=Hd (HRA1.o.keep (hxb.kept _));have HBg11:=Hd (HBg11.o.keep (hxb.kept _));have HRA2:=Hd (HRA2.o.keep (hxb.kept _));have HBg13:=Hd (HBg13.o.keep (hxb.kept _));have HRX3:=Hd (HRX3.o.keep (hxb.kept _));have HX:=Hd (HX.o.trans hxb);have HBg16:=Hd (show Blk w16 g16 31 #[.int .i64 o.kind,.string o.s,.int .i64 o.dn,.int .i64 o.ds,.int .i64 o.n,.slice A4 o.cols.length c4,.slice B4 o.rows.length e4] by rw [hw16,hg16]; exact Blk.at0 rfl);have HRO4:=Hd ((hrv.keep (hxa.kept _)).mono (T:=fun _=>True) fun _ _ _=>trivial);have HCO4:=Hd hcp;clear hrv hcp;have HW:=Hd hw16;have HG:=Hd hg16;clear hw16 hg16 hxa hxb hxc
 go_upto_region 11 with fail
 rw [← HW.o,← HG.o];clear HW HG;have p0:=HBg7.o.cell (i:=0) rfl;have p1:=HBg7.o.cell (i:=1) rfl;have p2:=HBg7.o.cell (i:=2) rfl;have p3:=HBg7.o.cell (i:=3) rfl;have p4:=HBg7.o.cell (i:=4) rfl;have p5:=HBg7.o.cell (i:=5) rfl;have p6:=HBg7.o.cell (i:=6) rfl;have pz:=HBg7.o.lt;have q0:=HBg16.o.cell (i:=0) rfl;have q1:=HBg16.o.cell (i:=1) rfl;have q2:=HBg16.o.cell (i:=2) rfl;have q3:=HBg16.o.cell (i:=3) rfl;have q4:=HBg16.o.cell (i:=4) rfl;have q5:=HBg16.o.cell (i:=5) rfl;have q6:=HBg16.o.cell (i:=6) rfl;have qz:=HBg16.o.lt
 go_wp2_with fail
 clear p0 p1 p2 p3 p4 p5 p6 pz q0 q1 q2 q3 q4 q5 q6 qz;have hcall:=table_Join 2 x o sCity At Bt A4 B4 ct et c4 e4 w16 _ _ HRX.o HCX.o.1 HRO4.o HCO4.o.1 (HTX.o.ext HX.o) (fun i j ta tb hi hj=>join_hX HJX.o HJO.o i j ta tb hi hj);rw [HJ1.o] at hcall;refine hcall.mono ?_;rintro e9 w17 ⟨A5,c5,B5,e5,rfl,hcp,hrv,hxc⟩;clear hcall;obtain ⟨w18,hw18⟩:∃ z:World,z=w17.alloc (.cells #[.int .i64 d.kind,.string d.s,.int .i64 d.dn,.int .i64 d.ds,.int .i64 d.n,.slice A5 d.cols.length c5,.slice B5 d.rows.length e5] 31):=⟨_,rfl⟩;obtain ⟨g18,hg18⟩:∃ g,g=w17.heap.size:=⟨_,rfl⟩;have hxa:Ext w17 w18:=(by rw [hw18]; exact (Ext.refl _).alloc _);have hxb:=hxc.trans hxa;have HRX:=Hd (HRX.o.keep (hxb.kept _));have HBg7:=Hd (HBg7.o.keep (hxb.kept _));have HBg8:=Hd (HBg8.o.keep (hxb.kept _));have HBg9:=Hd (HBg9.o.keep (hxb.kept _));have HRA1:=Hd (HRA1.o.keep (hxb.kept _));have HBg11:=Hd (HBg11.o.keep (hxb.kept _));have HRA2:=Hd (HRA2.o.keep (hxb.kept _));have HBg13:=Hd (HBg13.o.keep (hxb.kept _));have HRX3:=Hd (HRX3.o.keep (hxb.kept _));have HBg16:=Hd (HBg16.o.keep (hxb.kept _));have HRO4:=Hd (HRO4.o.keep (hxb.kept _));have HX:=Hd (HX.o.trans hxb);have HBg18:=Hd (show Blk w18 g18 31 #[.int .i64 d.kind,.string d.s,.int .i64 d.dn,.int .i64 d.ds,.int .i64 d.n,.slice A5 d.cols.length c5,.slice B5 d.rows.length e5] by rw [hw18,hg18]; exact Blk.at0 rfl);have HRD5:=Hd ((hrv.keep (hxa.kept _)).mono (T:=fun _=>True) fun _ _ _=>trivial);have HCD5:=Hd hcp;clear hrv hcp;have HW:=Hd hw18;have HG:=Hd hg18;clear hw18 hg18 hxa hxb hxc
 go_upto_region 13 with fail
 rw [← HW.o,← HG.o];clear HW HG;go_wp2;have HRWS:=Hd (HRX.o.rows_);have HXT:=Hd (show x.rows=t.rows by rw [HXE.o]; rfl);have HOX:=Hd (show o.rows=oneR x.rows by rw [HOE.o,HXT.o]; rfl);have hol:o.rows.length=x.rows.length:=(by rw [HOX.o]; simp [oneR]);have HOL:=Hd hol;have hxn:x.rows.length≤6:=(by rw [HXT.o]; exact HMT.o.odd.1);clear hol
 go_loopw [20,19,21] (fun v20 v19 _v21 wr=>∃ p:Nat,p≤x.rows.length∧v20=.int .i64 (p:Int)∧v19=.int .i64 (((prsU x.rows o.rows 0 0 p).length:Nat):Int)∧Ext w18 wr) (fun v20 _ _ _=>x.rows.length-(intOf v20).toNat)
 case atStart=>exact ⟨0,Nat.zero_le _,rfl,rfl,Ext.refl _⟩
 case round =>
  obtain ⟨p,hp,rfl,rfl,hext⟩:=hrel;have HE:=Hd hext;clear hext;have k6:=(HBg7.o.keep (HE.o.kept _)).cell (i:=6) rfl;have k6z:=(HBg7.o.keep (HE.o.kept _)).lt;by_cases hlp:p<x.rows.length
  ·obtain ⟨ba,oa,Cx,ex,hBa,-,hca,-,hrowa⟩:=HRWS.o.at_ hlp;have hrl:(x.rows[p]).length=t.cols.length:=(tab_row HTAB.o (by rw [← HXT.o]; exact List.getElem_mem hlp)).1;have h0:0<(x.rows[p]).length:=(by rw [hrl,HCS.o]; simp);obtain ⟨b3,o3,Au,cu,Bu,eu,hCx,-,hu7,-,huv⟩:=hrowa.at_ h0;obtain ⟨u,hu⟩:∃ u,u=x.rows[p][0]:=⟨_,rfl⟩;rw [← hu] at hu7 huv;obtain ⟨rl,hrle⟩:∃ rl,rl=(x.rows[p]).length:=⟨_,rfl⟩;rw [← hrle] at hca;have hrl0:0<rl:=(by omega);subst hBa hCx;simp only [Nat.zero_mul,Nat.add_zero] at hu7;obtain ⟨u0,u1,u2,u3,u4,u5,u6⟩:=hu7;have HUE:=Hd (show cellAt x.rows 0 p=u by rw [hu]; exact cellAt_at hlp h0);have CA:=Hd hca;have U0:=Hd u0;have U1:=Hd u1;have U2:=Hd u2;have U3:=Hd u3;have U4:=Hd u4;have U5:=Hd u5;have U6:=Hd u6;have HUV:=Hd (huv.up (d':=2) (by omega));clear hca hrowa u0 u1 u2 u3 u4 u5 u6 huv hu hrl h0 hrle;have p0:(0:Int)≤(p:Int):=(by omega);have p1:(p:Int)<(x.rows.length:Int):=(by omega);have r1:(0:Int)<(rl:Int):=(by omega);go_wp2;clear k6 k6z;obtain ⟨wo,rfl⟩:∃ wo:World,wo=wr:=⟨_,rfl⟩
   go_loopw [21,19] (fun v21 v19 wr=>∃ q:Nat,q≤x.rows.length∧v21=.int .i64 (q:Int)∧v19=.int .i64 ((cntU x.rows o.rows p q:Nat):Int)∧Ext w18 wr) (fun v21 _ _=>x.rows.length-(intOf v21).toNat)
   case atStart=>exact ⟨0,Nat.zero_le _,rfl,by rw [cntU_zero],HE.o⟩
   case round =>
    obtain ⟨q,hq,rfl,rfl,hext2⟩:=hrel;obtain ⟨wi,rfl⟩:∃ wi:World,wi=wr:=⟨_,rfl⟩;have HE2:=Hd hext2;clear hext2;obtain ⟨cnt,hcnt⟩:∃ cnt,cnt=cntU x.rows o.rows p q:=⟨_,rfl⟩;have hcl:cnt≤42:=(by rw [hcnt]; exact cntU_le HJX.o HJO.o p q);rw [← hcnt];have HCNT:=Hd hcnt;clear hcnt;have k6:=(HBg7.o.keep (HE2.o.kept _)).cell (i:=6) rfl;have k6z:=(HBg7.o.keep (HE2.o.kept _)).lt;by_cases hlq:q<x.rows.length
    ·obtain ⟨bb,oq,Cy,ey,hBb,-,hcb,-,hrowb⟩:=HRWS.o.at_ hlq;have hrl:(x.rows[q]).length=t.cols.length:=(tab_row HTAB.o (by rw [← HXT.o]; exact List.getElem_mem hlq)).1;have h0:0<(x.rows[q]).length:=(by rw [hrl,HCS.o]; simp);obtain ⟨b4,o4,Az,cz,Bz,ez,hCy,-,hz7,-,hzv⟩:=hrowb.at_ h0;obtain ⟨z,hz⟩:∃ z,z=x.rows[q][0]:=⟨_,rfl⟩;rw [← hz] at hz7 hzv;obtain ⟨sl,hsle⟩:∃ sl,sl=(x.rows[q]).length:=⟨_,rfl⟩;rw [← hsle] at hcb;have hsl0:0<sl:=(by omega);injection hBb with hBb;injection hBb with hb1 hb2;subst hb1 hb2 hCy;simp only [Nat.zero_mul,Nat.add_zero] at hz7;obtain ⟨z0,z1,z2,z3,z4,z5,z6⟩:=hz7;have HZE:=Hd (show cellAt o.rows 0 q=z by rw [HOX.o,one_cell,hz]; exact cellAt_at hlq h0);have CB:=Hd hcb;have Z0:=Hd z0;have Z1:=Hd z1;have Z2:=Hd z2;have Z3:=Hd z3;have Z4:=Hd z4;have Z5:=Hd z5;have Z6:=Hd z6;have HZV:=Hd (hzv.up (d':=2) (by omega));clear hcb hrowb z0 z1 z2 z3 z4 z5 z6 hzv hz hrl h0 hsle;have q0:(0:Int)≤(q:Int):=(by omega);have q1:(q:Int)<(x.rows.length:Int):=(by omega);have s1:(0:Int)<(sl:Int):=(by omega);have hcw:IntKind.i64.wrap ((cnt:Int)+1)=(cnt:Int)+1:=IntWalk.i64_in _ (by omega);by_cases hku:u.kind=0
     ·have HFC:=Hd (show isB (cellAt o.rows 0 q) (cellAt x.rows 0 p)=false by rw [HZE.o,HUE.o]; exact isB_zero hku);have hk1:(u.kind != 0)=false:=(by simp [hku]);have hk2:(u.kind==0)=true:=(by simp [hku]);have HKU:=Hd hku;clear hku
      go_upto_region 19 with fail
      refine wp_region_chain (by kernel_rfl) (fun i=>[i]) (by kernel_rfl) (LZ (fun _ _=>False)) (LZ.refl _) (LZ.trans _) (LK []) gz0 (LK.zero _) ?_;apply Chain.pure (LZ.refl _) (by rfl)
      ·intro vals γ w' ρ hR hN hp hρ hc hf hg;refine ⟨rfl,?_⟩;have e7:=hρ 7;(conv at e7=>rhs; whnf);clear hR hN hp hρ;go_light;go_simp;exact ⟨rfl,rfl⟩
      ·rfl
      apply Chain.pure (LZ.refl _) (by rfl)
      ·intro vals γ w' ρ hR hN hp hρ hc hf hg;refine ⟨rfl,?_⟩;have e88:ρ (.tmp 88)=_:=(hρ 88).trans (hp 0 (by decide));have hxx:=hR.ext0 (fun _ _ _ h=>h.elim);have k6:=(HBg7.o.keep ((HE2.o.trans hxx).kept _)).cell (i:=6) rfl;clear hxx hR hN hp hρ;go_light;go_simp;exact ⟨rfl,rfl⟩
      ·rfl
      apply Chain.pure (LZ.refl _) (by rfl)
      ·intro vals γ w' ρ hR hN hp hρ hc hf hg;refine ⟨rfl,?_⟩;have e20:=hρ 20;(conv at e20=>rhs; whnf);clear hR hN hp hρ;go_light;go_simp;exact ⟨rfl,rfl⟩
      ·rfl
      apply Chain.pure (LZ.refl _) (by rfl)
      ·intro vals γ w' ρ hR hN hp hρ hc hf hg;refine ⟨rfl,?_⟩;have e89:ρ (.tmp 89)=_:=(hρ 89).trans (hp 1 (by decide));have e90:ρ (.tmp 90)=_:=(hρ 90).trans (hp 2 (by decide));clear hR hN hp hρ;go_light;go_simp;exact ⟨rfl,rfl⟩
      ·rfl
      apply Chain.pure (LZ.refl _) (by rfl)
      ·intro vals γ w' ρ hR hN hp hρ hc hf hg;refine ⟨rfl,?_⟩;have e91:ρ (.tmp 91)=_:=(hρ 91).trans (hp 3 (by decide));have hxx:=hR.ext0 (fun _ _ _ h=>h.elim);have k6:=(HE2.o.trans hxx).cell CA.o;clear hxx hR hN hp hρ;go_light;go_simp;exact ⟨rfl,rfl⟩
      ·rfl
      apply Chain.pure (LZ.refl _) (by rfl)
      ·intro vals γ w' ρ hR hN hp hρ hc hf hg;refine ⟨rfl,?_⟩;have e92:ρ (.tmp 92)=_:=(hρ 92).trans (hp 4 (by decide));clear hR hN hp hρ;go_light;go_simp;exact ⟨rfl,rfl⟩
      ·rfl
      apply Chain.pure (LZ.refl _) (by rfl)
      ·intro vals γ w' ρ hR hN hp hρ hc hf hg;refine ⟨rfl,?_⟩;have e93:ρ (.tmp 93)=_:=(hρ 93).trans (hp 5 (by decide));clear hR hN hp hρ;go_light;go_simp;exact ⟨rfl,rfl⟩
      ·rfl
      apply Chain.pure (LZ.refl _) (by rfl)
      ·intro vals γ w' ρ hR hN hp hρ hc hf hg;refine ⟨rfl,?_⟩;have e94:ρ (.tmp 94)=_:=(hρ 94).trans (hp 6 (by decide));have hxx:=hR.ext0 (fun _ _ _ h=>h.elim);have k6:=(HE2.o.trans hxx).cell U0.o;clear hxx hR hN hp hρ;go_light;go_simp;exact ⟨rfl,rfl⟩
      ·rfl
      apply Chain.pure (LZ.refl _) (by rfl)
      ·intro vals γ w' ρ hR hN hp hρ hc hf hg;refine ⟨rfl,?_⟩;have e95:ρ (.tmp 95)=_:=(hρ 95).trans (hp 7 (by decide));clear hR hN hp hρ;go_light;go_simp;exact ⟨rfl,rfl⟩
      ·rfl
      apply Chain.pure (LZ.refl _) (by rfl)
      ·intro vals γ w' ρ hR hN hp hρ hc hf hg;refine ⟨rfl,?_⟩;have e96:ρ (.tmp 96)=_:=(hρ 96).trans (hp 8 (by decide));clear hR hN hp hρ;go_light;go_simp;exact ⟨rfl,rfl⟩
      ·rfl
      refine Chain.no (by rfl) (by rfl) ?_ ?_
      ·intro vals γ w' hp;show (boolOf (vals 9)==some true)=false;rw [show vals 9=.bool false from hp 9 (by decide)]; rfl
      refine Chain.no (by rfl) (by rfl) ?_ ?_
      ·intro vals γ w' hp;show (boolOf (vals 9)==some true)=false;rw [show vals 9=.bool false from hp 9 (by decide)]; rfl
      refine Chain.no (by rfl) (by rfl) ?_ ?_
      ·intro vals γ w' hp;show (boolOf (vals 9)==some true)=false;rw [show vals 9=.bool false from hp 9 (by decide)]; rfl
      refine Chain.no (by rfl) (by rfl) ?_ ?_
      ·intro vals γ w' hp;show (boolOf (vals 9)==some true)=false;rw [show vals 9=.bool false from hp 9 (by decide)]; rfl
      refine Chain.no (by rfl) (by rfl) ?_ ?_
      ·intro vals γ w' hp;show (boolOf (vals 9)==some true)=false;rw [show vals 9=.bool false from hp 9 (by decide)]; rfl
      refine Chain.no (by rfl) (by rfl) ?_ ?_
      ·intro vals γ w' hp;show (boolOf (vals 9)==some true)=false;rw [show vals 9=.bool false from hp 9 (by decide)]; rfl
      refine Chain.no (by rfl) (by rfl) ?_ ?_
      ·intro vals γ w' hp;show (boolOf (vals 9)==some true)=false;rw [show vals 9=.bool false from hp 9 (by decide)]; rfl
      refine Chain.no (by rfl) (by rfl) ?_ ?_
      ·intro vals γ w' hp;show (boolOf (vals 9)==some true)=false;rw [show vals 9=.bool false from hp 9 (by decide)]; rfl
      refine Chain.no (by rfl) (by rfl) ?_ ?_
      ·intro vals γ w' hp;show (boolOf (vals 9)==some true)=false;rw [show vals 9=.bool false from hp 9 (by decide)]; rfl
      refine Chain.no (by rfl) (by rfl) ?_ ?_
      ·intro vals γ w' hp;show (boolOf (vals 9)==some true)=false;rw [show vals 9=.bool false from hp 9 (by decide)]; rfl
      refine Chain.no (by rfl) (by rfl) ?_ ?_
      ·intro vals γ w' hp;show (boolOf (vals 9)==some true)=false;rw [show vals 9=.bool false from hp 9 (by decide)]; rfl
      refine Chain.no (by rfl) (by rfl) ?_ ?_
      ·intro vals γ w' hp;show (boolOf (vals 9)==some true)=false;rw [show vals 9=.bool false from hp 9 (by decide)]; rfl
      refine Chain.no (by rfl) (by rfl) ?_ ?_
      ·intro vals γ w' hp;show (boolOf (vals 9)==some true)=false;rw [show vals 9=.bool false from hp 9 (by decide)]; rfl
      refine Chain.no (by rfl) (by rfl) ?_ ?_
      ·intro vals γ w' hp;show (boolOf (vals 9)==some true)=false;rw [show vals 9=.bool false from hp 9 (by decide)]; rfl
      refine Chain.no (by rfl) (by rfl) ?_ ?_
      ·intro vals γ w' hp;show (boolOf (vals 9)==some true)=false;rw [show vals 9=.bool false from hp 9 (by decide)]; rfl
      apply Chain.pure (LZ.refl _) (by rfl)
      ·intro vals γ w' ρ hR hN hp hρ hc hf hg;refine ⟨rfl,?_⟩;have e97:ρ (.tmp 97)=_:=(hρ 97).trans (hp 9 (by decide));have e112:ρ (.tmp 112)=_:=(hρ 112).trans (hp 24 (by decide));clear hR hN hp hρ;go_light;go_simp;exact ⟨rfl,rfl⟩
      ·rfl
      intro vals γ w9' hR hG;have v0:vals 0=_:=hG 0 (by decide);have v1:vals 1=_:=hG 1 (by decide);have v2:vals 2=_:=hG 2 (by decide);have v3:vals 3=_:=hG 3 (by decide);have v4:vals 4=_:=hG 4 (by decide);have v5:vals 5=_:=hG 5 (by decide);have v6:vals 6=_:=hG 6 (by decide);have v7:vals 7=_:=hG 7 (by decide);have v8:vals 8=_:=hG 8 (by decide);have v9:vals 9=_:=hG 9 (by decide);have v10:vals 10=_:=hG 10 (by decide);have v11:vals 11=_:=hG 11 (by decide);have v12:vals 12=_:=hG 12 (by decide);have v13:vals 13=_:=hG 13 (by decide);have v14:vals 14=_:=hG 14 (by decide);have v15:vals 15=_:=hG 15 (by decide);have v16:vals 16=_:=hG 16 (by decide);have v17:vals 17=_:=hG 17 (by decide);have v18:vals 18=_:=hG 18 (by decide);have v19:vals 19=_:=hG 19 (by decide);have v20:vals 20=_:=hG 20 (by decide);have v21:vals 21=_:=hG 21 (by decide);have v22:vals 22=_:=hG 22 (by decide);have v23:vals 23=_:=hG 23 (by decide);have v24:vals 24=_:=hG 24 (by decide);have v25:vals 25=_:=hG 25 (by decide);simp only [lexFrame,Act.put,List.setIfInBounds_toArray,List.set_cons_succ,List.set_cons_zero,Nat.zero_add,Nat.reduceAdd,v0,v1,v2,v3,v4,v5,v6,v7,v8,v9,v10,v11,v12,v13,v14,v15,v16,v17,v18,v19,v20,v21,v22,v23,v24,v25];clear v0 v1 v2 v3 v4 v5 v6 v7 v8 v9 v10 v11 v12 v13 v14 v15 v16 v17 v18 v19 v20 v21 v22 v23 v24 v25;have HXN:=Hd (show Ext wi w9' from hR.ext0 (fun _ _ _ h=>h.elim));clear hR hG;have HEN:=Hd (HE2.o.trans HXN.o);clear k6 k6z;go_wp2;go_roundw
      case rel=>exact ⟨q+1,by omega,by go_num,by rw [cntU_no HFC.o,← HCNT.o],HEN.o⟩
      case measure=>simp [intOf]; omega
     ·obtain ⟨fb,hfb⟩:∃ fb,fb=decide (u=z):=⟨_,rfl⟩;have HFC:=Hd (show isB (cellAt o.rows 0 q) (cellAt x.rows 0 p)=fb by rw [HZE.o,HUE.o,hfb]; exact isB_ne hku);have HIS:=Hd (show ∀ w',Ext wi w'→Calls Tryz.prog 13 #[(.agg #[.int .i64 u.kind,.string u.s,.int .i64 u.dn,.int .i64 u.ds,.int .i64 u.n,.slice Au u.cols.length cu,.slice Bu u.rows.length eu]),(.agg #[.int .i64 z.kind,.string z.s,.int .i64 z.dn,.int .i64 z.ds,.int .i64 z.n,.slice Az z.cols.length cz,.slice Bz z.rows.length ez])] w' (fun e w3=>e=.returned (.bool fb)∧Ext w' w3) from fun w' hx=>by
       rw [hfb];exact (r06_Equal 2 u z Au Bu Az Bz cu eu cz ez w' _ _ (HUV.o.keep ((HE2.o.trans hx).kept _)) (HZV.o.keep ((HE2.o.trans hx).kept _))).mono fun e w3 h=>⟨h.1,h.2⟩)
      have hk1:(u.kind != 0)=true:=(by simp [hku]);have hk2:(u.kind==0)=false:=(by simp [hku]);clear hfb
      go_upto_region 19 with fail
      refine wp_region_chain (by kernel_rfl) (fun i=>[i]) (by kernel_rfl) (LZ (fun _ _=>False)) (LZ.refl _) (LZ.trans _) (LK []) gz0 (LK.zero _) ?_;apply Chain.pure (LZ.refl _) (by rfl)
      ·intro vals γ w' ρ hR hN hp hρ hc hf hg;refine ⟨rfl,?_⟩;have e7:=hρ 7;(conv at e7=>rhs; whnf);clear hR hN hp hρ;go_light;go_simp;exact ⟨rfl,rfl⟩
      ·rfl
      apply Chain.pure (LZ.refl _) (by rfl)
      ·intro vals γ w' ρ hR hN hp hρ hc hf hg;refine ⟨rfl,?_⟩;have e88:ρ (.tmp 88)=_:=(hρ 88).trans (hp 0 (by decide));have hxx:=hR.ext0 (fun _ _ _ h=>h.elim);have k6:=(HBg7.o.keep ((HE2.o.trans hxx).kept _)).cell (i:=6) rfl;clear hxx hR hN hp hρ;go_light;go_simp;exact ⟨rfl,rfl⟩
      ·rfl
      apply Chain.pure (LZ.refl _) (by rfl)
      ·intro vals γ w' ρ hR hN hp hρ hc hf hg;refine ⟨rfl,?_⟩;have e20:=hρ 20;(conv at e20=>rhs; whnf);clear hR hN hp hρ;go_light;go_simp;exact ⟨rfl,rfl⟩
      ·rfl
      apply Chain.pure (LZ.refl _) (by rfl)
      ·intro vals γ w' ρ hR hN hp hρ hc hf hg;refine ⟨rfl,?_⟩;have e89:ρ (.tmp 89)=_:=(hρ 89).trans (hp 1 (by decide));have e90:ρ (.tmp 90)=_:=(hρ 90).trans (hp 2 (by decide));clear hR hN hp hρ;go_light;go_simp;exact ⟨rfl,rfl⟩
      ·rfl
      apply Chain.pure (LZ.refl _) (by rfl)
      ·intro vals γ w' ρ hR hN hp hρ hc hf hg;refine ⟨rfl,?_⟩;have e91:ρ (.tmp 91)=_:=(hρ 91).trans (hp 3 (by decide));have hxx:=hR.ext0 (fun _ _ _ h=>h.elim);have k6:=(HE2.o.trans hxx).cell CA.o;clear hxx hR hN hp hρ;go_light;go_simp;exact ⟨rfl,rfl⟩
      ·rfl
      apply Chain.pure (LZ.refl _) (by rfl)
      ·intro vals γ w' ρ hR hN hp hρ hc hf hg;refine ⟨rfl,?_⟩;have e92:ρ (.tmp 92)=_:=(hρ 92).trans (hp 4 (by decide));clear hR hN hp hρ;go_light;go_simp;exact ⟨rfl,rfl⟩
      ·rfl
      apply Chain.pure (LZ.refl _) (by rfl)
      ·intro vals γ w' ρ hR hN hp hρ hc hf hg;refine ⟨rfl,?_⟩;have e93:ρ (.tmp 93)=_:=(hρ 93).trans (hp 5 (by decide));clear hR hN hp hρ;go_light;go_simp;exact ⟨rfl,rfl⟩
      ·rfl
      apply Chain.pure (LZ.refl _) (by rfl)
      ·intro vals γ w' ρ hR hN hp hρ hc hf hg;refine ⟨rfl,?_⟩;have e94:ρ (.tmp 94)=_:=(hρ 94).trans (hp 6 (by decide));have hxx:=hR.ext0 (fun _ _ _ h=>h.elim);have k6:=(HE2.o.trans hxx).cell U0.o;clear hxx hR hN hp hρ;go_light;go_simp;exact ⟨rfl,rfl⟩
      ·rfl
      apply Chain.pure (LZ.refl _) (by rfl)
      ·intro vals γ w' ρ hR hN hp hρ hc hf hg;refine ⟨rfl,?_⟩;have e95:ρ (.tmp 95)=_:=(hρ 95).trans (hp 7 (by decide));clear hR hN hp hρ;go_light;go_simp;exact ⟨rfl,rfl⟩
      ·rfl
      apply Chain.pure (LZ.refl _) (by rfl)
      ·intro vals γ w' ρ hR hN hp hρ hc hf hg;refine ⟨rfl,?_⟩;have e96:ρ (.tmp 96)=_:=(hρ 96).trans (hp 8 (by decide));clear hR hN hp hρ;go_light;go_simp;exact ⟨rfl,rfl⟩
      ·rfl
      apply Chain.pure (LZ.refl _) (by rfl)
      ·intro vals γ w' ρ hR hN hp hρ hc hf hg;refine ⟨by show (boolOf (vals 9)==some true)=true; rw [show vals 9=.bool true from hp 9 (by decide)]; rfl,?_⟩;have e7:=hρ 7;(conv at e7=>rhs; whnf);clear hR hN hp hρ;go_light;go_simp;exact ⟨rfl,rfl⟩
      ·rfl
      apply Chain.pure (LZ.refl _) (by rfl)
      ·intro vals γ w' ρ hR hN hp hρ hc hf hg;refine ⟨by show (boolOf (vals 9)==some true)=true; rw [show vals 9=.bool true from hp 9 (by decide)]; rfl,?_⟩;have e98:ρ (.tmp 98)=_:=(hρ 98).trans (hp 10 (by decide));have hxx:=hR.ext0 (fun _ _ _ h=>h.elim);have k6:=(HBg7.o.keep ((HE2.o.trans hxx).kept _)).cell (i:=6) rfl;clear hxx hR hN hp hρ;go_light;go_simp;exact ⟨rfl,rfl⟩
      ·rfl
      apply Chain.pure (LZ.refl _) (by rfl)
      ·intro vals γ w' ρ hR hN hp hρ hc hf hg;refine ⟨by show (boolOf (vals 9)==some true)=true; rw [show vals 9=.bool true from hp 9 (by decide)]; rfl,?_⟩;have e20:=hρ 20;(conv at e20=>rhs; whnf);clear hR hN hp hρ;go_light;go_simp;exact ⟨rfl,rfl⟩
      ·rfl
      apply Chain.pure (LZ.refl _) (by rfl)
      ·intro vals γ w' ρ hR hN hp hρ hc hf hg;refine ⟨by show (boolOf (vals 9)==some true)=true; rw [show vals 9=.bool true from hp 9 (by decide)]; rfl,?_⟩;have e99:ρ (.tmp 99)=_:=(hρ 99).trans (hp 11 (by decide));have e100:ρ (.tmp 100)=_:=(hρ 100).trans (hp 12 (by decide));clear hR hN hp hρ;go_light;go_simp;exact ⟨rfl,rfl⟩
      ·rfl
      apply Chain.pure (LZ.refl _) (by rfl)
      ·intro vals γ w' ρ hR hN hp hρ hc hf hg;refine ⟨by show (boolOf (vals 9)==some true)=true; rw [show vals 9=.bool true from hp 9 (by decide)]; rfl,?_⟩;have e101:ρ (.tmp 101)=_:=(hρ 101).trans (hp 13 (by decide));have hxx:=hR.ext0 (fun _ _ _ h=>h.elim);have k6:=(HE2.o.trans hxx).cell CA.o;clear hxx hR hN hp hρ;go_light;go_simp;exact ⟨rfl,rfl⟩
      ·rfl
      apply Chain.pure (LZ.refl _) (by rfl)
      ·intro vals γ w' ρ hR hN hp hρ hc hf hg;refine ⟨by show (boolOf (vals 9)==some true)=true; rw [show vals 9=.bool true from hp 9 (by decide)]; rfl,?_⟩;have e102:ρ (.tmp 102)=_:=(hρ 102).trans (hp 14 (by decide));clear hR hN hp hρ;go_light;go_simp;exact ⟨rfl,rfl⟩
      ·rfl
      apply Chain.pure (LZ.refl _) (by rfl)
      ·intro vals γ w' ρ hR hN hp hρ hc hf hg;refine ⟨by show (boolOf (vals 9)==some true)=true; rw [show vals 9=.bool true from hp 9 (by decide)]; rfl,?_⟩;have e103:ρ (.tmp 103)=_:=(hρ 103).trans (hp 15 (by decide));have hxx:=hR.ext0 (fun _ _ _ h=>h.elim);have f0:=(HE2.o.trans hxx).cell U0.o;have f1:=(HE2.o.trans hxx).cell U1.o;have f2:=(HE2.o.trans hxx).cell U2.o;have f3:=(HE2.o.trans hxx).cell U3.o;have f4:=(HE2.o.trans hxx).cell U4.o;have f5:=(HE2.o.trans hxx).cell U5.o;have f6:=(HE2.o.trans hxx).cell U6.o;clear hxx hR hN hp hρ;go_light;go_simp;exact ⟨rfl,rfl⟩
      ·rfl
      apply Chain.pure (LZ.refl _) (by rfl)
      ·intro vals γ w' ρ hR hN hp hρ hc hf hg;refine ⟨by show (boolOf (vals 9)==some true)=true; rw [show vals 9=.bool true from hp 9 (by decide)]; rfl,?_⟩;have e7:=hρ 7;(conv at e7=>rhs; whnf);clear hR hN hp hρ;go_light;go_simp;exact ⟨rfl,rfl⟩
      ·rfl
      apply Chain.pure (LZ.refl _) (by rfl)
      ·intro vals γ w' ρ hR hN hp hρ hc hf hg;refine ⟨by show (boolOf (vals 9)==some true)=true; rw [show vals 9=.bool true from hp 9 (by decide)]; rfl,?_⟩;have e105:ρ (.tmp 105)=_:=(hρ 105).trans (hp 17 (by decide));have hxx:=hR.ext0 (fun _ _ _ h=>h.elim);have k6:=(HBg7.o.keep ((HE2.o.trans hxx).kept _)).cell (i:=6) rfl;clear hxx hR hN hp hρ;go_light;go_simp;exact ⟨rfl,rfl⟩
      ·rfl
      apply Chain.pure (LZ.refl _) (by rfl)
      ·intro vals γ w' ρ hR hN hp hρ hc hf hg;refine ⟨by show (boolOf (vals 9)==some true)=true; rw [show vals 9=.bool true from hp 9 (by decide)]; rfl,?_⟩;have e21:=hρ 21;(conv at e21=>rhs; whnf);clear hR hN hp hρ;go_light;go_simp;exact ⟨rfl,rfl⟩
      ·rfl
      apply Chain.pure (LZ.refl _) (by rfl)
      ·intro vals γ w' ρ hR hN hp hρ hc hf hg;refine ⟨by show (boolOf (vals 9)==some true)=true; rw [show vals 9=.bool true from hp 9 (by decide)]; rfl,?_⟩;have e106:ρ (.tmp 106)=_:=(hρ 106).trans (hp 18 (by decide));have e107:ρ (.tmp 107)=_:=(hρ 107).trans (hp 19 (by decide));clear hR hN hp hρ;go_light;go_simp;exact ⟨rfl,rfl⟩
      ·rfl
      apply Chain.pure (LZ.refl _) (by rfl)
      ·intro vals γ w' ρ hR hN hp hρ hc hf hg;refine ⟨by show (boolOf (vals 9)==some true)=true; rw [show vals 9=.bool true from hp 9 (by decide)]; rfl,?_⟩;have e108:ρ (.tmp 108)=_:=(hρ 108).trans (hp 20 (by decide));have hxx:=hR.ext0 (fun _ _ _ h=>h.elim);have k6:=(HE2.o.trans hxx).cell CB.o;clear hxx hR hN hp hρ;go_light;go_simp;exact ⟨rfl,rfl⟩
      ·rfl
      apply Chain.pure (LZ.refl _) (by rfl)
      ·intro vals γ w' ρ hR hN hp hρ hc hf hg;refine ⟨by show (boolOf (vals 9)==some true)=true; rw [show vals 9=.bool true from hp 9 (by decide)]; rfl,?_⟩;have e109:ρ (.tmp 109)=_:=(hρ 109).trans (hp 21 (by decide));clear hR hN hp hρ;go_light;go_simp;exact ⟨rfl,rfl⟩
      ·rfl
      apply Chain.pure (LZ.refl _) (by rfl)
      ·intro vals γ w' ρ hR hN hp hρ hc hf hg;refine ⟨by show (boolOf (vals 9)==some true)=true; rw [show vals 9=.bool true from hp 9 (by decide)]; rfl,?_⟩;have e110:ρ (.tmp 110)=_:=(hρ 110).trans (hp 22 (by decide));have hxx:=hR.ext0 (fun _ _ _ h=>h.elim);have f0:=(HE2.o.trans hxx).cell Z0.o;have f1:=(HE2.o.trans hxx).cell Z1.o;have f2:=(HE2.o.trans hxx).cell Z2.o;have f3:=(HE2.o.trans hxx).cell Z3.o;have f4:=(HE2.o.trans hxx).cell Z4.o;have f5:=(HE2.o.trans hxx).cell Z5.o;have f6:=(HE2.o.trans hxx).cell Z6.o;clear hxx hR hN hp hρ;go_light;go_simp;exact ⟨rfl,rfl⟩
      ·rfl
      refine Chain.step (FP fun v γ w'=>v=.bool fb) (by rfl) (FP.stab ?_) ?_ ?_
      ·intro v γ w1 γ' w2 r h;exact h
      ·intro vals γ w' ρ hR hN hp hρ hc hf hg;refine ⟨by show (boolOf (vals 9)==some true)=true; rw [show vals 9=.bool true from hp 9 (by decide)]; rfl,?_⟩;have e104:ρ (.tmp 104)=_:=(hρ 104).trans (hp 16 (by decide));have e111:ρ (.tmp 111)=_:=(hρ 111).trans (hp 23 (by decide));have HR:=Hd hR;have HXW:=Hd (hR.ext0 (fun _ _ _ h=>h.elim));clear hR hN hp hρ;go_light;go_simp;refine (HIS.o w' HXW.o).mono ?_;rintro e1 w3 ⟨he,hx⟩;exact ⟨_,he,γ,LZ.of_ext _ γ hx,fun _ _ _ h=>h,rfl⟩
      apply Chain.pure (LZ.refl _) (by rfl)
      ·intro vals γ w' ρ hR hN hp hρ hc hf hg;refine ⟨rfl,?_⟩;have e97:ρ (.tmp 97)=_:=(hρ 97).trans (hp 9 (by decide));have e112:ρ (.tmp 112)=_:=(hρ 112).trans (hp 24 (by decide));clear hR hN hp hρ;go_light;go_simp;exact ⟨rfl,rfl⟩
      ·rfl
      intro vals γ w9' hR hG;have v0:vals 0=_:=hG 0 (by decide);have v1:vals 1=_:=hG 1 (by decide);have v2:vals 2=_:=hG 2 (by decide);have v3:vals 3=_:=hG 3 (by decide);have v4:vals 4=_:=hG 4 (by decide);have v5:vals 5=_:=hG 5 (by decide);have v6:vals 6=_:=hG 6 (by decide);have v7:vals 7=_:=hG 7 (by decide);have v8:vals 8=_:=hG 8 (by decide);have v9:vals 9=_:=hG 9 (by decide);have v10:vals 10=_:=hG 10 (by decide);have v11:vals 11=_:=hG 11 (by decide);have v12:vals 12=_:=hG 12 (by decide);have v13:vals 13=_:=hG 13 (by decide);have v14:vals 14=_:=hG 14 (by decide);have v15:vals 15=_:=hG 15 (by decide);have v16:vals 16=_:=hG 16 (by decide);have v17:vals 17=_:=hG 17 (by decide);have v18:vals 18=_:=hG 18 (by decide);have v19:vals 19=_:=hG 19 (by decide);have v20:vals 20=_:=hG 20 (by decide);have v21:vals 21=_:=hG 21 (by decide);have v22:vals 22=_:=hG 22 (by decide);have v23:vals 23=_:=hG 23 (by decide);have v24:vals 24=_:=hG 24 (by decide);have v25:vals 25=_:=hG 25 (by decide);simp only [lexFrame,Act.put,List.setIfInBounds_toArray,List.set_cons_succ,List.set_cons_zero,Nat.zero_add,Nat.reduceAdd,v0,v1,v2,v3,v4,v5,v6,v7,v8,v9,v10,v11,v12,v13,v14,v15,v16,v17,v18,v19,v20,v21,v22,v23,v24,v25];clear v0 v1 v2 v3 v4 v5 v6 v7 v8 v9 v10 v11 v12 v13 v14 v15 v16 v17 v18 v19 v20 v21 v22 v23 v24 v25;have HXN:=Hd (show Ext wi w9' from hR.ext0 (fun _ _ _ h=>h.elim));clear hR hG;have HEN:=Hd (HE2.o.trans HXN.o);clear k6 k6z;cases fb
      ·go_wp2;go_roundw
       case rel=>exact ⟨q+1,by omega,by go_num,by rw [cntU_no HFC.o,← HCNT.o],HEN.o⟩
       case measure=>simp [intOf]; omega
      ·go_wp2;go_roundw
       case rel=>exact ⟨q+1,by omega,by go_num,by rw [cntU_yes HFC.o,← HCNT.o]; go_num,HEN.o⟩
       case measure=>simp [intOf]; omega
    ·have hqe:q=x.rows.length:=(by omega);subst hqe;have hq1:¬ ((x.rows.length:Int)<(x.rows.length:Int)):=(by omega);go_wp2;go_roundw
     case rel=>exact ⟨p+1,by omega,by go_num,by rw [HCNT.o,← HOL.o,cntU_end],HE2.o⟩
     case measure=>simp [intOf]; omega
  ·have hpe:p=x.rows.length:=(by omega);subst hpe;have hp1:¬ ((x.rows.length:Int)<(x.rows.length:Int)):=(by omega);obtain ⟨cnt,hcnt⟩:∃ cnt,cnt=(prsU x.rows o.rows 0 0 x.rows.length).length:=⟨_,rfl⟩;have hdl:d.rows.length=cnt:=by
    rw [hcnt,HDE.o,HOX.o,HXT.o];simp [tabV,joinRows]
   have hde:((d.rows.length:Int)==(cnt:Int))=true:=(by simp [hdl]);have hdc:d.cols=x.cols:=(by rw [HDE.o,HXE.o]; rfl);have hal:a.rows.length≤x.rows.length:=by
    rw [HAE.o,HXT.o];exact List.length_filter_le _ _
   have hal1:(a.rows.length:Int)≤(x.rows.length:Int):=(by omega);have HDC:=Hd hdc;rw [← hcnt];clear hcnt hdl hal hdc;have p0:=(HBg9.o.keep (HE.o.kept _)).cell (i:=0) rfl;have p1:=(HBg9.o.keep (HE.o.kept _)).cell (i:=1) rfl;have p2:=(HBg9.o.keep (HE.o.kept _)).cell (i:=2) rfl;have p3:=(HBg9.o.keep (HE.o.kept _)).cell (i:=3) rfl;have p4:=(HBg9.o.keep (HE.o.kept _)).cell (i:=4) rfl;have p5:=(HBg9.o.keep (HE.o.kept _)).cell (i:=5) rfl;have p6:=(HBg9.o.keep (HE.o.kept _)).cell (i:=6) rfl;have pz:=(HBg9.o.keep (HE.o.kept _)).lt;have q0:=(HBg11.o.keep (HE.o.kept _)).cell (i:=0) rfl;have q1:=(HBg11.o.keep (HE.o.kept _)).cell (i:=1) rfl;have q2:=(HBg11.o.keep (HE.o.kept _)).cell (i:=2) rfl;have q3:=(HBg11.o.keep (HE.o.kept _)).cell (i:=3) rfl;have q4:=(HBg11.o.keep (HE.o.kept _)).cell (i:=4) rfl;have q5:=(HBg11.o.keep (HE.o.kept _)).cell (i:=5) rfl;have q6:=(HBg11.o.keep (HE.o.kept _)).cell (i:=6) rfl;have qz:=(HBg11.o.keep (HE.o.kept _)).lt
   go_wp2_with fail
   clear p0 p1 p2 p3 p4 p5 p6 pz q0 q1 q2 q3 q4 q5 q6 qz k6 k6z hp1;refine (r06_Equal 2 a a A1 B1 A2 B2 c1 e1 c2 e2 wr _ _ (HRA1.o.keep (HE.o.kept _)) (HRA2.o.keep (HE.o.kept _))).mono ?_;rintro e20 w20 ⟨rfl,hx20⟩;rw [decide_eq_true rfl];have HE20:=Hd (HE.o.trans hx20);clear hx20;have p0:=(HBg13.o.keep (HE20.o.kept _)).cell (i:=0) rfl;have p1:=(HBg13.o.keep (HE20.o.kept _)).cell (i:=1) rfl;have p2:=(HBg13.o.keep (HE20.o.kept _)).cell (i:=2) rfl;have p3:=(HBg13.o.keep (HE20.o.kept _)).cell (i:=3) rfl;have p4:=(HBg13.o.keep (HE20.o.kept _)).cell (i:=4) rfl;have p5:=(HBg13.o.keep (HE20.o.kept _)).cell (i:=5) rfl;have p6:=(HBg13.o.keep (HE20.o.kept _)).cell (i:=6) rfl;have pz:=(HBg13.o.keep (HE20.o.kept _)).lt;have q0:=(HBg7.o.keep (HE20.o.kept _)).cell (i:=0) rfl;have q1:=(HBg7.o.keep (HE20.o.kept _)).cell (i:=1) rfl;have q2:=(HBg7.o.keep (HE20.o.kept _)).cell (i:=2) rfl;have q3:=(HBg7.o.keep (HE20.o.kept _)).cell (i:=3) rfl;have q4:=(HBg7.o.keep (HE20.o.kept _)).cell (i:=4) rfl;have q5:=(HBg7.o.keep (HE20.o.kept _)).cell (i:=5) rfl;have q6:=(HBg7.o.keep (HE20.o.kept _)).cell (i:=6) rfl;have qz:=(HBg7.o.keep (HE20.o.kept _)).lt
   go_wp2_with fail
   clear p0 p1 p2 p3 p4 p5 p6 pz q0 q1 q2 q3 q4 q5 q6 qz;refine (r06_Equal 2 x x A3 B3 At Bt c3 e3 ct et w20 _ _ (HRX3.o.keep (HE20.o.kept _)) (HRX.o.keep (HE20.o.kept _))).mono ?_;rintro e21 w21 ⟨rfl,hx21⟩;rw [decide_eq_true rfl];have HE21:=Hd (HE20.o.trans hx21);clear hx21;have p0:=(HBg18.o.keep (HE21.o.kept _)).cell (i:=0) rfl;have p1:=(HBg18.o.keep (HE21.o.kept _)).cell (i:=1) rfl;have p2:=(HBg18.o.keep (HE21.o.kept _)).cell (i:=2) rfl;have p3:=(HBg18.o.keep (HE21.o.kept _)).cell (i:=3) rfl;have p4:=(HBg18.o.keep (HE21.o.kept _)).cell (i:=4) rfl;have p5:=(HBg18.o.keep (HE21.o.kept _)).cell (i:=5) rfl;have p6:=(HBg18.o.keep (HE21.o.kept _)).cell (i:=6) rfl;have pz:=(HBg18.o.keep (HE21.o.kept _)).lt;have q0:=(HBg7.o.keep (HE21.o.kept _)).cell (i:=0) rfl;have q1:=(HBg7.o.keep (HE21.o.kept _)).cell (i:=1) rfl;have q2:=(HBg7.o.keep (HE21.o.kept _)).cell (i:=2) rfl;have q3:=(HBg7.o.keep (HE21.o.kept _)).cell (i:=3) rfl;have q4:=(HBg7.o.keep (HE21.o.kept _)).cell (i:=4) rfl;have q5:=(HBg7.o.keep (HE21.o.kept _)).cell (i:=5) rfl;have q6:=(HBg7.o.keep (HE21.o.kept _)).cell (i:=6) rfl;have qz:=(HBg7.o.keep (HE21.o.kept _)).lt
   go_wp2_with fail
   refine (r06_Strings A5 At c5 ct d.cols x.cols w21 _ _ (HRD5.o.strs.keep (HE21.o.kept _)) (HRX.o.strs.keep (HE21.o.kept _))).mono ?_;rintro e22 w22 ⟨rfl,nn,hnn⟩;have HE22:=Hd (HE21.o.trans (show Ext w21 w22 by rw [hnn]; exact (Ext.refl _).drewN nn));rw [decide_eq_true HDC.o];clear hnn p0 p1 p2 p3 p4 p5 p6 pz q0 q1 q2 q3 q4 q5 q6 qz;have p0:=(HBg9.o.keep (HE22.o.kept _)).cell (i:=0) rfl;have p1:=(HBg9.o.keep (HE22.o.kept _)).cell (i:=1) rfl;have p2:=(HBg9.o.keep (HE22.o.kept _)).cell (i:=2) rfl;have p3:=(HBg9.o.keep (HE22.o.kept _)).cell (i:=3) rfl;have p4:=(HBg9.o.keep (HE22.o.kept _)).cell (i:=4) rfl;have p5:=(HBg9.o.keep (HE22.o.kept _)).cell (i:=5) rfl;have p6:=(HBg9.o.keep (HE22.o.kept _)).cell (i:=6) rfl;have pz:=(HBg9.o.keep (HE22.o.kept _)).lt;have q0:=(HBg7.o.keep (HE22.o.kept _)).cell (i:=0) rfl;have q1:=(HBg7.o.keep (HE22.o.kept _)).cell (i:=1) rfl;have q2:=(HBg7.o.keep (HE22.o.kept _)).cell (i:=2) rfl;have q3:=(HBg7.o.keep (HE22.o.kept _)).cell (i:=3) rfl;have q4:=(HBg7.o.keep (HE22.o.kept _)).cell (i:=4) rfl;have q5:=(HBg7.o.keep (HE22.o.kept _)).cell (i:=5) rfl;have q6:=(HBg7.o.keep (HE22.o.kept _)).cell (i:=6) rfl;have qz:=(HBg7.o.keep (HE22.o.kept _)).lt;go_wp2;go_ret;exact ⟨rfl,HX.o.trans HE22.o⟩
end Go.Proofs.YthmckfloppblcaaGreatDoor
