/- The reference's Made2: two tables whose columns differ but for the first. Conditions: the numbers read as data. -/
import Derived.Test.YthmckfloppblcaaGreatDoorBv1
set_option maxRecDepth 100000
set_option maxHeartbeats 4000000
namespace Go.Proofs.YthmckfloppblcaaGreatDoor
open Go Go.RowKit
def pickOK (tc cols:List ByteArray) (k:Nat):Prop:=∀ j (hj:j<cols.length),j<k→0≤idxS tc cols[j]∧memS (cols.take j) cols[j]=false
def pickB (tc cols:List ByteArray):Bool:=(List.range cols.length).all fun j=>decide (0≤idxS tc (cols.getD j ⟨#[]⟩)) && !memS (cols.take j) (cols.getD j ⟨#[]⟩)
theorem pickB_true {tc cols:List ByteArray} (h:pickOK tc cols cols.length):pickB tc cols=true:=by
 unfold pickB;rw [List.all_eq_true];intro j hj;rw [List.mem_range] at hj;rw [List.getD_eq_getElem?_getD,List.getElem?_eq_getElem hj,Option.getD_some];simp [(h j hj hj).1,(h j hj hj).2]
theorem pickB_false {tc cols:List ByteArray} {j:Nat} (hj:j<cols.length) (h:¬ (0≤idxS tc cols[j]∧memS (cols.take j) cols[j]=false)):pickB tc cols=false:=by
 unfold pickB;rw [List.all_eq_false];refine ⟨j,List.mem_range.2 hj,?_⟩;rw [List.getD_eq_getElem?_getD,List.getElem?_eq_getElem hj,Option.getD_some]
 simpa using h
theorem pickOK_succ {tc cols:List ByteArray} {k:Nat} (h:pickOK tc cols k) (hk:k<cols.length) (h1:0≤idxS tc cols[k]) (h2:memS (cols.take k) cols[k]=false):pickOK tc cols (k+1):=by
 intro j hj hlt
 rcases Nat.lt_or_ge j k with h3 | h3
 ·exact h j hj h3
 ·obtain rfl:j=k:=by omega
  exact ⟨h1,h2⟩
def pickRow (tc cols:List ByteArray) (r:List Val):List Val:=cols.map fun n=>r.getD (idxS tc n).toNat Val.zero
def pickS (t:Val) (cols:List ByteArray):Val × Int :=
 if isTabB t=false then (Val.zero,14) else if pickB t.cols cols=false then (Val.zero,13) else (tabV cols (t.rows.map (pickRow t.cols cols)),0)

theorem table_Pick (d:Nat) (t:Val) (cols:List ByteArray) (A B Al:Option Addr) (c e cl:Nat) (w:World) (S T:Nat→Prop) (h:RV w S d t A B) (hcap:t.cols.length≤c) (hl:Strs w T Al cols) (hclc:cols.length≤cl) :
  Calls Tryz.prog 16 #[(.agg #[.int .i64 t.kind,.string t.s,.int .i64 t.dn,.int .i64 t.ds,.int .i64 t.n,.slice A t.cols.length c,.slice B t.rows.length e]),.slice Al cols.length cl] w (RetVE w (Fresh w) d (pickS t cols)):=by
 have H:=Hd (h.mono (T:=fun b=>b<w.heap.size) fun i hi _=>hi);have HL:=Hd (hl.mono (T:=fun b=>b<w.heap.size) fun i hi _=>hi);have hrl:=h.rows_.len;have hcl:=hl.2.1;have htl:=h.strs.2.1;clear h hl;obtain ⟨W0,hW0⟩:∃ W0,W0=(w.alloc (.cells #[.int .i64 t.kind,.string t.s,.int .i64 t.dn,.int .i64 t.ds,.int .i64 t.n,.slice A t.cols.length c,.slice B t.rows.length e] 31)).alloc (.cells #[.int .i64 0,.string ⟨#[]⟩,.int .i64 0,.int .i64 0,.int .i64 0,.slice none 0 0,.slice none 0 0] 31):=⟨_,rfl⟩;have HW0:=Hd hW0;have HX0:=Hd (show Ext w W0 by rw [hW0]; exact ((Ext.refl w).alloc _).alloc _);have HB0:=Hd (show Blk W0 w.heap.size 31 #[.int .i64 t.kind,.string t.s,.int .i64 t.dn,.int .i64 t.ds,.int .i64 t.n,.slice A t.cols.length c,.slice B t.rows.length e] by rw [hW0]; exact (Blk.new _ _ _).keep (Kept.alloc _ _ _));have HB2:=Hd (show Blk W0 (w.heap.size+1) 31 #[.int .i64 0,.string ⟨#[]⟩,.int .i64 0,.int .i64 0,.int .i64 0,.slice none 0 0,.slice none 0 0] by
  rw [hW0];have:=Blk.new (w.alloc (.cells #[.int .i64 t.kind,.string t.s,.int .i64 t.dn,.int .i64 t.ds,.int .i64 t.n,.slice A t.cols.length c,.slice B t.rows.length e] 31)) 31 #[.int .i64 0,.string ⟨#[]⟩,.int .i64 0,.int .i64 0,.int .i64 0,.slice none 0 0,.slice none 0 0]
  simpa using this)
 have HS0:=Hd (show W0.heap.size=w.heap.size+2 by rw [hW0]; simp);clear hW0
 go_enter Tryz.func16,Tryz.ntmps16
 go_wp2_with fail
 rw [← HW0.o];refine (table_isTable d t A B c e W0 _ (H.o.keep (HX0.o.kept _)) hcap).mono ?_;rintro e1 w1 ⟨rfl,hx1⟩;have HX1:=Hd (HX0.o.trans hx1);have HB01:=Hd (HB0.o.keep (hx1.kept _));have HB21:=Hd (HB2.o.keep (hx1.kept _));have hz1:w.heap.size+2≤w1.heap.size:=(by have:=hx1.size; have:=HS0.o; omega);clear hx1 HB0 HB2 HW0 HX0 HS0;rw [show (decide (t.kind=5) && rightB t)=isTabB t from rfl];cases hT:isTabB t
 ·have HF:=Hd (show pickS t cols=(Val.zero,14) by simp [pickS,hT]);clear hT;have r0:=HB21.o.cell (i:=0) rfl;have r1:=HB21.o.cell (i:=1) rfl;have r2:=HB21.o.cell (i:=2) rfl;have r3:=HB21.o.cell (i:=3) rfl;have r4:=HB21.o.cell (i:=4) rfl;have r5:=HB21.o.cell (i:=5) rfl;have r6:=HB21.o.cell (i:=6) rfl;have rf:=HB21.o.frozen;have rz:=HB21.o.lt;go_wp2;rw [HF.o];refine bodyPost_ret (v:=.tuple #[(.agg #[.int .i64 Val.zero.kind,.string Val.zero.s,.int .i64 Val.zero.dn,.int .i64 Val.zero.ds,.int .i64 Val.zero.n,.slice none Val.zero.cols.length 0,.slice none Val.zero.rows.length 0]),.int .i64 14]) (by simp [results,Tryz.results16,go_sem,r0,r1,r2,r3,r4,r5,r6,Val.zero]) rfl ⟨none,0,none,0,rfl,⟨Nat.le_refl _,Nat.le_refl _⟩,RV.zero,?_⟩
  iterate 7 with_reducible refine Ext.set2 ?_ (by omega) _
  with_reducible exact HX1.o
 have HT:=Hd hT;clear hT;obtain ⟨cur,hmk,hcur⟩:=run_mk0 tiI cols.length (by omega) (by decide);have HST:=Hd (show OwnIs (w1.alloc (.cells cur 3)) w1.heap.size (some ⟨w1.heap.size,0,none⟩) cols.length ((cols.take 0).map (idxS t.cols)) from Own.made w1 _ _ _ cur (by unfold maxLen; omega) hcur);clear hcur;go_wp2;clear hmk
 go_loopw [25,6] (fun i v wr=>∃ (k:Nat) (A':Option Addr) (c':Nat),k≤cols.length∧i=.int .i64 k∧v=.slice A' k c'∧Ext w1 wr∧OwnIs wr w1.heap.size A' c' ((cols.take k).map (idxS t.cols))∧pickOK t.cols cols k) (fun i _ _=>cols.length-(intOf i).toNat)
 case atStart=>exact ⟨0,_,_,Nat.zero_le _,rfl,rfl,(Ext.refl w1).alloc _,HST.o,fun j hj h=>absurd h (by omega)⟩
 case round =>
  clear HST;obtain ⟨k,A',c',hk,rfl,rfl,hx2,ho2,hpk⟩:=hrel;have HX2:=Hd hx2;have HO2:=Hd ho2;have HPK:=Hd hpk;have HB02:=Hd (HB01.o.keep (hx2.kept _));have HB22:=Hd (HB21.o.keep (hx2.kept _));have k5:=HB02.o.cell (i:=5) rfl;have kz:=HB02.o.lt;clear hx2 ho2 hpk;by_cases hlt:k<cols.length
  ·obtain ⟨bl,ol,hAl,hbl,hcl0⟩:=(HL.o.keep ((HX1.o.trans HX2.o).kept _)).at_ hlt;subst hAl;obtain ⟨nm,hnm⟩:∃ nm,nm=cols[k]:=⟨_,rfl⟩;rw [← hnm] at hcl0;have HNM:=Hd hnm;have i0:(0:Int)≤(k:Int):=(by omega);have i1:(k:Int)<(cols.length:Int):=(by omega);clear hnm
   go_wp2_with fail
   refine (slices_Index A c t.cols nm _ _ (H.o.strs.keep ((HX1.o.trans HX2.o).kept _))).mono ?_;rintro e2 w2 ⟨rfl,rfl⟩;by_cases hneg:idxS t.cols nm<0
   ·have HF:=Hd (show pickS t cols=(Val.zero,13) by
     unfold pickS;rw [HT.o,pickB_false hlt (by rw [← HNM.o]; omega)];rfl)
    have r0:=HB22.o.cell (i:=0) rfl;have r1:=HB22.o.cell (i:=1) rfl;have r2:=HB22.o.cell (i:=2) rfl;have r3:=HB22.o.cell (i:=3) rfl;have r4:=HB22.o.cell (i:=4) rfl;have r5:=HB22.o.cell (i:=5) rfl;have r6:=HB22.o.cell (i:=6) rfl;have rf:=HB22.o.frozen;have rz:=HB22.o.lt;go_wp2;rw [HF.o];refine bodyPost_ret (v:=.tuple #[(.agg #[.int .i64 Val.zero.kind,.string Val.zero.s,.int .i64 Val.zero.dn,.int .i64 Val.zero.ds,.int .i64 Val.zero.n,.slice none Val.zero.cols.length 0,.slice none Val.zero.rows.length 0]),.int .i64 13]) (by simp [results,Tryz.results16,go_sem,r0,r1,r2,r3,r4,r5,r6,Val.zero]) rfl ⟨none,0,none,0,rfl,⟨Nat.le_refl _,Nat.le_refl _⟩,RV.zero,?_⟩
    iterate 7 with_reducible refine Ext.set2 ?_ (by omega) _
    with_reducible exact HX1.o.trans HX2.o
   have hdn:decide (idxS t.cols nm<0)=false:=(by simpa using hneg);obtain ⟨p,hp⟩:∃ p,p=idxS t.cols nm:=⟨_,rfl⟩;rw [← hp] at hdn hneg;rw [← hp];have HPE:=Hd hp;clear hp;have i3:k≤cols.length:=hk;have i4:cols.length≤cl:=hclc;have hcc:=slices_Contains (some ⟨bl,ol,none⟩) cl (cols.take k) nm wr _ ((HL.o.keep ((HX1.o.trans HX2.o).kept _)).take k);rw [List.length_take,Nat.min_eq_left hk] at hcc;have HCC:=Hd hcc;clear hcc
   go_wp2_with fail
   refine HCC.o.mono ?_;rintro e3 w3 ⟨rfl,rfl⟩;cases hmm:memS (cols.take k) nm
   ·have HMM:=Hd hmm;clear hmm HCC;have hoi:=Own.ext HO2.o ((Ext.refl wr).alloc (.cells #[.int .i64 p] 3));rw [List.length_map,List.length_take,Nat.min_eq_left hk] at hoi;have HOI:=Hd hoi;clear hoi
    go_wp2_with (at_builtin; go_must (refine wpList_app rfl (.tmp 44) (.tmp 46) rfl tiI rfl HOI.o rfl (Blk.rd (Blk.new _ _ _)) rfl (by simp [Value.oneCell']) (by omega) (by decide) (by have:=HX2.o.size; simp; omega) ?_); intro A4 c4 w4 hown4 hg4 hat4)
    go_roundw
    case rel =>
     refine ⟨k+1,A4,c4,by omega,by go_num,rfl,(HX2.o.alloc _).grown hg4 (fun b hb=>(HOI.o.blk hb).1),?_,pickOK_succ HPK.o hlt (by rw [← HNM.o,← HPE.o]; omega) (by rw [← HNM.o]; exact HMM.o)⟩;have h9:((cols.take (k+1)).map (idxS t.cols))=(cols.take k).map (idxS t.cols)++[p]:=(by rw [List.take_succ_eq_append_getElem hlt,List.map_append,HPE.o,HNM.o]; rfl);rw [h9];unfold OwnIs;rw [List.length_append,List.length_map,List.length_take,Nat.min_eq_left hk,List.map_append];exact hown4
    case measure=>simp [intOf]; omega
   ·have HF:=Hd (show pickS t cols=(Val.zero,13) by
     unfold pickS;rw [HT.o,pickB_false hlt (by rw [← HNM.o,hmm]; simp)];rfl)
    clear hmm HCC;have r0:=HB22.o.cell (i:=0) rfl;have r1:=HB22.o.cell (i:=1) rfl;have r2:=HB22.o.cell (i:=2) rfl;have r3:=HB22.o.cell (i:=3) rfl;have r4:=HB22.o.cell (i:=4) rfl;have r5:=HB22.o.cell (i:=5) rfl;have r6:=HB22.o.cell (i:=6) rfl;have rf:=HB22.o.frozen;have rz:=HB22.o.lt;go_wp2;rw [HF.o];refine bodyPost_ret (v:=.tuple #[(.agg #[.int .i64 Val.zero.kind,.string Val.zero.s,.int .i64 Val.zero.dn,.int .i64 Val.zero.ds,.int .i64 Val.zero.n,.slice none Val.zero.cols.length 0,.slice none Val.zero.rows.length 0]),.int .i64 13]) (by simp [results,Tryz.results16,go_sem,r0,r1,r2,r3,r4,r5,r6,Val.zero]) rfl ⟨none,0,none,0,rfl,⟨Nat.le_refl _,Nat.le_refl _⟩,RV.zero,?_⟩
    iterate 7 with_reducible refine Ext.set2 ?_ (by omega) _
    with_reducible exact HX1.o.trans HX2.o
  ·have hkr:k=cols.length:=(by omega);subst hkr;have HPB:=Hd (pickB_true HPK.o);obtain ⟨pl,hpl⟩:∃ pl:List Int,pl=cols.map (idxS t.cols):=⟨_,rfl⟩;have hpll:pl.length=cols.length:=(by rw [hpl,List.length_map]);have HPL:=Hd hpl;have HO:=Hd (show OwnIs wr w1.heap.size A' c' pl by have:=HO2.o; rwa [List.take_of_length_le (Nat.le_refl _),← hpl] at this);have HPLL:=Hd hpll;have HF:=Hd (show pickS t cols=(tabV cols (t.rows.map (pickRow t.cols cols)),0) by
    unfold pickS;rw [HT.o,HPB.o];rfl)
   have HXW:=Hd (HX1.o.trans HX2.o);clear hpl hpll HO2
   go_wp2_with fail
   refine (slices_Clone Al cl cols _ _ (HL.o.keep (HXW.o.kept _))).mono ?_;rintro e3 w3 ⟨Ac,cc,rfl,hcc,hst,hx3⟩;have HX3:=Hd (HXW.o.trans hx3);have hz3:w.heap.size+2≤w3.heap.size:=(by have h1:=HX2.o.size; have h2:=hx3.size; omega);have hz3':wr.heap.size≤w3.heap.size:=hx3.size;have HB03:=Hd (HB02.o.keep (hx3.kept _));have HB23:=Hd (HB22.o.keep (hx3.kept _));have HO3:=Hd (HO.o.ext hx3);obtain ⟨w5,hw5⟩:∃ w5,w5=w3.alloc (.cells #[.int .i64 5,.string ⟨#[]⟩,.int .i64 0,.int .i64 0,.int .i64 0,.slice Ac cols.length cc,.slice none 0 0] 31):=⟨_,rfl⟩;have hx35:Ext w3 w5:=(by rw [hw5]; exact (Ext.refl _).alloc _);obtain ⟨go,hgo⟩:∃ go,go=w3.heap.size:=⟨_,rfl⟩;have HM0:=Hd (show OutT w w5 (go+1) (fun b=>w.heap.size+2≤b) d go Ac cc cols none 0 ((t.rows.take 0).map (pickRow t.cols cols)) w5 from ⟨HX3.o.trans hx35,Kept.refl _ _,⟨by omega,by omega,by rw [hw5,hgo]; simp⟩,by rw [hw5,hgo]; exact Blk.new _ _ _,(hst.mono (T:=fun b=>ob none≠some b∧w.heap.size+2≤b∧b≠go) fun b hb hb'=>⟨by simp [ob],by have h1:=HX2.o.size; unfold Fresh at hb'; omega,by omega⟩).keep (hx35.kept _),OwnRs.nil _ _ _ _⟩);have HPI:=Hd ((HO3.o.ints (T:=fun b=>b<go) (by rw [HPLL.o]; omega) fun b hb=>by rw [hgo]; exact (Own.blk HO3.o hb).2).keep (hx35.kept _));have HCC:=Hd hcc;have HB0:=Hd (HB03.o.keep (hx35.kept _));have HB2:=Hd (HB23.o.keep (hx35.kept _));have k6:=HB03.o.cell (i:=6) rfl;have kz3:=HB03.o.lt;have HW5:=Hd hw5;have HGO:=Hd hgo;have hgz:w.heap.size+2≤go:=(by omega);clear hst hx3 hx35 hcc HB03 HB23 HB02 HB22 HO3 HO hw5 hgo k5 kz;go_wp2;rw [← HW5.o,← HGO.o];clear HW5 HGO k6 kz3 hz3 hz3'
   go_loopw [55] (fun i wr=>∃ (k:Nat) (Ar:Option Addr) (cr:Nat),k≤t.rows.length∧i=.int .i64 k∧OutT w w5 (go+1) (fun b=>w.heap.size+2≤b) d go Ac cc cols Ar cr ((t.rows.take k).map (pickRow t.cols cols)) wr) (fun i _=>t.rows.length-(intOf i).toNat)
   case atStart=>exact ⟨0,none,0,Nat.zero_le _,rfl,HM0.o⟩
   case round =>
    clear HM0;obtain ⟨k,Ar,cr,hk2,rfl,hm0⟩:=hrel;have HM1:=Hd hm0;clear hm0;by_cases hlt:k<t.rows.length
    ·obtain ⟨b,o,C,ec,hB,hb,hc0,hcp,hrow⟩:=H.o.rows_.at_ hlt;obtain ⟨r,hr⟩:∃ r,r=t.rows[k]:=⟨_,rfl⟩;have HRLEN:=Hd (show r.length=t.cols.length by rw [hr]; exact isTab_row HT.o hlt);rw [← hr] at hc0 hcp hrow;have HRE:=Hd hr;have HROW:=Hd hrow;subst hB;have z0:=HM1.o.ext.cell hc0;have zz:b<wr.heap.size:=Nat.lt_of_lt_of_le hb HM1.o.ext.size;have i0:(0:Int)≤(k:Int):=(by omega);have i1:(k:Int)<(t.rows.length:Int):=(by omega);have hcap2:cols.length≤4294967296:=hcl;obtain ⟨cur2,hmk2,hcur2⟩:=run_mk0 tiV cols.length (by omega) (by decide);obtain ⟨wo,rfl⟩:∃ wo:World,wo=wr:=⟨_,rfl⟩;obtain ⟨pr,hpr⟩:∃ pr,pr=pickRow t.cols cols r:=⟨_,rfl⟩;have HPR:=Hd hpr;have HPRL:=Hd (show pr.length=cols.length by rw [hpr]; simp [pickRow]);have HST:=Hd (show OwnVs (wo.alloc (.cells cur2 31)) wo.heap.size (fun b=>wo.heap.size≤b) d (some ⟨wo.heap.size,0,none⟩) cols.length (pr.take 0) from ⟨[],Own.made wo _ _ _ cur2 (by unfold maxLen; omega) hcur2,VL.nil _⟩);clear hc0 hr hrow hcur2 hpr;go_wp2;clear hmk2
     go_loopw [64,13] (fun i v wi=>∃ (j:Nat) (A5:Option Addr) (c5:Nat),j≤cols.length∧i=.int .i64 j∧v=.slice A5 j c5∧Ext wo wi∧OwnVs wi wo.heap.size (fun b=>wo.heap.size≤b) d A5 c5 (pr.take j)) (fun i _ _=>cols.length-(intOf i).toNat)
     case atStart=>exact ⟨0,_,_,Nat.zero_le _,rfl,rfl,(Ext.refl wo).alloc _,HST.o⟩
     case round =>
      clear HST;obtain ⟨j,A5,c5,hj,rfl,rfl,hbi,hoi⟩:=hrel;have HBI:=Hd hbi;have HOI:=Hd hoi;have hszi:=hbi.size;clear hbi hoi z0 zz;by_cases hlt2:j<cols.length
      ·have hjp:j<pl.length:=(by rw [HPLL.o]; exact hlt2);obtain ⟨bp,op,hAp,hbp,hcp0⟩:=(HPI.o.keep ((HM1.o.kept.mono fun b _ hb=>⟨by omega,by omega⟩).trans (HBI.o.kept _))).at_ hjp;subst hAp;have hp0:=(HPK.o j hlt2 hlt2).1;obtain ⟨pn,hpn,hpc,-⟩:=idxS_at hp0;have hplj:pl[j]=(pn:Int):=by
        rw [← hpn];have:pl[j]?=some (idxS t.cols cols[j]):=(by rw [HPL.o,List.getElem?_map,List.getElem?_eq_getElem hlt2]; rfl);rw [List.getElem?_eq_getElem hjp] at this;exact Option.some.inj this
       rw [hplj] at hcp0;have hpr2:pn<r.length:=(by rw [HRLEN.o]; exact hpc);obtain ⟨b2,o2,Ay,cy,By,ey,hC,hb2,⟨y0,y1,y2,y3,y4,y5,y6⟩,⟨hq,_,_⟩,hyv⟩:=(HROW.o.keep ((HM1.o.ext.trans HBI.o).kept _)).at_ hpr2;subst hC;have HYV:=Hd hyv;have HYE:=Hd (show ∃ h:j<pr.length,pr[j]=r[pn] by
        refine ⟨by rw [HPRL.o]; exact hlt2,?_⟩;have h1:pr[j]?=some (r.getD pn Val.zero):=(by rw [HPR.o,pickRow,List.getElem?_map,List.getElem?_eq_getElem hlt2]; simp [hpn]);rw [List.getElem?_eq_getElem (by rw [HPRL.o]; exact hlt2)] at h1;rw [Option.some.inj h1,List.getD_eq_getElem?_getD,List.getElem?_eq_getElem hpr2,Option.getD_some])
       have i2:(0:Int)≤(j:Int):=(by omega);have i3:(j:Int)<(cols.length:Int):=(by omega);have i4:(0:Int)≤(pn:Int):=(by omega);have i5:(pn:Int)<(r.length:Int):=(by omega);obtain ⟨y,hy⟩:∃ y,y=r[pn]:=⟨_,rfl⟩;rw [← hy] at y0 y1 y2 y3 y4 y5 y6 HYV HYE;clear hyv hplj hp0 hpn hpc hy hjp
       go_wp2_with fail
       refine (value_Copy (d-1) y _ _ _ _ _ _ HYV.o).mono ?_;rintro e3 w3 ⟨A3,c3,B3,e3,rfl,hcc3,hv3,hx3⟩;have HX3b:=Hd hx3;have hz3:=hx3.size;have hv3':=hv3.mono (T:=fun b=>wr.heap.size≤b) (fun i _ hi=>hi);obtain ⟨xs,hown,hvl⟩:=HOI.o.ext (HX3b.o.alloc (.cells (vcells y A3 c3 B3 e3).toArray 31));have hlj:(pr.take j).length=j:=(by rw [List.length_take,HPRL.o]; omega);have HVL:=Hd hvl;rw [hlj] at hown;have HOWN:=Hd hown;have HLJ:=Hd hlj;have HV3:=Hd hv3';clear hvl hown hv3 hv3' hx3 hlj
       go_wp2_with (at_builtin; go_must (refine wpList_app rfl (.tmp 68) (.tmp 74) rfl tiV rfl HOWN.o rfl (Blk.rd (Blk.new _ _ _)) rfl vcells_one (by omega) (by decide) (by simp; omega) ?_); intro A4 c4 w4 hown4 hg4 hat4)
       go_roundw
       case rel =>
        refine ⟨j+1,A4,c4,by omega,by go_num,rfl,?_,?_⟩
        ·exact ((HBI.o.trans HX3b.o).alloc _).grown hg4 (fun k hk=>(HOWN.o.blk hk).1)
        ·obtain ⟨hjl,hje⟩:=HYE.o;rw [List.take_succ_eq_append_getElem hjl,hje];refine OwnVs.push HVL.o (by rw [HLJ.o]; exact hown4) hg4 hat4 ⟨hq,hcc3⟩ ((HV3.o.keep (Kept.alloc _ _ _)).mono fun i _ hi=>⟨fun h0 => ?_,by omega⟩);have:=(HOI.o.blk h0).2;omega
       case measure=>simp [intOf]; omega
      ·have hjr:j=cols.length:=(by omega);subst hjr;have hor:=HOI.o;rw [List.take_of_length_le (by rw [HPRL.o]; exact Nat.le_refl _)] at hor;have hm2:=(HM1.o.more HBI.o).more ((Ext.refl wr).alloc (.cells #[.slice A5 cols.length c5] 50));have HM2:=Hd hm2;have HORW:=Hd (((hor.row (T:=fun b=>wo.heap.size≤b) (by rw [HPRL.o]; omega) (fun b hb=>(hor.blk hb).1) (fun b hb=>hb)).keep (Kept.alloc _ wr (.cells #[.slice A5 cols.length c5] 50))).mono (T:=fun b=>ob Ar≠some b∧w.heap.size+2≤b∧b≠go) fun b _ hb=>⟨fun e=>by have:=(HM1.o.rows.blk e).2; omega,by have:=HM1.o.golo; omega,by have:=HM1.o.golo; omega⟩);have HC5:=Hd (show pr.length≤c5 by obtain ⟨xs,ho,_⟩:=hor; exact ho.cap);obtain ⟨hs,ho1,hv1⟩:=hm2.rows;have hml:((t.rows.take k).map (pickRow t.cols cols)).length=k:=(by rw [List.length_map,List.length_take]; omega);have HML:=Hd hml;have ho1':=ho1;rw [hml] at ho1';have HO1:=Hd ho1;have HO1':=Hd ho1';have HV1:=Hd hv1;have hb6:=(HM1.o.more HBI.o).o;rw [hml] at hb6;have t6:=hb6.cell (i:=6) rfl;have tz:=hb6.lt;clear hor hm2 ho1 hv1 hml ho1' hb6
       go_wp2_with (at_builtin; go_must (refine wpList_app rfl (.tmp 78) (.tmp 80) rfl tiR rfl HO1'.out rfl (Blk.rd (Blk.new _ _ _)) rfl (by simp [Value.oneCell']) (by omega) (by decide) (by have:=HM2.o.golo; omega) ?_); intro A4 c4 w4 hown4 hg4 hat4; have hota:=HM2.o.app (r:=pr) (B:=A5) (e:=c5) HO1.o HV1.o HC5.o HORW.o (by rw [HML.o,HPRL.o]; exact hown4) hg4 hat4; have HOTA:=Hd hota; obtain ⟨yy,hyy⟩:=hota.o; have q6:=hyy.cell (i:=6) rfl; have qf:=hyy.frozen; have qz:=hyy.lt; clear hota hyy hown4 hg4 hat4)
       go_roundw
       case rel =>
        refine ⟨k+1,A4,c4,by omega,by go_num,?_⟩;have h9:=HOTA.o.store;rw [List.length_append,HML.o,List.length_singleton] at h9;rw [List.take_succ_eq_append_getElem hlt,List.map_append,← HRE.o];rw [HPR.o] at h9;exact h9
       case measure=>simp [intOf]; omega
    ·have hkr:k=t.rows.length:=(by omega);subst hkr;have hm:=HM1.o;rw [List.take_of_length_le (Nat.le_refl _)] at hm;have HM:=Hd hm;have hwl:(t.rows.map (pickRow t.cols cols)).length=t.rows.length:=List.length_map _;have HWL:=Hd hwl;have HKP:=Hd (hm.kept.mono (T:=fun b=>b<w.heap.size+2) fun b _ hb=>⟨by omega,by omega⟩);have HRS:=Hd (HB2.o.keep (HKP.o.mono fun b _ e=>by omega));have t0:=hm.o.cell (i:=0) rfl;have t1:=hm.o.cell (i:=1) rfl;have t2:=hm.o.cell (i:=2) rfl;have t3:=hm.o.cell (i:=3) rfl;have t4:=hm.o.cell (i:=4) rfl;have t5:=hm.o.cell (i:=5) rfl;have t6:=hm.o.cell (i:=6) rfl;have r0:=HRS.o.cell (i:=0) rfl;have r1:=HRS.o.cell (i:=1) rfl;have r2:=HRS.o.cell (i:=2) rfl;have r3:=HRS.o.cell (i:=3) rfl;have r4:=HRS.o.cell (i:=4) rfl;have r5:=HRS.o.cell (i:=5) rfl;have r6:=HRS.o.cell (i:=6) rfl;have rf:=HRS.o.frozen;have rz:=HRS.o.lt;clear hm HM1 hwl;go_wp2;rw [HF.o];refine bodyPost_ret (v:=.tuple #[.agg #[.int .i64 5,.string ⟨#[]⟩,.int .i64 0,.int .i64 0,.int .i64 0,.slice Ac cols.length cc,.slice Ar (t.rows.map (pickRow t.cols cols)).length cr],.int .i64 0]) (by simp [results,Tryz.results16,go_sem,r0,r1,r2,r3,r4,r5,r6]) rfl ⟨Ac,cc,Ar,cr,rfl,⟨HCC.o,by obtain ⟨hs,ho,_⟩:=HM.o.rows; exact ho.cap⟩,?_,?_⟩
     ·refine (RV.keep (S:=fun b=>w.heap.size+2≤b) (HM.o.val (by rw [HWL.o]; omega) (fun b hb=>by omega) (fun b hb=>hb)) ?_).mono fun b _ hb=>by unfold Fresh; omega
      iterate 7 with_reducible refine Kept.set2 ?_ (fun h=>by omega)
      with_reducible exact Kept.refl _ _
     ·iterate 7 with_reducible refine Ext.set2 ?_ (by omega) _
      with_reducible exact HM.o.ext
end Go.Proofs.YthmckfloppblcaaGreatDoor
namespace Go.Proofs.YthmckfloppblcaaGreatDoor
open Go Go.RowKit

theorem tab_of {cols:List ByteArray} {rows:List (List Val)} (h:tableR cols rows=true):isTabB (tabV cols rows)=true:=by
 unfold isTabB rightB;simp [tabV,h,bareB]
theorem self_tab {nm:ByteArray} {t:Look} (h:MadeT nm t) (hn:nameB nm=true):tableR t.cols t.rows=true:=lookR_tab (madeT_right h hn)
theorem made_city {nm:ByteArray} {t:Look} (h:MadeT nm t):∃ cs,t.cols=sCity :: cs:=by
 obtain ⟨-,ks,h1,-,h3,-⟩:=h;obtain ⟨n,hn⟩:∃ n,ks.length=n+1:=⟨ks.length-1,by omega⟩;rw [h3,hn];exact ⟨_,rfl⟩
theorem idx_city {cs:List ByteArray} : idxS (sCity :: cs) sCity=0:=idxS_found (k:=0) (by simp) (fun j _ h=>by omega) rfl
theorem tab_filter {cols:List ByteArray} {rows:List (List Val)} (h:tableR cols rows=true) (p:List Val→Bool):tableR cols (rows.filter p)=true:=by
 unfold tableR at h ⊢;simp only [Bool.and_eq_true,decide_eq_true_eq] at h ⊢;refine ⟨⟨⟨h.1.1.1,?_⟩,h.1.2⟩,?_⟩
 ·have:=List.length_filter_le p rows;omega
 ·rw [List.all_eq_true];intro r hr;exact List.all_eq_true.1 h.2 r (List.mem_filter.1 hr).1
theorem where_self {cs:List ByteArray} {rows:List (List Val)} (h:tableR (sCity :: cs) rows=true) (v:Val):whereS (tabV (sCity :: cs) rows) sCity v=(tabV (sCity :: cs) (whereRows 0 v rows),0):=by
 unfold whereS;rw [tab_of h,if_neg (by simp),show (tabV (sCity :: cs) rows).cols=sCity :: cs from rfl,idx_city,if_neg (by omega)];rfl
theorem where_twice (v:Val) (rows:List (List Val)):whereRows 0 v (whereRows 0 v rows)=whereRows 0 v rows:=by
 unfold whereRows;rw [List.filter_filter];congr 1
 funext r
 exact Bool.and_self _
theorem tab_nodup {cols:List ByteArray} {rows:List (List Val)} (h:tableR cols rows=true) {k:Nat} (hk:k<cols.length):memS (cols.take k) cols[k]=false:=isTab_nodup (t:=tabV cols rows) (tab_of h) hk
theorem idx_self {cols:List ByteArray} {rows:List (List Val)} (h:tableR cols rows=true) {k:Nat} (hk:k<cols.length):idxS cols cols[k]=k :=
 idxS_found hk (fun j hj hlt he=>by
  have h1:=tab_nodup h hk;have h2:memS (cols.take k) cols[k]=true:=by
   rw [memS_iff,← he];exact List.mem_take_iff_getElem.2 ⟨j,by omega,rfl⟩
  rw [h1] at h2;cases h2) rfl
theorem tab_row {cols:List ByteArray} {rows:List (List Val)} (h:tableR cols rows=true) {r:List Val} (hr:r∈rows):r.length=cols.length∧∀ y∈r,cellOK y=true:=by
 unfold tableR at h;rw [Bool.and_eq_true] at h;have h4:=List.all_eq_true.1 h.2 r hr;unfold rowOK at h4;rw [Bool.and_eq_true,decide_eq_true_eq] at h4;exact ⟨h4.1,fun y hy=>List.all_eq_true.1 h4.2 y hy⟩
theorem pick_all {cols:List ByteArray} {rows:List (List Val)} (h:tableR cols rows=true):pickS (tabV cols rows) cols=(tabV cols rows,0):=by
 unfold pickS;rw [tab_of h,if_neg (by simp),show (tabV cols rows).cols=cols from rfl,show (tabV cols rows).rows=rows from rfl];have hb:pickB cols cols=true:=by
  unfold pickB;refine range_all fun j hj => ?_;rw [getD_of cols j _ hj,idx_self h hj,tab_nodup h hj];simp
 rw [hb,if_neg (by simp)];have hr:rows.map (pickRow cols cols)=rows:=by
  refine (List.map_congr_left fun r hr => ?_).trans (List.map_id _);unfold pickRow;have hl:=(tab_row h hr).1;refine List.ext_getElem (by simp [hl]) fun i h1 h2 => ?_;rw [List.getElem_map,idx_self h (by simpa using h1)];show r.getD i Val.zero=_;rw [getD_of r i Val.zero (by simpa using h2)];rfl
 rw [hr]
def oneR (rows:List (List Val)):List (List Val):=rows.map fun r=>[r.getD 0 Val.zero]
theorem pick_city {cs:List ByteArray} {rows:List (List Val)} (h:tableR (sCity :: cs) rows=true):pickS (tabV (sCity :: cs) rows) [sCity]=(tabV [sCity] (oneR rows),0):=by
 unfold pickS;rw [tab_of h,if_neg (by simp),show (tabV (sCity :: cs) rows).cols=sCity :: cs from rfl,show (tabV (sCity :: cs) rows).rows=rows from rfl];have hb:pickB (sCity :: cs) [sCity]=true:=by
  unfold pickB;refine range_all fun j hj => ?_;have:j=0:=(by simpa using hj);subst this;show (decide (0≤idxS (sCity :: cs) sCity) && !memS [] sCity)=true;rw [idx_city];rfl
 rw [hb,if_neg (by simp)];have hr:rows.map (pickRow (sCity :: cs) [sCity])=oneR rows:=by
  unfold oneR;refine List.map_congr_left fun r _ => ?_;show [r.getD (idxS (sCity :: cs) sCity).toNat Val.zero]=_;rw [idx_city];rfl
 rw [hr]
theorem one_cell (rows:List (List Val)) (q:Nat):cellAt (oneR rows) 0 q=cellAt rows 0 q:=by
 unfold cellAt oneR;by_cases hq:q<rows.length
 ·rw [getD_of (rows.map fun r=>[r.getD 0 Val.zero]) q [] (by simpa using hq),getD_of rows q [] hq,List.getElem_map];rfl
 ·rw [List.getD_eq_getElem?_getD (l:=rows),List.getElem?_eq_none (show rows.length≤q by omega),List.getD_eq_getElem?_getD (l:=rows.map _),List.getElem?_eq_none (by simpa using hq)]
theorem one_mem {cs:List ByteArray} {rows:List (List Val)} (h:tableR (sCity :: cs) rows=true) {r:List Val} (hr:r∈oneR rows) {y:Val} (hy:y∈r):∃ r0∈rows,y∈r0:=by
 obtain ⟨r0,h0,rfl⟩:=List.mem_map.1 hr;have hl:=(tab_row h h0).1;have hy:=List.mem_singleton.1 hy;refine ⟨r0,h0,?_⟩;rw [hy,getD_of r0 0 Val.zero (by rw [hl]; simp)];exact List.getElem_mem _
theorem one_tab {cs:List ByteArray} {rows:List (List Val)} (h:tableR (sCity :: cs) rows=true):tableR [sCity] (oneR rows)=true:=by
 have h0:=h;unfold tableR at h ⊢;simp only [Bool.and_eq_true,decide_eq_true_eq] at h ⊢;refine ⟨⟨⟨by simp,by unfold oneR; rw [List.length_map]; exact h.1.1.2⟩,?_⟩,?_⟩
 ·refine range_all fun j hj => ?_;have:j=0:=(by simpa using hj);subst this
  decide
 ·rw [List.all_eq_true];intro r hr;unfold rowOK;rw [Bool.and_eq_true,decide_eq_true_eq];obtain ⟨r0,h1,e⟩:=List.mem_map.1 hr;refine ⟨by rw [← e]; rfl,List.all_eq_true.2 fun y hy => ?_⟩;obtain ⟨r1,h2,h3⟩:=one_mem h0 hr hy;exact (tab_row h0 h2).2 y h3
theorem one_ok {nm:ByteArray} {t:Look} (h:MadeT nm t) {cs:List ByteArray} (hc:t.cols=sCity :: cs) (ht:tableR t.cols t.rows=true):JOk (oneR t.rows):=by
 rw [hc] at ht;refine JOk.of (by unfold oneR; rw [List.length_map]; exact h.odd.1) fun r hr y hy => ?_;obtain ⟨r0,h0,h1⟩:=one_mem ht hr hy;exact h.odd.2 r0 h0 y h1
theorem join_self {nm:ByteArray} {t:Look} (h:MadeT nm t) {cs:List ByteArray} (hc:t.cols=sCity :: cs) (ht:tableR t.cols t.rows=true) :
  joinT (tabV t.cols t.rows) (tabV [sCity] (oneR t.rows)) sCity=(tabV t.cols (joinRows t.rows (oneR t.rows) 0 (prsU t.rows (oneR t.rows) 0 0 t.rows.length)),0):=by
 have h1:isTabB (tabV t.cols t.rows)=true:=tab_of ht;have h2:isTabB (tabV [sCity] (oneR t.rows))=true:=tab_of (one_tab (cs:=cs) (by rw [← hc]; exact ht));have h3:joinCols t.cols [sCity] sCity=t.cols:=(by simp [joinCols]);have h4:joinClash t.cols [sCity] sCity=false:=(by simp [joinClash]);have h5:¬ (8<t.cols.length):=by
  unfold tableR at ht;simp only [Bool.and_eq_true,decide_eq_true_eq] at ht;omega
 have h6:idxS t.cols sCity=0:=(by rw [hc]; exact idx_city);have h7:idxS [sCity] sCity=0:=idx_city;have hp:prsU t.rows (oneR t.rows) 0 0 t.rows.length=prsF t.rows (oneR t.rows) 0 0 t.rows.length:=prs_eq h1 h2 h.odd.2 (one_ok h hc ht).odd 0 0 t.rows.length;unfold joinT;rw [if_neg (by simp [h1,h2])];rw [if_neg (show ¬ (idxS (tabV t.cols t.rows).cols sCity<0∨idxS (tabV [sCity] (oneR t.rows)).cols sCity<0) by show ¬ (idxS t.cols sCity<0∨idxS [sCity] sCity<0); rw [h6,h7]; omega)];rw [if_neg (show ¬ (joinClash (tabV t.cols t.rows).cols (tabV [sCity] (oneR t.rows)).cols sCity=true) by show ¬ (joinClash t.cols [sCity] sCity=true); rw [h4]; simp)];rw [if_neg (show ¬ (8<(joinCols (tabV t.cols t.rows).cols (tabV [sCity] (oneR t.rows)).cols sCity).length) by show ¬ (8<(joinCols t.cols [sCity] sCity).length); rw [h3]; exact h5)];show (tabV (joinCols t.cols [sCity] sCity) (joinRows t.rows (oneR t.rows) (idxS [sCity] sCity).toNat (prsF t.rows (oneR t.rows) (idxS t.cols sCity).toNat (idxS [sCity] sCity).toNat t.rows.length)),(0:Int))=_;rw [h3,h6,h7,hp];rfl
def cntU (l1 l2:List (List Val)) (p q:Nat):Nat:=(prsU l1 l2 0 0 p).length+(plcU l1 l2 0 0 p q).length
theorem cntU_zero (l1 l2:List (List Val)) (p:Nat):cntU l1 l2 p 0=(prsU l1 l2 0 0 p).length:=by simp [cntU,plcU]
theorem cntU_end (l1 l2:List (List Val)) (p:Nat):cntU l1 l2 p l2.length=(prsU l1 l2 0 0 (p+1)).length:=by
 rw [prsU_succ,List.length_append,List.length_map];rfl
theorem cntU_no {l1 l2:List (List Val)} {p q:Nat} (h:isB (cellAt l2 0 q) (cellAt l1 0 p)=false):cntU l1 l2 p (q+1)=cntU l1 l2 p q:=by
 unfold cntU;rw [plcU_succ,h];simp
theorem cntU_yes {l1 l2:List (List Val)} {p q:Nat} (h:isB (cellAt l2 0 q) (cellAt l1 0 p)=true):cntU l1 l2 p (q+1)=cntU l1 l2 p q+1:=by
 unfold cntU;rw [plcU_succ,h,if_pos rfl,List.length_append];rfl
theorem cntU_le {l1 l2:List (List Val)} (h1:JOk l1) (h2:JOk l2) (p q:Nat):cntU l1 l2 p q≤42:=by
 have:=prsU_small h1 h2 0 0 p;have:=plcU_six (l1:=l1) h2 0 0 p q;unfold cntU;omega
theorem isB_zero {z u:Val} (h:u.kind=0):isB z u=false:=by
 unfold isB;by_cases e:z=u
 ·rw [e,h];rfl
 ·simp [e]
theorem isB_ne {z u:Val} (h:u.kind≠0):isB z u=decide (u=z):=by
 unfold isB;by_cases e:u=z
 ·rw [← e];simp [h]
 ·have:¬ (z=u):=fun h=>e h.symm;simp [e,this]
end Go.Proofs.YthmckfloppblcaaGreatDoor
namespace Go.Proofs.YthmckfloppblcaaGreatDoor
open Go Go.RowKit

theorem Blk.at0 {w:World} {t b:Nat} {cs:Array Value} (hb:b=w.heap.size):Blk (w.alloc (.cells cs t)) b t cs:=by rw [hb]; exact Blk.new _ _ _
theorem Strs.setc {w:World} {S:Nat→Prop} {g o:Nat} {l:List ByteArray} (h:Strs w S (some ⟨g,o,none⟩) l) (k:Nat) (s:ByteArray) (hs:s.size≤4294967296):Strs (w.setCell ⟨g,o+k,none⟩ (.string s)) S (some ⟨g,o,none⟩) (l.set k s):=by
 refine ⟨?_,by rw [List.length_set]; exact h.2.1,fun x hx => ?_⟩
 ·rw [List.map_set];exact h.1.setc k _
 ·rcases List.mem_or_eq_of_mem_set hx with hx | hx
  ·exact h.2.2 x hx
  ·rw [hx]; exact hs
theorem Strs.only {w:World} {S:Nat→Prop} {g o:Nat} {l:List ByteArray} (h:Strs w S (some ⟨g,o,none⟩) l):Strs w (fun b=>b=g) (some ⟨g,o,none⟩) l:=by
 refine ⟨?_,h.2⟩
 rcases h.1 with h0 | ⟨b,o',e1,_,hb,hc⟩
 ·exact .inl h0
 ·injection e1 with e1;injection e1 with e1 e2;subst e1 e2;exact .inr ⟨_,_,rfl,rfl,hb,hc⟩
end Go.Proofs.YthmckfloppblcaaGreatDoor
