/- Joining by equal cells is joining by equal texts, for the cells that are tried. Plain: no program in sight. -/
import Derived.Test.YthmckfloppblcaaGreatDoorBj21
set_option maxRecDepth 100000
set_option maxHeartbeats 4000000
namespace Go.Proofs.YthmckfloppblcaaGreatDoor
open Go Go.RowKit

theorem kinds_made (c:Nat) (k:Int):∀ (rows:List (List Val)),(∀ r∈rows,(r.getD c Val.zero).kind=0∨(r.getD c Val.zero).kind=k)→∀ kd,kd=0∨kd=k→kindsFrom c rows kd=true
 | [],_,_,_=>rfl
 | r :: rs,h,kd,hkd=>by
  have h1:=h r List.mem_cons_self;have ih:=kinds_made c k rs fun x hx=>h x (List.mem_cons_of_mem _ hx);unfold kindsFrom;split
  ·exact ih kd hkd
  ·have hk:(r.getD c Val.zero).kind=k:=(by omega);rw [if_neg (by omega)];exact ih _ (.inr hk)
theorem cellS_kind {k:Int} (h:k=1∨k=2∨k=3) {m:Nat} (hm:m<5):((cellS k m).kind=0∨(cellS k m).kind=k)∧(cellS k m).kind≠5∧flatB (cellS k m)=true:=by
 rcases h with rfl | rfl | rfl <;> match m,hm with
  | 0,_=>exact ⟨by decide,by decide,by decide⟩
  | 1,_=>exact ⟨by decide,by decide,by decide⟩
  | 2,_=>exact ⟨by decide,by decide,by decide⟩
  | 3,_=>exact ⟨by decide,by decide,by decide⟩
  | 4,_=>exact ⟨by decide,by decide,by decide⟩
  | n+5,h=>omega
theorem madeT_right {nm:ByteArray} {t:Look} (h:MadeT nm t) (hn:nameB nm=true):lookR t=true:=by
 obtain ⟨h1,ks,h2,h3,h4,h5,h6,h7,h8⟩:=h;have hcl:t.cols.length=ks.length:=(by rw [h4,List.length_take]; have:names4.length=4:=rfl; omega);unfold lookR;simp only [Bool.and_eq_true,decide_eq_true_eq];refine ⟨⟨⟨by rw [h1]; exact hn,fun h=>by rw [h] at hcl; simp at hcl; omega⟩,?_⟩,?_⟩
 ·unfold tableR;simp only [Bool.and_eq_true,decide_eq_true_eq];refine ⟨⟨⟨by omega,by omega⟩,?_⟩,?_⟩
  ·rw [hcl,h4];have:ks.length=1∨ks.length=2∨ks.length=3∨ks.length=4:=(by omega)
   rcases this with e | e | e | e <;> rw [e] <;> decide
  ·rw [List.all_eq_true];intro r hr;obtain ⟨g1,g2⟩:=h8 r hr;simp only [rowOK,Bool.and_eq_true,decide_eq_true_eq,List.all_eq_true];refine ⟨by omega,fun x hx => ?_⟩;obtain ⟨j,hj,rfl⟩:=List.mem_iff_getElem.1 hx;obtain ⟨m,hm,e⟩:=g2 j hj (by omega);have:=cellS_kind (h6 ks[j] (List.getElem_mem (by omega))) hm;rw [e];simp [cellOK,this.2.1,this.2.2]
 ·rw [List.all_eq_true];intro c hc;rw [List.mem_range,hcl] at hc;refine kinds_made c ks[c] t.rows (fun r hr => ?_) 0 (.inl rfl);obtain ⟨g1,g2⟩:=h8 r hr;obtain ⟨m,hm,e⟩:=g2 c (by omega) hc;rw [List.getD_eq_getElem?_getD,List.getElem?_eq_getElem (by omega),Option.getD_some,e];exact (cellS_kind (h6 ks[c] (List.getElem_mem hc)) hm).1
end Go.Proofs.YthmckfloppblcaaGreatDoor
namespace Go.Proofs.YthmckfloppblcaaGreatDoor
open Go Go.RowKit

section
variable {w w0 wr wr':World} {lo d go cc cr:Nat} {X:Nat→Prop} {Ac Ar:Option Addr} {cols:List ByteArray} {rows:List (List Val)}
end
def whereRows (c:Nat) (v:Val) (rows:List (List Val)):List (List Val):=rows.filter fun r=>isB (r.getD c Val.zero) v
def whereS (t:Val) (col:ByteArray) (v:Val):Val × Int :=
 if isTabB t=false then (Val.zero,14) else if idxS t.cols col<0 then (Val.zero,13) else (tabV t.cols (whereRows (idxS t.cols col).toNat v t.rows),0)
end Go.Proofs.YthmckfloppblcaaGreatDoor
namespace Go.Proofs.YthmckfloppblcaaGreatDoor
open Go Go.RowKit
theorem whereRows_snoc (c:Nat) (v:Val) (rows:List (List Val)) {k:Nat} (hk:k<rows.length):whereRows c v (rows.take (k+1))=whereRows c v (rows.take k)++(if isB (rows[k].getD c Val.zero) v=true then [rows[k]] else []):=by
 unfold whereRows;rw [List.take_succ_eq_append_getElem hk,List.filter_append];congr 1;rw [List.filter_cons];rfl
theorem whereRows_len (c:Nat) (v:Val) (rows:List (List Val)) (k:Nat):(whereRows c v (rows.take k)).length≤k:=Nat.le_trans (List.length_filter_le _ _) (List.length_take_le _ _)
def WhAInv (w w0:World) (lo:Nat) (X:Nat→Prop) (d go:Nat) (Ac:Option Addr) (cc:Nat) (cols:List ByteArray) (Ar:Option Addr) (cr:Nat) (rows:List (List Val)) (_r:List Val) (_C:Option Addr) (_ec:Nat) (γ:Nat) (w':World):Prop:=γ≤4∧(γ≤2→OutT w w0 lo X d go Ac cc cols Ar cr rows w')∧(γ≤3→Kept (fun b=>b<lo∧b≠go) w0 w')
def gWhA (w w0:World) (lo:Nat) (X:Nat→Prop) (d go:Nat) (Ac:Option Addr) (cc:Nat) (cols:List ByteArray) (Ar:Option Addr) (cr:Nat) (rows:List (List Val)) (r:List Val) (C:Option Addr) (ec:Nat):Nat→List Value→Nat→World→Prop
 | 0,[v],_,_=>v=.pointer (some ⟨go,6,none⟩)
 | 1,[v],_,_=>v=.slice Ar rows.length cr
 | 2,[v],_,_=>v=.slice C r.length ec
 | 3,[v],γ,w'=>∃ (A3:Option Addr) (c3:Nat),v=.slice A3 r.length c3∧1≤γ∧(γ=1→Row w' (fun b=>ob Ar≠some b∧X b∧b≠go) d A3 r∧r.length≤c3)
 | 4,[v],γ,w'=>∃ (g:Nat) (A3:Option Addr) (c3:Nat),v=.slice (some ⟨g,0,none⟩) 1 1∧2≤γ∧(γ=2→Blk w' g 50 #[.slice A3 r.length c3]∧Row w' (fun b=>ob Ar≠some b∧X b∧b≠go) d A3 r∧r.length≤c3)
 | 5,[v],γ,w'=>∃ (A4:Option Addr) (c4:Nat),v=.slice A4 (rows.length+1) c4∧3≤γ∧(γ=3→OutTA w w0 lo X d go Ac cc cols A4 c4 (rows++[r]) w')
 | 6,[v],_,_=>v=.pointer (some ⟨go,6,none⟩)
 | 7,[_],γ,w'=>4≤γ∧(γ=4→∃ (A4:Option Addr) (c4:Nat),OutT w w0 lo X d go Ac cc cols A4 c4 (rows++[r]) w')
 | _,_,_,_=>True
theorem gWhA_st (w w0:World) (lo:Nat) (X:Nat→Prop) (d go:Nat) (Ac:Option Addr) (cc:Nat) (cols:List ByteArray) (Ar:Option Addr) (cr:Nat) (rows:List (List Val)) (r:List Val) (C:Option Addr) (ec:Nat):∀ i l' γ v γ' v',SR (WhAInv w w0 lo X d go Ac cc cols Ar cr rows r C ec) γ v γ' v'→gWhA w w0 lo X d go Ac cc cols Ar cr rows r C ec i l' γ v→gWhA w w0 lo X d go Ac cc cols Ar cr rows r C ec i l' γ' v':=by
 intro i l' γ v γ' v' r h;have hle:=r.le;unfold gWhA at h ⊢;split at h
 all_goals first
  | exact h
  | (obtain ⟨h1,h2⟩:=h; exact ⟨h1,by omega⟩)
  | (obtain ⟨h1,h3,h4⟩:=h; exact ⟨h1,by omega,fun e=>by rw [r.eq (by omega)]; exact h4 (by omega)⟩)
  | (obtain ⟨x0,h1,h3,h4⟩:=h; exact ⟨x0,h1,by omega,fun e=>by rw [r.eq (by omega)]; exact h4 (by omega)⟩)
  | (obtain ⟨x0,x1,h1,h3,h4⟩:=h; exact ⟨x0,x1,h1,by omega,fun e=>by rw [r.eq (by omega)]; exact h4 (by omega)⟩)
  | (obtain ⟨x0,x1,x2,h1,h3,h4⟩:=h; exact ⟨x0,x1,x2,h1,by omega,fun e=>by rw [r.eq (by omega)]; exact h4 (by omega)⟩)
  | (obtain ⟨x0,x1,x2,x3,h1,h3,h4⟩:=h; exact ⟨x0,x1,x2,x3,h1,by omega,fun e=>by rw [r.eq (by omega)]; exact h4 (by omega)⟩)
  | (obtain ⟨x0,x1,x2,x3,x4,h1,h3,h4⟩:=h; exact ⟨x0,x1,x2,x3,x4,h1,by omega,fun e=>by rw [r.eq (by omega)]; exact h4 (by omega)⟩)
  | (obtain ⟨h3,h4⟩:=h; exact ⟨by omega,fun e=>by rw [r.eq (by omega)]; exact h4 (by omega)⟩)
def dWhA:Nat→List Nat:=fun i=>[i]
def stWhA:List Nat:=[100,3,100,1,2,3,100,4]
def vW10 (_gv:Nat) (v0:Val) (Av:Option Addr) (cv:Nat) (Bv:Option Addr) (ev:Nat) (C:Option Addr) (n:Nat) (ec:Nat) (m:Nat) (b2:Nat) (o2:Nat) (y:Val) (Ay:Option Addr) (cy:Nat) (By:Option Addr) (ey:Nat) (fb:Bool):Nat→Value
 | 0=>.slice C n ec
 | 1=>.int .i64 (m:Int)
 | 2=>.pointer (some ⟨b2,o2+m*7,none⟩)
 | 3=>(.agg #[.int .i64 y.kind,.string y.s,.int .i64 y.dn,.int .i64 y.ds,.int .i64 y.n,.slice Ay y.cols.length cy,.slice By y.rows.length ey])
 | 4=>(.agg #[.int .i64 v0.kind,.string v0.s,.int .i64 v0.dn,.int .i64 v0.ds,.int .i64 v0.n,.slice Av v0.cols.length cv,.slice Bv v0.rows.length ev])
 | 5=>.bool fb
 | _=>undef
def gW10 (gv:Nat) (v0:Val) (Av:Option Addr) (cv:Nat) (Bv:Option Addr) (ev:Nat) (C:Option Addr) (n:Nat) (ec:Nat) (m:Nat) (b2:Nat) (o2:Nat) (y:Val) (Ay:Option Addr) (cy:Nat) (By:Option Addr) (ey:Nat) (fb:Bool) (ix:Nat) (vl:List Value) (_γ:Gh) (_w':World):Prop:=match vl with
 | [v]=>v=vW10 gv v0 Av cv Bv ev C n ec m b2 o2 y Ay cy By ey fb ix
 | _=>True
theorem gW10_st (gv:Nat) (v0:Val) (Av:Option Addr) (cv:Nat) (Bv:Option Addr) (ev:Nat) (C:Option Addr) (n:Nat) (ec:Nat) (m:Nat) (b2:Nat) (o2:Nat) (y:Val) (Ay:Option Addr) (cy:Nat) (By:Option Addr) (ey:Nat) (fb:Bool):∀ ix vl γ w γ' w',LR γ w γ' w'→gW10 gv v0 Av cv Bv ev C n ec m b2 o2 y Ay cy By ey fb ix vl γ w→gW10 gv v0 Av cv Bv ev C n ec m b2 o2 y Ay cy By ey fb ix vl γ' w':=by
 intro ix vl γ w γ' w' r h
 match vl,h with
 | [v],h =>
  unfold gW10 at h ⊢;exact h
 | [],_=>trivial
 | _ :: _ :: _,_=>trivial

theorem table_Where (d:Nat) (t:Val) (col:ByteArray) (v0:Val) (A B Av Bv:Option Addr) (c e cv ev:Nat) (w:World) (S T:Nat→Prop) (h:RV w S d t A B) (hcap:t.cols.length≤c) (hv:RV w T d v0 Av Bv) :
  Calls Tryz.prog 15 #[(.agg #[.int .i64 t.kind,.string t.s,.int .i64 t.dn,.int .i64 t.ds,.int .i64 t.n,.slice A t.cols.length c,.slice B t.rows.length e]),.string col,(.agg #[.int .i64 v0.kind,.string v0.s,.int .i64 v0.dn,.int .i64 v0.ds,.int .i64 v0.n,.slice Av v0.cols.length cv,.slice Bv v0.rows.length ev])] w (RetVE w (Fresh w) d (whereS t col v0)):=by
 have H:=Hd (h.mono (T:=fun b=>b<w.heap.size) fun i hi _=>hi);have HV:=Hd (hv.mono (T:=fun b=>b<w.heap.size) fun i hi _=>hi);have hrl:=h.rows_.len;clear h hv;obtain ⟨W0,hW0⟩:∃ W0,W0=((w.alloc (.cells #[.int .i64 t.kind,.string t.s,.int .i64 t.dn,.int .i64 t.ds,.int .i64 t.n,.slice A t.cols.length c,.slice B t.rows.length e] 31)).alloc (.cells #[.int .i64 v0.kind,.string v0.s,.int .i64 v0.dn,.int .i64 v0.ds,.int .i64 v0.n,.slice Av v0.cols.length cv,.slice Bv v0.rows.length ev] 31)).alloc (.cells #[.int .i64 0,.string ⟨#[]⟩,.int .i64 0,.int .i64 0,.int .i64 0,.slice none 0 0,.slice none 0 0] 31):=⟨_,rfl⟩;have HW0:=Hd hW0;have HX0:=Hd (show Ext w W0 by rw [hW0]; exact (((Ext.refl w).alloc _).alloc _).alloc _);have HB0:=Hd (show Blk W0 w.heap.size 31 #[.int .i64 t.kind,.string t.s,.int .i64 t.dn,.int .i64 t.ds,.int .i64 t.n,.slice A t.cols.length c,.slice B t.rows.length e] by rw [hW0]; exact ((Blk.new _ _ _).keep (Kept.alloc _ _ _)).keep (Kept.alloc _ _ _));have HB1:=Hd (show Blk W0 (w.heap.size+1) 31 #[.int .i64 v0.kind,.string v0.s,.int .i64 v0.dn,.int .i64 v0.ds,.int .i64 v0.n,.slice Av v0.cols.length cv,.slice Bv v0.rows.length ev] by
  rw [hW0];have:=(Blk.new (w.alloc (.cells #[.int .i64 t.kind,.string t.s,.int .i64 t.dn,.int .i64 t.ds,.int .i64 t.n,.slice A t.cols.length c,.slice B t.rows.length e] 31)) 31 #[.int .i64 v0.kind,.string v0.s,.int .i64 v0.dn,.int .i64 v0.ds,.int .i64 v0.n,.slice Av v0.cols.length cv,.slice Bv v0.rows.length ev]).keep (Kept.alloc _ _ (.cells #[.int .i64 0,.string ⟨#[]⟩,.int .i64 0,.int .i64 0,.int .i64 0,.slice none 0 0,.slice none 0 0] 31))
  simpa using this)
 have HB2:=Hd (show Blk W0 (w.heap.size+1+1) 31 #[.int .i64 0,.string ⟨#[]⟩,.int .i64 0,.int .i64 0,.int .i64 0,.slice none 0 0,.slice none 0 0] by
  rw [hW0];have:=Blk.new ((w.alloc (.cells #[.int .i64 t.kind,.string t.s,.int .i64 t.dn,.int .i64 t.ds,.int .i64 t.n,.slice A t.cols.length c,.slice B t.rows.length e] 31)).alloc (.cells #[.int .i64 v0.kind,.string v0.s,.int .i64 v0.dn,.int .i64 v0.ds,.int .i64 v0.n,.slice Av v0.cols.length cv,.slice Bv v0.rows.length ev] 31)) 31 #[.int .i64 0,.string ⟨#[]⟩,.int .i64 0,.int .i64 0,.int .i64 0,.slice none 0 0,.slice none 0 0]
  simpa using this)
 have HS0:=Hd (show W0.heap.size=w.heap.size+3 by rw [hW0]; simp);clear hW0
 go_enter Tryz.func15,Tryz.ntmps15
 go_wp2_with fail
 rw [← HW0.o];refine (table_isTable d t A B c e W0 _ (H.o.keep (HX0.o.kept _)) hcap).mono ?_;rintro e1 w1 ⟨rfl,hx1⟩;have HX1:=Hd (HX0.o.trans hx1);have HB01:=Hd (HB0.o.keep (hx1.kept _));have HB11:=Hd (HB1.o.keep (hx1.kept _));have HB21:=Hd (HB2.o.keep (hx1.kept _));have hz1:w.heap.size+3≤w1.heap.size:=(by have:=hx1.size; have:=HS0.o; omega);clear hx1 HB0 HB1 HB2 HW0 HX0 HS0;rw [show (decide (t.kind=5) && rightB t)=isTabB t from rfl];cases hT:isTabB t
 ·have HF:=Hd (show whereS t col v0=(Val.zero,14) by simp [whereS,hT]);clear hT;have r0:=HB21.o.cell (i:=0) rfl;have r1:=HB21.o.cell (i:=1) rfl;have r2:=HB21.o.cell (i:=2) rfl;have r3:=HB21.o.cell (i:=3) rfl;have r4:=HB21.o.cell (i:=4) rfl;have r5:=HB21.o.cell (i:=5) rfl;have r6:=HB21.o.cell (i:=6) rfl;have rf:=HB21.o.frozen;have rz:=HB21.o.lt;go_wp2;rw [HF.o];refine bodyPost_ret (v:=.tuple #[(.agg #[.int .i64 Val.zero.kind,.string Val.zero.s,.int .i64 Val.zero.dn,.int .i64 Val.zero.ds,.int .i64 Val.zero.n,.slice none Val.zero.cols.length 0,.slice none Val.zero.rows.length 0]),.int .i64 14]) (by simp [results,Tryz.results15,go_sem,r0,r1,r2,r3,r4,r5,r6,Val.zero]) rfl ⟨none,0,none,0,rfl,⟨Nat.le_refl _,Nat.le_refl _⟩,RV.zero,?_⟩
  iterate 7 with_reducible refine Ext.set2 ?_ (by omega) _
  with_reducible exact HX1.o
 have HT:=Hd hT;clear hT;have k5:=HB01.o.cell (i:=5) rfl;have k6:=HB01.o.cell (i:=6) rfl;have kz:=HB01.o.lt
 go_wp2_with fail
 refine (slices_Index A c t.cols col _ _ (H.o.strs.keep (HX1.o.kept _))).mono ?_;rintro e2 w2 ⟨rfl,rfl⟩;by_cases hneg:idxS t.cols col<0
 ·have HF:=Hd (show whereS t col v0=(Val.zero,13) by simp [whereS,HT.o,hneg]);have r0:=HB21.o.cell (i:=0) rfl;have r1:=HB21.o.cell (i:=1) rfl;have r2:=HB21.o.cell (i:=2) rfl;have r3:=HB21.o.cell (i:=3) rfl;have r4:=HB21.o.cell (i:=4) rfl;have r5:=HB21.o.cell (i:=5) rfl;have r6:=HB21.o.cell (i:=6) rfl;have rf:=HB21.o.frozen;have rz:=HB21.o.lt;go_wp2;rw [HF.o];refine bodyPost_ret (v:=.tuple #[(.agg #[.int .i64 Val.zero.kind,.string Val.zero.s,.int .i64 Val.zero.dn,.int .i64 Val.zero.ds,.int .i64 Val.zero.n,.slice none Val.zero.cols.length 0,.slice none Val.zero.rows.length 0]),.int .i64 13]) (by simp [results,Tryz.results15,go_sem,r0,r1,r2,r3,r4,r5,r6,Val.zero]) rfl ⟨none,0,none,0,rfl,⟨Nat.le_refl _,Nat.le_refl _⟩,RV.zero,?_⟩
  iterate 7 with_reducible refine Ext.set2 ?_ (by omega) _
  with_reducible exact HX1.o
 obtain ⟨m,hm,hmc,-⟩:=idxS_at (show 0≤idxS t.cols col by omega);have HF:=Hd (show whereS t col v0=(tabV t.cols (whereRows m v0 t.rows),0) by
  unfold whereS;rw [HT.o,if_neg (by simp),if_neg hneg,hm];rfl)
 rw [hm];clear hneg hm
 go_wp2_with fail
 refine (slices_Clone A c t.cols _ _ (H.o.strs.keep (HX1.o.kept _))).mono ?_;rintro e3 w3 ⟨Ac,cc,rfl,hcc,hst,hx3⟩;have HX3:=Hd (HX1.o.trans hx3);have HB03:=Hd (HB01.o.keep (hx3.kept _));have HB13:=Hd (HB11.o.keep (hx3.kept _));have HB23:=Hd (HB21.o.keep (hx3.kept _));have hz3:w.heap.size+3≤w3.heap.size:=Nat.le_trans hz1 hx3.size;obtain ⟨w5,hw5⟩:∃ w5,w5=w3.alloc (.cells #[.int .i64 5,.string ⟨#[]⟩,.int .i64 0,.int .i64 0,.int .i64 0,.slice Ac t.cols.length cc,.slice none 0 0] 31):=⟨_,rfl⟩;have hx35:Ext w3 w5:=(by rw [hw5]; exact (Ext.refl _).alloc _);obtain ⟨go,hgo⟩:∃ go,go=w3.heap.size:=⟨_,rfl⟩;have HM0:=Hd (show OutT w w5 (go+1) (fun b=>w.heap.size+3≤b) d go Ac cc t.cols none 0 (whereRows m v0 (t.rows.take 0)) w5 from ⟨HX3.o.trans hx35,Kept.refl _ _,⟨by omega,by omega,by rw [hw5,hgo]; simp⟩,by rw [hw5,hgo]; exact Blk.new _ _ _,((hst.mono (T:=fun b=>ob none≠some b∧w.heap.size+3≤b∧b≠go) fun b hb hb'=>⟨by simp [ob],by unfold Fresh at hb'; omega,by omega⟩).keep (hx35.kept _)),OwnRs.nil _ _ _ _⟩);have HCC:=Hd hcc;have HB0:=Hd (HB03.o.keep (hx35.kept _));have HB1:=Hd (HB13.o.keep (hx35.kept _));have HB2:=Hd (HB23.o.keep (hx35.kept _));have k6b:=HB03.o.cell (i:=6) rfl;have kzb:=HB03.o.lt;have HX5:=Hd (HX3.o.trans hx35);have HW5:=Hd hw5;have HGO:=Hd hgo;have hgz:w.heap.size+3≤go:=(by omega);clear hst hx3 hx35 hcc HB01 HB11 HB21 HB03 HB13 HB23 k5 k6 kz hw5 hgo;go_wp2;rw [← HW5.o,← HGO.o];clear HW5 HGO k6b kzb hz3
 go_loopw [30] (fun i wr=>∃ (k:Nat) (Ar:Option Addr) (cr:Nat),k≤t.rows.length∧i=.int .i64 k∧OutT w w5 (go+1) (fun b=>w.heap.size+3≤b) d go Ac cc t.cols Ar cr (whereRows m v0 (t.rows.take k)) wr) (fun i _=>t.rows.length-(intOf i).toNat)
 case atStart=>exact ⟨0,none,0,Nat.zero_le _,rfl,HM0.o⟩
 case round =>
  clear HM0;obtain ⟨k,Ar,cr,hk,rfl,hm0⟩:=hrel;have HM1:=Hd hm0;clear hm0;by_cases hlt:k<t.rows.length
  ·obtain ⟨b,o,C,ec,hB,hb,hc0,hcp,hrow⟩:=H.o.rows_.at_ hlt;obtain ⟨r,hr⟩:∃ r,r=t.rows[k]:=⟨_,rfl⟩;have hrlen:r.length=t.cols.length:=(by rw [hr]; exact isTab_row HT.o hlt);rw [← hr] at hc0 hcp hrow;have hmr:m<r.length:=(by omega);have HRLEN:=Hd hrlen;clear hrlen;obtain ⟨b2,o2,Ay,cy,By,ey,hC,hb2,⟨y0,y1,y2,y3,y4,y5,y6⟩,-,hyv⟩:=hrow.at_ hmr;obtain ⟨y,hy⟩:∃ y,y=r[m]:=⟨_,rfl⟩;rw [← hy] at y0 y1 y2 y3 y4 y5 y6 hyv;have hwx:Ext w wr:=HM1.o.ext;have z0:=hwx.cell hc0;have zz:b<wr.heap.size:=Nat.lt_of_lt_of_le hb hwx.size;have Y0:=Hd (hwx.cell y0);have Y1:=Hd (hwx.cell y1);have Y2:=Hd (hwx.cell y2);have Y3:=Hd (hwx.cell y3);have Y4:=Hd (hwx.cell y4);have Y5:=Hd (hwx.cell y5);have Y6:=Hd (hwx.cell y6);have HYV:=Hd ((hyv.up (d':=d) (by omega)).keep (hwx.kept _));have HVV:=Hd (HV.o.keep (hwx.kept _));have HROW:=Hd hrow;have HCE:=Hd hC;have HEC:=Hd hcp;have HKP:=Hd (HM1.o.kept.mono (T:=fun b=>b<w.heap.size+3) fun b _ hb=>⟨by omega,by omega⟩);have HGV:=Hd (HB1.o.keep (HKP.o.mono fun b _ e=>by omega));obtain ⟨fb,hfb⟩:∃ fb,fb=isB y v0:=⟨_,rfl⟩;have HFB:=Hd hfb;have HYE:=Hd (show t.rows[k].getD m Val.zero=y by rw [hy,← hr,List.getD_eq_getElem?_getD,List.getElem?_eq_getElem hmr]; rfl);have HRE:=Hd hr;have i0:(0:Int)≤(k:Int):=(by omega);have i1:(k:Int)<(t.rows.length:Int):=(by omega);have HRL:=Hd hrow.len;have i2:m<r.length:=hmr;subst hB;clear y0 y1 y2 y3 y4 y5 y6 hyv hrow hC hfb hwx hc0 hr hy hmr
   go_upto_region 10 with fail
   refine wp_region_lin_lit (by kernel_rfl) (fun i=>[i]) (by kernel_rfl) LR LR.refl LR.trans (LN (al0)) (gW10 (w.heap.size+1) v0 Av cv Bv ev C r.length ec m b2 o2 y Ay cy By ey fb) (gW10_st _ _ _ _ _ _ _ _ _ _ _ _ _ _ _ _ _ _) gh0 (LN.zero _) ⟨?_,?_,?_,?_,?_,?_,trivial⟩ ?_
   ·refine LinStep.yes fun vals γ w' ρ hR hN hp hρ hc hf hg=>⟨rfl,?_⟩;have e11:ρ (.tmp 11)=.slice C r.length ec:=hρ 11;have hx:=hR.drew_ext;have HR:=Hd hR;have HN:=Hd hN;clear hR hN hp hρ hx;go_light;go_simp;exact ⟨γ,LR.refl _ _,fun _ _ _ h=>h,rfl⟩
   ·refine LinStep.yes fun vals γ w' ρ hR hN hp hρ hc hf hg=>⟨rfl,?_⟩;have e8:ρ (.tmp 8)=.int .i64 (m:Int):=hρ 8;have hx:=hR.drew_ext;have HR:=Hd hR;have HN:=Hd hN;clear hR hN hp hρ hx;go_light;go_simp;exact ⟨γ,LR.refl _ _,fun _ _ _ h=>h,rfl⟩
   ·refine LinStep.yes fun vals γ w' ρ hR hN hp hρ hc hf hg=>⟨rfl,?_⟩;have e34:ρ (.tmp 34)=.slice C r.length ec:=(hρ 34).trans (hp 0 (by decide));have e35:ρ (.tmp 35)=.int .i64 (m:Int):=(hρ 35).trans (hp 1 (by decide));have hx:=hR.drew_ext;have i0:(0:Int)≤(m:Int):=(by omega);have i1:(m:Int)<(r.length:Int):=(by omega);rw [HCE.o] at e34;have HR:=Hd hR;have HN:=Hd hN;clear hR hN hp hρ hx;go_light;go_simp;exact ⟨γ,LR.refl _ _,fun _ _ _ h=>h,rfl⟩
   ·refine LinStep.yes fun vals γ w' ρ hR hN hp hρ hc hf hg=>⟨rfl,?_⟩;have e36:ρ (.tmp 36)=.pointer (some ⟨b2,o2+m*7,none⟩):=(hρ 36).trans (hp 2 (by decide));have hx:=hR.drew_ext;have y0:=hx.cell Y0.o;have y1:=hx.cell Y1.o;have y2:=hx.cell Y2.o;have y3:=hx.cell Y3.o;have y4:=hx.cell Y4.o;have y5:=hx.cell Y5.o;have y6:=hx.cell Y6.o;have HR:=Hd hR;have HN:=Hd hN;clear hR hN hp hρ hx;go_light;go_simp;exact ⟨γ,LR.refl _ _,fun _ _ _ h=>h,rfl⟩
   ·refine LinStep.yes fun vals γ w' ρ hR hN hp hρ hc hf hg=>⟨rfl,?_⟩;have e5:ρ (.tmp 5)=.pointer (some ⟨w.heap.size+1,0,none⟩):=hρ 5;have hx:=hR.drew_ext;have c0:=(HGV.o.keep (hx.kept _)).cell (i:=0) rfl;have c1:=(HGV.o.keep (hx.kept _)).cell (i:=1) rfl;have c2:=(HGV.o.keep (hx.kept _)).cell (i:=2) rfl;have c3:=(HGV.o.keep (hx.kept _)).cell (i:=3) rfl;have c4:=(HGV.o.keep (hx.kept _)).cell (i:=4) rfl;have c5:=(HGV.o.keep (hx.kept _)).cell (i:=5) rfl;have c6:=(HGV.o.keep (hx.kept _)).cell (i:=6) rfl;have HR:=Hd hR;have HN:=Hd hN;clear hR hN hp hρ hx;go_light;go_simp;exact ⟨γ,LR.refl _ _,fun _ _ _ h=>h,rfl⟩
   ·refine LinStep.yes fun vals γ w' ρ hR hN hp hρ hc hf hg=>⟨rfl,?_⟩;have e37:ρ (.tmp 37)=(.agg #[.int .i64 y.kind,.string y.s,.int .i64 y.dn,.int .i64 y.ds,.int .i64 y.n,.slice Ay y.cols.length cy,.slice By y.rows.length ey]):=(hρ 37).trans (hp 3 (by decide));have e38:ρ (.tmp 38)=(.agg #[.int .i64 v0.kind,.string v0.s,.int .i64 v0.dn,.int .i64 v0.ds,.int .i64 v0.n,.slice Av v0.cols.length cv,.slice Bv v0.rows.length ev]):=(hρ 38).trans (hp 4 (by decide));have hx:=hR.drew_ext;have HR:=Hd hR;have HN:=Hd hN;clear hR hN hp hρ hx;go_light;go_simp;refine (table_is d y v0 Ay By Av Bv cy ey cv ev w' _ _ (HYV.o.keep (HR.o.drew_ext.kept _)) (HVV.o.keep (HR.o.drew_ext.kept _))).mono ?_;rintro e' w3 ⟨he,hx⟩;rw [← HFB.o] at he;exact ⟨_,he,γ,LR.of_ext γ hx,fun _ _ _ h=>h,rfl⟩
   ·intro vals γ w6 hR hG;have h5:vals 5=.bool fb:=hG 5 (by decide);have hx6:=hR.drew_ext;have HM6:=Hd (HM1.o.more hx6);clear hR hG;simp only [lexFrame,Act.put,List.setIfInBounds_toArray,List.set_cons_succ,List.set_cons_zero,Nat.zero_add,Nat.reduceAdd,h5];generalize vals 0=u0,vals 1=u1,vals 2=u2,vals 3=u3,vals 4=u4;clear h5 hx6 z0 zz HM1;cases fb
    ·go_wp2;go_roundw
     case rel=>exact ⟨k+1,Ar,cr,by omega,by go_num,by rw [whereRows_snoc m v0 t.rows hlt,HYE.o,← HFB.o,if_neg (by simp),List.append_nil]; exact HM6.o⟩
     case measure=>simp [intOf]; omega
    ·obtain ⟨rows,hrows⟩:∃ rows,rows=whereRows m v0 (t.rows.take k):=⟨_,rfl⟩;rw [← hrows] at HM6;have HROWS:=Hd hrows;have hrwl:rows.length≤4294967296:=(by rw [hrows]; have:=whereRows_len m v0 t.rows k; omega);have HM:=HM6;have HXF:=Hd (show ∀ b,w.heap.size+3≤b→(fun b=>w.heap.size+3≤b) b from fun b hb=>hb);obtain ⟨X,hX⟩:∃ X:Nat→Prop,X=fun b=>w.heap.size+3≤b:=⟨_,rfl⟩;rw [← hX] at HM HM6 HXF;obtain ⟨w0,hw0⟩:∃ w0,w0=w5:=⟨_,rfl⟩;rw [← hw0] at HM HM6;obtain ⟨lo,hlo⟩:∃ lo,lo=go+1:=⟨_,rfl⟩;rw [← hlo] at HM HM6;obtain ⟨cols,hcols⟩:∃ cols,cols=t.cols:=⟨_,rfl⟩;rw [← hcols] at HM HM6;have HE1:=Hd hX;have HE2:=Hd hw0;have HE3:=Hd hlo;have HE4:=Hd hcols;clear hX hw0 hlo hcols hrows;have HROW0:=HROW;have HROW:=Hd (show ∀ w',OutT w w0 lo X d go Ac cc cols Ar cr rows w'→Row w' (fun b=>b<w.heap.size) d C r from fun w' h=>HROW0.o.keep (h.ext.kept _))
     go_upto_region 11 with fail
     refine wp_region_lin_lit (by kernel_rfl) dWhA (by kernel_rfl) (SR (WhAInv w w0 lo X d go Ac cc cols Ar cr rows r C ec)) (SR.refl _) (SR.trans _) (SN stWhA) (gWhA w w0 lo X d go Ac cc cols Ar cr rows r C ec) (gWhA_st _ _ _ _ _ _ _ _ _ _ _ _ _ _ _) 0 (SN.zero (by decide)) ⟨?_,?_,?_,?_,?_,?_,?_,?_,trivial⟩ ?_
     ·refine LinStep.yes fun vals γ w' ρ hR hN hp hρ hc hf hg=>⟨rfl,?_⟩;have hi:=hR.inv ⟨by omega,fun _=>HM.o.more (Ext.refl _).drew,fun _=>(HM.o.more (Ext.refl _).drew).kept⟩;have e9:ρ (.tmp 9)=.pointer (some ⟨go,0,none⟩):=hρ 9;clear hR hN hp hρ hi;go_light;go_simp;exact ⟨γ,SR.refl _ _ _,fun _ _ _ h=>h,rfl⟩
     ·refine LinStep.yes fun vals γ w' ρ hR hN hp hρ hc hf hg=>⟨rfl,?_⟩;have hi:=hR.inv ⟨by omega,fun _=>HM.o.more (Ext.refl _).drew,fun _=>(HM.o.more (Ext.refl _).drew).kept⟩;have e40:ρ (.tmp 40)=_:=(hρ 40).trans (hp 0 (by decide));have hb:=(hi.2.1 (by have h:γ<3:=hN; omega)).o;have k1:=hb.cell (i:=6) rfl;clear hR hN hp hρ hi hb;go_light;go_simp;exact ⟨γ,SR.refl _ _ _,fun _ _ _ h=>h,rfl⟩
     ·refine LinStep.yes fun vals γ w' ρ hR hN hp hρ hc hf hg=>⟨rfl,?_⟩;have hi:=hR.inv ⟨by omega,fun _=>HM.o.more (Ext.refl _).drew,fun _=>(HM.o.more (Ext.refl _).drew).kept⟩;have e11:ρ (.tmp 11)=.slice C r.length ec:=hρ 11;clear hR hN hp hρ hi;go_light;go_simp;exact ⟨γ,SR.refl _ _ _,fun _ _ _ h=>h,rfl⟩
     ·refine LinStep.yes fun vals γ w' ρ hR hN hp hρ hc hf hg=>⟨rfl,?_⟩;have hi:=hR.inv ⟨by omega,fun _=>HM.o.more (Ext.refl _).drew,fun _=>(HM.o.more (Ext.refl _).drew).kept⟩;have e42:ρ (.tmp 42)=_:=(hρ 42).trans (hp 2 (by decide));have h0:γ=0:=(by have h:γ<1:=hN; omega);subst h0;have HI:=Hd (hi.2.1 (by omega));clear hR hN hp hρ hi;go_light;go_simp;refine (table_copied d r C ec w' _ (HROW.o _ HI.o)).mono ?_;rintro e' w3 ⟨A3,c3,he,ho3,hx3⟩;have hot:=HI.o;have hg3:=hot.golo;have hcap3:r.length≤c3:=(by obtain ⟨xs,ho,_⟩:=ho3; exact ho.cap);exact ⟨_,he,1,SR.up (by omega) ⟨by omega,fun _=>hot.more hx3,fun _=>(hot.more hx3).kept⟩,SN.up (by omega) (by decide) rfl,A3,c3,rfl,by omega,fun _=>⟨(ho3.row (T:=fun b=>w'.heap.size≤b) HRL.o (fun b hb=>(ho3.blk hb).1) (fun b hb=>hb)).mono fun b _ hb=>⟨fun e=>by have:=(hot.rows.blk e).2; omega,HXF.o b (by omega),by omega⟩,hcap3⟩⟩
     ·refine LinStep.yes fun vals γ w' ρ hR hN hp hρ hc hf hg=>⟨rfl,?_⟩;have hi:=hR.inv ⟨by omega,fun _=>HM.o.more (Ext.refl _).drew,fun _=>(HM.o.more (Ext.refl _).drew).kept⟩;obtain ⟨A3,c3,g3,hr1,hrow⟩:=hp 3 (by decide);have e43:ρ (.tmp 43)=_:=(hρ 43).trans g3;have h0:γ=1:=(by have h:γ<2:=hN; omega);subst h0;have HI:=Hd (hi.2.1 (by omega));have HRW:=Hd (hrow rfl);clear hR hN hp hρ hi g3 hrow;go_light;go_simp;have hx1:Ext w' (w'.alloc (.cells #[.slice A3 r.length c3] 50)):=(Ext.refl _).alloc _;exact ⟨2,SR.up (by omega) ⟨by omega,fun _=>HI.o.more hx1,fun _=>(HI.o.more hx1).kept⟩,SN.up (by omega) (by decide) rfl,_,A3,c3,rfl,by omega,fun _=>⟨Blk.new _ _ _,HRW.o.1.keep (hx1.kept _),HRW.o.2⟩⟩
     ·refine LinStep.yes fun vals γ w' ρ hR hN hp hρ hc hf hg=>⟨rfl,?_⟩;have hi:=hR.inv ⟨by omega,fun _=>HM.o.more (Ext.refl _).drew,fun _=>(HM.o.more (Ext.refl _).drew).kept⟩;obtain ⟨g',A3,c3,g4,hr2,hbk⟩:=hp 4 (by decide);have e44:ρ (.tmp 44)=_:=(hρ 44).trans g4;have e41:ρ (.tmp 41)=_:=(hρ 41).trans (hp 1 (by decide));have h0:γ=2:=(by have h:γ<3:=hN; omega);subst h0;obtain ⟨hbk1,hbk2,hbk3⟩:=hbk rfl;have hot:=hi.2.1 (by omega);obtain ⟨hs,ho1,hv1⟩:=hot.rows;refine lin_app (.tmp 41) (.tmp 44) rfl tiR e41 ho1 e44 hbk1.rd rfl (by simp [Value.oneCell']) (by omega) (by decide) hot.golo.2.2 ?_;intro A4 c4 w4 hown4 hg4 hat4;have hota:=hot.app ho1 hv1 hbk3 hbk2 hown4 hg4 hat4;exact ⟨3,SR.up (by omega) ⟨by omega,fun h=>absurd h (by omega),fun _=>hota.kept⟩,SN.up (by omega) (by decide) rfl,A4,c4,rfl,by omega,fun _=>hota⟩
     ·refine LinStep.yes fun vals γ w' ρ hR hN hp hρ hc hf hg=>⟨rfl,?_⟩;have hi:=hR.inv ⟨by omega,fun _=>HM.o.more (Ext.refl _).drew,fun _=>(HM.o.more (Ext.refl _).drew).kept⟩;have e9:ρ (.tmp 9)=.pointer (some ⟨go,0,none⟩):=hρ 9;clear hR hN hp hρ hi;go_light;go_simp;exact ⟨γ,SR.refl _ _ _,fun _ _ _ h=>h,rfl⟩
     ·refine LinStep.yes fun vals γ w' ρ hR hN hp hρ hc hf hg=>⟨rfl,?_⟩;have hi:=hR.inv ⟨by omega,fun _=>HM.o.more (Ext.refl _).drew,fun _=>(HM.o.more (Ext.refl _).drew).kept⟩;obtain ⟨A4,c4,g7,hr3,hda⟩:=hp 5 (by decide);have e45:ρ (.tmp 45)=_:=(hρ 45).trans g7;have e46:ρ (.tmp 46)=_:=(hρ 46).trans (hp 6 (by decide));have h0:γ=3:=(by have h:γ<4:=hN; omega);subst h0;have HA:=Hd (hda rfl);obtain ⟨y,hy⟩:=(hda rfl).o;have k0:=hy.cell (i:=6) rfl;have kf:=hy.frozen;have kz:=hy.lt;clear hR hN hp hρ hi g7 hda hy;go_light;go_simp;have hs:=HA.o.store;rw [List.length_append,List.length_singleton] at hs;exact ⟨4,SR.up (by omega) ⟨by omega,fun h=>absurd h (by omega),fun h=>absurd h (by omega)⟩,SN.up (by omega) (by decide) rfl,by omega,fun _=>⟨A4,c4,hs⟩⟩
     ·intro vals γ w7 hR hG;have hi:=hR.inv ⟨by omega,fun _=>HM.o.more (Ext.refl _).drew,fun _=>(HM.o.more (Ext.refl _).drew).kept⟩;obtain ⟨h4,h5⟩:=hG 7 (by decide);obtain ⟨A4,c4,hm1⟩:=h5 (by have:=hi.1; omega);rw [HE1.o,HE2.o,HE3.o,HE4.o] at hm1;have HM7:=Hd hm1;clear hR hG hi h4 h5 hm1 HM HM6;simp only [lexFrame,Act.put,List.setIfInBounds_toArray,List.set_cons_succ,List.set_cons_zero,Nat.zero_add,Nat.reduceAdd];generalize vals 0=u0,vals 1=u1,vals 2=u2,vals 3=u3,vals 4=u4,vals 5=u5,vals 6=u6,vals 7=u7;go_wp2;go_roundw
      case rel=>exact ⟨k+1,A4,c4,by omega,by go_num,by rw [whereRows_snoc m v0 t.rows hlt,HYE.o,← HFB.o,if_pos rfl,← HROWS.o,← HRE.o]; exact HM7.o⟩
      case measure=>simp [intOf]; omega
  ·have hkr:k=t.rows.length:=(by omega);subst hkr;have hm:=HM1.o;rw [List.take_of_length_le (Nat.le_refl _)] at hm;have hwl:(whereRows m v0 t.rows).length≤t.rows.length:=List.length_filter_le _ _;have HM:=Hd hm;have HKP:=Hd (hm.kept.mono (T:=fun b=>b<w.heap.size+3) fun b _ hb=>⟨by omega,by omega⟩);have HRS:=Hd (HB2.o.keep (HKP.o.mono fun b _ e=>by omega));have t0:=hm.o.cell (i:=0) rfl;have t1:=hm.o.cell (i:=1) rfl;have t2:=hm.o.cell (i:=2) rfl;have t3:=hm.o.cell (i:=3) rfl;have t4:=hm.o.cell (i:=4) rfl;have t5:=hm.o.cell (i:=5) rfl;have t6:=hm.o.cell (i:=6) rfl;have r0:=HRS.o.cell (i:=0) rfl;have r1:=HRS.o.cell (i:=1) rfl;have r2:=HRS.o.cell (i:=2) rfl;have r3:=HRS.o.cell (i:=3) rfl;have r4:=HRS.o.cell (i:=4) rfl;have r5:=HRS.o.cell (i:=5) rfl;have r6:=HRS.o.cell (i:=6) rfl;have rf:=HRS.o.frozen;have rz:=HRS.o.lt;clear hm HM1;go_wp2;rw [HF.o];refine bodyPost_ret (v:=.tuple #[.agg #[.int .i64 5,.string ⟨#[]⟩,.int .i64 0,.int .i64 0,.int .i64 0,.slice Ac t.cols.length cc,.slice Ar (whereRows m v0 t.rows).length cr],.int .i64 0]) (by simp [results,Tryz.results15,go_sem,r0,r1,r2,r3,r4,r5,r6]) rfl ⟨Ac,cc,Ar,cr,rfl,⟨HCC.o,by obtain ⟨hs,ho,_⟩:=HM.o.rows; exact ho.cap⟩,?_,?_⟩
   ·refine (RV.keep (S:=fun b=>w.heap.size+3≤b) (HM.o.val (by omega) (fun b hb=>by omega) (fun b hb=>hb)) ?_).mono fun b _ hb=>by unfold Fresh; omega
    ·iterate 7 with_reducible refine Kept.set2 ?_ (fun h=>by omega)
     with_reducible exact Kept.refl _ _
   ·iterate 7 with_reducible refine Ext.set2 ?_ (by omega) _
    with_reducible exact HM.o.ext
end Go.Proofs.YthmckfloppblcaaGreatDoor
namespace Go.Proofs.YthmckfloppblcaaGreatDoor
open Go Go.RowKit

def plcU (l1 l2:List (List Val)) (i j p n:Nat):List Nat:=(List.range n).filter fun q=>isB (cellAt l2 j q) (cellAt l1 i p)
def prsU (l1 l2:List (List Val)) (i j p:Nat):List (Nat × Nat):=(List.range p).flatMap fun p=>(plcU l1 l2 i j p l2.length).map fun q=>(p,q)
theorem isTab_nodup {t:Val} (h:isTabB t=true) {k:Nat} (hk:k<t.cols.length):memS (t.cols.take k) t.cols[k]=false:=by
 simp only [isTabB,Bool.and_eq_true,decide_eq_true_eq] at h;have h2:=h.2;unfold rightB at h2;rw [if_pos h.1,Bool.and_eq_true] at h2;have h3:=h2.1;simp only [tableR,Bool.and_eq_true,decide_eq_true_eq] at h3;have h4:=List.all_eq_true.1 h3.1.2 k (List.mem_range.2 hk);unfold colOK at h4;have h5:=h4;simp [hk] at h5;exact h5.2
theorem plcU_succ (l1 l2:List (List Val)) (i j p n:Nat):plcU l1 l2 i j p (n+1)=plcU l1 l2 i j p n++if isB (cellAt l2 j n) (cellAt l1 i p)=true then [n] else []:=by
 unfold plcU;rw [List.range_succ,List.filter_append];congr 1;rw [List.filter_cons];rfl
theorem prsU_succ (l1 l2:List (List Val)) (i j p:Nat):prsU l1 l2 i j (p+1)=prsU l1 l2 i j p++(plcU l1 l2 i j p l2.length).map fun q=>(p,q):=by
 unfold prsU;rw [List.range_succ,List.flatMap_append];simp
theorem cellAt_at {l:List (List Val)} {j k:Nat} (hk:k<l.length) (hj:j<l[k].length):cellAt l j k=l[k][j]:=by
 unfold cellAt;rw [getD_of l k [] hk,getD_of l[k] j Val.zero hj]
end Go.Proofs.YthmckfloppblcaaGreatDoor
namespace Go.Proofs.YthmckfloppblcaaGreatDoor
open Go Go.RowKit

def numOf (l:List UInt8):Nat:=l.foldl (fun a c=>10*a+(c.toNat-48)) 0
theorem numOf_app (l:List UInt8) (c:UInt8):numOf (l++[c])=10*numOf l+(c.toNat-48):=by simp [numOf]
theorem dig_nat {u:Nat} (h:u<10):(UInt8.ofNat (48+u)).toNat=48+u:=by
 rw [UInt8.toNat_ofNat'];omega
theorem numOf_dec:∀ u:Nat,numOf (Lib.decDigits u)=u:=by
 intro u
 induction u using Nat.strongRecOn with
 | _ u ih =>
  rw [Lib.decDigits];split
  ·rename_i h;simp only [numOf,List.foldl_cons,List.foldl_nil,dig_nat h];omega
  ·rename_i h;rw [numOf_app,ih (u / 10) (by omega),dig_nat (by omega)];omega
theorem dec_dig:∀ u:Nat,∀ c∈Lib.decDigits u,48≤c.toNat∧c.toNat≤57:=by
 intro u
 induction u using Nat.strongRecOn with
 | _ u ih =>
  rw [Lib.decDigits];split
  ·rename_i h;intro c hc;simp only [List.mem_singleton] at hc;rw [hc,dig_nat h];omega
  ·rename_i h;intro c hc
   rcases List.mem_append.1 hc with hc | hc
   ·exact ih (u / 10) (by omega) c hc
   ·simp only [List.mem_singleton] at hc;rw [hc,dig_nat (by omega)];omega
theorem zeros_dig:∀ n:Nat,∀ c∈Lib.repeatL [48] n,48≤c.toNat∧c.toNat≤57
 | 0,c,h=>by simp [Lib.repeatL] at h
 | n+1,c,h=>by
  rw [repeatL_succ] at h
  rcases List.mem_cons.1 h with rfl | h
  ·decide
  ·exact zeros_dig n c h
theorem numOf_zeros (l:List UInt8):∀ n:Nat,numOf (Lib.repeatL [48] n++l)=numOf l
 | 0=>by simp [Lib.repeatL]
 | n+1=>by
  rw [repeatL_succ,List.cons_append,← numOf_zeros l n];rfl
theorem digs_dig {n u:Nat} : ∀ c∈Lib.repeatL [48] n++Lib.decDigits u,48≤c.toNat∧c.toNat≤57:=by
 intro c hc
 rcases List.mem_append.1 hc with hc | hc
 ·exact zeros_dig n c hc
 ·exact dec_dig u c hc
theorem cut_eq {x:UInt8} : ∀ {a a' b b':List UInt8},x ∉ a→x ∉ a'→a++x :: b=a'++x :: b'→a=a'∧b=b'
 | [],[],b,b',_,_,h=>by simpa using h
 | [],y :: a',b,b',_,h2,h=>by
  simp only [List.nil_append,List.cons_append,List.cons.injEq] at h;exact absurd (List.mem_cons.2 (.inl h.1)) h2
 | y :: a,[],b,b',h1,_,h=>by
  simp only [List.nil_append,List.cons_append,List.cons.injEq] at h;exact absurd (List.mem_cons.2 (.inl h.1.symm)) h1
 | y :: a,z :: a',b,b',h1,h2,h=>by
  simp only [List.cons_append,List.cons.injEq] at h;obtain ⟨e1,e2⟩:=cut_eq (fun e=>h1 (List.mem_cons_of_mem _ e)) (fun e=>h2 (List.mem_cons_of_mem _ e)) h.2;exact ⟨by rw [h.1,e1],e2⟩
theorem decD_dig {n:Int} {s:Nat} : ∀ c∈decD n s,48≤c.toNat∧c.toNat≤57:=digs_dig
theorem decD_num (n:Int) (s:Nat):numOf (decD n s)=n.natAbs:=by
 unfold decD;rw [numOf_zeros,numOf_dec]
theorem decD_lenT (n:Int) (s:Nat):s+1≤(decD n s).length:=by
 unfold decD;rw [List.length_append,repeatL_len1];omega
theorem no_dot {l:List UInt8} (h:∀ c∈l,48≤c.toNat∧c.toNat≤57):(46:UInt8) ∉ l∧(45:UInt8) ∉ l:=by
 refine ⟨fun hc => ?_,fun hc => ?_⟩
 ·have:=(h _ hc).1;exact absurd this (by decide)
 ·have:=(h _ hc).1;exact absurd this (by decide)
theorem decP_inj {n n':Int} {s s':Nat} (h:decP n s=decP n' s'):n.natAbs=n'.natAbs∧s=s':=by
 have d1:=@decD_dig n s;have d2:=@decD_dig n' s';have l1:=decD_lenT n s;have l2:=decD_lenT n' s';unfold decP at h;by_cases h1:0<s <;> by_cases h2:0<s'
 ·rw [if_pos h1,if_pos h2,List.append_assoc,List.append_assoc,List.singleton_append,List.singleton_append] at h;obtain ⟨e1,e2⟩:=cut_eq (fun e=>(no_dot d1).1 (List.mem_of_mem_take e)) (fun e=>(no_dot d2).1 (List.mem_of_mem_take e)) h;have e3:decD n s=decD n' s':=by
   rw [← List.take_append_drop ((decD n s).length-s) (decD n s),e1,e2,List.take_append_drop]
  have e4:=congrArg List.length e2;rw [List.length_drop,List.length_drop] at e4;exact ⟨by rw [← decD_num n s,e3,decD_num],by omega⟩
 ·rw [if_pos h1,if_neg h2] at h;exact absurd (show (46:UInt8)∈decD n' s' by rw [← h]; simp) (no_dot d2).1
 ·rw [if_neg h1,if_pos h2] at h;exact absurd (show (46:UInt8)∈decD n s by rw [h]; simp) (no_dot d1).1
 ·rw [if_neg h1,if_neg h2] at h;exact ⟨by rw [← decD_num n s,h,decD_num],by omega⟩
theorem decP_dash {n:Int} {s:Nat} : (45:UInt8) ∉ decP n s:=by
 have d:=(no_dot (@decD_dig n s)).2;unfold decP;split
 ·intro h
  rcases List.mem_append.1 h with h | h
  ·rcases List.mem_append.1 h with h | h
   ·exact d (List.mem_of_mem_take h)
   ·exact absurd h (by decide)
  ·exact d (List.mem_of_mem_drop h)
 ·exact d
theorem decL_inj {n n':Int} {s s':Nat} (h:decL n s=decL n' s'):n=n'∧s=s':=by
 unfold decL at h;by_cases h1:n<0 <;> by_cases h2:n'<0
 ·rw [if_pos h1,if_pos h2,List.cons.injEq] at h;have:=decP_inj h.2;exact ⟨by omega,this.2⟩
 ·rw [if_pos h1,if_neg h2] at h;exact absurd (show (45:UInt8)∈decP n' s' by rw [← h]; simp) decP_dash
 ·rw [if_neg h1,if_pos h2] at h;exact absurd (show (45:UInt8)∈decP n s by rw [h]; simp) decP_dash
 ·rw [if_neg h1,if_neg h2] at h;have:=decP_inj h;exact ⟨by omega,this.2⟩
theorem padL_inj {n n' k:Nat} (h:padL n k=padL n' k):n=n':=by
 have h1:=congrArg numOf h;unfold padL at h1;rwa [numOf_zeros,numOf_zeros,Lib.itoa_nonneg,Lib.itoa_nonneg,numOf_dec,numOf_dec] at h1
theorem padL_dash {n k:Nat} : (45:UInt8) ∉ padL n k:=by
 unfold padL;rw [Lib.itoa_nonneg];exact (no_dot digs_dig).2
def dayNo (y m d:Nat):Nat:=beforeN y+(List.range (m-1)).foldl (fun a k=>a+daysN y (k+1)) 0+d-1
def civOk (k:Nat):Bool:=decide (dayNo (civY (738000+k)) (civMD (738000+k)).1 (civMD (738000+k)).2=738000+k)
theorem civ_all:(List.range 1000).all civOk=true:=by decide +kernel
theorem civ_back {n:Nat} (h1:738000≤n) (h2:n≤738999):dayNo (civY n) (civMD n).1 (civMD n).2=n:=by
 have h:=List.all_eq_true.1 civ_all (n-738000) (List.mem_range.2 (by omega));unfold civOk at h;rw [show 738000+(n-738000)=n by omega] at h;exact of_decide_eq_true h
theorem dateL_inj {n n':Nat} (h1:738000≤n) (h2:n≤738999) (h3:738000≤n') (h4:n'≤738999) (h:dateL n=dateL n'):n=n':=by
 have e:∀ y m d,outL y m d 5=padL y 4++45 :: (padL m 2++45 :: padL d 2):=by
  intro y m d;simp [outL,putT]
 unfold dateL at h;rw [e,e] at h;obtain ⟨e1,e2⟩:=cut_eq padL_dash padL_dash h;obtain ⟨e3,e4⟩:=cut_eq padL_dash padL_dash e2;rw [← civ_back h1 h2,← civ_back h3 h4,padL_inj e1,padL_inj e3,padL_inj e4]
def dbl:List UInt8→List UInt8
 | []=>[]
 | c :: l=>if c=39 then 39 :: 39 :: dbl l else c :: dbl l
theorem dbl_inj:∀ {a b:List UInt8},dbl a=dbl b→a=b
 | [],[],_=>rfl
 | [],y :: b,h=>by
  unfold dbl at h;split at h <;> cases h
 | y :: a,[],h=>by
  unfold dbl at h;split at h <;> cases h
 | x :: a,y :: b,h=>by
  simp only [dbl] at h;by_cases h1:x=39 <;> by_cases h2:y=39
  ·rw [if_pos h1,if_pos h2] at h;simp only [List.cons.injEq,true_and] at h;rw [h1,h2,dbl_inj h]
  ·rw [if_pos h1,if_neg h2] at h;simp only [List.cons.injEq] at h;exact absurd h.1.symm h2
  ·rw [if_neg h1,if_pos h2] at h;simp only [List.cons.injEq] at h;exact absurd h.1 h1
  ·rw [if_neg h1,if_neg h2] at h;simp only [List.cons.injEq] at h;rw [h.1,dbl_inj h.2]
theorem replaceK_skip {c:UInt8} (h:c≠39) (l:List UInt8):∀ k,Lib.replaceK [39] [39,39] k (c :: l)=c :: Lib.replaceK [39] [39,39] k l
 | 0=>rfl
 | k+1=>by
  have hp:([39]:List UInt8).isPrefixOf (c :: l)=false:=(by simp [List.isPrefixOf,Ne.symm h]);have hix:Lib.index (c :: l) [39]=if Lib.index l [39]==-1 then -1 else Lib.index l [39]+1:=(by rw [Lib.index,hp]; simp);by_cases hm:Lib.index l [39]=-1
  ·rw [Lib.replaceK,Lib.replaceK,hix,hm];rfl
  ·have hge:=Lib.index_ge l [39];obtain ⟨j,hj⟩:∃ j:Nat,Lib.index l [39]=j:=⟨(Lib.index l [39]).toNat,by omega⟩;have hix':Lib.index (c :: l) [39]=((j+1:Nat):Int):=(by rw [hix,if_neg (fun e=>hm (beq_iff_eq.1 e)),hj]; omega);rw [Lib.replaceK_hit _ _ k _ _ hix',Lib.replaceK_hit _ _ k _ _ hj];rfl
theorem replaceAll_dbl:∀ s:List UInt8,Lib.replaceK [39] [39,39] (Lib.count s [39]) s=dbl s
 | []=>by rw [Lib.count_miss (by simp [Lib.index])]; rfl
 | c :: l=>by
  by_cases h:c=39
  ·subst h;have hix:Lib.index ((39:UInt8) :: l) [39]=((0:Nat):Int):=(by rw [Lib.index]; simp [List.isPrefixOf]);rw [Lib.count_cons_eq,Nat.add_comm,Lib.replaceK_hit _ _ _ _ _ hix];simp only [dbl,if_true,List.take_zero,List.nil_append,List.cons_append,List.length_cons,List.length_nil,Nat.zero_add,List.drop_succ_cons,List.drop_zero,replaceAll_dbl l]
  ·rw [Lib.count_cons_ne _ _ _ h,replaceK_skip h,replaceAll_dbl l];simp only [dbl,if_neg h]
theorem replaceAll_inj {s t:ByteArray} (h:Lib.replaceAll s.data.toList [39] [39,39]=Lib.replaceAll t.data.toList [39] [39,39]):s=t:=by
 have e:∀ l:List UInt8,Lib.replaceAll l [39] [39,39]=dbl l:=by
  intro l;have h5:Lib.replaceNum l [39] (-1)=Lib.count l [39]:=by
   unfold Lib.replaceNum;rw [if_pos (.inl (by decide))]
  unfold Lib.replaceAll Lib.replace;rw [if_neg (by decide),h5,replaceAll_dbl]
 rw [e,e] at h;have:=dbl_inj h;obtain ⟨⟨a⟩⟩:=s;obtain ⟨⟨b⟩⟩:=t;simp only at this;rw [this]
theorem itoa_inj {n m:Int} (h0:0≤n) (h1:0≤m) (h:Lib.itoa n=Lib.itoa m):n=m:=by
 obtain ⟨a,rfl⟩:∃ a:Nat,n=(a:Int):=⟨n.toNat,by omega⟩;obtain ⟨b,rfl⟩:∃ b:Nat,m=(b:Int):=⟨m.toNat,by omega⟩;rw [Lib.itoa_nonneg,Lib.itoa_nonneg] at h;have:=congrArg numOf h;rw [numOf_dec,numOf_dec] at this;rw [this]
theorem texL_inj {x y:Val} (hx:flatB x=true) (hy:flatB y=true) (dx:OddC x) (dy:OddC y) (h:texL x=texL y):x=y:=by
 obtain ⟨k,s,dn,ds,n,cols,rows⟩:=x;obtain ⟨k',s',dn',ds',n',cols',rows'⟩:=y;unfold OddC at dx dy;simp only [flatB,bareB] at hx hy;simp only [texL] at h;simp only at dx dy;by_cases x0:k=0
 ·subst x0;rw [if_pos rfl] at hx h;simp only [Bool.and_eq_true,decide_eq_true_eq] at hx;by_cases y0:k'=0
  ·subst y0;rw [if_pos rfl] at hy h;simp only [Bool.and_eq_true,decide_eq_true_eq] at hy;obtain ⟨⟨a1,a2⟩,b1,b2,b3,-,b4,b5⟩:=hx;obtain ⟨⟨c1,c2⟩,d1,d2,d3,-,d4,d5⟩:=hy;rw [itoa_inj a1 c1 (List.cons.inj h).2,b1,b2,b3,b4,b5,d1,d2,d3,d4,d5]
  ·exfalso;rw [if_neg y0] at h
   (repeat' split at h) <;> exact absurd (List.cons.inj h).1 (by decide)
 ·rw [if_neg x0] at hx h;by_cases x1:k=1
  ·subst x1;rw [if_pos rfl] at hx h;simp only [Bool.and_eq_true,decide_eq_true_eq] at hx;by_cases y1:k'=1
   ·subst y1;rw [if_neg (by decide),if_pos rfl] at hy h;simp only [Bool.and_eq_true,decide_eq_true_eq] at hy;obtain ⟨-,-,b2,b3,b6,b4,b5⟩:=hx;obtain ⟨-,-,d2,d3,d6,d4,d5⟩:=hy;have hs:=replaceAll_inj (List.append_cancel_right (List.cons.inj h).2);rw [hs,b2,b3,b4,b5,b6,d2,d3,d4,d5,d6]
   ·exfalso
    (repeat' split at h) <;> first | exact absurd (List.cons.inj h).1 (by decide) | contradiction
  ·rw [if_neg x1] at hx h;by_cases x2:k=2
   ·subst x2;rw [if_pos rfl] at hx h;simp only [Bool.and_eq_true,decide_eq_true_eq] at hx;by_cases y2:k'=2
    ·subst y2;rw [if_neg (by decide),if_neg (by decide),if_pos rfl] at hy h;simp only [Bool.and_eq_true,decide_eq_true_eq] at hy;obtain ⟨a,b1,-,-,b6,b4,b5⟩:=hx;obtain ⟨a',d1,-,-,d6,d4,d5⟩:=hy;obtain ⟨e1,e2⟩:=decL_inj (List.cons.inj h).2;simp only [decR,Bool.and_eq_true,decide_eq_true_eq] at a a';have e3:ds=ds':=(by have:=a.1.1.1; have:=a'.1.1.1; omega);rw [e1,e3,b1,b4,b5,b6,d1,d4,d5,d6]
    ·exfalso
     (repeat' split at h) <;> first | exact absurd (List.cons.inj h).1 (by decide) | contradiction
   ·rw [if_neg x2] at hx h;by_cases x3:k=3
    ·subst x3;rw [if_pos rfl] at hx h;simp only [Bool.and_eq_true,decide_eq_true_eq] at hx;by_cases y3:k'=3
     ·subst y3;rw [if_neg (by decide),if_neg (by decide),if_neg (by decide),if_pos rfl] at hy h;simp only [Bool.and_eq_true,decide_eq_true_eq] at hy;obtain ⟨-,b1,b2,b3,-,b4,b5⟩:=hx;obtain ⟨-,d1,d2,d3,-,d4,d5⟩:=hy;obtain ⟨u1,u2⟩:=dx rfl;obtain ⟨v1,v2⟩:=dy rfl;have e:=dateL_inj (by omega) (by omega) (by omega) (by omega) (List.cons.inj h).2;have e3:n=n':=(by omega);rw [e3,b1,b2,b3,b4,b5,d1,d2,d3,d4,d5]
     ·exfalso
      (repeat' split at h) <;> first | exact absurd (List.cons.inj h).1 (by decide) | contradiction
    ·rw [if_neg x3] at hx h;by_cases x4:k=4
     ·subst x4;rw [if_pos rfl] at hx;simp only [Bool.and_eq_true,decide_eq_true_eq] at hx;by_cases y4:k'=4
      ·subst y4;rw [if_neg (by decide),if_neg (by decide),if_neg (by decide),if_neg (by decide)] at hy h;rw [if_pos rfl] at hy;simp only [Bool.and_eq_true,decide_eq_true_eq] at hy;obtain ⟨a,b1,b2,b3,-,b4,b5⟩:=hx;obtain ⟨a',d1,d2,d3,-,d4,d5⟩:=hy;rw [itoa_inj (by omega) (by omega) (List.cons.inj h).2,b1,b2,b3,b4,b5,d1,d2,d3,d4,d5]
      ·exfalso;have y5:k'=0∨k'=1∨k'=2∨k'=3:=by
        apply Classical.byContradiction;intro hn;simp only [not_or] at hn;rw [if_neg hn.1,if_neg hn.2.1,if_neg hn.2.2.1,if_neg hn.2.2.2,if_neg y4] at hy;cases hy
       rcases y5 with rfl | rfl | rfl | rfl
       ·rw [if_pos rfl] at h; exact absurd (List.cons.inj h).1 (by decide)
       ·rw [if_neg (by decide),if_pos rfl] at h; exact absurd (List.cons.inj h).1 (by decide)
       ·rw [if_neg (by decide),if_neg (by decide),if_pos rfl] at h; exact absurd (List.cons.inj h).1 (by decide)
       ·rw [if_neg (by decide),if_neg (by decide),if_neg (by decide),if_pos rfl] at h; exact absurd (List.cons.inj h).1 (by decide)
     ·rw [if_neg x4] at hx;cases hx
theorem TxOk.of {x:Val} (h5:x.kind≠5) (hx:flatB x=true) (dx:OddC x):TxOk x:=by
 refine ⟨h5,hx,?_,fun h=>(dx h).2⟩;by_cases h1:x.kind=1
 ·simp only [flatB,h1] at hx;simp [textB] at hx;omega
 ·have:x.s=⟨#[]⟩:=by
   unfold flatB bareB at hx;by_cases h0:x.kind=0
   ·simp [h0] at hx; exact hx.2.1
   ·by_cases h2:x.kind=2
    ·simp [h2] at hx; exact hx.2.1
    ·by_cases h3:x.kind=3
     ·simp [h3] at hx; exact hx.2.1
     ·by_cases h4:x.kind=4
      ·simp [h4] at hx; exact hx.2.1
      ·simp [h0,h1,h2,h3,h4] at hx
  rw [this]
  decide
end Go.Proofs.YthmckfloppblcaaGreatDoor
namespace Go.Proofs.YthmckfloppblcaaGreatDoor
open Go Go.RowKit

def JOk (l:List (List Val)):Prop:=∃ l0 z,l=l0++z∧l0.length≤6∧(∀ r∈l0,∀ y∈r,OddC y)∧∀ r∈z,∀ y∈r,y=Val.zero
theorem JOk.odd {l:List (List Val)} (h:JOk l):∀ r∈l,∀ y∈r,OddC y:=by
 obtain ⟨l0,z,rfl,-,h1,h2⟩:=h;intro r hr y hy
 rcases List.mem_append.1 hr with hr | hr
 ·exact h1 r hr y hy
 ·rw [h2 r hr y hy];exact OddC.zero
theorem JOk.of {l:List (List Val)} (h1:l.length≤6) (h2:∀ r∈l,∀ y∈r,OddC y):JOk l:=⟨l,[],by simp,h1,h2,by simp⟩
theorem cellS_odd (k:Int) {m:Nat} (h:m<5):OddC (cellS k m):=by
 unfold cellS;split
 ·exact OddC.zero
 ·split
  ·intro h3;exfalso
   revert h3
   split
   ·decide
   ·split
    ·decide
    ·split <;> decide
  ·split
   ·intro _;show (738000:Int)≤738000+(m:Int)∧738000+(m:Int)≤738999;omega
   ·intro h3;exact absurd h3 (show ¬ ((1:Int)=3) by decide)
theorem MadeT.odd {name:ByteArray} {t:Look} (h:MadeT name t):t.rows.length≤6∧∀ r∈t.rows,∀ y∈r,OddC y:=by
 obtain ⟨-,ks,-,-,-,-,-,h1,h2⟩:=h;refine ⟨h1,fun r hr y hy => ?_⟩;obtain ⟨h3,h4⟩:=h2 r hr;obtain ⟨j,hj,rfl⟩:=List.mem_iff_getElem.1 hy;obtain ⟨m,hm,he⟩:=h4 j hj (by omega);rw [he];exact cellS_odd _ hm
end Go.Proofs.YthmckfloppblcaaGreatDoor
namespace Go.Proofs.YthmckfloppblcaaGreatDoor
open Go Go.RowKit

theorem bsA_inj {a b:List UInt8} (h:bsA a=bsA b):a=b:=by
 unfold bsA at h;injection h with h;have:=congrArg Array.toList h
 simpa using this
theorem cellAt_mem (l:List (List Val)) (j k:Nat):cellAt l j k=Val.zero∨∃ r∈l,cellAt l j k∈r:=by
 by_cases hk:k<l.length
 ·have h0:cellAt l j k=l[k].getD j Val.zero:=by
   unfold cellAt;rw [getD_of l k [] hk]
  rw [h0];by_cases hj:j<l[k].length
  ·rw [getD_of l[k] j Val.zero hj];exact .inr ⟨_,List.getElem_mem hk,List.getElem_mem hj⟩
  ·left;rw [List.getD_eq_getElem?_getD,List.getElem?_eq_none (show l[k].length≤j by omega)];rfl
 ·left;unfold cellAt;rw [List.getD_eq_getElem?_getD (l:=l),List.getElem?_eq_none (show l.length≤k by omega)];rfl
theorem cellAt_z {l0 z:List (List Val)} (hz:∀ r∈z,∀ y∈r,y=Val.zero) (j:Nat) {q:Nat} (hq:l0.length≤q):cellAt (l0++z) j q=Val.zero:=by
 have h:cellAt (l0++z) j q=cellAt z j (q-l0.length):=by
  unfold cellAt;rw [List.getD_eq_getElem?_getD,List.getD_eq_getElem?_getD,List.getD_eq_getElem?_getD,List.getD_eq_getElem?_getD,List.getElem?_append_right hq]
 rw [h]
 rcases cellAt_mem z j (q-l0.length) with h | ⟨r,hr,hy⟩
 ·exact h
 ·exact hz r hr _ hy
theorem isB_zl (v:Val):isB Val.zero v=false:=by
 unfold isB;rw [show decide (Val.zero.kind≠0)=false from by decide];rfl
theorem isB_zr (x:Val):isB x Val.zero=false:=by
 unfold isB;by_cases h:x=Val.zero
 ·rw [h]
  decide
 ·rw [decide_eq_false h,Bool.and_false]
theorem isTab_cell {t:Val} (h:isTabB t=true):∀ r∈t.rows,∀ y∈r,cellOK y=true:=by
 simp only [isTabB,Bool.and_eq_true,decide_eq_true_eq] at h;have h2:=h.2;unfold rightB at h2;rw [if_pos h.1,Bool.and_eq_true] at h2;have h3:=h2.1;unfold tableR at h3;rw [Bool.and_eq_true] at h3;intro r hr y hy;have h4:=List.all_eq_true.1 h3.2 r hr;unfold rowOK at h4;rw [Bool.and_eq_true] at h4;exact List.all_eq_true.1 h4.2 y hy
theorem cellOK_iff {y:Val} (h:cellOK y=true):y.kind≠5∧flatB y=true:=by
 unfold cellOK at h;rw [Bool.and_eq_true,decide_eq_true_eq] at h;exact h
def CellQ (y:Val):Prop:=flatB y=true∧OddC y
theorem cellQ_at {t:Val} (h:isTabB t=true) (ho:∀ r∈t.rows,∀ y∈r,OddC y) (j k:Nat):CellQ (cellAt t.rows j k):=by
 rcases cellAt_mem t.rows j k with h1 | ⟨r,hr,hy⟩
 ·rw [h1];exact ⟨by decide,OddC.zero⟩
 ·exact ⟨(cellOK_iff (isTab_cell h r hr _ hy)).2,ho r hr _ hy⟩
theorem isB_key {x y:Val} (hx:CellQ x) (hy:CellQ y):isB x y=decide (x.kind≠0∧keyT x=keyT y):=by
 unfold isB;by_cases h:x=y
 ·subst h;simp
 ·have hk:keyT x≠keyT y:=fun e=>h (texL_inj hx.1 hy.1 hx.2 hy.2 (bsA_inj e));simp [h,hk]
theorem prs_eq {a b:Val} (ha:isTabB a=true) (hb:isTabB b=true) (ja:∀ r∈a.rows,∀ y∈r,OddC y) (jb:∀ r∈b.rows,∀ y∈r,OddC y) (i j p:Nat):prsU a.rows b.rows i j p=prsF a.rows b.rows i j p:=by
 unfold prsU prsF;congr 1
 funext p
 congr 1;unfold plcU plcF;congr 1
 funext q
 exact isB_key (cellQ_at hb jb j q) (cellQ_at ha ja i p)
theorem plcU_six {l1 l2:List (List Val)} (h2:JOk l2) (i j p n:Nat):(plcU l1 l2 i j p n).length≤6:=by
 obtain ⟨l0,z,rfl,h3,-,h5⟩:=h2;have key:(plcU l1 (l0++z) i j p n).length≤min n l0.length:=by
  induction n with
  | zero=>simp [plcU]
  | succ n ih =>
   rw [plcU_succ,List.length_append];by_cases hn:n<l0.length
   ·have:(if isB (cellAt (l0++z) j n) (cellAt l1 i p)=true then [n] else []).length≤1:=(by split <;> simp);omega
   ·rw [cellAt_z h5 j (by omega),isB_zl,if_neg (by simp),List.length_nil];omega
 omega
theorem prsU_small {l1 l2:List (List Val)} (h1:JOk l1) (h2:JOk l2) (i j p:Nat):(prsU l1 l2 i j p).length≤36:=by
 obtain ⟨l0,z,rfl,h3,-,h5⟩:=h1;have key:(prsU (l0++z) l2 i j p).length≤6*min p l0.length:=by
  induction p with
  | zero=>simp [prsU]
  | succ p ih =>
   rw [prsU_succ,List.length_append,List.length_map];by_cases hn:p<l0.length
   ·have:=plcU_six (l1:=l0++z) h2 i j p l2.length;omega
   ·have:plcU (l0++z) l2 i j p l2.length=[]:=by
     unfold plcU;rw [List.filter_eq_nil_iff];intro q _;rw [cellAt_z h5 i (by omega),isB_zr];simp
    rw [this,List.length_nil];omega
 omega
theorem join_hX {a b:Val} (ha:JOk a.rows) (hb:JOk b.rows) (i j:Nat) (ta:isTabB a=true) (tb:isTabB b=true) (hi:i<a.cols.length) (hj:j<b.cols.length) :
  (∀ r∈a.rows,TxOk (r.getD i Val.zero))∧(∀ r∈b.rows,(r.getD j Val.zero).kind≠0→TxOk (r.getD j Val.zero))∧(prsF a.rows b.rows i j a.rows.length).length≤100:=by
 refine ⟨fun r hr => ?_,fun r hr _ => ?_,?_⟩
 ·obtain ⟨k,hk,rfl⟩:=List.mem_iff_getElem.1 hr;have hl:i<a.rows[k].length:=(by rw [isTab_row ta hk]; exact hi);rw [getD_of _ _ _ hl];have h1:=cellOK_iff (isTab_cell ta _ hr _ (List.getElem_mem hl));exact TxOk.of h1.1 h1.2 (ha.odd _ hr _ (List.getElem_mem hl))
 ·obtain ⟨k,hk,rfl⟩:=List.mem_iff_getElem.1 hr;have hl:j<b.rows[k].length:=(by rw [isTab_row tb hk]; exact hj);rw [getD_of _ _ _ hl];have h1:=cellOK_iff (isTab_cell tb _ hr _ (List.getElem_mem hl));exact TxOk.of h1.1 h1.2 (hb.odd _ hr _ (List.getElem_mem hl))
 ·rw [← prs_eq ta tb ha.odd hb.odd];have:=prsU_small ha hb i j a.rows.length;omega
end Go.Proofs.YthmckfloppblcaaGreatDoor
