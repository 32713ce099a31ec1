/- The reference's Odd: rows and cells replaced. Conditions: the table reads as data, and is regular. -/
import Derived.Test.YthmckfloppblcaaGreatDoorBj17
import Derived.IntWalk
set_option maxRecDepth 100000
set_option maxHeartbeats 4000000
namespace Go.Proofs.YthmckfloppblcaaGreatDoor
open Go Go.RowKit
theorem Rows.tl {w:World} {S:Nat→Prop} {q cr:Nat} {A:Option Addr} {l:List (List Val)} (h:Rows w S q A l) (hl:l.length≤cr):Rows w S q (if cr=1 then A else A.map fun x=>⟨x.block,x.off+1,none⟩) l.tail:=by
 match l,h,hl with
 | [],_,_=>exact Rows.nil
 | r :: rs,h,hl =>
  obtain ⟨b,o,_,_,rfl,_⟩:=h.at_ (k:=0) (by simp);split
  ·have:rs=[]:=List.eq_nil_of_length_eq_zero (by simp at hl; omega);subst this;exact Rows.nil
  ·exact h.tail
theorem Row.tl {w:World} {S:Nat→Prop} {q cr:Nat} {A:Option Addr} {l:List Val} (h:Row w S q A l) (hl:l.length≤cr):Row w S q (if cr=1 then A else A.map fun x=>⟨x.block,x.off+7,none⟩) l.tail:=by
 match l,h,hl with
 | [],_,_=>exact Row.nil
 | r :: rs,h,hl =>
  obtain ⟨b,o,_,_,_,_,rfl,_⟩:=h.at_ (k:=0) (by simp);split
  ·have:rs=[]:=List.eq_nil_of_length_eq_zero (by simp at hl; omega);subst this;exact Row.nil
  ·exact h.tail

theorem odd_5 (t:Look) (A B:Option Addr) (c e:Nat) (q0 q1 q2:Int) (w:World) (S:Nat→Prop) (h:RL w S 2 t A B) (ht:OkT t) (hm:(q0.tmod 8+8) % 8=5):Calls Tryz.prog 8 #[(.agg #[.string t.name,.slice A t.cols.length c,.slice B t.rows.length e]),.agg #[.int .i64 q0,.int .i64 q1,.int .i64 q2]] w (RetOdR w t):=by
 have H:=Hd h;obtain ⟨ht1,ht2,ht3,ht4⟩:=ht;have HT4:=Hd ht4;obtain ⟨hb1,hb2⟩:=next_bd q0 8 (by omega);have hnm:=h.1;clear h ht4;obtain ⟨W0,hW0⟩:∃ W0,W0=((w.alloc (.cells #[.string t.name,.slice A t.cols.length c,.slice B t.rows.length e] 36)).alloc (.cells #[.int .i64 q0,.int .i64 q1,.int .i64 q2] 24)).alloc (.cells #[.string ⟨#[]⟩,.slice none 0 0,.slice none 0 0] 36):=⟨_,rfl⟩;have HW0:=Hd hW0;have hx0:Ext w W0:=(by rw [hW0]; exact (((Ext.refl w).alloc _).alloc _).alloc _);have b0:Blk W0 w.heap.size 36 #[.string t.name,.slice A t.cols.length c,.slice B t.rows.length e]:=(by rw [hW0]; exact ((Blk.new _ _ _).keep (Kept.alloc _ _ _)).keep (Kept.alloc _ _ _));have b1:Blk W0 (w.heap.size+1) 24 #[.int .i64 q0,.int .i64 q1,.int .i64 q2]:=by
  rw [hW0];have:=(Blk.new (w.alloc (.cells #[.string t.name,.slice A t.cols.length c,.slice B t.rows.length e] 36)) 24 #[.int .i64 q0,.int .i64 q1,.int .i64 q2]).keep (Kept.alloc _ _ (.cells #[.string ⟨#[]⟩,.slice none 0 0,.slice none 0 0] 36))
  simpa using this
 have b2:Blk W0 (w.heap.size+1+1) 36 #[.string ⟨#[]⟩,.slice none 0 0,.slice none 0 0]:=by
  rw [hW0];have:=Blk.new ((w.alloc (.cells #[.string t.name,.slice A t.cols.length c,.slice B t.rows.length e] 36)).alloc (.cells #[.int .i64 q0,.int .i64 q1,.int .i64 q2] 24)) 36 #[.string ⟨#[]⟩,.slice none 0 0,.slice none 0 0]
  simpa using this
 have hs0:W0.heap.size=w.heap.size+3:=(by rw [hW0]; simp);have HX0:=Hd hx0;have HB0:=Hd b0;have HB1:=Hd b1;have HB2:=Hd b2;have HS0:=Hd hs0;clear hW0 hx0 b0 b1 b2 hs0
 go_enter Tryz.func8,Tryz.ntmps8
 go_wp2_with fail
 rw [← HW0.o];refine (r09_Copy 2 t A B c e W0 S (H.o.keep (HX0.o.kept S))).mono ?_;rintro e1 w1 ⟨Ac,cc,Ar,cr,rfl,hoc,hor,hsep,hx1⟩;rw [HS0.o] at hoc hor;have HM1:=Hd (show OD w q0 q1 q2 t.name Ac cc t.cols Ar cr t.rows (((w1.setCell ⟨w.heap.size,0,none⟩ (.string t.name)).setCell ⟨w.heap.size,1,none⟩ (.slice Ac t.cols.length cc)).setCell ⟨w.heap.size,2,none⟩ (.slice Ar t.rows.length cr)) by
  have ho:=(((Only.refl w.heap.size w1).set 0 (.string t.name)).set 1 (.slice Ac t.cols.length cc)).set 2 (.slice Ar t.rows.length cr);refine ⟨(HX0.o.trans hx1).only ho (by omega),?_,(HB1.o.keep (hx1.kept _)).keep (ho.kept fun b _ e=>by omega),(HB2.o.keep (hx1.kept _)).keep (ho.kept fun b _ e=>by omega),⟨ho.own hoc.1 (by omega),hoc.2⟩,hor.keep (ho.kept fun b _ e=>by omega) (fun b hb hb'=>hsep b hb' hb),hsep⟩;have:=(((HB0.o.keep (hx1.kept _)).set 0 (.string t.name)).set 1 (.slice Ac t.cols.length cc)).set 2 (.slice Ar t.rows.length cr)
  simpa using this)
 have q5:=HB0.o.keep (hx1.kept _);have k50:=q5.cell (i:=0) rfl;have k51:=q5.cell (i:=1) rfl;have k52:=q5.cell (i:=2) rfl;have kf:=q5.frozen;have kz:=q5.lt;clear hoc hor hsep hx1 q5 HX0 HB0 HB1 HB2 HS0 HW0
 go_upto_region 2 with fail
 obtain ⟨w2,hw2⟩:∃ w2,w2=(((w1.setCell ⟨w.heap.size,0,none⟩ (.string t.name)).setCell ⟨w.heap.size,1,none⟩ (.slice Ac t.cols.length cc)).setCell ⟨w.heap.size,2,none⟩ (.slice Ar t.rows.length cr)):=⟨_,rfl⟩;rw [← hw2] at HM1;rw [← hw2];clear hw2 k50 k51 k52 kf kz;obtain ⟨cols,hcols⟩:∃ cols,cols=t.cols:=⟨_,rfl⟩;obtain ⟨rows,hrows⟩:∃ rows,rows=t.rows:=⟨_,rfl⟩;obtain ⟨nm,hnmE⟩:∃ nm,nm=t.name:=⟨_,rfl⟩;rw [← hcols,← hrows,← hnmE] at HM1;rw [← hcols] at ht1 ht2 HT4;rw [← hrows] at ht3 HT4;rw [← hnmE] at hnm;have HRW:=Hd hrows;clear hcols hrows hnmE;have HM:=HM1;have d0:=HM1.o.box.cell (i:=0) rfl;have d1:=HM1.o.box.cell (i:=1) rfl;have d2:=HM1.o.box.cell (i:=2) rfl;have df:=HM1.o.box.frozen;have dz:=HM1.o.box.lt;have g0:=HM1.o.qb.cell (i:=0) rfl;have g1:=HM1.o.qb.cell (i:=1) rfl;have g2:=HM1.o.qb.cell (i:=2) rfl;have gz:=HM1.o.qb.lt;have HR4:=Hd (show ∀ r∈rows,r.length≤4294967296 from fun r hr=>by rw [HT4.o r hr]; omega);by_cases h0:0<rows.length
 ·have hcap:=HM.o.rows.cap;have h1:1≤rows.length:=h0
  go_upto_region 27 with fail
  obtain ⟨wf,hwf⟩:∃ wf,wf=(w2.setCell ⟨w.heap.size,2,none⟩ (.slice (if cr=1 then Ar else Ar.map fun x=>⟨x.block,x.off+1,none⟩) (rows.length-1) (cr-1))):=⟨_,rfl⟩;have HF:=Hd (show ∃ (t:Look) (A:Option Addr) (c:Nat) (B:Option Addr) (e:Nat),OF w t A c B e wf∧OddR rows t.rows by rw [hwf]; exact ⟨⟨nm,cols,rows.tail⟩,Ac,cc,(if cr=1 then Ar else Ar.map fun x=>⟨x.block,x.off+1,none⟩),cr-1,OF.of HM.o ((Only.refl w.heap.size w2).set 2 (.slice (if cr=1 then Ar else Ar.map fun x=>⟨x.block,x.off+1,none⟩) (rows.length-1) (cr-1))) (by have:=HM.o.box.set 2 (.slice (if cr=1 then Ar else Ar.map fun x=>⟨x.block,x.off+1,none⟩) (rows.length-1) (cr-1)); simpa using this) ⟨hnm,HM.o.cols.strs (by omega) fun b hb=>(HM.o.cols.1.blk hb).1,(HM.o.rows.rows (by omega) HR4.o).tl hcap⟩ ⟨HM.o.cols.1.cap,by simp; omega⟩,OddR.tail _⟩);rw [← hwf];clear hwf;obtain ⟨t',A',c',B',e',hf,hor⟩:=HF.o;have HOR:=Hd hor;clear hor;have HF:=Hd hf;have f0:=hf.box.cell (i:=0) rfl;have f1:=hf.box.cell (i:=1) rfl;have f2:=hf.box.cell (i:=2) rfl;have r0:=hf.res.cell (i:=0) rfl;have r1:=hf.res.cell (i:=1) rfl;have r2:=hf.res.cell (i:=2) rfl;have rf:=hf.res.frozen;have rz:=hf.res.lt;clear hf d0 d1 d2 df dz g0 g1 g2 gz;go_wp2
  all_goals refine bodyPost_ret (v:=(.agg #[.string t'.name,.slice A' t'.cols.length c',.slice B' t'.rows.length e'])) (by simp [results,Tryz.results8,go_sem,r0,r1,r2]) rfl ⟨t',A',c',B',e',rfl,HF.o.cap,RL.mono (RL.keep HF.o.rl (K3 ?_)) fun b _ hb=>by unfold Fresh; omega,E3 ?_,by have h:=HOR.o; rw [HRW.o] at h; exact h⟩
  all_goals first | exact ⟨HF.o.ext,by omega⟩ | omega
 ·have h1:rows.length=0:=by omega
  go_upto_region 27 with fail
  obtain ⟨wf,hwf⟩:∃ wf,wf=w2:=⟨_,rfl⟩;have HF:=Hd (show ∃ (t:Look) (A:Option Addr) (c:Nat) (B:Option Addr) (e:Nat),OF w t A c B e wf∧OddR rows t.rows by rw [hwf]; exact ⟨_,_,_,_,_,HM.o.fin hnm (by omega) (by omega) HR4.o,OddR.refl _⟩);rw [← hwf];clear hwf;obtain ⟨t',A',c',B',e',hf,hor⟩:=HF.o;have HOR:=Hd hor;clear hor;have HF:=Hd hf;have f0:=hf.box.cell (i:=0) rfl;have f1:=hf.box.cell (i:=1) rfl;have f2:=hf.box.cell (i:=2) rfl;have r0:=hf.res.cell (i:=0) rfl;have r1:=hf.res.cell (i:=1) rfl;have r2:=hf.res.cell (i:=2) rfl;have rf:=hf.res.frozen;have rz:=hf.res.lt;clear hf d0 d1 d2 df dz g0 g1 g2 gz;go_wp2
  all_goals refine bodyPost_ret (v:=(.agg #[.string t'.name,.slice A' t'.cols.length c',.slice B' t'.rows.length e'])) (by simp [results,Tryz.results8,go_sem,r0,r1,r2]) rfl ⟨t',A',c',B',e',rfl,HF.o.cap,RL.mono (RL.keep HF.o.rl (K3 ?_)) fun b _ hb=>by unfold Fresh; omega,E3 ?_,by have h:=HOR.o; rw [HRW.o] at h; exact h⟩
  all_goals first | exact ⟨HF.o.ext,by omega⟩ | omega
def OdCInv (_w w2:World) (_Ar:Option Addr) (_cr _n:Nat) (_g:Nat) (_B:Option Addr) (_m _e0:Nat) (γ:Nat) (w':World):Prop:=γ≤1∧(γ≤0→Ext w2 w')
def gOdC (w w2:World) (_Ar:Option Addr) (cr n:Nat) (g:Nat) (B:Option Addr) (m e0:Nat):Nat→List Value→Nat→World→Prop
 | 0,[v],_,_=>v=.pointer (some ⟨w.heap.size,2,none⟩)
 | 1,[v],_,_=>v=.slice (some ⟨g,0,none⟩) n cr
 | 2,[v],_,_=>v=.pointer (some ⟨w.heap.size,2,none⟩)
 | 3,[v],_,_=>v=.slice (some ⟨g,0,none⟩) n cr
 | 4,[v],_,_=>v=.pointer (some ⟨g,0,none⟩)
 | 5,[v],_,_=>v=.slice B m e0
 | 6,[v],_,_=>v=.slice (if e0=1 then B else B.map fun x=>⟨x.block,x.off+7,none⟩) (m-1) (e0-1)
 | 7,[v],_,_=>v=.pointer (some ⟨g,0,none⟩)
 | 8,[_],γ,w'=>1≤γ∧(γ=1→∃ w3,Ext w2 w3∧w'=w3.setCell ⟨g,0,none⟩ (.slice (if e0=1 then B else B.map fun x=>⟨x.block,x.off+7,none⟩) (m-1) (e0-1)))
 | _,_,_,_=>True
theorem gOdC_st (w w2:World) (Ar:Option Addr) (cr n:Nat) (g:Nat) (B:Option Addr) (m e0:Nat):∀ i l' γ v γ' v',SR (OdCInv w w2 Ar cr n g B m e0) γ v γ' v'→gOdC w w2 Ar cr n g B m e0 i l' γ v→gOdC w w2 Ar cr n g B m e0 i l' γ' v':=by
 intro i l' γ v γ' v' r h;have hle:=r.le;unfold gOdC at h ⊢;split at h
 all_goals first
  | exact h
  | (obtain ⟨h1,h2⟩:=h; exact ⟨h1,by omega⟩)
  | (obtain ⟨h1,h3,h4⟩:=h; exact ⟨h1,by omega,fun e=>by rw [r.eq (by omega)]; exact h4 (by omega)⟩)
  | (obtain ⟨x0,h1,h3,h4⟩:=h; exact ⟨x0,h1,by omega,fun e=>by rw [r.eq (by omega)]; exact h4 (by omega)⟩)
  | (obtain ⟨x0,x1,h1,h3,h4⟩:=h; exact ⟨x0,x1,h1,by omega,fun e=>by rw [r.eq (by omega)]; exact h4 (by omega)⟩)
  | (obtain ⟨x0,x1,x2,h1,h3,h4⟩:=h; exact ⟨x0,x1,x2,h1,by omega,fun e=>by rw [r.eq (by omega)]; exact h4 (by omega)⟩)
  | (obtain ⟨x0,x1,x2,x3,h1,h3,h4⟩:=h; exact ⟨x0,x1,x2,x3,h1,by omega,fun e=>by rw [r.eq (by omega)]; exact h4 (by omega)⟩)
  | (obtain ⟨x0,x1,x2,x3,x4,h1,h3,h4⟩:=h; exact ⟨x0,x1,x2,x3,x4,h1,by omega,fun e=>by rw [r.eq (by omega)]; exact h4 (by omega)⟩)
  | (obtain ⟨h3,h4⟩:=h; exact ⟨by omega,fun e=>by rw [r.eq (by omega)]; exact h4 (by omega)⟩)
def dOdC:Nat→List Nat:=fun i=>[i]
def stOdC:List Nat:=[100,1,100,1,100,1,100,100,1]

theorem odd7_fin {w w2 w3 w':World} {q0 q1 q2:Int} {nm:ByteArray} {Ac Ar:Option Addr} {cc cr:Nat} {cols:List ByteArray} {rows:List (List Val)} {n m g e0:Nat} {B:Option Addr} {X:Nat→Prop} (h:OD w q0 q1 q2 nm Ac cc cols Ar cr rows w2) (hx:Ext w2 w3) (hw:w'=w3.setCell ⟨g,0,none⟩ (.slice (if e0=1 then B else B.map fun x=>⟨x.block,x.off+7,none⟩) (m-1) (e0-1))) (_hn:n=rows.length) (hm:m=cols.length) (hA:Ar=some ⟨g,0,none⟩) (h1:nm.size≤4294967296) (h2:cols.length≤4294967296) (h3:rows.length≤4294967296) (h4:∀ r∈rows,r.length≤4294967296)
  (h0:0<rows.length) (hm0:rows[0].length=cols.length) (hv:OwnVs w2 (w.heap.size+3) X 2 B e0 rows[0]) (hX:∀ b,X b→w.heap.size+3≤b∧ob Ar≠some b) (hne:∀ b,ob B=some b→ob Ar≠some b) (hme:m≤e0):∃ (t:Look) (A:Option Addr) (c:Nat) (B:Option Addr) (e:Nat),OF w t A c B e w'∧OddR rows t.rows:=by
 have hoA:ob Ar=some g:=(by rw [hA]; rfl);have hgl:=(h.rows.blk hoA).1;have hrow:=((hv.ext hx).row (T:=fun b=>w.heap.size+3≤b∧ob Ar≠some b) (by omega) (fun b hb=>⟨(hv.blk hb).1,hne b hb⟩) hX).tl (cr:=e0) (by omega);have hlt:rows[0].tail.length=m-1:=(by rw [List.length_tail,hm0,hm]);have hrows:=(h.rows.ext hx).setHead hA h0 h3 h4 (e':=e0-1) (by omega) hrow;rw [hlt,← hw] at hrows;have hset:∀ S:Nat→Prop,¬ S g→Kept S w2 w':=fun S hS=>by rw [hw]; exact (hx.kept S).trans (Kept.of_set hS)
 refine ⟨⟨nm,cols,rows.set 0 rows[0].tail⟩,Ac,cc,Ar,cr,OF.far h (hset _ (by omega)) ?_ (by simp) h1 ?_ hrows,OddR.head h0⟩
 ·rw [hw]; exact (h.ext.trans hx).setCell (by show _≤g; omega) _
 ·have:=(h.cols.strs (T:=fun b=>w.heap.size+3≤b∧b≠g) h2 fun b hb=>⟨(h.cols.1.blk hb).1,fun e=>h.sep b hb (by rw [e]; exact hoA)⟩).keep (hset _ (by omega));exact this.mono fun b _ hb=>hb.1
theorem odd_7 (t:Look) (A B:Option Addr) (c e:Nat) (q0 q1 q2:Int) (w:World) (S:Nat→Prop) (h:RL w S 2 t A B) (ht:OkT t) (hm:(q0.tmod 8+8) % 8=7):Calls Tryz.prog 8 #[(.agg #[.string t.name,.slice A t.cols.length c,.slice B t.rows.length e]),.agg #[.int .i64 q0,.int .i64 q1,.int .i64 q2]] w (RetOdR w t):=by
 have H:=Hd h;obtain ⟨ht1,ht2,ht3,ht4⟩:=ht;have HT4:=Hd ht4;obtain ⟨hb1,hb2⟩:=next_bd q0 8 (by omega);have hnm:=h.1;clear h ht4;obtain ⟨W0,hW0⟩:∃ W0,W0=((w.alloc (.cells #[.string t.name,.slice A t.cols.length c,.slice B t.rows.length e] 36)).alloc (.cells #[.int .i64 q0,.int .i64 q1,.int .i64 q2] 24)).alloc (.cells #[.string ⟨#[]⟩,.slice none 0 0,.slice none 0 0] 36):=⟨_,rfl⟩;have HW0:=Hd hW0;have hx0:Ext w W0:=(by rw [hW0]; exact (((Ext.refl w).alloc _).alloc _).alloc _);have b0:Blk W0 w.heap.size 36 #[.string t.name,.slice A t.cols.length c,.slice B t.rows.length e]:=(by rw [hW0]; exact ((Blk.new _ _ _).keep (Kept.alloc _ _ _)).keep (Kept.alloc _ _ _));have b1:Blk W0 (w.heap.size+1) 24 #[.int .i64 q0,.int .i64 q1,.int .i64 q2]:=by
  rw [hW0];have:=(Blk.new (w.alloc (.cells #[.string t.name,.slice A t.cols.length c,.slice B t.rows.length e] 36)) 24 #[.int .i64 q0,.int .i64 q1,.int .i64 q2]).keep (Kept.alloc _ _ (.cells #[.string ⟨#[]⟩,.slice none 0 0,.slice none 0 0] 36))
  simpa using this
 have b2:Blk W0 (w.heap.size+1+1) 36 #[.string ⟨#[]⟩,.slice none 0 0,.slice none 0 0]:=by
  rw [hW0];have:=Blk.new ((w.alloc (.cells #[.string t.name,.slice A t.cols.length c,.slice B t.rows.length e] 36)).alloc (.cells #[.int .i64 q0,.int .i64 q1,.int .i64 q2] 24)) 36 #[.string ⟨#[]⟩,.slice none 0 0,.slice none 0 0]
  simpa using this
 have hs0:W0.heap.size=w.heap.size+3:=(by rw [hW0]; simp);have HX0:=Hd hx0;have HB0:=Hd b0;have HB1:=Hd b1;have HB2:=Hd b2;have HS0:=Hd hs0;clear hW0 hx0 b0 b1 b2 hs0
 go_enter Tryz.func8,Tryz.ntmps8
 go_wp2_with fail
 rw [← HW0.o];refine (r09_Copy 2 t A B c e W0 S (H.o.keep (HX0.o.kept S))).mono ?_;rintro e1 w1 ⟨Ac,cc,Ar,cr,rfl,hoc,hor,hsep,hx1⟩;rw [HS0.o] at hoc hor;have HM1:=Hd (show OD w q0 q1 q2 t.name Ac cc t.cols Ar cr t.rows (((w1.setCell ⟨w.heap.size,0,none⟩ (.string t.name)).setCell ⟨w.heap.size,1,none⟩ (.slice Ac t.cols.length cc)).setCell ⟨w.heap.size,2,none⟩ (.slice Ar t.rows.length cr)) by
  have ho:=(((Only.refl w.heap.size w1).set 0 (.string t.name)).set 1 (.slice Ac t.cols.length cc)).set 2 (.slice Ar t.rows.length cr);refine ⟨(HX0.o.trans hx1).only ho (by omega),?_,(HB1.o.keep (hx1.kept _)).keep (ho.kept fun b _ e=>by omega),(HB2.o.keep (hx1.kept _)).keep (ho.kept fun b _ e=>by omega),⟨ho.own hoc.1 (by omega),hoc.2⟩,hor.keep (ho.kept fun b _ e=>by omega) (fun b hb hb'=>hsep b hb' hb),hsep⟩;have:=(((HB0.o.keep (hx1.kept _)).set 0 (.string t.name)).set 1 (.slice Ac t.cols.length cc)).set 2 (.slice Ar t.rows.length cr)
  simpa using this)
 have q5:=HB0.o.keep (hx1.kept _);have k50:=q5.cell (i:=0) rfl;have k51:=q5.cell (i:=1) rfl;have k52:=q5.cell (i:=2) rfl;have kf:=q5.frozen;have kz:=q5.lt;clear hoc hor hsep hx1 q5 HX0 HB0 HB1 HB2 HS0 HW0
 go_upto_region 2 with fail
 obtain ⟨w2,hw2⟩:∃ w2,w2=(((w1.setCell ⟨w.heap.size,0,none⟩ (.string t.name)).setCell ⟨w.heap.size,1,none⟩ (.slice Ac t.cols.length cc)).setCell ⟨w.heap.size,2,none⟩ (.slice Ar t.rows.length cr)):=⟨_,rfl⟩;rw [← hw2] at HM1;rw [← hw2];clear hw2 k50 k51 k52 kf kz;obtain ⟨cols,hcols⟩:∃ cols,cols=t.cols:=⟨_,rfl⟩;obtain ⟨rows,hrows⟩:∃ rows,rows=t.rows:=⟨_,rfl⟩;obtain ⟨nm,hnmE⟩:∃ nm,nm=t.name:=⟨_,rfl⟩;rw [← hcols,← hrows,← hnmE] at HM1;rw [← hcols] at ht1 ht2 HT4;rw [← hrows] at ht3 HT4;rw [← hnmE] at hnm;have HRW:=Hd hrows;clear hcols hrows hnmE;have HM:=HM1;have d0:=HM1.o.box.cell (i:=0) rfl;have d1:=HM1.o.box.cell (i:=1) rfl;have d2:=HM1.o.box.cell (i:=2) rfl;have df:=HM1.o.box.frozen;have dz:=HM1.o.box.lt;have g0:=HM1.o.qb.cell (i:=0) rfl;have g1:=HM1.o.qb.cell (i:=1) rfl;have g2:=HM1.o.qb.cell (i:=2) rfl;have gz:=HM1.o.qb.lt;have HR4:=Hd (show ∀ r∈rows,r.length≤4294967296 from fun r hr=>by rw [HT4.o r hr]; omega);by_cases h0:0<rows.length
 ·obtain ⟨hs,B1,e1,X,ho1,hk1,hv1,hX1,hne1,-⟩:=HM.o.rows.at_ h0 (by omega) HR4.o;obtain ⟨g,o,hAr,-,hgz,hgc⟩:=ho1.rd.some_ (fun h=>by rw [h] at hk1; simp at hk1);have hoff:Ar=some ⟨g,0,none⟩:=by
   rcases ho1.2 with ⟨_,h⟩ | ⟨g',cap,cur,hv,_⟩
   ·omega
   ·injection hv with hv;rw [hv] at hAr;injection hAr with hAr;injection hAr with hAr;rw [hv,hAr]
  have ho0:o=0:=(by rw [hoff] at hAr; injection hAr with hAr; injection hAr with _ hAr; exact hAr.symm);subst ho0;have hm0:rows[0].length=cols.length:=HT4.o _ (List.getElem_mem h0);have HHD:=Hd (show w2.cell? ⟨g,0,none⟩=some (.slice B1 cols.length e1) by have:=hgc 0 _ hk1; rw [hm0] at this; exact this);have HM1M:=Hd ht1;have HME:=Hd (show cols.length≤e1 by rw [← hm0]; obtain ⟨xs,ho,_⟩:=hv1; exact ho.cap);have HFR:=Hd (show ∀ w',Ext w2 w'→w'.frozen? ⟨g,0,none⟩=false by
   intro w' hx
   rcases ho1.2 with ⟨_,h⟩ | ⟨g',cap,cur,hv,_,hh,_⟩
   ·omega
   ·injection hv with hv;rw [hoff] at hv;injection hv with hv;injection hv with hv;subst hv;have:Blk w' g 50 cur:=(hx.block g hgz).trans hh;exact this.frozen 0)
  have HAR:=Hd hoff;have HV1:=Hd hv1;have HX1:=Hd hX1;have HN1:=Hd hne1;have HM0:=Hd hm0;have HD2:=Hd d2;have D2:=Hd (show w2.cell? ⟨w.heap.size,2,none⟩=some (.slice (some ⟨g,0,none⟩) rows.length cr) by rw [← hoff]; exact d2);clear ho1 hk1 hv1 hX1 hne1 hAr hgc hoff hm0
  go_upto_region 26 with fail
  obtain ⟨n,hn⟩:∃ n,n=rows.length:=⟨_,rfl⟩;obtain ⟨m,hm'⟩:∃ m,m=cols.length:=⟨_,rfl⟩;rw [← hn] at D2 h0;rw [← hm'] at HHD HM1M HME;have HNN:=Hd hn;have HMM:=Hd hm';clear hn hm';obtain ⟨B,hB⟩:∃ B,B=B1:=⟨_,rfl⟩;subst hB;obtain ⟨e0,he0⟩:∃ e0,e0=e1:=⟨_,rfl⟩;subst he0;refine wp_region_lin_lit (by kernel_rfl) dOdC (by kernel_rfl) (SR (OdCInv w w2 Ar cr n g B m e0)) (SR.refl _) (SR.trans _) (SN stOdC) (gOdC w w2 Ar cr n g B m e0) (gOdC_st _ _ _ _ _ _ _ _ _) 0 (SN.zero (by decide)) ⟨?_,?_,?_,?_,?_,?_,?_,?_,?_,trivial⟩ ?_
  ·refine LinStep.yes fun vals γ w' ρ hR hN hp hρ hc hf hg=>⟨rfl,?_⟩;have hi:=hR.inv ⟨by omega,fun _=>(Ext.refl w2).drew⟩;have e2:ρ (.tmp 2)=.pointer (some ⟨w.heap.size,0,none⟩):=hρ 2;clear hR hN hp hρ hi;go_light;go_simp;exact ⟨γ,SR.refl _ _ _,fun _ _ _ h=>h,rfl⟩
  ·refine LinStep.yes fun vals γ w' ρ hR hN hp hρ hc hf hg=>⟨rfl,?_⟩;have hi:=hR.inv ⟨by omega,fun _=>(Ext.refl w2).drew⟩;have e130:ρ (.tmp 130)=_:=(hρ 130).trans (hp 0 (by decide));have k1:=(hi.2 (by have h:γ<1:=hN; omega)).cell D2.o;clear hR hN hp hρ hi;go_light;go_simp;exact ⟨γ,SR.refl _ _ _,fun _ _ _ h=>h,rfl⟩
  ·refine LinStep.yes fun vals γ w' ρ hR hN hp hρ hc hf hg=>⟨rfl,?_⟩;have hi:=hR.inv ⟨by omega,fun _=>(Ext.refl w2).drew⟩;have e2:ρ (.tmp 2)=.pointer (some ⟨w.heap.size,0,none⟩):=hρ 2;clear hR hN hp hρ hi;go_light;go_simp;exact ⟨γ,SR.refl _ _ _,fun _ _ _ h=>h,rfl⟩
  ·refine LinStep.yes fun vals γ w' ρ hR hN hp hρ hc hf hg=>⟨rfl,?_⟩;have hi:=hR.inv ⟨by omega,fun _=>(Ext.refl w2).drew⟩;have e132:ρ (.tmp 132)=_:=(hρ 132).trans (hp 2 (by decide));have k1:=(hi.2 (by have h:γ<1:=hN; omega)).cell D2.o;clear hR hN hp hρ hi;go_light;go_simp;exact ⟨γ,SR.refl _ _ _,fun _ _ _ h=>h,rfl⟩
  ·refine LinStep.yes fun vals γ w' ρ hR hN hp hρ hc hf hg=>⟨rfl,?_⟩;have hi:=hR.inv ⟨by omega,fun _=>(Ext.refl w2).drew⟩;have e133:ρ (.tmp 133)=_:=(hρ 133).trans (hp 3 (by decide));have i1:(0:Int)<(n:Int):=(by omega);clear hR hN hp hρ hi;go_light;go_simp;exact ⟨γ,SR.refl _ _ _,fun _ _ _ h=>h,rfl⟩
  ·refine LinStep.yes fun vals γ w' ρ hR hN hp hρ hc hf hg=>⟨rfl,?_⟩;have hi:=hR.inv ⟨by omega,fun _=>(Ext.refl w2).drew⟩;have e134:ρ (.tmp 134)=_:=(hρ 134).trans (hp 4 (by decide));have k1:=(hi.2 (by have h:γ<1:=hN; omega)).cell HHD.o;clear hR hN hp hρ hi;go_light;go_simp;exact ⟨γ,SR.refl _ _ _,fun _ _ _ h=>h,rfl⟩
  ·refine LinStep.yes fun vals γ w' ρ hR hN hp hρ hc hf hg=>⟨rfl,?_⟩;have hi:=hR.inv ⟨by omega,fun _=>(Ext.refl w2).drew⟩;have e135:ρ (.tmp 135)=_:=(hρ 135).trans (hp 5 (by decide));have i1:1≤m:=HM1M.o;have i2:m≤e0:=HME.o;have i3:(1:Int)≤(m:Int):=(by omega);have i4:(m:Int)≤(e0:Int):=(by omega);clear hR hN hp hρ hi;go_light;go_simp;exact ⟨γ,SR.refl _ _ _,fun _ _ _ h=>h,rfl⟩
  ·refine LinStep.yes fun vals γ w' ρ hR hN hp hρ hc hf hg=>⟨rfl,?_⟩;have hi:=hR.inv ⟨by omega,fun _=>(Ext.refl w2).drew⟩;have e131:ρ (.tmp 131)=_:=(hρ 131).trans (hp 1 (by decide));have i1:(0:Int)<(n:Int):=(by omega);clear hR hN hp hρ hi;go_light;go_simp;exact ⟨γ,SR.refl _ _ _,fun _ _ _ h=>h,rfl⟩
  ·refine LinStep.yes fun vals γ w' ρ hR hN hp hρ hc hf hg=>⟨rfl,?_⟩;have hi:=hR.inv ⟨by omega,fun _=>(Ext.refl w2).drew⟩;have e137:ρ (.tmp 137)=_:=(hρ 137).trans (hp 7 (by decide));have e136:ρ (.tmp 136)=_:=(hρ 136).trans (hp 6 (by decide));have h0:γ=0:=(by have h:γ<1:=hN; omega);subst h0;have hx:=hi.2 (by omega);have k1:=hx.cell HHD.o;have kf:=HFR.o w' hx;have HX:=Hd hx;clear hR hN hp hρ hi hx;go_light;go_simp;exact ⟨1,SR.up (by omega) ⟨by omega,fun h=>absurd h (by omega)⟩,SN.up (by omega) (by decide) rfl,by omega,fun _=>⟨w',HX.o,rfl⟩⟩
  ·intro vals γ w' hR hG;have hi:=hR.inv ⟨by omega,fun _=>(Ext.refl w2).drew⟩;obtain ⟨h4,h5⟩:=hG 8 (by decide);obtain ⟨w3,hx3,hw3⟩:=h5 (by have:=hi.1; omega);have HX3:=Hd hx3;have HW3:=Hd hw3;clear hR hG hi h4 h5 hx3 hw3;simp only [lexFrame,Act.put,List.setIfInBounds_toArray,List.set_cons_succ,List.set_cons_zero,Nat.zero_add,Nat.reduceAdd];generalize vals 0=u0,vals 1=u1,vals 2=u2,vals 3=u3,vals 4=u4,vals 5=u5,vals 6=u6,vals 7=u7,vals 8=u8
   go_upto_region 27 with fail
   obtain ⟨wf,hwf⟩:∃ wf,wf=w':=⟨_,rfl⟩;have HF:=Hd (show ∃ (t:Look) (A:Option Addr) (c:Nat) (B:Option Addr) (e:Nat),OF w t A c B e wf∧OddR rows t.rows by rw [hwf]; exact odd7_fin HM.o HX3.o HW3.o HNN.o HMM.o HAR.o hnm (by omega) (by omega) HR4.o (by omega) HM0.o HV1.o HX1.o HN1.o HME.o);rw [← hwf];clear hwf;obtain ⟨t',A',c',B',e',hf,hor⟩:=HF.o;have HOR:=Hd hor;clear hor;have HF:=Hd hf;have f0:=hf.box.cell (i:=0) rfl;have f1:=hf.box.cell (i:=1) rfl;have f2:=hf.box.cell (i:=2) rfl;have r0:=hf.res.cell (i:=0) rfl;have r1:=hf.res.cell (i:=1) rfl;have r2:=hf.res.cell (i:=2) rfl;have rf:=hf.res.frozen;have rz:=hf.res.lt;clear hf d0 d1 d2 df dz g0 g1 g2 gz;go_wp2
   all_goals refine bodyPost_ret (v:=(.agg #[.string t'.name,.slice A' t'.cols.length c',.slice B' t'.rows.length e'])) (by simp [results,Tryz.results8,go_sem,r0,r1,r2]) rfl ⟨t',A',c',B',e',rfl,HF.o.cap,RL.mono (RL.keep HF.o.rl (K3 ?_)) fun b _ hb=>by unfold Fresh; omega,E3 ?_,by have h:=HOR.o; rw [HRW.o] at h; exact h⟩
   all_goals first | exact ⟨HF.o.ext,by omega⟩ | omega
 ·have h1:rows.length=0:=by omega
  go_upto_region 27 with fail
  obtain ⟨wf,hwf⟩:∃ wf,wf=w2:=⟨_,rfl⟩;have HF:=Hd (show ∃ (t:Look) (A:Option Addr) (c:Nat) (B:Option Addr) (e:Nat),OF w t A c B e wf∧OddR rows t.rows by rw [hwf]; exact ⟨_,_,_,_,_,HM.o.fin hnm (by omega) (by omega) HR4.o,OddR.refl _⟩);rw [← hwf];clear hwf;obtain ⟨t',A',c',B',e',hf,hor⟩:=HF.o;have HOR:=Hd hor;clear hor;have HF:=Hd hf;have f0:=hf.box.cell (i:=0) rfl;have f1:=hf.box.cell (i:=1) rfl;have f2:=hf.box.cell (i:=2) rfl;have r0:=hf.res.cell (i:=0) rfl;have r1:=hf.res.cell (i:=1) rfl;have r2:=hf.res.cell (i:=2) rfl;have rf:=hf.res.frozen;have rz:=hf.res.lt;clear hf d0 d1 d2 df dz g0 g1 g2 gz;go_wp2
  all_goals refine bodyPost_ret (v:=(.agg #[.string t'.name,.slice A' t'.cols.length c',.slice B' t'.rows.length e'])) (by simp [results,Tryz.results8,go_sem,r0,r1,r2]) rfl ⟨t',A',c',B',e',rfl,HF.o.cap,RL.mono (RL.keep HF.o.rl (K3 ?_)) fun b _ hb=>by unfold Fresh; omega,E3 ?_,by have h:=HOR.o; rw [HRW.o] at h; exact h⟩
  all_goals first | exact ⟨HF.o.ext,by omega⟩ | omega
def OdEInv (_w w2:World) (_q1 _q2:Int) (_Ac:Option Addr) (_cc _m:Nat) (_ga _cr _n _K _J _g _e0:Nat) (γ:Nat) (w':World):Prop:=γ≤0∧Ext w2 w'
def gOdE (w _w2:World) (q1 _q2:Int) (_Ac:Option Addr) (_cc _m:Nat) (ga cr n K _J _g _e0:Nat):Nat→List Value→Nat→World→Prop
 | 0,[v],_,_=>v=.pointer (some ⟨w.heap.size+1,1,none⟩)
 | 1,[v],_,_=>v=.int .i64 q1
 | 2,[v],_,_=>v=.pointer (some ⟨w.heap.size,2,none⟩)
 | 3,[v],_,_=>v=.slice (some ⟨ga,0,none⟩) n cr
 | 4,[v],_,_=>v=.int .i64 (n:Int)
 | 5,[v],_,_=>v=.int .i64 (q1.tmod (n:Int))
 | 6,[v],_,_=>v=.pointer (some ⟨w.heap.size,2,none⟩)
 | 7,[v],_,_=>v=.slice (some ⟨ga,0,none⟩) n cr
 | 8,[v],_,_=>v=.int .i64 (n:Int)
 | 9,[v],_,_=>v=.int .i64 (q1.tmod (n:Int)+(n:Int))
 | 10,[v],_,_=>v=.pointer (some ⟨w.heap.size,2,none⟩)
 | 11,[v],_,_=>v=.slice (some ⟨ga,0,none⟩) n cr
 | 12,[v],_,_=>v=.int .i64 (n:Int)
 | 13,[v],_,_=>v=.int .i64 (K:Int)
 | 14,[v],_,_=>v=.int .i64 (K:Int)
 | _,_,_,_=>True
theorem gOdE_st (w w2:World) (q1 q2:Int) (Ac:Option Addr) (cc m:Nat) (ga cr n K J g e0:Nat):∀ i l' γ v γ' v',SR (OdEInv w w2 q1 q2 Ac cc m ga cr n K J g e0) γ v γ' v'→gOdE w w2 q1 q2 Ac cc m ga cr n K J g e0 i l' γ v→gOdE w w2 q1 q2 Ac cc m ga cr n K J g e0 i l' γ' v':=by
 intro i l' γ v γ' v' r h;have hle:=r.le;unfold gOdE at h ⊢;split at h
 all_goals first
  | exact h
  | (obtain ⟨h1,h2⟩:=h; exact ⟨h1,by omega⟩)
  | (obtain ⟨h1,h3,h4⟩:=h; exact ⟨h1,by omega,fun e=>by rw [r.eq (by omega)]; exact h4 (by omega)⟩)
  | (obtain ⟨x0,h1,h3,h4⟩:=h; exact ⟨x0,h1,by omega,fun e=>by rw [r.eq (by omega)]; exact h4 (by omega)⟩)
  | (obtain ⟨x0,x1,h1,h3,h4⟩:=h; exact ⟨x0,x1,h1,by omega,fun e=>by rw [r.eq (by omega)]; exact h4 (by omega)⟩)
  | (obtain ⟨x0,x1,x2,h1,h3,h4⟩:=h; exact ⟨x0,x1,x2,h1,by omega,fun e=>by rw [r.eq (by omega)]; exact h4 (by omega)⟩)
  | (obtain ⟨x0,x1,x2,x3,h1,h3,h4⟩:=h; exact ⟨x0,x1,x2,x3,h1,by omega,fun e=>by rw [r.eq (by omega)]; exact h4 (by omega)⟩)
  | (obtain ⟨x0,x1,x2,x3,x4,h1,h3,h4⟩:=h; exact ⟨x0,x1,x2,x3,x4,h1,by omega,fun e=>by rw [r.eq (by omega)]; exact h4 (by omega)⟩)
  | (obtain ⟨h3,h4⟩:=h; exact ⟨by omega,fun e=>by rw [r.eq (by omega)]; exact h4 (by omega)⟩)
def dOdE:Nat→List Nat:=fun i=>[i]
def stOdE:List Nat:=[100,100,100,100,100,100,100,100,100,100,100,100,100,100,100]
def OdFInv (_w w2:World) (_q1 _q2:Int) (_Ac:Option Addr) (_cc _m:Nat) (_ga _cr _n _K _J _g _e0:Nat) (γ:Nat) (w':World):Prop:=γ≤3∧(γ≤2→Ext w2 w')
def gOdF (w w2:World) (q1 q2:Int) (Ac:Option Addr) (cc m:Nat) (ga cr n K J g e0:Nat):Nat→List Value→Nat→World→Prop
 | 0,[v],_,_=>v=.pointer (some ⟨w.heap.size,2,none⟩)
 | 1,[v],_,_=>v=.slice (some ⟨ga,0,none⟩) n cr
 | 2,[v],_,_=>v=.int .i64 (K:Int)
 | 3,[v],_,_=>v=.pointer (some ⟨ga,K,none⟩)
 | 4,[v],_,_=>v=.slice (some ⟨g,0,none⟩) m e0
 | 5,[v],_,_=>v=.pointer (some ⟨w.heap.size+1,2,none⟩)
 | 6,[v],_,_=>v=.int .i64 q2
 | 7,[v],_,_=>v=.pointer (some ⟨w.heap.size,1,none⟩)
 | 8,[v],_,_=>v=.slice Ac m cc
 | 9,[v],_,_=>v=.int .i64 (m:Int)
 | 10,[v],_,_=>v=.int .i64 (q2.tmod (m:Int))
 | 11,[v],_,_=>v=.pointer (some ⟨w.heap.size,1,none⟩)
 | 12,[v],_,_=>v=.slice Ac m cc
 | 13,[v],_,_=>v=.int .i64 (m:Int)
 | 14,[v],_,_=>v=.int .i64 (q2.tmod (m:Int)+(m:Int))
 | 15,[v],_,_=>v=.pointer (some ⟨w.heap.size,1,none⟩)
 | 16,[v],_,_=>v=.slice Ac m cc
 | 17,[v],_,_=>v=.int .i64 (m:Int)
 | 18,[v],_,_=>v=.int .i64 (J:Int)
 | 19,[v],_,_=>v=.pointer (some ⟨w.heap.size+1,1,none⟩)
 | 20,[v],_,_=>v=.int .i64 q1
 | 21,[v],_,_=>v=.pointer (some ⟨w.heap.size+1,2,none⟩)
 | 22,[v],_,_=>v=.int .i64 q2
 | 23,[v],γ,w'=>∃ gg:Nat,v=.slice (some ⟨gg,0,none⟩) 2 2∧1≤γ∧(γ=1→Blk w' gg 3 #[.int .i64 q1,.int .i64 q2])
 | 24,[v],γ,w'=>∃ (x:Val) (A1:Option Addr) (c1:Nat) (B1:Option Addr) (e1:Nat),v=(.agg #[.int .i64 x.kind,.string x.s,.int .i64 x.dn,.int .i64 x.ds,.int .i64 x.n,.slice A1 x.cols.length c1,.slice B1 x.rows.length e1])∧2≤γ∧(γ=2→(x.cols.length≤c1∧x.rows.length≤e1)∧OddC x∧RV w' (fun b=>w2.heap.size≤b) 1 x A1 B1)
 | 25,[v],_,_=>v=.pointer (some ⟨g,J*7,none⟩)
 | 26,[_],γ,w'=>3≤γ∧(γ=3→∃ (w3:World) (x:Val) (A1:Option Addr) (c1:Nat) (B1:Option Addr) (e1:Nat),Ext w2 w3∧(x.cols.length≤c1∧x.rows.length≤e1)∧OddC x∧RV w3 (fun b=>w2.heap.size≤b) 1 x A1 B1∧w'=((((((w3.setCell ⟨g,J*7,none⟩ (.int .i64 x.kind)).setCell ⟨g,J*7+1,none⟩ (.string x.s)).setCell ⟨g,J*7+2,none⟩ (.int .i64 x.dn)).setCell ⟨g,J*7+3,none⟩ (.int .i64 x.ds)).setCell ⟨g,J*7+4,none⟩ (.int .i64 x.n)).setCell ⟨g,J*7+5,none⟩ (.slice A1 x.cols.length c1)).setCell ⟨g,J*7+6,none⟩ (.slice B1 x.rows.length e1))
 | _,_,_,_=>True
theorem gOdF_st (w w2:World) (q1 q2:Int) (Ac:Option Addr) (cc m:Nat) (ga cr n K J g e0:Nat):∀ i l' γ v γ' v',SR (OdFInv w w2 q1 q2 Ac cc m ga cr n K J g e0) γ v γ' v'→gOdF w w2 q1 q2 Ac cc m ga cr n K J g e0 i l' γ v→gOdF w w2 q1 q2 Ac cc m ga cr n K J g e0 i l' γ' v':=by
 intro i l' γ v γ' v' r h;have hle:=r.le;unfold gOdF at h ⊢;split at h
 all_goals first
  | exact h
  | (obtain ⟨h1,h2⟩:=h; exact ⟨h1,by omega⟩)
  | (obtain ⟨h1,h3,h4⟩:=h; exact ⟨h1,by omega,fun e=>by rw [r.eq (by omega)]; exact h4 (by omega)⟩)
  | (obtain ⟨x0,h1,h3,h4⟩:=h; exact ⟨x0,h1,by omega,fun e=>by rw [r.eq (by omega)]; exact h4 (by omega)⟩)
  | (obtain ⟨x0,x1,h1,h3,h4⟩:=h; exact ⟨x0,x1,h1,by omega,fun e=>by rw [r.eq (by omega)]; exact h4 (by omega)⟩)
  | (obtain ⟨x0,x1,x2,h1,h3,h4⟩:=h; exact ⟨x0,x1,x2,h1,by omega,fun e=>by rw [r.eq (by omega)]; exact h4 (by omega)⟩)
  | (obtain ⟨x0,x1,x2,x3,h1,h3,h4⟩:=h; exact ⟨x0,x1,x2,x3,h1,by omega,fun e=>by rw [r.eq (by omega)]; exact h4 (by omega)⟩)
  | (obtain ⟨x0,x1,x2,x3,x4,h1,h3,h4⟩:=h; exact ⟨x0,x1,x2,x3,x4,h1,by omega,fun e=>by rw [r.eq (by omega)]; exact h4 (by omega)⟩)
  | (obtain ⟨h3,h4⟩:=h; exact ⟨by omega,fun e=>by rw [r.eq (by omega)]; exact h4 (by omega)⟩)
def dOdF:Nat→List Nat:=fun i=>[i]
def stOdF:List Nat:=[100,3,100,100,3,100,3,100,3,100,100,100,3,100,100,100,3,100,100,100,3,100,3,1,2,100,3]

theorem Own.blk0 {w:World} {base e sz n c:Nat} {A:Option Addr} {xs:List Value} (h:Own w base e sz A n c xs) (hn:0<n):∃ (g:Nat) (cur:Array Value),A=some ⟨g,0,none⟩∧Blk w g e cur∧base≤g:=by
 rcases h.2 with ⟨_,h0⟩ | ⟨g,cap,cur,hv,hb,hh,_⟩
 ·omega
 ·injection hv with hv;exact ⟨g,cur,hv,hh,hb⟩
theorem odd3_fin {w w2 w3 w':World} {q0 q1 q2:Int} {nm:ByteArray} {Ac Ar:Option Addr} {cc cr:Nat} {cols:List ByteArray} {rows:List (List Val)} {K J g e0:Nat} {X:Nat→Prop} {x:Val} {A1 B1:Option Addr} {c1 e1:Nat} (hod:OddC x) (h:OD w q0 q1 q2 nm Ac cc cols Ar cr rows w2) (hx:Ext w2 w3) (hcp:x.cols.length≤c1∧x.rows.length≤e1) (hxv:RV w3 (fun b=>w2.heap.size≤b) 1 x A1 B1) (hw:w'=((((((w3.setCell ⟨g,J*7,none⟩ (.int .i64 x.kind)).setCell ⟨g,J*7+1,none⟩ (.string x.s)).setCell ⟨g,J*7+2,none⟩ (.int .i64 x.dn)).setCell ⟨g,J*7+3,none⟩ (.int .i64 x.ds)).setCell ⟨g,J*7+4,none⟩ (.int .i64 x.n)).setCell ⟨g,J*7+5,none⟩ (.slice A1 x.cols.length c1)).setCell ⟨g,J*7+6,none⟩ (.slice B1 x.rows.length e1)) (h1:nm.size≤4294967296) (h2:cols.length≤4294967296)
  (hK:K<rows.length) (hJ:J<rows[K].length) (hrl:rows[K].length≤4294967296) (hv:OwnVs w2 (w.heap.size+3) X 2 (some ⟨g,0,none⟩) e0 rows[K]) (hX:∀ b,X b→w.heap.size+3≤b∧ob Ar≠some b) (hsc:ob Ac≠some g)
  (hcl:∀ (w':World) (r':List Val),Kept (fun b=>ob (some ⟨g,0,none⟩)≠some b) w2 w'→r'.length=rows[K].length→Row w' (fun b=>w.heap.size+3≤b) 2 (some ⟨g,0,none⟩) r'→Rows w' (fun b=>w.heap.size+3≤b) 2 Ar (rows.set K r')):∃ (t:Look) (A:Option Addr) (c:Nat) (B:Option Addr) (e:Nat),OF w t A c B e w'∧OddR rows t.rows:=by
 have hg:=hv.blk (k:=g) rfl;have hw2:w.heap.size+3≤w2.heap.size:=(by have:=h.res.lt; omega);obtain ⟨hr,hk⟩:=(hv.ext hx).store7 (T:=fun b=>w.heap.size+3≤b) hJ hrl (x:=x) ⟨by decide,hcp⟩ (hxv.mono fun b _ hb=>⟨by omega,by omega⟩) hg.1 (fun b hb=>(hX b hb).1) hw;have hkk:Kept (fun b=>b≠g) w2 w':=(hx.kept _).trans hk;refine ⟨⟨nm,cols,rows.set K (rows[K].set J x)⟩,Ac,cc,Ar,cr,OF.far h (hkk.mono fun b _ hb=>by omega) ?_ (by simp) h1 ?_ (hcl w' _ (hkk.mono fun b _ hb e=>hb (by rw [e]; rfl)) (by simp) hr),OddR.set hod hK⟩
 ·rw [hw]
  iterate 7 refine Ext.set2 ?_ (by omega) _
  exact h.ext.trans hx
 ·have:=(h.cols.strs (T:=fun b=>w.heap.size+3≤b∧b≠g) h2 fun b hb=>⟨(h.cols.1.blk hb).1,fun e=>hsc (by rw [← e]; exact hb)⟩).keep (hkk.mono fun b _ hb=>hb.2);exact this.mono fun b _ hb=>hb.1

theorem odd_3 (t:Look) (A B:Option Addr) (c e:Nat) (q0 q1 q2:Int) (w:World) (S:Nat→Prop) (h:RL w S 2 t A B) (ht:OkT t) (hm:(q0.tmod 8+8) % 8=3):Calls Tryz.prog 8 #[(.agg #[.string t.name,.slice A t.cols.length c,.slice B t.rows.length e]),.agg #[.int .i64 q0,.int .i64 q1,.int .i64 q2]] w (RetOdR w t):=by
 have H:=Hd h;obtain ⟨ht1,ht2,ht3,ht4⟩:=ht;have HT4:=Hd ht4;obtain ⟨hb1,hb2⟩:=next_bd q0 8 (by omega);have hnm:=h.1;clear h ht4;obtain ⟨W0,hW0⟩:∃ W0,W0=((w.alloc (.cells #[.string t.name,.slice A t.cols.length c,.slice B t.rows.length e] 36)).alloc (.cells #[.int .i64 q0,.int .i64 q1,.int .i64 q2] 24)).alloc (.cells #[.string ⟨#[]⟩,.slice none 0 0,.slice none 0 0] 36):=⟨_,rfl⟩;have HW0:=Hd hW0;have hx0:Ext w W0:=(by rw [hW0]; exact (((Ext.refl w).alloc _).alloc _).alloc _);have b0:Blk W0 w.heap.size 36 #[.string t.name,.slice A t.cols.length c,.slice B t.rows.length e]:=(by rw [hW0]; exact ((Blk.new _ _ _).keep (Kept.alloc _ _ _)).keep (Kept.alloc _ _ _));have b1:Blk W0 (w.heap.size+1) 24 #[.int .i64 q0,.int .i64 q1,.int .i64 q2]:=by
  rw [hW0];have:=(Blk.new (w.alloc (.cells #[.string t.name,.slice A t.cols.length c,.slice B t.rows.length e] 36)) 24 #[.int .i64 q0,.int .i64 q1,.int .i64 q2]).keep (Kept.alloc _ _ (.cells #[.string ⟨#[]⟩,.slice none 0 0,.slice none 0 0] 36))
  simpa using this
 have b2:Blk W0 (w.heap.size+1+1) 36 #[.string ⟨#[]⟩,.slice none 0 0,.slice none 0 0]:=by
  rw [hW0];have:=Blk.new ((w.alloc (.cells #[.string t.name,.slice A t.cols.length c,.slice B t.rows.length e] 36)).alloc (.cells #[.int .i64 q0,.int .i64 q1,.int .i64 q2] 24)) 36 #[.string ⟨#[]⟩,.slice none 0 0,.slice none 0 0]
  simpa using this
 have hs0:W0.heap.size=w.heap.size+3:=(by rw [hW0]; simp);have HX0:=Hd hx0;have HB0:=Hd b0;have HB1:=Hd b1;have HB2:=Hd b2;have HS0:=Hd hs0;clear hW0 hx0 b0 b1 b2 hs0
 go_enter Tryz.func8,Tryz.ntmps8
 go_wp2_with fail
 rw [← HW0.o];refine (r09_Copy 2 t A B c e W0 S (H.o.keep (HX0.o.kept S))).mono ?_;rintro e1 w1 ⟨Ac,cc,Ar,cr,rfl,hoc,hor,hsep,hx1⟩;rw [HS0.o] at hoc hor;have HM1:=Hd (show OD w q0 q1 q2 t.name Ac cc t.cols Ar cr t.rows (((w1.setCell ⟨w.heap.size,0,none⟩ (.string t.name)).setCell ⟨w.heap.size,1,none⟩ (.slice Ac t.cols.length cc)).setCell ⟨w.heap.size,2,none⟩ (.slice Ar t.rows.length cr)) by
  have ho:=(((Only.refl w.heap.size w1).set 0 (.string t.name)).set 1 (.slice Ac t.cols.length cc)).set 2 (.slice Ar t.rows.length cr);refine ⟨(HX0.o.trans hx1).only ho (by omega),?_,(HB1.o.keep (hx1.kept _)).keep (ho.kept fun b _ e=>by omega),(HB2.o.keep (hx1.kept _)).keep (ho.kept fun b _ e=>by omega),⟨ho.own hoc.1 (by omega),hoc.2⟩,hor.keep (ho.kept fun b _ e=>by omega) (fun b hb hb'=>hsep b hb' hb),hsep⟩;have:=(((HB0.o.keep (hx1.kept _)).set 0 (.string t.name)).set 1 (.slice Ac t.cols.length cc)).set 2 (.slice Ar t.rows.length cr)
  simpa using this)
 have q5:=HB0.o.keep (hx1.kept _);have k50:=q5.cell (i:=0) rfl;have k51:=q5.cell (i:=1) rfl;have k52:=q5.cell (i:=2) rfl;have kf:=q5.frozen;have kz:=q5.lt;clear hoc hor hsep hx1 q5 HX0 HB0 HB1 HB2 HS0 HW0
 go_upto_region 2 with fail
 obtain ⟨w2,hw2⟩:∃ w2,w2=(((w1.setCell ⟨w.heap.size,0,none⟩ (.string t.name)).setCell ⟨w.heap.size,1,none⟩ (.slice Ac t.cols.length cc)).setCell ⟨w.heap.size,2,none⟩ (.slice Ar t.rows.length cr)):=⟨_,rfl⟩;rw [← hw2] at HM1;rw [← hw2];clear hw2 k50 k51 k52 kf kz;obtain ⟨cols,hcols⟩:∃ cols,cols=t.cols:=⟨_,rfl⟩;obtain ⟨rows,hrows⟩:∃ rows,rows=t.rows:=⟨_,rfl⟩;obtain ⟨nm,hnmE⟩:∃ nm,nm=t.name:=⟨_,rfl⟩;rw [← hcols,← hrows,← hnmE] at HM1;rw [← hcols] at ht1 ht2 HT4;rw [← hrows] at ht3 HT4;rw [← hnmE] at hnm;have HRW:=Hd hrows;clear hcols hrows hnmE;have HM:=HM1;have d0:=HM1.o.box.cell (i:=0) rfl;have d1:=HM1.o.box.cell (i:=1) rfl;have d2:=HM1.o.box.cell (i:=2) rfl;have df:=HM1.o.box.frozen;have dz:=HM1.o.box.lt;have g0:=HM1.o.qb.cell (i:=0) rfl;have g1:=HM1.o.qb.cell (i:=1) rfl;have g2:=HM1.o.qb.cell (i:=2) rfl;have gz:=HM1.o.qb.lt;have HR4:=Hd (show ∀ r∈rows,r.length≤4294967296 from fun r hr=>by rw [HT4.o r hr]; omega);by_cases h0:0<rows.length
 ·have hn0:(1:Int)≤(rows.length:Int):=(by omega);have hm0:(1:Int)≤(cols.length:Int):=(by omega);obtain ⟨hK1,hK2⟩:=next_r q1 (rows.length:Int) hn0;obtain ⟨hJ1,hJ2⟩:=next_r q2 (cols.length:Int) hm0;obtain ⟨hK3,hK4⟩:=next_bd q1 (rows.length:Int) hn0;obtain ⟨hJ3,hJ4⟩:=next_bd q2 (cols.length:Int) hm0;obtain ⟨K,hKE⟩:∃ K:Nat,(q1.tmod (rows.length:Int)+(rows.length:Int)).tmod (rows.length:Int)=(K:Int):=⟨_,(Int.toNat_of_nonneg hK1).symm⟩;obtain ⟨J,hJE⟩:∃ J:Nat,(q2.tmod (cols.length:Int)+(cols.length:Int)).tmod (cols.length:Int)=(J:Int):=⟨_,(Int.toNat_of_nonneg hJ1).symm⟩;rw [hKE] at hK2;rw [hJE] at hJ2;have hKn:K<rows.length:=(by omega);have hJm:J<cols.length:=(by omega);obtain ⟨hs,B1,e0,X,ho1,hk1,hv1,hX1,hne1,hcl⟩:=HM.o.rows.at_ hKn (by omega) HR4.o;have hrl:rows[K].length=cols.length:=HT4.o _ (List.getElem_mem hKn);obtain ⟨ga,cura,hAr,hBa,-⟩:=ho1.blk0 (by omega);obtain ⟨g,curg,hB1,hBg,-⟩:=(show ∃ xs,Own w2 (w.heap.size+3) 31 7 B1 rows[K].length e0 xs by obtain ⟨xs,ho,_⟩:=hv1; exact ⟨xs,ho⟩).elim fun xs ho=>ho.blk0 (by omega);subst hB1;have HHD:=Hd (show w2.cell? ⟨ga,K,none⟩=some (.slice (some ⟨g,0,none⟩) cols.length e0) by
   obtain ⟨b,o,h1,h2,h3⟩:=ho1.rd.at_ hk1;rw [hAr] at h1;injection h1 with h1;injection h1 with h1 h1';rw [← h1,← h1',Nat.zero_add,hrl] at h3;exact h3)
  have HST:=Hd (show ∀ w',Ext w2 w'→(∃ x0 x1 x2 x3 x4 x5 x6,w'.cell? ⟨g,J*7,none⟩=some x0∧w'.cell? ⟨g,J*7+1,none⟩=some x1∧w'.cell? ⟨g,J*7+2,none⟩=some x2∧w'.cell? ⟨g,J*7+3,none⟩=some x3∧w'.cell? ⟨g,J*7+4,none⟩=some x4∧w'.cell? ⟨g,J*7+5,none⟩=some x5∧w'.cell? ⟨g,J*7+6,none⟩=some x6)∧(∀ i,w'.frozen? ⟨g,i,none⟩=false)∧g<w'.heap.size by
   intro w' hx;have hb:=hBg.keep (hx.kept _);have hrow:=(hv1.row (T:=fun _=>True) (by omega) (fun _ _=>trivial) (fun _ _=>trivial)).keep (hx.kept _);obtain ⟨b,o,A5,c5,B5,e5,hb5,z5,⟨p0,p1,p2,p3,p4,p5,p6⟩,-⟩:=hrow.at_ (k:=J) (by omega);injection hb5 with hb5;injection hb5 with hb5 hb6;subst hb5;subst hb6;simp only [Nat.zero_add] at p0 p1 p2 p3 p4 p5 p6;exact ⟨⟨_,_,_,_,_,_,_,p0,p1,p2,p3,p4,p5,p6⟩,hb.frozen,hb.lt⟩)
  have HSC:=Hd (show ob Ac≠some g from fun hc=>by
   obtain ⟨g',cur',hv',hb',-⟩:=HM.o.cols.1.blk0 (by omega);rw [hv'] at hc;injection hc with hc;subst hc;unfold Blk at hBg hb';rw [hb'] at hBg;injection hBg with hBg;injection hBg with _ hBg;exact absurd hBg (by decide))
  have HV1:=Hd hv1;have HX1:=Hd hX1;have HCL:=Hd hcl;have HRL:=Hd hrl;have D2:=Hd (show w2.cell? ⟨w.heap.size,2,none⟩=some (.slice (some ⟨ga,0,none⟩) rows.length cr) by rw [← hAr]; exact d2);have D1:=Hd d1;have G1:=Hd g1;have G2:=Hd g2;have HKW:=Hd (IntWalk.i64_in (q1.tmod (rows.length:Int)+(rows.length:Int)) (by omega));have HJW:=Hd (IntWalk.i64_in (q2.tmod (cols.length:Int)+(cols.length:Int)) (by omega));have HKN:=Hd (show 0≤q1.tmod (rows.length:Int)+(rows.length:Int) by omega);have HJN:=Hd (show 0≤q2.tmod (cols.length:Int)+(cols.length:Int) by omega);have HKE:=Hd hKE;have HJE:=Hd hJE;have HAR:=Hd hAr;clear ho1 hk1 hv1 hX1 hne1 hcl hrl hBa hBg hK1 hJ1 hK3 hK4 hJ3 hJ4 hKE hJE hAr
  go_upto_region 11 with fail
  obtain ⟨n,hn⟩:∃ n,n=rows.length:=⟨_,rfl⟩;obtain ⟨m,hm'⟩:∃ m,m=cols.length:=⟨_,rfl⟩;have HNN:=Hd hn;have HMM:=Hd hm';rw [← hn] at D2 HKW HKN HKE h0 hn0 hK2;rw [← hm'] at D1 HHD HJW HJN HJE hm0 hJ2;clear hn hm';have hKn':K<n:=(by omega);have hJm':J<m:=(by omega);refine wp_region_lin_lit (by kernel_rfl) dOdE (by kernel_rfl) (SR (OdEInv w w2 q1 q2 Ac cc m ga cr n K J g e0)) (SR.refl _) (SR.trans _) (SN stOdE) (gOdE w w2 q1 q2 Ac cc m ga cr n K J g e0) (gOdE_st _ _ _ _ _ _ _ _ _ _ _ _ _ _) 0 (SN.zero (by decide)) ⟨?_,?_,?_,?_,?_,?_,?_,?_,?_,?_,?_,?_,?_,?_,?_,trivial⟩ ?_
  ·refine LinStep.yes fun vals γ w' ρ hR hN hp hρ hc hf hg=>⟨rfl,?_⟩;have hi:=hR.inv ⟨by omega,(Ext.refl w2).drew⟩;have e3:ρ (.tmp 3)=.pointer (some ⟨w.heap.size+1,0,none⟩):=hρ 3;clear hR hN hp hρ hi;go_light;go_simp;exact ⟨γ,SR.refl _ _ _,fun _ _ _ h=>h,rfl⟩
  ·refine LinStep.yes fun vals γ w' ρ hR hN hp hρ hc hf hg=>⟨rfl,?_⟩;have hi:=hR.inv ⟨by omega,(Ext.refl w2).drew⟩;have e49:ρ (.tmp 49)=_:=(hρ 49).trans (hp 0 (by decide));have k1:=hi.2.cell G1.o;clear hR hN hp hρ hi;go_light;go_simp;exact ⟨γ,SR.refl _ _ _,fun _ _ _ h=>h,rfl⟩
  ·refine LinStep.yes fun vals γ w' ρ hR hN hp hρ hc hf hg=>⟨rfl,?_⟩;have hi:=hR.inv ⟨by omega,(Ext.refl w2).drew⟩;have e2:ρ (.tmp 2)=.pointer (some ⟨w.heap.size,0,none⟩):=hρ 2;clear hR hN hp hρ hi;go_light;go_simp;exact ⟨γ,SR.refl _ _ _,fun _ _ _ h=>h,rfl⟩
  ·refine LinStep.yes fun vals γ w' ρ hR hN hp hρ hc hf hg=>⟨rfl,?_⟩;have hi:=hR.inv ⟨by omega,(Ext.refl w2).drew⟩;have e51:ρ (.tmp 51)=_:=(hρ 51).trans (hp 2 (by decide));have k1:=hi.2.cell D2.o;clear hR hN hp hρ hi;go_light;go_simp;exact ⟨γ,SR.refl _ _ _,fun _ _ _ h=>h,rfl⟩
  ·refine LinStep.yes fun vals γ w' ρ hR hN hp hρ hc hf hg=>⟨rfl,?_⟩;have hi:=hR.inv ⟨by omega,(Ext.refl w2).drew⟩;have e52:ρ (.tmp 52)=_:=(hρ 52).trans (hp 3 (by decide));clear hR hN hp hρ hi;go_light;go_simp;exact ⟨γ,SR.refl _ _ _,fun _ _ _ h=>h,rfl⟩
  ·refine LinStep.yes fun vals γ w' ρ hR hN hp hρ hc hf hg=>⟨rfl,?_⟩;have hi:=hR.inv ⟨by omega,(Ext.refl w2).drew⟩;have e50:ρ (.tmp 50)=_:=(hρ 50).trans (hp 1 (by decide));have e53:ρ (.tmp 53)=_:=(hρ 53).trans (hp 4 (by decide));have i1:¬ n=0:=(by omega);clear hR hN hp hρ hi;go_light;go_simp;exact ⟨γ,SR.refl _ _ _,fun _ _ _ h=>h,rfl⟩
  ·refine LinStep.yes fun vals γ w' ρ hR hN hp hρ hc hf hg=>⟨rfl,?_⟩;have hi:=hR.inv ⟨by omega,(Ext.refl w2).drew⟩;have e2:ρ (.tmp 2)=.pointer (some ⟨w.heap.size,0,none⟩):=hρ 2;clear hR hN hp hρ hi;go_light;go_simp;exact ⟨γ,SR.refl _ _ _,fun _ _ _ h=>h,rfl⟩
  ·refine LinStep.yes fun vals γ w' ρ hR hN hp hρ hc hf hg=>⟨rfl,?_⟩;have hi:=hR.inv ⟨by omega,(Ext.refl w2).drew⟩;have e55:ρ (.tmp 55)=_:=(hρ 55).trans (hp 6 (by decide));have k1:=hi.2.cell D2.o;clear hR hN hp hρ hi;go_light;go_simp;exact ⟨γ,SR.refl _ _ _,fun _ _ _ h=>h,rfl⟩
  ·refine LinStep.yes fun vals γ w' ρ hR hN hp hρ hc hf hg=>⟨rfl,?_⟩;have hi:=hR.inv ⟨by omega,(Ext.refl w2).drew⟩;have e56:ρ (.tmp 56)=_:=(hρ 56).trans (hp 7 (by decide));clear hR hN hp hρ hi;go_light;go_simp;exact ⟨γ,SR.refl _ _ _,fun _ _ _ h=>h,rfl⟩
  ·refine LinStep.yes fun vals γ w' ρ hR hN hp hρ hc hf hg=>⟨rfl,?_⟩;have hi:=hR.inv ⟨by omega,(Ext.refl w2).drew⟩;have e54:ρ (.tmp 54)=_:=(hρ 54).trans (hp 5 (by decide));have e57:ρ (.tmp 57)=_:=(hρ 57).trans (hp 8 (by decide));have i2:=HKW.o;clear hR hN hp hρ hi;go_light;go_simp;exact ⟨γ,SR.refl _ _ _,fun _ _ _ h=>h,rfl⟩
  ·refine LinStep.yes fun vals γ w' ρ hR hN hp hρ hc hf hg=>⟨rfl,?_⟩;have hi:=hR.inv ⟨by omega,(Ext.refl w2).drew⟩;have e2:ρ (.tmp 2)=.pointer (some ⟨w.heap.size,0,none⟩):=hρ 2;clear hR hN hp hρ hi;go_light;go_simp;exact ⟨γ,SR.refl _ _ _,fun _ _ _ h=>h,rfl⟩
  ·refine LinStep.yes fun vals γ w' ρ hR hN hp hρ hc hf hg=>⟨rfl,?_⟩;have hi:=hR.inv ⟨by omega,(Ext.refl w2).drew⟩;have e59:ρ (.tmp 59)=_:=(hρ 59).trans (hp 10 (by decide));have k1:=hi.2.cell D2.o;clear hR hN hp hρ hi;go_light;go_simp;exact ⟨γ,SR.refl _ _ _,fun _ _ _ h=>h,rfl⟩
  ·refine LinStep.yes fun vals γ w' ρ hR hN hp hρ hc hf hg=>⟨rfl,?_⟩;have hi:=hR.inv ⟨by omega,(Ext.refl w2).drew⟩;have e60:ρ (.tmp 60)=_:=(hρ 60).trans (hp 11 (by decide));clear hR hN hp hρ hi;go_light;go_simp;exact ⟨γ,SR.refl _ _ _,fun _ _ _ h=>h,rfl⟩
  ·refine LinStep.yes fun vals γ w' ρ hR hN hp hρ hc hf hg=>⟨rfl,?_⟩;have hi:=hR.inv ⟨by omega,(Ext.refl w2).drew⟩;have e58:ρ (.tmp 58)=_:=(hρ 58).trans (hp 9 (by decide));have e61:ρ (.tmp 61)=_:=(hρ 61).trans (hp 12 (by decide));have i1:¬ n=0:=(by omega);have i2:=HKE.o;have i3:=HKN.o;clear hR hN hp hρ hi;go_light;go_simp;exact ⟨γ,SR.refl _ _ _,fun _ _ _ h=>h,rfl⟩
  ·refine LinStep.yes fun vals γ w' ρ hR hN hp hρ hc hf hg=>⟨rfl,?_⟩;have hi:=hR.inv ⟨by omega,(Ext.refl w2).drew⟩;have e62:ρ (.tmp 62)=_:=(hρ 62).trans (hp 13 (by decide));clear hR hN hp hρ hi;go_light;go_simp;exact ⟨γ,SR.refl _ _ _,fun _ _ _ h=>h,rfl⟩
  ·intro vals γ w' hR hG;have hi:=hR.inv ⟨by omega,(Ext.refl w2).drew⟩;have h14:vals 14=.int .i64 (K:Int):=hG 14 (by decide);have HE2:=Hd hi.2;clear hR hG hi;simp only [lexFrame,Act.put,List.setIfInBounds_toArray,List.set_cons_succ,List.set_cons_zero,Nat.zero_add,Nat.reduceAdd,h14];clear h14;generalize vals 0=u0,vals 1=u1,vals 2=u2,vals 3=u3,vals 4=u4,vals 5=u5,vals 6=u6,vals 7=u7,vals 8=u8,vals 9=u9,vals 10=u10,vals 11=u11,vals 12=u12,vals 13=u13
   go_upto_region 12 with fail
   refine wp_region_lin_lit (by kernel_rfl) dOdF (by kernel_rfl) (SR (OdFInv w w2 q1 q2 Ac cc m ga cr n K J g e0)) (SR.refl _) (SR.trans _) (SN stOdF) (gOdF w w2 q1 q2 Ac cc m ga cr n K J g e0) (gOdF_st _ _ _ _ _ _ _ _ _ _ _ _ _ _) 0 (SN.zero (by decide)) ⟨?_,?_,?_,?_,?_,?_,?_,?_,?_,?_,?_,?_,?_,?_,?_,?_,?_,?_,?_,?_,?_,?_,?_,?_,?_,?_,?_,trivial⟩ ?_
   ·refine LinStep.yes fun vals γ w' ρ hR hN hp hρ hc hf hg=>⟨rfl,?_⟩;have hi:=hR.inv ⟨by omega,fun _=>HE2.o.drew⟩;have e2:ρ (.tmp 2)=.pointer (some ⟨w.heap.size,0,none⟩):=hρ 2;clear hR hN hp hρ hi;go_light;go_simp;exact ⟨γ,SR.refl _ _ _,fun _ _ _ h=>h,rfl⟩
   ·refine LinStep.yes fun vals γ w' ρ hR hN hp hρ hc hf hg=>⟨rfl,?_⟩;have hi:=hR.inv ⟨by omega,fun _=>HE2.o.drew⟩;have e63:ρ (.tmp 63)=_:=(hρ 63).trans (hp 0 (by decide));have k1:=(hi.2 (by have h:γ<3:=hN; omega)).cell D2.o;clear hR hN hp hρ hi;go_light;go_simp;exact ⟨γ,SR.refl _ _ _,fun _ _ _ h=>h,rfl⟩
   ·refine LinStep.yes fun vals γ w' ρ hR hN hp hρ hc hf hg=>⟨rfl,?_⟩;have hi:=hR.inv ⟨by omega,fun _=>HE2.o.drew⟩;have e5:ρ (.tmp 5)=.int .i64 (K:Int):=hρ 5;clear hR hN hp hρ hi;go_light;go_simp;exact ⟨γ,SR.refl _ _ _,fun _ _ _ h=>h,rfl⟩
   ·refine LinStep.yes fun vals γ w' ρ hR hN hp hρ hc hf hg=>⟨rfl,?_⟩;have hi:=hR.inv ⟨by omega,fun _=>HE2.o.drew⟩;have e64:ρ (.tmp 64)=_:=(hρ 64).trans (hp 1 (by decide));have e65:ρ (.tmp 65)=_:=(hρ 65).trans (hp 2 (by decide));have i0:(0:Int)≤(K:Int):=(by omega);have i1:(K:Int)<(n:Int):=(by omega);clear hR hN hp hρ hi;go_light;go_simp;exact ⟨γ,SR.refl _ _ _,fun _ _ _ h=>h,rfl⟩
   ·refine LinStep.yes fun vals γ w' ρ hR hN hp hρ hc hf hg=>⟨rfl,?_⟩;have hi:=hR.inv ⟨by omega,fun _=>HE2.o.drew⟩;have e66:ρ (.tmp 66)=_:=(hρ 66).trans (hp 3 (by decide));have k1:=(hi.2 (by have h:γ<3:=hN; omega)).cell HHD.o;clear hR hN hp hρ hi;go_light;go_simp;exact ⟨γ,SR.refl _ _ _,fun _ _ _ h=>h,rfl⟩
   ·refine LinStep.yes fun vals γ w' ρ hR hN hp hρ hc hf hg=>⟨rfl,?_⟩;have hi:=hR.inv ⟨by omega,fun _=>HE2.o.drew⟩;have e3:ρ (.tmp 3)=.pointer (some ⟨w.heap.size+1,0,none⟩):=hρ 3;clear hR hN hp hρ hi;go_light;go_simp;exact ⟨γ,SR.refl _ _ _,fun _ _ _ h=>h,rfl⟩
   ·refine LinStep.yes fun vals γ w' ρ hR hN hp hρ hc hf hg=>⟨rfl,?_⟩;have hi:=hR.inv ⟨by omega,fun _=>HE2.o.drew⟩;have e68:ρ (.tmp 68)=_:=(hρ 68).trans (hp 5 (by decide));have k1:=(hi.2 (by have h:γ<3:=hN; omega)).cell G2.o;clear hR hN hp hρ hi;go_light;go_simp;exact ⟨γ,SR.refl _ _ _,fun _ _ _ h=>h,rfl⟩
   ·refine LinStep.yes fun vals γ w' ρ hR hN hp hρ hc hf hg=>⟨rfl,?_⟩;have hi:=hR.inv ⟨by omega,fun _=>HE2.o.drew⟩;have e2:ρ (.tmp 2)=.pointer (some ⟨w.heap.size,0,none⟩):=hρ 2;clear hR hN hp hρ hi;go_light;go_simp;exact ⟨γ,SR.refl _ _ _,fun _ _ _ h=>h,rfl⟩
   ·refine LinStep.yes fun vals γ w' ρ hR hN hp hρ hc hf hg=>⟨rfl,?_⟩;have hi:=hR.inv ⟨by omega,fun _=>HE2.o.drew⟩;have e70:ρ (.tmp 70)=_:=(hρ 70).trans (hp 7 (by decide));have k1:=(hi.2 (by have h:γ<3:=hN; omega)).cell D1.o;clear hR hN hp hρ hi;go_light;go_simp;exact ⟨γ,SR.refl _ _ _,fun _ _ _ h=>h,rfl⟩
   ·refine LinStep.yes fun vals γ w' ρ hR hN hp hρ hc hf hg=>⟨rfl,?_⟩;have hi:=hR.inv ⟨by omega,fun _=>HE2.o.drew⟩;have e71:ρ (.tmp 71)=_:=(hρ 71).trans (hp 8 (by decide));clear hR hN hp hρ hi;go_light;go_simp;exact ⟨γ,SR.refl _ _ _,fun _ _ _ h=>h,rfl⟩
   ·refine LinStep.yes fun vals γ w' ρ hR hN hp hρ hc hf hg=>⟨rfl,?_⟩;have hi:=hR.inv ⟨by omega,fun _=>HE2.o.drew⟩;have e69:ρ (.tmp 69)=_:=(hρ 69).trans (hp 6 (by decide));have e72:ρ (.tmp 72)=_:=(hρ 72).trans (hp 9 (by decide));have i1:¬ m=0:=(by omega);clear hR hN hp hρ hi;go_light;go_simp;exact ⟨γ,SR.refl _ _ _,fun _ _ _ h=>h,rfl⟩
   ·refine LinStep.yes fun vals γ w' ρ hR hN hp hρ hc hf hg=>⟨rfl,?_⟩;have hi:=hR.inv ⟨by omega,fun _=>HE2.o.drew⟩;have e2:ρ (.tmp 2)=.pointer (some ⟨w.heap.size,0,none⟩):=hρ 2;clear hR hN hp hρ hi;go_light;go_simp;exact ⟨γ,SR.refl _ _ _,fun _ _ _ h=>h,rfl⟩
   ·refine LinStep.yes fun vals γ w' ρ hR hN hp hρ hc hf hg=>⟨rfl,?_⟩;have hi:=hR.inv ⟨by omega,fun _=>HE2.o.drew⟩;have e74:ρ (.tmp 74)=_:=(hρ 74).trans (hp 11 (by decide));have k1:=(hi.2 (by have h:γ<3:=hN; omega)).cell D1.o;clear hR hN hp hρ hi;go_light;go_simp;exact ⟨γ,SR.refl _ _ _,fun _ _ _ h=>h,rfl⟩
   ·refine LinStep.yes fun vals γ w' ρ hR hN hp hρ hc hf hg=>⟨rfl,?_⟩;have hi:=hR.inv ⟨by omega,fun _=>HE2.o.drew⟩;have e75:ρ (.tmp 75)=_:=(hρ 75).trans (hp 12 (by decide));clear hR hN hp hρ hi;go_light;go_simp;exact ⟨γ,SR.refl _ _ _,fun _ _ _ h=>h,rfl⟩
   ·refine LinStep.yes fun vals γ w' ρ hR hN hp hρ hc hf hg=>⟨rfl,?_⟩;have hi:=hR.inv ⟨by omega,fun _=>HE2.o.drew⟩;have e73:ρ (.tmp 73)=_:=(hρ 73).trans (hp 10 (by decide));have e76:ρ (.tmp 76)=_:=(hρ 76).trans (hp 13 (by decide));have i2:=HJW.o;clear hR hN hp hρ hi;go_light;go_simp;exact ⟨γ,SR.refl _ _ _,fun _ _ _ h=>h,rfl⟩
   ·refine LinStep.yes fun vals γ w' ρ hR hN hp hρ hc hf hg=>⟨rfl,?_⟩;have hi:=hR.inv ⟨by omega,fun _=>HE2.o.drew⟩;have e2:ρ (.tmp 2)=.pointer (some ⟨w.heap.size,0,none⟩):=hρ 2;clear hR hN hp hρ hi;go_light;go_simp;exact ⟨γ,SR.refl _ _ _,fun _ _ _ h=>h,rfl⟩
   ·refine LinStep.yes fun vals γ w' ρ hR hN hp hρ hc hf hg=>⟨rfl,?_⟩;have hi:=hR.inv ⟨by omega,fun _=>HE2.o.drew⟩;have e78:ρ (.tmp 78)=_:=(hρ 78).trans (hp 15 (by decide));have k1:=(hi.2 (by have h:γ<3:=hN; omega)).cell D1.o;clear hR hN hp hρ hi;go_light;go_simp;exact ⟨γ,SR.refl _ _ _,fun _ _ _ h=>h,rfl⟩
   ·refine LinStep.yes fun vals γ w' ρ hR hN hp hρ hc hf hg=>⟨rfl,?_⟩;have hi:=hR.inv ⟨by omega,fun _=>HE2.o.drew⟩;have e79:ρ (.tmp 79)=_:=(hρ 79).trans (hp 16 (by decide));clear hR hN hp hρ hi;go_light;go_simp;exact ⟨γ,SR.refl _ _ _,fun _ _ _ h=>h,rfl⟩
   ·refine LinStep.yes fun vals γ w' ρ hR hN hp hρ hc hf hg=>⟨rfl,?_⟩;have hi:=hR.inv ⟨by omega,fun _=>HE2.o.drew⟩;have e77:ρ (.tmp 77)=_:=(hρ 77).trans (hp 14 (by decide));have e80:ρ (.tmp 80)=_:=(hρ 80).trans (hp 17 (by decide));have i1:¬ m=0:=(by omega);have i2:=HJE.o;have i3:=HJN.o;clear hR hN hp hρ hi;go_light;go_simp;exact ⟨γ,SR.refl _ _ _,fun _ _ _ h=>h,rfl⟩
   ·refine LinStep.yes fun vals γ w' ρ hR hN hp hρ hc hf hg=>⟨rfl,?_⟩;have hi:=hR.inv ⟨by omega,fun _=>HE2.o.drew⟩;have e3:ρ (.tmp 3)=.pointer (some ⟨w.heap.size+1,0,none⟩):=hρ 3;clear hR hN hp hρ hi;go_light;go_simp;exact ⟨γ,SR.refl _ _ _,fun _ _ _ h=>h,rfl⟩
   ·refine LinStep.yes fun vals γ w' ρ hR hN hp hρ hc hf hg=>⟨rfl,?_⟩;have hi:=hR.inv ⟨by omega,fun _=>HE2.o.drew⟩;have e82:ρ (.tmp 82)=_:=(hρ 82).trans (hp 19 (by decide));have k1:=(hi.2 (by have h:γ<3:=hN; omega)).cell G1.o;clear hR hN hp hρ hi;go_light;go_simp;exact ⟨γ,SR.refl _ _ _,fun _ _ _ h=>h,rfl⟩
   ·refine LinStep.yes fun vals γ w' ρ hR hN hp hρ hc hf hg=>⟨rfl,?_⟩;have hi:=hR.inv ⟨by omega,fun _=>HE2.o.drew⟩;have e3:ρ (.tmp 3)=.pointer (some ⟨w.heap.size+1,0,none⟩):=hρ 3;clear hR hN hp hρ hi;go_light;go_simp;exact ⟨γ,SR.refl _ _ _,fun _ _ _ h=>h,rfl⟩
   ·refine LinStep.yes fun vals γ w' ρ hR hN hp hρ hc hf hg=>⟨rfl,?_⟩;have hi:=hR.inv ⟨by omega,fun _=>HE2.o.drew⟩;have e84:ρ (.tmp 84)=_:=(hρ 84).trans (hp 21 (by decide));have k1:=(hi.2 (by have h:γ<3:=hN; omega)).cell G2.o;clear hR hN hp hρ hi;go_light;go_simp;exact ⟨γ,SR.refl _ _ _,fun _ _ _ h=>h,rfl⟩
   ·refine LinStep.yes fun vals γ w' ρ hR hN hp hρ hc hf hg=>⟨rfl,?_⟩;have hi:=hR.inv ⟨by omega,fun _=>HE2.o.drew⟩;have e83:ρ (.tmp 83)=_:=(hρ 83).trans (hp 20 (by decide));have e85:ρ (.tmp 85)=_:=(hρ 85).trans (hp 22 (by decide));have h0:γ=0:=(by have h:γ<1:=hN; omega);subst h0;have HX:=Hd (hi.2 (by omega));clear hR hN hp hρ hi;go_light;go_simp;exact ⟨1,SR.up (by omega) ⟨by omega,fun _=>HX.o.alloc _⟩,SN.up (by omega) (by decide) rfl,_,rfl,by omega,fun _=>Blk.new _ _ _⟩
   ·refine LinStep.yes fun vals γ w' ρ hR hN hp hρ hc hf hg=>⟨rfl,?_⟩;have hi:=hR.inv ⟨by omega,fun _=>HE2.o.drew⟩;obtain ⟨gg,g23,hr1,hbk⟩:=hp 23 (by decide);have e86:ρ (.tmp 86)=_:=(hρ 86).trans g23;have h0:γ=1:=(by have h:γ<2:=hN; omega);subst h0;have HX:=Hd (hi.2 (by omega));have HBK:=Hd (hbk rfl);clear hR hN hp hρ hi g23 hbk;go_light;go_simp;refine (r06_Made [q1,q2] (by simp) (some ⟨gg,0,none⟩) 2 w' (fun _=>True) ⟨HBK.o.rd.mono fun _ _ _=>trivial,by simp⟩).mono ?_;rintro e' w3 ⟨x,hod,A1,c1,B1,e1,he,hcp,hv,hx3⟩;exact ⟨_,he,2,SR.up (by omega) ⟨by omega,fun _=>HX.o.trans hx3⟩,SN.up (by omega) (by decide) rfl,x,A1,c1,B1,e1,rfl,by omega,fun _=>⟨hcp,hod,hv.mono fun b _ hb=>Nat.le_trans HX.o.size hb⟩⟩
   ·refine LinStep.yes fun vals γ w' ρ hR hN hp hρ hc hf hg=>⟨rfl,?_⟩;have hi:=hR.inv ⟨by omega,fun _=>HE2.o.drew⟩;have e67:ρ (.tmp 67)=_:=(hρ 67).trans (hp 4 (by decide));have e81:ρ (.tmp 81)=_:=(hρ 81).trans (hp 18 (by decide));have i0:(0:Int)≤(J:Int):=(by omega);have i1:(J:Int)<(m:Int):=(by omega);clear hR hN hp hρ hi;go_light;go_simp;exact ⟨γ,SR.refl _ _ _,fun _ _ _ h=>h,rfl⟩
   ·refine LinStep.yes fun vals γ w' ρ hR hN hp hρ hc hf hg=>⟨rfl,?_⟩;have hi:=hR.inv ⟨by omega,fun _=>HE2.o.drew⟩;obtain ⟨x,A1,c1,B1,e1,g24,hr2,hbk⟩:=hp 24 (by decide);have e87:ρ (.tmp 87)=_:=(hρ 87).trans g24;have e88:ρ (.tmp 88)=_:=(hρ 88).trans (hp 25 (by decide));have h0:γ=2:=(by have h:γ<3:=hN; omega);subst h0;have hx:=hi.2 (by omega);obtain ⟨⟨x0,x1,x2,x3,x4,x5,x6,p0,p1,p2,p3,p4,p5,p6⟩,pf,pz⟩:=HST.o w' hx;have HX:=Hd hx;have HBK:=Hd (hbk rfl);clear hR hN hp hρ hi hx g24 hbk;go_light;go_simp;exact ⟨3,SR.up (by omega) ⟨by omega,fun h=>absurd h (by omega)⟩,SN.up (by omega) (by decide) rfl,by omega,fun _=>⟨w',x,A1,c1,B1,e1,HX.o,HBK.o.1,HBK.o.2.1,HBK.o.2.2,rfl⟩⟩
   ·intro vals γ w'' hR hG;have hi:=hR.inv ⟨by omega,fun _=>HE2.o.drew⟩;obtain ⟨h4,h5⟩:=hG 26 (by decide);obtain ⟨w3,x,A1,c1,B1,e1,hx3,hcp3,hod3,hv3,hw3⟩:=h5 (by have:=hi.1; omega);have HOD3:=Hd hod3;clear hod3;have HX3:=Hd hx3;have HV3:=Hd hv3;have HW3:=Hd hw3;clear hR hG hi h4 h5 hx3 hv3 hw3;simp only [lexFrame,Act.put,List.setIfInBounds_toArray,List.set_cons_succ,List.set_cons_zero,Nat.zero_add,Nat.reduceAdd];generalize vals 0=z0,vals 1=z1,vals 2=z2,vals 3=z3,vals 4=z4,vals 5=z5,vals 6=z6,vals 7=z7,vals 8=z8,vals 9=z9,vals 10=z10,vals 11=z11,vals 12=z12,vals 13=z13,vals 14=z14,vals 15=z15,vals 16=z16,vals 17=z17,vals 18=z18,vals 19=z19,vals 20=z20,vals 21=z21,vals 22=z22,vals 23=z23,vals 24=z24,vals 25=z25,vals 26=z26
    go_upto_region 27 with fail
    obtain ⟨wf,hwf⟩:∃ wf,wf=w'':=⟨_,rfl⟩;have HF:=Hd (show ∃ (t:Look) (A:Option Addr) (c:Nat) (B:Option Addr) (e:Nat),OF w t A c B e wf∧OddR rows t.rows by rw [hwf]; exact odd3_fin HOD3.o HM.o HX3.o hcp3 HV3.o HW3.o hnm (by omega) hKn (by rw [HRL.o]; omega) (by rw [HRL.o]; omega) HV1.o HX1.o HSC.o HCL.o);rw [← hwf];clear hwf;obtain ⟨t',A',c',B',e',hf,hor⟩:=HF.o;have HOR:=Hd hor;clear hor;have HF:=Hd hf;have f0:=hf.box.cell (i:=0) rfl;have f1:=hf.box.cell (i:=1) rfl;have f2:=hf.box.cell (i:=2) rfl;have r0:=hf.res.cell (i:=0) rfl;have r1:=hf.res.cell (i:=1) rfl;have r2:=hf.res.cell (i:=2) rfl;have rf:=hf.res.frozen;have rz:=hf.res.lt;clear hf d0 d1 d2 df dz g0 g1 g2 gz;go_wp2
    all_goals refine bodyPost_ret (v:=(.agg #[.string t'.name,.slice A' t'.cols.length c',.slice B' t'.rows.length e'])) (by simp [results,Tryz.results8,go_sem,r0,r1,r2]) rfl ⟨t',A',c',B',e',rfl,HF.o.cap,RL.mono (RL.keep HF.o.rl (K3 ?_)) fun b _ hb=>by unfold Fresh; omega,E3 ?_,by have h:=HOR.o; rw [HRW.o] at h; exact h⟩
    all_goals first | exact ⟨HF.o.ext,by omega⟩ | omega
 ·have h1:rows.length=0:=by omega
  go_upto_region 27 with fail
  obtain ⟨wf,hwf⟩:∃ wf,wf=w2:=⟨_,rfl⟩;have HF:=Hd (show ∃ (t:Look) (A:Option Addr) (c:Nat) (B:Option Addr) (e:Nat),OF w t A c B e wf∧OddR rows t.rows by rw [hwf]; exact ⟨_,_,_,_,_,HM.o.fin hnm (by omega) (by omega) HR4.o,OddR.refl _⟩);rw [← hwf];clear hwf;obtain ⟨t',A',c',B',e',hf,hor⟩:=HF.o;have HOR:=Hd hor;clear hor;have HF:=Hd hf;have f0:=hf.box.cell (i:=0) rfl;have f1:=hf.box.cell (i:=1) rfl;have f2:=hf.box.cell (i:=2) rfl;have r0:=hf.res.cell (i:=0) rfl;have r1:=hf.res.cell (i:=1) rfl;have r2:=hf.res.cell (i:=2) rfl;have rf:=hf.res.frozen;have rz:=hf.res.lt;clear hf d0 d1 d2 df dz g0 g1 g2 gz;go_wp2
  all_goals refine bodyPost_ret (v:=(.agg #[.string t'.name,.slice A' t'.cols.length c',.slice B' t'.rows.length e'])) (by simp [results,Tryz.results8,go_sem,r0,r1,r2]) rfl ⟨t',A',c',B',e',rfl,HF.o.cap,RL.mono (RL.keep HF.o.rl (K3 ?_)) fun b _ hb=>by unfold Fresh; omega,E3 ?_,by have h:=HOR.o; rw [HRW.o] at h; exact h⟩
  all_goals first | exact ⟨HF.o.ext,by omega⟩ | omega

theorem r09_OddR (t:Look) (A B:Option Addr) (c e:Nat) (q0 q1 q2:Int) (w:World) (S:Nat→Prop) (h:RL w S 2 t A B) (ht:OkT t):Calls Tryz.prog 8 #[(.agg #[.string t.name,.slice A t.cols.length c,.slice B t.rows.length e]),.agg #[.int .i64 q0,.int .i64 q1,.int .i64 q2]] w (RetOdR w t):=by
 obtain ⟨hb1,hb2⟩:=next_bd q0 8 (by omega);obtain ⟨hc1,hc2⟩:=next_bd q1 4 (by omega);obtain ⟨hd1,hd2⟩:=next_bd q1 8 (by omega);have hm:(q0.tmod 8+8) % 8=0∨(q0.tmod 8+8) % 8=1∨(q0.tmod 8+8) % 8=2∨(q0.tmod 8+8) % 8=3∨(q0.tmod 8+8) % 8=4∨(q0.tmod 8+8) % 8=5∨(q0.tmod 8+8) % 8=6∨(q0.tmod 8+8) % 8=7:=(by omega)
 rcases hm with hm | hm | hm | hm | hm | hm | hm | hm
 ·have hj:(q1.tmod 4+4) % 4=0∨(q1.tmod 4+4) % 4=1∨(q1.tmod 4+4) % 4=2∨(q1.tmod 4+4) % 4=3:=by omega
  rcases hj with hj | hj | hj | hj
  ·exact odd_0_0 t A B c e q0 q1 q2 w S h ht hm hj
  ·exact odd_0_1 t A B c e q0 q1 q2 w S h ht hm hj
  ·exact odd_0_2 t A B c e q0 q1 q2 w S h ht hm hj
  ·exact odd_0_3 t A B c e q0 q1 q2 w S h ht hm hj
 ·exact odd_1 t A B c e q0 q1 q2 w S h ht hm
 ·exact odd_2 t A B c e q0 q1 q2 w S h ht hm
 ·exact odd_3 t A B c e q0 q1 q2 w S h ht hm
 ·exact odd_4 t A B c e q0 q1 q2 w S h ht hm
 ·exact odd_5 t A B c e q0 q1 q2 w S h ht hm
 ·exact odd_6 t A B c e q0 q1 q2 w S h ht hm ((q1.tmod 8+8) % 8).toNat (by omega) (by omega)
 ·exact odd_7 t A B c e q0 q1 q2 w S h ht hm

def names6:List ByteArray:=[sCity,sZip,sCountry,sSince,⟨#[120]⟩,⟨#[]⟩]
def nameS (k:Int):ByteArray:=names6.getD ((k.tmod 6+6) % 6).toNat ⟨#[]⟩
theorem law_names (k:Int) (w:World):Calls Tryz.prog 10 #[.int .i64 k] w (fun e w'=>e=.returned (.string (nameS k))∧Ext w w'):=by
 obtain ⟨hb1,hb2⟩:=next_bd k 6 (by omega);have hj:(k.tmod 6+6) % 6=0∨(k.tmod 6+6) % 6=1∨(k.tmod 6+6) % 6=2∨(k.tmod 6+6) % 6=3∨(k.tmod 6+6) % 6=4∨(k.tmod 6+6) % 6=5:=(by omega)
 rcases hj with hj | hj | hj | hj | hj | hj
 all_goals
  go_enter Tryz.func10,Tryz.ntmps10
  go_wp2;go_ret;exact ⟨by unfold nameS; rw [hj]; rfl,(Ext.refl w).alloc _⟩
theorem made_ok {nm:ByteArray} {t:Look} (h:MadeT nm t):OkT t:=by
 obtain ⟨h1,ks,h2,h3,h4,h5,h6,h7,h8⟩:=h;have hcl:t.cols.length=ks.length:=(by rw [h4,List.length_take]; have:names4.length=4:=rfl; omega);exact ⟨by omega,by omega,h7,fun r hr=>by rw [(h8 r hr).1,hcl]⟩

abbrev encT:ByteArray→Value:=fun s=>Value.string s
structure MpI (w:World) (base b:Nat) (f:ByteArray→List Nat) (m:List (ByteArray × Value)) (g c:ByteArray→Nat):Prop where
 map:MapIs w b encT m
 le:base≤b
 no:∀ k,f k=[]→mget m k=none
 yes:∀ k,f k≠[]→mget m k=some (.slice (some ⟨g k,0,none⟩) (f k).length (c k))
 own:∀ k,f k≠[]→Own w base 3 1 (some ⟨g k,0,none⟩) (f k).length (c k) ((nums (f k)).map (Value.int .i64))
 inj:∀ k k',f k≠[]→f k'≠[]→g k=g k'→k=k'
theorem MpI.made (w:World) {base:Nat} (h:base≤w.heap.size):MpI (w.alloc (.map #[] 0)) base w.heap.size (fun _=>[]) [] (fun _=>0) (fun _=>0) :=
 ⟨MapIs.made w encT,h,fun _ _=>rfl,fun _ h=>absurd rfl h,fun _ h=>absurd rfl h,fun _ _ h=>absurd rfl h⟩
section
variable {w w':World} {base b:Nat} {f:ByteArray→List Nat} {m:List (ByteArray × Value)} {g c:ByteArray→Nat}
theorem MpI.keep (h:MpI w base b f m g c) (hk:Kept (fun x=>x=b∨∃ k,f k≠[]∧x=g k) w w'):MpI w' base b f m g c :=
 ⟨h.map.keep (hk.mono fun x _ e=>.inl e),h.le,h.no,h.yes,fun k h1=>Own.keep (h.own k h1) (hk.mono fun x _ e=>.inr ⟨k,h1,by simp [ob] at e; exact e.symm⟩),h.inj⟩
theorem MpI.ext (h:MpI w base b f m g c) (hx:Ext w w'):MpI w' base b f m g c:=h.keep (hx.kept _)
theorem MpI.at_ (h:MpI w base b f m g c) (k:ByteArray):∃ (A:Option Addr) (cc:Nat),(mget m k).getD (.slice none 0 0)=.slice A (f k).length cc∧Own w base 3 1 A (f k).length cc ((nums (f k)).map (Value.int .i64))∧(f k=[]→A=none)∧(f k≠[]→A=some ⟨g k,0,none⟩):=by
 by_cases hf:f k=[]
 ·refine ⟨none,0,?_,?_,fun _=>rfl,fun e=>absurd hf e⟩
  ·rw [h.no k hf,hf]; rfl
  ·rw [hf]; exact Own.nil _ _ _ _
 ·exact ⟨some ⟨g k,0,none⟩,c k,by rw [h.yes k hf]; rfl,h.own k hf,fun e=>absurd e hf,fun _=>rfl⟩
theorem MpI.ne (h:MpI w base b f m g c) {e sz n cc:Nat} {A:Option Addr} {xs:List Value} (ho:Own w base e sz A n cc xs):ob A≠some b:=by
 intro e1;obtain ⟨es,cl,h1,_⟩:=h.map
 rcases ho.2 with ⟨hv,_⟩ | ⟨g',cap,cur,hv,r⟩
 ·injection hv with e2;rw [e2] at e1;cases e1
 ·injection hv with e2;rw [e2] at e1;simp [ob] at e1;subst e1;rw [r.2.1] at h1;cases h1
theorem MpI.put {P:Program} {t kt et:TypeId} (ht:P.underlying t=some (.map kt et)) (kl:KL P kt encT) (h:MpI w base b f m g c) {k:ByteArray} {n:Nat} {A A':Option Addr} {c':Nat} (h0:f k=[]→A=none) (h1:f k≠[]→A=some ⟨g k,0,none⟩)
  (_hb:base≤w.heap.size) (hown:Own w' base 3 1 A' ((f k).length+1) c' ((nums (f k++[n])).map (Value.int .i64))) (hg:w.grownBy w' (ob A)) (hat:ob A'=ob A∨ob A'=some w.heap.size) :
  ∃ w2 m2 g2 c2,(Instr.mapUpdate t (.map (some b)) (encT k) (.slice A' ((f k).length+1) c')).run P w'=.ok () w2∧w'.grownBy w2 (some b)∧MpI w2 base b (fun x=>if x=k then f k++[n] else f x) m2 g2 c2:=by
 have hbA:ob A≠some b:=by
  by_cases hf:f k=[]
  ·rw [h0 hf]; simp [ob]
  ·rw [h1 hf]; exact h.ne (h.own k hf)
 have hm1:MapIs w' b encT m:=h.map.keep (Kept.of_grown hg fun x e _ hx=>hbA (by rw [e] at hx; first | exact hx | exact hx.symm));obtain ⟨w2,hrun,hm2,hg2⟩:=hm1.put ht kl k (.slice A' ((f k).length+1) c');obtain ⟨g',rfl⟩:=hown.some_ (by omega);have hneg:∀ x,f x≠[]→x≠k→g x≠g'∧ob A≠some (g x):=by
  intro x hx hxk;have h3:ob A≠some (g x):=by
   by_cases hf:f k=[]
   ·rw [h0 hf]; simp [ob]
   ·rw [h1 hf];simp only [ob,Option.map_some];intro e;injection e with e;exact hxk (h.inj x k hx hf e.symm)
  refine ⟨fun e => ?_,h3⟩
  rcases hat with h4 | h4
  ·rw [← h4] at h3;simp [ob,e] at h3
  ·have h5:=(h.own x hx).blk (k:=g x) rfl;simp [ob] at h4;omega
 have hb2:∀ x t cs,Blk w' x t cs→Blk w2 x t cs:=by
  intro x t cs hx;refine hx.keep (Kept.of_grown hg2 fun y e _ hy => ?_);have hy2:y=b:=by
   first
   | injection hy
   | (injection hy with hy; exact hy.symm)
  obtain ⟨es,cl,h5,_⟩:=hm1;unfold Blk at hx;rw [← e,hy2,h5] at hx;cases hx
 have ho2:∀ (A1:Option Addr) (n1 c1:Nat) (xs:List Value),Own w' base 3 1 A1 n1 c1 xs→Own w2 base 3 1 A1 n1 c1 xs:=by
  intro A1 n1 c1 xs ho
  rcases ho.2 with ⟨hv,hz⟩ | ⟨g1,cap,cur,hv,r⟩
  ·exact ⟨ho.1,.inl ⟨hv,hz⟩⟩
  ·exact ⟨ho.1,.inr ⟨g1,cap,cur,hv,r.1,hb2 g1 _ _ r.2.1,r.2.2⟩⟩
 refine ⟨w2,mput m k (.slice (some ⟨g',0,none⟩) ((f k).length+1) c'),(fun x=>if x=k then g' else g x),(fun x=>if x=k then c' else c x),hrun,hg2,hm2,h.le,?_,?_,?_,?_⟩
 ·intro x hx;by_cases hxk:x=k
  ·simp [hxk] at hx
  ·rw [if_neg hxk] at hx;rw [mget_put,if_neg (fun e=>hxk e.symm)];exact h.no x hx
 ·intro x hx;by_cases hxk:x=k
  ·subst hxk;rw [mget_put,if_pos rfl];simp
  ·rw [if_neg hxk] at hx;rw [mget_put,if_neg (fun e=>hxk e.symm),if_neg hxk,if_neg hxk,if_neg hxk];exact h.yes x hx
 ·intro x hx;by_cases hxk:x=k
  ·subst hxk;have:=ho2 _ _ _ _ hown
   simpa using this
  ·rw [if_neg hxk] at hx;simp only [if_neg hxk];exact ho2 _ _ _ _ (Own.keep (h.own x hx) (Kept.of_grown hg fun y e _ hy=>(hneg x hx hxk).2 (by simp [ob] at e; rw [← e] at hy; first | exact hy | exact hy.symm)))
 ·intro x y hx hy he;by_cases hxk:x=k <;> by_cases hyk:y=k
  ·rw [hxk,hyk]
  ·simp only [if_pos hxk,if_neg hyk] at he hy;exact absurd he.symm (hneg y hy hyk).1
  ·simp only [if_pos hyk,if_neg hxk] at he hx;exact absurd he (hneg x hx hxk).1
  ·simp only [if_neg hxk,if_neg hyk] at he hx hy;exact h.inj x y hx hy he
end
attribute [local go_sem] Oper.semAt_some

theorem wpListIn_app {F:Fence} {n0:Nat} {P:Program} {w:World} {base e sz n c:Nat} {A:Option Addr} {xs:List Value} {ops:Array Oper} {rest:List Oper} {o:Oper} {a:Act} {Q:Exit→Act→World→Prop} (hgd:o.guard=none) (s x:Operand) {t by_:Nat}
  (ho:o.op=.call { callee:=.builtin .append,args:=#[s,x],argTypes:=#[t,t] }) (ti:TI P t e sz by_) (hs:a.eval s=.slice A n c) (hown:Own w base e sz A n c xs)
  {S:Nat→Prop} {B:Option Addr} {m c2:Nat} {news:List Value} (hx:a.eval x=.slice B m c2) (hr:Rd w S B news) (hl:news.length=m*sz) (h1:∀ u∈news,u.oneCell'=true)
  (h63:(n+m)*by_≤140737488355328) (hby:0<by_) (hbase:base≤w.heap.size)
  (h:∀ A' c' w',Own w' base e sz A' (n+m) c' (xs++news)→w.grownBy w' (ob A)→(ob A'=ob A∨ob A'=some w.heap.size)→wpListIn F n0 P ops Q rest (a.put o.dst (.slice A' (n+m) c')) w') :
  wpListIn F n0 P ops Q (o :: rest) a w:=by
 obtain ⟨A',c',w',hrun,h2,h3,h4⟩:=run_app w o.type ti hown (c2:=c2) hr hl h1 h63 hby hbase;refine wpListIn_plain hgd fun K hK => ?_;unfold Oper.wpIn;refine ⟨?_,?_⟩
 ·simp [Oper.about,ho,resolve,Target.leads,Sem.run_pure]
 ·rw [Oper.semAt_plain F _ _ (by rw [ho]; intro c hc'; cases hc')];simp [execOp,ho,resolve,invoke,builtin,hs,hx,hrun,Result.andThen];exact hK _ _ (h A' c' w' h2 h3 h4)
def TxOk (x:Val):Prop:=x.kind≠5∧flatB x=true∧x.s.size≤1000∧(x.kind=3→x.n≤738999)
def cellAt (l:List (List Val)) (j r:Nat):Val:=(l.getD r []).getD j Val.zero
def keyT (x:Val):ByteArray:=bsA (texL x)
def plcF (l:List (List Val)) (j r:Nat) (k:ByteArray):List Nat:=(List.range r).filter fun n=>decide ((cellAt l j n).kind≠0∧keyT (cellAt l j n)=k)
def prsF (l1 l2:List (List Val)) (i j r:Nat):List (Nat × Nat):=(List.range r).flatMap fun p=>(plcF l2 j l2.length (keyT (cellAt l1 i p))).map fun q=>(p,q)
theorem plcF_succ (l:List (List Val)) (j r:Nat):plcF l j (r+1)=fun k=>if (cellAt l j r).kind≠0∧keyT (cellAt l j r)=k then plcF l j r k++[r] else plcF l j r k:=by
 funext k
 unfold plcF;rw [List.range_succ,List.filter_append];by_cases h:(cellAt l j r).kind≠0∧keyT (cellAt l j r)=k
 ·rw [if_pos h];simp [h]
 ·rw [if_neg h];have:decide ((cellAt l j r).kind≠0∧keyT (cellAt l j r)=k)=false:=decide_eq_false h;simp only [List.filter_cons,List.filter_nil,this];simp
theorem plcF_len (l:List (List Val)) (j r:Nat) (k:ByteArray):(plcF l j r k).length≤r:=by
 have:=List.length_filter_le (fun n=>decide ((cellAt l j n).kind≠0∧keyT (cellAt l j n)=k)) (List.range r);rw [List.length_range] at this;exact this
theorem plcF_lt {l:List (List Val)} {j r n:Nat} {k:ByteArray} (h:n∈plcF l j r k):n<r:=by
 have:=(List.mem_filter.1 h).1
 simpa using this
theorem prsF_succ (l1 l2:List (List Val)) (i j r:Nat):prsF l1 l2 i j (r+1)=prsF l1 l2 i j r++(plcF l2 j l2.length (keyT (cellAt l1 i r))).map fun q=>(r,q):=by
 unfold prsF;rw [List.range_succ,List.flatMap_append];simp
theorem prsF_pre (l1 l2:List (List Val)) (i j r s:Nat):∃ t,prsF l1 l2 i j (r+s)=prsF l1 l2 i j r++t:=by
 induction s with
 | zero=>exact ⟨[],by simp⟩
 | succ s ih =>
  obtain ⟨t,ht⟩:=ih;exact ⟨_,by rw [show r+(s+1)=r+s+1 by omega,prsF_succ,ht,List.append_assoc]⟩
theorem prsF_at {l1 l2:List (List Val)} {i j r q:Nat} (hr:r<l1.length) (hq:q<(plcF l2 j l2.length (keyT (cellAt l1 i r))).length) :
  (prsF l1 l2 i j l1.length)[(prsF l1 l2 i j r).length+q]?=some (r,(plcF l2 j l2.length (keyT (cellAt l1 i r)))[q]):=by
 obtain ⟨t,ht⟩:=prsF_pre l1 l2 i j (r+1) (l1.length-(r+1));rw [show r+1+(l1.length-(r+1))=l1.length by omega,prsF_succ,List.append_assoc] at ht;rw [ht,List.getElem?_append_right (by omega),Nat.add_sub_cancel_left,List.getElem?_append_left (by simpa using hq)];simp [hq]
theorem table_matches (A1 A2:Option Addr) (n1 n2 c1 c2:Nat) (i j:Int) (w:World):Calls Tryz.prog 35 #[.slice A1 n1 c1,.slice A2 n2 c2,.int .i64 i,.int .i64 j] w (fun e w' =>
  e=.returned (.func (.func 66) #[] #[.pointer (some ⟨w.heap.size+1,0,none⟩),.pointer (some ⟨w.heap.size+1+1+1,0,none⟩),.pointer (some ⟨w.heap.size,0,none⟩),.pointer (some ⟨w.heap.size+1+1,0,none⟩)]) ∧
  w'=(((w.alloc (.cells #[.slice A1 n1 c1] 29)).alloc (.cells #[.slice A2 n2 c2] 29)).alloc (.cells #[.int .i64 i] 3)).alloc (.cells #[.int .i64 j] 3)):=by
 go_enter Tryz.func35,Tryz.ntmps35
 go_wp2;go_ret;exact ⟨rfl,rfl⟩
end Go.Proofs.YthmckfloppblcaaGreatDoor
