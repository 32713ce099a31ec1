/- The reference's Copy: the same data in new memory, which is the caller's own. Conditions: the argument reads as data. -/
import Derived.Test.YtomdpipekmcojaaGreatDoorBk20
import Derived.Deep.DeepCutAuto
import Derived.Deep.Light
import Derived.Laws.EntriesVeiled
namespace Go.Proofs.YtomdpipekmcojaaGreatDoor
open Go Go.RowKit

def CRBrow (w:World) (x:Val) (q:Nat) (Ac:Option Addr) (k:Nat) (Ar:Option Addr) (r:List Val) (A3:Option Addr) (c3:Nat) (hs:List Value) (cut:Nat→Nat) (lo:Nat) (wr:World):Prop :=
 (∀ i j,i≤j→cut i≤cut j)∧w.heap.size+3≤cut 0∧cut (x.rows.take k).length≤lo∧lo≤wr.heap.size∧(∀ b,ob Ar=some b→b<lo)∧(∀ b,ob Ac=some b→b<lo) ∧
  (∀ (i:Nat) (r:List Val),(x.rows.take k)[i]?=some r→∃ (B:Option Addr) (e:Nat),hs[i]?=some (Value.slice B r.length e)∧OwnVs wr (cut i) (fun b=>cut i≤b∧b<cut (i+1)∧ob Ar≠some b∧¬ ob Ac=some b) q B e r∧∀ b,ob B=some b→b<cut (i+1)∧ob Ar≠some b∧¬ ob Ac=some b) ∧
  OwnVs wr lo (fun b=>lo≤b) q A3 c3 r
structure CRB (w:World) (x:Val) (q:Nat) (A B:Option Addr) (c e:Nat) (Ac:Option Addr) (cc:Nat) (k:Nat) (Ar:Option Addr) (cr:Nat) (r:List Val) (A3:Option Addr) (c3:Nat) (wr:World):Prop where
 base:CR w x q A B c e Ac cc k Ar cr wr
 row:∃ (hs:List Value) (cut:Nat→Nat) (lo:Nat),Own wr (w.heap.size+3) 42 1 Ar (x.rows.take k).length cr hs∧CRBrow w x q Ac k Ar r A3 c3 hs cut lo wr
theorem CRB.of {w:World} {x:Val} {q:Nat} {A B:Option Addr} {c e:Nat} {Ac:Option Addr} {cc:Nat} {k:Nat} {Ar:Option Addr} {cr:Nat} {wr wr':World} {r:List Val} {A3:Option Addr} {c3:Nat} (h:CR w x q A B c e Ac cc k Ar cr wr) (ho:OwnVs wr' wr.heap.size (fun b=>wr.heap.size≤b) q A3 c3 r) (hx:Ext wr wr'):CRB w x q A B c e Ac cc k Ar cr r A3 c3 wr':=by
 obtain ⟨hs,cut,h1,h2,h3,h4,h5⟩:=h.rows;refine ⟨h.more hx,hs,cut,wr.heap.size,h1.ext hx,h2,h3,h4,hx.size,fun b hb=>(h1.blk hb).2,fun b hb=>(h.cols.1.blk hb).2,fun i r hi => ?_,ho⟩;obtain ⟨B,e,g1,g2,g3⟩:=h5 i r hi;exact ⟨B,e,g1,g2.ext hx,g3⟩
theorem CRB.more {w:World} {x:Val} {q:Nat} {A B:Option Addr} {c e:Nat} {Ac:Option Addr} {cc:Nat} {k:Nat} {Ar:Option Addr} {cr:Nat} {wr wr':World} {r:List Val} {A3:Option Addr} {c3:Nat} (h:CRB w x q A B c e Ac cc k Ar cr r A3 c3 wr) (hx:Ext wr wr'):CRB w x q A B c e Ac cc k Ar cr r A3 c3 wr':=by
 obtain ⟨hs,cut,lo,h1,h2,h3,h4,h5,h6,h7,h8,h9⟩:=h.row;refine ⟨h.base.more hx,hs,cut,lo,h1.ext hx,h2,h3,h4,Nat.le_trans h5 hx.size,h6,h7,fun i r hi => ?_,h9.ext hx⟩;obtain ⟨B,e,g1,g2,g3⟩:=h8 i r hi;exact ⟨B,e,g1,g2.ext hx,g3⟩
theorem CRB.app {w:World} {x:Val} {q:Nat} {A B:Option Addr} {c e:Nat} {Ac:Option Addr} {cc:Nat} {k:Nat} {Ar:Option Addr} {cr:Nat} {wr wr':World} {r:List Val} {A3 A4:Option Addr} {c3 c4:Nat} (h:CRB w x q A B c e Ac cc k Ar cr r A3 c3 wr) {hs:List Value} {cut:Nat→Nat} {lo:Nat} (hr:∃ hk:k<x.rows.length,r=x.rows[k]) (hk:k<x.rows.length) (h1:Own wr (w.heap.size+3) 42 1 Ar (x.rows.take k).length cr hs) (hb:CRBrow w x q Ac k Ar r A3 c3 hs cut lo wr)
  (hg:wr.grownBy wr' (ob Ar)) (ho4:Own wr' (w.heap.size+3) 42 1 A4 (k+1) c4 (hs++[Value.slice A3 r.length c3])) (hat:ob A4=ob Ar∨ob A4=some wr.heap.size):CRA w x q A B c e Ac cc (k+1) A4 c4 wr':=by
 obtain ⟨_,rfl⟩:=hr;obtain ⟨h2,h3,h4,h5,h6,h7,h8,h9⟩:=hb;exact h.base.app hk h1 h2 h3 h4 h5 h6 h7 h8 h9 hg ho4 hat
def CpyInv (w:World) (x:Val) (q:Nat) (A B:Option Addr) (c e:Nat) (Ac:Option Addr) (cc:Nat) (k:Nat) (Ar:Option Addr) (cr:Nat) (_r:List Val) (_b _o:Nat) (_C:Option Addr) (_ec:Nat) (γ:Nat) (w':World):Prop:=γ≤4∧(Ext w w'∧Blk w' w.heap.size 47 #[.int .i64 x.kind,.string x.s,.int .i64 x.dn,.int .i64 x.ds,.int .i64 x.n,.slice A x.cols.length c,.slice B x.rows.length e])∧(γ≤2→CR w x q A B c e Ac cc k Ar cr w')
def gCpy (w:World) (x:Val) (q:Nat) (A B:Option Addr) (c e:Nat) (Ac:Option Addr) (cc:Nat) (k:Nat) (Ar:Option Addr) (cr:Nat) (r:List Val) (b o:Nat) (C:Option Addr) (ec:Nat):Nat→List Value→Nat→World→Prop
 | 0,[v],_,_=>v=.pointer (some ⟨w.heap.size+1+1,6,none⟩)
 | 1,[v],_,_=>v=.slice Ar k cr
 | 2,[v],_,_=>v=.pointer (some ⟨w.heap.size,6,none⟩)
 | 3,[v],_,_=>v=.slice B x.rows.length e
 | 4,[v],_,_=>v=.int .i64 (k:Int)
 | 5,[v],_,_=>v=.pointer (some ⟨b,o+k,none⟩)
 | 6,[v],_,_=>v=.slice C r.length ec
 | 7,[v],γ,w'=>∃ (A3:Option Addr) (c3:Nat),v=.slice A3 r.length c3∧1≤γ∧(γ=1→CRB w x q A B c e Ac cc k Ar cr r A3 c3 w')
 | 8,[v],γ,w'=>∃ (g:Nat) (A3:Option Addr) (c3:Nat),v=.slice (some ⟨g,0,none⟩) 1 1∧2≤γ∧(γ=2→Blk w' g 42 #[.slice A3 r.length c3]∧CRB w x q A B c e Ac cc k Ar cr r A3 c3 w')
 | 9,[v],γ,w'=>∃ (A4:Option Addr) (c4:Nat),v=.slice A4 (k+1) c4∧3≤γ∧(γ=3→CRA w x q A B c e Ac cc (k+1) A4 c4 w')
 | 10,[v],_,_=>v=.pointer (some ⟨w.heap.size+1+1,6,none⟩)
 | 11,[_],γ,w'=>4≤γ∧(γ=4→∃ (A4:Option Addr) (c4:Nat),CR w x q A B c e Ac cc (k+1) A4 c4 w')
 | _,_,_,_=>True
theorem gCpy_st (w:World) (x:Val) (q:Nat) (A B:Option Addr) (c e:Nat) (Ac:Option Addr) (cc:Nat) (k:Nat) (Ar:Option Addr) (cr:Nat) (r:List Val) (b o:Nat) (C:Option Addr) (ec:Nat):∀ i l' γ v γ' v',SR (CpyInv w x q A B c e Ac cc k Ar cr r b o C ec) γ v γ' v'→gCpy w x q A B c e Ac cc k Ar cr r b o C ec i l' γ v→gCpy w x q A B c e Ac cc k Ar cr r b o C ec i l' γ' v':=by
 intro i l' γ v γ' v' r h;have hle:=r.le;unfold gCpy at h ⊢;split at h
 all_goals first
  | exact h
  | (obtain ⟨h1,h2⟩:=h; exact ⟨h1,by omega⟩)
  | (obtain ⟨h1,h3,h4⟩:=h; exact ⟨h1,by omega,fun e=>by rw [r.eq (by omega)]; exact h4 (by omega)⟩)
  | (obtain ⟨x0,h1,h3,h4⟩:=h; exact ⟨x0,h1,by omega,fun e=>by rw [r.eq (by omega)]; exact h4 (by omega)⟩)
  | (obtain ⟨x0,x1,h1,h3,h4⟩:=h; exact ⟨x0,x1,h1,by omega,fun e=>by rw [r.eq (by omega)]; exact h4 (by omega)⟩)
  | (obtain ⟨x0,x1,x2,h1,h3,h4⟩:=h; exact ⟨x0,x1,x2,h1,by omega,fun e=>by rw [r.eq (by omega)]; exact h4 (by omega)⟩)
  | (obtain ⟨x0,x1,x2,x3,h1,h3,h4⟩:=h; exact ⟨x0,x1,x2,x3,h1,by omega,fun e=>by rw [r.eq (by omega)]; exact h4 (by omega)⟩)
  | (obtain ⟨x0,x1,x2,x3,x4,h1,h3,h4⟩:=h; exact ⟨x0,x1,x2,x3,x4,h1,by omega,fun e=>by rw [r.eq (by omega)]; exact h4 (by omega)⟩)
  | (obtain ⟨h3,h4⟩:=h; exact ⟨by omega,fun e=>by rw [r.eq (by omega)]; exact h4 (by omega)⟩)
def dCpy:Nat→List Nat:=fun i=>[i]
def stCpy:List Nat:=[100,3,100,100,100,100,100,1,2,3,100,4]

def RetCp (w:World) (d:Nat) (x:Val) (e:Ending) (w':World):Prop:=∃ (Ac:Option Addr) (cc:Nat) (Ar:Option Addr) (cr:Nat),e=.returned (.agg #[.int .i64 x.kind,.string x.s,.int .i64 x.dn,.int .i64 x.ds,.int .i64 x.n,.slice Ac x.cols.length cc,.slice Ar x.rows.length cr])∧OwnSs w' w.heap.size Ac cc x.cols∧OwnRR w' w.heap.size (fun b=>ob Ac=some b) d Ar cr x.rows∧(∀ b,ob Ac=some b→ob Ar≠some b)∧Ext w w'
theorem OwnRR.lower {w:World} {base base' q c:Nat} {av:Nat→Prop} {A:Option Addr} {l:List (List Val)} (h:OwnRR w base av q A c l) (hb:base'≤base):OwnRR w base' av q A c l:=by
 obtain ⟨hs,cut,h1,h2,h3,h4,h5⟩:=h;exact ⟨hs,cut,h1.lower hb,h2,Nat.le_trans hb h3,h4,h5⟩
theorem RetCp.v {w w':World} {d:Nat} {x:Val} {e:Ending} (h:RetCp w d x e w') (hs:x.s.size≤4294967296) (hc:x.cols.length≤4294967296) (hl:x.rows.length≤4294967296) (hr:∀ r∈x.rows,r.length≤4294967296):RetV w (Fresh w) d x e w':=by
 obtain ⟨Ac,cc,Ar,cr,he,h1,h2,h3,h4⟩:=h;exact ⟨Ac,cc,Ar,cr,he,⟨h1.1.cap,h2.cap⟩,RV.mk hs (h1.strs hc fun b hb=>(h1.1.blk hb).1) (h2.rows hl hr),h4⟩
theorem Rows.lens {w:World} {S:Nat→Prop} {d:Nat} {B:Option Addr} {l:List (List Val)} (h:Rows w S d B l):∀ r∈l,r.length≤4294967296:=by
 intro r hr;obtain ⟨i,hi,rfl⟩:=List.mem_iff_getElem.1 hr;obtain ⟨_,_,_,_,_,_,_,_,h1⟩:=h.at_ hi;exact h1.len
theorem RetCp.rv {w w':World} {d:Nat} {x:Val} {e:Ending} {S:Nat→Prop} {A B:Option Addr} (h:RetCp w d x e w') (hx:RV w S d x A B):RetV w (Fresh w) d x e w':=h.v hx.size hx.strs.2.1 hx.rows_.len hx.rows_.lens
theorem app_new {W3 w1:World} {t:Nat} (hg:(W3.alloc (.cells #[] t)).grownBy w1 (ob (some ⟨W3.heap.size,0,none⟩))):Ext W3 w1:=((Ext.refl W3).alloc _).grown hg (fun k hk=>by simp [ob] at hk; omega)
def PC6O (d:Nat):Prop:=∀ (x:Val) (A B:Option Addr) (c e:Nat) (w:World) (S:Nat→Prop),RV w S d x A B→Calls Tryz.prog 109 #[(.agg #[.int .i64 x.kind,.string x.s,.int .i64 x.dn,.int .i64 x.ds,.int .i64 x.n,.slice A x.cols.length c,.slice B x.rows.length e])] w (RetCp w d x)
set_option maxRecDepth 100000 in
set_option maxHeartbeats 2000000 in
theorem r06_Copy_step (q:Nat) (ih:0<q→PC6 (q-1)):PC6O q:=by
 intro x A B c e w S hx;have HX:=Hd (hx.mono (T:=fun b=>S b∧b<w.heap.size) fun i hi hs=>⟨hs,hi⟩);have IH:=Hd ih;have hlen:=hx.rows_.len;have hcl:=hx.strs.2.1;have hx0:Ext w (((w.alloc (.cells #[.int .i64 x.kind,.string x.s,.int .i64 x.dn,.int .i64 x.ds,.int .i64 x.n,.slice A x.cols.length c,.slice B x.rows.length e] 47)).alloc (.cells #[.int .i64 0,.string ⟨#[]⟩,.int .i64 0,.int .i64 0,.int .i64 0,.slice none 0 0,.slice none 0 0] 47)).alloc (.cells #[.int .i64 0,.string ⟨#[]⟩,.int .i64 0,.int .i64 0,.int .i64 0,.slice none 0 0,.slice none 0 0] 47)):=(((Ext.refl w).alloc _).alloc _).alloc _;clear hx ih;obtain ⟨W3,hW3⟩:∃ W3,W3=(((w.alloc (.cells #[.int .i64 x.kind,.string x.s,.int .i64 x.dn,.int .i64 x.ds,.int .i64 x.n,.slice A x.cols.length c,.slice B x.rows.length e] 47)).alloc (.cells #[.int .i64 0,.string ⟨#[]⟩,.int .i64 0,.int .i64 0,.int .i64 0,.slice none 0 0,.slice none 0 0] 47)).alloc (.cells #[.int .i64 x.kind,.string x.s,.int .i64 x.dn,.int .i64 x.ds,.int .i64 x.n,.slice A x.cols.length c,.slice B x.rows.length e] 47)):=⟨_,rfl⟩;have hx3:Ext w W3:=(by rw [hW3]; exact (((Ext.refl w).alloc _).alloc _).alloc _);have hs3:W3.heap.size=w.heap.size+3:=(by rw [hW3]; simp);have b0:Blk W3 w.heap.size 47 #[.int .i64 x.kind,.string x.s,.int .i64 x.dn,.int .i64 x.ds,.int .i64 x.n,.slice A x.cols.length c,.slice B x.rows.length e]:=(by rw [hW3]; exact ((Blk.new _ _ _).keep (Kept.alloc _ _ _)).keep (Kept.alloc _ _ _));have b1:Blk W3 (w.heap.size+1) 47 #[.int .i64 0,.string ⟨#[]⟩,.int .i64 0,.int .i64 0,.int .i64 0,.slice none 0 0,.slice none 0 0]:=by
  rw [hW3];have:=(Blk.new (w.alloc (.cells #[.int .i64 x.kind,.string x.s,.int .i64 x.dn,.int .i64 x.ds,.int .i64 x.n,.slice A x.cols.length c,.slice B x.rows.length e] 47)) 47 #[.int .i64 0,.string ⟨#[]⟩,.int .i64 0,.int .i64 0,.int .i64 0,.slice none 0 0,.slice none 0 0]).keep (Kept.alloc _ _ (.cells #[.int .i64 x.kind,.string x.s,.int .i64 x.dn,.int .i64 x.ds,.int .i64 x.n,.slice A x.cols.length c,.slice B x.rows.length e] 47))
  simpa using this
 have b2:Blk W3 (w.heap.size+1+1) 47 #[.int .i64 x.kind,.string x.s,.int .i64 x.dn,.int .i64 x.ds,.int .i64 x.n,.slice A x.cols.length c,.slice B x.rows.length e]:=by
  rw [hW3];have:=Blk.new ((w.alloc (.cells #[.int .i64 x.kind,.string x.s,.int .i64 x.dn,.int .i64 x.ds,.int .i64 x.n,.slice A x.cols.length c,.slice B x.rows.length e] 47)).alloc (.cells #[.int .i64 0,.string ⟨#[]⟩,.int .i64 0,.int .i64 0,.int .i64 0,.slice none 0 0,.slice none 0 0] 47)) 47 #[.int .i64 x.kind,.string x.s,.int .i64 x.dn,.int .i64 x.ds,.int .i64 x.n,.slice A x.cols.length c,.slice B x.rows.length e]
  simpa using this
 have HX3:=Hd hx3;have HS3:=Hd hs3;have HB0:=Hd b0;have HB1:=Hd b1;have HB2:=Hd b2;have HW3:=Hd hW3;have HST:=Hd ((HX.o.strs.keep (hx3.kept _)).keep (Kept.alloc _ _ (.cells #[] 9)));clear hx3 hs3 b1 b2 hx0 hW3
 go_enter Tryz.func109,Tryz.ntmps109
 go_upto_region 2 with fail
 rw [← HW3.o];have k5:=HB0.o.cell (i:=5) rfl;have hz3:w.heap.size<W3.heap.size:=(by have:=HS3.o; omega)
 go_wp2_with (at_builtin; go_must (refine wpList_app rfl (.tmp 6) (.tmp 8) rfl tiS rfl (World.ownsRow_made W3 #[] 0 (Nat.le_refl _) (by unfold maxLen; omega) rfl) rfl HST.o.1 (by simp) (by simp [Value.oneCell']) (by omega) (by decide) (by simp) ?_); intro Ac cc w1 hown hg hat; have hx1:=app_new hg; have q5:=HB2.o.keep (hx1.kept _); have k50:=q5.cell (i:=5) rfl; have k60:=q5.cell (i:=6) rfl; have kf:=q5.frozen; have kz:=q5.lt; have Q5:=Hd q5; have HX1:=Hd hx1; have HOWN:=Hd hown; clear hg hat q5 hx1 hown)
 have HM0:=Hd (show CR w x q A B c e Ac cc 0 none 0 ((w1.setCell ⟨w.heap.size+1+1,5,none⟩ (.slice Ac x.cols.length cc)).setCell ⟨w.heap.size+1+1,6,none⟩ (.slice none 0 0)) by
  have ho:=((Only.refl (w.heap.size+1+1) w1).set 5 (.slice Ac x.cols.length cc)).set 6 (.slice none 0 0);have hx:=HX3.o.trans HX1.o;have hown:=HOWN.o;simp only [Nat.zero_add,List.nil_append] at hown;rw [HS3.o] at hown;refine ⟨hx.only ho (by omega),(HB0.o.keep (HX1.o.kept _)).keep (ho.kept fun b _ e=>by omega),(HB1.o.keep (HX1.o.kept _)).keep (ho.kept fun b _ e=>by omega),?_,⟨ho.own hown (by omega),HST.o.2.2⟩,?_,fun b _ h=>by cases h⟩
  ·have:=(Q5.o.set 5 (.slice Ac x.cols.length cc)).set 6 (.slice none 0 0)
   simpa using this
  ·have hsz:w.heap.size+3≤((w1.setCell ⟨w.heap.size+1+1,5,none⟩ (.slice Ac x.cols.length cc)).setCell ⟨w.heap.size+1+1,6,none⟩ (.slice none 0 0)).heap.size:=by
    have:=HX1.o.size;have h2:=HS3.o;simp [World.setCell];omega
   simpa using OwnRR.nil _ _ (fun b=>ob Ac=some b) q hsz)
 clear HB0 HB1 HB2 HW3 HST HOWN Q5 HX1 HX3 HS3 k5 hz3 k50 k60 kf kz b0
 go_loopw [4] (fun i wr=>∃ (k:Nat) (Ar:Option Addr) (cr:Nat),k≤x.rows.length∧i=.int .i64 k∧CR w x q A B c e Ac cc k Ar cr wr) (fun i _=>x.rows.length-(intOf i).toNat)
 case atStart=>exact ⟨0,none,0,Nat.zero_le _,rfl,HM0.o⟩
 case round =>
  clear HM0;obtain ⟨k,Ar,cr,hk,rfl,hm0⟩:=hrel;have HM:=Hd hm0;clear hm0;have k6:=HM.o.box.cell (i:=6) rfl;have hz:=HM.o.box.lt;by_cases hlt:k<x.rows.length
  ·obtain ⟨b,o,C,ec,hB,hb,hc0,hcp,hrow⟩:=HX.o.rows_.at_ hlt;obtain ⟨r,hr⟩:∃ r,r=x.rows[k]:=⟨_,rfl⟩;rw [← hr] at hc0 hcp hrow;have HC0:=Hd hc0;have HBE:=Hd hB;have HROW:=Hd hrow;have HRE:=Hd (show ∃ hk:k<x.rows.length,r=x.rows[k] from ⟨hlt,hr⟩);clear hc0 hB hrow hr
   go_upto_region 7 with fail
   refine wp_region_lin_lit (by kernel_rfl) dCpy (by kernel_rfl) (SR (CpyInv w x q A B c e Ac cc k Ar cr r b o C ec)) (SR.refl _) (SR.trans _) (SN stCpy) (gCpy w x q A B c e Ac cc k Ar cr r b o C ec) (gCpy_st _ _ _ _ _ _ _ _ _ _ _ _ _ _ _ _ _) 0 (SN.zero (by decide)) ⟨?_,?_,?_,?_,?_,?_,?_,?_,?_,?_,?_,?_,trivial⟩ ?_
   ·refine LinStep.yes fun vals γ w' ρ hR hN hp hρ hc hf hg=>⟨rfl,?_⟩;have hi:=hR.inv ⟨by omega,⟨HM.o.ext.drew,HM.o.box.keep (Kept.drew _ _)⟩,fun _=>HM.o.more (Ext.refl _).drew⟩;have e3:ρ (.tmp 3)=.pointer (some ⟨w.heap.size+1+1,0,none⟩):=hρ 3;clear hR hN hp hρ hi;go_light;go_simp;exact ⟨γ,SR.refl _ _ _,fun _ _ _ h=>h,rfl⟩
   ·refine LinStep.yes fun vals γ w' ρ hR hN hp hρ hc hf hg=>⟨rfl,?_⟩;have hi:=hR.inv ⟨by omega,⟨HM.o.ext.drew,HM.o.box.keep (Kept.drew _ _)⟩,fun _=>HM.o.more (Ext.refl _).drew⟩;have e19:ρ (.tmp 19)=_:=(hρ 19).trans (hp 0 (by decide));have hb:=(hi.2.2 (by have h:γ<3:=hN; omega)).gout;have k1:=hb.cell (i:=6) rfl;clear hR hN hp hρ hi hb;go_light;go_simp;exact ⟨γ,SR.refl _ _ _,fun _ _ _ h=>h,rfl⟩
   ·refine LinStep.yes fun vals γ w' ρ hR hN hp hρ hc hf hg=>⟨rfl,?_⟩;have hi:=hR.inv ⟨by omega,⟨HM.o.ext.drew,HM.o.box.keep (Kept.drew _ _)⟩,fun _=>HM.o.more (Ext.refl _).drew⟩;have e1:ρ (.tmp 1)=.pointer (some ⟨w.heap.size,0,none⟩):=hρ 1;clear hR hN hp hρ hi;go_light;go_simp;exact ⟨γ,SR.refl _ _ _,fun _ _ _ h=>h,rfl⟩
   ·refine LinStep.yes fun vals γ w' ρ hR hN hp hρ hc hf hg=>⟨rfl,?_⟩;have hi:=hR.inv ⟨by omega,⟨HM.o.ext.drew,HM.o.box.keep (Kept.drew _ _)⟩,fun _=>HM.o.more (Ext.refl _).drew⟩;have e21:ρ (.tmp 21)=_:=(hρ 21).trans (hp 2 (by decide));have k1:=hi.2.1.2.cell (i:=6) rfl;clear hR hN hp hρ hi;go_light;go_simp;exact ⟨γ,SR.refl _ _ _,fun _ _ _ h=>h,rfl⟩
   ·refine LinStep.yes fun vals γ w' ρ hR hN hp hρ hc hf hg=>⟨rfl,?_⟩;have hi:=hR.inv ⟨by omega,⟨HM.o.ext.drew,HM.o.box.keep (Kept.drew _ _)⟩,fun _=>HM.o.more (Ext.refl _).drew⟩;have e4:ρ (.tmp 4)=.int .i64 (k:Int):=hρ 4;clear hR hN hp hρ hi;go_light;go_simp;exact ⟨γ,SR.refl _ _ _,fun _ _ _ h=>h,rfl⟩
   ·refine LinStep.yes fun vals γ w' ρ hR hN hp hρ hc hf hg=>⟨rfl,?_⟩;have hi:=hR.inv ⟨by omega,⟨HM.o.ext.drew,HM.o.box.keep (Kept.drew _ _)⟩,fun _=>HM.o.more (Ext.refl _).drew⟩;have e22:ρ (.tmp 22)=_:=(hρ 22).trans (hp 3 (by decide));have e23:ρ (.tmp 23)=_:=(hρ 23).trans (hp 4 (by decide));have i0:(0:Int)≤(k:Int):=(by omega);have i1:(k:Int)<(x.rows.length:Int):=(by omega);rw [HBE.o] at e22;clear hR hN hp hρ hi;go_light;go_simp;exact ⟨γ,SR.refl _ _ _,fun _ _ _ h=>h,rfl⟩
   ·refine LinStep.yes fun vals γ w' ρ hR hN hp hρ hc hf hg=>⟨rfl,?_⟩;have hi:=hR.inv ⟨by omega,⟨HM.o.ext.drew,HM.o.box.keep (Kept.drew _ _)⟩,fun _=>HM.o.more (Ext.refl _).drew⟩;have e24:ρ (.tmp 24)=_:=(hρ 24).trans (hp 5 (by decide));have k1:=hi.2.1.1.cell HC0.o;clear hR hN hp hρ hi;go_light;go_simp;exact ⟨γ,SR.refl _ _ _,fun _ _ _ h=>h,rfl⟩
   ·refine LinStep.yes fun vals γ w' ρ hR hN hp hρ hc hf hg=>⟨rfl,?_⟩;have hi:=hR.inv ⟨by omega,⟨HM.o.ext.drew,HM.o.box.keep (Kept.drew _ _)⟩,fun _=>HM.o.more (Ext.refl _).drew⟩;have e25:ρ (.tmp 25)=_:=(hρ 25).trans (hp 6 (by decide));have h0:γ=0:=(by have h:γ<1:=hN; omega);subst h0;have HI:=Hd hi;have HX:=Hd hi.2.1.1;clear hR hN hp hρ hi;go_light;go_simp;refine (r06_CopyRow q IH.o r C ec w' _ (HROW.o.keep (HX.o.kept _))).mono ?_;rintro e' w3 ⟨A3,c3,he,ho3,hx3⟩;have hcb:=CRB.of (HI.o.2.2 (by omega)) ho3 hx3;exact ⟨_,he,1,SR.up (by omega) ⟨by omega,⟨hcb.base.ext,hcb.base.box⟩,fun _=>hcb.base⟩,SN.up (by omega) (by decide) rfl,A3,c3,rfl,by omega,fun _=>hcb⟩
   ·refine LinStep.yes fun vals γ w' ρ hR hN hp hρ hc hf hg=>⟨rfl,?_⟩;have hi:=hR.inv ⟨by omega,⟨HM.o.ext.drew,HM.o.box.keep (Kept.drew _ _)⟩,fun _=>HM.o.more (Ext.refl _).drew⟩;obtain ⟨A3,c3,g7,hr1,hcb⟩:=hp 7 (by decide);have e26:ρ (.tmp 26)=_:=(hρ 26).trans g7;have h0:γ=1:=(by have h:γ<2:=hN; omega);subst h0;have HCB:=Hd ((hcb rfl).more ((Ext.refl w').alloc (.cells #[.slice A3 r.length c3] 42)));clear hR hN hp hρ hi hcb g7;go_light;go_simp;exact ⟨2,SR.up (by omega) ⟨by omega,⟨HCB.o.base.ext,HCB.o.base.box⟩,fun _=>HCB.o.base⟩,SN.up (by omega) (by decide) rfl,_,A3,c3,rfl,by omega,fun _=>⟨Blk.new _ _ _,HCB.o⟩⟩
   ·refine LinStep.yes fun vals γ w' ρ hR hN hp hρ hc hf hg=>⟨rfl,?_⟩;have hi:=hR.inv ⟨by omega,⟨HM.o.ext.drew,HM.o.box.keep (Kept.drew _ _)⟩,fun _=>HM.o.more (Ext.refl _).drew⟩;obtain ⟨g',A3,c3,g8,hr2,hbk⟩:=hp 8 (by decide);have e27:ρ (.tmp 27)=_:=(hρ 27).trans g8;have e20:ρ (.tmp 20)=_:=(hρ 20).trans (hp 1 (by decide));have h0:γ=2:=(by have h:γ<3:=hN; omega);subst h0;obtain ⟨hbk1,hbk2⟩:=hbk rfl;obtain ⟨hs,cut,lo,r1,r2⟩:=hbk2.row;have hlk:(x.rows.take k).length=k:=(by rw [List.length_take]; omega);have r1':=r1;rw [hlk] at r1';refine lin_app (.tmp 20) (.tmp 27) rfl tiR e20 r1' e27 hbk1.rd rfl (by simp [Value.oneCell']) (by omega) (by decide) (by have h1:=hbk2.base.gout.lt; omega) ?_;intro A4 c4 w4 hown4 hg4 hat4;have hcra:=hbk2.app HRE.o hlt r1 r2 hg4 hown4 hat4;exact ⟨3,SR.up (by omega) ⟨by omega,⟨hcra.ext,hcra.box⟩,fun h=>absurd h (by omega)⟩,SN.up (by omega) (by decide) rfl,A4,c4,rfl,by omega,fun _=>hcra⟩
   ·refine LinStep.yes fun vals γ w' ρ hR hN hp hρ hc hf hg=>⟨rfl,?_⟩;have hi:=hR.inv ⟨by omega,⟨HM.o.ext.drew,HM.o.box.keep (Kept.drew _ _)⟩,fun _=>HM.o.more (Ext.refl _).drew⟩;have e3:ρ (.tmp 3)=.pointer (some ⟨w.heap.size+1+1,0,none⟩):=hρ 3;clear hR hN hp hρ hi;go_light;go_simp;exact ⟨γ,SR.refl _ _ _,fun _ _ _ h=>h,rfl⟩
   ·refine LinStep.yes fun vals γ w' ρ hR hN hp hρ hc hf hg=>⟨rfl,?_⟩;have hi:=hR.inv ⟨by omega,⟨HM.o.ext.drew,HM.o.box.keep (Kept.drew _ _)⟩,fun _=>HM.o.more (Ext.refl _).drew⟩;obtain ⟨A4,c4,g9,hr3,hda⟩:=hp 9 (by decide);have e28:ρ (.tmp 28)=_:=(hρ 28).trans g9;have e29:ρ (.tmp 29)=_:=(hρ 29).trans (hp 10 (by decide));have h0:γ=3:=(by have h:γ<4:=hN; omega);subst h0;have HA:=Hd (hda rfl);obtain ⟨y,hy⟩:=(hda rfl).gout;have k0:=hy.cell (i:=6) rfl;have kf:=hy.frozen;have kz:=hy.lt;clear hR hN hp hρ hi g9 hda hy;go_light;go_simp;have hs:=HA.o.store;refine ⟨4,SR.up (by omega) ⟨by omega,⟨?_,?_⟩,fun h=>absurd h (by omega)⟩,SN.up (by omega) (by decide) rfl,by omega,fun _=>⟨A4,c4,?_⟩⟩
    ·simpa using hs.ext
    ·simpa using hs.box
    ·simpa using hs
   ·intro vals γ w' hR hG;have hi:=hR.inv ⟨by omega,⟨HM.o.ext.drew,HM.o.box.keep (Kept.drew _ _)⟩,fun _=>HM.o.more (Ext.refl _).drew⟩;obtain ⟨h4,h5⟩:=hG 11 (by decide);obtain ⟨A4,c4,hm1⟩:=h5 (by have:=hi.1; omega);have HM1:=Hd hm1;clear hR hG hi h4 h5 hm1 HM;simp only [lexFrame,Act.put,List.setIfInBounds_toArray,List.set_cons_succ,List.set_cons_zero,Nat.zero_add,Nat.reduceAdd];generalize vals 0=u0,vals 1=u1,vals 2=u2,vals 3=u3,vals 4=u4,vals 5=u5,vals 6=u6,vals 7=u7,vals 8=u8,vals 9=u9,vals 10=u10,vals 11=u11;go_wp2;go_roundw
    case rel=>exact ⟨k+1,A4,c4,by omega,by go_num,HM1.o⟩
    case measure=>simp [intOf]; omega
  ·have hkr:k=x.rows.length:=(by omega);subst hkr;have hgt:=HM.o.gout;have hgr:=HM.o.res;have t0:=hgt.cell (i:=0) rfl;have t1:=hgt.cell (i:=1) rfl;have t2:=hgt.cell (i:=2) rfl;have t3:=hgt.cell (i:=3) rfl;have t4:=hgt.cell (i:=4) rfl;have t5:=hgt.cell (i:=5) rfl;have t6:=hgt.cell (i:=6) rfl;have r0:=hgr.cell (i:=0) rfl;have r1:=hgr.cell (i:=1) rfl;have r2:=hgr.cell (i:=2) rfl;have r3:=hgr.cell (i:=3) rfl;have r4:=hgr.cell (i:=4) rfl;have r5:=hgr.cell (i:=5) rfl;have r6:=hgr.cell (i:=6) rfl;have rf:=hgr.frozen;have rz:=hgr.lt;clear hgt hgr;go_wp2;refine bodyPost_ret (v:=(.agg #[.int .i64 x.kind,.string x.s,.int .i64 x.dn,.int .i64 x.ds,.int .i64 x.n,.slice Ac x.cols.length cc,.slice Ar x.rows.length cr])) (by simp [results,Tryz.results109,go_sem,r0,r1,r2,r3,r4,r5,r6]) rfl ?_;have hm:=HM.o;have hcb:∀ b,ob Ac=some b→w.heap.size+3≤b:=fun b h=>(hm.cols.1.blk h).1;have hrr:=hm.rows;rw [List.take_of_length_le (Nat.le_refl _)] at hrr;refine ⟨Ac,cc,Ar,cr,rfl,⟨?_,hm.cols.2⟩,?_,hm.sep,?_⟩
   ·refine Own.lower (hm.cols.1.keep ?_) (by omega)
    iterate 7 with_reducible refine Kept.set2 ?_ (fun h=>by have:=hcb _ h; omega)
    with_reducible exact Kept.refl _ _
   ·refine OwnRR.lower (hrr.keep ?_ fun b hb hb'=>hm.sep b hb' hb) (by omega)
    iterate 7 with_reducible refine Kept.set2 ?_ (fun h=>by have:=h.1; omega)
    with_reducible exact Kept.refl _ _
   ·iterate 7 with_reducible refine Ext.set2 ?_ (by omega) _
    with_reducible exact hm.ext
theorem r06_Copy (q:Nat):PC6O q:=by
 induction q with
 | zero=>exact r06_Copy_step 0 (fun h=>absurd h (by omega))
 | succ q ih=>exact r06_Copy_step (q+1) (fun _ x A B c e w S hx=>(ih x A B c e w S hx).mono fun _ _ h=>h.rv hx)
theorem r06_CopyV (q:Nat):PC6 q:=fun x A B c e w S hx=>(r06_Copy q x A B c e w S hx).mono fun _ _ h=>h.rv hx
/- The reference's plan. Conditions: the arguments read as data; the programs are there. -/

/- The reference's lower bound. Conditions: the answers read as data. -/

end Go.Proofs.YtomdpipekmcojaaGreatDoor
