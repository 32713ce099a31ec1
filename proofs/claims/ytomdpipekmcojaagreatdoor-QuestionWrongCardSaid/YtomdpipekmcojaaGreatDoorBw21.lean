/- The reference's Copy: the same data in new memory, which is the caller's own. Conditions: the argument reads as data. -/
import Derived.Test.YtomdpipekmcojaaGreatDoorBw20
import Derived.Deep.DeepCutAuto
import Derived.Deep.Light
import Derived.Laws.EntriesVeiled
namespace Go.Proofs.YtomdpipekmcojaaGreatDoor
open Go Go.RowKit

def CRBrow (w:World) (x:Val) (q:Nat) (Ac:Option Addr) (k:Nat) (Ar:Option Addr) (r:List Val) (A3:Option Addr) (c3:Nat) (hs:List Value) (cut:Nat→Nat) (lo:Nat) (wr:World):Prop :=
 (∀ i j,i≤j→cut i≤cut j)∧w.heap.size+3≤cut 0∧cut (x.rows.take k).length≤lo∧lo≤wr.heap.size∧(∀ b,ob Ar=some b→b<lo)∧(∀ b,ob Ac=some b→b<lo) ∧
  (∀ (i:Nat) (r:List Val),(x.rows.take k)[i]?=some r→∃ (B:Option Addr) (e:Nat),hs[i]?=some (Value.slice B r.length e)∧OwnVs wr (cut i) (fun b=>cut i≤b∧b<cut (i+1)∧ob Ar≠some b∧¬ ob Ac=some b) q B e r∧∀ b,ob B=some b→b<cut (i+1)∧ob Ar≠some b∧¬ ob Ac=some b) ∧
  OwnVs wr lo (fun b=>lo≤b) q A3 c3 r
structure CRB (w:World) (x:Val) (q:Nat) (A B:Option Addr) (c e:Nat) (Ac:Option Addr) (cc:Nat) (k:Nat) (Ar:Option Addr) (cr:Nat) (r:List Val) (A3:Option Addr) (c3:Nat) (wr:World):Prop where
 base:CR w x q A B c e Ac cc k Ar cr wr
 row:∃ (hs:List Value) (cut:Nat→Nat) (lo:Nat),Own wr (w.heap.size+3) 42 1 Ar (x.rows.take k).length cr hs∧CRBrow w x q Ac k Ar r A3 c3 hs cut lo wr
theorem CRB.of {w:World} {x:Val} {q:Nat} {A B:Option Addr} {c e:Nat} {Ac:Option Addr} {cc:Nat} {k:Nat} {Ar:Option Addr} {cr:Nat} {wr wr':World} {r:List Val} {A3:Option Addr} {c3:Nat} (h:CR w x q A B c e Ac cc k Ar cr wr) (ho:OwnVs wr' wr.heap.size (fun b=>wr.heap.size≤b) q A3 c3 r) (hx:Ext wr wr'):CRB w x q A B c e Ac cc k Ar cr r A3 c3 wr':=by
 obtain ⟨hs,cut,h1,h2,h3,h4,h5⟩:=h.rows;refine ⟨h.more hx,hs,cut,wr.heap.size,h1.ext hx,h2,h3,h4,hx.size,fun b hb=>(h1.blk hb).2,fun b hb=>(h.cols.1.blk hb).2,fun i r hi => ?_,ho⟩;obtain ⟨B,e,g1,g2,g3⟩:=h5 i r hi;exact ⟨B,e,g1,g2.ext hx,g3⟩
theorem CRB.more {w:World} {x:Val} {q:Nat} {A B:Option Addr} {c e:Nat} {Ac:Option Addr} {cc:Nat} {k:Nat} {Ar:Option Addr} {cr:Nat} {wr wr':World} {r:List Val} {A3:Option Addr} {c3:Nat} (h:CRB w x q A B c e Ac cc k Ar cr r A3 c3 wr) (hx:Ext wr wr'):CRB w x q A B c e Ac cc k Ar cr r A3 c3 wr':=by
 obtain ⟨hs,cut,lo,h1,h2,h3,h4,h5,h6,h7,h8,h9⟩:=h.row;refine ⟨h.base.more hx,hs,cut,lo,h1.ext hx,h2,h3,h4,Nat.le_trans h5 hx.size,h6,h7,fun i r hi => ?_,h9.ext hx⟩;obtain ⟨B,e,g1,g2,g3⟩:=h8 i r hi;exact ⟨B,e,g1,g2.ext hx,g3⟩
theorem CRB.app {w:World} {x:Val} {q:Nat} {A B:Option Addr} {c e:Nat} {Ac:Option Addr} {cc:Nat} {k:Nat} {Ar:Option Addr} {cr:Nat} {wr wr':World} {r:List Val} {A3 A4:Option Addr} {c3 c4:Nat} (h:CRB w x q A B c e Ac cc k Ar cr r A3 c3 wr) {hs:List Value} {cut:Nat→Nat} {lo:Nat} (hr:∃ hk:k<x.rows.length,r=x.rows[k]) (hk:k<x.rows.length) (h1:Own wr (w.heap.size+3) 42 1 Ar (x.rows.take k).length cr hs) (hb:CRBrow w x q Ac k Ar r A3 c3 hs cut lo wr)
  (hg:wr.grownBy wr' (ob Ar)) (ho4:Own wr' (w.heap.size+3) 42 1 A4 (k+1) c4 (hs++[Value.slice A3 r.length c3])) (hat:ob A4=ob Ar∨ob A4=some wr.heap.size):CRA w x q A B c e Ac cc (k+1) A4 c4 wr':=by
 obtain ⟨_,rfl⟩:=hr;obtain ⟨h2,h3,h4,h5,h6,h7,h8,h9⟩:=hb;exact h.base.app hk h1 h2 h3 h4 h5 h6 h7 h8 h9 hg ho4 hat
def CpyInv (w:World) (x:Val) (q:Nat) (A B:Option Addr) (c e:Nat) (Ac:Option Addr) (cc:Nat) (k:Nat) (Ar:Option Addr) (cr:Nat) (_r:List Val) (_b _o:Nat) (_C:Option Addr) (_ec:Nat) (γ:Nat) (w':World):Prop:=γ≤4∧(Ext w w'∧Blk w' w.heap.size 47 #[.int .i64 x.kind,.string x.s,.int .i64 x.dn,.int .i64 x.ds,.int .i64 x.n,.slice A x.cols.length c,.slice B x.rows.length e])∧(γ≤2→CR w x q A B c e Ac cc k Ar cr w')
def gCpy (w:World) (x:Val) (q:Nat) (A B:Option Addr) (c e:Nat) (Ac:Option Addr) (cc:Nat) (k:Nat) (Ar:Option Addr) (cr:Nat) (r:List Val) (b o:Nat) (C:Option Addr) (ec:Nat):Nat→List Value→Nat→World→Prop
 | 0,[v],_,_=>v=.pointer (some ⟨w.heap.size+1+1,6,none⟩)
 | 1,[v],_,_=>v=.slice Ar k cr
 | 2,[v],_,_=>v=.pointer (some ⟨w.heap.size,6,none⟩)
 | 3,[v],_,_=>v=.slice B x.rows.length e
 | 4,[v],_,_=>v=.int .i64 (k:Int)
 | 5,[v],_,_=>v=.pointer (some ⟨b,o+k,none⟩)
 | 6,[v],_,_=>v=.slice C r.length ec
 | 7,[v],γ,w'=>∃ (A3:Option Addr) (c3:Nat),v=.slice A3 r.length c3∧1≤γ∧(γ=1→CRB w x q A B c e Ac cc k Ar cr r A3 c3 w')
 | 8,[v],γ,w'=>∃ (g:Nat) (A3:Option Addr) (c3:Nat),v=.slice (some ⟨g,0,none⟩) 1 1∧2≤γ∧(γ=2→Blk w' g 42 #[.slice A3 r.length c3]∧CRB w x q A B c e Ac cc k Ar cr r A3 c3 w')
 | 9,[v],γ,w'=>∃ (A4:Option Addr) (c4:Nat),v=.slice A4 (k+1) c4∧3≤γ∧(γ=3→CRA w x q A B c e Ac cc (k+1) A4 c4 w')
 | 10,[v],_,_=>v=.pointer (some ⟨w.heap.size+1+1,6,none⟩)
 | 11,[_],γ,w'=>4≤γ∧(γ=4→∃ (A4:Option Addr) (c4:Nat),CR w x q A B c e Ac cc (k+1) A4 c4 w')
 | _,_,_,_=>True
theorem gCpy_st (w:World) (x:Val) (q:Nat) (A B:Option Addr) (c e:Nat) (Ac:Option Addr) (cc:Nat) (k:Nat) (Ar:Option Addr) (cr:Nat) (r:List Val) (b o:Nat) (C:Option Addr) (ec:Nat):∀ i l' γ v γ' v',SR (CpyInv w x q A B c e Ac cc k Ar cr r b o C ec) γ v γ' v'→gCpy w x q A B c e Ac cc k Ar cr r b o C ec i l' γ v→gCpy w x q A B c e Ac cc k Ar cr r b o C ec i l' γ' v':=by
 intro i l' γ v γ' v' r h;have hle:=r.le;unfold gCpy at h ⊢;split at h
 all_goals first
  | exact h
  | (obtain ⟨h1,h2⟩:=h; exact ⟨h1,by omega⟩)
  | (obtain ⟨h1,h3,h4⟩:=h; exact ⟨h1,by omega,fun e=>by rw [r.eq (by omega)]; exact h4 (by omega)⟩)
  | (obtain ⟨x0,h1,h3,h4⟩:=h; exact ⟨x0,h1,by omega,fun e=>by rw [r.eq (by omega)]; exact h4 (by omega)⟩)
  | (obtain ⟨x0,x1,h1,h3,h4⟩:=h; exact ⟨x0,x1,h1,by omega,fun e=>by rw [r.eq (by omega)]; exact h4 (by omega)⟩)
  | (obtain ⟨x0,x1,x2,h1,h3,h4⟩:=h; exact ⟨x0,x1,x2,h1,by omega,fun e=>by rw [r.eq (by omega)]; exact h4 (by omega)⟩)
  | (obtain ⟨x0,x1,x2,x3,h1,h3,h4⟩:=h; exact ⟨x0,x1,x2,x3,h1,by omega,fun e=>by rw [r.eq (by omega)]; exact h4 (by omega)⟩)
  | (obtain ⟨x0,x1,x2,x3,x4,h1,h3,h4⟩:=h; exact ⟨x0,x1,x2,x3,x4,h1,by omega,fun e=>by rw [r.eq (by omega)]; exact h4 (by omega)⟩)
  | (obtain ⟨h3,h4⟩:=h; exact ⟨by omega,fun e=>by rw [r.eq (by omega)]; exact h4 (by omega)⟩)
def dCpy:Nat→List Nat:=fun i=>[i]
def stCpy:List Nat:=[100,3,100,100,100,100,100,1,2,3,100,4]

def RetCp (w:World) (d:Nat) (x:Val) (e:Ending) (w':World):Prop:=∃ (Ac:Option Addr) (cc:Nat) (Ar:Option Addr) (cr:Nat),e=.returned (.agg #[.int .i64 x.kind,.string x.s,.int .i64 x.dn,.int .i64 x.ds,.int .i64 x.n,.slice Ac x.cols.length cc,.slice Ar x.rows.length cr])∧OwnSs w' w.heap.size Ac cc x.cols∧OwnRR w' w.heap.size (fun b=>ob Ac=some b) d Ar cr x.rows∧(∀ b,ob Ac=some b→ob Ar≠some b)∧Ext w w'
theorem OwnRR.lower {w:World} {base base' q c:Nat} {av:Nat→Prop} {A:Option Addr} {l:List (List Val)} (h:OwnRR w base av q A c l) (hb:base'≤base):OwnRR w base' av q A c l:=by
 obtain ⟨hs,cut,h1,h2,h3,h4,h5⟩:=h;exact ⟨hs,cut,h1.lower hb,h2,Nat.le_trans hb h3,h4,h5⟩
theorem RetCp.v {w w':World} {d:Nat} {x:Val} {e:Ending} (h:RetCp w d x e w') (hs:x.s.size≤4294967296) (hc:x.cols.length≤4294967296) (hl:x.rows.length≤4294967296) (hr:∀ r∈x.rows,r.length≤4294967296):RetV w (Fresh w) d x e w':=by
 obtain ⟨Ac,cc,Ar,cr,he,h1,h2,h3,h4⟩:=h;exact ⟨Ac,cc,Ar,cr,he,⟨h1.1.cap,h2.cap⟩,RV.mk hs (h1.strs hc fun b hb=>(h1.1.blk hb).1) (h2.rows hl hr),h4⟩
theorem Rows.lens {w:World} {S:Nat→Prop} {d:Nat} {B:Option Addr} {l:List (List Val)} (h:Rows w S d B l):∀ r∈l,r.length≤4294967296:=by
 intro r hr;obtain ⟨i,hi,rfl⟩:=List.mem_iff_getElem.1 hr;obtain ⟨_,_,_,_,_,_,_,_,h1⟩:=h.at_ hi;exact h1.len
theorem RetCp.rv {w w':World} {d:Nat} {x:Val} {e:Ending} {S:Nat→Prop} {A B:Option Addr} (h:RetCp w d x e w') (hx:RV w S d x A B):RetV w (Fresh w) d x e w':=h.v hx.size hx.strs.2.1 hx.rows_.len hx.rows_.lens
theorem app_new {W3 w1:World} {t:Nat} (hg:(W3.alloc (.cells #[] t)).grownBy w1 (ob (some ⟨W3.heap.size,0,none⟩))):Ext W3 w1:=((Ext.refl W3).alloc _).grown hg (fun k hk=>by simp [ob] at hk; omega)
def PC6O (d:Nat):Prop:=∀ (x:Val) (A B:Option Addr) (c e:Nat) (w:World) (S:Nat→Prop),RV w S d x A B→Calls Tryz.prog 109 #[(.agg #[.int .i64 x.kind,.string x.s,.int .i64 x.dn,.int .i64 x.ds,.int .i64 x.n,.slice A x.cols.length c,.slice B x.rows.length e])] w (RetCp w d x)
set_option maxRecDepth 100000 in
set_option maxHeartbeats 2000000 in
theorem r06_Copy_step (q:Nat) (ih:0<q→PC6 (q-1)):PC6O q:=by
 intro x A B c e w S hx;have HX:=Hd (hx.mono (T:=fun b=>S b∧b<w.heap.size) fun i hi hs=>⟨hs,hi⟩);have IH:=Hd ih;have hlen:=hx.rows_.len;have hcl:=hx.strs.2.1;have hx0:Ext w (((w.alloc (.cells #[.int .i64 x.kind,.string x.s,.int .i64 x.dn,.int .i64 x.ds,.int .i64 x.n,.slice A x.cols.length c,.slice B x.rows.length e] 47)).alloc (.cells #[.int .i64 0,.string ⟨#[]⟩,.int .i64 0,.int .i64 0,.int .i64 0,.slice none 0 0,.slice none 0 0] 47)).alloc (.cells #[.int .i64 0,.string ⟨#[]⟩,.int .i64 0,.int .i64 0,.int .i64 0,.slice none 0 0,.slice none 0 0] 47)):=(((Ext.refl w).alloc _).alloc _).alloc _;clear hx ih;obtain ⟨W3,hW3⟩:∃ W3,W3=(((w.alloc (.cells #[.int .i64 x.kind,.string x.s,.int .i64 x.dn,.int .i64 x.ds,.int .i64 x.n,.slice A x.cols.length c,.slice B x.rows.length e] 47)).alloc (.cells #[.int .i64 0,.string ⟨#[]⟩,.int .i64 0,.int .i64 0,.int .i64 0,.slice none 0 0,.slice none 0 0] 47)).alloc (.cells #[.int .i64 x.kind,.string x.s,.int .i64 x.dn,.int .i64 x.ds,.int .i64 x.n,.slice A x.cols.length c,.slice B x.rows.length e] 47)):=⟨_,rfl⟩;have hx3:Ext w W3:=(by rw [hW3]; exact (((Ext.refl w).alloc _).alloc _).alloc _);have hs3:W3.heap.size=w.heap.size+3:=(by rw [hW3]; simp);have b0:Blk W3 w.heap.size 47 #[.int .i64 x.kind,.string x.s,.int .i64 x.dn,.int .i64 x.ds,.int .i64 x.n,.slice A x.cols.length c,.slice B x.rows.length e]:=(by rw [hW3]; exact ((Blk.new _ _ _).keep (Kept.alloc _ _ _)).keep (Kept.alloc _ _ _));have b1:Blk W3 (w.heap.size+1) 47 #[.int .i64 0,.string ⟨#[]⟩,.int .i64 0,.int .i64 0,.int .i64 0,.slice none 0 0,.slice none 0 0]:=by
  rw [hW3];have:=(Blk.new (w.alloc (.cells #[.int .i64 x.kind,.string x.s,.int .i64 x.dn,.int .i64 x.ds,.int .i64 x.n,.slice A x.cols.length c,.slice B x.rows.length e] 47)) 47 #[.int .i64 0,.string ⟨#[]⟩,.int .i64 0,.int .i64 0,.int .i64 0,.slice none 0 0,.slice none 0 0]).keep (Kept.alloc _ _ (.cells #[.int .i64 x.kind,.string x.s,.int .i64 x.dn,.int .i64 x.ds,.int .i64 x.n,.slice A x.cols.length c,.slice B x.rows.length e] 47))
  simpa using this
 have b2:Blk W3 (w.heap.size+1+1) 47 #[.int .i64 x.kind,.string x.s,.int .i64 x.dn,.int .i64 x.ds,.int .i64 x.n,.slice A x.cols.length c,.slice B x.rows.length e]:=by
  rw [hW3];have:=Blk.new ((w.alloc (.cells #[.int .i64 x.kind,.string x.s,.int .i64 x.dn,.int .i64 x.ds,.int .i64 x.n,.slice A x.cols.length c,.slice B x.rows.length e] 47)).alloc (.cells #[.int .i64 0,.string ⟨#[]⟩,.int .i64 0,.int .i64 0,.int .i64 0,.slice none 0 0,.slice none 0 0] 47)) 47 #[.int .i64 x.kind,.string x.s,.int .i64 x.dn,.int .i64 x.ds,.int .i64 x.n,.slice A x.cols.length c,.slice B x.rows.length e]
  simpa using this
 have HX3:=Hd hx3;have HS3:=Hd hs3;have HB0:=Hd b0;have HB1:=Hd b1;have HB2:=Hd b2;have HW3:=Hd hW3;have HST:=Hd ((HX.o.strs.keep (hx3.kept _)).keep (Kept.alloc _ _ (.cells #[] 9)));clear hx3 hs3 b1 b2 hx0 hW3
 go_enter Tryz.func109,Tryz.ntmps109
 go_upto_region 2 with fail
 rw [← HW3.o];have k5:=HB0.o.cell (i:=5) rfl;have hz3:w.heap.size<W3.heap.size:=(by have:=HS3.o; omega)
 go_wp2_with (at_builtin; go_must (refine wpList_app rfl (.tmp 6) (.tmp 8) rfl tiS rfl (World.ownsRow_made W3 #[] 0 (Nat.le_refl _) (by unfold maxLen; omega) rfl) rfl HST.o.1 (by simp) (by simp [Value.oneCell']) (by omega) (by decide) (by simp) ?_); intro Ac cc w1 hown hg hat; have hx1:=app_new hg; have q5:=HB2.o.keep (hx1.kept _); have k50:=q5.cell (i:=5) rfl; have k60:=q5.cell (i:=6) rfl; have kf:=q5.frozen; have kz:=q5.lt; have Q5:=Hd q5; have HX1:=Hd hx1; have HOWN:=Hd hown; clear hg hat q5 hx1 hown)
 have HM0:=Hd (show CR w x q A B c e Ac cc 0 none 0 ((w1.setCell ⟨w.heap.size+1+1,5,none⟩ (.slice Ac x.cols.length cc)).setCell ⟨w.heap.size+1+1,6,none⟩ (.slice none 0 0)) by
  have ho:=((Only.refl (w.heap.size+1+1) w1).set 5 (.slice Ac x.cols.length cc)).set 6 (.slice none 0 0);have hx:=HX3.o.trans HX1.o;have hown:=HOWN.o;simp only [Nat.zero_add,List.nil_append] at hown;rw [HS3.o] at hown;refine ⟨hx.only ho (by omega),(HB0.o.keep (HX1.o.kept _)).keep (ho.kept fun b _ e=>by omega),(HB1.o.keep (HX1.o.kept _)).keep (ho.kept fun b _ e=>by omega),?_,⟨ho.own hown (by omega),HST.o.2.2⟩,?_,fun b _ h=>by cases h⟩
  ·have:=(Q5.o.set 5 (.slice Ac x.cols.length cc)).set 6 (.slice none 0 0)
   simpa using this
  ·have hsz:w.heap.size+3≤((w1.setCell ⟨w.heap.size+1+1,5,none⟩ (.slice Ac x.cols.length cc)).setCell ⟨w.heap.size+1+1,6,none⟩ (.slice none 0 0)).heap.size:=by
    have:=HX1.o.size;have h2:=HS3.o;simp [World.setCell];omega
   simpa using OwnRR.nil _ _ (fun b=>ob Ac=some b) q hsz)
 clear HB0 HB1 HB2 HW3 HST HOWN Q5 HX1 HX3 HS3 k5 hz3 k50 k60 kf kz b0
 go_loopw [4] (fun i wr=>∃ (k:Nat) (Ar:Option Addr) (cr:Nat),k≤x.rows.length∧i=.int .i64 k∧CR w x q A B c e Ac cc k Ar cr wr) (fun i _=>x.rows.length-(intOf i).toNat)
 case atStart=>exact ⟨0,none,0,Nat.zero_le _,rfl,HM0.o⟩
 case round =>
  clear HM0;obtain ⟨k,Ar,cr,hk,rfl,hm0⟩:=hrel;have HM:=Hd hm0;clear hm0;have k6:=HM.o.box.cell (i:=6) rfl;have hz:=HM.o.box.lt;by_cases hlt:k<x.rows.length
  ·obtain ⟨b,o,C,ec,hB,hb,hc0,hcp,hrow⟩:=HX.o.rows_.at_ hlt;obtain ⟨r,hr⟩:∃ r,r=x.rows[k]:=⟨_,rfl⟩;rw [← hr] at hc0 hcp hrow;have HC0:=Hd hc0;have HBE:=Hd hB;have HROW:=Hd hrow;have HRE:=Hd (show ∃ hk:k<x.rows.length,r=x.rows[k] from ⟨hlt,hr⟩);clear hc0 hB hrow hr
   go_upto_region 7 with fail
   refine wp_region_lin_lit (by kernel_rfl) dCpy (by kernel_rfl) (SR (CpyInv w x q A B c e Ac cc k Ar cr r b o C ec)) (SR.refl _) (SR.trans _) (SN stCpy) (gCpy w x q A B c e Ac cc k Ar cr r b o C ec) (gCpy_st _ _ _ _ _ _ _ _ _ _ _ _ _ _ _ _ _) 0 (SN.zero (by decide)) ⟨?_,?_,?_,?_,?_,?_,?_,?_,?_,?_,?_,?_,trivial⟩ ?_
   ·refine LinStep.yes fun vals γ w' ρ hR hN hp hρ hc hf hg=>⟨rfl,?_⟩;have hi:=hR.inv ⟨by omega,⟨HM.o.ext.drew,HM.o.box.keep (Kept.drew _ _)⟩,fun _=>HM.o.more (Ext.refl _).drew⟩;have e3:ρ (.tmp 3)=.pointer (some ⟨w.heap.size+1+1,0,none⟩):=hρ 3;clear hR hN hp hρ hi;go_light;go_simp;exact ⟨γ,SR.refl _ _ _,fun _ _ _ h=>h,rfl⟩
   ·refine LinStep.yes fun vals γ w' ρ hR hN hp hρ hc hf hg=>⟨rfl,?_⟩;have hi:=hR.inv ⟨by omega,⟨HM.o.ext.drew,HM.o.box.keep (Kept.drew _ _)⟩,fun _=>HM.o.more (Ext.refl _).drew⟩;have e19:ρ (.tmp 19)=_:=(hρ 19).trans (hp 0 (by decide));have hb:=(hi.2.2 (by have h:γ<3:=hN; omega)).gout;have k1:=hb.cell (i:=6) rfl;clear hR hN hp hρ hi hb;go_light;go_simp;exact ⟨γ,SR.refl _ _ _,fun _ _ _ h=>h,rfl⟩
   ·refine LinStep.yes fun vals γ w' ρ hR hN hp hρ hc hf hg=>⟨rfl,?_⟩;have hi:=hR.inv ⟨by omega,⟨HM.o.ext.drew,HM.o.box.keep (Kept.drew _ _)⟩,fun _=>HM.o.more (Ext.refl _).drew⟩;have e1:ρ (.tmp 1)=.pointer (some ⟨w.heap.size,0,none⟩):=hρ 1;clear hR hN hp hρ hi;go_light;go_simp;exact ⟨γ,SR.refl _ _ _,fun _ _ _ h=>h,rfl⟩
   ·refine LinStep.yes fun vals γ w' ρ hR hN hp hρ hc hf hg=>⟨rfl,?_⟩;have hi:=hR.inv ⟨by omega,⟨HM.o.ext.drew,HM.o.box.keep (Kept.drew _ _)⟩,fun _=>HM.o.more (Ext.refl _).drew⟩;have e21:ρ (.tmp 21)=_:=(hρ 21).trans (hp 2 (by decide));have k1:=hi.2.1.2.cell (i:=6) rfl;clear hR hN hp hρ hi;go_light;go_simp;exact ⟨γ,SR.refl _ _ _,fun _ _ _ h=>h,rfl⟩
   ·refine LinStep.yes fun vals γ w' ρ hR hN hp hρ hc hf hg=>⟨rfl,?_⟩;have hi:=hR.inv ⟨by omega,⟨HM.o.ext.drew,HM.o.box.keep (Kept.drew _ _)⟩,fun _=>HM.o.more (Ext.refl _).drew⟩;have e4:ρ (.tmp 4)=.int .i64 (k:Int):=hρ 4;clear hR hN hp hρ hi;go_light;go_simp;exact ⟨γ,SR.refl _ _ _,fun _ _ _ h=>h,rfl⟩
   ·refine LinStep.yes fun vals γ w' ρ hR hN hp hρ hc hf hg=>⟨rfl,?_⟩;have hi:=hR.inv ⟨by omega,⟨HM.o.ext.drew,HM.o.box.keep (Kept.drew _ _)⟩,fun _=>HM.o.more (Ext.refl _).drew⟩;have e22:ρ (.tmp 22)=_:=(hρ 22).trans (hp 3 (by decide));have e23:ρ (.tmp 23)=_:=(hρ 23).trans (hp 4 (by decide));have i0:(0:Int)≤(k:Int):=(by omega);have i1:(k:Int)<(x.rows.length:Int):=(by omega);rw [HBE.o] at e22;clear hR hN hp hρ hi;go_light;go_simp;exact ⟨γ,SR.refl _ _ _,fun _ _ _ h=>h,rfl⟩
   ·refine LinStep.yes fun vals γ w' ρ hR hN hp hρ hc hf hg=>⟨rfl,?_⟩;have hi:=hR.inv ⟨by omega,⟨HM.o.ext.drew,HM.o.box.keep (Kept.drew _ _)⟩,fun _=>HM.o.more (Ext.refl _).drew⟩;have e24:ρ (.tmp 24)=_:=(hρ 24).trans (hp 5 (by decide));have k1:=hi.2.1.1.cell HC0.o;clear hR hN hp hρ hi;go_light;go_simp;exact ⟨γ,SR.refl _ _ _,fun _ _ _ h=>h,rfl⟩
   ·refine LinStep.yes fun vals γ w' ρ hR hN hp hρ hc hf hg=>⟨rfl,?_⟩;have hi:=hR.inv ⟨by omega,⟨HM.o.ext.drew,HM.o.box.keep (Kept.drew _ _)⟩,fun _=>HM.o.more (Ext.refl _).drew⟩;have e25:ρ (.tmp 25)=_:=(hρ 25).trans (hp 6 (by decide));have h0:γ=0:=(by have h:γ<1:=hN; omega);subst h0;have HI:=Hd hi;have HX:=Hd hi.2.1.1;clear hR hN hp hρ hi;go_light;go_simp;refine (r06_CopyRow q IH.o r C ec w' _ (HROW.o.keep (HX.o.kept _))).mono ?_;rintro e' w3 ⟨A3,c3,he,ho3,hx3⟩;have hcb:=CRB.of (HI.o.2.2 (by omega)) ho3 hx3;exact ⟨_,he,1,SR.up (by omega) ⟨by omega,⟨hcb.base.ext,hcb.base.box⟩,fun _=>hcb.base⟩,SN.up (by omega) (by decide) rfl,A3,c3,rfl,by omega,fun _=>hcb⟩
   ·refine LinStep.yes fun vals γ w' ρ hR hN hp hρ hc hf hg=>⟨rfl,?_⟩;have hi:=hR.inv ⟨by omega,⟨HM.o.ext.drew,HM.o.box.keep (Kept.drew _ _)⟩,fun _=>HM.o.more (Ext.refl _).drew⟩;obtain ⟨A3,c3,g7,hr1,hcb⟩:=hp 7 (by decide);have e26:ρ (.tmp 26)=_:=(hρ 26).trans g7;have h0:γ=1:=(by have h:γ<2:=hN; omega);subst h0;have HCB:=Hd ((hcb rfl).more ((Ext.refl w').alloc (.cells #[.slice A3 r.length c3] 42)));clear hR hN hp hρ hi hcb g7;go_light;go_simp;exact ⟨2,SR.up (by omega) ⟨by omega,⟨HCB.o.base.ext,HCB.o.base.box⟩,fun _=>HCB.o.base⟩,SN.up (by omega) (by decide) rfl,_,A3,c3,rfl,by omega,fun _=>⟨Blk.new _ _ _,HCB.o⟩⟩
   ·refine LinStep.yes fun vals γ w' ρ hR hN hp hρ hc hf hg=>⟨rfl,?_⟩;have hi:=hR.inv ⟨by omega,⟨HM.o.ext.drew,HM.o.box.keep (Kept.drew _ _)⟩,fun _=>HM.o.more (Ext.refl _).drew⟩;obtain ⟨g',A3,c3,g8,hr2,hbk⟩:=hp 8 (by decide);have e27:ρ (.tmp 27)=_:=(hρ 27).trans g8;have e20:ρ (.tmp 20)=_:=(hρ 20).trans (hp 1 (by decide));have h0:γ=2:=(by have h:γ<3:=hN; omega);subst h0;obtain ⟨hbk1,hbk2⟩:=hbk rfl;obtain ⟨hs,cut,lo,r1,r2⟩:=hbk2.row;have hlk:(x.rows.take k).length=k:=(by rw [List.length_take]; omega);have r1':=r1;rw [hlk] at r1';refine lin_app (.tmp 20) (.tmp 27) rfl tiR e20 r1' e27 hbk1.rd rfl (by simp [Value.oneCell']) (by omega) (by decide) (by have h1:=hbk2.base.gout.lt; omega) ?_;intro A4 c4 w4 hown4 hg4 hat4;have hcra:=hbk2.app HRE.o hlt r1 r2 hg4 hown4 hat4;exact ⟨3,SR.up (by omega) ⟨by omega,⟨hcra.ext,hcra.box⟩,fun h=>absurd h (by omega)⟩,SN.up (by omega) (by decide) rfl,A4,c4,rfl,by omega,fun _=>hcra⟩
   ·refine LinStep.yes fun vals γ w' ρ hR hN hp hρ hc hf hg=>⟨rfl,?_⟩;have hi:=hR.inv ⟨by omega,⟨HM.o.ext.drew,HM.o.box.keep (Kept.drew _ _)⟩,fun _=>HM.o.more (Ext.refl _).drew⟩;have e3:ρ (.tmp 3)=.pointer (some ⟨w.heap.size+1+1,0,none⟩):=hρ 3;clear hR hN hp hρ hi;go_light;go_simp;exact ⟨γ,SR.refl _ _ _,fun _ _ _ h=>h,rfl⟩
   ·refine LinStep.yes fun vals γ w' ρ hR hN hp hρ hc hf hg=>⟨rfl,?_⟩;have hi:=hR.inv ⟨by omega,⟨HM.o.ext.drew,HM.o.box.keep (Kept.drew _ _)⟩,fun _=>HM.o.more (Ext.refl _).drew⟩;obtain ⟨A4,c4,g9,hr3,hda⟩:=hp 9 (by decide);have e28:ρ (.tmp 28)=_:=(hρ 28).trans g9;have e29:ρ (.tmp 29)=_:=(hρ 29).trans (hp 10 (by decide));have h0:γ=3:=(by have h:γ<4:=hN; omega);subst h0;have HA:=Hd (hda rfl);obtain ⟨y,hy⟩:=(hda rfl).gout;have k0:=hy.cell (i:=6) rfl;have kf:=hy.frozen;have kz:=hy.lt;clear hR hN hp hρ hi g9 hda hy;go_light;go_simp;have hs:=HA.o.store;refine ⟨4,SR.up (by omega) ⟨by omega,⟨?_,?_⟩,fun h=>absurd h (by omega)⟩,SN.up (by omega) (by decide) rfl,by omega,fun _=>⟨A4,c4,?_⟩⟩
    ·simpa using hs.ext
    ·simpa using hs.box
    ·simpa using hs
   ·intro vals γ w' hR hG;have hi:=hR.inv ⟨by omega,⟨HM.o.ext.drew,HM.o.box.keep (Kept.drew _ _)⟩,fun _=>HM.o.more (Ext.refl _).drew⟩;obtain ⟨h4,h5⟩:=hG 11 (by decide);obtain ⟨A4,c4,hm1⟩:=h5 (by have:=hi.1; omega);have HM1:=Hd hm1;clear hR hG hi h4 h5 hm1 HM;simp only [lexFrame,Act.put,List.setIfInBounds_toArray,List.set_cons_succ,List.set_cons_zero,Nat.zero_add,Nat.reduceAdd];generalize vals 0=u0,vals 1=u1,vals 2=u2,vals 3=u3,vals 4=u4,vals 5=u5,vals 6=u6,vals 7=u7,vals 8=u8,vals 9=u9,vals 10=u10,vals 11=u11;go_wp2;go_roundw
    case rel=>exact ⟨k+1,A4,c4,by omega,by go_num,HM1.o⟩
    case measure=>simp [intOf]; omega
  ·have hkr:k=x.rows.length:=(by omega);subst hkr;have hgt:=HM.o.gout;have hgr:=HM.o.res;have t0:=hgt.cell (i:=0) rfl;have t1:=hgt.cell (i:=1) rfl;have t2:=hgt.cell (i:=2) rfl;have t3:=hgt.cell (i:=3) rfl;have t4:=hgt.cell (i:=4) rfl;have t5:=hgt.cell (i:=5) rfl;have t6:=hgt.cell (i:=6) rfl;have r0:=hgr.cell (i:=0) rfl;have r1:=hgr.cell (i:=1) rfl;have r2:=hgr.cell (i:=2) rfl;have r3:=hgr.cell (i:=3) rfl;have r4:=hgr.cell (i:=4) rfl;have r5:=hgr.cell (i:=5) rfl;have r6:=hgr.cell (i:=6) rfl;have rf:=hgr.frozen;have rz:=hgr.lt;clear hgt hgr;go_wp2;refine bodyPost_ret (v:=(.agg #[.int .i64 x.kind,.string x.s,.int .i64 x.dn,.int .i64 x.ds,.int .i64 x.n,.slice Ac x.cols.length cc,.slice Ar x.rows.length cr])) (by simp [results,Tryz.results109,go_sem,r0,r1,r2,r3,r4,r5,r6]) rfl ?_;have hm:=HM.o;have hcb:∀ b,ob Ac=some b→w.heap.size+3≤b:=fun b h=>(hm.cols.1.blk h).1;have hrr:=hm.rows;rw [List.take_of_length_le (Nat.le_refl _)] at hrr;refine ⟨Ac,cc,Ar,cr,rfl,⟨?_,hm.cols.2⟩,?_,hm.sep,?_⟩
   ·refine Own.lower (hm.cols.1.keep ?_) (by omega)
    iterate 7 with_reducible refine Kept.set2 ?_ (fun h=>by have:=hcb _ h; omega)
    with_reducible exact Kept.refl _ _
   ·refine OwnRR.lower (hrr.keep ?_ fun b hb hb'=>hm.sep b hb' hb) (by omega)
    iterate 7 with_reducible refine Kept.set2 ?_ (fun h=>by have:=h.1; omega)
    with_reducible exact Kept.refl _ _
   ·iterate 7 with_reducible refine Ext.set2 ?_ (by omega) _
    with_reducible exact hm.ext
theorem r06_Copy (q:Nat):PC6O q:=by
 induction q with
 | zero=>exact r06_Copy_step 0 (fun h=>absurd h (by omega))
 | succ q ih=>exact r06_Copy_step (q+1) (fun _ x A B c e w S hx=>(ih x A B c e w S hx).mono fun _ _ h=>h.rv hx)
theorem r06_CopyV (q:Nat):PC6 q:=fun x A B c e w S hx=>(r06_Copy q x A B c e w S hx).mono fun _ _ h=>h.rv hx
/- The reference's plan. Conditions: the arguments read as data; the programs are there. -/

def RetPlan (w:World) (d:Nat) (Y:List AskD) (e:Ending) (w':World):Prop:=∃ (A:Option Addr) (c:Nat),e=.returned (.slice A Y.length c)∧OwnAs w' w.heap.size (fun b=>w.heap.size≤b) d A c Y∧Ext w w'
def PPl (f:Nat):Prop:=∀ (d:Nat) (l:List (List Val)) (A:Option Addr) (c:Nat) (L:List Nat) (B:Option Addr) (e t:Nat) (w:World) (S T:Nat→Prop),L.length≤f→AnsR w S d A l→ProR w T B l.length L→t+L.length≤1000 →
 Calls Tryz.prog 58 #[.slice A l.length c,.slice B L.length e,.int .i64 (t:Int)] w (RetPlan w d (plan (spl l) (inpS l) (ans l) L t))
def PnF (w wr:World) (d ba m j:Nat) (A8 A9:Option Addr) (c9:Nat) (A':Option Addr) (vs:List Val) (vx:Val) (γ:Gz) (w':World):Prop :=
 ∃ (A4:Option Addr) (c4:Nat),γ 1016=true∧γ 1018=true∧OwnVs w' w.heap.size (Imm w.heap.size ba A8 A9 A') d A4 c4 (vs++[vx])∧(∀ b,ob A4=some b→ob A8=some b∨wr.heap.size≤b)∧Blk w' ba 59 #[.int .i64 (m:Int),.slice A4 (j+1) c4,.slice A9 j c9]
set_option maxRecDepth 100000 in
set_option maxHeartbeats 4000000 in
theorem r25_plan_step (f:Nat) (ih:0<f→PPl (f-1)):PPl f:=by
 intro d l A c L B e t w S T hf hr hn htl;have HF:=Hd hf;have HR:=Hd hr;have HN:=Hd hn;have HTL:=Hd htl;have HDE:=Hd (r25_Depth L.length d l A c L B e w S T (Nat.le_refl _) hr hn);obtain ⟨dp,edp⟩:∃ dp,dp=dep (spl l) (inpS l) L:=⟨_,rfl⟩;have HDP:=Hd edp;rw [← edp] at HDE;have hdp90:dp≤90:=(by rw [edp]; exact depR_le l (Nat.le_refl _) hn.len);obtain ⟨nl,enl⟩:∃ n,n=l.length:=⟨_,rfl⟩;obtain ⟨n,en⟩:∃ n,n=L.length:=⟨_,rfl⟩;have HNL:=Hd enl;have HNN:=Hd en;have hn90:n≤90:=(by rw [en]; exact hn.len);have htn:t+n≤1000:=(by rw [en]; exact htl);rw [← enl,← en] at HDE ⊢;clear hf hr hn htl edp enl en
 go_enter Tryz.func58,Tryz.ntmps58
 go_wp2_with fail
 refine HDE.o.mono ?_;rintro e1 w1 ⟨rfl,hx1⟩;have HX1:=Hd hx1;clear hx1 HDE;by_cases h0:dp=0
 ·have HPN:=Hd (show plan (spl l) (inpS l) (ans l) L t=[] by rw [plan_eq (spl_small l),if_pos (by rw [← HDP.o]; exact h0)]);have j0:((dp:Int)==0)=true:=(by rw [beq_iff_eq]; omega);clear h0;go_wp2;go_ret;rw [HPN.o];exact ⟨none,0,rfl,OwnAs.nil _ _ _ _,HX1.o⟩
 ·have j0:((dp:Int)==0)=false:=(by rw [beq_eq_false_iff_ne]; omega);have HDZ:=Hd (show dep (spl l) (inpS l) L≠0 by rw [← HDP.o]; exact h0);obtain ⟨im,eim⟩:∃ im,im=inpF (spl l) (inpS l) L:=⟨_,rfl⟩;obtain ⟨hin,hid1,hid2⟩:=inpF_at (spl_small l) (inpS l) L HDZ.o;have h2p:=two_parts (spl_small l) (N:=inpS l) HDZ.o;rw [← eim] at hin hid1 hid2 h2p;have him:im≤1000:=(by have:=HR.o.few; omega);have hfp:0<f:=(by have:=dep_len (spl_small l) (inpS l) L; have:=HF.o; have:=HDP.o; omega);have HIM:=Hd eim;have HIN:=Hd hin;have HID1:=Hd hid1;have HID2:=Hd hid2;have H2P:=Hd h2p;have HFP:=Hd hfp;clear h0 eim hin hid1 hid2 h2p hfp;go_wp2
  go_loopw [8] (fun v wr=>∃ k:Nat,k≤im∧v=.int .i64 (k:Int)∧Ext w wr) (fun v _=>im-(intOf v).toNat)
  case atStart=>exact ⟨0,Nat.zero_le _,rfl,HX1.o⟩
  case round =>
   obtain ⟨k,hk,rfl,hx⟩:=hrel;have HX:=Hd hx;have HCALL:=Hd (r25_after L.length (r25_Depth _) d l A c L B e k wr S T (by omega) (HR.o.keep (hx.kept S)) (HN.o.keep (hx.kept T)) (by have:=HIN.o; omega));obtain ⟨dk,edk⟩:∃ dk,dk=dW (spl l) (dep (spl l) (inpS l)) k L:=⟨_,rfl⟩;rw [← edk,← HNL.o,← HNN.o] at HCALL;have HEDK:=Hd edk;clear hx edk
   go_wp2_with fail
   refine HCALL.o.mono ?_;rintro e3 w3 ⟨rfl,hx3⟩;have HX3:=Hd (HX.o.trans hx3);clear hx3;by_cases hlt:k<im
   ·have j1:((dk:Int) != (dp:Int))=true:=by
     have h1:=HID2.o k hlt;rw [← HDP.o,← HEDK.o] at h1;rw [bne_iff_ne];omega
    go_wp2;go_roundw
    case rel=>exact ⟨k+1,by omega,by go_num,HX3.o⟩
    case measure=>simp [intOf]; omega
   ·obtain rfl:k=im:=by omega
    have j1:((dk:Int) != (dp:Int))=false:=by
     have h1:=HID1.o;rw [← HDP.o,← HEDK.o] at h1;rw [bne_eq_false_iff_eq];omega
    clear HCALL HX;obtain ⟨ba,eba⟩:∃ b,b=w3.heap.size:=⟨_,rfl⟩;obtain ⟨w4,hw4⟩:∃ w4,w4=w3.alloc (.cells #[.int .i64 (k:Int),.slice none 0 0,.slice none 0 0] 59):=⟨_,rfl⟩;have HBA:=Hd (show Blk w4 ba 59 #[.int .i64 (k:Int),.slice none 0 0,.slice none 0 0] by rw [hw4,eba]; exact Blk.new _ _ _);have HX4:=Hd (show Ext w w4 by rw [hw4]; exact HX3.o.alloc _);have HBL:=Hd (show w.heap.size≤ba by rw [eba]; exact HX3.o.size);have HSPL:=Hd (r25_Split d l A c L B e k w4 S T (HR.o.rows.keep (HX4.o.kept S)) HR.o.flat (HR.o.inp HIN.o) (HN.o.nums.keep (HX4.o.kept T)) HN.o.lt (by have:=HN.o.len; omega));rw [splR_eq HR.o.tri HR.o.wide HIN.o HN.o.lt] at HSPL;obtain ⟨gs,egs⟩:∃ gs,gs=spl l k L:=⟨_,rfl⟩;have hgl:=spl_len l k L;rw [← egs] at HSPL hgl;obtain ⟨ng,eng⟩:∃ n,n=gs.length:=⟨_,rfl⟩;rw [← HNL.o,← HNN.o] at HSPL;rw [← HNN.o,← eng] at hgl;have HGS:=Hd egs;have HNG:=Hd eng;have hng:ng≤90:=(by omega);have HIS:=Hd (spl_is l k L);rw [← egs] at HIS;clear egs eng
    go_upto_region 9 with fail
    rw [← hw4,← eba];clear hw4 eba
    go_wp2_with fail
    refine HSPL.o.mono ?_;rintro e5 w5 ⟨G,cG,rfl,hoG,hxG⟩;rw [← HNG.o];have HXG:=Hd (HX4.o.trans hxG);have hw4s:=HBA.o.lt;have HST:=Hd (show PlR w.heap.size d ba k gs [] [] [] none 0 none 0 none 0 G w5 from
     {blk:=HBA.o.keep (hxG.kept _)
      lo:=HBL.o
      vals:=OwnVs.nil _ _ _ _
      nxt:=OwnIs.nil _ _
      rest:=OwnAs.nil _ _ _ _
      nn:=(hoG.nn (by rw [← HNG.o]; omega) (fun g hg=>by have:=(HIS.o.sub g hg).2.length_le; have:=HN.o.len; omega)).mono fun b _ hb=>⟨by have:=HX4.o.size; omega,by omega,by simp [ob],by simp [ob],by simp [ob]⟩
      n8:=fun b hb=>by simp [ob] at hb
      n9:=fun b hb=>by simp [ob] at hb
      n0:=by simp [ob] })
    clear hoG hxG HSPL;go_wp2
    go_loopw [10,12,13] (fun v10 v12 _u13 wr=>∃ (j:Nat) (A8:Option Addr) (c8:Nat) (A9:Option Addr) (c9:Nat) (A':Option Addr) (c':Nat),j≤ng∧v10=.slice A' (planG (plan (spl l) (inpS l) (ans l)) (gs.take j) (t+1)).1.length c'∧v12=.int .i64 (j:Int)∧PlR w.heap.size d ba k gs ((gs.take j).map fun g=>ans l k (g.headD 0)) (planG (plan (spl l) (inpS l) (ans l)) (gs.take j) (t+1)).2 (planG (plan (spl l) (inpS l) (ans l)) (gs.take j) (t+1)).1 A8 c8 A9 c9 A' c' G wr∧Ext w wr) (fun _ v12 _ _=>ng-(intOf v12).toNat)
    case atStart=>exact ⟨0,none,0,none,0,none,0,Nat.zero_le _,rfl,rfl,by rw [List.take_zero]; exact HST.o,HXG.o⟩
    case round =>
     clear HST;obtain ⟨j,A8,c8,A9,c9,A',c',hj,rfl,rfl,hP,hx⟩:=hrel;obtain ⟨ws,rfl⟩:∃ ws:World,ws=wr:=⟨_,rfl⟩;have HP:=Hd hP;have HX:=Hd hx;obtain ⟨vs,evs⟩:∃ vs,vs=(gs.take j).map fun g=>ans l k (g.headD 0):=⟨_,rfl⟩;obtain ⟨nx,enx⟩:∃ nx,nx=(planG (plan (spl l) (inpS l) (ans l)) (gs.take j) (t+1)).2:=⟨_,rfl⟩;obtain ⟨Y,eY⟩:∃ Y,Y=(planG (plan (spl l) (inpS l) (ans l)) (gs.take j) (t+1)).1:=⟨_,rfl⟩;have HVS:=Hd evs;have HNX:=Hd enx;have HY:=Hd eY;rw [← evs,← enx,← eY] at HP;rw [← eY];have hvl:vs.length=j:=(by rw [evs,List.length_map,List.length_take,← HNG.o]; omega);have hxl:nx.length=j:=(by rw [enx,planG_len,List.length_take,← HNG.o]; omega);obtain ⟨nY,enY⟩:∃ nY,nY=Y.length:=⟨_,rfl⟩;have HNY:=Hd enY;rw [← enY];have HVL:=Hd hvl;have HXL:=Hd hxl;have hblk:=HP.o.blk;rw [hvl,hxl] at hblk;have HBK:=Hd hblk;have hsz:=hx.size;have hlo:=HP.o.lo;clear hP hx evs enx eY enY hvl hxl hblk;by_cases hlt:j<ng
     ·have hjs:j<gs.length:=(by rw [← HNG.o]; exact hlt);obtain ⟨g,eg⟩:∃ g,g=gs[j]:=⟨_,rfl⟩;have hgm:g∈gs:=(by rw [eg]; exact List.getElem_mem hjs);have hpb:=part_bound2 l (inpS l) (ans l) L k j (t+1) HGS.o H2P.o hjs eg;rw [← HY.o,← HNY.o,← HNN.o] at hpb;obtain ⟨bG,oG,B2,e2,hG,zG,cG2,-,hn2⟩:=HP.o.nn.at_ hjs;subst hG;rw [← eg] at cG2 hn2;have hiG:=HP.o.nn.blkS (by intro e; rw [e] at hjs; simp at hjs);have hgs2:=HIS.o.sub g hgm;obtain ⟨y,tl,hgy⟩:∃ y tl,g=y :: tl:=by
       cases g with
       | nil=>exact absurd rfl hgs2.1
       | cons y tl=>exact ⟨y,tl,rfl⟩
      have hgh:g.headD 0=y:=(by rw [hgy]; rfl);obtain ⟨b2,o2,hB2,z2,cy⟩:=hn2.at_ (k:=0) (by rw [hgy]; simp);subst hB2;rw [Nat.add_zero] at cy;simp only [hgy,List.getElem_cons_zero] at cy;have hiB:=hn2.blkS (by rw [hgy]; simp);have hyl:y<l.length:=HN.o.lt y (hgs2.2.subset (by rw [hgy]; simp));obtain ⟨bA,oA,C,eC,hA,zA,cA,-,hr1⟩:=HR.o.rows.at_ hyl;subst hA;have hmy:k<l[y].length:=HR.o.inp HIN.o _ (List.getElem_mem hyl);obtain ⟨g1,o1,A1,c1,B1,e1,rfl,z1,⟨x0,x1,x2,x3,x4,x5,x6⟩,hcap1,hrv⟩:=hr1.at_ hmy;obtain ⟨vx,evx⟩:∃ v,v=l[y][k]:=⟨_,rfl⟩;have HVX:=Hd (show ans l k (g.headD 0)=vx by rw [hgh,ans_of hyl hmy,evx]);rw [← evx] at x0 x1 x2 x3 x4 x5 x6 hrv hcap1;obtain ⟨n1,en1⟩:∃ n1,n1=l[y].length:=⟨_,rfl⟩;rw [← en1] at cA hmy;obtain ⟨gn,egn⟩:∃ gn,gn=g.length:=⟨_,rfl⟩;rw [← egn] at cG2 hpb;have hgn0:0<gn:=(by rw [egn,hgy]; simp);have HEG:=Hd eg;have HGM:=Hd hgm;have HGN:=Hd egn;have HGY:=Hd (show dep (spl l) (inpS l) g=0↔(plan (spl l) (inpS l) (ans l) g (t+1+nY)).length=0 from (plan_nil (v:=ans l) (spl_small l) (inpS l) g (t+1+nY)).symm);have HN2:=Hd hn2;have HIG:=Hd hiG;have HIB:=Hd hiB;have HRX:=Hd hrv;have HQ:=Hd hcap1;have CG:=Hd cG2;have CY:=Hd cy;have CA:=Hd (HX.o.cell cA);have ZA:=Hd zA;have Z1:=Hd z1;have X0:=Hd (HX.o.cell x0);have X1:=Hd (HX.o.cell x1);have X2:=Hd (HX.o.cell x2);have X3:=Hd (HX.o.cell x3);have X4:=Hd (HX.o.cell x4);have X5:=Hd (HX.o.cell x5);have X6:=Hd (HX.o.cell x6);have HSB:=Hd (HX.o.kept S);have hsml:=HIS.o.small (by rw [HGS.o]; exact H2P.o) g hgm;have HSM:=Hd hsml;have HSUB:=Hd hgs2;have i0:(0:Int)≤(j:Int):=(by omega);have i1:(j:Int)<(ng:Int):=(by omega);have i2:(0:Int)≤(y:Int):=(by omega);have i3:(y:Int)<(nl:Int):=(by rw [HNL.o]; omega);have i4:(0:Int)≤(k:Int):=(by omega);have i5:(k:Int)<(n1:Int):=(by omega);have i6:(0:Int)<(gn:Int):=(by omega);have i7:y<nl:=(by rw [HNL.o]; exact hyl);have HSZ:=Hd hsz;have HBZ:=Hd HBK.o.lt;have HLO:=Hd hlo;have HA9:=Hd (show ∀ b,ob A9=some b→b<ws.heap.size from fun b e=>(Own.blk HP.o.nxt e).2);have HAL:=Hd (show ∀ b,ob A'=some b→b<ws.heap.size from fun b e=>(HP.o.rest.blk e).2);have HA8:=Hd (show ∀ b,ob A8=some b→w.heap.size≤b∧b<ws.heap.size∧b≠ba from fun b e=>⟨(HP.o.vals.blk e).1,(HP.o.vals.blk e).2,(HP.o.n8 b e).1⟩);have hjs':j<gs.length:=hjs;clear eg hgm hgs2 hgy hgh hn2 hiG hiB hr1 hrv evx en1 egn x0 x1 x2 x3 x4 x5 x6 cA cy cG2 hsml hcap1
      go_upto_region 13 with fail
      refine wp_region_chain (by kernel_rfl) (fun i=>[i]) (by kernel_rfl) (LZ (fun m b=>(m=1016∧ob A8=some b)∨(m=1018∧b=ba))) (LZ.refl _) (LZ.trans _) (LK [(1,[1018]),(16,[1016,1018]),(18,[1018])]) gz0 (LK.zero _) ?_;apply Chain.pure (LZ.refl _) (by rfl)
      ·intro vals γ w' ρ hR hN hp hρ hc hf hg;refine ⟨rfl,?_⟩;have e9:=hρ 9;(conv at e9=>rhs; whnf);clear hR hN hp hρ;go_light;go_simp;exact ⟨rfl,rfl⟩
      ·rfl
      apply Chain.pure (LZ.refl _) (by rfl)
      ·intro vals γ w' ρ hR hN hp hρ hc hf hg;refine ⟨rfl,?_⟩;have e39:ρ (.tmp 39)=_:=(hρ 39).trans (hp 0 (by decide));have hkk:=hR.kept0 (S:=fun b=>b<w.heap.size∨Imm w.heap.size ba A8 A9 A' b) (fun b _ hb m hm=>by rcases hm with ⟨_,h⟩ | ⟨_,h⟩; (rcases hb with hb | hb; (have:=(HA8.o b h).1; omega); exact absurd h hb.2.2.1); (rcases hb with hb | hb; (have:=HLO.o; omega); exact absurd h hb.2.1));have k1:=hkk.cell2 CG.o (.inr HIG.o);have k2:=hkk.cell2 CY.o (.inr HIB.o);have k3:=hkk.cell2 CA.o (.inl ZA.o);have y0:=hkk.cell2 X0.o (.inl Z1.o);have y1:=hkk.cell2 X1.o (.inl Z1.o);have y2:=hkk.cell2 X2.o (.inl Z1.o);have y3:=hkk.cell2 X3.o (.inl Z1.o);have y4:=hkk.cell2 X4.o (.inl Z1.o);have y5:=hkk.cell2 X5.o (.inl Z1.o);have y6:=hkk.cell2 X6.o (.inl Z1.o);clear hkk;have hk18:=hN.key (k:=1018) (by decide);have hb0:=HBK.o.keep (hR.kept0 (S:=fun b=>b=ba) (fun b _ e m hm=>by rcases hm with ⟨rfl,h⟩ | ⟨rfl,h⟩; exact absurd e (HA8.o b h).2.2; exact hk18));have k0:=hb0.cell (i:=1) rfl;have k0l:=hb0.lt;clear hk18 hb0 hR hN hp hρ;go_light;go_simp;exact ⟨rfl,rfl⟩
      ·rfl
      apply Chain.pure (LZ.refl _) (by rfl)
      ·intro vals γ w' ρ hR hN hp hρ hc hf hg;refine ⟨rfl,?_⟩;have e0:=hρ 0;(conv at e0=>rhs; whnf);clear hR hN hp hρ;go_light;go_simp;exact ⟨rfl,rfl⟩
      ·rfl
      apply Chain.pure (LZ.refl _) (by rfl)
      ·intro vals γ w' ρ hR hN hp hρ hc hf hg;refine ⟨rfl,?_⟩;have e11:=hρ 11;(conv at e11=>rhs; whnf);clear hR hN hp hρ;go_light;go_simp;exact ⟨rfl,rfl⟩
      ·rfl
      apply Chain.pure (LZ.refl _) (by rfl)
      ·intro vals γ w' ρ hR hN hp hρ hc hf hg;refine ⟨rfl,?_⟩;have e12:=hρ 12;(conv at e12=>rhs; whnf);clear hR hN hp hρ;go_light;go_simp;exact ⟨rfl,rfl⟩
      ·rfl
      apply Chain.pure (LZ.refl _) (by rfl)
      ·intro vals γ w' ρ hR hN hp hρ hc hf hg;refine ⟨rfl,?_⟩;have e42:ρ (.tmp 42)=_:=(hρ 42).trans (hp 3 (by decide));have e43:ρ (.tmp 43)=_:=(hρ 43).trans (hp 4 (by decide));clear hR hN hp hρ;go_light;go_simp;exact ⟨rfl,rfl⟩
      ·rfl
      apply Chain.pure (LZ.refl _) (by rfl)
      ·intro vals γ w' ρ hR hN hp hρ hc hf hg;refine ⟨rfl,?_⟩;have e44:ρ (.tmp 44)=_:=(hρ 44).trans (hp 5 (by decide));have hkk:=hR.kept0 (S:=fun b=>b<w.heap.size∨Imm w.heap.size ba A8 A9 A' b) (fun b _ hb m hm=>by rcases hm with ⟨_,h⟩ | ⟨_,h⟩; (rcases hb with hb | hb; (have:=(HA8.o b h).1; omega); exact absurd h hb.2.2.1); (rcases hb with hb | hb; (have:=HLO.o; omega); exact absurd h hb.2.1));have k1:=hkk.cell2 CG.o (.inr HIG.o);have k2:=hkk.cell2 CY.o (.inr HIB.o);have k3:=hkk.cell2 CA.o (.inl ZA.o);have y0:=hkk.cell2 X0.o (.inl Z1.o);have y1:=hkk.cell2 X1.o (.inl Z1.o);have y2:=hkk.cell2 X2.o (.inl Z1.o);have y3:=hkk.cell2 X3.o (.inl Z1.o);have y4:=hkk.cell2 X4.o (.inl Z1.o);have y5:=hkk.cell2 X5.o (.inl Z1.o);have y6:=hkk.cell2 X6.o (.inl Z1.o);clear hkk hR hN hp hρ;go_light;go_simp;exact ⟨rfl,rfl⟩
      ·rfl
      apply Chain.pure (LZ.refl _) (by rfl)
      ·intro vals γ w' ρ hR hN hp hρ hc hf hg;refine ⟨rfl,?_⟩;have e45:ρ (.tmp 45)=_:=(hρ 45).trans (hp 6 (by decide));clear hR hN hp hρ;go_light;go_simp;exact ⟨rfl,rfl⟩
      ·rfl
      apply Chain.pure (LZ.refl _) (by rfl)
      ·intro vals γ w' ρ hR hN hp hρ hc hf hg;refine ⟨rfl,?_⟩;have e46:ρ (.tmp 46)=_:=(hρ 46).trans (hp 7 (by decide));have hkk:=hR.kept0 (S:=fun b=>b<w.heap.size∨Imm w.heap.size ba A8 A9 A' b) (fun b _ hb m hm=>by rcases hm with ⟨_,h⟩ | ⟨_,h⟩; (rcases hb with hb | hb; (have:=(HA8.o b h).1; omega); exact absurd h hb.2.2.1); (rcases hb with hb | hb; (have:=HLO.o; omega); exact absurd h hb.2.1));have k1:=hkk.cell2 CG.o (.inr HIG.o);have k2:=hkk.cell2 CY.o (.inr HIB.o);have k3:=hkk.cell2 CA.o (.inl ZA.o);have y0:=hkk.cell2 X0.o (.inl Z1.o);have y1:=hkk.cell2 X1.o (.inl Z1.o);have y2:=hkk.cell2 X2.o (.inl Z1.o);have y3:=hkk.cell2 X3.o (.inl Z1.o);have y4:=hkk.cell2 X4.o (.inl Z1.o);have y5:=hkk.cell2 X5.o (.inl Z1.o);have y6:=hkk.cell2 X6.o (.inl Z1.o);clear hkk hR hN hp hρ;go_light;go_simp;exact ⟨rfl,rfl⟩
      ·rfl
      apply Chain.pure (LZ.refl _) (by rfl)
      ·intro vals γ w' ρ hR hN hp hρ hc hf hg;refine ⟨rfl,?_⟩;have e41:ρ (.tmp 41)=_:=(hρ 41).trans (hp 2 (by decide));have e47:ρ (.tmp 47)=_:=(hρ 47).trans (hp 8 (by decide));clear hR hN hp hρ;go_light;go_simp;exact ⟨rfl,rfl⟩
      ·rfl
      apply Chain.pure (LZ.refl _) (by rfl)
      ·intro vals γ w' ρ hR hN hp hρ hc hf hg;refine ⟨rfl,?_⟩;have e48:ρ (.tmp 48)=_:=(hρ 48).trans (hp 9 (by decide));have hkk:=hR.kept0 (S:=fun b=>b<w.heap.size∨Imm w.heap.size ba A8 A9 A' b) (fun b _ hb m hm=>by rcases hm with ⟨_,h⟩ | ⟨_,h⟩; (rcases hb with hb | hb; (have:=(HA8.o b h).1; omega); exact absurd h hb.2.2.1); (rcases hb with hb | hb; (have:=HLO.o; omega); exact absurd h hb.2.1));have k1:=hkk.cell2 CG.o (.inr HIG.o);have k2:=hkk.cell2 CY.o (.inr HIB.o);have k3:=hkk.cell2 CA.o (.inl ZA.o);have y0:=hkk.cell2 X0.o (.inl Z1.o);have y1:=hkk.cell2 X1.o (.inl Z1.o);have y2:=hkk.cell2 X2.o (.inl Z1.o);have y3:=hkk.cell2 X3.o (.inl Z1.o);have y4:=hkk.cell2 X4.o (.inl Z1.o);have y5:=hkk.cell2 X5.o (.inl Z1.o);have y6:=hkk.cell2 X6.o (.inl Z1.o);clear hkk hR hN hp hρ;go_light;go_simp;exact ⟨rfl,rfl⟩
      ·rfl
      apply Chain.pure (LZ.refl _) (by rfl)
      ·intro vals γ w' ρ hR hN hp hρ hc hf hg;refine ⟨rfl,?_⟩;have e8:=hρ 8;(conv at e8=>rhs; whnf);clear hR hN hp hρ;go_light;go_simp;exact ⟨rfl,rfl⟩
      ·rfl
      apply Chain.pure (LZ.refl _) (by rfl)
      ·intro vals γ w' ρ hR hN hp hρ hc hf hg;refine ⟨rfl,?_⟩;have e49:ρ (.tmp 49)=_:=(hρ 49).trans (hp 10 (by decide));have e50:ρ (.tmp 50)=_:=(hρ 50).trans (hp 11 (by decide));clear hR hN hp hρ;go_light;go_simp;exact ⟨rfl,rfl⟩
      ·rfl
      apply Chain.pure (LZ.refl _) (by rfl)
      ·intro vals γ w' ρ hR hN hp hρ hc hf hg;refine ⟨rfl,?_⟩;have e51:ρ (.tmp 51)=_:=(hρ 51).trans (hp 12 (by decide));have hkk:=hR.kept0 (S:=fun b=>b<w.heap.size∨Imm w.heap.size ba A8 A9 A' b) (fun b _ hb m hm=>by rcases hm with ⟨_,h⟩ | ⟨_,h⟩; (rcases hb with hb | hb; (have:=(HA8.o b h).1; omega); exact absurd h hb.2.2.1); (rcases hb with hb | hb; (have:=HLO.o; omega); exact absurd h hb.2.1));have k1:=hkk.cell2 CG.o (.inr HIG.o);have k2:=hkk.cell2 CY.o (.inr HIB.o);have k3:=hkk.cell2 CA.o (.inl ZA.o);have y0:=hkk.cell2 X0.o (.inl Z1.o);have y1:=hkk.cell2 X1.o (.inl Z1.o);have y2:=hkk.cell2 X2.o (.inl Z1.o);have y3:=hkk.cell2 X3.o (.inl Z1.o);have y4:=hkk.cell2 X4.o (.inl Z1.o);have y5:=hkk.cell2 X5.o (.inl Z1.o);have y6:=hkk.cell2 X6.o (.inl Z1.o);clear hkk hR hN hp hρ;go_light;go_simp;exact ⟨rfl,rfl⟩
      ·rfl
      refine Chain.step (FP fun v γ w'=>∃ (Ac:Option Addr) (cc:Nat) (Bc:Option Addr) (ec:Nat),v=(.agg #[.int .i64 vx.kind,.string vx.s,.int .i64 vx.dn,.int .i64 vx.ds,.int .i64 vx.n,.slice Ac vx.cols.length cc,.slice Bc vx.rows.length ec])∧(vx.cols.length≤cc∧vx.rows.length≤ec)∧RV w' (fun b=>ws.heap.size≤b) (d-1) vx Ac Bc) (by rfl) (FP.stab ?_) ?_ ?_
      ·rintro v γ w1 γ' w2 rr ⟨Ac,cc,Bc,ec,h1,h2,h3⟩;exact ⟨Ac,cc,Bc,ec,h1,h2,h3.keep (rr.keptS fun b _ (e:ws.heap.size≤b) m hm=>by rcases hm with ⟨_,h⟩ | ⟨_,h⟩; (have:=(HA8.o b h).2.1; omega); (have:=HBZ.o; omega))⟩
      ·intro vals γ w' ρ hR hN hp hρ hc hf hg;refine ⟨rfl,?_⟩;have e52:ρ (.tmp 52)=_:=(hρ 52).trans (hp 13 (by decide));have HR:=Hd hR;have hks:=hR.kept0 (S:=fun b=>S b∧b<w.heap.size) (fun b _ hb m hm=>by rcases hm with ⟨_,h⟩ | ⟨_,h⟩; (have:=(HA8.o b h).1; omega); (have:=HLO.o; omega));have HVX2:=Hd ((((HRX.o.mono (T:=fun b=>S b∧b<w.heap.size) fun b hb hs=>⟨hs,hb⟩).keep (HX.o.kept _)).keep hks).mono (T:=S) fun b _ hb=>hb.1);clear hks hR hN hp hρ;go_light;go_simp;refine (r06_CopyV (d-1) vx A1 B1 c1 e1 w' S HVX2.o).mono ?_;rintro e1 w3 ⟨Ac,cc,Bc,ec,he,hcap,hrv,hx⟩;exact ⟨_,he,γ,LZ.of_ext _ γ hx,fun _ _ _ h=>h,Ac,cc,Bc,ec,rfl,hcap,hrv.mono (fun b _ hb=>Nat.le_trans HR.o.size hb)⟩
      refine Chain.step (FP fun v γ w'=>∃ (g9:Nat) (Ac:Option Addr) (cc:Nat) (Bc:Option Addr) (ec:Nat),v=.slice (some ⟨g9,0,none⟩) 1 1∧Blk w' g9 47 (vcells vx Ac cc Bc ec).toArray∧ws.heap.size≤g9∧(vx.cols.length≤cc∧vx.rows.length≤ec)∧RV w' (fun b=>ws.heap.size≤b) (d-1) vx Ac Bc) (by rfl) (FP.stab ?_) ?_ ?_
      ·rintro v γ w1 γ' w2 rr ⟨g9,Ac,cc,Bc,ec,h1,h2,h3,h4,h5⟩;exact ⟨g9,Ac,cc,Bc,ec,h1,h2.keep ((rr.keptS (S:=fun b=>ws.heap.size≤b) fun b _ (e:ws.heap.size≤b) m hm=>by rcases hm with ⟨_,h⟩ | ⟨_,h⟩; (have:=(HA8.o b h).2.1; omega); (have:=HBZ.o; omega)).mono fun b _ e=>by rw [e]; exact h3),h3,h4,h5.keep (rr.keptS fun b _ (e:ws.heap.size≤b) m hm=>by rcases hm with ⟨_,h⟩ | ⟨_,h⟩; (have:=(HA8.o b h).2.1; omega); (have:=HBZ.o; omega))⟩
      ·intro vals γ w' ρ hR hN hp hρ hc hf hg;refine ⟨rfl,?_⟩;obtain ⟨Ac,cc,Bc,ec,hv,hcv,hrv⟩:=hp 14 (by decide);have e53:=(hρ 53).trans hv;have HR:=Hd hR;have HCV:=Hd hcv;have HRV:=Hd hrv;clear hR hN hp hρ hv hcv hrv;go_light;go_simp;exact ⟨γ,LZ.of_ext _ γ ((Ext.refl _).alloc _),fun _ _ _ h=>h,_,rfl,Ac,cc,Bc,ec,Blk.new _ _ _,HR.o.size,HCV.o,HRV.o.keep (Kept.alloc _ _ _)⟩
      refine Chain.step (FP fun v γ w'=>∃ (A4:Option Addr) (c4:Nat),v=.slice A4 (j+1) c4∧γ 1016=true∧OwnVs w' w.heap.size (Imm w.heap.size ba A8 A9 A') d A4 c4 (vs++[vx])∧(∀ b,ob A4=some b→ob A8=some b∨ws.heap.size≤b)) (by rfl) (FP.stab ?_) ?_ ?_
      ·rintro v γ w1 γ' w2 rr ⟨A4,c4,h1,h2,h3,h4⟩;exact ⟨A4,c4,h1,rr.done _ h2,h3.keep (rr.keptS fun b _ e m hm=>by rcases hm with ⟨rfl,h⟩ | ⟨rfl,h⟩; (rw [h2,rr.done _ h2]); (rcases e with e | e; (rcases h4 b e with f | f; exact absurd h (HA8.o b f).2.2; (have:=HBZ.o; omega)); exact absurd h e.2.1)),h4⟩
      ·intro vals γ w' ρ hR hN hp hρ hc hf hg;refine ⟨rfl,?_⟩;have e40:ρ (.tmp 40)=_:=(hρ 40).trans (hp 1 (by decide));obtain ⟨g9,Ac,cc,Bc,ec,hv,hb,hg9,hcv,hrv⟩:=hp 15 (by decide);have e54:=(hρ 54).trans hv;have hk0:=hN.key (k:=1016) (by decide);have hk8:=hN.key (k:=1018) (by decide);have ho:=HP.o.vals.keep (hR.kept0 (S:=fun b=>ob A8=some b∨_) fun b _ _ m hm=>by rcases hm with ⟨rfl,_⟩ | ⟨rfl,_⟩ <;> assumption);obtain ⟨xs,ho1,hv1⟩:=ho;rw [HVL.o] at ho1;have hsz:=hR.size;have e0:ws.drew.heap.size=ws.heap.size:=rfl;have hs2:=HSZ.o;have hq:=HQ.o;refine lin_appC (.tmp 40) (.tmp 54) rfl tiV e40 ho1 e54 (Blk.rd hb) rfl vcells_one (by omega) (by decide) (by omega) ?_;intro A4 c4 w4 hown4 hg4 hat4;refine ⟨γ.put 1016,LZ.write hk0 hg4.os hg4.tape hg4.output hg4.size (fun b hb hm=>hg4.block b hb fun e=>hm (.inl ⟨rfl,e.symm⟩)),LK.done (by decide),A4,c4,rfl,by simp [Gz.put],OwnVs.push hv1 (by rw [HVL.o]; exact hown4) hg4 hat4 ⟨hq.1,hcv.1,hcv.2⟩ (hrv.mono fun b _ hb => ?_),fun b hb => ?_⟩
       ·refine ⟨fun e => ?_,by omega,fun e => ?_,fun e => ?_,fun e => ?_,fun e => ?_⟩
        ·have:=(HA8.o b e).2.1; omega
        ·have:=HBZ.o; omega
        ·have:=(HA8.o b e).2.1; omega
        ·have:=HA9.o b e; omega
        ·have:=HAL.o b e; omega
       ·rcases hat4 with e | e
        ·exact .inl (by rw [← e]; exact hb)
        ·right; rw [hb] at e; injection e with e; omega
      apply Chain.pure (LZ.refl _) (by rfl)
      ·intro vals γ w' ρ hR hN hp hρ hc hf hg;refine ⟨rfl,?_⟩;have e9:=hρ 9;(conv at e9=>rhs; whnf);clear hR hN hp hρ;go_light;go_simp;exact ⟨rfl,rfl⟩
      ·rfl
      refine Chain.step (fun _ γ w'=>PnF w ws d ba k j A8 A9 c9 A' vs vx γ w') (by rfl) ?_ ?_ ?_
      ·rintro l γ w1 γ' w2 rr ⟨A4,c4,h2,h5,h3,h4,h6⟩;exact ⟨A4,c4,rr.done _ h2,rr.done _ h5,h3.keep (rr.keptS fun b _ _ m hm=>by rcases hm with ⟨rfl,h⟩ | ⟨rfl,h⟩; (rw [h2,rr.done _ h2]); (rw [h5,rr.done _ h5])),h4,h6.keep (rr.keptS fun b _ _ m hm=>by rcases hm with ⟨rfl,h⟩ | ⟨rfl,h⟩; (rw [h2,rr.done _ h2]); (rw [h5,rr.done _ h5]))⟩
      ·intro vals γ w' ρ hR hN hp hρ hc hf hg;refine ⟨rfl,?_⟩;obtain ⟨A4,c4,hv,hd4,ho4,hat4⟩:=hp 16 (by decide);have e55:=(hρ 55).trans hv;have e56:ρ (.tmp 56)=_:=(hρ 56).trans (hp 17 (by decide));have hk18:=hN.key (k:=1018) (by decide);have HK:=Hd hk18;have hb0:=HBK.o.keep (hR.kept0 (S:=fun b=>b=ba) (fun b _ e m hm=>by rcases hm with ⟨rfl,h⟩ | ⟨rfl,h⟩; exact absurd e (HA8.o b h).2.2; exact hk18));have HB0:=Hd hb0;have qc:=hb0.cell (i:=1) rfl;have qf:=hb0.frozen 1;have ql:=hb0.lt;have HE:=Hd ho4;have HDD:=Hd hd4;have HAA:=Hd hat4;clear hR hN hp hρ hv ho4 hd4 hat4 hk18 hb0;go_light;go_simp;refine ⟨γ.put 1018,LZ.write HK.o rfl rfl rfl (by simp [World.setCell]) (fun b hb hm=>Below.heap_setCell _ _ _ _ (by show b≠ba; exact fun e=>hm (.inr ⟨rfl,e⟩))),LK.done (by decide),A4,c4,by simp [Gz.put,HDD.o],by simp [Gz.put],HE.o.keep (Kept.of_set ?_),HAA.o,by simpa using HB0.o.set 1 (.slice A4 (j+1) c4)⟩;rintro (e | e)
       ·rcases HAA.o ba e with f | f
        ·exact (HA8.o ba f).2.2 rfl
        ·have:=HBZ.o; omega
       ·exact e.2.1 rfl
      intro vals γ w9 hR hG;have v0:vals 0=_:=hG 0 (by decide);have v1:vals 1=_:=hG 1 (by decide);have v2:vals 2=_:=hG 2 (by decide);have v3:vals 3=_:=hG 3 (by decide);have v4:vals 4=_:=hG 4 (by decide);have v5:vals 5=_:=hG 5 (by decide);have v6:vals 6=_:=hG 6 (by decide);have v7:vals 7=_:=hG 7 (by decide);have v8:vals 8=_:=hG 8 (by decide);have v9:vals 9=_:=hG 9 (by decide);have v10:vals 10=_:=hG 10 (by decide);have v11:vals 11=_:=hG 11 (by decide);have v12:vals 12=_:=hG 12 (by decide);have v13:vals 13=_:=hG 13 (by decide);obtain ⟨A14,c14,B14,e14,v14,-⟩:=hG 14 (by decide);obtain ⟨g15,A15,c15,B15,e15,v15,-⟩:=hG 15 (by decide);obtain ⟨A16,c16,v16,-⟩:=hG 16 (by decide);have v17:vals 17=_:=hG 17 (by decide);simp only [lexFrame,Act.put,List.setIfInBounds_toArray,List.set_cons_succ,List.set_cons_zero,Nat.zero_add,Nat.reduceAdd,v0,v1,v2,v3,v4,v5,v6,v7,v8,v9,v10,v11,v12,v13,v14,v15,v16,v17];clear v0 v1 v2 v3 v4 v5 v6 v7 v8 v9 v10 v11 v12 v13 v14 v15 v16 v17;obtain ⟨A4,c4,-,-,hov,hat4,hbk4⟩:=hG 18 (by decide);have HB9:=Hd (hR.buts (S:=fun b=>b=ba∨ob A8=some b) (fun m b _ hm _=>by rcases hm with ⟨_,h⟩ | ⟨_,h⟩; exact .inr h; exact .inl h));have HOV:=Hd hov;have HAT4:=Hd hat4;have HBK4:=Hd hbk4;clear hR hG hov hat4 hbk4;have HP9:=Hd (HP.o.val HB9.o HOV.o (by rw [HVL.o,HXL.o]; exact HBK4.o) HAT4.o);have HX9:=Hd (ButS.exts HX.o HB9.o fun b e=>by
       rcases e with e | e
       ·rw [e]; exact HP.o.lo
       ·exact (HA8.o b e).1)
      have kI:Kept (Imm w.heap.size ba A8 A9 A') ws w9:=HB9.o.kept fun b _ e f=>by
       rcases f with f | f
       ·exact e.2.1 f
       ·exact e.2.2.1 f
      have c9:=kI.cell2 CG.o HIG.o;have HN9:=Hd (HN2.o.keep kI);obtain ⟨t2,et2⟩:∃ t2,t2=t+1+nY:=⟨_,rfl⟩;have z2:(t:Int)+1+(nY:Int)=(t2:Int):=(by omega);have HT2:=Hd et2;rw [← et2] at HGY;obtain ⟨sub,esub⟩:∃ sub,sub=plan (spl l) (inpS l) (ans l) g t2:=⟨_,rfl⟩;have HSU:=Hd esub;rw [← esub] at HGY;have hgl2:g.length≤f-1:=(by have:=HF.o; have:=HSM.o; omega);have HCALL:=Hd ((ih HFP.o) d l (some ⟨bA,oA,none⟩) c g (some ⟨b2,o2,none⟩) e2 t2 w9 S _ hgl2 (HR.o.keep (HX9.o.kept S)) ⟨HN9.o,fun x hx=>HN.o.lt x (HSUB.o.2.subset hx),by rw [← HGN.o]; omega⟩ (by rw [← HGN.o]; omega));rw [← esub,← HNL.o,← HGN.o] at HCALL;have hsl:sub.length≤gn:=(by have h1:=plan_len l (inpS l) (ans l) _ g t2 (Nat.le_refl _) HSUB.o.1; rw [← esub,← HGN.o] at h1; omega);obtain ⟨ns,ens⟩:∃ ns,ns=sub.length:=⟨_,rfl⟩;have HSUBL:=Hd ens;rw [← ens] at hsl;have hstep:=planG_snoc (sub:=plan (spl l) (inpS l) (ans l)) (t:=t+1) hjs' HEG.o;rw [← HY.o,← HNX.o,← HNY.o,← et2,← esub,← ens] at hstep;have HSTEP:=Hd hstep;have HTV:=Hd (show (gs.take (j+1)).map (fun g=>ans l k (g.headD 0))=vs++[vx] by
       rw [List.take_succ_eq_append_getElem hjs',List.map_append,← HEG.o,← HVS.o,List.map_singleton,HVX.o])
      clear hstep ens esub hgl2 kI et2
      go_wp2_with fail
      refine HCALL.o.mono ?_;rintro e6 w6 ⟨A6,c6,rfl,ho6,hx6⟩;rw [← HSUBL.o];have HO6:=Hd ho6;have HX6:=Hd hx6;have HP6:=Hd (HP9.o.ext hx6);have HBK6:=Hd (HBK4.o.keep (hx6.kept _));have hon:=(HP6.o).nxt;unfold OwnIs at hon;rw [HXL.o] at hon;have HON:=Hd hon;have hs6:=(HX9.o.trans hx6).size;clear ho6 hx6 hon HCALL;by_cases hs0:ns=0
      ·have HS0:=Hd hs0;have j3:((ns:Int)==0)=true:=(by rw [beq_iff_eq]; omega);clear hs0;have q2:=HBK6.o.cell (i:=2) rfl
       go_upto_region 18 with (at_builtin; go_must (refine wpList_app rfl (.tmp 72) (.tmp 73) rfl tiI rfl (HON.o.ext ((Ext.refl w6).alloc _)) rfl (Blk.rd (Blk.new _ _ _)) rfl (by simp [Value.oneCell']) (by omega) (by decide) (by simp; omega) ?_); intro A7 c7 w7 hown7 hg7 hat7; have HOWN7:=Hd hown7; have HG7:=Hd hg7; have HAT7:=Hd hat7; have HB7:=Hd ((HBK6.o.keep (Kept.alloc _ w6 (.cells #[.int .i64 (-1)] 3))).keep (Kept.of_grown hg7 fun b e _ hb=>(HP6.o.n9 b hb.symm).1 e)); have qc:=HB7.o.cell (i:=2) rfl; have qf:=HB7.o.frozen 2; have ql:=HB7.o.lt; clear hown7 hg7 hat7)
       obtain ⟨w8,hw8⟩:∃ w8,w8=w7.setCell ⟨ba,2,none⟩ (.slice A7 (j+1) c7):=⟨_,rfl⟩;rw [← hw8];have HB8:=Hd (show ButS (fun b=>b=ba∨ob A9=some b) w6 w8 by
        rw [hw8];exact (((ButS.refl _ w6).alloc (.cells #[.int .i64 (-1)] 3)).grown HG7.o (fun b hb=>.inl (.inr hb))).set (.inl (.inl rfl)))
       have HAT8:=Hd (show ∀ b,ob A7=some b→ob A9=some b∨w6.heap.size≤b from fun b hb=>by
        rcases HAT7.o with e | e
        ·exact .inl (by rw [← e]; exact hb)
        ·right; rw [hb] at e; injection e with e; simp at e; omega)
       have HP8:=Hd (HP6.o.num (z:=-1) HB8.o (show OwnIs w8 w.heap.size A7 c7 (nx++[-1]) by
         unfold OwnIs;rw [List.length_append,HXL.o,List.map_append,hw8];refine Own.keep HOWN7.o (Kept.of_set fun e => ?_)
         rcases HAT8.o ba e with f | f
         ·exact (HP6.o.n9 ba f).1 rfl
         ·have:=HBK6.o.lt; omega) (by rw [List.length_append,HVL.o,HXL.o,hw8]; simpa using HB7.o.set 2 (.slice A7 (j+1) c7)) HAT8.o)
       obtain ⟨ys6,hrd6,hal6⟩:=HP9.o.sub HO6.o HX6.o HB8.o HAT8.o;obtain ⟨ys,hoY,hvY⟩:=HP8.o.rest;rw [← HNY.o] at hoY;have HOY:=Hd hoY;have HVY:=Hd hvY;have HRD6:=Hd hrd6;have HAL6:=Hd hal6;have HXE:=Hd (ButS.exts (HX9.o.trans HX6.o) HB8.o fun b e=>by
        rcases e with e | e
        ·rw [e]; exact HP.o.lo
        ·exact (Own.blk HP6.o.nxt e).1)
       have hs8:=HXE.o.size;clear hoY hvY hrd6 hal6 hw8 q2 qc qf ql HB7 HOWN7 HG7 HAT7
       go_wp2_with (at_builtin; go_must (refine wpList_app rfl (.tmp 86) (.tmp 87) rfl tiAk rfl HOY.o rfl HRD6.o (by rw [HAL6.o.1,← HSUBL.o]) HAL6.o.cells (by omega) (by decide) (by omega) ?_); intro A12 c12 w12 hown12 hg12 hat12)
       go_roundw
       case rel =>
        refine ⟨j+1,A4,c4,A7,c7,A12,c12,by omega,?_,by go_num,?_,HXE.o.grown hg12 fun b e=>(HP8.o.rest.blk e).1⟩
        ·rw [HSTEP.o,List.length_append,← HNY.o,← HSUBL.o]
        ·rw [HSTEP.o,HTV.o];rw [if_pos HS0.o];refine HP8.o.rst (((ButS.refl _ w8)).grown hg12 fun b e=>.inl e) (OwnAs.app HVY.o (HAL6.o.imp fun _ _ hh=>hh.mono fun b _ e=>⟨e.2.2.2.2,e⟩) (by rw [← HNY.o,← HSUBL.o]; exact hown12) hg12 hat12) fun b hb => ?_
         rcases hat12 with e | e
         ·exact .inl (by rw [← e]; exact hb)
         ·right; rw [hb] at e; injection e with e; omega
       case measure=>simp [intOf]; omega
      ·have HS0:=Hd hs0;have j3:((ns:Int)==0)=false:=(by rw [beq_eq_false_iff_ne]; omega);clear hs0;have q2:=HBK6.o.cell (i:=2) rfl
       go_upto_region 18 with (at_builtin; go_must (refine wpList_app rfl (.tmp 77) (.tmp 83) rfl tiI rfl (HON.o.ext ((Ext.refl w6).alloc _)) rfl (Blk.rd (Blk.new _ _ _)) rfl (by simp [Value.oneCell']) (by omega) (by decide) (by simp; omega) ?_); intro A7 c7 w7 hown7 hg7 hat7; have HOWN7:=Hd hown7; have HG7:=Hd hg7; have HAT7:=Hd hat7; have HB7:=Hd ((HBK6.o.keep (Kept.alloc _ w6 (.cells #[.int .i64 (t2)] 3))).keep (Kept.of_grown hg7 fun b e _ hb=>(HP6.o.n9 b hb.symm).1 e)); have qc:=HB7.o.cell (i:=2) rfl; have qf:=HB7.o.frozen 2; have ql:=HB7.o.lt; clear hown7 hg7 hat7)
       obtain ⟨w8,hw8⟩:∃ w8,w8=w7.setCell ⟨ba,2,none⟩ (.slice A7 (j+1) c7):=⟨_,rfl⟩;rw [← hw8];have HB8:=Hd (show ButS (fun b=>b=ba∨ob A9=some b) w6 w8 by
        rw [hw8];exact (((ButS.refl _ w6).alloc (.cells #[.int .i64 ((t2:Int))] 3)).grown HG7.o (fun b hb=>.inl (.inr hb))).set (.inl (.inl rfl)))
       have HAT8:=Hd (show ∀ b,ob A7=some b→ob A9=some b∨w6.heap.size≤b from fun b hb=>by
        rcases HAT7.o with e | e
        ·exact .inl (by rw [← e]; exact hb)
        ·right; rw [hb] at e; injection e with e; simp at e; omega)
       have HP8:=Hd (HP6.o.num (z:=(t2:Int)) HB8.o (show OwnIs w8 w.heap.size A7 c7 (nx++[(t2:Int)]) by
         unfold OwnIs;rw [List.length_append,HXL.o,List.map_append,hw8];refine Own.keep HOWN7.o (Kept.of_set fun e => ?_)
         rcases HAT8.o ba e with f | f
         ·exact (HP6.o.n9 ba f).1 rfl
         ·have:=HBK6.o.lt; omega) (by rw [List.length_append,HVL.o,HXL.o,hw8]; simpa using HB7.o.set 2 (.slice A7 (j+1) c7)) HAT8.o)
       obtain ⟨ys6,hrd6,hal6⟩:=HP9.o.sub HO6.o HX6.o HB8.o HAT8.o;obtain ⟨ys,hoY,hvY⟩:=HP8.o.rest;rw [← HNY.o] at hoY;have HOY:=Hd hoY;have HVY:=Hd hvY;have HRD6:=Hd hrd6;have HAL6:=Hd hal6;have HXE:=Hd (ButS.exts (HX9.o.trans HX6.o) HB8.o fun b e=>by
        rcases e with e | e
        ·rw [e]; exact HP.o.lo
        ·exact (Own.blk HP6.o.nxt e).1)
       have hs8:=HXE.o.size;clear hoY hvY hrd6 hal6 hw8 q2 qc qf ql HB7 HOWN7 HG7 HAT7
       go_wp2_with (at_builtin; go_must (refine wpList_app rfl (.tmp 86) (.tmp 87) rfl tiAk rfl HOY.o rfl HRD6.o (by rw [HAL6.o.1,← HSUBL.o]) HAL6.o.cells (by omega) (by decide) (by omega) ?_); intro A12 c12 w12 hown12 hg12 hat12)
       go_roundw
       case rel =>
        refine ⟨j+1,A4,c4,A7,c7,A12,c12,by omega,?_,by go_num,?_,HXE.o.grown hg12 fun b e=>(HP8.o.rest.blk e).1⟩
        ·rw [HSTEP.o,List.length_append,← HNY.o,← HSUBL.o]
        ·rw [HSTEP.o,HTV.o];rw [if_neg HS0.o];refine HP8.o.rst (((ButS.refl _ w8)).grown hg12 fun b e=>.inl e) (OwnAs.app HVY.o (HAL6.o.imp fun _ _ hh=>hh.mono fun b _ e=>⟨e.2.2.2.2,e⟩) (by rw [← HNY.o,← HSUBL.o]; exact hown12) hg12 hat12) fun b hb => ?_
         rcases hat12 with e | e
         ·exact .inl (by rw [← e]; exact hb)
         ·right; rw [hb] at e; injection e with e; omega
       case measure=>simp [intOf]; omega
     ·obtain rfl:j=ng:=by omega
      have HFI:=Hd (show gs.take j=gs by rw [List.take_of_length_le (by rw [← HNG.o]; exact Nat.le_refl _)]);have k0:=HBK.o.cell (i:=0) rfl;have k1:=HBK.o.cell (i:=1) rfl;have k2:=HBK.o.cell (i:=2) rfl;obtain ⟨ys,hoY,hvY⟩:=HP.o.rest;rw [← HNY.o] at hoY;have HRY:=Hd ((Own.rd hoY).keep (Kept.alloc _ ws (.cells #[.int .i64 (k:Int),.slice A8 j c8,.slice A9 j c9] 59)));have hyl:=hvY.1;rw [← HNY.o] at hyl;have HVY:=Hd hvY;have hpl0:plan (spl l) (inpS l) (ans l) L t=[((k:Int),vs,nx)]++Y:=by
       rw [plan_eq (spl_small l),if_neg HDZ.o,← HIM.o,← HGS.o,HVS.o,HNX.o,HY.o,HFI.o];rfl
      have HPL:=Hd hpl0;have hnY:nY≤1000:=by
       have h1:=plan_len l (inpS l) (ans l) _ L t (Nat.le_refl _) (by
        intro e;have:=dep_len (spl_small l) (inpS l) L;have h2:=HDZ.o;rw [e] at this h2;simp at this;exact h2 this)
       rw [hpl0] at h1;simp at h1;have h3:=HNY.o;have h4:=HNN.o;omega
      clear hpl0 hoY hvY
      go_wp2_with (at_builtin; go_must (refine wpList_app rfl (.tmp 90) (.tmp 91) rfl tiAk rfl (Own.lit1 (base:=w.heap.size) (xs:=[.int .i64 (k:Int),.slice A8 j c8,.slice A9 j c9]) (Blk.new ws _ _) hsz) rfl HRY.o hyl HVY.o.cells (by omega) (by decide) (by simp; omega) ?_); intro A12 c12 w12 hown12 hg12 hat12)
      go_ret;refine ⟨A12,c12,by rw [HPL.o,List.length_append,← HNY.o]; rfl,?_,(HX.o.alloc _).grown hg12 fun b e => ?_⟩
      ·rw [HPL.o];exact HP.o.fin hsz (by rw [HVL.o]; omega) (by rw [HXL.o]; omega) HVY.o (by rw [← HNY.o,HVL.o,HXL.o]; exact hown12) hg12 hat12
      ·simp [ob] at e; omega
theorem r25_plan (f:Nat):PPl f:=by
 induction f with
 | zero=>exact r25_plan_step 0 fun h=>absurd h (by omega)
 | succ f ih=>exact r25_plan_step (f+1) fun _=>ih
/- The reference's lower bound. Conditions: the answers read as data. -/

theorem any_snoc {α:Type} (l:List α) (x:α) (p:α→Bool):(l++[x]).any p=(l.any p || p x):=by simp
theorem kindsR_le (l:List (List Val)):∀ p,(kindsR l p).length≤p
 | 0=>by simp [kindsR]
 | p+1=>by
  have:=kindsR_le l p;show (if ((kindsR l p).any fun κ=>alkR l [κ,p])=true then kindsR l p else kindsR l p++[p]).length≤p+1;split
  ·omega
  ·rw [List.length_append,List.length_singleton]; omega
set_option maxRecDepth 100000 in
set_option maxHeartbeats 4000000 in
theorem r25_Lower (d:Nat) (l:List (List Val)) (A:Option Addr) (c:Nat) (w:World) (S:Nat→Prop) (hr:AnsR w S d A l) (hl:l.length<20) :
  Calls Tryz.prog 59 #[.slice A l.length c] w (RetI w ((lowF l:Nat):Int)):=by
 have HR:=Hd hr;have HKO:=Hd (kinds_of hr.tri hr.wide);have HWR:=Hd (widest_ref l);obtain ⟨n,en⟩:∃ n,n=l.length:=⟨_,rfl⟩;obtain ⟨N,eN⟩:∃ N,N=inpS l:=⟨_,rfl⟩;have HN:=Hd en;have HEN:=Hd eN;have hn20:n<20:=(by omega);have hN1:N≤1000:=(by rw [eN]; exact hr.few);rw [← eN] at HWR;rw [← en] at ⊢;clear hr hl en eN
 go_enter Tryz.func59,Tryz.ntmps59
 go_wp2
 go_loopw [3,4,5,6,7] (fun v p _u5 _u6 _u7 wr=>∃ (k:Nat) (A':Option Addr) (c':Nat),k≤n∧v=.slice A' (kindsR l k).length c'∧p=.int .i64 (k:Int)∧OwnN wr w.heap.size A' c' (kindsR l k)∧Ext w wr) (fun _ p _ _ _ _=>n-(intOf p).toNat)
 case atStart=>exact ⟨0,none,0,Nat.zero_le _,rfl,rfl,Own.nil _ _ _ _,Ext.refl _⟩
 case round =>
  obtain ⟨p,A',c',hp,rfl,rfl,ho,hx⟩:=hrel;obtain ⟨wo,rfl⟩:∃ wo:World,wo=wr:=⟨_,rfl⟩;have hkl:=kindsR_le l p;obtain ⟨ks,eks⟩:∃ ks,ks=kindsR l p:=⟨_,rfl⟩;have HKS:=Hd eks;rw [← eks] at ho hkl ⊢;obtain ⟨nk,enk⟩:∃ nk,nk=ks.length:=⟨_,rfl⟩;have HNK:=Hd enk;rw [← enk] at hkl ⊢;have HO:=Hd ho;have hown:=ho;unfold OwnN at hown;rw [← enk] at hown;have HOW:=Hd hown;have HX:=Hd hx;have hsz:=hx.size;clear ho hx eks enk hown;by_cases hlt:p<n
  ·have HLT:=Hd hlt;go_wp2
   go_loopw [5,6,7] (fun v i _u wr=>∃ k:Nat,k≤nk∧v=.bool ((ks.take k).any fun κ=>alkR l [κ,p])∧i=.int .i64 (k:Int)∧Ext wo wr) (fun _ i _ _=>nk-(intOf i).toNat)
   case atStart=>exact ⟨0,Nat.zero_le _,rfl,rfl,Ext.refl _⟩
   case round =>
    obtain ⟨k,hk,rfl,rfl,hxi⟩:=hrel;have HXI:=Hd hxi;obtain ⟨bb,ebb⟩:∃ b,b=(ks.take k).any fun κ=>alkR l [κ,p]:=⟨_,rfl⟩;have HBB:=Hd ebb;rw [← ebb];clear hxi ebb;by_cases hkn:k<nk
    ·have hks:k<ks.length:=(by rw [← HNK.o]; exact hkn);obtain ⟨κ,eκ⟩:∃ κ,κ=ks[k]:=⟨_,rfl⟩;have hκp:κ<p:=(HKO.o p (by rw [← HN.o]; omega)).2.1 κ (by rw [← HKS.o,eκ]; exact List.getElem_mem hks);have hnum:Nums wr (fun _=>True) A' ks:=⟨((Own.rd HOW.o).mono fun _ _ _=>trivial).keep (HXI.o.kept _),by rw [← HNK.o]; omega⟩;obtain ⟨bK,oK,hA',zK,cK⟩:=hnum.at_ hks;subst hA';rw [← eκ] at cK;have HTK:=Hd (show ((ks.take (k+1)).any fun κ=>alkR l [κ,p])=(bb || alkR l [κ,p]) by
      rw [List.take_succ_eq_append_getElem hks,← eκ,any_snoc,← HBB.o])
     obtain ⟨bl,ebl⟩:∃ b,b=alkR l [κ,p]:=⟨_,rfl⟩;rw [← ebl] at HTK;have HAK:=Hd (show ∀ w':World,Ext w w'→Blk w' wr.heap.size 3 #[.int .i64 (κ:Int),.int .i64 (p:Int)]→Calls Tryz.prog 32 #[.slice A n c,.slice (some ⟨wr.heap.size,0,none⟩) 2 2] w' (RetB w' bl) from fun w' hx hb=>by
      have h1:=r25_Alike d l A c [κ,p] (some ⟨wr.heap.size,0,none⟩) 2 w' S (fun b=>b=wr.heap.size) (HR.o.rows.keep (hx.kept S)) ⟨by have:=hb.rd; simpa [nums] using this,by simp⟩ (fun x hx=>by
       have h3:=HLT.o;have h4:=HN.o;simp at hx
       rcases hx with rfl | rfl <;> omega) (by simp)
      rw [← HN.o,← ebl] at h1;exact h1)
     have i0:(0:Int)≤(k:Int):=(by omega);have i1:(k:Int)<(nk:Int):=(by omega);clear eκ hks hnum ebl
     go_wp2_with fail
     refine (HAK.o _ ((HX.o.trans HXI.o).alloc _) (Blk.new _ _ _)).mono ?_;rintro e2 w2 ⟨rfl,hx2⟩;have HX2:=Hd ((HXI.o.alloc (.cells #[.int .i64 (κ:Int),.int .i64 (p:Int)] 3)).trans hx2);clear hx2;cases bb
     ·go_wp2;go_roundw
      case rel=>exact ⟨k+1,by omega,by rw [HTK.o,Bool.false_or],by go_num,HX2.o⟩
      case measure=>simp [intOf]; omega
     ·go_wp2;go_roundw
      case rel=>exact ⟨k+1,by omega,by rw [HTK.o,Bool.true_or],by go_num,HX2.o⟩
      case measure=>simp [intOf]; omega
    ·have HST:=Hd (show kindsR l (p+1)=if bb=true then ks else ks++[p] by
      show (if ((kindsR l p).any fun κ=>alkR l [κ,p])=true then kindsR l p else kindsR l p++[p])=_;have h1:=HBB.o;rw [List.take_of_length_le (by rw [← HNK.o]; omega)] at h1;rw [← HKS.o,← h1])
     have HXW:=Hd (HX.o.trans HXI.o);cases bb
     ·have HOX:=Hd (Own.ext HOW.o HXI.o);have hsi:=HXI.o.size
      go_wp2_with (at_builtin; go_must (refine wpList_app rfl (.tmp 38) (.tmp 40) rfl tiI rfl (HOX.o.ext ((Ext.refl _).alloc _)) rfl (Blk.rd (Blk.new _ _ _)) rfl (by simp [Value.oneCell']) (by omega) (by decide) (by simp; omega) ?_); intro A5 c5 w5 hown5 hg5 hat5)
      go_roundw
      case rel =>
       refine ⟨p+1,A5,c5,by omega,?_,by go_num,?_,(HXW.o.alloc _).grown hg5 (fun b hb=>(Own.blk HOW.o hb).1)⟩
       ·rw [HST.o,if_neg (by simp),List.length_append,← HNK.o]; rfl
       ·rw [HST.o,if_neg (by simp)];unfold OwnN;rw [List.length_append,← HNK.o]
        simpa [nums] using hown5
      case measure=>simp [intOf]; omega
     ·go_wp2;go_roundw
      case rel =>
       refine ⟨p+1,A',c',by omega,?_,by go_num,?_,HXW.o⟩
       ·rw [HST.o,if_pos rfl,← HNK.o]
       ·rw [HST.o,if_pos rfl]; exact Own.ext HO.o HXI.o
      case measure=>simp [intOf]; omega
  ·obtain rfl:p=n:=by omega
   have HDF:=Hd (show nk=diffs l l.length by rw [HNK.o,HKS.o,HN.o]; exact (HKO.o l.length (Nat.le_refl _)).1);have HIN:=Hd (show ∀ w':World,Ext w w'→Calls Tryz.prog 18 #[.slice A p c] w' (SameI w' (N:Int)) from fun w' hx=>by
    have h1:=r25_Inputs d l A c w' S (HR.o.rows.keep (hx.kept S));rw [← HEN.o,← HN.o] at h1;exact h1)
   go_wp2
   go_loopw [8,9] (fun v i wr=>∃ (k a:Nat),k≤N∧v=.int .i64 (a:Int)∧i=.int .i64 (k:Int)∧a≤1000∧a=(List.range k).foldl (fun a m=>max a (spl l m (allP l)).length) 1∧Ext w wr) (fun _ i _=>N-(intOf i).toNat)
   case atStart=>exact ⟨0,1,Nat.zero_le _,rfl,rfl,by omega,rfl,HX.o⟩
   case round =>
    obtain ⟨k,a,hk,rfl,rfl,ha,hae,hxr⟩:=hrel;have HAE:=Hd hae;have HXR:=Hd hxr;clear hae hxr
    go_wp2_with fail
    refine (HIN.o wr HXR.o).mono ?_;rintro e2 w2 ⟨rfl,rfl⟩;by_cases hlt2:k<N
    ·have HLT2:=Hd (show k<inpS l by rw [← HEN.o]; exact hlt2);have i0:(k:Int)<(N:Int):=(by omega);have HALL:=Hd (r25_All p (by omega) wr)
     go_wp2_with fail
     refine HALL.o.mono ?_;rintro e3 w3 ⟨A3,c3,rfl,ho3,hx3⟩;have HX3:=Hd (HXR.o.trans hx3);have hnum:Nums w3 (fun _=>True) A3 (List.range p):=⟨(Own.rd ho3).mono fun _ _ _=>trivial,by simp; omega⟩;have HSP:=Hd (r25_Split d l A c (List.range p) A3 c3 k w3 S _ (HR.o.rows.keep (HX3.o.kept S)) HR.o.flat (HR.o.inp HLT2.o) hnum (fun x hx=>by rw [← HN.o]; exact List.mem_range.1 hx) (by simp; omega));rw [splR_eq HR.o.tri HR.o.wide HLT2.o (fun x hx=>by rw [← HN.o]; exact List.mem_range.1 hx)] at HSP;have hsl:=spl_len l k (List.range p);rw [List.length_range] at hsl HSP ⊢;rw [← HN.o] at HSP;have HTK:=Hd (show (List.range (k+1)).foldl (fun a m=>max a (spl l m (allP l)).length) 1=max a (spl l k (List.range p)).length by
      rw [List.range_succ,List.foldl_append,← HAE.o,HN.o]; rfl)
     obtain ⟨ns,ens⟩:∃ ns,ns=(spl l k (List.range p)).length:=⟨_,rfl⟩;have HNS:=Hd ens;rw [← ens] at HTK hsl;clear ho3 hx3 hnum ens
     go_wp2_with fail
     refine HSP.o.mono ?_;rintro e4 w4 ⟨A4,c4,rfl,-,hx4⟩;have HX4:=Hd (HX3.o.trans hx4);rw [← HNS.o];clear hx4;go_wp2;go_roundw
     case rel=>exact ⟨k+1,max a ns,by omega,by go_num,by go_num,by omega,HTK.o.symm,HX4.o⟩
     case measure=>simp [intOf]; omega
    ·have HAW:=Hd (show a=max 1 (widest l) by
      have h1:=HAE.o;rw [show k=N by omega,HWR.o] at h1;exact h1)
     have i0:¬ (k:Int)<(N:Int):=(by omega);have ha1:1≤a:=(by rw [HAW.o]; omega);have hdf:nk≤1∨2≤a:=by
      rcases Nat.lt_or_ge nk 2 with h | h
      ·omega
      ·right;have:=diffs_two l l.length (Nat.le_refl _) (by rw [← HDF.o]; exact h);rw [HAW.o]; omega
     have HLF:=Hd (show lowG a nk nk 1 0=lowF l by rw [HAW.o,HDF.o]; exact low_ref l);have hp20:p<20:=hn20;go_wp2
     go_loopw [10,11] (fun v q wq=>∃ (m q' f:Nat),v=.int .i64 (m:Int)∧q=.int .i64 (q':Int)∧lowG a nk f q' m=lowF l∧nk≤q'+f∧1≤q'∧q'≤100000∧m≤1000-f∧f≤1000∧wq=wr) (fun _ q _=>nk-(intOf q).toNat)
     case atStart=>exact ⟨0,1,nk,rfl,rfl,HLF.o,by omega,by omega,by omega,by omega,by omega,rfl⟩
     case round =>
      obtain ⟨m,q,f,rfl,rfl,hlg,hqf,hq1,hq2,hmf,hf,rfl⟩:=hrel;have HLG:=Hd hlg;clear hlg;by_cases hlt3:q<nk
      ·obtain ⟨f',rfl⟩:∃ f',f=f'+1:=⟨f-1,by omega⟩;have HST:=Hd (show lowG a nk f' (q*a) (m+1)=lowF l by
        have h1:=HLG.o;unfold lowG at h1;rw [if_pos hlt3] at h1;exact h1)
       have h2a:2≤a:=(by omega);have hqa1:q+1≤q*a:=by
        have:=Nat.mul_le_mul_left q h2a;omega
       have hqa2:q*a≤20*1000:=Nat.mul_le_mul (by omega) (by omega);have HQA:=Hd (show (q:Int)*(a:Int)=((q*a:Nat):Int) by norm_cast);obtain ⟨qa,eqa⟩:∃ qa,qa=q*a:=⟨_,rfl⟩;rw [← eqa] at hqa1 hqa2 HQA HST;have z0:=HQA.o;clear eqa;go_wp2;go_roundw
       case rel=>exact ⟨m+1,qa,f',by go_num,by go_num,HST.o,by omega,by omega,by omega,by omega,by omega,trivial⟩
       case measure=>simp [intOf]; omega
      ·have HFI:=Hd (show m=lowF l by
        have h1:=HLG.o;cases f with
        | zero=>exact h1
        | succ f=>unfold lowG at h1; rw [if_neg hlt3] at h1; exact h1)
       go_wp2;go_ret;exact ⟨by rw [← HFI.o]; rfl,HXR.o⟩
end Go.Proofs.YtomdpipekmcojaaGreatDoor
