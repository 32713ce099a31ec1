/- The reference's Copy: the same data in new memory, which is the caller's own. Conditions: the argument reads as data. -/
import Derived.Test.YthmckfloppblcaaGreatDoorBj8
import Derived.Deep.DeepCutAuto
import Derived.Deep.Light
import Derived.Sort.Walk0
import Derived.Laws.EntriesVeiled
import Derived.Sort.OwnSortedInts
set_option maxRecDepth 100000
set_option maxHeartbeats 2000000
namespace Go.Proofs.YthmckfloppblcaaGreatDoor
open Go Go.RowKit

def CRBrow (w:World) (x:Val) (q:Nat) (Ac:Option Addr) (k:Nat) (Ar:Option Addr) (r:List Val) (A3:Option Addr) (c3:Nat) (hs:List Value) (cut:Nat→Nat) (lo:Nat) (wr:World):Prop :=
 (∀ i j,i≤j→cut i≤cut j)∧w.heap.size+3≤cut 0∧cut (x.rows.take k).length≤lo∧lo≤wr.heap.size∧(∀ b,ob Ar=some b→b<lo)∧(∀ b,ob Ac=some b→b<lo) ∧
  (∀ (i:Nat) (r:List Val),(x.rows.take k)[i]?=some r→∃ (B:Option Addr) (e:Nat),hs[i]?=some (Value.slice B r.length e)∧OwnVs wr (cut i) (fun b=>cut i≤b∧b<cut (i+1)∧ob Ar≠some b∧¬ ob Ac=some b) q B e r∧∀ b,ob B=some b→b<cut (i+1)∧ob Ar≠some b∧¬ ob Ac=some b) ∧
  OwnVs wr lo (fun b=>lo≤b) q A3 c3 r
structure CRB (w:World) (x:Val) (q:Nat) (A B:Option Addr) (c e:Nat) (Ac:Option Addr) (cc:Nat) (k:Nat) (Ar:Option Addr) (cr:Nat) (r:List Val) (A3:Option Addr) (c3:Nat) (wr:World):Prop where
 base:CR w x q A B c e Ac cc k Ar cr wr
 row:∃ (hs:List Value) (cut:Nat→Nat) (lo:Nat),Own wr (w.heap.size+3) 50 1 Ar (x.rows.take k).length cr hs∧CRBrow w x q Ac k Ar r A3 c3 hs cut lo wr
theorem CRB.of {w:World} {x:Val} {q:Nat} {A B:Option Addr} {c e:Nat} {Ac:Option Addr} {cc:Nat} {k:Nat} {Ar:Option Addr} {cr:Nat} {wr wr':World} {r:List Val} {A3:Option Addr} {c3:Nat} (h:CR w x q A B c e Ac cc k Ar cr wr) (ho:OwnVs wr' wr.heap.size (fun b=>wr.heap.size≤b) q A3 c3 r) (hx:Ext wr wr'):CRB w x q A B c e Ac cc k Ar cr r A3 c3 wr':=by
 obtain ⟨hs,cut,h1,h2,h3,h4,h5⟩:=h.rows;refine ⟨h.more hx,hs,cut,wr.heap.size,h1.ext hx,h2,h3,h4,hx.size,fun b hb=>(h1.blk hb).2,fun b hb=>(h.cols.1.blk hb).2,fun i r hi => ?_,ho⟩;obtain ⟨B,e,g1,g2,g3⟩:=h5 i r hi;exact ⟨B,e,g1,g2.ext hx,g3⟩
theorem CRB.more {w:World} {x:Val} {q:Nat} {A B:Option Addr} {c e:Nat} {Ac:Option Addr} {cc:Nat} {k:Nat} {Ar:Option Addr} {cr:Nat} {wr wr':World} {r:List Val} {A3:Option Addr} {c3:Nat} (h:CRB w x q A B c e Ac cc k Ar cr r A3 c3 wr) (hx:Ext wr wr'):CRB w x q A B c e Ac cc k Ar cr r A3 c3 wr':=by
 obtain ⟨hs,cut,lo,h1,h2,h3,h4,h5,h6,h7,h8,h9⟩:=h.row;refine ⟨h.base.more hx,hs,cut,lo,h1.ext hx,h2,h3,h4,Nat.le_trans h5 hx.size,h6,h7,fun i r hi => ?_,h9.ext hx⟩;obtain ⟨B,e,g1,g2,g3⟩:=h8 i r hi;exact ⟨B,e,g1,g2.ext hx,g3⟩
theorem CRB.app {w:World} {x:Val} {q:Nat} {A B:Option Addr} {c e:Nat} {Ac:Option Addr} {cc:Nat} {k:Nat} {Ar:Option Addr} {cr:Nat} {wr wr':World} {r:List Val} {A3 A4:Option Addr} {c3 c4:Nat} (h:CRB w x q A B c e Ac cc k Ar cr r A3 c3 wr) {hs:List Value} {cut:Nat→Nat} {lo:Nat} (hr:∃ hk:k<x.rows.length,r=x.rows[k]) (hk:k<x.rows.length) (h1:Own wr (w.heap.size+3) 50 1 Ar (x.rows.take k).length cr hs) (hb:CRBrow w x q Ac k Ar r A3 c3 hs cut lo wr)
  (hg:wr.grownBy wr' (ob Ar)) (ho4:Own wr' (w.heap.size+3) 50 1 A4 (k+1) c4 (hs++[Value.slice A3 r.length c3])) (hat:ob A4=ob Ar∨ob A4=some wr.heap.size):CRA w x q A B c e Ac cc (k+1) A4 c4 wr':=by
 obtain ⟨_,rfl⟩:=hr;obtain ⟨h2,h3,h4,h5,h6,h7,h8,h9⟩:=hb;exact h.base.app hk h1 h2 h3 h4 h5 h6 h7 h8 h9 hg ho4 hat
def CpyInv (w:World) (x:Val) (q:Nat) (A B:Option Addr) (c e:Nat) (Ac:Option Addr) (cc:Nat) (k:Nat) (Ar:Option Addr) (cr:Nat) (_r:List Val) (_b _o:Nat) (_C:Option Addr) (_ec:Nat) (γ:Nat) (w':World):Prop:=γ≤4∧(Ext w w'∧Blk w' w.heap.size 31 #[.int .i64 x.kind,.string x.s,.int .i64 x.dn,.int .i64 x.ds,.int .i64 x.n,.slice A x.cols.length c,.slice B x.rows.length e])∧(γ≤2→CR w x q A B c e Ac cc k Ar cr w')
def gCpy (w:World) (x:Val) (q:Nat) (A B:Option Addr) (c e:Nat) (Ac:Option Addr) (cc:Nat) (k:Nat) (Ar:Option Addr) (cr:Nat) (r:List Val) (b o:Nat) (C:Option Addr) (ec:Nat):Nat→List Value→Nat→World→Prop
 | 0,[v],_,_=>v=.pointer (some ⟨w.heap.size+1+1,6,none⟩)
 | 1,[v],_,_=>v=.slice Ar k cr
 | 2,[v],_,_=>v=.pointer (some ⟨w.heap.size,6,none⟩)
 | 3,[v],_,_=>v=.slice B x.rows.length e
 | 4,[v],_,_=>v=.int .i64 (k:Int)
 | 5,[v],_,_=>v=.pointer (some ⟨b,o+k,none⟩)
 | 6,[v],_,_=>v=.slice C r.length ec
 | 7,[v],γ,w'=>∃ (A3:Option Addr) (c3:Nat),v=.slice A3 r.length c3∧1≤γ∧(γ=1→CRB w x q A B c e Ac cc k Ar cr r A3 c3 w')
 | 8,[v],γ,w'=>∃ (g:Nat) (A3:Option Addr) (c3:Nat),v=.slice (some ⟨g,0,none⟩) 1 1∧2≤γ∧(γ=2→Blk w' g 50 #[.slice A3 r.length c3]∧CRB w x q A B c e Ac cc k Ar cr r A3 c3 w')
 | 9,[v],γ,w'=>∃ (A4:Option Addr) (c4:Nat),v=.slice A4 (k+1) c4∧3≤γ∧(γ=3→CRA w x q A B c e Ac cc (k+1) A4 c4 w')
 | 10,[v],_,_=>v=.pointer (some ⟨w.heap.size+1+1,6,none⟩)
 | 11,[_],γ,w'=>4≤γ∧(γ=4→∃ (A4:Option Addr) (c4:Nat),CR w x q A B c e Ac cc (k+1) A4 c4 w')
 | _,_,_,_=>True
theorem gCpy_st (w:World) (x:Val) (q:Nat) (A B:Option Addr) (c e:Nat) (Ac:Option Addr) (cc:Nat) (k:Nat) (Ar:Option Addr) (cr:Nat) (r:List Val) (b o:Nat) (C:Option Addr) (ec:Nat):∀ i l' γ v γ' v',SR (CpyInv w x q A B c e Ac cc k Ar cr r b o C ec) γ v γ' v'→gCpy w x q A B c e Ac cc k Ar cr r b o C ec i l' γ v→gCpy w x q A B c e Ac cc k Ar cr r b o C ec i l' γ' v':=by
 intro i l' γ v γ' v' r h;have hle:=r.le;unfold gCpy at h ⊢;split at h
 all_goals first
  | exact h
  | (obtain ⟨h1,h2⟩:=h; exact ⟨h1,by omega⟩)
  | (obtain ⟨h1,h3,h4⟩:=h; exact ⟨h1,by omega,fun e=>by rw [r.eq (by omega)]; exact h4 (by omega)⟩)
  | (obtain ⟨x0,h1,h3,h4⟩:=h; exact ⟨x0,h1,by omega,fun e=>by rw [r.eq (by omega)]; exact h4 (by omega)⟩)
  | (obtain ⟨x0,x1,h1,h3,h4⟩:=h; exact ⟨x0,x1,h1,by omega,fun e=>by rw [r.eq (by omega)]; exact h4 (by omega)⟩)
  | (obtain ⟨x0,x1,x2,h1,h3,h4⟩:=h; exact ⟨x0,x1,x2,h1,by omega,fun e=>by rw [r.eq (by omega)]; exact h4 (by omega)⟩)
  | (obtain ⟨x0,x1,x2,x3,h1,h3,h4⟩:=h; exact ⟨x0,x1,x2,x3,h1,by omega,fun e=>by rw [r.eq (by omega)]; exact h4 (by omega)⟩)
  | (obtain ⟨x0,x1,x2,x3,x4,h1,h3,h4⟩:=h; exact ⟨x0,x1,x2,x3,x4,h1,by omega,fun e=>by rw [r.eq (by omega)]; exact h4 (by omega)⟩)
  | (obtain ⟨h3,h4⟩:=h; exact ⟨by omega,fun e=>by rw [r.eq (by omega)]; exact h4 (by omega)⟩)
def dCpy:Nat→List Nat:=fun i=>[i]
def stCpy:List Nat:=[100,3,100,100,100,100,100,1,2,3,100,4]

def RetCp (w:World) (d:Nat) (x:Val) (e:Ending) (w':World):Prop:=∃ (Ac:Option Addr) (cc:Nat) (Ar:Option Addr) (cr:Nat),e=.returned (.agg #[.int .i64 x.kind,.string x.s,.int .i64 x.dn,.int .i64 x.ds,.int .i64 x.n,.slice Ac x.cols.length cc,.slice Ar x.rows.length cr])∧OwnSs w' w.heap.size Ac cc x.cols∧OwnRR w' w.heap.size (fun b=>ob Ac=some b) d Ar cr x.rows∧(∀ b,ob Ac=some b→ob Ar≠some b)∧Ext w w'
theorem OwnRR.lower {w:World} {base base' q c:Nat} {av:Nat→Prop} {A:Option Addr} {l:List (List Val)} (h:OwnRR w base av q A c l) (hb:base'≤base):OwnRR w base' av q A c l:=by
 obtain ⟨hs,cut,h1,h2,h3,h4,h5⟩:=h;exact ⟨hs,cut,h1.lower hb,h2,Nat.le_trans hb h3,h4,h5⟩
theorem RetCp.v {w w':World} {d:Nat} {x:Val} {e:Ending} (h:RetCp w d x e w') (hs:x.s.size≤4294967296) (hc:x.cols.length≤4294967296) (hl:x.rows.length≤4294967296) (hr:∀ r∈x.rows,r.length≤4294967296):RetV w (Fresh w) d x e w':=by
 obtain ⟨Ac,cc,Ar,cr,he,h1,h2,h3,h4⟩:=h;exact ⟨Ac,cc,Ar,cr,he,⟨h1.1.cap,h2.cap⟩,RV.mk hs (h1.strs hc fun b hb=>(h1.1.blk hb).1) (h2.rows hl hr),h4⟩
theorem Rows.lens {w:World} {S:Nat→Prop} {d:Nat} {B:Option Addr} {l:List (List Val)} (h:Rows w S d B l):∀ r∈l,r.length≤4294967296:=by
 intro r hr;obtain ⟨i,hi,rfl⟩:=List.mem_iff_getElem.1 hr;obtain ⟨_,_,_,_,_,_,_,_,h1⟩:=h.at_ hi;exact h1.len
theorem RetCp.rv {w w':World} {d:Nat} {x:Val} {e:Ending} {S:Nat→Prop} {A B:Option Addr} (h:RetCp w d x e w') (hx:RV w S d x A B):RetV w (Fresh w) d x e w':=h.v hx.size hx.strs.2.1 hx.rows_.len hx.rows_.lens
theorem app_new {W3 w1:World} {t:Nat} (hg:(W3.alloc (.cells #[] t)).grownBy w1 (ob (some ⟨W3.heap.size,0,none⟩))):Ext W3 w1:=((Ext.refl W3).alloc _).grown hg (fun k hk=>by simp [ob] at hk; omega)
def PC6O (d:Nat):Prop:=∀ (x:Val) (A B:Option Addr) (c e:Nat) (w:World) (S:Nat→Prop),RV w S d x A B→Calls Tryz.prog 64 #[(.agg #[.int .i64 x.kind,.string x.s,.int .i64 x.dn,.int .i64 x.ds,.int .i64 x.n,.slice A x.cols.length c,.slice B x.rows.length e])] w (RetCp w d x)
theorem r06_Copy_step (q:Nat) (ih:0<q→PC6 (q-1)):PC6O q:=by
 intro x A B c e w S hx;have HX:=Hd (hx.mono (T:=fun b=>S b∧b<w.heap.size) fun i hi hs=>⟨hs,hi⟩);have IH:=Hd ih;have hlen:=hx.rows_.len;have hcl:=hx.strs.2.1;have hx0:Ext w (((w.alloc (.cells #[.int .i64 x.kind,.string x.s,.int .i64 x.dn,.int .i64 x.ds,.int .i64 x.n,.slice A x.cols.length c,.slice B x.rows.length e] 31)).alloc (.cells #[.int .i64 0,.string ⟨#[]⟩,.int .i64 0,.int .i64 0,.int .i64 0,.slice none 0 0,.slice none 0 0] 31)).alloc (.cells #[.int .i64 0,.string ⟨#[]⟩,.int .i64 0,.int .i64 0,.int .i64 0,.slice none 0 0,.slice none 0 0] 31)):=(((Ext.refl w).alloc _).alloc _).alloc _;clear hx ih;obtain ⟨W3,hW3⟩:∃ W3,W3=(((w.alloc (.cells #[.int .i64 x.kind,.string x.s,.int .i64 x.dn,.int .i64 x.ds,.int .i64 x.n,.slice A x.cols.length c,.slice B x.rows.length e] 31)).alloc (.cells #[.int .i64 0,.string ⟨#[]⟩,.int .i64 0,.int .i64 0,.int .i64 0,.slice none 0 0,.slice none 0 0] 31)).alloc (.cells #[.int .i64 x.kind,.string x.s,.int .i64 x.dn,.int .i64 x.ds,.int .i64 x.n,.slice A x.cols.length c,.slice B x.rows.length e] 31)):=⟨_,rfl⟩;have hx3:Ext w W3:=(by rw [hW3]; exact (((Ext.refl w).alloc _).alloc _).alloc _);have hs3:W3.heap.size=w.heap.size+3:=(by rw [hW3]; simp);have b0:Blk W3 w.heap.size 31 #[.int .i64 x.kind,.string x.s,.int .i64 x.dn,.int .i64 x.ds,.int .i64 x.n,.slice A x.cols.length c,.slice B x.rows.length e]:=(by rw [hW3]; exact ((Blk.new _ _ _).keep (Kept.alloc _ _ _)).keep (Kept.alloc _ _ _));have b1:Blk W3 (w.heap.size+1) 31 #[.int .i64 0,.string ⟨#[]⟩,.int .i64 0,.int .i64 0,.int .i64 0,.slice none 0 0,.slice none 0 0]:=by
  rw [hW3];have:=(Blk.new (w.alloc (.cells #[.int .i64 x.kind,.string x.s,.int .i64 x.dn,.int .i64 x.ds,.int .i64 x.n,.slice A x.cols.length c,.slice B x.rows.length e] 31)) 31 #[.int .i64 0,.string ⟨#[]⟩,.int .i64 0,.int .i64 0,.int .i64 0,.slice none 0 0,.slice none 0 0]).keep (Kept.alloc _ _ (.cells #[.int .i64 x.kind,.string x.s,.int .i64 x.dn,.int .i64 x.ds,.int .i64 x.n,.slice A x.cols.length c,.slice B x.rows.length e] 31))
  simpa using this
 have b2:Blk W3 (w.heap.size+1+1) 31 #[.int .i64 x.kind,.string x.s,.int .i64 x.dn,.int .i64 x.ds,.int .i64 x.n,.slice A x.cols.length c,.slice B x.rows.length e]:=by
  rw [hW3];have:=Blk.new ((w.alloc (.cells #[.int .i64 x.kind,.string x.s,.int .i64 x.dn,.int .i64 x.ds,.int .i64 x.n,.slice A x.cols.length c,.slice B x.rows.length e] 31)).alloc (.cells #[.int .i64 0,.string ⟨#[]⟩,.int .i64 0,.int .i64 0,.int .i64 0,.slice none 0 0,.slice none 0 0] 31)) 31 #[.int .i64 x.kind,.string x.s,.int .i64 x.dn,.int .i64 x.ds,.int .i64 x.n,.slice A x.cols.length c,.slice B x.rows.length e]
  simpa using this
 have HX3:=Hd hx3;have HS3:=Hd hs3;have HB0:=Hd b0;have HB1:=Hd b1;have HB2:=Hd b2;have HW3:=Hd hW3;have HST:=Hd ((HX.o.strs.keep (hx3.kept _)).keep (Kept.alloc _ _ (.cells #[] 9)));clear hx3 hs3 b1 b2 hx0 hW3
 go_enter Tryz.func64,Tryz.ntmps64
 go_upto_region 2 with fail
 rw [← HW3.o];have k5:=HB0.o.cell (i:=5) rfl;have hz3:w.heap.size<W3.heap.size:=(by have:=HS3.o; omega)
 go_wp2_with (at_builtin; go_must (refine wpList_app rfl (.tmp 6) (.tmp 8) rfl tiS rfl (World.ownsRow_made W3 #[] 0 (Nat.le_refl _) (by unfold maxLen; omega) rfl) rfl HST.o.1 (by simp) (by simp [Value.oneCell']) (by omega) (by decide) (by simp) ?_); intro Ac cc w1 hown hg hat; have hx1:=app_new hg; have q5:=HB2.o.keep (hx1.kept _); have k50:=q5.cell (i:=5) rfl; have k60:=q5.cell (i:=6) rfl; have kf:=q5.frozen; have kz:=q5.lt; have Q5:=Hd q5; have HX1:=Hd hx1; have HOWN:=Hd hown; clear hg hat q5 hx1 hown)
 have HM0:=Hd (show CR w x q A B c e Ac cc 0 none 0 ((w1.setCell ⟨w.heap.size+1+1,5,none⟩ (.slice Ac x.cols.length cc)).setCell ⟨w.heap.size+1+1,6,none⟩ (.slice none 0 0)) by
  have ho:=((Only.refl (w.heap.size+1+1) w1).set 5 (.slice Ac x.cols.length cc)).set 6 (.slice none 0 0);have hx:=HX3.o.trans HX1.o;have hown:=HOWN.o;simp only [Nat.zero_add,List.nil_append] at hown;rw [HS3.o] at hown;refine ⟨hx.only ho (by omega),(HB0.o.keep (HX1.o.kept _)).keep (ho.kept fun b _ e=>by omega),(HB1.o.keep (HX1.o.kept _)).keep (ho.kept fun b _ e=>by omega),?_,⟨ho.own hown (by omega),HST.o.2.2⟩,?_,fun b _ h=>by cases h⟩
  ·have:=(Q5.o.set 5 (.slice Ac x.cols.length cc)).set 6 (.slice none 0 0)
   simpa using this
  ·have hsz:w.heap.size+3≤((w1.setCell ⟨w.heap.size+1+1,5,none⟩ (.slice Ac x.cols.length cc)).setCell ⟨w.heap.size+1+1,6,none⟩ (.slice none 0 0)).heap.size:=by
    have:=HX1.o.size;have h2:=HS3.o;simp [World.setCell];omega
   simpa using OwnRR.nil _ _ (fun b=>ob Ac=some b) q hsz)
 clear HB0 HB1 HB2 HW3 HST HOWN Q5 HX1 HX3 HS3 k5 hz3 k50 k60 kf kz b0
 go_loopw [4] (fun i wr=>∃ (k:Nat) (Ar:Option Addr) (cr:Nat),k≤x.rows.length∧i=.int .i64 k∧CR w x q A B c e Ac cc k Ar cr wr) (fun i _=>x.rows.length-(intOf i).toNat)
 case atStart=>exact ⟨0,none,0,Nat.zero_le _,rfl,HM0.o⟩
 case round =>
  clear HM0;obtain ⟨k,Ar,cr,hk,rfl,hm0⟩:=hrel;have HM:=Hd hm0;clear hm0;have k6:=HM.o.box.cell (i:=6) rfl;have hz:=HM.o.box.lt;by_cases hlt:k<x.rows.length
  ·obtain ⟨b,o,C,ec,hB,hb,hc0,hcp,hrow⟩:=HX.o.rows_.at_ hlt;obtain ⟨r,hr⟩:∃ r,r=x.rows[k]:=⟨_,rfl⟩;rw [← hr] at hc0 hcp hrow;have HC0:=Hd hc0;have HBE:=Hd hB;have HROW:=Hd hrow;have HRE:=Hd (show ∃ hk:k<x.rows.length,r=x.rows[k] from ⟨hlt,hr⟩);clear hc0 hB hrow hr
   go_upto_region 7 with fail
   refine wp_region_lin_lit (by kernel_rfl) dCpy (by kernel_rfl) (SR (CpyInv w x q A B c e Ac cc k Ar cr r b o C ec)) (SR.refl _) (SR.trans _) (SN stCpy) (gCpy w x q A B c e Ac cc k Ar cr r b o C ec) (gCpy_st _ _ _ _ _ _ _ _ _ _ _ _ _ _ _ _ _) 0 (SN.zero (by decide)) ⟨?_,?_,?_,?_,?_,?_,?_,?_,?_,?_,?_,?_,trivial⟩ ?_
   ·refine LinStep.yes fun vals γ w' ρ hR hN hp hρ hc hf hg=>⟨rfl,?_⟩;have hi:=hR.inv ⟨by omega,⟨HM.o.ext.drew,HM.o.box.keep (Kept.drew _ _)⟩,fun _=>HM.o.more (Ext.refl _).drew⟩;have e3:ρ (.tmp 3)=.pointer (some ⟨w.heap.size+1+1,0,none⟩):=hρ 3;clear hR hN hp hρ hi;go_light;go_simp;exact ⟨γ,SR.refl _ _ _,fun _ _ _ h=>h,rfl⟩
   ·refine LinStep.yes fun vals γ w' ρ hR hN hp hρ hc hf hg=>⟨rfl,?_⟩;have hi:=hR.inv ⟨by omega,⟨HM.o.ext.drew,HM.o.box.keep (Kept.drew _ _)⟩,fun _=>HM.o.more (Ext.refl _).drew⟩;have e19:ρ (.tmp 19)=_:=(hρ 19).trans (hp 0 (by decide));have hb:=(hi.2.2 (by have h:γ<3:=hN; omega)).gout;have k1:=hb.cell (i:=6) rfl;clear hR hN hp hρ hi hb;go_light;go_simp;exact ⟨γ,SR.refl _ _ _,fun _ _ _ h=>h,rfl⟩
   ·refine LinStep.yes fun vals γ w' ρ hR hN hp hρ hc hf hg=>⟨rfl,?_⟩;have hi:=hR.inv ⟨by omega,⟨HM.o.ext.drew,HM.o.box.keep (Kept.drew _ _)⟩,fun _=>HM.o.more (Ext.refl _).drew⟩;have e1:ρ (.tmp 1)=.pointer (some ⟨w.heap.size,0,none⟩):=hρ 1;clear hR hN hp hρ hi;go_light;go_simp;exact ⟨γ,SR.refl _ _ _,fun _ _ _ h=>h,rfl⟩
   ·refine LinStep.yes fun vals γ w' ρ hR hN hp hρ hc hf hg=>⟨rfl,?_⟩;have hi:=hR.inv ⟨by omega,⟨HM.o.ext.drew,HM.o.box.keep (Kept.drew _ _)⟩,fun _=>HM.o.more (Ext.refl _).drew⟩;have e21:ρ (.tmp 21)=_:=(hρ 21).trans (hp 2 (by decide));have k1:=hi.2.1.2.cell (i:=6) rfl;clear hR hN hp hρ hi;go_light;go_simp;exact ⟨γ,SR.refl _ _ _,fun _ _ _ h=>h,rfl⟩
   ·refine LinStep.yes fun vals γ w' ρ hR hN hp hρ hc hf hg=>⟨rfl,?_⟩;have hi:=hR.inv ⟨by omega,⟨HM.o.ext.drew,HM.o.box.keep (Kept.drew _ _)⟩,fun _=>HM.o.more (Ext.refl _).drew⟩;have e4:ρ (.tmp 4)=.int .i64 (k:Int):=hρ 4;clear hR hN hp hρ hi;go_light;go_simp;exact ⟨γ,SR.refl _ _ _,fun _ _ _ h=>h,rfl⟩
   ·refine LinStep.yes fun vals γ w' ρ hR hN hp hρ hc hf hg=>⟨rfl,?_⟩;have hi:=hR.inv ⟨by omega,⟨HM.o.ext.drew,HM.o.box.keep (Kept.drew _ _)⟩,fun _=>HM.o.more (Ext.refl _).drew⟩;have e22:ρ (.tmp 22)=_:=(hρ 22).trans (hp 3 (by decide));have e23:ρ (.tmp 23)=_:=(hρ 23).trans (hp 4 (by decide));have i0:(0:Int)≤(k:Int):=(by omega);have i1:(k:Int)<(x.rows.length:Int):=(by omega);rw [HBE.o] at e22;clear hR hN hp hρ hi;go_light;go_simp;exact ⟨γ,SR.refl _ _ _,fun _ _ _ h=>h,rfl⟩
   ·refine LinStep.yes fun vals γ w' ρ hR hN hp hρ hc hf hg=>⟨rfl,?_⟩;have hi:=hR.inv ⟨by omega,⟨HM.o.ext.drew,HM.o.box.keep (Kept.drew _ _)⟩,fun _=>HM.o.more (Ext.refl _).drew⟩;have e24:ρ (.tmp 24)=_:=(hρ 24).trans (hp 5 (by decide));have k1:=hi.2.1.1.cell HC0.o;clear hR hN hp hρ hi;go_light;go_simp;exact ⟨γ,SR.refl _ _ _,fun _ _ _ h=>h,rfl⟩
   ·refine LinStep.yes fun vals γ w' ρ hR hN hp hρ hc hf hg=>⟨rfl,?_⟩;have hi:=hR.inv ⟨by omega,⟨HM.o.ext.drew,HM.o.box.keep (Kept.drew _ _)⟩,fun _=>HM.o.more (Ext.refl _).drew⟩;have e25:ρ (.tmp 25)=_:=(hρ 25).trans (hp 6 (by decide));have h0:γ=0:=(by have h:γ<1:=hN; omega);subst h0;have HI:=Hd hi;have HX:=Hd hi.2.1.1;clear hR hN hp hρ hi;go_light;go_simp;refine (r06_CopyRow q IH.o r C ec w' _ (HROW.o.keep (HX.o.kept _))).mono ?_;rintro e' w3 ⟨A3,c3,he,ho3,hx3⟩;have hcb:=CRB.of (HI.o.2.2 (by omega)) ho3 hx3;exact ⟨_,he,1,SR.up (by omega) ⟨by omega,⟨hcb.base.ext,hcb.base.box⟩,fun _=>hcb.base⟩,SN.up (by omega) (by decide) rfl,A3,c3,rfl,by omega,fun _=>hcb⟩
   ·refine LinStep.yes fun vals γ w' ρ hR hN hp hρ hc hf hg=>⟨rfl,?_⟩;have hi:=hR.inv ⟨by omega,⟨HM.o.ext.drew,HM.o.box.keep (Kept.drew _ _)⟩,fun _=>HM.o.more (Ext.refl _).drew⟩;obtain ⟨A3,c3,g7,hr1,hcb⟩:=hp 7 (by decide);have e26:ρ (.tmp 26)=_:=(hρ 26).trans g7;have h0:γ=1:=(by have h:γ<2:=hN; omega);subst h0;have HCB:=Hd ((hcb rfl).more ((Ext.refl w').alloc (.cells #[.slice A3 r.length c3] 50)));clear hR hN hp hρ hi hcb g7;go_light;go_simp;exact ⟨2,SR.up (by omega) ⟨by omega,⟨HCB.o.base.ext,HCB.o.base.box⟩,fun _=>HCB.o.base⟩,SN.up (by omega) (by decide) rfl,_,A3,c3,rfl,by omega,fun _=>⟨Blk.new _ _ _,HCB.o⟩⟩
   ·refine LinStep.yes fun vals γ w' ρ hR hN hp hρ hc hf hg=>⟨rfl,?_⟩;have hi:=hR.inv ⟨by omega,⟨HM.o.ext.drew,HM.o.box.keep (Kept.drew _ _)⟩,fun _=>HM.o.more (Ext.refl _).drew⟩;obtain ⟨g',A3,c3,g8,hr2,hbk⟩:=hp 8 (by decide);have e27:ρ (.tmp 27)=_:=(hρ 27).trans g8;have e20:ρ (.tmp 20)=_:=(hρ 20).trans (hp 1 (by decide));have h0:γ=2:=(by have h:γ<3:=hN; omega);subst h0;obtain ⟨hbk1,hbk2⟩:=hbk rfl;obtain ⟨hs,cut,lo,r1,r2⟩:=hbk2.row;have hlk:(x.rows.take k).length=k:=(by rw [List.length_take]; omega);have r1':=r1;rw [hlk] at r1';refine lin_app (.tmp 20) (.tmp 27) rfl tiR e20 r1' e27 hbk1.rd rfl (by simp [Value.oneCell']) (by omega) (by decide) (by have h1:=hbk2.base.gout.lt; omega) ?_;intro A4 c4 w4 hown4 hg4 hat4;have hcra:=hbk2.app HRE.o hlt r1 r2 hg4 hown4 hat4;exact ⟨3,SR.up (by omega) ⟨by omega,⟨hcra.ext,hcra.box⟩,fun h=>absurd h (by omega)⟩,SN.up (by omega) (by decide) rfl,A4,c4,rfl,by omega,fun _=>hcra⟩
   ·refine LinStep.yes fun vals γ w' ρ hR hN hp hρ hc hf hg=>⟨rfl,?_⟩;have hi:=hR.inv ⟨by omega,⟨HM.o.ext.drew,HM.o.box.keep (Kept.drew _ _)⟩,fun _=>HM.o.more (Ext.refl _).drew⟩;have e3:ρ (.tmp 3)=.pointer (some ⟨w.heap.size+1+1,0,none⟩):=hρ 3;clear hR hN hp hρ hi;go_light;go_simp;exact ⟨γ,SR.refl _ _ _,fun _ _ _ h=>h,rfl⟩
   ·refine LinStep.yes fun vals γ w' ρ hR hN hp hρ hc hf hg=>⟨rfl,?_⟩;have hi:=hR.inv ⟨by omega,⟨HM.o.ext.drew,HM.o.box.keep (Kept.drew _ _)⟩,fun _=>HM.o.more (Ext.refl _).drew⟩;obtain ⟨A4,c4,g9,hr3,hda⟩:=hp 9 (by decide);have e28:ρ (.tmp 28)=_:=(hρ 28).trans g9;have e29:ρ (.tmp 29)=_:=(hρ 29).trans (hp 10 (by decide));have h0:γ=3:=(by have h:γ<4:=hN; omega);subst h0;have HA:=Hd (hda rfl);obtain ⟨y,hy⟩:=(hda rfl).gout;have k0:=hy.cell (i:=6) rfl;have kf:=hy.frozen;have kz:=hy.lt;clear hR hN hp hρ hi g9 hda hy;go_light;go_simp;have hs:=HA.o.store;refine ⟨4,SR.up (by omega) ⟨by omega,⟨?_,?_⟩,fun h=>absurd h (by omega)⟩,SN.up (by omega) (by decide) rfl,by omega,fun _=>⟨A4,c4,?_⟩⟩
    ·simpa using hs.ext
    ·simpa using hs.box
    ·simpa using hs
   ·intro vals γ w' hR hG;have hi:=hR.inv ⟨by omega,⟨HM.o.ext.drew,HM.o.box.keep (Kept.drew _ _)⟩,fun _=>HM.o.more (Ext.refl _).drew⟩;obtain ⟨h4,h5⟩:=hG 11 (by decide);obtain ⟨A4,c4,hm1⟩:=h5 (by have:=hi.1; omega);have HM1:=Hd hm1;clear hR hG hi h4 h5 hm1 HM;simp only [lexFrame,Act.put,List.setIfInBounds_toArray,List.set_cons_succ,List.set_cons_zero,Nat.zero_add,Nat.reduceAdd];generalize vals 0=u0,vals 1=u1,vals 2=u2,vals 3=u3,vals 4=u4,vals 5=u5,vals 6=u6,vals 7=u7,vals 8=u8,vals 9=u9,vals 10=u10,vals 11=u11;go_wp2;go_roundw
    case rel=>exact ⟨k+1,A4,c4,by omega,by go_num,HM1.o⟩
    case measure=>simp [intOf]; omega
  ·have hkr:k=x.rows.length:=(by omega);subst hkr;have hgt:=HM.o.gout;have hgr:=HM.o.res;have t0:=hgt.cell (i:=0) rfl;have t1:=hgt.cell (i:=1) rfl;have t2:=hgt.cell (i:=2) rfl;have t3:=hgt.cell (i:=3) rfl;have t4:=hgt.cell (i:=4) rfl;have t5:=hgt.cell (i:=5) rfl;have t6:=hgt.cell (i:=6) rfl;have r0:=hgr.cell (i:=0) rfl;have r1:=hgr.cell (i:=1) rfl;have r2:=hgr.cell (i:=2) rfl;have r3:=hgr.cell (i:=3) rfl;have r4:=hgr.cell (i:=4) rfl;have r5:=hgr.cell (i:=5) rfl;have r6:=hgr.cell (i:=6) rfl;have rf:=hgr.frozen;have rz:=hgr.lt;clear hgt hgr;go_wp2;refine bodyPost_ret (v:=(.agg #[.int .i64 x.kind,.string x.s,.int .i64 x.dn,.int .i64 x.ds,.int .i64 x.n,.slice Ac x.cols.length cc,.slice Ar x.rows.length cr])) (by simp [results,Tryz.results64,go_sem,r0,r1,r2,r3,r4,r5,r6]) rfl ?_;have hm:=HM.o;have hcb:∀ b,ob Ac=some b→w.heap.size+3≤b:=fun b h=>(hm.cols.1.blk h).1;have hrr:=hm.rows;rw [List.take_of_length_le (Nat.le_refl _)] at hrr;refine ⟨Ac,cc,Ar,cr,rfl,⟨?_,hm.cols.2⟩,?_,hm.sep,?_⟩
   ·refine Own.lower (hm.cols.1.keep ?_) (by omega)
    iterate 7 with_reducible refine Kept.set2 ?_ (fun h=>by have:=hcb _ h; omega)
    with_reducible exact Kept.refl _ _
   ·refine OwnRR.lower (hrr.keep ?_ fun b hb hb'=>hm.sep b hb' hb) (by omega)
    iterate 7 with_reducible refine Kept.set2 ?_ (fun h=>by have:=h.1; omega)
    with_reducible exact Kept.refl _ _
   ·iterate 7 with_reducible refine Ext.set2 ?_ (by omega) _
    with_reducible exact hm.ext
theorem r06_Copy (q:Nat):PC6O q:=by
 induction q with
 | zero=>exact r06_Copy_step 0 (fun h=>absurd h (by omega))
 | succ q ih=>exact r06_Copy_step (q+1) (fun _ x A B c e w S hx=>(ih x A B c e w S hx).mono fun _ _ h=>h.rv hx)
end Go.Proofs.YthmckfloppblcaaGreatDoor
namespace Go.Proofs.YthmckfloppblcaaGreatDoor



structure GN (w:World) (base:Nat) (A:Option Addr) (c:Nat) (gs:List (List Nat)) (hs:List Value):Prop where
 own:Own w base 22 1 A gs.length c hs
 rd:∀ (i:Nat) (g:List Nat),gs[i]?=some g→∃ (B:Option Addr) (e:Nat),hs[i]?=some (Value.slice B g.length e)∧g.length≤e∧Nums w (fun b=>base≤b∧ob A≠some b) B g
theorem GN.nn {w:World} {base c:Nat} {A:Option Addr} {gs:List (List Nat)} {hs:List Value} (h:GN w base A c gs hs) (hl:gs.length≤4294967296):NN w (fun b=>base≤b) A gs :=
 ⟨hl,hs,h.own.rd.mono fun b _ e=>(Own.blk h.own e).1,by have:=h.own.len; omega,fun i g hg=>by
  obtain ⟨B,e,h1,h2,h3⟩:=h.rd i g hg;exact ⟨B,e,h1,h2,h3.mono fun b _ e=>e.1⟩⟩
theorem GN.push {w w':World} {base c c' gB n:Nat} {A A':Option Addr} {gs:List (List Nat)} {hs:List Value} {P:List Nat} (h:GN w base A c gs hs) (k:Kept (fun b=>base≤b∧ob A≠some b) w w') (hn:P.length=n) (hP:P.length≤4294967296)
  (ho:Own w' base 22 1 A' (gs.length+1) c' (hs++[.slice (some ⟨gB,0,none⟩) n n])) (hb:Blk w' gB 3 (dcells P)) (hg:w.heap.size≤gB) (hbase:base≤w.heap.size) (hat:∀ b,ob A'=some b→ob A=some b∨w.heap.size≤b∧b≠gB) (hA:∀ b,ob A=some b→b<w.heap.size) :
  GN w' base A' c' (gs++[P]) (hs++[.slice (some ⟨gB,0,none⟩) n n]):=by
 have hl:hs.length=gs.length:=(by have:=h.own.len; omega);refine ⟨by rw [List.length_append]; exact ho,fun i g hi => ?_⟩
 rcases Nat.lt_or_ge i gs.length with hlt | hge
 ·rw [List.getElem?_append_left hlt] at hi;obtain ⟨B,e,h1,h2,h3⟩:=h.rd i g hi;refine ⟨B,e,by rw [List.getElem?_append_left (by omega)]; exact h1,h2,((h3.mono (T:=fun b=>(base≤b∧ob A≠some b)∧b<w.heap.size) fun b hb hx=>⟨hx,hb⟩).keep (k.mono fun b _ hx=>hx.1)).mono fun b _ hx=>⟨hx.1.1,fun e => ?_⟩⟩
  rcases hat b e with e2 | e2
  ·exact hx.1.2 e2
  ·have:=hx.2; omega
 ·rw [List.getElem?_append_right hge] at hi;have hi0:i-gs.length=0:=by
   rcases Nat.eq_zero_or_pos (i-gs.length) with h0 | h0
   ·exact h0
   ·rw [List.getElem?_eq_none (by simp; omega)] at hi; cases hi
  rw [hi0] at hi;obtain rfl:=Option.some.inj hi;refine ⟨some ⟨gB,0,none⟩,n,by rw [List.getElem?_append_right (by omega),hl,hi0,hn]; rfl,by omega,⟨?_,hP⟩⟩;have h1:=(hb.rd).mono (T:=fun b=>base≤b∧ob A'≠some b) fun b _ e=>by
   subst e;refine ⟨by omega,fun e => ?_⟩
   rcases hat _ e with e2 | e2
   ·have:=hA _ e2; omega
   ·exact e2.2 rfl
  simpa [dcells] using h1


section
variable {w w':World} {bC bP bm bR d c:Nat} {l:List (List Val)} {A:Option Addr} {Y:List AskD} {qd ql:Int}
end




def IntsB (w:World) (S:Nat→Prop) (A:Option Addr) (l:List Int):Prop:=Rd w S A (l.map (Value.int .i64))∧l.length≤17592186044416
theorem IntsB.keep {w w':World} {S:Nat→Prop} {A:Option Addr} {l:List Int} (h:IntsB w S A l) (k:Kept S w w'):IntsB w' S A l:=⟨h.1.keep k,h.2⟩
theorem IntsB.at_ {w:World} {S:Nat→Prop} {A:Option Addr} {l:List Int} (h:IntsB w S A l) {k:Nat} (hk:k<l.length):∃ b o,A=some ⟨b,o,none⟩∧b<w.heap.size∧w.cell? ⟨b,o+k,none⟩=some (.int .i64 l[k]) :=
 h.1.at_ (by rw [List.getElem?_map,List.getElem?_eq_getElem hk]; rfl)
theorem Ints.big {w:World} {S:Nat→Prop} {A:Option Addr} {l:List Int} (h:Ints w S A l):IntsB w S A l:=⟨h.1,by have:=h.2; omega⟩

theorem RetNN.nil {w w':World} (h:Ext w w'):RetNN w [] (.returned (.slice none 0 0)) w':=⟨none,0,rfl,OwnNN.nil _ _,h⟩




def valS (m:Int):Val:=if m=0 then ⟨0,⟨#[]⟩,0,0,18,[],[]⟩ else if m=1∨m=2 then ⟨2,⟨#[]⟩,m,0,0,[],[]⟩ else if m=3 then ⟨1,⟨#[97]⟩,0,0,0,[],[]⟩ else if m=4 then ⟨1,⟨#[98]⟩,0,0,0,[],[]⟩ else ⟨4,⟨#[]⟩,0,0,1,[],[]⟩

def II (w:World) (S:Nat→Prop) (A:Option Addr) (l:List (List Int)):Prop :=
 l.length≤9223372036854775807∧∃ hs:List Value,Rd w S A hs∧hs.length=l.length∧∀ (i:Nat) (g:List Int),l[i]?=some g→∃ (B:Option Addr) (e:Nat),hs[i]?=some (Value.slice B g.length e)∧Rd w S B (g.map (Value.int .i64))∧g.length≤9223372036854775807
theorem II.keep {w w':World} {S:Nat→Prop} {A:Option Addr} {l:List (List Int)} (h:II w S A l) (k:Kept S w w'):II w' S A l:=by
 obtain ⟨h0,hs,h1,h2,h3⟩:=h;refine ⟨h0,hs,h1.keep k,h2,fun i g hg => ?_⟩;obtain ⟨B,e,h4,h5,h6⟩:=h3 i g hg;exact ⟨B,e,h4,h5.keep k,h6⟩
theorem II.at_ {w:World} {S:Nat→Prop} {A:Option Addr} {l:List (List Int)} (h:II w S A l) {k:Nat} (hk:k<l.length):∃ b o B e,A=some ⟨b,o,none⟩∧b<w.heap.size∧w.cell? ⟨b,o+k,none⟩=some (.slice B l[k].length e)∧Rd w S B (l[k].map (Value.int .i64))∧l[k].length≤9223372036854775807:=by
 obtain ⟨h0,hs,h1,h2,h3⟩:=h;obtain ⟨B,e,h4,h5,h6⟩:=h3 k l[k] (List.getElem?_eq_getElem hk);obtain ⟨b,o,e1,e2,e3⟩:=h1.at_ h4;exact ⟨b,o,B,e,e1,e2,e3,h5,h6⟩
def IsV (x:Val):Prop:=∃ m:Nat,m<6∧x=valS m
theorem IsV.size {x:Val} (h:IsV x):x.s.size≤4294967296:=by
 obtain ⟨m,hm,rfl⟩:=h
 match m,hm with
 | 0,_=>decide
 | 1,_=>decide
 | 2,_=>decide
 | 3,_=>decide
 | 4,_=>decide
 | 5,_=>decide


theorem valS_all:((List.range 6).all fun (m:Nat)=>flatB (valS m))=true:=by kernel_rfl
theorem IsV.flat {x:Val} (h:IsV x):flatB x=true:=by
 obtain ⟨m,hm,rfl⟩:=h;exact List.all_eq_true.1 valS_all m (by simpa using hm)
section
variable {L:List (List Val)} {N:Nat}
end


theorem Row.of_own {w:World} {base d c:Nat} {X:Nat→Prop} {A:Option Addr} {l:List Val} (h:OwnVs w base X d A c l) (hl:l.length≤4294967296):Row w (fun _=>True) d A l:=h.row hl (fun _ _=>trivial) fun _ _=>trivial


theorem OwnRs.put {w:World} {base c d g e i:Nat} {X:Nat→Prop} {l:List (List Val)} {r:List Val} {B:Option Addr} (h:OwnRs w base X d (some ⟨g,0,none⟩) c l) (hre:r.length≤e) (hr:Row w (fun b=>b≠g∧X b) d B r) :
  OwnRs (w.setCell ⟨g,i,none⟩ (.slice B r.length e)) base X d (some ⟨g,0,none⟩) c (l.set i r):=by
 obtain ⟨hs,h1,h2⟩:=h;have hk:Kept (fun b=>b≠g∧X b) w (w.setCell ⟨g,i,none⟩ (.slice B r.length e)):=((Only.refl g w).set i _).kept fun b _ hb=>hb.1;have hm:∀ b,b<(w.setCell ⟨g,i,none⟩ (.slice B r.length e)).heap.size→(b≠g∧X b)→(ob (some (⟨g,0,none⟩:Addr))≠some b∧X b):=fun b _ hb=>⟨fun e=>hb.1 (by injection e with e; exact e.symm),hb.2⟩;refine ⟨hs.set i (.slice B r.length e),by rw [List.length_set]; exact h1.put _,fun j r' hj => ?_⟩;have hlen:hs.length=l.length:=(by simpa using h1.len);by_cases hij:i=j
 ·subst hij
  rcases Nat.lt_or_ge i l.length with hlt | hge
  ·rw [List.getElem?_set_self (by simpa using hlt)] at hj;injection hj with hj;subst hj;exact ⟨B,e,List.getElem?_set_self (by omega),hre,(Row.keep hr hk).mono hm⟩
  ·rw [List.getElem?_eq_none (by simpa using hge)] at hj;cases hj
 ·rw [List.getElem?_set_ne hij] at hj;obtain ⟨B',e',h3,h4,h5⟩:=h2 j r' hj;refine ⟨B',e',by rw [List.getElem?_set_ne hij]; exact h3,h4,?_⟩;have h6:Row w (fun b=>b≠g∧X b) d B' r':=h5.mono fun b _ hb=>⟨fun e=>hb.1 (by rw [e]; rfl),hb.2⟩;exact (Row.keep h6 hk).mono hm

section
variable {w w':World} {base c:Nat} {A:Option Addr} {bs:List (Nat × Nat)} {gs:List (List Nat)}
theorem hdr_take (n:Nat):(hdr bs gs).take n=hdr (bs.take n) (gs.take n):=by simp [hdr,List.take_zipWith]
theorem hdr_drop (n:Nat):(hdr bs gs).drop n=hdr (bs.drop n) (gs.drop n):=by simp [hdr,List.drop_zipWith]
theorem Parts.iff:Parts w base bs gs↔bs.length=gs.length∧(∀ p∈bs.zip gs,OwnN w base (some ⟨p.1.1,0,none⟩) p.1.2 p.2)∧(bs.map (·.1)).Nodup:=by
 constructor
 ·rintro ⟨h1,h2,h3⟩;refine ⟨h1,fun p hp => ?_,h3⟩;obtain ⟨i,hi⟩:=List.mem_iff_getElem?.1 hp;rw [List.getElem?_zip_eq_some] at hi;exact h2 i _ _ hi.1 hi.2
 ·rintro ⟨h1,h2,h3⟩;refine ⟨h1,fun i b g hb hg=>h2 (b,g) (List.mem_iff_getElem?.2 ⟨i,?_⟩),h3⟩;rw [List.getElem?_zip_eq_some];exact ⟨hb,hg⟩
theorem Parts.insert {n x e:Nat} {g:List Nat} (h:Parts w base bs gs) (ho:OwnN w base (some ⟨x,0,none⟩) e g) (hx:∀ b∈bs,x≠b.1):Parts w base (bs.take n++(x,e) :: bs.drop n) (gs.take n++g :: gs.drop n):=by
 rw [Parts.iff] at h ⊢;obtain ⟨h1,h2,h3⟩:=h;refine ⟨by simp [h1],fun p hp => ?_,?_⟩
 ·rw [List.zip_append (by simp [h1]),List.zip_cons_cons] at hp
  rcases List.mem_append.1 hp with hp | hp
  ·rw [List.zip_eq_zipWith,← List.take_zipWith] at hp;exact h2 p (List.mem_of_mem_take hp)
  ·rcases List.mem_cons.1 hp with rfl | hp
   ·exact ho
   ·rw [List.zip_eq_zipWith,← List.drop_zipWith] at hp;exact h2 p (List.mem_of_mem_drop hp)
 ·have hp:(bs.take n++(x,e) :: bs.drop n).Perm ((x,e) :: bs):=List.perm_middle.trans (by rw [List.take_append_drop]);rw [(hp.map (·.1)).nodup_iff,List.map_cons,List.nodup_cons];refine ⟨fun hm => ?_,h3⟩;obtain ⟨b,hb,hbx⟩:=List.mem_map.1 hm;exact hx b hb hbx.symm
theorem OwnNN.insert {n x e:Nat} {g:List Nat} {A':Option Addr} {c':Nat} (h:Parts w base bs gs) (ho:OwnN w base (some ⟨x,0,none⟩) e g) (hx:∀ b∈bs,x≠b.1)
  (hA:Own w base 22 1 A' (gs.length+1) c' ((hdr bs gs).take n++.slice (some ⟨x,0,none⟩) g.length e :: (hdr bs gs).drop n)) (h3:ob A'≠some x) (h4:∀ b∈bs,ob A'≠some b.1) :
  OwnNN w base A' c' (gs.take n++g :: gs.drop n):=by
 have hl:(gs.take n++g :: gs.drop n).length=gs.length+1:=by
  have:=congrArg List.length (List.take_append_drop n gs);simp only [List.length_append,List.length_cons] at this ⊢;omega
 refine ⟨bs.take n++(x,e) :: bs.drop n,h.insert ho hx,?_,fun b hb => ?_⟩
 ·rw [hl,hdr_app (by simp [h.len]),← hdr_take];show Own w base _ 1 A' _ c' (_++.slice (some ⟨x,0,none⟩) g.length e :: hdr (bs.drop n) (gs.drop n));rw [← hdr_drop];exact hA
 ·rcases List.mem_append.1 hb with hb | hb
  ·exact h4 b (List.mem_of_mem_take hb)
  ·rcases List.mem_cons.1 hb with rfl | hb
   ·exact h3
   ·exact h4 b (List.mem_of_mem_drop hb)
end

def FF:Nat→Prop:=fun _=>False
def hdrV (bs:List (Nat × Nat)) (l:List (List Val)):List Value:=List.zipWith (fun b r=>Value.slice (some ⟨b.1,0,none⟩) r.length b.2) bs l
structure SV (v:World) (base pg:Nat) (bs:List (Nat × Nat)) (l:List (List Val)):Prop where
 len:bs.length=l.length
 own:∀ (i:Nat) (b:Nat × Nat) (r:List Val),bs[i]?=some b→l[i]?=some r→OwnVs v base FF 1 (some ⟨b.1,0,none⟩) b.2 r
 nd:(bs.map (·.1)).Nodup
 hd:Own v base 50 1 (some ⟨pg,0,none⟩) l.length l.length (hdrV bs l)
 ne:∀ b∈bs,pg≠b.1
section
variable {v w9:World} {base pg:Nat} {bs:List (Nat × Nat)} {l:List (List Val)}
theorem hdrV_at {i:Nat} {b:Nat × Nat} {r:List Val} (hb:bs[i]?=some b) (hg:l[i]?=some r):(hdrV bs l)[i]?=some (.slice (some ⟨b.1,0,none⟩) r.length b.2):=by
 simp [hdrV,List.getElem?_zipWith,hb,hg]
theorem hdrV_set (i:Nat) (b:Nat × Nat) (r:List Val):(hdrV bs l).set i (.slice (some ⟨b.1,0,none⟩) r.length b.2)=hdrV (bs.set i b) (l.set i r):=by
 apply List.ext_getElem?;intro j;by_cases hj:i=j
 ·subst hj;simp only [hdrV,List.getElem?_zipWith,List.getElem?_set_self'];cases h1:bs[i]? <;> cases h2:l[i]? <;> simp
 ·simp only [hdrV,List.getElem?_zipWith,List.getElem?_set_ne hj]
theorem OwnVs.fkeep {w w':World} {d c:Nat} {A:Option Addr} {r:List Val} (h:OwnVs w base FF d A c r) (hk:Kept (fun b=>ob A=some b) w w'):OwnVs w' base FF d A c r:=h.keep (hk.mono fun _ _ hh=>hh.elim id fun f=>f.elim)
theorem SV.ext (h:SV v base pg bs l) (hx:Ext v w9):SV w9 base pg bs l :=
 ⟨h.len,fun i b r hb hr=>(h.own i b r hb hr).ext hx,h.nd,h.hd.ext hx,h.ne⟩
theorem SV.lt (h:SV v base pg bs l):∀ b∈bs,base≤b.1∧b.1<v.heap.size:=by
 intro b hb;obtain ⟨i,hi,rfl⟩:=List.mem_iff_getElem.1 hb;exact (h.own i bs[i] (l[i]'(by rw [← h.len]; exact hi)) (List.getElem?_eq_getElem hi) (List.getElem?_eq_getElem (by rw [← h.len]; exact hi))).blk rfl
theorem SV.at_ (h:SV v base pg bs l) {i:Nat} (hi:i<l.length):∃ b,bs[i]?=some b∧OwnVs v base FF 1 (some ⟨b.1,0,none⟩) b.2 l[i]∧b∈bs:=by
 have hi':i<bs.length:=(by rw [h.len]; exact hi);exact ⟨bs[i],List.getElem?_eq_getElem hi',h.own i _ _ (List.getElem?_eq_getElem hi') (List.getElem?_eq_getElem hi),List.getElem_mem hi'⟩
theorem SV.rows (h:SV v base pg bs l) (hl:l.length≤4294967296) (hr:∀ r∈l,r.length≤4294967296):Rows v (fun b=>base≤b) 1 (some ⟨pg,0,none⟩) l:=by
 refine ⟨hl,hdrV bs l,h.hd.rd.mono fun b _ hb=>(Own.blk h.hd hb).1,by simp [hdrV,h.len],fun i r hi => ?_⟩;have hil:i<l.length:=(List.getElem?_eq_some_iff.1 hi).1;obtain ⟨b,hb,ho,_⟩:=h.at_ hil;have hri:l[i]=r:=(List.getElem?_eq_some_iff.1 hi).2;rw [hri] at ho;have hcap:r.length≤b.2:=(by obtain ⟨xs,h1,_⟩:=ho; exact Own.cap h1);exact ⟨_,_,hdrV_at hb hi,hcap,ho.row (hr r (List.mem_of_getElem? hi)) (fun x hx=>(ho.blk hx).1) (fun _ f=>f.elim)⟩
theorem SV.grow {i:Nat} {b:Nat × Nat} {r2:List Val} {A2:Option Addr} {c2:Nat} (h:SV v base pg bs l) (hA:Own w9 base 50 1 (some ⟨pg,0,none⟩) l.length l.length ((hdrV bs l).set i (.slice A2 r2.length c2)))
  (hb:bs[i]?=some b) (hk:Kept (fun y=>y∈bs.map (·.1)∧y≠b.1) v w9) (ho:OwnVs w9 base FF 1 A2 c2 r2) (hat:∀ x,ob A2=some x→x=b.1∨v.heap.size≤x) (hne:0<r2.length) :
  ∃ bs',SV w9 base pg bs' (l.set i r2):=by
 obtain ⟨x,rfl⟩:∃ x,A2=some ⟨x,0,none⟩:=by obtain ⟨xs,h1,_⟩:=ho; exact Own.some_ h1 hne
 have hx':x=b.1∨v.heap.size≤x:=hat x rfl;have hbm:b∈bs:=List.mem_of_getElem? hb;have hblt:=h.lt b hbm;have hgb:=h.ne b hbm;have hgA:pg<v.heap.size:=(Own.blk h.hd rfl).2;have hxA:pg≠x:=(by rcases hx' with rfl | h <;> omega);have hi:i<bs.length:=by
  rcases Nat.lt_or_ge i bs.length with h | h
  ·exact h
  ·rw [List.getElem?_eq_none h] at hb; cases hb
 have hbi:bs[i]=b:=(by rw [List.getElem?_eq_getElem hi] at hb; exact Option.some.inj hb);have hne2:∀ (j:Nat) (d:Nat × Nat),bs[j]?=some d→j≠i→d.1≠b.1:=by
  intro j d hd hji e;have hj:j<bs.length:=by
   rcases Nat.lt_or_ge j bs.length with h | h
   ·exact h
   ·rw [List.getElem?_eq_none h] at hd; cases hd
  have hdj:bs[j]=d:=(by rw [List.getElem?_eq_getElem hj] at hd; exact Option.some.inj hd);have:=(List.getElem_inj (xs:=bs.map (·.1)) (i:=j) (j:=i) (h₀:=by simpa using hj) (h₁:=by simpa using hi) h.nd).1 (by simp [hdj,hbi,e]);exact hji this
 refine ⟨bs.set i (x,c2),⟨by simp [h.len],fun j d g' hd hg' => ?_,?_,?_,?_⟩⟩
 ·by_cases hji:j=i
  ·subst hji;rw [List.getElem?_set_self hi] at hd;rw [List.getElem?_set_self (by rw [← h.len]; exact hi)] at hg';obtain rfl:=Option.some.inj hd;obtain rfl:=Option.some.inj hg';exact ho
  ·rw [List.getElem?_set_ne (fun e=>hji e.symm)] at hd hg';refine (h.own j d g' hd hg').fkeep (hk.mono fun y _ hy => ?_);have hyd:y=d.1:=(by simp [ob] at hy; exact hy.symm);rw [hyd];exact ⟨List.mem_map.2 ⟨d,List.mem_of_getElem? hd,rfl⟩,hne2 j d hd hji⟩
 ·rw [List.map_set];rw [List.nodup_iff_pairwise_ne,List.pairwise_iff_getElem];intro p q hp hq hpq;simp only [List.length_set,List.length_map] at hp hq;have hlt:∀ (j:Nat) (hj:j<bs.length),j≠i→bs[j].1≠x:=by
   intro j hj hji;have:=hne2 j bs[j] (List.getElem?_eq_getElem hj) hji;have:=(h.lt bs[j] (List.getElem_mem hj)).2
   rcases hx' with rfl | h <;> omega
  rw [List.getElem_set,List.getElem_set];split
  ·subst_vars
   rw [if_neg (by omega),List.getElem_map];exact fun e=>hlt q (by simpa using hq) (by omega) e.symm
  ·split
   ·subst_vars
    rw [List.getElem_map];exact fun e=>hlt p (by simpa using hp) (by omega) e
   ·rw [List.getElem_map,List.getElem_map];intro e;have:=(List.getElem_inj (xs:=bs.map (·.1)) (i:=p) (j:=q) (h₀:=by simpa using hp) (h₁:=by simpa using hq) h.nd).1 (by simpa using e);omega
 ·rw [hdrV_set i (x,c2) r2] at hA
  simpa using hA
 ·intro d hd
  rcases List.mem_or_eq_of_mem_set hd with hd | rfl
  ·exact h.ne d hd
  ·simpa [ob] using hxA
end
end Go.Proofs.YthmckfloppblcaaGreatDoor
