/- The layout of dates is right. No conditions. -/
import Derived.Test.YthmckfloppblcaaGreatDoorBj10
import Derived.Lib.AppendStr
import Derived.Lib.Builder
import Derived.Lib.UnsafeStr
set_option maxRecDepth 100000
set_option maxHeartbeats 2000000
namespace Go.Proofs.YthmckfloppblcaaGreatDoor
open Go Go.RowKit Go.Shelf
attribute [local go_sem] Oper.semAt_some

theorem date_tokens (s:ByteArray) (w:World):Calls Tryz.prog 149 #[.string s] w (fun e w'=>e=.returned (.func (.func 176) #[] #[.pointer (some ⟨w.heap.size,0,none⟩)])∧w'=w.alloc (.cells #[.string s] 9)):=by
 go_enter Tryz.func149,Tryz.ntmps149
 go_wp2;go_ret;exact ⟨rfl,rfl⟩
theorem date_plain (w:World):Calls Tryz.prog 174 #[.int .u8 45] w (RetB w true):=by
 go_enter Tryz.func174,Tryz.ntmps174
 go_wp2;go_ret;exact ⟨rfl,Ext.refl _⟩
structure RgJ (w:World) (g:Nat) (i:Nat) (W:World):Prop where
 ext:Ext w W
 res:Blk W g 4 #[.bool false]
 yr:Blk W (g+1) 3 #[.int .i64 (if 1≤i then 1 else 0)]
 mo:Blk W (g+1+1) 3 #[.int .i64 (if 3≤i then 1 else 0)]
 da:Blk W (g+1+1+1) 3 #[.int .i64 (if 5≤i then 1 else 0)]
 sh:Blk W (g+1+1+1+1) 4 #[.bool false]
theorem Blk.calm {W:World} {b t l:Nat} {cs:Array Value} {o o':Obj} (h:Blk W b t cs) (hl:W.heap[l]?=some o) (ho:o.isCells=false):Blk (W.putObj l o') b t cs:=by
 have hbl:b≠l:=by
  intro e;subst e;unfold Blk at h;rw [h] at hl;injection hl with hl;subst hl;cases ho
 unfold Blk at h ⊢;rw [World.putObj_heap_other hbl];exact h
theorem RgJ.calm (w:World) (g:Nat):Calm w.heap.size (RgJ w g):=by
 intro i W l o o' hB h hl ho;exact ⟨⟨h.ext.os,h.ext.tape,h.ext.output,by simp only [World.putObj_size]; exact h.ext.size,fun b hb=>by rw [World.putObj_heap_other (by omega)]; exact h.ext.block b hb⟩,h.res.calm hl ho,h.yr.calm hl ho,h.mo.calm hl ho,h.da.calm hl ho,h.sh.calm hl ho⟩
theorem RgJ.keep {w W W':World} {g i:Nat} (h:RgJ w g i W) (hx:Ext w W') (k:∀ b,b<W.heap.size→b<g+5→W'.heap[b]?=W.heap[b]?) (hs:W.heap.size≤W'.heap.size):RgJ w g i W':=by
 have hk:Kept (fun b=>b<g+5) W W':=⟨hs,fun b hb hl=>k b hl hb⟩;exact ⟨hx,h.res.keep (hk.mono fun b _ e=>by omega),h.yr.keep (hk.mono fun b _ e=>by omega),h.mo.keep (hk.mono fun b _ e=>by omega),h.da.keep (hk.mono fun b _ e=>by omega),h.sh.keep (hk.mono fun b _ e=>by omega)⟩
theorem RgJ.more {w W W':World} {g i:Nat} (h:RgJ w g i W) (hx:Ext W W'):RgJ w g i W':=h.keep (h.ext.trans hx) (fun b hb _=>hx.block b hb) hx.size
theorem Ext.putObj {a b:World} (h:Ext a b) {l:Nat} (hl:a.heap.size≤l) (o:Obj):Ext a (b.putObj l o):=⟨h.os,h.tape,h.output,by simp only [World.putObj_size]; exact h.size,fun k hk=>by rw [World.putObj_heap_other (by omega)]; exact h.block k hk⟩
theorem Ext.others {W W':World} (h:Ext W W'):KeepsOthers W W':=⟨h.size,fun k _ hk _=>(h.block k (Array.getElem?_eq_some_iff.1 hk).1).trans hk⟩
theorem Blk.off {W:World} {b t g i:Nat} {cs:Array Value} {u:Value} (h:Blk W b t cs) (hne:b≠g):Blk (W.setCell ⟨g,i,none⟩ u) b t cs:=h.keep (Kept.set2 (Kept.refl _ _) (fun e=>hne e.symm))
theorem RgJ.put4 {w W:World} {g i:Nat} (h:RgJ w g i W) (hg:g=w.heap.size):RgJ w g i (W.setCell ⟨g+1+1+1+1,0,none⟩ (.bool false)) :=
 ⟨h.ext.set2 (by omega) _,h.res.off (by omega),h.yr.off (by omega),h.mo.off (by omega),h.da.off (by omega),h.sh.set 0 _⟩
theorem RgJ.put1 {w W:World} {g:Nat} (h:RgJ w g 0 W) (hg:g=w.heap.size):RgJ w g 1 (W.setCell ⟨g+1,0,none⟩ (.int .i64 1)) :=
 ⟨h.ext.set2 (by omega) _,h.res.off (by omega),h.yr.set 0 _,h.mo.off (by omega),h.da.off (by omega),h.sh.off (by omega)⟩
theorem RgJ.put2 {w W:World} {g:Nat} (h:RgJ w g 2 W) (hg:g=w.heap.size):RgJ w g 3 (W.setCell ⟨g+1+1,0,none⟩ (.int .i64 1)) :=
 ⟨h.ext.set2 (by omega) _,h.res.off (by omega),h.yr.off (by omega),h.mo.set 0 _,h.da.off (by omega),h.sh.off (by omega)⟩
theorem RgJ.put3 {w W:World} {g:Nat} (h:RgJ w g 4 W) (hg:g=w.heap.size):RgJ w g 5 (W.setCell ⟨g+1+1+1,0,none⟩ (.int .i64 1)) :=
 ⟨h.ext.set2 (by omega) _,h.res.off (by omega),h.yr.off (by omega),h.mo.off (by omega),h.da.set 0 _,h.sh.off (by omega)⟩
theorem RgJ.odd1 {w W:World} {g:Nat} (h:RgJ w g 1 W):RgJ w g 2 W:=⟨h.ext,h.res,h.yr,h.mo,h.da,h.sh⟩
theorem RgJ.odd3 {w W:World} {g:Nat} (h:RgJ w g 3 W):RgJ w g 4 W:=⟨h.ext,h.res,h.yr,h.mo,h.da,h.sh⟩
def RgM (w:World) (g:Nat) (s z:ByteArray) (f:Bool) (i:Nat) (a:Act) (W:World):Prop:=∃ b7,a = { tmps:=#[.string s,undef,.pointer (some ⟨g,0,none⟩),.pointer (some ⟨g+1,0,none⟩),.pointer (some ⟨g+1+1,0,none⟩),.pointer (some ⟨g+1+1+1,0,none⟩),.pointer (some ⟨g+1+1+1+1,0,none⟩),.pointer (some ⟨b7,0,none⟩),.string s,.int .i64 10,.bool false,.string s,.func (.func 176) #[] #[.pointer (some ⟨g+1+1+1+1+1,0,none⟩)],.agg #[.string z,.bool f],undef,undef,undef,undef,undef,undef,undef,undef,undef,undef,undef,undef,undef,undef,undef,undef,undef,undef,undef,undef,undef,undef,undef,undef,undef,undef,undef,undef,undef,undef,undef,undef,undef,undef,undef,undef,undef,undef,undef,undef,undef,undef,undef,undef,undef,undef,undef,undef,undef,undef,undef,undef,undef,undef,undef],defers:=[] }∧Blk W b7 190 #[.string z,.bool f]∧g+5<b7∧RgJ w g i W
theorem Rdy.ext {r:Loop} {l D:Nat} {W W':World} (h:Rdy r l D W) (hx:Ext W W'):Rdy r l D W':=by
 have h1:=(Array.getElem?_eq_some_iff.1 h.1).1;have h2:=h.2.2;exact ⟨(hx.block l h1).trans h.1,(hx.block D (by omega)).trans h.2.1,h2⟩
theorem Blk.newAt {w:World} {t b:Nat} {cs:Array Value} (hb:b=w.heap.size):Blk (w.alloc (.cells cs t)) b t cs:=by rw [hb]; exact Blk.new _ _ _
theorem date_right (w:World):Calls Tryz.prog 147 #[.string (bsA (layD 0))] w (RetB w true):=by
 obtain ⟨s,es⟩:∃ s,s=bsA (layD 0):=⟨_,rfl⟩;have hsz:s.size=10:=(by rw [es]; rfl);have HES:=Hd es;rw [← es];clear es;refine (callsIn_wide (n:=4)).1 ?_;refine callsIn_of_wp_marks Tryz.func147 rfl trivial ?_ rfl;simp only [Tryz.ntmps147,List.size_toArray,List.length_cons,List.length_nil,Nat.reduceAdd,Nat.reduceSub,Array.replicate_succ,Array.replicate_zero,List.push_toArray,List.append_toArray,List.nil_append,List.cons_append]
 gi_wp2_with (refine ⟨trivial,?_⟩; gi_at_call 149; refine (callsIn_wide.2 (date_tokens s _)).mono ?_; rintro e2 w2 ⟨rfl,rfl⟩)
 obtain ⟨wT,hwT⟩:∃ x,x=(((((w.alloc (.cells #[.bool false] 4)).alloc (.cells #[.int .i64 0] 3)).alloc (.cells #[.int .i64 0] 3)).alloc (.cells #[.int .i64 0] 3)).alloc (.cells #[.bool false] 4)).alloc (.cells #[.string s] 9):=⟨_,rfl⟩;have HJ0:=Hd (show RgJ w w.heap.size 0 wT from by
  have x1:Ext w (w.alloc (.cells #[.bool false] 4)):=(Ext.refl w).alloc _;have x2:=x1.alloc (.cells #[.int .i64 0] 3);rw [hwT];refine ⟨(((x2.alloc _).alloc _).alloc _).alloc _,(Blk.newAt rfl).keep ((((((Ext.refl _).alloc _).alloc _).alloc _).alloc _).alloc _ |>.kept _),(Blk.newAt (by simp)).keep (((((Ext.refl _).alloc _).alloc _).alloc _).alloc _ |>.kept _),(Blk.newAt (by simp)).keep ((((Ext.refl _).alloc _).alloc _).alloc _ |>.kept _),(Blk.newAt (by simp)).keep (((Ext.refl _).alloc _).alloc _ |>.kept _),(Blk.newAt (by simp)).keep ((Ext.refl _).alloc _ |>.kept _)⟩)
 have HB0:=Hd (show Blk wT (w.heap.size+1+1+1+1+1) 9 #[.string (bsA (layD 0))] from by
  rw [hwT,← HES.o];exact Blk.newAt (by simp))
 rw [← hwT];obtain ⟨g,eg⟩:∃ g,g=w.heap.size:=⟨_,rfl⟩;have HG:=Hd eg;rw [← eg] at HJ0 HB0 ⊢;clear hwT eg;refine wpIn_range_on (β:=Nat × Bool) (J:=fun x W=>RgJ w g x.1 W∧(x.2=true→Blk W (g+1+1+1+1+1) 9 #[.string (bsA (layD 0))])) (s0:=(0,true)) (s1:=(5,false)) (Bj:=w.heap.size) rfl (by decide) (gf:=176) (lb:=#[.pointer (some ⟨g+1+1+1+1+1,0,none⟩)]) rfl trivial (enters_of Tryz.func176 (by kernel_rfl) rfl) HJ0.o.ext.size ?calm ?h00 ?hiter ?hdone
 case calm =>
  intro x W l o o' hB h hl ho;exact ⟨RgJ.calm w g x.1 W l o o' hB h.1 hl ho,fun e=>(h.2 e).calm hl ho⟩
 case h00 =>
  intro r;have hx:Ext wT ((wT.alloc (.deferred (some []))).alloc (.loop r)):=((Ext.refl wT).alloc _).alloc _;exact ⟨HJ0.o.more hx,fun _=>HB0.o.keep (hx.kept _)⟩
 case hdone =>
  rintro W ⟨hj,-⟩ hd;have y0:=hj.yr.cell (i:=0) rfl;have y1:=hj.mo.cell (i:=0) rfl;have y2:=hj.da.cell (i:=0) rfl;have y3:=hj.res.frozen 0;have y4:g<W.heap.size:=hj.res.lt;have y5:=hj.res.cell (i:=0) rfl
  gi_wp2
  have hK:=(KeepsOthers.setCell W ⟨g,0,none⟩ (.bool true)).same _ _ hd rfl;refine ⟨by simp,.inl ⟨_,_,rfl,run_takeDeferred hK,?_⟩⟩;have hz:((W.setCell ⟨g,0,none⟩ (.bool true)).putObj wT.heap.size (.deferred none)).cell? ⟨g,0,none⟩=some (.bool true):=((hj.res.set 0 (.bool true)).calm hK rfl (o':=.deferred none)).cell (i:=0) rfl;have hxx:=Hd ((hj.ext.set2 (i:=0) (Nat.le_of_eq HG.o.symm) (.bool true)).putObj HJ0.o.ext.size (.deferred none));refine ⟨.bool true,?_,rfl,hxx.o⟩;simp [results,Tryz.results147,go_sem,hz]
 case hiter =>
  rintro fn W hfn ⟨hj,hb⟩ hr;have hwT:=HJ0.o.ext.size;refine (tokens_iter 3 (by decide) (wT.heap.size+1) (g+1+1+1+1+1) (fun b=>g+1≤b∧b≤g+4) (fun i W'=>RgJ w g i W'∧Rdy _ (wT.heap.size+1) wT.heap.size W') (by omega) W ?js ?jx ?fp ?round ⟨hj,hr⟩ (hb rfl)).mono ?_
  case js =>
   rintro i W1 u ⟨h1,h2⟩;exact ⟨h1.keep (h1.ext.set2 (by have:=HG.o; omega) u) (fun b hb hg=>Below.heap_setCell _ _ _ _ (by show b≠g+1+1+1+1+1; omega)) (by simp [World.setCell]),h2.others (KeepsOthers.setCell _ _ _)⟩
  case jx =>
   rintro i W1 W2 ⟨h1,h2⟩ hx;exact ⟨h1.more hx,h2.ext hx⟩
  case fp =>
   intro b hb;have:=hj.sh.lt;omega
  case round =>
   rintro i W1 hi ⟨h1,h2⟩ hs;have hlt5:g+5<W1.heap.size:=(by have:=(hb rfl).lt; omega)
   rcases (show i=0∨i=1∨i=2∨i=3∨i=4 by omega) with rfl | rfl | rfl | rfl | rfl
   ·refine YieldAt.mono (yield_on (m:=3-1) (args:=#[.agg #[.string ⟨#[89,89,89,89]⟩,.bool true]]) (J:=RgJ w g) (s':=0+1) (Fp:=fun b=>g+1≤b∧b≤g+4) (Mid:=RgM w g s ⟨#[89,89,89,89]⟩ true 0) (Bj:=w.heap.size) hfn h2 rfl (by omega) ?_ (RgJ.calm w g) ?_ ?_) (fun e W' h=>⟨h.1,⟨h.2.1,h.2.2.2⟩,h.2.2.1⟩)
    ·rintro a W2 o o' ⟨b7,e,m1,m2,m3⟩ hl ho;exact ⟨b7,e,m1.calm hl ho,m2,RgJ.calm w g 0 W2 _ o o' (by omega) m3 hl ho⟩
    ·gi_wp2
     exact ⟨⟨_,rfl,Blk.new _ _ _,hlt5,h1.more ((Ext.refl _).alloc _)⟩,KeepsOthers.alloc _ _,ButS.of_ext ((Ext.refl _).alloc _)⟩
    ·rintro a W2 ⟨b7,rfl,m1,m2,m3⟩;have c0:=m1.cell (i:=0) rfl;have c1:=m1.cell (i:=1) rfl;have y1:=m3.yr.cell (i:=0) rfl;have y2:=m3.mo.cell (i:=0) rfl;have y3:=m3.da.cell (i:=0) rfl;have y4:=m3.sh.cell (i:=0) rfl;have z1:=m3.yr.frozen 0;have z2:=m3.mo.frozen 0;have z3:=m3.da.frozen 0;have z4:=m3.sh.frozen 0;have l1:=m3.yr.lt;have l2:=m3.mo.lt;have l3:=m3.da.lt;have l4:=m3.sh.lt
     gi_wp2
     refine ⟨trivial,?_⟩
     gi_wp2
     exact ⟨(KeepsOthers.setCell _ _ _).trans (KeepsOthers.setCell _ _ _),(m3.put4 HG.o).put1 HG.o,((ButS.refl _ _).set (.inl ⟨by omega,by omega⟩)).set (.inl ⟨by omega,by omega⟩)⟩
   ·refine YieldAt.mono (yield_on (m:=3-1) (args:=#[.agg #[.string ⟨#[45]⟩,.bool false]]) (J:=RgJ w g) (s':=1+1) (Fp:=fun b=>g+1≤b∧b≤g+4) (Mid:=RgM w g s ⟨#[45]⟩ false 1) (Bj:=w.heap.size) hfn h2 rfl (by omega) ?_ (RgJ.calm w g) ?_ ?_) (fun e W' h=>⟨h.1,⟨h.2.1,h.2.2.2⟩,h.2.2.1⟩)
    ·rintro a W2 o o' ⟨b7,e,m1,m2,m3⟩ hl ho;exact ⟨b7,e,m1.calm hl ho,m2,RgJ.calm w g 1 W2 _ o o' (by omega) m3 hl ho⟩
    ·gi_wp2
     exact ⟨⟨_,rfl,Blk.new _ _ _,hlt5,h1.more ((Ext.refl _).alloc _)⟩,KeepsOthers.alloc _ _,ButS.of_ext ((Ext.refl _).alloc _)⟩
    ·rintro a W2 ⟨b7,rfl,m1,m2,m3⟩;have c0:=m1.cell (i:=0) rfl;have c1:=m1.cell (i:=1) rfl;have y1:=m3.yr.cell (i:=0) rfl;have y2:=m3.mo.cell (i:=0) rfl;have y3:=m3.da.cell (i:=0) rfl;have y4:=m3.sh.cell (i:=0) rfl;have z1:=m3.yr.frozen 0;have z2:=m3.mo.frozen 0;have z3:=m3.da.frozen 0;have z4:=m3.sh.frozen 0;have l1:=m3.yr.lt;have l2:=m3.mo.lt;have l3:=m3.da.lt;have l4:=m3.sh.lt
     gi_wp2_with (refine ⟨trivial,?_⟩; gi_at_call 174; refine (CallsIn.inRound _ (callsIn_wide.2 (date_plain _))).mono ?_; rintro e2 w2 ⟨rfl,hx2⟩; have HX2:=Hd hx2; have c02:=hx2.cell c0; have c12:=hx2.cell c1; have y12:=hx2.cell y1; have y22:=hx2.cell y2; have y32:=hx2.cell y3; have y42:=hx2.cell y4; have z42:=(m3.sh.keep (hx2.kept _)).frozen 0; have hs2:=hx2.size)
     exact ⟨HX2.o.others.trans (KeepsOthers.setCell _ _ _),((m3.more HX2.o).put4 HG.o).odd1,(ButS.of_ext HX2.o).set (.inl ⟨by omega,by omega⟩)⟩
   ·refine YieldAt.mono (yield_on (m:=3-1) (args:=#[.agg #[.string ⟨#[77,77]⟩,.bool true]]) (J:=RgJ w g) (s':=2+1) (Fp:=fun b=>g+1≤b∧b≤g+4) (Mid:=RgM w g s ⟨#[77,77]⟩ true 2) (Bj:=w.heap.size) hfn h2 rfl (by omega) ?_ (RgJ.calm w g) ?_ ?_) (fun e W' h=>⟨h.1,⟨h.2.1,h.2.2.2⟩,h.2.2.1⟩)
    ·rintro a W2 o o' ⟨b7,e,m1,m2,m3⟩ hl ho;exact ⟨b7,e,m1.calm hl ho,m2,RgJ.calm w g 2 W2 _ o o' (by omega) m3 hl ho⟩
    ·gi_wp2
     exact ⟨⟨_,rfl,Blk.new _ _ _,hlt5,h1.more ((Ext.refl _).alloc _)⟩,KeepsOthers.alloc _ _,ButS.of_ext ((Ext.refl _).alloc _)⟩
    ·rintro a W2 ⟨b7,rfl,m1,m2,m3⟩;have c0:=m1.cell (i:=0) rfl;have c1:=m1.cell (i:=1) rfl;have y1:=m3.yr.cell (i:=0) rfl;have y2:=m3.mo.cell (i:=0) rfl;have y3:=m3.da.cell (i:=0) rfl;have y4:=m3.sh.cell (i:=0) rfl;have z1:=m3.yr.frozen 0;have z2:=m3.mo.frozen 0;have z3:=m3.da.frozen 0;have z4:=m3.sh.frozen 0;have l1:=m3.yr.lt;have l2:=m3.mo.lt;have l3:=m3.da.lt;have l4:=m3.sh.lt
     gi_wp2
     refine ⟨trivial,?_⟩
     gi_wp2
     exact ⟨(KeepsOthers.setCell _ _ _).trans (KeepsOthers.setCell _ _ _),(m3.put4 HG.o).put2 HG.o,((ButS.refl _ _).set (.inl ⟨by omega,by omega⟩)).set (.inl ⟨by omega,by omega⟩)⟩
   ·refine YieldAt.mono (yield_on (m:=3-1) (args:=#[.agg #[.string ⟨#[45]⟩,.bool false]]) (J:=RgJ w g) (s':=3+1) (Fp:=fun b=>g+1≤b∧b≤g+4) (Mid:=RgM w g s ⟨#[45]⟩ false 3) (Bj:=w.heap.size) hfn h2 rfl (by omega) ?_ (RgJ.calm w g) ?_ ?_) (fun e W' h=>⟨h.1,⟨h.2.1,h.2.2.2⟩,h.2.2.1⟩)
    ·rintro a W2 o o' ⟨b7,e,m1,m2,m3⟩ hl ho;exact ⟨b7,e,m1.calm hl ho,m2,RgJ.calm w g 3 W2 _ o o' (by omega) m3 hl ho⟩
    ·gi_wp2
     exact ⟨⟨_,rfl,Blk.new _ _ _,hlt5,h1.more ((Ext.refl _).alloc _)⟩,KeepsOthers.alloc _ _,ButS.of_ext ((Ext.refl _).alloc _)⟩
    ·rintro a W2 ⟨b7,rfl,m1,m2,m3⟩;have c0:=m1.cell (i:=0) rfl;have c1:=m1.cell (i:=1) rfl;have y1:=m3.yr.cell (i:=0) rfl;have y2:=m3.mo.cell (i:=0) rfl;have y3:=m3.da.cell (i:=0) rfl;have y4:=m3.sh.cell (i:=0) rfl;have z1:=m3.yr.frozen 0;have z2:=m3.mo.frozen 0;have z3:=m3.da.frozen 0;have z4:=m3.sh.frozen 0;have l1:=m3.yr.lt;have l2:=m3.mo.lt;have l3:=m3.da.lt;have l4:=m3.sh.lt
     gi_wp2_with (refine ⟨trivial,?_⟩; gi_at_call 174; refine (CallsIn.inRound _ (callsIn_wide.2 (date_plain _))).mono ?_; rintro e2 w2 ⟨rfl,hx2⟩; have HX2:=Hd hx2; have c02:=hx2.cell c0; have c12:=hx2.cell c1; have y12:=hx2.cell y1; have y22:=hx2.cell y2; have y32:=hx2.cell y3; have y42:=hx2.cell y4; have z42:=(m3.sh.keep (hx2.kept _)).frozen 0; have hs2:=hx2.size)
     exact ⟨HX2.o.others.trans (KeepsOthers.setCell _ _ _),((m3.more HX2.o).put4 HG.o).odd3,(ButS.of_ext HX2.o).set (.inl ⟨by omega,by omega⟩)⟩
   ·refine YieldAt.mono (yield_on (m:=3-1) (args:=#[.agg #[.string ⟨#[68,68]⟩,.bool true]]) (J:=RgJ w g) (s':=4+1) (Fp:=fun b=>g+1≤b∧b≤g+4) (Mid:=RgM w g s ⟨#[68,68]⟩ true 4) (Bj:=w.heap.size) hfn h2 rfl (by omega) ?_ (RgJ.calm w g) ?_ ?_) (fun e W' h=>⟨h.1,⟨h.2.1,h.2.2.2⟩,h.2.2.1⟩)
    ·rintro a W2 o o' ⟨b7,e,m1,m2,m3⟩ hl ho;exact ⟨b7,e,m1.calm hl ho,m2,RgJ.calm w g 4 W2 _ o o' (by omega) m3 hl ho⟩
    ·gi_wp2
     exact ⟨⟨_,rfl,Blk.new _ _ _,hlt5,h1.more ((Ext.refl _).alloc _)⟩,KeepsOthers.alloc _ _,ButS.of_ext ((Ext.refl _).alloc _)⟩
    ·rintro a W2 ⟨b7,rfl,m1,m2,m3⟩;have c0:=m1.cell (i:=0) rfl;have c1:=m1.cell (i:=1) rfl;have y1:=m3.yr.cell (i:=0) rfl;have y2:=m3.mo.cell (i:=0) rfl;have y3:=m3.da.cell (i:=0) rfl;have y4:=m3.sh.cell (i:=0) rfl;have z1:=m3.yr.frozen 0;have z2:=m3.mo.frozen 0;have z3:=m3.da.frozen 0;have z4:=m3.sh.frozen 0;have l1:=m3.yr.lt;have l2:=m3.mo.lt;have l3:=m3.da.lt;have l4:=m3.sh.lt
     gi_wp2
     refine ⟨trivial,?_⟩
     gi_wp2
     exact ⟨(KeepsOthers.setCell _ _ _).trans (KeepsOthers.setCell _ _ _),(m3.put4 HG.o).put3 HG.o,((ButS.refl _ _).set (.inl ⟨by omega,by omega⟩)).set (.inl ⟨by omega,by omega⟩)⟩
  ·rintro e W' ⟨hv,hj5,hr5⟩;exact ⟨hv,⟨hj5,fun h=>by cases h⟩,hr5⟩
end Go.Proofs.YthmckfloppblcaaGreatDoor
namespace Go.Proofs.YthmckfloppblcaaGreatDoor
open Go Go.RowKit Go.Shelf

theorem sizeSb:(Tryz.prog.info? 134).map (·.size)=some 2:=by kernel_rfl
theorem copyCheck_used3 (b:Nat) (w:World) (h0:w.cell? ⟨b,3,none⟩=some (.pointer (some ⟨b,3,none⟩))):Calls Tryz.prog 123 #[.pointer (some ⟨b,3,none⟩)] w fun e w'=>e=.returned (.tuple #[])∧w'=w:=by
 obtain ⟨j,hj,_⟩:=Option.map_eq_some_iff.1 sizeSb
 go_enter Tryz.func123,Tryz.ntmps123
 go_wp2;rw [Lib.run_neq_ptr_same w _ Tryz.underlying131 hj];go_wp2
 go_end0
 exact ⟨rfl,rfl⟩
theorem liesSb:liesAt Tryz.prog Tryz.prog.depth 184 (5 / Tryz.prog.cellsOf 184) 3 134 1=true:=by kernel_rfl
theorem copyCheck_fresh3 (b:Nat) (w:World) (h0:w.cell? ⟨b,3,none⟩=some (.pointer none)) (hsh:w.shape? b=some (184,5)) (hfz:w.frozen? ⟨b,3,none⟩=false) :
  Calls Tryz.prog 123 #[.pointer (some ⟨b,3,none⟩)] w fun e w'=>e=.returned (.tuple #[])∧w'=w.setCell ⟨b,3,none⟩ (.pointer (some ⟨b,3,none⟩)):=by
 obtain ⟨j,hj,hjs⟩:=Option.map_eq_some_iff.1 sizeSb
 go_enter Tryz.func123,Tryz.ntmps123
 go_wp2;rw [Lib.run_to_unsafe w ⟨b,3,none⟩ Tryz.underlying131 Tryz.underlying191 hj (by rw [hjs]; decide) hsh (show 3<5 by decide)];simp only [Result.andThen];rw [Oper.upon_value];go_wp2;rw [run_callFunc_extern Tryz.func150 (by kernel_rfl) (by kernel_rfl) (by kernel_rfl) (e:=Extern.AbiNoEscape.same) (by kernel_rfl)];rw [Lib.run_noEscape];simp only [Result.andThen];rw [Oper.upon_value];go_wp2;rw [Lib.run_from_unsafe w ⟨b,3,none⟩ Tryz.underlying191 Tryz.underlying131 hj hsh liesSb];simp only [Result.andThen];rw [Oper.upon_value];go_wp2
 go_end0
 exact ⟨rfl,rfl⟩
theorem own_ne {w:World} {B e sz n c b t:Nat} {A:Option Addr} {xs:List Value} {cs:Array Value} (h:Own w B e sz A n c xs) (hb:Blk w b t cs) (hne:e≠t):ob A≠some b:=by
 intro h1;have h2:=ob_some h h1;subst h2;exact Own.type h hb hne
structure OutB (w:World) (B b:Nat) (y m d:Nat) (l:List UInt8):Prop where
 blk:∃ (ad:Value) (A:Option Addr) (c:Nat),Blk w b 184 #[.int .i64 (y:Int),.int .i64 (m:Int),.int .i64 (d:Int),ad,.slice A l.length c]∧(ad=.pointer none∨ad=.pointer (some ⟨b,3,none⟩))∧Own w B 5 1 A l.length c (Lib.strCells (bsA l))
 le:B≤b
theorem OutB.lt {w:World} {B b y m d:Nat} {l:List UInt8} (h:OutB w B b y m d l):b<w.heap.size:=by
 obtain ⟨ad,A,c,h1,_⟩:=h.blk;exact h1.lt
structure OutS (w:World) (B:Nat) (S:Nat→Prop) (b:Nat) (y m d:Nat) (l:List UInt8):Prop where
 blk:∃ (ad:Value) (A:Option Addr) (c:Nat),Blk w b 184 #[.int .i64 (y:Int),.int .i64 (m:Int),.int .i64 (d:Int),ad,.slice A l.length c]∧(ad=.pointer none∨ad=.pointer (some ⟨b,3,none⟩))∧Own w B 5 1 A l.length c (Lib.strCells (bsA l))∧∀ k,ob A=some k→S k
 le:B≤b
 at_:S b
theorem OutB.toS {w:World} {B b y m d:Nat} {l:List UInt8} (h:OutB w B b y m d l):∃ S:Nat→Prop,OutS w B S b y m d l∧(∀ x,S x→B≤x∧x<w.heap.size)∧(∀ x t cs,S x→Blk w x t cs→t=184∨t=5)∧∀ x,S x→∃ t cs,Blk w x t cs:=by
 have hlt:=h.lt;obtain ⟨⟨ad,A,c,h1,h2,h3⟩,hle⟩:=h;refine ⟨fun x=>x=b∨ob A=some x,⟨⟨ad,A,c,h1,h2,h3,fun k hk=>.inr hk⟩,hle,.inl rfl⟩,?_,?_,?_⟩
 ·rintro x (rfl | hx)
  ·exact ⟨hle,hlt⟩
  ·exact h3.blk hx
 ·rintro x t cs (rfl | hx) hb
  ·unfold Blk at h1 hb;rw [h1] at hb;injection hb with hb;injection hb with _ hb;exact .inl hb.symm
  ·by_cases ht:5=t
   ·exact .inr ht.symm
   ·exact absurd hx (own_ne h3 hb ht)
 ·rintro x (rfl | hx)
  ·exact ⟨_,_,h1⟩
  ·rcases h3.2 with ⟨hv,_⟩ | ⟨g,cap,cur,hv,r⟩
   ·injection hv with e1;rw [e1] at hx;cases hx
   ·injection hv with e1;rw [e1] at hx;simp [ob] at hx;subst hx;exact ⟨_,_,r.2.1⟩
theorem strCells_app (a c:List UInt8):Lib.strCells (bsA a)++Lib.strCells (bsA c)=Lib.strCells (bsA (a++c)):=by simp [Lib.strCells,bsA]
theorem wpList_appS {ops:Array Oper} {rest:List Oper} {o:Oper} {a:Act} {w:World} {Q:Exit→Act→World→Prop} {base n c:Nat} {A:Option Addr} {xs:List Value} (hgd:o.guard=none) (sl x:Operand)
  (ho:o.op=.call { callee:=.builtin .append,args:=#[sl,x],argTypes:=#[132,9] }) (hs:a.eval sl=.slice A n c) (hown:Own w base 5 1 A n c xs) (s:ByteArray) (hx:a.eval x=.string s) (hb:n+s.size≤1000000) (hbase:base≤w.heap.size)
  (h:∀ A' c' w',Own w' base 5 1 A' (n+s.size) c' (xs++Lib.strCells s)→w.grownBy w' (ob A)→wpList Tryz.prog ops Q rest (a.put o.dst (.slice A' (n+s.size) c')) w') :
  wpList Tryz.prog ops Q (o :: rest) a w:=by
 obtain ⟨i0,h1,h2,h3,h4⟩:=info_parts infoU8;refine Lib.wpList_append_own_string w hgd sl x _ _ ho base 5 i0 Tryz.underlying132 Tryz.underlying9 h1 h2 h3 h4 (.slice A n c) n xs hs hown s hx (by unfold maxLen; omega) (by omega) hbase ?_;intro v' w' ho' hg _;rw [ob_eq] at hg
 rcases ho'.2 with ⟨rfl,h0⟩ | ⟨g,cap,cur,rfl,_⟩
 ·have:=h none 0 w' (by rw [h0]; rw [h0] at ho'; exact ho') hg;rw [h0] at this;exact this
 ·exact h _ _ w' ho' hg
theorem copyCheck3 (B:Nat) (S:Nat→Prop) (b y m d:Nat) (l:List UInt8) (w:World) (h:OutS w B S b y m d l):Calls Tryz.prog 123 #[.pointer (some ⟨b,3,none⟩)] w fun e w'=>e=.returned (.tuple #[])∧(∃ (A:Option Addr) (c:Nat),Blk w' b 184 #[.int .i64 (y:Int),.int .i64 (m:Int),.int .i64 (d:Int),.pointer (some ⟨b,3,none⟩),.slice A l.length c]∧Own w' B 5 1 A l.length c (Lib.strCells (bsA l))∧∀ k,ob A=some k→S k)∧ButS S w w'∧w'.heap.size=w.heap.size:=by
 obtain ⟨⟨ad,A,c,hb,had,hown,hA⟩,hle,hbg⟩:=h;have hne:=own_ne hown hb (by decide)
 rcases had with rfl | rfl
 ·refine (copyCheck_fresh3 b w (hb.cell (i:=3) rfl) ?_ (hb.frozen 3)).mono ?_
  ·unfold Blk at hb;unfold World.shape?;rw [hb];rfl
  ·rintro e w' ⟨rfl,rfl⟩;exact ⟨rfl,⟨A,c,hb.set 3 _,hown.set (p:=⟨b,3,none⟩) hne _,hA⟩,(ButS.refl _ _).set (.inl hbg),by simp [World.setCell]⟩
 ·refine (copyCheck_used3 b w (hb.cell (i:=3) rfl)).mono ?_;rintro e w' ⟨rfl,rfl⟩;exact ⟨rfl,⟨A,c,hb,hown,hA⟩,ButS.refl _ _,rfl⟩
theorem write3 (B:Nat) (S:Nat→Prop) (b y m d:Nat) (l t:List UInt8) (w:World) (h:OutS w B S b y m d l) (hl:l.length+t.length≤1000000):Calls Tryz.prog 98 #[.pointer (some ⟨b,3,none⟩),.string (bsA t)] w fun e w'=>e=.returned (.tuple #[.int .i64 (t.length:Int),.nilIface])∧OutB w' B b y m d (l++t)∧ButS S w w':=by
 have HCC:=Hd (copyCheck3 B S b y m d l w h);have hle:=h.le;have hbg:=h.at_;have hlt:b<w.heap.size:=by
  obtain ⟨_,_,_,h1,_⟩:=h.blk;exact h1.lt
 obtain ⟨s,es⟩:∃ s,s=bsA t:=⟨_,rfl⟩;have hs:s.size=t.length:=(by rw [es]; simp [bsA,ByteArray.size]);have HES:=Hd es;rw [← es];obtain ⟨nl,enl⟩:∃ n,n=l.length:=⟨_,rfl⟩;have HNL:=Hd enl;obtain ⟨nt,ent⟩:∃ n,n=t.length:=⟨_,rfl⟩;rw [← enl,← ent] at hl;rw [← ent] at hs ⊢;have HNT:=Hd ent;clear h es enl ent
 go_enter Tryz.func98,Tryz.ntmps98
 go_wp2_with fail
 refine HCC.o.mono ?_;rintro e1 w1 ⟨rfl,⟨A,c,hb,hown,hA⟩,hb1,hsz⟩;have HA:=Hd hA;have HB1:=Hd hb1;have HOWN:=Hd hown;rw [← HNL.o] at hb HOWN;have c3:=hb.cell (i:=3) rfl;have c4:=hb.cell (i:=4) rfl;have HBL:=Hd hb;clear hb1 hown hb hA
 go_wp2_with (at_builtin; go_must (refine wpList_appS rfl (.tmp 12) (.tmp 13) rfl rfl HOWN.o s rfl (by omega) (by omega) ?_); intro A4 c4' w4 hown4 hg4; have HG4:=Hd hg4; have HO4:=Hd hown4; have hbk:=(HBL.o.keep (Kept.of_grown (S:=fun x=>x=b) hg4 fun x hx _ ex=>own_ne HOWN.o HBL.o (by decide) (by rw [← ex,hx]))); have d4:=hbk.cell (i:=4) rfl; have f4:=hbk.frozen 4; have lt4:b<w4.heap.size:=hbk.lt; have HBK:=Hd hbk; clear hown4 hg4 hbk)
 have ho4:=HO4.o;rw [hs] at ho4;have hne4:=own_ne ho4 HBK.o (by decide);have hlen:(l++t).length=nl+nt:=(by rw [List.length_append,HNL.o,HNT.o]);refine bodyPost_ret (v:=.tuple #[.int .i64 (nt:Int),.nilIface]) (by simp [results,Tryz.results98,go_sem]) rfl ⟨rfl,⟨⟨_,A4,c4',?_,.inr rfl,?_⟩,hle⟩,?_⟩
 ·rw [hlen];exact HBK.o.set 4 (.slice A4 (nl+nt) c4')
 ·have h1:=ho4.set (p:=⟨b,4,none⟩) hne4 (.slice A4 (nl+nt) c4');rw [HES.o,strCells_app] at h1;rw [hlen];exact h1
 ·exact (HB1.o.grown HG4.o fun k hk=>.inl (HA.o k hk)).set (.inl hbg)

theorem OutB.kept {w w':World} {B b y m d:Nat} {l:List UInt8} (h:OutB w B b y m d l) (k:Kept (fun _=>True) w w'):OutB w' B b y m d l:=by
 obtain ⟨⟨ad,A,c,h1,h2,h3⟩,hle⟩:=h;exact ⟨⟨ad,A,c,h1.keep (k.mono fun _ _ _=>trivial),h2,Own.keep h3 (k.mono fun _ _ _=>trivial)⟩,hle⟩
theorem OutS.ext {w w':World} {B:Nat} {S:Nat→Prop} {b y m d:Nat} {l:List UInt8} (h:OutS w B S b y m d l) (hx:Ext w w'):OutS w' B S b y m d l:=by
 obtain ⟨⟨ad,A,c,h1,h2,h3,h4⟩,hle,hat⟩:=h;exact ⟨⟨ad,A,c,h1.keep (hx.kept _),h2,Own.keep h3 (hx.kept _),h4⟩,hle,hat⟩
def LK2 (l:List (Nat × List Nat)) (i:Nat) (γ:Gz):Prop:=LK l i γ∧(γ 1000=true→γ 1001=true)
theorem LK2.zero (l:List (Nat × List Nat)) (i:Nat):LK2 l i gz0:=⟨LK.zero l i,fun h=>by cases h⟩
theorem LK2.one {l:List (Nat × List Nat)} {γ:Gz} {i k:Nat} (h:LK2 l i γ) (hk:(alF l i).contains k=true):γ k=false:=h.1.key hk
theorem LK2.two {l:List (Nat × List Nat)} {γ:Gz} {i:Nat} (h:LK2 l i γ) (hk:(alF l i).contains 1001=true):γ 1000=false:=by
 cases e:γ 1000 with
 | false=>rfl
 | true =>
  have h1:=h.2 e;rw [h.1.key hk] at h1;cases h1
theorem LK2.done {l:List (Nat × List Nat)} {γ:Gz} {s k:Nat} {p:List Nat} (h:(l.all fun q => !(q.2.contains k) || decide (q.1=s) || p.contains q.1)=true) (h2:(γ.put k) 1000=true→(γ.put k) 1001=true):∀ j,j≠s→j ∉ p→LK2 l j γ→LK2 l j (γ.put k):=fun j hj hp h1=>⟨LK.done h j hj hp h1.1,h2⟩
theorem OutB.ext {w w':World} {B b y m d:Nat} {l:List UInt8} (h:OutB w B b y m d l) (hx:Ext w w'):OutB w' B b y m d l:=h.kept (hx.kept _)
theorem put_lit (B:Nat) (S:Nat→Prop) (b y m d:Nat) (l t:List UInt8) (w:World) (h:OutS w B S b y m d l) (hSS:∀ x,S x→x<w.heap.size) (hT:Txt w) (hl:l.length+(t).length≤1000000):Calls Tryz.prog 148 #[.pointer (some ⟨b,0,none⟩),.agg #[.string (bsA t),.bool false]] w fun e w'=>e=.returned (.tuple #[])∧OutB w' B b y m d (l++t)∧ButS S w w':=by
 have HL:=Hd hl;have HSS:=Hd hSS;have HT0:=Hd hT;obtain ⟨s,es⟩:∃ s,s=bsA t:=⟨_,rfl⟩;have HES:=Hd es;rw [← es];have hle:=h.le;have hlt:=hSS b h.at_;obtain ⟨ad,A,c,hb,-⟩:=h.blk;have c0:=hb.cell (i:=0) rfl;have c1:=hb.cell (i:=1) rfl;have c2:=hb.cell (i:=2) rfl;have HO0:=Hd h;clear h hT hl hb hSS es
 go_enter Tryz.func148,Tryz.ntmps148
 go_wp2_with fail
 have HX1:=Hd ((Ext.refl w).alloc (.cells #[.string s,.bool false] 190));have D0:=Hd ((Blk.new w 190 #[.string s,.bool false]).cell (i:=0) rfl);have C0:=Hd (HX1.o.cell c0);have C1:=Hd (HX1.o.cell c1);have C2:=Hd (HX1.o.cell c2);have HOB:=Hd (HO0.o.ext HX1.o);have HT:=Hd (HT0.o.ext HX1.o);clear c0 c1 c2;refine wp_region_chain (by kernel_rfl) (fun i=>[i]) (by kernel_rfl) (LZ (fun m x=>m=1000∧S x)) (LZ.refl _) (LZ.trans _) (LK [(5,[1000])]) gz0 (LK.zero _) ?_;apply Chain.pure (LZ.refl _) (by rfl)
 ·intro vals γ w' ρ hR hN hp hρ hc hf hg;refine ⟨rfl,?_⟩;have e0:=hρ 0;(conv at e0=>rhs; whnf);clear hR hN hp hρ;go_light;go_simp;exact ⟨rfl,rfl⟩
 ·rfl
 apply Chain.pure (LZ.refl _) (by rfl)
 ·intro vals γ w' ρ hR hN hp hρ hc hf hg;refine ⟨rfl,?_⟩;have e20:ρ (.tmp 20)=_:=(hρ 20).trans (hp 0 (by decide));clear hR hN hp hρ;go_light;go_simp;exact ⟨rfl,rfl⟩
 ·rfl
 apply Chain.pure (LZ.refl _) (by rfl)
 ·intro vals γ w' ρ hR hN hp hρ hc hf hg;refine ⟨rfl,?_⟩;have e21:ρ (.tmp 21)=_:=(hρ 21).trans (hp 1 (by decide));clear hR hN hp hρ;go_light;go_simp;exact ⟨rfl,rfl⟩
 ·rfl
 apply Chain.pure (LZ.refl _) (by rfl)
 ·intro vals γ w' ρ hR hN hp hρ hc hf hg;refine ⟨rfl,?_⟩;have e3:=hρ 3;(conv at e3=>rhs; whnf);clear hR hN hp hρ;go_light;go_simp;exact ⟨rfl,rfl⟩
 ·rfl
 apply Chain.pure (LZ.refl _) (by rfl)
 ·intro vals γ w' ρ hR hN hp hρ hc hf hg;refine ⟨rfl,?_⟩;have e23:ρ (.tmp 23)=_:=(hρ 23).trans (hp 3 (by decide));have hx0:=(hR.kept0 (S:=fun x=>x=w.heap.size) (fun b _ hb m hm=>absurd hm.2 (fun e=>by have:=HSS.o b e; omega)));have k3:=hx0.cell2 D0.o rfl;clear hx0 hR hN hp hρ;go_light;go_simp;exact ⟨rfl,rfl⟩
 ·rfl
 refine Chain.step (FP fun v γ w'=>γ 1000=true∧OutB w' B b y m d (l++t)) (by rfl) (FP.stab ?_) ?_ ?_
 ·intro v γ w1 γ' w2 rr h;exact ⟨rr.done _ h.1,h.2.kept (rr.keptS fun x _ _ m hm=>by rw [hm.1,h.1,rr.done _ h.1])⟩
 ·intro vals γ w' ρ hR hN hp hρ hc hf hg;refine ⟨rfl,?_⟩;have e22:ρ (.tmp 22)=_:=(hρ 22).trans (hp 2 (by decide));have e24:ρ (.tmp 24)=_:=(hρ 24).trans (hp 4 (by decide));have hk0:=hN.key (k:=1000) (by decide);have hx0:=hR.ext0 (fun m b _ e=>by rw [e.1]; exact hk0);have HK:=Hd hk0;have HO:=Hd (HOB.o.ext hx0);clear hR hN hp hρ hk0 hx0;go_light;go_simp;have hw:=write3 B S b y m d l (t) w' HO.o HL.o;rw [← HES.o] at hw;refine hw.mono ?_;rintro e1 w3 ⟨rfl,h1,h2⟩;exact ⟨_,rfl,γ.put 1000,LZ.write HK.o h2.os h2.tape h2.output h2.size (fun x hx hm=>h2.block x hx fun e=>hm ⟨rfl,e⟩),LK.done (by decide),by simp [Gz.put],h1⟩
 intro vals γ w9 hR hG;have v0:vals 0=_:=hG 0 (by decide);have v1:vals 1=_:=hG 1 (by decide);have v2:vals 2=_:=hG 2 (by decide);have v3:vals 3=_:=hG 3 (by decide);have v4:vals 4=_:=hG 4 (by decide);simp only [lexFrame,Act.put,List.setIfInBounds_toArray,List.set_cons_succ,List.set_cons_zero,Nat.zero_add,Nat.reduceAdd,v0,v1,v2,v3,v4];clear v0 v1 v2 v3 v4;obtain ⟨-,ho⟩:=hG 5 (by decide);have HB9:=Hd (hR.buts (S:=S) (fun m b _ hm _=>hm.2));have HO9:=Hd ho;clear hR hG ho
 go_wp2_with fail
 go_end0
 exact ⟨rfl,HO9.o,(ButS.of_ext HX1.o).trans HB9.o⟩
theorem put_Y (B:Nat) (S:Nat→Prop) (b y m d:Nat) (l:List UInt8) (w:World) (h:OutS w B S b y m d l) (hSS:∀ x,S x→x<w.heap.size) (hT:Txt w) (hbn:y≤1000000) (hl:l.length+(padL y 4).length≤1000000):Calls Tryz.prog 148 #[.pointer (some ⟨b,0,none⟩),.agg #[.string ⟨#[89,89,89,89]⟩,.bool true]] w fun e w'=>e=.returned (.tuple #[])∧OutB w' B b y m d (l++padL y 4)∧ButS S w w':=by
 have HL:=Hd hl;have HSS:=Hd hSS;have HT0:=Hd hT;have HBN:=Hd hbn;have hle:=h.le;have hlt:=hSS b h.at_;obtain ⟨ad,A,c,hb,-⟩:=h.blk;have c0:=hb.cell (i:=0) rfl;have c1:=hb.cell (i:=1) rfl;have c2:=hb.cell (i:=2) rfl;have HO0:=Hd h;clear h hT hl hb hSS hbn
 go_enter Tryz.func148,Tryz.ntmps148
 go_wp2_with fail
 have HX1:=Hd ((Ext.refl w).alloc (.cells #[.string ⟨#[89,89,89,89]⟩,.bool true] 190));have D0:=Hd ((Blk.new w 190 #[.string ⟨#[89,89,89,89]⟩,.bool true]).cell (i:=0) rfl);have C0:=Hd (HX1.o.cell c0);have C1:=Hd (HX1.o.cell c1);have C2:=Hd (HX1.o.cell c2);have HOB:=Hd (HO0.o.ext HX1.o);have HT:=Hd (HT0.o.ext HX1.o);clear c0 c1 c2;refine wp_region_chain (by kernel_rfl) (fun i=>[i]) (by kernel_rfl) (LZ (fun m x=>m=1000∧S x)) (LZ.refl _) (LZ.trans _) (LK2 [(6,[1001]),(7,[1001]),(8,[1000])]) gz0 (LK2.zero _) ?_;apply Chain.pure (LZ.refl _) (by rfl)
 ·intro vals γ w' ρ hR hN hp hρ hc hf hg;refine ⟨rfl,?_⟩;have e0:=hρ 0;(conv at e0=>rhs; whnf);clear hR hN hp hρ;go_light;go_simp;exact ⟨rfl,rfl⟩
 ·rfl
 apply Chain.pure (LZ.refl _) (by rfl)
 ·intro vals γ w' ρ hR hN hp hρ hc hf hg;refine ⟨rfl,?_⟩;have e31:ρ (.tmp 31)=_:=(hρ 31).trans (hp 0 (by decide));clear hR hN hp hρ;go_light;go_simp;exact ⟨rfl,rfl⟩
 ·rfl
 apply Chain.pure (LZ.refl _) (by rfl)
 ·intro vals γ w' ρ hR hN hp hρ hc hf hg;refine ⟨rfl,?_⟩;have e32:ρ (.tmp 32)=_:=(hρ 32).trans (hp 1 (by decide));clear hR hN hp hρ;go_light;go_simp;exact ⟨rfl,rfl⟩
 ·rfl
 apply Chain.pure (LZ.refl _) (by rfl)
 ·intro vals γ w' ρ hR hN hp hρ hc hf hg;refine ⟨rfl,?_⟩;have e0:=hρ 0;(conv at e0=>rhs; whnf);clear hR hN hp hρ;go_light;go_simp;exact ⟨rfl,rfl⟩
 ·rfl
 apply Chain.pure (LZ.refl _) (by rfl)
 ·intro vals γ w' ρ hR hN hp hρ hc hf hg;refine ⟨rfl,?_⟩;have e34:ρ (.tmp 34)=_:=(hρ 34).trans (hp 3 (by decide));clear hR hN hp hρ;go_light;go_simp;exact ⟨rfl,rfl⟩
 ·rfl
 apply Chain.pure (LZ.refl _) (by rfl)
 ·intro vals γ w' ρ hR hN hp hρ hc hf hg;refine ⟨rfl,?_⟩;have e35:ρ (.tmp 35)=_:=(hρ 35).trans (hp 4 (by decide));clear hR hN hp hρ;go_light;go_simp;exact ⟨rfl,rfl⟩
 ·rfl
 apply Chain.pure (LZ.refl _) (by rfl)
 ·intro vals γ w' ρ hR hN hp hρ hc hf hg;refine ⟨rfl,?_⟩;have e36:ρ (.tmp 36)=_:=(hρ 36).trans (hp 5 (by decide));have hk0:=hN.two (by decide);have hx0:=hR.ext0 (fun m b _ e=>by rw [e.1]; exact hk0);have k0:=hx0.cell C0.o;have k1:=hx0.cell C1.o;have k2:=hx0.cell C2.o;clear hk0 hx0 hR hN hp hρ;go_light;go_simp;exact ⟨rfl,rfl⟩
 ·rfl
 refine Chain.step (FP fun v γ w'=>γ 1001=true∧v=.string (bsA (padL y 4))) (by rfl) (FP.stab ?_) ?_ ?_
 ·intro v γ w1 γ' w2 rr h;exact ⟨rr.done _ h.1,h.2⟩
 ·intro vals γ w' ρ hR hN hp hρ hc hf hg;refine ⟨rfl,?_⟩;have e37:ρ (.tmp 37)=_:=(hρ 37).trans (hp 6 (by decide));have hk1:=hN.one (k:=1001) (by decide);have hx0:=hR.ext0 (fun m b _ e=>by rw [e.1]; exact hN.two (by decide));have HK:=Hd hk1;have HT2:=Hd (HT.o.ext hx0);clear hR hN hp hρ hk1 hx0;go_light;go_simp;refine (date_padded y 4 HBN.o (by decide) w' HT2.o).mono ?_;rintro e1 w3 ⟨rfl,hx⟩;exact ⟨_,rfl,γ.put 1001,LZ.write HK.o hx.os hx.tape hx.output hx.size (fun x hx' _=>hx.block x hx'),LK2.done (by decide) (fun _=>by simp [Gz.put]),by simp [Gz.put],rfl⟩
 refine Chain.step (FP fun v γ w'=>γ 1000=true∧OutB w' B b y m d (l++padL y 4)) (by rfl) (FP.stab ?_) ?_ ?_
 ·intro v γ w1 γ' w2 rr h;exact ⟨rr.done _ h.1,h.2.kept (rr.keptS fun x _ _ m hm=>by rw [hm.1,h.1,rr.done _ h.1])⟩
 ·intro vals γ w' ρ hR hN hp hρ hc hf hg;refine ⟨rfl,?_⟩;have e33:ρ (.tmp 33)=_:=(hρ 33).trans (hp 2 (by decide));have hp7:=hp 7 (by decide);have e38:ρ (.tmp 38)=_:=(hρ 38).trans hp7.2;have hk0:=hN.one (k:=1000) (by decide);have hx0:=hR.ext0 (fun m b _ e=>by rw [e.1]; exact hk0);have HK:=Hd hk0;have HO:=Hd (HOB.o.ext hx0);have HK7:=Hd hp7.1;clear hR hN hp hρ hk0 hx0 hp7;go_light;go_simp;have hw:=write3 B S b y m d l (padL y 4) w' HO.o HL.o;refine hw.mono ?_;rintro e1 w3 ⟨rfl,h1,h2⟩;exact ⟨_,rfl,γ.put 1000,LZ.write HK.o h2.os h2.tape h2.output h2.size (fun x hx hm=>h2.block x hx fun e=>hm ⟨rfl,e⟩),LK2.done (by decide) (fun _=>by simp [Gz.put,HK7.o]),by simp [Gz.put],h1⟩
 intro vals γ w9 hR hG;have v0:vals 0=_:=hG 0 (by decide);have v1:vals 1=_:=hG 1 (by decide);have v2:vals 2=_:=hG 2 (by decide);have v3:vals 3=_:=hG 3 (by decide);have v4:vals 4=_:=hG 4 (by decide);have v5:vals 5=_:=hG 5 (by decide);have v6:vals 6=_:=hG 6 (by decide);have v7:vals 7=_:=(hG 7 (by decide)).2;simp only [lexFrame,Act.put,List.setIfInBounds_toArray,List.set_cons_succ,List.set_cons_zero,Nat.zero_add,Nat.reduceAdd,v0,v1,v2,v3,v4,v5,v6,v7];clear v0 v1 v2 v3 v4 v5 v6 v7;obtain ⟨-,ho⟩:=hG 8 (by decide);have HB9:=Hd (hR.buts (S:=S) (fun m b _ hm _=>hm.2));have HO9:=Hd ho;clear hR hG ho
 go_wp2_with fail
 go_end0
 exact ⟨rfl,HO9.o,(ButS.of_ext HX1.o).trans HB9.o⟩
theorem put_M (B:Nat) (S:Nat→Prop) (b y m d:Nat) (l:List UInt8) (w:World) (h:OutS w B S b y m d l) (hSS:∀ x,S x→x<w.heap.size) (hT:Txt w) (hbn:m≤1000000) (hl:l.length+(padL m 2).length≤1000000):Calls Tryz.prog 148 #[.pointer (some ⟨b,0,none⟩),.agg #[.string ⟨#[77,77]⟩,.bool true]] w fun e w'=>e=.returned (.tuple #[])∧OutB w' B b y m d (l++padL m 2)∧ButS S w w':=by
 have HL:=Hd hl;have HSS:=Hd hSS;have HT0:=Hd hT;have HBN:=Hd hbn;have hle:=h.le;have hlt:=hSS b h.at_;obtain ⟨ad,A,c,hb,-⟩:=h.blk;have c0:=hb.cell (i:=0) rfl;have c1:=hb.cell (i:=1) rfl;have c2:=hb.cell (i:=2) rfl;have HO0:=Hd h;clear h hT hl hb hSS hbn
 go_enter Tryz.func148,Tryz.ntmps148
 go_wp2_with fail
 have HX1:=Hd ((Ext.refl w).alloc (.cells #[.string ⟨#[77,77]⟩,.bool true] 190));have D0:=Hd ((Blk.new w 190 #[.string ⟨#[77,77]⟩,.bool true]).cell (i:=0) rfl);have C0:=Hd (HX1.o.cell c0);have C1:=Hd (HX1.o.cell c1);have C2:=Hd (HX1.o.cell c2);have HOB:=Hd (HO0.o.ext HX1.o);have HT:=Hd (HT0.o.ext HX1.o);clear c0 c1 c2;refine wp_region_chain (by kernel_rfl) (fun i=>[i]) (by kernel_rfl) (LZ (fun m x=>m=1000∧S x)) (LZ.refl _) (LZ.trans _) (LK2 [(6,[1001]),(10,[1001]),(11,[1000])]) gz0 (LK2.zero _) ?_;apply Chain.pure (LZ.refl _) (by rfl)
 ·intro vals γ w' ρ hR hN hp hρ hc hf hg;refine ⟨rfl,?_⟩;have e0:=hρ 0;(conv at e0=>rhs; whnf);clear hR hN hp hρ;go_light;go_simp;exact ⟨rfl,rfl⟩
 ·rfl
 apply Chain.pure (LZ.refl _) (by rfl)
 ·intro vals γ w' ρ hR hN hp hρ hc hf hg;refine ⟨rfl,?_⟩;have e45:ρ (.tmp 45)=_:=(hρ 45).trans (hp 0 (by decide));clear hR hN hp hρ;go_light;go_simp;exact ⟨rfl,rfl⟩
 ·rfl
 apply Chain.pure (LZ.refl _) (by rfl)
 ·intro vals γ w' ρ hR hN hp hρ hc hf hg;refine ⟨rfl,?_⟩;have e46:ρ (.tmp 46)=_:=(hρ 46).trans (hp 1 (by decide));clear hR hN hp hρ;go_light;go_simp;exact ⟨rfl,rfl⟩
 ·rfl
 apply Chain.pure (LZ.refl _) (by rfl)
 ·intro vals γ w' ρ hR hN hp hρ hc hf hg;refine ⟨rfl,?_⟩;have e0:=hρ 0;(conv at e0=>rhs; whnf);clear hR hN hp hρ;go_light;go_simp;exact ⟨rfl,rfl⟩
 ·rfl
 apply Chain.pure (LZ.refl _) (by rfl)
 ·intro vals γ w' ρ hR hN hp hρ hc hf hg;refine ⟨rfl,?_⟩;have e48:ρ (.tmp 48)=_:=(hρ 48).trans (hp 3 (by decide));clear hR hN hp hρ;go_light;go_simp;exact ⟨rfl,rfl⟩
 ·rfl
 apply Chain.pure (LZ.refl _) (by rfl)
 ·intro vals γ w' ρ hR hN hp hρ hc hf hg;refine ⟨rfl,?_⟩;have e49:ρ (.tmp 49)=_:=(hρ 49).trans (hp 4 (by decide));clear hR hN hp hρ;go_light;go_simp;exact ⟨rfl,rfl⟩
 ·rfl
 apply Chain.pure (LZ.refl _) (by rfl)
 ·intro vals γ w' ρ hR hN hp hρ hc hf hg;refine ⟨rfl,?_⟩;have e50:ρ (.tmp 50)=_:=(hρ 50).trans (hp 5 (by decide));have hk0:=hN.two (by decide);have hx0:=hR.ext0 (fun m b _ e=>by rw [e.1]; exact hk0);have k0:=hx0.cell C0.o;have k1:=hx0.cell C1.o;have k2:=hx0.cell C2.o;clear hk0 hx0 hR hN hp hρ;go_light;go_simp;exact ⟨rfl,rfl⟩
 ·rfl
 apply Chain.pure (LZ.refl _) (by rfl)
 ·intro vals γ w' ρ hR hN hp hρ hc hf hg;refine ⟨rfl,?_⟩;have e3:=hρ 3;(conv at e3=>rhs; whnf);clear hR hN hp hρ;go_light;go_simp;exact ⟨rfl,rfl⟩
 ·rfl
 apply Chain.pure (LZ.refl _) (by rfl)
 ·intro vals γ w' ρ hR hN hp hρ hc hf hg;refine ⟨rfl,?_⟩;have e52:ρ (.tmp 52)=_:=(hρ 52).trans (hp 7 (by decide));have hx0:=(hR.kept0 (S:=fun x=>x=w.heap.size) (fun b _ hb m hm=>absurd hm.2 (fun e=>by have:=HSS.o b e; omega)));have k3:=hx0.cell2 D0.o rfl;clear hx0 hR hN hp hρ;go_light;go_simp;exact ⟨rfl,rfl⟩
 ·rfl
 apply Chain.pure (LZ.refl _) (by rfl)
 ·intro vals γ w' ρ hR hN hp hρ hc hf hg;refine ⟨rfl,?_⟩;have e53:ρ (.tmp 53)=_:=(hρ 53).trans (hp 8 (by decide));clear hR hN hp hρ;go_light;go_simp;exact ⟨rfl,rfl⟩
 ·rfl
 refine Chain.step (FP fun v γ w'=>γ 1001=true∧v=.string (bsA (padL m 2))) (by rfl) (FP.stab ?_) ?_ ?_
 ·intro v γ w1 γ' w2 rr h;exact ⟨rr.done _ h.1,h.2⟩
 ·intro vals γ w' ρ hR hN hp hρ hc hf hg;refine ⟨rfl,?_⟩;have e51:ρ (.tmp 51)=_:=(hρ 51).trans (hp 6 (by decide));have e54:ρ (.tmp 54)=_:=(hρ 54).trans (hp 9 (by decide));have hk1:=hN.one (k:=1001) (by decide);have hx0:=hR.ext0 (fun m b _ e=>by rw [e.1]; exact hN.two (by decide));have HK:=Hd hk1;have HT2:=Hd (HT.o.ext hx0);clear hR hN hp hρ hk1 hx0;go_light;go_simp;refine (date_padded m 2 HBN.o (by decide) w' HT2.o).mono ?_;rintro e1 w3 ⟨rfl,hx⟩;exact ⟨_,rfl,γ.put 1001,LZ.write HK.o hx.os hx.tape hx.output hx.size (fun x hx' _=>hx.block x hx'),LK2.done (by decide) (fun _=>by simp [Gz.put]),by simp [Gz.put],rfl⟩
 refine Chain.step (FP fun v γ w'=>γ 1000=true∧OutB w' B b y m d (l++padL m 2)) (by rfl) (FP.stab ?_) ?_ ?_
 ·intro v γ w1 γ' w2 rr h;exact ⟨rr.done _ h.1,h.2.kept (rr.keptS fun x _ _ m hm=>by rw [hm.1,h.1,rr.done _ h.1])⟩
 ·intro vals γ w' ρ hR hN hp hρ hc hf hg;refine ⟨rfl,?_⟩;have e47:ρ (.tmp 47)=_:=(hρ 47).trans (hp 2 (by decide));have hp7:=hp 10 (by decide);have e55:ρ (.tmp 55)=_:=(hρ 55).trans hp7.2;have hk0:=hN.one (k:=1000) (by decide);have hx0:=hR.ext0 (fun m b _ e=>by rw [e.1]; exact hk0);have HK:=Hd hk0;have HO:=Hd (HOB.o.ext hx0);have HK7:=Hd hp7.1;clear hR hN hp hρ hk0 hx0 hp7;go_light;go_simp;have hw:=write3 B S b y m d l (padL m 2) w' HO.o HL.o;refine hw.mono ?_;rintro e1 w3 ⟨rfl,h1,h2⟩;exact ⟨_,rfl,γ.put 1000,LZ.write HK.o h2.os h2.tape h2.output h2.size (fun x hx hm=>h2.block x hx fun e=>hm ⟨rfl,e⟩),LK2.done (by decide) (fun _=>by simp [Gz.put,HK7.o]),by simp [Gz.put],h1⟩
 intro vals γ w9 hR hG;have v0:vals 0=_:=hG 0 (by decide);have v1:vals 1=_:=hG 1 (by decide);have v2:vals 2=_:=hG 2 (by decide);have v3:vals 3=_:=hG 3 (by decide);have v4:vals 4=_:=hG 4 (by decide);have v5:vals 5=_:=hG 5 (by decide);have v6:vals 6=_:=hG 6 (by decide);have v7:vals 7=_:=hG 7 (by decide);have v8:vals 8=_:=hG 8 (by decide);have v9:vals 9=_:=hG 9 (by decide);have v10:vals 10=_:=(hG 10 (by decide)).2;simp only [lexFrame,Act.put,List.setIfInBounds_toArray,List.set_cons_succ,List.set_cons_zero,Nat.zero_add,Nat.reduceAdd,v0,v1,v2,v3,v4,v5,v6,v7,v8,v9,v10];clear v0 v1 v2 v3 v4 v5 v6 v7 v8 v9 v10;obtain ⟨-,ho⟩:=hG 11 (by decide);have HB9:=Hd (hR.buts (S:=S) (fun m b _ hm _=>hm.2));have HO9:=Hd ho;clear hR hG ho
 go_wp2_with fail
 go_end0
 exact ⟨rfl,HO9.o,(ButS.of_ext HX1.o).trans HB9.o⟩
theorem put_D (B:Nat) (S:Nat→Prop) (b y m d:Nat) (l:List UInt8) (w:World) (h:OutS w B S b y m d l) (hSS:∀ x,S x→x<w.heap.size) (hT:Txt w) (hbn:d≤1000000) (hl:l.length+(padL d 2).length≤1000000):Calls Tryz.prog 148 #[.pointer (some ⟨b,0,none⟩),.agg #[.string ⟨#[68,68]⟩,.bool true]] w fun e w'=>e=.returned (.tuple #[])∧OutB w' B b y m d (l++padL d 2)∧ButS S w w':=by
 have HL:=Hd hl;have HSS:=Hd hSS;have HT0:=Hd hT;have HBN:=Hd hbn;have hle:=h.le;have hlt:=hSS b h.at_;obtain ⟨ad,A,c,hb,-⟩:=h.blk;have c0:=hb.cell (i:=0) rfl;have c1:=hb.cell (i:=1) rfl;have c2:=hb.cell (i:=2) rfl;have HO0:=Hd h;clear h hT hl hb hSS hbn
 go_enter Tryz.func148,Tryz.ntmps148
 go_wp2_with fail
 have HX1:=Hd ((Ext.refl w).alloc (.cells #[.string ⟨#[68,68]⟩,.bool true] 190));have D0:=Hd ((Blk.new w 190 #[.string ⟨#[68,68]⟩,.bool true]).cell (i:=0) rfl);have C0:=Hd (HX1.o.cell c0);have C1:=Hd (HX1.o.cell c1);have C2:=Hd (HX1.o.cell c2);have HOB:=Hd (HO0.o.ext HX1.o);have HT:=Hd (HT0.o.ext HX1.o);clear c0 c1 c2;refine wp_region_chain (by kernel_rfl) (fun i=>[i]) (by kernel_rfl) (LZ (fun m x=>m=1000∧S x)) (LZ.refl _) (LZ.trans _) (LK2 [(6,[1001]),(10,[1001]),(11,[1000])]) gz0 (LK2.zero _) ?_;apply Chain.pure (LZ.refl _) (by rfl)
 ·intro vals γ w' ρ hR hN hp hρ hc hf hg;refine ⟨rfl,?_⟩;have e0:=hρ 0;(conv at e0=>rhs; whnf);clear hR hN hp hρ;go_light;go_simp;exact ⟨rfl,rfl⟩
 ·rfl
 apply Chain.pure (LZ.refl _) (by rfl)
 ·intro vals γ w' ρ hR hN hp hρ hc hf hg;refine ⟨rfl,?_⟩;have e4:ρ (.tmp 4)=_:=(hρ 4).trans (hp 0 (by decide));clear hR hN hp hρ;go_light;go_simp;exact ⟨rfl,rfl⟩
 ·rfl
 apply Chain.pure (LZ.refl _) (by rfl)
 ·intro vals γ w' ρ hR hN hp hρ hc hf hg;refine ⟨rfl,?_⟩;have e5:ρ (.tmp 5)=_:=(hρ 5).trans (hp 1 (by decide));clear hR hN hp hρ;go_light;go_simp;exact ⟨rfl,rfl⟩
 ·rfl
 apply Chain.pure (LZ.refl _) (by rfl)
 ·intro vals γ w' ρ hR hN hp hρ hc hf hg;refine ⟨rfl,?_⟩;have e0:=hρ 0;(conv at e0=>rhs; whnf);clear hR hN hp hρ;go_light;go_simp;exact ⟨rfl,rfl⟩
 ·rfl
 apply Chain.pure (LZ.refl _) (by rfl)
 ·intro vals γ w' ρ hR hN hp hρ hc hf hg;refine ⟨rfl,?_⟩;have e7:ρ (.tmp 7)=_:=(hρ 7).trans (hp 3 (by decide));clear hR hN hp hρ;go_light;go_simp;exact ⟨rfl,rfl⟩
 ·rfl
 apply Chain.pure (LZ.refl _) (by rfl)
 ·intro vals γ w' ρ hR hN hp hρ hc hf hg;refine ⟨rfl,?_⟩;have e8:ρ (.tmp 8)=_:=(hρ 8).trans (hp 4 (by decide));clear hR hN hp hρ;go_light;go_simp;exact ⟨rfl,rfl⟩
 ·rfl
 apply Chain.pure (LZ.refl _) (by rfl)
 ·intro vals γ w' ρ hR hN hp hρ hc hf hg;refine ⟨rfl,?_⟩;have e9:ρ (.tmp 9)=_:=(hρ 9).trans (hp 5 (by decide));have hk0:=hN.two (by decide);have hx0:=hR.ext0 (fun m b _ e=>by rw [e.1]; exact hk0);have k0:=hx0.cell C0.o;have k1:=hx0.cell C1.o;have k2:=hx0.cell C2.o;clear hk0 hx0 hR hN hp hρ;go_light;go_simp;exact ⟨rfl,rfl⟩
 ·rfl
 apply Chain.pure (LZ.refl _) (by rfl)
 ·intro vals γ w' ρ hR hN hp hρ hc hf hg;refine ⟨rfl,?_⟩;have e3:=hρ 3;(conv at e3=>rhs; whnf);clear hR hN hp hρ;go_light;go_simp;exact ⟨rfl,rfl⟩
 ·rfl
 apply Chain.pure (LZ.refl _) (by rfl)
 ·intro vals γ w' ρ hR hN hp hρ hc hf hg;refine ⟨rfl,?_⟩;have e11:ρ (.tmp 11)=_:=(hρ 11).trans (hp 7 (by decide));have hx0:=(hR.kept0 (S:=fun x=>x=w.heap.size) (fun b _ hb m hm=>absurd hm.2 (fun e=>by have:=HSS.o b e; omega)));have k3:=hx0.cell2 D0.o rfl;clear hx0 hR hN hp hρ;go_light;go_simp;exact ⟨rfl,rfl⟩
 ·rfl
 apply Chain.pure (LZ.refl _) (by rfl)
 ·intro vals γ w' ρ hR hN hp hρ hc hf hg;refine ⟨rfl,?_⟩;have e12:ρ (.tmp 12)=_:=(hρ 12).trans (hp 8 (by decide));clear hR hN hp hρ;go_light;go_simp;exact ⟨rfl,rfl⟩
 ·rfl
 refine Chain.step (FP fun v γ w'=>γ 1001=true∧v=.string (bsA (padL d 2))) (by rfl) (FP.stab ?_) ?_ ?_
 ·intro v γ w1 γ' w2 rr h;exact ⟨rr.done _ h.1,h.2⟩
 ·intro vals γ w' ρ hR hN hp hρ hc hf hg;refine ⟨rfl,?_⟩;have e10:ρ (.tmp 10)=_:=(hρ 10).trans (hp 6 (by decide));have e13:ρ (.tmp 13)=_:=(hρ 13).trans (hp 9 (by decide));have hk1:=hN.one (k:=1001) (by decide);have hx0:=hR.ext0 (fun m b _ e=>by rw [e.1]; exact hN.two (by decide));have HK:=Hd hk1;have HT2:=Hd (HT.o.ext hx0);clear hR hN hp hρ hk1 hx0;go_light;go_simp;refine (date_padded d 2 HBN.o (by decide) w' HT2.o).mono ?_;rintro e1 w3 ⟨rfl,hx⟩;exact ⟨_,rfl,γ.put 1001,LZ.write HK.o hx.os hx.tape hx.output hx.size (fun x hx' _=>hx.block x hx'),LK2.done (by decide) (fun _=>by simp [Gz.put]),by simp [Gz.put],rfl⟩
 refine Chain.step (FP fun v γ w'=>γ 1000=true∧OutB w' B b y m d (l++padL d 2)) (by rfl) (FP.stab ?_) ?_ ?_
 ·intro v γ w1 γ' w2 rr h;exact ⟨rr.done _ h.1,h.2.kept (rr.keptS fun x _ _ m hm=>by rw [hm.1,h.1,rr.done _ h.1])⟩
 ·intro vals γ w' ρ hR hN hp hρ hc hf hg;refine ⟨rfl,?_⟩;have e6:ρ (.tmp 6)=_:=(hρ 6).trans (hp 2 (by decide));have hp7:=hp 10 (by decide);have e14:ρ (.tmp 14)=_:=(hρ 14).trans hp7.2;have hk0:=hN.one (k:=1000) (by decide);have hx0:=hR.ext0 (fun m b _ e=>by rw [e.1]; exact hk0);have HK:=Hd hk0;have HO:=Hd (HOB.o.ext hx0);have HK7:=Hd hp7.1;clear hR hN hp hρ hk0 hx0 hp7;go_light;go_simp;have hw:=write3 B S b y m d l (padL d 2) w' HO.o HL.o;refine hw.mono ?_;rintro e1 w3 ⟨rfl,h1,h2⟩;exact ⟨_,rfl,γ.put 1000,LZ.write HK.o h2.os h2.tape h2.output h2.size (fun x hx hm=>h2.block x hx fun e=>hm ⟨rfl,e⟩),LK2.done (by decide) (fun _=>by simp [Gz.put,HK7.o]),by simp [Gz.put],h1⟩
 intro vals γ w9 hR hG;have v0:vals 0=_:=hG 0 (by decide);have v1:vals 1=_:=hG 1 (by decide);have v2:vals 2=_:=hG 2 (by decide);have v3:vals 3=_:=hG 3 (by decide);have v4:vals 4=_:=hG 4 (by decide);have v5:vals 5=_:=hG 5 (by decide);have v6:vals 6=_:=hG 6 (by decide);have v7:vals 7=_:=hG 7 (by decide);have v8:vals 8=_:=hG 8 (by decide);have v9:vals 9=_:=hG 9 (by decide);have v10:vals 10=_:=(hG 10 (by decide)).2;simp only [lexFrame,Act.put,List.setIfInBounds_toArray,List.set_cons_succ,List.set_cons_zero,Nat.zero_add,Nat.reduceAdd,v0,v1,v2,v3,v4,v5,v6,v7,v8,v9,v10];clear v0 v1 v2 v3 v4 v5 v6 v7 v8 v9 v10;obtain ⟨-,ho⟩:=hG 11 (by decide);have HB9:=Hd (hR.buts (S:=S) (fun m b _ hm _=>hm.2));have HO9:=Hd ho;clear hR hG ho
 go_wp2_with fail
 go_end0
 exact ⟨rfl,HO9.o,(ButS.of_ext HX1.o).trans HB9.o⟩
end Go.Proofs.YthmckfloppblcaaGreatDoor
namespace Go.Proofs.YthmckfloppblcaaGreatDoor
open Go Go.RowKit Go.Shelf

theorem cellsU8:Tryz.prog.cellsOf 5=1:=by kernel_rfl
theorem ButS.freeze {S:Nat→Prop} {w w':World} (h:ButS S w w') {p:Addr} (hp:S p.block) (n:Nat):ButS S w (w'.freeze p n):=by
 refine h.trans ?_;unfold World.freeze;split
 ·exact ButS.refl _ _
 ·exact ⟨rfl,rfl,rfl,by simp,fun k hk hn=>by
   simp only [Array.getElem?_modify];rw [if_neg (fun e=>hn (by rw [← e]; exact hp))]⟩
theorem string3 (B:Nat) (S:Nat→Prop) (b y m d:Nat) (l:List UInt8) (w:World) (h:OutS w B S b y m d l) (h0:l≠[]):Calls Tryz.prog 101 #[.pointer (some ⟨b,3,none⟩)] w fun e w'=>e=.returned (.string (bsA l))∧ButS S w w':=by
 obtain ⟨⟨ad,A,c,hb,-,hown,hA⟩,hle,-⟩:=h;have hl:0<l.length:=by
  rcases l with _ | ⟨x,t⟩
  ·exact absurd rfl h0
  ·simp
 obtain ⟨g,rfl⟩:=hown.some_ hl;have hgS:S g:=hA g rfl;have HNE:=Hd (show ¬ g=b from fun e=>own_ne hown hb (by decide) (by rw [e]; rfl));obtain ⟨cur,fz,hbg,hg,hnc,hcs,hcm⟩:∃ (cur:Array Value) (fz:Nat × Nat),B≤g∧w.heap[g]?=some (.cells cur 5 fz)∧l.length≤c∧cur.size=c*1∧c≤maxLen:=by
  rcases hown.2 with ⟨_,hz⟩ | ⟨g',cap,cur,hv,r⟩
  ·omega
  ·injection hv with e1 e2 e3;injection e1 with e1;injection e1 with e1;subst e1;subst e3;exact ⟨cur,_,r.1,r.2.1,r.2.2.1,r.2.2.2.2.1,r.2.2.2.1⟩
 have C0:=Hd (show w.cell? ⟨b,4,none⟩=some (.slice (some ⟨g,0,none⟩) l.length c) from hb.cell (i:=4) rfl);have HSD:=Hd (show ∀ w',(Builtin.unsafeSliceData_ #[132] 157 #[.slice (some ⟨g,0,none⟩) l.length c]).run Tryz.prog w'=.ok (.pointer (some ⟨g,0,none⟩)) w' from fun w'=>Lib.run_unsafeSliceData_row _ _ _ _ _ _ (by omega));have HUS:=Hd (show ∀ w',Kept (fun x=>x=g) w w'→(Builtin.unsafeString_ #[157,3] 9 #[.pointer (some ⟨g,0,none⟩),.int .i64 l.length]).run Tryz.prog w'=.ok (.string (bsA l)) (w'.freeze ⟨g,0,none⟩ l.length) from by
  intro w' hk;have hg':w'.heap[g]?=some (.cells cur 5 fz):=(hk.2 g rfl (by rcases Nat.lt_or_ge g w.heap.size with h1 | h1; exact h1; rw [Array.getElem?_eq_none h1] at hg; cases hg)).trans hg;refine Lib.run_unsafeString_row w' 157 3 9 5 Tryz.underlying157 cellsU8 g cur.size (by simp [World.shape?,hg']) l h0 (by omega) (by unfold maxLen at hcm; omega) ?_;intro j x hx;have h1:w'.cell? ⟨g,j,none⟩=some (.int .u8 x.toNat):=(Own.keep hown (hk.mono fun x _ e=>by simp [ob] at e; exact e.symm)).cell_ (by simp [Lib.strCells,bsA,hx]);have h2:(⟨g,0,none⟩:Addr).add j=⟨g,j,none⟩:=by
   unfold Addr.add;by_cases hj:j=0
   ·rw [if_pos hj,hj]
   ·rw [if_neg hj,Nat.zero_add]
  rw [h2];exact h1)
 clear hown hb hg hA hcm hcs hnc hl h0;obtain ⟨z,ez⟩:∃ z,z=bsA l:=⟨_,rfl⟩;obtain ⟨n,en⟩:∃ n,n=l.length:=⟨_,rfl⟩;rw [← ez,← en] at HUS;rw [← en] at HSD C0;rw [← ez];clear ez en
 go_enter Tryz.func101,Tryz.ntmps101
 go_wp2_with fail
 refine wp_region_chain (by kernel_rfl) (fun i=>[i]) (by kernel_rfl) (LZ (fun m x=>m=1000∧x=g)) (LZ.refl _) (LZ.trans _) (LK [(10,[1000])]) gz0 (LK.zero _) ?_;apply Chain.pure (LZ.refl _) (by rfl)
 ·intro vals γ w' ρ hR hN hp hρ hc hf hg;refine ⟨rfl,?_⟩;have e0:=hρ 0;(conv at e0=>rhs; whnf);clear hR hN hp hρ;go_light;go_simp;exact ⟨rfl,rfl⟩
 ·rfl
 apply Chain.pure (LZ.refl _) (by rfl)
 ·intro vals γ w' ρ hR hN hp hρ hc hf hg;refine ⟨rfl,?_⟩;have e3:ρ (.tmp 3)=_:=(hρ 3).trans (hp 0 (by decide));clear hR hN hp hρ;go_light;go_simp;exact ⟨rfl,rfl⟩
 ·rfl
 apply Chain.pure (LZ.refl _) (by rfl)
 ·intro vals γ w' ρ hR hN hp hρ hc hf hg;refine ⟨rfl,?_⟩;have e4:ρ (.tmp 4)=_:=(hρ 4).trans (hp 1 (by decide));clear hR hN hp hρ;go_light;go_simp;exact ⟨rfl,rfl⟩
 ·rfl
 apply Chain.pure (LZ.refl _) (by rfl)
 ·intro vals γ w' ρ hR hN hp hρ hc hf hg;refine ⟨rfl,?_⟩;have e5:ρ (.tmp 5)=_:=(hρ 5).trans (hp 2 (by decide));have hx0:=(hR.kept0 (S:=fun x=>x=b) (fun x _ hb m hm=>absurd (hm.2.symm.trans hb) HNE.o));have k0:=hx0.cell2 C0.o rfl;clear hx0 hR hN hp hρ;go_light;go_simp;exact ⟨rfl,rfl⟩
 ·rfl
 apply Chain.pure (LZ.refl _) (by rfl)
 ·intro vals γ w' ρ hR hN hp hρ hc hf hg;refine ⟨rfl,?_⟩;have e6:ρ (.tmp 6)=_:=(hρ 6).trans (hp 3 (by decide));have hSD:=HSD.o w';clear hR hN hp hρ;go_light;go_simp;exact ⟨rfl,rfl⟩
 ·rfl
 apply Chain.pure (LZ.refl _) (by rfl)
 ·intro vals γ w' ρ hR hN hp hρ hc hf hg;refine ⟨rfl,?_⟩;have e0:=hρ 0;(conv at e0=>rhs; whnf);clear hR hN hp hρ;go_light;go_simp;exact ⟨rfl,rfl⟩
 ·rfl
 apply Chain.pure (LZ.refl _) (by rfl)
 ·intro vals γ w' ρ hR hN hp hρ hc hf hg;refine ⟨rfl,?_⟩;have e8:ρ (.tmp 8)=_:=(hρ 8).trans (hp 5 (by decide));clear hR hN hp hρ;go_light;go_simp;exact ⟨rfl,rfl⟩
 ·rfl
 apply Chain.pure (LZ.refl _) (by rfl)
 ·intro vals γ w' ρ hR hN hp hρ hc hf hg;refine ⟨rfl,?_⟩;have e9:ρ (.tmp 9)=_:=(hρ 9).trans (hp 6 (by decide));clear hR hN hp hρ;go_light;go_simp;exact ⟨rfl,rfl⟩
 ·rfl
 apply Chain.pure (LZ.refl _) (by rfl)
 ·intro vals γ w' ρ hR hN hp hρ hc hf hg;refine ⟨rfl,?_⟩;have e10:ρ (.tmp 10)=_:=(hρ 10).trans (hp 7 (by decide));have hx0:=(hR.kept0 (S:=fun x=>x=b) (fun x _ hb m hm=>absurd (hm.2.symm.trans hb) HNE.o));have k0:=hx0.cell2 C0.o rfl;clear hx0 hR hN hp hρ;go_light;go_simp;exact ⟨rfl,rfl⟩
 ·rfl
 apply Chain.pure (LZ.refl _) (by rfl)
 ·intro vals γ w' ρ hR hN hp hρ hc hf hg;refine ⟨rfl,?_⟩;have e11:ρ (.tmp 11)=_:=(hρ 11).trans (hp 8 (by decide));clear hR hN hp hρ;go_light;go_simp;exact ⟨rfl,rfl⟩
 ·rfl
 refine Chain.step (FP fun v γ w'=>γ 1000=true∧v=.string z) (by rfl) (FP.stab ?_) ?_ ?_
 ·intro v γ w1 γ' w2 rr h;exact ⟨rr.done _ h.1,h.2⟩
 ·intro vals γ w' ρ hR hN hp hρ hc hf hg;refine ⟨rfl,?_⟩;have e7:ρ (.tmp 7)=_:=(hρ 7).trans (hp 4 (by decide));have e12:ρ (.tmp 12)=_:=(hρ 12).trans (hp 9 (by decide));have hk0:=hN.key (k:=1000) (by decide);have hx0:=hR.kept0 (S:=fun x=>x=g) (fun x _ hb m hm=>by rw [hm.1]; exact hk0);have hUS:=HUS.o w' hx0;have HK:=Hd hk0;clear hR hN hp hρ hk0 hx0;go_light;go_simp;refine ⟨γ.put 1000,?_,LK.done (by decide),by simp [Gz.put],rfl⟩;obtain ⟨h1,h2,h3,h4,h5⟩:=(ButS.refl (fun x=>x=g) w').freeze (p:=⟨g,0,none⟩) rfl n;exact LZ.write HK.o h1 h2 h3 h4 (fun x hx hm=>h5 x hx fun e=>hm ⟨rfl,e⟩)
 apply Chain.pure (LZ.refl _) (by rfl)
 ·intro vals γ w' ρ hR hN hp hρ hc hf hg;refine ⟨rfl,?_⟩;have hp7:=hp 10 (by decide);have e13:ρ (.tmp 13)=_:=(hρ 13).trans hp7.2;clear hp7 hR hN hp hρ;go_light;go_simp;exact ⟨rfl,rfl⟩
 ·rfl
 intro vals γ w9 hR hG;have v0:vals 0=_:=hG 0 (by decide);have v1:vals 1=_:=hG 1 (by decide);have v2:vals 2=_:=hG 2 (by decide);have v3:vals 3=_:=hG 3 (by decide);have v4:vals 4=_:=hG 4 (by decide);have v5:vals 5=_:=hG 5 (by decide);have v6:vals 6=_:=hG 6 (by decide);have v7:vals 7=_:=hG 7 (by decide);have v8:vals 8=_:=hG 8 (by decide);have v9:vals 9=_:=hG 9 (by decide);have v10:vals 10=_:=(hG 10 (by decide)).2;have v11:vals 11=_:=hG 11 (by decide);simp only [lexFrame,Act.put,List.setIfInBounds_toArray,List.set_cons_succ,List.set_cons_zero,Nat.zero_add,Nat.reduceAdd,v0,v1,v2,v3,v4,v5,v6,v7,v8,v9,v10,v11];clear v0 v1 v2 v3 v4 v5 v6 v7 v8 v9 v10 v11;have HB9:=Hd (hR.buts (S:=fun x=>x=g) (fun m b _ hm _=>hm.2));clear hR hG
 go_wp2_with fail
 go_ret;exact ⟨rfl,HB9.o.mono fun x _ e=>by rw [e]; exact hgS⟩
end Go.Proofs.YthmckfloppblcaaGreatDoor
namespace Go.Proofs.YthmckfloppblcaaGreatDoor
open Go Go.RowKit Go.Shelf
attribute [local go_sem] Oper.semAt_some

def putT (y m d i:Nat):List UInt8:=if i=0 then padL y 4 else if i=1 then [45] else if i=2 then padL m 2 else if i=3 then [45] else padL d 2
def outL (y m d:Nat):Nat→List UInt8
 | 0=>[]
 | i+1=>outL y m d i++putT y m d i
theorem repeatL_len1 (n:Nat):(Lib.repeatL [48] n).length=n:=by simp [Lib.repeatL_length]
theorem padL_len {n size:Nat} (h:n≤1000000):(padL n size).length≤size+21:=by
 have:=itoa_len n (by omega);unfold padL;rw [List.length_append,repeatL_len1];omega
theorem outL_len {y m d:Nat} (hy:y≤1000000) (hm:m≤1000000) (hd:d≤1000000) (i:Nat) (hi:i≤5):(outL y m d i).length≤25*i∧(putT y m d i).length≤25:=by
 have h1:=padL_len (size:=4) hy;have h2:=padL_len (size:=2) hm;have h3:=padL_len (size:=2) hd;have hp:∀ i,(putT y m d i).length≤25:=by
  intro i;unfold putT;split
  ·omega
  split
  ·decide
  split
  ·omega
  split
  ·decide
  ·omega
 refine ⟨?_,hp i⟩;clear hi
 induction i with
 | zero=>simp [outL]
 | succ i ih =>
  have:=hp i;unfold outL;rw [List.length_append];omega
theorem date_put (i:Nat) (hi:i<5) (B:Nat) (S:Nat→Prop) (b y m d:Nat) (hy:y≤1000000) (hm:m≤1000000) (hd:d≤1000000) (w:World) (h:OutS w B S b y m d (outL y m d i)) (hSS:∀ x,S x→x<w.heap.size) (hT:Txt w) :
  Calls Tryz.prog 148 #[.pointer (some ⟨b,0,none⟩),.agg #[.string (bsA (tokD i).1),.bool (tokD i).2]] w fun e w'=>e=.returned (.tuple #[])∧OutB w' B b y m d (outL y m d (i+1))∧ButS S w w':=by
 have hl:=outL_len hy hm hd i (by omega)
 rcases (show i=0∨i=1∨i=2∨i=3∨i=4 by omega) with rfl | rfl | rfl | rfl | rfl
 ·exact put_Y B S b y m d _ w h hSS hT hy (by have h1:(outL y m d 0).length≤100:=Nat.le_trans hl.1 (by decide); have:=padL_len (size:=4) hy; show (outL y m d 0).length+(padL y 4).length≤1000000; omega)
 ·exact put_lit B S b y m d _ [45] w h hSS hT (by simp; omega)
 ·exact put_M B S b y m d _ w h hSS hT hm (by have h1:(outL y m d 2).length≤100:=Nat.le_trans hl.1 (by decide); have:=padL_len (size:=2) hm; show (outL y m d 2).length+(padL m 2).length≤1000000; omega)
 ·exact put_lit B S b y m d _ [45] w h hSS hT (by simp; omega)
 ·exact put_D B S b y m d _ w h hSS hT hd (by have h1:(outL y m d 4).length≤100:=Nat.le_trans hl.1 (by decide); have:=padL_len (size:=2) hd; show (outL y m d 4).length+(padL d 2).length≤1000000; omega)
theorem Own.calm {W:World} {B e sz n c l:Nat} {A:Option Addr} {xs:List Value} {o o':Obj} (h:Own W B e sz A n c xs) (hl:W.heap[l]?=some o) (ho:o.isCells=false):Own (W.putObj l o') B e sz A n c xs:=by
 rcases h.2 with ⟨hv,hz⟩ | ⟨g,cap,cur,hv,r⟩
 ·exact ⟨h.1,.inl ⟨hv,hz⟩⟩
 ·refine Own.keep h ⟨by simp,fun k hk _=>World.putObj_heap_other (fun e => ?_)⟩;injection hv with e1;rw [e1] at hk;simp [ob] at hk;subst hk;subst e;rw [r.2.1] at hl;injection hl with hl;subst hl;cases ho
theorem OutB.calm {W:World} {B b y m d l:Nat} {t:List UInt8} {o o':Obj} (h:OutB W B b y m d t) (hl:W.heap[l]?=some o) (ho:o.isCells=false):OutB (W.putObj l o') B b y m d t:=by
 obtain ⟨⟨ad,A,c,h1,h2,h3⟩,hle⟩:=h;exact ⟨⟨ad,A,c,h1.calm hl ho,h2,h3.calm hl ho⟩,hle⟩
theorem OutS.calm {W:World} {B b y m d l:Nat} {S:Nat→Prop} {t:List UInt8} {o o':Obj} (h:OutS W B S b y m d t) (hl:W.heap[l]?=some o) (ho:o.isCells=false):OutS (W.putObj l o') B S b y m d t:=by
 obtain ⟨⟨ad,A,c,h1,h2,h3,h4⟩,hle,hat⟩:=h;exact ⟨⟨ad,A,c,h1.calm hl ho,h2,h3.calm hl ho,h4⟩,hle,hat⟩
theorem OutB.off {W:World} {B b y m d p j:Nat} {t:List UInt8} {u u0:Value} (h:OutB W B b y m d t) (hne:b≠p) (hp:Blk W p 9 #[u0]):OutB (W.setCell ⟨p,j,none⟩ u) B b y m d t:=by
 obtain ⟨⟨ad,A,c,h1,h2,h3⟩,hle⟩:=h;exact ⟨⟨ad,A,c,h1.off hne,h2,h3.set (p:=⟨p,j,none⟩) (own_ne h3 hp (by decide)) u⟩,hle⟩
structure FmJ (w:World) (y m d b:Nat) (i:Nat) (W:World):Prop where
 ext:Ext w W
 o:OutB W w.heap.size b y m d (outL y m d i)
 fn:Blk W (b+1) 185 #[.func (.func 148) #[.pointer (some ⟨b,0,none⟩)] #[]]
 str:∃ u,Blk W (b+1+1) 9 #[u]
theorem FmJ.calm (w:World) (y m d b:Nat):Calm w.heap.size (FmJ w y m d b):=by
 intro i W l o o' hB h hl ho;exact ⟨h.ext.putObj hB o',h.o.calm hl ho,h.fn.calm hl ho,h.str.imp fun _ h1=>h1.calm hl ho⟩
theorem FmJ.more {w W W':World} {y m d b i:Nat} (h:FmJ w y m d b i W) (hx:Ext W W'):FmJ w y m d b i W':=⟨h.ext.trans hx,h.o.ext hx,h.fn.keep (hx.kept _),h.str.imp fun _ h1=>h1.keep (hx.kept _)⟩
def FmM (w:World) (y m d b n:Nat) (s z:ByteArray) (f:Bool) (S:Nat→Prop) (N i:Nat) (a:Act) (W:World):Prop:=∃ b7,a = { tmps:=#[.string s,.int .i64 (n:Int),undef,undef,.string ⟨#[]⟩,.bool false,.int .i64 (y:Int),.int .i64 (m:Int),.int .i64 (d:Int),.bool true,.pointer (some ⟨b,0,none⟩),.pointer (some ⟨b+1,0,none⟩),.pointer (some ⟨b7,0,none⟩),.tuple #[.int .i64 (y:Int),.int .i64 (m:Int),.int .i64 (d:Int),.bool true],.int .i64 (n:Int),.tuple #[.int .i64 (y:Int),.int .i64 (m:Int),.int .i64 (d:Int),.bool true],.int .i64 (y:Int),.int .i64 (m:Int),.int .i64 (d:Int),.bool true,.bool true,.bool false,.bool false,.string s,.bool true,.bool false,.bool false,.int .i64 (y:Int),.int .i64 (m:Int),.int .i64 (d:Int),.agg #[.int .i64 (y:Int),.int .i64 (m:Int),.int .i64 (d:Int),.pointer none,.slice none 0 0],.pointer (some ⟨b,0,none⟩),.pointer (some ⟨b,0,none⟩),.func (.func 148) #[.pointer (some ⟨b,0,none⟩)] #[],.string s,.func (.func 176) #[] #[.pointer (some ⟨b+1+1,0,none⟩)],.agg #[.string z,.bool f],undef,undef,undef,undef,undef,undef,undef],defers:=[] }∧Blk W b7 190 #[.string z,.bool f]∧N<b7∧Ext w W∧(∃ u,Blk W (b+1+1) 9 #[u])∧(∀ x,S x→∃ t cs,Blk W x t cs)∧OutS W w.heap.size S b y m d (outL y m d i)∧Blk W (b+1) 185 #[.func (.func 148) #[.pointer (some ⟨b,0,none⟩)] #[]]
theorem yearG_le (n:Nat):∀ (f y:Nat),yearG n f y≤y+f
 | 0,y=>by simp [yearG]
 | f+1,y=>by
  unfold yearG;split
  ·have:=yearG_le n f (y+1);omega
  ·omega
theorem dayG_le (y:Nat):∀ (f m d:Nat),(dayG y f m d).1≤m+f∧(dayG y f m d).2≤d
 | 0,m,d=>by simp [dayG]
 | f+1,m,d=>by
  unfold dayG;split
  ·have:=dayG_le y f (m+1) (d-daysN y m);omega
  ·exact ⟨by simp,by simp⟩
theorem civ_le {n:Nat} (hn:n≤738999):civY n≤1000000∧(civMD n).1≤1000000∧(civMD n).2≤1000000:=by
 have h1:=yearG_le n 9999 (n / 366+1);have h2:=dayG_le (civY n) 12 1 (n-beforeN (civY n)+1);unfold civMD;refine ⟨?_,by omega,by omega⟩;unfold civY;omega
def RetSB (w:World) (s:ByteArray) (ok:Bool) (e:Ending) (w':World):Prop:=e=.returned (.tuple #[.string s,.bool ok])∧Ext w w'
theorem date_Format (n:Nat) (hn:n≤738999) (w:World) (hT:Txt w):Calls Tryz.prog 122 #[.string (bsA (layD 0)),.int .i64 (n:Int)] w (RetSB w (bsA (outL (civY n) (civMD n).1 (civMD n).2 5)) true):=by
 obtain ⟨s,es⟩:∃ s,s=bsA (layD 0):=⟨_,rfl⟩;have hsz:s.size=10:=(by rw [es]; rfl);have HES:=Hd es;have HR:=Hd (show ∀ w',Calls Tryz.prog 147 #[.string s] w' (RetB w' true) from fun w'=>by rw [es]; exact date_right w');rw [← es];clear es;have HT:=Hd hT;have HCV:=Hd (date_Civil n (by omega) w hT.months);obtain ⟨y,ey⟩:∃ y,y=civY n:=⟨_,rfl⟩;obtain ⟨m,em⟩:∃ m,m=(civMD n).1:=⟨_,rfl⟩;obtain ⟨d,ed⟩:∃ d,d=(civMD n).2:=⟨_,rfl⟩;rw [← ey,← em,← ed] at HCV ⊢;have HCB:=Hd (show y≤1000000∧m≤1000000∧d≤1000000 by rw [ey,em,ed]; exact civ_le hn);clear ey em ed hT;refine (callsIn_wide (n:=4)).1 ?_;refine callsIn_of_wp_marks Tryz.func122 rfl trivial ?_ rfl;simp only [Tryz.ntmps122,List.size_toArray,List.length_cons,List.length_nil,Nat.reduceAdd,Nat.reduceSub,Array.replicate_succ,Array.replicate_zero,List.push_toArray,List.append_toArray,List.nil_append,List.cons_append]
 gi_wp2_with (refine ⟨trivial,?_⟩; gi_at_call 146; refine (callsIn_wide.2 HCV.o).mono ?_; rintro e2 w2 ⟨rfl,hx2⟩; have HX2:=Hd hx2; clear hx2)
 refine ⟨trivial,(callsIn_wide.2 (HR.o w2)).mono ?_⟩;rintro e3 w3 ⟨rfl,hx3⟩;have HX3:=Hd hx3;clear hx3
 gi_wp2
 refine ⟨trivial,(callsIn_wide.2 (date_tokens s _)).mono ?_⟩;rintro e4 w4 ⟨rfl,rfl⟩;obtain ⟨wT,hwT⟩:∃ x,x=((w3.alloc (.cells #[.int .i64 (y:Int),.int .i64 (m:Int),.int .i64 (d:Int),.pointer none,.slice none 0 0] 184)).alloc (.cells #[.func (.func 148) #[.pointer (some ⟨w3.heap.size,0,none⟩)] #[]] 185)).alloc (.cells #[.string s] 9):=⟨_,rfl⟩;have hsz3:w.heap.size≤w3.heap.size:=(HX2.o.trans HX3.o).size;obtain ⟨b,eb⟩:∃ b,b=w3.heap.size:=⟨_,rfl⟩;have HJ0:=Hd (show FmJ w y m d b 0 wT from by
  rw [hwT,eb];exact ⟨(((HX2.o.trans HX3.o).alloc _).alloc _).alloc _,⟨⟨.pointer none,none,0,((Blk.new w3 _ _).keep ((((Ext.refl _).alloc _).alloc _).kept _)),.inl rfl,Own.nil _ _ _ _⟩,hsz3⟩,(Blk.newAt (by simp)).keep (((Ext.refl _).alloc _).kept _),_,Blk.newAt (by simp)⟩)
 have HB0:=Hd (show Blk wT (b+1+1) 9 #[.string (bsA (layD 0))] from by
  rw [hwT,← HES.o];exact Blk.newAt (by simp [eb]))
 have hbw:w.heap.size≤b:=by omega
 gi_wp2
 have HWS:=Hd (show wT.heap.size=b+3 by rw [hwT]; simp [eb]);rw [← hwT,← eb];clear hwT eb;refine wpIn_range_on (β:=Nat × Bool) (J:=fun x W=>FmJ w y m d b x.1 W∧(x.2=true→Blk W (b+1+1) 9 #[.string (bsA (layD 0))])) (s0:=(0,true)) (s1:=(5,false)) (Bj:=w.heap.size) rfl (by decide) (gf:=176) (lb:=#[.pointer (some ⟨b+1+1,0,none⟩)]) rfl trivial (enters_of Tryz.func176 (by kernel_rfl) rfl) HJ0.o.ext.size ?calm ?h00 ?hiter ?hdone
 case calm =>
  intro x W l o o' hB h hl ho;exact ⟨FmJ.calm w y m d b x.1 W l o o' hB h.1 hl ho,fun e=>(h.2 e).calm hl ho⟩
 case h00 =>
  intro r;have hx:Ext wT ((wT.alloc (.deferred (some []))).alloc (.loop r)):=((Ext.refl wT).alloc _).alloc _;exact ⟨HJ0.o.more hx,fun _=>HB0.o.keep (hx.kept _)⟩
 case hiter =>
  rintro fn W hfn ⟨hj,hb⟩ hr;have hwT:=HJ0.o.ext.size;have hbb:=(hb rfl).lt;refine (tokens_iterS 3 (by decide) (wT.heap.size+1) (b+1+1) (fun i W'=>FmJ w y m d b i W'∧Rdy _ (wT.heap.size+1) wT.heap.size W') W ?js ?jx ?round ⟨hj,hr⟩ (hb rfl)).mono ?_
  case js =>
   rintro i W1 u ⟨h1,h2⟩;obtain ⟨u0,hu⟩:=h1.str;exact ⟨⟨h1.ext.set2 (by omega) u,h1.o.off (by omega) hu,h1.fn.off (by omega),_,hu.set 0 u⟩,h2.others (KeepsOthers.setCell _ _ _)⟩
  case jx =>
   rintro i W1 W2 ⟨h1,h2⟩ hx;exact ⟨h1.more hx,h2.ext hx⟩
  case round =>
   rintro i W1 hi ⟨h1,h2⟩ hs hbs;obtain ⟨S,hS,hSr,hSt,hSc⟩:=h1.o.toS;obtain ⟨z,ez⟩:∃ z,z=bsA (tokD i).1:=⟨_,rfl⟩;obtain ⟨f,ef⟩:∃ f,f=(tokD i).2:=⟨_,rfl⟩;have HP:=Hd (show ∀ W',OutS W' w.heap.size S b y m d (outL y m d i)→(∀ x,S x→x<W'.heap.size)→Txt W'→Calls Tryz.prog 148 #[.pointer (some ⟨b,0,none⟩),.agg #[.string z,.bool f]] W' fun e w'=>e=.returned (.tuple #[])∧OutB w' w.heap.size b y m d (outL y m d (i+1))∧ButS S W' w' from fun W' g1 g2 g3=>by rw [ez,ef]; exact date_put i hi _ S b y m d HCB.o.1 HCB.o.2.1 HCB.o.2.2 W' g1 g2 g3);rw [← ez,← ef];clear ez ef;refine YieldAt.mono (yield_on (m:=3-1) (args:=#[.agg #[.string z,.bool f]]) (J:=FmJ w y m d b) (s':=i+1) (Fp:=S) (Mid:=FmM w y m d b n s z f S W1.heap.size i) (Bj:=w.heap.size) hfn (h2.ext ((Ext.refl W1).alloc _)) rfl (by omega) ?_ (FmJ.calm w y m d b) ?_ ?_) (fun e W' h=>⟨h.1,⟨h.2.1,h.2.2.2⟩,S,h.2.2.1,fun hx => ?_,fun hx => ?_⟩)
   ·rintro a W2 o o' ⟨b7,e,m1,m2,m3,m6,m7,m4,m5⟩ hl ho;exact ⟨b7,e,m1.calm hl ho,m2,⟨m3.os,m3.tape,m3.output,by simp only [World.putObj_size]; exact m3.size,fun k hk=>by rw [World.putObj_heap_other (by omega)]; exact m3.block k hk⟩,m6.imp fun _ h1=>h1.calm hl ho,fun x hx=>(m7 x hx).imp fun _ h1=>h1.imp fun _ h2=>h2.calm hl ho,m4.calm hl ho,m5.calm hl ho⟩
   ·have hx1:=((Ext.refl W1).alloc (.cells #[.string z,.bool f] 190)).alloc (.cells #[.string z,.bool f] 190)
    gi_wp2
    exact ⟨⟨_,rfl,Blk.newAt (by simp),by simp,h1.ext.trans hx1,h1.str.imp fun _ h3=>h3.keep (hx1.kept _),fun x hx=>(hSc x hx).imp fun _ h3=>h3.imp fun _ h4=>h4.keep (hx1.kept _),hS.ext hx1,h1.fn.keep (hx1.kept _)⟩,KeepsOthers.alloc _ _,ButS.of_ext ((Ext.refl _).alloc _)⟩
   ·rintro a W2 ⟨b7,rfl,m1,m2,m3,⟨u6,m6⟩,m7,m4,m5⟩;have hSl:∀ x,S x→x<W2.heap.size:=fun x hx=>by have h3:=(hSr x hx).2; have h4:=m1.lt; omega
    have HPW:=Hd (HP.o W2 m4 hSl (HT.o.ext m3));have c0:=m1.cell (i:=0) rfl;have c1:=m1.cell (i:=1) rfl;have c2:=m5.cell (i:=0) rfl;have l1:=m1.lt;have l2:=m5.lt;clear hSl
    gi_wp2_with (refine ⟨trivial,?_⟩; gi_at_call 148; refine (CallsIn.inRound _ (callsIn_wide.2 HPW.o)).mono ?_; rintro e2 w2 ⟨rfl,ho2,hb2⟩)
    refine ⟨⟨hb2.size,fun k o hk ho => ?_⟩,⟨ButS.exts m3 hb2 (fun x hx=>(hSr x hx).1),ho2,hb2.blk m5 (fun hx => ?_),u6,hb2.blk m6 (fun hx => ?_)⟩⟩
    ·refine (hb2.block k (Array.getElem?_eq_some_iff.1 hk).1 fun hx => ?_).trans hk;obtain ⟨t,cs,h5⟩:=m7 k hx;unfold Blk at h5;rw [h5] at hk;injection hk with hk;subst hk;cases ho
    ·rcases hSt _ _ _ hx h1.fn with e | e <;> exact absurd e (by decide)
    ·rcases hSt _ _ _ hx hbs with e | e <;> exact absurd e (by decide)
   ·rcases hSt _ _ _ hx hbs with e | e <;> exact absurd e (by decide)
   ·have:=(hSr _ hx).2;omega
  ·rintro e W' ⟨hv,hj5,hr5⟩;exact ⟨hv,⟨hj5,fun h=>by cases h⟩,hr5⟩
 case hdone =>
  rintro W ⟨hj,-⟩ hd;obtain ⟨S,hS,hSr,hSt,hSc⟩:=hj.o.toS;have HS:=Hd (string3 w.heap.size S b y m d (outL y m d 5) W hS (by simp [outL,putT]))
  gi_wp2_with (refine ⟨trivial,?_⟩; gi_at_call 101; refine (callsIn_wide.2 HS.o).mono ?_; rintro e2 w2 ⟨rfl,hb2⟩)
  have hK:w2.heap[wT.heap.size]?=some (.deferred (some [])):=(hb2.block _ (Array.getElem?_eq_some_iff.1 hd).1 fun hx=>by
   obtain ⟨t,cs,h5⟩:=hSc _ hx;unfold Blk at h5;rw [h5] at hd;cases hd).trans hd
  refine ⟨by simp,.inl ⟨_,_,rfl,run_takeDeferred hK,?_⟩⟩;refine ⟨.tuple #[.string (bsA (outL y m d 5)),.bool true],?_,rfl,(ButS.exts hj.ext hb2 (fun x hx=>(hSr x hx).1)).putObj HJ0.o.ext.size (.deferred none)⟩;simp [results,Tryz.results122,go_sem]
end Go.Proofs.YthmckfloppblcaaGreatDoor
