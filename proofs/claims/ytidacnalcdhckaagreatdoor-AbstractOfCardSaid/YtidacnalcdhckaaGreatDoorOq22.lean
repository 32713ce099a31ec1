/- Lemmas. No conditions. -/
import Derived.Test.YtidacnalcdhckaaGreatDoorOq21
import Derived.RangeFuncOwn
set_option maxRecDepth 100000
set_option maxHeartbeats 4000000
namespace Go.Proofs.YtidacnalcdhckaaGreatDoor
open Go Go.RowKit Go.Shelf Tryz
variable {qP:Prop}
attribute [local go_sem] Oper.semAt_some

abbrev EBA(fn D id:Nat)(tmps:Array Value)(ps:Array Tmp)(assign body:Code)(go:Bool):Loop:={ state:=if go then .ready else .done,pending:=if go then none else some (.exit id),fn:=fn,tmps:=tmps,params:=ps,assign:=assign,body:=body,defers:=D }
section
variable {F:Fence}{n:Nat}{P:Program}
theorem Ye{JJ:World→Prop}{Mid:Act→World→Prop}{l D fn m id:Nat}{tmps:Array Value}{ps:Array Tmp}{assign body:Code}{args:Array Value}{W:World}{go:Bool}(hfn:F.fn fn)
  (hr:Rdy (EBA fn D id tmps ps assign body true) l D W) (hps:args.size=ps.size)
  (hmid:∀ (a:Act) (W:World) (o o':Obj),Mid a W→W.heap[l]?=some o→o.isCells=false→Mid a (W.putObj l o')) (hJ:∀ (W:World) (o o':Obj),JJ W→W.heap[l]?=some o→o.isCells=false→JJ (W.putObj l o'))
  (hassign:assign.wpIn (F.inRound l) m P (Exit.then (fun a₁ W₁=>Mid a₁ W₁∧KeepsOthers W W₁) (fun _ _ _=>False)) { tmps:=(ps.zip args).foldl (fun t (p,v)=>t.setIfInBounds p v) tmps,defers:=[] } W)
  (hbody:∀ (a₁:Act) (W₁:World),Mid a₁ W₁→body.wpIn (F.inRound l) m P (fun e _ W₃=>e=(if go then .normal else .exit id)∧KeepsOthers W₁ W₃∧JJ W₃) a₁ W₁) :
  YieldAt F m P l args W fun e W'=>e=.returned (.bool go)∧JJ W'∧Rdy (EBA fn D id tmps ps assign body go) l D W':=by
 obtain ⟨hl,hk,hDl⟩:=hr;refine ⟨fn,_,assign,body,run_yield hl hps,roundIn_of_wpIn hfn (wpIn_mono hassign ?_)⟩;intro e a W1 hp;cases e with
 |normal =>
  obtain ⟨hm,hk1⟩:=hp;have hl1:=hk1.same _ _ hl rfl;have hd1:=hk1.same _ _ hk rfl;refine ⟨_,run_beginRound hl1 rfl,wpIn_mono (hbody a _ (hmid a W1 _ _ hm hl1 rfl)) ?_⟩;rintro e3 a3 W3 ⟨he,hk3,hj3⟩;have hlt:l<W1.heap.size:=(Array.getElem?_eq_some_iff.1 hl1).1;have hl3:=hk3.same l _ (World.putObj_heap_same hlt) rfl;have hd3:=hk3.same D _ ((World.putObj_heap_other AA).trans hd1) rfl;have hlt3:l<W3.heap.size:=(Array.getElem?_eq_some_iff.1 hl3).1;cases go with
  |true =>
   simp only [if_true] at he;subst he;exact ⟨_,_,run_endRound none hl3,rfl,hJ W3 _ _ hj3 hl3 rfl,World.putObj_heap_same hlt3,(World.putObj_heap_other AA).trans hd3,hDl⟩
  |false =>
   simp only [Bool.false_eq_true,if_false] at he;subst he;exact ⟨_,_,run_endRound (some (.exit id)) hl3,rfl,hJ W3 _ _ hj3 hl3 rfl,World.putObj_heap_same hlt3,(World.putObj_heap_other AA).trans hd3,hDl⟩
 |ret=>exact hp.elim
 |exit id=>exact hp.elim
 |goto t=>exact hp.elim
 |panic c=>exact hp.elim
 |outgrown=>exact hp.elim
theorem V4{J0 J1 Jx:World→Prop}{g:Operand}{ps:Array Tmp}{assign body:Code}{Q:Exit→Act→World→Prop}{a:Act}{w:World}(id:Nat)
  (hro:F.round=none) (h1:1≤n) {gf:Nat} {lb:Array Value} (hg:a.eval g=.func (.func gf) #[] lb) (hFg:F.fn gf) (eg:∀ args w,(callFunc gf args).run P w=.ok (.enter gf args) w)
  (hJ1:∀ (W:World) (o o':Obj),J1 W→W.heap[w.heap.size+1]?=some o→o.isCells=false→J1 (W.putObj (w.heap.size+1) o')) (hJx:∀ (W:World) (o o':Obj),Jx W→W.heap[w.heap.size+1]?=some o→o.isCells=false→Jx (W.putObj (w.heap.size+1) o'))
  (h00:∀ r:Loop,J0 ((w.alloc (.deferred (some []))).alloc (.loop r)))
  (hiter:∀ (fn:Nat) (r:Bool→Loop) (W:World),F.fn fn→r=EBA fn w.heap.size id a.tmps ps assign body→J0 W→Rdy (r true) (w.heap.size+1) w.heap.size W →
   CallsIn F (n-1) P gf (#[.func (.yield (w.heap.size+1)) #[] #[]]++lb) W fun e W'=>(∃ v,e=.returned v)∧((J1 W'∧Rdy (r true) (w.heap.size+1) w.heap.size W')∨(Jx W'∧Rdy (r false) (w.heap.size+1) w.heap.size W')))
  (hdone:∀ (W:World),J1 W→W.heap[w.heap.size]?=some (.deferred (some []))→Q .normal { a with defers:={ target:=.collected w.heap.size,args:=#[] }::a.defers } W)
  (hstop:∀ (W:World),Jx W→W.heap[w.heap.size]?=some (.deferred (some []))→(Code.exit id).wpIn F n P Q { a with defers:={ target:=.collected w.heap.size,args:=#[] }::a.defers } W) :
  (Code.rangeFunc g ps assign body).wpIn F n P Q a w:=by
 refine wpIn_rangeFunc ?_;intro fn hfn;rw [hro];obtain ⟨W1,hW1⟩:=eqx ((w.alloc (.deferred (some []))).alloc (.loop { state:=.ready,pending:=none,fn:=fn,tmps:=a.tmps,params:=ps,assign:=assign,body:=body,defers:=w.heap.size }));have hL1:W1.heap[w.heap.size+1]?=some (.loop { state:=.ready,pending:=none,fn:=fn,tmps:=a.tmps,params:=ps,assign:=assign,body:=body,defers:=w.heap.size }):=by
  have:=World.alloc_heap_new (w.alloc (.deferred (some []))) (.loop { state:=.ready,pending:=none,fn:=fn,tmps:=a.tmps,params:=ps,assign:=assign,body:=body,defers:=w.heap.size });rw [hW1];rwa [World.size_alloc] at this
 have hK1:W1.heap[w.heap.size]?=some (.deferred (some [])):=by
  rw [hW1];exact (Below.heap_alloc _ _ _ AC).trans (World.alloc_heap_new w _)
 refine ⟨w.heap.size+1,[{ target:=.collected w.heap.size,args:=#[] }],W1,{ target:=.fn (.func gf) lb,args:=#[.func (.yield (w.heap.size+1)) #[] #[]] },W1,gf,#[.func (.yield (w.heap.size+1)) #[] #[]]++lb,W1,by rw [hW1];exact run_enterLoop_outer _ _ _ _ _,?_,?_,?_,fun _=>h1,?_⟩
 ·simp only [resolve,hg];simp [go_sem]
 ·intro f' hf';simp [Target.leads] at hf';subst hf';exact hFg
 ·simp [invoke,go_sem,eg]
 ·refine (hiter fn _ W1 hfn rfl (by rw [hW1];exact h00 _) ⟨hL1,hK1,AA⟩).mono ?_;rintro e W2 ⟨⟨v,rfl⟩,⟨hj,hl,hk,hDl⟩|⟨hj,hl,hk,hDl⟩⟩
  ·exact ⟨none,_,run_endLoop hl AC,hdone _ (hJ1 _ _ _ hj hl rfl) ((World.putObj_heap_other AA).trans hk)⟩
  ·exact ⟨some (.exit id),_,run_endLoop hl AC,hstop _ (hJx _ _ _ hj hl rfl) ((World.putObj_heap_other AA).trans hk)⟩
end
theorem Ya(a b:BA)(back:Bool)(w:World):Cl 205 #[.string a,.string b,.bool back] w (fun e w'=>e=.returned (.func (.func 237) #[] #[.pointer (some ⟨w.heap.size,0,none⟩),.pointer (some ⟨w.heap.size+1,0,none⟩),.pointer (some ⟨w.heap.size+2,0,none⟩)])∧w'=((w.alloc (.cells #[.string a] 9)).alloc (.cells #[.string b] 9)).alloc (.cells #[.bool back] 4)):=by
 go_enter func205,ntmps205
 exact Ea
theorem Kept.putObjY(W:World)(l:Nat)(o:Obj):Kept (fun b=>b≠l) W (W.putObj l o):=⟨by simp [World.putObj_size],fun b hb _=>World.putObj_heap_other hb⟩
def dL(back:Bool)(s:BA):List UInt8:=if back then s.data.toList.reverse else s.data.toList
def Vu(a b:BA)(back:Bool)(k:Nat):Bool:=decide ((dL back a)[k]?=(dL back b)[k]?)
def Mi(a b:BA)(back:Bool):Nat:=if back then (Hv a.data.toList b.data.toList).length else (ES a.data.toList b.data.toList).length
theorem Oz(h:qP:=by
 rcases h4 with h|h|h
 ·exact .inl h
 ·exact .inr (.inl h)
 ·exact .inr (.inr (by simpa [Vu,dL] using h))):qP:=h
theorem WW(a b:BA)(back:Bool)(n:Nat)(h1:n≤a.size)(h2:n≤b.size)(h3:∀ j,j<n→Vu a b back j=true)(h4:n=a.size∨n=b.size∨Vu a b back n=false):Mi a b back=n:=by
 have la:a.data.toList.length=a.size:=rfl;have lb:b.data.toList.length=b.size:=rfl;cases back with
 |false =>
  have h:=GF a.data.toList b.data.toList n h1 h2 (fun j hj=>by have:=h3 j hj;simpa [Vu,dL] using this) (by
   exact Oz)
  unfold Mi;rw [if_neg AC,h,List.length_take];omega
 |true =>
  have h:=J6 a.data.toList b.data.toList n h1 h2 (fun j hj=>by have:=h3 j hj;simpa [Vu,dL] using this) (by
   exact Oz)
  unfold Mi;rw [if_pos rfl,h,List.length_drop];omega
theorem FhA{back:Bool}{s:BA}{k p:Nat}(hp:p<s.size)(h:KT back s.size k p):(dL back s)[k]?=some s[p]:=by
 cases back with
 |false =>
  have e:p=k:=(by simpa [KT] using h);subst e;exact Nj hp
 |true =>
  have e:p+k+1=s.size:=(by simpa [KT] using h);exact O7 e
theorem FVA{back:Bool}{a b:BA}{k p q:Nat}(hp:p<a.size)(hq:q<b.size)(h1:KT back a.size k p)(h2:KT back b.size k q):Vu a b back k=((a[p].toNat:Int)==(b[q].toNat:Int)):=by
 unfold Vu;rw [FhA hp h1,FhA hq h2,Mt];simp
structure CoJ(w w1:World)(g:Nat)(a b:BA)(back:Bool)(k:Nat)(W:World):Prop where
 ext:Ext w W
 o:Blk W g 3 #[.I (k:Int)]
 kept:Kept (fun x=>g<x∧x<w1.heap.size) w1 W
 all:∀ j,j<k→Vu a b back j=true
theorem CoJ.more{w w1 W W':World}{g k:Nat}{a b:BA}{back:Bool}(h:CoJ w w1 g a b back k W)(hx:Ext W W'):CoJ w w1 g a b back k W' :=
 ⟨h.ext.trans hx,h.o.keep (hx.kept _),h.kept.trans (hx.kept _),h.all⟩
theorem CoJ.calm{w w1 W:World}{g k l:Nat}{a b:BA}{back:Bool}(h:CoJ w w1 g a b back k W)(hw:w.heap.size≤l)(hl:w1.heap.size≤l){o o':Obj}(ho:W.heap[l]?=some o)(hc:o.isCells=false):CoJ w w1 g a b back k (W.putObj l o') :=
 ⟨h.ext.putObj hw o',h.o.calm ho hc,h.kept.trans ((Kept.putObjY W l o').mono fun b _ hb=>AA),h.all⟩
theorem ML(h:qP:=by
 intro W o o' h hl ho;exact h.calm (by have:=HS1.o;omega) (by omega) hl ho):qP:=h
theorem PI(h:qP:=by
 rintro A W o o' ⟨e,h⟩ hl ho;exact ⟨e,h.calm (by have:=HS1.o;omega) (by omega) hl ho⟩):qP:=h
theorem VG(h:qP:=by
 rintro e9 W9 ⟨he,hj9,hr9⟩;rw [hs];exact ⟨he,⟨hj9,hr9⟩⟩):qP:=h
theorem NL(a b:BA)(back:Bool)(ha:a.size≤4294967296)(hb:b.size≤4294967296)(w:World):Cl 154 #[.string a,.string b,.bool back] w (fun e w'=>e=.returned (.I (Mi a b back:Nat))∧Ext w w'):=by
 refine (callsIn_wide (n:=4)).1 ?_;refine callsIn_of_wp_marks func154 rfl trivial ?_ rfl;simp only [ntmps154,List.size_toArray,List.length_cons,List.length_nil,Nat.reduceAdd,Nat.reduceSub,Array.replicate_succ,Array.replicate_zero,List.push_toArray,List.append_toArray,List.nil_append,List.cons_append]
 gi_wp2
 refine ⟨trivial,(callsIn_wide.2 (Ya a b back _)).mono ?_⟩;rintro e1 w1 ⟨rfl,hw1⟩;have hsz:(w.alloc (.cells #[.I 0] 3)).heap.size=w.heap.size+1:=AC;simp only [hsz];obtain ⟨HJ0,HS1,HB1,HB2,HB3⟩:=Hd5 (show CoJ w w1 w.heap.size a b back 0 w1 from ⟨by rw [hw1];exact (excc w).alloc _,by rw [hw1];exact (Blk.new w _ _).keep ((excc _).kept _),Kept.refl _ _,fun j hj=>AA⟩) (show w1.heap.size=w.heap.size+4 by rw [hw1];simp) (show Blk w1 (w.heap.size+1) 9 #[.string a] by rw [hw1];exact (IOA AC).keep ((exbb _).kept _)) (show Blk w1 (w.heap.size+2) 9 #[.string b] by rw [hw1];exact (IOA AC).keep ((exaa _).kept _)) (show Blk w1 (w.heap.size+3) 4 #[.bool back] by rw [hw1];exact IOA AC);clear hw1 hsz
 gi_wp2
 refine V4 0 (J0:=CoJ w w1 w.heap.size a b back 0) (J1:=CoJ w w1 w.heap.size a b back (min a.size b.size)) (Jx:=fun W=>∃ k,k<min a.size b.size∧Vu a b back k=false∧CoJ w w1 w.heap.size a b back k W) rfl AB (gf:=237) rfl trivial (enters_of func237 AD rfl) ?c1 ?cx ?h00 ?hiter ?hdone ?hstop
 case c1 =>
  exact ML
 case cx =>
  rintro W o o' ⟨k,h1,h2,h⟩ hl ho;exact ⟨k,h1,h2,h.calm (by have:=HS1.o;omega) AA hl ho⟩
 case h00 =>
  intro r;exact HJ0.o.more (exbb w1)
 case hdone =>
  intro W hj hd;have HJ:=Hd hj;have c0:=hj.o.q0;have z0:=hj.o.lt;clear hj
  gi_wp2
  refine ⟨AC,.inl ⟨_,_,rfl,run_takeDeferred hd,?_⟩⟩;refine ⟨.I (min a.size b.size:Nat),by simp [results,results154,go_sem],?_⟩;refine ⟨?_,HJ.o.ext.putObj (by have:=HS1.o;omega) _⟩;rw [WW a b back (min a.size b.size) AA AA HJ.o.all AA]
 case hstop =>
  rintro W ⟨k,h1,h2,hj⟩ hd;have HJ:=Hd hj;have c0:=hj.o.q0;have z0:=hj.o.lt;clear hj
  gi_wp2
  refine ⟨AC,.inl ⟨_,_,rfl,run_takeDeferred hd,?_⟩⟩;refine ⟨.I (k:Nat),by simp [results,results154,go_sem],?_⟩;refine ⟨?_,HJ.o.ext.putObj (by have:=HS1.o;omega) _⟩;rw [WW a b back k AA AA HJ.o.all (.inr (.inr h2))]
 case hiter =>
  rintro fn r W hfn er hj0 hr0;refine (BeA 3 AB (w1.heap.size+1) (w.heap.size+1) (w.heap.size+1+1) (w.heap.size+1+2) w1 W (fun x=>w.heap.size<x∧x<w1.heap.size) a b back ha hb ?hT (HB1.o.q0) (HB2.o.q0) (HB3.o.q0) (Vu a b back)
   (fun k W=>CoJ w w1 w.heap.size a b back k W∧Rdy (r true) (w1.heap.size+1) w1.heap.size W) (fun k W=>CoJ w w1 w.heap.size a b back k W∧Rdy (r false) (w1.heap.size+1) w1.heap.size W) ?jx ?jk ?jxk ?round ⟨hj0,hr0⟩).mono ?fin
  case hT=>have:=HS1.o;omega
  case jx =>
   rintro k W1 W2 ⟨h,hr⟩ hx;exact ⟨h.more hx,hr.ext hx⟩
  case jk=>exact fun k W1 h=>h.1.kept
  case jxk=>exact fun k W1 h=>h.1.kept
  case fin =>
   rintro e8 W8 ⟨hv,⟨hj8,hr8⟩|⟨k,hk,hak,hj8,hr8⟩⟩
   ·exact ⟨hv,.inl ⟨hj8,hr8⟩⟩
   ·exact ⟨hv,.inr ⟨⟨k,hk,hak,hj8⟩,hr8⟩⟩
  case round =>
   rintro k W1 p q hp hq ⟨hj,hr⟩ h1 h2;subst er;have HJ:=Hd hj;have HKL:=Hd (show k<a.size∧k<b.size by
    unfold KT at h1 h2;split at h1<;>split at h2<;>first | omega | contradiction)
   have hs:=FVA hp hq h1 h2;clear hj h1 h2;cases hc:((a[p].toNat:Int)==(b[q].toNat:Int)) with
   |true =>
     rw [hc] at hs;refine YieldAt.mono (Ye (m:=3-1) (id:=0) (go:=true) (JJ:=CoJ w w1 w.heap.size a b back (k+1)) (Mid:=fun A W=>A = { tmps:=#[.string a,.string b,.bool back,undef,undef,undef,.I 0,.pointer (some ⟨w.heap.size,0,none⟩),.int .u8 (a[p].toNat:Int),.int .u8 (b[q].toNat:Int),.string a,.string b,.bool back,.func (.func 237) #[] #[.pointer (some ⟨w.heap.size+1,0,none⟩),.pointer (some ⟨w.heap.size+1+1,0,none⟩),.pointer (some ⟨w.heap.size+1+2,0,none⟩)],.int .u8 (a[p].toNat:Int),.int .u8 (b[q].toNat:Int),undef,undef,undef,undef,undef,undef],defers:=[] }∧CoJ w w1 w.heap.size a b back k W) hfn hr rfl ?mid ?calm2 ?assign ?body) ?post
     case mid =>
      exact PI
     case calm2 =>
      exact ML
     case post =>
      exact VG
     case assign =>
      gi_wp2
      exact ⟨HJ.o,(Ext.refl _).others⟩
     case body =>
      rintro A W2 ⟨rfl,hj2⟩;have HJ2:=Hd hj2;have q0:=hj2.o.q0;have qf:=hj2.o.frozen;have ql:=hj2.o.lt;have hak:k<a.size∧k<b.size:=HKL.o;clear hj2
      gi_wp2
      have hxt:Ext w (W2.setCell ⟨w.heap.size,0,none⟩ (.I ((k:Int)+1))):=HJ2.o.ext.set2 (Al) _;refine ⟨KeepsOthers.setCell _ _ _,hxt,?_,HJ2.o.kept.trans (Kept.set2 (Kept.refl _ _) fun h=>AA),fun j hj => ?_⟩
      ·exact HJ2.o.o.set 0 _
      ·by_cases hjk:j=k
       ·subst hjk;exact hs
       ·exact HJ2.o.all j AA
   |false =>
     rw [hc] at hs;refine YieldAt.mono (Ye (m:=3-1) (id:=0) (go:=false) (JJ:=CoJ w w1 w.heap.size a b back k) (Mid:=fun A W=>A = { tmps:=#[.string a,.string b,.bool back,undef,undef,undef,.I 0,.pointer (some ⟨w.heap.size,0,none⟩),.int .u8 (a[p].toNat:Int),.int .u8 (b[q].toNat:Int),.string a,.string b,.bool back,.func (.func 237) #[] #[.pointer (some ⟨w.heap.size+1,0,none⟩),.pointer (some ⟨w.heap.size+1+1,0,none⟩),.pointer (some ⟨w.heap.size+1+2,0,none⟩)],.int .u8 (a[p].toNat:Int),.int .u8 (b[q].toNat:Int),undef,undef,undef,undef,undef,undef],defers:=[] }∧CoJ w w1 w.heap.size a b back k W) hfn hr rfl ?mid ?calm2 ?assign ?body) ?post
     case mid =>
      exact PI
     case calm2 =>
      exact ML
     case post =>
      exact VG
     case assign =>
      gi_wp2
      exact ⟨HJ.o,(Ext.refl _).others⟩
     case body =>
      rintro A W2 ⟨rfl,hj2⟩;have HJ2:=Hd hj2;have q0:=hj2.o.q0;have qf:=hj2.o.frozen;have ql:=hj2.o.lt;have hak:k<a.size∧k<b.size:=HKL.o;clear hj2
      gi_wp2
      exact ⟨(Ext.refl _).others,HJ2.o⟩

theorem EqA(a b:BA):a.extract 0 (Mi a b false)=bA (ES a.data.toList b.data.toList):=by
 rw [F8];unfold Mi;rw [if_neg AC,←List.prefix_iff_eq_take.1 (FK _ _)]
theorem AHA(a b:BA):Mi a b false≤a.size:=by
 unfold Mi;rw [if_neg AC];exact (FK _ _).length_le
theorem EoA(a b:BA):a.extract (a.size-Mi a b true) a.size=bA (Hv a.data.toList b.data.toList):=by
 rw [Et];unfold Mi;rw [if_pos rfl];congr 1;exact (List.suffix_iff_eq_drop.1 (J8 _ _)).symm
theorem AaA(a b:BA):Mi a b true≤a.size:=by
 unfold Mi;rw [if_pos rfl];exact (J8 _ _).length_le
theorem JI(h:qP:=by
 iterate 5 with_reducible refine Ext.set2 ?_ HG4.o _
 with_reducible exact HX3.o):qP:=h
theorem Ij(h:qP:=by simp [results,results81,go_sem,r0,r1,r2,r3,r4]):qP:=h
theorem SD(a b:Sh)(h1:a.b.size≤1000000000)(h2:a.e.size≤1000000000)(h3:b.b.size≤1000000000)(h4:b.e.size≤1000000000)(w:World):Cl 81 #[(Sq a),(Sq b)] w (G0 w (BW a b)):=by
 obtain ⟨w0,hw0⟩:=eqx (((w.alloc (.cells (Sp a) 32)).alloc (.cells (Sp b) 32)).alloc (.cells #[.I 0,.I 0,.I 0,.string ⟨#[]⟩,.string ⟨#[]⟩] 32));have hx0:Ext w w0:=CC;have hb2:Blk w0 w.heap.size 32 (Sp a):=FH;have hb3:Blk w0 (w.heap.size+1) 32 (Sp b):=Fc;have hb4:Blk w0 (w.heap.size+2) 32 #[.I 0,.I 0,.I 0,.string ⟨#[]⟩,.string ⟨#[]⟩]:=GP;obtain ⟨g2,hg2⟩:=eqx w.heap.size;obtain ⟨g3,hg3⟩:=eqx (w.heap.size+1);obtain ⟨g4,hg4⟩:=eqx (w.heap.size+2);rw [←hg2] at hb2;rw [←hg3] at hb3;rw [←hg4] at hb4;have HG4:=Hd (show w.heap.size≤g4 by omega);obtain ⟨la,hla⟩:=eqx (AQ a);obtain ⟨lb,hlb⟩:=eqx (AQ b);obtain ⟨ma,hma⟩:=eqx (BE a);obtain ⟨mb,hmb⟩:=eqx (BE b);obtain ⟨cc,hcc⟩:=eqx (bits .or .i64 (BL a) (BL b));obtain ⟨sp,hsp⟩:=eqx (bA (ES a.B b.B));obtain ⟨ss,hss⟩:=eqx (bA (Hv a.E b.E));obtain ⟨HLA,HLB,HMA,HMB⟩:=Hd4 (show ∀ w',Cl 151 #[(Sq a)] w' (DG w' la) from fun w'=>by rw [hla];exact Df a w') (show ∀ w',Cl 151 #[(Sq b)] w' (DG w' lb) from fun w'=>by rw [hlb];exact Df b w') (show ∀ w',Cl 152 #[(Sq a)] w' (DG w' ma) from fun w'=>by rw [hma];exact Ed a w') (show ∀ w',Cl 152 #[(Sq b)] w' (DG w' mb) from fun w'=>by rw [hmb];exact Ed b w');obtain ⟨oa,hoa⟩:=eqx (BL a);obtain ⟨ob,hob⟩:=eqx (BL b);obtain ⟨n1,hn1⟩:=eqx (Mi a.b b.b false);obtain ⟨n2,hn2⟩:=eqx (Mi a.e b.e true);obtain ⟨u2,hu2⟩:=eqx (a.e.size-n2);obtain ⟨HOA,HOB,HN1,HN2,HNO⟩:=Hd5 (show ∀ w',Cl 153 #[(Sq a)] w' (DG w' oa) from fun w'=>by rw [hoa];exact FD a w') (show ∀ w',Cl 153 #[(Sq b)] w' (DG w' ob) from fun w'=>by rw [hob];exact FD b w') (show ∀ w',Cl 154 #[.string a.b,.string b.b,.bool false] w' (DG w' (n1:Int)) from fun w'=>by rw [hn1];exact NL a.b b.b false AA AA w') (show ∀ w',Cl 154 #[.string a.e,.string b.e,.bool true] w' (DG w' (n2:Int)) from fun w'=>by rw [hn2];exact NL a.e b.e true AA AA w') (fun w'=>Hf w');have hp0:n1≤a.b.size:=(by rw [hn1];exact AHA _ _);have hs0:n2≤a.e.size:=(by rw [hn2];exact AaA _ _);have hp1:(n1:Int)≤(a.b.size:Int):=AA;have hp2:(0:Int)≤(n1:Int):=AA;have hs1:(u2:Int)≤(a.e.size:Int):=AA;have hs2:(0:Int)≤(u2:Int):=AA;have hs3:IntKind.i64.wrap ((a.e.size:Int)-(n2:Int))=(u2:Int):=(by rw [IntKind.wrap_i64];omega);have hxp:a.b.extract 0 n1=sp:=(by rw [hn1,hsp];exact EqA a.b b.b);have hxs:a.e.extract u2 a.e.size=ss:=(by rw [hu2,hn2,hss];exact EoA a.e b.e);obtain ⟨HEA,HEB,HJ⟩:=Hd3 (fun w'=>Ax a AA AA w') (fun w'=>Ax b AA AA w') (show BW a b=if AT a=true then (if AT b=true then H3A else b) else if AT b=true then a else ⟨min la lb,max ma mb,cc,sp,ss⟩ from by rw [hla,hlb,hma,hmb,hcc,hsp,hss];rfl);have hor:bits .or .i64 oa ob=cc:=(by rw [hcc,hoa,hob]);generalize AT a=b1 at *;generalize AT b=b2 at *;obtain ⟨HX0,HW0,HE2,HE3,HE4,HB2_0,HB3_0,HB4_0⟩:=Hd8 hx0 hw0 hg2 hg3 hg4 hb2 hb3 hb4;obtain ⟨q0,q1,q2,q3,q4⟩:=hb2.qs5;obtain ⟨q5,q6,q7,q8,q9⟩:=hb3.qs5;clear hx0 hw0 hb2 hb3 hb4 hg2 hg3 hg4 hla hlb hma hmb hcc hsp hss hoa hob hn1 hn2 hu2 hp0 hs0
 go_enter func81,ntmps81
 go_upto_region 1 with fail
 rw [←HW0.o,show w.heap.size+1+1=g4 from HE4.o.symm,←HE3.o,←HE2.o];cases b1
 ·go_wp2_with fail
  refine (HEA.o _).mono ?_;rintro e1 w1 ⟨rfl,hx⟩;have HX1:=Hd (HX0.o.trans hx);have hb2:=HB2_0.o.keep (hx.kept _);have hb3:=HB3_0.o.keep (hx.kept _);have hb4:=HB4_0.o.keep (hx.kept _);obtain ⟨HB2_1,HB3_1,HB4_1⟩:=Hd3 hb2 hb3 hb4;clear q0 q1 q2 q3 q4 q5 q6 q7 q8 q9;obtain ⟨q0,q1,q2,q3,q4⟩:=hb2.qs5;obtain ⟨q5,q6,q7,q8,q9⟩:=hb3.qs5;clear hx hb2 hb3 hb4
  go_wp2_with fail
  refine (HEA.o _).mono ?_;rintro e2 w2 ⟨rfl,hx⟩;have HX2:=Hd (HX1.o.trans hx);have hb2:=HB2_1.o.keep (hx.kept _);have hb3:=HB3_1.o.keep (hx.kept _);have hb4:=HB4_1.o.keep (hx.kept _);obtain ⟨HB2_2,HB3_2,HB4_2⟩:=Hd3 hb2 hb3 hb4;clear q0 q1 q2 q3 q4 q5 q6 q7 q8 q9;obtain ⟨q0,q1,q2,q3,q4⟩:=hb2.qs5;obtain ⟨q5,q6,q7,q8,q9⟩:=hb3.qs5;clear hx hb2 hb3 hb4
  go_wp2_with fail
  refine (HEB.o _).mono ?_;rintro e3 w3 ⟨rfl,hx⟩;have HX3:=Hd (HX2.o.trans hx);have hb2:=HB2_2.o.keep (hx.kept _);have hb3:=HB3_2.o.keep (hx.kept _);have hb4:=HB4_2.o.keep (hx.kept _);obtain ⟨HB2_3,HB3_3,HB4_3⟩:=Hd3 hb2 hb3 hb4;clear q0 q1 q2 q3 q4 q5 q6 q7 q8 q9;obtain ⟨q0,q1,q2,q3,q4⟩:=hb2.qs5;obtain ⟨q5,q6,q7,q8,q9⟩:=hb3.qs5;clear hx hb2 hb3 hb4;cases b2
  ·obtain ⟨k0,k1,k2,k3,k4,k5,k6,k7⟩:=Hd8 q0 q1 q2 q3 q4 q5 q6 q7;have k8:=Hd q8;have k9:=Hd q9;clear q0 q1 q2 q3 q4 q5 q6 q7 q8 q9
   go_upto_region 7 with fail
   refine Qa (fun m b=>(m=1036∧b=g4)) (lk 37 [1036]) ?_;refine Qp ?_;refine Qc (fun w'=>HLA.o w') ?_;refine Qp ?_;refine Qc (fun w'=>HLB.o w') ?_
   iterate 2 refine Qp ?_
   refine Qc (fun w'=>HMA.o w') ?_;refine Qp ?_;refine Qc (fun w'=>HMB.o w') ?_
   iterate 2 refine Qp ?_
   refine Qc (fun w'=>HOA.o w') ?_;refine Qp ?_;refine Qc (fun w'=>HOB.o w') ?_
   iterate 7 refine Qp ?_
   refine Qc (fun w'=>HN1.o w') ?_
   iterate 10 refine Qp ?_
   refine Qc (fun w'=>HN2.o w') ?_
   iterate 3 refine Qp ?_
   refine Qs (fun _ γ w'=>Blk w' g4 32 #[.I (min la lb),.I (max ma mb),.I cc,.string sp,.string ss]∧γ 1036=true) ?_ ?_ ?_
   ·exact FE
   ·intro vals γ w' ρ hR hN hp hρ zs zg;have hk1036:=hN.o.key (k:=1036) AB;have hb0:=HB4_3.o.keep (hR.o.kept0 (S:=fun b=>b=g4) fun b _ e m hm=>by
     rw [hm.1];exact hk1036)
    have HB0:=Hd hb0;have HK:=Hd hk1036;obtain ⟨q0,q1,q2,q3,q4⟩:=hb0.qs5;have qf:=hb0.frozen;have ql:=hb0.lt;clear hb0 hk1036;refine Qr ?_;refine ⟨γ.put 1036,H2A HK.o rfl rfl rfl Y78171d3d0 (fun b hb hm=>((((((Only.refl g4 w').set 0 (.I (min la lb))).set 1 (.I (max ma mb))).set 2 (.I cc)).set 3 (.string sp)).set 4 (.string ss)).block b fun e=>hm (⟨rfl,e⟩)),LK.done AB,?_,AU⟩;exact Q6
   intro vals γ w9 hR hG;refine Qx ?_;obtain ⟨hb36,-⟩:=hG 36 AB;have HB36N:=Hd hb36;clear hb36;have HXN:=Hd (show Ext w w9 from Au HX3.o (hR.buts (S:=fun b=>b=g4) (fun m b _ hm _=>hm.2)) (fun b hb=>by
    rw [hb];exact HG4.o))
   clear hR hG;obtain ⟨s0,s1,s2,s3,s4⟩:=HB36N.o.qs5;go_wp2;rw [HJ.o,if_neg AC,if_neg AC];exact bodyPost_ret (v:=.agg #[.I (min la lb),.I (max ma mb),.I cc,.string sp,.string ss]) (by simp [results,results81,go_sem,s0,s1,s2,s3,s4]) rfl ⟨rfl,HXN.o⟩
  ·obtain ⟨r0,r1,r2,r3,r4⟩:=HB4_3.o.qs5;have qf:=HB4_3.o.frozen;have ql:=HB4_3.o.lt
   go_wp2_with fail
   rw [HJ.o,if_neg AC,if_pos trivial];refine bodyPost_ret (v:=(Sq a)) Ij rfl ⟨rfl,?_⟩;exact JI
 ·go_wp2_with fail
  refine (HEA.o _).mono ?_;rintro e1 w1 ⟨rfl,hx⟩;have HX1:=Hd (HX0.o.trans hx);have hb2:=HB2_0.o.keep (hx.kept _);have hb3:=HB3_0.o.keep (hx.kept _);have hb4:=HB4_0.o.keep (hx.kept _);obtain ⟨HB2_1,HB3_1,HB4_1⟩:=Hd3 hb2 hb3 hb4;clear q0 q1 q2 q3 q4 q5 q6 q7 q8 q9;obtain ⟨q0,q1,q2,q3,q4⟩:=hb2.qs5;obtain ⟨q5,q6,q7,q8,q9⟩:=hb3.qs5;clear hx hb2 hb3 hb4
  go_wp2_with fail
  refine (HEB.o _).mono ?_;rintro e2 w2 ⟨rfl,hx⟩;have HX2:=Hd (HX1.o.trans hx);have hb2:=HB2_1.o.keep (hx.kept _);have hb3:=HB3_1.o.keep (hx.kept _);have hb4:=HB4_1.o.keep (hx.kept _);obtain ⟨HB2_2,HB3_2,HB4_2⟩:=Hd3 hb2 hb3 hb4;clear q0 q1 q2 q3 q4 q5 q6 q7 q8 q9;obtain ⟨q0,q1,q2,q3,q4⟩:=hb2.qs5;obtain ⟨q5,q6,q7,q8,q9⟩:=hb3.qs5;clear hx hb2 hb3 hb4;cases b2
  ·go_wp2_with fail
   refine (HEA.o _).mono ?_;rintro e3 w3 ⟨rfl,hx⟩;have HX3:=Hd (HX2.o.trans hx);have hb2:=HB2_2.o.keep (hx.kept _);have hb3:=HB3_2.o.keep (hx.kept _);have hb4:=HB4_2.o.keep (hx.kept _);obtain ⟨HB2_3,HB3_3,HB4_3⟩:=Hd3 hb2 hb3 hb4;clear q0 q1 q2 q3 q4 q5 q6 q7 q8 q9;obtain ⟨q0,q1,q2,q3,q4⟩:=hb2.qs5;obtain ⟨q5,q6,q7,q8,q9⟩:=hb3.qs5;clear hx hb2 hb3 hb4;obtain ⟨r0,r1,r2,r3,r4⟩:=HB4_3.o.qs5;have qf:=HB4_3.o.frozen;have ql:=HB4_3.o.lt
   go_wp2_with fail
   rw [HJ.o,if_pos trivial,if_neg AC];refine bodyPost_ret (v:=(Sq b)) Ij rfl ⟨rfl,?_⟩;exact JI
  ·go_wp2_with fail
   refine (HNO.o _).mono ?_;rintro e3 w3 ⟨rfl,hx⟩;have HX3:=Hd (HX2.o.trans hx);have hb2:=HB2_2.o.keep (hx.kept _);have hb3:=HB3_2.o.keep (hx.kept _);have hb4:=HB4_2.o.keep (hx.kept _);obtain ⟨HB2_3,HB3_3,HB4_3⟩:=Hd3 hb2 hb3 hb4;clear q0 q1 q2 q3 q4 q5 q6 q7 q8 q9;obtain ⟨q0,q1,q2,q3,q4⟩:=hb2.qs5;obtain ⟨q5,q6,q7,q8,q9⟩:=hb3.qs5;clear hx hb2 hb3 hb4;obtain ⟨r0,r1,r2,r3,r4⟩:=HB4_3.o.qs5;have qf:=HB4_3.o.frozen;have ql:=HB4_3.o.lt
   go_wp2_with fail
   rw [HJ.o,if_pos trivial,if_pos trivial];refine bodyPost_ret (v:=(Sq H3A)) Ij rfl ⟨rfl,?_⟩;exact JI

def CKA(w w0:World)(g:Nat)(A':OA)(c':Nat)(D':OA)(e':Nat)(b:Bool)(r1 r:Abs)(e:Ending)(w':World):Prop :=
 e=.returned (.bool b)∧(∃ s,s=(if b=true then r1 else r)∧Blk w' g 39 (Ap s A' c' D' e'))∧Ext w0 w'∧w.heap.size≤w'.heap.size
theorem VE(h:qP:=by
 go_wp2_with fail
 go_ret;exact ⟨by rw [HP.o];rfl,⟨_,by rw [HP.o];rfl,HBR2.o⟩,HX2.o,HZ2.o.size⟩):qP:=h
theorem GS(h:qP:=by rw [hw1];exact (Ext.refl w).alloc _):qP:=h
theorem GN(h:qP:=by rw [hw1,hg4];exact Blk.new _ _ _):qP:=h
theorem BgA(a r:Abs)(A D A' D':OA)(c e c' e' g:Nat)(w w0:World)(hx:Ext w0 w)(hg:w0.heap.size≤g)(hb:Blk w g 39 (Ap r A' c' D' e'))(h1:a.tx.b.size≤1000000000)(h2:a.tx.e.size≤1000000000) :
  Cl 122 #[.pointer (some ⟨g,0,none⟩),(Aq a A c D e),.I 1] w (CKA w w0 g A' c' D' e' (Bw a 1) (Dp a 1 r) r):=by
 obtain ⟨w1,hw1⟩:=eqx (w.alloc (.cells (Ap a A c D e) 39));obtain ⟨g4,hg4⟩:=eqx w.heap.size;have hx1:Ext w w1:=GS;have hba:Blk w1 g4 39 (Ap a A c D e):=GN;obtain ⟨HBA1,HBR1,HX1,HW,HG,HGE,HZ1,HEM⟩:=Hd8 hba (hb.keep (hx1.kept _)) (hx.trans hx1) hw1 hg4 hg hx1 (fun w'=>Ax a.tx AA AA w');have HP:=Hd (show Bw a 1 = !AT a.tx from rfl);obtain ⟨em,hem⟩:=eqx (AT a.tx);rw [←hem] at HEM HP;obtain ⟨j,hj⟩:=eqx (BW a.tx a.tx);have HJ:=Hd (show ∀ w',Cl 81 #[(Sq a.tx),(Sq a.tx)] w' (G0 w' j) from fun w'=>by rw [hj];exact SD a.tx a.tx h1 h2 h1 h2 w');have HJJ:=Hd hj;clear hem hj hx hg hb hx1 hba hw1 hg4;have q1:=HBA1.o.q1;have q2:=HBA1.o.q2;have q3:=HBA1.o.q3;have q4:=HBA1.o.q4;have q5:=HBA1.o.q5;have r1:=HBR1.o.q1;have r2:=HBR1.o.q2;have r3:=HBR1.o.q3;have r4:=HBR1.o.q4;have r5:=HBR1.o.q5
 go_enter func122,ntmps122
 go_upto_region 3 with fail
 rw [←HW.o,←HG.o];cases em
 ·go_wp2_with fail
  refine (HEM.o _).mono ?_;rintro e2 w2 ⟨rfl,hx⟩;obtain ⟨HX2,HZ2,HBA2,HBR2⟩:=Hd4 (HX1.o.trans hx) (HZ1.o.trans hx) (HBA1.o.keep (hx.kept _)) (HBR1.o.keep (hx.kept _));clear hx q1 q2 q3 q4 q5 r1 r2 r3 r4 r5;have q1:=HBA2.o.q1;have q2:=HBA2.o.q2;have q3:=HBA2.o.q3;have q4:=HBA2.o.q4;have q5:=HBA2.o.q5;have r1:=HBR2.o.q1;have r2:=HBR2.o.q2;have r3:=HBR2.o.q3;have r4:=HBR2.o.q4;have r5:=HBR2.o.q5
  go_wp2_with fail
  refine (HJ.o _).mono ?_;rintro e3 w3 ⟨rfl,hx⟩;obtain ⟨HX3,HZ3,HBA3,HBR3⟩:=Hd4 (HX2.o.trans hx) (HZ2.o.trans hx) (HBA2.o.keep (hx.kept _)) (HBR2.o.keep (hx.kept _));clear hx q1 q2 q3 q4 q5 r1 r2 r3 r4 r5;have q1:=HBA3.o.q1;have q2:=HBA3.o.q2;have q3:=HBA3.o.q3;have q4:=HBA3.o.q4;have q5:=HBA3.o.q5;have r1:=HBR3.o.q1;have r2:=HBR3.o.q2;have r3:=HBR3.o.q3;have r4:=HBR3.o.q4;have r5:=HBR3.o.q5;have rf:=HBR3.o.frozen;have rl:=HBR3.o.lt
  go_wp2_with fail
  go_ret;refine ⟨by rw [HP.o];rfl,⟨_,rfl,?_⟩,?_,by have:=HZ3.o.size;simpa [World.setCell] using this⟩
  ·rw [HP.o];have hbb:=(((((HBR3.o.set 1 (.I j.least)).set 2 (.I j.most)).set 3 (.I j.cls)).set 4 (.string j.b)).set 5 (.string j.e))
   simpa [Dp,←HJJ.o] using hbb
  ·iterate 5 with_reducible refine Ext.set2 ?_ HGE.o _
   with_reducible exact HX3.o
 ·go_wp2_with fail
  refine (HEM.o _).mono ?_;rintro e2 w2 ⟨rfl,hx⟩;obtain ⟨HX2,HZ2,HBA2,HBR2⟩:=Hd4 (HX1.o.trans hx) (HZ1.o.trans hx) (HBA1.o.keep (hx.kept _)) (HBR1.o.keep (hx.kept _));clear hx q1 q2 q3 q4 q5 r1 r2 r3 r4 r5;have q1:=HBA2.o.q1;have q2:=HBA2.o.q2;have q3:=HBA2.o.q3;have q4:=HBA2.o.q4;have q5:=HBA2.o.q5;have r1:=HBR2.o.q1;have r2:=HBR2.o.q2;have r3:=HBR2.o.q3;have r4:=HBR2.o.q4;have r5:=HBR2.o.q5;exact VE
theorem Zi(a r:Abs)(A D A' D':OA)(c e c' e' g:Nat)(w w0:World)(hx:Ext w0 w)(hg:w0.heap.size≤g)(hb:Blk w g 39 (Ap r A' c' D' e'))(ht:Tens w0) :
  Cl 122 #[.pointer (some ⟨g,0,none⟩),(Aq a A c D e),.I 2] w (CKA w w0 g A' c' D' e' (Bw a 2) (Dp a 2 r) r):=by
 obtain ⟨w1,hw1⟩:=eqx (w.alloc (.cells (Ap a A c D e) 39));obtain ⟨g4,hg4⟩:=eqx w.heap.size;have hx1:Ext w w1:=GS;have hba:Blk w1 g4 39 (Ap a A c D e):=GN;obtain ⟨HBA1,HBR1,HX1,HW,HG,HGE,HZ1,HEM⟩:=Hd8 hba (hb.keep (hx1.kept _)) (hx.trans hx1) hw1 hg4 hg hx1 (show ∀ w',Ext w1 w'→Cl 156 #[(Rq a.nu)] w' (Ae w' (BF a.nu)) from fun w' hx'=>Ct a.nu w' (ht.ext ((hx.trans hx1).trans hx')));have HP:=Hd (show Bw a 2 = !BF a.nu from rfl);obtain ⟨em,hem⟩:=eqx (BF a.nu);rw [←hem] at HEM HP;obtain ⟨j,hj⟩:=eqx (Cc a.nu a.nu);have HJ:=Hd (show ∀ w',Ext w1 w'→Cl 82 #[(Rq a.nu),(Rq a.nu)] w' (Em w' j) from fun w' hx'=>by rw [hj];exact KG a.nu a.nu w' (ht.ext ((hx.trans hx1).trans hx')));have HJJ:=Hd hj;clear hem hj ht hx hg hb hx1 hba hw1 hg4;have q6:=HBA1.o.q6;have q7:=HBA1.o.q7;have q8:=HBA1.o.q8;have q9:=HBA1.o.q9;have r6:=HBR1.o.q6;have r7:=HBR1.o.q7;have r8:=HBR1.o.q8;have r9:=HBR1.o.q9
 go_enter func122,ntmps122
 go_upto_region 7 with fail
 rw [←HW.o,←HG.o];cases em
 ·go_wp2_with fail
  refine (HEM.o _ (Ext.refl _)).mono ?_;rintro e2 w2 ⟨rfl,hx⟩;obtain ⟨HX2,HU2,HZ2,HBA2,HBR2⟩:=Hd5 (HX1.o.trans hx) hx (HZ1.o.trans hx) (HBA1.o.keep (hx.kept _)) (HBR1.o.keep (hx.kept _));clear hx q6 q7 q8 q9 r6 r7 r8 r9;have q6:=HBA2.o.q6;have q7:=HBA2.o.q7;have q8:=HBA2.o.q8;have q9:=HBA2.o.q9;have r6:=HBR2.o.q6;have r7:=HBR2.o.q7;have r8:=HBR2.o.q8;have r9:=HBR2.o.q9
  go_wp2_with fail
  refine (HJ.o _ HU2.o).mono ?_;rintro e3 w3 ⟨rfl,hx⟩;obtain ⟨HX3,HZ3,HBA3,HBR3⟩:=Hd4 (HX2.o.trans hx) (HZ2.o.trans hx) (HBA2.o.keep (hx.kept _)) (HBR2.o.keep (hx.kept _));clear hx q6 q7 q8 q9 r6 r7 r8 r9;have q6:=HBA3.o.q6;have q7:=HBA3.o.q7;have q8:=HBA3.o.q8;have q9:=HBA3.o.q9;have r6:=HBR3.o.q6;have r7:=HBR3.o.q7;have r8:=HBR3.o.q8;have r9:=HBR3.o.q9;have rf:=HBR3.o.frozen;have rl:=HBR3.o.lt
  go_wp2_with fail
  go_ret;refine ⟨by rw [HP.o];rfl,⟨_,rfl,?_⟩,?_,by have:=HZ3.o.size;simpa [World.setCell] using this⟩
  ·rw [HP.o];have hbb:=((((HBR3.o.set 6 (.I j.ln)).set 7 (.I j.ls)).set 8 (.I j.hn)).set 9 (.I j.hs))
   simpa [Dp,←HJJ.o] using hbb
  ·iterate 4 with_reducible refine Ext.set2 ?_ HGE.o _
   with_reducible exact HX3.o
 ·go_wp2_with fail
  refine (HEM.o _ (Ext.refl _)).mono ?_;rintro e2 w2 ⟨rfl,hx⟩;obtain ⟨HX2,HU2,HZ2,HBA2,HBR2⟩:=Hd5 (HX1.o.trans hx) hx (HZ1.o.trans hx) (HBA1.o.keep (hx.kept _)) (HBR1.o.keep (hx.kept _));clear hx q6 q7 q8 q9 r6 r7 r8 r9;have q6:=HBA2.o.q6;have q7:=HBA2.o.q7;have q8:=HBA2.o.q8;have q9:=HBA2.o.q9;have r6:=HBR2.o.q6;have r7:=HBR2.o.q7;have r8:=HBR2.o.q8;have r9:=HBR2.o.q9;exact VE
theorem Pb(h:qP:=by
 intro vals γ w' ρ hR hN hp hρ zs zg;have HR:=hR;have HN:=hN;refine Qr ?_;exact ⟨γ.put 4 (some w'.heap.size),LX.new (by decide) (HN.o.2 (by decide) ⟨5,by decide⟩) _ _,INA,VarX.new HR.o.inb0 rfl (fun _ _ h=>h.elim)⟩):qP:=h
theorem SB(h:qP:=by
 intro l γ w1 γ' w2 rr h
 match l,h with
 |[],_=>trivial
 |[_],_=>trivial
 |[p,q],h=>exact IQA rr h
 | _::_::_::_,_=>trivial):qP:=h
theorem AgA(h:qP:=by
 obtain ⟨HST,HK,HB⟩:=Hd3 hst hk hb;obtain ⟨q0,q1⟩:=hb.qs2;have qf:=hb.frozen;have ql:=hb.lt;clear hR hN hp hρ hst hk hb hv;go_light;go_simp;obtain ⟨g1,g2⟩:=HST.o _ #[.I d1,.I d2] (((Only.refl g w').set 0 (.I d1)).set 1 (.I d2)) ((HB.o.set 0 (.I d1)).set 1 (.I d2)) rfl;exact ⟨γ.put 4 none,g1,LM.done (by decide) (.inl ⟨g,HK.o⟩),g2⟩):qP:=h
theorem PF(h:qP:=by
 match cl,hcs with
 |[x0,x1],_ =>
  exact AgA):qP:=h
theorem EY(h:qP:=by rw [HPT.o];rfl):qP:=h
theorem ZA(a r:Abs)(A D A' D':OA)(c e c' e' g:Nat)(w w0:World)(hx:Ext w0 w)(hg:w0.heap.size≤g)(hb:Blk w g 39 (Ap r A' c' D' e')) :
  Cl 122 #[.pointer (some ⟨g,0,none⟩),(Aq a A c D e),.I 3] w (CKA w w0 g A' c' D' e' (Bw a 3) (Dp a 3 r) r):=by
 obtain ⟨w1,hw1⟩:=eqx (w.alloc (.cells (Ap a A c D e) 39));obtain ⟨g4,hg4⟩:=eqx w.heap.size;have hx1:Ext w w1:=GS;have hba:Blk w1 g4 39 (Ap a A c D e):=GN;obtain ⟨HBA1,HBR1,HX1,HW,HG,HGE,HZ1,HAL⟩:=Hd8 hba (hb.keep (hx1.kept _)) (hx.trans hx1) hw1 hg4 hg hx1 (show ∀ w',Cl 64 #[] w' (Cd w' (0,3652058)) from Ho);obtain ⟨d1,hd1⟩:=eqx ((Cy a).1);obtain ⟨d2,hd2⟩:=eqx ((Cy a).2);obtain ⟨HP,HPP,HMS,k0,k1⟩:=Hd5 (show Bw a 3=decide (d1≤d2) by rw [hd1,hd2];rfl) (show Dp a 3 r = { r with dl:=d1,dh:=d2 } by rw [hd1,hd2];rfl) (show ∀ w',Cl 89 #[.agg #[.I a.dl,.I a.dh],.agg #[.I 0,.I 3652058]] w' (Cd w' (d1,d2)) from fun w'=>by rw [show (d1,d2)=CZ (a.dl,a.dh) (0,3652058) by rw [hd1,hd2];rfl];exact DM _ _ _ _ w') (hba.q10) (hba.q11);clear hx hg hb hx1 hba hw1 hg4 hd1 hd2
 go_enter func122,ntmps122
 go_upto_region 11 with fail
 rw [←HW.o,←HG.o];refine Qb (fun|5=>[4,5]|i=>[i]) (fun _ _=>False) [(5,[4])] ?_
 iterate 2 refine Qp ?_
 refine Qc (x:=.agg #[.I 0,.I 3652058]) (fun w'=>HAL.o w') ?_;refine Qc (x:=.agg #[.I d1,.I d2]) (fun w'=>HMS.o w') ?_;refine Qs (FP (VarX (fun _ _=>False) 4 36 2)) (H1A IAA) ?_ ?_
 ·exact Pb
 refine Chain.step (fun vl γ w'=>match vl with|[p,_]=>VarXI (fun _ _=>False) 36 p #[.I d1,.I d2] γ w'|_=>True) AG ?_ ?_ ?_
 ·exact SB
 ·intro vals γ w' ρ hR hN hp hρ hc hf hg;refine ⟨rfl,?_⟩;have e44:ρ (.tmp 44)=_:=(hρ 44).trans (hp 3 AB);obtain ⟨g,⟨cl⟩,hv,hcs,hb,hk,hst⟩:=VarX.stored (hp 4 AB) (s:=5) (l:=[(5,[4])]) AB hN;have e7:=(hρ 7).trans hv;exact PF
 intro vals γ w9 hR hG;obtain ⟨g5,v4,hb5,-,-⟩:=hG 5 AB;refine Qx ?_;simp only [v4];have HX9:=Hd (show Ext w1 w9 from hR.ext0 (fun _ _ h=>h.elim));have HB5:=Hd hb5;clear hR hG hb5 v4;obtain ⟨HX2,HBR2,HZ2⟩:=Hd3 (HX1.o.trans HX9.o) (HBR1.o.keep (HX9.o.kept _)) (HZ1.o.trans HX9.o);obtain ⟨s0,s1⟩:=HB5.o.qs2;have r10:=HBR2.o.q10;have r11:=HBR2.o.q11;by_cases hle:d1≤d2
 ·have hle2:¬d2<d1:=AA;have HPT:=Hd (show Bw a 3=true by rw [HP.o,decide_eq_true hle]);have rf:=HBR2.o.frozen;have rl:=HBR2.o.lt
  go_wp2_with fail
  go_ret;refine ⟨EY,⟨_,rfl,?_⟩,?_,by have:=HZ2.o.size;simpa [World.setCell] using this⟩
  ·rw [HPT.o,HPP.o];have hbb:=(HBR2.o.set 10 (.I d1)).set 11 (.I d2)
   simpa using hbb
  ·iterate 2 with_reducible refine Ext.set2 ?_ HGE.o _
   with_reducible exact HX2.o
 ·have hle2:d2<d1:=AA;have HPT:=Hd (show Bw a 3=false by rw [HP.o,decide_eq_false hle])
  go_wp2_with fail
  go_ret;exact ⟨EY,⟨_,EY,HBR2.o⟩,HX2.o,HZ2.o.size⟩
theorem Z7(a r:Abs)(A D A' D':OA)(c e c' e' g:Nat)(w w0:World)(hx:Ext w0 w)(hg:w0.heap.size≤g)(hb:Blk w g 39 (Ap r A' c' D' e'))(hbo:r.bo=0) :
  Cl 122 #[.pointer (some ⟨g,0,none⟩),(Aq a A c D e),.I 4] w (CKA w w0 g A' c' D' e' (Bw a 4) (Dp a 4 r) r):=by
 obtain ⟨w1,hw1⟩:=eqx (w.alloc (.cells (Ap a A c D e) 39));obtain ⟨g4,hg4⟩:=eqx w.heap.size;have hx1:Ext w w1:=GS;have hba:Blk w1 g4 39 (Ap a A c D e):=GN;obtain ⟨HBA1,HBR1,HX1,HW,HG,HGE,HZ1⟩:=Hd7 hba (hb.keep (hx1.kept _)) (hx.trans hx1) hw1 hg4 hg hx1;obtain ⟨j,hj⟩:=eqx (boI a);obtain ⟨HP,HPP,HBO⟩:=Hd3 (show Bw a 4=decide (j≠0) by rw [hj];rfl) (show Dp a 4 r = { r with bo:=j } by rw [hj];rfl) hbo;have hjj:bits .and .i64 a.bo 3=j:=hj.symm;clear hx hg hb hx1 hba hw1 hg4 hj hbo;have q12:=HBA1.o.q12;have r12:=HBR1.o.q12;have rf:=HBR1.o.frozen;have rl:=HBR1.o.lt;by_cases hz:j=0
 ·have HPT:=Hd (show Bw a 4=false by rw [HP.o,hz];rfl)
  go_enter func122,ntmps122
  go_upto_region 16 with fail
  rw [←HW.o,←HG.o]
  go_wp2_with fail
  go_ret;refine ⟨by rw [HPT.o];simp,⟨r,EY,?_⟩,Ext.set2 HX1.o HGE.o _,by have:=HZ1.o.size;simpa [World.setCell] using this⟩;have hbb:=HBR1.o.set 12 (.I 0);have hbo:=HBO.o
  simpa [hbo,hz,Ap] using hbb
 ·have HPT:=Hd (show Bw a 4=true by rw [HP.o,decide_eq_true hz])
  go_enter func122,ntmps122
  go_upto_region 16 with fail
  rw [←HW.o,←HG.o]
  go_wp2_with fail
  go_ret;refine ⟨by rw [HPT.o];simp [hz],⟨Dp a 4 r,EY,?_⟩,Ext.set2 HX1.o HGE.o _,by have:=HZ1.o.size;simpa [World.setCell] using this⟩;rw [HPP.o];have hbb:=HBR1.o.set 12 (.I j)
  simpa using hbb

theorem RH(h:qP:=by
 go_enter func226,ntmps226
 exact Bf):qP:=h
theorem OF(s:BA)(hs:s.size≤4294967296)(w:World):Cl 226 #[.string s] w (SameB w (Ba s)):=by
 by_cases hs0:s.size<1
 ·have HF:=Hd (show Ba s=false by unfold Ba;rw [decide_eq_false AA];rfl);have hs1:(s.size:Int)<1:=AA;clear hs0;exact RH
 by_cases hs20:20<s.size
 ·have HF:=Hd (show Ba s=false by unfold Ba;rw [decide_eq_false AA];rfl);have hs1:¬(s.size:Int)<1:=AA;have hs2:20<(s.size:Int):=AA;clear hs0 hs20;exact RH
 have hs1:¬(s.size:Int)<1:=AA;have hs2:¬20<(s.size:Int):=AA
 go_enter func226,ntmps226
 go_wp2
 go_loop [16] (fun i=>∃ k:Nat,k≤s.size∧i=.I k∧∀ j (h:j<s.size),j<k→Fa j (s[j].toNat:Int)=true) (fun i=>s.size-(intOf i).toNat)
 case atStart=>exact ⟨0,AN,rfl,AK⟩
 case round =>
  obtain ⟨k,hk,rfl,hall⟩:=hrel;have HA:=Hd hall;clear hall;by_cases hlt:k<s.size
  ·exact Pj
  ·have HF:=Hd (show Ba s=true by rw [WQ (s:=s) (fun j h=>HA.o j h AA)];simp;omega);exact Bf
theorem TW(h:qP:=by
 by_cases hjk:j=k
 ·subst hjk;exact HM.o
 ·exact HA.o j h (by omega)):qP:=h
theorem Zj(h:qP:=by
 refine ⟨k+1,by omega,by go_num,fun j h hj => ?_⟩;exact TW):qP:=h
theorem UN(h:qP:=by
 go_wp2_with fail
 go_round
 case rel =>
  exact Zj
 case measure=>simp [intOf];omega):qP:=h
theorem Mv(A:OA)(c:Nat)(l:List BA)(w:World)(S:NP)(h:Strs w S A l):Cl 182 #[.slice A l.length c] w (SameB w (l.all Ba)):=by
 have hn:=h.2.1;have H:=Hd h;clear h
 go_enter func182,ntmps182
 go_wp2
 go_loop [7] (fun i=>∃ k:Nat,k≤l.length∧i=.I k∧∀ j (h:j<l.length),j<k→Ba l[j]=true) (fun i=>l.length-(intOf i).toNat)
 case atStart=>exact ⟨0,AN,rfl,AK⟩
 case round =>
  obtain ⟨k,hk,rfl,hall⟩:=hrel;have HA:=Hd hall;clear hall;by_cases hlt:k<l.length
  ·obtain ⟨b1,o1,rfl,z1,c1⟩:=H.o.at_ hlt;have HC:=Hd (fun w'=>OF l[k] (H.o.sz hlt) w');cases hm:Ba l[k]
   ·rw [hm] at HC;have HF:=Hd (show l.all Ba=false from CX l Ba k hlt hm);clear hm
    go_wp2_with fail
    refine (HC.o _).mono ?_;rintro e w' ⟨rfl,rfl⟩
    go_wp2_with fail
    exact FR
   ·rw [hm] at HC;have HM:=Hd hm;clear hm
    go_wp2_with fail
    refine (HC.o _).mono ?_;rintro e w' ⟨rfl,rfl⟩;exact UN
  ·have HF:=Hd (show l.all Ba=true from CH l Ba (fun j h=>HA.o j h AA));exact Bf

theorem NG(x y:BA)(w:World):Cl 181 #[.string x,.string y] w (SameB w (decide (x=y))):=by
 have HE:=Hd (Bj x y)
 go_enter func181,ntmps181
 go_wp2;go_ret;exact ⟨by rw [←HE.o];rfl,rfl⟩
theorem XX(x y:BA)(g g2:Nat)(w:World)(hb:w.cell? ⟨g,0,none⟩=some (.func (.func 181) #[] #[]))(hb2:w.cell? ⟨g2,0,none⟩=some (.string x)) :
  Cl 225 #[.string y,.pointer (some ⟨g,0,none⟩),.pointer (some ⟨g2,0,none⟩)] w (SameB w (decide (x=y))):=by
 have HC:=Hd (NG x y w)
 go_enter func225,ntmps225
 go_wp2_with fail
 refine HC.o.mono ?_;rintro e w' ⟨rfl,rfl⟩;exact Ra
theorem Ky(l:List BA)(x:BA)(A:OA)(c g g2:Nat)(w:World)(S:NP)(hl:Strs w S A l)(hb:w.cell? ⟨g,0,none⟩=some (.func (.func 181) #[] #[]))(hb2:w.cell? ⟨g2,0,none⟩=some (.string x)) :
  Cl 259 #[.slice A l.length c,.func (.func 225) #[] #[.pointer (some ⟨g,0,none⟩),.pointer (some ⟨g2,0,none⟩)]] w (Bk w (Gv (fun y=>decide (x=y)) l)):=by
 have hn:=hl.2.1;have HC:=Hd (fun y=>XX x y g g2 w hb hb2);clear hb hb2
 go_enter func259,ntmps259
 go_wp2
 go_loop [8] (fun i=>∃ k:Nat,k≤l.length∧i=.I k∧∀ j (h:j<l.length),j<k→(fun y=>decide (x=y)) l[j]=false) (fun i=>l.length-(intOf i).toNat)
 case atStart=>exact ⟨0,AN,rfl,AK⟩
 case round =>
  obtain ⟨k,hk,rfl,hall⟩:=hrel;have HA:=Hd hall;clear hall;by_cases hlt:k<l.length
  ·obtain ⟨b1,o1,rfl,z1,c1⟩:=hl.at_ hlt;cases hm:decide (x=l[k])
   ·have HM:=Hd hm;clear hm
    go_wp2_with fail
    refine (HC.o _).mono ?_;rintro e w' ⟨rfl,rfl⟩;rw [HM.o];exact UN
   ·have HM:=Hd hm;clear hm
    go_wp2_with fail
    refine (HC.o _).mono ?_;rintro e w' ⟨rfl,rfl⟩;rw [HM.o]
    go_wp2_with fail
    go_ret;exact ⟨by rw [EO hlt HA.o HM.o];rfl,rfl⟩
  ·exact Ll
theorem JZ(l:List BA)(x:BA)(A:OA)(c g g2:Nat)(w:World)(S:NP)(hl:Strs w S A l)(hb:w.cell? ⟨g,0,none⟩=some (.func (.func 181) #[] #[]))(hb2:w.cell? ⟨g2,0,none⟩=some (.string x)) :
  Cl 224 #[.slice A l.length c,.func (.func 225) #[] #[.pointer (some ⟨g,0,none⟩),.pointer (some ⟨g2,0,none⟩)]] w (SameB w (Aw l x)):=by
 have HC:=Hd (Ky l x A c g g2 w S hl hb hb2);have HI:=Hd (show (l.any fun y=>decide (x=y))=Aw l x by rw [Bool.eq_iff_iff,List.any_eq_true,Ao];exact ⟨fun ⟨y,h1,h2⟩=>by rw [of_decide_eq_true h2];exact h1,fun h=>⟨x,h,decide_eq_true rfl⟩⟩);clear hb hb2 hl
 go_enter func224,ntmps224
 go_wp2_with fail
 refine HC.o.mono ?_;rintro e w' ⟨rfl,rfl⟩
 go_wp2_with fail
 go_ret;exact ⟨by rw [←HI.o,←G5];rfl,rfl⟩
theorem O6{α:Type} [DecidableEq α](l:List α)(k:Nat)(hk:k<l.length):ddp (l.take (k+1))=if l[k]∈ddp (l.take k) then ddp (l.take k) else ddp (l.take k)++[l[k]]:=by
 rw [List.take_add_one,List.getElem?_eq_getElem hk,Option.toList_some,Jl]
theorem QO(h:qP:=by
 refine Hb (P:=fun l=>(ddp l).length≤l.length) (by simp [ddp]) (fun l x ih => ?_) l;rw [Jl];split<;>simp<;>omega):qP:=h
theorem F4{α:Type} [DecidableEq α](l:List α):(ddp l).length≤l.length:=by
 exact QO
def FfA(w:World)(l:List BA)(e:Ending)(w':World):Prop:=∃ A c,e=.returned (.slice A l.length c)∧l.length≤c∧OwnSs w' w.heap.size A c l∧Ext w w'
theorem EM(h:qP:=by rw [HT.o];rfl):qP:=h
theorem MP(l:List BA)(A:OA)(c:Nat)(w:World)(S:NP)(hA:Strs w S A l)(hl:l.length≤1000000) :
  Cl 180 #[.slice A l.length c,.func (.func 181) #[] #[]] w (FfA w (ddp l)):=by
 obtain ⟨HA,HB0,HX0⟩:=Hd3 hA (Blk.new w 130 #[.func (.func 181) #[] #[]]) ((Ext.refl w).alloc (.cells #[.func (.func 181) #[] #[]] 130));clear hA
 go_enter func180,ntmps180
 go_wp2
 go_loopw [10,5] (fun i v wr=>∃ (m:Nat) (A':OA) (c':Nat),m≤l.length∧i=.I m∧v=.slice A' (ddp (l.take m)).length c'∧Ext (w.alloc (.cells #[.func (.func 181) #[] #[]] 130)) wr∧OwnSs wr (w.heap.size+1) A' c' (ddp (l.take m))) (fun i _ _=>l.length-(intOf i).toNat)
 case atStart=>exact ⟨0,none,0,AN,rfl,rfl,Ext.refl _,OwnSs.nil _ _⟩
 case round =>
  obtain ⟨m,A',c',hm,rfl,rfl,hext,hown⟩:=hrel;have HE:=Hd hext;have HO:=Hd hown;clear hown;by_cases hlt:m<l.length
  ·obtain ⟨b1,o1,rfl,z1,c1⟩:=((HA.o.keep (HX0.o.kept S)).keep (hext.kept S)).at_ hlt;have hw0:wr.cell? ⟨w.heap.size,0,none⟩=some (.func (.func 181) #[] #[]):=hext.cell (HB0.o.cell rfl);obtain ⟨w1,hw1⟩:=eqx (wr.alloc (.cells #[.string l[m]] 9));have hx1:Ext wr w1:=(by rw [hw1];exact (Ext.refl wr).alloc _);have hown:=HO.o.ext hx1;have hst:=hown.strs (T:=fun _=>True) (by have:=F4 (l.take m);rw [List.length_take] at this;omega) (fun _ _=>trivial);obtain ⟨HC,HT,HX1⟩:=Hd3 (JZ (ddp (l.take m)) l[m] A' c' w.heap.size wr.heap.size _ _ hst (hx1.cell hw0) ((show Blk w1 wr.heap.size 9 #[.string l[m]] by rw [hw1];exact Blk.new _ _ _).cell rfl)) (O6 l m hlt) hx1;have hszx:=hx1.size;have hbx:=(show Blk w1 wr.heap.size 9 #[.string l[m]] by rw [hw1];exact Blk.new _ _ _).q0;have HW1:=Hd hw1;have hln:=F4 (l.take m);rw [List.length_take] at hln;have hsz:=HE.o.size;have hsz0:(w.alloc (.cells #[.func (.func 181) #[] #[]] 130)).heap.size=w.heap.size+1:=AC;have hown0:=(hown.ext ((Ext.refl _).alloc (.cells #[.string l[m]] 9))).1;have HOWN:=Hd hown0;have hsl:=HA.o.sz hlt;clear hw0 hx1 hown hst hown0 hw1
   go_upto_region 5 with fail
   rw [←HW1.o];cases hd:Aw (ddp (l.take m)) l[m]
   ·have hn:¬l[m]∈ddp (l.take m):=fun h=>by rw [(Ao _ _).2 h] at hd;cases hd
    rw [hd] at HC;rw [if_neg hn] at HT;clear hd hn
    go_wp2_with fail
    refine HC.o.mono ?_;rintro e w' ⟨rfl,rfl⟩
    go_wp2_with (at_builtin;go_must (refine AL rfl (.tmp 18) (.tmp 20) rfl tiS rfl HOWN.o rfl (Blk.rd (Blk.new _ _ _)) rfl AP AA AB AI ?_);intro A4 c4 w4 hown4 hg4 hat4)
    go_roundw
    case rel =>
     refine ⟨m+1,A4,c4,AA,AE,by rw [HT.o,List.length_append];rfl,Ext.grown ((HE.o.trans HX1.o).alloc _) hg4 (fun b hb=>Ii),?_,fun s hs => ?_⟩
     ·rw [HT.o,List.length_append,List.map_append];exact hown4
     ·rw [HT.o] at hs
      rcases List.mem_append.1 hs with hs|hs
      ·exact HO.o.2 s hs
      ·rw [List.mem_singleton.1 hs];exact hsl
    case measure=>simp [intOf];omega
   ·have hn:l[m]∈ddp (l.take m):=(Ao _ _).1 hd;rw [hd] at HC;rw [if_pos hn] at HT;clear hd hn
    go_wp2_with fail
    refine HC.o.mono ?_;rintro e w' ⟨rfl,rfl⟩
    go_wp2_with fail
    go_roundw
    case rel =>
     refine ⟨m+1,A',c',AA,AE,by rw [HT.o],HE.o.trans HX1.o,?_⟩;rw [HT.o];exact HO.o.ext HX1.o
    case measure=>simp [intOf];omega
  ·obtain rfl:m=l.length:=AA;have ho:=HO.o;rw [List.take_length] at ho;have HO2:=Hd ho;have HT:=Hd (show l.take l.length=l from List.take_length);clear ho hext;go_wp2;go_ret;exact ⟨A',c',EM,Own.cap HO2.o.1,⟨Own.lower HO2.o.1 (Nat.le_succ _),HO2.o.2⟩,HX0.o.trans HE.o⟩
end Go.Proofs.YtidacnalcdhckaaGreatDoor
