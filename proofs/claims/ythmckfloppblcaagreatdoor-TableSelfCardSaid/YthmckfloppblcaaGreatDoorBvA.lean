/- From the row's reading of the arguments to the words of the walks of the laws on joins: two lists of ints, the seven tables, the length that the machine bears. No conditions. -/
import Derived.Test.YthmckfloppblcaaGreatDoorBv3
import Derived.Test.YthmckfloppblcaaGreatDoorRows
import Derived.Test.YthmckfloppblcaaGreatDoorTie
import Derived.Test.YthmckfloppblcaaGreatDoorCards
import Derived.ProofKit
import Derived.LaidMore
import Derived.OpenShut
import Derived.ShutString
import Derived.ChangeOld
import Derived.Stop.Joined
import Derived.SevenTiedAt
import Derived.Deep.Matrix
import Derived.Lib.LaidTab
import Derived.ShapedOpen
import Derived.Lay
set_option maxRecDepth 100000
set_option maxHeartbeats 400000
namespace Go.Proofs.YthmckfloppblcaaGreatDoor
open Go Go.ChangeShapes Go.WideShapes Go.ChangeAt Go.WideMaps Go.WideElems Go.RowKit

theorem own:ownKnob Tryz.prog.godebug=none:=by kernel_rfl
theorem laidOut:laidOutB Tryz.prog=true:=by kernel_rfl
theorem gTens:Tryz.prog.globalNamed "concord/decimal.tens" = some 0:=by kernel_rfl
theorem tTens:(Tryz.prog.globals[0]?).map (·.type)=some 148:=by kernel_rfl
theorem spot_none {W:World} {a:Addr} {v:Value} (h:W.cell? a=some v):a.spot=none:=by
 unfold World.cell? at h;split at h
 ·split at h
  ·cases h
  ·rename_i hs; simpa using hs
 ·cases h
theorem add_none {a:Addr} (h:a.spot=none) (n:Nat):a.add n=⟨a.block,a.off+n,none⟩:=by
 obtain ⟨b,o,s⟩:=a;simp at h;subst h;unfold Addr.add;split
 ·rename_i h0; subst h0; rfl
 ·rfl
theorem rd_cells {W:World} {a:Addr} {xs:List Value} (h:∀ j u,xs[j]?=some u→W.cell? (a.add j)=some u):Rd W (fun _=>True) (some a) xs:=by
 rcases xs with _ | ⟨x,xs⟩
 ·exact Or.inl rfl
 ·have hs:a.spot=none:=spot_none (a:=a) (v:=x) (by have:=h 0 x rfl; simpa [Addr.add] using this);refine Or.inr ⟨a.block,a.off,?_,trivial,?_,fun j u hj => ?_⟩
  ·obtain ⟨b,o,s⟩:=a; simp at hs; subst hs; rfl
  ·have h0:=h 0 x rfl;rw [add_none hs] at h0;unfold World.cell? at h0
   rcases Nat.lt_or_ge a.block W.heap.size with h1 | h1
   ·exact h1
   ·simp only [Array.getElem?_eq_none h1] at h0; cases h0
  ·rw [← add_none hs]; exact h j u hj
theorem intsL_of {W:World} {a:Addr} {zs:List Int} {len:Nat} (hc:∀ i,i<zs.length→W.cell? (a.add i)=some (.int .i64 (zs.getD i 0))) (hm:zs.length≤maxLen):IntsL W (fun _=>True) (some a) (zs.take len):=by
 unfold maxLen at hm;refine ⟨rd_cells fun j u hj => ?_,by rw [List.length_take]; omega⟩;rw [List.getElem?_map] at hj;cases hz:(zs.take len)[j]? with
 | none=>rw [hz] at hj; cases hj
 | some z =>
  rw [hz] at hj;simp at hj;subst hj;have hlt:=(List.getElem?_eq_some_iff.1 hz).1;rw [List.length_take] at hlt;rw [hc j (by omega)];rw [List.getElem?_take,if_pos (by omega)] at hz;simp [hz]
theorem open_l {H:Type} {enc:TypeId × Value→H} {W:World} {base:Nat} {a:Option Addr} {len cap fuel:Nat} {held:Bool} {x:DataW H × List MemPlace} (h:DataW.trod enc Tryz.prog W base (fun _=>true) held fuel 22 (Value.slice a len cap).cells.toList=some x) :
  ∃ l:List Int,l.length=len∧IntsL W (fun _=>True) a l:=by
 rcases open_ints Tryz.underlying22 Tryz.underlying3 (by kernel_rfl) h with ⟨hcs,_⟩ | ⟨y,l,c,zs,hcs,_,hl,hm,hz,_,hcell,hwz⟩
 ·simp [Value.cells] at hcs;obtain ⟨rfl,rfl,rfl⟩:=hcs;exact ⟨[],rfl,Or.inl rfl,by simp⟩
 ·simp [Value.cells] at hcs;obtain ⟨rfl,rfl,rfl⟩:=hcs;simp only [if_true] at hz;exact ⟨zs.take len,by rw [List.length_take]; omega,intsL_of hcell (by omega)⟩
end Go.Proofs.YthmckfloppblcaaGreatDoor
/- From the row's reading of the arguments to the words of the walks: rows of ints, the table of tens. No conditions. -/
namespace Go.Proofs.YthmckfloppblcaaGreatDoor
open Go Go.ChangeShapes Go.WideShapes Go.ChangeAt Go.WideMaps Go.WideElems Go.RowKit

end Go.Proofs.YthmckfloppblcaaGreatDoor
namespace Go.Proofs.YthmckfloppblcaaGreatDoor
open Go Go.ChangeShapes Go.WideShapes Go.ChangeAt Go.WideMaps Go.WideElems Go.RowKit

def L7:List (String × DataW Unit):=[("math/bits.deBruijn32tab",Rows.laid_math_bits_deBruijn32tab),("math/bits.deBruijn64tab",Rows.laid_math_bits_deBruijn64tab),("internal/strconv.uint64pow10",Rows.laid_internal_strconv_uint64pow10),("unicode/utf8.acceptRanges",Rows.laid_unicode_utf8_acceptRanges),("concord/date.lengths",Rows.laid_concord_date_lengths),("concord/decimal.tens",Rows.laid_concord_decimal_tens),("unicode/utf8.first",Rows.laid_unicode_utf8_first)]
theorem laidVars_at {P:Program} {w:World} {n:String} {d:DataW Unit} : ∀ {l:List (String × DataW Unit)} {ps:List MemPlace},DataW.LaidVars P w l ps→(n,d)∈l→∃ g t cs fuel p,P.globalNamed n=some g∧(P.globals[g]?).map (·.type)=some t∧w.var? P n=some cs∧DataW.trod (fun _=>()) P w 0 (fun _=>true) false fuel t cs.toList=some (d,p)
 | [],_,_,h=>by cases h
 | (n',d') :: r,_,⟨g,t,cs,fuel,p,_,hg,ht,hv,hd,hr,_⟩,h=>by
  rcases List.mem_cons.1 h with e | h
  ·injection e with e1 e2;subst e1 e2;exact ⟨g,t,cs,fuel,p,hg,ht,hv,hd⟩
  ·exact laidVars_at hr h
theorem tabIs_at {P:Program} {W:World} {l:List (String × DataW Unit)} {name:String} {d:DataW Unit} {k:IntKind} {zs:List Int} {g:Nat} {t e:TypeId} {n:Nat}
  (hd0:d=Lib.tabData k zs) (hm:(name,d)∈l) (hg:P.globalNamed name=some g) (hty:(P.globals[g]?).map (·.type)=some t) (ht:P.underlying t=some (.array n e)) (he:P.underlying e=some (.int k)) (hce:P.cellsOf e=1) (hct:P.cellsOf t=n)
  (h:laidMet P l W):Lib.TabIs P W name k zs:=by
 obtain ⟨ps,hl,_⟩:=h;obtain ⟨g',t',cs,fuel,p,hg',ht',hvar,hd⟩:=laidVars_at hl hm;obtain rfl:=Option.some.inj (hg.symm.trans hg');obtain rfl:=Option.some.inj (hty.symm.trans ht');rw [hd0] at hd;unfold Lib.TabIs;rw [hvar,← Lib.cells_of_tab ht he hce hct hd]
theorem gMon:Tryz.prog.globalNamed "concord/date.lengths" = some 5:=by kernel_rfl
theorem txt_of_laid {W:World} (h:laidMetH Tryz.prog L7 W):Txt W:=by
 rw [MakeChecks.laidMetH_plain _ _ _ (by kernel_rfl)] at h;have h1:Lib.TabIs Tryz.prog W "concord/decimal.tens" .i64 [1,10,100,1000,10000,100000,1000000]:=tabIs_at (d:=Rows.laid_concord_decimal_tens) rfl (by simp [L7]) gTens tTens Tryz.underlying148 Tryz.underlying3 (by kernel_rfl) (by kernel_rfl) h;have h2:Lib.TabIs Tryz.prog W "concord/date.lengths" .i64 [31,28,31,30,31,30,31,31,30,31,30,31]:=tabIs_at (d:=Rows.laid_concord_date_lengths) rfl (by simp [L7]) gMon (by kernel_rfl) Tryz.underlying230 Tryz.underlying3 (by kernel_rfl) (by kernel_rfl) h;have h3:Lib.TabIs Tryz.prog W "internal/strconv.uint64pow10" .u64 Lib.pow10Tab:=tabIs_at (d:=Rows.laid_internal_strconv_uint64pow10) (by kernel_rfl) (by simp [L7]) gPow (by kernel_rfl) Tryz.underlying224 Tryz.underlying152 (by kernel_rfl) (by kernel_rfl) h;refine ⟨⟨h1.cell gTens 0 (by decide),h1.cell gTens 1 (by decide),h1.cell gTens 2 (by decide),h1.cell gTens 3 (by decide),h1.cell gTens 4 (by decide),h1.cell gTens 5 (by decide),h1.cell gTens 6 (by decide)⟩,fun m h4 h5 => ?_,h3⟩;have h6:=h2.cell gMon (m-1) (by simp; omega);rw [h6]
 match m,h4,h5 with
 | 1,_,_=>rfl
 | 2,_,_=>rfl
 | 3,_,_=>rfl
 | 4,_,_=>rfl
 | 5,_,_=>rfl
 | 6,_,_=>rfl
 | 7,_,_=>rfl
 | 8,_,_=>rfl
 | 9,_,_=>rfl
 | 10,_,_=>rfl
 | 11,_,_=>rfl
 | 12,_,_=>rfl
 | n+13,_,h=>omega

theorem mx_of {W:World} (h:W.ShapedOpen Tryz.prog):∃ m,W.cell? ⟨2,0,none⟩=some (.int .i64 m):=by
 obtain ⟨cs,hh,hs,hr⟩:=h.1 2 #[.int .i64 0] 3 (by decide +kernel) (by kernel_rfl);have hr2:=hr (by kernel_rfl);obtain ⟨ts,hts,_,hall⟩:=hr2;rw [show Tryz.prog.cellTypes Tryz.prog.depth 3=some [3] by kernel_rfl] at hts;cases hts;have h1:0<cs.size:=(by rw [hs]; decide);obtain ⟨u,hu',hok⟩:=hall 0 cs[0] (by simp [h1]);have:u=3:=(by simpa using hu'.symm);subst this;have hcell:W.cell? ⟨2,0,none⟩=some cs[0]:=(by simp [World.cell?,hh,h1]);rw [hcell];unfold Cell.ok at hok;rw [Tryz.underlying3] at hok;cases hv:cs[0] <;> rw [hv] at hok <;> simp at hok
 obtain ⟨rfl,-⟩:=hok;exact ⟨_,rfl⟩
theorem txm_of {W:World} (h:laidMetH Tryz.prog L7 W) (hs:W.ShapedOpen Tryz.prog):TxM W:=⟨txt_of_laid h,mx_of hs⟩
theorem door_met7 (os:Os) (args:Array Value):laidMetH Tryz.prog L7 ((World.laidAll Tryz.prog os L7).forCall (fun _ _=>0) ⟨#[],args,[]⟩).memory:=by
 rw [MakeChecks.laidMetH_plain _ _ _ (by kernel_rfl)];exact laidMet_laidAll _ (by kernel_rfl) (by kernel_rfl)
section
variable {H:Type} {enc:TypeId × Value→H}
theorem handed_shape {a:Assume} {C:Checked} {os:Os} {f:FuncId} {fn:Func} {s:ChangeSpec} {conds:List PathCond} {apart fresh handsOn again:Bool} {X:World→Array Value→Prop}
  (hX:∀ (w w':World) (args:Array Value),w.heap=w'.heap→X w args→X w' args)
  (own:ownKnob C.prog.godebug=none) (started:os.Started) (noInit:C.prog.inits.idxOf? f=none) (hfn:C.prog.funcs[f]?=some fn)
  (witness:∃ (w:World) (tape:Tape) (i:Input),w.os=os∧(w.forCall tape i).Shaped C.prog∧i.vars=[]∧Input.okWide C.prog (w.forCall tape i) .any w.heap.size f i ∧
   ((s.pre enc C.prog fn conds apart (w.forCall tape i).memory i.args∧X (w.forCall tape i).memory i.args)∧sizedMet enc C.prog fn (OpenSpec.ofChange s) apart (w.forCall tape i).memory i.args)∧a.holds C.prog (lone (Frame.enter C.prog f i.args .normal) [] (w.forCall tape i)))
  (contract:∀ (W:World) (base:Nat) (args:Array Value) (ds gs:List (DataW H)) (before:List MemPlace),
   (∀ (j:Nat) t v,fn.params[j]?=some t→args[j]?=some v→Value.okWide C.prog W .any base t v) →
   DataW.Whole enc C.prog fn.params.toList s.vars apart W args.toList ds gs before→W.ShapedOpen C.prog→X W args →
   Calls C.prog f args W fun e W'=>∃ v,e=.returned v∧s.post enc C.prog fn apart fresh handsOn again W args v W') :
  ReturnsInHanded a C os f .any (fun w args=>(s.pre enc C.prog fn conds apart w args∧X w args)∧sizedMet enc C.prog fn (OpenSpec.ofChange s) apart w args) (s.post enc C.prog fn apart fresh handsOn again):=by
 refine returnsInHanded_of_calls own started noInit witness ?_;intro w tape i _ hsh _ hok hpre _;obtain ⟨_,_,_,fn',hfn',_,_,_,_,hval⟩:=hok;have e:fn'=fn:=Option.some.inj (hfn'.symm.trans hfn);subst e;obtain ⟨⟨⟨ds,gs,before,hw,hc⟩,hx⟩,hz⟩:=hpre;refine (contract (w.forCall tape i) w.heap.size i.args ds gs before hval (DataW.Whole.of_heap (w':=w.forCall tape i) (by rfl) hw) hsh (hX _ _ _ (by rfl) hx)).mono fun e W' ⟨v,he,hp⟩ => ?_;subst he;exact ChangeSpec.post_blind hp
end
end Go.Proofs.YthmckfloppblcaaGreatDoor
