/- Lemmas. No conditions. -/
import Derived.Test.YtaccjdppmmoepaaGreatDoorXq8
import Derived.Test.YtaccjdppmmoepaaGreatDoorRows
import Derived.Test.YtaccjdppmmoepaaGreatDoorTie
import Derived.Test.YtaccjdppmmoepaaGreatDoorCards
import Derived.ProofKit
import Derived.LaidMore
import Derived.OpenShut
import Derived.ShutString
import Derived.ChangeOld
import Derived.Stop.Joined
import Derived.SevenTiedAt
import Derived.Deep.Matrix
import Derived.Lib.LaidTab
import Derived.ShapedOpen
import Derived.Lay
set_option maxRecDepth 100000
set_option maxHeartbeats 400000
namespace Go.Proofs.YtaccjdppmmoepaaGreatDoor
open Go Go.ChangeShapes Go.WideShapes Go.ChangeAt Go.WideMaps Go.WideElems Go.RowKit

theorem own:ownKnob Tryz.prog.godebug=none:=by kernel_rfl
theorem XN:laidOutB Tryz.prog=true:=by kernel_rfl
theorem N3:Tryz.prog.globalNamed "concord/decimal.tens" = some 0:=by kernel_rfl
theorem GrA:(Tryz.prog.globals[0]?).map (·.type)=some 205:=by kernel_rfl
theorem CuA{W:World}{a:Addr}{v:Value}(h:W.cell? a=some v):a.spot=none:=by
 unfold World.cell? at h;split at h
 ·split at h
  ·cases h
  ·rename_i hs;simpa using hs
 ·cases h
theorem Yr{a:Addr}(h:a.spot=none)(n:Nat):a.add n=⟨a.block,a.off+n,none⟩:=by
 obtain ⟨b,o,s⟩:=a;simp at h;subst h;unfold Addr.add;split
 ·rename_i h0;subst h0;rfl
 ·rfl
theorem EUA{W:World}{a:Addr}{xs:List Value}(h:∀ j u,xs[j]?=some u->W.cell? (a.add j)=some u):Rd W (λ_=>True) (some a) xs:=by
 rcases xs with _|⟨x,xs⟩
 ·exact Or.inl rfl
 ·have hs:a.spot=none:=CuA (a:=a) (v:=x) (by have:=h 0 x rfl;simpa [Addr.add] using this);refine Or.inr ⟨a.block,a.off,?_,trivial,?_,λj u hj => ?_⟩
  ·obtain ⟨b,o,s⟩:=a;simp at hs;subst hs;rfl
  ·have h0:=h 0 x rfl;rw [Yr hs] at h0;unfold World.cell? at h0
   rcases Nat.lt_or_ge a.block W.heap.size with h1|h1
   ·exact h1
   ·simp only [Array.getElem?_eq_none h1] at h0;cases h0
  ·rw [<-Yr hs];exact h j u hj
theorem DaA{W:World}{a:Addr}{zs:List Int}{len:Nat}(hc:∀ i,i<zs.length->W.cell? (a.add i)=some (.int .i64 (zs.getD i 0)))(hm:zs.length<=maxLen):IntsL W (λ_=>True) (some a) (zs.take len):=by
 unfold maxLen at hm;refine ⟨EUA λj u hj => ?_,BP⟩;rw [List.getElem?_map] at hj;cases hz:(zs.take len)[j]? with
 |none=>rw [hz] at hj;cases hj
 |some z =>
  rw [hz] at hj;simp at hj;subst hj;have hlt:=(List.getElem?_eq_some_iff.1 hz).1;rw [List.length_take] at hlt;rw [hc j AA];rw [List.getElem?_take,if_pos AA] at hz;simp [hz]
end Go.Proofs.YtaccjdppmmoepaaGreatDoor
/- From the row's reading of the arguments to the words of the walks: rows of ints, the table of tens. No conditions. -/
namespace Go.Proofs.YtaccjdppmmoepaaGreatDoor
open Go Go.ChangeShapes Go.WideShapes Go.ChangeAt Go.WideMaps Go.WideElems Go.RowKit

end Go.Proofs.YtaccjdppmmoepaaGreatDoor
namespace Go.Proofs.YtaccjdppmmoepaaGreatDoor
open Go Go.ChangeShapes Go.WideShapes Go.ChangeAt Go.WideMaps Go.WideElems Go.RowKit

end Go.Proofs.YtaccjdppmmoepaaGreatDoor
namespace Go.Proofs.YtaccjdppmmoepaaGreatDoor
open Go Go.ChangeShapes Go.WideShapes Go.ChangeAt Go.WideMaps Go.WideElems Go.RowKit

def L4:List (String × DataW Unit):=[("math/bits.deBruijn32tab",Rows.laid_math_bits_deBruijn32tab),("math/bits.deBruijn64tab",Rows.laid_math_bits_deBruijn64tab),("internal/strconv.uint64pow10",Rows.laid_internal_strconv_uint64pow10),("concord/decimal.tens",Rows.laid_concord_decimal_tens)]
theorem N4{P:Program}{w:World}{n:String}{d:DataW Unit} : ∀ {l:List (String × DataW Unit)} {ps:List MemPlace},DataW.LaidVars P w l ps->(n,d)∈l->∃ g t cs fuel p,P.globalNamed n=some g/\(P.globals[g]?).map (·.type)=some t/\w.var? P n=some cs/\DataW.trod (λ_=>()) P w 0 (λ_=>true) false fuel t cs.toList=some (d,p)
 |[],_,_,h=>by cases h
 |(n',d')::r,_,⟨g,t,cs,fuel,p,_,hg,ht,hv,hd,hr,_⟩,h=>by
  rcases List.mem_cons.1 h with e|h
  ·injection e with e1 e2;subst e1 e2;exact ⟨g,t,cs,fuel,p,hg,ht,hv,hd⟩
  ·exact N4 hr h
theorem Xh{P:Program}{W:World}{l:List (String × DataW Unit)}{name:String}{d:DataW Unit}{k:IntKind}{zs:List Int}{g:Nat}{t e:TypeId}{n:Nat}
  (hd0:d=Lib.tabData k zs) (hm:(name,d)∈l) (hg:P.globalNamed name=some g) (hty:(P.globals[g]?).map (·.type)=some t) (ht:P.underlying t=some (.array n e)) (he:P.underlying e=some (.int k)) (hce:P.cellsOf e=1) (hct:P.cellsOf t=n)
  (h:laidMet P l W):Lib.TabIs P W name k zs:=by
 obtain ⟨ps,hl,_⟩:=h;obtain ⟨g',Z,cs,Y,p,hg',U,O,hd⟩:=N4 hl hm;obtain rfl:=Option.some.inj (hg.symm.trans hg');obtain rfl:=Option.some.inj (hty.symm.trans U);rw [hd0] at hd;unfold Lib.TabIs;rw [O,<-Lib.cells_of_tab ht he hce hct hd]
theorem Yd{W:World}(h:laidMetH Tryz.prog L4 W):Txa W:=by
 rw [MakeChecks.laidMetH_plain _ _ _ AD] at h;have h1:Lib.TabIs Tryz.prog W "concord/decimal.tens" .i64 [1,10,100,1000,10000,100000,1000000]:=Xh (d:=Rows.laid_concord_decimal_tens) rfl (by simp [L4]) N3 GrA Tryz.underlying205 Tryz.underlying3 AD AD h;have h3:Lib.TabIs Tryz.prog W "internal/strconv.uint64pow10" .u64 Lib.pow10Tab:=Xh (d:=Rows.laid_internal_strconv_uint64pow10) AD (by simp [L4]) GdA AD Tryz.underlying247 Tryz.underlying178 AD AD h;exact ⟨⟨h1.cell N3 0 AB,h1.cell N3 1 AB,h1.cell N3 2 AB,h1.cell N3 3 AB,h1.cell N3 4 AB,h1.cell N3 5 AB,h1.cell N3 6 AB⟩,h3⟩
theorem XM{H:Type}{enc:TypeId × Value->H}{W:World}{base:Nat}{a:Option Addr}{len cap fuel:Nat}{held:Bool}{x:DataW H × List MemPlace}(h:DataW.trod enc Tryz.prog W base (λ_=>true) held fuel 22 (Value.slice a len cap).cells.toList=some x) :
  ∃ l:List Int,l.length=len/\IntsL W (λ_=>True) a l/\l.length<=cap:=by
 rcases open_ints Tryz.underlying22 Tryz.underlying3 AD h with ⟨hcs,_⟩|⟨y,l,c,zs,hcs,_,hl,hm,hz,_,O,Y⟩
 ·simp [Value.cells] at hcs;obtain ⟨rfl,rfl,rfl⟩:=hcs;exact ⟨[],rfl,⟨Or.inl rfl,AC⟩,Nat.zero_le _⟩
 ·simp [Value.cells] at hcs;obtain ⟨rfl,rfl,rfl⟩:=hcs;simp only [if_true] at hz;exact ⟨zs.take len,BP,DaA O AA,BP⟩
theorem CzA(os:Os)(args:Array Value):laidMetH Tryz.prog L4 ((World.laidAll Tryz.prog os L4).forCall (λ_ _=>0) ⟨#[],args,[]⟩).memory:=by
 rw [MakeChecks.laidMetH_plain _ _ _ AD];exact laidMet_laidAll _ AD AD
section
variable {H:Type}{enc:TypeId × Value->H}
theorem Wy{a:Assume}{C:Checked}{os:Os}{f:FuncId}{fn:Func}{s:ChangeSpec}{conds:List PathCond}{apart fresh handsOn again:Bool}{X:World->Array Value->Prop}
  (hX:∀ (w J:World) (args:Array Value),w.heap=J.heap->X w args->X J args)
  (own:ownKnob C.prog.godebug=none) (started:os.Started) (noInit:C.prog.inits.idxOf? f=none) (hfn:C.prog.funcs[f]?=some fn)
  (witness:∃ (w:World) (tape:Tape) (i:Input),w.os=os/\(w.forCall tape i).Shaped C.prog/\i.vars=[]/\Input.okWide C.prog (w.forCall tape i) .any w.heap.size f i /\
   ((s.pre enc C.prog fn conds apart (w.forCall tape i).memory i.args/\X (w.forCall tape i).memory i.args)/\sizedMet enc C.prog fn (OpenSpec.ofChange s) apart (w.forCall tape i).memory i.args)/\a.holds C.prog (lone (Frame.enter C.prog f i.args .normal) [] (w.forCall tape i)))
  (contract:∀ (W:World) (base:Nat) (args:Array Value) (ds gs:List (DataW H)) (before:List MemPlace),
   (∀ (j:Nat) t v,fn.params[j]?=some t->args[j]?=some v->Value.okWide C.prog W .any base t v) ->
   DataW.Whole enc C.prog fn.params.toList s.vars apart W args.toList ds gs before->W.ShapedOpen C.prog->X W args ->
   Calls C.prog f args W λe W'=>∃ v,e=.returned v/\s.post enc C.prog fn apart fresh handsOn again W args v W') :
  ReturnsInHanded a C os f .any (λw args=>(s.pre enc C.prog fn conds apart w args/\X w args)/\sizedMet enc C.prog fn (OpenSpec.ofChange s) apart w args) (s.post enc C.prog fn apart fresh handsOn again):=by
 refine returnsInHanded_of_calls own started noInit witness ?_;intro w tape i _ a8 _ Z hpre _;obtain ⟨_,_,_,Y,O,_,_,_,_,U⟩:=Z;have e:Y=fn:=Option.some.inj (O.symm.trans hfn);subst e;obtain ⟨⟨⟨ds,gs,before,hw,hc⟩,hx⟩,hz⟩:=hpre;refine (contract (w.forCall tape i) w.heap.size i.args ds gs before U (DataW.Whole.of_heap (w':=w.forCall tape i) AG hw) a8 (hX _ _ _ AG hx)).mono λe W' ⟨v,he,hp⟩ => ?_;subst he;exact ChangeSpec.post_blind hp
end
end Go.Proofs.YtaccjdppmmoepaaGreatDoor
namespace Go.Proofs.YtaccjdppmmoepaaGreatDoor
open Go Go.ChangeShapes Go.WideShapes Go.ChangeAt Go.WideMaps Go.WideElems Go.RowKit

theorem E7A:Tryz.pinned.checked.prog.mainIs=some ((true, "40d6199ddff85c502d5f97c63bbfc07eebedb8e054da6c6d60197eb2a5954772").fst,(true, "40d6199ddff85c502d5f97c63bbfc07eebedb8e054da6c6d60197eb2a5954772").snd.toList):=by kernel_rfl
end Go.Proofs.YtaccjdppmmoepaaGreatDoor
namespace Go.Proofs.YtaccjdppmmoepaaGreatDoor
open Go Go.ChangeShapes Go.WideShapes Go.ChangeAt Go.WideMaps Go.WideElems Go.RowKit

theorem EJA{H:Type}{enc:TypeId × Value->H}{W:World}{base b0:Nat}{r:Reach}{held:Bool}{v:Value}{d:DataW H}{ps:List MemPlace}(hok:Value.okWide Tryz.prog W r b0 23 v)(h:DataW.Trod enc Tryz.prog W base (λ_=>true) held 23 v d ps) :
  ∃ a b c e:Int,v=.agg #[.int .i64 a,.int .i64 b,.int .i64 c,.int .i64 e]:=by
 simp only [Value.okWide,Tryz.underlying23] at hok;obtain ⟨cs,rfl,hs,_⟩:=hok;have h3:Tryz.prog.cellsOf 23=4:=AD;have c1:Tryz.prog.cellsOf 3=1:=AD;rw [h3] at hs;obtain ⟨U,hf⟩:=h;obtain ⟨xs,m,_,_,Y,hn,O⟩:=DataW.trod_array Tryz.underlying23 hf;obtain ⟨l⟩:=cs
 match l,hs with
 |[x0,x1,x2,x3],_ =>
  have one:∀ i,i<4->∀ x,[x0,x1,x2,x3][i]?=some x->∃ a,x=.int .i64 a:=by
   intro i hi x hx;have h1:=O i hi;rw [c1,Nat.mul_one] at h1;cases hxs:xs[i]? with
   |none=>rw [List.getElem?_eq_none_iff] at hxs;omega
   |some y =>
    rw [hxs] at h1;obtain ⟨k,e1,_,_⟩:=DataW.trod_int Tryz.underlying3 h1;have:=congrArg (·[0]?) e1;simp [Value.cells,List.getElem?_drop,hx] at this;exact ⟨k,this⟩
  obtain ⟨a,rfl⟩:=one 0 AA x0 rfl;obtain ⟨b,rfl⟩:=one 1 AA x1 rfl;obtain ⟨c,rfl⟩:=one 2 AA x2 rfl;obtain ⟨e,rfl⟩:=one 3 AA x3 rfl;exact ⟨a,b,c,e,rfl⟩
