/- From the row's reading of the arguments: how long a list of ints can be (its bytes are at most 2^47). No conditions. -/
import Derived.Test.YtomdpipekmcojaaGreatDoorBk24
import Derived.Test.YtomdpipekmcojaaGreatDoorBkKeK1
import Derived.Test.YtomdpipekmcojaaGreatDoorBkKeK2
import Derived.Test.YtomdpipekmcojaaGreatDoorBkKeK5
import Derived.Test.YtomdpipekmcojaaGreatDoorBkMainIs
namespace Go.Proofs.YtomdpipekmcojaaGreatDoor
open Go Go.ChangeShapes Go.WideShapes Go.ChangeAt Go.WideMaps Go.WideElems Go.RowKit

theorem bytesInt:Tryz.prog.bytesOf 3=8:=by kernel_rfl
theorem weigh2 {H:Type} {P:Program} {t0 t1:TypeId} {ts:List TypeId} {d0 d1:DataW H} {ds:List (DataW H)} (h:(DataW.weightsEach P (t0 :: t1 :: ts) (d0 :: d1 :: ds)).all (·≤reachBytes)=true):(DataW.weights P t1 d1).all (·≤reachBytes)=true:=by
 simp only [DataW.weightsEach,List.all_append,Bool.and_eq_true] at h;exact h.2.1
theorem sized_l {H:Type} {enc:TypeId × Value→H} {W:World} {base:Nat} {a:Option Addr} {len cap fuel:Nat} {held:Bool} {d:DataW H} {p:List MemPlace} (h:DataW.trod enc Tryz.prog W base (fun _=>true) held fuel 26 (Value.slice a len cap).cells.toList=some (d,p))
  (hw:(DataW.weights Tryz.prog 26 d).all (·≤reachBytes)=true):len≤17592186044000:=by
 rcases open_ints Tryz.underlying26 Tryz.underlying3 (by kernel_rfl) h with ⟨hcs,_⟩ | ⟨y,l,c,zs,hcs,_,hl,hm,hz,hx,hcell,hwz⟩
 ·simp [Value.cells] at hcs;omega
 ·simp [Value.cells] at hcs;obtain ⟨rfl,rfl,rfl⟩:=hcs;injection hx with hx _;subst hx;simp only [DataW.weights,Tryz.underlying26,List.all_cons,Bool.and_eq_true,decide_eq_true_eq,bytesInt] at hw;have h1:=hw.1;unfold reachBytes at h1;have h2:∀ (k:IntKind) (ys:List Int),(lits k ys:List (DataW H)).length=ys.length:=fun k ys=>by simp [lits]
  rw [h2,h2,List.length_take,List.length_drop] at h1;simp only [if_true] at hz;omega
end Go.Proofs.YtomdpipekmcojaaGreatDoor
/- The law QuestionKeeps: the row of the statement, and its card, tied to the program's text. No conditions but those that the given statement bears. -/
namespace Go.Proofs.YtomdpipekmcojaaGreatDoor
open Go Go.ChangeShapes Go.WideShapes Go.ChangeAt Go.WideMaps Go.WideElems Go.RowKit

set_option maxRecDepth 100000 in
theorem keeps_lifted (os:Os) (started:os.Started) (H:Type) (enc:TypeId × Value→H) :
  ReturnsInHanded {} Tryz.checked os 9 .any (fun w args=>(Rows.questionKeepsSpec.pre enc Tryz.prog Tryz.f9 [] false w args∧laidMetH Tryz.prog [("concord/decimal.tens",Rows.laid_concord_decimal_tens)] w)∧sizedMet enc Tryz.prog Tryz.f9 (OpenSpec.ofChange Rows.questionKeepsSpec) false w args)
   (Rows.questionKeepsSpec.post enc Tryz.prog Tryz.f9 false true false false):=by
 refine returnsInHanded_of_change_and (C:=Tryz.checked) (X:=fun w _=>laidMetH Tryz.prog [("concord/decimal.tens",Rows.laid_concord_decimal_tens)] w) (fun _ _ _ hh h=>h.of_heap hh) own started (by kernel_rfl) Tryz.func9
  (ChangeSpec.witness_shaped (enc:=enc) (C:=Tryz.checked) (os:=os) (X:=fun w _=>laidMetH Tryz.prog [("concord/decimal.tens",Rows.laid_concord_decimal_tens)] w) false (World.doorLaid Tryz.prog 400 os) #[.slice none 0 0,.slice none 0 0] 8 rfl (World.shaped_of_RefB (by kernel_rfl) (by kernel_rfl)) (by kernel_rfl) (by kernel_rfl) (by kernel_rfl) (door_met os _)) ?_
 intro W base args ds gs before hval0 hW _ hwt hL _;have hval:∀ (j:Nat) t v,Tryz.f9.params[j]?=some t→args[j]?=some v→Value.okWide Tryz.prog W .any base t v:=hval0;have hW':=hW;obtain ⟨p,q,hA0,hV,rfl,hfz,hnd⟩:=hW;have hA:DataW.TrodAll enc Tryz.prog W 0 (fun _=>true) true Tryz.f9.params.toList args.toList ds p:=hA0;rw [Tryz.params9] at hA hval;obtain ⟨v0,vs0,d0,ds0,p0,q0,hargs,rfl,rfl,h0,r0⟩:=trodAll_cons hA;obtain ⟨v1,vs1,d1,ds1,p1,q1,rfl,rfl,rfl,h1,r1⟩:=trodAll_cons r0;obtain ⟨rfl,rfl,rfl⟩:=trodAll_nil r1;obtain rfl:args=#[v0,v1]:=by cases args; simp_all
 obtain ⟨rfl,rfl⟩:=trodVars_none hV;obtain ⟨a0,len0,cap0,rfl⟩:=okWide_slice Tryz.underlying22 (hval 0 22 v0 rfl rfl);obtain ⟨a1,len1,cap1,rfl⟩:=okWide_slice Tryz.underlying26 (hval 1 26 v1 rfl rfl);have k0:=h0;have lt0:∀ x∈p0,x.block<W.heap.size:=(by obtain ⟨m,hm⟩:=k0; exact DataW.trod_lt m _ _ _ hm);have k1:=h1;have lt1:∀ x∈p1,x.block<W.heap.size:=(by obtain ⟨m,hm⟩:=k1; exact DataW.trod_lt m _ _ _ hm);obtain ⟨l0,rfl,w0⟩:=(by obtain ⟨fuel,hf⟩:=h0; exact open_ll hf:∃ l:List (List Int),l.length=len0∧II W (fun _=>True) a0 l∧l.length≤cap0);have sz1:len1≤17592186044000:=(by obtain ⟨fuel,hf⟩:=h1; exact sized_l hf (weigh2 (show (DataW.weightsEach Tryz.prog (22 :: 26 :: _) (d0 :: d1 :: _)).all (·≤reachBytes)=true from hwt)));obtain ⟨l1,rfl,w1⟩:=(by obtain ⟨fuel,hf⟩:=h1; exact open_l hf:∃ l:List Int,l.length=len1∧Rd W (fun _=>True) a1 (l.map (Value.int .i64))∧l.length≤9223372036854775807∧l.length≤cap1);clear hA0 hval0;refine (law_Keeps l0 l1 a0 cap0 a1 cap1 W (fun _=>True) (fun _=>True) (of_laid hL) w0.1 w0.2 w1.1 sz1).mono fun e W' ⟨he,hx⟩ => ?_;subst he;have bel:Below W.heap.size W W':=hx;exact ⟨_,rfl,_,_,_,[],_,[],hW',trodAll_mk1 (shut_bool Tryz.underlying4 _),(trodAll_cons_mk (Below.trod laidOut (by kernel_rfl) (of_decide_eq_true (by kernel_rfl)) k0 bel lt0) (trodAll_cons_mk (Below.trod laidOut (by kernel_rfl) (of_decide_eq_true (by kernel_rfl)) k1 bel lt1) trodAll_mk0)),rfl,bel.frame _,fun h=>by cases h⟩
theorem keeps_holds:Rows.QuestionKeepsSaid :=
 OpenClaim.holds_of_wide 9 Tryz.f9 rfl rfl rfl rfl rfl rfl rfl ⟨rfl,rfl,rfl,rfl,rfl⟩ rfl rfl rfl rfl rfl keeps_k1 Tryz.func9 keeps_k2
  (of_decide_eq_true (by kernel_rfl)) (by unfold Func.isWrapper; first | (rw [if_pos (by decide +kernel)]; kernel_rfl) | (rw [if_neg (by decide +kernel)]; exact ⟨rfl,rfl⟩))
  (fun os started H enc _=>keeps_lifted os started H enc)
theorem questionKeeps_card:Rows.QuestionKeepsCardSaid :=
 Claim7.holds_tied_plain_at .later [] [.data] true (true, "8e6fdeea6caea660bb66a34633d4ce5475cf50e4245809de374d7957d0372c58") false
  keeps_holds (fun _ h=>by cases h) (by kernel_rfl) (fun _ h=>by cases h) questionKeeps_row_tie rfl ⟨rfl,rfl⟩ main_is rfl
  (fun f fn hf hfn=>by
   obtain rfl:f=9:=Option.some.inj ((show Tryz.prog.funcNamed "concord/concordlaw25.QuestionKeeps" = some 9 from keeps_k1).symm.trans hf) |>.symm;obtain rfl:fn=Tryz.f9:=(Option.some.inj (Tryz.func9.symm.trans hfn)).symm;exact ⟨by kernel_rfl,fun j t ht=>by
    rw [Tryz.params9] at ht;have hm:t∈[22,26]:=(by simpa using Array.mem_of_getElem? ht);have hall:([22,26].all fun u => !Tryz.prog.wantsStandIn u)=true:=(by kernel_rfl);exact (show Tryz.prog.wantsStandIn t=false by simpa using List.all_eq_true.1 hall t hm)⟩)
  keeps_k5
#print axioms questionKeeps_card
end Go.Proofs.YtomdpipekmcojaaGreatDoor
