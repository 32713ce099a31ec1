/- The law QuestionWrong: the row of the statement, and its card, tied to the program's text. No conditions but those that the given statement bears. -/
import Derived.Test.YtomdpipekmcojaaGreatDoorBw25
import Derived.Test.YtomdpipekmcojaaGreatDoorBwWrK1
import Derived.Test.YtomdpipekmcojaaGreatDoorBwWrK2
import Derived.Test.YtomdpipekmcojaaGreatDoorBwWrK5
import Derived.Test.YtomdpipekmcojaaGreatDoorBwMainIs
namespace Go.Proofs.YtomdpipekmcojaaGreatDoor
open Go Go.ChangeShapes Go.WideShapes Go.ChangeAt Go.WideMaps Go.WideElems Go.RowKit

set_option maxRecDepth 100000 in
theorem wrong_lifted (os:Os) (started:os.Started) (H:Type) (enc:TypeId × Value→H) :
  ReturnsInHanded {} Tryz.checked os 5 .any (fun w args=>(Rows.questionWrongSpec.pre enc Tryz.prog Tryz.f5 [] false w args∧laidMetH Tryz.prog [("concord/decimal.tens",Rows.laid_concord_decimal_tens)] w)∧sizedMet enc Tryz.prog Tryz.f5 (OpenSpec.ofChange Rows.questionWrongSpec) false w args)
   (Rows.questionWrongSpec.post enc Tryz.prog Tryz.f5 false true false false):=by
 refine returnsInHanded_of_change_and (C:=Tryz.checked) (X:=fun w _=>laidMetH Tryz.prog [("concord/decimal.tens",Rows.laid_concord_decimal_tens)] w) (fun _ _ _ hh h=>h.of_heap hh) own started (by kernel_rfl) Tryz.func5
  (ChangeSpec.witness_shaped (enc:=enc) (C:=Tryz.checked) (os:=os) (X:=fun w _=>laidMetH Tryz.prog [("concord/decimal.tens",Rows.laid_concord_decimal_tens)] w) false (World.doorLaid Tryz.prog 400 os) #[.slice none 0 0,.int .u8 0,.int .i64 0] 8 rfl (World.shaped_of_RefB (by kernel_rfl) (by kernel_rfl)) (by kernel_rfl) (by kernel_rfl) (by kernel_rfl) (door_met os _)) ?_
 intro W base args ds gs before hval0 hW _ _ hL _;have hval:∀ (j:Nat) t v,Tryz.f5.params[j]?=some t→args[j]?=some v→Value.okWide Tryz.prog W .any base t v:=hval0;have hW':=hW;obtain ⟨p,q,hA0,hV,rfl,hfz,hnd⟩:=hW;have hA:DataW.TrodAll enc Tryz.prog W 0 (fun _=>true) true Tryz.f5.params.toList args.toList ds p:=hA0;rw [Tryz.params5] at hA hval;obtain ⟨v0,vs0,d0,ds0,p0,q0,hargs,rfl,rfl,h0,r0⟩:=trodAll_cons hA;obtain ⟨v1,vs1,d1,ds1,p1,q1,rfl,rfl,rfl,h1,r1⟩:=trodAll_cons r0;obtain ⟨v2,vs2,d2,ds2,p2,q2,rfl,rfl,rfl,h2,r2⟩:=trodAll_cons r1;obtain ⟨rfl,rfl,rfl⟩:=trodAll_nil r2;obtain rfl:args=#[v0,v1,v2]:=by cases args; simp_all
 obtain ⟨rfl,rfl⟩:=trodVars_none hV;obtain ⟨a0,len0,cap0,rfl⟩:=okWide_slice Tryz.underlying22 (hval 0 22 v0 rfl rfl);have k0:=h0;have lt0:∀ x∈p0,x.block<W.heap.size:=(by obtain ⟨m,hm⟩:=k0; exact DataW.trod_lt m _ _ _ hm);have k1:=h1;have lt1:∀ x∈p1,x.block<W.heap.size:=(by obtain ⟨m,hm⟩:=k1; exact DataW.trod_lt m _ _ _ hm);have k2:=h2;have lt2:∀ x∈p2,x.block<W.heap.size:=(by obtain ⟨m,hm⟩:=k2; exact DataW.trod_lt m _ _ _ hm);obtain ⟨l0,rfl,w0⟩:=(by obtain ⟨fuel,hf⟩:=h0; exact open_ll hf:∃ l:List (List Int),l.length=len0∧II W (fun _=>True) a0 l∧l.length≤cap0);obtain ⟨z1,rfl,-,-,b1⟩:=open_int Tryz.underlying5 (hval 1 5 v1 rfl rfl) h1;have b1r:=bounds_u8 b1;obtain ⟨u1,rfl⟩:∃ n:Nat,z1=(n:Int):=⟨z1.toNat,by omega⟩;obtain ⟨i2,rfl,-,-,b2⟩:=open_int Tryz.underlying3 (hval 2 3 v2 rfl rfl) h2;clear hA0 hval0;refine (law_Wrong l0 u1 (by omega) i2 a0 cap0 W (fun _=>True) (of_laid hL) w0.1 w0.2).mono fun e W' ⟨he,hx⟩ => ?_;subst he;have bel:Below W.heap.size W W':=hx;exact ⟨_,rfl,_,_,_,[],_,[],hW',trodAll_mk1 (shut_bool Tryz.underlying4 _),(trodAll_cons_mk (Below.trod laidOut (by kernel_rfl) (of_decide_eq_true (by kernel_rfl)) k0 bel lt0) (trodAll_cons_mk (Below.trod laidOut (by kernel_rfl) (of_decide_eq_true (by kernel_rfl)) k1 bel lt1) (trodAll_cons_mk (Below.trod laidOut (by kernel_rfl) (of_decide_eq_true (by kernel_rfl)) k2 bel lt2) trodAll_mk0))),rfl,bel.frame _,fun h=>by cases h⟩
theorem wrong_holds:Rows.QuestionWrongSaid :=
 OpenClaim.holds_of_wide 5 Tryz.f5 rfl rfl rfl rfl rfl rfl rfl ⟨rfl,rfl,rfl,rfl,rfl⟩ rfl rfl rfl rfl rfl wrong_k1 Tryz.func5 wrong_k2
  (of_decide_eq_true (by kernel_rfl)) (by unfold Func.isWrapper; first | (rw [if_pos (by decide +kernel)]; kernel_rfl) | (rw [if_neg (by decide +kernel)]; exact ⟨rfl,rfl⟩))
  (fun os started H enc _=>wrong_lifted os started H enc)
theorem questionWrong_card:Rows.QuestionWrongCardSaid :=
 Claim7.holds_tied_plain_at .later [] [.data] true (true, "8e6fdeea6caea660bb66a34633d4ce5475cf50e4245809de374d7957d0372c58") false
  wrong_holds (fun _ h=>by cases h) (by kernel_rfl) (fun _ h=>by cases h) questionWrong_row_tie rfl ⟨rfl,rfl⟩ main_is rfl
  (fun f fn hf hfn=>by
   obtain rfl:f=5:=Option.some.inj ((show Tryz.prog.funcNamed "concord/concordlaw25.QuestionWrong" = some 5 from wrong_k1).symm.trans hf) |>.symm;obtain rfl:fn=Tryz.f5:=(Option.some.inj (Tryz.func5.symm.trans hfn)).symm;exact ⟨by kernel_rfl,fun j t ht=>by
    rw [Tryz.params5] at ht;have hm:t∈[22,5,3]:=(by simpa using Array.mem_of_getElem? ht);have hall:([22,5,3].all fun u => !Tryz.prog.wantsStandIn u)=true:=(by kernel_rfl);exact (show Tryz.prog.wantsStandIn t=false by simpa using List.all_eq_true.1 hall t hm)⟩)
  wrong_k5
#print axioms questionWrong_card
end Go.Proofs.YtomdpipekmcojaaGreatDoor
