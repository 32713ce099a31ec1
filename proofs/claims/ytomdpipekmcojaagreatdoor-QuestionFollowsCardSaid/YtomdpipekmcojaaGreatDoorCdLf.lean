/- From the row's reading of an argument [3]int to the words of the walks. No conditions. -/
import Derived.Test.YtomdpipekmcojaaGreatDoorBf24
import Derived.Test.YtomdpipekmcojaaGreatDoorBfLfK1
import Derived.Test.YtomdpipekmcojaaGreatDoorBfLfK2
import Derived.Test.YtomdpipekmcojaaGreatDoorBfLfK5
import Derived.Test.YtomdpipekmcojaaGreatDoorBfMainIs
namespace Go.Proofs.YtomdpipekmcojaaGreatDoor
open Go Go.ChangeShapes Go.WideShapes Go.ChangeAt Go.WideMaps Go.WideElems Go.RowKit

def inI (a:Int):Prop:=-9223372036854775808≤a∧a≤9223372036854775807
set_option maxRecDepth 100000 in
theorem open_q {H:Type} {enc:TypeId × Value→H} {W:World} {base b0:Nat} {r:Reach} {held:Bool} {v:Value} {d:DataW H} {ps:List MemPlace} (hok:Value.okWide Tryz.prog W r b0 49 v) (h:DataW.Trod enc Tryz.prog W base (fun _=>true) held 49 v d ps) :
  ∃ a b c:Int,v=.agg #[.int .i64 a,.int .i64 b,.int .i64 c]∧inI a∧inI b∧inI c:=by
 simp only [Value.okWide,Tryz.underlying49] at hok;obtain ⟨cs,rfl,hs,_⟩:=hok;have h3:Tryz.prog.cellsOf 49=3:=(by kernel_rfl);have c1:Tryz.prog.cellsOf 3=1:=(by kernel_rfl);rw [h3] at hs;obtain ⟨fuel,hf⟩:=h;obtain ⟨xs,m,_,_,hlen,hn,hel⟩:=DataW.trod_array Tryz.underlying49 hf;obtain ⟨l⟩:=cs
 match l,hs with
 | [x0,x1,x2],_ =>
  have one:∀ i,i<3→∀ x,[x0,x1,x2][i]?=some x→∃ a,x=.int .i64 a∧inI a:=by
   intro i hi x hx;have h1:=hel i hi;rw [c1,Nat.mul_one] at h1;cases hxs:xs[i]? with
   | none=>rw [List.getElem?_eq_none_iff] at hxs; omega
   | some y =>
    rw [hxs] at h1;obtain ⟨k,e1,e2,e3⟩:=DataW.trod_int Tryz.underlying3 h1;have:=congrArg (·[0]?) e1;simp [Value.cells,List.getElem?_drop,hx] at this;refine ⟨k,this,?_⟩;exact bounds_i64 e3
  obtain ⟨a,rfl,ha⟩:=one 0 (by omega) x0 rfl;obtain ⟨b,rfl,hb⟩:=one 1 (by omega) x1 rfl;obtain ⟨c,rfl,hc⟩:=one 2 (by omega) x2 rfl;exact ⟨a,b,c,rfl,ha,hb,hc⟩
end Go.Proofs.YtomdpipekmcojaaGreatDoor
/- The law QuestionFollows: the row of the statement, and its card, tied to the program's text. No conditions but those that the given statement bears. -/
namespace Go.Proofs.YtomdpipekmcojaaGreatDoor
open Go Go.ChangeShapes Go.WideShapes Go.ChangeAt Go.WideMaps Go.WideElems Go.RowKit

set_option maxRecDepth 100000 in
theorem follows_lifted (os:Os) (started:os.Started) (H:Type) (enc:TypeId × Value→H) :
  ReturnsInHanded {} Tryz.checked os 6 .any (fun w args=>(Rows.questionFollowsSpec.pre enc Tryz.prog Tryz.f6 [] false w args∧laidMetH Tryz.prog [("concord/decimal.tens",Rows.laid_concord_decimal_tens)] w)∧sizedMet enc Tryz.prog Tryz.f6 (OpenSpec.ofChange Rows.questionFollowsSpec) false w args)
   (Rows.questionFollowsSpec.post enc Tryz.prog Tryz.f6 false true false false):=by
 refine returnsInHanded_of_change_and (C:=Tryz.checked) (X:=fun w _=>laidMetH Tryz.prog [("concord/decimal.tens",Rows.laid_concord_decimal_tens)] w) (fun _ _ _ hh h=>h.of_heap hh) own started (by kernel_rfl) Tryz.func6
  (ChangeSpec.witness_shaped (enc:=enc) (C:=Tryz.checked) (os:=os) (X:=fun w _=>laidMetH Tryz.prog [("concord/decimal.tens",Rows.laid_concord_decimal_tens)] w) false (World.doorLaid Tryz.prog 400 os) #[.slice none 0 0,.slice none 0 0,.agg #[.int .i64 0,.int .i64 0,.int .i64 0]] 8 rfl (World.shaped_of_RefB (by kernel_rfl) (by kernel_rfl)) (by kernel_rfl) (by kernel_rfl) (by kernel_rfl) (door_met os _)) ?_
 intro W base args ds gs before hval0 hW _ _ hL _;have hval:∀ (j:Nat) t v,Tryz.f6.params[j]?=some t→args[j]?=some v→Value.okWide Tryz.prog W .any base t v:=hval0;have hW':=hW;obtain ⟨p,q,hA0,hV,rfl,hfz,hnd⟩:=hW;have hA:DataW.TrodAll enc Tryz.prog W 0 (fun _=>true) true Tryz.f6.params.toList args.toList ds p:=hA0;rw [Tryz.params6] at hA hval;obtain ⟨v0,vs0,d0,ds0,p0,q0,hargs,rfl,rfl,h0,r0⟩:=trodAll_cons hA;obtain ⟨v1,vs1,d1,ds1,p1,q1,rfl,rfl,rfl,h1,r1⟩:=trodAll_cons r0;obtain ⟨v2,vs2,d2,ds2,p2,q2,rfl,rfl,rfl,h2,r2⟩:=trodAll_cons r1;obtain ⟨rfl,rfl,rfl⟩:=trodAll_nil r2;obtain rfl:args=#[v0,v1,v2]:=by cases args; simp_all
 obtain ⟨rfl,rfl⟩:=trodVars_none hV;obtain ⟨a0,len0,cap0,rfl⟩:=okWide_slice Tryz.underlying22 (hval 0 22 v0 rfl rfl);obtain ⟨a1,len1,cap1,rfl⟩:=okWide_slice Tryz.underlying26 (hval 1 26 v1 rfl rfl);have k0:=h0;have lt0:∀ x∈p0,x.block<W.heap.size:=(by obtain ⟨m,hm⟩:=k0; exact DataW.trod_lt m _ _ _ hm);have k1:=h1;have lt1:∀ x∈p1,x.block<W.heap.size:=(by obtain ⟨m,hm⟩:=k1; exact DataW.trod_lt m _ _ _ hm);have k2:=h2;have lt2:∀ x∈p2,x.block<W.heap.size:=(by obtain ⟨m,hm⟩:=k2; exact DataW.trod_lt m _ _ _ hm);obtain ⟨l0,rfl,w0⟩:=(by obtain ⟨fuel,hf⟩:=h0; exact open_ll hf:∃ l:List (List Int),l.length=len0∧II W (fun _=>True) a0 l∧l.length≤cap0);obtain ⟨l1,rfl,w1⟩:=(by obtain ⟨fuel,hf⟩:=h1; exact open_l hf:∃ l:List Int,l.length=len1∧Rd W (fun _=>True) a1 (l.map (Value.int .i64))∧l.length≤9223372036854775807∧l.length≤cap1);obtain ⟨q2a,q2b,q2c,rfl,b2a,b2b,b2c⟩:=open_q (hval 2 49 v2 rfl rfl) h2;clear hA0 hval0;refine (law_Follows l0 l1 q2a q2b q2c a0 cap0 a1 cap1 W (fun _=>True) (fun _=>True) (of_laid hL) w0.1 w0.2 w1.1 w1.2.1).mono fun e W' ⟨he,hx⟩ => ?_;subst he;have bel:Below W.heap.size W W':=hx;exact ⟨_,rfl,_,_,_,[],_,[],hW',trodAll_mk1 (shut_bool Tryz.underlying4 _),(trodAll_cons_mk (Below.trod laidOut (by kernel_rfl) (of_decide_eq_true (by kernel_rfl)) k0 bel lt0) (trodAll_cons_mk (Below.trod laidOut (by kernel_rfl) (of_decide_eq_true (by kernel_rfl)) k1 bel lt1) (trodAll_cons_mk (Below.trod laidOut (by kernel_rfl) (of_decide_eq_true (by kernel_rfl)) k2 bel lt2) trodAll_mk0))),rfl,bel.frame _,fun h=>by cases h⟩
theorem follows_holds:Rows.QuestionFollowsSaid :=
 OpenClaim.holds_of_wide 6 Tryz.f6 rfl rfl rfl rfl rfl rfl rfl ⟨rfl,rfl,rfl,rfl,rfl⟩ rfl rfl rfl rfl rfl follows_k1 Tryz.func6 follows_k2
  (of_decide_eq_true (by kernel_rfl)) (by unfold Func.isWrapper; first | (rw [if_pos (by decide +kernel)]; kernel_rfl) | (rw [if_neg (by decide +kernel)]; exact ⟨rfl,rfl⟩))
  (fun os started H enc _=>follows_lifted os started H enc)
theorem questionFollows_card:Rows.QuestionFollowsCardSaid :=
 Claim7.holds_tied_plain_at .later [] [.data] true (true, "8e6fdeea6caea660bb66a34633d4ce5475cf50e4245809de374d7957d0372c58") false
  follows_holds (fun _ h=>by cases h) (by kernel_rfl) (fun _ h=>by cases h) questionFollows_row_tie rfl ⟨rfl,rfl⟩ main_is rfl
  (fun f fn hf hfn=>by
   obtain rfl:f=6:=Option.some.inj ((show Tryz.prog.funcNamed "concord/concordlaw25.QuestionFollows" = some 6 from follows_k1).symm.trans hf) |>.symm;obtain rfl:fn=Tryz.f6:=(Option.some.inj (Tryz.func6.symm.trans hfn)).symm;exact ⟨by kernel_rfl,fun j t ht=>by
    rw [Tryz.params6] at ht;have hm:t∈[22,26,49]:=(by simpa using Array.mem_of_getElem? ht);have hall:([22,26,49].all fun u => !Tryz.prog.wantsStandIn u)=true:=(by kernel_rfl);exact (show Tryz.prog.wantsStandIn t=false by simpa using List.all_eq_true.1 hall t hm)⟩)
  follows_k5
#print axioms questionFollows_card
end Go.Proofs.YtomdpipekmcojaaGreatDoor
