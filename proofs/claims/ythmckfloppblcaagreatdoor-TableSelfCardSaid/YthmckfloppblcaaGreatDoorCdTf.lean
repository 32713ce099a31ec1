/- The law TableSelf: the row of the statement, and its card, tied to the program's text. No conditions but those that the given statement bears. -/
import Derived.Test.YthmckfloppblcaaGreatDoorBv3
import Derived.Test.YthmckfloppblcaaGreatDoorBvA
import Derived.Test.YthmckfloppblcaaGreatDoorBvTfK1
import Derived.Test.YthmckfloppblcaaGreatDoorBvTfK2
import Derived.Test.YthmckfloppblcaaGreatDoorBvTfK5
set_option maxRecDepth 100000
set_option maxHeartbeats 400000
namespace Go.Proofs.YthmckfloppblcaaGreatDoor
open Go Go.ChangeShapes Go.WideShapes Go.ChangeAt Go.WideMaps Go.WideElems Go.RowKit

theorem main_is:Tryz.pinned.checked.prog.mainIs=some ((true, "960a2e83027fb4445844f0d098283cda119fb16a874a24b6797da89b2dd06a98").fst,(true, "960a2e83027fb4445844f0d098283cda119fb16a874a24b6797da89b2dd06a98").snd.toList):=by kernel_rfl
end Go.Proofs.YthmckfloppblcaaGreatDoor
namespace Go.Proofs.YthmckfloppblcaaGreatDoor
open Go Go.ChangeShapes Go.WideShapes Go.ChangeAt Go.WideMaps Go.WideElems Go.RowKit

theorem selfj_lifted (os:Os) (started:os.Started) (H:Type) (enc:TypeId × Value→H) :
  ReturnsInHanded {} Tryz.checked os 4 .any (fun w args=>(Rows.tableSelfSpec.pre enc Tryz.prog Tryz.f4 [] false w args∧laidMetH Tryz.prog L7 w)∧sizedMet enc Tryz.prog Tryz.f4 (OpenSpec.ofChange Rows.tableSelfSpec) false w args)
   (Rows.tableSelfSpec.post enc Tryz.prog Tryz.f4 false true false false):=by
 refine handed_shape (C:=Tryz.checked) (X:=fun w _=>laidMetH Tryz.prog L7 w) (fun _ _ _ hh h=>h.of_heap hh) own started (by kernel_rfl) Tryz.func4
  (ChangeSpec.witness_shaped (enc:=enc) (C:=Tryz.checked) (os:=os) (X:=fun w _=>laidMetH Tryz.prog L7 w) false (World.laidAll Tryz.prog os L7) #[.slice none 0 0,.int .i64 0] 8 (World.laidAll_os _ _ _) (World.shaped_of_ZipB (by kernel_rfl) (by kernel_rfl)) (by kernel_rfl) (by kernel_rfl) (by kernel_rfl) (door_met7 os _)) ?_
 intro W base args ds gs before hval0 hW hSH hL;have hval:∀ (j:Nat) t v,Tryz.f4.params[j]?=some t→args[j]?=some v→Value.okWide Tryz.prog W .any base t v:=hval0;have hW':=hW;obtain ⟨p,q,hA0,hV,rfl,hfz,hnd⟩:=hW;have hA:DataW.TrodAll enc Tryz.prog W 0 (fun _=>true) true Tryz.f4.params.toList args.toList ds p:=hA0;rw [Tryz.params4] at hA hval;obtain ⟨v0,vs0,d0,ds0,p0,q0,hargs,rfl,rfl,h0,r0⟩:=trodAll_cons hA;obtain ⟨v1,vs1,d1,ds1,p1,q1,rfl,rfl,rfl,h1,r1⟩:=trodAll_cons r0;obtain ⟨rfl,rfl,rfl⟩:=trodAll_nil r1;obtain rfl:args=#[v0,v1]:=by cases args; simp_all
 obtain ⟨rfl,rfl⟩:=trodVars_none hV;obtain ⟨a0,len0,cap0,rfl⟩:=okWide_slice Tryz.underlying22 (hval 0 22 v0 rfl rfl);have k0:=h0;have lt0:∀ x∈p0,x.block<W.heap.size:=(by obtain ⟨m,hm⟩:=k0; exact DataW.trod_lt m _ _ _ hm);have k1:=h1;have lt1:∀ x∈p1,x.block<W.heap.size:=(by obtain ⟨m,hm⟩:=k1; exact DataW.trod_lt m _ _ _ hm);obtain ⟨l0,rfl,w0⟩:=(by obtain ⟨fuel,hf⟩:=h0; exact open_l hf:∃ l:List Int,l.length=len0∧IntsL W (fun _=>True) a0 l);obtain ⟨i1,rfl,-,-,b1⟩:=open_int Tryz.underlying3 (hval 1 3 v1 rfl rfl) h1;clear hA0 hval0;refine (law_Self l0 i1 a0 cap0 W (fun _=>True) (txt_of_laid hL).tens (txm_of hL hSH) w0).mono fun e W' ⟨he,hx⟩ => ?_;subst he;have bel:Below W.heap.size W W':=hx;exact ⟨_,rfl,_,_,_,[],_,[],hW',trodAll_mk1 (shut_bool Tryz.underlying4 _),(trodAll_cons_mk (Below.trod laidOut (by kernel_rfl) (of_decide_eq_true (by kernel_rfl)) k0 bel lt0) (trodAll_cons_mk (Below.trod laidOut (by kernel_rfl) (of_decide_eq_true (by kernel_rfl)) k1 bel lt1) trodAll_mk0)),rfl,bel.frame _,fun h=>by cases h⟩
theorem selfj_holds:Rows.TableSelfSaid :=
 OpenClaim.holds_of_wide 4 Tryz.f4 rfl rfl rfl rfl rfl rfl rfl ⟨rfl,rfl,rfl,rfl,rfl⟩ rfl rfl rfl rfl rfl selfj_k1 Tryz.func4 selfj_k2
  (of_decide_eq_true (by kernel_rfl)) (by unfold Func.isWrapper; first | (rw [if_pos (by decide +kernel)]; kernel_rfl) | (rw [if_neg (by decide +kernel)]; exact ⟨rfl,rfl⟩))
  (fun os started H enc _=>selfj_lifted os started H enc)
theorem tableSelf_card:Rows.TableSelfCardSaid :=
 Claim7.holds_tied_plain_at .later [] [.data,.data,.data,.data,.data,.data,.pinned] true (true, "960a2e83027fb4445844f0d098283cda119fb16a874a24b6797da89b2dd06a98") false
  selfj_holds (fun _ h=>by cases h) (by kernel_rfl) (fun _ h=>by cases h) tableSelf_row_tie rfl ⟨rfl,rfl⟩ main_is rfl
  (fun f fn hf hfn=>by
   obtain rfl:f=4:=Option.some.inj ((show Tryz.prog.funcNamed "concord/concordlaw09.TableSelf" = some 4 from selfj_k1).symm.trans hf) |>.symm;obtain rfl:fn=Tryz.f4:=(Option.some.inj (Tryz.func4.symm.trans hfn)).symm;exact ⟨by kernel_rfl,fun j t ht=>by
    rw [Tryz.params4] at ht;have hm:t∈[22,3]:=(by simpa using Array.mem_of_getElem? ht);have hall:([22,3].all fun u => !Tryz.prog.wantsStandIn u)=true:=(by kernel_rfl);exact (show Tryz.prog.wantsStandIn t=false by simpa using List.all_eq_true.1 hall t hm)⟩)
  selfj_k5
#print axioms tableSelf_card
end Go.Proofs.YthmckfloppblcaaGreatDoor
