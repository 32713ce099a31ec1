/- The law AbstractOf: the row of the statement, and its card, tied to the program's text. No conditions but those that the given statement bears. -/
import Derived.Test.YtidacnalcdhckaaGreatDoorOqLVo
import Derived.Test.YtidacnalcdhckaaGreatDoorOqVoK1
import Derived.Test.YtidacnalcdhckaaGreatDoorOqVoK2
import Derived.Test.YtidacnalcdhckaaGreatDoorOqVoK5
set_option maxRecDepth 100000
set_option maxHeartbeats 400000
namespace Go.Proofs.YtidacnalcdhckaaGreatDoor
open Go Go.ChangeShapes Go.WideShapes Go.ChangeAt Go.WideMaps Go.WideElems Go.RowKit

theorem LI(os:Os)(started:os.Started)(H:Type)(enc:TypeId × Value→H) :
  ReturnsInHanded {} Tryz.checked os 4 .any (fun w args=>(Rows.abstractOfSpec.pre enc Tryz.prog Tryz.f4 [] false w args∧laidMetH Tryz.prog L4 w)∧sizedMet enc Tryz.prog Tryz.f4 (OpenSpec.ofChange Rows.abstractOfSpec) false w args)
   (Rows.abstractOfSpec.post enc Tryz.prog Tryz.f4 false true false false):=by
 refine Wy (C:=Tryz.checked) (X:=fun w _=>laidMetH Tryz.prog L4 w) (fun _ _ _ hh h=>h.of_heap hh) own started AD Tryz.func4
  (ChangeSpec.witness_shaped (enc:=enc) (C:=Tryz.checked) (os:=os) (X:=fun w _=>laidMetH Tryz.prog L4 w) false (World.laidAll Tryz.prog os L4) #[.slice none 0 0,.agg #[.int .i64 0,.int .i64 0,.int .i64 0]] 8 (World.laidAll_os _ _ _) (World.shaped_of_ZipB AD AD) AD AD AD (CzA os _)) ?_
 intro W base args ds gs before hval0 hW hSH hL;have hval:∀ (j:Nat) t v,Tryz.f4.params[j]?=some t→args[j]?=some v→Value.okWide Tryz.prog W .any base t v:=hval0;have hW':=hW;obtain ⟨p,q,hA0,hV,rfl,hfz,hnd⟩:=hW;have hA:DataW.TrodAll enc Tryz.prog W 0 (fun _=>true) true Tryz.f4.params.toList args.toList ds p:=hA0;rw [Tryz.params4] at hA hval;obtain ⟨v0,vs0,d0,ds0,p0,q0,hargs,rfl,rfl,h0,r0⟩:=trodAll_cons hA;obtain ⟨v1,vs1,d1,ds1,p1,q1,rfl,rfl,rfl,h1,r1⟩:=trodAll_cons r0;obtain ⟨rfl,rfl,rfl⟩:=trodAll_nil r1;obtain rfl:args=#[v0,v1]:=by cases args;simp_all
 obtain ⟨rfl,rfl⟩:=trodVars_none hV;obtain ⟨a0,len0,cap0,rfl⟩:=okWide_slice Tryz.underlying22 (hval 0 22 v0 rfl rfl);have k0:=h0;have lt0:∀ x∈p0,x.block<W.heap.size:=(by obtain ⟨m,hm⟩:=k0;exact DataW.trod_lt m _ _ _ hm);have k1:=h1;have lt1:∀ x∈p1,x.block<W.heap.size:=(by obtain ⟨m,hm⟩:=k1;exact DataW.trod_lt m _ _ _ hm);obtain ⟨l0,rfl,w0⟩:=(by obtain ⟨fuel,hf⟩:=h0;exact XM hf:∃ l:List Int,l.length=len0∧IntsL W (fun _=>True) a0 l∧l.length≤cap0);obtain ⟨q1a,q1b,q1c,rfl,b1a,b1b,b1c⟩:=PA (hval 1 50 v1 rfl rfl) h1;clear hA0 hval0;refine (PM l0 q1a q1b q1c a0 cap0 W (fun _=>True) (Yd hL) w0.1 w0.2).mono fun e W' ⟨he,hx⟩ => ?_;subst he;have bel:Below W.heap.size W W':=hx;exact ⟨_,rfl,_,_,_,[],_,[],hW',trodAll_mk1 (shut_bool Tryz.underlying4 _),(trodAll_cons_mk (Below.trod XN AD (of_decide_eq_true AD) k0 bel lt0) (trodAll_cons_mk (Below.trod XN AD (of_decide_eq_true AD) k1 bel lt1) trodAll_mk0)),rfl,bel.frame _,fun h=>Ck⟩
theorem Le:Rows.AbstractOfSaid :=
 OpenClaim.holds_of_wide 4 Tryz.f4 rfl rfl rfl rfl rfl rfl rfl ⟨rfl,rfl,rfl,rfl,rfl⟩ rfl rfl rfl rfl rfl Mq Tryz.func4 O3
  (of_decide_eq_true AD) (by unfold Func.isWrapper;first|(rw [if_pos (by decide +kernel)];kernel_rfl)|(rw [if_neg (by decide +kernel)];exact ⟨rfl,rfl⟩))
  (fun os started H enc _=>LI os started H enc)
theorem abstractOf_card:Rows.AbstractOfCardSaid :=
 Claim7.holds_tied_plain_at .later [] [.data,.data,.data,.data] true (true, "79500944bca65193068a7d73ba7fde7e44c413a83c69694c2b6182bc71138ab9") false
  Le (fun _ h=>Ck) AD (fun _ h=>Ck) abstractOf_row_tie rfl ⟨rfl,rfl⟩ E7A rfl
  (fun f fn hf hfn=>by
   obtain rfl:f=4:=Option.some.inj ((show Tryz.prog.funcNamed "concord/concordlaw10.AbstractOf" = some 4 from Mq).symm.trans hf) |>.symm;obtain rfl:fn=Tryz.f4:=(Option.some.inj (Tryz.func4.symm.trans hfn)).symm;exact ⟨AD,fun j t ht=>by
    rw [Tryz.params4] at ht;have hm:t∈[22,50]:=(by simpa using Array.mem_of_getElem? ht);have hall:([22,50].all fun u => !Tryz.prog.wantsStandIn u)=true:=AD;exact (show Tryz.prog.wantsStandIn t=false by simpa using List.all_eq_true.1 hall t hm)⟩)
  PL
#print axioms abstractOf_card
end Go.Proofs.YtidacnalcdhckaaGreatDoor
