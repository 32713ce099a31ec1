/- The law AbstractMembers: the row of the statement, and its card, tied to the program's text. No conditions but those that the given statement bears. -/
import Derived.Test.YtidacnalcdhckaaGreatDoorYqLVm
import Derived.Test.YtidacnalcdhckaaGreatDoorYqVmK1
import Derived.Test.YtidacnalcdhckaaGreatDoorYqVmK2
import Derived.Test.YtidacnalcdhckaaGreatDoorYqVmK5
set_option maxRecDepth 100000
set_option maxHeartbeats 400000
namespace Go.Proofs.YtidacnalcdhckaaGreatDoor
open Go Go.ChangeShapes Go.WideShapes Go.ChangeAt Go.WideMaps Go.WideElems Go.RowKit

theorem OQ(os:Os)(started:os.Started)(H:Type)(enc:TypeId × Value->H) :
  ReturnsInHanded {} Tryz.checked os 7 .any (λw args=>(Rows.abstractMembersSpec.pre enc Tryz.prog Tryz.f7 [] false w args/\laidMetH Tryz.prog L4 w)/\sizedMet enc Tryz.prog Tryz.f7 (OpenSpec.ofChange Rows.abstractMembersSpec) false w args)
   (Rows.abstractMembersSpec.post enc Tryz.prog Tryz.f7 false true false false):=by
 refine Wy (C:=Tryz.checked) (X:=λw _=>laidMetH Tryz.prog L4 w) (λ_ _ _ hh h=>h.of_heap hh) own started AD Tryz.func7
  (ChangeSpec.witness_shaped (enc:=enc) (C:=Tryz.checked) (os:=os) (X:=λw _=>laidMetH Tryz.prog L4 w) false (World.laidAll Tryz.prog os L4) #[.slice none 0 0,.slice none 0 0,.slice none 0 0] 8 (World.laidAll_os _ _ _) (World.shaped_of_ZipB AD AD) AD AD AD (CzA os _)) ?_
 intro W base args ds gs d3 U hW hSH hL;have O:∀ (j:Nat) t v,Tryz.f7.params[j]?=some t->args[j]?=some v->Value.okWide Tryz.prog W .any base t v:=U;have d4:=hW;obtain ⟨p,q,b3,hV,rfl,hfz,hnd⟩:=hW;have hA:DataW.TrodAll enc Tryz.prog W 0 (λ_=>true) true Tryz.f7.params.toList args.toList ds p:=b3;rw [Tryz.params7] at hA O;obtain ⟨v0,vs0,d0,ds0,p0,q0,hargs,rfl,rfl,h0,r0⟩:=trodAll_cons hA;obtain ⟨v1,vs1,d1,ds1,p1,q1,rfl,rfl,rfl,h1,r1⟩:=trodAll_cons r0;obtain ⟨v2,vs2,d2,ds2,p2,q2,rfl,rfl,rfl,h2,r2⟩:=trodAll_cons r1;obtain ⟨rfl,rfl,rfl⟩:=trodAll_nil r2;obtain rfl:args=#[v0,v1,v2]:=by cases args;simp_all
 obtain ⟨rfl,rfl⟩:=trodVars_none hV;obtain ⟨a0,b4,b0,rfl⟩:=okWide_slice Tryz.underlying22 (O 0 22 v0 rfl rfl);obtain ⟨a1,b6,a9,rfl⟩:=okWide_slice Tryz.underlying22 (O 1 22 v1 rfl rfl);obtain ⟨a2,b5,a8,rfl⟩:=okWide_slice Tryz.underlying22 (O 2 22 v2 rfl rfl);have k0:=h0;have b9:∀ x∈p0,x.block<W.heap.size:=(by obtain ⟨m,hm⟩:=k0;exact DataW.trod_lt m _ _ _ hm);have k1:=h1;have b8:∀ x∈p1,x.block<W.heap.size:=(by obtain ⟨m,hm⟩:=k1;exact DataW.trod_lt m _ _ _ hm);have k2:=h2;have b7:∀ x∈p2,x.block<W.heap.size:=(by obtain ⟨m,hm⟩:=k2;exact DataW.trod_lt m _ _ _ hm);obtain ⟨l0,rfl,w0⟩:=(by obtain ⟨Z,hf⟩:=h0;exact XM hf:∃ l:List Int,l.length=b4/\IntsL W (λ_=>True) a0 l/\l.length<=b0);obtain ⟨l1,rfl,w1⟩:=(by obtain ⟨Z,hf⟩:=h1;exact XM hf:∃ l:List Int,l.length=b6/\IntsL W (λ_=>True) a1 l/\l.length<=a9);obtain ⟨l2,rfl,w2⟩:=(by obtain ⟨Z,hf⟩:=h2;exact XM hf:∃ l:List Int,l.length=b5/\IntsL W (λ_=>True) a2 l/\l.length<=a8);clear b3 U;refine (R7 l0 l1 l2 a0 b0 a1 a9 a2 a8 W (λ_=>True) (Yd hL) w0.1 w0.2 w1.1 w1.2 w2.1 w2.2).mono λe W' ⟨he,hx⟩ => ?_;subst he;have Y:Below W.heap.size W W':=hx;exact ⟨_,rfl,_,_,_,[],_,[],d4,trodAll_mk1 (shut_bool Tryz.underlying4 _),(trodAll_cons_mk (Below.trod XN AD (of_decide_eq_true AD) k0 Y b9) (trodAll_cons_mk (Below.trod XN AD (of_decide_eq_true AD) k1 Y b8) (trodAll_cons_mk (Below.trod XN AD (of_decide_eq_true AD) k2 Y b7) trodAll_mk0))),rfl,Y.frame _,λh=>Ck⟩
theorem PY:Rows.AbstractMembersSaid :=
 OpenClaim.holds_of_wide 7 Tryz.f7 rfl rfl rfl rfl rfl rfl rfl ⟨rfl,rfl,rfl,rfl,rfl⟩ rfl rfl rfl rfl rfl MX Tryz.func7 Ru
  (of_decide_eq_true AD) (by unfold Func.isWrapper;first|(rw [if_pos (by decide +kernel)];kernel_rfl)|(rw [if_neg (by decide +kernel)];exact ⟨rfl,rfl⟩))
  (λos started H enc _=>OQ os started H enc)
theorem abstractMembers_card:Rows.AbstractMembersCardSaid :=
 Claim7.holds_tied_plain_at .later [] [.data,.data,.data,.data] true (true, "79500944bca65193068a7d73ba7fde7e44c413a83c69694c2b6182bc71138ab9") false
  PY (λ_ h=>Ck) AD (λ_ h=>Ck) abstractMembers_row_tie rfl ⟨rfl,rfl⟩ E7A rfl
  (λf fn hf hfn=>by
   obtain rfl:f=7:=Option.some.inj ((show Tryz.prog.funcNamed "concord/concordlaw10.AbstractMembers" = some 7 from MX).symm.trans hf) |>.symm;obtain rfl:fn=Tryz.f7:=(Option.some.inj (Tryz.func7.symm.trans hfn)).symm;exact ⟨AD,λj t ht=>by
    rw [Tryz.params7] at ht;have hm:t∈[22,22,22]:=(by simpa using Array.mem_of_getElem? ht);have hall:([22,22,22].all λu => !Tryz.prog.wantsStandIn u)=true:=AD;exact (show Tryz.prog.wantsStandIn t=false by simpa using List.all_eq_true.1 hall t hm)⟩)
  S8
#print axioms abstractMembers_card
