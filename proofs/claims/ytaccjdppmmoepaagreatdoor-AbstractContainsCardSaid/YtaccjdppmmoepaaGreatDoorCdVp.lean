/- The law AbstractContains: the row of the statement, and its card, tied to the program's text. No conditions but those that the given statement bears. -/
import Derived.Test.YtaccjdppmmoepaaGreatDoorXqLVp
import Derived.Test.YtaccjdppmmoepaaGreatDoorXqVpK1
import Derived.Test.YtaccjdppmmoepaaGreatDoorXqVpK2
import Derived.Test.YtaccjdppmmoepaaGreatDoorXqVpK5
set_option maxRecDepth 100000
set_option maxHeartbeats 400000
namespace Go.Proofs.YtaccjdppmmoepaaGreatDoor
open Go Go.ChangeShapes Go.WideShapes Go.ChangeAt Go.WideMaps Go.WideElems Go.RowKit

theorem AsA(os:Os)(started:os.Started)(H:Type)(enc:TypeId × Value->H) :
  ReturnsInHanded {} Tryz.checked os 3 .any (λw args=>(Rows.abstractContainsSpec.pre enc Tryz.prog Tryz.f3 [] false w args/\laidMetH Tryz.prog L4 w)/\sizedMet enc Tryz.prog Tryz.f3 (OpenSpec.ofChange Rows.abstractContainsSpec) false w args)
   (Rows.abstractContainsSpec.post enc Tryz.prog Tryz.f3 false true false false):=by
 refine Wy (C:=Tryz.checked) (X:=λw _=>laidMetH Tryz.prog L4 w) (λ_ _ _ hh h=>h.of_heap hh) own started AD Tryz.func3
  (ChangeSpec.witness_shaped (enc:=enc) (C:=Tryz.checked) (os:=os) (X:=λw _=>laidMetH Tryz.prog L4 w) false (World.laidAll Tryz.prog os L4) #[.slice none 0 0,.slice none 0 0,.agg #[.int .i64 0,.int .i64 0,.int .i64 0,.int .i64 0]] 8 (World.laidAll_os _ _ _) (World.shaped_of_ZipB AD AD) AD AD AD (CzA os _)) ?_
 intro W base args ds gs before Y hW hSH hL;have O:∀ (j:Nat) t v,Tryz.f3.params[j]?=some t->args[j]?=some v->Value.okWide Tryz.prog W .any base t v:=Y;have hW':=hW;obtain ⟨p,q,a9,hV,rfl,hfz,hnd⟩:=hW;have hA:DataW.TrodAll enc Tryz.prog W 0 (λ_=>true) true Tryz.f3.params.toList args.toList ds p:=a9;rw [Tryz.params3] at hA O;obtain ⟨v0,vs0,d0,ds0,p0,q0,hargs,rfl,rfl,h0,r0⟩:=trodAll_cons hA;obtain ⟨v1,vs1,d1,ds1,p1,q1,rfl,rfl,rfl,h1,r1⟩:=trodAll_cons r0;obtain ⟨v2,vs2,d2,ds2,p2,q2,rfl,rfl,rfl,h2,r2⟩:=trodAll_cons r1;obtain ⟨rfl,rfl,rfl⟩:=trodAll_nil r2;obtain rfl:args=#[v0,v1,v2]:=by cases args;simp_all
 obtain ⟨rfl,rfl⟩:=trodVars_none hV;obtain ⟨a0,b0,Z,rfl⟩:=okWide_slice Tryz.underlying22 (O 0 22 v0 rfl rfl);obtain ⟨a1,b3,a8,rfl⟩:=okWide_slice Tryz.underlying22 (O 1 22 v1 rfl rfl);have k0:=h0;have lt0:∀ x∈p0,x.block<W.heap.size:=(by obtain ⟨m,hm⟩:=k0;exact DataW.trod_lt m _ _ _ hm);have k1:=h1;have lt1:∀ x∈p1,x.block<W.heap.size:=(by obtain ⟨m,hm⟩:=k1;exact DataW.trod_lt m _ _ _ hm);have k2:=h2;have b5:∀ x∈p2,x.block<W.heap.size:=(by obtain ⟨m,hm⟩:=k2;exact DataW.trod_lt m _ _ _ hm);obtain ⟨l0,rfl,w0⟩:=(by obtain ⟨b4,hf⟩:=h0;exact XM hf:∃ l:List Int,l.length=b0/\IntsL W (λ_=>True) a0 l/\l.length<=Z);obtain ⟨l1,rfl,w1⟩:=(by obtain ⟨b4,hf⟩:=h1;exact XM hf:∃ l:List Int,l.length=b3/\IntsL W (λ_=>True) a1 l/\l.length<=a8);obtain ⟨q2a,q2b,q2c,q2d,rfl⟩:=EJA (O 2 23 v2 rfl rfl) h2;clear a9 Y;refine (Yv l0 l1 q2a q2b q2c q2d a0 Z a1 a8 W (λ_=>True) (Yd hL) w0.1 w0.2 w1.1 w1.2).mono λe W' ⟨he,hx⟩ => ?_;subst he;have U:Below W.heap.size W W':=hx;exact ⟨_,rfl,_,_,_,[],_,[],hW',trodAll_mk1 (shut_bool Tryz.underlying4 _),(trodAll_cons_mk (Below.trod XN AD (of_decide_eq_true AD) k0 U lt0) (trodAll_cons_mk (Below.trod XN AD (of_decide_eq_true AD) k1 U lt1) (trodAll_cons_mk (Below.trod XN AD (of_decide_eq_true AD) k2 U b5) trodAll_mk0))),rfl,U.frame _,λh=>Ck⟩
theorem BnA:Rows.AbstractContainsSaid :=
 OpenClaim.holds_of_wide 3 Tryz.f3 rfl rfl rfl rfl rfl rfl rfl ⟨rfl,rfl,rfl,rfl,rfl⟩ rfl rfl rfl rfl rfl EFA Tryz.func3 E9A
  (of_decide_eq_true AD) (by unfold Func.isWrapper;first|(rw [if_pos (by decide +kernel)];kernel_rfl)|(rw [if_neg (by decide +kernel)];exact ⟨rfl,rfl⟩))
  (λos started H enc _=>AsA os started H enc)
theorem abstractContains_card:Rows.AbstractContainsCardSaid :=
 Claim7.holds_tied_plain_at .later [] [.data,.data,.data,.data] true (true, "40d6199ddff85c502d5f97c63bbfc07eebedb8e054da6c6d60197eb2a5954772") false
  BnA (λ_ h=>Ck) AD (λ_ h=>Ck) abstractContains_row_tie rfl ⟨rfl,rfl⟩ E7A rfl
  (λf fn hf hfn=>by
   obtain rfl:f=3:=Option.some.inj ((show Tryz.prog.funcNamed "concord/concordlaw10.AbstractContains" = some 3 from EFA).symm.trans hf) |>.symm;obtain rfl:fn=Tryz.f3:=(Option.some.inj (Tryz.func3.symm.trans hfn)).symm;exact ⟨AD,λj t ht=>by
    rw [Tryz.params3] at ht;have hm:t∈[22,22,23]:=(by simpa using Array.mem_of_getElem? ht);have hall:([22,22,23].all λu => !Tryz.prog.wantsStandIn u)=true:=AD;exact (show Tryz.prog.wantsStandIn t=false by simpa using List.all_eq_true.1 hall t hm)⟩)
  FiA
#print axioms abstractContains_card
