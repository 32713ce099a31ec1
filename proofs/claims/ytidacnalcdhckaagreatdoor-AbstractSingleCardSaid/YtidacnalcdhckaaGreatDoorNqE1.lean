/- Lemmas. No conditions. -/
import Derived.Test.YtidacnalcdhckaaGreatDoorWq40
import Derived.Test.YtidacnalcdhckaaGreatDoorWq42
set_option maxRecDepth 100000
set_option maxHeartbeats 4000000
namespace Go.Proofs.YtidacnalcdhckaaGreatDoor
open Go Go.RowKit Tryz
variable {qP:Prop}

theorem qaw(n s:Int):Dz (Bg n s).1 (Bg n s).2=true:=by
 unfold Bg;by_cases h:Dz n s=true
 ·rw [if_pos h];exact h
 ·rw [if_neg h]
  decide
theorem qav{n s:Int}(h:Dz n s=true):Bg n s=(n,s):=by
 unfold Bg;rw [if_pos h]
theorem qau(n:Int):n.tmod 10=0↔n % 10=0:=by
 rw [←Int.dvd_iff_emod_eq_zero,←Int.dvd_iff_tmod_eq_zero]
theorem qag{n s n' s':Int}(h:Dz n s=true)(h':Dz n' s'=true)(he:mu n s=mu n' s'):n=n'∧s=s':=by
 have hv:mu n s=n*pw (6-s):=(by unfold mu;rw [qav h]);have hv':mu n' s'=n'*pw (6-s'):=(by unfold mu;rw [qav h']);rw [hv,hv'] at he;have d:(0≤s∧s≤6)∧(s=0∨n.tmod 10≠0):=by
  simp only [Dz,Bool.and_eq_true,decide_eq_true_eq] at h;exact ⟨h.1.1,h.2⟩
 have d':(0≤s'∧s'≤6)∧(s'=0∨n'.tmod 10≠0):=by
  simp only [Dz,Bool.and_eq_true,decide_eq_true_eq] at h';exact ⟨h'.1.1,h'.2⟩
 obtain ⟨d1,d2⟩:=d;obtain ⟨d1',d2'⟩:=d';have c:s=0∨s=1∨s=2∨s=3∨s=4∨s=5∨s=6:=AA;have c':s'=0∨s'=1∨s'=2∨s'=3∨s'=4∨s'=5∨s'=6:=AA;rw [ne_eq,qau] at d2 d2';clear hv hv' h h'
 rcases c with rfl|rfl|rfl|rfl|rfl|rfl|rfl
 all_goals
  rcases c' with rfl|rfl|rfl|rfl|rfl|rfl|rfl
  all_goals
   simp only [pw] at he;simp at he d2 d2'
   first
    |exact ⟨AA,rfl⟩
    |(exfalso;omega)

theorem qao{v:Val}(h:BC v=true)(hk:v.kind≠5):BG v=true:=by
 unfold BC at h;rw [if_neg hk] at h;exact h
theorem qaq{v:Val}(h:BC v=true)(hk:v.kind=1):Ca v.s=true∧v=⟨1,v.s,0,0,0,[],[]⟩:=by
 have h1:=qao h AA;unfold BG at h1;rw [if_neg AA,if_pos hk,Bool.and_eq_true] at h1;refine ⟨h1.1,?_⟩;have h2:=h1.2;unfold Cz at h2;simp only [decide_eq_true_eq] at h2;obtain ⟨k,s,a,b,n,c,r⟩:=v;obtain ⟨_,rfl,rfl,rfl,rfl,rfl⟩:=h2;simp only at hk;subst hk;rfl
theorem qap{v:Val}(h:BC v=true)(hk:v.kind=2):Dz v.dn v.ds=true∧v=⟨2,⟨#[]⟩,v.dn,v.ds,0,[],[]⟩:=by
 have h1:=qao h AA;unfold BG at h1;rw [if_neg AA,if_neg AA,if_pos hk,Bool.and_eq_true] at h1;refine ⟨h1.1,?_⟩;have h2:=h1.2;unfold Cz at h2;simp only [decide_eq_true_eq] at h2;obtain ⟨k,s,a,b,n,c,r⟩:=v;obtain ⟨rfl,_,_,rfl,rfl,rfl⟩:=h2;simp only at hk;subst hk;rfl
theorem Z3b23becbf(h:qP:=by
 have h2:=h1.2;unfold Cz at h2;simp only [decide_eq_true_eq] at h2;obtain ⟨k,s,a,b,n,c,r⟩:=v;obtain ⟨rfl,rfl,rfl,_,rfl,rfl⟩:=h2;simp only at hk;subst hk;rfl):qP:=h
theorem qan{v:Val}(h:BC v=true)(hk:v.kind=3):v=⟨3,⟨#[]⟩,0,0,v.n,[],[]⟩:=by
 have h1:=qao h AA;unfold BG at h1;rw [if_neg AA,if_neg AA,if_neg AA,if_pos hk,Bool.and_eq_true] at h1;exact Z3b23becbf
theorem qar{v:Val}(h:BC v=true)(hk:v.kind=4):v=⟨4,⟨#[]⟩,0,0,v.n,[],[]⟩:=by
 have h1:=qao h AA;unfold BG at h1;rw [if_neg AA,if_neg AA,if_neg AA,if_neg AA,if_pos hk,Bool.and_eq_true] at h1;exact Z3b23becbf
theorem bt_2:bt 2 1=true∧bt 2 2=false∧bt 2 3=false∧bt 2 4=false∧bt 2 5=false:=by decide
theorem bt_4:bt 4 1=false∧bt 4 2=true∧bt 4 3=false∧bt 4 4=false∧bt 4 5=false:=by decide
theorem bt_8:bt 8 1=false∧bt 8 2=false∧bt 8 3=true∧bt 8 4=false∧bt 8 5=false:=by decide
theorem qac:bt 16 1=false∧bt 16 2=false∧bt 16 3=false∧bt 16 4=true∧bt 16 5=false:=by decide
theorem Zfbba5b561(h:qP:=by
 intro h';rw [h',←h] at h0;cases h0):qP:=h
theorem Z5b440cbc7(h:qP:=by
 rw [if_pos h0,he];constructor
 ·intro h;cases h
 ·exact Zfbba5b561):qP:=h
theorem Z434184a53(h:qP:=by
 repeat' split at h'
 all_goals cases h'):qP:=h
theorem Z1d2f9413d(h:qP:=by
 intro h';rw [h',←h] at h1;exact absurd rfl h1):qP:=h
theorem Z3fb25877c(h:qP:=by
 intro h';simp only [Bool.false_and,if_neg h1] at h';exact Z434184a53):qP:=h
theorem Zec3270028(h:qP:=by
 constructor
 ·exact Z3fb25877c
 ·exact Z1d2f9413d):qP:=h
theorem Zb72a3eb86(h:qP:=by
 rw [e,hb];constructor
 ·intro h';exact absurd h' (by decide)
 ·intro h';exact absurd (congrArg Val.n h') (by decide)):qP:=h
theorem qat{a:Abs}{s:Val}(h:Cp a=some s){z:Val}(hz:BC z=true):AW a z=true↔z=s:=by
 rw [←CL,DI hz];have hc:=FSA a;unfold Cp at h;simp only at h;generalize AX a=c at *;split at h
 ·cases h
 next he =>
 rw [Bool.not_eq_true] at he;split at h
 next hk =>
  split at h
  next hl =>
   injection h with h;obtain ⟨b1,b2,b3,b4,b5⟩:=bt_2;have hT:CanT c.tx:=by
    rcases hc.tx with ⟨_,h⟩|⟨h,_⟩
    ·exact h
    ·rw [hk,b1] at h;cases h
   have hB:InS c.tx c.tx.B:=by
    obtain ⟨l,hl'⟩:∃ l,InS c.tx l:=by
     refine Classical.byContradiction fun hn => ?_;have:=(C8 c.tx).2 fun l hl=>hn ⟨l,hl⟩;rw [hT.ne] at this;cases this
    have h2:=hl'.2.1;rw [←hT.most,hl.2] at h2;have h3:=hl'.2.2.2.1;have h4:=h3.eq_of_length_le (by rw [G6];omega);rw [h4];exact hl'
   by_cases h0:z.kind=0
   ·exact Z5b440cbc7
   ·rw [if_neg h0];unfold Ha;rw [hk,b1,b2,b3,b4,b5];by_cases h1:z.kind=1
    ·rw [if_pos h1,Bool.true_and,Cf];obtain ⟨_,e⟩:=qaq hz h1;constructor
     ·intro hi;have h2:=hi.2.1;rw [←hT.most,hl.2] at h2;have h4:=hi.2.2.2.1.eq_of_length_le (by rw [G6];omega);rw [e,←h];have:z.s=c.tx.b:=by
       rw [←He z.s,←h4];exact He _
      rw [this]
     ·intro h';rw [h',←h];exact hB
    ·rw [if_neg h1];constructor
     ·intro h';simp only [Bool.false_and] at h';exact Z434184a53
     ·exact Z1d2f9413d
  next=>cases h
 next =>
 split at h
 next hk =>
  split at h
  next hl =>
   injection h with h;obtain ⟨b1,b2,b3,b4,b5⟩:=bt_4;have hT:CanI c.nu:=by
    rcases hc.nu with ⟨_,h⟩|⟨h,_⟩
    ·exact h
    ·rw [hk,b2] at h;cases h
   have hd:Dz c.nu.ln c.nu.ls=true:=by
    have:=qaw c.nu.ln c.nu.ls;rw [hT.low] at this;exact this
   have hlh:c.nu.hi=c.nu.lo:=by
    unfold Rg.hi Rg.lo;rw [hl.1,hl.2]
   by_cases h0:z.kind=0
   ·exact Z5b440cbc7
   ·rw [if_neg h0];unfold Ha;rw [hk,b1,b2,b3,b4,b5];by_cases h1:z.kind=2
    ·rw [if_neg AA,if_pos h1,Bool.true_and,Bi];obtain ⟨_,e⟩:=qap hz h1;constructor
     ·rintro ⟨i1,i2,i3⟩;obtain ⟨j1,j2⟩:=qag i1 hd (by change mu z.dn z.ds=c.nu.lo;omega);rw [e,←h,j1,j2]
     ·intro h';rw [h',←h];exact ⟨hd,Int.le_refl _,by rw [hlh];exact Int.le_refl _⟩
    ·exact Zec3270028
  next=>cases h
 next =>
 split at h
 next hk =>
  split at h
  next hl =>
   injection h with h;obtain ⟨b1,b2,b3,b4,b5⟩:=bt_8;by_cases h0:z.kind=0
   ·exact Z5b440cbc7
   ·rw [if_neg h0];unfold Ha;rw [hk,b1,b2,b3,b4,b5];by_cases h1:z.kind=3
    ·rw [if_neg AA,if_neg AA,if_pos h1,Bool.true_and,decide_eq_true_eq];have e:=qan hz h1;constructor
     ·rintro ⟨i1,i2⟩;rw [e,←h,show z.n=c.dl by omega]
     ·intro h';rw [h',←h];simp only;omega
    ·exact Zec3270028
  next=>cases h
 next =>
 split at h
 next hk =>
  split at h
  next hl =>
   injection h with h;obtain ⟨b1,b2,b3,b4,b5⟩:=qac;by_cases h0:z.kind=0
   ·exact Z5b440cbc7
   ·rw [if_neg h0];unfold Ha;rw [hk,b1,b2,b3,b4,b5];by_cases h1:z.kind=4
    ·rw [if_neg AA,if_neg AA,if_neg AA,if_pos h1,Bool.true_and];have e:=qar hz h1;have hb:=Gx hz h1
     rcases D3A hc (by rw [hk];exact b4) with hbo|hbo|hbo
     ·rw [hbo] at h⊢;rw [←h]
      rcases hb with hb|hb
      ·rw [e,hb];constructor
       ·intro _;rfl
       ·intro _;decide
      ·exact Zb72a3eb86
     ·rw [hbo] at h⊢;rw [←h]
      rcases hb with hb|hb
      ·exact Zb72a3eb86
      ·rw [e,hb];constructor
       ·intro _;rfl
       ·intro _;decide
     ·exact absurd hbo hl
    ·exact Zec3270028
  next=>cases h
 next=>cases h

theorem Z343c0dfbe(h:qP:=by
 go_wp2_with fail
 refine bodyPost_ret (v:=.tuple #[.agg Vz,.bool false]) (by simp [results,results15,go_sem,v0,v1,v2,v3,v4,v5,v6]) rfl ⟨?_,?_⟩
 ·rw [HF.o];rfl
 ·exact EJ):qP:=h
theorem Z4322c4bba(h:qP:=by
 clear ha;exact Z343c0dfbe):qP:=h
theorem Ye3eb1bafc(h:qP:=by simp [results,results15,go_sem,v0,v1,v2,v3,v4,v5,v6]):qP:=h
theorem qam(a:Abs)(A D:OA)(c e:Nat)(w:World)(S:NP)(hA:Strs w S A a.cols)(hD:RDeps w S D a.deps)(hz:AbN 1000000 a) :
  Cl 15 #[(Aq a A c D e)] w (G0A w (Cp a)):=by
 obtain ⟨w0,hw0⟩:=eqx ((w.alloc (.cells (Ap a A c D e) 39)).alloc (.cells Vz 29));obtain ⟨g1,hg1⟩:=eqx w.heap.size;obtain ⟨g2,hg2⟩:=eqx (w.heap.size+1);have hx0:Ext w w0:=Bh;have hb1:Blk w0 g1 39 (Ap a A c D e):=Ic;have hb2:Blk w0 g2 29 Vz:=(by rw [hw0,hg2];exact H6A _ _ _ _);obtain ⟨HW0,HG1,HG2,HB1,HB2,HX0,HC⟩:=Hd7 hw0 hg1 hg2 hb1 hb2 hx0 (EG a A D c e w0 S (hA.keep (hx0.kept _)) (hD.keep (hx0.kept _)) hz);obtain ⟨s,hs⟩:=eqx (AX a);obtain ⟨HSI,HBO,HG2L⟩:=Hd3 (show Cp a=Do s by rw [hs];exact DGA a) (show s.kinds=16→1≤s.bo∧s.bo≤3 from fun h=>by rw [hs] at h⊢;exact GRA h) (show w.heap.size≤g2 by omega);rw [←hs] at HC;clear hw0 hg1 hg2 hb1 hb2 hx0 hA hD hz hs
 go_enter func15,ntmps15
 go_upto_region 1 with fail
 rw [←HW0.o,←HG2.o,←HG1.o];refine wp_region_lit ?_;refine AJ rfl 39 _ rfl g1 rfl HB1.o AS AH ?_
 go_wp2_with fail
 refine HC.o.mono ?_;rintro e1 w1 ⟨A',c',D',e',rfl,-,hx1⟩;have HX1:=Hd (HX0.o.trans hx1);have HB21:=Hd (HB2.o.keep (hx1.kept _));clear hx1;rename_i K1 hK1 K2 hK2;refine hK2 _ _ ?_;refine Ag rfl rfl ?_;obtain ⟨g3,hg3⟩:=eqx w1.heap.size;rw [←hg3];refine AM rfl 39 _ _ rfl g3 (Ap s A' c' D' e') rfl rfl 39 _ (GK hg3) AH rfl AD ?_;intro w2 hb3 ho2;have hx2:Ext w1 w2:=(exaa w1).only ho2 GI;have HX2:=Hd (HX1.o.trans hx2);have hb2:=HB21.o.keep (hx2.kept _);obtain ⟨q0,q1,q2⟩:=hb3.qs3;have q4:=hb3.q4;have q6:=hb3.q6;have q7:=hb3.q7;have q8:=hb3.q8;have q9:=hb3.q9;have q10:=hb3.q10;have q11:=hb3.q11;have q12:=hb3.q12;have q17:w2.cell? ⟨g3,17,none⟩=some (.bool s.errs):=hb3.q17;obtain ⟨v0,v1,v2,v3,v4,v5,v6⟩:=hb2.qs7;have vf:=hb2.frozen;have vl:=hb2.lt;refine hK1 _ _ ?_;clear hK1 hK2 hb3 hb2 ho2 hx2 hg3;cases he:s.errs
 case true =>
  have HF:=Hd (show Cp a=none by rw [HSI.o];unfold Do;simp [he]);exact Z343c0dfbe
 by_cases h2:s.kinds=2
 case pos =>
  by_cases ha:s.tx.least=s.tx.b.size∧s.tx.most=s.tx.b.size
  case pos =>
   obtain ⟨ha1,ha2⟩:=ha;have HF:=Hd (show Cp a=some ⟨1,s.tx.b,0,0,0,[],[]⟩ by rw [HSI.o];unfold Do;simp [he,h2,ha1,ha2])
   go_wp2_with fail
   refine bodyPost_ret (v:=.tuple #[.agg #[.I 1,.string s.tx.b,.I 0,.I 0,.I 0,.slice none 0 0,.slice none 0 0],.bool true]) Ye3eb1bafc rfl ⟨?_,?_⟩
   ·rw [HF.o];rfl
   ·exact EJ
  case neg =>
   have HF:=Hd (show Cp a=none by rw [HSI.o];unfold Do;rw [if_neg De,if_pos h2,if_neg ha]);by_cases ha1:s.tx.least=s.tx.most
   ·have ha2:¬(s.tx.b.size:Int)=s.tx.most:=fun h=>ha ⟨by rw [ha1,h],h.symm⟩;exact Z4322c4bba
   ·exact Z4322c4bba
 by_cases h4:s.kinds=4
 case pos =>
  by_cases ha:s.nu.ln=s.nu.hn∧s.nu.ls=s.nu.hs
  case pos =>
   obtain ⟨ha1,ha2⟩:=ha;have HF:=Hd (show Cp a=some ⟨2,⟨#[]⟩,s.nu.hn,s.nu.hs,0,[],[]⟩ by rw [HSI.o];unfold Do;simp [he,h4,ha1,ha2])
   go_wp2_with fail
   refine bodyPost_ret (v:=.tuple #[.agg #[.I 2,.string ⟨#[]⟩,.I s.nu.hn,.I s.nu.hs,.I 0,.slice none 0 0,.slice none 0 0],.bool true]) Ye3eb1bafc rfl ⟨?_,?_⟩
   ·rw [HF.o];rfl
   ·exact EJ
  case neg =>
   have HF:=Hd (show Cp a=none by rw [HSI.o];unfold Do;rw [if_neg De,if_neg h2,if_pos h4,if_neg ha]);by_cases ha1:s.nu.ln=s.nu.hn
   ·have ha2:¬s.nu.ls=s.nu.hs:=fun h=>ha ⟨ha1,h⟩;exact Z4322c4bba
   ·exact Z4322c4bba
 by_cases h8:s.kinds=8
 case pos =>
  by_cases ha:s.dl=s.dh
  case pos =>
   have HF:=Hd (show Cp a=some ⟨3,⟨#[]⟩,0,0,s.dh,[],[]⟩ by rw [HSI.o];unfold Do;simp [he,h8,ha])
   go_wp2_with fail
   refine bodyPost_ret (v:=.tuple #[.agg #[.I 3,.string ⟨#[]⟩,.I 0,.I 0,.I s.dh,.slice none 0 0,.slice none 0 0],.bool true]) Ye3eb1bafc rfl ⟨?_,?_⟩
   ·rw [HF.o];rfl
   ·exact EJ
  case neg =>
   have HF:=Hd (show Cp a=none by rw [HSI.o];unfold Do;simp [he,h8,ha]);exact Z343c0dfbe
 by_cases h16:s.kinds=16
 case pos =>
  have hbo:=HBO.o h16;by_cases ha:s.bo=3
  case pos =>
   have HF:=Hd (show Cp a=none by rw [HSI.o];unfold Do;simp [he,h16,ha]);exact Z343c0dfbe
  case neg =>
   have hb12:s.bo=1∨s.bo=2:=AA;clear hbo
   rcases hb12 with hb|hb
   ·have hlt3:s.bo<3:=AA;have HF:=Hd (show Cp a=some ⟨4,⟨#[]⟩,0,0,0,[],[]⟩ by rw [HSI.o];unfold Do;simp [he,h16,hb])
    go_wp2_with fail
    refine bodyPost_ret (v:=.tuple #[.agg #[.I 4,.string ⟨#[]⟩,.I 0,.I 0,.I 0,.slice none 0 0,.slice none 0 0],.bool true]) Ye3eb1bafc rfl ⟨?_,?_⟩
    ·rw [HF.o];rfl
    ·exact EJ
   ·have hlt3:s.bo<3:=AA;have HF:=Hd (show Cp a=some ⟨4,⟨#[]⟩,0,0,1,[],[]⟩ by rw [HSI.o];unfold Do;simp [he,h16,hb])
    go_wp2_with fail
    refine bodyPost_ret (v:=.tuple #[.agg #[.I 4,.string ⟨#[]⟩,.I 0,.I 0,.I 1,.slice none 0 0,.slice none 0 0],.bool true]) Ye3eb1bafc rfl ⟨?_,?_⟩
    ·rw [HF.o];rfl
    ·exact EJ
 have HF:=Hd (show Cp a=none by rw [HSI.o];unfold Do;rw [if_neg De,if_neg h2,if_neg h4,if_neg h8,if_neg h16])
 go_wp2_with fail
 refine bodyPost_ret (v:=.tuple #[.agg Vz,.bool false]) Ye3eb1bafc rfl ⟨?_,?_⟩
 ·rw [HF.o];rfl
 ·exact EJ

theorem qax{ops:Array Oper}{rest:List Oper}{o:Oper}{a:Act}{w:World}{Q:Exit→Act→World→Prop}(hgd:o.guard=none)(ho:o.op=.alloc 29)
  (h:wpList prog ops Q rest (a.put o.dst (.pointer (some ⟨w.heap.size,0,none⟩))) (w.alloc (.cells Vz 29))):wpList prog ops Q (o::rest) a w:=by
 refine wpList_plain hgd fun K hK => ?_;unfold Oper.wp execOp;rw [ho];simp [go_sem];exact hK _ _ h
theorem blkV{w:World}{g:Nat}(h:g=w.heap.size):Blk (w.alloc (.cells Vz 29)) g 29 Vz:=by
 rw [h];exact Blk.new _ _ _
end Go.Proofs.YtidacnalcdhckaaGreatDoor
