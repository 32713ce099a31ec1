/- Lemmas. No conditions. -/
import Derived.Test.YtaccjdppmmoepaaGreatDoorXq26
import Derived.Deep.MidRow
import Derived.Deep.DeepCutAuto
import Derived.Deep.Light
set_option maxRecDepth 100000
set_option maxHeartbeats 4000000
namespace Go.Proofs.YtaccjdppmmoepaaGreatDoor
open Go Go.RowKit Tryz
variable {qP:Prop}

def ArrV(w:World)(g:Nat)(s:List Val):Prop:=∀ k x,s[k]?=some x->∃ (B:OA) (b:Nat) (C:OA) (c:Nat),w.rangeAt g (k*7) ((Vp x B b C c)).toList/\g<w.heap.size/\x.cols.length<=b/\RV w (λ_=>True) 1 x B C
theorem ArrV.ext{w J:World}{g:Nat}{s:List Val}(h:ArrV w g s)(hx:Ext w J):ArrV J g s:=by
 intro k a hk;obtain ⟨A,c,D,e,h1,h2,h3,h4⟩:=h k a hk;exact ⟨A,c,D,e,λj v hj=>hx.cell (h1 j v hj),Nat.lt_of_lt_of_le h2 hx.size,h3,h4.keep (hx.kept _)⟩
theorem O2{A B:List Value}{n:Nat}(hA:A.length=n)(i:Nat)(v:Value):(A[i]?=some v->(A++B).toArray[0*n+i]?=some v)/\(B[i]?=some v->(A++B).toArray[1*n+i]?=some v):=by
 refine ⟨λh => ?_,λh => ?_⟩
 all_goals
  have hi:=(List.getElem?_eq_some_iff.1 h).1;rw [List.getElem?_toArray]
 ·rw [List.getElem?_append_left AA,show 0*n+i=i by omega];exact h
 ·rw [List.getElem?_append_right AA,show 1*n+i-A.length=i by omega];exact h
theorem Kb{P:Program}{ops:Array Oper}{rest:List Oper}{o:Oper}{a:Act}{w:World}{Q:Exit->Act->World->Prop}(hgd:o.guard=none)(ty:TypeId)(x:Operand)(ho:o.op=.load ty x)
  (b i:Nat) (hx:a.eval x=.pointer (some ⟨b,i,none⟩)) {cs:List Value} (hc:w.rangeAt b i cs) (hd:(match P.underlying ty with|some (.struct _)|some (.array _ _)=>true|_=>false)=true) (hi:(P.info? ty).map (·.size)=some cs.length)
  (h:wpList P ops Q rest (a.put o.dst (.agg cs.toArray)) w):wpList P ops Q (o::rest) a w:=by
 cases hu:P.underlying ty with
 |none=>rw [hu] at hd;cases hd
 |some d =>
  rw [hu] at hd;refine wpList_load_mid hgd ty x ho b i hx cs d hc hu ?_ hi h;cases d<;>first|rfl|cases hd
theorem MU{w:World}{x y:Val}{B1 C1 B2 C2:OA}{b1 c1 b2 c2:Nat}(h1:RV w (λ_=>True) 1 x B1 C1)(k1:x.cols.length<=b1)(h2:RV w (λ_=>True) 1 y B2 C2)(k2:y.cols.length<=b2) :
  ArrV (w.alloc (.cells (((Vp x B1 b1 C1 c1)).toList++((Vp y B2 b2 C2 c2)).toList).toArray 40)) w.heap.size [x,y]:=by
 have hb:=Blk.new w 40 (((Vp x B1 b1 C1 c1)).toList++((Vp y B2 b2 C2 c2)).toList).toArray;have hk:=((Ext.refl w).alloc (.cells (((Vp x B1 b1 C1 c1)).toList++((Vp y B2 b2 C2 c2)).toList).toArray 40)).kept (λ_=>True);intro k z hz
 match k,hz with
 |0,hz =>
  injection hz with hz;subst hz;exact ⟨B1,b1,C1,c1,λi v hv=>hb.cell ((O2 (n:=7) rfl i v).1 hv),hb.lt,k1,h1.keep hk⟩
 |1,hz =>
  injection hz with hz;subst hz;exact ⟨B2,b2,C2,c2,λi v hv=>hb.cell ((O2 (n:=7) rfl i v).2 hv),hb.lt,k2,h2.keep hk⟩
 |k+2,hz=>simp at hz

theorem BbA{s:BA}(h:Ca s=true):Aj Sh.full s=true:=by
 have h1:=h;rw [WN,Bool.and_eq_true,decide_eq_true_eq] at h1;unfold Aj EA EB;rw [h];have h2:CM (CT (bs s)) Sh.full.cls=true:=h1.2;rw [h2];have h3:((s.size:Int)<=Sh.full.most):=(by show (s.size:Int)<=200;omega);have h4:(Sh.full.least<=(s.size:Int)):=(by show (0:Int)<=s.size;omega);simp only [h3,h4,decide_true,Bool.and_true,Bool.true_and];rfl
theorem CWA{n s:Int}(h:Dz n s=true):BD Rg.full n s=true:=by
 unfold BD;rw [h,Bool.true_and,Bool.and_eq_true,decide_eq_true_eq,decide_eq_true_eq];have hl:Rg.full.lo=-1000000000000000000000:=AD;have hh:Rg.full.hi=1000000000000000000000:=AD;rw [hl,hh];obtain ⟨a1,a2,a3,a4⟩:=GX n s;unfold mu;generalize hv:(Bg n s).1=v at *;obtain ⟨k,hk⟩:∃ k:Nat,(6:Int)-(Bg n s).2=k:=⟨(6-(Bg n s).2).toNat,AA⟩;rw [hk];have hp:0<=pw k/\pw k<=1000000:=by
  have:k<=6:=AA
  match k,this with
  |0,_|1,_|2,_|3,_|4,_|5,_|6,_=>decide
 obtain ⟨p1,p2⟩:=hp;have e1:v*pw k<=1000000000000000*1000000:=Int.le_trans (Int.mul_le_mul_of_nonneg_right a4 p1) (Int.mul_le_mul_of_nonneg_left p2 AB);have e2:-(v*pw k)<=1000000000000000*1000000:=by
  rw [<-Int.neg_mul];exact Int.le_trans (Int.mul_le_mul_of_nonneg_right AA p1) (Int.mul_le_mul_of_nonneg_left p2 AB)
 constructor<;>omega
theorem S8(k:Int)(i:Nat)(h1:1<=i)(h5:i<=5):bt (if 1<=k/\k<=5 then NO k else 0) i=decide ((i:Int)=k):=by
 by_cases hk:1<=k/\k<=5
 ·rw [if_pos hk];obtain ⟨n,rfl⟩:∃ n:Nat,k=n:=⟨k.toNat,AA⟩
  match i,n,h1,h5,(show 1<=n by omega),(show n<=5 by omega) with
  |1,1,_,_,_,_|1,2,_,_,_,_|1,3,_,_,_,_|1,4,_,_,_,_|1,5,_,_,_,_=>decide
  |2,1,_,_,_,_|2,2,_,_,_,_|2,3,_,_,_,_|2,4,_,_,_,_|2,5,_,_,_,_=>decide
  |3,1,_,_,_,_|3,2,_,_,_,_|3,3,_,_,_,_|3,4,_,_,_,_|3,5,_,_,_,_=>decide
  |4,1,_,_,_,_|4,2,_,_,_,_|4,3,_,_,_,_|4,4,_,_,_,_|4,5,_,_,_,_=>decide
  |5,1,_,_,_,_|5,2,_,_,_,_|5,3,_,_,_,_|5,4,_,_,_,_|5,5,_,_,_,_=>decide
 ·rw [if_neg hk,decide_eq_false AA]
  match i,h1,h5 with
  |1,_,_|2,_,_|3,_,_|4,_,_|5,_,_=>decide
theorem Xx(k:Int)(v:Val):AW (Cs k) v=(BC v&&decide (v.kind=k)):=by
 unfold Cs;rw [CL];unfold AW;cases hr:BC v with
 |false=>rfl
 |true =>
  rw [Bool.true_and,Bool.true_and];by_cases h0:v.kind=0
  ·rw [if_pos h0,h0];show decide (k=0)=_;simp only [eq_comm]
  rw [if_neg h0];unfold Ha;by_cases h1:v.kind=1
  ·rw [if_pos h1,h1];show (bt (if 1<=k/\k<=5 then NO k else 0) 1&&Aj Sh.full v.s)=_;rw [BbA (LU hr h1).1,Bool.and_true];exact S8 k 1 AB AB
  rw [if_neg h1];have hf:v.kind≠5->BG v=true:=JN hr;by_cases h2:v.kind=2
  ·rw [if_pos h2,h2];show (bt (if 1<=k/\k<=5 then NO k else 0) 2&&BD Rg.full v.dn v.ds)=_;have h:=hf AA;unfold BG at h;rw [if_neg h0,if_neg h1,if_pos h2,Bool.and_eq_true] at h;rw [CWA h.1,Bool.and_true];exact S8 k 2 AB AB
  rw [if_neg h2];by_cases h3:v.kind=3
  ·rw [if_pos h3,h3];show (bt (if 1<=k/\k<=5 then NO k else 0) 3&&decide (0<=v.n/\v.n<=3652058))=_;have h:=hf AA;unfold BG at h;rw [if_neg h0,if_neg h1,if_neg h2,if_pos h3,Bool.and_eq_true] at h;rw [h.1,Bool.and_true];exact S8 k 3 AB AB
  rw [if_neg h3];by_cases h4:v.kind=4
  ·rw [if_pos h4,h4];show (bt (if 1<=k/\k<=5 then NO k else 0) 4&&bt 3 v.n.toNat)=_;have h:=hf AA;unfold BG at h;rw [if_neg h0,if_neg h1,if_neg h2,if_neg h3,if_pos h4,Bool.and_eq_true,decide_eq_true_eq] at h;have hb:bt 3 v.n.toNat=true:=(by rcases h.1 with h|h<;>rw [h]<;>decide);rw [hb,Bool.and_true];exact S8 k 4 AB AB
  rw [if_neg h4];have h5:v.kind=5:=by
   by_cases h5:v.kind=5
   ·exact h5
   have h:=hf h5;unfold BG at h;rw [if_neg h0,if_neg h1,if_neg h2,if_neg h3,if_neg h4] at h;cases h
  have ht:ED (IF k) v=true:=by
   have h:=hr;unfold BC at h;rw [if_pos h5,Bool.and_eq_true] at h;have h:=h.1;unfold BK at h;rw [Bool.and_eq_true,Bool.and_eq_true,decide_eq_true_eq] at h;have hl:=h.1.1.2;show (decide ((0:Int)<=v.rows.length)&&decide ((v.rows.length:Int)<=100)&&true&&true)=true;simp only [Bool.and_true,Bool.and_eq_true,decide_eq_true_eq];omega
  rw [h5,ht,Bool.and_true];exact S8 k 5 AB AB

theorem Sx(h:qP:=by
 refine wp_region_lit ?_;refine AJ rfl 36 _ rfl g3 rfl HR6.o AS AH ?_
 go_wp2_with fail
 refine HCN.o.mono ?_;rintro e5 w5 ⟨A5,c5,D5,e5,rfl,hab5,hx5⟩;have HX5:=Hd (HX6.o.trans hx5);have hb25:=HB20.o.keep (HX5.o.kept _);rename_i K1 hK1 K2 hK2;refine hK2 _ _ ?_;refine AM rfl 36 _ _ rfl g2 (Ap (AX r0) A5 c5 D5 e5) rfl rfl 36 _ hb25 AH rfl (by kernel_rfl) ?_;intro wf hbf hof;refine hK1 _ _ ?_;have HXF:=Hd ((HX0.o.trans HX5.o).only hof (by have:=HG2.o;omega));have HBF:=Hd hbf;have hg2l:=HB20.o.lt;have hg3l:=HR6.o.lt;have hkf:=hof.kept (S:=λb=>g3<b) (λb _ hb e=>by have:=HG3.o;omega);have HABF:=Hd ((hab5.mono (T:=λb=>g3<b) λb _ hb=>by rcases hb with h|h;exact h.elim;omega).keep hkf);clear hK1 hK2 hbf hb25 hx5 hab5 hof hkf
 go_wp2_with fail
 refine bodyPost_ret (Bv results15 rfl (Eq HBF.o AS AH)) rfl ?_;rw [HRE.o];exact ⟨A5,c5,D5,e5,rfl,HABF.o.mono λb _ hb=>.inr (by have:=HG3.o;have:=HX0.o.size;omega),HXF.o⟩):qP:=h
theorem Q4(h:qP:=by
 have HAB:=Hd (show AbM w6 (λb=>False) r0 none 0 none 0 from AbM.nil HRN.o.1);have HCN:=Hd (EG r0 none none 0 0 w6 _ HAB.o.2.2.1 HAB.o.2.2.2 HRN.o.2);exact Sx):qP:=h
theorem Ld(h:qP:=by
 rw [<-hw6] at hbb;rw [HRR.o]
 skip
 simpa [IF,Ap,NO] using hbb):qP:=h
theorem Gl(h:qP:=by
 clear rf rl cc0 hw6;exact Q4):qP:=h
theorem BHA(h:qP:=by
 have hbb:=HB3.o;rw [HRR.o]
 simpa [IF,Ap,HK15.o,HK0.o] using hbb):qP:=h
theorem Pl(h:qP:=by
 have rf:=HB3.o.frozen;have rl:=HB3.o.lt
 go_upto_region 6 with fail
 obtain ⟨w6,hw6⟩:=eqx w3;have hw6s:=hw6.symm;subst hw6s;have HX6:=Hd HX3.o;have HR6:=Hd (show Blk w3 g3 36 (Ap r0 none 0 none 0) by
  exact BHA)
 clear rf rl;have HAB:=Hd (show AbM w3 (λb=>False) r0 none 0 none 0 from AbM.nil HRN.o.1);have HCN:=Hd (EG r0 none none 0 0 w3 _ HAB.o.2.2.1 HAB.o.2.2.2 HRN.o.2);exact Sx):qP:=h
theorem CxA(k:Int)(w:World):Cl 15 #[.I k] w (Eh w (λ_=>False) (Cs k)):=by
 obtain ⟨w0,hw0⟩:=eqx (w.alloc (.cells Az 36));obtain ⟨g2,hg2⟩:=eqx w.heap.size;have hx0:Ext w w0:=BS;obtain ⟨HB20,a8,HG2,HX0⟩:=Hd4 (show Blk w0 g2 36 Az by rw [hw0,hg2];exact Blk.new _ _ _) hw0 hg2 hx0;clear hw0 hg2 hx0
 go_enter func15,ntmps15
 go_upto_region 1 with fail
 rw [<-a8.o,<-HG2.o]
 go_wp2_with fail
 refine (BuA _).mono ?_;rintro e1 w1 ⟨rfl,hx1⟩;have HX1:=Hd hx1;clear hx1
 go_wp2_with fail
 refine (EAA _).mono ?_;rintro e2 w2 ⟨rfl,hx2⟩;have HX2:=Hd (HX1.o.trans hx2);clear hx2;rename_i K1 hK1 K2 hK2;refine hK2 _ _ ?_;refine AZ rfl (.agg #[.I 0,.I 3652058]) (J:=w2) AD ?_;refine AZ rfl (.agg #[.I 0,.I 100]) (J:=w2) AD ?_;refine AZ rfl (.agg #[.I 0,.I Sh.full.least,.I Sh.full.most,.I Sh.full.cls,.string Sh.full.b,.string Sh.full.e,.I Rg.full.ln,.I Rg.full.ls,.I Rg.full.hn,.I Rg.full.hs,.I 0,.I 3652058,.I 3,.I 0,.I 100,.slice none 0 0,.slice none 0 0,.bool false]) (J:=w2) AD ?_;refine Ag rfl rfl ?_;obtain ⟨g3,hg3⟩:=eqx w2.heap.size;rw [<-hg3];refine AM rfl 36 _ _ rfl g3 #[.I 0,.I Sh.full.least,.I Sh.full.most,.I Sh.full.cls,.string Sh.full.b,.string Sh.full.e,.I Rg.full.ln,.I Rg.full.ls,.I Rg.full.hn,.I Rg.full.hs,.I 0,.I 3652058,.I 3,.I 0,.I 100,.slice none 0 0,.slice none 0 0,.bool false] rfl rfl 36 _ (GK hg3) AH rfl AD ?_;intro w3 Y U;have hx3:Ext w2 w3:=(exaa w2).only U GI;refine hK1 _ _ ?_;obtain ⟨HX3,HB3,HG3⟩:=Hd3 (HX2.o.trans hx3) Y (show w0.heap.size<=g3 by rw [hg3];exact HX2.o.size);clear hK1 hK2 Y U hx3 hg3;obtain ⟨r0,O⟩:∃ z:Abs,z=IF k:=⟨_,rfl⟩;obtain ⟨HRE,HRN,HRR⟩:=Hd3 (show Cs k=AX r0 by rw [O];rfl) (show (r0.cols=[]/\r0.deps=[])/\AbN 1000000 r0 by rw [O];exact ⟨⟨rfl,rfl⟩,AN,AN,AN,AN,λd hd=>BQ⟩) O;clear O;by_cases hk:k=0
 case pos =>
  subst hk;have rf:=HB3.o.frozen;have rl:=HB3.o.lt;have Z:w3.cell? ⟨g3,17,none⟩=some (.bool false):=HB3.o.q17
  go_upto_region 6 with fail
  obtain ⟨w6,hw6⟩:=eqx (w3.setCell ⟨g3,17,none⟩ (.bool true));rw [<-hw6];have HX6:=Hd (show Ext w0 w6 by rw [hw6];exact (HX3.o.set2 HG3.o _));have HR6:=Hd (show Blk w6 g3 36 (Ap r0 none 0 none 0) by
   have hbb:=(HB3.o.set 17 (.bool true));exact Ld)
  clear rf rl Z hw6;exact Q4
 by_cases hk1:k=1
 case pos =>
  subst hk1;have rf:=HB3.o.frozen;have rl:=HB3.o.lt;have cc0:w3.cell? ⟨g3,0,none⟩=some (.I 0):=HB3.o.q0
  go_upto_region 6 with fail
  obtain ⟨w6,hw6⟩:=eqx (w3.setCell ⟨g3,0,none⟩ (.I 2));rw [<-hw6];have HX6:=Hd (show Ext w0 w6 by rw [hw6];exact (HX3.o.set2 HG3.o _));have HR6:=Hd (show Blk w6 g3 36 (Ap r0 none 0 none 0) by
   have hbb:=(HB3.o.set 0 (.I 2));exact Ld)
  exact Gl
 by_cases hk2:k=2
 case pos =>
  subst hk2;have rf:=HB3.o.frozen;have rl:=HB3.o.lt;have cc0:w3.cell? ⟨g3,0,none⟩=some (.I 0):=HB3.o.q0
  go_upto_region 6 with fail
  obtain ⟨w6,hw6⟩:=eqx (w3.setCell ⟨g3,0,none⟩ (.I 4));rw [<-hw6];have HX6:=Hd (show Ext w0 w6 by rw [hw6];exact (HX3.o.set2 HG3.o _));have HR6:=Hd (show Blk w6 g3 36 (Ap r0 none 0 none 0) by
   have hbb:=(HB3.o.set 0 (.I 4));exact Ld)
  exact Gl
 by_cases hk3:k=3
 case pos =>
  subst hk3;have rf:=HB3.o.frozen;have rl:=HB3.o.lt;have cc0:w3.cell? ⟨g3,0,none⟩=some (.I 0):=HB3.o.q0
  go_upto_region 6 with fail
  obtain ⟨w6,hw6⟩:=eqx (w3.setCell ⟨g3,0,none⟩ (.I 8));rw [<-hw6];have HX6:=Hd (show Ext w0 w6 by rw [hw6];exact (HX3.o.set2 HG3.o _));have HR6:=Hd (show Blk w6 g3 36 (Ap r0 none 0 none 0) by
   have hbb:=(HB3.o.set 0 (.I 8));exact Ld)
  exact Gl
 by_cases hk4:k=4
 case pos =>
  subst hk4;have rf:=HB3.o.frozen;have rl:=HB3.o.lt;have cc0:w3.cell? ⟨g3,0,none⟩=some (.I 0):=HB3.o.q0
  go_upto_region 6 with fail
  obtain ⟨w6,hw6⟩:=eqx (w3.setCell ⟨g3,0,none⟩ (.I 16));rw [<-hw6];have HX6:=Hd (show Ext w0 w6 by rw [hw6];exact (HX3.o.set2 HG3.o _));have HR6:=Hd (show Blk w6 g3 36 (Ap r0 none 0 none 0) by
   have hbb:=(HB3.o.set 0 (.I 16));exact Ld)
  exact Gl
 by_cases hk5:k=5
 case pos =>
  subst hk5;have rf:=HB3.o.frozen;have rl:=HB3.o.lt;have cc0:w3.cell? ⟨g3,0,none⟩=some (.I 0):=HB3.o.q0
  go_upto_region 6 with fail
  obtain ⟨w6,hw6⟩:=eqx (w3.setCell ⟨g3,0,none⟩ (.I 32));rw [<-hw6];have HX6:=Hd (show Ext w0 w6 by rw [hw6];exact (HX3.o.set2 HG3.o _));have HR6:=Hd (show Blk w6 g3 36 (Ap r0 none 0 none 0) by
   have hbb:=(HB3.o.set 0 (.I 32));exact Ld)
  exact Gl
 have HK15:=Hd (show ¬(1<=k/\k<=5) by omega);have HK0:=Hd (show ¬k=0 by assumption);by_cases hlo:1<=k
 ·have b0:¬k<=5:=AA;exact Pl
 ·have a9:k<1:=AA;exact Pl

def PH(w:World)(q:Nat)(l:List Val)(e:Ending)(J:World):Prop:=∃ (A:OA) (c:Nat),e=.returned (.slice A l.length c)/\OwnVs J w.heap.size (λb=>w.heap.size<=b) q A c l/\Ext w J
def PC6(d:Nat):Prop:=∀ (x:Val) (A B:OA) (c e:Nat) (w:World) (S:NP),RV w S d x A B->Cl 31 #[(Vq x A c B e)] w (HuA w (BO w) d x)
theorem Kp(q:Nat)(ih:0<q->PC6 (q-1))(l:List Val)(A:OA)(c:Nat)(w:World)(S:NP)(h:Row w S q A l):Cl 91 #[.slice A l.length c] w (PH w q l):=by
 have hlen:=h.len;have b0:=Hd h;have IH:=Hd ih;clear h ih
 go_enter func91,ntmps91
 go_wp2
 go_loopw [3,4] (λv i wi=>∃ (j:Nat) (A':OA) (c':Nat),j<=l.length/\i=.I j/\v=.slice A' j c'/\Ext w wi/\OwnVs wi w.heap.size (λb=>w.heap.size<=b) q A' c' (l.take j)) (λ_ i _=>l.length-(intOf i).toNat)
 case atStart=>exact ⟨0,none,0,AN,rfl,rfl,Ext.refl _,OwnVs.nil _ _ _ _⟩
 case round =>
  obtain ⟨j,A',c',hj,rfl,rfl,O,a8⟩:=hrel;have HBI:=Hd O;have Z:=Hd a8;by_cases hlt2:j<l.length
  ·obtain ⟨b2,o2,A5,c5,B5,e5,rfl,z2,⟨p0,p1,p2,p3,p4,p5,p6⟩,⟨hq,_,_⟩,hv⟩:=(b0.o.keep (O.kept _)).at_ hlt2;have HV:=Hd hv;have hszi:=O.size;clear hv O a8
   go_wp2_with fail
   refine (IH.o hq _ _ _ _ _ _ S HV.o).mono ?_;rintro e3 w3 ⟨A3,c3,B3,e3,rfl,b3,hv3,hx3⟩;have HX3:=Hd hx3;have hz3:=hx3.size;have U:=hv3.mono (T:=λb=>wr.heap.size<=b) (λi _ hi=>hi);obtain ⟨xs,hown,a9⟩:=Z.o.ext (HX3.o.alloc (.cells (En l[j] A3 c3 B3 e3).toArray 40));have Y:(l.take j).length=j:=BP;have b5:=Hd a9;rw [Y] at hown;obtain ⟨HOWN,b4,HV3⟩:=Hd3 hown Y U;clear a9 hown hv3 U hx3 Y
   go_wp2_with (at_builtin;go_must (refine AL rfl (.tmp 11) (.tmp 17) rfl tiV rfl HOWN.o rfl (Blk.rd (Blk.new _ _ _)) rfl BIA AA AB AI ?_);intro A4 c4 w4 hown4 hg4 hat4)
   go_roundw
   case rel =>
    refine ⟨j+1,A4,c4,AA,AE,rfl,?_,?_⟩
    ·exact ((HBI.o.trans HX3.o).alloc _).grown hg4 (λk hk=>(HOWN.o.blk hk).1)
    ·rw [List.take_succ_eq_append_getElem hlt2];refine OwnVs.push b5.o (by rw [b4.o];exact hown4) hg4 hat4 ⟨hq,b3⟩ ((HV3.o.keep (Kept.alloc _ _ _)).mono λi _ hi=>⟨λh0 => ?_,AA⟩);have:=(Z.o.blk h0).2;omega
   case measure=>simp [intOf];omega
  ·have b6:j=l.length:=AA;subst b6;have HR:=Hd (show OwnVs wr w.heap.size (λb=>w.heap.size<=b) q A' c' l by have:=Z.o;rwa [List.take_of_length_le (Al)] at this);go_wp2;go_ret;exact ⟨A',c',rfl,HR.o,HBI.o⟩

def OwnRR(w:World)(base:Nat)(av:NP)(q:Nat)(A:OA)(c:Nat)(l:List (List Val)):Prop :=
 ∃ (hs:List Value) (cut:Nat->Nat),Own w base 45 1 A l.length c hs/\(∀ i j,i<=j->cut i<=cut j)/\base<=cut 0/\cut l.length<=w.heap.size /\
  ∀ (i:Nat) (r:List Val),l[i]?=some r->∃ (B:OA) (e:Nat),hs[i]?=some (Value.slice B r.length e)/\OwnVs w (cut i) (λb=>cut i<=b/\b<cut (i+1)/\ob A≠some b/\¬av b) q B e r/\∀ b,ob B=some b->b<cut (i+1)/\ob A≠some b/\¬av b
section
variable {w J:World}{base q c c':Nat}{av:NP}{A A':OA}{l:List (List Val)}
theorem OwnVs.shift{base1 base2 d:Nat}{X1 X2:NP}{B:OA}{e:Nat}{r:List Val}(h:OwnVs w base1 X1 d B e r)(hb:∀ b,ob B=some b->base2<=b)(hX:∀ b,b<w.heap.size->X1 b->X2 b):OwnVs w base2 X2 d B e r:=by
 obtain ⟨xs,h1,h2⟩:=h;refine ⟨xs,⟨h1.1,?_⟩,h2.imp λ_ _ hh=>hh.mono λi hi hh=>⟨hh.1,hX i hi hh.2⟩⟩
 rcases h1.2 with h3|⟨g,cap,cur,hv,_,rest⟩
 ·exact .inl h3
 ·exact .inr ⟨g,cap,cur,hv,hb g (by injection hv with hA;rw [hA];rfl),rest⟩
theorem OwnRR.nil(w:World)(base:Nat)(av:NP)(q:Nat)(hb:base<=w.heap.size):OwnRR w base av q none 0 []:=⟨[],λ_=>base,Own.nil _ _ _ _,λ_ _ _=>Al,Al,hb,AC⟩
theorem Ee(h:qP:=by
 exact ⟨B,e,g1,g2.ext hx,g3⟩):qP:=h
theorem OwnRR.ext(h:OwnRR w base av q A c l)(hx:Ext w J):OwnRR J base av q A c l:=by
 obtain ⟨hs,cut,h1,h2,h3,h4,h5⟩:=h;refine ⟨hs,cut,h1.ext hx,h2,h3,Nat.le_trans h4 hx.size,λi r hr => ?_⟩;obtain ⟨B,e,g1,g2,g3⟩:=h5 i r hr;exact Ee
theorem OwnRR.keep(h:OwnRR w base av q A c l)(hk:Kept (λb=>base<=b/\¬av b) w J)(ha:∀ b,ob A=some b->¬av b):OwnRR J base av q A c l:=by
 obtain ⟨hs,cut,h1,h2,h3,h4,h5⟩:=h;refine ⟨hs,cut,h1.keep (hk.mono λb _ hb=>⟨(h1.blk hb).1,ha b hb⟩),h2,h3,Nat.le_trans h4 hk.1,λi r hr => ?_⟩;obtain ⟨B,e,g1,g2,g3⟩:=h5 i r hr;have hc:=h2 0 i (AN);refine ⟨B,e,g1,g2.keep (hk.mono λb _ hb => ?_),g3⟩
 rcases hb with hb|hb
 ·exact ⟨by have:=(g2.blk hb).1;omega,(g3 b hb).2.2⟩
 ·exact ⟨AA,hb.2.2.2⟩
theorem OwnRR.blk(h:OwnRR w base av q A c l){k:Nat}(hk:ob A=some k):base<=k/\k<w.heap.size:=by
 obtain ⟨xs,_,ho,_⟩:=h;exact ho.blk hk
theorem OwnRR.cap(h:OwnRR w base av q A c l):l.length<=c:=by
 obtain ⟨xs,_,ho,_⟩:=h;exact ho.cap
theorem OwnRR.rows(h:OwnRR w base av q A c l)(hl:l.length<=4294967296)(hr:∀ r∈l,r.length<=4294967296):Rows w (λb=>base<=b) q A l:=by
 obtain ⟨hs,cut,h1,h2,h3,h4,h5⟩:=h;refine ⟨hl,hs,h1.rd.mono λi _ hi=>(h1.blk hi).1,by simpa using h1.len,λi r hi => ?_⟩;obtain ⟨B,e,g1,g2,g3⟩:=h5 i r hi;have hc:=h2 0 i (AN);have O:r.length<=e:=(by obtain ⟨xs,ho,_⟩:=g2;exact ho.cap);exact ⟨B,e,g1,O,g2.row (hr r (List.mem_of_getElem? hi)) (λb hb=>by have:=(g2.blk hb).1;omega) (λb hb=>AA)⟩
theorem OwnRR.push{r:List Val}{B:OA}{e lo:Nat}{hs:List Value}{cut:Nat->Nat}(hlo:cut l.length<=lo)(hlw:lo<=w.heap.size)(h2:∀ i j,i<=j->cut i<=cut j)(h3:base<=cut 0)(hh:hs.length=l.length)(hA:∀ b,ob A=some b->base<=b/\b<lo)(hav:∀ b,av b->b<lo)
  (h5:∀ (i:Nat) (r:List Val),l[i]?=some r->∃ (B:OA) (e:Nat),hs[i]?=some (Value.slice B r.length e)/\OwnVs w (cut i) (λb=>cut i<=b/\b<cut (i+1)/\ob A≠some b/\¬av b) q B e r/\∀ b,ob B=some b->b<cut (i+1)/\ob A≠some b/\¬av b)
  (hr:OwnVs w lo (λb=>lo<=b) q B e r) (hown:Own J base 45 1 A' (l.length+1) c' (hs++[Value.slice B r.length e])) (hg:w.grownBy J (ob A)) (hat:ob A'=ob A\/ob A'=some w.heap.size):OwnRR J base av q A' c' (l++[r]):=by
 have hne:∀ b,b<w.heap.size->ob A≠some b->ob A'≠some b:=by
  intro b hb h1 h2
  rcases hat with e|e<;>rw [e] at h2
  ·exact h1 h2
  ·injection h2 with h2;omega
 have hk:Kept (λb=>ob A≠some b) w J:=Kept.of_grown hg λb hb _ e=>hb e.symm;refine ⟨_,λi=>if i<=l.length then cut i else w.heap.size,Dg,?_,?_,?_,?_⟩
 ·intro i j hij;dsimp only;have hll:=h2 i l.length;split<;>split
  ·exact h2 i j hij
  ·have:=h2 i l.length AA;omega
  ·omega
  ·exact Al
 ·simpa using h3
 ·simp only [List.length_append,List.length_cons,List.length_nil];rw [if_neg AA];exact hg.size
 ·intro i r' hi
  rcases Nat.lt_or_ge i l.length with hlt|U
  ·rw [List.getElem?_append_left hlt] at hi;obtain ⟨B',e',g1,g2,g3⟩:=h5 i r' hi;have hc:=h2 (i+1) l.length AA;refine ⟨B',e',by rw [List.getElem?_append_left AA];exact g1,?_,?_⟩
   ·simp only [if_pos (show i<=l.length by omega),if_pos (show i+1<=l.length by omega)];refine (g2.keep (hk.mono λb hb h => ?_)).shift (λb hb=>(g2.blk hb).1) ?_
    ·rcases h with h|h
     ·exact (g3 b h).2.1
     ·exact h.2.2.1
    ·intro b _ hb;exact ⟨hb.1,hb.2.1,hne b AA hb.2.2.1,hb.2.2.2⟩
   ·intro b hb;have:=g3 b hb;simp only [if_pos (show i+1<=l.length by omega)];exact ⟨this.1,hne b AA this.2.1,this.2.2⟩
  ·rw [List.getElem?_append_right U] at hi;have hj0:i-l.length=0:=by
    rcases Nat.eq_zero_or_pos (i-l.length) with h0|h0
    ·exact h0
    ·rw [List.getElem?_eq_none AI] at hi;cases hi
   rw [hj0] at hi;simp at hi;subst hi;obtain rfl:i=l.length:=AA;have O:∀ b,lo<=b->ob A≠some b:=λb hb e=>by have:=hA b e;omega
   refine ⟨B,e,by rw [List.getElem?_append_right AA,hh];simp,?_,?_⟩
   ·simp only [Nat.le_refl,if_true,if_neg (show ¬l.length+1<=l.length by omega)];have h9:=(hr.shift (base2:=cut l.length) (X2:=λb=>(cut l.length<=b/\b<w.heap.size/\ob A'≠some b/\¬av b)/\ob A≠some b) (λb hb=>by have:=(hr.blk hb).1;omega) λb hbw hb=>⟨⟨AA,hbw,hne b hbw (O b hb),λh=>by have:=hav b h;omega⟩,O b hb⟩).keep (hk.mono λb hb h => ?_)
    ·exact h9.shift (λb hb=>(h9.blk hb).1) λb _ hb=>hb.1
    ·rcases h with h|h
     ·exact O b (hr.blk h).1
     ·exact h.2
   ·intro b hb;have:=hr.blk hb;simp only [if_neg (show ¬l.length+1<=l.length by omega)];exact ⟨this.2,hne b this.2 (O b this.1),λh=>by have:=hav b h;omega⟩
end
structure CpR(w:World)(x:Val)(q:Nat)(A B:OA)(c e:Nat)(Ac:OA)(cc:Nat)(k:Nat)(Ar:OA)(cr:Nat)(wr:World):Prop where
 ext:Ext w wr
 box:Blk wr w.heap.size 40 (Vp x A c B e)
 res:Blk wr (w.heap.size+1) 40 Vz
 gout:Blk wr (w.heap.size+1+1) 40 #[.I x.kind,.string x.s,.I x.dn,.I x.ds,.I x.n,.slice Ac x.cols.length cc,.slice Ar k cr]
 cols:OwnSs wr (w.heap.size+3) Ac cc x.cols
 rows:OwnRR wr (w.heap.size+3) (λb=>ob Ac=some b) q Ar cr (x.rows.take k)
 sep:∀ b,ob Ac=some b->ob Ar≠some b
theorem CpR.more{w:World}{x:Val}{q:Nat}{A B:OA}{c e:Nat}{Ac:OA}{cc:Nat}{k:Nat}{Ar:OA}{cr:Nat}{wr wr':World}(h:CpR w x q A B c e Ac cc k Ar cr wr)(hx:Ext wr wr'):CpR w x q A B c e Ac cc k Ar cr wr' :=
 ⟨h.ext.trans hx,h.box.keep (hx.kept _),h.res.keep (hx.kept _),h.gout.keep (hx.kept _),h.cols.ext hx,h.rows.ext hx,h.sep⟩
structure CpA(w:World)(x:Val)(q:Nat)(A B:OA)(c e:Nat)(Ac:OA)(cc:Nat)(k:Nat)(Ar:OA)(cr:Nat)(wr:World):Prop where
 ext:Ext w wr
 box:Blk wr w.heap.size 40 (Vp x A c B e)
 res:Blk wr (w.heap.size+1) 40 Vz
 gout:∃ y,Blk wr (w.heap.size+1+1) 40 #[.I x.kind,.string x.s,.I x.dn,.I x.ds,.I x.n,.slice Ac x.cols.length cc,y]
 cols:OwnSs wr (w.heap.size+3) Ac cc x.cols
 rows:OwnRR wr (w.heap.size+3) (λb=>ob Ac=some b) q Ar cr (x.rows.take k)
 sep:∀ b,ob Ac=some b->ob Ar≠some b
theorem BDA(h:qP:=by
 rw [e] at hb';have:=(h.cols.1.blk hb).2;injection hb' with hb';omega):qP:=h
theorem II(h:qP:=by
 intro b hb hb'
 rcases hat with e|e
 ·rw [e] at hb';exact h.sep b hb hb'
 ·exact BDA):qP:=h
theorem CpR.app{w:World}{x:Val}{q:Nat}{A B:OA}{c e:Nat}{Ac:OA}{cc:Nat}{k:Nat}{Ar:OA}{cr:Nat}{wr wr':World}(h:CpR w x q A B c e Ac cc k Ar cr wr){hs:List Value}{cut:Nat->Nat}{lo:Nat}{A3 A4:OA}{c3 c4:Nat}(hk:k<x.rows.length)
  (ho:Own wr (w.heap.size+3) 45 1 Ar (x.rows.take k).length cr hs) (h2:∀ i j,i<=j->cut i<=cut j) (h3:w.heap.size+3<=cut 0) (h4:cut (x.rows.take k).length<=lo) (hlw:lo<=wr.heap.size) (hAlo:∀ b,ob Ar=some b->b<lo) (hClo:∀ b,ob Ac=some b->b<lo)
  (h5:∀ (i:Nat) (r:List Val),(x.rows.take k)[i]?=some r->∃ (B:OA) (e:Nat),hs[i]?=some (Value.slice B r.length e)/\OwnVs wr (cut i) (λb=>cut i<=b/\b<cut (i+1)/\ob Ar≠some b/\¬ob Ac=some b) q B e r/\∀ b,ob B=some b->b<cut (i+1)/\ob Ar≠some b/\¬ob Ac=some b)
  (hr:OwnVs wr lo (λb=>lo<=b) q A3 c3 x.rows[k]) (hg:wr.grownBy wr' (ob Ar)) (ho4:Own wr' (w.heap.size+3) 45 1 A4 (k+1) c4 (hs++[Value.slice A3 x.rows[k].length c3])) (hat:ob A4=ob Ar\/ob A4=some wr.heap.size):CpA w x q A B c e Ac cc (k+1) A4 c4 wr':=by
 have O:(x.rows.take k).length=k:=BP;have hkb:∀ g,g<w.heap.size+3->Kept (λb=>b=g) wr wr':=λg hg'=>Kept.of_grown hg λb hb _ e=>by
  subst hb;have:=(ho.blk e.symm).1;omega
 refine ⟨Ext.grown h.ext hg λb hb=>by have:=(ho.blk hb).1;omega,h.box.keep (hkb _ AA),h.res.keep (hkb _ AA),⟨_,h.gout.keep (hkb _ AA)⟩,⟨h.cols.1.keep (Kept.of_grown hg λb hb _ e=>h.sep b hb e.symm),h.cols.2⟩,?_,?_⟩
 ·rw [List.take_succ_eq_append_getElem hk];exact OwnRR.push h4 hlw h2 h3 (by simpa using ho.len) (λb hb=>⟨(ho.blk hb).1,hAlo b hb⟩) hClo h5 hr (by rw [O];exact ho4) hg hat
 ·exact II
theorem CpA.store{w:World}{x:Val}{q:Nat}{A B:OA}{c e:Nat}{Ac:OA}{cc:Nat}{k:Nat}{Ar:OA}{cr:Nat}{wr:World}(h:CpA w x q A B c e Ac cc k Ar cr wr):CpR w x q A B c e Ac cc k Ar cr (wr.setCell ⟨w.heap.size+1+1,6,none⟩ (.slice Ar k cr)):=by
 obtain ⟨y,hy⟩:=h.gout;have ho:=(Only.refl (w.heap.size+1+1) wr).set 6 (.slice Ar k cr);refine ⟨h.ext.only ho AA,h.box.keep (ho.kept λb _ e=>AA),h.res.keep (ho.kept λb _ e=>AA),hy.set 6 _,⟨ho.own h.cols.1 AA,h.cols.2⟩,h.rows.keep (ho.kept λb _ hb=>AA) (λb hb hb'=>h.sep b hb' hb),h.sep⟩

def CkA(w:World)(x:Val)(q:Nat)(Ac:OA)(k:Nat)(Ar:OA)(r:List Val)(A3:OA)(c3:Nat)(hs:List Value)(cut:Nat->Nat)(lo:Nat)(wr:World):Prop :=
 (∀ i j,i<=j->cut i<=cut j)/\w.heap.size+3<=cut 0/\cut (x.rows.take k).length<=lo/\lo<=wr.heap.size/\(∀ b,ob Ar=some b->b<lo)/\(∀ b,ob Ac=some b->b<lo) /\
  (∀ (i:Nat) (r:List Val),(x.rows.take k)[i]?=some r->∃ (B:OA) (e:Nat),hs[i]?=some (Value.slice B r.length e)/\OwnVs wr (cut i) (λb=>cut i<=b/\b<cut (i+1)/\ob Ar≠some b/\¬ob Ac=some b) q B e r/\∀ b,ob B=some b->b<cut (i+1)/\ob Ar≠some b/\¬ob Ac=some b) /\
  OwnVs wr lo (λb=>lo<=b) q A3 c3 r
structure CpB(w:World)(x:Val)(q:Nat)(A B:OA)(c e:Nat)(Ac:OA)(cc:Nat)(k:Nat)(Ar:OA)(cr:Nat)(r:List Val)(A3:OA)(c3:Nat)(wr:World):Prop where
 base:CpR w x q A B c e Ac cc k Ar cr wr
 row:∃ (hs:List Value) (cut:Nat->Nat) (lo:Nat),Own wr (w.heap.size+3) 45 1 Ar (x.rows.take k).length cr hs/\CkA w x q Ac k Ar r A3 c3 hs cut lo wr
theorem JE(h:qP:=by
 obtain ⟨B,e,g1,g2,g3⟩:=h5 i r hi;exact Ee):qP:=h
theorem CpB.of{w:World}{x:Val}{q:Nat}{A B:OA}{c e:Nat}{Ac:OA}{cc:Nat}{k:Nat}{Ar:OA}{cr:Nat}{wr wr':World}{r:List Val}{A3:OA}{c3:Nat}(h:CpR w x q A B c e Ac cc k Ar cr wr)(ho:OwnVs wr' wr.heap.size (λb=>wr.heap.size<=b) q A3 c3 r)(hx:Ext wr wr'):CpB w x q A B c e Ac cc k Ar cr r A3 c3 wr':=by
 obtain ⟨hs,cut,h1,h2,h3,h4,h5⟩:=h.rows;refine ⟨h.more hx,hs,cut,wr.heap.size,h1.ext hx,h2,h3,h4,hx.size,λb hb=>(h1.blk hb).2,λb hb=>(h.cols.1.blk hb).2,λi r hi => ?_,ho⟩;exact JE
theorem JU(h:qP:=by
 obtain ⟨B,e,g1,g2,g3⟩:=h8 i r hi;exact Ee):qP:=h
theorem CpB.more{w:World}{x:Val}{q:Nat}{A B:OA}{c e:Nat}{Ac:OA}{cc:Nat}{k:Nat}{Ar:OA}{cr:Nat}{wr wr':World}{r:List Val}{A3:OA}{c3:Nat}(h:CpB w x q A B c e Ac cc k Ar cr r A3 c3 wr)(hx:Ext wr wr'):CpB w x q A B c e Ac cc k Ar cr r A3 c3 wr':=by
 obtain ⟨hs,cut,lo,h1,h2,h3,h4,h5,h6,h7,h8,h9⟩:=h.row;refine ⟨h.base.more hx,hs,cut,lo,h1.ext hx,h2,h3,h4,Nat.le_trans h5 hx.size,h6,h7,λi r hi => ?_,h9.ext hx⟩;exact JU
theorem CpB.app{w:World}{x:Val}{q:Nat}{A B:OA}{c e:Nat}{Ac:OA}{cc:Nat}{k:Nat}{Ar:OA}{cr:Nat}{wr wr':World}{r:List Val}{A3 A4:OA}{c3 c4:Nat}(h:CpB w x q A B c e Ac cc k Ar cr r A3 c3 wr){hs:List Value}{cut:Nat->Nat}{lo:Nat}(hr:∃ hk:k<x.rows.length,r=x.rows[k])(hk:k<x.rows.length)(h1:Own wr (w.heap.size+3) 45 1 Ar (x.rows.take k).length cr hs)(hb:CkA w x q Ac k Ar r A3 c3 hs cut lo wr)
  (hg:wr.grownBy wr' (ob Ar)) (ho4:Own wr' (w.heap.size+3) 45 1 A4 (k+1) c4 (hs++[Value.slice A3 r.length c3])) (hat:ob A4=ob Ar\/ob A4=some wr.heap.size):CpA w x q A B c e Ac cc (k+1) A4 c4 wr':=by
 obtain ⟨_,rfl⟩:=hr;obtain ⟨h2,h3,h4,h5,h6,h7,h8,h9⟩:=hb;exact h.base.app hk h1 h2 h3 h4 h5 h6 h7 h8 h9 hg ho4 hat
def Mw(w:World)(x:Val)(q:Nat)(A B:OA)(c e:Nat)(Ac:OA)(cc:Nat)(k:Nat)(Ar:OA)(cr:Nat)(_r:List Val)(_b _o:Nat)(_C:OA)(_ec:Nat)(F:Nat)(J:World):Prop:=F<=4/\(Ext w J/\Blk J w.heap.size 40 (Vp x A c B e))/\(F<=2->CpR w x q A B c e Ac cc k Ar cr J)
def Ov(w:World)(x:Val)(q:Nat)(A B:OA)(c e:Nat)(Ac:OA)(cc:Nat)(k:Nat)(Ar:OA)(cr:Nat)(r:List Val)(b o:Nat)(C:OA)(ec:Nat):Nat->List Value->Nat->World->Prop
 |0,[v],_,_=>v=.pointer (some ⟨w.heap.size+1+1,6,none⟩)
 |1,[v],_,_=>v=.slice Ar k cr
 |2,[v],_,_=>v=.pointer (some ⟨w.heap.size,6,none⟩)
 |3,[v],_,_=>v=.slice B x.rows.length e
 |4,[v],_,_=>v=.I (k:Int)
 |5,[v],_,_=>v=.pointer (some ⟨b,o+k,none⟩)
 |6,[v],_,_=>v=.slice C r.length ec
 |7,[v],F,J=>∃ (A3:OA) (c3:Nat),v=.slice A3 r.length c3/\1<=F/\(F=1->CpB w x q A B c e Ac cc k Ar cr r A3 c3 J)
 |8,[v],F,J=>∃ (g:Nat) (A3:OA) (c3:Nat),v=.slice (some ⟨g,0,none⟩) 1 1/\2<=F/\(F=2->Blk J g 45 #[.slice A3 r.length c3]/\CpB w x q A B c e Ac cc k Ar cr r A3 c3 J)
 |9,[v],F,J=>∃ (A4:OA) (c4:Nat),v=.slice A4 (k+1) c4/\3<=F/\(F=3->CpA w x q A B c e Ac cc (k+1) A4 c4 J)
 |10,[v],_,_=>v=.pointer (some ⟨w.heap.size+1+1,6,none⟩)
 |11,[_],F,J=>4<=F/\(F=4->∃ (A4:OA) (c4:Nat),CpR w x q A B c e Ac cc (k+1) A4 c4 J)
 |_,_,_,_=>True
theorem Ik(h:qP:=by
 split at h
 all_goals first
  |exact h
  |(obtain ⟨h1,h2⟩:=h;exact ⟨h1,by omega⟩)
  |(obtain ⟨h1,h3,h4⟩:=h;exact ⟨h1,by omega,λe=>by rw [r.eq (by omega)];exact h4 (by omega)⟩)
  |(obtain ⟨x0,h1,h3,h4⟩:=h;exact ⟨x0,h1,by omega,λe=>by rw [r.eq (by omega)];exact h4 (by omega)⟩)
  |(obtain ⟨x0,x1,h1,h3,h4⟩:=h;exact ⟨x0,x1,h1,by omega,λe=>by rw [r.eq (by omega)];exact h4 (by omega)⟩)
  |(obtain ⟨x0,x1,x2,h1,h3,h4⟩:=h;exact ⟨x0,x1,x2,h1,by omega,λe=>by rw [r.eq (by omega)];exact h4 (by omega)⟩)
  |(obtain ⟨x0,x1,x2,x3,h1,h3,h4⟩:=h;exact ⟨x0,x1,x2,x3,h1,by omega,λe=>by rw [r.eq (by omega)];exact h4 (by omega)⟩)
  |(obtain ⟨x0,x1,x2,x3,x4,h1,h3,h4⟩:=h;exact ⟨x0,x1,x2,x3,x4,h1,by omega,λe=>by rw [r.eq (by omega)];exact h4 (by omega)⟩)
  | (obtain ⟨h3,h4⟩:=h;exact ⟨by omega,λe=>by rw [r.eq (by omega)];exact h4 (by omega)⟩)):qP:=h
theorem Oa(w:World)(x:Val)(q:Nat)(A B:OA)(c e:Nat)(Ac:OA)(cc:Nat)(k:Nat)(Ar:OA)(cr:Nat)(r:List Val)(b o:Nat)(C:OA)(ec:Nat):∀ i l' F v γ' v',SR (Mw w x q A B c e Ac cc k Ar cr r b o C ec) F v γ' v'->Ov w x q A B c e Ac cc k Ar cr r b o C ec i l' F v->Ov w x q A B c e Ac cc k Ar cr r b o C ec i l' γ' v':=by
 intro i l' F v γ' v' r h;have hle:=r.le;unfold Ov at h|-;exact Ik
def Pw:Nat->List Nat:=λi=>[i]
def PT:List Nat:=[100,3,100,100,100,100,100,1,2,3,100,4]

def RetCp(w:World)(d:Nat)(x:Val)(e:Ending)(J:World):Prop:=∃ (Ac:OA) (cc:Nat) (Ar:OA) (cr:Nat),e=.returned (Vq x Ac cc Ar cr)/\OwnSs J w.heap.size Ac cc x.cols/\OwnRR J w.heap.size (λb=>ob Ac=some b) d Ar cr x.rows/\(∀ b,ob Ac=some b->ob Ar≠some b)/\Ext w J
theorem OwnRR.lower{w:World}{base base' q c:Nat}{av:NP}{A:OA}{l:List (List Val)}(h:OwnRR w base av q A c l)(hb:base'<=base):OwnRR w base' av q A c l:=by
 obtain ⟨hs,cut,h1,h2,h3,h4,h5⟩:=h;exact ⟨hs,cut,h1.lower hb,h2,Nat.le_trans hb h3,h4,h5⟩
theorem RetCp.v{w J:World}{d:Nat}{x:Val}{e:Ending}(h:RetCp w d x e J)(hs:x.s.size<=4294967296)(hc:x.cols.length<=4294967296)(hl:x.rows.length<=4294967296)(hr:∀ r∈x.rows,r.length<=4294967296):HuA w (BO w) d x e J:=by
 obtain ⟨Ac,cc,Ar,cr,he,h1,h2,h3,h4⟩:=h;exact ⟨Ac,cc,Ar,cr,he,⟨h1.1.cap,h2.cap⟩,RV.mk hs (h1.strs hc λb hb=>(h1.1.blk hb).1) (h2.rows hl hr),h4⟩
theorem Rows.lens{w:World}{S:NP}{d:Nat}{B:OA}{l:List (List Val)}(h:Rows w S d B l):∀ r∈l,r.length<=4294967296:=by
 intro r hr;obtain ⟨i,hi,rfl⟩:=List.mem_iff_getElem.1 hr;obtain ⟨_,_,_,_,_,_,_,_,h1⟩:=h.at_ hi;exact h1.len
theorem RetCp.rv{w J:World}{d:Nat}{x:Val}{e:Ending}{S:NP}{A B:OA}(h:RetCp w d x e J)(hx:RV w S d x A B):HuA w (BO w) d x e J:=h.v hx.size hx.strs.2.1 hx.rows_.len hx.rows_.lens
theorem OB{W3 w1:World}{t:Nat}(hg:(W3.alloc (.cells #[] t)).grownBy w1 (ob (some ⟨W3.heap.size,0,none⟩))):Ext W3 w1:=(exaa W3).grown hg (λk hk=>by simp [ob] at hk;omega)
def PQ(d:Nat):Prop:=∀ (x:Val) (A B:OA) (c e:Nat) (w:World) (S:NP),RV w S d x A B->Cl 31 #[(Vq x A c B e)] w (RetCp w d x)
theorem In(h:qP:=by
 refine LinStep.yes λV F J L hR hN hp hρ hc hf hg=>⟨rfl,?_⟩;have hi:=hR.inv ⟨by omega,⟨HM.o.ext.drew,HM.o.box.keep (Kept.drew _ _)⟩,λ_=>HM.o.more (Ext.refl _).drew⟩;have e3:L (.tmp 3)=.pointer (some ⟨w.heap.size+1+1,0,none⟩):=hρ 3;exact Uf):qP:=h
theorem IX(h:qP:=by
 have k1:=hb.q6;exact Ih):qP:=h
theorem PL(q:Nat)(ih:0<q->PC6 (q-1)):PQ q:=by
 intro x A B c e w S hx;have HX:=Hd (hx.mono (T:=λb=>S b/\b<w.heap.size) λi hi hs=>⟨hs,hi⟩);have IH:=Hd ih;have hlen:=hx.rows_.len;have hcl:=hx.strs.2.1;have hx0:Ext w (((w.alloc (.cells (Vp x A c B e) 40)).alloc (.cells Vz 40)).alloc (.cells Vz 40)):=(exbb w).alloc _;clear hx ih;obtain ⟨W3,U⟩:=eqx ((((w.alloc (.cells (Vp x A c B e) 40)).alloc (.cells Vz 40)).alloc (.cells (Vp x A c B e) 40)));have hx3:Ext w W3:=(by rw [U];exact (exbb w).alloc _);have hs3:W3.heap.size=w.heap.size+3:=(by rw [U];simp);have b0:Blk W3 w.heap.size 40 (Vp x A c B e):=(by rw [U];exact ((Blk.new _ _ _).keep (Kept.alloc _ _ _)).keep (Kept.alloc _ _ _));have b1:Blk W3 (w.heap.size+1) 40 Vz:=by
  rw [U];have:=(Blk.new (w.alloc (.cells (Vp x A c B e) 40)) 40 Vz).keep (Kept.alloc _ _ (.cells (Vp x A c B e) 40))
  simpa using this
 have b2:Blk W3 (w.heap.size+1+1) 40 (Vp x A c B e):=by
  rw [U];have:=Blk.new ((w.alloc (.cells (Vp x A c B e) 40)).alloc (.cells Vz 40)) 40 (Vp x A c B e)
  simpa using this
 obtain ⟨HX3,HS3,HB0,HB1,HB2,HW3,HST⟩:=Hd7 hx3 hs3 b0 b1 b2 U ((HX.o.strs.keep (hx3.kept _)).keep (Kept.alloc _ _ (.cells #[] 9)));clear hx3 hs3 b1 b2 hx0 U
 go_enter func31,ntmps31
 go_upto_region 2 with fail
 rw [<-HW3.o];have k5:=HB0.o.q5;have hz3:w.heap.size<W3.heap.size:=(by have:=HS3.o;omega)
 go_wp2_with (at_builtin;go_must (refine AL rfl (.tmp 6) (.tmp 8) rfl tiS rfl (World.ownsRow_made W3 #[] 0 (Al) Bd rfl) rfl HST.o.1 AC AP AA AB AC ?_);intro Ac cc w1 hown hg hat;have hx1:=OB hg;have q5:=HB2.o.keep (hx1.kept _);have k50:=q5.q5;have k60:=q5.q6;have kf:=q5.frozen;have kz:=q5.lt;have Q5:=Hd q5;have HX1:=Hd hx1;have HOWN:=Hd hown;clear hg hat q5 hx1 hown)
 have HM0:=Hd (show CpR w x q A B c e Ac cc 0 none 0 ((w1.setCell ⟨w.heap.size+1+1,5,none⟩ (.slice Ac x.cols.length cc)).setCell ⟨w.heap.size+1+1,6,none⟩ (.slice none 0 0)) by
  have ho:=((Only.refl (w.heap.size+1+1) w1).set 5 (.slice Ac x.cols.length cc)).set 6 (.slice none 0 0);have hx:=HX3.o.trans HX1.o;have hown:=HOWN.o;simp only [Nat.zero_add,List.nil_append] at hown;rw [HS3.o] at hown;refine ⟨hx.only ho AA,(HB0.o.keep (HX1.o.kept _)).keep (ho.kept λb _ e=>AA),(HB1.o.keep (HX1.o.kept _)).keep (ho.kept λb _ e=>AA),?_,⟨ho.own hown AA,HST.o.2.2⟩,?_,λb _ h=>Ck⟩
  ·have:=(Q5.o.set 5 (.slice Ac x.cols.length cc)).set 6 (.slice none 0 0)
   simpa using this
  ·have hsz:w.heap.size+3<=((w1.setCell ⟨w.heap.size+1+1,5,none⟩ (.slice Ac x.cols.length cc)).setCell ⟨w.heap.size+1+1,6,none⟩ (.slice none 0 0)).heap.size:=by
    have:=HX1.o.size;have h2:=HS3.o;simp [World.setCell];omega
   simpa using OwnRR.nil _ _ (λb=>ob Ac=some b) q hsz)
 clear HB0 HB1 HB2 HW3 HST HOWN Q5 HX1 HX3 HS3 k5 hz3 k50 k60 kf kz b0
 go_loopw [4] (λi wr=>∃ (k:Nat) (Ar:OA) (cr:Nat),k<=x.rows.length/\i=.I k/\CpR w x q A B c e Ac cc k Ar cr wr) (λi _=>x.rows.length-(intOf i).toNat)
 case atStart=>exact ⟨0,none,0,AN,rfl,HM0.o⟩
 case round =>
  clear HM0;obtain ⟨k,Ar,cr,hk,rfl,hm0⟩:=hrel;have HM:=Hd hm0;clear hm0;have k6:=HM.o.box.q6;have hz:=HM.o.box.lt;by_cases hlt:k<x.rows.length
  ·obtain ⟨b,o,C,ec,hB,hb,hc0,hcp,Y⟩:=HX.o.rows_.at_ hlt;obtain ⟨r,hr⟩:=eqx (x.rows[k]);rw [<-hr] at hc0 hcp Y;obtain ⟨HC0,HBE,HROW,HRE⟩:=Hd4 hc0 hB Y (show ∃ hk:k<x.rows.length,r=x.rows[k] from ⟨hlt,hr⟩);clear hc0 hB Y hr
   go_upto_region 7 with fail
   refine BZ AD Pw AD (SR (Mw w x q A B c e Ac cc k Ar cr r b o C ec)) (SR.refl _) (SR.trans _) (SN PT) (Ov w x q A B c e Ac cc k Ar cr r b o C ec) (Oa _ _ _ _ _ _ _ _ _ _ _ _ _ _ _ _ _) 0 (SN.zero AB) ⟨?_,?_,?_,?_,?_,?_,?_,?_,?_,?_,?_,?_,trivial⟩ ?_
   ·exact In
   ·refine LinStep.yes λV F J L hR hN hp hρ hc hf hg=>⟨rfl,?_⟩;have hi:=hR.inv ⟨AA,⟨HM.o.ext.drew,HM.o.box.keep (Kept.drew _ _)⟩,λ_=>HM.o.more (Ext.refl _).drew⟩;have e19:L (.tmp 19)=_:=(hρ 19).trans (hp 0 AB);have hb:=(hi.2.2 Bc).gout;exact IX
   ·refine LinStep.yes λV F J L hR hN hp hρ hc hf hg=>⟨rfl,?_⟩;have hi:=hR.inv ⟨AA,⟨HM.o.ext.drew,HM.o.box.keep (Kept.drew _ _)⟩,λ_=>HM.o.more (Ext.refl _).drew⟩;have e1:L (.tmp 1)=.pointer (some ⟨w.heap.size,0,none⟩):=hρ 1;exact Uf
   ·refine LinStep.yes λV F J L hR hN hp hρ hc hf hg=>⟨rfl,?_⟩;have hi:=hR.inv ⟨AA,⟨HM.o.ext.drew,HM.o.box.keep (Kept.drew _ _)⟩,λ_=>HM.o.more (Ext.refl _).drew⟩;have e21:L (.tmp 21)=_:=(hρ 21).trans (hp 2 AB);have k1:=hi.2.1.2.q6;exact Uf
   ·refine LinStep.yes λV F J L hR hN hp hρ hc hf hg=>⟨rfl,?_⟩;have hi:=hR.inv ⟨AA,⟨HM.o.ext.drew,HM.o.box.keep (Kept.drew _ _)⟩,λ_=>HM.o.more (Ext.refl _).drew⟩;have e4:L (.tmp 4)=.I (k:Int):=hρ 4;exact Uf
   ·refine LinStep.yes λV F J L hR hN hp hρ hc hf hg=>⟨rfl,?_⟩;have hi:=hR.inv ⟨AA,⟨HM.o.ext.drew,HM.o.box.keep (Kept.drew _ _)⟩,λ_=>HM.o.more (Ext.refl _).drew⟩;have e22:L (.tmp 22)=_:=(hρ 22).trans (hp 3 AB);have e23:L (.tmp 23)=_:=(hρ 23).trans (hp 4 AB);have i0:(0:Int)<=(k:Int):=AA;have i1:(k:Int)<(x.rows.length:Int):=AA;rw [HBE.o] at e22;exact Uf
   ·refine LinStep.yes λV F J L hR hN hp hρ hc hf hg=>⟨rfl,?_⟩;have hi:=hR.inv ⟨AA,⟨HM.o.ext.drew,HM.o.box.keep (Kept.drew _ _)⟩,λ_=>HM.o.more (Ext.refl _).drew⟩;have e24:L (.tmp 24)=_:=(hρ 24).trans (hp 5 AB);have k1:=hi.2.1.1.cell HC0.o;exact Uf
   ·refine LinStep.yes λV F J L hR hN hp hρ hc hf hg=>⟨rfl,?_⟩;have hi:=hR.inv ⟨AA,⟨HM.o.ext.drew,HM.o.box.keep (Kept.drew _ _)⟩,λ_=>HM.o.more (Ext.refl _).drew⟩;have e25:L (.tmp 25)=_:=(hρ 25).trans (hp 6 AB);have h0:F=0:=(by have h:F<1:=hN;omega);subst h0;have HI:=Hd hi;have HX:=Hd hi.2.1.1;clear hR hN hp hρ hi;go_light;go_simp;refine (Kp q IH.o r C ec J _ (HROW.o.keep (HX.o.kept _))).mono ?_;rintro e' w3 ⟨A3,c3,he,ho3,hx3⟩;have O:=CpB.of (HI.o.2.2 AA) ho3 hx3;exact ⟨_,he,1,SR.up AA ⟨AA,⟨O.base.ext,O.base.box⟩,λ_=>O.base⟩,SN.up AA AB rfl,A3,c3,rfl,AA,λ_=>O⟩
   ·refine LinStep.yes λV F J L hR hN hp hρ hc hf hg=>⟨rfl,?_⟩;have hi:=hR.inv ⟨AA,⟨HM.o.ext.drew,HM.o.box.keep (Kept.drew _ _)⟩,λ_=>HM.o.more (Ext.refl _).drew⟩;obtain ⟨A3,c3,g7,hr1,O⟩:=hp 7 AB;have e26:L (.tmp 26)=_:=(hρ 26).trans g7;have h0:F=1:=Dm;subst h0;have HCB:=Hd ((O rfl).more ((Ext.refl J).alloc (.cells #[.slice A3 r.length c3] 45)));clear hR hN hp hρ hi O g7;go_light;go_simp;exact ⟨2,SR.up AA ⟨AA,⟨HCB.o.base.ext,HCB.o.base.box⟩,λ_=>HCB.o.base⟩,SN.up AA AB rfl,_,A3,c3,rfl,AA,λ_=>⟨Blk.new _ _ _,HCB.o⟩⟩
   ·refine LinStep.yes λV F J L hR hN hp hρ hc hf hg=>⟨rfl,?_⟩;have hi:=hR.inv ⟨AA,⟨HM.o.ext.drew,HM.o.box.keep (Kept.drew _ _)⟩,λ_=>HM.o.more (Ext.refl _).drew⟩;obtain ⟨g',A3,c3,g8,hr2,hbk⟩:=hp 8 AB;have e27:L (.tmp 27)=_:=(hρ 27).trans g8;have e20:L (.tmp 20)=_:=(hρ 20).trans (hp 1 AB);have h0:F=2:=Bc;subst h0;obtain ⟨hbk1,Z⟩:=hbk rfl;obtain ⟨hs,cut,lo,r1,r2⟩:=Z.row;have hlk:(x.rows.take k).length=k:=BP;have r1':=r1;rw [hlk] at r1';refine FNA (.tmp 20) (.tmp 27) rfl tiR e20 r1' e27 hbk1.rd rfl AP AA AB (by have h1:=Z.base.gout.lt;omega) ?_;intro A4 c4 w4 hown4 hg4 hat4;have a8:=Z.app HRE.o hlt r1 r2 hg4 hown4 hat4;exact ⟨3,SR.up AA ⟨AA,⟨a8.ext,a8.box⟩,λh=>absurd h AA⟩,SN.up AA AB rfl,A4,c4,rfl,AA,λ_=>a8⟩
   ·exact In
   ·refine LinStep.yes λV F J L hR hN hp hρ hc hf hg=>⟨rfl,?_⟩;have hi:=hR.inv ⟨AA,⟨HM.o.ext.drew,HM.o.box.keep (Kept.drew _ _)⟩,λ_=>HM.o.more (Ext.refl _).drew⟩;obtain ⟨A4,c4,g9,hr3,hda⟩:=hp 9 AB;have e28:L (.tmp 28)=_:=(hρ 28).trans g9;have e29:L (.tmp 29)=_:=(hρ 29).trans (hp 10 AB);have h0:F=3:=O9;subst h0;have HA:=Hd (hda rfl);obtain ⟨y,hy⟩:=(hda rfl).gout;have k0:=hy.q6;have kf:=hy.frozen;have kz:=hy.lt;clear hR hN hp hρ hi g9 hda hy;go_light;go_simp;have hs:=HA.o.store;refine ⟨4,SR.up AA ⟨AA,⟨?_,?_⟩,λh=>absurd h AA⟩,SN.up AA AB rfl,AA,λ_=>⟨A4,c4,?_⟩⟩
    ·simpa using hs.ext
    ·simpa using hs.box
    ·simpa using hs
   ·intro V F J hR hG;have hi:=hR.inv ⟨AA,⟨HM.o.ext.drew,HM.o.box.keep (Kept.drew _ _)⟩,λ_=>HM.o.more (Ext.refl _).drew⟩;obtain ⟨h4,h5⟩:=hG 11 AB;obtain ⟨A4,c4,hm1⟩:=h5 (by have:=hi.1;omega);have HM1:=Hd hm1;clear hR hG hi h4 h5 hm1 HM;simp only [Ah,Act.put,List.setIfInBounds_toArray,List.set_cons_succ,List.set_cons_zero,Nat.zero_add,Nat.reduceAdd];generalize V 0=u0,V 1=u1,V 2=u2,V 3=u3,V 4=u4,V 5=u5,V 6=u6,V 7=u7,V 8=u8,V 9=u9,V 10=u10,V 11=u11;go_wp2;go_roundw
    case rel=>exact ⟨k+1,A4,c4,AA,AE,HM1.o⟩
    case measure=>simp [intOf];omega
  ·have hkr:k=x.rows.length:=AA;subst hkr;have hgt:=HM.o.gout;have hgr:=HM.o.res;obtain ⟨t0,t1,t2,t3,t4,t5,t6⟩:=hgt.qs7;obtain ⟨r0,r1,r2,r3,r4,r5,r6⟩:=hgr.qs7;have rf:=hgr.frozen;have rz:=hgr.lt;clear hgt hgr;go_wp2;refine bodyPost_ret (v:=(Vq x Ac cc Ar cr)) (by simp [results,results31,go_sem,r0,r1,r2,r3,r4,r5,r6]) rfl ?_;have hm:=HM.o;have O:∀ b,ob Ac=some b->w.heap.size+3<=b:=λb h=>(hm.cols.1.blk h).1;have hrr:=hm.rows;rw [List.take_of_length_le (Al)] at hrr;refine ⟨Ac,cc,Ar,cr,rfl,⟨?_,hm.cols.2⟩,?_,hm.sep,?_⟩
   ·refine Own.lower (hm.cols.1.keep ?_) AA
    iterate 7 with_reducible refine Kept.set2 ?_ (λh=>by have:=O _ h;omega)
    exact FY
   ·refine OwnRR.lower (hrr.keep ?_ λb hb hb'=>hm.sep b hb' hb) AA
    iterate 7 with_reducible refine Kept.set2 ?_ (λh=>by have:=h.1;omega)
    exact FY
   ·iterate 7 with_reducible refine Ext.set2 ?_ AA _
    with_reducible exact hm.ext
theorem Mn(q:Nat):PQ q:=by
 induction q with
 |zero=>exact PL 0 (λh=>absurd h AA)
 |succ q ih=>exact PL (q+1) (λ_ x A B c e w S hx=>(ih x A B c e w S hx).mono λ_ _ h=>h.rv hx)

def Be(n:Nat):Array Value:=madeCells Vz (n*7)
theorem Ow(n:Nat)(hn:n<=1000000):∀ w:World,(Instr.makeSlice 45 (.I (n:Int)) (.I (n:Int))).run prog w=.ok (.slice (some ⟨w.heap.size,0,none⟩) n n) (w.alloc (.cells (Be n) 40)):=by
 intro w;obtain ⟨i0,h1,h2,h3,h4⟩:=info_parts HAA;have hr:=run_make (P:=prog) w 45 40 i0 _ underlying45 h1 h2 .i64 .i64 n n AA AA (by rw [h4];omega) AA;rw [h3,Int.toNat_natCast] at hr;exact hr
theorem Gj(n:Nat):(Be n).toList=(List.replicate n Val.zero).flatMap λy=>En y none 0 none 0:=by
 apply List.ext_getElem?;intro i;have hv:∀ m:Nat,((List.replicate m Val.zero).flatMap λy=>En y none 0 none 0).length=m*7:=by
  intro m
  induction m with
  |zero=>rfl
  |succ m ih=>simp [List.replicate_succ,En];omega
 have key:∀ (m i:Nat),i<m*7->((List.replicate m Val.zero).flatMap λy=>En y none 0 none 0)[i]?=(En Val.zero none 0 none 0)[i % 7]?:=by
  intro m
  induction m with
  |zero=>intro i hi;omega
  |succ m ih =>
   intro i hi;simp only [List.replicate_succ,List.flatMap_cons]
   rcases Nat.lt_or_ge i 7 with h|h
   ·rw [List.getElem?_append_left (by simpa [En] using h),Nat.mod_eq_of_lt h]
   ·rw [List.getElem?_append_right (by simpa [En] using h)];have h7:(En Val.zero none 0 none 0).length=7:=rfl;rw [h7,ih (i-7) AA];congr 1;omega
 rcases Nat.lt_or_ge i (n*7) with h|h
 ·rw [key n i h];have:i % 7<7:=Nat.mod_lt _ AB;simp only [Be,madeCells,Array.toList_map,List.getElem?_map,Array.toList_range,List.getElem?_range h,Option.map_some];generalize i % 7=j at this|-
  match j,this with
  |0,_=>rfl
  |1,_=>rfl
  |2,_=>rfl
  |3,_=>rfl
  |4,_=>rfl
  |5,_=>rfl
  |6,_=>rfl
  |j+7,h=>omega
 ·rw [List.getElem?_eq_none (by simpa [Be,madeCells] using h),List.getElem?_eq_none (by rw [hv];exact h)]
theorem OwnVs.zeros(w:World)(n d:Nat)(hd:0<d)(hn:n<=1000000):OwnVs (w.alloc (.cells (Be n) 40)) w.heap.size (λb=>w.heap.size<=b) d (some ⟨w.heap.size,0,none⟩) n (List.replicate n Val.zero):=by
 have hl:(Be n).size=n*7:=(by simp [Be,madeCells]);refine ⟨(Be n).toList,⟨DX,.inr ⟨w.heap.size,n,Be n,AC,Al,heap_alloc_new w _,AC,Bd,hl,?_⟩⟩,?_⟩
 ·rw [List.length_replicate];exact List.take_of_length_le DX
 ·rw [Gj];exact VL.flat hd _ λy hy=>by rw [List.mem_replicate] at hy;rw [hy.2];exact ⟨rfl,rfl,AN⟩
section
variable {w J:World}{base q c k:Nat}{av S:NP}{A:OA}{l:List (List Val)}
theorem OwnRR.at_(h:OwnRR w base av q A c l)(hk:k<l.length)(hl:l.length<=4294967296)(hr:∀ r∈l,r.length<=4294967296):∃ (hs:List Value) (B:OA) (e:Nat) (X:NP),Own w base 45 1 A l.length c hs/\hs[k]?=some (.slice B l[k].length e)/\OwnVs w base X q B e l[k]/\(∀ b,X b->base<=b/\ob A≠some b)/\(∀ b,ob B=some b->ob A≠some b) /\
  ∀ (J:World) (r':List Val),Kept (λb=>ob B≠some b) w J->r'.length=l[k].length->Row J (λb=>base<=b) q B r'->Rows J (λb=>base<=b) q A (l.set k r'):=by
 obtain ⟨hs,cut,h1,h2,h3,h4,h5⟩:=h;obtain ⟨B,e,g1,g2,g3⟩:=h5 k l[k] (List.getElem?_eq_getElem hk);have O:∀ i,base<=cut i:=λi=>Nat.le_trans h3 (h2 0 i (AN));refine ⟨hs,B,e,_,h1,g1,g2.shift (base2:=base) (λb hb=>Nat.le_trans (O k) (g2.blk hb).1) (λb _ hb=>hb),λb hb=>⟨Nat.le_trans (O k) hb.1,hb.2.2.1⟩,λb hb=>(g3 b hb).2.1,λJ r' hkp hl' hrow => ?_⟩;have Y:l[k].length<=e:=(by obtain ⟨xs,ho,_⟩:=g2;exact ho.cap);refine ⟨by rw [List.length_set];exact hl,hs,(h1.rd.keep (hkp.mono λb _ hb hb'=>(g3 b hb').2.1 hb)).mono (λb _ hb=>(h1.blk hb).1),by rw [List.length_set];simpa using h1.len,λi r hi => ?_⟩;by_cases hik:k=i
 ·subst hik;rw [List.getElem?_set_self hk] at hi;injection hi with hi;subst hi;exact ⟨B,e,by rw [hl'];exact g1,by rw [hl'];exact Y,hrow⟩
 ·rw [List.getElem?_set_ne hik] at hi;obtain ⟨Bi,ei,f1,U,f3⟩:=h5 i r hi;have Z:r.length<=ei:=(by obtain ⟨xs,ho,_⟩:=U;exact ho.cap);refine ⟨Bi,ei,f1,Z,(U.keep (hkp.mono λb _ hb hb' => ?_)).row (hr r (List.mem_of_getElem? hi)) (λb hb=>Nat.le_trans (O i) (U.blk hb).1) (λb hb=>Nat.le_trans (O i) hb.1)⟩;have k1:=(g2.blk hb').1;have k2:=(g3 b hb').1;have i12:cut i<=b/\b<cut (i+1):=by
   rcases hb with hb|hb
   ·exact ⟨(U.blk hb).1,(f3 b hb).1⟩
   ·exact ⟨hb.1,hb.2.1⟩
  rcases Nat.lt_or_ge i k with hlt|hge
  ·have:=h2 (i+1) k hlt;omega
  ·have:=h2 (k+1) i AA;omega
theorem Row.nil:Row w S q A []:=⟨AC,[],Or.inl rfl,AC,AC⟩
theorem Rd.setc{xs:List Value}{g o:Nat}(h:Rd w S (some ⟨g,o,none⟩) xs)(i:Nat)(v:Value):Rd (w.setCell ⟨g,o+i,none⟩ v) S (some ⟨g,o,none⟩) (xs.set i v):=by
 rcases h with h|⟨b,o',h1,h2,h3,h4⟩
 ·left;rw [h];rfl
 ·injection h1 with h1;injection h1 with h1 O;subst h1;subst O;refine .inr ⟨g,o,rfl,h2,by simpa [World.setCell] using h3,λj u hj => ?_⟩;rw [List.getElem?_set] at hj;by_cases hij:i=j
  ·subst hij;rw [if_pos rfl] at hj;by_cases hl:i<xs.length
   ·rw [if_pos hl] at hj;injection hj with hj;subst hj;exact World.cell?_setCell_same _ _ _ (h4 i _ (List.getElem?_eq_getElem hl))
   ·rw [if_neg hl] at hj;cases hj
  ·rw [if_neg hij] at hj;rw [World.cell?_setCell_other _ _ _ _ (by intro e;injection e with _ e;omega)];exact h4 j u hj
theorem ER(xs:List Value)(v:Value){i j t:Nat}(h:i≠j)(ht:t<7):((xs.set (j*7+t) v).drop (i*7)).take 7=(xs.drop (i*7)).take 7:=by
 rw [List.drop_set];split
 ·rfl
 ·rw [List.take_set,List.set_eq_of_length_le AI]
theorem Ej(xs:List Value)(v:Value)(j t:Nat):((xs.set (j*7+t) v).drop (j*7)).take 7=((xs.drop (j*7)).take 7).set t v:=by
 rw [List.drop_set,if_neg AA,List.take_set,Nat.add_sub_cancel_left]
theorem PX{xs:List Value}(h:xs.length=7)(a0 a1 a2 a3 a4 a5 a6:Value):((((((xs.set 0 a0).set 1 a1).set 2 a2).set 3 a3).set 4 a4).set 5 a5).set 6 a6=[a0,a1,a2,a3,a4,a5,a6]:=by
 match xs,h with
 |[_,_,_,_,_,_,_],_=>rfl
theorem OwnVs.store7{r:List Val}{X T:NP}{g e:Nat}(h:OwnVs w base X q (some ⟨g,0,none⟩) e r){j:Nat}(hj:j<r.length)(hl:r.length<=4294967296){x:Val}{A1 B1:OA}{c1 e1:Nat}(hq:0<q/\x.cols.length<=c1/\x.rows.length<=e1)(hx:RV w (λb=>b≠g/\T b) (q-1) x A1 B1)(hg:T g)(hXT:∀ b,X b->T b)
  {J:World} (hw:J=((((((w.setCell ⟨g,j*7,none⟩ (.I x.kind)).setCell ⟨g,j*7+1,none⟩ (.string x.s)).setCell ⟨g,j*7+2,none⟩ (.I x.dn)).setCell ⟨g,j*7+3,none⟩ (.I x.ds)).setCell ⟨g,j*7+4,none⟩ (.I x.n)).setCell ⟨g,j*7+5,none⟩ (.slice A1 x.cols.length c1)).setCell ⟨g,j*7+6,none⟩ (.slice B1 x.rows.length e1)) :
  Row J T q (some ⟨g,0,none⟩) (r.set j x)/\Kept (λb=>b≠g) w J:=by
 have hk:Kept (λb=>b≠g) w J:=by
  rw [hw]
  iterate 7 refine Kept.set2 ?_ AC
  exact Kept.refl _ _
 refine ⟨?_,hk⟩;obtain ⟨xs,h1,h2⟩:=h;have U:xs.length=r.length*7:=h2.1;have O:=((((((h1.rd.setc (j*7) (.I x.kind)).setc (j*7+1) (.string x.s)).setc (j*7+2) (.I x.dn)).setc (j*7+3) (.I x.ds)).setc (j*7+4) (.I x.n)).setc (j*7+5) (.slice A1 x.cols.length c1)).setc (j*7+6) (.slice B1 x.rows.length e1);simp only [Nat.zero_add] at O;rw [<-hw] at O;refine ⟨by rw [List.length_set];exact hl,_,O.mono (λb _ hb=>by simp [ob] at hb;rw [<-hb];exact hg),by simp [U],λi y hi => ?_⟩;by_cases hij:j=i
 ·subst hij;rw [List.getElem?_set_self hj] at hi;injection hi with hi;subst hi;have h7:((xs.drop (j*7)).take 7).length=7:=AI;have e0:=Ej xs (.I x.kind) j 0;rw [Nat.add_zero] at e0;rw [Ej,Ej,Ej,Ej,Ej,Ej,e0,PX h7];exact ⟨A1,c1,B1,e1,rfl,hq,(hx.keep (hk.mono λb _ hb=>hb.1)).mono λb _ hb=>hb.2⟩
 ·rw [List.getElem?_set_ne hij] at hi;have e0:=ER xs (.I x.kind) (i:=i) (j:=j) (t:=0) AA AA;rw [Nat.add_zero] at e0;rw [ER _ _ AA AA,ER _ _ AA AA,ER _ _ AA AA,ER _ _ AA AA,ER _ _ AA AA,ER _ _ AA AA,e0];obtain ⟨A,c,B,e,Y,Z,f3⟩:=h2.2 i y hi;exact ⟨A,c,B,e,Y,Z,(f3.keep (hk.mono λb _ hb hb'=>hb.1 (by rw [hb'];rfl))).mono λb _ hb=>hXT b hb.2⟩
end
def RRpush(w:World)(base:Nat)(av:NP)(q:Nat)(A:OA)(c:Nat)(l:List (List Val))(B:OA)(e:Nat)(r:List Val):Prop :=
 ∃ (hs:List Value) (cut:Nat->Nat) (lo:Nat),Own w base 45 1 A l.length c hs/\(∀ i j,i<=j->cut i<=cut j)/\base<=cut 0/\cut l.length<=lo/\lo<=w.heap.size/\(∀ b,ob A=some b->b<lo)/\(∀ b,av b->b<lo) /\
  (∀ (i:Nat) (r:List Val),l[i]?=some r->∃ (B:OA) (e:Nat),hs[i]?=some (Value.slice B r.length e)/\OwnVs w (cut i) (λb=>cut i<=b/\b<cut (i+1)/\ob A≠some b/\¬av b) q B e r/\∀ b,ob B=some b->b<cut (i+1)/\ob A≠some b/\¬av b) /\
  OwnVs w lo (λb=>lo<=b) q B e r
section
variable {w J:World}{base q c e:Nat}{av:NP}{A B:OA}{l:List (List Val)}{r:List Val}
theorem G4A(h:OwnRR w base av q A c l)(hav:∀ b,av b->b<w.heap.size)(hr:OwnVs J w.heap.size (λb=>w.heap.size<=b) q B e r)(hx:Ext w J):RRpush J base av q A c l B e r:=by
 obtain ⟨hs,cut,h1,h2,h3,h4,h5⟩:=h;refine ⟨hs,cut,w.heap.size,h1.ext hx,h2,h3,h4,hx.size,λb hb=>(h1.blk hb).2,hav,λi r hi => ?_,hr⟩;exact JE
theorem RRpush.ext(h:RRpush w base av q A c l B e r)(hx:Ext w J):RRpush J base av q A c l B e r:=by
 obtain ⟨hs,cut,lo,h1,h2,h3,h4,h5,h6,h7,h8,h9⟩:=h;refine ⟨hs,cut,lo,h1.ext hx,h2,h3,h4,Nat.le_trans h5 hx.size,h6,h7,λi r hi => ?_,h9.ext hx⟩;exact JU
theorem RRpush.use(h:RRpush w base av q A c l B e r):∃ hs:List Value,Own w base 45 1 A l.length c hs/\∀ (J:World) (A':OA) (c':Nat),Own J base 45 1 A' (l.length+1) c' (hs++[Value.slice B r.length e])->w.grownBy J (ob A)->(ob A'=ob A\/ob A'=some w.heap.size)->OwnRR J base av q A' c' (l++[r]):=by
 obtain ⟨hs,cut,lo,h1,h2,h3,h4,h5,h6,h7,h8,h9⟩:=h;exact ⟨hs,h1,λJ A' c' ho hg hat=>OwnRR.push h4 h5 h2 h3 (by simpa using h1.len) (λb hb=>⟨(h1.blk hb).1,h6 b hb⟩) h7 h8 h9 ho hg hat⟩
end
theorem Own.blk0{w:World}{base e sz n c:Nat}{A:OA}{xs:List Value}(h:Own w base e sz A n c xs)(hn:0<n):∃ (g:Nat) (cur:Array Value),A=some ⟨g,0,none⟩/\Blk w g e cur/\base<=g:=by
 rcases h.2 with ⟨_,h0⟩|⟨g,cap,cur,hv,hb,hh,_⟩
 ·omega
 ·injection hv with hv;exact ⟨g,cur,hv,hh,hb⟩
