/- Lemmas. No conditions. -/
import Derived.Test.YtidacnalcdhckaaGreatDoorYq26
import Derived.Test.YtidacnalcdhckaaGreatDoorYq27
set_option maxRecDepth 100000
set_option maxHeartbeats 4000000
namespace Go.Proofs.YtidacnalcdhckaaGreatDoor
open Go Go.RowKit Tryz
variable {qP:Prop}{cols frm:List BA}{i j m:Nat}{rows:List (List Val)}{x:BA}

def ZaS(v:Value)(m:Nat):Prop:=∃ s:BA,v=.string s/\s.size<=m
def ZaH(v:Value):Prop:=∃ s:Sh,v=(Sq s)/\ShN 1000 s
theorem GAA:(prog.info? 32).map (·.size)=some 5:=by kernel_rfl
def ZaB(g5 k5:Nat)(w':World):Prop:=∃ r:Nat,Blk w' g5 32 #[.I (k5:Int),.I (r:Int),.I 110,.string ⟨#[]⟩,.string ⟨#[]⟩]
def ZaI(v:Value)(m:Nat):Prop:=∃ r:Nat,v=.I (r:Int)/\r<m
def ZaJ(g5:Nat)(w0 wx:World):Prop:=∃ s:Sh,ShN 100 s/\Blk wx g5 32 (Sp s)/\Ext w0 wx
def ZaQ(g3:Nat)(wx:World):Prop:=∃ ns:List Int,ns.length=6/\Blk wx g3 113 (ns.map (Value.int .i64)).toArray
theorem ZaQ.six{g3:Nat}{wx:World}(h:ZaQ g3 wx):∃ c0 c1 c2 c3 c4 c5:Int,Blk wx g3 113 #[.I c0,.I c1,.I c2,.I c3,.I c4,.I c5]:=by
 obtain ⟨ns,hl,hb⟩:=h
 match ns,hl,hb with
 |[a,b,c,d,e,f],_,hb=>exact ⟨a,b,c,d,e,f,hb⟩
def GyA(w:World)(e:Ending)(w':World):Prop:=∃ s:Sh,ShN 1000 s/\e=.returned (Sq s)/\Ext w w'
theorem VI(h:qP:=by
 go_wp2
 go_meet
 case rel=>exact ⟨⟨ns,HNS.o,HB3.o⟩,HX.o⟩):qP:=h
theorem UB(h:qP:=by
 have hk:=hN.o.key (k:=1007) (by decide);have hxx:=hR.o.ext0 (λm b _ hm=>by rw [hm.1];exact hk);have m0:w'.cell? ⟨g5,0,none⟩=some (.I (k5:Int)):=(HB5.o.keep (hxx.kept _)).q0;have m1:w'.cell? ⟨g3,1,none⟩=some (.I c1):=(HB3.o.keep (hxx.kept _)).q1;clear hxx hk;exact Qk):qP:=h
theorem SC(h:qP:=by
 rintro e1 w3 ⟨s,he,hs,hx⟩;exact ⟨_,he,γ,H4A _ γ hx,λ_ _ _ h=>h,s,rfl,hs⟩):qP:=h
theorem PQ(h:qP:=by
 go_wp2
 go_meet
 case rel=>exact ⟨⟨⟨k5,r,110,⟨#[]⟩,⟨#[]⟩⟩,⟨AN,AN⟩,HB7.o,HX7.o⟩,HX7.o,HB37.o⟩):qP:=h
theorem Gc(h:qP:=by rw [hm.1];exact hk):qP:=h
theorem EJA(l:List Int)(A:OA)(c:Nat)(w:World)(S:NP)(hl:IntsL w S A l):Cl 38 #[.slice A l.length c] w (GyA w):=by
 obtain ⟨w0,hw0⟩:=eqx (w.alloc (.cells #[.I 0,.I 0,.I 0,.string ⟨#[]⟩,.string ⟨#[]⟩] 32));obtain ⟨g2,hg2⟩:=eqx w.heap.size;have HX0:=Hd (show Ext w w0 by rw [hw0];exact (Ext.refl w).alloc _);have HB2:=Hd (show Blk w0 g2 32 #[.I 0,.I 0,.I 0,.string ⟨#[]⟩,.string ⟨#[]⟩] by rw [hw0,hg2];exact Blk.new _ _ _);obtain ⟨w1,hw1⟩:=eqx (w0.alloc (.cells #[.I 0,.I 0,.I 0,.I 0,.I 0,.I 0] 113));obtain ⟨g3,hg3⟩:=eqx (w.heap.size+1);have b8:g3=w0.heap.size:=(by rw [hg3,hw0];simp);obtain ⟨HX1,HB31,HL0⟩:=Hd3 (show Ext w0 w1 by rw [hw1];exact (Ext.refl w0).alloc _) (show Blk w1 g3 113 #[.I 0,.I 0,.I 0,.I 0,.I 0,.I 0] by rw [hw1,b8];exact Blk.new _ _ _) ((hl.mono (T:=λb=>b<w.heap.size) λi hi _=>hi).keep (HX0.o.kept _));obtain ⟨HL,HW1,HG2,HG3,HG30⟩:=Hd5 ((hl.mono (T:=λb=>b<w.heap.size) λi hi _=>hi).keep ((HX0.o.trans HX1.o).kept _)) (show w1=(w.alloc (.cells #[.I 0,.I 0,.I 0,.string ⟨#[]⟩,.string ⟨#[]⟩] 32)).alloc (.cells #[.I 0,.I 0,.I 0,.I 0,.I 0,.I 0] 113) by rw [hw1,hw0]) hg2 hg3 b8;have hg3l:w0.heap.size<=g3:=AA;have hll:=hl.2;clear hw0 hw1 hg2 hg3 b8 hl
 go_enter func38,ntmps38
 go_upto_region 2 with fail
 rw [<-HW1.o,<-HG3.o,<-HG2.o]
 go_upto_block 0 with fail
 go_cut [] (λwx=>ZaQ g3 wx/\Ext w0 wx)
 case first =>
  go_wp2
  go_loopw [4] (λi wr=>∃ k:Nat,k<=6/\i=.I k/\ZaQ g3 wr/\Ext w0 wr) (λi _=>6-(intOf i).toNat)
  case atStart=>exact ⟨0,AA,rfl,⟨[0,0,0,0,0,0],rfl,HB31.o⟩,HX1.o⟩
  case round =>
   obtain ⟨k,hk,rfl,⟨ns,hns,U⟩,hx⟩:=hrel;obtain ⟨HB3,HX,HNS⟩:=Hd3 U hx hns;by_cases hlt:k<6
   ·by_cases hlk:k<l.length
    ·obtain ⟨b,o,rfl,hbw,hc⟩:=(HL0.o.keep (hx.kept _)).at_ hlk;have q0:=U.cell (i:=k) (u:=.I (ns.getD k 0)) (by simp [List.getD,List.getElem?_eq_getElem (show k<ns.length by omega)]);have qf:=HB3.o.frozen;have ql:=HB3.o.lt;obtain ⟨lk,hlk'⟩:=eqx (l[k]);rw [<-hlk'] at hc;clear hx hns U hlk';go_wp2;go_roundw
     case rel =>
      refine ⟨k+1,AA,AE,⟨ns.set k lk,by rw [List.length_set];exact HNS.o,?_⟩,HX.o.set2 hg3l _⟩;have hb:=HB3.o.set k (.I lk)
      simpa [List.map_set] using hb
     case measure=>simp [intOf];omega
    ·clear hx U hns;exact VI
   ·clear hx U hns;have hk6:k=6:=AA;subst hk6;exact VI
 case rest =>
 obtain ⟨w2,rfl⟩:=eqx wc;obtain ⟨hq6,hx2⟩:=hcut;obtain ⟨c0,c1,c2,c3,c4,c5,U⟩:=hq6.six;clear hq6;obtain ⟨HB32,HX2,HM5,HM6,HM7,b6,HWD⟩:=Hd7 U hx2 (show ∀ w',Cl 106 #[.I c0,.I 5] w' (Ob w' 5) from λw'=>NE c0 5 AB AB w') (show ∀ w',Cl 106 #[.I c1,.I 6] w' (Ob w' 6) from λw'=>NE c1 6 AB AB w') (show ∀ w',Cl 106 #[.I c5,.I 7] w' (Ob w' 7) from λw'=>NE c5 7 AB AB w') (λ(a:Int) (m:Nat) (h0:0<m) (h1:m<=1000) w'=>NE a m h0 h1 w') (λ(a:Int) w'=>ESA a w');have q0:=U.q0;clear U hx2 HB31 HX1 HL HL0
 go_wp2_with fail
 refine (HM5.o _).mono ?_;rintro e1 wm ⟨k5,hk5,rfl,rfl⟩;obtain ⟨g5,hg5⟩:=eqx w2.heap.size;obtain ⟨w6,hw6⟩:=eqx (w2.alloc (.cells #[.I (k5:Int),.I 0,.I 110,.string ⟨#[]⟩,.string ⟨#[]⟩] 32));have hx6:Ext w2 w6:=(by rw [hw6];exact (Ext.refl _).alloc _);obtain ⟨HB5,HX6,O,HB3,HNE,HW6,HGG⟩:=Hd7 (show Blk w6 g5 32 #[.I (k5:Int),.I 0,.I 110,.string ⟨#[]⟩,.string ⟨#[]⟩] by rw [hw6,hg5];exact Blk.new _ _ _) (HX2.o.trans hx6) (show w0.heap.size<=g5 by rw [hg5];exact HX2.o.size) (HB32.o.keep (hx6.kept _)) (show g3≠g5 by have:=HB32.o.lt;omega) hw6 hg5;clear hw6 hg5 hx6 q0
 go_upto_region 7 with fail
 rw [<-HW6.o,<-HGG.o];refine Qa (λm b=>m=1007/\b=g5) (lk 8 [1007]) ?_;refine Qp ?_;refine Qm (λvals γ w' ρ hR hN hp hρ zs zg=>by
  exact UB) ?_
 refine Qp ?_;refine Qm (λvals γ w' ρ hR hN hp hρ zs zg=>by
  exact UB) ?_
 refine Qs (FP λv γ w'=>ZaI v 6) (H1A ?_) ?_ ?_
 ·intro v γ w1 γ' w2 r h;exact h
 ·intro vals γ w' ρ hR hN hp hρ zs zg;refine Qr ?_;refine (HM6.o w').mono ?_;rintro e1 w3 ⟨r,hr,he,hw⟩;subst hw;exact ⟨_,he,γ,LZ.refl _ _ _,λ_ _ _ h=>h,r,rfl,hr⟩
 refine Qs (FP λv γ w'=>ZaI v 20) (H1A ?_) ?_ ?_
 ·intro v γ w1 γ' w2 r h;exact h
 ·intro vals γ w' ρ hR hN hp hρ zs zg;obtain ⟨r,hv4,hr6⟩:=hp.o 4 AB;have e31:=(hρ.o 31).trans hv4;have hkr:IntKind.i64.wrap ((k5:Int)+(r:Int))=((k5+r:Nat):Int):=Ee;have HKR:=Hd hkr;clear hkr;refine Qr ?_;exact ⟨γ,LZ.refl _ _ _,λ_ _ _ h=>h,k5+r,by rw [<-HKR.o];rfl,by have:=hr6;omega⟩
 refine Qp ?_;refine Qs (λ_ γ w'=>ZaB g5 k5 w'/\γ 1007=true) ?_ ?_ ?_
 ·rintro l γ w1 γ' w2 rr ⟨⟨r,h1⟩,h2⟩;exact ⟨⟨r,h1.keep (rr.keptS λb _ e m hm=>IX)⟩,rr.done _ h2⟩
 ·intro vals γ w' ρ hR hN hp hρ zs zg;obtain ⟨r,hv5,hr20⟩:=hp.o 5 AB;have e32:=(hρ.o 32).trans hv5;have hk:=hN.o.key (k:=1007) AB;have hb0:=HB5.o.keep (hR.o.kept0 (S:=λb=>b=g5) λb _ e m hm=>Gc);have HB0:=Hd hb0;have HK:=Hd hk;have q1:=hb0.q1;have qf:=hb0.frozen;have ql:=hb0.lt;clear hb0 hk hv5;refine Qr ?_;refine ⟨γ.put 1007,H2A HK.o rfl rfl rfl Y78171d3d0 (λb hb hm=>((Only.refl g5 w').set 1 (.I (r:Int))).block b λe=>hm ⟨rfl,e⟩),LK.done AB,⟨r,?_⟩,AU⟩;have hb1:=HB0.o.set 1 (.I (r:Int))
  simpa using hb1
 intro vals γ w7 hR hG;refine Qx ?_;obtain ⟨⟨r,hb7⟩,-⟩:=hG 7 AB;obtain ⟨HB7,HX7,HK7⟩:=Hd3 hb7 (show Ext w0 w7 from Au HX6.o (hR.buts (S:=λb=>b=g5) (λm b _ hm _=>hm.2)) (λb hb=>by rw [hb];exact O.o)) (hR.kept0 (S:=λb=>b=g3) λb _ e m hm=>absurd (e.symm.trans hm.2) HNE.o);clear hR hG hb7;have HB37:=Hd (HB3.o.keep HK7.o);have q5:=HB37.o.q5
 go_wp2_with fail
 refine (HM7.o _).mono ?_;rintro e2 wm2 ⟨m7,hm7,rfl,rfl⟩;by_cases h4:m7=4
 ·subst h4;clear q5;have HB27:=Hd (HB2.o.keep (HX7.o.kept _))
  go_upto_region 17 with fail
  refine Qa (λm b=>m=1008/\b=g2) (lk 9 [1008]) ?_;refine Qp ?_;refine Qm (λvals γ w' ρ hR hN hp hρ zs zg=>by
   have hk:=hN.o.key (k:=1008) AB;have hxx:=hR.o.ext0 (λm b _ hm=>Gc);have m0:w'.cell? ⟨g3,3,none⟩=some (.I c3):=(HB37.o.keep (hxx.kept _)).q3;clear hxx hk;exact Qk) ?_
  refine Qs (FP λv γ w'=>ZaS v 10) (H1A ?_) ?_ ?_
  ·intro v γ w1 γ' w2 r h;exact h
  ·intro vals γ w' ρ hR hN hp hρ zs zg;refine Qr ?_;refine (HWD.o c3 w').mono ?_;exact SC
  refine Qp ?_;refine Qm (λvals γ w' ρ hR hN hp hρ zs zg=>by
   have hk:=hN.o.key (k:=1008) AB;have hxx:=hR.o.ext0 (λm b _ hm=>Gc);have m0:w'.cell? ⟨g3,4,none⟩=some (.I c4):=(HB37.o.keep (hxx.kept _)).q4;clear hxx hk;exact Qk) ?_
  refine Qs (FP λv γ w'=>ZaS v 10) (H1A ?_) ?_ ?_
  ·intro v γ w1 γ' w2 r h;exact h
  ·intro vals γ w' ρ hR hN hp hρ zs zg;refine Qr ?_;refine (HWD.o c4 w').mono ?_;exact SC
  refine Qs (FP λv γ w'=>ZaS v 20) (H1A ?_) ?_ ?_
  ·intro v γ w1 γ' w2 r h;exact h
  ·intro vals γ w' ρ hR hN hp hρ zs zg;obtain ⟨s,hv2,hs2⟩:=hp.o 2 AB;have e61:=(hρ.o 61).trans hv2;obtain ⟨s',hv5,hs5⟩:=hp.o 5 AB;have e64:=(hρ.o 64).trans hv5;have hsz:¬(9223372036854775807<s.size+s'.size):=AA;have HSS:=Hd (show (s++s').size<=20 by rw [ByteArray.size_append];omega);refine Qr ?_;exact ⟨γ,LZ.refl _ _ _,λ_ _ _ h=>h,s++s',rfl,HSS.o⟩
  refine Qs (FP λv γ w'=>ZaH v) (H1A ?_) ?_ ?_
  ·intro v γ w1 γ' w2 r h;exact h
  ·intro vals γ w' ρ hR hN hp hρ zs zg;obtain ⟨s6,hv6,hs6⟩:=hp.o 6 AB;have e65:=(hρ.o 65).trans hv6;have HSS:=Hd hs6;refine Qr ?_;refine (DOA s6 (by have:=HSS.o;omega) w').mono ?_;rintro e1 w3 ⟨he,hx⟩;exact ⟨_,he,γ,H4A _ γ hx,λ_ _ _ h=>h,ofS s6,rfl,⟨Nat.le_trans (YT s6).1 AB,Nat.le_trans (YT s6).2 AB⟩⟩
  refine Chain.step (λ_ γ w'=>∃ s:Sh,ShN 1000 s/\Blk w' g2 32 (Sp s)/\γ 1008=true) AG ?_ ?_ ?_
  ·rintro l γ w1 γ' w2 rr ⟨s,h0,h1,h2⟩;exact ⟨s,h0,h1.keep (rr.keptS λb _ e m hm=>IX),rr.done _ h2⟩
  ·intro vals γ w' ρ hR hN hp hρ hc hf hg;refine ⟨rfl,?_⟩;have e2:=hρ 2;(conv at e2=>rhs;whnf);obtain ⟨s,hv7,Y⟩:=hp 7 AB;have e66:=(hρ 66).trans hv7;have hk:=hN.key (k:=1008) AB;have hb0:=HB27.o.keep (hR.kept0 (S:=λb=>b=g2) λb _ e m hm=>Gc);refine BY 32 rfl e2 e66 hb0 GAA rfl AD ?_;intro w4 hb4 ho4;exact ⟨γ.put 1008,H2A hk ho4.os ho4.tape ho4.output (Nat.le_of_eq ho4.size.symm) (λb hb hm=>ho4.block b λe=>hm ⟨rfl,e⟩),LK.done AB,s,Y,hb4,AU⟩
  intro vals γ w8 hR hG;refine Qx ?_;obtain ⟨s,Y,a9,-⟩:=hG 8 AB;obtain ⟨s0,s1,s2,s3,s4⟩:=a9.qs5;have HSN:=Hd Y;have HXF:=Hd (show Ext w w8 from Au (HX0.o.trans HX7.o) (hR.buts (S:=λb=>b=g2) (λm b _ hm _=>hm.2)) (λb hb=>Bq));clear hR hG a9 Y;go_wp2;refine bodyPost_ret (v:=(Sq s)) (by simp [results,results38,go_sem,s0,s1,s2,s3,s4]) rfl ⟨s,HSN.o,rfl,HXF.o⟩
 ·have hm6:m7=0\/m7=1\/m7=2\/m7=3\/m7=5\/m7=6:=AA;clear q5 h4;have hr7:=HB7.o.lt
  go_upto_block 2 with fail
  go_cut [] (λwx=>ZaJ g5 w0 wx/\Ext w0 wx/\Blk wx g3 113 #[.I c0,.I c1,.I c2,.I c3,.I c4,.I c5])
  case first =>
   obtain ⟨q0,q1,q2⟩:=HB37.o.qs3;obtain ⟨s0,s1,s2⟩:=HB7.o.qs3;have sf:=HB7.o.frozen;have sl:=HB7.o.lt
   rcases hm6 with rfl|rfl|rfl|rfl|rfl|rfl
   ·exact PQ
   ·go_wp2
    go_meet
    case rel =>
     have hx:=HX7.o.set2 (i:=2) O.o (.I c2);exact ⟨⟨⟨k5,r,c2,⟨#[]⟩,⟨#[]⟩⟩,⟨AN,AN⟩,by simpa using HB7.o.set 2 (.I c2),hx⟩,hx,HB37.o.keep ((Kept.refl _ _).set2 (λe=>HNE.o e.symm))⟩
   ·go_wp2
    go_meet
    case rel =>
     have hx:=HX7.o.set2 (i:=1) O.o (.I 200);exact ⟨⟨⟨k5,200,110,⟨#[]⟩,⟨#[]⟩⟩,⟨AN,AN⟩,by simpa using HB7.o.set 1 (.I 200),hx⟩,hx,HB37.o.keep ((Kept.refl _ _).set2 (λe=>HNE.o e.symm))⟩
   ·go_wp2_with fail
    refine (b6.o c0 210 AB AB _).mono ?_;rintro e3 wm3 ⟨t1,ht1,rfl,rfl⟩
    go_upto_region 15 with fail
    obtain ⟨a1,ha1⟩:∃ z:Int,z=(t1:Int)-3:=⟨_,rfl⟩;obtain ⟨w8,b5⟩:=eqx (w7.setCell ⟨g5,0,none⟩ (.I ((t1:Int)-3)));rw [<-b5];have hx8:Ext w0 w8:=(by rw [b5];exact HX7.o.set2 O.o _);have a9:Blk w8 g5 32 #[.I a1,.I (r:Int),.I 110,.string ⟨#[]⟩,.string ⟨#[]⟩]:=(by rw [b5,ha1];simpa using HB7.o.set 0 (.I ((t1:Int)-3)));have hb38:=HB37.o.keep (show Kept _ w7 w8 by rw [b5];exact (Kept.refl _ _).set2 (λe=>HNE.o e.symm));obtain ⟨HX8,HB8,HB38⟩:=Hd3 hx8 a9 hb38;clear b5 hx8 a9 hb38 q0 q1 q2 s0 s1 s2 sf sl ha1;have q1:=HB38.o.q1
    go_wp2_with fail
    refine (b6.o c1 210 AB AB _).mono ?_;rintro e4 wm4 ⟨t2,ht2,rfl,rfl⟩;have s1:=HB8.o.q1;have sf:=HB8.o.frozen;have sl:=HB8.o.lt;go_wp2
    go_meet
    case rel =>
     have hx:=HX8.o.set2 (i:=1) O.o (.I ((t2:Int)-3));exact ⟨⟨⟨a1,(t2:Int)-3,110,⟨#[]⟩,⟨#[]⟩⟩,⟨AN,AN⟩,by simpa using HB8.o.set 1 (.I ((t2:Int)-3)),hx⟩,hx,HB38.o.keep ((Kept.refl _ _).set2 (λe=>HNE.o e.symm))⟩
   ·go_wp2_with fail
    refine (b6.o c2 128 AB AB _).mono ?_;rintro e3 wm3 ⟨t1,ht1,rfl,rfl⟩;go_wp2
    go_meet
    case rel =>
     have hx:=HX7.o.set2 (i:=2) O.o (.I (t1:Int));exact ⟨⟨⟨k5,r,t1,⟨#[]⟩,⟨#[]⟩⟩,⟨AN,AN⟩,by simpa using HB7.o.set 2 (.I (t1:Int)),hx⟩,hx,HB37.o.keep ((Kept.refl _ _).set2 (λe=>HNE.o e.symm))⟩
   ·exact PQ
  case rest =>
  obtain ⟨w9,rfl⟩:=eqx wc;obtain ⟨⟨s,Y,hb9,Z⟩,-,hb39⟩:=hcut;obtain ⟨HSN,HB9,HX9,HB39⟩:=Hd4 Y hb9 Z hb39;clear Y hb9 Z hb39 hm6;have q3:=HB39.o.q3
  go_wp2_with fail
  refine (HWD.o c3 _).mono ?_;rintro e3 wa ⟨sb,rfl,hsb,hxa⟩;obtain ⟨HSB,HXA,a8,HB3A⟩:=Hd4 hsb (HX9.o.trans hxa) (HB9.o.keep (hxa.kept _)) (HB39.o.keep (hxa.kept _));clear hxa hsb q3;have s3:=a8.o.q3;have sf:=a8.o.frozen;have sl:=a8.o.lt
  go_upto_region 21 with fail
  obtain ⟨wb,hwb⟩:=eqx (wa.setCell ⟨g5,3,none⟩ (.string sb));rw [<-hwb];have hxb:Ext w0 wb:=(by rw [hwb];exact HXA.o.set2 O.o _);have hbb:Blk wb g5 32 #[.I s.least,.I s.most,.I s.cls,.string sb,.string s.e]:=(by rw [hwb];simpa using a8.o.set 3 (.string sb));have hb3b:=HB3A.o.keep (show Kept _ wa wb by rw [hwb];exact (Kept.refl _ _).set2 (λe=>HNE.o e.symm));obtain ⟨HXB,HBB,HB3B⟩:=Hd3 hxb hbb hb3b;clear hwb hxb hbb hb3b s3 sf sl;have q4:=HB3B.o.q4
  go_wp2_with fail
  refine (HWD.o c4 _).mono ?_;rintro e4 wd ⟨se,rfl,hse,hxd⟩;obtain ⟨HSE,HXD,HBD,HB3D⟩:=Hd4 hse (HXB.o.trans hxd) (HBB.o.keep (hxd.kept _)) (HB3B.o.keep (hxd.kept _));clear hxd hse q4;have s4:=HBD.o.q4;have sf:=HBD.o.frozen;have sl:=HBD.o.lt
  go_upto_region 22 with fail
  obtain ⟨we,b3⟩:=eqx (wd.setCell ⟨g5,4,none⟩ (.string se));rw [<-b3];have hxe:Ext w0 we:=(by rw [b3];exact HXD.o.set2 O.o _);have hbe:Blk we g5 32 #[.I s.least,.I s.most,.I s.cls,.string sb,.string se]:=(by rw [b3];simpa using HBD.o.set 4 (.string se));have hb3e:=HB3D.o.keep (show Kept _ wd we by rw [b3];exact (Kept.refl _ _).set2 (λe=>HNE.o e.symm));obtain ⟨HXE,b4,b7⟩:=Hd3 hxe hbe hb3e;clear b3 hxe hbe hb3e s4 sf sl;have q2:=b7.o.q2
  go_wp2_with fail
  refine (b6.o c2 3 AB AB _).mono ?_;rintro e5 wm5 ⟨t3,ht3,rfl,rfl⟩;clear q2
  go_upto_if 84 with fail
  go_cut [] (λwx=>ZaJ g5 w0 wx/\Blk wx g3 113 #[.I c0,.I c1,.I c2,.I c3,.I c4,.I c5])
  case first =>
   have s3:=b4.o.q3;have sf:=b4.o.frozen;have sl:=b4.o.lt;by_cases h0:t3=0
   ·subst h0;go_wp2
    go_meet
    case rel=>exact ⟨⟨⟨s.least,s.most,s.cls,⟨#[]⟩,se⟩,⟨AN,by have:=HSE.o;show se.size<=100;omega⟩,by simpa using b4.o.set 3 (.string ⟨#[]⟩),HXE.o.set2 O.o _⟩,b7.o.keep ((Kept.refl _ _).set2 (λe=>HNE.o e.symm))⟩
   ·have hz:((t3:Int)==0)=false:=AI;have hz2:¬((t3:Int)=0):=AA;go_wp2
    go_meet
    case rel=>exact ⟨⟨⟨s.least,s.most,s.cls,sb,se⟩,⟨by have:=HSB.o;show sb.size<=100;omega,by have:=HSE.o;show se.size<=100;omega⟩,b4.o,HXE.o⟩,b7.o⟩
  case rest =>
  obtain ⟨wg,rfl⟩:=eqx wc;obtain ⟨⟨s2,hsn2,hbg,hxg⟩,hb3g⟩:=hcut;obtain ⟨HSN2,b0,HXG⟩:=Hd3 hsn2 hbg hxg;clear hsn2 hbg hxg;have q2:=hb3g.q2;clear hb3g
  go_wp2_with fail
  refine (b6.o c2 5 AB AB _).mono ?_;rintro e6 wm6 ⟨t4,ht4,rfl,rfl⟩;clear q2
  go_upto_if 89 with fail
  go_cut [] (λwx=>ZaJ g5 w0 wx)
  case first =>
   have s4:=b0.o.q4;have sf:=b0.o.frozen;have sl:=b0.o.lt;by_cases h0:t4<2
   ·have h1:(t4:Int)<2:=AA;go_wp2
    go_meet
    case rel=>exact ⟨⟨s2.least,s2.most,s2.cls,s2.b,⟨#[]⟩⟩,⟨HSN2.o.1,AN⟩,by simpa using b0.o.set 4 (.string ⟨#[]⟩),HXG.o.set2 O.o _⟩
   ·have h1:¬((t4:Int)<2):=AA;go_wp2
    go_meet
    case rel=>exact ⟨s2,HSN2.o,b0.o,HXG.o⟩
  case rest =>
  obtain ⟨wh,rfl⟩:=eqx wc;obtain ⟨s9,hsn9,hb9,Z⟩:=hcut;have HSN9:=Hd hsn9;have HX9':=Hd (HX0.o.trans Z);have hb2:=HB2.o.keep (Z.kept _);have hgw:w.heap.size<=g2:=Bq;obtain ⟨r0,r1,r2,r3,r4⟩:=hb9.qs5;obtain ⟨u0,u1,u2,u3,u4⟩:=hb2.qs5;have uf:=hb2.frozen;have ul:=hb2.lt;clear hb9 Z hb2 hsn9;go_wp2;refine bodyPost_ret (v:=(Sq s9)) (by simp [results,results38,go_sem,u0,u1,u2,u3,u4]) rfl ⟨s9,⟨Nat.le_trans HSN9.o.1 AB,Nat.le_trans HSN9.o.2 AB⟩,rfl,?_⟩
  iterate 5 with_reducible refine Ext.set2 ?_ hgw _
  with_reducible exact HX9'.out

def XC(cols:List BA)(rows:List (List Val))(frm:List BA)(x:BA)(a b:Nat):Prop:=∀ (ha:a<rows.length) (hb:b<rows.length),(∀ f∈frm,Cx (Bt cols f).toNat rows[a] rows[b]=true)->Cx (Bt cols x).toNat rows[a] rows[b]=true
theorem WG(c:Nat)(r o:List Val):Cx c r o=Cx c o r:=by unfold Cx;rw [Bool.eq_iff_iff];simp only [decide_eq_true_eq];exact eq_comm
theorem CbA(c:Nat)(r:List Val):Cx c r r=true:=by simp [Cx]
theorem W5(h1:x∈cols)(h2:EF cols rows=true)(h3:∀ f∈frm,f∈cols)(h4:∀ a b,b<a->XC cols rows frm x a b):BH cols rows frm x=true:=by
 refine EU.2 ⟨h1,h2,h3,λr hr o ho hf => ?_⟩;obtain ⟨a,ha,rfl⟩:=List.getElem_of_mem hr;obtain ⟨b,hb,rfl⟩:=List.getElem_of_mem ho
 rcases Nat.lt_trichotomy a b with h|h|h
 ·rw [WG];exact h4 b a h hb ha λf hf'=>by rw [WG];exact hf f hf'
 ·subst h;exact CbA _ _
 ·exact h4 a b h ha hb hf
theorem J9(h:¬(x∈cols/\EF cols rows=true/\(∀ f∈frm,f∈cols)/\∀ a b,b<a->XC cols rows frm x a b)):BH cols rows frm x=false:=by
 rw [Bool.eq_false_iff];intro e;obtain ⟨h1,h2,h3,h4⟩:=EU.1 e;exact h ⟨h1,h2,h3,λa b _ ha hb hf=>h4 _ (List.getElem_mem ha) _ (List.getElem_mem hb) hf⟩
theorem OR(h:EF cols rows=true)(hi:i<rows.length):rows[i].length=cols.length:=by
 unfold EF at h;rw [List.all_eq_true] at h
 simpa using h _ (List.getElem_mem hi)
theorem NT{w:World}{T:NP}{q:Nat}{B:OA}(h:Rows w T q B rows)(hi:i<rows.length)(hj:j<rows.length)(hmi:m<rows[i].length)(hmj:m<rows[j].length) :
  ∃ bB oB bi oi ei bj oj ej A1 c1 B1 e1 A2 c2 B2 e2,B=some ⟨bB,oB,none⟩/\w.cell? ⟨bB,oB+i,none⟩=some (.slice (some ⟨bi,oi,none⟩) rows[i].length ei)/\(w.cell? ⟨bi,oi+m*7,none⟩=some (.I rows[i][m].kind)/\w.cell? ⟨bi,oi+m*7+1,none⟩=some (.string rows[i][m].s)/\w.cell? ⟨bi,oi+m*7+2,none⟩=some (.I rows[i][m].dn)/\w.cell? ⟨bi,oi+m*7+3,none⟩=some (.I rows[i][m].ds)/\w.cell? ⟨bi,oi+m*7+4,none⟩=some (.I rows[i][m].n)/\w.cell? ⟨bi,oi+m*7+5,none⟩=some (.slice A1 rows[i][m].cols.length c1)/\w.cell? ⟨bi,oi+m*7+6,none⟩=some (.slice B1 rows[i][m].rows.length e1))/\RV w T q rows[i][m] A1 B1 /\
   w.cell? ⟨bB,oB+j,none⟩=some (.slice (some ⟨bj,oj,none⟩) rows[j].length ej)/\(w.cell? ⟨bj,oj+m*7,none⟩=some (.I rows[j][m].kind)/\w.cell? ⟨bj,oj+m*7+1,none⟩=some (.string rows[j][m].s)/\w.cell? ⟨bj,oj+m*7+2,none⟩=some (.I rows[j][m].dn)/\w.cell? ⟨bj,oj+m*7+3,none⟩=some (.I rows[j][m].ds)/\w.cell? ⟨bj,oj+m*7+4,none⟩=some (.I rows[j][m].n)/\w.cell? ⟨bj,oj+m*7+5,none⟩=some (.slice A2 rows[j][m].cols.length c2)/\w.cell? ⟨bj,oj+m*7+6,none⟩=some (.slice B2 rows[j][m].rows.length e2))/\RV w T q rows[j][m] A2 B2:=by
 obtain ⟨bB,oB,Z,ei,hB,_,q1,_,r1⟩:=h.at_ hi;obtain ⟨Y,U,Cj,ej,O,_,q2,_,r2⟩:=h.at_ hj;obtain ⟨rfl,rfl⟩:Y=bB/\U=oB:=by rw [hB] at O;injection O with O;injection O with h1 h2;exact ⟨h1.symm,h2.symm⟩
 obtain ⟨bi,oi,A1,c1,B1,e1,rfl,_,p1,_,v1⟩:=r1.at_ hmi;obtain ⟨bj,oj,A2,c2,B2,e2,rfl,_,p2,_,v2⟩:=r2.at_ hmj;exact ⟨_,_,bi,oi,ei,bj,oj,ej,A1,c1,B1,e1,A2,c2,B2,e2,hB,q1,p1,v1.up AA,q2,p2,v2.up AA⟩
theorem XF(hi:i<rows.length)(hj:j<rows.length)(hmi:m<rows[i].length)(hmj:m<rows[j].length):Cx m rows[i] rows[j]=decide (rows[i][m]=rows[j][m]):=by
 unfold Cx;rw [Bool.eq_iff_iff];simp [hmi,hmj];exact eq_comm
def HfA(bB:Nat)(oB:Nat)(n:Nat)(cb:Nat)(ii:Nat)(jj:Nat)(m:Nat)(li:Nat)(ei:Nat)(lj:Nat)(ej:Nat)(bi:Nat)(oi:Nat)(bj:Nat)(oj:Nat)(x:Val)(y:Val)(A1:OA)(c1:Nat)(B1:OA)(e1:Nat)(A2:OA)(c2:Nat)(B2:OA)(e2:Nat)(z:Bool):Nat->Value
 |0=>.slice (some ⟨bB,oB,none⟩) n cb
 |1=>.I (ii:Int)
 |2=>.pointer (some ⟨bB,oB+ii,none⟩)
 |3=>.slice (some ⟨bi,oi,none⟩) li ei
 |4=>.I (m:Int)
 |5=>.pointer (some ⟨bi,oi+m*7,none⟩)
 |6=>(Vq x A1 c1 B1 e1)
 |7=>.slice (some ⟨bB,oB,none⟩) n cb
 |8=>.I (jj:Int)
 |9=>.pointer (some ⟨bB,oB+jj,none⟩)
 |10=>.slice (some ⟨bj,oj,none⟩) lj ej
 |11=>.I (m:Int)
 |12=>.pointer (some ⟨bj,oj+m*7,none⟩)
 |13=>(Vq y A2 c2 B2 e2)
 |14=>.bool z
 |15=>.bool z
 |_=>undef
def EjA(bB:Nat)(oB:Nat)(n:Nat)(cb:Nat)(ii:Nat)(jj:Nat)(m:Nat)(li:Nat)(ei:Nat)(lj:Nat)(ej:Nat)(bi:Nat)(oi:Nat)(bj:Nat)(oj:Nat)(x:Val)(y:Val)(A1:OA)(c1:Nat)(B1:OA)(e1:Nat)(A2:OA)(c2:Nat)(B2:OA)(e2:Nat)(z:Bool)(i:Nat)(l:List Value)(_γ:Gh)(_w':World):Prop:=match l with
 |[v]=>v=HfA bB oB n cb ii jj m li ei lj ej bi oi bj oj x y A1 c1 B1 e1 A2 c2 B2 e2 z i
 |_=>True
theorem E8A(bB:Nat)(oB:Nat)(n:Nat)(cb:Nat)(ii:Nat)(jj:Nat)(m:Nat)(li:Nat)(ei:Nat)(lj:Nat)(ej:Nat)(bi:Nat)(oi:Nat)(bj:Nat)(oj:Nat)(x:Val)(y:Val)(A1:OA)(c1:Nat)(B1:OA)(e1:Nat)(A2:OA)(c2:Nat)(B2:OA)(e2:Nat)(z:Bool):∀ i l γ w γ' w',LR γ w γ' w'->EjA bB oB n cb ii jj m li ei lj ej bi oi bj oj x y A1 c1 B1 e1 A2 c2 B2 e2 z i l γ w->EjA bB oB n cb ii jj m li ei lj ej bi oi bj oj x y A1 c1 B1 e1 A2 c2 B2 e2 z i l γ' w':=by
 intro i l γ w γ' w' r h
 match l,h with
 |[v],h =>
  unfold EjA at h|-;exact h
 |[],_=>trivial
 |_::_::_,_=>trivial
def HwA(bB:Nat)(oB:Nat)(n:Nat)(cb:Nat)(ii:Nat)(jj:Nat)(m:Nat)(li:Nat)(ei:Nat)(lj:Nat)(ej:Nat)(bi:Nat)(oi:Nat)(bj:Nat)(oj:Nat)(x:Val)(y:Val)(A1:OA)(c1:Nat)(B1:OA)(e1:Nat)(A2:OA)(c2:Nat)(B2:OA)(e2:Nat)(z:Bool):Nat->Value
 |0=>.slice (some ⟨bB,oB,none⟩) n cb
 |1=>.I (ii:Int)
 |2=>.pointer (some ⟨bB,oB+ii,none⟩)
 |3=>.slice (some ⟨bi,oi,none⟩) li ei
 |4=>.I (m:Int)
 |5=>.pointer (some ⟨bi,oi+m*7,none⟩)
 |6=>(Vq x A1 c1 B1 e1)
 |7=>.slice (some ⟨bB,oB,none⟩) n cb
 |8=>.I (jj:Int)
 |9=>.pointer (some ⟨bB,oB+jj,none⟩)
 |10=>.slice (some ⟨bj,oj,none⟩) lj ej
 |11=>.I (m:Int)
 |12=>.pointer (some ⟨bj,oj+m*7,none⟩)
 |13=>(Vq y A2 c2 B2 e2)
 |14=>.bool z
 |15=>.bool z
 |_=>undef
def DhA(bB:Nat)(oB:Nat)(n:Nat)(cb:Nat)(ii:Nat)(jj:Nat)(m:Nat)(li:Nat)(ei:Nat)(lj:Nat)(ej:Nat)(bi:Nat)(oi:Nat)(bj:Nat)(oj:Nat)(x:Val)(y:Val)(A1:OA)(c1:Nat)(B1:OA)(e1:Nat)(A2:OA)(c2:Nat)(B2:OA)(e2:Nat)(z:Bool)(i:Nat)(l:List Value)(_γ:Gh)(_w':World):Prop:=match l with
 |[v]=>v=HwA bB oB n cb ii jj m li ei lj ej bi oi bj oj x y A1 c1 B1 e1 A2 c2 B2 e2 z i
 |_=>True
theorem CFA(bB:Nat)(oB:Nat)(n:Nat)(cb:Nat)(ii:Nat)(jj:Nat)(m:Nat)(li:Nat)(ei:Nat)(lj:Nat)(ej:Nat)(bi:Nat)(oi:Nat)(bj:Nat)(oj:Nat)(x:Val)(y:Val)(A1:OA)(c1:Nat)(B1:OA)(e1:Nat)(A2:OA)(c2:Nat)(B2:OA)(e2:Nat)(z:Bool):∀ i l γ w γ' w',LR γ w γ' w'->DhA bB oB n cb ii jj m li ei lj ej bi oi bj oj x y A1 c1 B1 e1 A2 c2 B2 e2 z i l γ w->DhA bB oB n cb ii jj m li ei lj ej bi oi bj oj x y A1 c1 B1 e1 A2 c2 B2 e2 z i l γ' w':=by
 intro i l γ w γ' w' r h
 match l,h with
 |[v],h =>
  unfold DhA at h|-;exact h
 |[],_=>trivial
 |_::_::_,_=>trivial
theorem MW(h:qP:=by
 have i0:(0:Int)<=(i:Int):=(by omega);have i1:(i:Int)<(rows.length:Int):=(by omega);exact Lp):qP:=h
theorem Tz(h:qP:=by
 have hx:=hR.drew_ext;have p1:=hx.cell HQI.o;exact Dl):qP:=h
theorem Ub(h:qP:=by
 refine LinStep.yes λvals γ w' ρ hR hN hp hρ hc hf hg=>⟨rfl,?_⟩;have e89:ρ (.tmp 89)=.pointer (some ⟨bB,oB+i,none⟩):=(hρ 89).trans (hp 2 (by decide));exact Tz):qP:=h
theorem Lr(h:qP:=by
 have i0:(0:Int)<=(m:Int):=(by omega);have i1:(m:Int)<(rows[i].length:Int):=(by omega);exact Lp):qP:=h
theorem Pk(h:qP:=by
 have hx:=hR.drew_ext;have p0:=hx.cell HPI.o.1;have p1:=hx.cell HPI.o.2.1;have p2:=hx.cell HPI.o.2.2.1;have p3:=hx.cell HPI.o.2.2.2.1;have p4:=hx.cell HPI.o.2.2.2.2.1;have p5:=hx.cell HPI.o.2.2.2.2.2.1;have p6:=hx.cell HPI.o.2.2.2.2.2.2;exact Dl):qP:=h
theorem Sz(h:qP:=by
 refine LinStep.yes λvals γ w' ρ hR hN hp hρ hc hf hg=>⟨rfl,?_⟩;have e92:ρ (.tmp 92)=.pointer (some ⟨bi,oi+m*7,none⟩):=(hρ 92).trans (hp 5 (by decide));exact Pk):qP:=h
theorem Lj(h:qP:=by
 have i0:(0:Int)<=(j:Int):=(by omega);have i1:(j:Int)<(rows.length:Int):=(by omega);exact Lp):qP:=h
theorem RD(h:qP:=by
 have hx:=hR.drew_ext;have p1:=hx.cell HQJ.o;exact Dl):qP:=h
theorem QJ(h:qP:=by
 refine LinStep.yes λvals γ w' ρ hR hN hp hρ hc hf hg=>⟨rfl,?_⟩;have e96:ρ (.tmp 96)=.pointer (some ⟨bB,oB+j,none⟩):=(hρ 96).trans (hp 9 (by decide));exact RD):qP:=h
theorem ME(h:qP:=by
 have i0:(0:Int)<=(m:Int):=(by omega);have i1:(m:Int)<(rows[j].length:Int):=(by omega);exact Lp):qP:=h
theorem Pf(h:qP:=by
 have hx:=hR.drew_ext;have p0:=hx.cell HPJ.o.1;have p1:=hx.cell HPJ.o.2.1;have p2:=hx.cell HPJ.o.2.2.1;have p3:=hx.cell HPJ.o.2.2.2.1;have p4:=hx.cell HPJ.o.2.2.2.2.1;have p5:=hx.cell HPJ.o.2.2.2.2.2.1;have p6:=hx.cell HPJ.o.2.2.2.2.2.2;exact Dl):qP:=h
theorem Uv(h:qP:=by
 refine LinStep.yes λvals γ w' ρ hR hN hp hρ hc hf hg=>⟨rfl,?_⟩;have e99:ρ (.tmp 99)=.pointer (some ⟨bj,oj+m*7,none⟩):=(hρ 99).trans (hp 12 (by decide));exact Pf):qP:=h
theorem Py(h:qP:=by
 have hx:=hR.drew_ext;have HR:=Hd hR;have HN:=Hd hN;clear hR hN hp hρ hx;go_light;go_simp;refine (Dn q x y A1 B1 A2 B2 c1 e1 c2 e2 _ T T (HVI.o.keep (HR.o.drew_ext.kept _)) (HVJ.o.keep (HR.o.drew_ext.kept _))).mono ?_;rintro e' w3 ⟨he,hx⟩;rw [<-HZ.o] at he;exact ⟨_,he,γ,IFA γ hx,λ_ _ _ h=>h,rfl⟩):qP:=h
theorem VW(h:qP:=by
 refine LinStep.yes λvals γ w' ρ hR hN hp hρ hc hf hg=>⟨rfl,?_⟩;have e93:ρ (.tmp 93)=(Vq x A1 c1 B1 e1):=(hρ 93).trans (hp 6 (by decide));have e100:ρ (.tmp 100)=(Vq y A2 c2 B2 e2):=(hρ 100).trans (hp 13 (by decide));exact Py):qP:=h
theorem Z3(h:qP:=by
 subst hbj;intro ha hb2 hf;exact absurd (List.all_eq_true.2 hf) (by rw [HSA.o];simp)):qP:=h
theorem PD(h:qP:=by
 refine ⟨j+1,by omega,by go_num,HE.o.trans HX9.o,λb hb => ?_⟩;by_cases hbj:b=j
 ·exact Z3
 ·exact HPJ0.o b (by omega)):qP:=h
theorem CS(h:qP:=by rw [OR HREG.o hlti];exact hm0l):qP:=h
theorem Cg(h:qP:=by rw [OR HREG.o hltj'];exact hm0l):qP:=h
theorem Id(h:qP:=by rw [OR HREG.o hlti];exact hm1l):qP:=h
theorem Gf(h:qP:=by rw [OR HREG.o hltj'];exact hm1l):qP:=h
theorem CyA(q:Nat)(cols:List BA)(rows:List (List Val))(frm:List BA)(x0:BA)(A B C:OA)(ca cb cc:Nat)(w:World)(S T U:NP)(hA:Strs w S A cols)(hB:Rows w T q B rows)(hC:Strs w U C frm) :
  Cl 68 #[.slice A cols.length ca,.slice B rows.length cb,.agg #[.slice C frm.length cc,.string x0]] w (Ae w (BH cols rows frm x0)):=by
 have hcl:=hA.2.1;have hrl:=hB.len;have hfl:=hC.2.1;obtain ⟨HA0,HB0,HC0⟩:=Hd3 hA hB hC;clear hA hB hC;have HGB:=Hd (Blk.new w 69 #[.slice C frm.length cc,.string x0]);obtain ⟨w1,hw1⟩:=eqx (w.alloc (.cells #[.slice C frm.length cc,.string x0] 69));have hx1:Ext w w1:=(by rw [hw1];exact (Ext.refl _).alloc _);obtain ⟨HX1,HA,HB,HC⟩:=Hd4 hx1 (HA0.o.keep (hx1.kept _)) (HB0.o.keep (hx1.kept _)) (HC0.o.keep (hx1.kept _));rw [<-hw1] at HGB;have HW1:=Hd hw1;clear hx1 hw1 HA0 HB0 HC0
 go_enter func68,ntmps68
 go_wp2_with fail
 rw [<-HW1.o];refine (Rs q cols rows A B ca cb _ T hcl HB.o).mono ?_;rintro e1 w1' ⟨rfl,rfl⟩;have g1:=HGB.o.q1
 go_wp2_with fail
 refine (Ei A ca cols x0 _ S HA.o).mono ?_;rintro e2 w2' ⟨rfl,rfl⟩;cases hreg:EF cols rows
 ·go_wp2;go_ret;exact ⟨by rw [J9 (λh=>by rw [hreg] at h;cases h.2.1)];rfl,HX1.o⟩
 have HREG:=Hd hreg;clear hreg;by_cases hxm:x0∈cols
 case neg =>
  have hi:Bt cols x0=-1:=Nd λj hj e=>hxm (e ▸ List.getElem_mem hj);rw [hi];have HXM:=Hd hxm;clear hi hxm;go_wp2;go_ret;exact ⟨by rw [J9 (λh=>HXM.o h.1)];rfl,HX1.o⟩
 obtain ⟨m0,hm0,hm0l,-,-⟩:=J5 ((Fl cols x0).2 hxm);rw [hm0];have HXM:=Hd hxm;have HM0:=Hd hm0;have g0:=HGB.o.q0;clear hxm hm0 g1;have hm00:decide ((m0:Int)<0)=false:=AC;go_wp2;clear hm00
 go_loop [9] (λi=>∃ k:Nat,k<=frm.length/\i=.I k/\∀ j (h:j<frm.length),j<k->frm[j]∈cols) (λi=>frm.length-(intOf i).toNat)
 case atStart=>exact ⟨0,AN,rfl,AK⟩
 case round =>
  obtain ⟨k,hk,rfl,hall⟩:=hrel;have HFA:=Hd hall;clear hall;by_cases hlt:k<frm.length
  ·obtain ⟨b1,o1,hC1,z1,q1⟩:=HC.o.at_ hlt;subst hC1;by_cases hfm:frm[k]∈cols
   ·obtain ⟨m1,hm1,-,-,-⟩:=J5 ((Fl cols frm[k]).2 hfm);have HFM:=Hd hfm;have HM1:=Hd hm1;clear hfm hm1
    go_wp2_with fail
    refine (Ei A ca cols frm[k] _ S HA.o).mono ?_;rintro e2 w2' ⟨rfl,rfl⟩;rw [HM1.o];have hm00:decide ((m1:Int)<0)=false:=AC;go_wp2
    go_round
    case rel =>
     refine ⟨k+1,AA,AE,λj h hj => ?_⟩;by_cases hjk:j=k
     ·subst hjk;exact HFM.o
     ·exact HFA.o j h AA
    case measure=>simp [intOf];omega
   ·have HFM:=Hd hfm;have hi:Bt cols frm[k]=-1:=Nd λj hj e=>hfm (e ▸ List.getElem_mem hj);have HI:=Hd hi;clear hfm hi
    go_wp2_with fail
    refine (Ei A ca cols frm[k] _ S HA.o).mono ?_;rintro e2 w2' ⟨rfl,rfl⟩;rw [HI.o];go_wp2;go_ret;exact ⟨by rw [J9 (λh=>HFM.o (h.2.2.1 _ (List.getElem_mem hlt)))];rfl,HX1.o⟩
  ·have hfc:∀ f∈frm,f∈cols:=λf hf=>by
    obtain ⟨j,hj,rfl⟩:=List.getElem_of_mem hf;exact HFA.o j hj AA
   have HFC:=Hd hfc;clear hfc HFA;go_wp2
   go_loopw [10] (λv wr=>∃ i:Nat,i<=rows.length/\v=.I i/\Ext w1 wr/\∀ a b,a<i->b<a->XC cols rows frm x0 a b) (λv _=>rows.length-(intOf v).toNat)
   case atStart=>exact ⟨0,AN,rfl,Ext.refl _,λa b h=>absurd h AA⟩
   case round =>
    obtain ⟨i,hi,rfl,hext,hpr⟩:=hrel;have HE:=Hd hext;have HPR:=Hd hpr;clear hext hpr;by_cases hlti:i<rows.length
    ·go_wp2
     go_loopw [11] (λv wr=>∃ j:Nat,j<=i/\v=.I j/\Ext w1 wr/\∀ b,b<j->XC cols rows frm x0 i b) (λv _=>i-(intOf v).toNat)
     case atStart=>exact ⟨0,AN,rfl,HE.o,λb h=>absurd h AA⟩
     case round =>
      clear HE;obtain ⟨j,hj,rfl,hext,hpj⟩:=hrel;have HE:=Hd hext;have HPJ:=Hd hpj;clear hext hpj;by_cases hltj:j<i
      ·have hltj':j<rows.length:=AA;go_wp2
       go_loopw [13,12] (λv u wr=>∃ (k:Nat) (sm:Bool),k<=frm.length/\v=.I k/\u=.bool sm/\sm=(frm.take k).all (λf=>Cx (Bt cols f).toNat rows[i] rows[j])/\Ext w1 wr) (λv _ _=>frm.length-(intOf v).toNat)
       case atStart=>exact ⟨0,true,AN,rfl,rfl,rfl,HE.o⟩
       case round =>
        clear HE;obtain ⟨k,sm,hk2,rfl,rfl,hsm,hext⟩:=hrel;have HE:=Hd hext;have HSM:=Hd hsm;clear hext hsm;have g0:=HE.o.cell (HGB.o.q0);by_cases hltk:k<frm.length
        ·cases sm
         ·have O:frm.all (λf=>Cx (Bt cols f).toNat rows[i] rows[j])=false:=by
           rw [<-List.take_append_drop k frm,List.all_append,<-HSM.o];rfl
          have HSA:=Hd O;clear O HSM
          go_upto_region 22 with fail
          obtain ⟨bB,oB,bi,oi,ei,bj,oj,ej,A1,c1,B1,e1,A2,c2,B2,e2,hBB,qi,Z,vi,qj,Y,vj⟩:=NT (i:=i) (j:=j) (m:=m0) (HB.o.keep (HE.o.kept _)) hlti hltj' CS Cg;subst hBB;obtain ⟨x,hx⟩:=eqx (rows[i][m0]'CS);obtain ⟨y,hy⟩:=eqx (rows[j][m0]'Cg);rw [<-hx] at Z vi;rw [<-hy] at Y vj;obtain ⟨z,hz⟩:=eqx (decide (x=y));obtain ⟨HZQ,HQI,HQJ,HPI⟩:=Hd4 (show z=Cx m0 rows[i] rows[j] by rw [XF hlti hltj' CS Cg,<-hx,<-hy];exact hz) qi qj Z;have HPJ0:=HPJ;obtain ⟨HPJ,HVI,HVJ,HZ⟩:=Hd4 Y vi vj hz;have hli:m0<rows[i].length:=CS;have hlj:m0<rows[j].length:=Cg;clear qi Z vi qj Y vj hx hy hz;obtain ⟨m,rfl⟩:=eqx m0;refine BZ AD (λi=>[i]) AD LR LR.refl LR.trans (LN (al0)) (DhA bB oB rows.length cb i j m rows[i].length ei rows[j].length ej bi oi bj oj x y A1 c1 B1 e1 A2 c2 B2 e2 z) (CFA _ _ _ _ _ _ _ _ _ _ _ _ _ _ _ _ _ _ _ _ _ _ _ _ _ _) gh0 (LN.zero _) ⟨?_,?_,?_,?_,?_,?_,?_,?_,?_,?_,?_,?_,?_,?_,?_,?_,trivial⟩ ?_
          ·exact Lp
          ·exact Lp
          ·exact MW
          ·exact Ub
          ·exact Lp
          ·exact Lr
          ·exact Sz
          ·exact Lp
          ·exact Lp
          ·exact Lj
          ·exact QJ
          ·exact Lp
          ·exact ME
          ·exact Uv
          ·exact VW
          ·exact Lp
          ·intro vals γ w' hR hG;have h15:vals 15=.bool z:=hG 15 AB;have HX9:=Hd hR.drew_ext;clear hR hG;simp only [Ah,Act.put,List.setIfInBounds_toArray,List.set_cons_succ,List.set_cons_zero,Nat.zero_add,Nat.reduceAdd,h15];clear h15;go_wp2;go_roundw
           case rel =>
            exact PD
           case measure=>simp [intOf];omega
         ·obtain ⟨b1,o1,hC1,z1,q1⟩:=(HC.o.keep (HE.o.kept _)).at_ hltk;subst hC1;obtain ⟨m1,hm1,hm1l,-,-⟩:=J5 ((Fl cols frm[k]).2 (HFC.o _ (List.getElem_mem hltk)));have HM1:=Hd hm1;clear hm1
          go_wp2_with fail
          refine (Ei A ca cols frm[k] _ S (HA.o.keep (HE.o.kept _))).mono ?_;rintro e2 w2' ⟨rfl,rfl⟩;rw [HM1.o]
          go_upto_region 21 with fail
          obtain ⟨bB,oB,bi,oi,ei,bj,oj,ej,A1,c1,B1,e1,A2,c2,B2,e2,hBB,qi,Z,vi,qj,Y,vj⟩:=NT (i:=i) (j:=j) (m:=m1) (HB.o.keep (HE.o.kept _)) hlti hltj' Id Gf;subst hBB;obtain ⟨x,hx⟩:=eqx (rows[i][m1]'Id);obtain ⟨y,hy⟩:=eqx (rows[j][m1]'Gf);rw [<-hx] at Z vi;rw [<-hy] at Y vj;obtain ⟨z,hz⟩:=eqx (decide (x=y));obtain ⟨HZQ,HQI,HQJ,HPI⟩:=Hd4 (show z=Cx m1 rows[i] rows[j] by rw [XF hlti hltj' Id Gf,<-hx,<-hy];exact hz) qi qj Z;have HPJ0:=HPJ;obtain ⟨HPJ,HVI,HVJ,HZ⟩:=Hd4 Y vi vj hz;have hli:m1<rows[i].length:=Id;have hlj:m1<rows[j].length:=Gf;clear qi Z vi qj Y vj hx hy hz;obtain ⟨m,rfl⟩:=eqx m1;clear q1 g0;refine BZ AD (λi=>[i]) AD LR LR.refl LR.trans (LN (al0)) (EjA bB oB rows.length cb i j m rows[i].length ei rows[j].length ej bi oi bj oj x y A1 c1 B1 e1 A2 c2 B2 e2 z) (E8A _ _ _ _ _ _ _ _ _ _ _ _ _ _ _ _ _ _ _ _ _ _ _ _ _ _) gh0 (LN.zero _) ⟨?_,?_,?_,?_,?_,?_,?_,?_,?_,?_,?_,?_,?_,?_,?_,?_,trivial⟩ ?_
          ·exact Lp
          ·exact Lp
          ·exact MW
          ·refine LinStep.yes λvals γ w' ρ hR hN hp hρ hc hf hg=>⟨rfl,?_⟩;have e74:ρ (.tmp 74)=.pointer (some ⟨bB,oB+i,none⟩):=(hρ 74).trans (hp 2 AB);exact Tz
          ·exact Lp
          ·exact Lr
          ·refine LinStep.yes λvals γ w' ρ hR hN hp hρ hc hf hg=>⟨rfl,?_⟩;have e77:ρ (.tmp 77)=.pointer (some ⟨bi,oi+m*7,none⟩):=(hρ 77).trans (hp 5 AB);exact Pk
          ·exact Lp
          ·exact Lp
          ·exact Lj
          ·refine LinStep.yes λvals γ w' ρ hR hN hp hρ hc hf hg=>⟨rfl,?_⟩;have e81:ρ (.tmp 81)=.pointer (some ⟨bB,oB+j,none⟩):=(hρ 81).trans (hp 9 AB);exact RD
          ·exact Lp
          ·exact ME
          ·refine LinStep.yes λvals γ w' ρ hR hN hp hρ hc hf hg=>⟨rfl,?_⟩;have e84:ρ (.tmp 84)=.pointer (some ⟨bj,oj+m*7,none⟩):=(hρ 84).trans (hp 12 AB);exact Pf
          ·refine LinStep.yes λvals γ w' ρ hR hN hp hρ hc hf hg=>⟨rfl,?_⟩;have e78:ρ (.tmp 78)=(Vq x A1 c1 B1 e1):=(hρ 78).trans (hp 6 AB);have e85:ρ (.tmp 85)=(Vq y A2 c2 B2 e2):=(hρ 85).trans (hp 13 AB);exact Py
          ·exact Lp
          ·intro vals γ w' hR hG;have h15:vals 15=.bool z:=hG 15 AB;have HX9:=Hd hR.drew_ext;clear hR hG;simp only [Ah,Act.put,List.setIfInBounds_toArray,List.set_cons_succ,List.set_cons_zero,Nat.zero_add,Nat.reduceAdd,h15];clear h15;go_wp2;go_roundw
           case rel =>
            refine ⟨k+1,z,AA,AE,rfl,?_,HE.o.trans HX9.o⟩;rw [List.take_succ_eq_append_getElem hltk,List.all_append,<-HSM.o];simp [HM1.o,HZQ.o]
           case measure=>simp [intOf];omega
        ·have O:frm.all (λf=>Cx (Bt cols f).toNat rows[i] rows[j])=sm:=(by rw [HSM.o,List.take_of_length_le AA]);have HSA:=Hd O;clear O HSM
         go_upto_region 22 with fail
         obtain ⟨bB,oB,bi,oi,ei,bj,oj,ej,A1,c1,B1,e1,A2,c2,B2,e2,hBB,qi,Z,vi,qj,Y,vj⟩:=NT (i:=i) (j:=j) (m:=m0) (HB.o.keep (HE.o.kept _)) hlti hltj' CS Cg;subst hBB;obtain ⟨x,hx⟩:=eqx (rows[i][m0]'CS);obtain ⟨y,hy⟩:=eqx (rows[j][m0]'Cg);rw [<-hx] at Z vi;rw [<-hy] at Y vj;obtain ⟨z,hz⟩:=eqx (decide (x=y));obtain ⟨HZQ,HQI,HQJ,HPI⟩:=Hd4 (show z=Cx m0 rows[i] rows[j] by rw [XF hlti hltj' CS Cg,<-hx,<-hy];exact hz) qi qj Z;have HPJ0:=HPJ;obtain ⟨HPJ,HVI,HVJ,HZ⟩:=Hd4 Y vi vj hz;have hli:m0<rows[i].length:=CS;have hlj:m0<rows[j].length:=Cg;clear qi Z vi qj Y vj hx hy hz;obtain ⟨m,rfl⟩:=eqx m0;refine BZ AD (λi=>[i]) AD LR LR.refl LR.trans (LN (al0)) (DhA bB oB rows.length cb i j m rows[i].length ei rows[j].length ej bi oi bj oj x y A1 c1 B1 e1 A2 c2 B2 e2 z) (CFA _ _ _ _ _ _ _ _ _ _ _ _ _ _ _ _ _ _ _ _ _ _ _ _ _ _) gh0 (LN.zero _) ⟨?_,?_,?_,?_,?_,?_,?_,?_,?_,?_,?_,?_,?_,?_,?_,?_,trivial⟩ ?_
         ·exact Lp
         ·exact Lp
         ·exact MW
         ·exact Ub
         ·exact Lp
         ·exact Lr
         ·exact Sz
         ·exact Lp
         ·exact Lp
         ·exact Lj
         ·exact QJ
         ·exact Lp
         ·exact ME
         ·exact Uv
         ·exact VW
         ·exact Lp
         ·intro vals γ w' hR hG;have h15:vals 15=.bool z:=hG 15 AB;have HX9:=Hd hR.drew_ext;clear hR hG;simp only [Ah,Act.put,List.setIfInBounds_toArray,List.set_cons_succ,List.set_cons_zero,Nat.zero_add,Nat.reduceAdd,h15];clear h15;cases sm
          ·skip
           go_wp2;go_roundw
           case rel =>
            exact PD
           case measure=>simp [intOf];omega
          ·cases z
           ·skip
            go_wp2;go_ret;refine ⟨?_,(HX1.o.trans HE.o).trans HX9.o⟩;have hno:BH cols rows frm x0=false:=J9 λh=>by
             have hp:=h.2.2.2 i j hltj hlti hltj' (λf hf=>List.all_eq_true.1 HSA.o f hf);rw [HM0.o,Int.toNat_natCast,<-HZQ.o] at hp;cases hp
            rw [hno];rfl
           ·skip
            go_wp2;go_roundw
            case rel =>
             refine ⟨j+1,AA,AE,HE.o.trans HX9.o,λb hb => ?_⟩;by_cases hbj:b=j
             ·subst hbj;intro ha hb2 hf;rw [HM0.o,Int.toNat_natCast,<-HZQ.o]
             ·exact HPJ0.o b AA
            case measure=>simp [intOf];omega
      ·go_wp2;go_roundw
       case rel =>
        refine ⟨i+1,AA,AE,HE.o,λa b ha hb => ?_⟩;by_cases hai:a=i
        ·subst hai;exact HPJ.o b AA
        ·exact HPR.o a b AA hb
       case measure=>simp [intOf];omega
    ·go_wp2;go_ret;refine ⟨?_,HX1.o.trans HE.o⟩;rw [W5 HXM.o HREG.o HFC.o (λa b hb ha hb2=>HPR.o a b AA hb ha hb2)];rfl

def Gn(rows:List (List Val))(n i:Nat):Bool:=F9 rows n [i]
def Yu(rows:List (List Val))(n i j:Nat):Bool:=!Gn rows n i&&!Gn rows n j&&F9 rows n [i,j]
def KQ(cols:List BA)(rows:List (List Val))(i:Nat):List Dep:=if Gn rows cols.length i=true then Ch cols [(i:Int)] cols.length else []
def KO(cols:List BA)(rows:List (List Val))(i j:Nat):List Dep:=if Yu rows cols.length i j=true then Ch cols [(i:Int),(j:Int)] cols.length else []
def B7A(cols:List BA)(rows:List (List Val)):List Dep :=
 if !Lw cols||!EF cols rows then [] else if F9 rows cols.length []=true then Ch cols [] cols.length
 else (List.range cols.length).flatMap (KQ cols rows)++(List.range cols.length).flatMap λi=>(List.range' (i+1) (cols.length-(i+1))).flatMap (KO cols rows i)
theorem CVA(cols:List BA)(rows:List (List Val))(st:List (List Int) × List Dep)(h:[]∈st.1):∀ l:List (List Int),l.foldl (BN cols rows) st=st:=by
 intro l
 induction l with
 |nil=>rfl
 |cons s m ih =>
  rw [List.foldl_cons];have:BN cols rows st s=st:=by
   unfold BN;rw [if_pos];exact List.any_eq_true.2 ⟨[],h,rfl⟩
  rw [this,ih]
theorem OU(j:Nat)(s:List Int):MG [(j:Int)] s=decide ((j:Int)∈s):=by
 unfold MG KC;rw [Bool.eq_iff_iff];simp
theorem DrA(cols:List BA)(rows:List (List Val)):∀ m,((List.range m).map λi:Nat=>[(i:Int)]).foldl (BN cols rows) ([],[])=(((List.range m).filter (Gn rows cols.length)).map λi:Nat=>[(i:Int)],(List.range m).flatMap (KQ cols rows)):=by
 intro m
 induction m with
 |zero=>rfl
 |succ m ih =>
  rw [List.range_succ,List.map_append,List.foldl_append,ih,List.filter_append,List.map_append,List.flatMap_append];show BN cols rows _ [(m:Int)]=_;unfold BN;rw [if_neg]
  ·have hs:F9 rows cols.length ([(m:Int)].map Int.toNat)=Gn rows cols.length m:=rfl;rw [hs];cases h:Gn rows cols.length m<;>simp [h,KQ]
  ·intro hh;obtain ⟨k,hk,h2⟩:=List.any_eq_true.1 hh;obtain ⟨i,hi,rfl⟩:=List.mem_map.1 hk;have:=List.mem_range.1 (List.mem_filter.1 hi).1;rw [OU] at h2;simp at h2;omega
def mkP(p:Nat × Nat):List Int:=[(p.1:Int),(p.2:Int)]
theorem DdA(cols:List BA)(rows:List (List Val))(K0:List (List Int))(n:Nat)(hK:K0=((List.range n).filter (Gn rows cols.length)).map λi:Nat=>[(i:Int)]) :
  ∀ (L D:List (Nat × Nat)),(D++L).Nodup->(∀ p∈D++L,p.1<p.2/\p.2<n)->∀ ds,((L.map mkP).foldl (BN cols rows) (K0++(D.filter λp=>Yu rows cols.length p.1 p.2).map mkP,ds)).2=ds++L.flatMap λp=>KO cols rows p.1 p.2:=by
 intro L
 induction L with
 |nil=>intro D _ _ ds;simp
 |cons p L ih =>
  intro D hn hl ds;have hD:p ∉ D:=λhm=>by
   have:=(List.nodup_append.1 hn).2.2 p hm p AC;exact this rfl
  obtain ⟨hp1,hp2⟩:=hl p AC;have Z:((D++[p])++L).Nodup:=(by simpa using hn);have a8:∀ q∈(D++[p])++L,q.1<q.2/\q.2<n:=GJ;rw [List.map_cons,List.foldl_cons,List.flatMap_cons];have Y:((K0++(D.filter λp=>Yu rows cols.length p.1 p.2).map mkP).any λk=>MG k (mkP p))=(Gn rows cols.length p.1||Gn rows cols.length p.2):=by
   rw [Bool.eq_iff_iff,List.any_eq_true,Bool.or_eq_true];constructor
   ·rintro ⟨k,hk,h2⟩
    rcases List.mem_append.1 hk with hk|hk
    ·rw [hK] at hk;obtain ⟨i,hi,rfl⟩:=List.mem_map.1 hk;have hs:=(List.mem_filter.1 hi).2;rw [OU] at h2;have h3:i=p.1\/i=p.2:=by
      have:=of_decide_eq_true h2;simp [mkP] at this;omega
     rcases h3 with rfl|rfl
     ·exact .inl hs
     ·exact .inr hs
    ·exfalso;obtain ⟨q,hq,rfl⟩:=List.mem_map.1 hk;have U:=(List.mem_filter.1 hq).1;have a9:=hl q (by simp [U]);unfold MG KC mkP at h2;simp at h2;have:q=p:=by
      have h1:q.1=p.1:=AA;have h3:q.2=p.2:=AA;exact Prod.ext h1 h3
     exact hD (this ▸ U)
   ·intro h;have O:∀ i,i<n->Gn rows cols.length i=true->[(i:Int)]∈K0:=λi hi hs=>by
     rw [hK];exact List.mem_map.2 ⟨i,List.mem_filter.2 ⟨List.mem_range.2 hi,hs⟩,rfl⟩
    rcases h with h|h
    ·exact ⟨[(p.1:Int)],List.mem_append.2 (.inl (O _ AA h)),by rw [OU];simp [mkP]⟩
    ·exact ⟨[(p.2:Int)],List.mem_append.2 (.inl (O _ AA h)),by rw [OU];simp [mkP]⟩
  have hst:BN cols rows (K0++(D.filter λp=>Yu rows cols.length p.1 p.2).map mkP,ds) (mkP p)=(K0++((D++[p]).filter λp=>Yu rows cols.length p.1 p.2).map mkP,ds++KO cols rows p.1 p.2):=by
   unfold BN;dsimp only;rw [Y];have hk:F9 rows cols.length ((mkP p).map Int.toNat)=F9 rows cols.length [p.1,p.2]:=rfl;rw [hk];have hd:Yu rows cols.length p.1 p.2=(!Gn rows cols.length p.1&&!Gn rows cols.length p.2&&F9 rows cols.length [p.1,p.2]):=rfl;rw [List.filter_append,List.map_append];unfold KO;cases h1:Gn rows cols.length p.1<;>cases h2:Gn rows cols.length p.2<;>cases h3:F9 rows cols.length [p.1,p.2]<;>simp [hd,h1,h2,h3,mkP]
  rw [hst,ih (D++[p]) Z a8 _,List.append_assoc]
theorem ENA(n:Nat):(List.range n).flatMap (GW n)=(((List.range n).flatMap λi=>(List.range' (i+1) (n-(i+1))).map λj=>(i,j))).map mkP:=by
 rw [List.map_flatMap];congr 1
 funext i
 unfold GW;rw [List.map_map];rfl
theorem Xr(n:Nat):((List.range n).flatMap λi=>(List.range' (i+1) (n-(i+1))).map λj=>(i,j)).Nodup:=by
 unfold List.Nodup;rw [List.pairwise_flatMap];refine ⟨λi _ => ?_,?_⟩
 ·rw [List.pairwise_map];refine List.Pairwise.imp ?_ (List.nodup_range' (s:=i+1) (n:=n-(i+1)));intro a b hab he;exact hab (congrArg Prod.snd he)
 ·refine List.Pairwise.imp ?_ (List.nodup_range (n:=n));intro a b hab x hx y hy he;obtain ⟨_,_,rfl⟩:=List.mem_map.1 hx;obtain ⟨_,_,rfl⟩:=List.mem_map.1 hy;exact hab (congrArg Prod.fst he)
theorem EMA(n:Nat):∀ p∈(List.range n).flatMap λi=>(List.range' (i+1) (n-(i+1))).map λj=>(i,j),p.1<p.2/\p.2<n:=by
 intro p hp;obtain ⟨i,hi,h2⟩:=List.mem_flatMap.1 hp;obtain ⟨j,hj,rfl⟩:=List.mem_map.1 h2;have:=List.mem_range.1 hi;rw [List.mem_range'_1] at hj;exact ⟨by show i<j;omega,by show j<n;omega⟩
theorem YI(cols:List BA)(rows:List (List Val)):Co cols rows=B7A cols rows:=by
 unfold Co B7A;split
 ·rfl
 ·unfold Fz;rw [List.append_assoc,List.foldl_append];cases h0:F9 rows cols.length []
  ·have h1:[([]:List Int)].foldl (BN cols rows) ([],[])=([],[]):=by
    show BN cols rows ([],[]) []=_;unfold BN;have hk:F9 rows cols.length (([]:List Int).map Int.toNat)=false:=h0;rw [hk];rfl
   rw [h1,if_neg AC,List.foldl_append,DrA,ENA];have h2:=DdA cols rows _ cols.length rfl _ [] (by simpa using Xr cols.length) (by simpa using EMA cols.length) ((List.range cols.length).flatMap (KQ cols rows));rw [show (([]:List (Nat × Nat)).filter λp=>Yu rows cols.length p.1 p.2).map mkP=[] from rfl,List.append_nil] at h2;rw [h2,List.flatMap_assoc];congr 2
   funext i
   rw [List.flatMap_map]
  ·rw [if_pos rfl];have h1:[([]:List Int)].foldl (BN cols rows) ([],[])=([[]],Ch cols [] cols.length):=by
    show BN cols rows ([],[]) []=_;unfold BN;have hk:F9 rows cols.length (([]:List Int).map Int.toNat)=true:=h0;rw [hk];rfl
   rw [h1,CVA _ _ _ AC]
theorem Nl(hn:cols.Nodup)(hr:EF cols rows=true)(s:List Nat)(hs:∀ c∈s,c<cols.length) :
  F9 rows cols.length s=cols.all λx=>BH cols rows (s.map λc=>cols.getD c ⟨#[]⟩) x:=by
 have U:(s.map λc=>cols.getD c ⟨#[]⟩).all (λf=>decide (0<=Bt cols f))=true:=by
  rw [List.all_eq_true];intro f hf;obtain ⟨c,hc,rfl⟩:=List.mem_map.1 hf;exact decide_eq_true ((Fl _ _).2 (I2 hn (hs c hc)).1)
 have O:(s.map λc=>cols.getD c ⟨#[]⟩).map (λf=>(Bt cols f).toNat)=s:=by
  rw [List.map_map];have:s.map ((λf=>(Bt cols f).toNat) ∘ λc=>cols.getD c ⟨#[]⟩)=s.map id:=List.map_congr_left λc hc=>(I2 hn (hs c hc)).2;rw [this,List.map_id]
 have hh:∀ c,c<cols.length->BH cols rows (s.map λc=>cols.getD c ⟨#[]⟩) (cols.getD c ⟨#[]⟩)=Gk rows s c:=by
  intro c hc;unfold BH;rw [U,O,hr,(I2 hn hc).2,decide_eq_true ((Fl _ _).2 (I2 hn hc).1)];simp
 unfold F9;rw [Bool.eq_iff_iff,List.all_eq_true,List.all_eq_true];constructor
 ·intro h x hx;obtain ⟨c,hc,rfl⟩:=List.mem_iff_getElem.1 hx;have:=hh c hc;rw [BM _ _ _ hc] at this;rw [this];exact h c (List.mem_range.2 hc)
 ·intro h c hc;have hc:=List.mem_range.1 hc;rw [<-hh c hc];exact h _ (by rw [BM _ _ _ hc];exact List.getElem_mem hc)
theorem LH(hn:cols.Nodup)(s:List Nat)(hs:∀ c∈s,c<cols.length)(m:Nat)(hm:m<=cols.length) :
  Ch cols (s.map λc:Nat=>(c:Int)) m=((cols.take m).filter λx=>decide (Bt (s.map λc=>cols.getD c ⟨#[]⟩) x<0)).map λx=>⟨s.map λc=>cols.getD c ⟨#[]⟩,x⟩:=by
 have O:Dd cols (s.map λc:Nat=>(c:Int))=s.map λc=>cols.getD c ⟨#[]⟩:=by
  unfold Dd;rw [List.map_map];rfl
 induction m with
 |zero=>rfl
 |succ m ih =>
  rw [Jg,ih AA,List.take_succ_eq_append_getElem AA,List.filter_append,List.map_append,O];congr 1;have he:KC (s.map λc:Nat=>(c:Int)) (m:Int) = !decide (Bt (s.map λc=>cols.getD c ⟨#[]⟩) cols[m]<0):=by
   have h1:Bt (s.map λc=>cols.getD c ⟨#[]⟩) cols[m]<0↔cols[m] ∉ s.map λc=>cols.getD c ⟨#[]⟩:=by
    rw [<-Fl];omega
   have h2:(cols[m]∈s.map λc=>cols.getD c ⟨#[]⟩)↔m∈s:=by
    constructor
    ·intro h;obtain ⟨c,hc,he⟩:=List.mem_map.1 h;have U:=hs c hc;rw [BM _ _ _ U] at he;have:=(List.getElem_inj hn).1 he;exact this ▸ hc
    ·intro h;exact List.mem_map.2 ⟨m,h,BM _ _ _ AA⟩
   unfold KC;rw [Bool.eq_iff_iff,List.any_eq_true,Bool.not_eq_true',decide_eq_false_iff_not,h1,Classical.not_not,h2];constructor
   ·rintro ⟨x,hx,hd⟩;obtain ⟨c,hc,rfl⟩:=List.mem_map.1 hx;have:=of_decide_eq_true hd;have:c=m:=AA;exact this ▸ hc
   ·intro h;exact ⟨(m:Int),List.mem_map.2 ⟨m,h,rfl⟩,AC⟩
  rw [he,BM _ _ _ (show m<cols.length by omega)];cases hd:decide (Bt (s.map λc=>cols.getD c ⟨#[]⟩) cols[m]<0)<;>simp only [List.filter_cons,List.filter_nil,hd]<;>rfl
