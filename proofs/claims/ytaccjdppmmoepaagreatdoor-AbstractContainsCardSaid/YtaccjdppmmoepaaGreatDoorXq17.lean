/- Lemmas. No conditions. -/
import Derived.Test.YtaccjdppmmoepaaGreatDoorXq16
import Derived.Lib.AppendZeros
import Derived.Deep.DeepCutAuto
set_option maxRecDepth 100000
set_option maxHeartbeats 4000000
namespace Go.Proofs.YtaccjdppmmoepaaGreatDoor
open Go Go.RowKit Tryz
variable {qP:Prop}{l:List Dep}

theorem N7{P:Program}{t tn e sz by_:Nat}(ti:TI P t e sz by_)(htn:P.underlying tn=some (.int .i64))(w:World)(ty:TypeId)(n:Nat)(h0:0<n)(h48:n*by_<=281474976710656)(hm:n<=maxLen) :
  ∃ c' J,(Builtin.append_ #[t,tn] ty #[.slice none 0 0,.I (n:Int)]).run P w=.ok (.slice (some ⟨w.heap.size,0,none⟩) n c') J/\Own J w.heap.size e sz (some ⟨w.heap.size,0,none⟩) 0 c' []/\Ext w J:=by
 obtain ⟨ht,i,z,hi,hz,hs,hy,U,hp⟩:=ti;have O:(n:Int)<=9223372036854775807:=(by unfold maxLen at hm;omega);have hr:=Lib.run_append_nil_zeros w t tn ty e i z .i64 .i64 ht htn hi hz n h0 AA O (by rw [hy];exact h48);have Z:=grownCap_ge w n 0 e;have Y:grownCap w n 0 e<=maxLen:=grownCap_le_maxLen w n 0 e hm;refine ⟨_,_,hr,⟨AC,.inr ⟨w.heap.size,_,_,rfl,Al,heap_alloc_new w.drew _,AN,Y,?_,AC⟩⟩,(Ext.refl w).drew.alloc _⟩;rw [Array.size_append,size_zeroCells,size_zeroCells,U,<-Nat.add_mul];congr 1;omega
def FqA(w:World)(e sz:Nat)(en:Ending)(J:World):Prop:=∃ A c,en=.returned (.slice A 0 c)/\Own J w.heap.size e sz A 0 c []/\Ext w J
theorem Ur(h:qP:=by
 have HO:=Hd hown;have HX:=Hd hx;clear hown hx
 go_wp2_with (at_builtin;refine Lib.wpList_append_run _ rfl _ _ _ _ rfl _ _ rfl rfl _ _ hrun ?_)
 go_ret;exact ⟨_,c',rfl,HO.o,HX.o⟩):qP:=h
theorem Rm(h:qP:=by
 obtain rfl:n=0:=by omega
 go_wp2;go_ret;exact ⟨none,0,rfl,Own.nil _ _ _ _,Ext.refl w⟩):qP:=h
theorem XA(n:Nat)(hn:n<=4000000)(w:World):Cl 147 #[.slice none 0 0,.I (n:Int)] w (FqA w 9 1):=by
 have h1:¬((n:Int)<0):=AA
 go_enter func147,ntmps147
 by_cases h0:0<n
 ·have h2:(0:Int)<(n:Int):=AA;obtain ⟨c',J,hrun,hown,hx⟩:=N7 tiS underlying3 w 33 n h0 AA Bd;exact Ur
 ·exact Rm
theorem XY(n:Nat)(hn:n<=4000000)(w:World):Cl 148 #[.slice none 0 0,.I (n:Int)] w (FqA w 64 2):=by
 have h1:¬((n:Int)<0):=AA
 go_enter func148,ntmps148
 by_cases h0:0<n
 ·have h2:(0:Int)<(n:Int):=AA;obtain ⟨c',J,hrun,hown,hx⟩:=N7 tiD underlying3 w 34 n h0 AA Bd;exact Ur
 ·exact Rm
def Vo{α:Type}(l m:List α):Nat->List α
 |0=>[]
 |1=>l
 |_=>l++m
theorem Yk{α:Type}(l m:List α):(Vo l m 0).length=0/\(Vo l m 1).length=l.length/\(Vo l m 2).length=l.length+m.length:=⟨rfl,rfl,List.length_append⟩
def FuA(w:World)(l:List BA)(e:Ending)(J:World):Prop:=∃ A c,e=.returned (.slice A l.length c)/\OwnSs J w.heap.size A c l/\Ext w J
theorem PO(h:qP:=by
 have h3:¬((l.length:Int)<0):=(by omega);go_wp2
 go_round
 case rel=>exact .inr (.inl ⟨by go_num,by go_num⟩)
 case measure=>simp [intOf]):qP:=h
theorem T4(h:qP:=by
 have h3:¬((l.length:Int)+(m.length:Int)<0):=(by omega);go_wp2
 go_round
 case rel=>exact .inr (.inr ⟨by go_num,by first|rfl|(congr 1;omega)|(simp [IntKind.wrap_i64];omega)⟩)
 case measure=>simp [intOf]):qP:=h
theorem Ph(l m:List BA)(A B:OA)(c d g:Nat)(w:World)(S T:NP)(hl:Strs w S A l)(hm:Strs w T B m)(hb:Blk w g 33 #[.slice A l.length c,.slice B m.length d])(h1:l.length<=1000000)(h2:m.length<=1000000) :
  Cl 75 #[.slice (some ⟨g,0,none⟩) 2 2] w (FuA w (l++m)):=by
 obtain ⟨q0,q1⟩:=hb.qs2;obtain ⟨HB,HL,HM⟩:=Hd3 hb hl hm;clear hb hl hm
 go_enter func75,ntmps75
 go_wp2
 go_loop [11,3] (λi s=>(i=.I 0/\s=.I 0)\/(i=.I 1/\s=.I l.length)\/(i=.I 2/\s=.I ((l.length+m.length:Nat):Int))) (λi _=>2-(intOf i).toNat)
 case atStart=>exact .inl ⟨rfl,rfl⟩
 case round =>
  rcases hrel with ⟨rfl,rfl⟩|⟨rfl,rfl⟩|⟨rfl,rfl⟩
  ·exact PO
  ·exact T4
  ·go_wp2_with fail
   refine (XA (l.length+m.length) AA w).mono ?_;rintro e1 w1 ⟨A1,c1,rfl,hown,hx⟩;obtain ⟨HO,HX,HQ⟩:=Hd3 hown hx (HB.o.keep (hx.kept _));clear hown hx q0 q1;obtain ⟨q0,q1⟩:=HQ.o.qs2;go_wp2
   go_loopw [27,6] (λi v wr=>∃ (k:Nat) (A2:OA) (c2:Nat),k<=2/\i=.I k/\v=.slice A2 (Vo l m k).length c2/\OwnSs wr w.heap.size A2 c2 (Vo l m k)/\Ext w wr) (λi _ _=>2-(intOf i).toNat)
   case atStart=>exact ⟨0,A1,c1,AA,rfl,rfl,⟨HO.o,by intro s hs;cases hs⟩,HX.o⟩
   case round =>
    clear q0 q1;obtain ⟨k,A2,c2,hk,rfl,rfl,hown,hx⟩:=hrel;have O:=Hd hown;have HX2:=Hd hx;clear hown hx;have U:=HB.o.keep (HX2.o.kept _);obtain ⟨q0,q1⟩:=U.qs2;have hsz:=HX2.o.size;clear U;have hk3:k=0\/k=1\/k=2:=AA;obtain ⟨b0,Y,Z⟩:=Yk l m
    rcases hk3 with rfl|rfl|rfl
    ·have a9:=Hd (HL.o.keep (HX2.o.kept _))
     go_wp2_with (at_builtin;go_must (refine AL rfl (.tmp 31) (.tmp 32) rfl tiS rfl O.o.1 rfl a9.o.1 AC AP (by rw [b0];omega) AB AA ?_);intro A3 c3 w3 hown3 hg3 hat3)
     go_roundw
     case rel =>
      refine ⟨1,A3,c3,AA,AE,by rw [Y],⟨?_,HL.o.2.2⟩,HX2.o.grown hg3 λb hb=>(O.o.1.blk hb).1⟩
      simpa [Vo] using hown3
     case measure=>simp [intOf]
    ·have a8:=Hd (HM.o.keep (HX2.o.kept _))
     go_wp2_with (at_builtin;go_must (refine AL rfl (.tmp 31) (.tmp 32) rfl tiS rfl O.o.1 rfl a8.o.1 AC AP (by rw [Y];omega) AB AA ?_);intro A3 c3 w3 hown3 hg3 hat3)
     go_roundw
     case rel =>
      refine ⟨2,A3,c3,AA,AE,by rw [Z],⟨?_,λs hs => ?_⟩,HX2.o.grown hg3 λb hb=>(O.o.1.blk hb).1⟩
      ·simpa [Vo] using hown3
      ·rcases List.mem_append.1 hs with hs|hs
       ·exact HL.o.2.2 s hs
       ·exact HM.o.2.2 s hs
     case measure=>simp [intOf]
    ·go_wp2;go_ret;exact ⟨A2,c2,rfl,O.o,HX2.o⟩
theorem Hs{xs:List Value}{P:OA->Dep->Nat->Prop}(h2:xs.length=l.length*2)(h3:∀ (i:Nat) (d:Dep),l[i]?=some d->∃ (B:OA) (c:Nat),xs[i*2]?=some (.slice B d.frm.length c)/\xs[i*2+1]?=some (.string d.tov)/\P B d c):∀ u∈xs,u.oneCell'=true:=by
 intro u hu;obtain ⟨j,hj,rfl⟩:=List.mem_iff_getElem.1 hu;have hi:j / 2<l.length:=AA;obtain ⟨B,c,g1,g2,-⟩:=h3 (j / 2) l[j / 2] (List.getElem?_eq_getElem hi);have O:j=j / 2*2\/j=j / 2*2+1:=AA
 rcases O with h|h
 ·rw [<-h,List.getElem?_eq_getElem hj] at g1;injection g1 with g1;rw [g1];rfl
 ·rw [<-h,List.getElem?_eq_getElem hj] at g2;injection g2 with g2;rw [g2];rfl
theorem OwnDs.app{w J:World}{base c':Nat}{X:NP}{A A':OA}{m:List Dep}{hs ys:List Value}(ho:hs.length=l.length*2)
  (hv:∀ (i:Nat) (d:Dep),l[i]?=some d->∃ (B:OA) (e:Nat),hs[i*2]?=some (.slice B d.frm.length e)/\hs[i*2+1]?=some (.string d.tov)/\d.frm.length<=e/\d.tov.size<=4294967296/\Strs w (λb=>ob A≠some b/\X b) B d.frm)
  (hm:∀ (i:Nat) (d:Dep),m[i]?=some d->∃ (B:OA) (e:Nat),ys[i*2]?=some (.slice B d.frm.length e)/\ys[i*2+1]?=some (.string d.tov)/\d.frm.length<=e/\d.tov.size<=4294967296/\Strs w (λb=>ob A≠some b/\X b) B d.frm)
  (hown:Own J base 64 2 A' (l.length+m.length) c' (hs++ys)) (hg:w.grownBy J (ob A)) (hat:ob A'=ob A\/ob A'=some w.heap.size):OwnDs J base X A' c' (l++m):=by
 have hk:Kept (λb=>ob A≠some b/\X b) w J:=Kept.of_grown hg (λb hb _ e=>hb.1 e.symm);have O:∀ i,i<w.heap.size->(ob A≠some i/\X i)->(ob A'≠some i/\X i):=by
  exact GO
 refine ⟨_,Dg,λi r' hr => ?_⟩
 rcases Nat.lt_or_ge i l.length with hlt|U
 ·rw [List.getElem?_append_left hlt] at hr;obtain ⟨B',e',h3,h4,h5,h6,h7⟩:=hv i r' hr;exact ⟨B',e',by rw [List.getElem?_append_left AA];exact h3,by rw [List.getElem?_append_left AA];exact h4,h5,h6,h7.move hk O⟩
 ·rw [List.getElem?_append_right U] at hr;obtain ⟨B',e',h3,h4,h5,h6,h7⟩:=hm (i-l.length) r' hr;have e1:i*2-hs.length=(i-l.length)*2:=AA;have e2:i*2+1-hs.length=(i-l.length)*2+1:=AA;exact ⟨B',e',by rw [List.getElem?_append_right AA,e1];exact h3,by rw [List.getElem?_append_right AA,e2];exact h4,h5,h6,h7.move hk O⟩
def FtA(w:World)(S:NP)(l:List Dep)(e:Ending)(J:World):Prop:=∃ A c,e=.returned (.slice A l.length c)/\OwnDs J w.heap.size S A c l/\Ext w J
theorem Ry(h:qP:=by
 have:=OwnDs.app HHS.o HV.o (λi d hd=>by obtain ⟨B',e',a1,a2,a3,a4,a5⟩:=HXD.o i d hd;exact ⟨B',e',a1,a2,a3,a4,a5.mono λb _ hb=>⟨HNO.o b hb,hb⟩⟩) hown3 hg3 hat3
 simpa [Vo] using this):qP:=h
theorem Ps(l m:List Dep)(A B:OA)(c d g:Nat)(w:World)(S:NP)(hS:∀ b,S b->b<w.heap.size)(hl:RDeps w S A l)(hm:RDeps w S B m)(hb:Blk w g 34 #[.slice A l.length c,.slice B m.length d])(h1:l.length<=1000000)(h2:m.length<=1000000) :
  Cl 76 #[.slice (some ⟨g,0,none⟩) 2 2] w (FtA w S (l++m)):=by
 obtain ⟨q0,q1⟩:=hb.qs2;obtain ⟨HB,HL,HM,HS⟩:=Hd4 hb hl hm hS;clear hb hl hm hS
 go_enter func76,ntmps76
 go_wp2
 go_loop [11,3] (λi s=>(i=.I 0/\s=.I 0)\/(i=.I 1/\s=.I l.length)\/(i=.I 2/\s=.I ((l.length+m.length:Nat):Int))) (λi _=>2-(intOf i).toNat)
 case atStart=>exact .inl ⟨rfl,rfl⟩
 case round =>
  rcases hrel with ⟨rfl,rfl⟩|⟨rfl,rfl⟩|⟨rfl,rfl⟩
  ·exact PO
  ·exact T4
  ·go_wp2_with fail
   refine (XY (l.length+m.length) AA w).mono ?_;rintro e1 w1 ⟨A1,c1,rfl,hown,hx⟩;obtain ⟨HO,HX,HQ⟩:=Hd3 hown hx (HB.o.keep (hx.kept _));clear hown hx q0 q1;obtain ⟨q0,q1⟩:=HQ.o.qs2;go_wp2
   go_loopw [27,6] (λi v wr=>∃ (k:Nat) (A2:OA) (c2:Nat),k<=2/\i=.I k/\v=.slice A2 (Vo l m k).length c2/\OwnDs wr w.heap.size S A2 c2 (Vo l m k)/\Ext w wr) (λi _ _=>2-(intOf i).toNat)
   case atStart=>exact ⟨0,A1,c1,AA,rfl,rfl,⟨[],HO.o,by intro i d hd;cases hd⟩,HX.o⟩
   case round =>
    clear q0 q1;obtain ⟨k,A2,c2,hk,rfl,rfl,hown,hx⟩:=hrel;have a8:=Hd hown;have HX2:=Hd hx;clear hown hx;have a9:=HB.o.keep (HX2.o.kept _);obtain ⟨q0,q1⟩:=a9.qs2;have hsz:=HX2.o.size;clear a9;have hk3:k=0\/k=1\/k=2:=AA;obtain ⟨b4,b0,b3⟩:=Yk l m;obtain ⟨hs,hhs,ho,hv⟩:=a8.o.add;obtain ⟨HHS,Y,HV⟩:=Hd3 hhs ho hv;clear hhs ho hv;have HNO:=Hd (show ∀ b,S b->ob A2≠some b from λb hb e=>by have:=(Y.o.blk e).1;have:=HS.o b hb;omega)
    rcases hk3 with rfl|rfl|rfl
    ·have Z:=HL.o.keep (HX2.o.kept _);obtain ⟨-,xs,hr,O,U⟩:=Z;obtain ⟨HR,HXL,HXD,HX1⟩:=Hd4 hr O U (Hs O U);clear hr O U
     go_wp2_with (at_builtin;go_must (refine AL rfl (.tmp 31) (.tmp 32) rfl tiD rfl Y.o rfl HR.o HXL.o HX1.o (by rw [b4];omega) AB AA ?_);intro A3 c3 w3 hown3 hg3 hat3)
     go_roundw
     case rel =>
      refine ⟨1,A3,c3,AA,AE,by rw [b0],?_,HX2.o.grown hg3 λb hb=>(Y.o.blk hb).1⟩;exact Ry
     case measure=>simp [intOf]
    ·have Z:=HM.o.keep (HX2.o.kept _);obtain ⟨-,xs,hr,O,U⟩:=Z;obtain ⟨HR,HXL,HXD,HX1⟩:=Hd4 hr O U (Hs O U);clear hr O U
     go_wp2_with (at_builtin;go_must (refine AL rfl (.tmp 31) (.tmp 32) rfl tiD rfl Y.o rfl HR.o HXL.o HX1.o (by rw [b0];omega) AB AA ?_);intro A3 c3 w3 hown3 hg3 hat3)
     go_roundw
     case rel =>
      refine ⟨2,A3,c3,AA,AE,by rw [b3],?_,HX2.o.grown hg3 λb hb=>(Y.o.blk hb).1⟩;exact Ry
     case measure=>simp [intOf]
    ·go_wp2;go_ret;exact ⟨A2,c2,rfl,a8.o,HX2.o⟩

theorem IS(h:qP:=by
 have:=HGG.o
 rcases hb with hb|hb
 ·have:=HTL.o b hb;omega
 ·omega):qP:=h
theorem Sw(h:qP:=by
 exact FI rfl e2 hb1 AS AH ⟨rfl,rfl⟩):qP:=h
theorem LA(h:qP:=by
 intro V F J L hR hN hp hρ hc hf hg;refine ⟨rfl,?_⟩;have e2:=hρ 2;(conv at e2=>rhs;whnf);have hk4:=hN.key (k:=1004) (by decide);have hgg:=HGG.o;have hb1:=HB2.o.keep (hR.kept0 (S:=λb=>b=g2) (λb _ e m hm=>by rcases hm with ⟨rfl,h⟩ | ⟨rfl,h⟩;exact hk4;omega));exact Sw):qP:=h
theorem FA(h:qP:=by
 rintro v F wx γ' wy rr ⟨A1,c1,D1,e1,h1,h2⟩;exact ⟨A1,c1,D1,e1,h1,h2.keep (rr.keptS λb _ hb m hm=>absurd hm (XNO.o m b hb))⟩):qP:=h
theorem Tl(h:qP:=by
 rintro e1 w3 ⟨A1,c1,D1,e1',he,hab,hx⟩;exact ⟨_,he,F,H4A _ F hx,λ_ _ _ h=>h,A1,c1,D1,e1',rfl,hab.mono λb _ hb=>hb.imp id λh=>by have:=HNN.o;have:=HXW.o.size;omega⟩):qP:=h
theorem Ls(h:qP:=by
 intro V F J L hR hN hp hρ zs zg;have hk4:=hN.o.key (k:=1004) (by decide);have hk5:=hN.o.key (k:=1005) (by decide);have hxx:=hR.o.ext0 (λm b _ hm=>by rcases hm with ⟨rfl,_⟩ | ⟨rfl,_⟩;exact hk4;exact hk5);have HXW:=Hd hxx;have HR:=hR;clear hk4 hk5 hxx;refine Qr ?_;refine (HCA.o J HXW.o).mono ?_;exact Tl):qP:=h
theorem RT(h:qP:=by
 exact FI rfl e3 hb1 AS AH ⟨rfl,rfl⟩):qP:=h
theorem Km(h:qP:=by
 intro V F J L hR hN hp hρ hc hf hg;refine ⟨rfl,?_⟩;have e3:=hρ 3;(conv at e3=>rhs;whnf);have hk5:=hN.key (k:=1005) (by decide);have hgg:=HGG.o;have hb1:=HB3.o.keep (hR.kept0 (S:=λb=>b=g3) (λb _ e m hm=>by rcases hm with ⟨rfl,h⟩ | ⟨rfl,h⟩;omega;exact hk5));exact RT):qP:=h
theorem Mh(h:qP:=by
 intro V F J L hR hN hp hρ zs zg;have hk4:=hN.o.key (k:=1004) (by decide);have hk5:=hN.o.key (k:=1005) (by decide);have hxx:=hR.o.ext0 (λm b _ hm=>by rcases hm with ⟨rfl,_⟩ | ⟨rfl,_⟩;exact hk4;exact hk5);have HXW:=Hd hxx;have HR:=hR;clear hk4 hk5 hxx;refine Qr ?_;refine (HCB.o J HXW.o).mono ?_;exact Tl):qP:=h
theorem Ku(h:qP:=by
 rintro l F wx γ' wy rr ⟨⟨A1,c1,D1,e1,h1,h2⟩,h3⟩;exact ⟨⟨A1,c1,D1,e1,h1.keep (rr.keptS (S:=λb=>b=g2) λb _ e m hm=>by have:=HGG.o;rcases hm with ⟨rfl,h⟩ | ⟨rfl,h⟩;(rw [h3,rr.done _ h3]);omega),h2.keep (rr.keptS λb _ hb m hm=>absurd hm (XNO.o m b hb))⟩,rr.done _ h3⟩):qP:=h
theorem SH(h:qP:=by
 intro w4 hb4 ho4;exact ⟨F.put 1004,H2A hk0 ho4.os ho4.tape ho4.output (Nat.le_of_eq ho4.size.symm) (λb hb hm=>ho4.block b λe=>hm (.inl ⟨rfl,e⟩)),LK.done (by decide),⟨A1,c1,D1,e1,hb4,hab.keep (ho4.kept λb _ hb e=>XNO.o 1004 b hb (.inl ⟨rfl,e⟩))⟩,by simp [Gz.put]⟩):qP:=h
theorem LJ(h:qP:=by
 rintro l F wx γ' wy rr ⟨⟨A1,c1,D1,e1,h1,h2⟩,h3⟩;exact ⟨⟨A1,c1,D1,e1,h1.keep (rr.keptS (S:=λb=>b=g3) λb _ e m hm=>by have:=HGG.o;rcases hm with ⟨rfl,h⟩ | ⟨rfl,h⟩;omega;(rw [h3,rr.done _ h3])),h2.keep (rr.keptS λb _ hb m hm=>absurd hm (XNO.o m b hb))⟩,rr.done _ h3⟩):qP:=h
theorem R0(h:qP:=by
 intro w4 hb4 ho4;exact ⟨F.put 1005,H2A hk0 ho4.os ho4.tape ho4.output (Nat.le_of_eq ho4.size.symm) (λb hb hm=>ho4.block b λe=>hm (.inr ⟨rfl,e⟩)),LK.done (by decide),⟨A1,c1,D1,e1,hb4,hab.keep (ho4.kept λb _ hb e=>XNO.o 1005 b hb (.inr ⟨rfl,e⟩))⟩,by simp [Gz.put]⟩):qP:=h
theorem RM(h:qP:=by
 intro V F J L hR hN hp hρ zs zg;have HR:=hR;have hxx:=hR.o.ext0 (λ_ _ h=>h.elim);have HXW:=Hd hxx;clear hxx;refine Qr ?_;refine (HJI.o J HXW.o).mono ?_;rintro e1 w3 ⟨he,hx⟩;exact ⟨_,he,F,IDA _ F hx,λ_ _ _ h=>h,rfl⟩):qP:=h
theorem UZ(h:qP:=by
 intro V F J L hR hN hp hρ zs zg;have HR:=hR;have HN:=hN;refine Qr ?_;exact ⟨F.put 37 (some J.heap.size),LX.new (by decide) (HN.o.2 (by decide) ⟨38,by decide⟩) _ _,INA,VarX.new HR.o.inb0 rfl (λ_ _ h=>h.elim)⟩):qP:=h
theorem ZD(h:qP:=by
 obtain ⟨h1,hup⟩:=h;exact ⟨IQA rr h1,hup⟩):qP:=h
theorem Cm(h:qP:=by
 intro l F w1 γ' w2 rr h
 match l,h with
 |[],_=>trivial
 |[_],_=>trivial
 | [p,q],h=>exact (by
  exact ZD)
 | _::_::_::_,_=>trivial):qP:=h
theorem VM(h:qP:=by
 rcases Nat.lt_or_ge g w9.heap.size with h|h
 ·have h9:=hR.old 37 g hk h;cases h9
 ·exact h):qP:=h
theorem Uy(h:qP:=by
 rw [v37] at v37';injection v37' with v37';injection v37' with v37';injection v37' with v37';omega):qP:=h
theorem BqA(h:qP:=by
 cases h6:F 1007 with
 |false=>rfl
 | true=>rw [rr.done _ h6] at h7;cases h7):qP:=h
theorem P8(h:qP:=by
 rintro l F wx γ' wy rr ⟨h1,h2⟩;refine ⟨λh7 => ?_,rr.done _ h2⟩;have h0:F 1007=false:=by
  exact BqA
 exact (h1 h0).keep (rr.keptS (S:=λb=>b=g5) λb _ e m hm=>by rcases hm.1 with rfl | rfl;(rw [h2,rr.done _ h2]);(rw [h7,h0]))):qP:=h
theorem RU(h:qP:=by
 rintro l F wx γ' wy rr ⟨h1,h2,h3⟩;exact ⟨h1.keep (rr.keptS (S:=λb=>b=g5) λb _ e m hm=>by rcases hm.1 with rfl | rfl;(rw [h2,rr.done _ h2]);(rw [h3,rr.done _ h3])),rr.done _ h2,rr.done _ h3⟩):qP:=h
theorem UQ(h:qP:=by
 rcases List.mem_append.1 hs with hs|hs
 ·exact HO8.o.2 s hs
 ·rw [List.mem_singleton.1 hs];exact HXS.o):qP:=h
theorem VB(h:qP:=by
 have hkk:=hR.o.kept0 (S:=λb=>b<w9.heap.size) λb _ hb m hm=>absurd hm (XLOW.o m b hb);have m0:J.cell? ⟨g2,16,none⟩=some (.slice D2 ca.deps.length e2):=(HB2L.o.keep (hkk.mono λb _ e=>by rw [e];exact G2L.o)).q16;clear hkk;exact Qk):qP:=h
theorem JF(h:qP:=by
 have:=hb.2;have:=HU5.o;omega):qP:=h
theorem ZU(h:qP:=by
 exfalso;have:=G5L.o
 rcases hb with hb|hb
 ·have:=((h3 h0).blk hb).1;omega
 ·exact JF):qP:=h
theorem Z8(h:qP:=by
 rcases hm with ⟨rfl,h⟩|⟨rfl,h⟩
 ·rw [hk,h0]
 ·exact ZU):qP:=h
theorem U5(h:qP:=by
 rintro v F wx γ' wy rr ⟨A4,c4,h1,h2,h3⟩;refine ⟨A4,c4,h1,h2,λhk => ?_⟩;have h0:F 1008=false:=by
  exact Ib
 exact (h3 h0).keep (rr.keptS λb _ hb m hm=>by
  exact Z8)):qP:=h
theorem SU(h:qP:=by
 intro V F J L hR hN hp hρ zs zg;have hkk:=hR.o.kept0 (S:=λb=>b<w9.heap.size) λb _ hb m hm=>absurd hm (XLOW.o m b hb);have HKK:=Hd hkk;have HR:=hR;clear hkk;refine Qr ?_;refine (HFA.o J HKK.o).mono ?_;rintro e1 w3 ⟨A4,c4,he,hc,ho,hx⟩;exact ⟨_,he,F,H4A _ F hx,λ_ _ _ h=>h,A4,c4,rfl,hc,λ_=>ho.lower HR.o.size⟩):qP:=h
theorem UK(h:qP:=by
 have hkk:=hR.o.kept0 (S:=λb=>b<w9.heap.size) λb _ hb m hm=>absurd hm (XLOW.o m b hb);have m0:J.cell? ⟨g3,16,none⟩=some (.slice D3 cb'.deps.length e3):=(HB3L.o.keep (hkk.mono λb _ e=>by rw [e];exact G3L.o)).q16;clear hkk;exact Qk):qP:=h
theorem BFA(h:qP:=by
 exfalso;have:=G5L.o
 rcases hb with hb|hb
 ·have:=(h5.blk hb).1;omega
 ·exact JF):qP:=h
theorem AZA(h:qP:=by
 rcases hm with ⟨rfl,h⟩|⟨rfl,h⟩
 ·rw [hk,h0]
 ·exact BFA):qP:=h
theorem BaA(h:qP:=by
 exfalso;have:=G5L.o
 rcases hb.1 with hb|hb
 ·exact JF
 ·omega):qP:=h
theorem AdA(h:qP:=by
 rcases hm with ⟨rfl,h⟩|⟨rfl,h⟩
 ·rw [hk,h0]
 ·exact BaA):qP:=h
theorem AoA(h:qP:=by
 obtain ⟨A4,c4,A5,c5,h1,h2,h3,h4⟩:=h;refine ⟨A4,c4,A5,c5,h1,h2,h3,λhk => ?_⟩;have h0:F 1008=false:=by
  exact Ib
 obtain ⟨h5,h7⟩:=h4 h0;refine ⟨h5.keep (rr.keptS λb _ hb m hm => ?_),h7.keep (rr.keptS λb _ hb m hm => ?_)⟩
 ·exact AZA
 ·exact AdA):qP:=h
theorem UM(h:qP:=by
 intro l F wx γ' wy rr h
 match l,h with
 |[],_=>trivial
 |[_],_=>trivial
 | [p,q],h=>exact (by
  exact AoA)
 | _::_::_::_,_=>trivial):qP:=h
theorem BKA(h:qP:=by
 have:=(ho.blk hb).1;have h:=HR.o.size;simp at h;omega):qP:=h
theorem ATA(h:qP:=by
 have:=(HO4.o.blk e).1;have:=hb.2;have:=WSL.o;omega):qP:=h
theorem T2(h:qP:=by
 intro V F J L hR hN hp hρ zs zg;have hkk:=hR.o.kept0 (S:=λb=>b<w9.heap.size) λb _ hb m hm=>absurd hm (XLOW.o m b hb);have hk8:=hN.o.key (k:=1008) (by decide);obtain ⟨A4,c4,hv3,hc3,h3⟩:=hp.o 3 (by decide);obtain ⟨HV3,HO4,HKK⟩:=Hd3 hv3 (h3 hk8) hkk;have HR:=hR;clear hkk h3 hv3 hk8;refine Qr ?_;refine (HFB.o J HKK.o).mono ?_;rintro e1 w3 ⟨A5,c5,he,hc,ho,hx⟩;refine ⟨_,he,F,H4A _ F hx,λ_ _ _ h=>h,A4,c4,A5,c5,HV3.o,rfl,hc,λ_=>⟨HO4.o.ext hx,ho.rdeps (by have:=HL2.o;omega) (λb hb=>⟨.inr ?_,λe => ?_⟩) (λb hb=>⟨.inl hb,λe => ?_⟩)⟩⟩
 ·exact BKA
 ·have:=(ho.blk hb).1;have:=(HO4.o.blk e).2;omega
 ·exact ATA):qP:=h
theorem AIA(h:qP:=by
 rcases hb with hb|hb
 ·exact JF
 ·omega):qP:=h
theorem AXA(h:qP:=by
 exfalso;have:=G5L.o
 rcases hb with hb|hb
 ·have:=(h3.blk hb).1;omega
 ·exact AIA):qP:=h
theorem AFA(h:qP:=by
 rcases hm with ⟨rfl,h⟩|⟨rfl,h⟩
 ·rw [h2,rr.done _ h2]
 ·exact AXA):qP:=h
theorem VI(h:qP:=by
 rintro v F wx γ' wy rr ⟨A6,c6,h1,h2,h3⟩;exact ⟨A6,c6,h1,rr.done _ h2,h3.keep (rr.keptS λb _ hb m hm=>by
  exact AFA)⟩):qP:=h
theorem AlA(h:qP:=by
 obtain ⟨B',e',a1,a2,a3,a4,a5⟩:=hvv i d hd;exact ⟨B',e',a1,a2,a3,a4,a5.mono λb _ hb=>⟨hb.1,.inl hb.2⟩⟩):qP:=h
theorem ApA(h:qP:=by
 obtain ⟨B',e',a1,a2,a3,a4,a5⟩:=hyd i d hd;exact ⟨B',e',a1,a2,a3,a4,a5.mono λb _ hb=>⟨hb.2,hb.1⟩⟩):qP:=h
theorem TK(h:qP:=by
 intro A6 c6 w6 hown6 hg6 hat6;refine ⟨F.put 1008,H2A hk8 hg6.os hg6.tape hg6.output hg6.size (λb hb hm=>hg6.block b hb λe=>hm (.inl ⟨rfl,by have:=(ho4.blk e.symm).1;omega⟩)),LK.done (by decide),A6,c6,rfl,by simp [Gz.put],?_⟩;refine OwnDs.app (X:=λb=>S9 Ta N w9 b\/ws.heap.size<=b) hhs (λi d hd => ?_) (λi d hd => ?_) hown6 hg6 hat6
 ·exact AlA
 ·exact ApA):qP:=h
theorem BYA(h:qP:=by
 rcases hm with ⟨rfl,h⟩|⟨rfl,h⟩
 ·have:=G5L.o;omega
 ·rw [h3,rr.done _ h3]):qP:=h
theorem BCA(h:qP:=by
 obtain ⟨A6,c6,h1,h2,h3⟩:=h;exact ⟨A6,c6,h1,h2.keep (rr.keptS (S:=λb=>b=g5) λb _ e m hm=>by
  exact BYA),rr.done _ h3⟩):qP:=h
theorem WH(h:qP:=by
 intro l F wx γ' wy rr h
 match l,h with
 |[],_=>trivial
 |[_],_=>trivial
 | [p,q],h=>exact (by
  exact BCA)
 | _::_::_::_,_=>trivial):qP:=h
theorem AJA(h:qP:=by
 rcases hm with ⟨rfl,h⟩|⟨rfl,h⟩
 ·have:=G5L.o;omega
 ·exact hkA):qP:=h
theorem UB(h:qP:=by
 have hkA:=hN.o.key (k:=1010) (by decide);have hb0:=HB5L.o.keep (hR.o.kept0 (S:=λb=>b=g5) λb _ e m hm=>by
  exact AJA)
 obtain ⟨HB0,HK,HV8⟩:=Hd3 hb0 hkA hv8;have q16:J.cell? ⟨g5,16,none⟩=some (.slice none 0 0):=hb0.q16;have qf:=hb0.frozen;have ql:=hb0.lt;clear hb0 hkA hg8 hv8;refine Qr ?_;refine ⟨F.put 1010,H2A HK.o rfl rfl rfl (by simp [World.setCell]) (λb hb hm=>((Only.refl g5 J).set 16 (.slice A6 (l1.length+l2.length) c6)).block b λe=>hm (.inr ⟨rfl,e⟩)),LK.done (by decide),A6,c6,HV8.o,?_,by simp [Gz.put]⟩;have hb1:=HB0.o.set 16 (.slice A6 (l1.length+l2.length) c6)
 simpa using hb1):qP:=h
theorem BZA(h:qP:=by
 rw [HRJ.o,HJC.o,HJD'.out];have:=HB10.o;rw [<-List.length_append] at this;exact this):qP:=h
theorem AyA(h:qP:=by
 exact ((HOL.o.strs (T:=λb=>b<ws.heap.size/\b≠g5/\M<=b) (by have:=HFS.o;omega) λb hb=>⟨(HOL.o.1.blk hb).2,by have:=(HOL.o.1.blk hb).1;have:=HGM.o;omega,(HOL.o.1.blk hb).1⟩).keep (HK11.o.mono λb _ hb=>⟨hb.1,hb.2.1⟩)).mono λb _ hb=>.inr (by have:=hb.2.2;have:=HM.o;have:=HSY.o;omega)):qP:=h
theorem A7A(h:qP:=by
 have:=(HO8.o.blk hb).1;have:=HM.o;have:=HSY.o;omega):qP:=h
theorem BPA(h:qP:=by
 refine (HO8.o.rdeps (T:=λb=>S9 Ta N w9 b\/w10.heap.size<=b) (by rw [List.length_append];have:=HL1.o;have:=HL2.o;omega) (λb hb=>.inr ?_) (λb hb=>hb.imp id λh => ?_))
 ·exact A7A
 ·have:=HM.o;have:=HSY.o;omega):qP:=h
theorem ZY(h:qP:=by
 rw [HRJ.o,HJC.o,HJD'.out];refine ⟨HOL.o.1.cap,?_,?_,?_⟩
 ·obtain ⟨hs,hhs,hoo,-⟩:=HO8.o.add;exact hoo.cap
 ·exact AyA
 ·exact BPA):qP:=h
theorem Sk(h:qP:=by
 refine ⟨A8,c8,A6,c6,?_,?_,HX11.o⟩
 ·exact BZA
 ·exact ZY):qP:=h
theorem V8(h:qP:=by
 have:=HSZ9.o;have:=HX12'.out.size;have:=HX10.o.size
 rcases hb with (hb|hb)|hb
 ·exact hb.1
 ·right;omega
 ·right;omega):qP:=h
theorem BV(h:qP:=by rw [hTa];exact ⟨hs,hi⟩):qP:=h
theorem DB(h:qP:=by have:=HGG.o;omega):qP:=h
theorem NV(h:qP:=by rw [HRJ.o];exact HJC.o):qP:=h
theorem O3(h:qP:=by rw [HRJ.o];exact HJD.o):qP:=h
theorem Dk(h:qP:=by rw [<-HFA0.o];simp):qP:=h
theorem Mo(h:qP:=by rw [<-HFB0.o];simp):qP:=h
theorem Is(h:qP:=by rw [e];exact G3L.o):qP:=h
theorem It(h:qP:=by rw [e];exact G2L.o):qP:=h
theorem Hn(a b:Abs)(A D B E:OA)(c e cb eb:Nat)(w:World)(S:NP)(hA:Strs w S A a.cols)(hD:RDeps w S D a.deps)(hB:Strs w S B b.cols)(hE:RDeps w S E b.deps)(ht:Tens w)(hz:AbN 20000 a)(hy:AbN 20000 b) :
  Cl 20 #[(Aq a A c D e),(Aq b B cb E eb)] w (Eh w S (Fk a b)):=by
 obtain ⟨w0,hw0⟩:=eqx (((w.alloc (.cells (Ap a A c D e) 36)).alloc (.cells (Ap b B cb E eb) 36)).alloc (.cells Az 36));obtain ⟨g2,hg2⟩:=eqx w.heap.size;obtain ⟨g3,hg3⟩:=eqx (w.heap.size+1);obtain ⟨g4,hg4⟩:=eqx (w.heap.size+2);obtain ⟨N,hN⟩:=eqx (w.heap.size+3);have hx0:Ext w w0:=CC;have hb2:Blk w0 g2 36 (Ap a A c D e):=(by rw [hw0,hg2];exact (Blk.new _ _ _).keep ((exbb _).kept _));have hb3:Blk w0 g3 36 (Ap b B cb E eb):=(by rw [hw0,hg3];exact (H6A _ _ _ _).keep ((exaa _).kept _));have hb4:Blk w0 g4 36 Az:=(by rw [hw0,hg4];exact ICA _ _ _ _ _);have hs0:w0.heap.size=w.heap.size+3:=(by rw [hw0];simp);obtain ⟨HW0,HG2,HG3,HG4,HX0,HB2,HB3,HB4⟩:=Hd8 hw0 hg2 hg3 hg4 hx0 hb2 hb3 hb4;have HNN:=Hd (show N=w0.heap.size by omega);have HGG:=Hd (show w.heap.size=g2/\g3=g2+1/\g4=g2+2/\N=g2+3 by omega);obtain ⟨Ta,hTa⟩:∃ z:Nat->Prop,z=λb=>S b/\b<w.heap.size:=⟨_,rfl⟩;have HTL:=Hd (show ∀ b,Ta b->b<w.heap.size from λb hb=>by rw [hTa] at hb;exact hb.2);have HTA:=Hd hTa;have XNO:=Hd (show ∀ m b,(Ta b\/N<=b)->¬((m=1004/\b=g2)\/(m=1005/\b=g3)) from λm b hb hm=>by
  exact IS)
 have hA1:=hA.mono (T:=Ta) λi hi hs=>BV;have hD1:=hD.mono (T:=Ta) λi hi hs=>BV;have hB1:=hB.mono (T:=Ta) λi hi hs=>BV;have hE1:=hE.mono (T:=Ta) λi hi hs=>BV;obtain ⟨ca,hca⟩:=eqx (AX a);obtain ⟨cb',hcb⟩:=eqx (AX b);obtain ⟨HCA,HCB,HZA,HZB,HT,HAC,HBC⟩:=Hd7 (show ∀ J,Ext w0 J->Cl 37 #[(Aq a A c D e)] J (Eh J Ta ca) from λJ hw'=>by rw [hca];exact As a A D c e J Ta (hA1.keep ((hx0.trans hw').kept _)) (hD1.keep ((hx0.trans hw').kept _)) (ht.ext (hx0.trans hw')) (hz.mono AB)) (show ∀ J,Ext w0 J->Cl 37 #[(Aq b B cb E eb)] J (Eh J Ta cb') from λJ hw'=>by rw [hcb];exact As b B E cb eb J Ta (hB1.keep ((hx0.trans hw').kept _)) (hE1.keep ((hx0.trans hw').kept _)) (ht.ext (hx0.trans hw')) (hy.mono AB)) (show AbN 20000 ca by rw [hca];exact hz.can) (show AbN 20000 cb' by rw [hcb];exact hy.can) ht hca hcb;clear hw0 hg2 hg3 hg4 hN hx0 hb2 hb3 hb4 hs0 hTa hA hD hB hE hA1 hD1 hB1 hE1 hca hcb ht hz hy
 go_enter func20,ntmps20
 go_upto_region 1 with fail
 rw [<-HW0.o,<-HG4.o,<-HG3.o,<-HG2.o];refine Qa (λm b=>(m=1004/\b=g2)\/(m=1005/\b=g3)) [(0,[1004,1005]),(1,[1004,1005]),(2,[1005]),(3,[1004,1005]),(4,[1004,1005]),(5,[1005])] ?_;apply H9A (LZ.refl _) AG
 ·exact LA
 ·rfl
 refine Qs (FP λv F J=>JoP N Ta ca v J) (H1A ?_) ?_ ?_
 ·exact FA
 ·exact Ls
 apply H9A (LZ.refl _) AG
 ·exact Km
 ·rfl
 refine Qs (FP λv F J=>JoP N Ta cb' v J) (H1A ?_) ?_ ?_
 ·exact FA
 ·exact Mh
 refine Chain.step (λ_ F J=>JoB g2 N Ta ca J/\F 1004=true) AG ?_ ?_ ?_
 ·exact Ku
 ·intro V F J L hR hN hp hρ hc hf hg;refine ⟨rfl,?_⟩;have e2:=hρ 2;(conv at e2=>rhs;whnf);obtain ⟨A1,c1,D1,e1,hv,hab⟩:=hp 1 AB;have e9:=(hρ 9).trans hv;have hk0:=hN.key (k:=1004) AB;have hgg:=HGG.o;have hb0:=HB2.o.keep (hR.kept0 (S:=λb=>b=g2) λb _ e m hm=>by rcases hm with ⟨rfl,h⟩|⟨rfl,h⟩;exact hk0;omega);refine BY 36 rfl e2 e9 hb0 AH rfl AD ?_;exact SH
 refine Chain.step (λ_ F J=>JoB g3 N Ta cb' J/\F 1005=true) AG ?_ ?_ ?_
 ·exact LJ
 ·intro V F J L hR hN hp hρ hc hf hg;refine ⟨rfl,?_⟩;have e3:=hρ 3;(conv at e3=>rhs;whnf);obtain ⟨A1,c1,D1,e1,hv,hab⟩:=hp 3 AB;have e11:=(hρ 11).trans hv;have hk0:=hN.key (k:=1005) AB;have hgg:=HGG.o;have hb0:=HB3.o.keep (hR.kept0 (S:=λb=>b=g3) λb _ e m hm=>by rcases hm with ⟨rfl,h⟩|⟨rfl,h⟩;omega;exact hk0);refine BY 36 rfl e3 e11 hb0 AH rfl AD ?_;exact R0
 intro V F w9 hR hG;obtain ⟨⟨A2,c2,D2,e2,hb29,hab2⟩,-⟩:=hG 4 AB;obtain ⟨⟨A3,c3,D3,e3,hb39,hab3⟩,-⟩:=hG 5 AB;obtain ⟨Z,Y,HAB2,HAB3,HX9,HX9K,HSZ9⟩:=Hd7 hb29 hb39 hab2 hab3 (show Ext w w9 from Au HX0.o (hR.buts (S:=λb=>b=g2\/b=g3) (λm b _ hm _=>hm.imp And.right And.right)) (λb hb=>DB)) (hR.kept0 (S:=λb=>b=g4) λb _ e m hm=>by have:=HGG.o;rcases hm with ⟨_,h⟩|⟨_,h⟩<;>omega) (show N<=w9.heap.size by have:=hR.size;have e0:w0.drew.heap.size=w0.heap.size:=rfl;have:=HNN.o;omega);refine Qx ?_;clear hR hG hb29 hb39 hab2 hab3;obtain ⟨k5,hk5⟩:=eqx (bits .or .i64 ca.kinds cb'.kinds);obtain ⟨b5,a9⟩:=eqx (bits .or .i64 ca.bo cb'.bo);obtain ⟨O,htj⟩:=eqx (BW ca.tx cb'.tx);obtain ⟨U,hnj⟩:=eqx (Cc ca.nu cb'.nu);obtain ⟨d1,hd1⟩:=eqx ((Cb (ca.dl,ca.dh) (cb'.dl,cb'.dh)).1);obtain ⟨d2,hd2⟩:=eqx ((Cb (ca.dl,ca.dh) (cb'.dl,cb'.dh)).2);obtain ⟨r1,hr1⟩:=eqx ((Cb (ca.rl,ca.rh) (cb'.rl,cb'.rh)).1);obtain ⟨r2,hr2⟩:=eqx ((Cb (ca.rl,ca.rh) (cb'.rl,cb'.rh)).2);obtain ⟨er,her⟩:=eqx (ca.errs||cb'.errs);have hor1:bits .or .i64 ca.kinds cb'.kinds=k5:=hk5.symm;have hor2:bits .or .i64 ca.bo cb'.bo=b5:=a9.symm;have hza:=HZA.o;have hzb:=HZB.o;obtain ⟨HJS,HJI,HJD,HJR,HEQ,HER⟩:=Hd6 (show ∀ J,Cl 67 #[(Sq ca.tx),(Sq cb'.tx)] J (G0 J O) from λJ=>by rw [htj];exact SD ca.tx cb'.tx hza.1 hza.2.1 hzb.1 hzb.2.1 J) (show ∀ J,Ext w9 J->Cl 68 #[(Rq ca.nu),(Rq cb'.nu)] J (Em J U) from λJ hw'=>by rw [hnj];exact KG ca.nu cb'.nu J (HT.o.ext (HX9.o.trans hw'))) (show ∀ J,Cl 69 #[.agg #[.I ca.dl,.I ca.dh],.agg #[.I cb'.dl,.I cb'.dh]] J (Cd J (d1,d2)) from λJ=>by rw [hd1,hd2];exact Hi _ _ _ _ J) (show ∀ J,Cl 69 #[.agg #[.I ca.rl,.I ca.rh],.agg #[.I cb'.rl,.I cb'.rh]] J (Cd J (r1,r2)) from λJ=>by rw [hr1,hr2];exact Hi _ _ _ _ J) (show F7 ca cb'=⟨k5,O,U,d1,d2,b5,r1,r2,EE ca cb',BJ ca cb',er⟩ by rw [hk5,a9,htj,hnj,hd1,hd2,hr1,hr2,her];rfl) her;clear hk5 a9 htj hnj hd1 hd2 hr1 hr2 her hza hzb;obtain ⟨K0,L0,K1,L1,K2,L2,K3,L3⟩:=Hd8 (show w9.cell? ⟨g2,0,none⟩=some (.I ca.kinds) from Z.o.q0) (show w9.cell? ⟨g3,0,none⟩=some (.I cb'.kinds) from Y.o.q0) (show w9.cell? ⟨g2,1,none⟩=some (.I ca.tx.least) from Z.o.q1) (show w9.cell? ⟨g3,1,none⟩=some (.I cb'.tx.least) from Y.o.q1) (show w9.cell? ⟨g2,2,none⟩=some (.I ca.tx.most) from Z.o.q2) (show w9.cell? ⟨g3,2,none⟩=some (.I cb'.tx.most) from Y.o.q2) (show w9.cell? ⟨g2,3,none⟩=some (.I ca.tx.cls) from Z.o.q3) (show w9.cell? ⟨g3,3,none⟩=some (.I cb'.tx.cls) from Y.o.q3);obtain ⟨K4,L4,K5,L5,K6,L6,K7,L7⟩:=Hd8 (show w9.cell? ⟨g2,4,none⟩=some (.string ca.tx.b) from Z.o.q4) (show w9.cell? ⟨g3,4,none⟩=some (.string cb'.tx.b) from Y.o.q4) (show w9.cell? ⟨g2,5,none⟩=some (.string ca.tx.e) from Z.o.q5) (show w9.cell? ⟨g3,5,none⟩=some (.string cb'.tx.e) from Y.o.q5) (show w9.cell? ⟨g2,6,none⟩=some (.I ca.nu.ln) from Z.o.q6) (show w9.cell? ⟨g3,6,none⟩=some (.I cb'.nu.ln) from Y.o.q6) (show w9.cell? ⟨g2,7,none⟩=some (.I ca.nu.ls) from Z.o.q7) (show w9.cell? ⟨g3,7,none⟩=some (.I cb'.nu.ls) from Y.o.q7);obtain ⟨K8,L8,K9,L9,K10,L10,K11,L11⟩:=Hd8 (show w9.cell? ⟨g2,8,none⟩=some (.I ca.nu.hn) from Z.o.q8) (show w9.cell? ⟨g3,8,none⟩=some (.I cb'.nu.hn) from Y.o.q8) (show w9.cell? ⟨g2,9,none⟩=some (.I ca.nu.hs) from Z.o.q9) (show w9.cell? ⟨g3,9,none⟩=some (.I cb'.nu.hs) from Y.o.q9) (show w9.cell? ⟨g2,10,none⟩=some (.I ca.dl) from Z.o.q10) (show w9.cell? ⟨g3,10,none⟩=some (.I cb'.dl) from Y.o.q10) (show w9.cell? ⟨g2,11,none⟩=some (.I ca.dh) from Z.o.q11) (show w9.cell? ⟨g3,11,none⟩=some (.I cb'.dh) from Y.o.q11);obtain ⟨K12,L12,K13,L13,K14,L14,K17,L17⟩:=Hd8 (show w9.cell? ⟨g2,12,none⟩=some (.I ca.bo) from Z.o.q12) (show w9.cell? ⟨g3,12,none⟩=some (.I cb'.bo) from Y.o.q12) (show w9.cell? ⟨g2,13,none⟩=some (.I ca.rl) from Z.o.q13) (show w9.cell? ⟨g3,13,none⟩=some (.I cb'.rl) from Y.o.q13) (show w9.cell? ⟨g2,14,none⟩=some (.I ca.rh) from Z.o.q14) (show w9.cell? ⟨g3,14,none⟩=some (.I cb'.rh) from Y.o.q14) (show w9.cell? ⟨g2,17,none⟩=some (.bool ca.errs) from Z.o.q17) (show w9.cell? ⟨g3,17,none⟩=some (.bool cb'.errs) from Y.o.q17)
 go_upto_region 2 with fail
 go_cut [5] (λv wx=>∃ g5,v=.pointer (some ⟨g5,0,none⟩)/\w9.heap.size<=g5/\Ext w9 wx/\Blk wx g5 36 #[.I k5,.I O.least,.I O.most,.I O.cls,.string O.b,.string O.e,.I U.ln,.I U.ls,.I U.hn,.I U.hs,.I d1,.I d2,.I b5,.I r1,.I r2,.slice none 0 0,.slice none 0 0,.bool er])
 case first =>
  cases he:ca.errs
  ·have hce:cb'.errs=er:=(by rw [HER.o,he];rfl);refine Qb (fun|38=>[37,38]|i=>[i]) (λ_ _=>False) [(38,[37])] ?_
   iterate 9 refine Qp ?_
   refine Qc (x:=(Sq O)) (λJ=>HJS.o J) ?_
   iterate 4 refine Qp ?_
   refine Qg (Rq U) ?_ ?_
   ·exact RM
   iterate 4 refine Qp ?_
   refine Qc (x:=.agg #[.I d1,.I d2]) (λJ=>HJD.o J) ?_
   iterate 9 refine Qp ?_
   refine Qc (x:=.agg #[.I r1,.I r2]) (λJ=>HJR.o J) ?_
   iterate 7 refine Qp ?_
   refine Qs (FP (VarX (λ_ _=>False) 37 36 18)) (H1A IAA) ?_ ?_
   ·exact UZ
   refine Chain.step (λvl F J=>match vl with|[p,_]=>VarXI (λ_ _=>False) 36 p #[.I k5,.I O.least,.I O.most,.I O.cls,.string O.b,.string O.e,.I U.ln,.I U.ls,.I U.hn,.I U.hs,.I d1,.I d2,.I b5,.I r1,.I r2,.slice none 0 0,.slice none 0 0,.bool er] F J/\UpN w9.heap.size p|_=>True) AG ?_ ?_ ?_
   ·exact Cm
   ·intro V F J L hR hN hp hρ hc hf hg;refine ⟨rfl,?_⟩;have e48:L (.tmp 48)=_:=(hρ 48).trans (hp 36 AB);obtain ⟨g,⟨cl⟩,hv,hcs,hb,hk,hst⟩:=VarX.stored (hp 37 AB) (s:=38) (l:=[(38,[37])]) AB hN;have e5:=(hρ 5).trans hv
    match cl,hcs with
    |[x0,x1,x2,x3,x4,x5,x6,x7,x8,x9,x10,x11,x12,x13,x14,x15,x16,x17],_ =>
     have hup:UpN w9.heap.size (V 37):=⟨g,hv,by
       exact VM⟩
     have HST:=Hd hst;have HK:=Hd hk;refine BY 36 rfl e5 e48 hb AH rfl AD ?_;intro w4 hb4 ho4;obtain ⟨g1,g2⟩:=HST.o _ #[.I k5,.I O.least,.I O.most,.I O.cls,.string O.b,.string O.e,.I U.ln,.I U.ls,.I U.hn,.I U.hs,.I d1,.I d2,.I b5,.I r1,.I r2,.slice none 0 0,.slice none 0 0,.bool er] ho4 hb4 rfl;exact ⟨F.put 37 none,g1,LM.done AB (.inl ⟨g,HK.o⟩),⟨g2,hup⟩⟩
   intro V F w10 hR hG;obtain ⟨⟨g5,v37,a9,-,-⟩,g6,v37',hu6⟩:=hG 38 AB;have hu5:w9.heap.size<=g5:=by
    exact Uy
   refine Qx ?_;simp only [v37];obtain ⟨HX10,HB5,HU5⟩:=Hd3 (show Ext w9 w10 from hR.ext0 (λ_ _ h=>h.elim)) a9 hu5;clear hR hG a9 v37 v37' hu5 hu6
   go_wp2_with fail
   go_meet
   case rel=>exact ⟨g5,rfl,HU5.o,HX10.o,HB5.o⟩
  ·have HTR:=Hd (show er=true by rw [HER.o,he];rfl);refine Qb (fun|38=>[37,38]|i=>[i]) (λ_ _=>False) [(38,[37])] ?_
   iterate 9 refine Qp ?_
   refine Qc (x:=(Sq O)) (λJ=>HJS.o J) ?_
   iterate 4 refine Qp ?_
   refine Qg (Rq U) ?_ ?_
   ·exact RM
   iterate 4 refine Qp ?_
   refine Qc (x:=.agg #[.I d1,.I d2]) (λJ=>HJD.o J) ?_
   iterate 9 refine Qp ?_
   refine Qc (x:=.agg #[.I r1,.I r2]) (λJ=>HJR.o J) ?_
   iterate 3 refine Qp ?_
   iterate 2 refine Qn ?_
   iterate 2 refine Qp ?_
   refine Qs (FP (VarX (λ_ _=>False) 37 36 18)) (H1A IAA) ?_ ?_
   ·exact UZ
   refine Chain.step (λvl F J=>match vl with|[p,_]=>VarXI (λ_ _=>False) 36 p #[.I k5,.I O.least,.I O.most,.I O.cls,.string O.b,.string O.e,.I U.ln,.I U.ls,.I U.hn,.I U.hs,.I d1,.I d2,.I b5,.I r1,.I r2,.slice none 0 0,.slice none 0 0,.bool true] F J/\UpN w9.heap.size p|_=>True) AG ?_ ?_ ?_
   ·exact Cm
   ·intro V F J L hR hN hp hρ hc hf hg;refine ⟨rfl,?_⟩;have e48:L (.tmp 48)=_:=(hρ 48).trans (hp 36 AB);obtain ⟨g,⟨cl⟩,hv,hcs,hb,hk,hst⟩:=VarX.stored (hp 37 AB) (s:=38) (l:=[(38,[37])]) AB hN;have e5:=(hρ 5).trans hv
    match cl,hcs with
    |[x0,x1,x2,x3,x4,x5,x6,x7,x8,x9,x10,x11,x12,x13,x14,x15,x16,x17],_ =>
     have hup:UpN w9.heap.size (V 37):=⟨g,hv,by
       exact VM⟩
     have HST:=Hd hst;have HK:=Hd hk;refine BY 36 rfl e5 e48 hb AH rfl AD ?_;intro w4 hb4 ho4;obtain ⟨g1,g2⟩:=HST.o _ #[.I k5,.I O.least,.I O.most,.I O.cls,.string O.b,.string O.e,.I U.ln,.I U.ls,.I U.hn,.I U.hs,.I d1,.I d2,.I b5,.I r1,.I r2,.slice none 0 0,.slice none 0 0,.bool true] ho4 hb4 rfl;exact ⟨F.put 37 none,g1,LM.done AB (.inl ⟨g,HK.o⟩),⟨g2,hup⟩⟩
   intro V F w10 hR hG;obtain ⟨⟨g5,v37,a9,-,-⟩,g6,v37',hu6⟩:=hG 38 AB;have hu5:w9.heap.size<=g5:=by
    exact Uy
   refine Qx ?_;simp only [v37];obtain ⟨HX10,HB5,HU5⟩:=Hd3 (show Ext w9 w10 from hR.ext0 (λ_ _ h=>h.elim)) a9 hu5;clear hR hG a9 v37 v37' hu5 hu6
   go_wp2_with fail
   go_meet
   case rel=>exact ⟨g5,rfl,HU5.o,HX10.o,by rw [HTR.o];exact HB5.o⟩
 case rest =>
 obtain ⟨w10,rfl⟩:=eqx wc;obtain ⟨g5,rfl,hu5,hx10,a9⟩:=hcut;obtain ⟨rj,hrj⟩:∃ z:Abs,z=⟨k5,O,U,d1,d2,b5,r1,r2,EE ca cb',BJ ca cb',er⟩:=⟨_,rfl⟩;obtain ⟨HRJ,HEJ,HU5,HX10,HB5,HB210,HB310,HA210⟩:=Hd8 hrj (show F7 ca cb'=rj by rw [HEQ.o,hrj]) hu5 hx10 a9 (Z.o.keep (hx10.kept _)) (Y.o.keep (hx10.kept _)) ((HAB2.o.mono (T:=S9 Ta N w9) λi hi hs=>⟨hs,hi⟩).keep (hx10.kept _));obtain ⟨HA310,G2L,G3L⟩:=Hd3 ((HAB3.o.mono (T:=S9 Ta N w9) λi hi hs=>⟨hs,hi⟩).keep (hx10.kept _)) (show g2<w9.heap.size from Z.o.lt) (show g3<w9.heap.size from Y.o.lt);have HN2:=Hd (show g2≠g5 by have:=G2L.o;omega);have HN3:=Hd (show g3≠g5 by have:=G3L.o;omega);obtain ⟨fa,hfa⟩:=eqx (bt ca.kinds 5);obtain ⟨fb,hfb⟩:=eqx (bt cb'.kinds 5);obtain ⟨HHA,HHB,HFA0,HFB0⟩:=Hd4 (show ∀ J,Cl 59 #[(Aq ca A2 c2 D2 e2),.I 5] J (Ae J fa) from λJ=>by rw [hfa];exact BI ca A2 D2 c2 e2 5 AA J) (show ∀ J,Cl 59 #[(Aq cb' A3 c3 D3 e3),.I 5] J (Ae J fb) from λJ=>by rw [hfb];exact BI cb' A3 D3 c3 e3 5 AA J) hfa hfb;clear hu5 hx10 a9 hrj hfa hfb K0 L0 K1 L1 K2 L2 K3 L3 K4 L4 K5 L5 K6 L6 K7 L7 K8 L8 K9 L9 K10 L10 K11 L11 K12 L12 K13 L13 K14 L14 K17 L17
 go_upto_block 0 with fail
 go_cut [] (λwx=>JoR g5 N Ta w9 w10 rj wx)
 case first =>
  go_upto_region 10 with fail
  refine wp_region_lit ?_;refine AJ rfl 36 _ rfl g2 rfl HB210.o AS AH ?_
  go_wp2_with fail
  refine (HHA.o _).mono ?_;rintro ee wz ⟨rfl,hxz⟩;obtain ⟨w10',hw10'⟩:=eqx w10;obtain ⟨HXZ,HX10Z,HB5Z,HB2Z,HB3Z,HA2Z,HA3Z⟩:=Hd7 hxz (HX10.o.trans hxz) (HB5.o.keep (hxz.kept _)) (HB210.o.keep (hxz.kept _)) (HB310.o.keep (hxz.kept _)) (HA210.o.keep (hxz.kept _)) (HA310.o.keep (hxz.kept _));clear hxz hw10';cases fa
  ·have HJC:=Hd (show EE ca cb'=cb'.cols by unfold EE;rw [if_pos HFA0.o.symm]);have HJD:=Hd (show BJ ca cb'=cb'.deps by unfold BJ;rw [if_pos HFA0.o.symm])
   go_upto_region 11 with fail
   refine Qa (λm b=>(m=1005\/m=1007)/\b=g5) [(0,[1005,1007]),(1,[1005,1007]),(2,[1007]),(3,[1007]),(4,[1005,1007]),(5,[1005,1007]),(6,[1007]),(7,[1007])] ?_;refine Qp ?_;refine Qm (λV F J L hR hN hp hρ zs zg=>by
    have hkk:=hR.o.kept0 (S:=λb=>b=g3) λb _ e m hm=>absurd (e.symm.trans hm.2) HN3.o;have m0:J.cell? ⟨g3,15,none⟩=some (.slice A3 cb'.cols.length c3):=(HB3Z.o.keep hkk).q15;clear hkk;exact Qk) ?_
   refine Qp ?_;refine Qm (λV F J L hR hN hp hρ zs zg=>by
    have hkk:=hR.o.kept0 (S:=λb=>b=g3) λb _ e m hm=>absurd (e.symm.trans hm.2) HN3.o;have m0:J.cell? ⟨g3,16,none⟩=some (.slice D3 cb'.deps.length e3):=(HB3Z.o.keep hkk).q16;clear hkk;exact Qk) ?_
   refine Qp ?_;refine Qs (λ_ F J=>(F 1007=false->Blk J g5 36 #[.I k5,.I O.least,.I O.most,.I O.cls,.string O.b,.string O.e,.I U.ln,.I U.ls,.I U.hn,.I U.hs,.I d1,.I d2,.I b5,.I r1,.I r2,.slice A3 cb'.cols.length c3,.slice none 0 0,.bool er])/\F 1005=true) ?_ ?_ ?_
   ·exact P8
   ·intro V F J L hR hN hp hρ zs zg;have hk5:=hN.o.key (k:=1005) AB;have a8:=hN.o.key (k:=1007) AB;have hb0:=HB5Z.o.keep (hR.o.kept0 (S:=λb=>b=g5) λb _ e m hm=>by rcases hm.1 with rfl|rfl;exact hk5;exact a8);have HB0:=Hd hb0;have HK:=Hd hk5;have q15:J.cell? ⟨g5,15,none⟩=some (.slice none 0 0):=hb0.q15;have qf:=hb0.frozen;have ql:=hb0.lt;clear hb0 hk5 a8;refine Qr ?_;refine ⟨F.put 1005,H2A HK.o rfl rfl rfl Y78171d3d0 (λb hb hm=>((Only.refl g5 J).set 15 (.slice A3 cb'.cols.length c3)).block b λe=>hm ⟨.inl rfl,e⟩),LK.done AB,λ_ => ?_,AU⟩;have hb1:=HB0.o.set 15 (.slice A3 cb'.cols.length c3)
    simpa using hb1
   refine Qp ?_;refine Qs (λ_ F J=>Blk J g5 36 #[.I k5,.I O.least,.I O.most,.I O.cls,.string O.b,.string O.e,.I U.ln,.I U.ls,.I U.hn,.I U.hs,.I d1,.I d2,.I b5,.I r1,.I r2,.slice A3 cb'.cols.length c3,.slice D3 cb'.deps.length e3,.bool er]/\F 1005=true/\F 1007=true) ?_ ?_ ?_
   ·exact RU
   ·intro V F J L hR hN hp hρ zs zg;have a8:=hN.o.key (k:=1007) AB;obtain ⟨h5,hg5⟩:=hp.o 5 AB;have hb0:=h5 a8;obtain ⟨HB0,HK,HG⟩:=Hd3 hb0 a8 hg5;have q16:J.cell? ⟨g5,16,none⟩=some (.slice none 0 0):=hb0.q16;have qf:=hb0.frozen;have ql:=hb0.lt;clear hb0 a8 h5 hg5;refine Qr ?_;refine ⟨F.put 1007,H2A HK.o rfl rfl rfl Y78171d3d0 (λb hb hm=>((Only.refl g5 J).set 16 (.slice D3 cb'.deps.length e3)).block b λe=>hm ⟨.inr rfl,e⟩),LK.done AB,?_,by simp [Gz.put,HG.o],AU⟩;have hb1:=HB0.o.set 16 (.slice D3 cb'.deps.length e3)
    simpa using hb1
   intro V F w11 hR hG;refine Qx ?_;obtain ⟨hb7,-,-⟩:=hG 7 AB;obtain ⟨HB7,HX11,HK11⟩:=Hd3 hb7 (show Ext w9 w11 from Au HX10Z.o (hR.buts (S:=λb=>b=g5) (λm b _ hm _=>hm.2)) (λb hb=>by rw [hb];exact HU5.o)) (hR.kept0 (S:=λb=>b<w9.heap.size) λb _ hb m hm=>absurd hm.2 (by have:=HU5.o;omega));clear hR hG hb7
   go_wp2_with fail
   go_meet
   case rel =>
    refine ⟨A3,c3,D3,e3,?_,?_,HX11.o⟩
    ·rw [HRJ.o,HJC.o,HJD.o];exact HB7.o
    ·exact ((HA3Z.o.keep (HK11.o.mono λb _ hb=>hb.2)).mono λb _ hb=>.inl hb).tov NV O3
  ·go_upto_region 12 with fail
   refine wp_region_lit ?_;refine AJ rfl 36 _ rfl g3 rfl HB3Z.o AS AH ?_
   go_wp2_with fail
   refine (HHB.o _).mono ?_;rintro ee wy ⟨rfl,hxy⟩;obtain ⟨HX10Y,HB5Y,HB2Y,HB3Y,HA2Y,HA3Y,HSY⟩:=Hd7 (HX10Z.o.trans hxy) (HB5Z.o.keep (hxy.kept _)) (HB2Z.o.keep (hxy.kept _)) (HB3Z.o.keep (hxy.kept _)) (HA2Z.o.keep (hxy.kept _)) (HA3Z.o.keep (hxy.kept _)) (show w10.heap.size<=wy.heap.size by have:=HXZ.o.size;have:=hxy.size;omega);clear hxy HB5Z HB2Z HB3Z HA2Z HA3Z;cases fb
   ·have HJC:=Hd (show EE ca cb'=ca.cols by unfold EE;rw [if_neg Dk,if_pos HFB0.o.symm]);have HJD:=Hd (show BJ ca cb'=ca.deps by unfold BJ;rw [if_neg Dk,if_pos HFB0.o.symm])
    go_upto_region 13 with fail
    refine Qa (λm b=>(m=1005\/m=1007)/\b=g5) [(0,[1005,1007]),(1,[1005,1007]),(2,[1007]),(3,[1007]),(4,[1005,1007]),(5,[1005,1007]),(6,[1007]),(7,[1007])] ?_;refine Qp ?_;refine Qm (λV F J L hR hN hp hρ zs zg=>by
     have hkk:=hR.o.kept0 (S:=λb=>b=g2) λb _ e m hm=>absurd (e.symm.trans hm.2) HN2.o;have m0:J.cell? ⟨g2,15,none⟩=some (.slice A2 ca.cols.length c2):=(HB2Y.o.keep hkk).q15;clear hkk;exact Qk) ?_
    refine Qp ?_;refine Qm (λV F J L hR hN hp hρ zs zg=>by
     have hkk:=hR.o.kept0 (S:=λb=>b=g2) λb _ e m hm=>absurd (e.symm.trans hm.2) HN2.o;have m0:J.cell? ⟨g2,16,none⟩=some (.slice D2 ca.deps.length e2):=(HB2Y.o.keep hkk).q16;clear hkk;exact Qk) ?_
    refine Qp ?_;refine Qs (λ_ F J=>(F 1007=false->Blk J g5 36 #[.I k5,.I O.least,.I O.most,.I O.cls,.string O.b,.string O.e,.I U.ln,.I U.ls,.I U.hn,.I U.hs,.I d1,.I d2,.I b5,.I r1,.I r2,.slice A2 ca.cols.length c2,.slice none 0 0,.bool er])/\F 1005=true) ?_ ?_ ?_
    ·exact P8
    ·intro V F J L hR hN hp hρ zs zg;have hk5:=hN.o.key (k:=1005) AB;have a8:=hN.o.key (k:=1007) AB;have hb0:=HB5Y.o.keep (hR.o.kept0 (S:=λb=>b=g5) λb _ e m hm=>by rcases hm.1 with rfl|rfl;exact hk5;exact a8);have HB0:=Hd hb0;have HK:=Hd hk5;have q15:J.cell? ⟨g5,15,none⟩=some (.slice none 0 0):=hb0.q15;have qf:=hb0.frozen;have ql:=hb0.lt;clear hb0 hk5 a8;refine Qr ?_;refine ⟨F.put 1005,H2A HK.o rfl rfl rfl Y78171d3d0 (λb hb hm=>((Only.refl g5 J).set 15 (.slice A2 ca.cols.length c2)).block b λe=>hm ⟨.inl rfl,e⟩),LK.done AB,λ_ => ?_,AU⟩;have hb1:=HB0.o.set 15 (.slice A2 ca.cols.length c2)
     simpa using hb1
    refine Qp ?_;refine Qs (λ_ F J=>Blk J g5 36 #[.I k5,.I O.least,.I O.most,.I O.cls,.string O.b,.string O.e,.I U.ln,.I U.ls,.I U.hn,.I U.hs,.I d1,.I d2,.I b5,.I r1,.I r2,.slice A2 ca.cols.length c2,.slice D2 ca.deps.length e2,.bool er]/\F 1005=true/\F 1007=true) ?_ ?_ ?_
    ·exact RU
    ·intro V F J L hR hN hp hρ zs zg;have a8:=hN.o.key (k:=1007) AB;obtain ⟨h5,hg5⟩:=hp.o 5 AB;have hb0:=h5 a8;obtain ⟨HB0,HK,HG⟩:=Hd3 hb0 a8 hg5;have q16:J.cell? ⟨g5,16,none⟩=some (.slice none 0 0):=hb0.q16;have qf:=hb0.frozen;have ql:=hb0.lt;clear hb0 a8 h5 hg5;refine Qr ?_;refine ⟨F.put 1007,H2A HK.o rfl rfl rfl Y78171d3d0 (λb hb hm=>((Only.refl g5 J).set 16 (.slice D2 ca.deps.length e2)).block b λe=>hm ⟨.inr rfl,e⟩),LK.done AB,?_,by simp [Gz.put,HG.o],AU⟩;have hb1:=HB0.o.set 16 (.slice D2 ca.deps.length e2)
     simpa using hb1
    intro V F w11 hR hG;refine Qx ?_;obtain ⟨hb7,-,-⟩:=hG 7 AB;obtain ⟨HB7,HX11,HK11⟩:=Hd3 hb7 (show Ext w9 w11 from Au HX10Y.o (hR.buts (S:=λb=>b=g5) (λm b _ hm _=>hm.2)) (λb hb=>by rw [hb];exact HU5.o)) (hR.kept0 (S:=λb=>b<w9.heap.size) λb _ hb m hm=>absurd hm.2 (by have:=HU5.o;omega));clear hR hG hb7
    go_wp2_with fail
    go_meet
    case rel =>
     refine ⟨A2,c2,D2,e2,?_,?_,HX11.o⟩
     ·rw [HRJ.o,HJC.o,HJD.o];exact HB7.o
     ·exact ((HA2Y.o.keep (HK11.o.mono λb _ hb=>hb.2)).mono λb _ hb=>.inl hb).tov NV O3
   ·have HJC:=Hd (show EE ca cb'=ca.cols.filter (Aw cb'.cols) by unfold EE;rw [if_neg Dk,if_neg Mo]);have HJD:=Hd (show BJ ca cb'=DK ca.deps cb'++DK cb'.deps ca by unfold BJ;rw [if_neg Dk,if_neg Mo]);have p15:wy.cell? ⟨g2,15,none⟩=some (.slice A2 ca.cols.length c2):=HB2Y.o.q15;have hcl:=HZA.o.2.2.1;obtain ⟨M,hM⟩:=eqx wy.heap.size;have HM:=Hd hM;have HGM:=Hd (show g5<M by rw [hM];exact HB5Y.o.lt);clear hM;go_wp2
    go_loopw [52] (λi wr=>∃ (k:Nat) (A8:OA) (c8:Nat),k<=ca.cols.length/\i=.I k/\Blk wr g5 36 #[.I k5,.I O.least,.I O.most,.I O.cls,.string O.b,.string O.e,.I U.ln,.I U.ls,.I U.hn,.I U.hs,.I d1,.I d2,.I b5,.I r1,.I r2,.slice A8 ((ca.cols.take k).filter (Aw cb'.cols)).length c8,.slice none 0 0,.bool er]/\OwnSs wr M A8 c8 ((ca.cols.take k).filter (Aw cb'.cols))/\Ext w9 wr/\M<=wr.heap.size) (λi _=>ca.cols.length-(intOf i).toNat)
    case atStart=>exact ⟨0,none,0,AN,rfl,HB5Y.o,OwnSs.nil _ _,HX10Y.o,by rw [HM.o];exact Al⟩
    case round =>
     clear p15;obtain ⟨k,A8,c8,hk,rfl,hb8,ho8,hx8,hm8⟩:=hrel;obtain ⟨HB8,HO8,HX8⟩:=Hd3 hb8 ho8 hx8;clear hb8 ho8 hx8;by_cases hlt:k<ca.cols.length
     ·obtain ⟨ws,rfl⟩:=eqx wr;have hst:=(HAB2.o.keep (HX8.o.kept _)).2.2.1;obtain ⟨b1,o1,he1,z1,q0⟩:=hst.at_ hlt;clear hst;obtain ⟨x,hxx⟩:=eqx (ca.cols[k]);rw [<-hxx] at q0;subst he1;have HFT:=Hd (show (ca.cols.take (k+1)).filter (Aw cb'.cols)=if Aw cb'.cols x=true then (ca.cols.take k).filter (Aw cb'.cols)++[x] else (ca.cols.take k).filter (Aw cb'.cols) by rw [List.take_succ_eq_append_getElem hlt,List.filter_append,<-hxx];cases hq:Aw cb'.cols x<;>simp [hq]);have HXS:=Hd (show x.size<=4294967296 by rw [hxx];exact HAB2.o.2.2.1.2.2 _ (List.getElem_mem hlt));have hfl:((ca.cols.take k).filter (Aw cb'.cols)).length<=ca.cols.length:=Nat.le_trans (List.length_filter_le _ _) BP;obtain ⟨fk,hfk⟩:=eqx ((ca.cols.take k).filter (Aw cb'.cols));rw [<-hfk] at hfl HFT HB8 HO8;have p15:ws.cell? ⟨g3,15,none⟩=some (.slice A3 cb'.cols.length c3):=(Y.o.keep (HX8.o.kept _)).q15;have r15:ws.cell? ⟨g5,15,none⟩=some (.slice A8 fk.length c8):=HB8.o.q15;have HCT:=Hd (JK A3 c3 cb'.cols x ws _ (HAB3.o.keep (HX8.o.kept _)).2.2.1);clear hfk hxx
      go_wp2_with fail
      refine HCT.o.mono ?_;rintro e3' w3' ⟨rfl,rfl⟩;cases hmm:Aw cb'.cols x
      ·have HS:=Hd (show (ca.cols.take (k+1)).filter (Aw cb'.cols)=fk by rw [HFT.o,hmm];rfl);clear hmm;go_wp2;go_roundw
       case rel=>exact ⟨k+1,A8,c8,AA,AE,by rw [HS.o];exact HB8.o,by rw [HS.o];exact HO8.o,HX8.o,hm8⟩
       case measure=>simp [intOf];omega
      ·have HS:=Hd (show (ca.cols.take (k+1)).filter (Aw cb'.cols)=fk++[x] by rw [HFT.o,hmm];rfl);clear hmm;have HOA:=Hd (HO8.o.ext ((Ext.refl ws).alloc (.cells #[.string x] 9)));have HBA:=Hd (HB8.o.keep (((Ext.refl ws).alloc (.cells #[.string x] 9)).kept _));have hgm:=HGM.o
       go_wp2_with (at_builtin;go_must (refine AL rfl (.tmp 61) (.tmp 63) rfl tiS rfl HOA.o.1 rfl (Blk.rd (Blk.new _ _ _)) rfl AP AA AB AI ?_);intro A9 c9 w9' hown9 hg9 hat9;have hgb:=HBA.o.keep (Kept.of_grown hg9 λb hb _ e=>by have:=(HOA.o.1.blk e.symm).1;omega);have s15:=hgb.q15;have sf:=hgb.frozen;have sl:=hgb.lt)
       go_roundw
       case rel =>
        have hbs:=hgb.set 15 (.slice A9 (fk.length+1) c9);have hos:=(Only.refl g5 w9').set 15 (.slice A9 (fk.length+1) c9);refine ⟨k+1,A9,c9,AA,AE,?_,⟨?_,λs hs => ?_⟩,?_,?_⟩
        ·rw [HS.o,List.length_append]
         simpa using hbs
        ·rw [HS.o,List.length_append,List.map_append];have:=hos.own hown9 AA
         simpa using this
        ·rw [HS.o] at hs;exact UQ
        ·have h1:=(HX8.o.alloc (.cells #[.string x] 9)).grown hg9 (λb hb=>by have:=(HOA.o.1.blk hb).1;have:=HU5.o;omega);exact h1.set2 HU5.o _
        ·have:=hg9.size;simp at this|-;omega
       case measure=>simp [intOf];omega
     ·obtain rfl:k=ca.cols.length:=AA;obtain ⟨ws,rfl⟩:=eqx wr;have HTK:=Hd (show ca.cols.take ca.cols.length=ca.cols from List.take_length);have hb8:=HB8.o;have ho8:=HO8.o;rw [HTK.o] at hb8 ho8;obtain ⟨HB5L,HOL,HXL,HB2L,HB3L,WSL,G5L⟩:=Hd7 hb8 ho8 HX8.o (Z.o.keep (HX8.o.kept _)) (Y.o.keep (HX8.o.kept _)) (show w9.heap.size<=ws.heap.size from HX8.o.size) (show g5<ws.heap.size from HB8.o.lt);obtain ⟨l1,hl1⟩:=eqx (DK ca.deps cb');obtain ⟨l2,hl2⟩:=eqx (DK cb'.deps ca);obtain ⟨HA2S,HA3S,XLOW⟩:=Hd3 ((HAB2.o.mono (T:=S9 Ta N w9) λi hi hs=>⟨hs,hi⟩).keep (HX8.o.kept _)) ((HAB3.o.mono (T:=S9 Ta N w9) λi hi hs=>⟨hs,hi⟩).keep (HX8.o.kept _)) (show ∀ m b,b<w9.heap.size->¬((m=1008/\ws.heap.size<=b)\/(m=1010/\b=g5)) from λm b hb hm=>by have:=WSL.o;have:=HU5.o;rcases hm with ⟨_,h⟩ | ⟨_,h⟩<;>omega);have HFA:=Hd (show ∀ J,Kept (λb=>b<w9.heap.size) ws J->Cl 71 #[.slice D2 ca.deps.length e2,(Aq cb' A3 c3 D3 e3)] J (Jt J (S9 Ta N w9) l1) from λJ hw'=>by
       have h2:=HA2S.o.keep (hw'.mono λb _ hb=>hb.2);have h3:=HA3S.o.keep (hw'.mono λb _ hb=>hb.2);rw [hl1];exact EZ ca.deps cb' D2 A3 D3 e2 c3 e3 J _ _ h2.2.2.2 h3.2.2.1 h3.2.2.2 (HZB.o.mono AB) (by have:=HZA.o.2.2.2.1;omega) (λd hd=>by have:=HZA.o.2.2.2.2 d hd;omega))
      have HFB:=Hd (show ∀ J,Kept (λb=>b<w9.heap.size) ws J->Cl 71 #[.slice D3 cb'.deps.length e3,(Aq ca A2 c2 D2 e2)] J (Jt J (S9 Ta N w9) l2) from λJ hw'=>by
       have h2:=HA2S.o.keep (hw'.mono λb _ hb=>hb.2);have h3:=HA3S.o.keep (hw'.mono λb _ hb=>hb.2);rw [hl2];exact EZ cb'.deps ca D3 A2 D2 e3 c2 e2 J _ _ h3.2.2.2 h2.2.2.1 h2.2.2.2 (HZA.o.mono AB) (by have:=HZB.o.2.2.2.1;omega) (λd hd=>by have:=HZB.o.2.2.2.2 d hd;omega))
      obtain ⟨HL1,HL2,HJD'⟩:=Hd3 (show l1.length<=20000 by rw [hl1];exact Nat.le_trans (List.length_filter_le _ _) HZA.o.2.2.2.1) (show l2.length<=20000 by rw [hl2];exact Nat.le_trans (List.length_filter_le _ _) HZB.o.2.2.2.1) (show BJ ca cb'=l1++l2 by rw [HJD.o,hl1,hl2]);obtain ⟨fs,hfs⟩:=eqx (ca.cols.filter (Aw cb'.cols));rw [<-hfs] at HB5L HOL HJC;have HFS:=Hd (show fs.length<=20000 by rw [hfs];exact Nat.le_trans (List.length_filter_le _ _) HZA.o.2.2.1);clear hb8 ho8 hl1 hl2 hfs HB8 HO8
      go_upto_region 9 with fail
      refine B6 AD (λ| 7=>[3,7] | 10=>[8,10] | i=>[i]) AD (LZ (λm b=>(m=1008/\ws.heap.size<=b)\/(m=1010/\b=g5))) (LZ.refl _) (LZ.trans _) (LK [(7,[1008]),(8,[1008]),(10,[1010])]) gz0 (LK.zero _) ?_;refine Qp ?_;refine Qm (λV F J L hR hN hp hρ zs zg=>by
       exact VB) ?_
      apply H9A (LZ.refl _) AG
      ·intro V F J L hR hN hp hρ hc hf hg;refine ⟨rfl,?_⟩;have e3:=hρ 3;(conv at e3=>rhs;whnf);have hkk:=hR.kept0 (S:=λb=>b<w9.heap.size) λb _ hb m hm=>absurd hm (XLOW.o m b hb);have hb1:=HB3L.o.keep (hkk.mono λb _ e=>Is);exact RT
      ·rfl
      refine Qs (FP λv F J=>FlD ws (S9 Ta N w9) l1 v F J) (H1A ?_) ?_ ?_
      ·exact U5
      ·exact SU
      refine Qp ?_;refine Qm (λV F J L hR hN hp hρ zs zg=>by
       exact UK) ?_
      apply H9A (LZ.refl _) AG
      ·intro V F J L hR hN hp hρ hc hf hg;refine ⟨rfl,?_⟩;have e2:=hρ 2;(conv at e2=>rhs;whnf);have hkk:=hR.kept0 (S:=λb=>b<w9.heap.size) λb _ hb m hm=>absurd hm (XLOW.o m b hb);have hb1:=HB2L.o.keep (hkk.mono λb _ e=>It);exact Sw
      ·rfl
      refine Qs (λvl F J=>match vl with|[p,v]=>FlE ws (S9 Ta N w9) l1 l2 p v F J|_=>True) ?_ ?_ ?_
      ·exact UM
      ·exact T2
      refine Chain.step (FP λv F J=>FlF ws (λb=>S9 Ta N w9 b\/ws.heap.size<=b) (l1++l2) (l1.length+l2.length) v F J) AG (H1A ?_) ?_ ?_
      ·exact VI
      ·intro V F J L hR hN hp hρ hc hf hg;refine ⟨rfl,?_⟩;have hk8:=hN.key (k:=1008) AB;obtain ⟨A4,c4,A5,c5,hv3,hv7,hc7,h7⟩:=hp 7 AB;have e70:=(hρ 70).trans hv3;have e74:=(hρ 74).trans hv7;obtain ⟨ho4,hr5⟩:=h7 hk8;have hsz:=hR.size;have e0:ws.drew.heap.size=ws.heap.size:=rfl;have hl1:=HL1.o;have hl2:=HL2.o;obtain ⟨hs,hhs,hoo,hvv⟩:=ho4.add;obtain ⟨-,ys,hry,hyl,hyd⟩:=hr5;refine Cw (.tmp 70) (.tmp 74) rfl tiD e70 hoo e74 hry hyl (Hs hyl hyd) AA AB AA ?_;exact TK
      refine Qp ?_;refine Qs (λvl F J=>match vl with|[v,_]=>FlG (l1.length+l2.length) (λJ h=>Blk J g5 36 #[.I k5,.I O.least,.I O.most,.I O.cls,.string O.b,.string O.e,.I U.ln,.I U.ls,.I U.hn,.I U.hs,.I d1,.I d2,.I b5,.I r1,.I r2,.slice A8 fs.length c8,h,.bool er]) v F J|_=>True) ?_ ?_ ?_
      ·exact WH
      ·intro V F J L hR hN hp hρ zs zg;obtain ⟨A6,c6,hv8,hg8,-⟩:=hp.o 8 AB;have e75:=(hρ.o 75).trans hv8;exact UB
      intro V F w11 hR hG;refine Qx ?_;obtain ⟨A6,c6,v8,-,ho8⟩:=hG 8 AB;obtain ⟨A7,c7,v8',hb10,-⟩:=hG 10 AB;have hv:=v8.symm.trans v8';injection hv with hv1 hv2 hv3;rw [<-hv1,<-hv3] at hb10;obtain ⟨HB10,HO8,HX11,HK11⟩:=Hd4 hb10 ho8 (show Ext w9 w11 from Au HXL.o (hR.buts (S:=λb=>w9.heap.size<=b) (λm b _ hm _=>by have:=HU5.o;have:=WSL.o;rcases hm with ⟨_,h⟩|⟨_,h⟩<;>omega)) (λb hb=>hb)) (hR.kept0 (S:=λb=>b<ws.heap.size/\b≠g5) λb _ hb m hm=>FJ);clear hR hG hb10 ho8 v8 v8' hv1 hv2 hv3
      go_wp2_with fail
      go_meet
      case rel =>
       exact Sk
 case rest =>
 obtain ⟨w12,rfl⟩:=eqx wc;obtain ⟨A8,c8,D8,e8,hb12,hab12,hx12⟩:=hcut;obtain ⟨HB12,HAB12,HX12,HX12',HZJ,HB412⟩:=Hd6 hb12 hab12 (HX9.o.trans hx12) hx12 (show AbN 40000 rj by rw [<-HEJ.o];exact HZA.o.joinRaw HZB.o) (HB4.o.keep (HX9K.o.trans (hx12.kept _)));have HCN:=Hd (As rj A8 D8 c8 e8 w12 _ hab12.2.2.1 hab12.2.2.2 (HT.o.ext (HX9.o.trans hx12)) (HZJ.o.mono AB));clear hb12 hab12 hx12
 go_upto_region 14 with fail
 refine wp_region_lit ?_;refine AJ rfl 36 _ rfl g5 rfl HB12.o AS AH ?_
 go_wp2_with fail
 refine HCN.o.mono ?_;rintro e13 w13 ⟨A9,c9,D9,e9,rfl,hab13,hx13⟩;have hb413:=HB412.o.keep (hx13.kept _);rename_i K1 hK1 K2 hK2;refine hK2 _ _ ?_;refine AM rfl 36 _ _ rfl g4 (Ap (AX rj) A9 c9 D9 e9) rfl rfl 36 _ hb413 AH rfl AD ?_;intro wf hbf hof;refine hK1 _ _ ?_;have HXF:=Hd ((HX12.o.trans hx13).only hof DB);have HBF:=Hd hbf;have hkf:=hof.kept (S:=λb=>(Ta b\/N<=b)) (λb _ hb e=>by have:=HGG.o;rcases hb with h | h;(have:=HTL.o b h;omega);omega);have HABF:=Hd ((hab13.mono (T:=λb=>Ta b\/N<=b) λb _ hb=>by
  exact V8).keep hkf)
 clear hK1 hK2 hbf hb413 hx13 hab13 hof hkf
 go_wp2_with fail
 refine bodyPost_ret (Bv results20 rfl (Eq HBF.o AS AH)) rfl ?_;have HEND:=Hd (show Fk a b=AX rj by unfold Fk;rw [<-HAC.o,<-HBC.o,HEJ.o]);rw [HEND.o];refine ⟨A9,c9,D9,e9,rfl,HABF.o.mono λb _ hb => ?_,HXF.o⟩
 rcases hb with hb|hb
 ·rw [HTA.o] at hb;exact .inl hb.1
 ·right;have:=HGG.o;omega
