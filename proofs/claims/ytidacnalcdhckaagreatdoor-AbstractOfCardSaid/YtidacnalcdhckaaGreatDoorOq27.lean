/- Lemmas. No conditions. -/
import Derived.Test.YtidacnalcdhckaaGreatDoorOq26
import Derived.Lib.AppendZeros
set_option maxRecDepth 100000
set_option maxHeartbeats 1000000
namespace Go.Proofs.YtidacnalcdhckaaGreatDoor
open Go Go.RowKit Tryz
variable {qP:Prop}

theorem N7{P:Program}{t tn e sz by_:Nat}(ti:TI P t e sz by_)(htn:P.underlying tn=some (.int .i64))(w:World)(ty:TypeId)(n:Nat)(h0:0<n)(h48:n*by_≤281474976710656)(hm:n≤maxLen) :
  ∃ c' w',(Builtin.append_ #[t,tn] ty #[.slice none 0 0,.I (n:Int)]).run P w=.ok (.slice (some ⟨w.heap.size,0,none⟩) n c') w'∧Own w' w.heap.size e sz (some ⟨w.heap.size,0,none⟩) 0 c' []∧Ext w w':=by
 obtain ⟨ht,i,z,hi,hz,hs,hy,hzs,hp⟩:=ti;have hn63:(n:Int)≤9223372036854775807:=(by unfold maxLen at hm;omega);have hr:=Lib.run_append_nil_zeros w t tn ty e i z .i64 .i64 ht htn hi hz n h0 AA hn63 (by rw [hy];exact h48);have hge:=grownCap_ge w n 0 e;have hcm:grownCap w n 0 e≤maxLen:=grownCap_le_maxLen w n 0 e hm;refine ⟨_,_,hr,⟨AC,.inr ⟨w.heap.size,_,_,rfl,Al,heap_alloc_new w.drew _,AN,hcm,?_,AC⟩⟩,(Ext.refl w).drew.alloc _⟩;rw [Array.size_append,size_zeroCells,size_zeroCells,hzs,←Nat.add_mul];congr 1;omega
def FqA(w:World)(e sz:Nat)(en:Ending)(w':World):Prop:=∃ A c,en=.returned (.slice A 0 c)∧Own w' w.heap.size e sz A 0 c []∧Ext w w'
theorem Ur(h:qP:=by
 have HO:=Hd hown;have HX:=Hd hx;clear hown hx
 go_wp2_with (at_builtin;refine Lib.wpList_append_run _ rfl _ _ _ _ rfl _ _ rfl rfl _ _ hrun ?_)
 go_ret;exact ⟨_,c',rfl,HO.o,HX.o⟩):qP:=h
theorem Rm(h:qP:=by
 obtain rfl:n=0:=by omega
 go_wp2;go_ret;exact ⟨none,0,rfl,Own.nil _ _ _ _,Ext.refl w⟩):qP:=h
theorem XA(n:Nat)(hn:n≤4000000)(w:World):Cl 163 #[.slice none 0 0,.I (n:Int)] w (FqA w 9 1):=by
 have h1:¬((n:Int)<0):=AA
 go_enter func163,ntmps163
 by_cases h0:0<n
 ·have h2:(0:Int)<(n:Int):=AA;obtain ⟨c',w',hrun,hown,hx⟩:=N7 tiS underlying3 w 26 n h0 AA Bd;exact Ur
 ·exact Rm
theorem XY(n:Nat)(hn:n≤4000000)(w:World):Cl 164 #[.slice none 0 0,.I (n:Int)] w (FqA w 69 2):=by
 have h1:¬((n:Int)<0):=AA
 go_enter func164,ntmps164
 by_cases h0:0<n
 ·have h2:(0:Int)<(n:Int):=AA;obtain ⟨c',w',hrun,hown,hx⟩:=N7 tiD underlying3 w 37 n h0 AA Bd;exact Ur
 ·exact Rm
def Vo{α:Type}(l m:List α):Nat→List α
 |0=>[]
 |1=>l
 |_=>l++m
theorem Yk{α:Type}(l m:List α):(Vo l m 0).length=0∧(Vo l m 1).length=l.length∧(Vo l m 2).length=l.length+m.length:=⟨rfl,rfl,List.length_append⟩
def FuA(w:World)(l:List BA)(e:Ending)(w':World):Prop:=∃ A c,e=.returned (.slice A l.length c)∧OwnSs w' w.heap.size A c l∧Ext w w'
theorem PO(h:qP:=by
 have h3:¬((l.length:Int)<0):=(by omega);go_wp2
 go_round
 case rel=>exact .inr (.inl ⟨by go_num,by go_num⟩)
 case measure=>simp [intOf]):qP:=h
theorem T4(h:qP:=by
 have h3:¬((l.length:Int)+(m.length:Int)<0):=(by omega);go_wp2
 go_round
 case rel=>exact .inr (.inr ⟨by go_num,by first|rfl|(congr 1;omega)|(simp [IntKind.wrap_i64];omega)⟩)
 case measure=>simp [intOf]):qP:=h
theorem Ph(l m:List BA)(A B:OA)(c d g:Nat)(w:World)(S T:NP)(hl:Strs w S A l)(hm:Strs w T B m)(hb:Blk w g 26 #[.slice A l.length c,.slice B m.length d])(h1:l.length≤1000000)(h2:m.length≤1000000) :
  Cl 90 #[.slice (some ⟨g,0,none⟩) 2 2] w (FuA w (l++m)):=by
 obtain ⟨q0,q1⟩:=hb.qs2;obtain ⟨HB,HL,HM⟩:=Hd3 hb hl hm;clear hb hl hm
 go_enter func90,ntmps90
 go_wp2
 go_loop [11,3] (fun i s=>(i=.I 0∧s=.I 0)∨(i=.I 1∧s=.I l.length)∨(i=.I 2∧s=.I ((l.length+m.length:Nat):Int))) (fun i _=>2-(intOf i).toNat)
 case atStart=>exact .inl ⟨rfl,rfl⟩
 case round =>
  rcases hrel with ⟨rfl,rfl⟩|⟨rfl,rfl⟩|⟨rfl,rfl⟩
  ·exact PO
  ·exact T4
  ·go_wp2_with fail
   refine (XA (l.length+m.length) AA w).mono ?_;rintro e1 w1 ⟨A1,c1,rfl,hown,hx⟩;obtain ⟨HO,HX,HQ⟩:=Hd3 hown hx (HB.o.keep (hx.kept _));clear hown hx q0 q1;obtain ⟨q0,q1⟩:=HQ.o.qs2;go_wp2
   go_loopw [27,6] (fun i v wr=>∃ (k:Nat) (A2:OA) (c2:Nat),k≤2∧i=.I k∧v=.slice A2 (Vo l m k).length c2∧OwnSs wr w.heap.size A2 c2 (Vo l m k)∧Ext w wr) (fun i _ _=>2-(intOf i).toNat)
   case atStart=>exact ⟨0,A1,c1,AA,rfl,rfl,⟨HO.o,by intro s hs;cases hs⟩,HX.o⟩
   case round =>
    clear q0 q1;obtain ⟨k,A2,c2,hk,rfl,rfl,hown,hx⟩:=hrel;have HO2:=Hd hown;have HX2:=Hd hx;clear hown hx;have hbk:=HB.o.keep (HX2.o.kept _);obtain ⟨q0,q1⟩:=hbk.qs2;have hsz:=HX2.o.size;clear hbk;have hk3:k=0∨k=1∨k=2:=AA;obtain ⟨cl0,cl1,cl2⟩:=Yk l m
    rcases hk3 with rfl|rfl|rfl
    ·have HLK:=Hd (HL.o.keep (HX2.o.kept _))
     go_wp2_with (at_builtin;go_must (refine AL rfl (.tmp 31) (.tmp 32) rfl tiS rfl HO2.o.1 rfl HLK.o.1 AC AP (by rw [cl0];omega) AB AA ?_);intro A3 c3 w3 hown3 hg3 hat3)
     go_roundw
     case rel =>
      refine ⟨1,A3,c3,AA,AE,by rw [cl1],⟨?_,HL.o.2.2⟩,HX2.o.grown hg3 fun b hb=>(HO2.o.1.blk hb).1⟩
      simpa [Vo] using hown3
     case measure=>simp [intOf]
    ·have HMK:=Hd (HM.o.keep (HX2.o.kept _))
     go_wp2_with (at_builtin;go_must (refine AL rfl (.tmp 31) (.tmp 32) rfl tiS rfl HO2.o.1 rfl HMK.o.1 AC AP (by rw [cl1];omega) AB AA ?_);intro A3 c3 w3 hown3 hg3 hat3)
     go_roundw
     case rel =>
      refine ⟨2,A3,c3,AA,AE,by rw [cl2],⟨?_,fun s hs => ?_⟩,HX2.o.grown hg3 fun b hb=>(HO2.o.1.blk hb).1⟩
      ·simpa [Vo] using hown3
      ·rcases List.mem_append.1 hs with hs|hs
       ·exact HL.o.2.2 s hs
       ·exact HM.o.2.2 s hs
     case measure=>simp [intOf]
    ·go_wp2;go_ret;exact ⟨A2,c2,rfl,HO2.o,HX2.o⟩
theorem Hs{xs:List Value}{l:List Dep}{P:OA→Dep→Nat→Prop}(h2:xs.length=l.length*2)(h3:∀ (i:Nat) (d:Dep),l[i]?=some d→∃ (B:OA) (c:Nat),xs[i*2]?=some (.slice B d.frm.length c)∧xs[i*2+1]?=some (.string d.tov)∧P B d c):∀ u∈xs,u.oneCell'=true:=by
 intro u hu;obtain ⟨j,hj,rfl⟩:=List.mem_iff_getElem.1 hu;have hi:j / 2<l.length:=AA;obtain ⟨B,c,g1,g2,-⟩:=h3 (j / 2) l[j / 2] (List.getElem?_eq_getElem hi);have hj2:j=j / 2*2∨j=j / 2*2+1:=AA
 rcases hj2 with h|h
 ·rw [←h,List.getElem?_eq_getElem hj] at g1;injection g1 with g1;rw [g1];rfl
 ·rw [←h,List.getElem?_eq_getElem hj] at g2;injection g2 with g2;rw [g2];rfl
theorem OwnDs.app{w w':World}{base c':Nat}{X:NP}{A A':OA}{l m:List Dep}{hs ys:List Value}(ho:hs.length=l.length*2)
  (hv:∀ (i:Nat) (d:Dep),l[i]?=some d→∃ (B:OA) (e:Nat),hs[i*2]?=some (.slice B d.frm.length e)∧hs[i*2+1]?=some (.string d.tov)∧d.frm.length≤e∧d.tov.size≤4294967296∧Strs w (fun b=>ob A≠some b∧X b) B d.frm)
  (hm:∀ (i:Nat) (d:Dep),m[i]?=some d→∃ (B:OA) (e:Nat),ys[i*2]?=some (.slice B d.frm.length e)∧ys[i*2+1]?=some (.string d.tov)∧d.frm.length≤e∧d.tov.size≤4294967296∧Strs w (fun b=>ob A≠some b∧X b) B d.frm)
  (hown:Own w' base 69 2 A' (l.length+m.length) c' (hs++ys)) (hg:w.grownBy w' (ob A)) (hat:ob A'=ob A∨ob A'=some w.heap.size):OwnDs w' base X A' c' (l++m):=by
 have hk:Kept (fun b=>ob A≠some b∧X b) w w':=Kept.of_grown hg (fun b hb _ e=>hb.1 e.symm);have hmm:∀ i,i<w.heap.size→(ob A≠some i∧X i)→(ob A'≠some i∧X i):=by
  exact GO
 refine ⟨_,Dg,fun i r' hr => ?_⟩
 rcases Nat.lt_or_ge i l.length with hlt|hge
 ·rw [List.getElem?_append_left hlt] at hr;obtain ⟨B',e',h3,h4,h5,h6,h7⟩:=hv i r' hr;exact ⟨B',e',by rw [List.getElem?_append_left AA];exact h3,by rw [List.getElem?_append_left AA];exact h4,h5,h6,h7.move hk hmm⟩
 ·rw [List.getElem?_append_right hge] at hr;obtain ⟨B',e',h3,h4,h5,h6,h7⟩:=hm (i-l.length) r' hr;have e1:i*2-hs.length=(i-l.length)*2:=AA;have e2:i*2+1-hs.length=(i-l.length)*2+1:=AA;exact ⟨B',e',by rw [List.getElem?_append_right AA,e1];exact h3,by rw [List.getElem?_append_right AA,e2];exact h4,h5,h6,h7.move hk hmm⟩
def FtA(w:World)(S:NP)(l:List Dep)(e:Ending)(w':World):Prop:=∃ A c,e=.returned (.slice A l.length c)∧OwnDs w' w.heap.size S A c l∧Ext w w'
theorem Ry(h:qP:=by
 have:=OwnDs.app HHS.o HV.o (fun i d hd=>by obtain ⟨B',e',a1,a2,a3,a4,a5⟩:=HXD.o i d hd;exact ⟨B',e',a1,a2,a3,a4,a5.mono fun b _ hb=>⟨HNO.o b hb,hb⟩⟩) hown3 hg3 hat3
 simpa [Vo] using this):qP:=h
theorem Ps(l m:List Dep)(A B:OA)(c d g:Nat)(w:World)(S:NP)(hS:∀ b,S b→b<w.heap.size)(hl:RDeps w S A l)(hm:RDeps w S B m)(hb:Blk w g 37 #[.slice A l.length c,.slice B m.length d])(h1:l.length≤1000000)(h2:m.length≤1000000) :
  Cl 91 #[.slice (some ⟨g,0,none⟩) 2 2] w (FtA w S (l++m)):=by
 obtain ⟨q0,q1⟩:=hb.qs2;obtain ⟨HB,HL,HM,HS⟩:=Hd4 hb hl hm hS;clear hb hl hm hS
 go_enter func91,ntmps91
 go_wp2
 go_loop [11,3] (fun i s=>(i=.I 0∧s=.I 0)∨(i=.I 1∧s=.I l.length)∨(i=.I 2∧s=.I ((l.length+m.length:Nat):Int))) (fun i _=>2-(intOf i).toNat)
 case atStart=>exact .inl ⟨rfl,rfl⟩
 case round =>
  rcases hrel with ⟨rfl,rfl⟩|⟨rfl,rfl⟩|⟨rfl,rfl⟩
  ·exact PO
  ·exact T4
  ·go_wp2_with fail
   refine (XY (l.length+m.length) AA w).mono ?_;rintro e1 w1 ⟨A1,c1,rfl,hown,hx⟩;obtain ⟨HO,HX,HQ⟩:=Hd3 hown hx (HB.o.keep (hx.kept _));clear hown hx q0 q1;obtain ⟨q0,q1⟩:=HQ.o.qs2;go_wp2
   go_loopw [27,6] (fun i v wr=>∃ (k:Nat) (A2:OA) (c2:Nat),k≤2∧i=.I k∧v=.slice A2 (Vo l m k).length c2∧OwnDs wr w.heap.size S A2 c2 (Vo l m k)∧Ext w wr) (fun i _ _=>2-(intOf i).toNat)
   case atStart=>exact ⟨0,A1,c1,AA,rfl,rfl,⟨[],HO.o,by intro i d hd;cases hd⟩,HX.o⟩
   case round =>
    clear q0 q1;obtain ⟨k,A2,c2,hk,rfl,rfl,hown,hx⟩:=hrel;have HO2:=Hd hown;have HX2:=Hd hx;clear hown hx;have hbk:=HB.o.keep (HX2.o.kept _);obtain ⟨q0,q1⟩:=hbk.qs2;have hsz:=HX2.o.size;clear hbk;have hk3:k=0∨k=1∨k=2:=AA;obtain ⟨cl0,cl1,cl2⟩:=Yk l m;obtain ⟨hs,hhs,ho,hv⟩:=HO2.o.add;obtain ⟨HHS,HOO,HV⟩:=Hd3 hhs ho hv;clear hhs ho hv;have HNO:=Hd (show ∀ b,S b→ob A2≠some b from fun b hb e=>by have:=(HOO.o.blk e).1;have:=HS.o b hb;omega)
    rcases hk3 with rfl|rfl|rfl
    ·have hlk:=HL.o.keep (HX2.o.kept _);obtain ⟨-,xs,hr,hxl,hxd⟩:=hlk;obtain ⟨HR,HXL,HXD,HX1⟩:=Hd4 hr hxl hxd (Hs hxl hxd);clear hr hxl hxd
     go_wp2_with (at_builtin;go_must (refine AL rfl (.tmp 31) (.tmp 32) rfl tiD rfl HOO.o rfl HR.o HXL.o HX1.o (by rw [cl0];omega) AB AA ?_);intro A3 c3 w3 hown3 hg3 hat3)
     go_roundw
     case rel =>
      refine ⟨1,A3,c3,AA,AE,by rw [cl1],?_,HX2.o.grown hg3 fun b hb=>(HOO.o.blk hb).1⟩;exact Ry
     case measure=>simp [intOf]
    ·have hlk:=HM.o.keep (HX2.o.kept _);obtain ⟨-,xs,hr,hxl,hxd⟩:=hlk;obtain ⟨HR,HXL,HXD,HX1⟩:=Hd4 hr hxl hxd (Hs hxl hxd);clear hr hxl hxd
     go_wp2_with (at_builtin;go_must (refine AL rfl (.tmp 31) (.tmp 32) rfl tiD rfl HOO.o rfl HR.o HXL.o HX1.o (by rw [cl1];omega) AB AA ?_);intro A3 c3 w3 hown3 hg3 hat3)
     go_roundw
     case rel =>
      refine ⟨2,A3,c3,AA,AE,by rw [cl2],?_,HX2.o.grown hg3 fun b hb=>(HOO.o.blk hb).1⟩;exact Ry
     case measure=>simp [intOf]
    ·go_wp2;go_ret;exact ⟨A2,c2,rfl,HO2.o,HX2.o⟩
end Go.Proofs.YtidacnalcdhckaaGreatDoor
