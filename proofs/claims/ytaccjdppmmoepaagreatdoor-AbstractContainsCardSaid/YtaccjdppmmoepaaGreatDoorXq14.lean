/- Lemmas. No conditions. -/
import Derived.Test.YtaccjdppmmoepaaGreatDoorXq13
import Derived.Sort.OwnSorted
import Derived.Shelf.SortM.Plain
import Derived.Shelf.SortM.SortNone
set_option maxRecDepth 100000
set_option maxHeartbeats 4000000
namespace Go.Proofs.YtaccjdppmmoepaaGreatDoor
open Go Go.RowKit Tryz
variable {qP:Prop}{A D:OA}{P:Program}{Q:Exit->Act->World->Prop}{S T X:NP}{a b x y:Abs}{base c e g m n:Nat}{cs:Array Value}{l:List Dep}{o:Oper}{ops:Array Oper}{rest:List Oper}{w J:World}{L:Operand->Value}

theorem Pd(h:qP:=by
 go_enter func213,ntmps213
 exact Bf):qP:=h
theorem OF(s:BA)(hs:s.size<=4294967296)(w:World):Cl 213 #[.string s] w (SameB w (Ba s)):=by
 by_cases hs0:s.size<1
 ·have HF:=Hd (show Ba s=false by unfold Ba;rw [decide_eq_false AA];rfl);have hs1:(s.size:Int)<1:=AA;clear hs0;exact Pd
 by_cases hs20:20<s.size
 ·have HF:=Hd (show Ba s=false by unfold Ba;rw [decide_eq_false AA];rfl);have hs1:¬(s.size:Int)<1:=AA;have hs2:20<(s.size:Int):=AA;clear hs0 hs20;exact Pd
 have hs1:¬(s.size:Int)<1:=AA;have hs2:¬20<(s.size:Int):=AA
 go_enter func213,ntmps213
 go_wp2
 go_loop [16] (λi=>∃ k:Nat,k<=s.size/\i=.I k/\∀ j (h:j<s.size),j<k->Fa j (s[j].toNat:Int)=true) (λi=>s.size-(intOf i).toNat)
 case atStart=>exact ⟨0,AN,rfl,AK⟩
 case round =>
  obtain ⟨k,hk,rfl,hall⟩:=hrel;have HA:=Hd hall;clear hall;by_cases hlt:k<s.size
  ·exact Pj
  ·have HF:=Hd (show Ba s=true by rw [WQ (s:=s) (λj h=>HA.o j h AA)];simp;omega);exact Bf
theorem TW(h:qP:=by
 by_cases hjk:j=k
 ·subst hjk;exact HM.o
 ·exact HA.o j h (by omega)):qP:=h
theorem Zj(h:qP:=by
 refine ⟨k+1,by omega,by go_num,λj h hj => ?_⟩;exact TW):qP:=h
theorem UN(h:qP:=by
 go_wp2_with fail
 go_round
 case rel =>
  exact Zj
 case measure=>simp [intOf];omega):qP:=h
theorem Mv(A:OA)(c:Nat)(l:List BA)(w:World)(S:NP)(h:Strs w S A l):Cl 166 #[.slice A l.length c] w (SameB w (l.all Ba)):=by
 have hn:=h.2.1;have H:=Hd h;clear h
 go_enter func166,ntmps166
 go_wp2
 go_loop [7] (λi=>∃ k:Nat,k<=l.length/\i=.I k/\∀ j (h:j<l.length),j<k->Ba l[j]=true) (λi=>l.length-(intOf i).toNat)
 case atStart=>exact ⟨0,AN,rfl,AK⟩
 case round =>
  obtain ⟨k,hk,rfl,hall⟩:=hrel;have HA:=Hd hall;clear hall;by_cases hlt:k<l.length
  ·obtain ⟨b1,o1,rfl,z1,c1⟩:=H.o.at_ hlt;have HC:=Hd (λJ=>OF l[k] (H.o.sz hlt) J);cases hm:Ba l[k]
   ·rw [hm] at HC;have HF:=Hd (show l.all Ba=false from CX l Ba k hlt hm);clear hm
    go_wp2_with fail
    refine (HC.o _).mono ?_;rintro e J ⟨rfl,rfl⟩
    go_wp2_with fail
    exact FR
   ·rw [hm] at HC;have HM:=Hd hm;clear hm
    go_wp2_with fail
    refine (HC.o _).mono ?_;rintro e J ⟨rfl,rfl⟩;exact UN
  ·have HF:=Hd (show l.all Ba=true from CH l Ba (λj h=>HA.o j h AA));exact Bf

theorem NG(x y:BA)(w:World):Cl 165 #[.string x,.string y] w (SameB w (decide (x=y))):=by
 have HE:=Hd (Bj x y)
 go_enter func165,ntmps165
 go_wp2;go_ret;exact ⟨by rw [<-HE.o];rfl,rfl⟩
theorem XX(x y:BA)(g g2:Nat)(w:World)(hb:w.cell? ⟨g,0,none⟩=some (.func (.func 165) #[] #[]))(hb2:w.cell? ⟨g2,0,none⟩=some (.string x)) :
  Cl 212 #[.string y,.pointer (some ⟨g,0,none⟩),.pointer (some ⟨g2,0,none⟩)] w (SameB w (decide (x=y))):=by
 have HC:=Hd (NG x y w)
 go_enter func212,ntmps212
 go_wp2_with fail
 refine HC.o.mono ?_;rintro e J ⟨rfl,rfl⟩;exact Ra
theorem Ky(l:List BA)(x:BA)(A:OA)(c g g2:Nat)(w:World)(S:NP)(hl:Strs w S A l)(hb:w.cell? ⟨g,0,none⟩=some (.func (.func 165) #[] #[]))(hb2:w.cell? ⟨g2,0,none⟩=some (.string x)) :
  Cl 247 #[.slice A l.length c,.func (.func 212) #[] #[.pointer (some ⟨g,0,none⟩),.pointer (some ⟨g2,0,none⟩)]] w (Bk w (Gv (λy=>decide (x=y)) l)):=by
 have hn:=hl.2.1;have HC:=Hd (λy=>XX x y g g2 w hb hb2);clear hb hb2
 go_enter func247,ntmps247
 go_wp2
 go_loop [8] (λi=>∃ k:Nat,k<=l.length/\i=.I k/\∀ j (h:j<l.length),j<k->(λy=>decide (x=y)) l[j]=false) (λi=>l.length-(intOf i).toNat)
 case atStart=>exact ⟨0,AN,rfl,AK⟩
 case round =>
  obtain ⟨k,hk,rfl,hall⟩:=hrel;have HA:=Hd hall;clear hall;by_cases hlt:k<l.length
  ·obtain ⟨b1,o1,rfl,z1,c1⟩:=hl.at_ hlt;cases hm:decide (x=l[k])
   ·have HM:=Hd hm;clear hm
    go_wp2_with fail
    refine (HC.o _).mono ?_;rintro e J ⟨rfl,rfl⟩;rw [HM.o];exact UN
   ·have HM:=Hd hm;clear hm
    go_wp2_with fail
    refine (HC.o _).mono ?_;rintro e J ⟨rfl,rfl⟩;rw [HM.o]
    go_wp2_with fail
    go_ret;exact ⟨by rw [EO hlt HA.o HM.o];rfl,rfl⟩
  ·exact Ll
theorem JZ(l:List BA)(x:BA)(A:OA)(c g g2:Nat)(w:World)(S:NP)(hl:Strs w S A l)(hb:w.cell? ⟨g,0,none⟩=some (.func (.func 165) #[] #[]))(hb2:w.cell? ⟨g2,0,none⟩=some (.string x)) :
  Cl 211 #[.slice A l.length c,.func (.func 212) #[] #[.pointer (some ⟨g,0,none⟩),.pointer (some ⟨g2,0,none⟩)]] w (SameB w (Aw l x)):=by
 have HC:=Hd (Ky l x A c g g2 w S hl hb hb2);have HI:=Hd (show (l.any λy=>decide (x=y))=Aw l x by rw [Bool.eq_iff_iff,List.any_eq_true,Ao];exact ⟨λ⟨y,h1,h2⟩=>by rw [of_decide_eq_true h2];exact h1,λh=>⟨x,h,decide_eq_true rfl⟩⟩);clear hb hb2 hl
 go_enter func211,ntmps211
 go_wp2_with fail
 refine HC.o.mono ?_;rintro e J ⟨rfl,rfl⟩
 go_wp2_with fail
 go_ret;exact ⟨by rw [<-HI.o,<-G5];rfl,rfl⟩
theorem O6{α:Type} [DecidableEq α](l:List α)(k:Nat)(hk:k<l.length):ddp (l.take (k+1))=if l[k]∈ddp (l.take k) then ddp (l.take k) else ddp (l.take k)++[l[k]]:=by
 rw [List.take_add_one,List.getElem?_eq_getElem hk,Option.toList_some,Jl]
theorem QO(h:qP:=by
 refine Hb (P:=λl=>(ddp l).length<=l.length) (by simp [ddp]) (λl x ih => ?_) l;rw [Jl];split<;>simp<;>omega):qP:=h
theorem F4{α:Type} [DecidableEq α](l:List α):(ddp l).length<=l.length:=by
 exact QO
def FfA(w:World)(l:List BA)(e:Ending)(J:World):Prop:=∃ A c,e=.returned (.slice A l.length c)/\l.length<=c/\OwnSs J w.heap.size A c l/\Ext w J
theorem EM(h:qP:=by rw [HT.o];rfl):qP:=h
theorem MP(l:List BA)(A:OA)(c:Nat)(w:World)(S:NP)(hA:Strs w S A l)(hl:l.length<=1000000) :
  Cl 164 #[.slice A l.length c,.func (.func 165) #[] #[]] w (FfA w (ddp l)):=by
 obtain ⟨HA,HB0,HX0⟩:=Hd3 hA (Blk.new w 110 #[.func (.func 165) #[] #[]]) ((Ext.refl w).alloc (.cells #[.func (.func 165) #[] #[]] 110));clear hA
 go_enter func164,ntmps164
 go_wp2
 go_loopw [10,5] (λi v wr=>∃ (m:Nat) (A':OA) (c':Nat),m<=l.length/\i=.I m/\v=.slice A' (ddp (l.take m)).length c'/\Ext (w.alloc (.cells #[.func (.func 165) #[] #[]] 110)) wr/\OwnSs wr (w.heap.size+1) A' c' (ddp (l.take m))) (λi _ _=>l.length-(intOf i).toNat)
 case atStart=>exact ⟨0,none,0,AN,rfl,rfl,Ext.refl _,OwnSs.nil _ _⟩
 case round =>
  obtain ⟨m,A',c',hm,rfl,rfl,hext,hown⟩:=hrel;have HE:=Hd hext;have HO:=Hd hown;clear hown;by_cases hlt:m<l.length
  ·obtain ⟨b1,o1,rfl,z1,c1⟩:=((HA.o.keep (HX0.o.kept S)).keep (hext.kept S)).at_ hlt;have hw0:wr.cell? ⟨w.heap.size,0,none⟩=some (.func (.func 165) #[] #[]):=hext.cell (HB0.o.cell rfl);obtain ⟨w1,hw1⟩:=eqx (wr.alloc (.cells #[.string l[m]] 9));have hx1:Ext wr w1:=(by rw [hw1];exact (Ext.refl wr).alloc _);have hown:=HO.o.ext hx1;have hst:=hown.strs (T:=λ_=>True) (by have:=F4 (l.take m);rw [List.length_take] at this;omega) (λ_ _=>trivial);obtain ⟨HC,HT,HX1⟩:=Hd3 (JZ (ddp (l.take m)) l[m] A' c' w.heap.size wr.heap.size _ _ hst (hx1.cell hw0) ((show Blk w1 wr.heap.size 9 #[.string l[m]] by rw [hw1];exact Blk.new _ _ _).cell rfl)) (O6 l m hlt) hx1;have a9:=hx1.size;have hbx:=(show Blk w1 wr.heap.size 9 #[.string l[m]] by rw [hw1];exact Blk.new _ _ _).q0;have Z:=Hd hw1;have hln:=F4 (l.take m);rw [List.length_take] at hln;have hsz:=HE.o.size;have a8:(w.alloc (.cells #[.func (.func 165) #[] #[]] 110)).heap.size=w.heap.size+1:=AC;have O:=(hown.ext ((Ext.refl _).alloc (.cells #[.string l[m]] 9))).1;have HOWN:=Hd O;have Y:=HA.o.sz hlt;clear hw0 hx1 hown hst O hw1
   go_upto_region 5 with fail
   rw [<-Z.o];cases hd:Aw (ddp (l.take m)) l[m]
   ·have hn:¬l[m]∈ddp (l.take m):=λh=>by rw [(Ao _ _).2 h] at hd;cases hd
    rw [hd] at HC;rw [if_neg hn] at HT;clear hd hn
    go_wp2_with fail
    refine HC.o.mono ?_;rintro e J ⟨rfl,rfl⟩
    go_wp2_with (at_builtin;go_must (refine AL rfl (.tmp 18) (.tmp 20) rfl tiS rfl HOWN.o rfl (Blk.rd (Blk.new _ _ _)) rfl AP AA AB AI ?_);intro A4 c4 w4 hown4 hg4 hat4)
    go_roundw
    case rel =>
     refine ⟨m+1,A4,c4,AA,AE,by rw [HT.o,List.length_append];rfl,Ext.grown ((HE.o.trans HX1.o).alloc _) hg4 (λb hb=>Ii),?_,λs hs => ?_⟩
     ·rw [HT.o,List.length_append,List.map_append];exact hown4
     ·rw [HT.o] at hs
      rcases List.mem_append.1 hs with hs|hs
      ·exact HO.o.2 s hs
      ·rw [List.mem_singleton.1 hs];exact Y
    case measure=>simp [intOf];omega
   ·have hn:l[m]∈ddp (l.take m):=(Ao _ _).1 hd;rw [hd] at HC;rw [if_pos hn] at HT;clear hd hn
    go_wp2_with fail
    refine HC.o.mono ?_;rintro e J ⟨rfl,rfl⟩
    go_wp2_with fail
    go_roundw
    case rel =>
     refine ⟨m+1,A',c',AA,AE,by rw [HT.o],HE.o.trans HX1.o,?_⟩;rw [HT.o];exact HO.o.ext HX1.o
    case measure=>simp [intOf];omega
  ·obtain rfl:m=l.length:=AA;have ho:=HO.o;rw [List.take_length] at ho;have U:=Hd ho;have HT:=Hd (show l.take l.length=l from List.take_length);clear ho hext;go_wp2;go_ret;exact ⟨A',c',EM,Own.cap U.o.1,⟨Own.lower U.o.1 (Nat.le_succ _),U.o.2⟩,HX0.o.trans HE.o⟩

theorem Vk(x y:Dep)(A B:OA)(ca cb g g2:Nat)(w:World)(S T:NP)(hb:w.cell? ⟨g,0,none⟩=some (.func (.func 169) #[] #[]))(hb2:w.cell? ⟨g2,0,none⟩=some (.slice B x.frm.length cb))(hb3:w.cell? ⟨g2,1,none⟩=some (.string x.tov))(hx:Strs w S B x.frm)(hy:Strs w T A y.frm) :
  Cl 217 #[.agg #[.slice A y.frm.length ca,.string y.tov],.pointer (some ⟨g,0,none⟩),.pointer (some ⟨g2,0,none⟩)] w (Ae w (decide (x=y))):=by
 have hx0:=(Ext.refl w).alloc (.cells #[.slice A y.frm.length ca,.string y.tov] 64);have HC:=Hd (Nr x y B A cb ca _ S T (hx.keep (hx0.kept S)) (hy.keep (hx0.kept T)));have k1:=hx0.cell hb;have k2:=hx0.cell hb2;have k3:=hx0.cell hb3;have hbl:=Blk.new w 64 #[.slice A y.frm.length ca,.string y.tov];obtain ⟨k4,k5⟩:=hbl.qs2;have HX0:=Hd hx0;clear hx0 hb hb2 hb3 hbl
 go_enter func217,ntmps217
 go_wp2_with fail
 refine HC.o.mono ?_;rintro e J ⟨rfl,hx⟩;have HX:=Hd (HX0.o.trans hx);clear hx
 go_wp2_with fail
 go_ret;exact ⟨rfl,HX.o⟩
theorem Ln(l:List Dep)(x:Dep)(A B:OA)(c cb g g2:Nat)(w:World)(S T:NP)(hl:RDeps w S A l)(hb:w.cell? ⟨g,0,none⟩=some (.func (.func 169) #[] #[]))(hb2:w.cell? ⟨g2,0,none⟩=some (.slice B x.frm.length cb))(hb3:w.cell? ⟨g2,1,none⟩=some (.string x.tov))(hx:Strs w T B x.frm) :
  Cl 259 #[.slice A l.length c,.func (.func 217) #[] #[.pointer (some ⟨g,0,none⟩),.pointer (some ⟨g2,0,none⟩)]] w (DG w (Gv (λy=>decide (x=y)) l)):=by
 have hn:=hl.1;obtain ⟨HL,HB,HB2,HB3,O⟩:=Hd5 hl hb hb2 hb3 hx;clear hl hb hb2 hb3 hx
 go_enter func259,ntmps259
 go_wp2
 go_loopw [8] (λi wr=>∃ k:Nat,k<=l.length/\i=.I k/\Ext w wr/\∀ j (h:j<l.length),j<k->(λy=>decide (x=y)) l[j]=false) (λi _=>l.length-(intOf i).toNat)
 case atStart=>exact ⟨0,AN,rfl,Ext.refl _,AK⟩
 case round =>
  obtain ⟨k,hk,rfl,hext,hall⟩:=hrel;have HA:=Hd hall;have HE:=Hd hext;clear hall;by_cases hlt:k<l.length
  ·obtain ⟨b1,o1,B2,c2,rfl,z1,c1,c3,h4,h5,h6⟩:=(HL.o.keep (hext.kept S)).at_ hlt;have HC:=Hd (Vk x l[k] B2 B c2 cb g g2 wr T S (hext.cell HB.o) (hext.cell HB2.o) (hext.cell HB3.o) (O.o.keep (hext.kept T)) h6);clear hext h6;cases hm:decide (x=l[k])
   ·rw [hm] at HC;have HM:=Hd hm;clear hm
    go_wp2_with fail
    refine HC.o.mono ?_;rintro e J ⟨rfl,hx⟩;have HX:=Hd (HE.o.trans hx);clear hx
    go_wp2_with fail
    go_roundw
    case rel =>
     refine ⟨k+1,AA,AE,HX.o,λj h hj => ?_⟩;exact TW
    case measure=>simp [intOf];omega
   ·rw [hm] at HC;have HM:=Hd hm;clear hm
    go_wp2_with fail
    refine HC.o.mono ?_;rintro e J ⟨rfl,hx⟩;have HX:=Hd (HE.o.trans hx);clear hx
    go_wp2_with fail
    go_ret;exact ⟨by rw [EO hlt HA.o HM.o];rfl,HX.o⟩
  ·clear hext;go_wp2;go_ret;exact ⟨by rw [GG (λj hj=>HA.o j hj AA)];rfl,HE.o⟩
theorem Ja(l:List Dep)(x:Dep)(A B:OA)(c cb g g2:Nat)(w:World)(S T:NP)(hl:RDeps w S A l)(hb:w.cell? ⟨g,0,none⟩=some (.func (.func 169) #[] #[]))(hb2:w.cell? ⟨g2,0,none⟩=some (.slice B x.frm.length cb))(hb3:w.cell? ⟨g2,1,none⟩=some (.string x.tov))(hx:Strs w T B x.frm) :
  Cl 216 #[.slice A l.length c,.func (.func 217) #[] #[.pointer (some ⟨g,0,none⟩),.pointer (some ⟨g2,0,none⟩)]] w (Ae w (decide (x∈l))):=by
 have HC:=Hd (Ln l x A B c cb g g2 w S T hl hb hb2 hb3 hx);have HI:=Hd (show (l.any λy=>decide (x=y))=decide (x∈l) by rw [Bool.eq_iff_iff,List.any_eq_true,decide_eq_true_eq];exact ⟨λ⟨y,h1,h2⟩=>by rw [of_decide_eq_true h2];exact h1,λh=>⟨x,h,decide_eq_true rfl⟩⟩);clear hb hb2 hl hb3 hx
 go_enter func216,ntmps216
 go_wp2_with fail
 refine HC.o.mono ?_;rintro e J ⟨rfl,hx⟩;have HX:=Hd hx;clear hx
 go_wp2_with fail
 go_ret;exact ⟨by rw [<-HI.o,<-G5];rfl,HX.o⟩
theorem OwnDs.lower{base':Nat}(h:OwnDs w base X A c l)(hb:base'<=base):OwnDs w base' X A c l:=by
 obtain ⟨hs,h1,h2⟩:=h;exact ⟨hs,h1.lower hb,h2⟩
def Jt(w:World)(S:NP)(l:List Dep)(e:Ending)(J:World):Prop:=∃ A c,e=.returned (.slice A l.length c)/\l.length<=c/\OwnDs J w.heap.size S A c l/\Ext w J
theorem Lu(l:List Dep)(A:OA)(c:Nat)(w:World)(S:NP)(hA:RDeps w S A l)(hl:l.length<=1000000) :
  Cl 168 #[.slice A l.length c,.func (.func 169) #[] #[]] w (Jt w S (ddp l)):=by
 obtain ⟨HA,HB0,HX0⟩:=Hd3 (hA.mono (T:=λb=>S b/\b<w.heap.size) λi hi hs=>⟨hs,hi⟩) (Blk.new w 82 #[.func (.func 169) #[] #[]]) ((Ext.refl w).alloc (.cells #[.func (.func 169) #[] #[]] 82));clear hA
 go_enter func168,ntmps168
 go_wp2
 go_loopw [10,5] (λi v wr=>∃ (m:Nat) (A':OA) (c':Nat),m<=l.length/\i=.I m/\v=.slice A' (ddp (l.take m)).length c'/\Ext (w.alloc (.cells #[.func (.func 169) #[] #[]] 82)) wr/\OwnDs wr (w.heap.size+1) (λb=>S b/\b<w.heap.size) A' c' (ddp (l.take m))) (λi _ _=>l.length-(intOf i).toNat)
 case atStart=>exact ⟨0,none,0,AN,rfl,rfl,Ext.refl _,OwnDs.nil _ _ _⟩
 case round =>
  obtain ⟨m,A',c',hm,rfl,rfl,hext,hown⟩:=hrel;have HE:=Hd hext;have HO:=Hd hown;clear hown;by_cases hlt:m<l.length
  ·obtain ⟨b1,o1,B2,c2,rfl,z1,c1,c3,h4,h5,h6⟩:=((HA.o.keep (HX0.o.kept _)).keep (hext.kept _)).at_ hlt;have hw0:wr.cell? ⟨w.heap.size,0,none⟩=some (.func (.func 169) #[] #[]):=hext.cell (HB0.o.cell rfl);obtain ⟨w1,hw1⟩:=eqx (wr.alloc (.cells #[.slice B2 l[m].frm.length c2,.string l[m].tov] 64));have hx1:Ext wr w1:=(by rw [hw1];exact (Ext.refl wr).alloc _);have hown:=HO.o.ext hx1;have hln:=F4 (l.take m);rw [List.length_take] at hln;have hbx:Blk w1 wr.heap.size 64 #[.slice B2 l[m].frm.length c2,.string l[m].tov]:=(by rw [hw1];exact Blk.new _ _ _);have a9:=Hd hw1;have hst:=hown.rdeps (T:=λ_=>True) AA (λ_ _=>trivial) (λ_ _=>trivial);obtain ⟨HC,HT,HX1⟩:=Hd3 (Ja (ddp (l.take m)) l[m] A' B2 c' c2 w.heap.size wr.heap.size _ _ _ hst (hx1.cell hw0) (hbx.q0) (hbx.q1) (h6.keep (hx1.kept _))) (O6 l m hlt) hx1;have hszx:=hx1.size;have HBX:=Hd hbx;have H6:=Hd h6;obtain ⟨q0,q1⟩:=hbx.qs2;have hsz:=HE.o.size;have hsz0:(w.alloc (.cells #[.func (.func 169) #[] #[]] 82)).heap.size=w.heap.size+1:=AC;clear hw0 hx1 hown hst hbx h6 hw1
   go_upto_region 5 with fail
   rw [<-a9.o];cases hd:decide (l[m]∈ddp (l.take m))
   ·have hn:¬l[m]∈ddp (l.take m):=of_decide_eq_false hd;rw [hd] at HC;rw [if_neg hn] at HT;clear hd hn
    go_wp2_with fail
    refine HC.o.mono ?_;rintro e J ⟨rfl,hx⟩;have HX:=Hd (HX1.o.trans hx);have Z:=hx.size;have q2:=hx.cell q0;have q3:=hx.cell q1;obtain ⟨hs9,O,U,Y⟩:=((HO.o.ext HX.o).ext ((Ext.refl _).alloc (.cells #[.slice B2 l[m].frm.length c2,.string l[m].tov] 64))).add;obtain ⟨HOWN,HV,HHS⟩:=Hd3 U Y O;clear U Y O hx q0 q1
    go_wp2_with (at_builtin;go_must (refine AL rfl (.tmp 18) (.tmp 20) rfl tiD rfl HOWN.o rfl (Blk.rd (Blk.new _ _ _)) rfl AP AA AB AI ?_);intro A4 c4 w4 hown4 hg4 hat4)
    go_roundw
    case rel =>
     refine ⟨m+1,A4,c4,AA,AE,by rw [HT.o,List.length_append];rfl,Ext.grown ((HE.o.trans HX.o).alloc _) hg4 (λb hb=>Ii),?_⟩;rw [HT.o];refine OwnDs.push HHS.o HV.o hown4 hg4 hat4 h4 h5 (((H6.o.keep (HX.o.kept _)).keep (Kept.alloc _ _ _)).mono λi _ hi=>⟨λe => ?_,hi⟩);have:=(HO.o.blk e).1;have:=hi.2;omega
    case measure=>simp [intOf];omega
   ·have hn:l[m]∈ddp (l.take m):=of_decide_eq_true hd;rw [hd] at HC;rw [if_pos hn] at HT;clear hd hn
    go_wp2_with fail
    refine HC.o.mono ?_;rintro e J ⟨rfl,hx⟩;have HX:=Hd (HX1.o.trans hx);have Z:=hx.size;clear hx
    go_wp2_with fail
    go_roundw
    case rel =>
     refine ⟨m+1,A',c',AA,AE,by rw [HT.o],HE.o.trans HX.o,?_⟩;rw [HT.o];exact HO.o.ext HX.o
    case measure=>simp [intOf];omega
  ·obtain rfl:m=l.length:=AA;have ho:=HO.o;rw [List.take_length] at ho;obtain ⟨a8,HT,HC⟩:=Hd3 ho (show l.take l.length=l from List.take_length) (show (ddp l).length<=c' by obtain ⟨hs,_,h1,_⟩:=ho.add;exact h1.cap);clear ho hext;go_wp2;go_ret;exact ⟨A',c',EM,HC.o,(a8.o.lower (Nat.le_succ _)).mono λ_ _ h=>h.1,HX0.o.trans HE.o⟩

theorem F6A(l:List BA):l.map Value.string=(l.map λs=>s.data.toList).map encStr:=by
 rw [List.map_map];rfl
theorem ElA(g c:Nat)(ss:List (List UInt8))(w:World)(hH:Sort.Holds encStr w g 0 ss.toArray)(hb:g<w.heap.size)(hsz:ss.length<4611686018427387904) :
  Cl 167 #[.slice (some ⟨g,0,none⟩) ss.length c] w λe J =>
   e=.returned (.tuple #[])/\∃ n os,J=Sort.grow (Sort.putRow encStr (Sort.ahead w n) g 0 (ss.mergeSort λx y=>decide (x<=y)).toArray) os:=AnyM.slices_Sort_string Tryz.sort167 g 0 c ss w hH hb hsz
theorem CTA{l:List BA}(h:OwnSs w base A c l)(hl:l.length<=17592186044416) :
  Cl 167 #[.slice A l.length c] w (λe J=>e=.returned (.tuple #[])/\w.grownBy J (ob A)/\OwnSs J base A c (An l)):=by
 have hsz:∀ s∈An l,s.size<=4294967296:=λs hs=>h.2 s (by
  unfold An at hs;obtain ⟨b,hb,rfl⟩:=List.mem_map.1 hs;rw [List.mem_mergeSort] at hb;obtain ⟨x,hx,rfl⟩:=List.mem_map.1 hb;have:(⟨x.data.toList.toArray⟩:BA)=x:=(by cases x;simp);rw [this];exact hx)
 have a9:(An l).length=l.length:=by simp [An]
 rcases h.1.2 with ⟨hv,hn⟩|⟨g,cap,cur,hv,hb,hh,b0,b3,hcs,ht⟩
 ·injection hv with U b4 hv3;subst U hv3;have Z:l=[]:=List.eq_nil_of_length_eq_zero hn;subst Z;refine (show Cl 167 #[.slice none 0 0] w (λe J=>e=.returned (.tuple #[])/\J=w) from AnyM.slices_Sort_string_none Tryz.sort167 none 0 w).mono ?_;rintro e J ⟨rfl,rfl⟩;exact ⟨rfl,World.grownBy.refl _ _,by rw [show An []=[] by simp [An]];exact OwnSs.nil _ _⟩
 ·injection hv with U b4 hv3;subst U hv3;have Y:w.heap[g]?=some (.cells cur 9 (0,0)):=hh;have O:(l.map λs=>s.data.toList).length=l.length:=AC;have a8:cur.toList.take (l.map λs=>s.data.toList).length=(l.map λs=>s.data.toList).map encStr:=by
   rw [<-F6A,O,<-ht,Nat.mul_one]
  have h1:=ElA g c (l.map λs=>s.data.toList) w (holds_of_block Y a8) (Blk.lt hh) (by rw [O];omega);rw [O] at h1;refine h1.mono ?_;rintro e J ⟨rfl,n,os,rfl⟩;refine ⟨rfl,grownBy_sorted _,?_,hsz⟩;have h2:=ownsRow_sorted (w:=w) (base:=base) (n:=n) (os:=os) (ss:=l.map λs=>s.data.toList) (ts:=(l.map λs=>s.data.toList).mergeSort λx y=>decide (x<=y)) AC hb Y (by rw [O];exact b0) b3 hcs;rw [O] at h2;rw [a9];have h3:(An l).map Value.string=((l.map λs=>s.data.toList).mergeSort λx y=>decide (x<=y)).map encStr:=by
   unfold An;rw [List.map_map];rfl
  rw [h3];exact h2
theorem OwnDs.put(h:OwnDs w base X (some ⟨g,0,none⟩) c l){i:Nat}(hi:i<l.length){B:OA}(he:l[i].frm.length<=e)(hs:Strs w (λb=>b≠g/\X b) B l[i].frm) :
  OwnDs (w.setCell ⟨g,i*2,none⟩ (.slice B l[i].frm.length e)) base X (some ⟨g,0,none⟩) c l:=by
 obtain ⟨xs,ho,hv⟩:=h;have U:xs.length=l.length*2:=ho.len;have hk:Kept (λb=>ob (some ⟨g,0,none⟩)≠some b/\X b) w (w.setCell ⟨g,i*2,none⟩ (.slice B l[i].frm.length e)):=Kept.of_set λhh=>hh.1 rfl;refine ⟨xs.set (i*2) (.slice B l[i].frm.length e),Own.put ho _,λj d hj => ?_⟩;obtain ⟨B',e',h3,h4,h5,h6,h7⟩:=hv j d hj;have O:(xs.set (i*2) (.slice B l[i].frm.length e))[j*2+1]?=some (.string d.tov):=(by rw [List.getElem?_set_ne AA];exact h4);by_cases hji:j=i
 ·subst hji;rw [List.getElem?_eq_getElem hi] at hj;injection hj with hj;subst hj;refine ⟨B,e,by rw [List.getElem?_set_self AA],O,he,h6,(hs.mono λb _ hb=>⟨λe=>hb.1 (by injection e with e;exact e.symm),hb.2⟩).keep hk⟩
 ·exact ⟨B',e',by rw [List.getElem?_set_ne AA];exact h3,O,h5,h6,h7.keep hk⟩

def AbM(w:World)(S:NP)(a:Abs)(A:OA)(c:Nat)(D:OA)(e:Nat):Prop:=a.cols.length<=c/\a.deps.length<=e/\Strs w S A a.cols/\RDeps w S D a.deps
theorem AbM.keep(h:AbM w S a A c D e)(k:Kept S w J):AbM J S a A c D e:=⟨h.1,h.2.1,h.2.2.1.keep k,h.2.2.2.keep k⟩
theorem AbM.mono(h:AbM w S a A c D e)(k:∀ i,i<w.heap.size->S i->T i):AbM w T a A c D e:=⟨h.1,h.2.1,h.2.2.1.mono k,h.2.2.2.mono k⟩
def Eh(w:World)(S:NP)(a:Abs)(e:Ending)(J:World):Prop:=∃ A c D e',e=.returned (Aq a A c D e')/\AbM J (λb=>S b\/w.heap.size<=b) a A c D e'/\Ext w J
def Off(S0:NP)(w:World):Nat->Prop:=λb=>S0 b\/w.heap.size<=b
def D0A(w w0:World)(S0:NP)(g:Nat)(A':OA)(c':Nat)(D':OA)(e':Nat)(b:Bool)(r1 r:Abs)(e:Ending)(J:World):Prop :=
 e=.returned (.bool b)/\Ext w0 J/\w.heap.size<=J.heap.size/\(b=true->∃ A2 c2 D2 e2,Blk J g 36 (Ap r1 A2 c2 D2 e2)/\AbM J (Off S0 w) r1 A2 c2 D2 e2)/\(b=false->Blk J g 36 (Ap r A' c' D' e'))
def HhA(ws:World)(l:List BA)(F:Gz)(J:World)(v:Value):Prop:=∃ (B:OA) (e:Nat),v=.slice B l.length e/\l.length<=e/\(F 1010=false->Strs J (λb=>ws.heap.size<=b) B l)
theorem Kq(h:qP:=by
 go_wp2_with fail
 go_ret;exact ⟨by rw [HPT.o];rfl,HX3.o,HZ3.o,λh=>(by rw [HPT.o] at h;cases h),λ_=>HBR3.o⟩):qP:=h
theorem Pr(h:qP:=by
 have hkk:=hR.o.kept0 (S:=λb=>b≠gd) (λb _ hb m hm=>absurd hm.2 hb);have m16:=Kept.cell hkk G16.o K16.o;have mv:=Kept.cell hkk GV.o KV.o;clear hkk;exact Qk):qP:=h
theorem Qi(h:qP:=by
 exact ⟨h1.keep (rr.keptS λb _ e m hm=>by rw [hm.1,h2,rr.done _ h2]),rr.done _ h2⟩):qP:=h
theorem Zq(a r:Abs)(A D A' D':OA)(c e c' e' g:Nat)(w w0:World)(hx:Ext w0 w)(hg:w0.heap.size<=g)(hb:Blk w g 36 (Ap r A' c' D' e'))
  (S0:NP) (hS0:∀ b,S0 b->b<w0.heap.size) (hA:Strs w S0 A a.cols) (hD:RDeps w S0 D a.deps) (hn1:a.cols.length<=1000000) (hn2:a.deps.length<=1000000) :
  Cl 92 #[.pointer (some ⟨g,0,none⟩),(Aq a A c D e),.I 5] w (D0A w w0 S0 g A' c' D' e' (Bw a 5) (Dp a 5 r) r):=by
 obtain ⟨w1,hw1⟩:=eqx (w.alloc (.cells (Ap a A c D e) 36));obtain ⟨g4,hg4⟩:=eqx w.heap.size;have hx1:Ext w w1:=GS;have f3:Blk w1 g4 36 (Ap a A c D e):=GN;have O:g<w.heap.size:=hb.lt;obtain ⟨d5,HBR1,HX1,HXX,d9,HW,HG,HGE⟩:=Hd8 f3 (hb.keep (hx1.kept _)) (hx.trans hx1) hx hx1 hw1 hg4 hg;obtain ⟨f8,HS0,HA1,HD1,HAL⟩:=Hd5 O hS0 (hA.keep (hx1.kept _)) (hD.keep (hx1.kept _)) (show ∀ J,Cl 36 #[] J (Cd J (0,100)) from Ga);obtain ⟨d1,f1⟩:=eqx ((DF a).1);obtain ⟨d2,g8⟩:=eqx ((DF a).2);obtain ⟨cs,hcs⟩:=eqx (ddp a.cols);obtain ⟨ds,f0⟩:=eqx (ddp a.deps);have hcl:cs.length<=1000000:=(by have:=F4 a.cols;rw [hcs];omega);have hdl:ds.length<=1000000:=(by have:=F4 a.deps;rw [f0];omega);obtain ⟨HP,HPP,HMS,HDI,HDD,k0,k1⟩:=Hd7 (show Bw a 5=(decide (d1<=d2)&&decide (cs.length<=8)&&cs.all Ba) by rw [f1,g8,hcs];rfl) (show Dp a 5 r = { r with rl:=d1,rh:=d2,cols:=An cs,deps:=ds } by rw [f1,g8,hcs,f0];rfl) (show ∀ J,Cl 74 #[.agg #[.I a.rl,.I a.rh],.agg #[.I 0,.I 100]] J (Cd J (d1,d2)) from λJ=>by rw [show (d1,d2)=CZ (a.rl,a.rh) (0,100) by rw [f1,g8];rfl];exact DM _ _ _ _ J) (show ∀ J,Ext w1 J->Cl 164 #[.slice A a.cols.length c,.func (.func 165) #[] #[]] J (FfA J cs) from λJ hw'=>by rw [hcs];exact MP a.cols A c J _ (HA1.o.keep (hw'.kept _)) hn1) (show ∀ J,RDeps J S0 D a.deps->Cl 168 #[.slice D a.deps.length e,.func (.func 169) #[] #[]] J (Jt J S0 ds) from λJ hw'=>by rw [f0];exact Lu a.deps D e J _ hw' hn2) (f3.q13) (f3.q14);clear hx hg hb hx1 f3 hw1 hg4 f1 g8 hcs f0 hA hD O
 go_enter func92,ntmps92
 go_upto_region 19 with fail
 rw [<-HW.o,<-HG.o];refine Qb (fun|5=>[4,5]|i=>[i]) (λ_ _=>False) [(5,[4])] ?_
 iterate 2 refine Qp ?_
 refine Qc (x:=.agg #[.I 0,.I 100]) (λJ=>HAL.o J) ?_;refine Qc (x:=.agg #[.I d1,.I d2]) (λJ=>HMS.o J) ?_;refine Qs (FP (VarX (λ_ _=>False) 4 32 2)) (H1A IAA) ?_ ?_
 ·exact Pb
 refine Chain.step (λvl F J=>match vl with|[p,_]=>VarXI (λ_ _=>False) 32 p #[.I d1,.I d2] F J|_=>True) AG ?_ ?_ ?_
 ·exact SB
 ·intro V F J L hR hN hp hρ hc hf hg;refine ⟨rfl,?_⟩;have e72:L (.tmp 72)=_:=(hρ 72).trans (hp 3 AB);obtain ⟨g,⟨cl⟩,hv,hcs,hb,hk,hst⟩:=VarX.stored (hp 4 AB) (s:=5) (l:=[(5,[4])]) AB hN;have e8:=(hρ 8).trans hv;exact PF
 intro V F w9 hR hG;obtain ⟨g5,v4,hb5,-,-⟩:=hG 5 AB;refine Qx ?_;simp only [v4];have HX9:=Hd (show Ext w1 w9 from hR.ext0 (λ_ _ h=>h.elim));have HB5:=Hd hb5;clear hR hG hb5 v4;obtain ⟨HX2,HBR2,i5⟩:=Hd3 (HX1.o.trans HX9.o) (HBR1.o.keep (HX9.o.kept _)) (d5.o.keep (HX9.o.kept _));have q15:=i5.o.q15
 go_wp2_with fail
 refine (HDI.o _ HX9.o).mono ?_;rintro e2 w2 ⟨A2,c2,rfl,i2,a9,hx2⟩;obtain ⟨HX3,HX93,HX92,HZ3,HBR3,HBA3,HB53,Y⟩:=Hd8 (HX2.o.trans hx2) (HX9.o.trans hx2) hx2 (show w.heap.size<=w2.heap.size by have:=d9.o.size;have:=HX9.o.size;have:=hx2.size;omega) (HBR2.o.keep (hx2.kept _)) (i5.o.keep (hx2.kept _)) (HB5.o.keep (hx2.kept _)) a9;have HC2:=Hd i2;have hal:=Mv A2 c2 cs w2 (λ_=>True) (a9.strs AA λ_ _=>trivial);obtain ⟨an,han⟩:=eqx (cs.all Ba);rw [<-han] at hal HP;have i6:=Hd hal;clear q15 hx2 a9 i2 hal han;obtain ⟨s0,s1⟩:=HB53.o.qs2;by_cases hle:d1<=d2
 case neg =>
  have hle2:d2<d1:=AA;have HPT:=Hd (show Bw a 5=false by rw [HP.o,decide_eq_false hle];rfl);exact Kq
 have hle2:¬d2<d1:=AA;by_cases h8:cs.length<=8
 case neg =>
  have h82:(8:Int)<(cs.length:Int):=AA;have HPT:=Hd (show Bw a 5=false by rw [HP.o,decide_eq_false h8,Bool.and_false];rfl);exact Kq
 have h82:¬(8:Int)<(cs.length:Int):=AA;cases an
 ·have HPT:=Hd (show Bw a 5=false by rw [HP.o,Bool.and_false])
  go_wp2_with fail
  refine i6.o.mono ?_;rintro e3 w3 ⟨rfl,rfl⟩;exact Kq
 have HPT:=Hd (show Bw a 5=true by rw [HP.o,decide_eq_true hle,decide_eq_true h8];rfl)
 go_wp2_with fail
 refine i6.o.mono ?_;rintro e3 w3 ⟨rfl,rfl⟩;clear s0 s1 HP
 go_wp2_with fail
 refine (CTA Y.o AA).mono ?_;rintro e4 w4 ⟨rfl,hg4,hown4⟩;have b9:=d9.o.size;have Z:=HX9.o.size;have O:=f8.o;have hgg:=HG.o;have d3:=d5.o.lt;have hg5l:=HB5.o.lt;have b4:∀ b,b<w9.heap.size->some b≠ob A2:=λb hb e=>by have:=(Y.o.1.blk e.symm).1;omega
 obtain ⟨HX4,HX94,U,HBA4,HB54,d8,HGR,HSL⟩:=Hd8 (Ext.grown HX3.o hg4 (λb hb=>by have:=(Y.o.1.blk hb).1;have:=HX2.o.size;omega)) (Ext.grown HX93.o hg4 (λb hb=>by have:=(Y.o.1.blk hb).1;omega)) (HBR3.o.keep (Kept.of_grown hg4 λb hb _=>by rw [hb];exact b4 g AA)) (HBA3.o.keep (Kept.of_grown hg4 λb hb _=>by rw [hb];exact b4 g4 AA)) (HB53.o.keep (Kept.of_grown hg4 λb hb _=>by rw [hb];exact b4 g5 AA)) hown4 hg4 (show (An cs).length=cs.length by simp [An]);obtain ⟨s0,s1⟩:=HB54.o.qs2;have r13:=U.o.q13;have r14:=U.o.q14;have r15:=U.o.q15;have rf:=U.o.frozen;have rl:=U.o.lt;clear hg4 hown4 b4 b9 Z O hgg d3 hg5l
 go_upto_region 25 with fail
 obtain ⟨w5,b7⟩:=eqx (((w4.setCell ⟨g,13,none⟩ (.I d1)).setCell ⟨g,14,none⟩ (.I d2)).setCell ⟨g,15,none⟩ (.slice A2 cs.length c2));rw [<-b7];obtain ⟨r5,hr5⟩:=eqx ({ r with rl:=d1,rh:=d2,cols:=An cs });have b9:=d9.o.size;have Z:=HX9.o.size;have hszx:=HXX.o.size;have O:=f8.o;have i4:=HGE.o;have hgg:=HG.o;have d3:=d5.o.lt;have HSZ9:=Hd (show w.heap.size<=w9.heap.size by omega);have b0:=Hd (show Blk w5 g 36 (Ap r5 A2 c2 D' e') by
  have hbb:=((U.o.set 13 (.I d1)).set 14 (.I d2)).set 15 (.slice A2 cs.length c2);rw [<-b7] at hbb;rw [hr5]
  simpa [HSL.o,Ap] using hbb)
 have hkb:∀ S:Nat->Prop,¬S g->Kept S w4 w5:=λS hS=>by rw [b7];exact ((Kept.refl S w4).set2 hS).set2 hS |>.set2 hS
 obtain ⟨HBA5,HX5,HOW5,HD5,b5,HR5⟩:=Hd6 (HBA4.o.keep (hkb _ (show ¬g=g4 by omega))) (show Ext w0 w5 by rw [b7];exact ((HX4.o.set2 HGE.o _).set2 HGE.o _).set2 HGE.o _) (show OwnSs w5 w9.heap.size A2 c2 (An cs) from ⟨d8.o.1.keep (hkb _ (show ¬ob A2=some g from λe=>by have:=(d8.o.1.blk e).1;omega)),d8.o.2⟩) ((HD1.o.keep (HX94.o.kept _)).keep (hkb _ (show ¬S0 g from λh=>by have:=HS0.o g h;omega))) (show w9.heap.size<=w5.heap.size by have:=(hkb (λ_=>False) (λh=>h)).1;have h9:=(Ext.grown HX92.o HGR.o (λb hb=>(Y.o.1.blk hb).1)).size;omega) hr5;clear hkb b7 hr5 s0 s1 r13 r14 r15 rf rl b9 Z hszx O i4 hgg d3;have q16:w5.cell? ⟨g4,16,none⟩=some (.slice D a.deps.length e):=HBA5.o.q16;have r16:w5.cell? ⟨g,16,none⟩=some (.slice D' r5.deps.length e'):=b0.o.q16;have rf:=b0.o.frozen;have rl:=b0.o.lt
 go_wp2_with fail
 refine (HDD.o _ HD5.o).mono ?_;rintro e6 w6 ⟨D2,e2,rfl,hcap6,hown6,b6⟩;obtain ⟨HX6,b3,d4,HOD6,HS6⟩:=Hd5 (HX5.o.trans b6) (b0.o.keep (b6.kept _)) (HOW5.o.ext b6) (hown6.mono (T:=Off S0 w) λ_ _ h=>.inl h) b6.size;clear q16 r16 rf rl b6 hown6;have r16:w6.cell? ⟨g,16,none⟩=some (.slice D' r5.deps.length e'):=b3.o.q16;have rf:=b3.o.frozen;have rl:=b3.o.lt
 go_upto_region 26 with fail
 obtain ⟨w7,hw7⟩:=eqx (w6.setCell ⟨g,16,none⟩ (.slice D2 ds.length e2));rw [<-hw7];have hkb:∀ S:Nat->Prop,¬S g->Kept S w6 w7:=λS hS=>by rw [hw7];exact (Kept.refl S w6).set2 hS
 have f7:=b5.o;have Z:=HSZ9.o;have O:=f8.o;have i4:=HGE.o;obtain ⟨r7,hr7⟩:=eqx (Dp a 5 r);have d6:r7.deps=ds/\r7.cols=An cs:=(by rw [hr7,HPP.o];exact ⟨rfl,rfl⟩);have HBR7:=Hd (show Blk w7 g 36 (Ap r7 A2 c2 D2 e2) by
  have hbb:=b3.o.set 16 (.slice D2 ds.length e2);rw [<-hw7,HR5.o] at hbb;rw [hr7,HPP.o]
  simpa using hbb)
 have HX7:=Hd (show Ext w0 w7 by rw [hw7];exact HX6.o.set2 HGE.o _);have HOW7:=Hd (show OwnSs w7 w9.heap.size A2 c2 (An cs) from ⟨d4.o.1.keep (hkb _ (show ¬ob A2=some g from λe=>by have:=(d4.o.1.blk e).1;omega)),d4.o.2⟩);have HOD7:=Hd (show OwnDs w7 w5.heap.size (Off S0 w) D2 e2 ds from HOD6.o.keep (hkb _ (show ¬(ob D2=some g\/Off S0 w g) from λh=>by
  rcases h with h|h
  ·have:=(HOD6.o.blk h).1;omega
  ·rcases h with h|h
   ·have:=HS0.o g h;omega
   ·omega)))
 obtain ⟨HS7,HA2L,HRD,HR7,HCP⟩:=Hd5 (show w5.heap.size<=w7.heap.size by have:=HS6.o;have:=(hkb (λ_=>False) (λh=>h)).1;omega) (show ∀ b,ob A2=some b->b<w5.heap.size from λb hb=>(HOW5.o.1.blk hb).2) d6 hr7 hcap6;have f5:w7.cell? ⟨g,16,none⟩=some (.slice D2 r7.deps.length e2):=HBR7.o.q16;rw [d6.1] at f5;clear hkb hw7 hr7 d6 r16 rf rl f7 Z O i4;go_wp2
 go_loopw [112] (λi wr=>∃ k:Nat,k<=ds.length/\i=.I k/\Ext w0 wr/\w5.heap.size<=wr.heap.size/\Blk wr g 36 (Ap r7 A2 c2 D2 e2)/\OwnSs wr w9.heap.size A2 c2 (An cs)/\OwnDs wr w5.heap.size (Off S0 w) D2 e2 ds) (λi _=>ds.length-(intOf i).toNat)
 case atStart=>exact ⟨0,AN,rfl,HX7.o,HS7.o,HBR7.o,HOW7.o,HOD7.o⟩
 case round =>
  clear f5;obtain ⟨k,hk,rfl,hext,hszr,f9,g6,hod⟩:=hrel;by_cases hlt:k<ds.length
  ·obtain ⟨xs,hxl,ho,hv⟩:=hod.add;obtain ⟨gd,rfl⟩:=ho.some_ AA;obtain ⟨B,cB,h3,h4,h5,h6,h7⟩:=hv k ds[k] (List.getElem?_eq_getElem hlt);have c1:=ho.cell_ h3;have c2':=ho.cell_ h4;have hgd:=(hod.blk rfl);obtain ⟨HE,f6,b8,HOD,HSR,f2,H7,H56⟩:=Hd8 hext f9 g6 hod hszr hgd (h7.mono (T:=λb=>b≠gd/\Off S0 w b) λb _ hb=>⟨λe=>hb.1 (by rw [e];rfl),hb.2⟩) (And.intro h5 h6);clear ho hv hxl h3 h4 h7 hext f9 g6 hod
   go_upto_region 29 with fail
   obtain ⟨ws,hws⟩:=eqx (wr.alloc (.cells #[.slice B ds[k].frm.length cB,.string ds[k].tov] 64));obtain ⟨gv,hgv⟩:=eqx wr.heap.size;rw [<-hws,<-hgv];have a8:Ext wr ws:=(by rw [hws];exact (Ext.refl wr).alloc _);have hbv:Blk ws gv 64 #[.slice B ds[k].frm.length cB,.string ds[k].tov]:=(by rw [hws,hgv];exact Blk.new _ _ _);have KV:=Hd (hbv.q0);have hrd7:=HRD.o.1;have K16:=Hd (show ws.cell? ⟨g,16,none⟩=some (.slice (some ⟨gd,0,none⟩) ds.length e2) by rw [<-hrd7];exact a8.cell (f6.o.q16));have hg1:=f2.o.1;have hg2:=f2.o.2;simp only at hg1 hg2;have O:=f8.o;have f7:=b5.o;have hs9:=HSZ9.o;have hszs:=a8.size;obtain ⟨G16,GV,HGX,HF,HODS,HXS⟩:=Hd6 (show g≠gd by omega) (show gv≠gd by omega) (show gd<ws.heap.size/\w.heap.size<=ws.heap.size by omega) ((H7.o.keep (a8.kept _)).mono (T:=λb=>b≠gd) λb _ hb=>hb.1) (HOD.o.ext a8) a8;clear hws hgv a8 hbv hrd7 hg1 hg2 O f7 hs9 hszs c1 c2' h5 h6 hgd;refine Qa (λm b=>m=1010/\b=gd) [(0,[1010]),(1,[1010]),(2,[1010]),(3,[1010]),(4,[1010]),(5,[1010]),(6,[1010]),(7,[1010]),(9,[1010]),(10,[1010])] ?_
   iterate 3 refine Qp ?_
   refine Qm (λV F J L hR hN hp hρ zs zg=>by
    exact Pr) ?_
   iterate 2 refine Qp ?_
   refine Qm (λV F J L hR hN hp hρ zs zg=>by
    exact Pr) ?_
   refine Qs (FP λv F J=>HhA ws ds[k].frm F J v) (H1A ?_) ?_ ?_
   ·rintro v F w1 γ' w2 rr ⟨B7,e7,h1,h2,h3⟩;refine ⟨B7,e7,h1,h2,λhk => ?_⟩;have hk0:F 1010=false:=by
     cases h6:F 1010 with
     |false=>rfl
     |true=>rw [rr.done _ h6] at hk;cases hk
    exact (h3 hk0).keep (rr.keptS (S:=λb=>ws.heap.size<=b) λb _ e m hm=>by rw [hm.1,hk,hk0])
   ·intro V F J L hR hN hp hρ zs zg;have HR:=hR;have HCL:=Hd (Wx B cB ds[k].frm J _ (HF.o.keep (hR.o.kept0 (S:=λb=>b≠gd) (λb _ hb m hm=>absurd hm.2 hb))));refine Qr ?_;refine HCL.o.mono ?_;rintro e1 w3 ⟨B7,e7,he,h7,hst,hx⟩;exact ⟨_,he,F,H4A _ F hx,λ_ _ _ h=>h,B7,e7,rfl,h7,λ_=>hst.mono λb _ hb=>Nat.le_trans HR.o.size hb⟩
   iterate 2 refine Qp ?_
   refine Qs (λ_ F J=>OwnDs J w5.heap.size (Off S0 w) (some ⟨gd,0,none⟩) e2 ds/\F 1010=true) ?_ ?_ ?_
   ·rintro v F w1 γ' w2 rr ⟨h1,h2⟩;exact Qi
   ·intro V F J L hR hN hp hρ zs zg;obtain ⟨B7,e7,hv7,hl7,i3⟩:=hp.o 7 AB;have e124:=(hρ.o 124).trans hv7;have hk0:=hN.o.key (k:=1010) AB;have HST:=Hd (i3 hk0);have HL7:=Hd hl7;have hod:=HODS.o.keep (hR.o.kept0 (S:=λb=>ob (some ⟨gd,0,none⟩)=some b\/Off S0 w b) λb _ e m hm=>CF);obtain ⟨xs,hxl,ho,hv⟩:=hod.add;obtain ⟨B0,cB0,h3,-⟩:=hv k ds[k] (List.getElem?_eq_getElem hlt);have qc:=ho.cell_ h3;have qf:=ho.frozen_;have ql:=ho.lt_;have d7:=Hd hod;have HK:=Hd hk0;clear hv7 hl7 i3 hod ho hv h3 hxl;refine Qr ?_;have hgx:=HGX.o;exact ⟨F.put 1010,H2A HK.o rfl rfl rfl Y78171d3d0 (λb hb hm=>(Only.set (Only.refl gd J) (k*2) (.slice B7 ds[k].frm.length e7)).block b λe=>hm ⟨rfl,e⟩),LK.done AB,d7.o.put hlt HL7.o (HST.o.mono λb _ hb=>⟨AA,.inr AA⟩),AU⟩
   intro V F g0 hR hG;have v0:V 0=_:=hG 0 AB;have v1:V 1=_:=hG 1 AB;have v2:V 2=_:=hG 2 AB;have v3:V 3=_:=hG 3 AB;have v4:V 4=_:=hG 4 AB;have v5:V 5=_:=hG 5 AB;have v6:V 6=_:=hG 6 AB;have v8:V 8=_:=hG 8 AB;have v9:V 9=_:=hG 9 AB;simp only [Ah,Act.put,List.setIfInBounds_toArray,List.set_cons_succ,List.set_cons_zero,Nat.zero_add,Nat.reduceAdd,v0,v1,v2,v3,v4,v5,v6,v8,v9];clear v0 v1 v2 v3 v4 v5 v6 v8 v9;obtain ⟨i7,-⟩:=hG 10 AB;have f4:Kept (λb=>b≠gd) ws g0:=hR.kept0 (S:=λb=>b≠gd) (λb _ hb m hm=>absurd hm.2 hb);have d7:=Hd i7;have hx9:Ext w0 g0:=Au (HE.o.trans HXS.o) (hR.buts (S:=λb=>b=gd) (λm b _ hm _=>hm.2)) (λb hb=>by have:=f2.o.1;have:=b5.o;have:=HSZ9.o;have:=HXX.o.size;simp only at *;omega);obtain ⟨HX9',HBR9,HOS9,HS9'⟩:=Hd4 hx9 ((f6.o.keep (HXS.o.kept _)).keep (f4.mono λb _ e=>by rw [e];exact G16.o)) (show OwnSs g0 w9.heap.size A2 c2 (An cs) from ⟨(b8.o.ext HXS.o).1.keep (f4.mono λb _ e=>by have:=HA2L.o b e;have:=f2.o.1;simp only at *;omega),b8.o.2⟩) (show w5.heap.size<=g0.heap.size by have:=f4.1;have:=HXS.o.size;have:=HSR.o;omega);clear hR hG i7 f4 hx9;go_wp2;go_roundw
   case rel=>exact ⟨k+1,AA,AE,HX9'.out,HS9'.out,HBR9.o,HOS9.o,d7.o⟩
   case measure=>simp [intOf];omega
  ·obtain rfl:k=ds.length:=AA;obtain ⟨HE,f6,b8,HOD⟩:=Hd4 hext f9 g6 hod;clear hext f9 g6 hod;go_wp2;go_ret;refine ⟨EY,HE.o,by have:=HSZ9.o;have:=b5.o;omega,λ_=>⟨A2,c2,D2,e2,?_,?_⟩,λh=>(by rw [HPT.o] at h;cases h)⟩
   ·have hbb:=f6.o;rw [HR7.o] at hbb;exact hbb
   ·have h1:=HRD.o;rw [HR7.o] at h1;have hs9:=HSZ9.o;have f7:=b5.o;refine ⟨by rw [h1.2,HSL.o];exact HC2.o,by rw [h1.1];exact HCP.o,?_,?_⟩
    ·rw [h1.2];exact b8.o.strs (by rw [HSL.o];omega) λb hb=>.inr (by have:=(b8.o.1.blk hb).1;omega)
    ·rw [h1.1];exact HOD.o.rdeps AA (λb hb=>.inr (by have:=(HOD.o.blk hb).1;omega)) λb hb=>hb

theorem AbM.nil(h:a.cols=[]/\a.deps=[]):AbM w S a A c D e:=by
 unfold AbM;rw [h.1,h.2];exact ⟨AN,AN,⟨.inl rfl,AC,AC⟩,AC,[],.inl rfl,AC,AC⟩
theorem ZX(h:qP:=by
 rw [hp,if_pos rfl] at hs;rw [<-hs];exact hbb):qP:=h
theorem ZN(h:qP:=by
 rw [hp,if_neg (by simp)] at hs;rw [<-hs];exact hbb):qP:=h
theorem I8(h:qP:=by
 rintro e J ⟨he,⟨s,hs,hbb⟩,hxx,hz⟩;refine ⟨he,hxx,hz,λhp=>⟨A',c',D',e',?_,AbM.nil hr⟩,λhp => ?_⟩
 ·exact ZX
 ·exact ZN):qP:=h
theorem DPA(a r:Abs)(A D A' D':OA)(c e c' e' g k:Nat)(w w0:World)(h1:1<=k)(h5:k<=5)(hx:Ext w0 w)(hg:w0.heap.size<=g)(hb:Blk w g 36 (Ap r A' c' D' e'))
  (S0:NP) (hS0:∀ b,S0 b->b<w0.heap.size) (hA:Strs w S0 A a.cols) (hD:RDeps w S0 D a.deps) (hn1:a.cols.length<=1000000) (hn2:a.deps.length<=1000000) (hb1:a.tx.b.size<=1000000000) (hb2:a.tx.e.size<=1000000000) (ht:Tens w0) (hr:r.cols=[]/\r.deps=[]) (hbo:k<=4->r.bo=0) :
  Cl 92 #[.pointer (some ⟨g,0,none⟩),(Aq a A c D e),.I (k:Int)] w (D0A w w0 S0 g A' c' D' e' (Bw a k) (Dp a k r) r):=by
 have hk:k=1\/k=2\/k=3\/k=4\/k=5:=AA
 rcases hk with rfl|rfl|rfl|rfl|rfl
 ·refine (BgA a r A D A' D' c e c' e' g w w0 hx hg hb hb1 hb2).mono ?_;exact I8
 ·refine (Zi a r A D A' D' c e c' e' g w w0 hx hg hb ht).mono ?_;exact I8
 ·refine (ZA a r A D A' D' c e c' e' g w w0 hx hg hb ).mono ?_;exact I8
 ·refine (Z7 a r A D A' D' c e c' e' g w w0 hx hg hb (hbo AA)).mono ?_;exact I8
 ·exact Zq a r A D A' D' c e c' e' g w w0 hx hg hb S0 hS0 hA hD hn1 hn2
theorem GM(h:qP:=by
 refine wpList_plain hgd λK hK => ?_;unfold Oper.wp execOp;rw [ho];simp [go_sem];exact hK _ _ h):qP:=h
theorem Ag{a:Act}(hgd:o.guard=none)(ho:o.op=.alloc 36)
  (h:wpList prog ops Q rest (a.put o.dst (.pointer (some ⟨w.heap.size,0,none⟩))) (w.alloc (.cells Az 36))):wpList prog ops Q (o::rest) a w:=by
 exact GM
theorem AJ{a:Act}(hgd:o.guard=none)(ty:TypeId)(x:Operand)(ho:o.op=.load ty x)
  (g:Nat) (hx:a.eval x=.pointer (some ⟨g,0,none⟩))  (hb:Blk w g ty cs) (hd:(match P.underlying ty with|some (.struct _)|some (.array _ _)=>true|_=>false)=true) (hi:(P.info? ty).map (·.size)=some cs.size)
  (h:wpList P ops Q rest (a.put o.dst (.agg cs)) w):wpList P ops Q (o::rest) a w:=by
 refine wpList_plain hgd λK hK => ?_;unfold Oper.wp execOp;simp only [ho,hx,Instr.loadAt,Instr.sureAddr,Sem.run_bind,Sem.run_pure,Result.andThen_ok,Eq hb hd hi];exact hK _ _ h
theorem FI{K:Value->World->Prop}{ty:TypeId}{x:Operand}(ho:o.op=.load ty x)(hx:L x=.pointer (some ⟨g,0,none⟩))(hb:Blk w g ty cs)
  (hd:(match P.underlying ty with|some (.struct _)|some (.array _ _)=>true|_=>false)=true) (hi:(P.info? ty).map (·.size)=some cs.size) (h:K (.agg cs) w):Bu P K ((execOp L o).run P w):=by
 unfold execOp;simp only [ho,hx,Instr.loadAt,Instr.sureAddr,Sem.run_bind,Sem.run_pure,Result.andThen_ok,Eq hb hd hi];exact h
theorem Qy{Γ:Type}{D:Nat->List Nat}{R:Γ->World->Γ->World->Prop}{N:Nat->Γ->Prop}{a0:Act}{γ0:Γ}{w1:World}{Qf:List (Ft Γ)->Prop}{done:List (Ft Γ)}{k ty:Nat} [Rf R] [Rx R γ0](H:Hid (Blk w1 g ty cs))(hd:(match P.underlying ty with|some (.struct _)|some (.array _ _)=>true|_=>false)=true)(hi:(P.info? ty).map (·.size)=some cs.size)
  (next:Chain P ops D R N a0 γ0 w1.drew Qf (k+1) (FV (.agg cs)::done) rest) (hk:done.length=k:=by rfl) (hD:D k=[k]:=by rfl)
  (h:∀ V F w L,Blk w g ty cs->(match P.underlying ty with | some (.struct _) | some (.array _ _)=>true | _=>false)=true->(P.info? ty).map (·.size)=some cs.size->FindsZ ops D R N a0 γ0 w1.drew k done o V F w L (AY o V=true/\Bu P (λv J=>v=.agg cs/\J=w) ((execOp L o).run P w)):=by
   intro V F J L hB h1 h2 hR hN hp hρ zs zg _ _ _
   (conv at zg=>whnf)
   refine ⟨by first|rfl|(show (NM _==some _)=true;rw [zg];rfl),?_⟩
   repeat ((conv at zs=>whnf);(try have e:L (.tmp _)=_:=zs.1);replace zs:=zs.2)
   exact FI rfl (by assumption) hB h1 h2 ⟨rfl,rfl⟩):Chain P ops D R N a0 γ0 w1.drew Qf k done (o::rest) :=
 Qm (λV F w L hR=>h V F w L (H.o.keep ((Rx.x _ _ _ hR.o).kept _)) hd hi hR) next hk hD
theorem CZA(a:Abs)(k:Nat)(r:Abs):(Dp a k r).kinds=r.kinds:=by
 unfold Dp;split<;>rfl
def CnQ(g:Nat)(T:NP)(r1 r:Abs)(A':OA)(c':Nat)(D':OA)(e':Nat)(pb:Bool)(J:World):Prop :=
 (pb=true->∃ A2 c2 D2 e2,Blk J g 36 (Ap r1 A2 c2 D2 e2)/\AbM J T r1 A2 c2 D2 e2)/\(pb=false->Blk J g 36 (Ap r A' c' D' e'))
theorem CnQ.keep{r1 r:Abs}{A':OA}{c':Nat}{D':OA}{e':Nat}{pb:Bool}(h:CnQ g T r1 r A' c' D' e' pb w)(k:Kept (λ_=>True) w J):CnQ g T r1 r A' c' D' e' pb J:=by
 refine ⟨λhp => ?_,λhp=>(h.2 hp).keep (k.mono λ_ _ _=>trivial)⟩;obtain ⟨A2,c2,D2,e2,h1,h2⟩:=h.1 hp;exact ⟨A2,c2,D2,e2,h1.keep (k.mono λ_ _ _=>trivial),h2.keep (k.mono λ_ _ _=>trivial)⟩
def AbN(n:Nat)(a:Abs):Prop:=a.tx.b.size<=1000000000/\a.tx.e.size<=1000000000/\a.cols.length<=n/\a.deps.length<=n/\∀ d∈a.deps,d.frm.length<=n
theorem IN(h:qP:=by
 refine Qr ?_;rw [HX0.o];exact ⟨rfl,rfl⟩):qP:=h
theorem GI(h:qP:=by rw [hg3];exact Al):qP:=h
theorem Ge(h:qP:=by have:=hm.2;omega):qP:=h
theorem Bq(h:qP:=by have:=HG2.o;omega):qP:=h
theorem As(a:Abs)(A D:OA)(c e:Nat)(w:World)(S:NP)(hA:Strs w S A a.cols)(hD:RDeps w S D a.deps)(ht:Tens w)(hz:AbN 1000000 a) :
  Cl 37 #[(Aq a A c D e)] w (Eh w S (AX a)):=by
 obtain ⟨hz1,hz2,f2,hz4,-⟩:=hz;obtain ⟨wa,a8⟩:=eqx ((w.alloc (.cells (Ap a A c D e) 36)).alloc (.cells Az 36));obtain ⟨g1,hg1⟩:=eqx w.heap.size;obtain ⟨g2,hg2⟩:=eqx (w.heap.size+1);have g6:Ext w wa:=(by rw [a8];exact (exaa w).alloc _);have hb1:Blk wa g1 36 (Ap a A c D e):=(by rw [a8,hg1];exact (Blk.new _ _ _).keep ((exaa _).kept _));have hb2:Blk wa g2 36 Az:=(by rw [a8,hg2];exact H6A _ _ _ _);obtain ⟨HWA,HG1,HG2,HXA,f1,i2,HA,HD⟩:=Hd8 a8 hg1 hg2 g6 hb1 hb2 (hA.mono (T:=λb=>S b/\b<w.heap.size) λi hi hs=>⟨hs,hi⟩) (hD.mono (T:=λb=>S b/\b<w.heap.size) λi hi hs=>⟨hs,hi⟩);have HT:=Hd ht;clear a8 hg1 hg2 g6 hb1 hb2 hA hD ht
 go_enter func37,ntmps37
 go_upto_region 1 with fail
 rw [<-HWA.o,<-HG2.o,<-HG1.o]
 go_wp2_with fail
 refine (Hk _).mono ?_;rintro e1 w1 ⟨rfl,hx1⟩;rename_i K1 hK1 K2 hK2;refine hK2 _ _ ?_;refine Ag rfl rfl ?_;obtain ⟨g3,hg3⟩:=eqx w1.heap.size;rw [<-hg3];refine AM rfl 36 _ _ rfl g3 (Ap noneA none 0 none 0) rfl rfl 36 _ (show Blk (w1.alloc (.cells Az 36)) g3 36 Az by rw [hg3];exact Blk.new _ _ _) AH rfl AD ?_;intro w2 Y f8;have hx2:Ext w1 w2:=(exaa w1).only f8 GI;have HX1:=Hd (HXA.o.trans hx1);have hk2:=hx1.trans hx2;have q17:w2.cell? ⟨g1,17,none⟩=some (.bool a.errs):=(f1.o.keep (hk2.kept _)).q17;have r17:w2.cell? ⟨g3,17,none⟩=some (.bool noneA.errs):=Y.q17;have rf:=Y.frozen;have rl:=Y.lt;obtain ⟨HB3,HX2,HG3,b0,HB21⟩:=Hd5 Y hx2 hg3 (f1.o.keep (hx1.kept _)) (i2.o.keep (hx1.kept _));refine hK1 _ _ ?_;clear hK1 hK2 Y f8 hx1 hx2 hk2 hg3
 go_upto_region 3 with fail
 obtain ⟨w3,b4⟩:=eqx (w2.setCell ⟨g3,17,none⟩ (.bool a.errs));rw [<-b4];have HX3:=Hd (show Ext w1 w3 by rw [b4];exact HX2.o.set2 (Bl HG3.o) _);have f0:=Hd (show Blk w3 g3 36 (Ap (DL a 0) none 0 none 0) by
  rw [b4,YU];have hbb:=HB3.o.set 17 (.bool a.errs)
  simpa using hbb)
 clear b4 q17 r17 rf rl;have K0:=Hd (b0.o.q0);go_wp2
 go_loopw [9] (λi wr=>∃ (k:Nat) (s:Abs) (A':OA) (c':Nat) (D':OA) (e':Nat),k<=6/\i=.I k/\s=DL a k/\Ext w1 wr/\Blk wr g3 36 (Ap s A' c' D' e')/\AbM wr (λb=>((S b/\b<w.heap.size)\/w1.heap.size<=b)/\b≠g3) s A' c' D' e') (λi _=>6-(intOf i).toNat)
 case atStart=>exact ⟨0,DL a 0,none,0,none,0,AA,rfl,rfl,HX3.o,f0.o,AbM.nil (Ws a AA)⟩
 case round =>
  clear f0 HX3 HB3 HX2;obtain ⟨k,s,A',c',D',e',hk,rfl,hs,hext,Z,f3⟩:=hrel;obtain ⟨HS,HE,b3,HAB⟩:=Hd4 hs hext Z f3;clear hs hext Z f3;by_cases hlt:k<6
  ·have hlt':(k:Int)<6:=AA;obtain ⟨p2,hp2⟩:=eqx ((2^k:Nat):Int);have HBI:=Hd (show ∀ J,Cl 32 #[.I (k:Int)] J (Bk J p2) from λJ=>by rw [hp2];exact At k AA J);have O:=Mp a.kinds k AA;rw [<-hp2] at O;obtain ⟨x,hx⟩:=eqx (bits .and .i64 a.kinds p2);rw [<-hx] at O;have d4:=Hd O;have HP2:=Hd hp2;have hbx:bits .and .i64 a.kinds p2=x:=hx.symm;clear O hp2 hx;by_cases hk0:k=0
   ·subst hk0
    go_upto_region 6 with fail
    refine Qa (λ_ _=>False) [] ?_
    iterate 3 refine Qp ?_
    iterate 6 refine Qn ?_
    iterate 2 refine Qp ?_
    iterate 3 refine Qn ?_
    refine Qp ?_;intro V F w9 hR hG;refine Qx ?_;have HXN:=Hd (show Ext wr w9 from hR.ext0 (λ_ _ _ h=>h.elim));clear hR hG;go_wp2;go_roundw
    case rel=>exact ⟨1,s,A',c',D',e',AA,AE,by rw [HS.o,B6A],HE.o.trans HXN.o,b3.o.keep (HXN.o.kept _),HAB.o.keep (HXN.o.kept _)⟩
    case measure=>simp [intOf]
   ·have HNE:=Hd (show ((k:Int) != 0)=true by simpa using hk0);have f7:=Hd (DlA a k AA AA);by_cases hxz:x=0
    ·have U:bt a.kinds k=false:=(by rw [<-d4.o,hxz];rfl);have HCF:=Hd (show DL a (k+1)=DL a k by rw [f7.o,U,Bool.false_and,if_neg AC]);have HX0:=Hd (show (x != 0)=false by rw [hxz];rfl);clear U hxz
     go_upto_region 6 with fail
     refine Qa (λ_ _=>False) [] ?_;refine Qp ?_;refine Qm (λV F J L hR hN hp hρ zs zg=>by
      refine Qr ?_;rw [HNE.o];exact ⟨rfl,rfl⟩) ?_
     iterate 2 refine Qp ?_
     refine Qm (λV F J L hR hN hp hρ zs zg=>by
      have hxx:=hR.o.ext0 (λ_ _ _ h=>h.elim);have m0:=(HE.o.trans hxx).cell K0.o;clear hxx;exact Qk) ?_
     refine Qp ?_;refine Qc (λJ=>HBI.o J) ?_;refine Qp ?_;refine Qm (λV F J L hR hN hp hρ zs zg=>by
      exact IN) ?_
     iterate 2 refine Qp ?_
     iterate 3 refine Qn ?_
     refine Qp ?_;intro V F w9 hR hG;refine Qx ?_;have HXN:=Hd (show Ext wr w9 from hR.ext0 (λ_ _ _ h=>h.elim));clear hR hG;go_wp2;go_roundw
     case rel=>exact ⟨k+1,s,A',c',D',e',AA,AE,by rw [HS.o,HCF.o],HE.o.trans HXN.o,b3.o.keep (HXN.o.kept _),HAB.o.keep (HXN.o.kept _)⟩
     case measure=>simp [intOf];omega
    ·have U:bt a.kinds k=true:=(by rw [<-d4.o];simpa using hxz);have HX0:=Hd (show (x != 0)=true by simpa using hxz);obtain ⟨pb,d9⟩:=eqx (Bw a k);obtain ⟨r1,b6⟩:=eqx (Dp a k s);have b7:=HS.o;have d8:s.cols=[]/\s.deps=[]:=(by rw [b7];exact Ws a AA);have hw1:=HX1.o.size;have hg3e:=HG3.o;obtain ⟨d5,HKK,f9⟩:=Hd3 (b0.o.lt) (show r1.kinds=s.kinds by rw [b6];exact CZA a k s) (show DL a (k+1)=if pb=true then { r1 with kinds:=bits .or .i64 s.kinds p2 } else s by rw [f7.o,U,Bool.true_and,d9,b6,b7,HP2.o]);have HTK:=Hd (show ∀ J,Ext w1 J->Blk J g3 36 (Ap s A' c' D' e')->Cl 92 #[.pointer (some ⟨g3,0,none⟩),(Aq a A c D e),.I (k:Int)] J (D0A J w1 (λb=>S b/\b<w.heap.size) g3 A' c' D' e' pb r1 s) from λJ hx' hb'=>by
      rw [d9,b6];exact DPA a s A D A' D' c e c' e' g3 k J w1 AA AA hx' AA hb' _ (λb hb=>by have:=hb.2;omega) (HA.o.keep ((HX1.o.trans hx').kept _)) (HD.o.keep ((HX1.o.trans hx').kept _)) f2 hz4 hz1 hz2 (HT.o.ext HX1.o) d8 (λh4=>by rw [b7];exact GNA a h4))
     obtain ⟨HCT,d6,i4⟩:=Hd3 d8 (show w.heap.size<=w1.heap.size/\g3=w1.heap.size by omega) (b0.o.keep (HE.o.kept _));clear U d9 b6 b7 d8 hw1 hg3e hxz
     go_upto_region 6 with fail
     refine Qa (λm b=>m=1013/\w1.heap.size<=b) [(10,[1013]),(11,[1013]),(12,[1013]),(13,[1013])] ?_;refine Qp ?_;refine Qm (λV F J L hR hN hp hρ zs zg=>by
      refine Qr ?_;rw [HNE.o];exact ⟨rfl,rfl⟩) ?_
     iterate 2 refine Qp ?_
     refine Qm (λV F J L hR hN hp hρ zs zg=>by
      have hkk:=hR.o.kept0 (S:=λb=>b<w1.heap.size) (λb _ (hb:b<w1.heap.size) m hm=>Ge);have m0:=Kept.cell hkk d5.o (HE.o.cell K0.o);clear hkk;exact Qk) ?_
     refine Qp ?_;refine Qc (λJ=>HBI.o J) ?_;refine Qp ?_;refine Qm (λV F J L hR hN hp hρ zs zg=>by
      exact IN) ?_
     iterate 2 refine Qp ?_
     apply H9A (LZ.refl _) AG
     ·intro V F J L hR hN hp hρ hc hf hg;refine ⟨by show (NM (V 10)==some true)=true;rw [show V 10=.bool true from hp 10 AB];rfl,?_⟩;have e1:=hρ 1;(conv at e1=>rhs;whnf);have hb1:=i4.o.keep (hR.kept0 (S:=λb=>b=g1) (λb _ e m hm=>by have:=hm.2;have:=d5.o;omega));exact FI rfl e1 hb1 AS AH ⟨rfl,rfl⟩
     ·rfl
     refine Qp ?_;refine Qs (FP λv F J=>v=.bool pb/\F 1013=true/\CnQ g3 (λb=>((S b/\b<w.heap.size)\/w1.heap.size<=b)/\b≠g3) r1 s A' c' D' e' pb J) (H1A ?_) ?_ ?_
     ·rintro v F wx γ' wy rr ⟨h1,h2,h3⟩;exact ⟨h1,rr.done _ h2,h3.keep (rr.keptS λb _ _ m hm=>MF)⟩
     ·intro V F J L hR hN hp hρ zs zg;have hk0:=hN.o.key (k:=1013) AB;have Z:=b3.o.keep (hR.o.kept0 (S:=λb=>b=g3) λb _ e m hm=>CF);have g0:Ext w1 J:=Au HE.o (hR.o.buts (S:=λb=>w1.heap.size<=b) (λm b _ hm _=>hm.2)) (λb hb=>hb);obtain ⟨HXW,f5,HK⟩:=Hd3 g0 Z hk0;clear hk0 Z g0 hp;refine Qr ?_;refine (HTK.o J HXW.o f5.o).mono ?_;rintro e1 w3 ⟨he,hx3,f2,hy,hn⟩;have b8:=d6.o;have hlt3:=f5.o.lt;refine ⟨_,he,F.put 1013,H2A HK.o (hx3.os.trans HXW.o.os.symm) (hx3.tape.trans HXW.o.tape.symm) (hx3.output.trans HXW.o.output.symm) f2 (λb hb hm => ?_),LK.done AB,rfl,AU,λhp => ?_,hn⟩
      ·have hlt:b<w1.heap.size:=Nat.lt_of_not_le λh=>hm ⟨rfl,h⟩;rw [hx3.block b hlt,HXW.o.block b hlt]
      ·obtain ⟨A2,c2,D2,e2,h1,h2⟩:=hy hp;refine ⟨A2,c2,D2,e2,h1,h2.mono λb _ hb => ?_⟩
       rcases hb with hb|hb
       ·exact ⟨.inl hb,by have:=hb.2;omega⟩
       ·exact ⟨.inr (by have:=HXW.o.size;omega),AA⟩
     refine Qm (λV F J L hR hN hp hρ zs zg=>by
      have e25:L (.tmp 25)=_:=(hρ.o 25).trans (hp.o 13 AB).1;exact Qk) ?_
     intro V F w9 hR hG;obtain ⟨g8,-,d3⟩:=hG 13 AB;refine Qx ?_;simp only [g8];clear g8;have HXN:=Hd (show Ext w1 w9 from Au HE.o (hR.buts (S:=λb=>w1.heap.size<=b) (λm b _ hm _=>hm.2)) (λb hb=>hb));have HQ:=Hd d3;clear hR hG d3;cases pb
     ·have HCF:=Hd (show DL a (k+1)=s by rw [f9.o,if_neg AC]);go_wp2;go_roundw
      case rel=>exact ⟨k+1,s,A',c',D',e',AA,AE,HCF.o.symm,HXN.o,HQ.o.2 rfl,AbM.nil HCT.o⟩
      case measure=>simp [intOf];omega
     ·obtain ⟨A2,c2,D2,e2,hb9,d7⟩:=HQ.o.1 rfl;have b5:=Hd hb9;have a9:=Hd d7;obtain ⟨y,hy⟩:=eqx (bits .or .i64 r1.kinds p2);obtain ⟨s9,f4⟩:=eqx ({ r1 with kinds:=y });have HCF:=Hd (show DL a (k+1)=s9 by rw [f9.o,if_pos rfl,f4,hy,HKK.o]);have g4:=Hd f4;have hor:bits .or .i64 r1.kinds p2=y:=hy.symm;clear hb9 d7 hy f4
      go_upto_region 7 with fail
      refine Qa (λm b=>m=1006/\b=g3) (lk 7 [1006]) ?_;refine Qp ?_;refine Qm (λV F J L hR hN hp hρ zs zg=>by
       have hk0:=hN.o.key (k:=1006) AB;have hbx:=b5.o.keep (hR.o.kept0 (S:=λb=>b=g3) λb _ e m hm=>CF);have m0:=hbx.q0;clear hk0 hbx;exact Qk) ?_
      refine Qp ?_;refine Qc (λJ=>HBI.o J) ?_
      iterate 2 refine Qp ?_
      refine Qs (λ_ F J=>Blk J g3 36 #[.I y,.I r1.tx.least,.I r1.tx.most,.I r1.tx.cls,.string r1.tx.b,.string r1.tx.e,.I r1.nu.ln,.I r1.nu.ls,.I r1.nu.hn,.I r1.nu.hs,.I r1.dl,.I r1.dh,.I r1.bo,.I r1.rl,.I r1.rh,.slice A2 r1.cols.length c2,.slice D2 r1.deps.length e2,.bool r1.errs]/\F 1006=true) ?_ ?_ ?_
      ·rintro l F wx γ' wy rr ⟨h1,h2⟩;exact Qi
      ·intro V F J L hR hN hp hρ zs zg;have hk0:=hN.o.key (k:=1006) AB;have hbx:=b5.o.keep (hR.o.kept0 (S:=λb=>b=g3) λb _ e m hm=>CF);have HB0:=Hd hbx;have HK:=Hd hk0;have q0:=hbx.q0;have qf:=hbx.frozen;have ql:=hbx.lt;clear hk0 hbx;refine Qr ?_;refine ⟨F.put 1006,H2A HK.o rfl rfl rfl Y78171d3d0 (λb hb hm=>(Only.set (Only.refl g3 J) 0 (.I y)).block b λe=>hm ⟨rfl,e⟩),LK.done AB,?_,AU⟩;have hb1:=HB0.o.set 0 (.I y)
       simpa using hb1
      intro V F w10 hR hG;refine Qx ?_;obtain ⟨f6,-⟩:=hG 6 AB;have HBM:=Hd f6;have b8:=d6.o;have HKM:=Hd (hR.kept0 (S:=λb=>((S b/\b<w.heap.size)\/w1.heap.size<=b)/\b≠g3) (λb _ hb m hm=>absurd hm.2 hb.2));have HXM:=Hd (show Ext w1 w10 from Au HXN.o (hR.buts (S:=λb=>b=g3) (λm b _ hm _=>hm.2)) (λb hb=>AA));clear hR hG f6 b8;go_wp2;go_roundw
      case rel =>
       refine ⟨k+1,s9,A2,c2,D2,e2,AA,AE,HCF.o.symm,HXM.o,?_,?_⟩
       ·have hbb:=HBM.o;rw [g4.o];exact hbb
       ·rw [g4.o];exact a9.o.keep HKM.o
      case measure=>simp [intOf];omega
  ·obtain rfl:k=6:=AA;have HS6:=Hd (show s=AX a by rw [HS.o,B1A]);have i3:=Hd (HB21.o.keep (HE.o.kept _))
   go_upto_region 9 with fail
   refine wp_region_lit ?_;refine AJ rfl 36 _ rfl g3 rfl b3.o AS AH ?_;refine AM rfl 36 _ _ rfl g2 (Ap s A' c' D' e') rfl rfl 36 _ i3.o AH rfl AD ?_;intro w9 hb9 b9;refine wpList_nil ?_;have hg2l:=HB21.o.lt;obtain ⟨HX9,a9,b5⟩:=Hd3 ((HX1.o.trans HE.o).only b9 Bq) (HAB.o.keep (b9.kept (S:=λb=>((S b/\b<w.heap.size)\/w1.heap.size<=b)/\b≠g3) λb _ hb e=>by have:=HG2.o;rcases hb.1 with h|h;(have:=h.2;omega);omega)) hb9;clear hb9 b9 hg2l;go_wp2;refine bodyPost_ret (Bv results37 rfl (Eq b5.o AS AH)) rfl ?_;rw [<-HS6.o];exact ⟨A',c',D',e',rfl,a9.o.mono λb _ hb=>hb.1.imp And.left λh=>by have:=HX1.o.size;omega,HX9.o⟩

def ShN(n:Nat)(a:Sh):Prop:=a.b.size<=n/\a.e.size<=n
theorem IGA(n:Nat):ShN n H3A:=⟨AN,AN⟩
theorem ShN.join{a b:Sh}(ha:ShN n a)(hb:ShN n b):ShN n (BW a b):=by
 unfold BW;split
 ·split
  ·exact IGA n
  ·exact hb
 ·split
  ·exact ha
  ·constructor
   ·show (bA _).size<=n;rw [EH];have h1:=(FK a.B b.B).length_le;have h2:a.B.length=a.b.size:=G6 a;have:=ha.1;omega
   ·show (bA _).size<=n;rw [EH];have h1:=(J8 a.E b.E).length_le;have h2:a.E.length=a.e.size:=F1 a;have:=ha.2;omega
theorem ShN.meet{a b:Sh}(ha:ShN n a)(hb:ShN n b):ShN n (DN a b):=by
 have hm:ShN n (CY a b):=by
  unfold CY;constructor
  ·show (if a.b.size<b.b.size then b.b else a.b).size<=n;split
   ·exact hb.1
   ·exact ha.1
  ·show (if a.e.size<b.e.size then b.e else a.e).size<=n;split
   ·exact hb.2
   ·exact ha.2
 unfold DN;split
 ·exact IGA n
 ·split
  ·exact hm
  ·exact IGA n
theorem AbN.sh(h:AbN n a):ShN 1000000000 a.tx:=⟨h.1,h.2.1⟩
theorem AbN.mono(h:AbN n a)(hm:n<=m):AbN m a:=⟨h.1,h.2.1,Nat.le_trans h.2.2.1 hm,Nat.le_trans h.2.2.2.1 hm,λd hd=>Nat.le_trans (h.2.2.2.2 d hd) hm⟩
theorem U8{α:Type} [DecidableEq α](l:List α):(ddp l).length<=l.length:=by
 exact QO
theorem AbN.can(h:AbN n a):AbN n (AX a):=by
 have h1:=h.sh.join h.sh;have ht:ShN 1000000000 (AX a).tx:=by
  show ShN _ (if pT a=true then BW a.tx a.tx else H3A);split
  ·exact h1
  ·exact IGA _
 refine ⟨ht.1,ht.2,?_,?_,?_⟩
 ·show (if pR a=true then An (ddp a.cols) else []).length<=n;split
  ·rw [WV];exact Nat.le_trans (U8 _) h.2.2.1
  ·exact AN
 ·show (if pR a=true then ddp a.deps else []).length<=n;split
  ·exact Nat.le_trans (U8 _) h.2.2.2.1
  ·exact AN
 ·show ∀ d∈(if pR a=true then ddp a.deps else []),d.frm.length<=n;split
  ·exact λd hd=>h.2.2.2.2 d ((IT _ _).1 hd)
  ·intro d hd;cases hd
theorem BQ(h:qP:=by cases hd):qP:=h
theorem ISA(n:Nat):AbN n noneA:=⟨AN,AN,AN,AN,λd hd=>BQ⟩
theorem AbN.joinRaw(h:AbN n x)(k:AbN m y):AbN (n+m) (F7 x y):=by
 have ht:ShN 1000000000 (BW x.tx y.tx):=h.sh.join k.sh;refine ⟨ht.1,ht.2,?_,?_,?_⟩
 ·show (EE x y).length<=n+m;have:=h.2.2.1;have:=k.2.2.1;unfold EE;split
  ·omega
  ·split
   ·omega
   ·have:=List.length_filter_le (Aw y.cols) x.cols;omega
 ·show (BJ x y).length<=n+m;have:=h.2.2.2.1;have:=k.2.2.2.1;unfold BJ;split
  ·omega
  ·split
   ·omega
   ·have:=List.length_filter_le (V6 y) x.deps;have:=List.length_filter_le (V6 x) y.deps;rw [List.length_append];unfold DK;omega
 ·show ∀ d∈BJ x y,d.frm.length<=n+m;intro d hd;have hh:d∈x.deps\/d∈y.deps:=by
   unfold BJ at hd;split at hd
   ·exact .inr hd
   ·split at hd
    ·exact .inl hd
    ·rcases List.mem_append.1 hd with hd|hd
     ·exact .inl (List.mem_filter.1 hd).1
     ·exact .inr (List.mem_filter.1 hd).1
  rcases hh with hh|hh
  ·have:=h.2.2.2.2 d hh;omega
  ·have:=k.2.2.2.2 d hh;omega
theorem AbN.join(h:AbN n a)(k:AbN m b):AbN (n+m) (Fk a b):=(h.can.joinRaw k.can).can
theorem AbN.meetRaw(h:AbN n x)(k:AbN m y):AbN (n+m) (I1 x y):=by
 have ht:ShN 1000000000 (DN x.tx y.tx):=h.sh.meet k.sh;refine ⟨ht.1,ht.2,?_,?_,?_⟩
 ·show (x.cols++y.cols).length<=n+m;have:=h.2.2.1;have:=k.2.2.1;rw [List.length_append];omega
 ·show (x.deps++y.deps).length<=n+m;have:=h.2.2.2.1;have:=k.2.2.2.1;rw [List.length_append];omega
 ·show ∀ d∈x.deps++y.deps,d.frm.length<=n+m;intro d hd
  rcases List.mem_append.1 hd with hh|hh
  ·have:=h.2.2.2.2 d hh;omega
  ·have:=k.2.2.2.2 d hh;omega
theorem AbN.meet(h:AbN n a)(k:AbN m b):AbN (n+m) (Gq a b):=(h.can.meetRaw k.can).can
theorem CnA(n:Nat):∀ s∈Fz n,s.length<=2:=by
 intro s hs;unfold Fz at hs
 rcases List.mem_append.1 hs with hs|hs
 ·rcases List.mem_append.1 hs with hs|hs
  ·rw [List.mem_singleton.1 hs];simp
  ·obtain ⟨i,_,rfl⟩:=List.mem_map.1 hs;simp
 ·obtain ⟨i,_,hs⟩:=List.mem_flatMap.1 hs;unfold GW at hs;obtain ⟨j,_,rfl⟩:=List.mem_map.1 hs;simp
theorem WA(cols:List BA)(s:List Int)(n:Nat):(Ch cols s n).length<=n:=by
 exact QW
theorem WY(cols:List BA)(rows:List (List Val)):∀ (l:List (List Int)) (st:List (List Int) × List Dep),(∀ s∈l,s.length<=2)->(∀ d∈st.2,d.frm.length<=2)->(∀ d∈(l.foldl (BN cols rows) st).2,d.frm.length<=2)/\(l.foldl (BN cols rows) st).2.length<=st.2.length+l.length*cols.length
 |[],st,_,h=>⟨h,AC⟩
 |s::m,st,hl,h=>by
  rw [List.foldl_cons];have hm:∀ x∈m,x.length<=2:=λx hx=>hl x (List.mem_cons_of_mem _ hx);have hs:(∀ d∈(BN cols rows st s).2,d.frm.length<=2)/\(BN cols rows st s).2.length<=st.2.length+cols.length:=by
   unfold BN;split
   ·exact ⟨h,AA⟩
   ·split
    ·exact ⟨h,AA⟩
    ·refine ⟨λd hd => ?_,?_⟩
     ·rcases List.mem_append.1 hd with hd|hd
      ·exact h d hd
      ·unfold Ch at hd;obtain ⟨c,_,rfl⟩:=List.mem_map.1 hd;show (Dd cols s).length<=2;unfold Dd;rw [List.length_map];exact hl s AC
     ·show (st.2++Ch cols s cols.length).length<=_;rw [List.length_append];have:=WA cols s cols.length;omega
  obtain ⟨g1,g2⟩:=WY cols rows m _ hm hs.1;refine ⟨g1,?_⟩;rw [List.length_cons,Nat.add_mul,Nat.one_mul];omega
theorem GaA(h:n<=8):(Fz n).length<=37:=by
 have:n=0\/n=1\/n=2\/n=3\/n=4\/n=5\/n=6\/n=7\/n=8:=AA
 rcases this with rfl|rfl|rfl|rfl|rfl|rfl|rfl|rfl|rfl<;>decide
theorem Ju(cols:List BA)(rows:List (List Val))(h:cols.length<=8):(Co cols rows).length<=300/\∀ d∈Co cols rows,d.frm.length<=2:=by
 unfold Co;split
 ·exact ⟨AN,λd hd=>BQ⟩
 ·obtain ⟨g1,g2⟩:=WY cols rows (Fz cols.length) ([],[]) (CnA _) (λd hd=>BQ);refine ⟨?_,g1⟩;have h1:=GaA h;have h2:(Fz cols.length).length*cols.length<=37*8:=Nat.mul_le_mul h1 h;have h3:(([],[]):List (List Int) × List Dep).2.length=0:=rfl;omega

def UpN(N:Nat)(v:Value):Prop:=∃ g,v=.pointer (some ⟨g,0,none⟩)/\N<=g
theorem BY{K:Value->World->Prop}(ty:TypeId){x y:Operand}(ho:o.op=.store ty x y)(hx:L x=.pointer (some ⟨g,0,none⟩)){cells:Array Value}(hy:L y=.agg cells)
  {t:TypeId} {old:Array Value} (hb:Blk w g t old) (hi:(P.info? ty).map (·.size)=some cells.size) (hold:old.size=cells.size) (h1:cells.all (·.oneCell')=true)
  (h:∀ J,Blk J g t cells->Only g w J->K undef J):Bu P K ((execOp L o).run P w):=by
 have hh:K undef (w.setRow g cells):=h _ (setRow_heap w g old cells t _ hb) ⟨rfl,rfl,rfl,setRow_size _ _ _,λb hb=>by
  exact UA⟩
 unfold execOp;simp only [ho,hx,hy,Instr.storeAt,Instr.sureAddr,Sem.run_bind,Sem.run_pure,Result.andThen_ok,run_storeVar_row w g t ty old cells hb hi hold h1];exact hh
theorem AZ{a:Act}(hw:Region.wanted o (yielded ops a.tmps)=true)(v:Value)(hr:(execOp a.eval o).run P w=.ok (.value v) J)
  (h:wpList P ops Q rest (a.put o.dst v) J):wpList P ops Q (o::rest) a w:=by
 refine wpList_step λK hK => ?_;rw [if_pos hw];unfold Oper.wp;rw [hr];exact hK _ _ h
def JoP(N:Nat)(T:NP)(s:Abs)(v:Value)(J:World):Prop:=∃ (A:OA) (c:Nat) (D:OA) (e:Nat),v=(Aq s A c D e)/\AbM J (λb=>T b\/N<=b) s A c D e
abbrev S9(T:Nat->Prop)(N:Nat)(w9:World):Nat->Prop:=λb=>(T b\/N<=b)/\b<w9.heap.size
def FlD(ws:World)(S:NP)(l:List Dep)(v:Value)(F:Gz)(J:World):Prop:=∃ (A:OA) (c:Nat),v=.slice A l.length c/\l.length<=c/\(F 1008=false->OwnDs J ws.heap.size S A c l)
def FlE(ws:World)(S:NP)(l1 l2:List Dep)(p v:Value)(F:Gz)(J:World):Prop:=∃ (A:OA) (c:Nat) (A2:OA) (c2:Nat),p=.slice A l1.length c/\v=.slice A2 l2.length c2/\l2.length<=c2/\(F 1008=false->OwnDs J ws.heap.size S A c l1/\RDeps J (λb=>(S b\/ws.heap.size<=b)/\ob A≠some b) A2 l2)
def FlF(ws:World)(X:NP)(l:List Dep)(n:Nat)(v:Value)(F:Gz)(J:World):Prop:=∃ (A:OA) (c:Nat),v=.slice A n c/\F 1008=true/\OwnDs J ws.heap.size X A c l
def FlG(n:Nat)(Q:World->Value->Prop)(v:Value)(F:Gz)(J:World):Prop:=∃ (A:OA) (c:Nat),v=.slice A n c/\Q J (.slice A n c)/\F 1010=true
theorem AbM.tov(h:AbM w S a A c D e)(h1:b.cols=a.cols)(h2:b.deps=a.deps):AbM w S b A c D e:=by
 unfold AbM at h|-;rw [h1,h2];exact h
def JoR(g5 N:Nat)(T:NP)(w9 w10:World)(r:Abs)(wx:World):Prop:=∃ (A:OA) (c:Nat) (D:OA) (e:Nat),Blk wx g5 36 (Ap r A c D e)/\AbM wx (λb=>S9 T N w9 b\/w10.heap.size<=b) r A c D e/\Ext w9 wx
def JoB(g N:Nat)(T:NP)(s:Abs)(J:World):Prop:=∃ (A:OA) (c:Nat) (D:OA) (e:Nat),Blk J g 36 (Ap s A c D e)/\AbM J (λb=>T b\/N<=b) s A c D e

theorem Iq:(match prog.underlying 40 with|some (.struct _)|some (.array _ _)=>true|_=>false)=true:=by kernel_rfl
theorem GA:(prog.info? 40).map (·.size)=some 7:=by kernel_rfl
