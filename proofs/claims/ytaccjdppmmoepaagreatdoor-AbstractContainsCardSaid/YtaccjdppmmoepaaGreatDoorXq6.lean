/- Lemmas. No conditions. -/
import Derived.Test.YtaccjdppmmoepaaGreatDoorXq5
import Derived.WalkLawsBesides
import Derived.Sort.Walk0
import Derived.Lib.Bytealg
import Derived.Deep.DeepCutAuto
import Derived.Laws.EntriesVeiled
set_option maxRecDepth 100000
set_option maxHeartbeats 4000000
namespace Go.Proofs.YtaccjdppmmoepaaGreatDoor
open Go Go.RowKit Tryz
variable {qP:Prop}{V_ cy g i j k s:Nat}{m qs rest u v:List Nat}{w:World}

theorem Tm(h:qP:=by
 have:=Nat.mul_le_mul_right q (show b.toNat+1<=a.toNat from hab);rw [Nat.add_mul] at this;omega):qP:=h
theorem Xi:∀ l m:List UInt8,l.length=m.length->(Op.bytesLess l m=decide (nvl l<nvl m))
 |[],[],_=>by simp [Op.bytesLess]
 |a::l,b::m,h=>by
  have hl:l.length=m.length:=BU;have ih:=Xi l m hl;have h1:=Io l;have h2:=Io m;rw [hl] at h1;simp only [Op.bytesLess,ih,GR,hl];generalize 256^m.length=q at *;rw [Bool.eq_iff_iff];simp only [Bool.or_eq_true,Bool.and_eq_true,decide_eq_true_eq,beq_iff_eq];constructor
  ·rintro (hab|⟨rfl,O⟩)
   ·have hab:a.toNat+1<=b.toNat:=UInt8.lt_iff_toNat_lt.1 hab;have:=Nat.mul_le_mul_right q hab;rw [Nat.add_mul] at this;omega
   ·omega
  ·intro hlt
   rcases Nat.lt_trichotomy a.toNat b.toNat with hab|hab|hab
   ·exact .inl (UInt8.lt_iff_toNat_lt.2 hab)
   ·refine .inr ⟨UInt8.toNat_inj.1 hab,?_⟩;rw [hab] at hlt;omega
   ·exfalso;exact Tm
def Fv(x y:Nat):Int:=if x<y then -1 else if y<x then 1 else 0
theorem Zz{s t:BA}(h:s.size=t.size):∀ (_:AO s=AO t),(s.toList==t.toList)=true:=by
 intro hv;have key:∀ l m:List UInt8,l.length=m.length->nvl l=nvl m->l=m:=by
  intro l
  induction l with
  |nil=>intro m hl _;cases m with|nil=>rfl|cons=>simp at hl
  |cons a l ih =>
   intro m hl hv;cases m with
   |nil=>simp at hl
   |cons b m =>
    have hl2:l.length=m.length:=GJ;have h1:=Io l;have h2:=Io m;rw [GR,GR,hl2] at hv;rw [hl2] at h1;generalize 256^m.length=q at *;have hab:a.toNat=b.toNat:=by
     rcases Nat.lt_trichotomy a.toNat b.toNat with hab|hab|hab
     ·have:=Nat.mul_le_mul_right q (show a.toNat+1<=b.toNat from hab);rw [Nat.add_mul] at this;omega
     ·exact hab
     ·exact Tm
    rw [hab] at hv;rw [UInt8.toNat_inj.1 hab,ih m hl2 AA]
 have e1:s.toList=s.data.toList:=(by rw [ByteArray.toList_eq]);have e2:t.toList=t.data.toList:=(by rw [ByteArray.toList_eq]);rw [e1,e2];have:=key s.data.toList t.data.toList BU hv;simp [this]

theorem U4(h:qP:=by
 have hne:((r.size:Int) != (s.size:Int))=true:=(by rw [bne_iff_ne];omega);exact Bf):qP:=h
theorem TO(h:qP:=by
 clear hl hl2 heq h1 h2;exact Bf):qP:=h
theorem XI(a b:BA)(ha:a.size<=4294967296)(hb:b.size<=4294967296)(w:World):Cl 209 #[.string a,.string b] w (λe J=>e=.returned (.I (Fv (AO a) (AO b)))/\w=J):=by
 go_enter func209,ntmps209
 go_wp2_with fail
 refine (DJ a ha _).mono ?_;rintro e1 w1 ⟨r,⟨rfl,rfl⟩,hv,hc,hsz⟩;have HV:=Hd hv;have HC:=Hd hc;have hr:r.size<=4294967296:=AA;clear hv hc hsz
 go_wp2_with fail
 refine (DJ b hb _).mono ?_;rintro e2 w2 ⟨s,⟨rfl,rfl⟩,Z,U,a8⟩;have O:=Hd Z;have Y:=Hd U;have hs:s.size<=4294967296:=AA;clear Z U a8
 rcases Nat.lt_trichotomy r.size s.size with hlt|heq|b0
 ·have HF:=Hd (show Fv (AO a) (AO b)=-1 by
   rw [<-HV.o,<-O.o];unfold Fv;rw [if_pos];have h1:=(Ep HC.o (k:=r.size)).1 (Al);have h2:=(Ep Y.o (k:=r.size));omega)
  exact U4
 ·have hne:((r.size:Int) != (s.size:Int))=false:=(by rw [bne_eq_false_iff_eq];omega);have a9:=Hd heq;have hl:=Xi r.toList s.toList (by rw [ByteArray.toList_eq,ByteArray.toList_eq];simpa using heq);rw [ByteArray.toList_eq,ByteArray.toList_eq] at hl;have hl2:Op.bytesLess r.toList s.toList=decide (AO r<AO s):=(by rw [ByteArray.toList_eq,ByteArray.toList_eq];exact hl);by_cases h1:AO r<AO s
  ·have HF:=Hd (show Fv (AO a) (AO b)=-1 by rw [<-HV.o,<-O.o];unfold Fv;rw [if_pos h1]);have hb1:Op.bytesLess r.toList s.toList=true:=(by rw [hl2];simpa using h1);clear hl hl2 heq h1;exact Bf
  ·have hb1:Op.bytesLess r.toList s.toList=false:=(by rw [hl2];simpa using h1);by_cases h2:AO s<AO r
   ·have HF:=Hd (show Fv (AO a) (AO b)=1 by rw [<-HV.o,<-O.o];unfold Fv;rw [if_neg h1,if_pos h2]);have hb2:(r.toList==s.toList)=false:=by
     rw [beq_eq_false_iff_ne];intro e;have:AO r=AO s:=(by unfold AO;rw [<-ByteArray.toList_eq,<-ByteArray.toList_eq,e]);omega
    exact TO
   ·have HF:=Hd (show Fv (AO a) (AO b)=0 by rw [<-HV.o,<-O.o];unfold Fv;rw [if_neg h1,if_neg h2]);have hb2:=Zz heq AA;exact TO
 ·have HF:=Hd (show Fv (AO a) (AO b)=1 by
   rw [<-HV.o,<-O.o];unfold Fv;have h1:=(Ep Y.o (k:=s.size)).1 (Al);have h2:=(Ep HC.o (k:=s.size));rw [if_neg AA,if_pos AA])
  exact U4

theorem NA{l:List Nat}(h:trd l)(hv:Av l<256^60):l.length<=20:=by
 rcases Nat.lt_or_ge 20 l.length with h1|h1
 ·have h2:=B4A h (by intro e;rw [e] at h1;simp at h1);have h3:16777216^20<=16777216^(l.length-1):=Nat.pow_le_pow_right AB AA;have h4:(16777216:Nat)^20=256^60:=(by rw [FgA]);omega
 ·exact h1
def HtA(w:World)(n:Nat)(e:Ending)(J:World):Prop:=∃ r,e=.returned (.tuple #[.string r,.bool true])/\isN r n/\Ext w J
theorem OX(a b:BA)(ha:a.size<=4294967296)(hb:b.size<=4294967296)(hle:AO b<=AO a)(hlt:AO a<256^60)(w:World):Cl 210 #[.string a,.string b] w (HtA w (AO a-AO b)):=by
 have hcm:¬Fv (AO a) (AO b)<0:=(by unfold Fv;split;omega;split<;>omega);have HLE:=Hd hle;have d3:=Hd hlt;clear hle hlt
 go_enter func210,ntmps210
 go_wp2_with fail
 refine (XI a b ha hb _).mono ?_;rintro e1 w1 ⟨rfl,rfl⟩
 go_wp2_with fail
 refine (Na a ha _).mono ?_;rintro e1 w1 ⟨A1,c1,l1,rfl,b4,a9,b8,hc1,b3,hx1⟩;obtain ⟨HI1,b7,HD1,HT1,HX1⟩:=Hd5 b3 b4 a9 b8 hx1;clear b3 b4 a9 b8 hx1
 go_wp2_with fail
 refine (Na b hb _).mono ?_;rintro e2 w2 ⟨A2,c2,l2,rfl,Y,b0,O,hc2,Z,hx2⟩;obtain ⟨HI2,b5,HD2,HT2,HX2,b9⟩:=Hd6 Z Y b0 O (HX1.o.trans hx2) (HI1.o.keep (hx2.kept _));clear Z Y b0 O hx2
 go_wp2_with fail
 refine (ChA l1 l2 A1 A2 c1 c2 _ _ _ b9.o HI2.o HD1.o HD2.o HT2.o (by rw [b7.o,b5.o];exact HLE.o)).mono ?_;rintro e3 w3 ⟨A3,c3,l3,rfl,hv3,U,a8,hc3,b6,hx3⟩;obtain ⟨HI3,HV3,HD3,HX3⟩:=Hd4 b6 (show Av l3=AO a-AO b by rw [hv3,b7.o,b5.o]) U (HX2.o.trans hx3);have hl3:=NA a8 (by rw [HV3.o];exact Nat.lt_of_le_of_lt (Nat.sub_le _ _) d3.o);clear b6 hv3 U a8 hx3
 go_wp2_with fail
 refine (MO l3 A3 c3 _ _ HI3.o HD3.o AA).mono ?_;rintro e4 w4 ⟨r,rfl,h1,h2,h3,hx4⟩;have H1:=Hd (show isN r (AO a-AO b) from ⟨h1.trans HV3.o,h2,h3⟩);have HX4:=Hd (HX3.o.trans hx4);clear h1 h2 h3 hx4;go_wp2;refine bodyPost_ret (v:=.tuple #[.string r,.bool true]) (by simp [results,results210,go_sem]) rfl ⟨r,rfl,H1.o,HX4.o⟩

structure AddI(u v m:List Nat)(k cy:Nat):Prop where
 len:m.length=k
 eq:Av (u.take k)+Av (v.take k)=Av m+cy*16777216^k
 ds:dgs m
 bit:cy<=1
 fin:max u.length v.length<k->cy=0
theorem AddI.step(h:AddI u v m k cy)(hu:dgs u)(hv:dgs v)(hs:s=cy+u.getD k 0+v.getD k 0):AddI u v (m++[s % 16777216]) (k+1) (s / 16777216):=by
 have h1:=G8 hu k;have h2:=G8 hv k;have h3:=h.bit;refine ⟨DY,?_,Jj h.ds (Nat.mod_lt _ AB),AA,λhk => ?_⟩
 ·rw [Du,Du,Ex,h.len,Nat.pow_succ];have h4:=h.eq;have e:s=16777216*(s / 16777216)+s % 16777216:=(Nat.div_add_mod _ _).symm;have e2:16777216^k*s=cy*16777216^k+16777216^k*u.getD k 0+16777216^k*v.getD k 0:=(by rw [hs,Nat.mul_add,Nat.mul_add,Nat.mul_comm _ cy]);have e3:16777216^k*s=s / 16777216*(16777216^k*16777216)+16777216^k*(s % 16777216):=by
   exact RX
  omega
 ·have e1:u.getD k 0=0:=(by rw [List.getD_eq_getElem?_getD,List.getElem?_eq_none AA];rfl);have e2:v.getD k 0=0:=(by rw [List.getD_eq_getElem?_getD,List.getElem?_eq_none AA];rfl);rw [e1,e2] at hs;omega
theorem ZW(h:qP:=by
 exact absurd ⟨of_decide_eq_true (hs1.2.symm.trans h1),of_decide_eq_true (hs2.2.symm.trans h2)⟩ hbig):qP:=h
theorem BpA(h:qP:=by
 cases h2:p2
 ·exact .inr ⟨rfl,rfl⟩
 ·exact ZW):qP:=h
theorem UD(h:qP:=by
 cases h1:p1
 ·exact .inl rfl
 ·exact BpA):qP:=h
theorem A1A(h:qP:=by
 refine ⟨k+1,A4,c4,_,_,by omega,HST.o,rfl,by go_num,by go_num,(HX.o.alloc _).grown hg4 λb hb=>(HO.o.blk hb).1,?_⟩;rw [J4]
 simpa using hown4):qP:=h
theorem JM(h:qP:=by
 go_wp2_with (at_builtin;go_must (refine AL rfl (.tmp 74) (.tmp 77) rfl tiI rfl (HO.o.ext (exaa wr)) rfl (Blk.rd (Blk.new _ _ _)) rfl (by simp [Value.oneCell']) (by omega) (by decide) (by simp;omega) ?_);intro A4 c4 w4 hown4 hg4 hat4)
 go_roundw
 case rel =>
  exact A1A
 case measure=>simp [intOf];omega):qP:=h
theorem Ut(h:qP:=by
 rintro e4 w4 ⟨r,rfl,h1,h2,h3,hx4⟩;obtain ⟨H1,H2,HX4⟩:=Hd3 (h1.trans HF.o) h2 (HE.o.trans hx4);clear h1 h2 hx4;go_wp2;go_ret;exact ⟨r,rfl,H1.o,H2.o,h3,HX4.o⟩):qP:=h
theorem IY(h:qP:=by have e1:=HD1.o;have e2:=HD2.o;omega):qP:=h
theorem YG(a b:BA)(ha:a.size<=4294967296)(hb:b.size<=4294967296)(hal:AO a<256^59)(hbl:AO b<256^59)(hbig:¬(AO a<256^7/\AO b<256^7))(w:World):Cl 208 #[.string a,.string b] w (Ng w (AO a+AO b)):=by
 have HBIG:=Hd hbig;obtain ⟨x1,p1,hs1⟩:∃ (x1:Int) (p1:Bool),Gb a 7=.returned (.tuple #[.I x1,.bool p1])/\p1=decide (AO a<256^7):=⟨_,_,rfl,rfl⟩;obtain ⟨x2,p2,hs2⟩:∃ (x2:Int) (p2:Bool),Gb b 7=.returned (.tuple #[.I x2,.bool p2])/\p2=decide (AO b<256^7):=⟨_,_,rfl,rfl⟩;have HS1:=Hd hs1.1;have d4:=Hd hs2.1;have hpp:p1=false\/(p1=true/\p2=false):=by
  exact UD
 have HAL:=Hd hal;have HBL:=Hd hbl;clear hbig hs1 hs2 hal hbl;have main:∀ (Z a9:Bool),p1=Z->p2=a9->(Z=false\/(Z=true/\a9=false))->Cl 208 #[.string a,.string b] w (Ng w (AO a+AO b)):=by
  intro Z a9 e1 e2 hpp;rw [e1] at HS1;rw [e2] at d4;clear e1 e2
  go_enter func208,ntmps208
  go_wp2_with fail
  refine (DH a ha 7 AA _).mono ?_;rintro e1 w1 ⟨he,rfl⟩;rw [HS1.o] at he;subst he
  go_wp2_with fail
  refine (DH b hb 7 AA _).mono ?_;rintro e1 w1 ⟨he,rfl⟩;rw [d4.o] at he;subst he;have hif:∃ z:Bool,z=false/\(Z&&a9)=z:=by
   rcases hpp with rfl|⟨rfl,rfl⟩<;>exact ⟨false,rfl,rfl⟩
  rcases hpp with rfl|⟨rfl,rfl⟩
  all_goals
   clear hif
   go_wp2_with fail
   refine (Na a ha _).mono ?_;rintro e1 w1 ⟨A1,c1,u,rfl,b6,U,d6,b9,d3,hx1⟩;have hul:=NA d6 (by rw [b6];exact Nat.lt_trans HAL.o (Nat.pow_lt_pow_right AB AB));obtain ⟨HU,HV1,a8,HX1⟩:=Hd4 d3 b6 U hx1;clear d3 b6 U d6 hx1
   go_wp2_with fail
   refine (Na b hb _).mono ?_;rintro e2 w2 ⟨A2,c2,v,rfl,b5,O,b7,b0,b8,hx2⟩;have hvl:=NA b7 (by rw [b5];exact Nat.lt_trans HBL.o (Nat.pow_lt_pow_right AB AB));obtain ⟨HV,HV2,Y,HX2,HUb⟩:=Hd5 b8 b5 O (HX1.o.trans hx2) (HU.o.keep (hx2.kept _));clear b8 b5 O b7 hx2 HU HX1;go_wp2
   go_loopw [11,12,13] (λo c i wr=>∃ (k:Nat) (A':OA) (c' cy:Nat) (m:List Nat),k<=max u.length v.length+1/\AddI u v m k cy/\o=.slice A' k c'/\c=.I (cy:Int)/\i=.I (k:Int)/\Ext w2 wr/\Own wr w2.heap.size 3 1 A' k c' ((Ds m).map (Value.int .i64))) (λ_ _ i _=>max u.length v.length+1-(intOf i).toNat)
   case atStart=>exact ⟨0,none,0,0,[],AN,⟨rfl,by simp [Av],by simp [dgs],AA,λ_=>rfl⟩,rfl,rfl,rfl,Ext.refl _,Own.nil _ _ _ _⟩
   case round =>
    obtain ⟨k,A',c',cy,m,hk,b3,rfl,rfl,rfl,hx,ho⟩:=hrel;obtain ⟨HX,HO,HM⟩:=Hd3 hx ho b3;have hcy:=b3.bit;have hfin:=b3.fin;have hsz:=hx.size;have hkk:k<=21:=AA;obtain ⟨d1,U⟩:=eqx (u.getD k 0);obtain ⟨d2,O⟩:=eqx (v.getD k 0);have hl1:d1<16777216:=(by rw [U];exact G8 a8.o k);have hl2:d2<16777216:=(by rw [O];exact G8 Y.o k);have HD1:=Hd U;have HD2:=Hd O;clear hx ho b3;by_cases hku:k<u.length
    ·obtain ⟨b1,o1,hA,hb1,b9⟩:=Dq (HUb.o.keep (HX.o.kept _)) hku;subst hA;rw [<-U] at b9;by_cases hkv:k<v.length
     ·obtain ⟨b2,o2,hB,hb2,b0⟩:=Dq (HV.o.keep (HX.o.kept _)) hkv;subst hB;rw [<-O] at b0;clear U O;have HST:=Hd (HM.o.step a8.o Y.o (s:=cy+d1+d2) IY);exact JM
     ·have b4:d2=0:=(by rw [O,List.getD_eq_getElem?_getD,List.getElem?_eq_none AA];rfl);subst b4;clear U O;have HST:=Hd (HM.o.step a8.o Y.o (s:=cy+d1+0) IY);exact JM
    ·have h10:d1=0:=(by rw [U,List.getD_eq_getElem?_getD,List.getElem?_eq_none AA];rfl);subst h10;by_cases hkv:k<v.length
     ·obtain ⟨b2,o2,hB,hb2,b0⟩:=Dq (HV.o.keep (HX.o.kept _)) hkv;subst hB;rw [<-O] at b0;clear U O;have HST:=Hd (HM.o.step a8.o Y.o (s:=cy+0+d2) IY);exact JM
     ·have b4:d2=0:=(by rw [O,List.getD_eq_getElem?_getD,List.getElem?_eq_none AA];rfl);subst b4;clear U O;by_cases hc0:0<cy
      ·have hkm:k<max u.length v.length+1:=AA;clear hfin;have HST:=Hd (HM.o.step a8.o Y.o (s:=cy+0+0) IY);exact JM
      ·obtain rfl:cy=0:=AA;have hv:Av m=AO a+AO b:=by
        have:=HM.o.eq;rw [List.take_of_length_le AA,List.take_of_length_le AA,HV1.o,HV2.o] at this;omega
       have d5:=HM.o.len;obtain ⟨HR,HF,HD,HE⟩:=Hd4 (IMA (l:=m) (by rw [d5];exact HO.o) AA (T:=λb=>w2.heap.size<=b) λ_ h=>h) hv HM.o.ds (HX2.o.trans HX.o);have hku2:¬(k:Int)<(u.length:Int):=AA;have hkv2:¬(k:Int)<(v.length:Int):=AA;obtain rfl:=d5;clear hv hfin
       go_wp2_with fail
       refine (MO m A' c' _ _ HR.o HD.o AA).mono ?_;exact Ut
 exact main p1 p2 rfl rfl hpp

theorem FDA(a b:BA)(ha:a.size<=4294967296)(hb:b.size<=4294967296)(hal:AO a<256^59)(hbl:AO b<256^59)(w:World):Cl 208 #[.string a,.string b] w (Ng w (AO a+AO b)):=by
 by_cases h:AO a<256^7/\AO b<256^7
 ·exact KJ a b ha hb h.1 h.2 w
 ·exact YG a b ha hb hal hbl h w
theorem SZ:∀ (m:List Nat) (t x:Nat),t<m.length->Av (m.set t x)+m.getD t 0*16777216^t=Av m+x*16777216^t
 |[],_,_,h=>by simp at h
 |d::m,0,x,_=>by simp [Av];omega
 |d::m,t+1,x,h=>by
  have ih:=SZ m t x BU;simp only [List.set_cons_succ,Av,List.getD_cons_succ,Nat.pow_succ];have e1:m.getD t 0*(16777216^t*16777216)=16777216*(m.getD t 0*16777216^t):=(by rw [<-Nat.mul_assoc,Nat.mul_comm]);have e2:x*(16777216^t*16777216)=16777216*(x*16777216^t):=(by rw [<-Nat.mul_assoc,Nat.mul_comm]);rw [e1,e2];omega
theorem XU(h:dgs m)(t:Nat){x:Nat}(hx:x<16777216):dgs (m.set t x):=λy hy=>by
 rcases List.mem_or_eq_of_mem_set hy with hy|hy
 ·exact h y hy
 ·rw [hy];exact hx
theorem NW(m:List Nat)(t x k:Nat)(h:t≠k):(m.set t x).getD k 0=m.getD k 0:=by
 rw [List.getD_eq_getElem?_getD,List.getElem?_set_ne h,<-List.getD_eq_getElem?_getD]
structure MulO(u v m:List Nat)(i:Nat):Prop where
 len:m.length=u.length+v.length
 ds:dgs m
 eq:Av m=Av (u.take i)*Av v
 zero:∀ t,i+v.length<=t->m.getD t 0=0
structure MulN(u v m:List Nat)(i j cy:Nat):Prop where
 len:m.length=u.length+v.length
 ds:dgs m
 lt:cy<16777216
 eq:Av m+cy*16777216^(i+j)=Av (u.take i)*Av v+u.getD i 0*Av (v.take j)*16777216^i
 zero:∀ t,i+v.length<=t->m.getD t 0=0
theorem MulO.inner(h:MulO u v m i):MulN u v m i 0 0:=⟨h.len,h.ds,AA,by simp [Av,h.eq],h.zero⟩
theorem MulN.step(h:MulN u v m i j cy)(hu:dgs u)(hv:dgs v)(hi:i<u.length)(hj:j<v.length)(hs:s=m.getD (i+j) 0+u.getD i 0*v.getD j 0+cy) :
  s<281474976710656/\MulN u v (m.set (i+j) (s % 16777216)) i (j+1) (s / 16777216):=by
 have h1:=G8 hu i;have h2:=G8 hv j;have h3:=G8 h.ds (i+j);have h4:=h.lt;have h5:u.getD i 0*v.getD j 0<=16777215*16777215:=Nat.mul_le_mul AA AA;have hb:s<281474976710656:=AA;refine ⟨hb,DY,XU h.ds _ (Nat.mod_lt _ AB),AA,?_,λt ht=>by rw [NW _ _ _ _ AA];exact h.zero t ht⟩;have O:=SZ m (i+j) (s % 16777216) (by rw [h.len];omega);have heq:=h.eq;rw [Du,Nat.mul_add,Nat.add_mul,show i+(j+1)=(i+j)+1 by omega,Nat.pow_succ];have e:s=16777216*(s / 16777216)+s % 16777216:=(Nat.div_add_mod _ _).symm;have e1:s*16777216^(i+j)=s / 16777216*(16777216^(i+j)*16777216)+s % 16777216*16777216^(i+j):=by
  rw [Nat.mul_comm (16777216^(i+j)) 16777216,<-Nat.mul_assoc,<-Nat.add_mul,Nat.mul_comm (s / 16777216),<-e]
 have e2:s*16777216^(i+j)=m.getD (i+j) 0*16777216^(i+j)+u.getD i 0*(16777216^j*v.getD j 0)*16777216^i+cy*16777216^(i+j):=by
  rw [hs,Nat.add_mul,Nat.add_mul,Nat.pow_add];congr 2;rw [Nat.mul_comm (16777216^j) (v.getD j 0),Nat.mul_comm (16777216^i) (16777216^j),Nat.mul_assoc,Nat.mul_assoc,Nat.mul_assoc]
 omega
theorem MulN.o(h:MulN u v m i v.length cy)(hi:i<u.length):MulO u v (m.set (i+v.length) cy) (i+1):=by
 have O:=SZ m (i+v.length) cy (by rw [h.len];omega);rw [h.zero (i+v.length) (Al),Nat.zero_mul,Nat.add_zero] at O;have heq:=h.eq;rw [List.take_length] at heq;refine ⟨DY,XU h.ds _ h.lt,?_,λt ht=>by rw [NW _ _ _ _ AA];exact h.zero t AA⟩;rw [O,heq,Du,Nat.add_mul];congr 1;rw [Nat.mul_right_comm,Nat.mul_comm (u.getD i 0)]
theorem QM(h:qP:=by
 rw [List.getD_eq_getElem?_getD,List.getElem?_replicate];split<;>rfl):qP:=h
theorem MulO.start(u v:List Nat):MulO u v (List.replicate (u.length+v.length) 0) 0:=by
 have hz:∀ n,Av (List.replicate n 0)=0:=by
  intro n
  induction n with
  |zero=>rfl
  |succ n ih=>simp [List.replicate_succ,Av,ih]
 refine ⟨AC,λd hd=>by rw [List.eq_of_mem_replicate hd];decide,by simp [hz,Av],λt _ => ?_⟩;exact QM
def DD(m:List Nat):Array Value:=((Ds m).map (Value.int .i64)).toArray
theorem X8(m:List Nat):(DD m).size=m.length:=by simp [DD,Ds]
theorem NS(h:k<m.length):(DD m)[k]?=some (.I ((m.getD k 0:Nat):Int)):=by simp [DD,Ds,h]
theorem VJ(m:List Nat)(k x:Nat):(DD m).setIfInBounds k (.I (x:Int))=DD (m.set k x):=by simp [DD,Ds,List.map_set]
theorem Blk.ints(h:Blk w g 3 (DD m))(hl:m.length<=4294967296):Ints w (λb=>b=g) (some ⟨g,0,none⟩) (Ds m) :=
 ⟨by have:=h.rd;simpa [DD] using this,by rw [Gs];exact hl⟩
theorem Vi(a b:BA)(ha:a.size<=4294967296)(hb:b.size<=4294967296)(ha3:AO a<256^3)(hb4:AO b<256^4)(w:World):Cl 240 #[.string a,.string b] w (Ng w (AO a*AO b)):=by
 have HA:=Hd (GD ha3);have HB:=Hd (GD hb4);rw [show (256:Nat)^3=16777216 by decide] at ha3;rw [show (256:Nat)^4=4294967296 by decide] at hb4;obtain ⟨p,hp⟩:=eqx (AO a*AO b);have hpl:p<=16777215*4294967295:=(by rw [hp];exact Nat.mul_le_mul AA AA);have hw1:wrap64 ((AO a:Int)*(AO b:Int))=(p:Int):=(by rw [hp,<-Int.natCast_mul];exact IntWalk.wrap64_in _ (by rw [<-hp];omega));rw [<-hp];clear hp
 go_enter func240,ntmps240
 go_wp2_with fail
 refine (DH a ha 3 AA _).mono ?_;rintro e1 w1 ⟨he,rfl⟩;rw [HA.o] at he;subst he
 go_wp2_with fail
 refine (DH b hb 4 AA _).mono ?_;rintro e1 w1 ⟨he,rfl⟩;rw [HB.o] at he;subst he
 go_wp2_with fail
 refine (Hj p AA _).mono ?_;rintro e1 w1 ⟨r,rfl,h1,h2,h3,h4⟩;obtain ⟨H1,H2,O⟩:=Hd3 h1 h2 h4;clear h1 h2 h4 hw1;go_wp2;go_ret;exact ⟨r,rfl,H1.o,H2.o,h3,O.o⟩
theorem Kt(a b:BA)(ha:a.size<=4294967296)(hb:b.size<=4294967296)(hal:AO a<256^60)(hbl:AO b<256^60)(hbig:¬(AO a<256^3/\AO b<256^4))(w:World):Cl 240 #[.string a,.string b] w (Ng w (AO a*AO b)):=by
 obtain ⟨x1,p1,hs1⟩:∃ (x1:Int) (p1:Bool),Gb a 3=.returned (.tuple #[.I x1,.bool p1])/\p1=decide (AO a<256^3):=⟨_,_,rfl,rfl⟩;obtain ⟨x2,p2,hs2⟩:∃ (x2:Int) (p2:Bool),Gb b 4=.returned (.tuple #[.I x2,.bool p2])/\p2=decide (AO b<256^4):=⟨_,_,rfl,rfl⟩;have HS1:=Hd hs1.1;have HS2:=Hd hs2.1;have hpp:p1=false\/(p1=true/\p2=false):=by
  exact UD
 have HAL:=Hd hal;have HBL:=Hd hbl;clear hbig hs1 hs2 hal hbl
 go_enter func240,ntmps240
 go_wp2_with fail
 refine (DH a ha 3 AA _).mono ?_;rintro e1 w1 ⟨he,rfl⟩;rw [HS1.o] at he;subst he
 go_wp2_with fail
 refine (DH b hb 4 AA _).mono ?_;rintro e1 w1 ⟨he,rfl⟩;rw [HS2.o] at he;subst he
 rcases hpp with rfl|⟨rfl,rfl⟩
 all_goals
  go_wp2_with fail
  refine (Na a ha _).mono ?_;rintro e1 w1 ⟨A1,c1,u,rfl,d4,O,ht1,b3,hi1,hx1⟩;have hul:=NA ht1 (by rw [d4];exact HAL.o);obtain ⟨HU,HV1,HDU,HX1⟩:=Hd4 hi1 d4 O hx1;clear hi1 d4 O ht1 hx1
  go_wp2_with fail
  refine (Na b hb _).mono ?_;rintro e2 w2 ⟨A2,c2,v,rfl,b7,U,ht2,b5,hi2,hx2⟩;have hvl:=NA ht2 (by rw [b7];exact HBL.o);obtain ⟨HV,HV2,HDV,HX2,HUb⟩:=Hd5 hi2 b7 U (HX1.o.trans hx2) (HU.o.keep (hx2.kept _));clear hi2 b7 U ht2 hx2 HU HX1;obtain ⟨n,hn⟩:=eqx (u.length+v.length);have hn2:(u.length:Int)+(v.length:Int)=(n:Int):=AA;have hmk:=EQA n AA;have HN:=Hd hn;have hn40:n<=40:=AA;clear hn
  go_wp2_with fail
  have HN2:=Hd hn2;obtain ⟨w3,a9⟩:=eqx (w2.alloc (.cells (Array.replicate n (.I 0)) 3));have b9:Blk w3 w2.heap.size 3 (DD (List.replicate n 0)):=by
   rw [a9,show DD (List.replicate n 0)=Array.replicate n (.I 0) by simp [DD,Ds]];exact Blk.new _ _ _
  have hx3:Ext w2 w3:=(by rw [a9];exact (Ext.refl _).alloc _);obtain ⟨g,hg⟩:=eqx w2.heap.size;rw [<-a9,<-hg];rw [<-hg] at b9;obtain ⟨HB3,HX3,HG⟩:=Hd3 b9 hx3 hg;clear hmk hn2 a9 b9 hx3 hg;go_wp2
  go_loopw [12] (λi wr=>∃ (i':Nat) (m:List Nat),i'<=u.length/\i=.I (i':Int)/\MulO u v m i'/\Ext w2 wr/\Blk wr g 3 (DD m)) (λi _=>u.length-(intOf i).toNat)
  case atStart=>exact ⟨0,List.replicate n 0,AN,rfl,by rw [HN.o];exact MulO.start u v,HX3.o,HB3.o⟩
  case round =>
   obtain ⟨i,m0,hi,rfl,hmo,hx,hb⟩:=hrel;obtain ⟨b4,HX,HB⟩:=Hd3 hmo hx hb;clear hmo hx hb;by_cases hiu:i<u.length
   ·go_wp2
    go_loopw [13,14] (λc j wr'=>∃ (j' cy:Nat) (m:List Nat),j'<=v.length/\j=.I (j':Int)/\c=.I (cy:Int)/\MulN u v m i j' cy/\Ext w2 wr'/\Blk wr' g 3 (DD m)) (λ_ j _=>v.length-(intOf j).toNat)
    case atStart=>exact ⟨0,0,m0,AN,rfl,rfl,b4.o.inner,HX.o,HB.o⟩
    case round =>
     obtain ⟨j,cy,m,hj,rfl,rfl,b0,hx2,hb2⟩:=hrel;obtain ⟨b8,HX2,HB2⟩:=Hd3 b0 hx2 hb2;have hcy:=b0.lt;have Y:=b0.len;have HML:=Hd Y;have HNI:=Hd HN2.o;have hnn:=HN.o;clear b0 hx2 hb2;by_cases hjv:j<v.length
     ·obtain ⟨b1,o1,hA,hb1,b3⟩:=Dq (HUb.o.keep (HX2.o.kept _)) hiu;subst hA;obtain ⟨b2,o2,hB,hb2,b5⟩:=Dq (HV.o.keep (HX2.o.kept _)) hjv;subst hB;have hc3:=HB2.o.cell (NS (m:=m) (k:=i+j) AA);have hf3:=HB2.o.frozen (i+j);have hlt3:=HB2.o.lt;obtain ⟨d1,O⟩:=eqx (u.getD i 0);obtain ⟨d2,U⟩:=eqx (v.getD j 0);obtain ⟨Z,a8⟩:=eqx (m.getD (i+j) 0);have hl1:d1<16777216:=(by rw [O];exact G8 HDU.o i);have hl2:d2<16777216:=(by rw [U];exact G8 HDV.o j);have hl3:Z<16777216:=(by rw [a8];exact G8 b8.o.ds (i+j));rw [<-O] at b3;rw [<-U] at b5;rw [<-a8] at hc3;obtain ⟨p,hp⟩:=eqx (d1*d2);have hst:=b8.o.step HDU.o HDV.o hiu hjv (s:=Z+p+cy) (by rw [hp,O,U,a8]);have hsb:=hst.1;have HST:=Hd hst.2;have i1:(i:Int)<(u.length:Int):=AA;have i2:(j:Int)<(v.length:Int):=AA;have i3:(i:Int)+(j:Int)<(n:Int):=AA;have i4:(0:Int)<=(i:Int)+(j:Int):=AA;have i5:((i:Int)+(j:Int)).toNat=i+j:=AA;have i0:(0:Int)<=(i:Int):=AA;have i00:(0:Int)<=(j:Int):=AA;obtain ⟨H5,E1,E3,E4,E2⟩:=Hd5 i5 (show IntKind.i64.wrap ((i:Int)+j)=(i:Int)+j from IntWalk.i64_in _ AA) (show IntKind.i64.wrap ((Z:Int)+p)=(Z:Int)+p from IntWalk.i64_in _ AA) (show IntKind.i64.wrap ((Z:Int)+p+cy)=(Z:Int)+p+cy from IntWalk.i64_in _ AA) (show IntKind.i64.wrap ((d1:Int)*d2)=(p:Int) by rw [<-Int.natCast_mul,<-hp];exact IntWalk.i64_in _ AA);clear hst O U a8 hp hnn Y;obtain ⟨C1,C2,C3⟩:=Hd3 b3 b5 hc3;clear i5 b3 b5 hc3
      go_upto_region 15 with fail
      refine Qb (λi=>[i]) (λ_ _=>False) [] ?_
      iterate 3 refine Qp ?_
      refine Qm (λV F J L hR hN hp hρ zs zg=>by
       have e1:=E1.o;exact Qk) ?_
      refine Qm (λV F J L hR hN hp hρ zs zg=>by
       have i5:=H5.o;exact Qk) ?_
      iterate 9 refine Qp ?_
      refine Qm (λV F J L hR hN hp hρ zs zg=>by
       have e1:=E2.o;exact Qk) ?_
      refine Qm (λV F J L hR hN hp hρ zs zg=>by
       have e1:=E3.o;exact Qk) ?_
      refine Qp ?_;refine Qm (λV F J L hR hN hp hρ zs zg=>by
       have e1:=E4.o;exact Qk) ?_
      refine Qp ?_;intro V F w9 hR hG;refine Qx ?_;have HX9:=Hd (HX2.o.trans (hR.ext0 (λ_ _ h=>h.elim)));have b6:=Hd (HB2.o.keep ((hR.ext0 (λ_ _ h=>h.elim)).kept _));clear hR hG;have c9:=b6.o.cell (NS (m:=m) (k:=i+j) (by have:=HML.o;have:=HN.o;omega));have f9:=b6.o.frozen (i+j);have l9:=b6.o.lt;have i5:=H5.o;go_wp2;go_roundw
      case rel =>
       refine ⟨j+1,_,m.set (i+j) ((Z+p+cy) % 16777216),AA,AE,AE,HST.o,HX9.o.set2 (by rw [HG.o];exact Al) _,?_⟩;rw [<-VJ];have:=b6.o.set (i+j) (.I (((Z+p+cy) % 16777216:Nat):Int))
       simpa using this
      case measure=>simp [intOf];omega
     ·have hjv2:j=v.length:=AA;have HMN2:=Hd (show MulN u v m i v.length cy by rw [<-hjv2];exact b8.o);have c9:=HB2.o.cell (NS (m:=m) (k:=i+v.length) AA);have f9:=HB2.o.frozen (i+v.length);have l9:=HB2.o.lt;have i3:(i:Int)+(v.length:Int)<(n:Int):=AA;have i4:(0:Int)<=(i:Int)+(v.length:Int):=AA;have i5:((i:Int)+(v.length:Int)).toNat=i+v.length:=AA;have hj0:¬(j:Int)<(v.length:Int):=AA;have hnv:v.length<=40:=AA;clear hnn Y hjv2;go_wp2;go_roundw
      case rel =>
       refine ⟨i+1,m.set (i+v.length) cy,AA,AE,HMN2.o.o hiu,HX2.o.set2 (by rw [HG.o];exact Al) _,?_⟩;rw [<-VJ];exact HB2.o.set (i+v.length) (.I (cy:Int))
      case measure=>simp [intOf];omega
   ·have d5:i=u.length:=AA;have hv:Av m0=AO a*AO b:=by
     have h:=b4.o.eq;rw [d5,List.take_length,HV1.o,HV2.o] at h;exact h
    have Y:=b4.o.len;have hnl:n=m0.length:=(by rw [Y,HN.o]);obtain ⟨HF,HD,HR,HE⟩:=Hd4 hv b4.o.ds (HB.o.ints AA) (HX2.o.trans HX.o);have hi0:¬(i:Int)<(u.length:Int):=AA;rw [hnl];clear hv Y d5 HN HN2;subst hnl
    go_wp2_with fail
    refine (MO m0 (some ⟨g,0,none⟩) m0.length _ _ HR.o HD.o AA).mono ?_;exact Ut

theorem IUA{base e sz n:Nat}{xs:List Value}(h:Blk w g e xs.toArray)(hg:base<=g)(hn:xs.length=n*sz:=by rfl)(hm:n<=maxLen:=by decide):Own w base e sz (some ⟨g,0,none⟩) n n xs :=
 ⟨hn,.inr ⟨g,n,xs.toArray,rfl,hg,h,Al,hm,by simpa using hn,by rw [List.take_of_length_le (by simp [hn])]⟩⟩
theorem CMA(a b:BA)(ha:a.size<=4294967296)(hb:b.size<=4294967296)(hal:AO a<256^60)(hbl:AO b<256^60)(w:World):Cl 240 #[.string a,.string b] w (Ng w (AO a*AO b)):=by
 by_cases h:AO a<256^3/\AO b<256^4
 ·exact Vi a b ha hb h.1 h.2 w
 ·exact Kt a b ha hb hal hbl h w
structure QuoI(u qs rest:List Nat)(V_ k:Nat):Prop where
 len:qs.length=u.length
 ds:dgs qs
 eq:Av (u.drop k)=Av (qs.drop k)*V_+Av rest
 lt:Av rest<V_
 zero:∀ t,t<k->qs.getD t 0=0
 dr:dgs rest
 tr:trd rest
theorem QuoI.step{r1 r2:List Nat}{q:Nat}(h:QuoI u qs rest V_ (j+1))(hj:j<u.length)(h1:Av r1=u.getD j 0+16777216*Av rest)(hq:q=Av r1 / V_)(h2:Av r2=Av r1-q*V_)(hd:dgs r2)(ht:trd r2)(hu:dgs u):QuoI u (qs.set j q) r2 V_ j:=by
 have Y:0<V_:=Nat.lt_of_le_of_lt (AN) h.lt;have h3:=G8 hu j;have O:=Nat.div_add_mod (Av r1) V_;rw [<-hq] at O;have hm:=Nat.mod_lt (Av r1) Y;have hle:q*V_<=Av r1:=(by rw [Nat.mul_comm];omega);have U:q<16777216:=by
  rw [hq];refine Nat.div_lt_of_lt_mul ?_;have:=h.lt;rw [h1];have h5:16777216*(Av rest+1)<=16777216*V_:=Nat.mul_le_mul_left _ this;rw [Nat.mul_comm V_];omega
 refine ⟨DY,XU h.ds _ U,?_,by rw [h2];rw [Nat.mul_comm] at hle|-;omega,λt ht=>by rw [NW _ _ _ _ AA];exact h.zero t AA,hd,ht⟩;have hl:j<(qs.set j q).length:=(by simp [h.len,hj]);rw [NU hj,NU hl];have e1:(qs.set j q).getD j 0=q:=by
  rw [List.getD_eq_getElem?_getD,List.getElem?_set_self (by rw [h.len];exact hj)];rfl
 have e2:(qs.set j q).drop (j+1)=qs.drop (j+1):=(by rw [List.drop_set_of_lt AA]);rw [e1,e2];simp only [Av];rw [h.eq,Nat.add_mul,h2,h1,Nat.mul_add,Nat.mul_assoc];rw [h1] at hle;omega
theorem QuoI.start(u:List Nat)(hV:0<V_):QuoI u (List.replicate u.length 0) [] V_ u.length:=by
 refine ⟨AC,λd hd=>by rw [List.eq_of_mem_replicate hd];decide,by simp [Av],by simpa [Av] using hV,λt _ => ?_,by simp [dgs],by simp [trd]⟩;exact QM
theorem QuoI.fin(h:QuoI u qs rest V_ 0):Av qs=Av u / V_/\Av rest=Av u % V_:=by
 have h1:=h.eq;have h2:=h.lt;simp only [List.drop_zero] at h1;have O:0<V_:=AA;constructor
 ·rw [h1,Nat.mul_comm,Nat.mul_add_div O,Nat.div_eq_of_lt h2,Nat.add_zero]
 ·rw [h1,Nat.mul_comm,Nat.mul_add_mod,Nat.mod_eq_of_lt h2]

def OwnN(w:World)(base:Nat)(A:OA)(c:Nat)(l:List Nat):Prop:=Own w base 3 1 A l.length c ((Ds l).map (Value.int .i64))
def HgA(w:World)(l:List Nat)(e:Ending)(J:World):Prop:=∃ (A:OA) (c:Nat),e=.returned (.slice A l.length c)/\OwnN J w.heap.size A c l/\Ext w J

def CG(a b:Int):Int:=if a<b then -1 else if b<a then 1 else 0
theorem CrA(a:Int)(w:World):Cl 220 #[.I a] w (SameB w false):=by
 have h:(a != a)=false:=AC
 go_enter func220,ntmps220
 go_wp2;go_ret;exact ⟨AC,rfl⟩
theorem Ki(h:qP:=by
 go_enter func177,ntmps177
 go_wp2_with (go_at_call 220;refine (CrA _ _).mono ?_;rintro e J ⟨rfl,rfl⟩)
 exact FR):qP:=h
theorem YQ(a b:Int)(w:World):Cl 177 #[.I a,.I b] w (Bk w (CG a b)):=by
 by_cases h1:a<b
 ·have HF:=Hd (show CG a b=-1 by simp [CG,h1]);exact Ki
 by_cases h2:b<a
 ·have HF:=Hd (show CG a b=1 by simp [CG,h1,h2]);exact Ki
 ·have HF:=Hd (show CG a b=0 by simp [CG,h1,h2]);exact Ki
def orI(a b:Int):Int:=if a≠0 then a else b
theorem Pg(h:qP:=by
 rw [rounds_succ];exact Bf):qP:=h
theorem S2(h:qP:=by
 rw [rounds_succ];go_wp2;exact Pg):qP:=h
theorem FxA(a b:Int)(g c:Nat)(w:World)(h0:w.cell? ⟨g,0,none⟩=some (.I a))(h1:w.cell? ⟨g,1,none⟩=some (.I b)):Cl 176 #[.slice (some ⟨g,0,none⟩) 2 c] w (Bk w (orI a b)):=by
 by_cases ha:a=0
 ·have O:(a != 0)=false:=(by simp [ha]);by_cases hb:b=0
  ·have hb':(b != 0)=false:=(by simp [hb]);have HF:=Hd (show orI a b=0 by simp [orI,ha,hb]);clear ha hb
   go_enter func176,ntmps176
   go_wp2;refine wp_loop_rounds 3 ?_;rw [rounds_succ];go_wp2;exact S2
  ·have hb':(b != 0)=true:=(by simp [hb]);have HF:=Hd (show orI a b=b by simp [orI,ha]);clear ha hb
   go_enter func176,ntmps176
   go_wp2;refine wp_loop_rounds 2 ?_;exact S2
 ·have O:(a != 0)=true:=(by simp [ha]);have HF:=Hd (show orI a b=a by simp [orI,ha]);clear ha
  go_enter func176,ntmps176
  go_wp2;refine wp_loop_rounds 1 ?_;exact Pg
theorem GTA(u v:Int):orI (CG (u.tdiv 1000000) (v.tdiv 1000000)) (CG (u.tmod 1000000) (v.tmod 1000000))=CG u v:=by
 obtain ⟨a1,a2,a3,a4,a5⟩:=tdm u 1000000 AB;obtain ⟨b1,b2,O,Y,U⟩:=tdm v 1000000 AB;generalize u.tdiv 1000000=x at *;generalize v.tdiv 1000000=y at *;generalize u.tmod 1000000=f at *;generalize v.tmod 1000000=g at *;unfold orI CG;by_cases h1:x<y
 ·rw [if_pos h1,if_pos AB,if_pos AA]
 ·by_cases h2:y<x
  ·rw [if_neg h1,if_pos h2,if_pos AB,if_neg AA,if_pos AA]
  ·rw [if_neg h1,if_neg h2,if_neg AB];by_cases h3:f<g
   ·rw [if_pos h3,if_pos AA]
   ·by_cases h4:g<f
    ·rw [if_neg h3,if_pos h4,if_neg AA,if_pos AA]
    ·rw [if_neg h3,if_neg h4,if_neg AA,if_neg AA]
theorem DS(a b a' b':Int)(w:World)(ht:Tens w):Cl 102 #[.agg #[.I a,.I b],.agg #[.I a',.I b']] w (DG w (CG (mu a b) (mu a' b'))):=by
 have HT:=Hd ht;clear ht
 go_enter func102,ntmps102
 go_wp2_with fail
 refine (KK a b _ (HT.o.ext (exbb w))).mono ?_;rintro e1 w1 ⟨rfl,hx1⟩;have HX1:=Hd ((exbb w).trans hx1);have hb:=(Blk.new (w.alloc (.cells #[.I a,.I b] 28)) 28 #[.I a',.I b']).keep (hx1.kept _);obtain ⟨c0,c1⟩:=hb.qs2;simp at c0 c1;clear hb hx1
 go_wp2_with fail
 refine (KK a' b' _ (HT.o.ext HX1.o)).mono ?_;rintro e1 w2 ⟨rfl,hx2⟩;have HX2:=Hd (HX1.o.trans hx2);have HC:=Hd (GTA (mu a b) (mu a' b'));clear hx2 c0 c1;generalize (mu a b).tdiv 1000000=x at *;generalize (mu a b).tmod 1000000=f at *;generalize (mu a' b').tdiv 1000000=y at *;generalize (mu a' b').tmod 1000000=g at *
 go_wp2_with (first|(go_at_call 177;refine (YQ _ _ _).mono ?_;rintro e J ⟨rfl,rfl⟩))
 refine (FxA (CG x y) (CG f g) _ _ _ ?_ ?_).mono ?_
 ·simp [go_sem]
 ·simp [go_sem]
 rintro e J ⟨rfl,rfl⟩;go_wp2;go_ret;exact ⟨by rw [<-HC.o];rfl,HX2.o.alloc _⟩


abbrev HmA:Int->Value:=λn:Int=>Value.int .i64 n

def IsMp(K:Int)(V_:Value)(v:Value)(F:Gh)(w:World):Prop:=∃ (g:Nat) (m:List (Int × Value)),v=.map (some g)/\MapIs w g HmA m/\Dt m K=some V_/\Ec F g
theorem IsMp.stab{K:Int}{V_:Value} : ∀ v F w γ' J,LX (λ_ _=>False) F w γ' J->IsMp K V_ v F w->IsMp K V_ v γ' J:=by
 rintro v F w γ' J r ⟨g,m,h1,h2,h3,h4⟩;exact ⟨g,m,h1,h2.keep (r.keptS λb _ e=>⟨by rw [e];exact h4,λ_ h=>h.elim⟩),h3,r.free h2.lt h4⟩

theorem Ns(n s:Int)(w:World):Cl 48 #[.agg #[.I n,.I s]] w (Ae w (Dz n s)):=by
 go_enter func48,ntmps48
 go_wp2
 all_goals
  go_ret;refine ⟨?_,(Ext.refl _).alloc _⟩;simp only [Dz,Fx];simp
  first|done|omega|(rw [Bool.eq_iff_iff];simp;omega)

def XP(l:List BA):Bool:=(List.range l.length).all (Fj l)
theorem WL{l:List BA}(h:j<l.length)(v:BA):Aw (l.take (j+1)) v=(Aw (l.take j) v||decide (l[j]=v)):=by
 rw [Bool.eq_iff_iff,Bool.or_eq_true,Ao,Ao,List.take_succ_eq_append_getElem h,List.mem_append,decide_eq_true_iff];simp [eq_comm]

theorem WZ(A:OA)(c:Nat)(l:List BA)(w:World)(S:NP)(h:Strs w S A l) :
  Cl 108 #[.slice A l.length c] w (QuietB w (XP l)):=by
 have hn:=h.2.1
 go_enter func108,ntmps108
 go_wp2
 go_loopw [3] (λi wr=>∃ k:Nat,k<=l.length/\i=.I k/\(∃ n,wr=w.drewN n)/\∀ j (h:j<l.length),j<k->Fj l j=true) (λi _=>l.length-(intOf i).toNat)
 case atStart=>exact ⟨0,AN,rfl,⟨0,rfl⟩,AK⟩
 case round =>
  obtain ⟨k,hk,rfl,⟨n,rfl⟩,hall⟩:=hrel;have HA:=Hd hall;clear hall;by_cases hlt:k<l.length
  ·obtain ⟨b1,o1,rfl,z1,c1⟩:=h.at_ hlt;have hsz:=h.2.2 l[k] (List.getElem_mem hlt);generalize Z:Ba l[k]=f0;have O:=Hd Z;clear Z
   go_wp2_with (go_at_call 113;refine (YP _ hsz _).mono ?_;rintro e J ⟨rfl,rfl⟩;rw [O.o])
   go_loopw [4,5] (λf i wr=>∃ j:Nat,j<=k/\i=.I j/\f=.bool (f0&&!Aw (l.take j) l[k])/\∃ n,wr=w.drewN n) (λ_ i _=>k-(intOf i).toNat)
   case atStart=>exact ⟨0,AN,rfl,by simp [Aw,Bt],⟨n,rfl⟩⟩
   case round =>
    obtain ⟨j,hj,rfl,rfl,⟨m,rfl⟩⟩:=hrel;generalize Y:(f0&&!Aw (l.take j) l[k])=f1;have U:=Hd Y;clear Y;by_cases hjk:j<k
    ·have hjl:j<l.length:=AA;obtain ⟨b2,o2,he2,z2,c2⟩:=h.at_ hjl;injection he2 with he2;injection he2 with he2 a9;subst he2 a9;cases f1
     all_goals
      go_wp2
      go_quiet (fail)
      go_wp2;go_roundw
      case rel =>
       refine ⟨j+1,AA,AE,?_,⟨_,rfl⟩⟩;rw [WL hjl];have:=U.o;simp_all [Bj]
      case measure=>simp [intOf];omega
    ·have a8:j=k:=AA;subst a8;cases f1
     ·go_wp2;go_ret;refine ⟨?_,m,rfl⟩;have hr:XP l=false:=Hz hlt (by rw [Fj,BM _ _ _ hlt,O.o];exact U.o);rw [hr];rfl
     ·go_wp2;go_roundw
      case rel =>
       refine ⟨j+1,AA,AE,⟨_,rfl⟩,λi h hi => ?_⟩;by_cases hij:i=j
       ·subst hij;rw [Fj,BM _ _ _ hlt,O.o];exact U.o
       ·exact HA.o i h AA
      case measure=>simp [intOf];omega
  ·go_wp2;go_ret;refine ⟨?_,n,rfl⟩;have hr:XP l=true:=WO λj hj=>HA.o j hj AA;rw [hr];rfl

theorem DAA(n:Nat)(hn:n<=20)(w:World):Cl 241 #[.I (n:Int)] w (Ng w (10^n)):=by
 go_enter func241,ntmps241
 go_wp2_with fail
 refine (Hj 1 AA _).mono ?_;rintro e1 w1 ⟨r1,rfl,g1,g2,g3,O⟩;have H1:=Hd (show isN r1 (10^0) from ⟨g1,g2,g3⟩);have HX1:=Hd O;clear g1 g2 g3 O;go_wp2
 go_loopw [3,4] (λo i wr=>∃ (k:Nat) (r:BA),k<=n/\isN r (10^k)/\o=.string r/\i=.I (k:Int)/\Ext w wr) (λ_ i _=>n-(intOf i).toNat)
 case atStart=>exact ⟨0,r1,AN,H1.o,rfl,rfl,HX1.o⟩
 case round =>
  obtain ⟨k,r,hk,hr,rfl,rfl,hx⟩:=hrel;have HR:=Hd hr;have HX:=Hd hx;clear hr hx;by_cases hlt:k<n
  ·go_wp2_with fail
   refine (Hj 10 AA _).mono ?_;rintro e2 w2 ⟨t,rfl,g1,g2,g3,O⟩;have HT:=Hd (show isN t 10 from ⟨g1,g2,g3⟩);have HX2:=Hd (HX.o.trans O);clear g1 g2 g3 O
   go_wp2_with fail
   have U:AO r<256^60:=by
    rw [HR.o.1];exact Nat.lt_of_le_of_lt (Nat.pow_le_pow_right AB (show k<=20 by omega)) AB
   refine (CMA r t HR.o.2.2 HT.o.2.2 U (by rw [HT.o.1];decide) _).mono ?_;rintro e3 w3 ⟨s,rfl,g1,g2,g3,O⟩;have HS:=Hd (show isN s (10^(k+1)) from ⟨by rw [g1,HR.o.1,HT.o.1,Nat.pow_succ],g2,g3⟩);have HX3:=Hd (HX2.o.trans O);clear g1 g2 g3 O U;go_wp2;go_roundw
   case rel=>exact ⟨k+1,s,AA,HS.o,rfl,AE,HX3.o⟩
   case measure=>simp [intOf];omega
  ·obtain rfl:k=n:=AA;go_wp2;go_ret;exact ⟨r,rfl,HR.o.1,HR.o.2.1,HR.o.2.2,HX.o⟩

def EfA(w:World)(neg:Bool)(n s:Nat)(e:Ending)(J:World):Prop:=∃ r,e=.returned (.agg #[.bool neg,.string r,.I (s:Int)])/\isN r n/\Ext w J
theorem Lo(h:qP:=by
 have hk:=hR.o.kept0 (S:=λb=>b=g1) (λb hb m hm=>hne (hb.symm.trans hm.2));have k1:=HC1.o.keep hk;obtain ⟨k10,k11⟩:=k1.qs2;clear hk k1;exact Qk):qP:=h
theorem Ss(h:qP:=by
 rintro e1 w3 ⟨r,he,h1,h2,h3,hx⟩;exact ⟨_,he,F,IDA _ F hx,λ_ _ _ h=>h,r,rfl,h1,h2,h3⟩):qP:=h
theorem Im(h:qP:=by rw [hw0];exact (Blk.new _ _ _).keep (Kept.alloc _ _ _)):qP:=h
theorem Bh(h:qP:=by rw [hw0];exact (exaa w).alloc _):qP:=h
theorem MF(h:qP:=by rw [hm.1,h2,rr.done _ h2]):qP:=h
theorem IZ(h:qP:=by rw [hm.2];exact HGW):qP:=h
theorem CQA(n s:Int)(w:World):Cl 161 #[.agg #[.I n,.I s]] w (EfA w (decide ((Bg n s).1<0)) (Bg n s).1.natAbs (Bg n s).2.toNat):=by
 have a8:=GX n s;obtain ⟨w0,hw0⟩:=eqx ((w.alloc (.cells #[.I n,.I s] 28)).alloc (.cells #[.bool false,.string ⟨#[]⟩,.I 0] 159));have hb1:Blk w0 w.heap.size 28 #[.I n,.I s]:=Im;have hb2:Blk w0 (w.heap.size+1) 159 #[.bool false,.string ⟨#[]⟩,.I 0]:=by
  rw [hw0];have:=Blk.new (w.alloc (.cells #[.I n,.I s] 28)) 159 #[.bool false,.string ⟨#[]⟩,.I 0]
  simpa using this
 have hx0:Ext w w0:=Bh;obtain ⟨g1,hg1⟩:=eqx w.heap.size;obtain ⟨g2,hg2⟩:=eqx (w.heap.size+1);have hne:g1≠g2:=AA;obtain ⟨a9,b6,HG2⟩:=Hd3 hw0 hg1 hg2;have HGW:w.heap.size<=g2:=AA;rw [<-hg1] at hb1;rw [<-hg2] at hb2;obtain ⟨HB1,HB2,HX0,HVD⟩:=Hd4 hb1 hb2 hx0 a8;clear hb1 hb2 hx0 hw0 hg1 hg2 a8
 go_enter func161,ntmps161
 go_wp2_with fail
 rw [<-a9.o];refine (Ns n s w0).mono ?_;rintro e1 w1 ⟨rfl,hx1⟩;obtain ⟨HX1,HC1,O⟩:=Hd3 (HX0.o.trans hx1) (HB1.o.keep (hx1.kept _)) (HB2.o.keep (hx1.kept _));rw [<-HG2.o,<-b6.o];clear hx1 HB1 HB2 HX0 a9;cases hd:Dz n s
 ·have HF:=Hd (show Bg n s=(0,0) by unfold Bg;rw [hd];rfl);obtain ⟨c0,c1,c2⟩:=O.o.qs3;have cf:=O.o.frozen;have cl:=O.o.lt;have hz:=((O.o.set 0 (.bool false)).set 1 (.string ⟨#[]⟩)).set 2 (.I 0);obtain ⟨d0,d1,d2⟩:=hz.qs3;clear hd hz;go_wp2;refine bodyPost_ret (v:=.agg #[.bool false,.string ⟨#[]⟩,.I 0]) (by simp [results,results161,go_sem,d0,d1,d2]) rfl ⟨⟨#[]⟩,BB,by rw [HF.o];exact ⟨rfl,by simp [V7],AB⟩,?_⟩;exact ((HX1.o.set2 HGW _).set2 HGW _).set2 HGW _
 ·have HF:=Hd (show Bg n s=(n,s) by unfold Bg;rw [hd];rfl);have hr:=HVD.o;rw [HF.o] at hr;have b5:-72057594037927936<=n:=(by have:=hr.2.2.1;simp at this;omega);have b3:n<=72057594037927936:=(by have:=hr.2.2.2;simp at this;omega);have b4:0<=s:=hr.1;obtain ⟨lt,hlt⟩:∃ lt:Bool,lt=decide (n<0):=⟨_,rfl⟩;have Z:=Hd hlt;clear hd hr hlt
  go_upto_region 4 with fail
  refine Qb (λi=>[i]) (λm b=>m=1009/\b=g2) [(9,[1009])] ?_;refine Qp ?_;refine Qm (λV F J L hR hN hp hρ zs zg=>by
   exact Lo) ?_
  iterate 2 refine Qp ?_
  refine Qm (λV F J L hR hN hp hρ zs zg=>by
   exact Lo) ?_
  refine Qs (FP λv F J=>∃ r,v=.string r/\isN r n.natAbs) (H1A ?_) ?_ ?_
  ·intro v F w1 γ' w2 r h;exact h
  ·intro V F J L hR hN hp hρ zs zg;have HR:=hR;refine Qr ?_;refine (Nt n b5 b3 J).mono ?_;exact Ss
  refine Qp ?_;refine Qm (λV F J L hR hN hp hρ zs zg=>by
   exact Lo) ?_
  refine Qs (FP λv F J=>∃ r,v=.agg #[.bool lt,.string r,.I s]/\isN r n.natAbs) (H1A ?_) ?_ ?_
  ·intro v F w1 γ' w2 r h;exact h
  ·intro V F J L hR hN hp hρ zs zg;obtain ⟨r5,hv5,b0⟩:=hp.o 5 AB;have e14:=(hρ.o 14).trans hv5;have HN5:=Hd b0;clear b0;refine Qr ?_;exact ⟨F,LX.refl _ _ _,λ_ _ _ h=>h,r5,by rw [Z.o];rfl,HN5.o⟩
  refine Qs (λ_ F J=>∃ r,(Blk J g2 159 #[.bool lt,.string r,.I s]/\F 1009=some none/\Ec F g2)/\isN r n.natAbs) ?_ ?_ ?_
  ·intro l F w1 γ' w2 rr h;obtain ⟨r,⟨h1,h2,h3⟩,U⟩:=h;exact ⟨r,⟨h1.keep (rr.keptS λb _ e=>⟨by rw [e];exact h3,λm hm=>MF⟩),rr.done _ h2,rr.free h1.lt h3⟩,U⟩
  ·intro V F J L hR hN hp hρ zs zg;obtain ⟨r,hv8,U⟩:=hp.o 8 AB;have e17:=(hρ.o 17).trans hv8;have HN8:=Hd U;have HR:=hR;have hk0:=hR.o.key0 hN.o (k:=1009) AB AB;have HK:=Hd hk0;have hb0:=O.o.keep ((Kept.drew _ _).trans (hR.o.keptS (S:=λb=>b=g2) λb _ e=>⟨Nu b,λm hm=>CF⟩));have HB0:=Hd hb0;obtain ⟨q0,q1,q2⟩:=hb0.qs3;have qf:=hb0.frozen;have ql:=hb0.lt;clear hk0 hb0;refine Qr ?_;refine ⟨F.put 1009 none,ILA HK.o rfl rfl rfl Y78171d3d0 (λb hb hm=>(((((Only.refl g2 J).set 0 (.bool lt)).set 1 (.string r)).set 2 (.I s))).block b λe=>hm ⟨rfl,e⟩),LM.done AB (.inr AB),?_⟩;have hb1:=HB0.o;exact ⟨r,⟨by simpa using (((hb1.set 0 (.bool lt)).set 1 (.string r)).set 2 (.I s)),rfl,λ⟨k',hk'⟩=>by unfold Gh.put at hk';split at hk';(cases hk');exact absurd (HR.o.old k' _ hk' (by have:=O.o.lt;exact this)) (by simp [gh0])⟩,U⟩
  intro V F w9 hR hG;obtain ⟨q5,v5,-⟩:=hG 5 AB;obtain ⟨q8,v8,-⟩:=hG 8 AB;refine Qx ?_;simp only [v5,v8];clear v5 v8;obtain ⟨r,⟨hb9,-,-⟩,Y⟩:=hG 9 AB;obtain ⟨c0,c1,c2⟩:=hb9.qs3;have cl:=hb9.lt;have HX9:=Hd (hR.extB HX1.o λm b hm=>IZ);have HN9:=Hd Y;clear hb9 Y hR hG;go_wp2;refine bodyPost_ret (v:=.agg #[.bool lt,.string r,.I s]) (by simp [results,results161,go_sem,c0,c1,c2]) rfl ⟨r,by rw [HF.o];simp [Int.toNat_of_nonneg b4,Z.o],by rw [HF.o];exact HN9.o,HX9.o⟩

theorem LT(h:qP:=by
 have hk:=hR.o.kept0 (S:=λb=>b=g1) (λb hb m hm=>hne (hb.symm.trans hm.2));have k1:=HC1.o.keep hk;obtain ⟨k10,k11,k12⟩:=k1.qs3;clear hk k1;exact Qk):qP:=h
theorem Kl(h:qP:=by
 intro l F w1 γ' w2 rr h;obtain ⟨r,⟨h1,h2,h3⟩,hnr⟩:=h;exact ⟨r,⟨h1.keep (rr.keptS λb _ e=>⟨by rw [e];exact h3,λm hm=>by rw [hm.1,h2,rr.done _ h2]⟩),rr.done _ h2,rr.free h1.lt h3⟩,hnr⟩):qP:=h
theorem WM(neg:Bool)(N:BA)(s k:Nat)(h32:N.size<=4294967296)(hN:AO N<256^50)(hsk:s<=k)(hk:k<=6)(w:World) :
  Cl 207 #[.agg #[.bool neg,.string N,.I (s:Int)],.I (k:Int)] w (EfA w neg (AO N*10^(k-s)) k):=by
 obtain ⟨w0,hw0⟩:=eqx ((w.alloc (.cells #[.bool neg,.string N,.I (s:Int)] 159)).alloc (.cells #[.bool false,.string ⟨#[]⟩,.I 0] 159));have hb1:Blk w0 w.heap.size 159 #[.bool neg,.string N,.I (s:Int)]:=Im;have hb2:Blk w0 (w.heap.size+1) 159 #[.bool false,.string ⟨#[]⟩,.I 0]:=by
  rw [hw0];have:=Blk.new (w.alloc (.cells #[.bool neg,.string N,.I (s:Int)] 159)) 159 #[.bool false,.string ⟨#[]⟩,.I 0]
  simpa using this
 have hx0:Ext w w0:=Bh;obtain ⟨g1,hg1⟩:=eqx w.heap.size;obtain ⟨g2,hg2⟩:=eqx (w.heap.size+1);have hne:g1≠g2:=AA;obtain ⟨b7,HG1,HG2⟩:=Hd3 hw0 hg1 hg2;have HGW:w.heap.size<=g2:=AA;rw [<-hg1] at hb1;rw [<-hg2] at hb2;obtain ⟨HC1,b4,HX0⟩:=Hd3 hb1 hb2 hx0;obtain ⟨U,b3⟩:=eqx (k-s);have HD:=Hd (show IntKind.i64.wrap ((k:Int)-(s:Int))=(U:Int) by rw [show (k:Int)-(s:Int)=(U:Int) by omega];exact IntWalk.i64_in _ AA);have hd6:U<=6:=AA;rw [<-b3];clear hb1 hb2 hx0 hw0 hg1 hg2 b3
 go_enter func207,ntmps207
 go_upto_region 1 with fail
 rw [<-b7.o,<-HG2.o,<-HG1.o];refine Qb (λi=>[i]) (λm b=>m=1012/\b=g2) [(12,[1012])] ?_;refine Qp ?_;refine Qm (λV F J L hR hN hp hρ zs zg=>by
  exact LT) ?_
 refine Qp ?_;refine Qm (λV F J L hR hN hp hρ zs zg=>by
  exact LT) ?_
 iterate 2 refine Qp ?_
 refine Qm (λV F J L hR hN hp hρ zs zg=>by
  exact LT) ?_
 refine Qm (λV F J L hR hN hp hρ zs zg=>by
  have hd:=HD.o;exact Qk) ?_
 refine Qs (FP λv F J=>∃ r,v=.string r/\isN r (10^U)) (H1A ?_) ?_ ?_
 ·intro v F w1 γ' w2 r h;exact h
 ·intro V F J L hR hN hp hρ zs zg;have HR:=hR;refine Qr ?_;refine (DAA U AA J).mono ?_;exact Ss
 refine Qs (FP λv F J=>∃ r,v=.string r/\isN r (AO N*10^U)) (H1A ?_) ?_ ?_
 ·intro v F w1 γ' w2 r h;exact h
 ·intro V F J L hR hN hp hρ zs zg;obtain ⟨r8,hv8,b0⟩:=hp.o 8 AB;have e13:=(hρ.o 13).trans hv8;have HR:=hR;have Y:=Hd b0;clear b0 hN;refine Qr ?_;refine (CMA N r8 h32 Y.o.2.2 (Nat.lt_trans hN (Nat.pow_lt_pow_right AB AB)) (by rw [Y.o.1];exact Nat.lt_of_le_of_lt (Nat.pow_le_pow_right AB hd6) AB) J).mono ?_;rintro e1 w3 ⟨r,he,h1,h2,h3,hx⟩;exact ⟨_,he,F,IDA _ F hx,λ_ _ _ h=>h,r,rfl,by rw [h1,Y.o.1],h2,h3⟩
 refine Qp ?_;refine Qs (FP λv F J=>∃ r,v=.agg #[.bool neg,.string r,.I (k:Int)]/\isN r (AO N*10^U)) (H1A ?_) ?_ ?_
 ·intro v F w1 γ' w2 r h;exact h
 ·intro V F J L hR hN hp hρ zs zg;obtain ⟨r9,b8,O⟩:=hp.o 9 AB;have e14:=(hρ.o 14).trans b8;have a8:=Hd O;clear O;refine Qr ?_;exact ⟨F,LX.refl _ _ _,λ_ _ _ h=>h,r9,rfl,a8.o⟩
 refine Qs (λ_ F J=>∃ r,(Blk J g2 159 #[.bool neg,.string r,.I (k:Int)]/\F 1012=some none/\Ec F g2)/\isN r (AO N*10^U)) ?_ ?_ ?_
 ·exact Kl
 ·intro V F J L hR hN hp hρ zs zg;obtain ⟨r,b6,Z⟩:=hp.o 11 AB;have e16:=(hρ.o 16).trans b6;have b5:=Hd Z;clear Z;have HR:=hR;have hk0:=hR.o.key0 hN.o (k:=1012) AB AB;have HK:=Hd hk0;have hb0:=b4.o.keep ((Kept.drew _ _).trans (hR.o.keptS (S:=λb=>b=g2) λb _ e=>⟨Nu b,λm hm=>CF⟩));have HB0:=Hd hb0;obtain ⟨q0,q1,q2⟩:=hb0.qs3;have qf:=hb0.frozen;have ql:=hb0.lt;clear hk0 hb0;refine Qr ?_;refine ⟨F.put 1012 none,ILA HK.o rfl rfl rfl Y78171d3d0 (λb hb hm=>(((((Only.refl g2 J).set 0 (.bool neg)).set 1 (.string r)).set 2 (.I (k:Int)))).block b λe=>hm ⟨rfl,e⟩),LM.done AB (.inr AB),?_⟩;have hb1:=HB0.o;exact ⟨r,⟨by simpa using (((hb1.set 0 (.bool neg)).set 1 (.string r)).set 2 (.I (k:Int))),rfl,λ⟨k',hk'⟩=>by unfold Gh.put at hk';split at hk';(cases hk');exact absurd (HR.o.old k' _ hk' (by have:=b4.o.lt;exact this)) (by simp [gh0])⟩,b5.o⟩
 intro V F w9 hR hG;obtain ⟨q8,v8,-⟩:=hG 8 AB;obtain ⟨q9,v9,-⟩:=hG 9 AB;obtain ⟨q11,a9,-⟩:=hG 11 AB;refine Qx ?_;simp only [v8,v9,a9];clear v8 v9 a9;obtain ⟨r,⟨hb9,-,-⟩,O⟩:=hG 12 AB;obtain ⟨c0,c1,c2⟩:=hb9.qs3;have cl:=hb9.lt;have HX9:=Hd (hR.extB HX0.o λm b hm=>IZ);have a8:=Hd O;clear hb9 O hR hG;go_wp2;refine bodyPost_ret (v:=.agg #[.bool neg,.string r,.I (k:Int)]) (by simp [results,results207,go_sem,c0,c1,c2]) rfl ⟨r,rfl,a8.o,HX9.o⟩
