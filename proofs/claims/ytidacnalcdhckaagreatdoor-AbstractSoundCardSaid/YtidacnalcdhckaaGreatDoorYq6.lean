/- Lemmas. No conditions. -/
import Derived.Test.YtidacnalcdhckaaGreatDoorYq5
import Derived.WalkLawsBesides
import Derived.Sort.Walk0
import Derived.Lib.Bytealg
import Derived.Deep.DeepCutAuto
import Derived.Laws.EntriesVeiled
set_option maxRecDepth 100000
set_option maxHeartbeats 4000000
namespace Go.Proofs.YtidacnalcdhckaaGreatDoor
open Go Go.RowKit Tryz
variable {qP:Prop}

theorem BdA(h:qP:=by
 have:=Nat.mul_le_mul_right q (show b.toNat+1≤a.toNat from hab);rw [Nat.add_mul] at this;omega):qP:=h
theorem NL:∀ l m:List UInt8,l.length=m.length→(Op.bytesLess l m=decide (nvl l<nvl m))
 |[],[],_=>by simp [Op.bytesLess]
 |a::l,b::m,h=>by
  have hl:l.length=m.length:=Y27;have ih:=NL l m hl;have h1:=FT l;have h2:=FT m;rw [hl] at h1;simp only [Op.bytesLess,ih,Ed,hl];generalize 256^m.length=q at *;rw [Bool.eq_iff_iff];simp only [Bool.or_eq_true,Bool.and_eq_true,decide_eq_true_eq,beq_iff_eq];constructor
  ·rintro (hab|⟨rfl,hlm⟩)
   ·have hab:a.toNat+1≤b.toNat:=UInt8.lt_iff_toNat_lt.1 hab;have:=Nat.mul_le_mul_right q hab;rw [Nat.add_mul] at this;omega
   ·omega
  ·intro hlt
   rcases Nat.lt_trichotomy a.toNat b.toNat with hab|hab|hab
   ·exact .inl (UInt8.lt_iff_toNat_lt.2 hab)
   ·refine .inr ⟨UInt8.toNat_inj.1 hab,?_⟩;rw [hab] at hlt;omega
   ·exfalso;exact BdA
def Du(x y:Nat):Int:=if x<y then -1 else if y<x then 1 else 0
theorem O7{s t:BA}(h:s.size=t.size):∀ (_:AF s=AF t),(s.toList==t.toList)=true:=by
 intro hv;have key:∀ l m:List UInt8,l.length=m.length→nvl l=nvl m→l=m:=by
  intro l
  induction l with
  |nil=>intro m hl _;cases m with|nil=>rfl|cons=>simp at hl
  |cons a l ih =>
   intro m hl hv;cases m with
   |nil=>simp at hl
   |cons b m =>
    have hl2:l.length=m.length:=Y12;have h1:=FT l;have h2:=FT m;rw [Ed,Ed,hl2] at hv;rw [hl2] at h1;generalize 256^m.length=q at *;have hab:a.toNat=b.toNat:=by
     rcases Nat.lt_trichotomy a.toNat b.toNat with hab|hab|hab
     ·have:=Nat.mul_le_mul_right q (show a.toNat+1≤b.toNat from hab);rw [Nat.add_mul] at this;omega
     ·exact hab
     ·exact BdA
    rw [hab] at hv;rw [UInt8.toNat_inj.1 hab,ih m hl2 Y4]
 have e1:s.toList=s.data.toList:=(by rw [ByteArray.toList_eq]);have e2:t.toList=t.data.toList:=(by rw [ByteArray.toList_eq]);rw [e1,e2];have:=key s.data.toList t.data.toList Y27 hv;simp [this]

theorem X5(h:qP:=by
 have hne:((r.size:Int) != (s.size:Int))=true:=Y9;exact Z44):qP:=h
theorem COA(h:qP:=by
 clear hl hl2 heq h1 h2;exact Z44):qP:=h
theorem Lo(a b:BA)(ha:a.size≤4294967296)(hb:b.size≤4294967296)(w:World):Cl 220 #[.string a,.string b] w (fun e w'=>e=.returned (.I (Du (AF a) (AF b)))∧w=w'):=by
 go_enter func220,ntmps220
 go_wp2_with fail
 refine (CG a ha _).mono ?_;rintro e1 w1 ⟨r,⟨rfl,rfl⟩,hv,hc,hsz⟩;have HV:=Hd hv;have HC:=Hd hc;have hr:r.size≤4294967296:=Y4;clear hv hc hsz
 go_wp2_with fail
 refine (CG b hb _).mono ?_;rintro e2 w2 ⟨s,⟨rfl,rfl⟩,hv2,hc2,hsz2⟩;have HV2:=Hd hv2;have HC2:=Hd hc2;have hs:s.size≤4294967296:=Y4;clear hv2 hc2 hsz2
 rcases Nat.lt_trichotomy r.size s.size with hlt|heq|hgt
 ·have HF:=Hd (show Du (AF a) (AF b)=-1 by
   rw [←HV.o,←HV2.o];unfold Du;rw [if_pos];have h1:=(DH HC.o (k:=r.size)).1 (AS);have h2:=(DH HC2.o (k:=r.size));omega)
  exact X5
 ·have hne:((r.size:Int) != (s.size:Int))=false:=(by rw [bne_eq_false_iff_eq];omega);have HEQ:=Hd heq;have hl:=NL r.toList s.toList (by rw [ByteArray.toList_eq,ByteArray.toList_eq];simpa using heq);rw [ByteArray.toList_eq,ByteArray.toList_eq] at hl;have hl2:Op.bytesLess r.toList s.toList=decide (AF r<AF s):=(by rw [ByteArray.toList_eq,ByteArray.toList_eq];exact hl);by_cases h1:AF r<AF s
  ·have HF:=Hd (show Du (AF a) (AF b)=-1 by rw [←HV.o,←HV2.o];unfold Du;rw [if_pos h1]);have hb1:Op.bytesLess r.toList s.toList=true:=(by rw [hl2];simpa using h1);clear hl hl2 heq h1;exact Z44
  ·have hb1:Op.bytesLess r.toList s.toList=false:=(by rw [hl2];simpa using h1);by_cases h2:AF s<AF r
   ·have HF:=Hd (show Du (AF a) (AF b)=1 by rw [←HV.o,←HV2.o];unfold Du;rw [if_neg h1,if_pos h2]);have hb2:(r.toList==s.toList)=false:=by
     rw [beq_eq_false_iff_ne];intro e;have:AF r=AF s:=(by unfold AF;rw [←ByteArray.toList_eq,←ByteArray.toList_eq,e]);omega
    exact COA
   ·have HF:=Hd (show Du (AF a) (AF b)=0 by rw [←HV.o,←HV2.o];unfold Du;rw [if_neg h1,if_neg h2]);have hb2:=O7 heq Y4;exact COA
 ·have HF:=Hd (show Du (AF a) (AF b)=1 by
   rw [←HV.o,←HV2.o];unfold Du;have h1:=(DH HC2.o (k:=s.size)).1 (AS);have h2:=(DH HC.o (k:=s.size));rw [if_neg Y4,if_pos Y4])
  exact X5

theorem Hp{l:List Nat}(h:trd l)(hv:AY l<256^60):l.length≤20:=by
 rcases Nat.lt_or_ge 20 l.length with h1|h1
 ·have h2:=PD h (by intro e;rw [e] at h1;simp at h1);have h3:16777216^20≤16777216^(l.length-1):=Nat.pow_le_pow_right Y17 Y4;have h4:(16777216:Nat)^20=256^60:=(by rw [Un]);omega
 ·exact h1
def DOA(w:World)(n:Nat)(e:Ending)(w':World):Prop:=∃ r,e=.returned (.tuple #[.string r,.bool true])∧isN r n∧Ext w w'
theorem JG(a b:BA)(ha:a.size≤4294967296)(hb:b.size≤4294967296)(hle:AF b≤AF a)(hlt:AF a<256^60)(w:World):Cl 221 #[.string a,.string b] w (DOA w (AF a-AF b)):=by
 have hcm:¬Du (AF a) (AF b)<0:=(by unfold Du;split;omega;split<;>omega);have HLE:=Hd hle;have HLT:=Hd hlt;clear hle hlt
 go_enter func221,ntmps221
 go_wp2_with fail
 refine (Lo a b ha hb _).mono ?_;rintro e1 w1 ⟨rfl,rfl⟩
 go_wp2_with fail
 refine (IK a ha _).mono ?_;rintro e1 w1 ⟨A1,c1,l1,rfl,hv1,hd1,ht1,hc1,hi1,hx1⟩;obtain ⟨HI1,HV1,HD1,HT1,HX1⟩:=Hd5 hi1 hv1 hd1 ht1 hx1;clear hi1 hv1 hd1 ht1 hx1
 go_wp2_with fail
 refine (IK b hb _).mono ?_;rintro e2 w2 ⟨A2,c2,l2,rfl,hv2,hd2,ht2,hc2,hi2,hx2⟩;obtain ⟨HI2,HV2,HD2,HT2,HX2,HI1b⟩:=Hd6 hi2 hv2 hd2 ht2 (HX1.o.trans hx2) (HI1.o.keep (hx2.kept _));clear hi2 hv2 hd2 ht2 hx2
 go_wp2_with fail
 refine (Pj l1 l2 A1 A2 c1 c2 _ _ _ HI1b.o HI2.o HD1.o HD2.o HT2.o (by rw [HV1.o,HV2.o];exact HLE.o)).mono ?_;rintro e3 w3 ⟨A3,c3,l3,rfl,hv3,hd3,ht3,hc3,hi3,hx3⟩;obtain ⟨HI3,HV3,HD3,HX3⟩:=Hd4 hi3 (show AY l3=AF a-AF b by rw [hv3,HV1.o,HV2.o]) hd3 (HX2.o.trans hx3);have hl3:=Hp ht3 (by rw [HV3.o];exact Nat.lt_of_le_of_lt (Nat.sub_le _ _) HLT.o);clear hi3 hv3 hd3 ht3 hx3
 go_wp2_with fail
 refine (Gc l3 A3 c3 _ _ HI3.o HD3.o Y4).mono ?_;rintro e4 w4 ⟨r,rfl,h1,h2,h3,hx4⟩;have H1:=Hd (show isN r (AF a-AF b) from ⟨h1.trans HV3.o,h2,h3⟩);have HX4:=Hd (HX3.o.trans hx4);clear h1 h2 h3 hx4;go_wp2;refine bodyPost_ret (v:=.tuple #[.string r,.bool true]) (by simp [results,results221,go_sem]) rfl ⟨r,rfl,H1.o,HX4.o⟩

structure AddI(u v m:List Nat)(k cy:Nat):Prop where
 len:m.length=k
 eq:AY (u.take k)+AY (v.take k)=AY m+cy*16777216^k
 ds:dgs m
 bit:cy≤1
 fin:max u.length v.length<k→cy=0
theorem AddI.step{u v m:List Nat}{k cy:Nat}(h:AddI u v m k cy)(hu:dgs u)(hv:dgs v){s:Nat}(hs:s=cy+u.getD k 0+v.getD k 0):AddI u v (m++[s % 16777216]) (k+1) (s / 16777216):=by
 have h1:=BP hu k;have h2:=BP hv k;have h3:=h.bit;refine ⟨Y44,?_,Fs h.ds (Nat.mod_lt _ Y17),Y4,fun hk => ?_⟩
 ·rw [Ca,Ca,DT,h.len,Nat.pow_succ];have h4:=h.eq;have e:s=16777216*(s / 16777216)+s % 16777216:=(Nat.div_add_mod _ _).symm;have e2:16777216^k*s=cy*16777216^k+16777216^k*u.getD k 0+16777216^k*v.getD k 0:=(by rw [hs,Nat.mul_add,Nat.mul_add,Nat.mul_comm _ cy]);have e3:16777216^k*s=s / 16777216*(16777216^k*16777216)+16777216^k*(s % 16777216):=by
   exact AdA
  omega
 ·have e1:u.getD k 0=0:=(by rw [List.getD_eq_getElem?_getD,List.getElem?_eq_none Y4];rfl);have e2:v.getD k 0=0:=(by rw [List.getD_eq_getElem?_getD,List.getElem?_eq_none Y4];rfl);rw [e1,e2] at hs;omega
theorem EUA(h:qP:=by
 exact absurd ⟨of_decide_eq_true (hs1.2.symm.trans h1),of_decide_eq_true (hs2.2.symm.trans h2)⟩ hbig):qP:=h
theorem ERA(h:qP:=by
 cases h2:p2
 ·exact .inr ⟨rfl,rfl⟩
 ·exact EUA):qP:=h
theorem AAA(h:qP:=by
 cases h1:p1
 ·exact .inl rfl
 ·exact ERA):qP:=h
theorem DiA(h:qP:=by
 refine ⟨k+1,A4,c4,_,_,Y4,HST.o,rfl,Y5,Y5,(HX.o.alloc _).grown hg4 fun b hb=>(HO.o.blk hb).1,?_⟩;rw [GB]
 simpa using hown4):qP:=h
theorem Te(h:qP:=by
 go_wp2_with (at_builtin;go_must (refine AC rfl (.tmp 74) (.tmp 77) rfl tiI rfl (HO.o.ext (exaa wr)) rfl (Blk.rd (Blk.new _ _ _)) rfl Y18 Y4 Y17 Y16 ?_);intro A4 c4 w4 hown4 hg4 hat4)
 go_roundw
 case rel =>
  exact DiA
 case measure=>simp [intOf];omega):qP:=h
theorem Xv(h:qP:=by
 rintro e4 w4 ⟨r,rfl,h1,h2,h3,hx4⟩;obtain ⟨H1,H2,HX4⟩:=Hd3 (h1.trans HF.o) h2 (HE.o.trans hx4);clear h1 h2 hx4;go_wp2;go_ret;exact ⟨r,rfl,H1.o,H2.o,h3,HX4.o⟩):qP:=h
theorem Y47(h:qP:=by have e1:=HD1.o;have e2:=HD2.o;omega):qP:=h
theorem NO(a b:BA)(ha:a.size≤4294967296)(hb:b.size≤4294967296)(hal:AF a<256^59)(hbl:AF b<256^59)(hbig:¬(AF a<256^7∧AF b<256^7))(w:World):Cl 219 #[.string a,.string b] w (Ie w (AF a+AF b)):=by
 have HBIG:=Hd hbig;obtain ⟨x1,p1,hs1⟩:∃ (x1:Int) (p1:Bool),EU a 7=.returned (.tuple #[.I x1,.bool p1])∧p1=decide (AF a<256^7):=⟨_,_,rfl,rfl⟩;obtain ⟨x2,p2,hs2⟩:∃ (x2:Int) (p2:Bool),EU b 7=.returned (.tuple #[.I x2,.bool p2])∧p2=decide (AF b<256^7):=⟨_,_,rfl,rfl⟩;have HS1:=Hd hs1.1;have HS2:=Hd hs2.1;have hpp:p1=false∨(p1=true∧p2=false):=by
  exact AAA
 have HAL:=Hd hal;have HBL:=Hd hbl;clear hbig hs1 hs2 hal hbl;have main:∀ (pp1 pp2:Bool),p1=pp1→p2=pp2→(pp1=false∨(pp1=true∧pp2=false))→Cl 219 #[.string a,.string b] w (Ie w (AF a+AF b)):=by
  intro pp1 pp2 e1 e2 hpp;rw [e1] at HS1;rw [e2] at HS2;clear e1 e2
  go_enter func219,ntmps219
  go_wp2_with fail
  refine (CI a ha 7 Y4 _).mono ?_;rintro e1 w1 ⟨he,rfl⟩;rw [HS1.o] at he;subst he
  go_wp2_with fail
  refine (CI b hb 7 Y4 _).mono ?_;rintro e1 w1 ⟨he,rfl⟩;rw [HS2.o] at he;subst he;have hif:∃ z:Bool,z=false∧(pp1&&pp2)=z:=by
   rcases hpp with rfl|⟨rfl,rfl⟩<;>exact ⟨false,rfl,rfl⟩
  rcases hpp with rfl|⟨rfl,rfl⟩
  all_goals
   clear hif
   go_wp2_with fail
   refine (IK a ha _).mono ?_;rintro e1 w1 ⟨A1,c1,u,rfl,hv1,hd1,ht1,hc1,hi1,hx1⟩;have hul:=Hp ht1 (by rw [hv1];exact Nat.lt_trans HAL.o (Nat.pow_lt_pow_right Y17 Y17));obtain ⟨HU,HV1,HDU,HX1⟩:=Hd4 hi1 hv1 hd1 hx1;clear hi1 hv1 hd1 ht1 hx1
   go_wp2_with fail
   refine (IK b hb _).mono ?_;rintro e2 w2 ⟨A2,c2,v,rfl,hv2,hd2,ht2,hc2,hi2,hx2⟩;have hvl:=Hp ht2 (by rw [hv2];exact Nat.lt_trans HBL.o (Nat.pow_lt_pow_right Y17 Y17));obtain ⟨HV,HV2,HDV,HX2,HUb⟩:=Hd5 hi2 hv2 hd2 (HX1.o.trans hx2) (HU.o.keep (hx2.kept _));clear hi2 hv2 hd2 ht2 hx2 HU HX1;go_wp2
   go_loopw [11,12,13] (fun o c i wr=>∃ (k:Nat) (A':OA) (c' cy:Nat) (m:List Nat),k≤max u.length v.length+1∧AddI u v m k cy∧o=.slice A' k c'∧c=.I (cy:Int)∧i=.I (k:Int)∧Ext w2 wr∧Own wr w2.heap.size 3 1 A' k c' ((Cg m).map (Value.int .i64))) (fun _ _ i _=>max u.length v.length+1-(intOf i).toNat)
   case atStart=>exact ⟨0,none,0,0,[],AE,⟨rfl,by simp [AY],by simp [dgs],Y4,fun _=>rfl⟩,rfl,rfl,rfl,Ext.refl _,Own.nil _ _ _ _⟩
   case round =>
    obtain ⟨k,A',c',cy,m,hk,hmi,rfl,rfl,rfl,hx,ho⟩:=hrel;obtain ⟨HX,HO,HM⟩:=Hd3 hx ho hmi;have hcy:=hmi.bit;have hfin:=hmi.fin;have hsz:=hx.size;have hkk:k≤21:=Y4;obtain ⟨d1,hd1⟩:=eqx (u.getD k 0);obtain ⟨d2,hd2⟩:=eqx (v.getD k 0);have hl1:d1<16777216:=(by rw [hd1];exact BP HDU.o k);have hl2:d2<16777216:=(by rw [hd2];exact BP HDV.o k);have HD1:=Hd hd1;have HD2:=Hd hd2;clear hx ho hmi;by_cases hku:k<u.length
    ·obtain ⟨b1,o1,hA,hb1,hc1⟩:=Ce (HUb.o.keep (HX.o.kept _)) hku;subst hA;rw [←hd1] at hc1;by_cases hkv:k<v.length
     ·obtain ⟨b2,o2,hB,hb2,hc2⟩:=Ce (HV.o.keep (HX.o.kept _)) hkv;subst hB;rw [←hd2] at hc2;clear hd1 hd2;have HST:=Hd (HM.o.step HDU.o HDV.o (s:=cy+d1+d2) Y47);exact Te
     ·have h20:d2=0:=(by rw [hd2,List.getD_eq_getElem?_getD,List.getElem?_eq_none Y4];rfl);subst h20;clear hd1 hd2;have HST:=Hd (HM.o.step HDU.o HDV.o (s:=cy+d1+0) Y47);exact Te
    ·have h10:d1=0:=(by rw [hd1,List.getD_eq_getElem?_getD,List.getElem?_eq_none Y4];rfl);subst h10;by_cases hkv:k<v.length
     ·obtain ⟨b2,o2,hB,hb2,hc2⟩:=Ce (HV.o.keep (HX.o.kept _)) hkv;subst hB;rw [←hd2] at hc2;clear hd1 hd2;have HST:=Hd (HM.o.step HDU.o HDV.o (s:=cy+0+d2) Y47);exact Te
     ·have h20:d2=0:=(by rw [hd2,List.getD_eq_getElem?_getD,List.getElem?_eq_none Y4];rfl);subst h20;clear hd1 hd2;by_cases hc0:0<cy
      ·have hkm:k<max u.length v.length+1:=Y4;clear hfin;have HST:=Hd (HM.o.step HDU.o HDV.o (s:=cy+0+0) Y47);exact Te
      ·obtain rfl:cy=0:=Y4;have hv:AY m=AF a+AF b:=by
        have:=HM.o.eq;rw [List.take_of_length_le Y4,List.take_of_length_le Y4,HV1.o,HV2.o] at this;omega
       have hml:=HM.o.len;obtain ⟨HR,HF,HD,HE⟩:=Hd4 (FFA (l:=m) (by rw [hml];exact HO.o) Y4 (T:=fun b=>w2.heap.size≤b) fun _ h=>h) hv HM.o.ds (HX2.o.trans HX.o);have hku2:¬(k:Int)<(u.length:Int):=Y4;have hkv2:¬(k:Int)<(v.length:Int):=Y4;obtain rfl:=hml;clear hv hfin
       go_wp2_with fail
       refine (Gc m A' c' _ _ HR.o HD.o Y4).mono ?_;exact Xv
 exact main p1 p2 rfl rfl hpp

theorem TX(a b:BA)(ha:a.size≤4294967296)(hb:b.size≤4294967296)(hal:AF a<256^59)(hbl:AF b<256^59)(w:World):Cl 219 #[.string a,.string b] w (Ie w (AF a+AF b)):=by
 by_cases h:AF a<256^7∧AF b<256^7
 ·exact GX a b ha hb h.1 h.2 w
 ·exact NO a b ha hb hal hbl h w
theorem J6:∀ (m:List Nat) (t x:Nat),t<m.length→AY (m.set t x)+m.getD t 0*16777216^t=AY m+x*16777216^t
 |[],_,_,h=>by simp at h
 |d::m,0,x,_=>by simp [AY];omega
 |d::m,t+1,x,h=>by
  have ih:=J6 m t x Y27;simp only [List.set_cons_succ,AY,List.getD_cons_succ,Nat.pow_succ];have e1:m.getD t 0*(16777216^t*16777216)=16777216*(m.getD t 0*16777216^t):=(by rw [←Nat.mul_assoc,Nat.mul_comm]);have e2:x*(16777216^t*16777216)=16777216*(x*16777216^t):=(by rw [←Nat.mul_assoc,Nat.mul_comm]);rw [e1,e2];omega
theorem Lz{m:List Nat}(h:dgs m)(t:Nat){x:Nat}(hx:x<16777216):dgs (m.set t x):=fun y hy=>by
 rcases List.mem_or_eq_of_mem_set hy with hy|hy
 ·exact h y hy
 ·rw [hy];exact hx
theorem IA(m:List Nat)(t x k:Nat)(h:t≠k):(m.set t x).getD k 0=m.getD k 0:=by
 rw [List.getD_eq_getElem?_getD,List.getElem?_set_ne h,←List.getD_eq_getElem?_getD]
structure MulO(u v m:List Nat)(i:Nat):Prop where
 len:m.length=u.length+v.length
 ds:dgs m
 eq:AY m=AY (u.take i)*AY v
 zero:∀ t,i+v.length≤t→m.getD t 0=0
structure MulN(u v m:List Nat)(i j cy:Nat):Prop where
 len:m.length=u.length+v.length
 ds:dgs m
 lt:cy<16777216
 eq:AY m+cy*16777216^(i+j)=AY (u.take i)*AY v+u.getD i 0*AY (v.take j)*16777216^i
 zero:∀ t,i+v.length≤t→m.getD t 0=0
theorem MulO.inner{u v m:List Nat}{i:Nat}(h:MulO u v m i):MulN u v m i 0 0:=⟨h.len,h.ds,Y4,by simp [AY,h.eq],h.zero⟩
theorem MulN.step{u v m:List Nat}{i j cy:Nat}(h:MulN u v m i j cy)(hu:dgs u)(hv:dgs v)(hi:i<u.length)(hj:j<v.length){s:Nat}(hs:s=m.getD (i+j) 0+u.getD i 0*v.getD j 0+cy) :
  s<281474976710656∧MulN u v (m.set (i+j) (s % 16777216)) i (j+1) (s / 16777216):=by
 have h1:=BP hu i;have h2:=BP hv j;have h3:=BP h.ds (i+j);have h4:=h.lt;have h5:u.getD i 0*v.getD j 0≤16777215*16777215:=Nat.mul_le_mul Y4 Y4;have hb:s<281474976710656:=Y4;refine ⟨hb,Y44,Lz h.ds _ (Nat.mod_lt _ Y17),Y4,?_,fun t ht=>by rw [IA _ _ _ _ Y4];exact h.zero t ht⟩;have hset:=J6 m (i+j) (s % 16777216) (by rw [h.len];omega);have heq:=h.eq;rw [Ca,Nat.mul_add,Nat.add_mul,show i+(j+1)=(i+j)+1 by omega,Nat.pow_succ];have e:s=16777216*(s / 16777216)+s % 16777216:=(Nat.div_add_mod _ _).symm;have e1:s*16777216^(i+j)=s / 16777216*(16777216^(i+j)*16777216)+s % 16777216*16777216^(i+j):=by
  rw [Nat.mul_comm (16777216^(i+j)) 16777216,←Nat.mul_assoc,←Nat.add_mul,Nat.mul_comm (s / 16777216),←e]
 have e2:s*16777216^(i+j)=m.getD (i+j) 0*16777216^(i+j)+u.getD i 0*(16777216^j*v.getD j 0)*16777216^i+cy*16777216^(i+j):=by
  rw [hs,Nat.add_mul,Nat.add_mul,Nat.pow_add];congr 2;rw [Nat.mul_comm (16777216^j) (v.getD j 0),Nat.mul_comm (16777216^i) (16777216^j),Nat.mul_assoc,Nat.mul_assoc,Nat.mul_assoc]
 omega
theorem MulN.o{u v m:List Nat}{i cy:Nat}(h:MulN u v m i v.length cy)(hi:i<u.length):MulO u v (m.set (i+v.length) cy) (i+1):=by
 have hset:=J6 m (i+v.length) cy (by rw [h.len];omega);rw [h.zero (i+v.length) (AS),Nat.zero_mul,Nat.add_zero] at hset;have heq:=h.eq;rw [List.take_length] at heq;refine ⟨Y44,Lz h.ds _ h.lt,?_,fun t ht=>by rw [IA _ _ _ _ Y4];exact h.zero t Y4⟩;rw [hset,heq,Ca,Nat.add_mul];congr 1;rw [Nat.mul_right_comm,Nat.mul_comm (u.getD i 0)]
theorem BuA(h:qP:=by
 rw [List.getD_eq_getElem?_getD,List.getElem?_replicate];split<;>rfl):qP:=h
theorem MulO.start(u v:List Nat):MulO u v (List.replicate (u.length+v.length) 0) 0:=by
 have hz:∀ n,AY (List.replicate n 0)=0:=by
  intro n
  induction n with
  |zero=>rfl
  |succ n ih=>simp [List.replicate_succ,AY,ih]
 refine ⟨Y3,fun d hd=>by rw [List.eq_of_mem_replicate hd];decide,by simp [hz,AY],fun t _ => ?_⟩;exact BuA
def CC(m:List Nat):Array Value:=((Cg m).map (Value.int .i64)).toArray
theorem Ni(m:List Nat):(CC m).size=m.length:=by simp [CC,Cg]
theorem IO{m:List Nat}{k:Nat}(h:k<m.length):(CC m)[k]?=some (.I ((m.getD k 0:Nat):Int)):=by simp [CC,Cg,h]
theorem JU(m:List Nat)(k x:Nat):(CC m).setIfInBounds k (.I (x:Int))=CC (m.set k x):=by simp [CC,Cg,List.map_set]
theorem Blk.ints{w:World}{g:Nat}{m:List Nat}(h:Blk w g 3 (CC m))(hl:m.length≤4294967296):Ints w (fun b=>b=g) (some ⟨g,0,none⟩) (Cg m) :=
 ⟨by have:=h.rd;simpa [CC] using this,by rw [EY];exact hl⟩
theorem KP(a b:BA)(ha:a.size≤4294967296)(hb:b.size≤4294967296)(ha3:AF a<256^3)(hb4:AF b<256^4)(w:World):Cl 251 #[.string a,.string b] w (Ie w (AF a*AF b)):=by
 have HA:=Hd (EO ha3);have HB:=Hd (EO hb4);rw [show (256:Nat)^3=16777216 by decide] at ha3;rw [show (256:Nat)^4=4294967296 by decide] at hb4;obtain ⟨p,hp⟩:=eqx (AF a*AF b);have hpl:p≤16777215*4294967295:=(by rw [hp];exact Nat.mul_le_mul Y4 Y4);have hw1:wrap64 ((AF a:Int)*(AF b:Int))=(p:Int):=(by rw [hp,←Int.natCast_mul];exact IntWalk.wrap64_in _ (by rw [←hp];omega));rw [←hp];clear hp
 go_enter func251,ntmps251
 go_wp2_with fail
 refine (CI a ha 3 Y4 _).mono ?_;rintro e1 w1 ⟨he,rfl⟩;rw [HA.o] at he;subst he
 go_wp2_with fail
 refine (CI b hb 4 Y4 _).mono ?_;rintro e1 w1 ⟨he,rfl⟩;rw [HB.o] at he;subst he
 go_wp2_with fail
 refine (Ex p Y4 _).mono ?_;rintro e1 w1 ⟨r,rfl,h1,h2,h3,h4⟩;obtain ⟨H1,H2,H4⟩:=Hd3 h1 h2 h4;clear h1 h2 h4 hw1;go_wp2;go_ret;exact ⟨r,rfl,H1.o,H2.o,h3,H4.o⟩
theorem NZ(a b:BA)(ha:a.size≤4294967296)(hb:b.size≤4294967296)(hal:AF a<256^60)(hbl:AF b<256^60)(hbig:¬(AF a<256^3∧AF b<256^4))(w:World):Cl 251 #[.string a,.string b] w (Ie w (AF a*AF b)):=by
 obtain ⟨x1,p1,hs1⟩:∃ (x1:Int) (p1:Bool),EU a 3=.returned (.tuple #[.I x1,.bool p1])∧p1=decide (AF a<256^3):=⟨_,_,rfl,rfl⟩;obtain ⟨x2,p2,hs2⟩:∃ (x2:Int) (p2:Bool),EU b 4=.returned (.tuple #[.I x2,.bool p2])∧p2=decide (AF b<256^4):=⟨_,_,rfl,rfl⟩;have HS1:=Hd hs1.1;have HS2:=Hd hs2.1;have hpp:p1=false∨(p1=true∧p2=false):=by
  exact AAA
 have HAL:=Hd hal;have HBL:=Hd hbl;clear hbig hs1 hs2 hal hbl
 go_enter func251,ntmps251
 go_wp2_with fail
 refine (CI a ha 3 Y4 _).mono ?_;rintro e1 w1 ⟨he,rfl⟩;rw [HS1.o] at he;subst he
 go_wp2_with fail
 refine (CI b hb 4 Y4 _).mono ?_;rintro e1 w1 ⟨he,rfl⟩;rw [HS2.o] at he;subst he
 rcases hpp with rfl|⟨rfl,rfl⟩
 all_goals
  go_wp2_with fail
  refine (IK a ha _).mono ?_;rintro e1 w1 ⟨A1,c1,u,rfl,hv1,hd1,ht1,hc1,hi1,hx1⟩;have hul:=Hp ht1 (by rw [hv1];exact HAL.o);obtain ⟨HU,HV1,HDU,HX1⟩:=Hd4 hi1 hv1 hd1 hx1;clear hi1 hv1 hd1 ht1 hx1
  go_wp2_with fail
  refine (IK b hb _).mono ?_;rintro e2 w2 ⟨A2,c2,v,rfl,hv2,hd2,ht2,hc2,hi2,hx2⟩;have hvl:=Hp ht2 (by rw [hv2];exact HBL.o);obtain ⟨HV,HV2,HDV,HX2,HUb⟩:=Hd5 hi2 hv2 hd2 (HX1.o.trans hx2) (HU.o.keep (hx2.kept _));clear hi2 hv2 hd2 ht2 hx2 HU HX1;obtain ⟨n,hn⟩:=eqx (u.length+v.length);have hn2:(u.length:Int)+(v.length:Int)=(n:Int):=Y4;have hmk:=SO n Y4;have HN:=Hd hn;have hn40:n≤40:=Y4;clear hn
  go_wp2_with fail
  have HN2:=Hd hn2;obtain ⟨w3,hw3⟩:=eqx (w2.alloc (.cells (Array.replicate n (.I 0)) 3));have hb3:Blk w3 w2.heap.size 3 (CC (List.replicate n 0)):=by
   rw [hw3,show CC (List.replicate n 0)=Array.replicate n (.I 0) by simp [CC,Cg]];exact Blk.new _ _ _
  have hx3:Ext w2 w3:=(by rw [hw3];exact (Ext.refl _).alloc _);obtain ⟨g,hg⟩:=eqx w2.heap.size;rw [←hw3,←hg];rw [←hg] at hb3;obtain ⟨HB3,HX3,HG⟩:=Hd3 hb3 hx3 hg;clear hmk hn2 hw3 hb3 hx3 hg;go_wp2
  go_loopw [12] (fun i wr=>∃ (i':Nat) (m:List Nat),i'≤u.length∧i=.I (i':Int)∧MulO u v m i'∧Ext w2 wr∧Blk wr g 3 (CC m)) (fun i _=>u.length-(intOf i).toNat)
  case atStart=>exact ⟨0,List.replicate n 0,AE,rfl,by rw [HN.o];exact MulO.start u v,HX3.o,HB3.o⟩
  case round =>
   obtain ⟨i,m0,hi,rfl,hmo,hx,hb⟩:=hrel;obtain ⟨HMO,HX,HB⟩:=Hd3 hmo hx hb;clear hmo hx hb;by_cases hiu:i<u.length
   ·go_wp2
    go_loopw [13,14] (fun c j wr'=>∃ (j' cy:Nat) (m:List Nat),j'≤v.length∧j=.I (j':Int)∧c=.I (cy:Int)∧MulN u v m i j' cy∧Ext w2 wr'∧Blk wr' g 3 (CC m)) (fun _ j _=>v.length-(intOf j).toNat)
    case atStart=>exact ⟨0,0,m0,AE,rfl,rfl,HMO.o.inner,HX.o,HB.o⟩
    case round =>
     obtain ⟨j,cy,m,hj,rfl,rfl,hmn,hx2,hb2⟩:=hrel;obtain ⟨HMN,HX2,HB2⟩:=Hd3 hmn hx2 hb2;have hcy:=hmn.lt;have hml:=hmn.len;have HML:=Hd hml;have HNI:=Hd HN2.o;have hnn:=HN.o;clear hmn hx2 hb2;by_cases hjv:j<v.length
     ·obtain ⟨b1,o1,hA,hb1,hc1⟩:=Ce (HUb.o.keep (HX2.o.kept _)) hiu;subst hA;obtain ⟨b2,o2,hB,hb2,hc2⟩:=Ce (HV.o.keep (HX2.o.kept _)) hjv;subst hB;have hc3:=HB2.o.cell (IO (m:=m) (k:=i+j) Y4);have hf3:=HB2.o.frozen (i+j);have hlt3:=HB2.o.lt;obtain ⟨d1,hd1⟩:=eqx (u.getD i 0);obtain ⟨d2,hd2⟩:=eqx (v.getD j 0);obtain ⟨d3,hd3⟩:=eqx (m.getD (i+j) 0);have hl1:d1<16777216:=(by rw [hd1];exact BP HDU.o i);have hl2:d2<16777216:=(by rw [hd2];exact BP HDV.o j);have hl3:d3<16777216:=(by rw [hd3];exact BP HMN.o.ds (i+j));rw [←hd1] at hc1;rw [←hd2] at hc2;rw [←hd3] at hc3;obtain ⟨p,hp⟩:=eqx (d1*d2);have hst:=HMN.o.step HDU.o HDV.o hiu hjv (s:=d3+p+cy) (by rw [hp,hd1,hd2,hd3]);have hsb:=hst.1;have HST:=Hd hst.2;have i1:(i:Int)<(u.length:Int):=Y4;have i2:(j:Int)<(v.length:Int):=Y4;have i3:(i:Int)+(j:Int)<(n:Int):=Y4;have i4:(0:Int)≤(i:Int)+(j:Int):=Y4;have i5:((i:Int)+(j:Int)).toNat=i+j:=Y4;have i0:(0:Int)≤(i:Int):=Y4;have i00:(0:Int)≤(j:Int):=Y4;obtain ⟨H5,E1,E3,E4,E2⟩:=Hd5 i5 (show IntKind.i64.wrap ((i:Int)+j)=(i:Int)+j from IntWalk.i64_in _ Y4) (show IntKind.i64.wrap ((d3:Int)+p)=(d3:Int)+p from IntWalk.i64_in _ Y4) (show IntKind.i64.wrap ((d3:Int)+p+cy)=(d3:Int)+p+cy from IntWalk.i64_in _ Y4) (show IntKind.i64.wrap ((d1:Int)*d2)=(p:Int) by rw [←Int.natCast_mul,←hp];exact IntWalk.i64_in _ Y4);clear hst hd1 hd2 hd3 hp hnn hml;obtain ⟨C1,C2,C3⟩:=Hd3 hc1 hc2 hc3;clear i5 hc1 hc2 hc3
      go_upto_region 15 with fail
      refine Qb (fun i=>[i]) (fun _ _=>False) [] ?_
      iterate 3 refine Qp ?_
      refine Qm (fun vals γ w' ρ hR hN hp hρ zs zg=>by
       have e1:=E1.o;exact Qk) ?_
      refine Qm (fun vals γ w' ρ hR hN hp hρ zs zg=>by
       have i5:=H5.o;exact Qk) ?_
      iterate 9 refine Qp ?_
      refine Qm (fun vals γ w' ρ hR hN hp hρ zs zg=>by
       have e1:=E2.o;exact Qk) ?_
      refine Qm (fun vals γ w' ρ hR hN hp hρ zs zg=>by
       have e1:=E3.o;exact Qk) ?_
      refine Qp ?_;refine Qm (fun vals γ w' ρ hR hN hp hρ zs zg=>by
       have e1:=E4.o;exact Qk) ?_
      refine Qp ?_;intro vals γ w9 hR hG;refine Qx ?_;have HX9:=Hd (HX2.o.trans (hR.ext0 (fun _ _ h=>h.elim)));have HB9:=Hd (HB2.o.keep ((hR.ext0 (fun _ _ h=>h.elim)).kept _));clear hR hG;have c9:=HB9.o.cell (IO (m:=m) (k:=i+j) (by have:=HML.o;have:=HN.o;omega));have f9:=HB9.o.frozen (i+j);have l9:=HB9.o.lt;have i5:=H5.o;go_wp2;go_roundw
      case rel =>
       refine ⟨j+1,_,m.set (i+j) ((d3+p+cy) % 16777216),Y4,Y5,Y5,HST.o,HX9.o.set2 (by rw [HG.o];exact AS) _,?_⟩;rw [←JU];have:=HB9.o.set (i+j) (.I (((d3+p+cy) % 16777216:Nat):Int))
       simpa using this
      case measure=>simp [intOf];omega
     ·have hjv2:j=v.length:=Y4;have HMN2:=Hd (show MulN u v m i v.length cy by rw [←hjv2];exact HMN.o);have c9:=HB2.o.cell (IO (m:=m) (k:=i+v.length) Y4);have f9:=HB2.o.frozen (i+v.length);have l9:=HB2.o.lt;have i3:(i:Int)+(v.length:Int)<(n:Int):=Y4;have i4:(0:Int)≤(i:Int)+(v.length:Int):=Y4;have i5:((i:Int)+(v.length:Int)).toNat=i+v.length:=Y4;have hj0:¬(j:Int)<(v.length:Int):=Y4;have hnv:v.length≤40:=Y4;clear hnn hml hjv2;go_wp2;go_roundw
      case rel =>
       refine ⟨i+1,m.set (i+v.length) cy,Y4,Y5,HMN2.o.o hiu,HX2.o.set2 (by rw [HG.o];exact AS) _,?_⟩;rw [←JU];exact HB2.o.set (i+v.length) (.I (cy:Int))
      case measure=>simp [intOf];omega
   ·have hiu2:i=u.length:=Y4;have hv:AY m0=AF a*AF b:=by
     have h:=HMO.o.eq;rw [hiu2,List.take_length,HV1.o,HV2.o] at h;exact h
    have hml:=HMO.o.len;have hnl:n=m0.length:=(by rw [hml,HN.o]);obtain ⟨HF,HD,HR,HE⟩:=Hd4 hv HMO.o.ds (HB.o.ints Y4) (HX2.o.trans HX.o);have hi0:¬(i:Int)<(u.length:Int):=Y4;rw [hnl];clear hv hml hiu2 HN HN2;subst hnl
    go_wp2_with fail
    refine (Gc m0 (some ⟨g,0,none⟩) m0.length _ _ HR.o HD.o Y4).mono ?_;exact Xv

theorem FNA{w:World}{base g e sz n:Nat}{xs:List Value}(h:Blk w g e xs.toArray)(hg:base≤g)(hn:xs.length=n*sz:=by rfl)(hm:n≤maxLen:=by decide):Own w base e sz (some ⟨g,0,none⟩) n n xs :=
 ⟨hn,.inr ⟨g,n,xs.toArray,rfl,hg,h,AS,hm,by simpa using hn,by rw [List.take_of_length_le (by simp [hn])]⟩⟩
theorem Pb(a b:BA)(ha:a.size≤4294967296)(hb:b.size≤4294967296)(hal:AF a<256^60)(hbl:AF b<256^60)(w:World):Cl 251 #[.string a,.string b] w (Ie w (AF a*AF b)):=by
 by_cases h:AF a<256^3∧AF b<256^4
 ·exact KP a b ha hb h.1 h.2 w
 ·exact NZ a b ha hb hal hbl h w
structure QuoI(u qs rest:List Nat)(V k:Nat):Prop where
 len:qs.length=u.length
 ds:dgs qs
 eq:AY (u.drop k)=AY (qs.drop k)*V+AY rest
 lt:AY rest<V
 zero:∀ t,t<k→qs.getD t 0=0
 dr:dgs rest
 tr:trd rest
theorem QuoI.step{u qs rest r1 r2:List Nat}{V j q:Nat}(h:QuoI u qs rest V (j+1))(hj:j<u.length)(h1:AY r1=u.getD j 0+16777216*AY rest)(hq:q=AY r1 / V)(h2:AY r2=AY r1-q*V)(hd:dgs r2)(ht:trd r2)(hu:dgs u):QuoI u (qs.set j q) r2 V j:=by
 have hV:0<V:=Nat.lt_of_le_of_lt (AE) h.lt;have h3:=BP hu j;have hqd:=Nat.div_add_mod (AY r1) V;rw [←hq] at hqd;have hm:=Nat.mod_lt (AY r1) hV;have hle:q*V≤AY r1:=(by rw [Nat.mul_comm];omega);have hqb:q<16777216:=by
  rw [hq];refine Nat.div_lt_of_lt_mul ?_;have:=h.lt;rw [h1];have h5:16777216*(AY rest+1)≤16777216*V:=Nat.mul_le_mul_left _ this;rw [Nat.mul_comm V];omega
 refine ⟨Y44,Lz h.ds _ hqb,?_,by rw [h2];rw [Nat.mul_comm] at hle⊢;omega,fun t ht=>by rw [IA _ _ _ _ Y4];exact h.zero t Y4,hd,ht⟩;have hl:j<(qs.set j q).length:=(by simp [h.len,hj]);rw [IG hj,IG hl];have e1:(qs.set j q).getD j 0=q:=by
  rw [List.getD_eq_getElem?_getD,List.getElem?_set_self (by rw [h.len];exact hj)];rfl
 have e2:(qs.set j q).drop (j+1)=qs.drop (j+1):=(by rw [List.drop_set_of_lt Y4]);rw [e1,e2];simp only [AY];rw [h.eq,Nat.add_mul,h2,h1,Nat.mul_add,Nat.mul_assoc];rw [h1] at hle;omega
theorem QuoI.start(u:List Nat){V:Nat}(hV:0<V):QuoI u (List.replicate u.length 0) [] V u.length:=by
 refine ⟨Y3,fun d hd=>by rw [List.eq_of_mem_replicate hd];decide,by simp [AY],by simpa [AY] using hV,fun t _ => ?_,by simp [dgs],by simp [trd]⟩;exact BuA
theorem QuoI.fin{u qs rest:List Nat}{V:Nat}(h:QuoI u qs rest V 0):AY qs=AY u / V∧AY rest=AY u % V:=by
 have h1:=h.eq;have h2:=h.lt;simp only [List.drop_zero] at h1;have hV:0<V:=Y4;constructor
 ·rw [h1,Nat.mul_comm,Nat.mul_add_div hV,Nat.div_eq_of_lt h2,Nat.add_zero]
 ·rw [h1,Nat.mul_comm,Nat.mul_add_mod,Nat.mod_eq_of_lt h2]

def OwnN(w:World)(base:Nat)(A:OA)(c:Nat)(l:List Nat):Prop:=Own w base 3 1 A l.length c ((Cg l).map (Value.int .i64))
def D3A(w:World)(l:List Nat)(e:Ending)(w':World):Prop:=∃ (A:OA) (c:Nat),e=.returned (.slice A l.length c)∧OwnN w' w.heap.size A c l∧Ext w w'

def BW(a b:Int):Int:=if a<b then -1 else if b<a then 1 else 0
theorem QU(a:Int)(w:World):Cl 233 #[.I a] w (SameB w false):=by
 have h:(a != a)=false:=Y3
 go_enter func233,ntmps233
 go_wp2;go_ret;exact ⟨Y3,rfl⟩
theorem WU(h:qP:=by
 go_enter func193,ntmps193
 go_wp2_with (go_at_call 233;refine (QU _ _).mono ?_;rintro e w' ⟨rfl,rfl⟩)
 exact Z45):qP:=h
theorem Mz(a b:Int)(w:World):Cl 193 #[.I a,.I b] w (BK w (BW a b)):=by
 by_cases h1:a<b
 ·have HF:=Hd (show BW a b=-1 by simp [BW,h1]);exact WU
 by_cases h2:b<a
 ·have HF:=Hd (show BW a b=1 by simp [BW,h1,h2]);exact WU
 ·have HF:=Hd (show BW a b=0 by simp [BW,h1,h2]);exact WU
def orI(a b:Int):Int:=if a≠0 then a else b
theorem YA(h:qP:=by
 rw [rounds_succ];exact Z44):qP:=h
theorem Xl(h:qP:=by
 rw [rounds_succ];go_wp2;exact YA):qP:=h
theorem WN(a b:Int)(g c:Nat)(w:World)(h0:w.cell? ⟨g,0,none⟩=some (.I a))(h1:w.cell? ⟨g,1,none⟩=some (.I b)):Cl 192 #[.slice (some ⟨g,0,none⟩) 2 c] w (BK w (orI a b)):=by
 by_cases ha:a=0
 ·have ha':(a != 0)=false:=(by simp [ha]);by_cases hb:b=0
  ·have hb':(b != 0)=false:=(by simp [hb]);have HF:=Hd (show orI a b=0 by simp [orI,ha,hb]);clear ha hb
   go_enter func192,ntmps192
   go_wp2;refine wp_loop_rounds 3 ?_;rw [rounds_succ];go_wp2;exact Xl
  ·have hb':(b != 0)=true:=(by simp [hb]);have HF:=Hd (show orI a b=b by simp [orI,ha]);clear ha hb
   go_enter func192,ntmps192
   go_wp2;refine wp_loop_rounds 2 ?_;exact Xl
 ·have ha':(a != 0)=true:=(by simp [ha]);have HF:=Hd (show orI a b=a by simp [orI,ha]);clear ha
  go_enter func192,ntmps192
  go_wp2;refine wp_loop_rounds 1 ?_;exact YA
theorem Vf(u v:Int):orI (BW (u.tdiv 1000000) (v.tdiv 1000000)) (BW (u.tmod 1000000) (v.tmod 1000000))=BW u v:=by
 obtain ⟨a1,a2,a3,a4,a5⟩:=tdm u 1000000 Y17;obtain ⟨b1,b2,b3,b4,b5⟩:=tdm v 1000000 Y17;generalize u.tdiv 1000000=x at *;generalize v.tdiv 1000000=y at *;generalize u.tmod 1000000=f at *;generalize v.tmod 1000000=g at *;unfold orI BW;by_cases h1:x<y
 ·rw [if_pos h1,if_pos Y17,if_pos Y4]
 ·by_cases h2:y<x
  ·rw [if_neg h1,if_pos h2,if_pos Y17,if_neg Y4,if_pos Y4]
  ·rw [if_neg h1,if_neg h2,if_neg Y17];by_cases h3:f<g
   ·rw [if_pos h3,if_pos Y4]
   ·by_cases h4:g<f
    ·rw [if_neg h3,if_pos h4,if_neg Y4,if_pos Y4]
    ·rw [if_neg h3,if_neg h4,if_neg Y4,if_neg Y4]
theorem CS(a b a' b':Int)(w:World)(ht:Tens w):Cl 133 #[.agg #[.I a,.I b],.agg #[.I a',.I b']] w (CD w (BW (mu a b) (mu a' b'))):=by
 have HT:=Hd ht;clear ht
 go_enter func133,ntmps133
 go_wp2_with fail
 refine (GU a b _ (HT.o.ext (exbb w))).mono ?_;rintro e1 w1 ⟨rfl,hx1⟩;have HX1:=Hd ((exbb w).trans hx1);have hb:=(Blk.new (w.alloc (.cells #[.I a,.I b] 25)) 25 #[.I a',.I b']).keep (hx1.kept _);obtain ⟨c0,c1⟩:=hb.qs2;simp at c0 c1;clear hb hx1
 go_wp2_with fail
 refine (GU a' b' _ (HT.o.ext HX1.o)).mono ?_;rintro e1 w2 ⟨rfl,hx2⟩;have HX2:=Hd (HX1.o.trans hx2);have HC:=Hd (Vf (mu a b) (mu a' b'));clear hx2 c0 c1;generalize (mu a b).tdiv 1000000=x at *;generalize (mu a b).tmod 1000000=f at *;generalize (mu a' b').tdiv 1000000=y at *;generalize (mu a' b').tmod 1000000=g at *
 go_wp2_with (first|(go_at_call 193;refine (Mz _ _ _).mono ?_;rintro e w' ⟨rfl,rfl⟩))
 refine (WN (BW x y) (BW f g) _ _ _ ?_ ?_).mono ?_
 ·simp [go_sem]
 ·simp [go_sem]
 rintro e w' ⟨rfl,rfl⟩;go_wp2;go_ret;exact ⟨by rw [←HC.o];rfl,HX2.o.alloc _⟩


abbrev CiA:Int→Value:=fun n:Int=>Value.int .i64 n

def IsMp(K:Int)(V:Value)(v:Value)(γ:Gh)(w:World):Prop:=∃ (g:Nat) (m:List (Int × Value)),v=.map (some g)∧MapIs w g CiA m∧Cf m K=some V∧C4 γ g
theorem IsMp.stab{K:Int}{V:Value} : ∀ v γ w γ' w',LX (fun _ _=>False) γ w γ' w'→IsMp K V v γ w→IsMp K V v γ' w':=by
 rintro v γ w γ' w' r ⟨g,m,h1,h2,h3,h4⟩;exact ⟨g,m,h1,h2.keep (r.keptS fun b _ e=>⟨by rw [e];exact h4,fun _ h=>h.elim⟩),h3,r.free h2.lt h4⟩

theorem IN(n s:Int)(w:World):Cl 59 #[.agg #[.I n,.I s]] w (AO w (Cm n s)):=by
 go_enter func59,ntmps59
 go_wp2
 all_goals
  go_ret;refine ⟨?_,(Ext.refl _).alloc _⟩;simp only [Cm,Dy];exact Z61

def Lm(l:List BA):Bool:=(List.range l.length).all (Dq l)
theorem Lf{l:List BA}{j:Nat}(h:j<l.length)(v:BA):AZ (l.take (j+1)) v=(AZ (l.take j) v||decide (l[j]=v)):=by
 rw [Bool.eq_iff_iff,Bool.or_eq_true,AV,AV,List.take_succ_eq_append_getElem h,List.mem_append,decide_eq_true_iff];simp [eq_comm]

theorem LB(A:OA)(c:Nat)(l:List BA)(w:World)(S:NP)(h:Strs w S A l) :
  Cl 147 #[.slice A l.length c] w (QuietB w (Lm l)):=by
 have hn:=h.2.1
 go_enter func147,ntmps147
 go_wp2
 go_loopw [3] (fun i wr=>∃ k:Nat,k≤l.length∧i=.I k∧(∃ n,wr=w.drewN n)∧∀ j (h:j<l.length),j<k→Dq l j=true) (fun i _=>l.length-(intOf i).toNat)
 case atStart=>exact ⟨0,AE,rfl,⟨0,rfl⟩,Y8⟩
 case round =>
  obtain ⟨k,hk,rfl,⟨n,rfl⟩,hall⟩:=hrel;have HA:=Hd hall;clear hall;by_cases hlt:k<l.length
  ·obtain ⟨b1,o1,rfl,z1,c1⟩:=h.at_ hlt;have hsz:=h.2.2 l[k] (List.getElem_mem hlt);generalize hf0:BC l[k]=f0;have HF0:=Hd hf0;clear hf0
   go_wp2_with (go_at_call 79;refine (OB _ hsz _).mono ?_;rintro e w' ⟨rfl,rfl⟩;rw [HF0.o])
   go_loopw [4,5] (fun f i wr=>∃ j:Nat,j≤k∧i=.I j∧f=.bool (f0&&!AZ (l.take j) l[k])∧∃ n,wr=w.drewN n) (fun _ i _=>k-(intOf i).toNat)
   case atStart=>exact ⟨0,AE,rfl,by simp [AZ,BM],⟨n,rfl⟩⟩
   case round =>
    obtain ⟨j,hj,rfl,rfl,⟨m,rfl⟩⟩:=hrel;generalize hf1:(f0&&!AZ (l.take j) l[k])=f1;have HF1:=Hd hf1;clear hf1;by_cases hjk:j<k
    ·have hjl:j<l.length:=Y4;obtain ⟨b2,o2,he2,z2,c2⟩:=h.at_ hjl;injection he2 with he2;injection he2 with he2 he3;subst he2 he3;cases f1
     all_goals
      go_wp2
      go_quiet (fail)
      go_wp2;go_roundw
      case rel =>
       refine ⟨j+1,Y4,Y5,?_,⟨_,rfl⟩⟩;rw [Lf hjl];have:=HF1.o;simp_all [BH]
      case measure=>simp [intOf];omega
    ·have hjk':j=k:=Y4;subst hjk';cases f1
     ·go_wp2;go_ret;refine ⟨?_,m,rfl⟩;have hr:Lm l=false:=E0 hlt (by rw [Dq,Au _ _ _ hlt,HF0.o];exact HF1.o);rw [hr];rfl
     ·go_wp2;go_roundw
      case rel =>
       refine ⟨j+1,Y4,Y5,⟨_,rfl⟩,fun i h hi => ?_⟩;by_cases hij:i=j
       ·subst hij;rw [Dq,Au _ _ _ hlt,HF0.o];exact HF1.o
       ·exact HA.o i h Y4
      case measure=>simp [intOf];omega
  ·go_wp2;go_ret;refine ⟨?_,n,rfl⟩;have hr:Lm l=true:=LU fun j hj=>HA.o j hj Y4;rw [hr];rfl

theorem QL(n:Nat)(hn:n≤20)(w:World):Cl 252 #[.I (n:Int)] w (Ie w (10^n)):=by
 go_enter func252,ntmps252
 go_wp2_with fail
 refine (Ex 1 Y4 _).mono ?_;rintro e1 w1 ⟨r1,rfl,g1,g2,g3,g4⟩;have H1:=Hd (show isN r1 (10^0) from ⟨g1,g2,g3⟩);have HX1:=Hd g4;clear g1 g2 g3 g4;go_wp2
 go_loopw [3,4] (fun o i wr=>∃ (k:Nat) (r:BA),k≤n∧isN r (10^k)∧o=.string r∧i=.I (k:Int)∧Ext w wr) (fun _ i _=>n-(intOf i).toNat)
 case atStart=>exact ⟨0,r1,AE,H1.o,rfl,rfl,HX1.o⟩
 case round =>
  obtain ⟨k,r,hk,hr,rfl,rfl,hx⟩:=hrel;have HR:=Hd hr;have HX:=Hd hx;clear hr hx;by_cases hlt:k<n
  ·go_wp2_with fail
   refine (Ex 10 Y4 _).mono ?_;rintro e2 w2 ⟨t,rfl,g1,g2,g3,g4⟩;have HT:=Hd (show isN t 10 from ⟨g1,g2,g3⟩);have HX2:=Hd (HX.o.trans g4);clear g1 g2 g3 g4
   go_wp2_with fail
   have hp20:AF r<256^60:=by
    rw [HR.o.1];exact Nat.lt_of_le_of_lt (Nat.pow_le_pow_right Y17 (show k≤20 by omega)) Y17
   refine (Pb r t HR.o.2.2 HT.o.2.2 hp20 (by rw [HT.o.1];decide) _).mono ?_;rintro e3 w3 ⟨s,rfl,g1,g2,g3,g4⟩;have HS:=Hd (show isN s (10^(k+1)) from ⟨by rw [g1,HR.o.1,HT.o.1,Nat.pow_succ],g2,g3⟩);have HX3:=Hd (HX2.o.trans g4);clear g1 g2 g3 g4 hp20;go_wp2;go_roundw
   case rel=>exact ⟨k+1,s,Y4,HS.o,rfl,Y5,HX3.o⟩
   case measure=>simp [intOf];omega
  ·obtain rfl:k=n:=Y4;go_wp2;go_ret;exact ⟨r,rfl,HR.o.1,HR.o.2.1,HR.o.2.2,HX.o⟩

def SK(w:World)(neg:Bool)(n s:Nat)(e:Ending)(w':World):Prop:=∃ r,e=.returned (.agg #[.bool neg,.string r,.I (s:Int)])∧isN r n∧Ext w w'
theorem V4(h:qP:=by
 have hk:=hR.o.kept0 (S:=fun b=>b=g1) (fun b hb m hm=>hne (hb.symm.trans hm.2));have k1:=HC1.o.keep hk;obtain ⟨k10,k11⟩:=k1.qs2;clear hk k1;exact Qk):qP:=h
theorem Xg(h:qP:=by
 rintro e1 w3 ⟨r,he,h1,h2,h3,hx⟩;exact ⟨_,he,γ,E6A _ γ hx,fun _ _ _ h=>h,r,rfl,h1,h2,h3⟩):qP:=h
theorem Y48(h:qP:=by rw [hw0];exact (Blk.new _ _ _).keep (Kept.alloc _ _ _)):qP:=h
theorem Y49(h:qP:=by rw [hw0];exact (exaa w).alloc _):qP:=h
theorem Y50(h:qP:=by rw [hm.1,h2,rr.done _ h2]):qP:=h
theorem Y51(h:qP:=by rw [hm.2];exact HGW):qP:=h
theorem PA(n s:Int)(w:World):Cl 174 #[.agg #[.I n,.I s]] w (SK w (decide ((BG n s).1<0)) (BG n s).1.natAbs (BG n s).2.toNat):=by
 have hvd:=Ek n s;obtain ⟨w0,hw0⟩:=eqx ((w.alloc (.cells #[.I n,.I s] 25)).alloc (.cells #[.bool false,.string ⟨#[]⟩,.I 0] 168));have hb1:Blk w0 w.heap.size 25 #[.I n,.I s]:=Y48;have hb2:Blk w0 (w.heap.size+1) 168 #[.bool false,.string ⟨#[]⟩,.I 0]:=by
  rw [hw0];have:=Blk.new (w.alloc (.cells #[.I n,.I s] 25)) 168 #[.bool false,.string ⟨#[]⟩,.I 0]
  simpa using this
 have hx0:Ext w w0:=Y49;obtain ⟨g1,hg1⟩:=eqx w.heap.size;obtain ⟨g2,hg2⟩:=eqx (w.heap.size+1);have hne:g1≠g2:=Y4;obtain ⟨HW0,HG1,HG2⟩:=Hd3 hw0 hg1 hg2;have HGW:w.heap.size≤g2:=Y4;rw [←hg1] at hb1;rw [←hg2] at hb2;obtain ⟨HB1,HB2,HX0,HVD⟩:=Hd4 hb1 hb2 hx0 hvd;clear hb1 hb2 hx0 hw0 hg1 hg2 hvd
 go_enter func174,ntmps174
 go_wp2_with fail
 rw [←HW0.o];refine (IN n s w0).mono ?_;rintro e1 w1 ⟨rfl,hx1⟩;obtain ⟨HX1,HC1,HC2⟩:=Hd3 (HX0.o.trans hx1) (HB1.o.keep (hx1.kept _)) (HB2.o.keep (hx1.kept _));rw [←HG2.o,←HG1.o];clear hx1 HB1 HB2 HX0 HW0;cases hd:Cm n s
 ·have HF:=Hd (show BG n s=(0,0) by unfold BG;rw [hd];rfl);obtain ⟨c0,c1,c2⟩:=HC2.o.qs3;have cf:=HC2.o.frozen;have cl:=HC2.o.lt;have hz:=((HC2.o.set 0 (.bool false)).set 1 (.string ⟨#[]⟩)).set 2 (.I 0);obtain ⟨d0,d1,d2⟩:=hz.qs3;clear hd hz;go_wp2;refine bodyPost_ret (v:=.agg #[.bool false,.string ⟨#[]⟩,.I 0]) (by simp [results,results174,go_sem,d0,d1,d2]) rfl ⟨⟨#[]⟩,Y19,by rw [HF.o];exact ⟨rfl,by simp [KH],Y17⟩,?_⟩;exact ((HX1.o.set2 HGW _).set2 HGW _).set2 HGW _
 ·have HF:=Hd (show BG n s=(n,s) by unfold BG;rw [hd];rfl);have hr:=HVD.o;rw [HF.o] at hr;have hr1:-72057594037927936≤n:=(by have:=hr.2.2.1;simp at this;omega);have hr2:n≤72057594037927936:=(by have:=hr.2.2.2;simp at this;omega);have hs0:0≤s:=hr.1;obtain ⟨lt,hlt⟩:∃ lt:Bool,lt=decide (n<0):=⟨_,rfl⟩;have HLT:=Hd hlt;clear hd hr hlt
  go_upto_region 4 with fail
  refine Qb (fun i=>[i]) (fun m b=>m=1009∧b=g2) [(9,[1009])] ?_;refine Qp ?_;refine Qm (fun vals γ w' ρ hR hN hp hρ zs zg=>by
   exact V4) ?_
  iterate 2 refine Qp ?_
  refine Qm (fun vals γ w' ρ hR hN hp hρ zs zg=>by
   exact V4) ?_
  refine Qs (FP fun v γ w'=>∃ r,v=.string r∧isN r n.natAbs) (EuA ?_) ?_ ?_
  ·intro v γ w1 γ' w2 r h;exact h
  ·intro vals γ w' ρ hR hN hp hρ zs zg;have HR:=hR;refine Qr ?_;refine (It n hr1 hr2 w').mono ?_;exact Xg
  refine Qp ?_;refine Qm (fun vals γ w' ρ hR hN hp hρ zs zg=>by
   exact V4) ?_
  refine Qs (FP fun v γ w'=>∃ r,v=.agg #[.bool lt,.string r,.I s]∧isN r n.natAbs) (EuA ?_) ?_ ?_
  ·intro v γ w1 γ' w2 r h;exact h
  ·intro vals γ w' ρ hR hN hp hρ zs zg;obtain ⟨r5,hv5,hn5⟩:=hp.o 5 Y17;have e14:=(hρ.o 14).trans hv5;have HN5:=Hd hn5;clear hn5;refine Qr ?_;exact ⟨γ,LX.refl _ _ _,fun _ _ _ h=>h,r5,by rw [HLT.o];rfl,HN5.o⟩
  refine Qs (fun _ γ w'=>∃ r,(Blk w' g2 168 #[.bool lt,.string r,.I s]∧γ 1009=some none∧C4 γ g2)∧isN r n.natAbs) ?_ ?_ ?_
  ·intro l γ w1 γ' w2 rr h;obtain ⟨r,⟨h1,h2,h3⟩,hn8⟩:=h;exact ⟨r,⟨h1.keep (rr.keptS fun b _ e=>⟨by rw [e];exact h3,fun m hm=>Y50⟩),rr.done _ h2,rr.free h1.lt h3⟩,hn8⟩
  ·intro vals γ w' ρ hR hN hp hρ zs zg;obtain ⟨r,hv8,hn8⟩:=hp.o 8 Y17;have e17:=(hρ.o 17).trans hv8;have HN8:=Hd hn8;have HR:=hR;have hk0:=hR.o.key0 hN.o (k:=1009) Y17 Y17;have HK:=Hd hk0;have hb0:=HC2.o.keep ((Kept.drew _ _).trans (hR.o.keptS (S:=fun b=>b=g2) fun b _ e=>⟨Is b,fun m hm=>Y45⟩));have HB0:=Hd hb0;obtain ⟨q0,q1,q2⟩:=hb0.qs3;have qf:=hb0.frozen;have ql:=hb0.lt;clear hk0 hb0;refine Qr ?_;refine ⟨γ.put 1009 none,FCA HK.o rfl rfl rfl Y1 (fun b hb hm=>(((((Only.refl g2 w').set 0 (.bool lt)).set 1 (.string r)).set 2 (.I s))).block b fun e=>hm ⟨rfl,e⟩),LM.done Y17 (.inr Y17),?_⟩;have hb1:=HB0.o;exact ⟨r,⟨by simpa using (((hb1.set 0 (.bool lt)).set 1 (.string r)).set 2 (.I s)),rfl,fun ⟨k',hk'⟩=>by unfold Gh.put at hk';split at hk';(cases hk');exact absurd (HR.o.old k' _ hk' (by have:=HC2.o.lt;exact this)) (by simp [gh0])⟩,hn8⟩
  intro vals γ w9 hR hG;obtain ⟨q5,v5,-⟩:=hG 5 Y17;obtain ⟨q8,v8,-⟩:=hG 8 Y17;refine Qx ?_;simp only [v5,v8];clear v5 v8;obtain ⟨r,⟨hb9,-,-⟩,hn9⟩:=hG 9 Y17;obtain ⟨c0,c1,c2⟩:=hb9.qs3;have cl:=hb9.lt;have HX9:=Hd (hR.extB HX1.o fun m b hm=>Y51);have HN9:=Hd hn9;clear hb9 hn9 hR hG;go_wp2;refine bodyPost_ret (v:=.agg #[.bool lt,.string r,.I s]) (by simp [results,results174,go_sem,c0,c1,c2]) rfl ⟨r,by rw [HF.o];simp [Int.toNat_of_nonneg hs0,HLT.o],by rw [HF.o];exact HN9.o,HX9.o⟩

theorem Vx(h:qP:=by
 have hk:=hR.o.kept0 (S:=fun b=>b=g1) (fun b hb m hm=>hne (hb.symm.trans hm.2));have k1:=HC1.o.keep hk;obtain ⟨k10,k11,k12⟩:=k1.qs3;clear hk k1;exact Qk):qP:=h
theorem VA(h:qP:=by
 intro l γ w1 γ' w2 rr h;obtain ⟨r,⟨h1,h2,h3⟩,hnr⟩:=h;exact ⟨r,⟨h1.keep (rr.keptS fun b _ e=>⟨by rw [e];exact h3,fun m hm=>Y50⟩),rr.done _ h2,rr.free h1.lt h3⟩,hnr⟩):qP:=h
theorem LG(neg:Bool)(N:BA)(s k:Nat)(h32:N.size≤4294967296)(hN:AF N<256^50)(hsk:s≤k)(hk:k≤6)(w:World) :
  Cl 218 #[.agg #[.bool neg,.string N,.I (s:Int)],.I (k:Int)] w (SK w neg (AF N*10^(k-s)) k):=by
 obtain ⟨w0,hw0⟩:=eqx ((w.alloc (.cells #[.bool neg,.string N,.I (s:Int)] 168)).alloc (.cells #[.bool false,.string ⟨#[]⟩,.I 0] 168));have hb1:Blk w0 w.heap.size 168 #[.bool neg,.string N,.I (s:Int)]:=Y48;have hb2:Blk w0 (w.heap.size+1) 168 #[.bool false,.string ⟨#[]⟩,.I 0]:=by
  rw [hw0];have:=Blk.new (w.alloc (.cells #[.bool neg,.string N,.I (s:Int)] 168)) 168 #[.bool false,.string ⟨#[]⟩,.I 0]
  simpa using this
 have hx0:Ext w w0:=Y49;obtain ⟨g1,hg1⟩:=eqx w.heap.size;obtain ⟨g2,hg2⟩:=eqx (w.heap.size+1);have hne:g1≠g2:=Y4;obtain ⟨HW0,HG1,HG2⟩:=Hd3 hw0 hg1 hg2;have HGW:w.heap.size≤g2:=Y4;rw [←hg1] at hb1;rw [←hg2] at hb2;obtain ⟨HC1,HC2,HX0⟩:=Hd3 hb1 hb2 hx0;obtain ⟨dd,hdd⟩:=eqx (k-s);have HD:=Hd (show IntKind.i64.wrap ((k:Int)-(s:Int))=(dd:Int) by rw [show (k:Int)-(s:Int)=(dd:Int) by omega];exact IntWalk.i64_in _ Y4);have hd6:dd≤6:=Y4;rw [←hdd];clear hb1 hb2 hx0 hw0 hg1 hg2 hdd
 go_enter func218,ntmps218
 go_upto_region 1 with fail
 rw [←HW0.o,←HG2.o,←HG1.o];refine Qb (fun i=>[i]) (fun m b=>m=1012∧b=g2) [(12,[1012])] ?_;refine Qp ?_;refine Qm (fun vals γ w' ρ hR hN hp hρ zs zg=>by
  exact Vx) ?_
 refine Qp ?_;refine Qm (fun vals γ w' ρ hR hN hp hρ zs zg=>by
  exact Vx) ?_
 iterate 2 refine Qp ?_
 refine Qm (fun vals γ w' ρ hR hN hp hρ zs zg=>by
  exact Vx) ?_
 refine Qm (fun vals γ w' ρ hR hN hp hρ zs zg=>by
  have hd:=HD.o;exact Qk) ?_
 refine Qs (FP fun v γ w'=>∃ r,v=.string r∧isN r (10^dd)) (EuA ?_) ?_ ?_
 ·intro v γ w1 γ' w2 r h;exact h
 ·intro vals γ w' ρ hR hN hp hρ zs zg;have HR:=hR;refine Qr ?_;refine (QL dd Y4 w').mono ?_;exact Xg
 refine Qs (FP fun v γ w'=>∃ r,v=.string r∧isN r (AF N*10^dd)) (EuA ?_) ?_ ?_
 ·intro v γ w1 γ' w2 r h;exact h
 ·intro vals γ w' ρ hR hN hp hρ zs zg;obtain ⟨r8,hv8,hn8⟩:=hp.o 8 Y17;have e13:=(hρ.o 13).trans hv8;have HR:=hR;have HN8:=Hd hn8;clear hn8 hN;refine Qr ?_;refine (Pb N r8 h32 HN8.o.2.2 (Nat.lt_trans hN (Nat.pow_lt_pow_right Y17 Y17)) (by rw [HN8.o.1];exact Nat.lt_of_le_of_lt (Nat.pow_le_pow_right Y17 hd6) Y17) w').mono ?_;rintro e1 w3 ⟨r,he,h1,h2,h3,hx⟩;exact ⟨_,he,γ,E6A _ γ hx,fun _ _ _ h=>h,r,rfl,by rw [h1,HN8.o.1],h2,h3⟩
 refine Qp ?_;refine Qs (FP fun v γ w'=>∃ r,v=.agg #[.bool neg,.string r,.I (k:Int)]∧isN r (AF N*10^dd)) (EuA ?_) ?_ ?_
 ·intro v γ w1 γ' w2 r h;exact h
 ·intro vals γ w' ρ hR hN hp hρ zs zg;obtain ⟨r9,hv9,hn9⟩:=hp.o 9 Y17;have e14:=(hρ.o 14).trans hv9;have HN9:=Hd hn9;clear hn9;refine Qr ?_;exact ⟨γ,LX.refl _ _ _,fun _ _ _ h=>h,r9,rfl,HN9.o⟩
 refine Qs (fun _ γ w'=>∃ r,(Blk w' g2 168 #[.bool neg,.string r,.I (k:Int)]∧γ 1012=some none∧C4 γ g2)∧isN r (AF N*10^dd)) ?_ ?_ ?_
 ·exact VA
 ·intro vals γ w' ρ hR hN hp hρ zs zg;obtain ⟨r,hv11,hn11⟩:=hp.o 11 Y17;have e16:=(hρ.o 16).trans hv11;have HN11:=Hd hn11;clear hn11;have HR:=hR;have hk0:=hR.o.key0 hN.o (k:=1012) Y17 Y17;have HK:=Hd hk0;have hb0:=HC2.o.keep ((Kept.drew _ _).trans (hR.o.keptS (S:=fun b=>b=g2) fun b _ e=>⟨Is b,fun m hm=>Y45⟩));have HB0:=Hd hb0;obtain ⟨q0,q1,q2⟩:=hb0.qs3;have qf:=hb0.frozen;have ql:=hb0.lt;clear hk0 hb0;refine Qr ?_;refine ⟨γ.put 1012 none,FCA HK.o rfl rfl rfl Y1 (fun b hb hm=>(((((Only.refl g2 w').set 0 (.bool neg)).set 1 (.string r)).set 2 (.I (k:Int)))).block b fun e=>hm ⟨rfl,e⟩),LM.done Y17 (.inr Y17),?_⟩;have hb1:=HB0.o;exact ⟨r,⟨by simpa using (((hb1.set 0 (.bool neg)).set 1 (.string r)).set 2 (.I (k:Int))),rfl,fun ⟨k',hk'⟩=>by unfold Gh.put at hk';split at hk';(cases hk');exact absurd (HR.o.old k' _ hk' (by have:=HC2.o.lt;exact this)) (by simp [gh0])⟩,HN11.o⟩
 intro vals γ w9 hR hG;obtain ⟨q8,v8,-⟩:=hG 8 Y17;obtain ⟨q9,v9,-⟩:=hG 9 Y17;obtain ⟨q11,v11,-⟩:=hG 11 Y17;refine Qx ?_;simp only [v8,v9,v11];clear v8 v9 v11;obtain ⟨r,⟨hb9,-,-⟩,hn9⟩:=hG 12 Y17;obtain ⟨c0,c1,c2⟩:=hb9.qs3;have cl:=hb9.lt;have HX9:=Hd (hR.extB HX0.o fun m b hm=>Y51);have HN9:=Hd hn9;clear hb9 hn9 hR hG;go_wp2;refine bodyPost_ret (v:=.agg #[.bool neg,.string r,.I (k:Int)]) (by simp [results,results218,go_sem,c0,c1,c2]) rfl ⟨r,rfl,HN9.o,HX9.o⟩
end Go.Proofs.YtidacnalcdhckaaGreatDoor
