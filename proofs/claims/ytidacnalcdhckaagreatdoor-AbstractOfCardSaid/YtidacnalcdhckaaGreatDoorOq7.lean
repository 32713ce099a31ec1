/- Lemmas. No conditions. -/
import Derived.Test.YtidacnalcdhckaaGreatDoorOq6
import Derived.Laws.BytesArg
import Derived.WalkSpells
import Derived.IntWalk
import Derived.Deep.Light
set_option maxRecDepth 100000
set_option maxHeartbeats 1000000
namespace Go.Proofs.YtidacnalcdhckaaGreatDoor
open Go Go.RowKit Tryz
variable {qP:Prop}

def nvl(l:List UInt8):Nat:=l.foldl (fun a b=>a*256+b.toNat) 0
def AO(s:BA):Nat:=nvl s.data.toList
def V7(s:BA):Prop:=s.data.toList.head?≠some 0
theorem Mk(l:List UInt8)(b:UInt8):nvl (l++[b])=nvl l*256+b.toNat:=by simp [nvl,List.foldl_append]
theorem YS(l:List UInt8)(a:Nat):l.foldl (fun a b=>a*256+b.toNat) a=a*256^l.length+nvl l:=by
 induction l generalizing a with
 |nil=>simp [nvl]
 |cons b l ih =>
  simp only [List.foldl_cons,nvl,List.length_cons];rw [ih,ih (0*256+b.toNat)];rw [Nat.pow_succ,Nat.zero_mul,Nat.zero_add];have:(a*256+b.toNat)*256^l.length=a*(256^l.length*256)+b.toNat*256^l.length:=by
   rw [Nat.add_mul,Nat.mul_assoc,Nat.mul_comm 256]
  omega
theorem GR(b:UInt8)(l:List UInt8):nvl (b::l)=b.toNat*256^l.length+nvl l:=by
 have:=YS l (0*256+b.toNat)
 simpa [nvl] using this
theorem Io:∀ l:List UInt8,nvl l<256^l.length
 |[]=>by simp [nvl]
 |b::l=>by
  rw [GR,List.length_cons,Nat.pow_succ];have h1:=Io l;have h2:b.toNat<256:=b.toNat_lt;have h3:b.toNat*256^l.length≤255*256^l.length:=Nat.mul_le_mul_right _ AA;omega
theorem Wh:∀ (k:Nat) (l:List UInt8),(∀ j (h:j<l.length),j<k→l[j]=0)→nvl l=nvl (l.drop k)
 |0,l,_=>rfl
 |k+1,[],_=>by simp
 |k+1,b::l,h=>by
  have h0:b=0:=h 0 AC AA;subst h0;rw [GR,List.drop_succ_cons];have:=Wh k l fun j hj hk=>h (j+1) ET AA;rw [←this];simp
theorem E1A(b:UInt8)(l:List UInt8)(h:b≠0):256^l.length≤nvl (b::l):=by
 rw [GR];have h1:1≤b.toNat:=by
  rcases Nat.eq_zero_or_pos b.toNat with h0|h0
  ·exact absurd (UInt8.toNat_inj.1 (by simpa using h0)) h
  ·exact h0
 have:=Nat.mul_le_mul_right (256^l.length) h1;omega
theorem Ep{s:BA}(h:V7 s){k:Nat} : s.size≤k↔AO s<256^k:=by
 have hsz:s.size=s.data.toList.length:=AC;unfold V7 at h;unfold AO;rw [hsz];generalize s.data.toList=l at *;constructor
 ·intro hk;exact Nat.lt_of_lt_of_le (Io l) (Nat.pow_le_pow_right AA hk)
 ·intro hk;cases l with
  |nil=>simp
  |cons b l =>
   have h0:b≠0:=BU;have h1:=E1A b l h0;have h2:256^l.length<256^k:=Nat.lt_of_le_of_lt h1 hk;have:=(Nat.pow_lt_pow_iff_right (a:=256) AA).1 h2;simp;omega
theorem If{s:BA}(h:V7 s):s.size=0↔AO s=0:=by
 have:=Ep h (k:=0);rw [Nat.pow_zero] at this;omega
theorem Eo(s:BA)(k:Nat)(h:k<s.size):s.data.toList[k]'(by simpa using h)=s[k]:=by simp;rfl

def GwA(w:World)(s:BA)(e:Ending)(w':World):Prop:=e=.returned (.string s)∧w=w'
def FoA(s:BA)(k:Nat):Prop:=∀ j (h:j<s.size),j<k→s[j]=0
theorem Yp{s:BA}{k:Nat}(_hk:k≤s.size)(hz:FoA s k)(hn:∀ h:k<s.size,s[k]≠0):AO (s.extract k s.size)=AO s∧V7 (s.extract k s.size)∧(s.extract k s.size).size≤s.size:=by
 have he:(s.extract k s.size).data.toList=s.data.toList.drop k:=by
  simp [ByteArray.data_extract];exact List.take_of_length_le AC
 refine ⟨?_,?_,AC⟩
 ·unfold AO;rw [he];exact (Wh k _ fun j h hj=>by rw [Eo s j BU];exact hz j BU hj).symm
 ·unfold V7;rw [he,List.head?_drop]
  rcases Nat.lt_or_ge k s.size with h|h
  ·rw [List.getElem?_eq_getElem BU,Eo s k h];intro hh;exact hn h (Option.some.inj hh)
  ·rw [List.getElem?_eq_none BU];simp

theorem DJ(s:BA)(hs:s.size≤4294967296)(w:World):Cl 256 #[.string s] w (fun e w'=>∃ r,GwA w r e w'∧AO r=AO s∧V7 r∧r.size≤s.size):=by
 go_enter func256,ntmps256
 go_wp2
 go_loop [3] (fun i=>∃ k:Nat,k≤s.size∧i=.I k∧FoA s k) (fun i=>s.size-(intOf i).toNat)
 case atStart=>exact ⟨0,AN,rfl,fun _ _ h=>AA⟩
 case round =>
  obtain ⟨k,hk,rfl,hz⟩:=hrel;have HZ:=Hd hz;clear hz;by_cases hlt:k<s.size
  ·by_cases h0:s[k]=0
   ·have h0':((s[k].toNat:Int)==0)=true:=(by simp [h0]);have H0:=Hd h0;clear h0;go_wp2
    go_round
    case rel =>
     refine ⟨k+1,AA,AE,fun j h hj => ?_⟩;by_cases hjk:j=k
     ·subst hjk;exact H0.o
     ·exact HZ.o j h AA
    case measure=>simp [intOf];omega
   ·have h0':((s[k].toNat:Int)==0)=false:=by
     have:s[k].toNat≠0:=fun e=>h0 (UInt8.toNat_inj.1 (by simpa using e));simp;omega
    have H0:=Hd (Yp hk HZ.o fun _=>h0);clear h0;go_wp2;go_ret;exact ⟨_,⟨rfl,rfl⟩,H0.o⟩
  ·have H0:=Hd (Yp hk HZ.o fun h=>absurd h hlt);go_wp2;go_ret;exact ⟨_,⟨rfl,rfl⟩,H0.o⟩

theorem Xb(l m:List UInt8):nvl (l++m)=nvl l*256^m.length+nvl m:=by
 have:=YS m (nvl l);rw [←this];simp [nvl,List.foldl_append]
theorem YF(l:List UInt8)(k:Nat):nvl (l.take k)≤nvl l:=by
 have h:=Xb (l.take k) (l.drop k);rw [List.take_append_drop] at h;have:1≤256^(l.drop k).length:=Nat.one_le_pow _ _ AA;have:=Nat.mul_le_mul_left (nvl (l.take k)) this;omega
theorem Vj(s:BA)(k:Nat)(h:k<s.size):nvl (s.data.toList.take (k+1))=nvl (s.data.toList.take k)*256+s[k].toNat:=by
 rw [List.take_succ_eq_append_getElem BU,Mk,Eo s k h]
theorem Wd{s:BA}(h:s.size=8):AO s<9223372036854775808↔s[0].toNat≤127:=by
 have h0:s.data.toList.head?=some s[0]:=(by rw [List.head?_eq_getElem?,List.getElem?_eq_getElem AI,Eo s 0 AA]);have hl:s.data.toList.length=8:=BU;unfold AO;generalize s.data.toList=l at *;cases l with
 |nil=>simp at hl
 |cons b l =>
  have hb:b=s[0]:=(by simpa using h0);rw [←hb,GR];have hl7:l.length=7:=GJ;have:=Io l;rw [hl7] at *;omega
def JY(s:BA):Ending:=.returned (.tuple #[.I (if AO s<9223372036854775808 then (AO s:Int) else 0),.bool (decide (AO s<9223372036854775808))])

theorem AMA(h:qP:=by
 have h1:=HGO.o k hlt;have h2:=Vj r k hlt;have HS:=Hd h2;obtain ⟨n,hn⟩:=eqx (nvl (r.data.toList.take k));rw [←hn] at HS h2⊢;rw [h2] at h1;clear h2;go_wp2
 go_round
 case rel=>exact ⟨k+1,by omega,by go_num,by rw [HS.o];go_num⟩
 case measure=>simp [intOf];omega):qP:=h
theorem BRA(h:qP:=by
 have hf:nvl (r.data.toList.take k)=AO r:=(by rw [List.take_of_length_le (by simp;omega)];rfl);rw [hf];go_wp2;refine bodyPost_ret (v:=.tuple #[.I (AO r:Int),.bool true]) (by simp [results,results250,go_sem]) rfl ⟨HB.o.symm,rfl⟩):qP:=h
theorem AuA(h:qP:=by
 obtain ⟨k,hk,rfl,rfl⟩:=hrel;by_cases hlt:k<r.size
 ·exact AMA
 ·exact BRA):qP:=h
theorem Q4(h:qP:=by
 go_wp2
 go_loop [4,5] (fun n i=>∃ k:Nat,k≤r.size∧i=.I k∧n=.I (nvl (r.data.toList.take k):Int)) (fun n i=>r.size-(intOf i).toNat)
 case atStart=>exact ⟨0,AN,rfl,rfl⟩
 case round =>
  exact AuA):qP:=h
theorem QF(h:qP:=by
 clear h8 hb;go_wp2;refine bodyPost_ret (v:=.tuple #[.I 0,.bool false]) (by simp [results,results250,go_sem]) rfl ⟨HB.o.symm,rfl⟩):qP:=h
theorem De(h:qP:=by simp [he]):qP:=h
theorem XS(s:BA)(hs:s.size≤4294967296)(w:World):Cl 250 #[.string s] w (fun e w'=>e=JY s∧w=w'):=by
 go_enter func250,ntmps250
 go_wp2_with fail
 refine (DJ s hs _).mono ?_;rintro e1 w1 ⟨r,⟨rfl,rfl⟩,hv,hc,hsz⟩;have HR:=Hd (show JY r=JY s by unfold JY;rw [hv]);have h8:=Ep hc (k:=8);rw [show (256:Nat)^8=18446744073709551616 by decide] at h8;have hr:r.size≤4294967296:=AA;have HC:=Hd hc;clear hv hsz hc;by_cases hb:AO r<9223372036854775808
 ·have HB:=Hd (show JY s=.returned (.tuple #[.I (AO r:Int),.bool true]) by rw [←HR.o];simp [JY,hb]);have hb8:r.size≤8:=h8.2 AA;have n8:¬(8:Int)<(r.size:Int):=AA;have HN:=Hd hb;have hgo:∀ k,k<r.size→nvl (r.data.toList.take (k+1))<9223372036854775808:=fun k _=>Nat.lt_of_le_of_lt (YF _ _) hb;have HGO:=Hd hgo;by_cases he:r.size=8
  ·have e8:((r.size:Int)==8)=true:=De;have h0:=(Wd he).1 hb;have p0:0<r.size:=AA;have n127:¬(127:Int)<(r[0].toNat:Int):=AA;clear h8 hb hgo h0;exact Q4
  ·have e8:((r.size:Int)==8)=false:=AI;clear h8 hb hgo;exact Q4
 ·have HB:=Hd (show JY s=.returned (.tuple #[.I 0,.bool false]) by rw [←HR.o];simp [JY,hb]);by_cases h9:8<r.size
  ·have n8:(8:Int)<(r.size:Int):=AA;exact QF
  ·have n8:¬(8:Int)<(r.size:Int):=AA;have he:r.size=8:=by
    rcases Nat.lt_or_ge r.size 8 with h|h
    ·have:=(Ep HC.o (k:=7)).1 AA;rw [show (256:Nat)^7=72057594037927936 by decide] at this;omega
    ·omega
   have e8:((r.size:Int)==8)=true:=De;have p0:0<r.size:=AA;have n127:(127:Int)<(r[0].toNat:Int):=by
    have:=Wd he;omega
   exact QF

def Gb(s:BA)(k:Nat):Ending:=.returned (.tuple #[.I (if AO s<256^k then (AO s:Int) else 0),.bool (decide (AO s<256^k))])
theorem DH(s:BA)(hs:s.size≤4294967296)(k:Nat)(hk:k≤7)(w:World):Cl 253 #[.string s,.I (k:Int)] w (fun e w'=>e=Gb s k∧w=w'):=by
 go_enter func253,ntmps253
 go_wp2_with fail
 refine (DJ s hs _).mono ?_;rintro e1 w1 ⟨r,⟨rfl,rfl⟩,hv,hc,hsz⟩;have hk8:=Ep hc (k:=k);rw [hv] at hk8;by_cases hb:r.size≤k
 ·have n8:¬(k:Int)<(r.size:Int):=AA;have hb2:=hk8.1 hb;have h63:AO s<9223372036854775808:=by
   refine Nat.lt_of_lt_of_le hb2 (Nat.le_trans (Nat.pow_le_pow_right AA hk) ?_)
   decide
  have HB:=Hd (show Gb s k=JY s by simp [Gb,JY,hb2,h63]);have HI:=Hd (show JY s=.returned (.tuple #[.I (AO s:Int),.bool true]) by simp [JY,h63]);clear hk8 hb2 h63 hv hc
  go_wp2_with fail
  refine (XS s hs _).mono ?_;rintro e1 w1 ⟨he,rfl⟩;rw [HI.o] at he;subst he;go_wp2;refine bodyPost_ret (v:=.tuple #[.I (AO s:Int),.bool true]) (by simp [results,results253,go_sem]) rfl ⟨by rw [HB.o,HI.o],rfl⟩
 ·have n8:(k:Int)<(r.size:Int):=AA;have HB:=Hd (show Gb s k=.returned (.tuple #[.I 0,.bool false]) by
   have:¬AO s<256^k:=fun h=>hb (hk8.2 h);simp [Gb,this])
  clear hk8 hv hc;go_wp2;refine bodyPost_ret (v:=.tuple #[.I 0,.bool false]) (by simp [results,results253,go_sem]) rfl ⟨HB.o.symm,rfl⟩

theorem GDA:(prog.info? 5).map (fun i=>(i.zero,i.size,i.bytes))=some (some (.int .u8 0),1,1):=by kernel_rfl
theorem GUA:TI prog 85 5 1 1:=IKA underlying85 GDA rfl AB
def ofL(n j:Nat):List Int:=(List.range j).map fun i=>((n / 2^(56-8*i) % 256:Nat):Int)
theorem Mz(n j:Nat):(ofL n j).length=j:=by simp [ofL]
theorem Ys(n j:Nat):ofL n (j+1)=ofL n j++[((n / 2^(56-8*j) % 256:Nat):Int)]:=by simp [ofL,List.range_succ]
theorem WX(n:Nat):∀ j,j≤8→AO (strOfNums (ofL n j))=n / 2^(64-8*j) % 256^j
 |0,_=>by simp [AO,strOfNums,ofL,nvl,Nat.mod_one]
 |j+1,h=>by
  have ih:=WX n j AA;unfold AO at ih⊢;rw [strOfNums_data] at ih⊢;rw [Ys,List.map_append,List.map_cons,List.map_nil,Mk,ih];have h1:(UInt8.ofNat ((n / 2^(56-8*j) % 256:Nat):Int).toNat).toNat=n / 2^(56-8*j) % 256:=by
   rw [Int.toNat_natCast,UInt8.toNat_ofNat'];omega
  rw [h1,show 64-8*(j+1)=56-8*j by omega];have h2:2^(64-8*j)=2^(56-8*j)*256:=by
   rw [show 64-8*j=(56-8*j)+8 by omega,Nat.pow_add]
  rw [h2,←Nat.div_div_eq_div_mul,Nat.pow_succ];generalize n / 2^(56-8*j)=m;rw [Nat.mul_comm (256^j) 256,Nat.mod_mul];omega
theorem FOA(n:Nat)(h:n<18446744073709551616):AO (strOfNums (ofL n 8))=n:=by
 rw [WX n 8 AA];simp;omega
def Ng(w:World)(n:Nat)(e:Ending)(w':World):Prop:=∃ r,e=.returned (.string r)∧AO r=n∧V7 r∧r.size≤4294967296∧Ext w w'

theorem Ly(h:qP:=by
 injection hA with hA;injection hA with h1 h2;subst h1 h2;exact hc):qP:=h
theorem GU(h:qP:=by injection hv with h1 _ h2;exact ⟨h1,h2⟩):qP:=h
theorem Zy(n:Nat)(h0:0<n)(hn:n≤9223372036854775807)(w:World):Cl 249 #[.I (n:Int)] w (Ng w n):=by
 have hp:(0:Int)<(n:Int):=AA
 go_enter func249,ntmps249
 go_wp2
 go_loopw [3,4] (fun b i wr=>∃ (j:Nat) (A:OA) (c:Nat),j≤8∧i=.I (56-8*(j:Int))∧b=.slice A j c∧Ext w wr∧Own wr w.heap.size 5 1 A j c ((ofL n j).map (Value.int .u8))) (fun _ i _=>(intOf i+8).toNat)
 case atStart=>exact ⟨0,none,0,AA,rfl,rfl,Ext.refl _,Own.nil _ _ _ _⟩
 case round =>
  obtain ⟨j,A,c,hj,rfl,rfl,hext,hown⟩:=hrel;have HE:=Hd hext;have HOWN:=Hd hown;by_cases hlt:j<8
  ·obtain ⟨m,hm⟩:∃ m:Nat,m=56-8*j:=⟨_,rfl⟩;have hm2:56-8*(j:Int)=(m:Int):=AA;have hm3:(m:Int)≤64:=AA;have hm4:(0:Int)≤(m:Int):=AA;rw [hm2];have hby:(n:Int) / 2^m % 256=((n / 2^(56-8*j) % 256:Nat):Int):=(by rw [←hm];simp);have HBY:=Hd hby;have HM:=Hd hm;have hown2:=hown.ext ((Ext.refl wr).alloc (.cells #[.int .u8 ((n:Int) / 2^m % 256)] 5));have HO2:=Hd hown2;have hsz:=hext.size;clear hext hown hown2 hby hm hm2
   go_wp2_with (at_builtin;go_must (refine AL rfl (.tmp 13) (.tmp 18) rfl GUA rfl HO2.o rfl (Blk.rd (Blk.new _ _ _)) rfl AP AA AB AI ?_);intro A4 c4 w4 hown4 hg4 hat4)
   go_roundw
   case rel =>
    refine ⟨j+1,A4,c4,AA,by have:=HM.o;go_num,rfl,?_,?_⟩
    ·exact (HE.o.alloc _).grown hg4 fun k hk=>(HO2.o.blk hk).1
    ·rw [Ys,List.map_append,←HBY.o];exact hown4
   case measure=>have:=HM.o;simp [intOf];omega
  ·obtain rfl:j=8:=AA
   rcases hown.2 with ⟨hv,hn0⟩|⟨g,cap,cur,hv,hb,hh,hnc,hcm,hcs,ht⟩
   ·omega
   obtain ⟨rfl,rfl⟩:A=some ⟨g,0,none⟩∧c=cap:=GU;have hcv:=run_convert_bytes_arg (P:=prog) wr 85 5 underlying85 underlying5 g 0 8 c (ofL n 8) (Mz _ _) (fun i hi=>by
    obtain ⟨b,o,hA,-,hc⟩:=(Own.rd hown).at_ (k:=i) (u:=.int .u8 ((ofL n 8).getD i 0)) (by
     rw [List.getElem?_map,List.getElem?_eq_getElem (by rw [Mz];exact hi)];simp [List.getD,List.getElem?_eq_getElem (show i<(ofL n 8).length by rw [Mz];exact hi)])
    exact Ly) 166 underlying166
   have hneg:(56-8*((8:Nat):Int))=-8:=AA;rw [hneg];clear hown hext hv hb hh hnc hcm hcs ht hneg
   go_wp2_with fail
   refine (DJ (strOfNums (ofL n 8)) (by rw [strOfNums_size,Mz];omega) _).mono ?_;rintro e1 w1 ⟨r,⟨rfl,rfl⟩,hv,hc,hsz⟩;have HV:=Hd (hv.trans (FOA n AA));have HC:=Hd hc;rw [strOfNums_size,Mz] at hsz;clear hv hc;go_wp2;go_ret;exact ⟨r,rfl,HV.o,HC.o,AA,HE.o⟩
theorem X3(w:World):Cl 249 #[.I 0] w (Ng w 0):=by
 have hcv:=run_convert_bytes_nil (P:=prog) w 85 5 underlying85 underlying5 0 0 166 underlying166
 go_enter func249,ntmps249
 go_wp2
 go_loop [3,4] (fun b i=>b=.slice none 0 0∧i=.I 56) (fun _ _=>0)
 case atStart=>exact ⟨rfl,rfl⟩
 case round =>
  obtain ⟨rfl,rfl⟩:=hrel
  go_wp2_with fail
  refine (DJ ByteArray.empty AC _).mono ?_;rintro e1 w1 ⟨r,⟨rfl,rfl⟩,hv,hc,hsz⟩;go_wp2;go_ret;exact ⟨r,rfl,hv,hc,by have:ByteArray.empty.size=0:=rfl;omega,Ext.refl _⟩
theorem Hj(n:Nat)(hn:n≤9223372036854775807)(w:World):Cl 249 #[.I (n:Int)] w (Ng w n):=by
 rcases Nat.eq_zero_or_pos n with h|h
 ·subst h;exact X3 w
 ·exact Zy n h hn w

theorem GD{s:BA}{k:Nat}(h:AO s<256^k):Gb s k=.returned (.tuple #[.I (AO s:Int),.bool true]):=by simp [Gb,h]
theorem KJ(a b:BA)(ha:a.size≤4294967296)(hb:b.size≤4294967296)(ha7:AO a<256^7)(hb7:AO b<256^7)(w:World):Cl 219 #[.string a,.string b] w (Ng w (AO a+AO b)):=by
 have e7:(256:Nat)^7=72057594037927936:=AB;have HA:=Hd (GD ha7);have HB:=Hd (GD hb7);rw [e7] at ha7 hb7;clear e7
 go_enter func219,ntmps219
 go_wp2_with fail
 refine (DH a ha 7 AA _).mono ?_;rintro e1 w1 ⟨he,rfl⟩;rw [HA.o] at he;subst he
 go_wp2_with fail
 refine (DH b hb 7 AA _).mono ?_;rintro e1 w1 ⟨he,rfl⟩;rw [HB.o] at he;subst he
 go_wp2_with fail
 have:=Hj (AO a+AO b) AA w;rw [Int.natCast_add] at this;refine this.mono ?_;rintro e1 w1 ⟨r,rfl,h1,h2,h3,h4⟩;obtain ⟨H1,H2,H4⟩:=Hd3 h1 h2 h4;clear h1 h2 h4 this;go_wp2;go_ret;exact ⟨r,rfl,H1.o,H2.o,h3,H4.o⟩
theorem Nt(n:Int)(h1:-72057594037927936≤n)(h2:n≤72057594037927936)(w:World):Cl 217 #[.I n] w (Ng w n.natAbs):=by
 by_cases h0:0≤n
 ·obtain ⟨m,rfl⟩:∃ m:Nat,n=(m:Int):=⟨n.toNat,AA⟩
  go_enter func217,ntmps217
  go_wp2_with fail
  refine (Hj m AA _).mono ?_;rintro e1 w1 ⟨r,rfl,g1,g2,g3,g4⟩;obtain ⟨H1,H2,H4⟩:=Hd3 g1 g2 g4;clear g1 g2 g4;go_wp2;go_ret;exact ⟨r,rfl,by rw [H1.o];simp,H2.o,g3,H4.o⟩
 ·obtain ⟨m,hm⟩:∃ m:Nat,-(n+1)=(m:Int):=⟨(-(n+1)).toNat,AA⟩;have HM:=Hd (show m+1=n.natAbs by omega);have hneg:¬(0:Int)≤n:=h0
  go_enter func217,ntmps217
  go_wp2_with fail
  refine (Hj m AA _).mono ?_;rintro e1 w1 ⟨r,rfl,g1,g2,g3,g4⟩;have H1:=Hd g1;have H4:=Hd g4;clear g1 g2 g4
  go_wp2_with fail
  refine (Hj 1 AA _).mono ?_;rintro e1 w2 ⟨r2,rfl,g1,g2,g3',g4⟩;have H1':=Hd g1;have H4':=Hd g4;clear g1 g2 g4
  go_wp2_with fail
  have e7:(256:Nat)^7=72057594037927936:=AB;refine (KJ r r2 g3 g3' (by rw [H1.o,e7];omega) (by rw [H1'.out,e7];omega) _).mono ?_;rintro e1 w3 ⟨r3,rfl,k1,k2,k3,k4⟩;obtain ⟨K1,K2,K4⟩:=Hd3 k1 k2 k4;clear k1 k2 k4;go_wp2;go_ret;exact ⟨r3,rfl,by rw [K1.o,H1.o,H1'.out];exact HM.o,K2.o,k3,H4.o.trans (H4'.out.trans K4.o)⟩

class Rf{Γ:Type}(R:Γ→World→Γ→World→Prop):Prop where
 r:∀ γ w,R γ w γ w
class Re{Γ:Type}(R:Γ→World→Γ→World→Prop):Prop where
 e:∀ γ w w',Ext w w'→R γ w γ w'
instance (X:Nat→Nat→Prop):Rf (LX X):=⟨LX.refl X⟩
instance (X:Nat→Nat→Prop):Re (LX X):=⟨fun γ _ _ h=>IDA X γ h⟩
class Rx{Γ:Type}(R:Γ→World→Γ→World→Prop)(γ0:Γ):Prop where
 x:∀ γ w w',R γ0 w.drew γ w'→Ext w w'
instance:Rx (LX (fun _ _=>False)) gh0:=⟨fun _ _ _ h=>h.ext0 fun _ _ h=>h.elim⟩
def FQA{Γ:Type}(ops:Array Oper)(D:Nat→List Nat)(G:Nat→List Value→Γ→World→Prop)(o:Oper)(a0:Act)(vals:Nat→Value)(γ:Γ)(w:World)(ρ:Operand→Value):List Nat→Prop
 |[]=>True
 | t::l=>(match (AV o).find? (fun j=>(ops[j]?).bind (·.dst)==some t) with
   |some j=>match D j with
    |[i]=>match decide (i=j) with
     |true=>G j [ρ (.tmp t)] γ w
     |false=>True
    |_=>True
   | none=>ρ (.tmp t)=a0.tmps.getD t undef)∧FQA ops D G o a0 vals γ w ρ l
def B5A{Γ:Type}(D:Nat→List Nat)(done:List (Ft Γ))(o:Oper)(vals:Nat→Value)(γ:Γ)(w:World):Prop :=
 match o.guard with
 |none=>True
 |some (g,_)=>match (AV o).contains g with|true=>gOf done.reverse g ((D g).map vals) γ w|false=>True
section
variable {Γ:Type}{P:Program}{ops:Array Oper}{D:Nat→List Nat}{R:Γ→World→Γ→World→Prop}{N:Nat→Γ→Prop}{a0:Act}{γ0:Γ}{w0:World}{Qf:List (Ft Γ)→Prop}{done:List (Ft Γ)}{o:Oper}{rest:List Oper}{k:Nat}{x:Value}
theorem XD{G:Nat→List Value→Γ→World→Prop}{vals:Nat→Value}{γ:Γ}{w:World}{ρ:Operand→Value}(hp:∀ j,j∈AV o→G j ((D j).map vals) γ w)(hρ:∀ t,ρ (.tmp t)=Fi ops o a0 vals t):∀ l,FQA ops D G o a0 vals γ w ρ l
 |[]=>trivial
 |t::l=>by
  refine ⟨?_,XD hp hρ l⟩;have ht:=hρ t;unfold Fi at ht;cases h:(AV o).find? (fun j=>(ops[j]?).bind (·.dst)==some t) with
  |none=>rw [h] at ht;exact ht
  |some j =>
   rw [h] at ht;show match D j with|[i]=>(match decide (i=j) with|true=>G j [ρ (.tmp t)] γ w|false=>True)|_=>True
   have hj:=hp j (List.mem_of_find?_eq_some h);split
   ·rename_i i hd;rw [hd] at hj;split
    ·rename_i he;obtain rfl:=of_decide_eq_true he;rw [ht];exact hj
    ·trivial
   ·trivial
theorem Yh{vals:Nat→Value}{γ:Γ}{w:World}(hp:∀ j,j∈AV o→gOf done.reverse j ((D j).map vals) γ w):B5A D done o vals γ w:=by
 unfold B5A;split
 ·trivial
 ·split
  ·rename_i h;exact hp _ BU
  ·trivial
def FindsZ(ops:Array Oper)(D:Nat→List Nat)(R:Γ→World→Γ→World→Prop)(N:Nat→Γ→Prop)(a0:Act)(γ0:Γ)(w0:World)(k:Nat)(done:List (Ft Γ))(o:Oper)(vals:Nat→Value)(γ:Γ)(w:World)(ρ:Operand→Value)(C:Prop):Prop :=
 Hid (R γ0 w0 γ w)→Hid (N k γ)→Hid (∀ j,j∈AV o→gOf done.reverse j ((D j).map vals) γ w)→Hid (∀ t,ρ (.tmp t)=Fi ops o a0 vals t)→FQA ops D (gOf done.reverse) o a0 vals γ w ρ (o.looksAt ops)→B5A D done o vals γ w→(∀ v,ρ (.const v)=v)→(∀ f,ρ (.func f)=.func (.func f) #[] #[])→(∀ g,ρ (.global g)=.pointer (some ⟨g,0,none⟩))→C
theorem FindsZ.go{vals:Nat→Value}{γ:Γ}{w:World}{ρ:Operand→Value}{C:Prop}(h:FindsZ ops D R N a0 γ0 w0 k done o vals γ w ρ C):Xy ops D R N a0 γ0 w0 k done o vals γ w ρ C :=
 fun hR hN hp hρ h1 h2 h3=>h (Hd hR) (Hd hN) (Hd hp) (Hd hρ) (XD hp hρ _) (Yh hp) h1 h2 h3
theorem Qk{p:Prop}(h:p:=by
  intro _ _ _
  (conv at zg=>whnf)
  refine ⟨by first|rfl|(show (NM _==some _)=true;rw [zg];rfl),?_⟩
  repeat ((conv at zs=>whnf);(try have e:ρ (.tmp _)=_:=zs.1);replace zs:=zs.2)
  clear hR hN hp hρ zs zg;go_light;go_simp;exact ⟨rfl,rfl⟩):p:=h
theorem Qm [hr:Rf R](h:∀ vals γ w ρ,FindsZ ops D R N a0 γ0 w0 k done o vals γ w ρ (AY o vals=true∧Bu P (fun v w'=>v=x∧w'=w) ((execOp ρ o).run P w)))
  (next:Chain P ops D R N a0 γ0 w0 Qf (k+1) (FV x::done) rest) (hk:done.length=k:=by rfl) (hD:D k=[k]:=by rfl):Chain P ops D R N a0 γ0 w0 Qf k done (o::rest) :=
 H9A hr.r hk (fun vals γ w ρ=>(h vals γ w ρ).go) hD next
theorem HyA(ρ:Operand→Value){x:Operand}{a:Addr}{v:Value}{w w':World}(_:ρ x=.pointer (some a))(h:Ext w w')(c:Hid (w.cell? a=some v)):w'.cell? a=some v:=h.cell c.o
theorem Jn(n:Nat)(ρ:Operand→Value){x:Operand}{a:Addr}{v:Value}{w w':World}(_:ρ x=.pointer (some a))(h:Ext w w')(c:Hid (w.cell? ⟨a.block,a.off+n,a.spot⟩=some v)):w'.cell? ⟨a.block,a.off+n,a.spot⟩=some v:=h.cell c.o
theorem Qp [hr:Rf R](next:Chain P ops D R N a0 γ0 w0 Qf (k+1) (FV x::done) rest)(hk:done.length=k:=by rfl)(hD:D k=[k]:=by rfl)
  (h:∀ vals γ w ρ,FindsZ ops D R N a0 γ0 w0 k done o vals γ w ρ (AY o vals=true∧Bu P (fun v w'=>v=x∧w'=w) ((execOp ρ o).run P w)):=by
   intro vals γ w' ρ hR hN hp hρ zs zg hc hf hg
   (conv at zg=>whnf)
   refine ⟨by first|rfl|(show (NM _==some _)=true;rw [zg];rfl),?_⟩
   repeat ((conv at zs=>whnf);(try have e:ρ (.tmp _)=_:=zs.1);replace zs:=zs.2)
   try
    show Bu _ _ ((execOp _ (Oper.mk _ (Op.load _ _) _ _ _ _)).run _ _)
    first
    |have hxx:=Rx.x _ _ _ hR.o
    | have hxx:=hR.o.ext0 (fun m b _ hm=>by first
      |(rw [hm.1];exact hN.o.key (by decide))
      | (rcases hm with ⟨rfl,_⟩ | ⟨rfl,_⟩<;>exact hN.o.key (by decide)))
    try (have m:=HyA ρ (by assumption) hxx (by assumption);try (have m:=Jn 1 ρ (by assumption) hxx (by with_reducible assumption);try dsimp only [Nat.reduceAdd] at m;try (have m:=Jn 2 ρ (by assumption) hxx (by with_reducible assumption);try dsimp only [Nat.reduceAdd] at m;try (have m:=Jn 3 ρ (by assumption) hxx (by with_reducible assumption);try dsimp only [Nat.reduceAdd] at m;try (have m:=Jn 4 ρ (by assumption) hxx (by with_reducible assumption);try dsimp only [Nat.reduceAdd] at m;try (have m:=Jn 5 ρ (by assumption) hxx (by with_reducible assumption);try dsimp only [Nat.reduceAdd] at m;try (have m:=Jn 6 ρ (by assumption) hxx (by with_reducible assumption);try dsimp only [Nat.reduceAdd] at m;try (have m:=Jn 7 ρ (by assumption) hxx (by with_reducible assumption);try dsimp only [Nat.reduceAdd] at m;try (have m:=Jn 8 ρ (by assumption) hxx (by with_reducible assumption);try dsimp only [Nat.reduceAdd] at m;try (have m:=Jn 9 ρ (by assumption) hxx (by with_reducible assumption);try dsimp only [Nat.reduceAdd] at m;try (have m:=Jn 10 ρ (by assumption) hxx (by with_reducible assumption);try dsimp only [Nat.reduceAdd] at m;try (have m:=Jn 11 ρ (by assumption) hxx (by with_reducible assumption);try dsimp only [Nat.reduceAdd] at m))))))))))))
    clear hxx
   clear hR hN hp hρ zs zg;go_light;go_simp;exact ⟨rfl,rfl⟩):Chain P ops D R N a0 γ0 w0 Qf k done (o::rest):=Qm h next hk hD
theorem Qn(next:Chain P ops D R N a0 γ0 w0 Qf (k+1) (FV undef::done) rest)(hk:done.length=k:=by rfl)(hD:D k=[k]:=by rfl)
  (h:∀ vals γ w,B5A D done o vals γ w→AY o vals=false:=by
   intro vals γ w' zg
   (conv at zg=>whnf)
   show (NM _==some _)=false;rw [zg];rfl):Chain P ops D R N a0 γ0 w0 Qf k done (o::rest):=Chain.no hk hD (fun vals γ w hp=>h vals γ w (Yh hp)) next
theorem Qr{p q:Prop}(k:q)(h:Hid q→p:=by
  intro k _ _ _
  (conv at zg=>whnf)
  refine ⟨by first|rfl|(show (NM _==some _)=true;rw [zg];rfl),?_⟩
  repeat ((conv at zs=>whnf);(try have e:ρ (.tmp _)=_:=zs.1);replace zs:=zs.2)
  go_light;go_simp;exact k.o):p:=h (Hd k)
theorem Qs(Φ:Ft Γ)(hst:O8 R Φ)(h:∀ vals γ w ρ,FindsZ ops D R N a0 γ0 w0 k done o vals γ w ρ (AY o vals=true∧Bu P (fun v w'=>∃ γ',R γ w γ' w'∧(∀ j,j≠k→j ∉ AV o→N j γ→N j γ')∧Φ ((D k).map (F3 vals k v)) γ' w') ((execOp ρ o).run P w)))
  (next:Chain P ops D R N a0 γ0 w0 Qf (k+1) (Φ::done) rest) (hk:done.length=k:=by rfl):Chain P ops D R N a0 γ0 w0 Qf k done (o::rest) :=
 Chain.step Φ hk hst (fun vals γ w ρ=>(h vals γ w ρ).go) next
theorem Qg(x:Value)(h:∀ vals γ w ρ,FindsZ ops D R N a0 γ0 w0 k done o vals γ w ρ (AY o vals=true∧Bu P (fun v w'=>∃ γ',R γ w γ' w'∧(∀ j,j≠k→j ∉ AV o→N j γ→N j γ')∧v=x) ((execOp ρ o).run P w)))
  (next:Chain P ops D R N a0 γ0 w0 Qf (k+1) (FV x::done) rest) (hk:done.length=k:=by rfl) (hD:D k=[k]:=by rfl):Chain P ops D R N a0 γ0 w0 Qf k done (o::rest) :=
 Chain.step (FV x) hk (IPA x) (fun vals γ w ρ hR hN hp h1 h2 h3 h4=>by
  have:=(h vals γ w ρ).go hR hN hp h1 h2 h3 h4;refine ⟨this.1,?_⟩;have e:(fun v w'=>∃ γ',R γ w γ' w'∧(∀ j,j≠k→j ∉ AV o→N j γ→N j γ')∧FV x ((D k).map (F3 vals k v)) γ' w')=(fun v w'=>∃ γ',R γ w γ' w'∧(∀ j,j≠k→j ∉ AV o→N j γ→N j γ')∧v=x):=by
   funext v w'
   rw [hD];simp [FV,F3]
  rw [e];exact this.2) next
instance:Rf LR:=⟨LR.refl⟩
theorem Lp{G:Nat→List Value→Γ→World→Prop} [Rf R](h:∀ vals γ w ρ,Hid (R γ0 w0 γ w)→Hid (N k γ)→FQA ops D G o a0 vals γ w ρ (o.looksAt ops)→(∀ v,ρ (.const v)=v)→(∀ f,ρ (.func f)=.func (.func f) #[] #[])→(∀ g,ρ (.global g)=.pointer (some ⟨g,0,none⟩))→AY o vals=true∧Bu P (fun v w'=>∃ γ',R γ w γ' w'∧(∀ j,j≠k→j ∉ AV o→N j γ→N j γ')∧G k ((D k).map (F3 vals k v)) γ' w') ((execOp ρ o).run P w):=by
   intro vals γ w' ρ hR hN zs hc hf hg;refine ⟨rfl,?_⟩
   repeat ((conv at zs=>whnf);(try (have e:ρ (.tmp _)=_:=zs.1;try (conv at e=>rhs;whnf)));replace zs:=zs.2)
   clear hR hN zs;go_light;go_simp;exact ⟨γ,Rf.r _ _,fun _ _ _ h=>h,rfl⟩):LinStep P ops D R N G a0 γ0 w0 k o :=
 LinStep.yes fun vals γ w ρ hR hN hp hρ hc hf hg=>h vals γ w ρ (Hd hR) (Hd hN) (XD hp hρ _) hc hf hg
theorem Qc{H:World→Prop} [Rf R] [Re R](H':∀ w',H w')(next:Chain P ops D R N a0 γ0 w0 Qf (k+1) (FV x::done) rest)(hk:done.length=k:=by rfl)(hD:D k=[k]:=by rfl)
  (h:∀ vals γ w ρ,H w→FindsZ ops D R N a0 γ0 w0 k done o vals γ w ρ (AY o vals=true∧Bu P (fun v w'=>∃ γ',R γ w γ' w'∧(∀ j,j≠k→j ∉ AV o→N j γ→N j γ')∧v=x) ((execOp ρ o).run P w)):=by
   intro vals γ w' ρ hH hR hN hp hρ zs zg;have HH:=Hd hH;clear hH;refine Qr ?_;refine Calls.mono HH.o ?_;rintro e1 w3 ⟨he,hx⟩
   first
   |exact ⟨_,he,γ,Re.e _ _ _ hx,fun _ _ _ h=>h,rfl⟩
   | (subst hx;exact ⟨_,he,γ,Rf.r _ _,fun _ _ _ h=>h,rfl⟩)):Chain P ops D R N a0 γ0 w0 Qf k done (o::rest) :=
 Qg x (fun vals γ w ρ=>h vals γ w ρ (H' w)) next hk hD
theorem Qd{w1:World}{H:World→Prop} [Rf R] [Re R] [Rx R γ0](H':∀ w',Hid (Ext w1 w')→H w')(next:Chain P ops D R N a0 γ0 w1.drew Qf (k+1) (FV x::done) rest)(hk:done.length=k:=by rfl)(hD:D k=[k]:=by rfl)
  (h:∀ vals γ w ρ,H w→FindsZ ops D R N a0 γ0 w1.drew k done o vals γ w ρ (AY o vals=true∧Bu P (fun v w'=>∃ γ',R γ w γ' w'∧(∀ j,j≠k→j ∉ AV o→N j γ→N j γ')∧v=x) ((execOp ρ o).run P w)):=by
   intro vals γ w' ρ hH hR hN hp hρ zs zg;have HH:=Hd hH;clear hH;refine Qr ?_;refine Calls.mono HH.o ?_;rintro e1 w3 ⟨he,hx⟩
   first
   |exact ⟨_,he,γ,Re.e _ _ _ hx,fun _ _ _ h=>h,rfl⟩
   | (subst hx;exact ⟨_,he,γ,Rf.r _ _,fun _ _ _ h=>h,rfl⟩)):Chain P ops D R N a0 γ0 w1.drew Qf k done (o::rest) :=
 Qg x (fun vals γ w ρ hR=>h vals γ w ρ (H' w (Hd (Rx.x _ _ _ hR.o))) hR) next hk hD
def OO(D:Nat→List Nat)(vals:Nat→Value)(γ:Γ)(w:World)(K:Act→Prop):List (Ft Γ)→List Oper→Nat→Act→Prop
 |_,[],_,a=>K a
 |[],o::l,k,a=>OO D vals γ w K [] l (k+1) (a.put o.dst (vals k))
 |Φ::Φs,o::l,k,a=>Φ ((D k).map vals) γ w→OO D vals γ w K Φs l (k+1) (a.put o.dst (vals k))
theorem W4{D:Nat→List Nat}{vals:Nat→Value}{γ:Γ}{w:World}{K:Act→Prop} : ∀ (l:List Oper) (Φs:List (Ft Γ)) (k:Nat) (a:Act),(∀ i,i<l.length→gOf Φs i ((D (k+i)).map vals) γ w)→OO D vals γ w K Φs l k a→K (Ah vals l k a)
 |[],_,_,_,_,h=>by unfold OO at h;exact h
 |o::l,[],k,a,hG,h=>by
  unfold OO at h;exact W4 l [] (k+1) _ (fun i hi=>by simp [gOf]) h
 |o::l,Φ::Φs,k,a,hG,h=>by
  unfold OO at h;have h0:Φ ((D k).map vals) γ w:=(by simpa [gOf] using hG 0 AC);refine W4 l Φs (k+1) _ (fun i hi => ?_) (h h0);have:=hG (i+1) Bp;rw [show k+1+i=k+(i+1) by omega]
  simpa [gOf] using this
theorem FXA{D:Nat→List Nat}{vals:Nat→Value}{γ:Γ}{w:World}{Q:Exit→Act→World→Prop}{l:List Oper}{Φs:List (Ft Γ)}{a:Act}(hG:∀ i,i<l.length→gOf Φs i ((D i).map vals) γ w)(h:OO D vals γ w (fun a=>Q .normal a w) Φs l 0 a):Q .normal (Ah vals l 0 a) w :=
 W4 (K:=fun a=>Q .normal a w) l Φs 0 a (fun i hi=>by simpa using hG i hi) h
theorem Ql{D:Nat→List Nat}{vals:Nat→Value}{γ:Γ}{w:World}{K:Act→Prop}{Φs:List (Ft Γ)}{l:List Oper}{o:Oper}{k:Nat}{a:Act}{x:Value}(h:OO D vals γ w K Φs l (k+1) (a.put o.dst x))(hD:D k=[k]:=by rfl):OO D vals γ w K (FV x::Φs) (o::l) k a:=by
 unfold OO;rw [hD];intro h1;have h1:vals k=x:=h1;rw [h1];exact h
theorem Qw{D:Nat→List Nat}{vals:Nat→Value}{γ:Γ}{w:World}{K:Act→Prop}{k:Nat}{a:Act}{Φs:List (Ft Γ)}(h:K a):OO D vals γ w K Φs [] k a:=by
 unfold OO;exact h
end
theorem Qx{p q:Prop}(k:q)(h:q→p:=by
  intro k;refine FXA hG ?_
  repeat first|refine Ql ?_|(intro _)
  refine Qw ?_;simp only [Act.put,List.setIfInBounds_toArray,List.set_cons_succ,List.set_cons_zero];exact k):p:=h k
theorem Qb{P:Program}{l:List Oper}{Q:Exit→Act→World→Prop}{id:Nat}{a0:Act}{w0:World}(D:Nat→List Nat)(X:Nat→Nat→Prop)(al:List (Nat × List Nat))
  (h:Chain P l.toArray D (LX X) (LM al) a0 gh0 w0.drew (fun Φs=>∀ vals γ w,LX X gh0 w0.drew γ w→(∀ i,i<l.length→gOf Φs i ((D i).map vals) γ w)→Q .normal (Ah vals l 0 a0) w) 0 [] l)
  (hm:P.follows .mixedOrders=true:=by kernel_rfl) (hB:R8 l.toArray D a0.tmps.size=true:=by kernel_rfl):(Code.region id l.toArray true).wp P Q a0 w0 :=
 B6 hm D hB (LX X) (LX.refl X) (LX.trans X) (LM al) gh0 (LM.zero al) h
end Go.Proofs.YtidacnalcdhckaaGreatDoor
