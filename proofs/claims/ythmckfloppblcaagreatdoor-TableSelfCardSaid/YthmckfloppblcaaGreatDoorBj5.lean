/- The reference's numbers of bytes: Canon, Int, Of, small. No conditions but bounds on sizes. -/
import Derived.Test.YthmckfloppblcaaGreatDoorBj4
import Derived.Laws.BytesArg
import Derived.WalkSpells
import Derived.IntWalk
import Derived.Sort.Walk0
set_option maxRecDepth 100000
set_option maxHeartbeats 4000000
namespace Go.Proofs.YthmckfloppblcaaGreatDoor
open Go Go.RowKit

def nvl (l:List UInt8):Nat:=l.foldl (fun a b=>a*256+b.toNat) 0
def nval (s:ByteArray):Nat:=nvl s.data.toList
def canB (s:ByteArray):Prop:=s.data.toList.head?≠some 0
theorem nvl_snoc (l:List UInt8) (b:UInt8):nvl (l++[b])=nvl l*256+b.toNat:=by simp [nvl,List.foldl_append]
theorem nvl_from (l:List UInt8) (a:Nat):l.foldl (fun a b=>a*256+b.toNat) a=a*256 ^ l.length+nvl l:=by
 induction l generalizing a with
 | nil=>simp [nvl]
 | cons b l ih =>
  simp only [List.foldl_cons,nvl,List.length_cons];rw [ih,ih (0*256+b.toNat)];rw [Nat.pow_succ,Nat.zero_mul,Nat.zero_add];have:(a*256+b.toNat)*256 ^ l.length=a*(256 ^ l.length*256)+b.toNat*256 ^ l.length:=by
   rw [Nat.add_mul,Nat.mul_assoc,Nat.mul_comm 256]
  omega
theorem nvl_cons (b:UInt8) (l:List UInt8):nvl (b :: l)=b.toNat*256 ^ l.length+nvl l:=by
 have:=nvl_from l (0*256+b.toNat)
 simpa [nvl] using this
theorem nvl_lt:∀ l:List UInt8,nvl l<256 ^ l.length
 | []=>by simp [nvl]
 | b :: l=>by
  rw [nvl_cons,List.length_cons,Nat.pow_succ];have h1:=nvl_lt l;have h2:b.toNat<256:=b.toNat_lt;have h3:b.toNat*256 ^ l.length≤255*256 ^ l.length:=Nat.mul_le_mul_right _ (by omega);omega
theorem nvl_zeros:∀ (k:Nat) (l:List UInt8),(∀ j (h:j<l.length),j<k→l[j]=0)→nvl l=nvl (l.drop k)
 | 0,l,_=>rfl
 | k+1,[],_=>by simp
 | k+1,b :: l,h=>by
  have h0:b=0:=h 0 (by simp) (by omega);subst h0;rw [nvl_cons,List.drop_succ_cons];have:=nvl_zeros k l fun j hj hk=>h (j+1) (by simpa using hj) (by omega);rw [← this];simp
theorem nvl_low (b:UInt8) (l:List UInt8) (h:b≠0):256 ^ l.length≤nvl (b :: l):=by
 rw [nvl_cons];have h1:1≤b.toNat:=by
  rcases Nat.eq_zero_or_pos b.toNat with h0 | h0
  ·exact absurd (UInt8.toNat_inj.1 (by simpa using h0)) h
  ·exact h0
 have:=Nat.mul_le_mul_right (256 ^ l.length) h1;omega
theorem can_size {s:ByteArray} (h:canB s) {k:Nat} : s.size≤k↔nval s<256 ^ k:=by
 have hsz:s.size=s.data.toList.length:=(by simp);unfold canB at h;unfold nval;rw [hsz];generalize s.data.toList=l at *;constructor
 ·intro hk;exact Nat.lt_of_lt_of_le (nvl_lt l) (Nat.pow_le_pow_right (by omega) hk)
 ·intro hk;cases l with
  | nil=>simp
  | cons b l =>
   have h0:b≠0:=(by simpa using h);have h1:=nvl_low b l h0;have h2:256 ^ l.length<256 ^ k:=Nat.lt_of_le_of_lt h1 hk;have:=(Nat.pow_lt_pow_iff_right (a:=256) (by omega)).1 h2;simp;omega
theorem can_nil {s:ByteArray} (h:canB s):s.size=0↔nval s=0:=by
 have:=can_size h (k:=0);rw [Nat.pow_zero] at this;omega
theorem bs_toList_at (s:ByteArray) (k:Nat) (h:k<s.size):s.data.toList[k]'(by simpa using h)=s[k]:=by simp; rfl

def SameT (w:World) (s:ByteArray) (e:Ending) (w':World):Prop:=e=.returned (.string s)∧w=w'
def dropZ (s:ByteArray) (k:Nat):Prop:=∀ j (h:j<s.size),j<k→s[j]=0
theorem canon_of {s:ByteArray} {k:Nat} (_hk:k≤s.size) (hz:dropZ s k) (hn:∀ h:k<s.size,s[k]≠0):nval (s.extract k s.size)=nval s∧canB (s.extract k s.size)∧(s.extract k s.size).size≤s.size:=by
 have he:(s.extract k s.size).data.toList=s.data.toList.drop k:=by
  simp [ByteArray.data_extract];exact List.take_of_length_le (by simp)
 refine ⟨?_,?_,by simp⟩
 ·unfold nval;rw [he];exact (nvl_zeros k _ fun j h hj=>by rw [bs_toList_at s j (by simpa using h)]; exact hz j (by simpa using h) hj).symm
 ·unfold canB;rw [he,List.head?_drop]
  rcases Nat.lt_or_ge k s.size with h | h
  ·rw [List.getElem?_eq_getElem (by simpa using h),bs_toList_at s k h];intro hh;exact hn h (Option.some.inj hh)
  ·rw [List.getElem?_eq_none (by simpa using h)];simp

theorem r01_Canon (s:ByteArray) (hs:s.size≤4294967296) (w:World):Calls Tryz.prog 180 #[.string s] w (fun e w'=>∃ r,SameT w r e w'∧nval r=nval s∧canB r∧r.size≤s.size):=by
 go_enter Tryz.func180,Tryz.ntmps180
 go_wp2
 go_loop [3] (fun i=>∃ k:Nat,k≤s.size∧i=.int .i64 k∧dropZ s k) (fun i=>s.size-(intOf i).toNat)
 case atStart=>exact ⟨0,Nat.zero_le _,rfl,fun _ _ h=>by omega⟩
 case round =>
  obtain ⟨k,hk,rfl,hz⟩:=hrel;have HZ:=Hd hz;clear hz;by_cases hlt:k<s.size
  ·by_cases h0:s[k]=0
   ·have h0':((s[k].toNat:Int)==0)=true:=(by simp [h0]);have H0:=Hd h0;clear h0;go_wp2
    go_round
    case rel =>
     refine ⟨k+1,by omega,by go_num,fun j h hj => ?_⟩;by_cases hjk:j=k
     ·subst hjk; exact H0.o
     ·exact HZ.o j h (by omega)
    case measure=>simp [intOf]; omega
   ·have h0':((s[k].toNat:Int)==0)=false:=by
     have:s[k].toNat≠0:=fun e=>h0 (UInt8.toNat_inj.1 (by simpa using e));simp; omega
    have H0:=Hd (canon_of hk HZ.o fun _=>h0);clear h0;go_wp2;go_ret;exact ⟨_,⟨rfl,rfl⟩,H0.o⟩
  ·have H0:=Hd (canon_of hk HZ.o fun h=>absurd h hlt);go_wp2;go_ret;exact ⟨_,⟨rfl,rfl⟩,H0.o⟩

theorem nvl_app (l m:List UInt8):nvl (l++m)=nvl l*256 ^ m.length+nvl m:=by
 have:=nvl_from m (nvl l);rw [← this];simp [nvl,List.foldl_append]
theorem nvl_take_le (l:List UInt8) (k:Nat):nvl (l.take k)≤nvl l:=by
 have h:=nvl_app (l.take k) (l.drop k);rw [List.take_append_drop] at h;have:1≤256 ^ (l.drop k).length:=Nat.one_le_pow _ _ (by omega);have:=Nat.mul_le_mul_left (nvl (l.take k)) this;omega
theorem nvl_take_succ (s:ByteArray) (k:Nat) (h:k<s.size):nvl (s.data.toList.take (k+1))=nvl (s.data.toList.take k)*256+s[k].toNat:=by
 rw [List.take_succ_eq_append_getElem (by simpa using h),nvl_snoc,bs_toList_at s k h]
theorem can_eight {s:ByteArray} (h:s.size=8):nval s<9223372036854775808↔s[0].toNat≤127:=by
 have h0:s.data.toList.head?=some s[0]:=(by rw [List.head?_eq_getElem?,List.getElem?_eq_getElem (by simp; omega),bs_toList_at s 0 (by omega)]);have hl:s.data.toList.length=8:=(by simpa using h);unfold nval;generalize s.data.toList=l at *;cases l with
 | nil=>simp at hl
 | cons b l =>
  have hb:b=s[0]:=(by simpa using h0);rw [← hb,nvl_cons];have hl7:l.length=7:=(by simpa using hl);have:=nvl_lt l;rw [hl7] at *;omega
def intR (s:ByteArray):Ending:=.returned (.tuple #[.int .i64 (if nval s<9223372036854775808 then (nval s:Int) else 0),.bool (decide (nval s<9223372036854775808))])

theorem r01_Int (s:ByteArray) (hs:s.size≤4294967296) (w:World):Calls Tryz.prog 161 #[.string s] w (fun e w'=>e=intR s∧w=w'):=by
 go_enter Tryz.func161,Tryz.ntmps161
 go_wp2_with fail
 refine (r01_Canon s hs _).mono ?_;rintro e1 w1 ⟨r,⟨rfl,rfl⟩,hv,hc,hsz⟩;have HR:=Hd (show intR r=intR s by unfold intR; rw [hv]);have h8:=can_size hc (k:=8);rw [show (256:Nat) ^ 8=18446744073709551616 by decide] at h8;have hr:r.size≤4294967296:=(by omega);have HC:=Hd hc;clear hv hsz hc;by_cases hb:nval r<9223372036854775808
 ·have HB:=Hd (show intR s=.returned (.tuple #[.int .i64 (nval r:Int),.bool true]) by rw [← HR.o]; simp [intR,hb]);have hb8:r.size≤8:=h8.2 (by omega);have n8:¬ (8:Int)<(r.size:Int):=(by omega);have HN:=Hd hb;have hgo:∀ k,k<r.size→nvl (r.data.toList.take (k+1))<9223372036854775808:=fun k _=>Nat.lt_of_le_of_lt (nvl_take_le _ _) hb;have HGO:=Hd hgo;by_cases he:r.size=8
  ·have e8:((r.size:Int)==8)=true:=(by simp [he]);have h0:=(can_eight he).1 hb;have p0:0<r.size:=(by omega);have n127:¬ (127:Int)<(r[0].toNat:Int):=(by omega);clear h8 hb hgo h0;go_wp2
   go_loop [4,5] (fun n i=>∃ k:Nat,k≤r.size∧i=.int .i64 k∧n=.int .i64 (nvl (r.data.toList.take k):Int)) (fun n i=>r.size-(intOf i).toNat)
   case atStart=>exact ⟨0,Nat.zero_le _,rfl,rfl⟩
   case round =>
    obtain ⟨k,hk,rfl,rfl⟩:=hrel;by_cases hlt:k<r.size
    ·have h1:=HGO.o k hlt;have h2:=nvl_take_succ r k hlt;have HS:=Hd h2;obtain ⟨n,hn⟩:∃ n,n=nvl (r.data.toList.take k):=⟨_,rfl⟩;rw [← hn] at HS h2 ⊢;rw [h2] at h1;clear h2;go_wp2
     go_round
     case rel=>exact ⟨k+1,by omega,by go_num,by rw [HS.o]; go_num⟩
     case measure=>simp [intOf]; omega
    ·have hf:nvl (r.data.toList.take k)=nval r:=(by rw [List.take_of_length_le (by simp; omega)]; rfl);rw [hf];go_wp2;refine bodyPost_ret (v:=.tuple #[.int .i64 (nval r:Int),.bool true]) (by simp [results,Tryz.results161,go_sem]) rfl ⟨HB.o.symm,rfl⟩
  ·have e8:((r.size:Int)==8)=false:=(by simp; omega);clear h8 hb hgo;go_wp2
   go_loop [4,5] (fun n i=>∃ k:Nat,k≤r.size∧i=.int .i64 k∧n=.int .i64 (nvl (r.data.toList.take k):Int)) (fun n i=>r.size-(intOf i).toNat)
   case atStart=>exact ⟨0,Nat.zero_le _,rfl,rfl⟩
   case round =>
    obtain ⟨k,hk,rfl,rfl⟩:=hrel;by_cases hlt:k<r.size
    ·have h1:=HGO.o k hlt;have h2:=nvl_take_succ r k hlt;have HS:=Hd h2;obtain ⟨n,hn⟩:∃ n,n=nvl (r.data.toList.take k):=⟨_,rfl⟩;rw [← hn] at HS h2 ⊢;rw [h2] at h1;clear h2;go_wp2
     go_round
     case rel=>exact ⟨k+1,by omega,by go_num,by rw [HS.o]; go_num⟩
     case measure=>simp [intOf]; omega
    ·have hf:nvl (r.data.toList.take k)=nval r:=(by rw [List.take_of_length_le (by simp; omega)]; rfl);rw [hf];go_wp2;refine bodyPost_ret (v:=.tuple #[.int .i64 (nval r:Int),.bool true]) (by simp [results,Tryz.results161,go_sem]) rfl ⟨HB.o.symm,rfl⟩
 ·have HB:=Hd (show intR s=.returned (.tuple #[.int .i64 0,.bool false]) by rw [← HR.o]; simp [intR,hb]);by_cases h9:8<r.size
  ·have n8:(8:Int)<(r.size:Int):=(by omega);clear h8 hb;go_wp2;refine bodyPost_ret (v:=.tuple #[.int .i64 0,.bool false]) (by simp [results,Tryz.results161,go_sem]) rfl ⟨HB.o.symm,rfl⟩
  ·have n8:¬ (8:Int)<(r.size:Int):=(by omega);have he:r.size=8:=by
    rcases Nat.lt_or_ge r.size 8 with h | h
    ·have:=(can_size HC.o (k:=7)).1 (by omega);rw [show (256:Nat) ^ 7=72057594037927936 by decide] at this;omega
    ·omega
   have e8:((r.size:Int)==8)=true:=(by simp [he]);have p0:0<r.size:=(by omega);have n127:(127:Int)<(r[0].toNat:Int):=by
    have:=can_eight he;omega
   clear h8 hb;go_wp2;refine bodyPost_ret (v:=.tuple #[.int .i64 0,.bool false]) (by simp [results,Tryz.results161,go_sem]) rfl ⟨HB.o.symm,rfl⟩

def smallR (s:ByteArray) (k:Nat):Ending:=.returned (.tuple #[.int .i64 (if nval s<256 ^ k then (nval s:Int) else 0),.bool (decide (nval s<256 ^ k))])
theorem r01_small (s:ByteArray) (hs:s.size≤4294967296) (k:Nat) (hk:k≤7) (w:World):Calls Tryz.prog 181 #[.string s,.int .i64 (k:Int)] w (fun e w'=>e=smallR s k∧w=w'):=by
 go_enter Tryz.func181,Tryz.ntmps181
 go_wp2_with fail
 refine (r01_Canon s hs _).mono ?_;rintro e1 w1 ⟨r,⟨rfl,rfl⟩,hv,hc,hsz⟩;have hk8:=can_size hc (k:=k);rw [hv] at hk8;by_cases hb:r.size≤k
 ·have n8:¬ (k:Int)<(r.size:Int):=(by omega);have hb2:=hk8.1 hb;have h63:nval s<9223372036854775808:=by
   refine Nat.lt_of_lt_of_le hb2 (Nat.le_trans (Nat.pow_le_pow_right (by omega) hk) ?_)
   decide
  have HB:=Hd (show smallR s k=intR s by simp [smallR,intR,hb2,h63]);have HI:=Hd (show intR s=.returned (.tuple #[.int .i64 (nval s:Int),.bool true]) by simp [intR,h63]);clear hk8 hb2 h63 hv hc
  go_wp2_with fail
  refine (r01_Int s hs _).mono ?_;rintro e1 w1 ⟨he,rfl⟩;rw [HI.o] at he;subst he;go_wp2;refine bodyPost_ret (v:=.tuple #[.int .i64 (nval s:Int),.bool true]) (by simp [results,Tryz.results181,go_sem]) rfl ⟨by rw [HB.o,HI.o],rfl⟩
 ·have n8:(k:Int)<(r.size:Int):=(by omega);have HB:=Hd (show smallR s k=.returned (.tuple #[.int .i64 0,.bool false]) by
   have:¬ nval s<256 ^ k:=fun h=>hb (hk8.2 h);simp [smallR,this])
  clear hk8 hv hc;go_wp2;refine bodyPost_ret (v:=.tuple #[.int .i64 0,.bool false]) (by simp [results,Tryz.results181,go_sem]) rfl ⟨HB.o.symm,rfl⟩

theorem infoU8:(Tryz.prog.info? 5).map (fun i=>(i.zero,i.size,i.bytes))=some (some (.int .u8 0),1,1):=by kernel_rfl
theorem tiU8:TI Tryz.prog 132 5 1 1:=TI.mk_ Tryz.underlying132 infoU8 rfl (by decide)
def ofL (n j:Nat):List Int:=(List.range j).map fun i=>((n / 2 ^ (56-8*i) % 256:Nat):Int)
theorem ofL_len (n j:Nat):(ofL n j).length=j:=by simp [ofL]
theorem ofL_succ (n j:Nat):ofL n (j+1)=ofL n j++[((n / 2 ^ (56-8*j) % 256:Nat):Int)]:=by simp [ofL,List.range_succ]
theorem nval_nums (n:Nat):∀ j,j≤8→nval (strOfNums (ofL n j))=n / 2 ^ (64-8*j) % 256 ^ j
 | 0,_=>by simp [nval,strOfNums,ofL,nvl,Nat.mod_one]
 | j+1,h=>by
  have ih:=nval_nums n j (by omega);unfold nval at ih ⊢;rw [strOfNums_data] at ih ⊢;rw [ofL_succ,List.map_append,List.map_cons,List.map_nil,nvl_snoc,ih];have h1:(UInt8.ofNat ((n / 2 ^ (56-8*j) % 256:Nat):Int).toNat).toNat=n / 2 ^ (56-8*j) % 256:=by
   rw [Int.toNat_natCast,UInt8.toNat_ofNat'];omega
  rw [h1,show 64-8*(j+1)=56-8*j by omega];have h2:2 ^ (64-8*j)=2 ^ (56-8*j)*256:=by
   rw [show 64-8*j=(56-8*j)+8 by omega,Nat.pow_add]
  rw [h2,← Nat.div_div_eq_div_mul,Nat.pow_succ];generalize n / 2 ^ (56-8*j)=m;rw [Nat.mul_comm (256 ^ j) 256,Nat.mod_mul];omega
theorem nval_of (n:Nat) (h:n<18446744073709551616):nval (strOfNums (ofL n 8))=n:=by
 rw [nval_nums n 8 (by omega)];simp;omega
def RetT (w:World) (n:Nat) (e:Ending) (w':World):Prop:=∃ r,e=.returned (.string r)∧nval r=n∧canB r∧r.size≤4294967296∧Ext w w'

theorem r01_Of_pos (n:Nat) (h0:0<n) (hn:n≤9223372036854775807) (w:World):Calls Tryz.prog 160 #[.int .i64 (n:Int)] w (RetT w n):=by
 have hp:(0:Int)<(n:Int):=by omega
 go_enter Tryz.func160,Tryz.ntmps160
 go_wp2
 go_loopw [3,4] (fun b i wr=>∃ (j:Nat) (A:Option Addr) (c:Nat),j≤8∧i=.int .i64 (56-8*(j:Int))∧b=.slice A j c∧Ext w wr∧Own wr w.heap.size 5 1 A j c ((ofL n j).map (Value.int .u8))) (fun _ i _=>(intOf i+8).toNat)
 case atStart=>exact ⟨0,none,0,by omega,rfl,rfl,Ext.refl _,Own.nil _ _ _ _⟩
 case round =>
  obtain ⟨j,A,c,hj,rfl,rfl,hext,hown⟩:=hrel;have HE:=Hd hext;have HOWN:=Hd hown;by_cases hlt:j<8
  ·obtain ⟨m,hm⟩:∃ m:Nat,m=56-8*j:=⟨_,rfl⟩;have hm2:56-8*(j:Int)=(m:Int):=(by omega);have hm3:(m:Int)≤64:=(by omega);have hm4:(0:Int)≤(m:Int):=(by omega);rw [hm2];have hby:(n:Int) / 2 ^ m % 256=((n / 2 ^ (56-8*j) % 256:Nat):Int):=(by rw [← hm]; simp);have HBY:=Hd hby;have HM:=Hd hm;have hown2:=hown.ext ((Ext.refl wr).alloc (.cells #[.int .u8 ((n:Int) / 2 ^ m % 256)] 5));have HO2:=Hd hown2;have hsz:=hext.size;clear hext hown hown2 hby hm hm2
   go_wp2_with (at_builtin; go_must (refine wpList_app rfl (.tmp 13) (.tmp 18) rfl tiU8 rfl HO2.o rfl (Blk.rd (Blk.new _ _ _)) rfl (by simp [Value.oneCell']) (by omega) (by decide) (by simp; omega) ?_); intro A4 c4 w4 hown4 hg4 hat4)
   go_roundw
   case rel =>
    refine ⟨j+1,A4,c4,by omega,by have:=HM.o; go_num,rfl,?_,?_⟩
    ·exact (HE.o.alloc _).grown hg4 fun k hk=>(HO2.o.blk hk).1
    ·rw [ofL_succ,List.map_append,← HBY.o];exact hown4
   case measure=>have:=HM.o; simp [intOf]; omega
  ·obtain rfl:j=8:=by omega
   rcases hown.2 with ⟨hv,hn0⟩ | ⟨g,cap,cur,hv,hb,hh,hnc,hcm,hcs,ht⟩
   ·omega
   obtain ⟨rfl,rfl⟩:A=some ⟨g,0,none⟩∧c=cap:=by injection hv with h1 _ h2; exact ⟨h1,h2⟩
   have hcv:=run_convert_bytes_arg (P:=Tryz.prog) wr 132 5 Tryz.underlying132 Tryz.underlying5 g 0 8 c (ofL n 8) (ofL_len _ _) (fun i hi=>by
    obtain ⟨b,o,hA,-,hc⟩:=(Own.rd hown).at_ (k:=i) (u:=.int .u8 ((ofL n 8).getD i 0)) (by
     rw [List.getElem?_map,List.getElem?_eq_getElem (by rw [ofL_len]; exact hi)];simp [List.getD,List.getElem?_eq_getElem (show i<(ofL n 8).length by rw [ofL_len]; exact hi)])
    injection hA with hA;injection hA with h1 h2;subst h1 h2;exact hc) 172 Tryz.underlying172
   have hneg:(56-8*((8:Nat):Int))=-8:=(by omega);rw [hneg];clear hown hext hv hb hh hnc hcm hcs ht hneg
   go_wp2_with fail
   refine (r01_Canon (strOfNums (ofL n 8)) (by rw [strOfNums_size,ofL_len]; omega) _).mono ?_;rintro e1 w1 ⟨r,⟨rfl,rfl⟩,hv,hc,hsz⟩;have HV:=Hd (hv.trans (nval_of n (by omega)));have HC:=Hd hc;rw [strOfNums_size,ofL_len] at hsz;clear hv hc;go_wp2;go_ret;exact ⟨r,rfl,HV.o,HC.o,by omega,HE.o⟩
theorem r01_Of_zero (w:World):Calls Tryz.prog 160 #[.int .i64 0] w (RetT w 0):=by
 have hcv:=run_convert_bytes_nil (P:=Tryz.prog) w 132 5 Tryz.underlying132 Tryz.underlying5 0 0 172 Tryz.underlying172
 go_enter Tryz.func160,Tryz.ntmps160
 go_wp2
 go_loop [3,4] (fun b i=>b=.slice none 0 0∧i=.int .i64 56) (fun _ _=>0)
 case atStart=>exact ⟨rfl,rfl⟩
 case round =>
  obtain ⟨rfl,rfl⟩:=hrel
  go_wp2_with fail
  refine (r01_Canon ByteArray.empty (by simp) _).mono ?_;rintro e1 w1 ⟨r,⟨rfl,rfl⟩,hv,hc,hsz⟩;go_wp2;go_ret;exact ⟨r,rfl,hv,hc,by have:ByteArray.empty.size=0:=rfl; omega,Ext.refl _⟩
theorem r01_Of (n:Nat) (hn:n≤9223372036854775807) (w:World):Calls Tryz.prog 160 #[.int .i64 (n:Int)] w (RetT w n):=by
 rcases Nat.eq_zero_or_pos n with h | h
 ·subst h; exact r01_Of_zero w
 ·exact r01_Of_pos n h hn w

theorem small_yes {s:ByteArray} {k:Nat} (h:nval s<256 ^ k):smallR s k=.returned (.tuple #[.int .i64 (nval s:Int),.bool true]):=by simp [smallR,h]
theorem r01_Add_small (a b:ByteArray) (ha:a.size≤4294967296) (hb:b.size≤4294967296) (ha7:nval a<256 ^ 7) (hb7:nval b<256 ^ 7) (w:World):Calls Tryz.prog 162 #[.string a,.string b] w (RetT w (nval a+nval b)):=by
 have e7:(256:Nat) ^ 7=72057594037927936:=(by decide);have HA:=Hd (small_yes ha7);have HB:=Hd (small_yes hb7);rw [e7] at ha7 hb7;clear e7
 go_enter Tryz.func162,Tryz.ntmps162
 go_wp2_with fail
 refine (r01_small a ha 7 (by omega) _).mono ?_;rintro e1 w1 ⟨he,rfl⟩;rw [HA.o] at he;subst he
 go_wp2_with fail
 refine (r01_small b hb 7 (by omega) _).mono ?_;rintro e1 w1 ⟨he,rfl⟩;rw [HB.o] at he;subst he
 go_wp2_with fail
 have:=r01_Of (nval a+nval b) (by omega) w;rw [Int.natCast_add] at this;refine this.mono ?_;rintro e1 w1 ⟨r,rfl,h1,h2,h3,h4⟩;have H1:=Hd h1;have H2:=Hd h2;have H4:=Hd h4;clear h1 h2 h4 this;go_wp2;go_ret;exact ⟨r,rfl,H1.o,H2.o,h3,H4.o⟩
theorem r04_natural (n:Int) (h1:-72057594037927936≤n) (h2:n≤72057594037927936) (w:World):Calls Tryz.prog 140 #[.int .i64 n] w (RetT w n.natAbs):=by
 by_cases h0:0≤n
 ·obtain ⟨m,rfl⟩:∃ m:Nat,n=(m:Int):=⟨n.toNat,by omega⟩
  go_enter Tryz.func140,Tryz.ntmps140
  go_wp2_with fail
  refine (r01_Of m (by omega) _).mono ?_;rintro e1 w1 ⟨r,rfl,g1,g2,g3,g4⟩;have H1:=Hd g1;have H2:=Hd g2;have H4:=Hd g4;clear g1 g2 g4;go_wp2;go_ret;exact ⟨r,rfl,by rw [H1.o]; simp,H2.o,g3,H4.o⟩
 ·obtain ⟨m,hm⟩:∃ m:Nat,-(n+1)=(m:Int):=⟨(-(n+1)).toNat,by omega⟩;have HM:=Hd (show m+1=n.natAbs by omega);have hneg:¬ (0:Int)≤n:=h0
  go_enter Tryz.func140,Tryz.ntmps140
  go_wp2_with fail
  refine (r01_Of m (by omega) _).mono ?_;rintro e1 w1 ⟨r,rfl,g1,g2,g3,g4⟩;have H1:=Hd g1;have H4:=Hd g4;clear g1 g2 g4
  go_wp2_with fail
  refine (r01_Of 1 (by omega) _).mono ?_;rintro e1 w2 ⟨r2,rfl,g1,g2,g3',g4⟩;have H1':=Hd g1;have H4':=Hd g4;clear g1 g2 g4
  go_wp2_with fail
  have e7:(256:Nat) ^ 7=72057594037927936:=(by decide);refine (r01_Add_small r r2 g3 g3' (by rw [H1.o,e7]; omega) (by rw [H1'.out,e7]; omega) _).mono ?_;rintro e1 w3 ⟨r3,rfl,k1,k2,k3,k4⟩;have K1:=Hd k1;have K2:=Hd k2;have K4:=Hd k4;clear k1 k2 k4;go_wp2;go_ret;exact ⟨r3,rfl,by rw [K1.o,H1.o,H1'.out]; exact HM.o,K2.o,k3,H4.o.trans (H4'.out.trans K4.o)⟩

def isN (s:ByteArray) (n:Nat):Prop:=nval s=n∧canB s∧s.size≤4294967296
def RetQ (w:World) (q r:Nat) (e:Ending) (w':World):Prop:=∃ s t,e=.returned (.tuple #[.string s,.string t,.bool true])∧isN s q∧isN t r∧Ext w w'
def QuoC (M:Nat):Prop:=∀ (a b:ByteArray) (w:World),a.size≤4294967296→b.size≤4294967296→nval a<M→nval b=10→Calls Tryz.prog 159 #[.string a,.string b] w (RetQ w (nval a / 10) (nval a % 10))
theorem tmod_nat (x y:Nat):(x:Int).tmod (y:Int)=((x % y:Nat):Int):=by rw [Int.tmod_eq_emod_of_nonneg (by omega)]; simp
def vQ7 (x:Nat) (y:Nat):Nat→Value
 | 0=>.int .i64 (x:Int)
 | 1=>.int .i64 (y:Int)
 | 2=>.int .i64 ((x / y:Nat):Int)
 | 4=>.int .i64 (x:Int)
 | 5=>.int .i64 (y:Int)
 | 6=>.int .i64 ((x % y:Nat):Int)
 | 10=>.bool true
 | _=>undef
def gQ7 (x:Nat) (y:Nat) (ix:Nat) (vl:List Value) (_γ:Gh) (_w':World):Prop:=match vl with
 | [v]=>if ix=3 then (∃ r,v=.string r∧isN r (x / y)) else if ix=7 then (∃ r,v=.string r∧isN r (x % y)) else if ix=8 then (∃ r,v=.string r∧isN r (x / y)) else if ix=9 then (∃ r,v=.string r∧isN r (x % y)) else v=vQ7 x y ix
 | _=>True
theorem gQ7_st (x:Nat) (y:Nat):∀ ix vl γ w γ' w',LR γ w γ' w'→gQ7 x y ix vl γ w→gQ7 x y ix vl γ' w':=by
 intro ix vl γ w γ' w' r h
 match vl,h with
 | [v],h =>
  unfold gQ7 at h ⊢;by_cases h3:ix=3
  ·simp only [if_pos h3] at h ⊢;exact h
  simp only [if_neg h3] at h ⊢;by_cases h7:ix=7
  ·simp only [if_pos h7] at h ⊢;exact h
  simp only [if_neg h7] at h ⊢;by_cases h8:ix=8
  ·simp only [if_pos h8] at h ⊢;exact h
  simp only [if_neg h8] at h ⊢;by_cases h9:ix=9
  ·simp only [if_pos h9] at h ⊢;exact h
  simp only [if_neg h9] at h ⊢;exact h
 | [],_=>trivial
 | _ :: _ :: _,_=>trivial

theorem r01_Quo_small (a b:ByteArray) (ha:a.size≤4294967296) (hb:b.size≤4294967296) (ha7:nval a<256 ^ 7) (hb7:nval b<256 ^ 7) (hb0:0<nval b) (w:World):Calls Tryz.prog 159 #[.string a,.string b] w (RetQ w (nval a / nval b) (nval a % nval b)):=by
 have HA:=Hd (small_yes ha7)
 go_enter Tryz.func159,Tryz.ntmps159
 go_wp2_with fail
 refine (r01_Canon b hb _).mono ?_;rintro e1 w1 ⟨c,⟨rfl,rfl⟩,hv,hc,hsz⟩;have hcz:=can_nil hc;have hc0:((c.size:Int)==0)=false:=by
  rw [beq_eq_false_iff_ne];omega
 have hc32:c.size≤4294967296:=(by omega);have HB:=Hd (small_yes (s:=c) (k:=7) (by rw [hv]; exact hb7));have HV:=Hd hv;rw [show (256:Nat) ^ 7=72057594037927936 by decide] at ha7 hb7;rw [← hv] at hb7 hb0;clear hcz hc hv hsz
 go_wp2_with fail
 refine (r01_small a ha 7 (by omega) _).mono ?_;rintro e1 w1 ⟨he,rfl⟩;rw [HA.o] at he;subst he
 go_wp2_with fail
 refine (r01_small c hc32 7 (by omega) _).mono ?_;rintro e1 w1 ⟨he,rfl⟩;rw [HB.o] at he;subst he;obtain ⟨x,hx⟩:∃ x,x=nval a:=⟨_,rfl⟩;obtain ⟨y,hy⟩:∃ y,y=nval c:=⟨_,rfl⟩;have HXE:=Hd hx;have HYE:=Hd hy;rw [← hx] at ha7;rw [← hy] at hb7 hb0;rw [← hx,← hy];clear hx hy;have hdv:x / y≤x:=Nat.div_le_self _ _;have hmd:x % y<y:=Nat.mod_lt _ hb0;have HDV:=Hd (show x / y≤9223372036854775807 by omega);have HMD:=Hd (show x % y≤9223372036854775807 by omega);have HY0:=Hd (show ¬ y=0 by omega);have hw:∀ d:Nat,d≤72057594037927936→IntKind.i64.wrap (d:Int)=(d:Int):=fun d hd=>IntWalk.i64_in _ (by omega);have HW1:=Hd (show IntKind.i64.wrap ((x:Int) / (y:Int))=((x / y:Nat):Int) by rw [← Int.natCast_ediv]; exact hw _ (by omega));have HW2:=Hd (show IntKind.i64.wrap ((x:Int) % (y:Int))=((x % y:Nat):Int) by rw [← Int.natCast_emod]; exact hw _ (by omega));clear hw hdv hmd
 go_upto_region 7 with fail
 refine wp_region_lin_lit (by kernel_rfl) (fun i=>[i]) (by kernel_rfl) LR LR.refl LR.trans (LN (al0)) (gQ7 x y) (gQ7_st _ _) gh0 (LN.zero _) ⟨?_,?_,?_,?_,?_,?_,?_,?_,?_,?_,?_,trivial⟩ ?_
 ·refine LinStep.yes fun vals γ w' ρ hR hN hp hρ hc hf hg=>⟨rfl,?_⟩;have e7:ρ (.tmp 7)=.int .i64 (x:Int):=hρ 7;have hx:=hR.drew_ext;have HR:=Hd hR;have HN:=Hd hN;clear hR hN hp hρ hx;go_light;go_simp;exact ⟨γ,LR.refl _ _,fun _ _ _ h=>h,rfl⟩
 ·refine LinStep.yes fun vals γ w' ρ hR hN hp hρ hc hf hg=>⟨rfl,?_⟩;have e9:ρ (.tmp 9)=.int .i64 (y:Int):=hρ 9;have hx:=hR.drew_ext;have HR:=Hd hR;have HN:=Hd hN;clear hR hN hp hρ hx;go_light;go_simp;exact ⟨γ,LR.refl _ _,fun _ _ _ h=>h,rfl⟩
 ·refine LinStep.yes fun vals γ w' ρ hR hN hp hρ hc hf hg=>⟨rfl,?_⟩;have e35:ρ (.tmp 35)=.int .i64 (x:Int):=(hρ 35).trans (hp 0 (by decide));have e36:ρ (.tmp 36)=.int .i64 (y:Int):=(hρ 36).trans (hp 1 (by decide));have hx:=hR.drew_ext;have HR:=Hd hR;have HN:=Hd hN;clear hR hN hp hρ hx;go_light;go_simp;rw [if_neg HY0.o]
  first | rw [HW1.o] | rw [HW2.o]
  exact ⟨γ,LR.refl _ _,fun _ _ _ h=>h,rfl⟩
 ·refine LinStep.yes fun vals γ w' ρ hR hN hp hρ hc hf hg=>⟨rfl,?_⟩;have e37:ρ (.tmp 37)=.int .i64 ((x / y:Nat):Int):=(hρ 37).trans (hp 2 (by decide));have hx:=hR.drew_ext;have HR:=Hd hR;have HN:=Hd hN;clear hR hN hp hρ hx;go_light;go_simp;have hof:=r01_Of (x / y) (by first | exact HDV.o | exact HMD.o) w'
  first | refine hof.mono ?_ | (rw [Int.natCast_ediv] at hof; refine hof.mono ?_) | (rw [Int.natCast_emod] at hof; refine hof.mono ?_)
  rintro e' w3 ⟨r,he,h1,h2,h3,hx⟩;exact ⟨_,he,γ,LR.of_ext γ hx,fun _ _ _ h=>h,r,rfl,h1,h2,h3⟩
 ·refine LinStep.yes fun vals γ w' ρ hR hN hp hρ hc hf hg=>⟨rfl,?_⟩;have e7:ρ (.tmp 7)=.int .i64 (x:Int):=hρ 7;have hx:=hR.drew_ext;have HR:=Hd hR;have HN:=Hd hN;clear hR hN hp hρ hx;go_light;go_simp;exact ⟨γ,LR.refl _ _,fun _ _ _ h=>h,rfl⟩
 ·refine LinStep.yes fun vals γ w' ρ hR hN hp hρ hc hf hg=>⟨rfl,?_⟩;have e9:ρ (.tmp 9)=.int .i64 (y:Int):=hρ 9;have hx:=hR.drew_ext;have HR:=Hd hR;have HN:=Hd hN;clear hR hN hp hρ hx;go_light;go_simp;exact ⟨γ,LR.refl _ _,fun _ _ _ h=>h,rfl⟩
 ·refine LinStep.yes fun vals γ w' ρ hR hN hp hρ hc hf hg=>⟨rfl,?_⟩;have e39:ρ (.tmp 39)=.int .i64 (x:Int):=(hρ 39).trans (hp 4 (by decide));have e40:ρ (.tmp 40)=.int .i64 (y:Int):=(hρ 40).trans (hp 5 (by decide));have hx:=hR.drew_ext;have HR:=Hd hR;have HN:=Hd hN;clear hR hN hp hρ hx;go_light;go_simp;rw [if_neg HY0.o,tmod_nat];exact ⟨γ,LR.refl _ _,fun _ _ _ h=>h,rfl⟩
 ·refine LinStep.yes fun vals γ w' ρ hR hN hp hρ hc hf hg=>⟨rfl,?_⟩;have e41:ρ (.tmp 41)=.int .i64 ((x % y:Nat):Int):=(hρ 41).trans (hp 6 (by decide));have hx:=hR.drew_ext;have HR:=Hd hR;have HN:=Hd hN;clear hR hN hp hρ hx;go_light;go_simp;have hof:=r01_Of (x % y) (by first | exact HDV.o | exact HMD.o) w'
  first | refine hof.mono ?_ | (rw [Int.natCast_ediv] at hof; refine hof.mono ?_) | (rw [Int.natCast_emod] at hof; refine hof.mono ?_)
  rintro e' w3 ⟨r,he,h1,h2,h3,hx⟩;exact ⟨_,he,γ,LR.of_ext γ hx,fun _ _ _ h=>h,r,rfl,h1,h2,h3⟩
 ·refine LinStep.yes fun vals γ w' ρ hR hN hp hρ hc hf hg=>⟨rfl,?_⟩;obtain ⟨r,hr,hn⟩:=hp 3 (by decide);have e38:ρ (.tmp 38)=_:=(hρ 38).trans hr;have HN1:=Hd hn;clear hr hn;have hx:=hR.drew_ext;have HR:=Hd hR;have HN:=Hd hN;clear hR hN hp hρ hx;go_light;go_simp;exact ⟨γ,LR.refl _ _,fun _ _ _ h=>h,r,rfl,HN1.o⟩
 ·refine LinStep.yes fun vals γ w' ρ hR hN hp hρ hc hf hg=>⟨rfl,?_⟩;obtain ⟨r,hr,hn⟩:=hp 7 (by decide);have e42:ρ (.tmp 42)=_:=(hρ 42).trans hr;have HN1:=Hd hn;clear hr hn;have hx:=hR.drew_ext;have HR:=Hd hR;have HN:=Hd hN;clear hR hN hp hρ hx;go_light;go_simp;exact ⟨γ,LR.refl _ _,fun _ _ _ h=>h,r,rfl,HN1.o⟩
 ·refine LinStep.yes fun vals γ w' ρ hR hN hp hρ hc hf hg=>⟨rfl,?_⟩;have hx:=hR.drew_ext;have HR:=Hd hR;have HN:=Hd hN;clear hR hN hp hρ hx;go_light;go_simp;exact ⟨γ,LR.refl _ _,fun _ _ _ h=>h,rfl⟩
 ·intro vals γ w9 hR hG;obtain ⟨r1,hv8,hn8⟩:=hG 8 (by decide);obtain ⟨r2,hv9,hn9⟩:=hG 9 (by decide);have hv10:vals 10=.bool true:=hG 10 (by decide);have HX9:=Hd hR.drew_ext;have H8:=Hd hn8;have H9:=Hd hn9;clear hR hG hn8 hn9;simp only [lexFrame,Act.put,List.setIfInBounds_toArray,List.set_cons_succ,List.set_cons_zero,Nat.zero_add,Nat.reduceAdd,hv8,hv9,hv10];clear hv8 hv9 hv10;go_wp2;refine bodyPost_ret (v:=.tuple #[.string r1,.string r2,.bool true]) (by simp [results,Tryz.results159,go_sem]) rfl ⟨r1,r2,rfl,?_,?_,HX9.o⟩
  ·rw [← HXE.o,← HV.o,← HYE.o]; exact H8.o
  ·rw [← HXE.o,← HV.o,← HYE.o]; exact H9.o
theorem quoC_small:QuoC (256 ^ 7):=by
 intro a b w ha hb h7 h10;have:=r01_Quo_small a b ha hb h7 (by rw [h10]; decide) (by omega) w;rwa [h10] at this
def vF2 (g:Nat) (N:ByteArray):Nat→Value
 | 0=>.pointer (some ⟨g,1,none⟩)
 | 1=>.string N
 | 7=>.bool true
 | 10=>.bool true
 | _=>undef
def gF2 (g:Nat) (N:ByteArray) (ix:Nat) (vl:List Value) (_γ:Gh) (_w':World):Prop:=match vl with
 | [v]=>if ix=2 then (∃ r,v=.string r∧isN r (10)) else if ix=3 then (∃ r t,v=.tuple #[.string r,.string t,.bool true]∧isN r (nval N / 10)∧isN t (nval N % 10)) else if ix=4 then (∃ r t,v=.tuple #[.string r,.string t,.bool true]∧isN r (nval N / 10)∧isN t (nval N % 10)) else if ix=5 then (∃ r,v=.string r∧isN r (nval N / 10)) else if ix=6 then (∃ r,v=.string r∧isN r (nval N % 10)) else if ix=8 then (∃ r,v=.string r∧isN r (nval N / 10)) else if ix=9 then (∃ r,v=.string r∧isN r (nval N % 10)) else v=vF2 g N ix
 | _=>True
theorem gF2_st (g:Nat) (N:ByteArray):∀ ix vl γ w γ' w',LR γ w γ' w'→gF2 g N ix vl γ w→gF2 g N ix vl γ' w':=by
 intro ix vl γ w γ' w' r h
 match vl,h with
 | [v],h =>
  unfold gF2 at h ⊢;by_cases h2:ix=2
  ·simp only [if_pos h2] at h ⊢;exact h
  simp only [if_neg h2] at h ⊢;by_cases h3:ix=3
  ·simp only [if_pos h3] at h ⊢;exact h
  simp only [if_neg h3] at h ⊢;by_cases h4:ix=4
  ·simp only [if_pos h4] at h ⊢;exact h
  simp only [if_neg h4] at h ⊢;by_cases h5:ix=5
  ·simp only [if_pos h5] at h ⊢;exact h
  simp only [if_neg h5] at h ⊢;by_cases h6:ix=6
  ·simp only [if_pos h6] at h ⊢;exact h
  simp only [if_neg h6] at h ⊢;by_cases h8:ix=8
  ·simp only [if_pos h8] at h ⊢;exact h
  simp only [if_neg h8] at h ⊢;by_cases h9:ix=9
  ·simp only [if_pos h9] at h ⊢;exact h
  simp only [if_neg h9] at h ⊢;exact h
 | [],_=>trivial
 | _ :: _ :: _,_=>trivial

def strip:Nat→Nat→Nat × Nat
 | 0,n=>(n,0)
 | s+1,n=>if n % 10=0 then strip s (n / 10) else (n,s+1)
def fitS (neg:Bool) (n s:Nat):(Int × Int) × Bool :=
 if (strip s n).1≤1000000000000000∧(strip s n).2≤6 then ((if neg then -((strip s n).1:Int) else ((strip s n).1:Int),((strip s n).2:Int)),true) else ((0,0),false)
theorem r04_fit {M:Nat} (hQ:QuoC M) (neg:Bool) (N0:ByteArray) (s0:Nat) (n0:Nat) (hn0:nval N0=n0) (hs0:s0≤4294967296) (h32:N0.size≤4294967296) (hM:n0<M) (w:World) :
  Calls Tryz.prog 139 #[.agg #[.bool neg,.string N0,.int .i64 (s0:Int)]] w (RetDB w (fitS neg n0 s0)):=by
 go_enter Tryz.func139,Tryz.ntmps139
 go_wp2;have HS0:=Hd (show Blk ((w.alloc (.cells #[.bool neg,.string N0,.int .i64 (s0:Int)] 175)).alloc (.cells #[.int .i64 0,.int .i64 0] 27)) w.heap.size 175 #[.bool neg,.string N0,.int .i64 (s0:Int)] from (Blk.new _ _ _).keep (Kept.alloc _ _ _));have HS1:=Hd (show Blk ((w.alloc (.cells #[.bool neg,.string N0,.int .i64 (s0:Int)] 175)).alloc (.cells #[.int .i64 0,.int .i64 0] 27)) (w.heap.size+1) 27 #[.int .i64 0,.int .i64 0] by
  have:=Blk.new (w.alloc (.cells #[.bool neg,.string N0,.int .i64 (s0:Int)] 175)) 27 #[.int .i64 0,.int .i64 0]
  simpa using this)
 go_loopw [4] (fun _ wr=>∃ (N:ByteArray) (s:Nat),s≤s0∧N.size≤4294967296∧nval N<M∧strip s (nval N)=strip s0 n0∧Ext w wr∧Blk wr w.heap.size 175 #[.bool neg,.string N,.int .i64 (s:Int)]∧Blk wr (w.heap.size+1) 27 #[.int .i64 0,.int .i64 0]) (fun _ wr=>(intOf ((wr.cell? ⟨w.heap.size,2,none⟩).getD undef)).toNat)
 case atStart=>exact ⟨N0,s0,Nat.le_refl _,h32,by rw [hn0]; exact hM,by rw [hn0],((Ext.refl w).alloc _).alloc _,HS0.o,HS1.o⟩
 case round =>
  clear HS0 HS1;obtain ⟨N,s,hss,hN32,hNM,hst,hex,hbx,hbr⟩:=hrel;have HST0:=Hd hst;have HEX:=Hd hex;have HBX:=Hd hbx;have HBR:=Hd hbr;clear hst hex hbx hbr;by_cases hz:s=0
  ·subst hz;have HST:=Hd (show strip s0 n0=(nval N,0) by rw [← HST0.o]; rfl);obtain ⟨s,hs⟩:∃ s:Nat,s=0:=⟨_,rfl⟩;rw [← hs] at HST HBX;have hsn:¬ (0:Int)<(s:Int):=(by omega);have HSZ:=Hd hs;clear HST0 hs;have k0:=HBX.o.cell (i:=0) rfl;have k1:=HBX.o.cell (i:=1) rfl;have k2:=HBX.o.cell (i:=2) rfl;have r0:=HBR.o.cell (i:=0) rfl;have r1:=HBR.o.cell (i:=1) rfl;have rf:=HBR.o.frozen;have rz:=HBR.o.lt;have hsz:=HEX.o.size
   go_wp2_with fail
   refine (r01_Int N hN32 _).mono ?_;rintro e1 w1 ⟨he,rfl⟩;by_cases h63:nval N<9223372036854775808
   ·rw [show intR N=.returned (.tuple #[.int .i64 (nval N:Int),.bool true]) by simp [intR,h63]] at he;subst he;by_cases h15:nval N≤1000000000000000
    ·have n15:¬ (1000000000000000:Int)<(nval N:Int):=(by omega);by_cases hs6:s≤6
     ·have n6:¬ (6:Int)<(s:Int):=(by omega);have HF:=Hd (show fitS neg n0 s0=((if neg then -(nval N:Int) else (nval N:Int),(s:Int)),true) by simp [fitS,HST.o,h15,hs6]);cases neg
      ·go_wp2;rw [HF.o];refine bodyPost_ret (v:=.tuple #[.agg #[.int .i64 (nval N:Int),.int .i64 (s:Int)],.bool true]) (by simp [results,Tryz.results139,go_sem,r0,r1]) rfl ⟨rfl,?_⟩
       iterate 2 with_reducible refine Ext.set2 ?_ (by omega) _
       with_reducible exact HEX.o
      ·go_wp2;rw [HF.o];refine bodyPost_ret (v:=.tuple #[.agg #[.int .i64 (-(nval N:Int)),.int .i64 (s:Int)],.bool true]) (by simp [results,Tryz.results139,go_sem,r0,r1]) rfl ⟨rfl,?_⟩
       iterate 2 with_reducible refine Ext.set2 ?_ (by omega) _
       with_reducible exact HEX.o
     ·exfalso; omega
    ·have n15:(1000000000000000:Int)<(nval N:Int):=(by omega);have HF:=Hd (show fitS neg n0 s0=((0,0),false) by simp [fitS,HST.o,h15]);go_wp2;rw [HF.o];refine bodyPost_ret (v:=.tuple #[.agg #[.int .i64 0,.int .i64 0],.bool false]) (by simp [results,Tryz.results139,go_sem,r0,r1]) rfl ⟨rfl,?_⟩
     iterate 2 with_reducible refine Ext.set2 ?_ (by omega) _
     with_reducible exact HEX.o
   ·rw [show intR N=.returned (.tuple #[.int .i64 0,.bool false]) by simp [intR,h63]] at he;subst he;have HF:=Hd (show fitS neg n0 s0=((0,0),false) by
     have h15:¬ nval N≤1000000000000000:=(by omega);simp [fitS,HST.o,h15])
    go_wp2;rw [HF.o];refine bodyPost_ret (v:=.tuple #[.agg #[.int .i64 0,.int .i64 0],.bool false]) (by simp [results,Tryz.results139,go_sem,r0,r1]) rfl ⟨rfl,?_⟩
    iterate 2 with_reducible refine Ext.set2 ?_ (by omega) _
    with_reducible exact HEX.o
  ·have hsp:(0:Int)<(s:Int):=(by omega);have k2:=HBX.o.cell (i:=2) rfl;have HM2:=Hd k2
   go_upto_region 2 with fail
   clear k2;obtain ⟨g,hg⟩:∃ g,g=w.heap.size:=⟨_,rfl⟩;rw [← hg] at HBX ⊢;have HG:=Hd hg;clear hg;refine wp_region_lin_lit (by kernel_rfl) (fun i=>[i]) (by kernel_rfl) LR LR.refl LR.trans (LN (al0)) (gF2 g N) (gF2_st _ _) gh0 (LN.zero _) ⟨?_,?_,?_,?_,?_,?_,?_,?_,?_,?_,?_,trivial⟩ ?_
   ·refine LinStep.yes fun vals γ w' ρ hR hN hp hρ hc hf hg=>⟨rfl,?_⟩;have e1:ρ (.tmp 1)=.pointer (some ⟨g,0,none⟩):=hρ 1;have hx:=hR.drew_ext;have HR:=Hd hR;have HN:=Hd hN;clear hR hN hp hρ hx;go_light;go_simp;exact ⟨γ,LR.refl _ _,fun _ _ _ h=>h,rfl⟩
   ·refine LinStep.yes fun vals γ w' ρ hR hN hp hρ hc hf hg=>⟨rfl,?_⟩;have e13:ρ (.tmp 13)=.pointer (some ⟨g,1,none⟩):=(hρ 13).trans (hp 0 (by decide));have hx:=hR.drew_ext;have c1:=(HBX.o.keep (hx.kept _)).cell (i:=1) rfl;have HR:=Hd hR;have HN:=Hd hN;clear hR hN hp hρ hx;go_light;go_simp;exact ⟨γ,LR.refl _ _,fun _ _ _ h=>h,rfl⟩
   ·refine LinStep.yes fun vals γ w' ρ hR hN hp hρ hc hf hg=>⟨rfl,?_⟩;have hx:=hR.drew_ext;have HR:=Hd hR;have HN:=Hd hN;clear hR hN hp hρ hx;go_light;go_simp;refine (r01_Of 10 (by omega) w').mono ?_;rintro e' w3 ⟨r,he,h1,h2,h3,hx⟩;exact ⟨_,he,γ,LR.of_ext γ hx,fun _ _ _ h=>h,r,rfl,h1,h2,h3⟩
   ·refine LinStep.yes fun vals γ w' ρ hR hN hp hρ hc hf hg=>⟨rfl,?_⟩;have e14:ρ (.tmp 14)=.string N:=(hρ 14).trans (hp 1 (by decide));obtain ⟨r,hr,hn⟩:=hp 2 (by decide);have e15:ρ (.tmp 15)=_:=(hρ 15).trans hr;have HN1:=Hd hn;clear hr hn;have hx:=hR.drew_ext;have HR:=Hd hR;have HN:=Hd hN;clear hR hN hp hρ hx;go_light;go_simp;refine (hQ N r w' hN32 HN1.o.2.2 hNM HN1.o.1).mono ?_;rintro e' w3 ⟨s1,t1,he,h1,h2,hx⟩;exact ⟨_,he,γ,LR.of_ext γ hx,fun _ _ _ h=>h,s1,t1,rfl,h1,h2⟩
   ·refine LinStep.yes fun vals γ w' ρ hR hN hp hρ hc hf hg=>⟨rfl,?_⟩;obtain ⟨r,t,hr,hn⟩:=hp 3 (by decide);have e16:ρ (.tmp 16)=_:=(hρ 16).trans hr;have HN1:=Hd hn;clear hr hn;have hx:=hR.drew_ext;have HR:=Hd hR;have HN:=Hd hN;clear hR hN hp hρ hx;go_light;go_simp;exact ⟨γ,LR.refl _ _,fun _ _ _ h=>h,r,t,rfl,HN1.o⟩
   ·refine LinStep.yes fun vals γ w' ρ hR hN hp hρ hc hf hg=>⟨rfl,?_⟩;obtain ⟨r,t,hr,hn⟩:=hp 4 (by decide);have e12:ρ (.tmp 12)=_:=(hρ 12).trans hr;have HN1:=Hd hn;clear hr hn;have hx:=hR.drew_ext;have HR:=Hd hR;have HN:=Hd hN;clear hR hN hp hρ hx;go_light;go_simp;exact ⟨γ,LR.refl _ _,fun _ _ _ h=>h,r,rfl,HN1.o.1⟩
   ·refine LinStep.yes fun vals γ w' ρ hR hN hp hρ hc hf hg=>⟨rfl,?_⟩;obtain ⟨r,t,hr,hn⟩:=hp 4 (by decide);have e12:ρ (.tmp 12)=_:=(hρ 12).trans hr;have HN1:=Hd hn;clear hr hn;have hx:=hR.drew_ext;have HR:=Hd hR;have HN:=Hd hN;clear hR hN hp hρ hx;go_light;go_simp;exact ⟨γ,LR.refl _ _,fun _ _ _ h=>h,t,rfl,HN1.o.2⟩
   ·refine LinStep.yes fun vals γ w' ρ hR hN hp hρ hc hf hg=>⟨rfl,?_⟩;obtain ⟨r,t,hr,hn⟩:=hp 4 (by decide);have e12:ρ (.tmp 12)=_:=(hρ 12).trans hr;have HN1:=Hd hn;clear hr hn;have hx:=hR.drew_ext;have HR:=Hd hR;have HN:=Hd hN;clear hR hN hp hρ hx;go_light;go_simp;exact ⟨γ,LR.refl _ _,fun _ _ _ h=>h,rfl⟩
   ·refine LinStep.yes fun vals γ w' ρ hR hN hp hρ hc hf hg=>⟨rfl,?_⟩;obtain ⟨r,hr,hn⟩:=hp 5 (by decide);have e17:ρ (.tmp 17)=_:=(hρ 17).trans hr;have HN1:=Hd hn;clear hr hn;have hx:=hR.drew_ext;have HR:=Hd hR;have HN:=Hd hN;clear hR hN hp hρ hx;go_light;go_simp;exact ⟨γ,LR.refl _ _,fun _ _ _ h=>h,r,rfl,HN1.o⟩
   ·refine LinStep.yes fun vals γ w' ρ hR hN hp hρ hc hf hg=>⟨rfl,?_⟩;obtain ⟨r,hr,hn⟩:=hp 6 (by decide);have e18:ρ (.tmp 18)=_:=(hρ 18).trans hr;have HN1:=Hd hn;clear hr hn;have hx:=hR.drew_ext;have HR:=Hd hR;have HN:=Hd hN;clear hR hN hp hρ hx;go_light;go_simp;exact ⟨γ,LR.refl _ _,fun _ _ _ h=>h,r,rfl,HN1.o⟩
   ·refine LinStep.yes fun vals γ w' ρ hR hN hp hρ hc hf hg=>⟨rfl,?_⟩;have e19:ρ (.tmp 19)=.bool true:=(hρ 19).trans (hp 7 (by decide));have hx:=hR.drew_ext;have HR:=Hd hR;have HN:=Hd hN;clear hR hN hp hρ hx;go_light;go_simp;exact ⟨γ,LR.refl _ _,fun _ _ _ h=>h,rfl⟩
   ·intro vals γ w9 hR hG;obtain ⟨q,hv8,hn8⟩:=hG 8 (by decide);obtain ⟨r,hv9,hn9⟩:=hG 9 (by decide);have hv10:vals 10=.bool true:=hG 10 (by decide);have HX9:=Hd hR.drew_ext;have H8:=Hd hn8;have H9:=Hd hn9;have hr9:=can_nil hn9.2.1;rw [hn9.1] at hr9;have hr32:=hn9.2.2;clear hR hG hn8 hn9;simp only [lexFrame,Act.put,List.setIfInBounds_toArray,List.set_cons_succ,List.set_cons_zero,Nat.zero_add,Nat.reduceAdd,hv8,hv9,hv10];generalize vals 0=u0,vals 1=u1,vals 2=u2,vals 3=u3,vals 4=u4,vals 5=u5,vals 6=u6,vals 7=u7;clear hv8 hv9 hv10;rw [HG.o] at HBX ⊢;have HEX0:=HEX;have HBX0:=HBX;have HBR0:=HBR;clear HEX HBX HBR;have HEX:=Hd (HEX0.o.trans HX9.o);have HBX:=Hd (HBX0.o.keep (HX9.o.kept _));have HBR:=Hd (HBR0.o.keep (HX9.o.kept _));clear HEX0 HBX0 HBR0 HX9;by_cases hr0:nval N % 10=0
    ·have hrz:¬ (0:Int)<(r.size:Int):=(by have:=hr9.2 hr0; omega);have k1:=HBX.o.cell (i:=1) rfl;have k2:=HBX.o.cell (i:=2) rfl;have kf:=HBX.o.frozen;have kz:=HBX.o.lt;have HR0:=Hd hr0;clear hr0 hr9;go_wp2;go_roundw
     case rel =>
      obtain ⟨s',rfl⟩:∃ s',s=s'+1:=⟨s-1,by omega⟩;have hsz:=HEX.o.size;refine ⟨q,s',by omega,H8.o.2.2,?_,?_,?_,?_,?_⟩
      ·rw [H8.o.1]; exact Nat.lt_of_le_of_lt (Nat.div_le_self _ _) hNM
      ·rw [H8.o.1,← HST0.o,strip,if_pos HR0.o]
      ·iterate 2 with_reducible refine Ext.set2 ?_ (by omega) _
       with_reducible exact HEX.o
      ·have:=(HBX.o.set 1 (.string q)).set 2 (.int .i64 (s':Int))
       simpa using this
      ·refine HBR.o.keep ?_
       iterate 2 with_reducible refine Kept.set2 ?_ (by show ¬ (_=_); omega)
       with_reducible exact Kept.refl _ _
     case measure =>
      have h1:=(HBX.o.set 1 (.string q)).set 2 (.int .i64 ((s:Int)-1));have h2:=h1.cell (i:=2) rfl;have h3:=HM2.o;rw [h2,h3];simp [intOf];omega
    ·have hrz:(0:Int)<(r.size:Int):=by
      rcases Nat.eq_zero_or_pos r.size with h | h
      ·exact absurd (hr9.1 h) hr0
      ·omega
     have HST:=Hd (show strip s0 n0=(nval N,s) by
      obtain ⟨s',rfl⟩:∃ s',s=s'+1:=⟨s-1,by omega⟩;rw [← HST0.o,strip,if_neg hr0])
     clear hr0 hr9 HST0;have k0:=HBX.o.cell (i:=0) rfl;have k1:=HBX.o.cell (i:=1) rfl;have k2:=HBX.o.cell (i:=2) rfl;have r0:=HBR.o.cell (i:=0) rfl;have r1:=HBR.o.cell (i:=1) rfl;have rf:=HBR.o.frozen;have rz:=HBR.o.lt;have hsz:=HEX.o.size
     go_wp2_with fail
     refine (r01_Int N hN32 _).mono ?_;rintro e1 w1 ⟨he,rfl⟩;by_cases h63:nval N<9223372036854775808
     ·rw [show intR N=.returned (.tuple #[.int .i64 (nval N:Int),.bool true]) by simp [intR,h63]] at he;subst he;by_cases h15:nval N≤1000000000000000
      ·have n15:¬ (1000000000000000:Int)<(nval N:Int):=(by omega);by_cases hs6:s≤6
       ·have n6:¬ (6:Int)<(s:Int):=(by omega);have HF:=Hd (show fitS neg n0 s0=((if neg then -(nval N:Int) else (nval N:Int),(s:Int)),true) by simp [fitS,HST.o,h15,hs6]);cases neg
        ·go_wp2;rw [HF.o];refine bodyPost_ret (v:=.tuple #[.agg #[.int .i64 (nval N:Int),.int .i64 (s:Int)],.bool true]) (by simp [results,Tryz.results139,go_sem,r0,r1]) rfl ⟨rfl,?_⟩
         iterate 2 with_reducible refine Ext.set2 ?_ (by omega) _
         with_reducible exact HEX.o
        ·go_wp2;rw [HF.o];refine bodyPost_ret (v:=.tuple #[.agg #[.int .i64 (-(nval N:Int)),.int .i64 (s:Int)],.bool true]) (by simp [results,Tryz.results139,go_sem,r0,r1]) rfl ⟨rfl,?_⟩
         iterate 2 with_reducible refine Ext.set2 ?_ (by omega) _
         with_reducible exact HEX.o
       ·have n6:(6:Int)<(s:Int):=(by omega);have HF:=Hd (show fitS neg n0 s0=((0,0),false) by simp [fitS,HST.o,hs6]);go_wp2;rw [HF.o];refine bodyPost_ret (v:=.tuple #[.agg #[.int .i64 0,.int .i64 0],.bool false]) (by simp [results,Tryz.results139,go_sem,r0,r1]) rfl ⟨rfl,?_⟩
        iterate 2 with_reducible refine Ext.set2 ?_ (by omega) _
        with_reducible exact HEX.o
      ·have n15:(1000000000000000:Int)<(nval N:Int):=(by omega);have HF:=Hd (show fitS neg n0 s0=((0,0),false) by simp [fitS,HST.o,h15]);go_wp2;rw [HF.o];refine bodyPost_ret (v:=.tuple #[.agg #[.int .i64 0,.int .i64 0],.bool false]) (by simp [results,Tryz.results139,go_sem,r0,r1]) rfl ⟨rfl,?_⟩
       iterate 2 with_reducible refine Ext.set2 ?_ (by omega) _
       with_reducible exact HEX.o
     ·rw [show intR N=.returned (.tuple #[.int .i64 0,.bool false]) by simp [intR,h63]] at he;subst he;have HF:=Hd (show fitS neg n0 s0=((0,0),false) by
       have h15:¬ nval N≤1000000000000000:=(by omega);simp [fitS,HST.o,h15])
      go_wp2;rw [HF.o];refine bodyPost_ret (v:=.tuple #[.agg #[.int .i64 0,.int .i64 0],.bool false]) (by simp [results,Tryz.results139,go_sem,r0,r1]) rfl ⟨rfl,?_⟩
      iterate 2 with_reducible refine Ext.set2 ?_ (by omega) _
      with_reducible exact HEX.o

theorem r04_Make (n:Int) (s:Nat) (h1:-1000000000000000≤n) (h2:n≤1000000000000000) (hs:s≤18) (w:World):Calls Tryz.prog 117 #[.int .i64 n,.int .i64 (s:Int)] w (RetDB w (fitS (decide (n<0)) n.natAbs s)):=by
 have n1:¬ (s:Int)<0:=(by omega);have n2:¬ (18:Int)<(s:Int):=(by omega)
 go_enter Tryz.func117,Tryz.ntmps117
 go_wp2_with fail
 refine (r04_natural n (by omega) (by omega) _).mono ?_;rintro e1 w1 ⟨r,rfl,g1,g2,g3,g4⟩;have G1:=Hd g1;have HX1:=Hd g4;have HB1:=Hd ((Blk.new w 27 #[.int .i64 0,.int .i64 0]).keep (g4.kept _));clear g1 g2 g4
 go_wp2_with fail
 refine (r04_fit quoC_small (decide (n<0)) r s n.natAbs G1.o (by omega) g3 (by rw [show (256:Nat) ^ 7=72057594037927936 by decide]; omega) _).mono ?_;rintro e1 w2 ⟨rfl,hx2⟩;have HX2:=Hd (((Ext.refl w).alloc _).trans (HX1.o.trans hx2));have hb2:=HB1.o.keep (hx2.kept _);have r0:=hb2.cell (i:=0) rfl;have r1:=hb2.cell (i:=1) rfl;have rf:=hb2.frozen;have rz:=hb2.lt;clear hb2 hx2;go_wp2;refine bodyPost_ret (v:=.tuple #[.agg #[.int .i64 (fitS (decide (n<0)) n.natAbs s).1.1,.int .i64 (fitS (decide (n<0)) n.natAbs s).1.2],.bool (fitS (decide (n<0)) n.natAbs s).2]) (by simp [results,Tryz.results117,go_sem,r0,r1]) rfl ⟨rfl,?_⟩
 iterate 2 with_reducible refine Ext.set2 ?_ (by omega) _
 with_reducible exact HX2.o

abbrev Ft (Γ:Type):=List Value→Γ→World→Prop
def gOf {Γ:Type} (Φs:List (Ft Γ)) (i:Nat) (vl:List Value) (γ:Γ) (w:World):Prop:=(Φs.getD i fun _ _ _=>True) vl γ w
def Stab {Γ:Type} (R:Γ→World→Γ→World→Prop) (Φ:Ft Γ):Prop:=∀ l γ w γ' w',R γ w γ' w'→Φ l γ w→Φ l γ' w'
def Chain {Γ:Type} (P:Program) (ops:Array Oper) (D:Nat→List Nat) (R:Γ→World→Γ→World→Prop) (N:Nat→Γ→Prop) (a0:Act) (γ0:Γ) (w0:World) (Qf:List (Ft Γ)→Prop):Nat→List (Ft Γ)→List Oper→Prop
 | _,done,[]=>Qf done.reverse
 | k,done,o :: rest=>∃ Φ:Ft Γ,Stab R Φ∧LinStep P ops D R N (gOf (Φ :: done).reverse) a0 γ0 w0 k o∧Chain P ops D R N a0 γ0 w0 Qf (k+1) (Φ :: done) rest
section
variable {Γ:Type} {P:Program} {ops:Array Oper} {D:Nat→List Nat} {R:Γ→World→Γ→World→Prop} {N:Nat→Γ→Prop} {a0:Act} {γ0:Γ} {w0:World} {Qf:List (Ft Γ)→Prop}
theorem gOf_lt {Φs:List (Ft Γ)} {i k:Nat} (h:i<k):gOf (Φs.take k) i=gOf Φs i:=by
 funext vl γ w
 unfold gOf;rw [List.getD_eq_getElem?_getD,List.getD_eq_getElem?_getD,List.getElem?_take,if_pos h]
theorem Chain.full:∀ {rest:List Oper} {k:Nat} {done:List (Ft Γ)},done.length=k→(∀ Φ∈done,Stab R Φ)→Chain P ops D R N a0 γ0 w0 Qf k done rest →
  ∃ Φs:List (Ft Γ),Φs.take k=done.reverse∧(∀ Φ∈Φs,Stab R Φ)∧Qf Φs∧∀ i o,rest[i]?=some o→LinStep P ops D R N (gOf (Φs.take (k+i+1))) a0 γ0 w0 (k+i) o
 | [],k,done,hk,hd,h=>⟨done.reverse,by rw [← hk,← List.length_reverse]; exact List.take_length,fun Φ hΦ=>hd Φ (by simpa using hΦ),h,by simp⟩
 | o :: rest,k,done,hk,hd,h=>by
  obtain ⟨Φ,h1,h2,h3⟩:=h;obtain ⟨Φs,e1,e2,e3,e4⟩:=Chain.full (rest:=rest) (k:=k+1) (done:=Φ :: done) (by simp [hk]) (fun Ψ hΨ=>by
   rcases List.mem_cons.1 hΨ with rfl | hΨ
   ·exact h1
   ·exact hd Ψ hΨ) h3
  refine ⟨Φs,?_,e2,e3,fun i o' hi => ?_⟩
  ·have:=congrArg (List.take k) e1;rw [List.take_take,Nat.min_eq_left (by omega),List.reverse_cons] at this;rw [this,List.take_append_of_le_length (by simp [hk]),← hk,← List.length_reverse];exact List.take_length
  ·cases i with
   | zero =>
    simp at hi;subst hi;rw [Nat.add_zero,e1];exact h2
   | succ i =>
    have:=e4 i o' (by simpa using hi);rwa [show k+1+i=k+(i+1) by omega] at this
theorem LinStep.congr {G G':Nat→List Value→Γ→World→Prop} {i:Nat} {o:Oper} (hp:∀ j∈predsOf o,G j=G' j) (hi:G i=G' i) (h:LinStep P ops D R N G a0 γ0 w0 i o):LinStep P ops D R N G' a0 γ0 w0 i o:=by
 intro vals γ w hR hN hpp;have:=h vals γ w hR hN (fun j hj=>by rw [hp j hj]; exact hpp j hj);rw [hi] at this;exact this
end
theorem wp_region_chain {Γ:Type} {P:Program} {l:List Oper} {Q:Exit→Act→World→Prop} {id:Nat} {a0:Act} {w0:World} (hm:P.follows .mixedOrders=true) (D:Nat→List Nat) (hB:linB l.toArray D a0.tmps.size=true)
  (R:Γ→World→Γ→World→Prop) (hrefl:∀ γ w,R γ w γ w) (htrans:∀ γ w γ' w' γ'' w'',R γ w γ' w'→R γ' w' γ'' w''→R γ w γ'' w'')
  (N:Nat→Γ→Prop) (γ0:Γ) (hN:∀ i,N i γ0)
  (h:Chain P l.toArray D R N a0 γ0 w0.drew (fun Φs=>∀ vals γ w,R γ0 w0.drew γ w→(∀ i,i<l.length→gOf Φs i ((D i).map vals) γ w)→Q .normal (lexFrame vals l 0 a0) w) 0 [] l) :
  (Code.region id l.toArray true).wp P Q a0 w0:=by
 obtain ⟨Φs,-,h2,h3,h4⟩:=Chain.full (k:=0) (done:=[]) rfl (fun _ h=>by cases h) h;obtain ⟨-,-,-,hac,-⟩:=linB_spec hB;refine wp_region_lin hm D hB R hrefl htrans N (gOf Φs) (fun i l γ w γ' w' r hg => ?_) γ0 hN (fun i o hi => ?_) (fun vals γ w hr hg=>h3 vals γ w hr fun i hi=>hg i (by simpa using hi))
 ·unfold gOf at hg ⊢;rw [List.getD_eq_getElem?_getD] at hg ⊢;cases hf:Φs[i]? with
  | none=>trivial
  | some Φ =>
   rw [hf] at hg;exact h2 Φ (List.mem_of_getElem? hf) l γ w γ' w' r hg
 ·have:=h4 i o (by simpa using hi);simp only [Nat.zero_add] at this;exact this.congr (fun j hj=>gOf_lt (by have:=hac i o j hi hj; omega)) (gOf_lt (by omega))

def FV {Γ:Type} (x:Value):Ft Γ:=fun vl _ _=>match vl with | [v]=>v=x | _=>True
def FP {Γ:Type} (Φ:Value→Γ→World→Prop):Ft Γ:=fun vl γ w=>match vl with | [v]=>Φ v γ w | _=>True
theorem FV.stab {Γ:Type} {R:Γ→World→Γ→World→Prop} (x:Value):Stab R (FV x):=fun _ _ _ _ _ _ h=>h
theorem FP.stab {Γ:Type} {R:Γ→World→Γ→World→Prop} {Φ:Value→Γ→World→Prop} (h:∀ v γ w γ' w',R γ w γ' w'→Φ v γ w→Φ v γ' w'):Stab R (FP Φ):=fun l γ w γ' w' r hf=>by
 unfold FP at hf ⊢
 match l,hf with
 | [],_=>trivial
 | [v],hf=>exact h v γ w γ' w' r hf
 | _ :: _ :: _,_=>trivial

section
variable {Γ:Type} {P:Program} {ops:Array Oper} {D:Nat→List Nat} {R:Γ→World→Γ→World→Prop} {N:Nat→Γ→Prop} {a0:Act} {γ0:Γ} {w0:World} {Qf:List (Ft Γ)→Prop} {done:List (Ft Γ)} {o:Oper} {rest:List Oper}
theorem gOf_weak {Φ:Ft Γ} {j:Nat} {vl:List Value} {γ:Γ} {w:World} (h:gOf (Φ :: done).reverse j vl γ w):gOf done.reverse j vl γ w:=by
 unfold gOf at h ⊢;rw [List.getD_eq_getElem?_getD,List.reverse_cons] at h;rw [List.getD_eq_getElem?_getD]
 rcases Nat.lt_or_ge j done.reverse.length with hj | hj
 ·rwa [List.getElem?_append_left hj] at h
 ·rw [List.getElem?_eq_none hj]; trivial
theorem gOf_last {Φ:Ft Γ} : gOf (Φ :: done).reverse done.length=Φ:=by
 funext vl γ w
 unfold gOf;rw [List.getD_eq_getElem?_getD,List.reverse_cons,List.getElem?_append_right (by simp)];simp
def Finds (ops:Array Oper) (D:Nat→List Nat) (R:Γ→World→Γ→World→Prop) (N:Nat→Γ→Prop) (a0:Act) (γ0:Γ) (w0:World) (k:Nat) (done:List (Ft Γ)) (o:Oper) (vals:Nat→Value) (γ:Γ) (w:World) (ρ:Operand→Value) (C:Prop):Prop :=
 R γ0 w0 γ w→N k γ→(∀ j,j∈predsOf o→gOf done.reverse j ((D j).map vals) γ w)→(∀ t,ρ (.tmp t)=linLook ops o a0 vals t)→(∀ v,ρ (.const v)=v)→(∀ f,ρ (.func f)=.func (.func f) #[] #[])→(∀ g,ρ (.global g)=.pointer (some ⟨g,0,none⟩))→C
theorem Chain.step {k:Nat} (Φ:Ft Γ) (hk:done.length=k) (hst:Stab R Φ)
  (h:∀ vals γ w ρ,Finds ops D R N a0 γ0 w0 k done o vals γ w ρ (linWanted o vals=true∧linUpon P (fun v w'=>∃ γ',R γ w γ' w'∧(∀ j,j≠k→j ∉ predsOf o→N j γ→N j γ')∧Φ ((D k).map (setV vals k v)) γ' w') ((execOp ρ o).run P w)))
  (next:Chain P ops D R N a0 γ0 w0 Qf (k+1) (Φ :: done) rest):Chain P ops D R N a0 γ0 w0 Qf k done (o :: rest):=by
 refine ⟨Φ,hst,fun vals γ w hR hN hp => ?_,next⟩;obtain ⟨h1,h2⟩:=h vals γ w (linEnv ops o a0 vals) hR hN (fun j hj=>gOf_weak (hp j hj)) (fun _=>rfl) (fun _=>rfl) (fun _=>rfl) (fun _=>rfl);rw [if_pos h1];have e:gOf (Φ :: done).reverse k=Φ:=(by rw [← hk]; exact gOf_last);rw [e];exact h2
theorem Chain.pure {k:Nat} {x:Value} (hrefl:∀ γ w,R γ w γ w) (hk:done.length=k)
  (h:∀ vals γ w ρ,Finds ops D R N a0 γ0 w0 k done o vals γ w ρ (linWanted o vals=true∧linUpon P (fun v w'=>v=x∧w'=w) ((execOp ρ o).run P w)))
  (hD:D k=[k]) (next:Chain P ops D R N a0 γ0 w0 Qf (k+1) (FV x :: done) rest):Chain P ops D R N a0 γ0 w0 Qf k done (o :: rest):=by
 refine Chain.step (FV x) hk (FV.stab x) (fun vals γ w ρ hR hN hp h1 h2 h3 h4 => ?_) next;obtain ⟨g1,g2⟩:=h vals γ w ρ hR hN hp h1 h2 h3 h4;refine ⟨g1,?_⟩;have key:∀ v w',v=x∧w'=w→∃ γ',R γ w γ' w'∧(∀ j,j≠k→j ∉ predsOf o→N j γ→N j γ')∧FV x ((D k).map (setV vals k v)) γ' w':=by
  rintro v w' ⟨rfl,rfl⟩;refine ⟨γ,hrefl _ _,fun _ _ _ h=>h,?_⟩;rw [hD];simp [FV,setV]
 revert g2
 cases (execOp ρ o).run P w with
 | ok n w' =>
  cases n with
  | value v=>exact key v w'
  | skip=>exact key undef w'
  | enter f args=>exact fun g2=>g2.mono fun e w'' ⟨v,e1,e2⟩=>⟨v,e1,key v w'' e2⟩
  | _=>exact id
 | _=>exact id
theorem Chain.no {k:Nat} (hk:done.length=k) (hD:D k=[k]) (h:∀ vals γ w,(∀ j,j∈predsOf o→gOf done.reverse j ((D j).map vals) γ w)→linWanted o vals=false)
  (next:Chain P ops D R N a0 γ0 w0 Qf (k+1) (FV undef :: done) rest):Chain P ops D R N a0 γ0 w0 Qf k done (o :: rest):=by
 refine ⟨FV undef,FV.stab _,fun vals γ w hR hN hp => ?_,next⟩;have h1:=h vals γ w fun j hj=>gOf_weak (hp j hj);rw [if_neg (by rw [h1]; simp)];have e:gOf ((FV undef:Ft Γ) :: done).reverse k=FV undef:=(by rw [← hk]; exact gOf_last);rw [e,hD];simp [FV,setV]
end

structure LX (X:Nat→Nat→Prop) (γ:Gh) (w:World) (γ':Gh) (w':World):Prop where
 os:w'.os=w.os
 tape:w'.tape=w.tape
 output:w'.output=w.output
 size:w.heap.size≤w'.heap.size
 kept:∀ b,b<w.heap.size→Free γ b→(∀ m,X m b→γ' m=γ m)→w'.heap[b]?=w.heap[b]?
 shape:∀ b t cs,Blk w b t cs→(∀ m,¬ X m b)→∃ cs',cs'.size=cs.size∧Blk w' b t cs'
 old:∀ k b,γ' k=some (some b)→b<w.heap.size→γ k=some (some b)
 on:∀ k b,γ k=some (some b)→γ' k=some (some b)∨γ' k=some none
 done:∀ k,γ k=some none→γ' k=some none
 big:∀ k b,1000≤k→γ' k=some (some b)→γ k=some (some b)
 inb:(∀ k b,γ k=some (some b)→b<w.heap.size)→∀ k b,γ' k=some (some b)→b<w'.heap.size
section
variable {X:Nat→Nat→Prop} {γ γ' γ'':Gh} {w w' w'':World}
theorem LX.refl (X:Nat→Nat→Prop) (γ:Gh) (w:World):LX X γ w γ w:=⟨rfl,rfl,rfl,Nat.le_refl _,fun _ _ _ _=>rfl,fun _ _ cs h _=>⟨cs,rfl,h⟩,fun _ _ h _=>h,fun _ _ h=>.inl h,fun _ h=>h,fun _ _ _ h=>h,fun h=>h⟩
theorem LX.free (h:LX X γ w γ' w') {b:Nat} (hb:b<w.heap.size) (hf:Free γ b):Free γ' b:=fun ⟨k,hk⟩=>hf ⟨k,h.old k b hk hb⟩
theorem LX.mid (h:LX X γ w γ' w') (k:LX X γ' w' γ'' w'') {m:Nat} (e:γ'' m=γ m):γ' m=γ m∧γ'' m=γ' m:=by
 cases h0:γ m with
 | none =>
  rw [h0] at e;cases h1:γ' m with
  | none=>exact ⟨rfl,e⟩
  | some x =>
   cases x with
   | none=>rw [k.done m h1] at e; cases e
   | some b=>rcases k.on m b h1 with h2 | h2 <;> (rw [h2] at e; cases e)
 | some x =>
  cases x with
  | none =>
   have h1:=h.done m h0;exact ⟨h1,(k.done m h1).trans h1.symm⟩
  | some b =>
   rw [h0] at e
   rcases h.on m b h0 with h1 | h1
   ·exact ⟨h1,e.trans h1.symm⟩
   ·rw [k.done m h1] at e; cases e
theorem LX.trans (X:Nat→Nat→Prop) (γ:Gh) (w:World) (γ':Gh) (w':World) (γ'':Gh) (w'':World) (h:LX X γ w γ' w') (k:LX X γ' w' γ'' w''):LX X γ w γ'' w'' where
 os:=k.os.trans h.os
 tape:=k.tape.trans h.tape
 output:=k.output.trans h.output
 size:=Nat.le_trans h.size k.size
 kept b hb hf hm:=(k.kept b (Nat.lt_of_lt_of_le hb h.size) (h.free hb hf) (fun m hX=>(h.mid k (hm m hX)).2)).trans (h.kept b hb hf fun m hX=>(h.mid k (hm m hX)).1)
 shape b t cs hc hX:=by
  obtain ⟨c1,e1,h1⟩:=h.shape b t cs hc hX;obtain ⟨c2,e2,h2⟩:=k.shape b t c1 h1 hX;exact ⟨c2,e2.trans e1,h2⟩
 old i b hi hb:=h.old i b (k.old i b hi (Nat.lt_of_lt_of_le hb h.size)) hb
 on i b hi:=by
  rcases h.on i b hi with h1 | h1
  ·exact k.on i b h1
  ·exact .inr (k.done i h1)
 done i hi:=k.done i (h.done i hi)
 big i b hi hb:=h.big i b hi (k.big i b hi hb)
 inb hi:=k.inb (h.inb hi)
theorem LX.of_ext (X:Nat→Nat→Prop) (γ:Gh) (h:Ext w w'):LX X γ w γ w' :=
 ⟨h.os,h.tape,h.output,h.size,fun b hb _ _=>h.block b hb,fun _b _t cs hc _=>⟨cs,rfl,hc.keep (h.kept _)⟩,fun _ _ h _=>h,fun _ _ h=>.inl h,fun _ h=>h,fun _ _ _ h=>h,fun hi i b hb=>Nat.lt_of_lt_of_le (hi i b hb) h.size⟩
theorem LX.new {k:Nat} (hl:k<1000) (hk:γ k=none) (w:World) (o:Obj):LX X γ w (γ.put k (some w.heap.size)) (w.alloc o):=by
 have h:=(Ext.refl w).alloc o;refine ⟨h.os,h.tape,h.output,h.size,fun b hb _ _=>h.block b hb,fun b t cs hc _=>⟨cs,rfl,hc.keep (h.kept _)⟩,?_,?_,?_,?_,?_⟩
 ·intro j b hj hb;unfold Gh.put at hj;split at hj
  ·simp at hj; omega
  ·exact hj
 ·intro j b hj;left;unfold Gh.put;rw [if_neg (fun e=>by subst e; rw [hk] at hj; cases hj)];exact hj
 ·intro j hj;unfold Gh.put;rw [if_neg (fun e=>by subst e; rw [hk] at hj; cases hj)];exact hj
 ·intro j b hj hb;unfold Gh.put at hb;split at hb
  ·omega
  ·exact hb
 ·intro hi j b hj;unfold Gh.put at hj;split at hj
  ·simp at hj; subst hj; simp
  ·have:=hi j b hj; simp; omega
theorem LX.inb0 (h:LX X gh0 w γ' w'):∀ k b,γ' k=some (some b)→b<w'.heap.size:=h.inb fun k b hk=>by cases hk
theorem LX.keptS (h:LX X γ w γ' w') {S:Nat→Prop} (hS:∀ b,b<w.heap.size→S b→Free γ b∧∀ m,X m b→γ' m=γ m):Kept S w w':=⟨h.size,fun b hs hb=>h.kept b hb (hS b hb hs).1 (hS b hb hs).2⟩
theorem free0 (b:Nat):Free gh0 b:=fun ⟨_,hk⟩=>by cases hk
theorem LX.kept0 (h:LX X gh0 w.drew γ' w') {S:Nat→Prop} (hS:∀ b,S b→∀ m,¬ X m b):Kept S w w':=(Kept.drew S w).trans (h.keptS fun b _ hb=>⟨free0 b,fun m hX=>absurd hX (hS b hb m)⟩)
theorem LX.ext0 (h:LX X gh0 w.drew γ' w') (hX:∀ m b,X m b→γ' m=none):Ext w w':=(Ext.refl w).drew.trans ⟨h.os,h.tape,h.output,h.size,fun b hb=>h.kept b hb (free0 b) fun m hm=>hX m b hm⟩
theorem LX.store {k g t:Nat} {cs cs':Array Value} (hk:γ k=some (some g)) (hu:∀ j,γ j=some (some g)→j=k) (ho:Only g w w') (hb:Blk w g t cs) (hb':Blk w' g t cs') (hs:cs'.size=cs.size) :
  LX X γ w (γ.put k none) w':=by
 refine ⟨ho.os,ho.tape,ho.output,Nat.le_of_eq ho.size.symm,fun b _ hf _=>ho.block b (fun e=>hf ⟨k,by rw [hk,e]⟩),?_,?_,?_,?_,?_,?_⟩
 ·intro b t' c hc _;by_cases hbg:b=g
  ·subst hbg;have:=hb.symm.trans hc;simp at this;obtain ⟨rfl,rfl⟩:=this;exact ⟨cs',hs,hb'⟩
  ·exact ⟨c,rfl,(ho.block b hbg).trans hc⟩
 ·intro j b hj _;unfold Gh.put at hj;split at hj
  ·cases hj
  ·exact hj
 ·intro j b hj;unfold Gh.put;split
  ·exact .inr rfl
  ·exact .inl hj
 ·intro j hj;unfold Gh.put;split
  ·rfl
  ·exact hj
 ·intro j b _ hj;unfold Gh.put at hj;split at hj
  ·cases hj
  ·exact hj
 ·intro hi j b hj;unfold Gh.put at hj;split at hj
  ·cases hj
  ·rw [ho.size]; exact hi j b hj
theorem LX.write {m:Nat} (hm:γ m=none) (hos:w'.os=w.os) (ht:w'.tape=w.tape) (hou:w'.output=w.output) (hz:w.heap.size≤w'.heap.size) (hb:∀ b,b<w.heap.size→¬ X m b→w'.heap[b]?=w.heap[b]?):LX X γ w (γ.put m none) w':=by
 refine ⟨hos,ht,hou,hz,fun b hl _ hX=>hb b hl fun h => ?_,fun b t cs hc hX=>⟨cs,rfl,(hb b hc.lt (hX m)).trans hc⟩,?_,?_,?_,?_,?_⟩
 ·have:=hX m h;rw [hm] at this;simp [Gh.put] at this
 ·intro j b hj _;unfold Gh.put at hj;split at hj
  ·cases hj
  ·exact hj
 ·intro j b hj;unfold Gh.put;split
  ·exact .inr rfl
  ·exact .inl hj
 ·intro j hj;unfold Gh.put;split
  ·rfl
  ·exact hj
 ·intro j b _ hj;unfold Gh.put at hj;split at hj
  ·cases hj
  ·exact hj
 ·intro hi j b hj;unfold Gh.put at hj;split at hj
  ·cases hj
  ·exact Nat.lt_of_lt_of_le (hi j b hj) hz
end
def alF (l:List (Nat × List Nat)):Nat→List Nat:=fun j=>(l.lookup j).getD []
def LM (l:List (Nat × List Nat)) (i:Nat) (γ:Gh):Prop:=(∀ k∈alF l i,γ k≠some none)∧(i<1000→(∃ s,i∈alF l s)→γ i=none)
theorem LM.zero (l:List (Nat × List Nat)) (i:Nat):LM l i gh0:=⟨fun _ _ h=>(by cases h),fun _ _=>rfl⟩
theorem alF_ok {l:List (Nat × List Nat)} {k s:Nat} {p:List Nat} (h:(l.all fun q => !(q.2.contains k) || decide (q.1=s) || p.contains q.1)=true):∀ j,k∈alF l j→j=s∨j∈p:=by
 intro j hj;unfold alF at hj;cases hl:l.lookup j with
 | none=>rw [hl] at hj; simp at hj
 | some x =>
  rw [hl] at hj;have hm:(j,x)∈l:=by
   clear h hj
   induction l with
   | nil=>simp at hl
   | cons q l ih =>
    rw [List.lookup_cons] at hl;split at hl
    ·rename_i he;obtain rfl:=Option.some.inj hl;have:j=q.1:=(by simpa using he);rw [this]; exact List.mem_cons_self
    ·exact List.mem_cons_of_mem _ (ih hl)
  have:=List.all_eq_true.1 h (j,x) hm;simp only [Bool.or_eq_true,Bool.not_eq_true',decide_eq_true_eq,List.contains_iff_mem] at this;have hk:k∈x:=(by simpa using hj)
  rcases this with (h1 | h1) | h1
  ·rw [← Bool.not_eq_true,List.contains_iff_mem] at h1; exact absurd hk h1
  ·exact .inl h1
  ·exact .inr h1
theorem LM.made {l:List (Nat × List Nat)} {γ:Gh} {i x:Nat} {p:List Nat} : ∀ j,j≠i→j ∉ p→LM l j γ→LM l j (γ.put i (some x)):=by
 rintro j hj-⟨h1,h2⟩;refine ⟨fun k hk => ?_,fun hl hs => ?_⟩
 ·unfold Gh.put;split
  ·simp
  ·exact h1 k hk
 ·unfold Gh.put;rw [if_neg hj];exact h2 hl hs
theorem LM.done {l:List (Nat × List Nat)} {γ:Gh} {s k:Nat} {p:List Nat} (h:(l.all fun q => !(q.2.contains k) || decide (q.1=s) || p.contains q.1)=true) (hk:(∃ g,γ k=some (some g))∨1000≤k):∀ j,j≠s→j ∉ p→LM l j γ→LM l j (γ.put k none):=by
 rintro j hj hp ⟨h1,h2⟩;refine ⟨fun k' hk' => ?_,fun hl hs' => ?_⟩
 ·unfold Gh.put;rw [if_neg (fun e=>by
   subst e
   rcases alF_ok h j hk' with h3 | h3
   ·exact hj h3
   ·exact hp h3)]
  exact h1 k' hk'
 ·unfold Gh.put;rw [if_neg (fun e=>by
   subst e
   rcases hk with ⟨g,hk⟩ | hk
   ·rw [h2 hl hs'] at hk; cases hk
   ·omega)]
  exact h2 hl hs'
section
variable {X:Nat→Nat→Prop} {γ γ':Gh} {w w':World}
end

def dval:List Nat→Nat
 | []=>0
 | d :: l=>d+16777216*dval l
def dgs (l:List Nat):Prop:=∀ d∈l,d<16777216
def trd (l:List Nat):Prop:=l.getLast?≠some 0
def nums (l:List Nat):List Int:=l.map fun d:Nat=>(d:Int)
theorem nums_len (l:List Nat):(nums l).length=l.length:=by simp [nums]
theorem dval_snoc0:∀ (l:List Nat),dval (l++[0])=dval l
 | []=>rfl
 | d :: l=>by simp only [List.cons_append,dval,dval_snoc0 l]

theorem dval_snoc (l:List Nat) (d:Nat):dval (l++[d])=dval l+16777216 ^ l.length*d:=by
 induction l with
 | nil=>simp [dval]
 | cons e l ih =>
  simp only [List.cons_append,dval,ih,List.length_cons,Nat.pow_succ];rw [Nat.mul_add,Nat.mul_comm (16777216 ^ l.length) 16777216,Nat.mul_assoc];omega
theorem dval_lt:∀ l:List Nat,dgs l→dval l<16777216 ^ l.length
 | [],_=>by simp [dval]
 | d :: l,h=>by
  have h1:=h d List.mem_cons_self;have h2:=dval_lt l fun x hx=>h x (List.mem_cons_of_mem _ hx);simp only [dval,List.length_cons,Nat.pow_succ];omega
theorem dgs_snoc {l:List Nat} {d:Nat} (h:dgs l) (hd:d<16777216):dgs (l++[d]):=fun x hx=>by
 rcases List.mem_append.1 hx with hx | hx
 ·exact h x hx
 ·rw [List.mem_singleton.1 hx]; exact hd
theorem dval_take (l:List Nat) (k:Nat):dval (l.take (k+1))=dval (l.take k)+16777216 ^ k*l.getD k 0:=by
 rcases Nat.lt_or_ge k l.length with h | h
 ·rw [List.take_succ_eq_append_getElem h,dval_snoc,List.length_take,Nat.min_eq_left (by omega)];simp [h]
 ·rw [List.take_of_length_le (by omega),List.take_of_length_le h];simp [h]
theorem dgs_getD {l:List Nat} (h:dgs l) (k:Nat):l.getD k 0<16777216:=by
 rcases Nat.lt_or_ge k l.length with hk | hk
 ·simp [hk]; exact h _ (List.getElem_mem hk)
 ·simp [hk]
theorem OwnIs.read {w:World} {base c:Nat} {A:Option Addr} {l:List Nat} (h:Own w base 3 1 A l.length c ((nums l).map (Value.int .i64))) (hl:l.length≤4294967296) {T:Nat→Prop} (hT:∀ b,base≤b→T b):Ints w T A (nums l) :=
 ⟨(Own.rd h).mono fun b _ hb=>hT b (h.blk hb).1,by rw [nums_len]; exact hl⟩
theorem Ints.pre {w:World} {S:Nat→Prop} {A:Option Addr} {l m:List Nat} (h:Ints w S A (nums m)) (hp:l <+: m):Ints w S A (nums l):=by
 obtain ⟨h1,h2⟩:=h;have hl:l=m.take l.length:=(List.prefix_iff_eq_take.1 hp);refine ⟨?_,by rw [nums_len] at h2 ⊢; exact Nat.le_trans hp.length_le h2⟩;rw [hl];have:=h1.take l.length
 simpa [nums,List.map_take] using this
structure MinI (u v m:List Nat) (k bw:Nat):Prop where
 len:m.length=k
 eq:dval (u.take k)+bw*16777216 ^ k=dval m+dval (v.take k)
 ds:dgs m
 bit:bw≤1
theorem MinI.step {u v m:List Nat} {k bw:Nat} (h:MinI u v m k bw) (hu:dgs u) (hv:dgs v) {d:Int} (hd:d=(u.getD k 0:Int)-bw-v.getD k 0) :
  (0≤d→MinI u v (m++[d.toNat]) (k+1) 0)∧(d<0→MinI u v (m++[(d+16777216).toNat]) (k+1) 1):=by
 have h1:=dgs_getD hu k;have h2:=dgs_getD hv k;have h3:=h.bit;have h4:=h.eq;have hp:(0:Nat)<16777216 ^ k:=Nat.pow_pos (by decide);constructor
 ·intro h0;refine ⟨by simp [h.len],?_,dgs_snoc h.ds (by omega),by omega⟩;rw [dval_take,dval_take,dval_snoc,h.len,Nat.zero_mul,Nat.add_zero];have e:u.getD k 0=d.toNat+bw+v.getD k 0:=(by omega);rw [e,Nat.mul_add,Nat.mul_add,Nat.mul_comm _ bw];omega
 ·intro h0;refine ⟨by simp [h.len],?_,dgs_snoc h.ds (by omega),by omega⟩;rw [dval_take,dval_take,dval_snoc,h.len,Nat.pow_succ];have e:u.getD k 0+16777216=(d+16777216).toNat+bw+v.getD k 0:=(by omega);have e2:16777216 ^ k*u.getD k 0+16777216 ^ k*16777216=16777216 ^ k*(d+16777216).toNat+bw*16777216 ^ k+16777216 ^ k*v.getD k 0:=by
   rw [← Nat.mul_add,e,Nat.mul_add,Nat.mul_add,Nat.mul_comm _ bw]
  omega
theorem MinI.fin {u v m:List Nat} {bw:Nat} (h:MinI u v m u.length bw) (hv:v.length≤u.length) (hle:dval v≤dval u):dval m=dval u-dval v:=by
 have h1:=h.eq;have h2:=dval_lt m h.ds;rw [List.take_length,List.take_of_length_le hv,h.len] at *;have h3:=h.bit
 rcases Nat.eq_zero_or_pos bw with h0 | h0
 ·subst h0; omega
 ·obtain rfl:bw=1:=by omega
  omega

end Go.Proofs.YthmckfloppblcaaGreatDoor
