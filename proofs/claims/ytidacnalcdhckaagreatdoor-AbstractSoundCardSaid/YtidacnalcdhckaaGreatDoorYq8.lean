/- Lemmas. No conditions. -/
import Derived.Test.YtidacnalcdhckaaGreatDoorYq7
import Derived.Lib.AppendIntMem
set_option maxRecDepth 100000
set_option maxHeartbeats 1000000
namespace Go.Proofs.YtidacnalcdhckaaGreatDoor
open Go Go.RowKit Go.Sort Tryz
variable {qP:Prop}

theorem P3(u:Nat)(h:u<100)(w:World):Cl 241 #[.int .u64 (u:Int),.I 10] w (Bt w (bsA (Lib.decDigits u))):=by
 obtain ⟨z,ez⟩:=eqx (bsA (Lib.decDigits u));have HS:=Hd (show ∀ w',Cl 242 #[.I (u:Int)] w' (fun e w2=>e=.returned (.string z)∧w2=w') from fun w'=>by rw [ez];exact Any.internal_strconv_small Tryz.lt283 u h w');rw [←ez];clear ez
 go_enter func241,ntmps241
 go_wp2_with fail
 refine (HS.o _).mono ?_;rintro e2 w2 ⟨rfl,rfl⟩
 go_wp2_with fail
 go_ret;exact ⟨rfl,Ext.refl _⟩

theorem Ii(l:List UInt8)(a b:Nat):(bsA l).extract a b=bsA ((l.drop a).take (b-a)):=by
 apply ByteArray.ext;show ((bsA l).extract a b).data=_;rw [ByteArray.data_extract];apply Array.ext';simp [bsA,List.extract]

theorem CLA(h:qP:=by
 go_wp2_with fail
 go_ret;exact ⟨rfl,rfl⟩):qP:=h
theorem XS(h:qP:=by
 have hw:IntKind.u64.wrap (u:Int)=(u:Int):=(by rw [IntKind.wrap_u64];omega);rw [hu]
 go_enter func212,ntmps212
 exact CLA):qP:=h
theorem Lq(n:Int)(h0:-1000000000000000≤n)(h1:n≤1000000000000000)(w:World):Cl 212 #[.I n] w (fun e w'=>e=.returned (.int .u64 (n.natAbs:Int))∧w'=w):=by
 by_cases hn:n<0
 ·obtain ⟨u,rfl⟩:∃ u:Nat,n=-(u:Int):=⟨n.natAbs,Y4⟩;have hu:(-(u:Int)).natAbs=u:=Y4;exact XS
 ·obtain ⟨u,rfl⟩:∃ u:Nat,n=(u:Int):=⟨n.natAbs,Y4⟩;have hu:(u:Int).natAbs=u:=Y4;exact XS
def KO(n:Int)(s:Nat):List UInt8:=Lib.repeatL [48] (s+1-(Lib.decDigits n.natAbs).length)++Lib.decDigits n.natAbs
def Lk(n:Int)(s:Nat):List UInt8:=if 0<s then (KO n s).take ((KO n s).length-s)++[46]++(KO n s).drop ((KO n s).length-s) else KO n s
def JB(n:Int)(s:Nat):List UInt8:=if n<0 then 45::Lk n s else Lk n s
theorem Lt(n:Nat):Lib.repeatL [48] (n+1)=48::Lib.repeatL [48] n:=by simp [Lib.repeatL]
end Go.Proofs.YtidacnalcdhckaaGreatDoor
namespace Go.Proofs.YtidacnalcdhckaaGreatDoor
open Go Go.RowKit Go.Sort Tryz
variable {qP:Prop}

structure Txa(w:World):Prop where
 tens:Tens w
 pow:Lib.TabIs prog w "internal/strconv.uint64pow10" .u64 Lib.pow10Tab
theorem Txa.ext{w w':World}(h:Txa w)(hx:Ext w w'):Txa w':=⟨h.tens.ext hx,TabIs_below A2A h.pow hx⟩
theorem EL(n:Int)(h0:-9223372036854775808≤n)(h1:n≤9223372036854775807)(w:World)(h:Txa w):Cl 99 #[.I n] w (Bt w (bsA (Lib.itoa n))):=by
 refine (Any.strconv_Itoa Tryz.lt171 n h0 h1 w h.pow).mono ?_;rintro e w' ⟨rfl,k,os,rfl⟩;exact ⟨rfl,(Ext.refl w).drewN k |>.grow os⟩
theorem SQ(u:Nat)(h:100≤u)(h2:u≤9223372036854775807)(w:World)(hT:Txa w):Cl 241 #[.int .u64 (u:Int),.I 10] w (Bt w (bsA (Lib.decDigits u))):=by
 have hu1:1≤u:=Y4;have hu64:u<18446744073709551616:=Y4;have hnd20:Lib.nDigits u≤20:=(by have:=Lib.numDigits_eq u hu1 hu64;split at this<;>omega);have HND:=Hd (show ∀ w',Lib.TabIs prog w' "internal/strconv.uint64pow10" .u64 Lib.pow10Tab→Cl 243 #[.int .u64 (u:Int)] w' (fun e w2=>e=.returned (.I (Lib.nDigits u:Int))∧w2=w') from fun w' h=>Any.internal_strconv_numDigits (ρ:=Tryz.lt171_ren) { Tryz.lt171 with } u hu1 hu64 w' h);have hH0:=Lib.holds_zero0 w 225 (Lib.nDigits u) Y4;have hfmt:=Any.internal_strconv_formatBase10 Tryz.lt285 w.heap.size 0 24 u (Array.replicate (Lib.nDigits u) 0) (w.alloc (.cells Lib.zeros24 225)) hH0 (by rw [Array.size_replicate];exact Lib.lt_pow_nDigits u) hu64 (by rw [Array.size_replicate];omega);rw [Array.size_replicate] at hfmt;have HF:=Hd (show Cl 244 #[.slice (some ⟨w.heap.size,0,none⟩) (Lib.nDigits u) 24,.int .u64 (u:Int)] (w.alloc (.cells Lib.zeros24 225)) _ from hfmt);have HH0:=Hd hH0;have hal:prog.arrayLen 225=24:=Y11;have hel:prog.elem 225=5:=Y11;have hsl:∀ W,(Instr.sliceAt 225 (.pointer (some ⟨w.heap.size,0,none⟩)) none (some (.I (Lib.nDigits u:Int))) none).run prog W=.ok (.slice (some ⟨w.heap.size,0,none⟩) (Lib.nDigits u) 24) W:=fun W=>by
  rw [run_sliceAt_array_h W 225 ⟨w.heap.size,0,none⟩ (by simp [hal,hel,underlying225]) .i64 (Lib.nDigits u:Int) Y4 (by rw [hal];omega)];rw [hal,hel];go_simp
 clear hfmt hH0 hal hel
 go_enter func241,ntmps241
 go_wp2_with fail
 refine (HND.o _ (Lib.tabIs_alloc hT.pow _)).mono ?_;rintro e2 w2 ⟨rfl,rfl⟩
 go_wp2_with fail
 refine HF.o.mono ?_;rintro e3 w3 ⟨rfl,k,v',dk,rfl,hF⟩;have hcv:(convert 85 9 (.slice (some ⟨w.heap.size,0,none⟩) (Lib.nDigits u) 24)).run prog ((putRow (fun (b:UInt8)=>Value.int .u8 (b.toNat:Int)) (w.alloc (.cells Lib.zeros24 225)) w.heap.size 0 dk).drewN k)=.ok (.string ⟨(Lib.decDigits u).toArray⟩) ((putRow (fun (b:UInt8)=>Value.int .u8 (b.toNat:Int)) (w.alloc (.cells Lib.zeros24 225)) w.heap.size 0 dk).drewN k):=by
  have h:=run_convert_bytes_back (P:=prog) ((putRow (fun (b:UInt8)=>Value.int .u8 (b.toNat:Int)) (w.alloc (.cells Lib.zeros24 225)) w.heap.size 0 dk).drewN k) 85 9 5 ⟨w.heap.size,0,none⟩ 24 (Lib.decDigits u) underlying85 underlying5 underlying9 (fun j hj=>by
   rw [Lib.row_is_numeral hF j hj,Lib.add_plain,World.cell?_drewN];exact cell?_putRow (fun (b:UInt8)=>Value.int .u8 (b.toNat:Int)) _ w.heap.size 0 _ dk HH0.o (by rw [hF.size,Array.size_replicate]) j (by rw [hF.size];rw [Lib.decDigits_length] at hj;exact hj))
  rw [Lib.decDigits_length] at h;exact h
 go_wp2;go_ret;obtain ⟨os,eo⟩:=Lib.fin_at w (.cells Lib.zeros24 225) dk k 0;refine ⟨rfl,?_⟩;rw [eo];exact (Ext.refl w).drewN k |>.grow os
theorem Iy(u:Nat)(h2:u≤9223372036854775807)(w:World)(hT:Txa w):Cl 211 #[.int .u64 (u:Int),.I 10] w (Bt w (bsA (Lib.decDigits u))):=by
 have HI:=Hd (show Cl 241 #[.int .u64 (u:Int),.I 10] w (Bt w (bsA (Lib.decDigits u))) from by
  rcases Nat.lt_or_ge u 100 with h|h
  ·exact P3 u h w
  ·exact SQ u h h2 w hT)
 obtain ⟨z,ez⟩:=eqx (bsA (Lib.decDigits u));rw [←ez] at HI⊢;clear ez hT
 go_enter func211,ntmps211
 go_wp2_with fail
 refine HI.o.mono ?_;rintro e2 w2 ⟨rfl,hx⟩;have HX:=Hd hx;clear hx
 go_wp2_with fail
 go_ret;exact ⟨rfl,HX.o⟩
theorem GY(n:Int)(s:Nat)(hr:Cm n s=true)(w:World)(hT:Txa w):Cl 166 #[.agg #[.I n,.I (s:Int)]] w (Bt w (bsA (JB n s))):=by
 have hv:BG n s=(n,(s:Int)):=(by simp [BG,hr]);have hrg:=Ek n s;rw [hv] at hrg;obtain ⟨-,hs6,hn0,hn1⟩:=hrg;have hs6:s≤6:=Y4;have hu:n.natAbs≤1000000000000000:=Y4;obtain ⟨HV,HSZ,HT⟩:=Hd3 (show ∀ w',Cl 210 #[.agg #[.I n,.I (s:Int)]] w' (fun e w2=>e=.returned (.agg #[.I n,.I (s:Int)])∧Ext w' w2) from fun w'=>by have h:=GN n s w';rw [hv] at h;exact h) (Lq n hn0 hn1) hT;have hlen:(Lib.decDigits n.natAbs).length≤21:=(by have h:=Hv n.natAbs Y4;rw [Lib.itoa_nonneg] at h;exact h);obtain ⟨D,eD⟩:=eqx (Lib.decDigits n.natAbs);obtain ⟨z,ez⟩:=eqx (bsA D);obtain ⟨k,ek⟩:=eqx D.length;have hz:z.size=k:=(by rw [ez,ek];simp [bsA,ByteArray.size]);have HF:=Hd (show ∀ w',Txa w'→Cl 211 #[.int .u64 (n.natAbs:Int),.I 10] w' (Bt w' z) from fun w' h=>by rw [ez,eD];exact Iy n.natAbs Y4 w' h);have hk:k≤21:=(by rw [ek,eD];exact hlen);obtain ⟨HDD,HEZ,HEK⟩:=Hd3 (show KO n s=Lib.repeatL [48] (s+1-k)++D by unfold KO;rw [ek,eD]) ez ek;obtain ⟨u,eu⟩:=eqx n.natAbs;rw [←eu] at HF HSZ;clear hv hT hlen eD ez ek hu hr eu
 go_enter func166,ntmps166
 go_wp2_with fail
 refine (HV.o _).mono ?_;rintro e1 w1 ⟨rfl,hx1⟩;have HX1:=Hd ((exaa w).trans hx1);have hb1:=(Blk.new w 25 #[.I n,.I (s:Int)]).keep (hx1.kept _);have HB1:=Hd hb1;obtain ⟨c0,c1⟩:=hb1.qs2;have hf:=hb1.frozen;have hl:=hb1.lt;clear hx1 hb1
 go_wp2_with fail
 refine (HSZ.o _).mono ?_;rintro e2 w2 ⟨rfl,rfl⟩;obtain ⟨wb,ewb⟩:=eqx ((w1.setCell ⟨w.heap.size,0,none⟩ (.I n)).setCell ⟨w.heap.size,1,none⟩ (.I (s:Int)));have HBb:=Hd (show Blk wb w.heap.size 25 #[.I n,.I (s:Int)] by rw [ewb];exact (HB1.o.set 0 (.I n)).set 1 (.I (s:Int)));have HXb:=Hd (show Ext w wb by rw [ewb];exact (HX1.o.set2 (AS) _).set2 (AS) _);rw [←ewb];clear ewb c0 c1 hf hl
 go_wp2_with fail
 refine (HF.o _ (HT.o.ext HXb.o)).mono ?_;rintro e3 w3 ⟨rfl,hx3⟩;have HX3:=Hd (HXb.o.trans hx3);have hb3:=HBb.o.keep (hx3.kept _);have HB3:=Hd hb3;obtain ⟨d0,d1⟩:=hb3.qs2;clear hx3 hb3
 go_wp2_with fail
 have hcs:((s:Int)+1-(k:Int)≤((s+1-k:Nat):Int)):=Y4
 go_loopw [3,17] (fun v3 v17 wr=>∃ (i:Nat) (L:List UInt8),v17=.I (i:Int)∧v3=.string (bsA L)∧i≤s+1-k∧L=Lib.repeatL [48] i++D∧wr=w3) (fun _ v17 _=>(s+1-k)-(intOf v17).toNat)
 case atStart=>exact ⟨0,D,rfl,by rw [HEZ.o],Y4,rfl,rfl⟩
 case round =>
  obtain ⟨i,L,rfl,rfl,hi,hL,rfl⟩:=hrel;obtain ⟨y,ey⟩:=eqx (bsA L);have hy:y.size=i+k:=(by rw [ey,hL,HEK.o];simp [bsA,ByteArray.size,Lib.repeatL_length]);have HEY:=Hd ey;have HL:=Hd hL;rw [←ey];clear ey hL;by_cases hlt:i<s+1-k
  ·have h1:((i:Int)<(s:Int)+1-(k:Int)):=Y4
   go_wp2_with fail
   go_roundw
   case rel =>
    refine ⟨i+1,48::L,Y3,?_,Y4,by rw [HL.o,Lt];rfl,by first|rfl|trivial⟩;show Value.string (⟨#[48]⟩++y)=_;rw [HEY.o,show (⟨#[48]⟩:BA)=bsA [48] from rfl,Br];rfl
   case measure=>simp [intOf];omega
  ·have h1:¬((i:Int)<(s:Int)+1-(k:Int)):=Y4;have hie:i=s+1-k:=Y4;have HLD:=Hd (show KO n s=L by rw [HDD.o,HL.o,hie]);clear hlt;have hsy:s+1≤y.size:=Y4;have hyb:y.size≤100:=Y4;clear hy
   rcases Nat.eq_zero_or_pos s with hs|hs
   ·have hs1:¬((0:Int)<(s:Int)):=Y4;have HPP:=Hd (show Lk n s=L by unfold Lk;rw [if_neg Y4];exact HLD.o);clear hs;by_cases hn:n<0
    ·have HN:=Hd hn
     go_wp2_with fail
     go_ret;refine ⟨?_,HX3.o⟩;show Ending.returned (Value.string (⟨#[45]⟩++y))=_;rw [HEY.o,show (⟨#[45]⟩:BA)=bsA [45] from rfl,Br];unfold JB;rw [if_pos HN.o,HPP.o];rfl
    ·have HN:=Hd hn
     go_wp2_with fail
     go_ret;refine ⟨?_,HX3.o⟩;show Ending.returned (Value.string y)=_;unfold JB;rw [if_neg Y46,HPP.o,HEY.o]
   ·have hs1:((0:Int)<(s:Int)):=Y4;obtain ⟨p,ep⟩:=eqx (y.size-s);have hyp:y.size=p+s:=Y4;have hp:p≤100:=Y4;have hp1:¬(9223372036854775807<p+1):=Y4;have hp2:¬(9223372036854775807<p+1+s):=Y4;have hps:((p:Int)≤(p:Int)+(s:Int)):=Y4;have hyL:L.length=p+s:=(by rw [←hyp,HEY.o];simp [bsA,ByteArray.size]);have HPP:=Hd (show Lk n s=L.take p++[46]++L.drop p by unfold Lk;rw [if_pos hs,HLD.o,hyL,Nat.add_sub_cancel]);clear ep hs
    go_wp2_with fail
    refine Qa (fun _ _=>False) [] ?_
    iterate 9 refine Qp ?_
    intro vals γ w9 hR hG;refine Qx ?_;have HX9:=Hd (hR.ext0 (fun m b _ e=>e.elim));clear hR hG;have hb9:=HB3.o.keep (HX9.o.kept _);have f0:=hb9.q0;clear hb9;obtain ⟨x,ex⟩:=eqx (y.extract 0 p++⟨#[46]⟩++y.extract p (p+s));have hxs:x.size≤200:=(by rw [ex,ByteArray.size_append,ByteArray.size_append,ByteArray.size_extract,ByteArray.size_extract];show _+1+_≤200;omega);have HEX:=Hd (show x=bsA (Lk n s) by
     rw [ex,HPP.o,HEY.o,Ii,Ii,show (⟨#[46]⟩:BA)=bsA [46] from rfl,Br,Br,List.drop_zero,Nat.sub_zero,Nat.add_sub_cancel_left,show List.take s (L.drop p)=L.drop p from List.take_of_length_le (by rw [List.length_drop];omega)])
    rw [←ex];clear ex;by_cases hn:n<0
    ·have HN:=Hd hn
     go_wp2_with fail
     go_ret;refine ⟨?_,HX3.o.trans HX9.o⟩;show Ending.returned (Value.string (⟨#[45]⟩++x))=_;rw [HEX.o,show (⟨#[45]⟩:BA)=bsA [45] from rfl,Br];unfold JB;rw [if_pos Y46];rfl
    ·have HN:=Hd hn
     go_wp2_with fail
     go_ret;refine ⟨?_,HX3.o.trans HX9.o⟩;show Ending.returned (Value.string x)=_;unfold JB;rw [if_neg Y46,HEX.o]

def bt(x:Int)(i:Nat):Bool:=(BitVec.ofInt 64 x).getLsbD i
theorem El(n:Int):IntKind.i64.wrap n=n % 18446744073709551616∨IntKind.i64.wrap n=n % 18446744073709551616-18446744073709551616:=by
 unfold IntKind.wrap;simp only [IntKind.bits,IntKind.signed];by_cases h:(9223372036854775808:Int)≤n % 18446744073709551616
 ·right;simp [h]
 ·left;simp [h]
theorem QA(n:Int):(IntKind.i64.wrap n) % 18446744073709551616=n % 18446744073709551616:=by
 rcases El n with h|h<;>rw [h]<;>omega
theorem OJ(n:Int):BitVec.ofInt 64 (IntKind.i64.wrap n)=BitVec.ofInt 64 n:=by
 apply BitVec.eq_of_toNat_eq;rw [BitVec.toNat_ofInt,BitVec.toNat_ofInt];show ((IntKind.i64.wrap n) % 18446744073709551616).toNat=(n % 18446744073709551616).toNat;rw [QA]
theorem Gq(v:BitVec 64):BitVec.ofInt 64 (IntKind.i64.wrap v.toNat)=v:=by
 rw [OJ];apply BitVec.eq_of_toNat_eq;simp
theorem Ba(x y:Int)(i:Nat):bt (bits .and .i64 x y) i=(bt x i&&bt y i):=by
 show (BitVec.ofInt 64 (IntKind.i64.wrap (BitVec.ofInt 64 x &&& BitVec.ofInt 64 y).toNat)).getLsbD i=_;rw [Gq,BitVec.getLsbD_and];rfl
theorem Js(x y:Int)(i:Nat):bt (bits .or .i64 x y) i=(bt x i||bt y i):=by
 show (BitVec.ofInt 64 (IntKind.i64.wrap (BitVec.ofInt 64 x ||| BitVec.ofInt 64 y).toNat)).getLsbD i=_;rw [Gq,BitVec.getLsbD_or];rfl
theorem Pe(x y:Int)(i:Nat)(hi:i<64):bt (bits .andNot .i64 x y) i=(bt x i&&!bt y i):=by
 show (BitVec.ofInt 64 (IntKind.i64.wrap (BitVec.ofInt 64 x &&& ~~~ BitVec.ofInt 64 y).toNat)).getLsbD i=_;rw [Gq,BitVec.getLsbD_and,BitVec.getLsbD_not];simp [hi,bt]
def DK(x:Int):Prop:=-9223372036854775808≤x∧x≤9223372036854775807
theorem CT{x y:Int}(hx:DK x)(hy:DK y)(h:∀ i,i<64→bt x i=bt y i):x=y:=by
 have h1:BitVec.ofInt 64 x=BitVec.ofInt 64 y:=BitVec.eq_of_getLsbD_eq h;have h2:=congrArg BitVec.toNat h1;rw [BitVec.toNat_ofInt,BitVec.toNat_ofInt] at h2;have h3:(x % 18446744073709551616).toNat=(y % 18446744073709551616).toNat:=h2;unfold DK at hx hy;omega
theorem Ep(n:Int):DK (IntKind.i64.wrap n):=by
 unfold IntKind.wrap DK;simp only [IntKind.bits,IntKind.signed];by_cases h:(9223372036854775808:Int)≤n % 18446744073709551616
 ·simp [h];omega
 ·simp [h];omega
theorem BY(op:BinOp)(x y:Int):DK (bits op .i64 x y):=Ep _
theorem XX{x:Int}{i:Nat}(h:64≤i):bt x i=false:=by
 unfold bt;exact BitVec.getLsbD_of_ge _ _ h
theorem Gw(i:Nat):bt 0 i=false:=by
 unfold bt;simp
theorem Y56(h:qP:=by unfold DK;omega):qP:=h
theorem G0{x:Int}(hx:DK x):x=0↔∀ i,i<64→bt x i=false:=by
 constructor
 ·rintro rfl i _;exact Gw i
 ·intro h;refine CT hx Y56 fun i hi => ?_;rw [h i hi,Gw]
theorem R9(n:Nat)(i:Nat)(hn:n<18446744073709551616):bt (n:Int) i=n.testBit i:=by
 unfold bt;rw [BitVec.ofInt_natCast,BitVec.getLsbD_ofNat];by_cases hi:i<64
 ·simp [hi]
 ·simp [hi];exact (Nat.testBit_lt_two_pow (Nat.lt_of_lt_of_le hn (Nat.pow_le_pow_right (n:=2) Y4 (show 64≤i by omega))))
theorem Fm(k i:Nat)(hk:k<63):bt ((2^k:Nat):Int) i=decide (i=k):=by
 rw [R9 _ _ (Nat.lt_of_lt_of_le (Nat.pow_lt_pow_right Y4 (show k<64 by omega)) Y17)];rw [Nat.testBit_two_pow];rw [Bool.eq_iff_iff];simp [eq_comm]

def DR(c:Int):Nat:=if c<32∨126<c then 0 else if 48≤c∧c≤57 then 1 else if 65≤c∧c≤90 then 2 else if 97≤c∧c≤122 then 3 else if c=32 then 5 else 6
def Sk(c:UInt8):Nat:=DR (c.toNat:Int)
theorem XD(h:qP:=by
 unfold DR
 repeat' split
 all_goals omega):qP:=h
theorem FQ(c:Int):DR c≤6:=by
 exact XD
def Bd(l:List Int):Int:=l.foldl (fun a c=>bits .or .i64 a ((2^DR c:Nat):Int)) 0
theorem RW(l:List Int)(a:Int)(i:Nat):bt (l.foldl (fun a c=>bits .or .i64 a ((2^DR c:Nat):Int)) a) i=(bt a i||l.any fun c=>decide (DR c=i)):=by
 induction l generalizing a with
 |nil=>simp
 |cons c l ih =>
  rw [List.foldl_cons,ih,Js,Fm _ _ (by have:=FQ c;omega),List.any_cons,Bool.or_assoc];congr 2;rw [Bool.eq_iff_iff];simp [eq_comm]
theorem Mj(l:List Int)(i:Nat):bt (Bd l) i=l.any fun c=>decide (DR c=i):=by
 unfold Bd;rw [RW,Gw,Bool.false_or]
theorem SV(l:List Int):DK (Bd l):=by
 unfold Bd
 rcases List.eq_nil_or_concat l with rfl|⟨m,c,rfl⟩
 ·simp [DK]
 ·rw [List.concat_eq_append,List.foldl_append,List.foldl_cons,List.foldl_nil];exact BY _ _ _
def BZ(p q:Int):Bool:=decide (bits .andNot .i64 p q=0)
theorem FI{p q:Int} : BZ p q=true↔∀ i,i<64→bt p i=true→bt q i=true:=by
 unfold BZ;rw [decide_eq_true_eq,G0 (BY _ _ _)];refine forall_congr' fun i=>forall_congr' fun hi => ?_;rw [Pe _ _ _ hi];cases bt p i<;>cases bt q i<;>simp
theorem Es{l:List Int}{q:Int} : BZ (Bd l) q=true↔∀ c∈l,bt q (DR c)=true:=by
 rw [FI];constructor
 ·intro h c hc;refine h _ (by have:=FQ c;omega) ?_;rw [Mj,List.any_eq_true];exact ⟨c,hc,Y3⟩
 ·intro h i _ hi;rw [Mj,List.any_eq_true] at hi;obtain ⟨c,hc,he⟩:=hi;rw [decide_eq_true_eq] at he;rw [←he];exact h c hc
theorem Ro(i:Nat):bt 110 i=decide (i=1∨i=2∨i=3∨i=5∨i=6):=by
 by_cases h:i<64
 ·have H:(List.range 64).all (fun i=>bt 110 i==decide (i=1∨i=2∨i=3∨i=5∨i=6))=true:=Y17;rw [List.all_eq_true] at H;exact eq_of_beq (H i Y27)
 ·rw [XX Y4];rw [Bool.eq_iff_iff];simp;omega
theorem VI(h:qP:=by
 rw [Bool.eq_iff_iff,decide_eq_true_eq,decide_eq_true_eq]
 repeat' split
 all_goals omega):qP:=h
theorem Gy(c:Int):bt 110 (DR c)=B8 c:=by
 rw [Ro];unfold DR B8;exact VI
theorem Li{s:BA}{c:Int} : c∈bs s↔∃ u∈s.data.toList,(u.toNat:Int)=c:=by
 unfold bs;rw [List.mem_map]
theorem Lc(s:BA):Bi s=(decide (s.size≤200)&&BZ (Bd (bs s)) 110):=by
 unfold Bi;congr 1;rw [Bool.eq_iff_iff,Es,List.all_eq_true];refine forall_congr' fun c=>forall_congr' fun _ => ?_;rw [Gy]

structure Sh where
 least:Int
 most:Int
 cls:Int
 b:BA
 e:BA
abbrev Sp(x:Sh):Array Value:=List.toArray [.int .i64 x.least,.int .i64 x.most,.int .i64 x.cls,.string x.b,.string x.e]
abbrev Sq(x:Sh):Value:=.agg (Sp x)
def EwA:Sh:=⟨1,0,0,⟨#[]⟩,⟨#[]⟩⟩
def Sh.full:Sh:=⟨0,200,110,⟨#[]⟩,⟨#[]⟩⟩
def Sh.B(a:Sh):List UInt8:=a.b.data.toList
def Sh.E(a:Sh):List UInt8:=a.e.data.toList
def At(a:Sh):Int:=bits .and .i64 a.cls 110
def AG(a:Sh):Int:=max (max (max 0 a.least) a.b.size) a.e.size
def Ag(a:Sh):Int:=min a.most 200
theorem Ei(a:Sh):a.B.length=a.b.size:=rfl
theorem EA(a:Sh):a.E.length=a.e.size:=rfl
def okU(o:Int)(c:UInt8):Prop:=bt o (Sk c)=true
theorem MQ{a:Sh}{c:UInt8} : okU (At a) c↔bt a.cls (Sk c)=true∧B8 (c.toNat:Int)=true:=by
 unfold okU At;rw [Ba,Bool.and_eq_true];unfold Sk;rw [Gy]
def InS(a:Sh)(l:List UInt8):Prop:=AG a≤l.length∧l.length≤Ag a∧(∀ c∈l,okU (At a) c)∧a.B <+: l∧a.E <:+ l
def Cq(p s:BA):Bool:=p.data.toList.isPrefixOf s.data.toList
def Cs(p s:BA):Bool:=p.data.toList.isSuffixOf s.data.toList
def AQ(a:Sh)(s:BA):Bool :=
 Bi s&&decide (a.least≤s.size)&&decide ((s.size:Int)≤a.most)&&BZ (Bd (bs s)) a.cls&&Cq a.b s&&Cs a.e s
theorem Bn(a:Sh)(s:BA):AQ a s=true↔InS a s.data.toList:=by
 unfold AQ InS Cq Cs AG Ag;simp only [Bool.and_eq_true,decide_eq_true_eq,List.isPrefixOf_iff_prefix,List.isSuffixOf_iff_suffix];rw [Lc,Bool.and_eq_true,decide_eq_true_eq,Es,Es];have hl:s.data.toList.length=s.size:=rfl;have e1:(∀ c∈s.data.toList,okU (At a) c)↔(∀ c∈bs s,bt 110 (DR c)=true)∧∀ c∈bs s,bt a.cls (DR c)=true:=by
  constructor
  ·intro h;refine ⟨fun c hc => ?_,fun c hc => ?_⟩
   all_goals
    obtain ⟨u,hu,rfl⟩:=Li.1 hc;have:=MQ.1 (h u hu)
   ·rw [Gy];exact this.2
   ·exact this.1
  ·rintro ⟨h1,h2⟩ u hu;have hc:=Li.2 ⟨u,hu,rfl⟩;refine MQ.2 ⟨h2 _ hc,?_⟩;rw [←Gy];exact h1 _ hc
 rw [e1];constructor
 ·rintro ⟨⟨⟨⟨⟨⟨h1,h2⟩,h3⟩,h4⟩,h5⟩,h6⟩,h7⟩;have k1:=h6.length_le;have k2:=h7.length_le
  change a.b.size≤_ at k1
  change a.e.size≤_ at k2
  refine ⟨Y4,Y4,⟨h2,h5⟩,h6,h7⟩
 ·rintro ⟨h1,h2,⟨h3,h4⟩,h5,h6⟩;exact ⟨⟨⟨⟨⟨⟨Y4,h3⟩,Y4⟩,Y4⟩,h4⟩,h5⟩,h6⟩
def Lx(a:Sh)(n:Nat):Bool:=decide (a.B.drop (n-a.E.length)=a.E.take (a.B.length+a.E.length-n))
def AI(a:Sh):Bool :=
 decide (Ag a<AG a)||!BZ (Bd (bs a.b)) (At a)||!BZ (Bd (bs a.e)) (At a) ||
  (if At a=0 then decide (0<AG a) else decide (Ag a<a.b.size+a.e.size)&&!((List.range 201).any fun n=>decide (AG a≤n∧(n:Int)≤Ag a)&&Lx a n))
theorem Se{o:Int}(h:o=0)(c:UInt8):¬okU o c:=by
 subst h;unfold okU;rw [Gw];simp
theorem PH{a:Sh}(h:At a≠0):∃ c:UInt8,okU (At a) c:=by
 by_cases h1:∃ i,i<64∧bt (At a) i=true
 ·obtain ⟨i,_,hb⟩:=h1;have hb':=hb;unfold At at hb';rw [Ba,Bool.and_eq_true,Ro,decide_eq_true_eq] at hb';obtain ⟨_,rfl|rfl|rfl|rfl|rfl⟩:=hb'
  ·exact ⟨48,hb⟩
  ·exact ⟨65,hb⟩
  ·exact ⟨97,hb⟩
  ·exact ⟨32,hb⟩
  ·exact ⟨33,hb⟩
 ·exfalso;refine h ((G0 (BY _ _ _)).2 fun i hi => ?_);cases hb:bt (bits .and .i64 a.cls 110) i
  ·rfl
  ·exact absurd ⟨i,hi,hb⟩ h1
theorem CaA(h:qP:=by
 intro h c hc;obtain ⟨u,hu,rfl⟩:=Li.1 hc;exact h u hu):qP:=h
theorem ADA(h:qP:=by
 rw [Es];constructor
 ·intro h u hu;exact h _ (Li.2 ⟨u,hu,rfl⟩)
 ·exact CaA):qP:=h
theorem PL{a:Sh} : BZ (Bd (bs a.b)) (At a)=true↔∀ c∈a.B,okU (At a) c:=by
 exact ADA
theorem PQ{a:Sh} : BZ (Bd (bs a.e)) (At a)=true↔∀ c∈a.E,okU (At a) c:=by
 exact ADA
theorem SZ{x y l:List UInt8}(h1:x <+: l)(h2:y <:+ l)(hl:l.length≤x.length+y.length):x.drop (l.length-y.length)=y.take (x.length+y.length-l.length):=by
 obtain ⟨t,rfl⟩:=h1;obtain ⟨u,hu⟩:=h2;have hlen:=congrArg List.length hu;simp only [List.length_append] at hlen hl;have h3:((x++t).drop ((x++t).length-y.length))=y:=by
  rw [←hu];simp only [List.length_append];rw [show u.length+y.length-y.length=u.length by omega,List.drop_left]
 have h4:(x++t).length-y.length≤x.length:=by
  simp only [List.length_append];omega
 rw [List.drop_append_of_le_length h4] at h3;have h5:(x.drop ((x++t).length-y.length)).length=x.length+y.length-(x++t).length:=by
  rw [List.length_drop];simp only [List.length_append];omega
 rw [←h5];generalize hz:x.drop ((x++t).length-y.length)=z at h3;rw [←h3,List.take_left]
theorem Nk{x y:List UInt8}{n:Nat}(h1:x.length≤n)(h2:y.length≤n)(hn:n≤x.length+y.length)(h:x.drop (n-y.length)=y.take (x.length+y.length-n)):x <+: x++y.drop (x.length+y.length-n)∧y <:+ x++y.drop (x.length+y.length-n)∧(x++y.drop (x.length+y.length-n)).length=n:=by
 refine ⟨List.prefix_append _ _,⟨x.take (n-y.length),?_⟩,?_⟩
 ·generalize hz:y.drop (x.length+y.length-n)=z;have hy:y=x.drop (n-y.length)++z:=(by rw [h,←hz,List.take_append_drop]);generalize n-y.length=k at hy;rw [hy,←List.append_assoc,List.take_append_drop]
 ·rw [List.length_append,List.length_drop];omega
theorem Je{x y:List UInt8}{n:Nat}(c:UInt8)(h:x.length+y.length≤n):x <+: x++(List.replicate (n-x.length-y.length) c++y)∧y <:+ x++(List.replicate (n-x.length-y.length) c++y)∧(x++(List.replicate (n-x.length-y.length) c++y)).length=n:=by
 refine ⟨List.prefix_append _ _,?_,?_⟩
 ·rw [←List.append_assoc];exact List.suffix_append _ _
 ·simp only [List.length_append,List.length_replicate];omega
theorem Y57(h:qP:=by rw [k3];omega):qP:=h
theorem YV(h:qP:=by
 refine h _ ⟨Y57,Y57,?_,k1,k2⟩;intro u hu;rw [List.mem_append,List.mem_append,List.mem_replicate] at hu
 rcases hu with hu|⟨_,rfl⟩|hu
 ·exact h2 u hu
 ·exact hc
 ·exact h3 u hu):qP:=h
theorem Y58(h:qP:=by unfold AG;omega):qP:=h
theorem Y59(h:qP:=by unfold Ag;omega):qP:=h
theorem B9(a:Sh):AI a=true↔∀ l,¬InS a l:=by
 have hL:(a.b.size:Int)≤AG a∧(a.e.size:Int)≤AG a∧0≤AG a:=Y58;have hM:Ag a≤200:=Y59;constructor
 ·intro h l hin;obtain ⟨h1,h2,h3,h4,h5⟩:=hin;unfold AI at h;simp only [Bool.or_eq_true,decide_eq_true_eq,Bool.not_eq_true'] at h
  rcases h with ((h|h)|h)|h
  ·omega
  ·rw [PL.2 fun c hc=>h3 c (h4.subset hc)] at h;cases h
  ·rw [PQ.2 fun c hc=>h3 c (h5.subset hc)] at h;cases h
  ·split at h
   next ho =>
    have hl:l=[]:=by
     cases l with
     |nil=>rfl
     |cons c l=>exact absurd (h3 c List.mem_cons_self) (Se ho c)
    subst hl;simp at h h1;omega
   next ho =>
    simp only [Bool.and_eq_true,decide_eq_true_eq,Bool.not_eq_true'] at h;obtain ⟨h6,h7⟩:=h;rw [List.any_eq_false] at h7;refine h7 l.length (by rw [List.mem_range];omega) ?_;simp only [Bool.and_eq_true,decide_eq_true_eq,Lx];exact ⟨⟨h1,h2⟩,SZ h4 h5 (by rw [Ei,EA];omega)⟩
 ·intro h;cases he:AI a
  ·exfalso;unfold AI at he;simp only [Bool.or_eq_false_iff,decide_eq_false_iff_not,Bool.not_eq_false'] at he;obtain ⟨⟨⟨h1,h2⟩,h3⟩,h4⟩:=he;rw [PL] at h2;rw [PQ] at h3;split at h4
   next ho =>
    rw [decide_eq_false_iff_not] at h4;refine h [] ⟨Y16,Y16,Y3,?_,?_⟩
    ·rw [List.eq_nil_of_length_eq_zero (by rw [Ei];omega:a.B.length=0)];exact List.nil_prefix
    ·rw [List.eq_nil_of_length_eq_zero (by rw [EA];omega:a.E.length=0)];exact List.nil_suffix
   next ho =>
    rw [Bool.and_eq_false_iff,decide_eq_false_iff_not,Bool.not_eq_false'] at h4
    rcases h4 with h4|h4
    ·obtain ⟨c,hc⟩:=PH ho;obtain ⟨n,hn⟩:∃ n:Nat,(n:Int)=max (AG a) (a.b.size+a.e.size):=⟨(max (AG a) (a.b.size+a.e.size)).toNat,Y4⟩;obtain ⟨k1,k2,k3⟩:=Je (x:=a.B) (y:=a.E) (n:=n) c (by rw [Ei,EA];omega);exact YV
    ·rw [List.any_eq_true] at h4;obtain ⟨n,_,h5⟩:=h4;simp only [Bool.and_eq_true,decide_eq_true_eq,Lx] at h5;obtain ⟨⟨h6,h7⟩,h8⟩:=h5;by_cases hn:n≤a.B.length+a.E.length
     ·obtain ⟨k1,k2,k3⟩:=Nk (x:=a.B) (y:=a.E) (n:=n) (by rw [Ei];omega) (by rw [EA];omega) hn h8;refine h _ ⟨Y57,Y57,?_,k1,k2⟩;intro u hu;rw [List.mem_append] at hu
      rcases hu with hu|hu
      ·exact h2 u hu
      ·exact h3 u (List.mem_of_mem_drop hu)
     ·obtain ⟨c,hc⟩:=PH ho;obtain ⟨k1,k2,k3⟩:=Je (x:=a.B) (y:=a.E) (n:=n) c Y4;exact YV
  ·rfl

def E9(cls:Int):Nat→Int→Int
 |0,f=>f
 |k+1,f=>E9 cls k (if bt cls (DR (32+k:Nat))=true then ((32+k:Nat):Int) else f)
theorem ND(cls:Int):∀ (k:Nat) (f:Int),(bt cls (DR f)=true∨∃ j:Nat,j<k∧bt cls (DR (32+j:Nat))=true)→bt cls (DR (E9 cls k f))=true
 |0,f,h=>by
  rcases h with h|⟨j,hj,_⟩
  ·exact h
  ·omega
 |k+1,f,h=>by
  unfold E9;refine ND cls k _ ?_;by_cases hk:bt cls (DR (32+k:Nat))=true
  ·left;rw [if_pos hk];exact hk
  ·rw [if_neg hk]
   rcases h with h|⟨j,hj,hb⟩
   ·exact Or.inl h
   ·right;refine ⟨j,?_,hb⟩
    rcases Nat.lt_or_ge j k with h1|h1
    ·exact h1
    ·exfalso;rw [show j=k by omega] at hb;exact hk hb
theorem GF(cls:Int):∀ (k:Nat) (f:Int),k≤95→32≤f→f≤126→32≤E9 cls k f∧E9 cls k f≤126
 |0,f,_,h1,h2=>⟨h1,h2⟩
 |k+1,f,hk,h1,h2=>by
  unfold E9;split
  ·exact GF cls k _ Y4 Y4 Y4
  ·exact GF cls k _ Y4 h1 h2
def FZ(a:Sh):UInt8:=UInt8.ofNat (E9 a.cls 95 32).toNat
theorem LO(a:Sh):((FZ a).toNat:Int)=E9 a.cls 95 32:=by
 have h:=GF a.cls 95 32 Y4 Y4 Y4;unfold FZ;rw [UInt8.toNat_ofNat'];omega
theorem TA{a:Sh}{c:UInt8}(h:okU (At a) c):okU (At a) (FZ a):=by
 obtain ⟨h1,h2⟩:=MQ.1 h;rw [MQ];have hr:=GF a.cls 95 32 Y4 Y4 Y4;constructor
 ·unfold Sk;rw [LO];refine ND _ _ _ (Or.inr ⟨c.toNat-32,?_,?_⟩)
  ·unfold B8 at h2;rw [decide_eq_true_eq] at h2;omega
  ·unfold B8 at h2;rw [decide_eq_true_eq] at h2;rw [show 32+(c.toNat-32)=c.toNat by omega];exact h1
 ·rw [LO];unfold B8;rw [decide_eq_true_eq];exact hr
def Dr(a:Sh)(n:Nat):Option (List UInt8) :=
 if n<a.B.length∨n<a.E.length then none
 else
  let s:=a.B++List.replicate (n-a.E.length-a.B.length) (FZ a)
  let both:=s.length+a.E.length-n
  if s.drop (s.length-both)=a.E.take both then some (s++a.E.drop both) else none
theorem NR{a:Sh}{l:List UInt8}(h:InS a l){n:Nat}(hn:n=l.length∨(n≤l.length∧a.B.length+a.E.length<n))(h1:AG a≤n):∃ s,Dr a n=some s∧InS a s:=by
 obtain ⟨i1,i2,i3,i4,i5⟩:=h;have hL:(a.B.length:Int)≤AG a∧(a.E.length:Int)≤AG a:=(by unfold AG;rw [Ei,EA];omega);unfold Dr;rw [if_neg Y4];simp only;by_cases hc:a.B.length+a.E.length≤n
 ·have e1:(a.B++List.replicate (n-a.E.length-a.B.length) (FZ a)).length=n-a.E.length:=by
   rw [List.length_append,List.length_replicate];omega
  rw [e1,show n-a.E.length+a.E.length-n=0 by omega,Nat.sub_zero,List.take_zero,List.drop_zero,List.drop_of_length_le Y4,if_pos rfl];refine ⟨_,rfl,?_⟩;obtain ⟨k1,k2,k3⟩:=Je (x:=a.B) (y:=a.E) (n:=n) (FZ a) hc;rw [List.append_assoc,show n-a.E.length-a.B.length=n-a.B.length-a.E.length by omega];refine ⟨Y57,Y57,?_,k1,k2⟩;intro u hu;rw [List.mem_append,List.mem_append,List.mem_replicate] at hu
  rcases hu with hu|⟨hz,rfl⟩|hu
  ·exact i3 u (i4.subset hu)
  ·cases l with
   |nil=>simp at hn;omega
   |cons c l=>exact TA (i3 c List.mem_cons_self)
  ·exact i3 u (i5.subset hu)
 ·have hl:n=l.length:=Y4;rw [show n-a.E.length-a.B.length=0 by omega,List.replicate_zero,List.append_nil];have hlap:=SZ i4 i5 Y4;rw [←hl] at hlap;rw [show a.B.length-(a.B.length+a.E.length-n)=n-a.E.length by omega,if_pos hlap];refine ⟨_,rfl,?_⟩;obtain ⟨k1,k2,k3⟩:=Nk (x:=a.B) (y:=a.E) (n:=n) Y4 Y4 Y4 hlap;refine ⟨Y57,Y57,?_,k1,k2⟩;intro u hu;rw [List.mem_append] at hu
  rcases hu with hu|hu
  ·exact i3 u (i4.subset hu)
  ·exact i3 u (i5.subset (List.mem_of_mem_drop hu))
def UI(a:Sh):Int:=min (Ag a) (max (max a.least 0) (a.b.size+a.e.size+1))
theorem Nh{a:Sh}(h:∀ n:Nat,max a.least 0≤n→(n:Int)≤UI a→∀ s,Dr a n=some s→¬InS a s):AI a=true:=by
 rw [B9];intro l hl;have hl':=hl;obtain ⟨i1,i2,i3,i4,i5⟩:=hl;have hL:(a.b.size:Int)≤AG a∧(a.e.size:Int)≤AG a∧max a.least 0≤AG a:=Y58;have hL2:AG a=max a.least 0∨AG a=a.b.size∨AG a=a.e.size:=Y58;have hB:=Ei a;have hE:=EA a;by_cases hm:(l.length:Int)≤max (max a.least 0) (a.b.size+a.e.size+1)
 ·obtain ⟨s,h1,h2⟩:=NR hl' (n:=l.length) (Or.inl rfl) i1;exact h l.length Y4 (by unfold UI;omega) s h1 h2
 ·obtain ⟨n,hn⟩:∃ n:Nat,(n:Int)=max (max a.least 0) (a.b.size+a.e.size+1):=⟨(max (max a.least 0) (a.b.size+a.e.size+1)).toNat,Y4⟩;obtain ⟨s,h1,h2⟩:=NR hl' (n:=n) (Or.inr ⟨Y4,Y4⟩) Y4;exact h n Y4 (by unfold UI;omega) s h1 h2
theorem DE{a:Sh}{s:List UInt8}(h:InS a s):AI a=false:=by
 cases he:AI a
 ·rfl
 ·exact absurd h ((B9 a).1 he s)
def Cz:List UInt8→List UInt8→List UInt8
 |x::l,y::m=>if x=y then x::Cz l m else []
 |_,_=>[]
def FD(l m:List UInt8):List UInt8:=(Cz l.reverse m.reverse).reverse
theorem Dd:∀ l m:List UInt8,Cz l m <+: l
 |[],_=>by simp [Cz]
 |_::_,[]=>by simp [Cz]
 |x::l,y::m=>by
  unfold Cz;split
  ·rw [List.cons_prefix_cons];exact ⟨rfl,Dd l m⟩
  ·exact List.nil_prefix
theorem Kr:∀ l m:List UInt8,Cz l m=Cz m l
 |[],[]=>rfl
 |[],_::_=>rfl
 |_::_,[]=>rfl
 |x::l,y::m=>by
  unfold Cz;by_cases h:x=y
  ·subst h;simp [Kr l m]
  ·rw [if_neg h,if_neg (Ne.symm h)]
theorem Jp(l m:List UInt8):Cz l m <+: m:=by
 rw [Kr];exact Dd m l
theorem FB:∀ l:List UInt8,Cz l l=l
 |[]=>rfl
 |x::l=>by unfold Cz;rw [if_pos rfl,FB l]
theorem CCA(h:qP:=by
 rw [←List.reverse_suffix,List.reverse_reverse] at h;exact h):qP:=h
theorem GH(l m:List UInt8):FD l m <:+ l:=by
 have h:=Dd l.reverse m.reverse;exact CCA
theorem Ok(l m:List UInt8):FD l m <:+ m:=by
 have h:=Jp l.reverse m.reverse;exact CCA
theorem IE(l:List UInt8):FD l l=l:=by
 unfold FD;rw [FB,List.reverse_reverse]
def bA(l:List UInt8):BA:=⟨l.toArray⟩
theorem Et(s:BA):bA s.data.toList=s:=by
 cases s;simp [bA]
theorem Cv(l:List UInt8):(bA l).size=l.length:=rfl
def Aw(a b:Sh):Sh :=
 if AI a=true then (if AI b=true then EwA else b)
 else if AI b=true then a
 else ⟨min (AG a) (AG b),max (Ag a) (Ag b),bits .or .i64 (At a) (At b),bA (Cz a.B b.B),bA (FD a.E b.E)⟩
def Bh(a b:Sh):Sh:=⟨max (AG a) (AG b),min (Ag a) (Ag b),bits .and .i64 (At a) (At b),if a.b.size<b.b.size then b.b else a.b,if a.e.size<b.e.size then b.e else a.e⟩
def CN(a b:Sh):Sh :=
 if AI a=true∨AI b=true then EwA
 else if Cq a.b (Bh a b).b=true∧Cq b.b (Bh a b).b=true∧Cs a.e (Bh a b).e=true∧Cs b.e (Bh a b).e=true∧AI (Bh a b)=false then Bh a b else EwA
def Cc(a b:Sh):Bool :=
 AI a||(!AI b&&decide (AG b≤AG a)&&decide (Ag a≤Ag b)&&BZ (At a) (At b)&&Cq b.b a.b&&Cs b.e a.e)
theorem Dm{p s:BA} : Cq p s=true↔p.data.toList <+: s.data.toList:=by
 unfold Cq;rw [List.isPrefixOf_iff_prefix]
theorem Dl{p s:BA} : Cs p s=true↔p.data.toList <:+ s.data.toList:=by
 unfold Cs;rw [List.isSuffixOf_iff_suffix]
theorem Gr:AI EwA=true:=by
 rw [B9];rintro l ⟨h1,h2,_⟩;have e1:AG EwA=1:=Y17;have e2:Ag EwA=0:=Y17;omega
theorem Mf{a:Sh}{x:Int}(h:a.cls=x)(i:Nat):bt (At a) i=(bt x i&&bt 110 i):=by
 unfold At;rw [h,Ba]
theorem JQ{a b:Sh}{x:Sh}(hx:x.cls=bits .or .i64 (At a) (At b))(c:UInt8):okU (At x) c↔okU (At a) c∨okU (At b) c:=by
 unfold okU;rw [Mf hx,Js];unfold At;rw [Ba,Ba];simp only [Bool.and_eq_true,Bool.or_eq_true];constructor
 ·rintro ⟨h1,_⟩;exact h1
 ·rintro (h|h)
  ·exact ⟨Or.inl h,h.2⟩
  ·exact ⟨Or.inr h,h.2⟩
theorem R0{a b:Sh}{x:Sh}(hx:x.cls=bits .and .i64 (At a) (At b))(c:UInt8):okU (At x) c↔okU (At a) c∧okU (At b) c:=by
 unfold okU;rw [Mf hx,Ba];unfold At;rw [Ba,Ba];simp only [Bool.and_eq_true];constructor
 ·rintro ⟨h1,_⟩;exact h1
 ·rintro h;exact ⟨h,h.1.2⟩
theorem LI{a b:Sh}{l:List UInt8}(h:InS a l):InS (Aw a b) l:=by
 unfold Aw;rw [DE h];simp only [Bool.false_eq_true,if_false];cases hb:AI b
 ·simp only [Bool.false_eq_true,if_false];obtain ⟨h1,h2,h3,h4,h5⟩:=h;have k1:=(Dd a.B b.B);have k2:=(GH a.E b.E);have k3:=k1.length_le;have k4:=k2.length_le;rw [Ei] at k3;rw [EA] at k4;refine ⟨?_,?_,fun c hc=>(JQ rfl c).2 (Or.inl (h3 c hc)),k1.trans h4,k2.trans h5⟩
  ·show max (max (max 0 (min (AG a) (AG b))) ((bA (Cz a.B b.B)).size:Int)) ((bA (FD a.E b.E)).size:Int)≤_;rw [Cv,Cv];have:(a.b.size:Int)≤AG a∧(a.e.size:Int)≤AG a:=Y58;omega
  ·show _≤min (max (Ag a) (Ag b)) 200;have:Ag a≤200:=Y59;omega
 ·simpa using h
theorem O2{a b:Sh}{l:List UInt8}(h:InS b l):InS (Aw a b) l:=by
 unfold Aw;rw [DE h];simp only [Bool.false_eq_true,if_false];cases ha:AI a
 ·simp only [Bool.false_eq_true,if_false];obtain ⟨h1,h2,h3,h4,h5⟩:=h;have k1:=(Jp a.B b.B);have k2:=(Ok a.E b.E);have k3:=k1.length_le;have k4:=k2.length_le;rw [Ei] at k3;rw [EA] at k4;refine ⟨?_,?_,fun c hc=>(JQ rfl c).2 (Or.inr (h3 c hc)),k1.trans h4,k2.trans h5⟩
  ·show max (max (max 0 (min (AG a) (AG b))) ((bA (Cz a.B b.B)).size:Int)) ((bA (FD a.E b.E)).size:Int)≤_;rw [Cv,Cv];have:(b.b.size:Int)≤AG b∧(b.e.size:Int)≤AG b:=Y58;omega
  ·show _≤min (max (Ag a) (Ag b)) 200;have:Ag b≤200:=Y59;omega
 ·simpa using h
theorem RN{a b:Sh}{l:List UInt8}(h1:Cq a.b (Bh a b).b=true)(h2:Cq b.b (Bh a b).b=true)(h3:Cs a.e (Bh a b).e=true)(h4:Cs b.e (Bh a b).e=true):InS (Bh a b) l↔InS a l∧InS b l:=by
 rw [Dm] at h1 h2;rw [Dl] at h3 h4;have hB:(Bh a b).B=a.B∨(Bh a b).B=b.B:=by
  unfold Sh.B Bh;simp only;split
  ·exact Or.inr rfl
  ·exact Or.inl rfl
 have hE:(Bh a b).E=a.E∨(Bh a b).E=b.E:=by
  unfold Sh.E Bh;simp only;split
  ·exact Or.inr rfl
  ·exact Or.inl rfl
 have hok:∀ c,okU (At (Bh a b)) c↔okU (At a) c∧okU (At b) c:=R0 rfl;have hls:AG (Bh a b)=max (AG a) (AG b):=by
  have e1:((Bh a b).b.size:Int)≤max (AG a) (AG b):=by
   unfold Bh AG;simp only;split<;>omega
  have e2:((Bh a b).e.size:Int)≤max (AG a) (AG b):=by
   unfold Bh AG;simp only;split<;>omega
  show max (max (max 0 (max (AG a) (AG b))) ((Bh a b).b.size:Int)) ((Bh a b).e.size:Int)=_;have e3:0≤AG a:=Y58;omega
 have hms:Ag (Bh a b)=min (Ag a) (Ag b):=by
  show min (min (Ag a) (Ag b)) 200=_;unfold Ag;omega
 unfold InS;rw [hls,hms];constructor
 ·rintro ⟨i1,i2,i3,i4,i5⟩;exact ⟨⟨Y4,Y4,fun c hc=>((hok c).1 (i3 c hc)).1,h1.trans i4,h3.trans i5⟩,⟨Y4,Y4,fun c hc=>((hok c).1 (i3 c hc)).2,h2.trans i4,h4.trans i5⟩⟩
 ·rintro ⟨⟨i1,i2,i3,i4,i5⟩,⟨j1,j2,j3,j4,j5⟩⟩;refine ⟨Y4,Y4,fun c hc=>(hok c).2 ⟨i3 c hc,j3 c hc⟩,?_,?_⟩
  ·rcases hB with h|h<;>rw [h]
   ·exact i4
   ·exact j4
  ·rcases hE with h|h<;>rw [h]
   ·exact i5
   ·exact j5
theorem T6(a b:Sh)(l:List UInt8):InS (CN a b) l↔InS a l∧InS b l:=by
 unfold CN;by_cases he:AI a=true∨AI b=true
 ·rw [if_pos he];constructor
  ·intro h;exact absurd h ((B9 _).1 Gr l)
  ·rintro ⟨h1,h2⟩
   rcases he with he|he
   ·exact absurd h1 ((B9 _).1 he l)
   ·exact absurd h2 ((B9 _).1 he l)
 ·rw [if_neg he];by_cases hc:Cq a.b (Bh a b).b=true∧Cq b.b (Bh a b).b=true∧Cs a.e (Bh a b).e=true∧Cs b.e (Bh a b).e=true∧AI (Bh a b)=false
  ·rw [if_pos hc];exact RN hc.1 hc.2.1 hc.2.2.1 hc.2.2.2.1
  ·rw [if_neg hc];constructor
   ·intro h;exact absurd h ((B9 _).1 Gr l)
   ·rintro ⟨h1,h2⟩;exfalso;refine hc ?_;have p1:∀ {x y:List UInt8},x <+: l→y <+: l→x.length≤y.length→x <+: y:=fun hx hy hl=>List.prefix_of_prefix_length_le hx hy hl;have s1:∀ {x y:List UInt8},x <:+ l→y <:+ l→x.length≤y.length→x <:+ y:=fun hx hy hl=>List.suffix_of_suffix_length_le hx hy hl;have b1:=h1.2.2.2.1;have b2:=h2.2.2.2.1;have e1:=h1.2.2.2.2;have e2:=h2.2.2.2.2;have q1:Cq a.b (Bh a b).b=true:=by
     rw [Dm];unfold Bh;simp only;split
     ·exact p1 b1 b2 (by show a.b.size≤b.b.size;omega)
     ·exact List.prefix_refl _
    have q2:Cq b.b (Bh a b).b=true:=by
     rw [Dm];unfold Bh;simp only;split
     ·exact List.prefix_refl _
     ·exact p1 b2 b1 (by show b.b.size≤a.b.size;omega)
    have q3:Cs a.e (Bh a b).e=true:=by
     rw [Dl];unfold Bh;simp only;split
     ·exact s1 e1 e2 (by show a.e.size≤b.e.size;omega)
     ·exact List.suffix_refl _
    have q4:Cs b.e (Bh a b).e=true:=by
     rw [Dl];unfold Bh;simp only;split
     ·exact List.suffix_refl _
     ·exact s1 e2 e1 (by show b.e.size≤a.e.size;omega)
    exact ⟨q1,q2,q3,q4,DE ((RN q1 q2 q3 q4).2 ⟨h1,h2⟩)⟩
theorem SW{a b:Sh}(h:BZ (At a) (At b)=true)(c:UInt8)(hc:okU (At a) c):okU (At b) c :=
 FI.1 h _ (by have:=FQ (c.toNat:Int);unfold Sk;omega) hc
theorem Pr{a b:Sh}(h:Cc a b=true){l:List UInt8}(hl:InS a l):InS b l:=by
 unfold Cc at h;rw [DE hl] at h;simp only [Bool.false_or,Bool.and_eq_true,decide_eq_true_eq] at h;obtain ⟨⟨⟨⟨⟨_,h1⟩,h2⟩,h3⟩,h4⟩,h5⟩:=h;obtain ⟨i1,i2,i3,i4,i5⟩:=hl;exact ⟨Y4,Y4,fun c hc=>SW h3 c (i3 c hc),(Dm.1 h4).trans i4,(Dl.1 h5).trans i5⟩

theorem IV(n s:Int):BG (BG n s).1 (BG n s).2=BG n s:=by
 unfold BG;by_cases h:Cm n s=true
 ·rw [if_pos h];simp [h]
 ·rw [if_neg h];simp
theorem JE(n s:Int):mu (BG n s).1 (BG n s).2=mu n s:=by
 unfold mu;rw [IV]
structure Rg where
 ln:Int
 ls:Int
 hn:Int
 hs:Int
abbrev Rp(x:Rg):Array Value:=List.toArray [.int .i64 x.ln,.int .i64 x.ls,.int .i64 x.hn,.int .i64 x.hs]
abbrev Rq(x:Rg):Value:=.agg (Rp x)
def Rg.lo(r:Rg):Int:=mu r.ln r.ls
def Rg.hi(r:Rg):Int:=mu r.hn r.hs
def E4A:Rg:=⟨1,0,0,0⟩
def Rg.full:Rg:=⟨-1000000000000000,0,1000000000000000,0⟩
def Ah(r:Rg):Bool:=decide (r.hi<r.lo)
def BV(r:Rg):Rg:=if Ah r=true then E4A else ⟨(BG r.ln r.ls).1,(BG r.ln r.ls).2,(BG r.hn r.hs).1,(BG r.hn r.hs).2⟩
def Af(r:Rg)(n s:Int):Bool:=Cm n s&&decide (r.lo≤mu n s)&&decide (mu n s≤r.hi)
def Bf(n s n' s':Int):Int × Int:=if mu n' s'<mu n s then (n',s') else (n,s)
def BJ(n s n' s':Int):Int × Int:=if mu n s<mu n' s' then (n',s') else (n,s)
theorem LY(n s n' s':Int):mu (Bf n s n' s').1 (Bf n s n' s').2=min (mu n s) (mu n' s'):=by
 unfold Bf;split<;>simp only<;>omega
theorem J2(n s n' s':Int):mu (BJ n s n' s').1 (BJ n s n' s').2=max (mu n s) (mu n' s'):=by
 unfold BJ;split<;>simp only<;>omega
def Pi(x y:Rg):Rg:=⟨(Bf x.ln x.ls y.ln y.ls).1,(Bf x.ln x.ls y.ln y.ls).2,(BJ x.hn x.hs y.hn y.hs).1,(BJ x.hn x.hs y.hn y.hs).2⟩
def SJ(x y:Rg):Rg:=⟨(BJ x.ln x.ls y.ln y.ls).1,(BJ x.ln x.ls y.ln y.ls).2,(Bf x.hn x.hs y.hn y.hs).1,(Bf x.hn x.hs y.hn y.hs).2⟩
def Bm(a b:Rg):Rg:=if Ah (BV a)=true then BV b else if Ah (BV b)=true then BV a else Pi (BV a) (BV b)
def Hx(a b:Rg):Rg:=BV (SJ (BV a) (BV b))
def EG(a b:Rg):Bool:=Ah a||(decide (b.lo≤a.lo)&&decide (a.hi≤b.hi))
theorem DV(r:Rg):Ah (BV r)=Ah r:=by
 unfold BV;cases h:Ah r
 ·rw [if_neg Y3];unfold Ah Rg.lo Rg.hi at h⊢;simp only;rw [JE,JE];exact h
 ·rw [if_pos rfl]
  decide
theorem En{r:Rg}(h:Ah r=false):(BV r).lo=r.lo∧(BV r).hi=r.hi:=by
 unfold BV;rw [h,if_neg Y3];exact ⟨JE _ _,JE _ _⟩
theorem BF{r:Rg}{n s:Int} : Af r n s=true↔Cm n s=true∧r.lo≤mu n s∧mu n s≤r.hi:=by
 unfold Af;simp only [Bool.and_eq_true,decide_eq_true_eq,and_assoc]
theorem CZ{r:Rg}(h:Ah r=true)(n s:Int):Af r n s=false:=by
 rw [Bool.eq_false_iff];intro hc;rw [BF] at hc;unfold Ah at h;rw [decide_eq_true_eq] at h;omega
theorem Co(r:Rg)(n s:Int):Af (BV r) n s=Af r n s:=by
 cases h:Ah r
 ·rw [Bool.eq_iff_iff,BF,BF,(En h).1,(En h).2]
 ·rw [CZ h,CZ (by rw [DV];exact h)]
theorem MS(x y:Rg):(Pi x y).lo=min x.lo y.lo∧(Pi x y).hi=max x.hi y.hi:=⟨LY _ _ _ _,J2 _ _ _ _⟩
theorem Ud(x y:Rg):(SJ x y).lo=max x.lo y.lo∧(SJ x y).hi=min x.hi y.hi:=⟨J2 _ _ _ _,LY _ _ _ _⟩
theorem M2(a b:Rg)(n s:Int)(h:Af a n s=true∨Af b n s=true):Af (Bm a b) n s=true:=by
 unfold Bm;rw [DV,DV];cases ha:Ah a
 ·simp only [Bool.false_eq_true,if_false];cases hb:Ah b
  ·simp only [Bool.false_eq_true,if_false];rw [BF,(MS _ _).1,(MS _ _).2,(En ha).1,(En ha).2,(En hb).1,(En hb).2]
   rcases h with h|h
   all_goals
    rw [BF] at h;exact ⟨h.1,Y4,Y4⟩
  ·simp only [if_true];rw [Co]
   rcases h with h|h
   ·exact h
   ·rw [CZ hb] at h;cases h
 ·simp only [if_true];rw [Co]
  rcases h with h|h
  ·rw [CZ ha] at h;cases h
  ·exact h
theorem Pn(a b:Rg)(n s:Int):Af (Hx a b) n s=true↔Af a n s=true∧Af b n s=true:=by
 unfold Hx;rw [Co,←Co a,←Co b,BF,BF,BF,(Ud _ _).1,(Ud _ _).2];constructor
 ·rintro ⟨h1,h2,h3⟩;exact ⟨⟨h1,Y4,Y4⟩,⟨h1,Y4,Y4⟩⟩
 ·rintro ⟨⟨h1,h2,h3⟩,⟨_,h4,h5⟩⟩;exact ⟨h1,Y4,Y4⟩
theorem On{a b:Rg}(h:EG a b=true){n s:Int}(hc:Af a n s=true):Af b n s=true:=by
 unfold EG at h;rw [Bool.or_eq_true] at h
 rcases h with h|h
 ·rw [CZ h] at hc;cases hc
 ·rw [Bool.and_eq_true,decide_eq_true_eq,decide_eq_true_eq] at h;rw [BF] at hc⊢;exact ⟨hc.1,Y4,Y4⟩
def Be(l h:Int):Int × Int:=if h<l then (1,0) else (l,h)
def Bl(a b:Int × Int):Int × Int:=if a.2<a.1 then Be b.1 b.2 else if b.2<b.1 then a else (min a.1 b.1,max a.2 b.2)
def Bj(a b:Int × Int):Int × Int:=Be (max a.1 b.1) (min a.2 b.2)
def inP(a:Int × Int)(n:Int):Prop:=a.1≤n∧n≤a.2
theorem M5(l h n:Int):inP (Be l h) n↔l≤n∧n≤h:=by
 unfold Be inP;split<;>simp only<;>omega
theorem JV{a b:Int × Int}{n:Int}(h:inP a n∨inP b n):inP (Bl a b) n:=by
 unfold Bl;split
 ·rw [M5];unfold inP at h;omega
 ·split
  ·unfold inP at h⊢;omega
  ·unfold inP at h⊢;simp only;omega
theorem Gt(a b:Int × Int)(n:Int):inP (Bj a b) n↔inP a n∧inP b n:=by
 unfold Bj;rw [M5];unfold inP;omega

def PG(y:Val):Prop:=y.cols=[]∧y.rows=[]∧y.s.size≤4294967296
theorem FPA{w:World}{S:NP}{d:Nat}{y:Val}(hy:PG y)(hd:0<d):CV w S d y (DO y none 0 none 0):=by
 obtain ⟨h1,h2,h3⟩:=hy;refine ⟨none,0,none,0,rfl,⟨hd,by rw [h1];exact AS,by rw [h2];exact AS⟩,RV.mk h3 (by rw [h1];exact Strs.nil) (by rw [h2];exact Rows.nil)⟩
theorem FOA{w:World}{S:NP}{d:Nat}(hd:0<d):∀ (ys:List Val),(∀ y∈ys,PG y)→VL (CV w S d) (ys.flatMap fun y=>DO y none 0 none 0) ys
 |[],_=>VL.nil _
 |y::ys,h=>by
  have h1:=VL.snoc (VL.nil (CV w S d)) (cs:=DO y none 0 none 0) (y:=y) (FPA (w:=w) (S:=S) (h y List.mem_cons_self) hd).one.1 (FPA (h y List.mem_cons_self) hd);have h2:=FOA (w:=w) (S:=S) hd ys fun z hz=>h z (List.mem_cons_of_mem _ hz)
  simpa using h1.append h2
theorem Row.flat{w:World}{g t d:Nat}{cs:Array Value}{ys:List Val}(h:Blk w g t cs)(hc:cs.toList=ys.flatMap fun y=>DO y none 0 none 0)(hy:∀ y∈ys,PG y)(hd:0<d)(hl:ys.length≤4294967296):Row w (fun b=>b=g) d (some ⟨g,0,none⟩) ys:=by
 have h1:=h.rd;rw [hc] at h1;exact RVs.iff.2 ⟨hl,_,h1,FOA hd ys hy⟩
theorem Strs.of_blk{w:World}{g t:Nat}{cs:Array Value}{l:List BA}(h:Blk w g t cs)(hc:cs.toList=l.map Value.string)(hl:l.length≤4294967296)(hs:∀ s∈l,s.size≤4294967296):Strs w (fun b=>b=g) (some ⟨g,0,none⟩) l:=by
 have h1:=h.rd;rw [hc] at h1;exact ⟨h1,hl,hs⟩
def EPA(w:World)(t:Look)(e:Ending)(w':World):Prop:=∃ A c B e',e=.returned (.agg #[.string t.name,.slice A t.cols.length c,.slice B t.rows.length e'])∧(t.cols.length≤c∧t.rows.length≤e')∧RL w' (Av w) 1 t A B∧Ext w w'

theorem Dt(l:List BA)(A:OA)(ca:Nat)(w:World)(S:NP)(hA:Strs w S A l) :
  Cl 137 #[.slice A l.length ca] w (AO w (decide l.Nodup)):=by
 have hal:=hA.2.1;have HA:=Hd hA;clear hA;have hmm:=@run_makeMap prog
 go_enter func137,ntmps137
 go_wp2;clear hmm;have HSET:=Hd (show SetIs (w.alloc (.map #[] 0)) w.heap.size [] from FAA w _)
 go_loopw [9] (fun i wr=>∃ (k:Nat) (ks:List BA),k≤l.length∧i=.I k∧Ext w wr∧SetIs wr w.heap.size ks∧ks.length≤k∧(ks.length=k↔(l.take k).Nodup)∧(∀ x,x∈ks↔x∈l.take k)) (fun i _=>l.length-(intOf i).toNat)
 case atStart=>exact ⟨0,[],AE,rfl,(Ext.refl w).alloc _,HSET.o,AS,Y3,Y3⟩
 case round =>
  clear HSET;obtain ⟨k,ks,hk,rfl,hext,hset,h1,h2,h3⟩:=hrel;obtain ⟨HE,HS,H2,H3⟩:=Hd4 hext hset h2 h3;clear h2 h3;by_cases hlt:k<l.length
  ·obtain ⟨b1,o1,rfl,z1,c1⟩:=(HA.o.keep (hext.kept S)).at_ hlt;obtain ⟨w',ks',hup,hset',hg',hks⟩:=hset.put l[k];obtain ⟨HS',HG',HKS⟩:=Hd3 hset' hg' hks;clear hset' hg' hks hext hset;go_wp2;go_roundw
   case rel =>
    have htk:l.take (k+1)=l.take k++[l[k]]:=List.take_succ_eq_append_getElem hlt;have hnd:(l.take (k+1)).Nodup↔(l.take k).Nodup∧l[k] ∉ l.take k:=by
     rw [htk,List.nodup_append];constructor
     ·rintro ⟨h1,_,h3⟩;exact ⟨h1,fun h=>h3 _ h _ Y3 rfl⟩
     ·rintro ⟨h1,h2⟩;exact ⟨h1,Y3,fun a ha b hb e=>by simp at hb;subst hb;subst e;exact h2 ha⟩
    refine ⟨k+1,ks',Y4,Y5,HE.o.grown HG'.out (fun b hb=>Y28),HS'.out,?_,?_,fun x => ?_⟩
    ·rcases HKS.o with ⟨_,rfl⟩|⟨_,rfl⟩
     ·omega
     ·simp;omega
    ·rw [hnd,←H2.o,←H3.o]
     rcases HKS.o with ⟨hm,rfl⟩|⟨hn,rfl⟩
     ·constructor
      ·intro h;omega
      ·rintro ⟨_,h⟩;exact absurd hm h
     ·simp only [List.length_append,List.length_singleton];constructor
      ·intro h;exact ⟨Y4,hn⟩
      ·rintro ⟨h,_⟩;omega
    ·rw [htk,List.mem_append,←H3.o]
     rcases HKS.o with ⟨hm,rfl⟩|⟨hn,rfl⟩
     ·constructor
      ·intro h;exact Or.inl h
      ·rintro (h|h)
       ·exact h
       ·simp at h;subst h;exact hm
     ·rw [List.mem_append]
   case measure=>simp [intOf];omega
  ·obtain rfl:k=l.length:=Y4;have hlen:=hset.len 3;have hnd:=H2.o;rw [List.take_of_length_le (AS)] at hnd;have HND:=Hd hnd;clear hnd hext hset;go_wp2;go_ret;refine ⟨?_,HE.o⟩;by_cases hd:l.Nodup
   ·rw [decide_eq_true hd];have:=HND.o.2 hd;simp [this]
   ·rw [decide_eq_false hd];have:¬ks.length=l.length:=fun e=>hd (HND.o.1 e);simp;omega

def V5(l:List Int)(v:Int):Int:=Ee (fun x=>decide (v=x)) l
theorem Kn(A:OA)(c:Nat)(l:List Int)(v:Int)(w:World)(S:NP)(h:Ints w S A l) :
  Cl 203 #[.slice A l.length c,.I v] w (BK w (V5 l v)):=by
 have hn:=h.2
 go_enter func203,ntmps203
 go_wp2
 go_loop [8] (fun i=>∃ k:Nat,k≤l.length∧i=.I k∧∀ j (h:j<l.length),j<k→(fun x=>decide (v=x)) l[j]=false) (fun i=>l.length-(intOf i).toNat)
 case atStart=>exact ⟨0,AE,rfl,Y8⟩
 case round =>
  obtain ⟨k,hk,rfl,hall⟩:=hrel;have HA:=Hd hall;clear hall;by_cases hlt:k<l.length
  ·obtain ⟨b1,o1,rfl,z1,c1⟩:=h.at_ hlt;by_cases hv:v=l[k]
   ·have ht:(v==l[k])=true:=(by simp [hv]);have HV:=Hd (show decide (v=l[k])=true by simp [hv]);clear hv;go_wp2;go_ret;exact ⟨by unfold V5;rw [C7 hlt HA.o HV.o];rfl,rfl⟩
   ·have ht:(v==l[k])=false:=(by simp [hv]);have HV:=Hd (show decide (v=l[k])=false by simp [hv]);exact Z58
  ·go_wp2;go_ret;exact ⟨by unfold V5;rw [EN (fun j hj=>HA.o j hj Y4)];rfl,rfl⟩
def GM(l:List Int)(v:Int):Bool:=l.any fun x=>decide (v=x)
theorem DW(A:OA)(c:Nat)(l:List Int)(v:Int)(w:World)(S:NP)(h:Ints w S A l) :
  Cl 145 #[.slice A l.length c,.I v] w (SameB w (GM l v)):=by
 have H:=Hd h;clear h
 go_enter func145,ntmps145
 go_wp2_with (go_at_call 203;refine (Kn _ _ _ _ _ S H.o).mono ?_;rintro e w' ⟨rfl,rfl⟩)
 go_ret;exact ⟨by unfold GM;rw [←Ec];rfl,rfl⟩
theorem Fc(x:Int)(g:Nat)(A:OA)(c:Nat)(l:List Int)(w:World)(S:NP)(hb:w.cell? ⟨g,0,none⟩=some (.slice A l.length c))(h:Ints w S A l) :
  Cl 201 #[.I x,.pointer (some ⟨g,0,none⟩)] w (SameB w (!GM l x)):=by
 have H:=Hd h;clear h
 go_enter func201,ntmps201
 go_wp2_with (go_at_call 145;refine (DW _ _ _ _ _ S H.o).mono ?_;rintro e w' ⟨rfl,rfl⟩)
 go_ret;exact ⟨rfl,rfl⟩

theorem Ht(l m:List Int)(A B:OA)(c cb g:Nat)(w:World)(S T:NP)(hl:Ints w S A l)(hb:w.cell? ⟨g,0,none⟩=some (.slice B m.length cb))(h:Ints w T B m) :
  Cl 236 #[.slice A l.length c,.func (.func 201) #[] #[.pointer (some ⟨g,0,none⟩)]] w (BK w (Ee (fun x => !GM m x) l)):=by
 have hn:=hl.2;have HB:=Hd hb;have HS:=Hd h;clear hb h
 go_enter func236,ntmps236
 go_wp2
 go_loop [8] (fun i=>∃ k:Nat,k≤l.length∧i=.I k∧∀ j (h:j<l.length),j<k→(fun x => !GM m x) l[j]=false) (fun i=>l.length-(intOf i).toNat)
 case atStart=>exact ⟨0,AE,rfl,Y8⟩
 case round =>
  obtain ⟨k,hk,rfl,hall⟩:=hrel;have HA:=Hd hall;clear hall;by_cases hlt:k<l.length
  ·obtain ⟨b1,o1,rfl,z1,c1⟩:=hl.at_ hlt;cases hm:GM m l[k]
   ·have HM:=Hd hm;clear hm
    go_wp2_with (go_at_call 201;refine (Fc _ g B cb m _ T HB.o HS.o).mono ?_;rintro e w' ⟨rfl,rfl⟩;rw [HM.o])
    exact Z96
   ·have HM:=Hd hm;clear hm
    go_wp2_with (go_at_call 201;refine (Fc _ g B cb m _ T HB.o HS.o).mono ?_;rintro e w' ⟨rfl,rfl⟩;rw [HM.o])
    exact Z97
  ·exact Z99
theorem Fy(l m:List Int)(A B:OA)(c cb g:Nat)(w:World)(S T:NP)(hl:Ints w S A l)(hb:w.cell? ⟨g,0,none⟩=some (.slice B m.length cb))(h:Ints w T B m) :
  Cl 200 #[.slice A l.length c,.func (.func 201) #[] #[.pointer (some ⟨g,0,none⟩)]] w (SameB w (l.any fun x => !GM m x)):=by
 obtain ⟨HB,HS,HL⟩:=Hd3 hb h hl;clear hb h hl
 go_enter func200,ntmps200
 go_wp2_with (go_at_call 236;refine (Ht _ m _ B _ cb g _ S T HL.o HB.o HS.o).mono ?_;rintro e w' ⟨rfl,rfl⟩)
 go_ret;exact ⟨by rw [←Ec];rfl,rfl⟩
def Gd(l m:List Int):Bool:=!(l.any fun x => !GM m x)
theorem Jr(l m:List Int)(A B:OA)(c cb:Nat)(w:World)(S T:NP)(hl:Ints w S A l)(h:Ints w T B m) :
  Cl 143 #[.slice A l.length c,.slice B m.length cb] w (AO w (Gd l m)):=by
 have HS:=Hd h;have HL:=Hd hl;clear h hl
 go_enter func143,ntmps143
 go_wp2_with fail
 refine (Fy l m A B c cb w.heap.size _ S T (HL.o.keep (Kept.alloc _ _ _)) ((Blk.new w 22 #[.slice B m.length cb]).cell rfl) (HS.o.keep (Kept.alloc _ _ _))).mono ?_;rintro e w' ⟨rfl,rfl⟩;go_wp2;go_ret;exact ⟨rfl,(Ext.refl w).alloc _⟩
theorem Zw(h:qP:=by
 go_wp2;go_ret;exact ⟨rfl,HX.o⟩):qP:=h
theorem Xt(h:qP:=by
 rintro e w' ⟨rfl,hx⟩;have HX:=Hd hx;clear hx;exact Zw):qP:=h
theorem M4(l m:List Int)(A B:OA)(c cb g:Nat)(w:World)(S T:NP)(hl:Ints w S A l)(hb:w.cell? ⟨g,0,none⟩=some (.slice B m.length cb))(h:Ints w T B m) :
  Cl 142 #[.slice A l.length c,.pointer (some ⟨g,0,none⟩)] w (AO w (Gd l m)):=by
 have HS:=Hd h;have HL:=Hd hl;clear h hl
 go_enter func142,ntmps142
 go_wp2_with fail
 refine (Jr l m A B c cb _ S T HL.o HS.o).mono ?_;exact Xt
theorem MU(gs l:List Int)(A B:OA)(c cb g:Nat)(w:World)(S T:NP)(hl:Ints w S A l)(hb:w.cell? ⟨g,0,none⟩=some (.slice B gs.length cb))(h:Ints w T B gs)(hll:l.length=gs.length) :
  Cl 202 #[.slice A l.length c,.pointer (some ⟨g,0,none⟩)] w (AO w (!Dn gs l)):=by
 obtain ⟨HS,HL,HLL⟩:=Hd3 h hl hll;clear h hl hll
 go_enter func202,ntmps202
 go_wp2_with fail
 refine (GW gs l B A cb c _ T S HS.o HL.o HLL.o).mono ?_;exact Xt

theorem DUA(h:qP:=by
 refine ⟨k+1,Y4,Y5,HX1.o,fun j h hj => ?_⟩;by_cases hjk:j=k
 ·subst hjk;exact HQ.o
 ·exact HA.o j h Y4):qP:=h
theorem AkA(h:qP:=by
 have HQ:=Hd hq;clear hq;go_wp2;go_roundw
 case rel =>
  exact DUA
 case measure=>simp [intOf];omega):qP:=h
theorem G5(ls:List (List Int))(m:List Int)(A B:OA)(c cb g:Nat)(w:World)(S T:NP)(hl:RIss w S A ls)(hb:w.cell? ⟨g,0,none⟩=some (.slice B m.length cb))(h:Ints w T B m) :
  Cl 199 #[.slice A ls.length c,.func (.func 142) #[] #[.pointer (some ⟨g,0,none⟩)]] w (CD w (Ee (fun l=>Gd l m) ls)):=by
 have hn:=hl.1;obtain ⟨HB,HS,HLS⟩:=Hd3 hb h hl;clear hb h hl
 go_enter func199,ntmps199
 go_wp2
 go_loopw [8] (fun i wr=>∃ k:Nat,k≤ls.length∧i=.I k∧Ext w wr∧∀ j (h:j<ls.length),j<k→(fun l=>Gd l m) ls[j]=false) (fun i _=>ls.length-(intOf i).toNat)
 case atStart=>exact ⟨0,AE,rfl,Ext.refl _,Y8⟩
 case round =>
  obtain ⟨k,hk,rfl,hext,hall⟩:=hrel;have HA:=Hd hall;have HE:=Hd hext;clear hall;by_cases hlt:k<ls.length
  ·obtain ⟨b1,o1,B2,c2,rfl,z1,p0,hcp,hint⟩:=(HLS.o.keep (hext.kept S)).at_ hlt;have HINT:=Hd hint;clear hint hext
   go_wp2_with fail
   refine (M4 ls[k] m B2 B c2 cb g _ S T HINT.o (HE.o.cell HB.o) (HS.o.keep (HE.o.kept T))).mono ?_;rintro e w1 ⟨rfl,hx1⟩;have HX1:=Hd (HE.o.trans hx1);clear hx1;cases hq:(Gd ls[k] m)
   ·exact AkA
   ·have HF:=Hd (C7 (p:=fun l=>Gd l m) hlt HA.o hq);exact Z81
  ·have HF:=Hd (EN (p:=fun l=>Gd l m) (l:=ls) (fun j h=>HA.o j h Y4));exact Z80
theorem Zr(h:qP:=by
 rintro e w1 ⟨rfl,hx1⟩;have HX1:=Hd hx1;clear hx1;go_wp2;go_ret;exact ⟨by rw [←Ec];rfl,HX1.o⟩):qP:=h
theorem F1(ls:List (List Int))(m:List Int)(A B:OA)(c cb g:Nat)(w:World)(S T:NP)(hl:RIss w S A ls)(hb:w.cell? ⟨g,0,none⟩=some (.slice B m.length cb))(h:Ints w T B m) :
  Cl 141 #[.slice A ls.length c,.func (.func 142) #[] #[.pointer (some ⟨g,0,none⟩)]] w (AO w (ls.any fun l=>Gd l m)):=by
 obtain ⟨HB,HS,HLS⟩:=Hd3 hb h hl;clear hb h hl
 go_enter func141,ntmps141
 go_wp2_with fail
 refine (G5 ls m A B c cb g _ S T HLS.o HB.o HS.o).mono ?_;exact Zr

theorem G6(ls:List (List Int))(m:List Int)(A B:OA)(c cb g:Nat)(w:World)(S T:NP)(hl:RIss w S A ls)(hb:w.cell? ⟨g,0,none⟩=some (.slice B m.length cb))(h:Ints w T B m)(hll:∀ l∈ls,l.length=m.length) :
  Cl 199 #[.slice A ls.length c,.func (.func 202) #[] #[.pointer (some ⟨g,0,none⟩)]] w (CD w (Ee (fun l => !Dn m l) ls)):=by
 have hn:=hl.1;obtain ⟨HB,HS,HLS,HLL⟩:=Hd4 hb h hl hll;clear hll hb h hl
 go_enter func199,ntmps199
 go_wp2
 go_loopw [8] (fun i wr=>∃ k:Nat,k≤ls.length∧i=.I k∧Ext w wr∧∀ j (h:j<ls.length),j<k→(fun l => !Dn m l) ls[j]=false) (fun i _=>ls.length-(intOf i).toNat)
 case atStart=>exact ⟨0,AE,rfl,Ext.refl _,Y8⟩
 case round =>
  obtain ⟨k,hk,rfl,hext,hall⟩:=hrel;have HA:=Hd hall;have HE:=Hd hext;clear hall;by_cases hlt:k<ls.length
  ·obtain ⟨b1,o1,B2,c2,rfl,z1,p0,hcp,hint⟩:=(HLS.o.keep (hext.kept S)).at_ hlt;have HINT:=Hd hint;clear hint hext
   go_wp2_with fail
   refine (MU m ls[k] B2 B c2 cb g _ S T HINT.o (HE.o.cell HB.o) (HS.o.keep (HE.o.kept T)) (HLL.o _ (List.getElem_mem hlt))).mono ?_;rintro e w1 ⟨rfl,hx1⟩;have HX1:=Hd (HE.o.trans hx1);clear hx1;cases hq:(!Dn m ls[k])
   ·exact AkA
   ·have HF:=Hd (C7 (p:=fun l => !Dn m l) hlt HA.o hq);exact Z81
  ·have HF:=Hd (EN (p:=fun l => !Dn m l) (l:=ls) (fun j h=>HA.o j h Y4));exact Z80
theorem Fu(ls:List (List Int))(m:List Int)(A B:OA)(c cb g:Nat)(w:World)(S T:NP)(hl:RIss w S A ls)(hb:w.cell? ⟨g,0,none⟩=some (.slice B m.length cb))(h:Ints w T B m)(hll:∀ l∈ls,l.length=m.length) :
  Cl 141 #[.slice A ls.length c,.func (.func 202) #[] #[.pointer (some ⟨g,0,none⟩)]] w (AO w (ls.any fun l => !Dn m l)):=by
 obtain ⟨HB,HS,HLS,HLL⟩:=Hd4 hb h hl hll;clear hll hb h hl
 go_enter func141,ntmps141
 go_wp2_with fail
 refine (G6 ls m A B c cb g _ S T HLS.o HB.o HS.o HLL.o).mono ?_;exact Zr

def CP(cols:List BA)(set:List Int):List BA:=set.map fun c=>cols.getD c.toNat ⟨#[]⟩
theorem Nn(cols:List BA)(set:List Int)(A B:OA)(ca cb:Nat)(w:World)(S T:NP)(hA:Strs w S A cols)(hB:Ints w T B set)(hr:∀ c∈set,0≤c∧c<(cols.length:Int)) :
  Cl 146 #[.slice A cols.length ca,.slice B set.length cb] w (PW w (CP cols set)):=by
 have hal:=hA.2.1;have hbl:=hB.2;obtain ⟨HA,HB,HR⟩:=Hd3 hA hB hr;clear hA hB hr;obtain ⟨cur,hmk,hcur⟩:=PZ tiS set.length Y4 Y17;have HCUR:=Hd hcur;clear hcur;have hnl:(CP cols set).length=set.length:=(by simp [CP]);have HNL:=Hd hnl;have hns:∀ s∈CP cols set,s.size≤4294967296:=by
  intro s hs;obtain ⟨c,hc,rfl⟩:=List.mem_map.1 hs;have:=HR.o c hc;rw [Au _ _ _ Y4];exact HA.o.sz Y4
 have HNS:=Hd hns;clear hnl hns
 go_enter func146,ntmps146
 go_wp2;clear hmk;have hst:OwnSs (w.alloc (.cells cur 9)) w.heap.size (some ⟨w.heap.size,0,none⟩) set.length ((CP cols set).take 0):=by
  have:=FLA w 9 1 set.length cur Y14 HCUR.o;exact ⟨by simpa using this,Y3⟩
 have HST:=Hd hst;clear hst
 go_loopw [13,5] (fun i v wr=>∃ (m:Nat) (A':OA) (c':Nat),m≤set.length∧i=.I m∧v=.slice A' m c'∧Ext w wr∧OwnSs wr w.heap.size A' c' ((CP cols set).take m)) (fun i _ _=>set.length-(intOf i).toNat)
 case atStart=>exact ⟨0,_,_,AE,rfl,rfl,(Ext.refl w).alloc _,HST.o⟩
 case round =>
  clear HST;obtain ⟨m,A',c',hm,rfl,rfl,hext,hown⟩:=hrel;have HE:=Hd hext;have HO:=Hd hown;clear hown;by_cases hlt:m<set.length
  ·obtain ⟨b1,o1,rfl,z1,c1⟩:=(HB.o.keep (hext.kept T)).at_ hlt;have hrm:=HR.o _ (List.getElem_mem hlt);obtain ⟨x,hx⟩:=Int.eq_ofNat_of_zero_le hrm.1;have hx2:x<cols.length:=Y4;rw [hx] at c1;obtain ⟨b2,o2,rfl,z2,d1⟩:=(HA.o.keep (hext.kept S)).at_ hx2;have hval:(CP cols set)[m]'(by rw [HNL.o];exact hlt)=cols[x]:=by
    simp only [CP,List.getElem_map,hx];rw [Int.toNat_natCast,Au _ _ _ hx2]
   have HVAL:=Hd hval;have hlm:((CP cols set).take m).length=m:=(by rw [List.length_take,HNL.o];omega);have hown:=(HO.o.ext ((Ext.refl wr).alloc (.cells #[.string cols[x]] 9))).1;rw [hlm] at hown;have HOWN:=Hd hown;have hszw:=HE.o.size;clear hval hlm hown hext hrm hx
   go_wp2_with (at_builtin;go_must (refine AC rfl (.tmp 17) (.tmp 22) rfl tiS rfl HOWN.o rfl (Blk.rd (Blk.new _ _ _)) rfl Y18 Y4 Y17 Y16 ?_);intro A4 c4 w4 hown4 hg4 hat4)
   go_roundw
   case rel =>
    refine ⟨m+1,A4,c4,Y4,Y5,rfl,Ext.grown (HE.o.alloc _) hg4 (fun b hb=>(HOWN.o.blk hb).1),?_,fun s hs=>HNS.o s (List.mem_of_mem_take hs)⟩;rw [List.take_succ_eq_append_getElem (by rw [HNL.o];exact hlt),HVAL.o,List.length_append,List.length_take,HNL.o,Nat.min_eq_left hm,List.map_append];exact hown4
   case measure=>simp [intOf];omega
  ·obtain rfl:m=set.length:=Y4;have ho:=HO.o;rw [List.take_of_length_le (by rw [HNL.o];exact AS)] at ho;have HO2:=Hd ho;clear ho hext;go_wp2;go_ret;exact ⟨A',c',by rw [HNL.o];rfl,Own.cap HO2.o.1,HO2.o.strs (by rw [HNL.o];exact hbl) (fun b hb=>(Own.blk HO2.o.1 hb).1),HE.o⟩
end Go.Proofs.YtidacnalcdhckaaGreatDoor
