/- Lemmas. No conditions. -/
import Derived.Test.YtaccjdppmmoepaaGreatDoorXq7
set_option maxRecDepth 100000
set_option maxHeartbeats 1000000
namespace Go.Proofs.YtaccjdppmmoepaaGreatDoor
open Go Go.RowKit Go.Sort Tryz
variable {qP:Prop}{base d g n t:Nat}{cs:Array Value}{p s:BA}{q x:Int}{w:World}

structure Txa(w:World):Prop where
 tens:Tens w
 pow:Lib.TabIs prog w "internal/strconv.uint64pow10" .u64 Lib.pow10Tab
theorem Txa.ext{J:World}(h:Txa w)(hx:Ext w J):Txa J:=⟨h.tens.ext hx,TabIs_below GdA h.pow hx⟩
theorem GC(n:Int)(h0:-9223372036854775808<=n)(h1:n<=9223372036854775807)(w:World)(h:Txa w):Cl 63 #[.I n] w (Cu w (bsA (Lib.itoa n))):=by
 refine (Any.strconv_Itoa Tryz.lt171 n h0 h1 w h.pow).mono ?_;rintro e J ⟨rfl,k,os,rfl⟩;exact ⟨rfl,(Ext.refl w).drewN k |>.grow os⟩
theorem DJA(u:Nat)(h:100<=u)(h2:u<=9223372036854775807)(w:World)(hT:Txa w):Cl 222 #[.int .u64 (u:Int),.I 10] w (Cu w (bsA (Lib.decDigits u))):=by
 have hu1:1<=u:=AA;have U:u<18446744073709551616:=AA;have hnd20:Lib.nDigits u<=20:=(by have:=Lib.numDigits_eq u hu1 U;split at this<;>omega);have HND:=Hd (show ∀ J,Lib.TabIs prog J "internal/strconv.uint64pow10" .u64 Lib.pow10Tab->Cl 224 #[.int .u64 (u:Int)] J (λe w2=>e=.returned (.I (Lib.nDigits u:Int))/\w2=J) from λJ h=>Any.internal_strconv_numDigits (ρ:=Tryz.lt171_ren) { Tryz.lt171 with } u hu1 U J h);have Z:=Lib.holds_zero0 w 211 (Lib.nDigits u) AA;have O:=Any.internal_strconv_formatBase10 Tryz.lt285 w.heap.size 0 24 u (Array.replicate (Lib.nDigits u) 0) (w.alloc (.cells Lib.zeros24 211)) Z (by rw [Array.size_replicate];exact Lib.lt_pow_nDigits u) U (by rw [Array.size_replicate];omega);rw [Array.size_replicate] at O;have HF:=Hd (show Cl 225 #[.slice (some ⟨w.heap.size,0,none⟩) (Lib.nDigits u) 24,.int .u64 (u:Int)] (w.alloc (.cells Lib.zeros24 211)) _ from O);have HH0:=Hd Z;have Y:prog.arrayLen 211=24:=AD;have a8:prog.elem 211=5:=AD;have hsl:∀ W,(Instr.sliceAt 211 (.pointer (some ⟨w.heap.size,0,none⟩)) none (some (.I (Lib.nDigits u:Int))) none).run prog W=.ok (.slice (some ⟨w.heap.size,0,none⟩) (Lib.nDigits u) 24) W:=λW=>by
  rw [run_sliceAt_array_h W 211 ⟨w.heap.size,0,none⟩ (by simp [Y,a8,underlying211]) .i64 (Lib.nDigits u:Int) AA (by rw [Y];omega)];rw [Y,a8];go_simp
 clear O Z Y a8
 go_enter func222,ntmps222
 go_wp2_with fail
 refine (HND.o _ (Lib.tabIs_alloc hT.pow _)).mono ?_;rintro e2 w2 ⟨rfl,rfl⟩
 go_wp2_with fail
 refine HF.o.mono ?_;rintro e3 w3 ⟨rfl,k,v',dk,rfl,hF⟩;have hcv:(convert 68 9 (.slice (some ⟨w.heap.size,0,none⟩) (Lib.nDigits u) 24)).run prog ((putRow (λ(b:UInt8)=>Value.int .u8 (b.toNat:Int)) (w.alloc (.cells Lib.zeros24 211)) w.heap.size 0 dk).drewN k)=.ok (.string ⟨(Lib.decDigits u).toArray⟩) ((putRow (λ(b:UInt8)=>Value.int .u8 (b.toNat:Int)) (w.alloc (.cells Lib.zeros24 211)) w.heap.size 0 dk).drewN k):=by
  have h:=run_convert_bytes_back (P:=prog) ((putRow (λ(b:UInt8)=>Value.int .u8 (b.toNat:Int)) (w.alloc (.cells Lib.zeros24 211)) w.heap.size 0 dk).drewN k) 68 9 5 ⟨w.heap.size,0,none⟩ 24 (Lib.decDigits u) underlying68 underlying5 underlying9 (λj hj=>by
   rw [Lib.row_is_numeral hF j hj,Lib.add_plain,World.cell?_drewN];exact cell?_putRow (λ(b:UInt8)=>Value.int .u8 (b.toNat:Int)) _ w.heap.size 0 _ dk HH0.o (by rw [hF.size,Array.size_replicate]) j (by rw [hF.size];rw [Lib.decDigits_length] at hj;exact hj))
  rw [Lib.decDigits_length] at h;exact h
 go_wp2;go_ret;obtain ⟨os,eo⟩:=Lib.fin_at w (.cells Lib.zeros24 211) dk k 0;refine ⟨rfl,?_⟩;rw [eo];exact (Ext.refl w).drewN k |>.grow os
theorem OM(u:Nat)(h2:u<=9223372036854775807)(w:World)(hT:Txa w):Cl 186 #[.int .u64 (u:Int),.I 10] w (Cu w (bsA (Lib.decDigits u))):=by
 have HI:=Hd (show Cl 222 #[.int .u64 (u:Int),.I 10] w (Cu w (bsA (Lib.decDigits u))) from by
  rcases Nat.lt_or_ge u 100 with h|h
  ·exact CYA u h w
  ·exact DJA u h h2 w hT)
 obtain ⟨z,O⟩:=eqx (bsA (Lib.decDigits u));rw [<-O] at HI|-;clear O hT
 go_enter func186,ntmps186
 go_wp2_with fail
 refine HI.o.mono ?_;rintro e2 w2 ⟨rfl,hx⟩;have HX:=Hd hx;clear hx
 go_wp2_with fail
 go_ret;exact ⟨rfl,HX.o⟩
theorem KR(n:Int)(s:Nat)(hr:Dz n s=true)(w:World)(hT:Txa w):Cl 119 #[.agg #[.I n,.I (s:Int)]] w (Cu w (bsA (OL n s))):=by
 have hv:Bg n s=(n,(s:Int)):=(by simp [Bg,hr]);have hrg:=GX n s;rw [hv] at hrg;obtain ⟨-,hs6,hn0,hn1⟩:=hrg;have hs6:s<=6:=AA;have hu:n.natAbs<=1000000000000000:=AA;obtain ⟨HV,HSZ,HT⟩:=Hd3 (show ∀ J,Cl 185 #[.agg #[.I n,.I (s:Int)]] J (λe w2=>e=.returned (.agg #[.I n,.I (s:Int)])/\Ext J w2) from λJ=>by have h:=KN n s J;rw [hv] at h;exact h) (XV n hn0 hn1) hT;have a9:(Lib.decDigits n.natAbs).length<=21:=(by have h:=Mr n.natAbs AA;rw [Lib.itoa_nonneg] at h;exact h);obtain ⟨D,eD⟩:=eqx (Lib.decDigits n.natAbs);obtain ⟨z,ez⟩:=eqx (bsA D);obtain ⟨k,Z⟩:=eqx D.length;have hz:z.size=k:=(by rw [ez,Z];simp [bsA,ByteArray.size]);have HF:=Hd (show ∀ J,Txa J->Cl 186 #[.int .u64 (n.natAbs:Int),.I 10] J (Cu J z) from λJ h=>by rw [ez,eD];exact OM n.natAbs AA J h);have hk:k<=21:=(by rw [Z,eD];exact a9);obtain ⟨HDD,HEZ,HEK⟩:=Hd3 (show V2 n s=Lib.repeatL [48] (s+1-k)++D by unfold V2;rw [Z,eD]) ez Z;obtain ⟨u,eu⟩:=eqx n.natAbs;rw [<-eu] at HF HSZ;clear hv hT a9 eD ez Z hu hr eu
 go_enter func119,ntmps119
 go_wp2_with fail
 refine (HV.o _).mono ?_;rintro e1 w1 ⟨rfl,hx1⟩;have HX1:=Hd ((exaa w).trans hx1);have hb1:=(Blk.new w 28 #[.I n,.I (s:Int)]).keep (hx1.kept _);have HB1:=Hd hb1;obtain ⟨c0,c1⟩:=hb1.qs2;have hf:=hb1.frozen;have hl:=hb1.lt;clear hx1 hb1
 go_wp2_with fail
 refine (HSZ.o _).mono ?_;rintro e2 w2 ⟨rfl,rfl⟩;obtain ⟨wb,U⟩:=eqx ((w1.setCell ⟨w.heap.size,0,none⟩ (.I n)).setCell ⟨w.heap.size,1,none⟩ (.I (s:Int)));have HBb:=Hd (show Blk wb w.heap.size 28 #[.I n,.I (s:Int)] by rw [U];exact (HB1.o.set 0 (.I n)).set 1 (.I (s:Int)));have HXb:=Hd (show Ext w wb by rw [U];exact (HX1.o.set2 (Al) _).set2 (Al) _);rw [<-U];clear U c0 c1 hf hl
 go_wp2_with fail
 refine (HF.o _ (HT.o.ext HXb.o)).mono ?_;rintro e3 w3 ⟨rfl,hx3⟩;have HX3:=Hd (HXb.o.trans hx3);have a8:=HBb.o.keep (hx3.kept _);have HB3:=Hd a8;obtain ⟨d0,d1⟩:=a8.qs2;clear hx3 a8
 go_wp2_with fail
 have hcs:((s:Int)+1-(k:Int)<=((s+1-k:Nat):Int)):=AA
 go_loopw [3,17] (λv3 v17 wr=>∃ (i:Nat) (L_:List UInt8),v17=.I (i:Int)/\v3=.string (bsA L_)/\i<=s+1-k/\L_=Lib.repeatL [48] i++D/\wr=w3) (λ_ v17 _=>(s+1-k)-(intOf v17).toNat)
 case atStart=>exact ⟨0,D,rfl,by rw [HEZ.o],AA,rfl,rfl⟩
 case round =>
  obtain ⟨i,L_,rfl,rfl,hi,hL,rfl⟩:=hrel;obtain ⟨y,ey⟩:=eqx (bsA L_);have hy:y.size=i+k:=(by rw [ey,hL,HEK.o];simp [bsA,ByteArray.size,Lib.repeatL_length]);have O:=Hd ey;have HL:=Hd hL;rw [<-ey];clear ey hL;by_cases hlt:i<s+1-k
  ·have h1:((i:Int)<(s:Int)+1-(k:Int)):=AA
   go_wp2_with fail
   go_roundw
   case rel =>
    refine ⟨i+1,48::L_,AC,?_,AA,by rw [HL.o,Wr];rfl,by first|rfl|trivial⟩;show Value.string (⟨#[48]⟩++y)=_;rw [O.o,show (⟨#[48]⟩:BA)=bsA [48] from rfl,Cr];rfl
   case measure=>simp [intOf];omega
  ·have h1:¬((i:Int)<(s:Int)+1-(k:Int)):=AA;have hie:i=s+1-k:=AA;have HLD:=Hd (show V2 n s=L_ by rw [HDD.o,HL.o,hie]);clear hlt;have hsy:s+1<=y.size:=AA;have hyb:y.size<=100:=AA;clear hy
   rcases Nat.eq_zero_or_pos s with hs|hs
   ·have hs1:¬((0:Int)<(s:Int)):=AA;have Y:=Hd (show XH n s=L_ by unfold XH;rw [if_neg AA];exact HLD.o);clear hs;by_cases hn:n<0
    ·have HN:=Hd hn
     go_wp2_with fail
     go_ret;refine ⟨?_,HX3.o⟩;show Ending.returned (Value.string (⟨#[45]⟩++y))=_;rw [O.o,show (⟨#[45]⟩:BA)=bsA [45] from rfl,Cr];unfold OL;rw [if_pos HN.o,Y.o];rfl
    ·have HN:=Hd hn
     go_wp2_with fail
     go_ret;refine ⟨?_,HX3.o⟩;show Ending.returned (Value.string y)=_;unfold OL;rw [if_neg IP,Y.o,O.o]
   ·have hs1:((0:Int)<(s:Int)):=AA;obtain ⟨p,ep⟩:=eqx (y.size-s);have hyp:y.size=p+s:=AA;have hp:p<=100:=AA;have hp1:¬(9223372036854775807<p+1):=AA;have hp2:¬(9223372036854775807<p+1+s):=AA;have hps:((p:Int)<=(p:Int)+(s:Int)):=AA;have hyL:L_.length=p+s:=(by rw [<-hyp,O.o];simp [bsA,ByteArray.size]);have Y:=Hd (show XH n s=L_.take p++[46]++L_.drop p by unfold XH;rw [if_pos hs,HLD.o,hyL,Nat.add_sub_cancel]);clear ep hs
    go_wp2_with fail
    refine Qa (λ_ _=>False) [] ?_
    iterate 9 refine Qp ?_
    intro V F w9 hR hG;refine Qx ?_;have HX9:=Hd (hR.ext0 (λm b _ e=>e.elim));clear hR hG;have hb9:=HB3.o.keep (HX9.o.kept _);have f0:=hb9.q0;clear hb9;obtain ⟨x,ex⟩:=eqx (y.extract 0 p++⟨#[46]⟩++y.extract p (p+s));have hxs:x.size<=200:=(by rw [ex,ByteArray.size_append,ByteArray.size_append,ByteArray.size_extract,ByteArray.size_extract];show _+1+_<=200;omega);have HEX:=Hd (show x=bsA (XH n s) by
     rw [ex,Y.o,O.o,Nw,Nw,show (⟨#[46]⟩:BA)=bsA [46] from rfl,Cr,Cr,List.drop_zero,Nat.sub_zero,Nat.add_sub_cancel_left,show List.take s (L_.drop p)=L_.drop p from List.take_of_length_le (by rw [List.length_drop];omega)])
    rw [<-ex];clear ex;by_cases hn:n<0
    ·have HN:=Hd hn
     go_wp2_with fail
     go_ret;refine ⟨?_,HX3.o.trans HX9.o⟩;show Ending.returned (Value.string (⟨#[45]⟩++x))=_;rw [HEX.o,show (⟨#[45]⟩:BA)=bsA [45] from rfl,Cr];unfold OL;rw [if_pos IP];rfl
    ·have HN:=Hd hn
     go_wp2_with fail
     go_ret;refine ⟨?_,HX3.o.trans HX9.o⟩;show Ending.returned (Value.string x)=_;unfold OL;rw [if_neg IP,HEX.o]

def bt(x:Int)(i:Nat):Bool:=(BitVec.ofInt 64 x).getLsbD i
theorem Hc(n:Int):IntKind.i64.wrap n=n % 18446744073709551616\/IntKind.i64.wrap n=n % 18446744073709551616-18446744073709551616:=by
 unfold IntKind.wrap;simp only [IntKind.bits,IntKind.signed];by_cases h:(9223372036854775808:Int)<=n % 18446744073709551616
 ·right;simp [h]
 ·left;simp [h]
theorem CqA(n:Int):(IntKind.i64.wrap n) % 18446744073709551616=n % 18446744073709551616:=by
 rcases Hc n with h|h<;>rw [h]<;>omega
theorem BQA(n:Int):BitVec.ofInt 64 (IntKind.i64.wrap n)=BitVec.ofInt 64 n:=by
 apply BitVec.eq_of_toNat_eq;rw [BitVec.toNat_ofInt,BitVec.toNat_ofInt];show ((IntKind.i64.wrap n) % 18446744073709551616).toNat=(n % 18446744073709551616).toNat;rw [CqA]
theorem LP(v:BitVec 64):BitVec.ofInt 64 (IntKind.i64.wrap v.toNat)=v:=by
 rw [BQA];apply BitVec.eq_of_toNat_eq;simp
theorem CN(x y:Int)(i:Nat):bt (bits .and .i64 x y) i=(bt x i&&bt y i):=by
 show (BitVec.ofInt 64 (IntKind.i64.wrap (BitVec.ofInt 64 x &&& BitVec.ofInt 64 y).toNat)).getLsbD i=_;rw [LP,BitVec.getLsbD_and];rfl
theorem Ux(x y:Int)(i:Nat):bt (bits .or .i64 x y) i=(bt x i||bt y i):=by
 show (BitVec.ofInt 64 (IntKind.i64.wrap (BitVec.ofInt 64 x ||| BitVec.ofInt 64 y).toNat)).getLsbD i=_;rw [LP,BitVec.getLsbD_or];rfl
theorem CUA(x y:Int)(i:Nat)(hi:i<64):bt (bits .andNot .i64 x y) i=(bt x i&&!bt y i):=by
 show (BitVec.ofInt 64 (IntKind.i64.wrap (BitVec.ofInt 64 x &&& ~~~ BitVec.ofInt 64 y).toNat)).getLsbD i=_;rw [LP,BitVec.getLsbD_and,BitVec.getLsbD_not];simp [hi,bt]
def Er(x:Int):Prop:=-9223372036854775808<=x/\x<=9223372036854775807
theorem DT{y:Int}(hx:Er x)(hy:Er y)(h:∀ i,i<64->bt x i=bt y i):x=y:=by
 have h1:BitVec.ofInt 64 x=BitVec.ofInt 64 y:=BitVec.eq_of_getLsbD_eq h;have h2:=congrArg BitVec.toNat h1;rw [BitVec.toNat_ofInt,BitVec.toNat_ofInt] at h2;have h3:(x % 18446744073709551616).toNat=(y % 18446744073709551616).toNat:=h2;unfold Er at hx hy;omega
theorem Hh(n:Int):Er (IntKind.i64.wrap n):=by
 unfold IntKind.wrap Er;simp only [IntKind.bits,IntKind.signed];by_cases h:(9223372036854775808:Int)<=n % 18446744073709551616
 ·simp [h];omega
 ·simp [h];omega
theorem CJ(op:BinOp)(x y:Int):Er (bits op .i64 x y):=Hh _
theorem GiA{i:Nat}(h:64<=i):bt x i=false:=by
 unfold bt;exact BitVec.getLsbD_of_ge _ _ h
theorem M5(i:Nat):bt 0 i=false:=by
 unfold bt;simp
theorem Fb(h:qP:=by unfold Er;omega):qP:=h
theorem RF(hx:Er x):x=0↔∀ i,i<64->bt x i=false:=by
 constructor
 ·rintro rfl i _;exact M5 i
 ·intro h;refine DT hx Fb λi hi => ?_;rw [h i hi,M5]
theorem DVA(n:Nat)(i:Nat)(hn:n<18446744073709551616):bt (n:Int) i=n.testBit i:=by
 unfold bt;rw [BitVec.ofInt_natCast,BitVec.getLsbD_ofNat];by_cases hi:i<64
 ·simp [hi]
 ·simp [hi];exact (Nat.testBit_lt_two_pow (Nat.lt_of_lt_of_le hn (Nat.pow_le_pow_right (n:=2) AA (show 64<=i by omega))))
theorem Js(k i:Nat)(hk:k<63):bt ((2^k:Nat):Int) i=decide (i=k):=by
 rw [DVA _ _ (Nat.lt_of_lt_of_le (Nat.pow_lt_pow_right AA (show k<64 by omega)) AB)];rw [Nat.testBit_two_pow];rw [Bool.eq_iff_iff];simp [eq_comm]

def Ev(c:Int):Nat:=if c<32\/126<c then 0 else if 48<=c/\c<=57 then 1 else if 65<=c/\c<=90 then 2 else if 97<=c/\c<=122 then 3 else if c=32 then 5 else 6
def DxA(c:UInt8):Nat:=Ev (c.toNat:Int)
theorem Sg(h:qP:=by
 unfold Ev
 repeat' split
 all_goals omega):qP:=h
theorem Ir(c:Int):Ev c<=6:=by
 exact Sg
def CT(l:List Int):Int:=l.foldl (λa c=>bits .or .i64 a ((2^Ev c:Nat):Int)) 0
theorem EdA(l:List Int)(a:Int)(i:Nat):bt (l.foldl (λa c=>bits .or .i64 a ((2^Ev c:Nat):Int)) a) i=(bt a i||l.any λc=>decide (Ev c=i)):=by
 induction l generalizing a with
 |nil=>simp
 |cons c l ih =>
  rw [List.foldl_cons,ih,Ux,Js _ _ (by have:=Ir c;omega),List.any_cons,Bool.or_assoc];congr 2;rw [Bool.eq_iff_iff];simp [eq_comm]
theorem Xu(l:List Int)(i:Nat):bt (CT l) i=l.any λc=>decide (Ev c=i):=by
 unfold CT;rw [EdA,M5,Bool.false_or]
theorem DgA(l:List Int):Er (CT l):=by
 unfold CT
 rcases List.eq_nil_or_concat l with rfl|⟨m,c,rfl⟩
 ·simp [Er]
 ·rw [List.concat_eq_append,List.foldl_append,List.foldl_cons,List.foldl_nil];exact CJ _ _ _
def CM(p q:Int):Bool:=decide (bits .andNot .i64 p q=0)
theorem Iy{p:Int} : CM p q=true↔∀ i,i<64->bt p i=true->bt q i=true:=by
 unfold CM;rw [decide_eq_true_eq,RF (CJ _ _ _)];refine forall_congr' λi=>forall_congr' λhi => ?_;rw [CUA _ _ _ hi];cases bt p i<;>cases bt q i<;>simp
theorem Hg{l:List Int} : CM (CT l) q=true↔∀ c∈l,bt q (Ev c)=true:=by
 rw [Iy];constructor
 ·intro h c hc;refine h _ (by have:=Ir c;omega) ?_;rw [Xu,List.any_eq_true];exact ⟨c,hc,AC⟩
 ·intro h i _ hi;rw [Xu,List.any_eq_true] at hi;obtain ⟨c,hc,he⟩:=hi;rw [decide_eq_true_eq] at he;rw [<-he];exact h c hc
theorem DSA(i:Nat):bt 110 i=decide (i=1\/i=2\/i=3\/i=5\/i=6):=by
 by_cases h:i<64
 ·have H:(List.range 64).all (λi=>bt 110 i==decide (i=1\/i=2\/i=3\/i=5\/i=6))=true:=AB;rw [List.all_eq_true] at H;exact eq_of_beq (H i BU)
 ·rw [GiA AA];rw [Bool.eq_iff_iff];simp;omega
theorem MS(h:qP:=by
 rw [Bool.eq_iff_iff,decide_eq_true_eq,decide_eq_true_eq]
 repeat' split
 all_goals omega):qP:=h
theorem Mu(c:Int):bt 110 (Ev c)=C4 c:=by
 rw [DSA];unfold Ev C4;exact MS
theorem XQ{c:Int} : c∈bs s↔∃ u∈s.data.toList,(u.toNat:Int)=c:=by
 unfold bs;rw [List.mem_map]
theorem WN(s:BA):Ca s=(decide (s.size<=200)&&CM (CT (bs s)) 110):=by
 unfold Ca;congr 1;rw [Bool.eq_iff_iff,Hg,List.all_eq_true];refine forall_congr' λc=>forall_congr' λ_ => ?_;rw [Mu]

structure Sh where
 least:Int
 most:Int
 cls:Int
 b:BA
 e:BA
abbrev Sp(x:Sh):Array Value:=List.toArray [.int .i64 x.least,.int .i64 x.most,.int .i64 x.cls,.string x.b,.string x.e]
abbrev Sq(x:Sh):Value:=.agg (Sp x)
def H3A:Sh:=⟨1,0,0,⟨#[]⟩,⟨#[]⟩⟩
def Sh.full:Sh:=⟨0,200,110,⟨#[]⟩,⟨#[]⟩⟩
def Sh.B(a:Sh):List UInt8:=a.b.data.toList
def Sh.E(a:Sh):List UInt8:=a.e.data.toList
def BL(a:Sh):Int:=bits .and .i64 a.cls 110
def AQ(a:Sh):Int:=max (max (max 0 a.least) a.b.size) a.e.size
def BE(a:Sh):Int:=min a.most 200
theorem G6(a:Sh):a.B.length=a.b.size:=rfl
theorem F1(a:Sh):a.E.length=a.e.size:=rfl
def okU(o:Int)(c:UInt8):Prop:=bt o (DxA c)=true
theorem Xa{a:Sh}{c:UInt8} : okU (BL a) c↔bt a.cls (DxA c)=true/\C4 (c.toNat:Int)=true:=by
 unfold okU BL;rw [CN,Bool.and_eq_true];unfold DxA;rw [Mu]
def InS(a:Sh)(l:List UInt8):Prop:=AQ a<=l.length/\l.length<=BE a/\(∀ c∈l,okU (BL a) c)/\a.B <+: l/\a.E <:+ l
def EA(p s:BA):Bool:=p.data.toList.isPrefixOf s.data.toList
def EB(p s:BA):Bool:=p.data.toList.isSuffixOf s.data.toList
def Aj(a:Sh)(s:BA):Bool :=
 Ca s&&decide (a.least<=s.size)&&decide ((s.size:Int)<=a.most)&&CM (CT (bs s)) a.cls&&EA a.b s&&EB a.e s
theorem Cf(a:Sh)(s:BA):Aj a s=true↔InS a s.data.toList:=by
 unfold Aj InS EA EB AQ BE;simp only [Bool.and_eq_true,decide_eq_true_eq,List.isPrefixOf_iff_prefix,List.isSuffixOf_iff_suffix];rw [WN,Bool.and_eq_true,decide_eq_true_eq,Hg,Hg];have hl:s.data.toList.length=s.size:=rfl;have e1:(∀ c∈s.data.toList,okU (BL a) c)↔(∀ c∈bs s,bt 110 (Ev c)=true)/\∀ c∈bs s,bt a.cls (Ev c)=true:=by
  constructor
  ·intro h;refine ⟨λc hc => ?_,λc hc => ?_⟩
   all_goals
    obtain ⟨u,hu,rfl⟩:=XQ.1 hc;have:=Xa.1 (h u hu)
   ·rw [Mu];exact this.2
   ·exact this.1
  ·rintro ⟨h1,h2⟩ u hu;have hc:=XQ.2 ⟨u,hu,rfl⟩;refine Xa.2 ⟨h2 _ hc,?_⟩;rw [<-Mu];exact h1 _ hc
 rw [e1];constructor
 ·rintro ⟨⟨⟨⟨⟨⟨h1,h2⟩,h3⟩,h4⟩,h5⟩,h6⟩,h7⟩;have k1:=h6.length_le;have k2:=h7.length_le
  change a.b.size<=_ at k1
  change a.e.size<=_ at k2
  refine ⟨AA,AA,⟨h2,h5⟩,h6,h7⟩
 ·rintro ⟨h1,h2,⟨h3,h4⟩,h5,h6⟩;exact ⟨⟨⟨⟨⟨⟨AA,h3⟩,AA⟩,AA⟩,h4⟩,h5⟩,h6⟩
def XG(a:Sh)(n:Nat):Bool:=decide (a.B.drop (n-a.E.length)=a.E.take (a.B.length+a.E.length-n))
def AT(a:Sh):Bool :=
 decide (BE a<AQ a)||!CM (CT (bs a.b)) (BL a)||!CM (CT (bs a.e)) (BL a) ||
  (if BL a=0 then decide (0<AQ a) else decide (BE a<a.b.size+a.e.size)&&!((List.range 201).any λn=>decide (AQ a<=n/\(n:Int)<=BE a)&&XG a n))
theorem DWA{o:Int}(h:o=0)(c:UInt8):¬okU o c:=by
 subst h;unfold okU;rw [M5];simp
theorem CGA{a:Sh}(h:BL a≠0):∃ c:UInt8,okU (BL a) c:=by
 by_cases h1:∃ i,i<64/\bt (BL a) i=true
 ·obtain ⟨i,_,hb⟩:=h1;have hb':=hb;unfold BL at hb';rw [CN,Bool.and_eq_true,DSA,decide_eq_true_eq] at hb';obtain ⟨_,rfl|rfl|rfl|rfl|rfl⟩:=hb'
  ·exact ⟨48,hb⟩
  ·exact ⟨65,hb⟩
  ·exact ⟨97,hb⟩
  ·exact ⟨32,hb⟩
  ·exact ⟨33,hb⟩
 ·exfalso;refine h ((RF (CJ _ _ _)).2 λi hi => ?_);cases hb:bt (bits .and .i64 a.cls 110) i
  ·rfl
  ·exact absurd ⟨i,hi,hb⟩ h1
theorem BVA(h:qP:=by
 intro h c hc;obtain ⟨u,hu,rfl⟩:=XQ.1 hc;exact h u hu):qP:=h
theorem UH(h:qP:=by
 rw [Hg];constructor
 ·intro h u hu;exact h _ (XQ.2 ⟨u,hu,rfl⟩)
 ·exact BVA):qP:=h
theorem CPA{a:Sh} : CM (CT (bs a.b)) (BL a)=true↔∀ c∈a.B,okU (BL a) c:=by
 exact UH
theorem COA{a:Sh} : CM (CT (bs a.e)) (BL a)=true↔∀ c∈a.E,okU (BL a) c:=by
 exact UH
theorem DpA{x y l:List UInt8}(h1:x <+: l)(h2:y <:+ l)(hl:l.length<=x.length+y.length):x.drop (l.length-y.length)=y.take (x.length+y.length-l.length):=by
 obtain ⟨t,rfl⟩:=h1;obtain ⟨u,hu⟩:=h2;have O:=congrArg List.length hu;simp only [List.length_append] at O hl;have h3:((x++t).drop ((x++t).length-y.length))=y:=by
  rw [<-hu];simp only [List.length_append];rw [show u.length+y.length-y.length=u.length by omega,List.drop_left]
 have h4:(x++t).length-y.length<=x.length:=by
  simp only [List.length_append];omega
 rw [List.drop_append_of_le_length h4] at h3;have h5:(x.drop ((x++t).length-y.length)).length=x.length+y.length-(x++t).length:=by
  rw [List.length_drop];simp only [List.length_append];omega
 rw [<-h5];generalize hz:x.drop ((x++t).length-y.length)=z at h3;rw [<-h3,List.take_left]
theorem YA{x y:List UInt8}(h1:x.length<=n)(_h2:y.length<=n)(hn:n<=x.length+y.length)(h:x.drop (n-y.length)=y.take (x.length+y.length-n)):x <+: x++y.drop (x.length+y.length-n)/\y <:+ x++y.drop (x.length+y.length-n)/\(x++y.drop (x.length+y.length-n)).length=n:=by
 refine ⟨List.prefix_append _ _,⟨x.take (n-y.length),?_⟩,?_⟩
 ·generalize hz:y.drop (x.length+y.length-n)=z;have hy:y=x.drop (n-y.length)++z:=(by rw [h,<-hz,List.take_append_drop]);generalize n-y.length=k at hy;rw [hy,<-List.append_assoc,List.take_append_drop]
 ·rw [List.length_append,List.length_drop];omega
theorem Uo{x y:List UInt8}(c:UInt8)(h:x.length+y.length<=n):x <+: x++(List.replicate (n-x.length-y.length) c++y)/\y <:+ x++(List.replicate (n-x.length-y.length) c++y)/\(x++(List.replicate (n-x.length-y.length) c++y)).length=n:=by
 refine ⟨List.prefix_append _ _,?_,?_⟩
 ·rw [<-List.append_assoc];exact List.suffix_append _ _
 ·simp only [List.length_append,List.length_replicate];omega
theorem Ol(h:qP:=by
 refine h _ ⟨by rw [k3];omega,by rw [k3];omega,?_,k1,k2⟩;intro u hu;rw [List.mem_append,List.mem_append,List.mem_replicate] at hu
 rcases hu with hu|⟨_,rfl⟩|hu
 ·exact h2 u hu
 ·exact hc
 ·exact h3 u hu):qP:=h
theorem DQ(h:qP:=by unfold AQ;omega):qP:=h
theorem Eb(h:qP:=by rw [k3];omega):qP:=h
theorem Bs(a:Sh):AT a=true↔∀ l,¬InS a l:=by
 have Y:(a.b.size:Int)<=AQ a/\(a.e.size:Int)<=AQ a/\0<=AQ a:=DQ;have U:BE a<=200:=(by unfold BE;omega);constructor
 ·intro h l O;obtain ⟨h1,h2,h3,h4,h5⟩:=O;unfold AT at h;simp only [Bool.or_eq_true,decide_eq_true_eq,Bool.not_eq_true'] at h
  rcases h with ((h|h)|h)|h
  ·omega
  ·rw [CPA.2 λc hc=>h3 c (h4.subset hc)] at h;cases h
  ·rw [COA.2 λc hc=>h3 c (h5.subset hc)] at h;cases h
  ·split at h
   next ho =>
    have hl:l=[]:=by
     cases l with
     |nil=>rfl
     |cons c l=>exact absurd (h3 c List.mem_cons_self) (DWA ho c)
    subst hl;simp at h h1;omega
   next ho =>
    simp only [Bool.and_eq_true,decide_eq_true_eq,Bool.not_eq_true'] at h;obtain ⟨h6,h7⟩:=h;rw [List.any_eq_false] at h7;refine h7 l.length (by rw [List.mem_range];omega) ?_;simp only [Bool.and_eq_true,decide_eq_true_eq,XG];exact ⟨⟨h1,h2⟩,DpA h4 h5 (by rw [G6,F1];omega)⟩
 ·intro h;cases he:AT a
  ·exfalso;unfold AT at he;simp only [Bool.or_eq_false_iff,decide_eq_false_iff_not,Bool.not_eq_false'] at he;obtain ⟨⟨⟨h1,h2⟩,h3⟩,h4⟩:=he;rw [CPA] at h2;rw [COA] at h3;split at h4
   next ho =>
    rw [decide_eq_false_iff_not] at h4;refine h [] ⟨AI,AI,AC,?_,?_⟩
    ·rw [List.eq_nil_of_length_eq_zero (by rw [G6];omega:a.B.length=0)];exact List.nil_prefix
    ·rw [List.eq_nil_of_length_eq_zero (by rw [F1];omega:a.E.length=0)];exact List.nil_suffix
   next ho =>
    rw [Bool.and_eq_false_iff,decide_eq_false_iff_not,Bool.not_eq_false'] at h4
    rcases h4 with h4|h4
    ·obtain ⟨c,hc⟩:=CGA ho;obtain ⟨n,hn⟩:∃ n:Nat,(n:Int)=max (AQ a) (a.b.size+a.e.size):=⟨(max (AQ a) (a.b.size+a.e.size)).toNat,AA⟩;obtain ⟨k1,k2,k3⟩:=Uo (x:=a.B) (y:=a.E) (n:=n) c (by rw [G6,F1];omega);exact Ol
    ·rw [List.any_eq_true] at h4;obtain ⟨n,_,h5⟩:=h4;simp only [Bool.and_eq_true,decide_eq_true_eq,XG] at h5;obtain ⟨⟨h6,h7⟩,h8⟩:=h5;by_cases hn:n<=a.B.length+a.E.length
     ·obtain ⟨k1,k2,k3⟩:=YA (x:=a.B) (y:=a.E) (n:=n) (by rw [G6];omega) (by rw [F1];omega) hn h8;refine h _ ⟨Eb,Eb,?_,k1,k2⟩;intro u hu;rw [List.mem_append] at hu
      rcases hu with hu|hu
      ·exact h2 u hu
      ·exact h3 u (List.mem_of_mem_drop hu)
     ·obtain ⟨c,hc⟩:=CGA ho;obtain ⟨k1,k2,k3⟩:=Uo (x:=a.B) (y:=a.E) (n:=n) c AA;exact Ol
  ·rfl

def Hu(cls:Int):Nat->Int->Int
 |0,f=>f
 |k+1,f=>Hu cls k (if bt cls (Ev (32+k:Nat))=true then ((32+k:Nat):Int) else f)
theorem Yn(cls:Int):∀ (k:Nat) (f:Int),(bt cls (Ev f)=true\/∃ j:Nat,j<k/\bt cls (Ev (32+j:Nat))=true)->bt cls (Ev (Hu cls k f))=true
 |0,f,h=>by
  rcases h with h|⟨j,hj,_⟩
  ·exact h
  ·omega
 |k+1,f,h=>by
  unfold Hu;refine Yn cls k _ ?_;by_cases hk:bt cls (Ev (32+k:Nat))=true
  ·left;rw [if_pos hk];exact hk
  ·rw [if_neg hk]
   rcases h with h|⟨j,hj,hb⟩
   ·exact Or.inl h
   ·right;refine ⟨j,?_,hb⟩
    rcases Nat.lt_or_ge j k with h1|h1
    ·exact h1
    ·exfalso;rw [show j=k by omega] at hb;exact hk hb
theorem J7(cls:Int):∀ (k:Nat) (f:Int),k<=95->32<=f->f<=126->32<=Hu cls k f/\Hu cls k f<=126
 |0,f,_,h1,h2=>⟨h1,h2⟩
 |k+1,f,hk,h1,h2=>by
  unfold Hu;split
  ·exact J7 cls k _ AA AA AA
  ·exact J7 cls k _ AA h1 h2
def JQ(a:Sh):UInt8:=UInt8.ofNat (Hu a.cls 95 32).toNat
theorem WU(a:Sh):((JQ a).toNat:Int)=Hu a.cls 95 32:=by
 have h:=J7 a.cls 95 32 AA AA AA;unfold JQ;rw [UInt8.toNat_ofNat'];omega
theorem E2A{a:Sh}{c:UInt8}(h:okU (BL a) c):okU (BL a) (JQ a):=by
 obtain ⟨h1,h2⟩:=Xa.1 h;rw [Xa];have hr:=J7 a.cls 95 32 AA AA AA;constructor
 ·unfold DxA;rw [WU];refine Yn _ _ _ (Or.inr ⟨c.toNat-32,?_,?_⟩)
  ·unfold C4 at h2;rw [decide_eq_true_eq] at h2;omega
  ·unfold C4 at h2;rw [decide_eq_true_eq] at h2;rw [show 32+(c.toNat-32)=c.toNat by omega];exact h1
 ·rw [WU];unfold C4;rw [decide_eq_true_eq];exact hr
def Fn(a:Sh)(n:Nat):Option (List UInt8) :=
 if n<a.B.length\/n<a.E.length then none
 else
  let s:=a.B++List.replicate (n-a.E.length-a.B.length) (JQ a)
  let both:=s.length+a.E.length-n
  if s.drop (s.length-both)=a.E.take both then some (s++a.E.drop both) else none
theorem Xv{a:Sh}{l:List UInt8}(h:InS a l)(hn:n=l.length\/(n<=l.length/\a.B.length+a.E.length<n))(h1:AQ a<=n):∃ s,Fn a n=some s/\InS a s:=by
 obtain ⟨i1,i2,U,Z,Y⟩:=h;have hL:(a.B.length:Int)<=AQ a/\(a.E.length:Int)<=AQ a:=(by unfold AQ;rw [G6,F1];omega);unfold Fn;rw [if_neg AA];simp only;by_cases hc:a.B.length+a.E.length<=n
 ·have e1:(a.B++List.replicate (n-a.E.length-a.B.length) (JQ a)).length=n-a.E.length:=by
   rw [List.length_append,List.length_replicate];omega
  rw [e1,show n-a.E.length+a.E.length-n=0 by omega,Nat.sub_zero,List.take_zero,List.drop_zero,List.drop_of_length_le AA,if_pos rfl];refine ⟨_,rfl,?_⟩;obtain ⟨k1,k2,k3⟩:=Uo (x:=a.B) (y:=a.E) (n:=n) (JQ a) hc;rw [List.append_assoc,show n-a.E.length-a.B.length=n-a.B.length-a.E.length by omega];refine ⟨Eb,Eb,?_,k1,k2⟩;intro u hu;rw [List.mem_append,List.mem_append,List.mem_replicate] at hu
  rcases hu with hu|⟨hz,rfl⟩|hu
  ·exact U u (Z.subset hu)
  ·cases l with
   |nil=>simp at hn;omega
   |cons c l=>exact E2A (U c List.mem_cons_self)
  ·exact U u (Y.subset hu)
 ·have hl:n=l.length:=AA;rw [show n-a.E.length-a.B.length=0 by omega,List.replicate_zero,List.append_nil];have O:=DpA Z Y AA;rw [<-hl] at O;rw [show a.B.length-(a.B.length+a.E.length-n)=n-a.E.length by omega,if_pos O];refine ⟨_,rfl,?_⟩;obtain ⟨k1,k2,k3⟩:=YA (x:=a.B) (y:=a.E) (n:=n) AA AA AA O;refine ⟨Eb,Eb,?_,k1,k2⟩;intro u hu;rw [List.mem_append] at hu
  rcases hu with hu|hu
  ·exact U u (Z.subset hu)
  ·exact U u (Y.subset (List.mem_of_mem_drop hu))
def FUA(a:Sh):Int:=min (BE a) (max (max a.least 0) (a.b.size+a.e.size+1))
theorem Yc{a:Sh}(h:∀ n:Nat,max a.least 0<=n->(n:Int)<=FUA a->∀ s,Fn a n=some s->¬InS a s):AT a=true:=by
 rw [Bs];intro l hl;have O:=hl;obtain ⟨i1,i2,i3,i4,i5⟩:=hl;have Z:(a.b.size:Int)<=AQ a/\(a.e.size:Int)<=AQ a/\max a.least 0<=AQ a:=DQ;have U:AQ a=max a.least 0\/AQ a=a.b.size\/AQ a=a.e.size:=DQ;have hB:=G6 a;have Y:=F1 a;by_cases hm:(l.length:Int)<=max (max a.least 0) (a.b.size+a.e.size+1)
 ·obtain ⟨s,h1,h2⟩:=Xv O (n:=l.length) (Or.inl rfl) i1;exact h l.length AA (by unfold FUA;omega) s h1 h2
 ·obtain ⟨n,hn⟩:∃ n:Nat,(n:Int)=max (max a.least 0) (a.b.size+a.e.size+1):=⟨(max (max a.least 0) (a.b.size+a.e.size+1)).toNat,AA⟩;obtain ⟨s,h1,h2⟩:=Xv O (n:=n) (Or.inr ⟨AA,AA⟩) AA;exact h n AA (by unfold FUA;omega) s h1 h2
theorem Eg{a:Sh}{s:List UInt8}(h:InS a s):AT a=false:=by
 cases he:AT a
 ·rfl
 ·exact absurd h ((Bs a).1 he s)
def ES:List UInt8->List UInt8->List UInt8
 |x::l,y::m=>if x=y then x::ES l m else []
 |_,_=>[]
def Hv(l m:List UInt8):List UInt8:=(ES l.reverse m.reverse).reverse
theorem FK:∀ l m:List UInt8,ES l m <+: l
 |[],_=>by simp [ES]
 |_::_,[]=>by simp [ES]
 |x::l,y::m=>by
  unfold ES;split
  ·rw [List.cons_prefix_cons];exact ⟨rfl,FK l m⟩
  ·exact List.nil_prefix
theorem Hw:∀ l:List UInt8,ES l l=l
 |[]=>rfl
 |x::l=>by unfold ES;rw [if_pos rfl,Hw l]
theorem J8(l m:List UInt8):Hv l m <:+ l:=by
 have h:=FK l.reverse m.reverse;rw [<-List.reverse_suffix,List.reverse_reverse] at h;exact h
theorem NQ(l:List UInt8):Hv l l=l:=by
 unfold Hv;rw [Hw,List.reverse_reverse]
def bA(l:List UInt8):BA:=⟨l.toArray⟩
theorem He(s:BA):bA s.data.toList=s:=by
 cases s;simp [bA]
theorem EH(l:List UInt8):(bA l).size=l.length:=rfl
def BW(a b:Sh):Sh :=
 if AT a=true then (if AT b=true then H3A else b)
 else if AT b=true then a
 else ⟨min (AQ a) (AQ b),max (BE a) (BE b),bits .or .i64 (BL a) (BL b),bA (ES a.B b.B),bA (Hv a.E b.E)⟩
def CY(a b:Sh):Sh:=⟨max (AQ a) (AQ b),min (BE a) (BE b),bits .and .i64 (BL a) (BL b),if a.b.size<b.b.size then b.b else a.b,if a.e.size<b.e.size then b.e else a.e⟩
def DN(a b:Sh):Sh :=
 if AT a=true\/AT b=true then H3A
 else if EA a.b (CY a b).b=true/\EA b.b (CY a b).b=true/\EB a.e (CY a b).e=true/\EB b.e (CY a b).e=true/\AT (CY a b)=false then CY a b else H3A
def Dr(a b:Sh):Bool :=
 AT a||(!AT b&&decide (AQ b<=AQ a)&&decide (BE a<=BE b)&&CM (BL a) (BL b)&&EA b.b a.b&&EB b.e a.e)
theorem Fq : EA p s=true↔p.data.toList <+: s.data.toList:=by
 unfold EA;rw [List.isPrefixOf_iff_prefix]
theorem Fo : EB p s=true↔p.data.toList <:+ s.data.toList:=by
 unfold EB;rw [List.isSuffixOf_iff_suffix]
theorem Mf:AT H3A=true:=by
 rw [Bs];rintro l ⟨h1,h2,_⟩;have e1:AQ H3A=1:=AB;have e2:BE H3A=0:=AB;omega
theorem Xg{a:Sh}(h:a.cls=x)(i:Nat):bt (BL a) i=(bt x i&&bt 110 i):=by
 unfold BL;rw [h,CN]
theorem Pt{a b:Sh}{x:Sh}(hx:x.cls=bits .or .i64 (BL a) (BL b))(c:UInt8):okU (BL x) c↔okU (BL a) c\/okU (BL b) c:=by
 unfold okU;rw [Xg hx,Ux];unfold BL;rw [CN,CN];simp only [Bool.and_eq_true,Bool.or_eq_true];constructor
 ·rintro ⟨h1,_⟩;exact h1
 ·rintro (h|h)
  ·exact ⟨Or.inl h,h.2⟩
  ·exact ⟨Or.inr h,h.2⟩
theorem Wj{a b:Sh}{l:List UInt8}(h:InS a l):InS (BW a b) l:=by
 unfold BW;rw [Eg h];simp only [Bool.false_eq_true,if_false];cases hb:AT b
 ·simp only [Bool.false_eq_true,if_false];obtain ⟨h1,h2,h3,h4,h5⟩:=h;have k1:=(FK a.B b.B);have k2:=(J8 a.E b.E);have k3:=k1.length_le;have k4:=k2.length_le;rw [G6] at k3;rw [F1] at k4;refine ⟨?_,?_,λc hc=>(Pt rfl c).2 (Or.inl (h3 c hc)),k1.trans h4,k2.trans h5⟩
  ·show max (max (max 0 (min (AQ a) (AQ b))) ((bA (ES a.B b.B)).size:Int)) ((bA (Hv a.E b.E)).size:Int)<=_;rw [EH,EH];have:(a.b.size:Int)<=AQ a/\(a.e.size:Int)<=AQ a:=DQ;omega
  ·show _<=min (max (BE a) (BE b)) 200;have:BE a<=200:=(by unfold BE;omega);omega
 ·simpa using h

theorem Nk(n s:Int):Bg (Bg n s).1 (Bg n s).2=Bg n s:=by
 unfold Bg;by_cases h:Dz n s=true
 ·rw [if_pos h];simp [h]
 ·rw [if_neg h];simp
theorem OS(n s:Int):mu (Bg n s).1 (Bg n s).2=mu n s:=by
 unfold mu;rw [Nk]
structure Rg where
 ln:Int
 ls:Int
 hn:Int
 hs:Int
abbrev Rp(x:Rg):Array Value:=List.toArray [.int .i64 x.ln,.int .i64 x.ls,.int .i64 x.hn,.int .i64 x.hs]
abbrev Rq(x:Rg):Value:=.agg (Rp x)
def Rg.lo(r:Rg):Int:=mu r.ln r.ls
def Rg.hi(r:Rg):Int:=mu r.hn r.hs
def IBA:Rg:=⟨1,0,0,0⟩
def Rg.full:Rg:=⟨-1000000000000000,0,1000000000000000,0⟩
def BF(r:Rg):Bool:=decide (r.hi<r.lo)
def CI(r:Rg):Rg:=if BF r=true then IBA else ⟨(Bg r.ln r.ls).1,(Bg r.ln r.ls).2,(Bg r.hn r.hs).1,(Bg r.hn r.hs).2⟩
def BD(r:Rg)(n s:Int):Bool:=Dz n s&&decide (r.lo<=mu n s)&&decide (mu n s<=r.hi)
def CU(n s n' s':Int):Int × Int:=if mu n' s'<mu n s then (n',s') else (n,s)
def Bm(n s n' s':Int):Int × Int:=if mu n s<mu n' s' then (n',s') else (n,s)
theorem WS(n s n' s':Int):mu (CU n s n' s').1 (CU n s n' s').2=min (mu n s) (mu n' s'):=by
 unfold CU;split<;>simp only<;>omega
theorem Rk(n s n' s':Int):mu (Bm n s n' s').1 (Bm n s n' s').2=max (mu n s) (mu n' s'):=by
 unfold Bm;split<;>simp only<;>omega
def CiA(x y:Rg):Rg:=⟨(CU x.ln x.ls y.ln y.ls).1,(CU x.ln x.ls y.ln y.ls).2,(Bm x.hn x.hs y.hn y.hs).1,(Bm x.hn x.hs y.hn y.hs).2⟩
def DQA(x y:Rg):Rg:=⟨(Bm x.ln x.ls y.ln y.ls).1,(Bm x.ln x.ls y.ln y.ls).2,(CU x.hn x.hs y.hn y.hs).1,(CU x.hn x.hs y.hn y.hs).2⟩
def Cc(a b:Rg):Rg:=if BF (CI a)=true then CI b else if BF (CI b)=true then CI a else CiA (CI a) (CI b)
def NB(a b:Rg):Rg:=CI (DQA (CI a) (CI b))
def F5(a b:Rg):Bool:=BF a||(decide (b.lo<=a.lo)&&decide (a.hi<=b.hi))
theorem Fd(r:Rg):BF (CI r)=BF r:=by
 unfold CI;cases h:BF r
 ·rw [if_neg AC];unfold BF Rg.lo Rg.hi at h|-;simp only;rw [OS,OS];exact h
 ·rw [if_pos rfl]
  decide
theorem G9{r:Rg}(h:BF r=false):(CI r).lo=r.lo/\(CI r).hi=r.hi:=by
 unfold CI;rw [h,if_neg AC];exact ⟨OS _ _,OS _ _⟩
theorem Ce{r:Rg}{n s:Int} : BD r n s=true↔Dz n s=true/\r.lo<=mu n s/\mu n s<=r.hi:=by
 unfold BD;simp only [Bool.and_eq_true,decide_eq_true_eq,and_assoc]
theorem Dw{r:Rg}(h:BF r=true)(n s:Int):BD r n s=false:=by
 rw [Bool.eq_false_iff];intro hc;rw [Ce] at hc;unfold BF at h;rw [decide_eq_true_eq] at h;omega
theorem Ww(x y:Rg):(CiA x y).lo=min x.lo y.lo/\(CiA x y).hi=max x.hi y.hi:=⟨WS _ _ _ _,Rk _ _ _ _⟩
def CQ(l h:Int):Int × Int:=if h<l then (1,0) else (l,h)
def Cb(a b:Int × Int):Int × Int:=if a.2<a.1 then CQ b.1 b.2 else if b.2<b.1 then a else (min a.1 b.1,max a.2 b.2)
def CZ(a b:Int × Int):Int × Int:=CQ (max a.1 b.1) (min a.2 b.2)
def inP(a:Int × Int)(n:Int):Prop:=a.1<=n/\n<=a.2
theorem Xl(l h n:Int):inP (CQ l h) n↔l<=n/\n<=h:=by
 unfold CQ inP;split<;>simp only<;>omega
theorem M2(a b:Int × Int)(n:Int):inP (CZ a b) n↔inP a n/\inP b n:=by
 unfold CZ;rw [Xl];unfold inP;omega

def CBA(y:Val):Prop:=y.cols=[]/\y.rows=[]/\y.s.size<=4294967296
theorem CV.flat{S:NP}{y:Val}(hy:CBA y)(hd:0<d):CV w S d y (En y none 0 none 0):=by
 obtain ⟨h1,h2,h3⟩:=hy;refine ⟨none,0,none,0,rfl,⟨hd,by rw [h1];exact Al,by rw [h2];exact Al⟩,RV.mk h3 (by rw [h1];exact Strs.nil) (by rw [h2];exact Rows.nil)⟩
theorem VL.flat{w:World}{S:NP}{d:Nat}(hd:0<d):∀ (ys:List Val),(∀ y∈ys,CBA y)->VL (CV w S d) (ys.flatMap λy=>En y none 0 none 0) ys
 |[],_=>VL.nil _
 |y::ys,h=>by
  have h1:=VL.snoc (VL.nil (CV w S d)) (cs:=En y none 0 none 0) (y:=y) (CV.flat (w:=w) (S:=S) (h y List.mem_cons_self) hd).one.1 (CV.flat (h y List.mem_cons_self) hd);have h2:=VL.flat (w:=w) (S:=S) hd ys λz hz=>h z (List.mem_cons_of_mem _ hz)
  simpa using h1.append h2
theorem Row.flat{ys:List Val}(h:Blk w g t cs)(hc:cs.toList=ys.flatMap λy=>En y none 0 none 0)(hy:∀ y∈ys,CBA y)(hd:0<d)(hl:ys.length<=4294967296):Row w (λb=>b=g) d (some ⟨g,0,none⟩) ys:=by
 have h1:=h.rd;rw [hc] at h1;exact RVs.iff.2 ⟨hl,_,h1,VL.flat hd ys hy⟩
theorem Strs.of_blk{l:List BA}(h:Blk w g t cs)(hc:cs.toList=l.map Value.string)(hl:l.length<=4294967296)(hs:∀ s∈l,s.size<=4294967296):Strs w (λb=>b=g) (some ⟨g,0,none⟩) l:=by
 have h1:=h.rd;rw [hc] at h1;exact ⟨h1,hl,hs⟩
def HkA(w:World)(t:Look)(e:Ending)(J:World):Prop:=∃ A c B e',e=.returned (.agg #[.string t.name,.slice A t.cols.length c,.slice B t.rows.length e'])/\(t.cols.length<=c/\t.rows.length<=e')/\RL J (BO w) 1 t A B/\Ext w J

theorem Fw(l:List BA)(A:OA)(ca:Nat)(w:World)(S:NP)(hA:Strs w S A l) :
  Cl 125 #[.slice A l.length ca] w (Ae w (decide l.Nodup)):=by
 have hal:=hA.2.1;have HA:=Hd hA;clear hA;have hmm:=@run_makeMap prog
 go_enter func125,ntmps125
 go_wp2;clear hmm;have Z:=Hd (show SetIs (w.alloc (.map #[] 0)) w.heap.size [] from IHA w _)
 go_loopw [9] (λi wr=>∃ (k:Nat) (ks:List BA),k<=l.length/\i=.I k/\Ext w wr/\SetIs wr w.heap.size ks/\ks.length<=k/\(ks.length=k↔(l.take k).Nodup)/\(∀ x,x∈ks↔x∈l.take k)) (λi _=>l.length-(intOf i).toNat)
 case atStart=>exact ⟨0,[],AN,rfl,(Ext.refl w).alloc _,Z.o,Al,AC,AC⟩
 case round =>
  clear Z;obtain ⟨k,ks,hk,rfl,hext,O,h1,h2,h3⟩:=hrel;obtain ⟨HE,HS,H2,H3⟩:=Hd4 hext O h2 h3;clear h2 h3;by_cases hlt:k<l.length
  ·obtain ⟨b1,o1,rfl,z1,c1⟩:=(HA.o.keep (hext.kept S)).at_ hlt;obtain ⟨J,b3,hup,U,hg',a9⟩:=O.put l[k];obtain ⟨b4,HG',Y⟩:=Hd3 U hg' a9;clear U hg' a9 hext O;go_wp2;go_roundw
   case rel =>
    have a8:l.take (k+1)=l.take k++[l[k]]:=List.take_succ_eq_append_getElem hlt;have hnd:(l.take (k+1)).Nodup↔(l.take k).Nodup/\l[k] ∉ l.take k:=by
     rw [a8,List.nodup_append];constructor
     ·rintro ⟨h1,_,h3⟩;exact ⟨h1,λh=>h3 _ h _ AC rfl⟩
     ·rintro ⟨h1,h2⟩;exact ⟨h1,AC,λa ha b hb e=>by simp at hb;subst hb;subst e;exact h2 ha⟩
    refine ⟨k+1,b3,AA,AE,HE.o.grown HG'.out (λb hb=>GQ),b4.out,?_,?_,λx => ?_⟩
    ·rcases Y.o with ⟨_,rfl⟩|⟨_,rfl⟩
     ·omega
     ·simp;omega
    ·rw [hnd,<-H2.o,<-H3.o]
     rcases Y.o with ⟨hm,rfl⟩|⟨hn,rfl⟩
     ·constructor
      ·intro h;omega
      ·rintro ⟨_,h⟩;exact absurd hm h
     ·simp only [List.length_append,List.length_singleton];constructor
      ·intro h;exact ⟨AA,hn⟩
      ·rintro ⟨h,_⟩;omega
    ·rw [a8,List.mem_append,<-H3.o]
     rcases Y.o with ⟨hm,rfl⟩|⟨hn,rfl⟩
     ·constructor
      ·intro h;exact Or.inl h
      ·rintro (h|h)
       ·exact h
       ·simp at h;subst h;exact hm
     ·rw [List.mem_append]
   case measure=>simp [intOf];omega
  ·obtain rfl:k=l.length:=AA;have hlen:=O.len 3;have hnd:=H2.o;rw [List.take_of_length_le (Al)] at hnd;have b0:=Hd hnd;clear hnd hext O;go_wp2;go_ret;refine ⟨?_,HE.o⟩;by_cases hd:l.Nodup
   ·rw [decide_eq_true hd];have:=b0.o.2 hd;simp [this]
   ·rw [decide_eq_false hd];have:¬ks.length=l.length:=λe=>hd (b0.o.1 e);simp;omega

def GEA(l:List Int)(v:Int):Int:=Gv (λx=>decide (v=x)) l
theorem V0(A:OA)(c:Nat)(l:List Int)(v:Int)(w:World)(S:NP)(h:Ints w S A l) :
  Cl 198 #[.slice A l.length c,.I v] w (Bk w (GEA l v)):=by
 have hn:=h.2
 go_enter func198,ntmps198
 go_wp2
 go_loop [8] (λi=>∃ k:Nat,k<=l.length/\i=.I k/\∀ j (h:j<l.length),j<k->(λx=>decide (v=x)) l[j]=false) (λi=>l.length-(intOf i).toNat)
 case atStart=>exact ⟨0,AN,rfl,AK⟩
 case round =>
  obtain ⟨k,hk,rfl,hall⟩:=hrel;have HA:=Hd hall;clear hall;by_cases hlt:k<l.length
  ·obtain ⟨b1,o1,rfl,z1,c1⟩:=h.at_ hlt;by_cases hv:v=l[k]
   ·have ht:(v==l[k])=true:=(by simp [hv]);have HV:=Hd (show decide (v=l[k])=true by simp [hv]);clear hv;go_wp2;go_ret;exact ⟨by unfold GEA;rw [EO hlt HA.o HV.o];rfl,rfl⟩
   ·have ht:(v==l[k])=false:=(by simp [hv]);have HV:=Hd (show decide (v=l[k])=false by simp [hv]);exact Ot
  ·go_wp2;go_ret;exact ⟨by unfold GEA;rw [GG (λj hj=>HA.o j hj AA)];rfl,rfl⟩
def PA(l:List Int)(v:Int):Bool:=l.any λx=>decide (v=x)
theorem FM(A:OA)(c:Nat)(l:List Int)(v:Int)(w:World)(S:NP)(h:Ints w S A l) :
  Cl 133 #[.slice A l.length c,.I v] w (SameB w (PA l v)):=by
 have H:=Hd h;clear h
 go_enter func133,ntmps133
 go_wp2_with (go_at_call 198;refine (V0 _ _ _ _ _ S H.o).mono ?_;rintro e J ⟨rfl,rfl⟩)
 go_ret;exact ⟨by unfold PA;rw [<-G5];rfl,rfl⟩
theorem JV(x:Int)(g:Nat)(A:OA)(c:Nat)(l:List Int)(w:World)(S:NP)(hb:w.cell? ⟨g,0,none⟩=some (.slice A l.length c))(h:Ints w S A l) :
  Cl 196 #[.I x,.pointer (some ⟨g,0,none⟩)] w (SameB w (!PA l x)):=by
 have H:=Hd h;clear h
 go_enter func196,ntmps196
 go_wp2_with (go_at_call 133;refine (FM _ _ _ _ _ S H.o).mono ?_;rintro e J ⟨rfl,rfl⟩)
 go_ret;exact ⟨rfl,rfl⟩

theorem My(l m:List Int)(A B:OA)(c cb g:Nat)(w:World)(S T:NP)(hl:Ints w S A l)(hb:w.cell? ⟨g,0,none⟩=some (.slice B m.length cb))(h:Ints w T B m) :
  Cl 231 #[.slice A l.length c,.func (.func 196) #[] #[.pointer (some ⟨g,0,none⟩)]] w (Bk w (Gv (λx => !PA m x) l)):=by
 have hn:=hl.2;have HB:=Hd hb;have HS:=Hd h;clear hb h
 go_enter func231,ntmps231
 go_wp2
 go_loop [8] (λi=>∃ k:Nat,k<=l.length/\i=.I k/\∀ j (h:j<l.length),j<k->(λx => !PA m x) l[j]=false) (λi=>l.length-(intOf i).toNat)
 case atStart=>exact ⟨0,AN,rfl,AK⟩
 case round =>
  obtain ⟨k,hk,rfl,hall⟩:=hrel;have HA:=Hd hall;clear hall;by_cases hlt:k<l.length
  ·obtain ⟨b1,o1,rfl,z1,c1⟩:=hl.at_ hlt;cases hm:PA m l[k]
   ·have HM:=Hd hm;clear hm
    go_wp2_with (go_at_call 196;refine (JV _ g B cb m _ T HB.o HS.o).mono ?_;rintro e J ⟨rfl,rfl⟩;rw [HM.o])
    exact Up
   ·have HM:=Hd hm;clear hm
    go_wp2_with (go_at_call 196;refine (JV _ g B cb m _ T HB.o HS.o).mono ?_;rintro e J ⟨rfl,rfl⟩;rw [HM.o])
    exact OZ
  ·exact Ll
theorem Jw(l m:List Int)(A B:OA)(c cb g:Nat)(w:World)(S T:NP)(hl:Ints w S A l)(hb:w.cell? ⟨g,0,none⟩=some (.slice B m.length cb))(h:Ints w T B m) :
  Cl 195 #[.slice A l.length c,.func (.func 196) #[] #[.pointer (some ⟨g,0,none⟩)]] w (SameB w (l.any λx => !PA m x)):=by
 obtain ⟨HB,HS,HL⟩:=Hd3 hb h hl;clear hb h hl
 go_enter func195,ntmps195
 go_wp2_with (go_at_call 231;refine (My _ m _ B _ cb g _ S T HL.o HB.o HS.o).mono ?_;rintro e J ⟨rfl,rfl⟩)
 go_ret;exact ⟨by rw [<-G5];rfl,rfl⟩
def MG(l m:List Int):Bool:=!(l.any λx => !PA m x)
theorem VZ(l m:List Int)(A B:OA)(c cb:Nat)(w:World)(S T:NP)(hl:Ints w S A l)(h:Ints w T B m) :
  Cl 131 #[.slice A l.length c,.slice B m.length cb] w (Ae w (MG l m)):=by
 have HS:=Hd h;have HL:=Hd hl;clear h hl
 go_enter func131,ntmps131
 go_wp2_with fail
 refine (Jw l m A B c cb w.heap.size _ S T (HL.o.keep (Kept.alloc _ _ _)) ((Blk.new w 22 #[.slice B m.length cb]).cell rfl) (HS.o.keep (Kept.alloc _ _ _))).mono ?_;rintro e J ⟨rfl,rfl⟩;go_wp2;go_ret;exact ⟨rfl,(Ext.refl w).alloc _⟩
theorem Sr(h:qP:=by
 go_wp2;go_ret;exact ⟨rfl,HX.o⟩):qP:=h
theorem Rh(h:qP:=by
 rintro e J ⟨rfl,hx⟩;have HX:=Hd hx;clear hx;exact Sr):qP:=h
theorem Xs(l m:List Int)(A B:OA)(c cb g:Nat)(w:World)(S T:NP)(hl:Ints w S A l)(hb:w.cell? ⟨g,0,none⟩=some (.slice B m.length cb))(h:Ints w T B m) :
  Cl 130 #[.slice A l.length c,.pointer (some ⟨g,0,none⟩)] w (Ae w (MG l m)):=by
 have HS:=Hd h;have HL:=Hd hl;clear h hl
 go_enter func130,ntmps130
 go_wp2_with fail
 refine (VZ l m A B c cb _ S T HL.o HS.o).mono ?_;exact Rh
theorem XR(gs l:List Int)(A B:OA)(c cb g:Nat)(w:World)(S T:NP)(hl:Ints w S A l)(hb:w.cell? ⟨g,0,none⟩=some (.slice B gs.length cb))(h:Ints w T B gs)(hll:l.length=gs.length) :
  Cl 197 #[.slice A l.length c,.pointer (some ⟨g,0,none⟩)] w (Ae w (!Fr gs l)):=by
 obtain ⟨HS,HL,O⟩:=Hd3 h hl hll;clear h hl hll
 go_enter func197,ntmps197
 go_wp2_with fail
 refine (KI gs l B A cb c _ T S HS.o HL.o O.o).mono ?_;exact Rh

theorem ZQ(h:qP:=by
 refine ⟨k+1,by omega,by go_num,HX1.o,λj h hj => ?_⟩;by_cases hjk:j=k
 ·subst hjk;exact HQ.o
 ·exact HA.o j h (by omega)):qP:=h
theorem Us(h:qP:=by
 have HQ:=Hd hq;clear hq;go_wp2;go_roundw
 case rel =>
  exact ZQ
 case measure=>simp [intOf];omega):qP:=h
theorem M6(ls:List (List Int))(m:List Int)(A B:OA)(c cb g:Nat)(w:World)(S T:NP)(hl:RIss w S A ls)(hb:w.cell? ⟨g,0,none⟩=some (.slice B m.length cb))(h:Ints w T B m) :
  Cl 194 #[.slice A ls.length c,.func (.func 130) #[] #[.pointer (some ⟨g,0,none⟩)]] w (DG w (Gv (λl=>MG l m) ls)):=by
 have hn:=hl.1;obtain ⟨HB,HS,HLS⟩:=Hd3 hb h hl;clear hb h hl
 go_enter func194,ntmps194
 go_wp2
 go_loopw [8] (λi wr=>∃ k:Nat,k<=ls.length/\i=.I k/\Ext w wr/\∀ j (h:j<ls.length),j<k->(λl=>MG l m) ls[j]=false) (λi _=>ls.length-(intOf i).toNat)
 case atStart=>exact ⟨0,AN,rfl,Ext.refl _,AK⟩
 case round =>
  obtain ⟨k,hk,rfl,hext,hall⟩:=hrel;have HA:=Hd hall;have HE:=Hd hext;clear hall;by_cases hlt:k<ls.length
  ·obtain ⟨b1,o1,B2,c2,rfl,z1,p0,hcp,O⟩:=(HLS.o.keep (hext.kept S)).at_ hlt;have U:=Hd O;clear O hext
   go_wp2_with fail
   refine (Xs ls[k] m B2 B c2 cb g _ S T U.o (HE.o.cell HB.o) (HS.o.keep (HE.o.kept T))).mono ?_;rintro e w1 ⟨rfl,hx1⟩;have HX1:=Hd (HE.o.trans hx1);clear hx1;cases hq:(MG ls[k] m)
   ·exact Us
   ·have HF:=Hd (EO (p:=λl=>MG l m) hlt HA.o hq);exact Lc
  ·have HF:=Hd (GG (p:=λl=>MG l m) (l:=ls) (λj h=>HA.o j h AA));exact FC
theorem ST(h:qP:=by
 rintro e w1 ⟨rfl,hx1⟩;have HX1:=Hd hx1;clear hx1;go_wp2;go_ret;exact ⟨by rw [<-G5];rfl,HX1.o⟩):qP:=h
theorem Jh(ls:List (List Int))(m:List Int)(A B:OA)(c cb g:Nat)(w:World)(S T:NP)(hl:RIss w S A ls)(hb:w.cell? ⟨g,0,none⟩=some (.slice B m.length cb))(h:Ints w T B m) :
  Cl 129 #[.slice A ls.length c,.func (.func 130) #[] #[.pointer (some ⟨g,0,none⟩)]] w (Ae w (ls.any λl=>MG l m)):=by
 obtain ⟨HB,HS,HLS⟩:=Hd3 hb h hl;clear hb h hl
 go_enter func129,ntmps129
 go_wp2_with fail
 refine (M6 ls m A B c cb g _ S T HLS.o HB.o HS.o).mono ?_;exact ST

theorem NF(ls:List (List Int))(m:List Int)(A B:OA)(c cb g:Nat)(w:World)(S T:NP)(hl:RIss w S A ls)(hb:w.cell? ⟨g,0,none⟩=some (.slice B m.length cb))(h:Ints w T B m)(hll:∀ l∈ls,l.length=m.length) :
  Cl 194 #[.slice A ls.length c,.func (.func 197) #[] #[.pointer (some ⟨g,0,none⟩)]] w (DG w (Gv (λl => !Fr m l) ls)):=by
 have hn:=hl.1;obtain ⟨HB,HS,HLS,Y⟩:=Hd4 hb h hl hll;clear hll hb h hl
 go_enter func194,ntmps194
 go_wp2
 go_loopw [8] (λi wr=>∃ k:Nat,k<=ls.length/\i=.I k/\Ext w wr/\∀ j (h:j<ls.length),j<k->(λl => !Fr m l) ls[j]=false) (λi _=>ls.length-(intOf i).toNat)
 case atStart=>exact ⟨0,AN,rfl,Ext.refl _,AK⟩
 case round =>
  obtain ⟨k,hk,rfl,hext,hall⟩:=hrel;have HA:=Hd hall;have HE:=Hd hext;clear hall;by_cases hlt:k<ls.length
  ·obtain ⟨b1,o1,B2,c2,rfl,z1,p0,hcp,O⟩:=(HLS.o.keep (hext.kept S)).at_ hlt;have U:=Hd O;clear O hext
   go_wp2_with fail
   refine (XR m ls[k] B2 B c2 cb g _ S T U.o (HE.o.cell HB.o) (HS.o.keep (HE.o.kept T)) (Y.o _ (List.getElem_mem hlt))).mono ?_;rintro e w1 ⟨rfl,hx1⟩;have HX1:=Hd (HE.o.trans hx1);clear hx1;cases hq:(!Fr m ls[k])
   ·exact Us
   ·have HF:=Hd (EO (p:=λl => !Fr m l) hlt HA.o hq);exact Lc
  ·have HF:=Hd (GG (p:=λl => !Fr m l) (l:=ls) (λj h=>HA.o j h AA));exact FC
theorem Jk(ls:List (List Int))(m:List Int)(A B:OA)(c cb g:Nat)(w:World)(S T:NP)(hl:RIss w S A ls)(hb:w.cell? ⟨g,0,none⟩=some (.slice B m.length cb))(h:Ints w T B m)(hll:∀ l∈ls,l.length=m.length) :
  Cl 129 #[.slice A ls.length c,.func (.func 197) #[] #[.pointer (some ⟨g,0,none⟩)]] w (Ae w (ls.any λl => !Fr m l)):=by
 obtain ⟨HB,HS,HLS,O⟩:=Hd4 hb h hl hll;clear hll hb h hl
 go_enter func129,ntmps129
 go_wp2_with fail
 refine (NF ls m A B c cb g _ S T HLS.o HB.o HS.o O.o).mono ?_;exact ST

def Dd(cols:List BA)(set:List Int):List BA:=set.map λc=>cols.getD c.toNat ⟨#[]⟩
theorem YH(cols:List BA)(set:List Int)(A B:OA)(ca cb:Nat)(w:World)(S T:NP)(hA:Strs w S A cols)(hB:Ints w T B set)(hr:∀ c∈set,0<=c/\c<(cols.length:Int)) :
  Cl 134 #[.slice A cols.length ca,.slice B set.length cb] w (CEA w (Dd cols set)):=by
 have b7:=hA.2.1;have hbl:=hB.2;obtain ⟨HA,HB,HR⟩:=Hd3 hA hB hr;clear hA hB hr;obtain ⟨cur,b5,U⟩:=B2A tiS set.length AA AB;have HCUR:=Hd U;clear U;have a9:(Dd cols set).length=set.length:=(by simp [Dd]);have O:=Hd a9;have b0:∀ s∈Dd cols set,s.size<=4294967296:=by
  intro s hs;obtain ⟨c,hc,rfl⟩:=List.mem_map.1 hs;have:=HR.o c hc;rw [BM _ _ _ AA];exact HA.o.sz AA
 have HNS:=Hd b0;clear a9 b0
 go_enter func134,ntmps134
 go_wp2;clear b5;have hst:OwnSs (w.alloc (.cells cur 9)) w.heap.size (some ⟨w.heap.size,0,none⟩) set.length ((Dd cols set).take 0):=by
  have:=ITA w 9 1 set.length cur Bd HCUR.o;exact ⟨by simpa using this,AC⟩
 have HST:=Hd hst;clear hst
 go_loopw [13,5] (λi v wr=>∃ (m:Nat) (A':OA) (c':Nat),m<=set.length/\i=.I m/\v=.slice A' m c'/\Ext w wr/\OwnSs wr w.heap.size A' c' ((Dd cols set).take m)) (λi _ _=>set.length-(intOf i).toNat)
 case atStart=>exact ⟨0,_,_,AN,rfl,rfl,(Ext.refl w).alloc _,HST.o⟩
 case round =>
  clear HST;obtain ⟨m,A',c',hm,rfl,rfl,hext,hown⟩:=hrel;have HE:=Hd hext;have HO:=Hd hown;clear hown;by_cases hlt:m<set.length
  ·obtain ⟨b1,o1,rfl,z1,c1⟩:=(HB.o.keep (hext.kept T)).at_ hlt;have a8:=HR.o _ (List.getElem_mem hlt);obtain ⟨x,hx⟩:=Int.eq_ofNat_of_zero_le a8.1;have hx2:x<cols.length:=AA;rw [hx] at c1;obtain ⟨b2,o2,rfl,z2,d1⟩:=(HA.o.keep (hext.kept S)).at_ hx2;have Y:(Dd cols set)[m]'(by rw [O.o];exact hlt)=cols[x]:=by
    simp only [Dd,List.getElem_map,hx];rw [Int.toNat_natCast,BM _ _ _ hx2]
   have b4:=Hd Y;have b3:((Dd cols set).take m).length=m:=(by rw [List.length_take,O.o];omega);have hown:=(HO.o.ext ((Ext.refl wr).alloc (.cells #[.string cols[x]] 9))).1;rw [b3] at hown;have HOWN:=Hd hown;have b6:=HE.o.size;clear Y b3 hown hext a8 hx
   go_wp2_with (at_builtin;go_must (refine AL rfl (.tmp 17) (.tmp 22) rfl tiS rfl HOWN.o rfl (Blk.rd (Blk.new _ _ _)) rfl AP AA AB AI ?_);intro A4 c4 w4 hown4 hg4 hat4)
   go_roundw
   case rel =>
    refine ⟨m+1,A4,c4,AA,AE,rfl,Ext.grown (HE.o.alloc _) hg4 (λb hb=>(HOWN.o.blk hb).1),?_,λs hs=>HNS.o s (List.mem_of_mem_take hs)⟩;rw [List.take_succ_eq_append_getElem (by rw [O.o];exact hlt),b4.o,List.length_append,List.length_take,O.o,Nat.min_eq_left hm,List.map_append];exact hown4
   case measure=>simp [intOf];omega
  ·obtain rfl:m=set.length:=AA;have ho:=HO.o;rw [List.take_of_length_le (by rw [O.o];exact Al)] at ho;have Z:=Hd ho;clear ho hext;go_wp2;go_ret;exact ⟨A',c',by rw [O.o];rfl,Own.cap Z.o.1,Z.o.strs (by rw [O.o];exact hbl) (λb hb=>(Own.blk Z.o.1 hb).1),HE.o⟩

theorem IIA{e sz:Nat}(h:Blk w g e cs)(hs:cs.size=n*sz)(hn:n<=maxLen)(hb:base<=g):Own w base e sz (some ⟨g,0,none⟩) n n cs.toList:=by
 refine ⟨by simpa using hs,Or.inr ⟨g,n,cs,rfl,hb,h,Al,hn,hs,?_⟩⟩;rw [List.take_of_length_le (by simp [hs])]
def F9(rows:List (List Val))(nc:Nat)(fs:List Nat):Bool:=(List.range nc).all λc=>Gk rows fs c
def EX(rows:List (List Val))(nc:Nat):List (List Int):=(List.range nc).map λc=>Ad rows c

theorem YM(rows:List (List Val))(nc:Nat)(set:List Int)(A B:OA)(ca cb:Nat)(w:World)(S T:NP)(hA:Ints w S A set)(hB:RIss w T B (EX rows nc))(hr:∀ c∈set,0<=c/\c<(nc:Int))(hrl:rows.length<=4294967296) :
  Cl 132 #[.slice A set.length ca,.slice B nc cb,.I (rows.length:Int)] w (Ae w (F9 rows nc (set.map Int.toNat))):=by
 have d7:=hA.2;have hbl:=hB.1;have Y:(EX rows nc).length=nc:=(by simp [EX]);rw [Y] at hbl;obtain ⟨O,HA,HB,HR⟩:=Hd4 Y hA hB hr;clear hA hB hr Y
 go_enter func132,ntmps132
 go_wp2
 go_loopw [13,7] (λi v wr=>∃ (k:Nat) (A':OA) (c':Nat),k<=set.length/\i=.I k/\v=.slice A' k c'/\Ext w wr/\OwnIss wr w.heap.size (λb=>b<w.heap.size) A' c' (((set.map Int.toNat).map λf=>Ad rows f).take k)) (λi _ _=>set.length-(intOf i).toNat)
 case atStart=>exact ⟨0,none,0,AN,rfl,rfl,Ext.refl _,OwnIss.nil _ _ _⟩
 case round =>
  obtain ⟨k,A',c',hk,rfl,rfl,hext,hown⟩:=hrel;have HE:=Hd hext;have HO:=Hd hown;have d3:((set.map Int.toNat).map λf=>Ad rows f).length=set.length:=AC;have HML:=Hd d3;clear hown d3;by_cases hlt:k<set.length
  ·obtain ⟨b1,o1,rfl,z1,c1⟩:=(HA.o.keep (hext.kept S)).at_ hlt;have b8:=HR.o _ (List.getElem_mem hlt);obtain ⟨x,hx⟩:=Int.eq_ofNat_of_zero_le b8.1;have hx2:x<nc:=AA;rw [hx] at c1;obtain ⟨b2,o2,B2,c2,rfl,d8,b9,hcp,U⟩:=HB.o.at_ (show x<(EX rows nc).length by rw [O.o];exact hx2);have d1:=hext.cell b9;have z2:b2<wr.heap.size:=(by have:=hext.size;omega);have b5:(EX rows nc)[x]'(by rw [O.o];exact hx2)=Ad rows x:=(by simp [EX]);rw [b5] at d1 hcp U;have d6:=Hd (U.mono (T:=λb=>b<w.heap.size) (λi hi _=>hi));have a9:((set.map Int.toNat).map λf=>Ad rows f)[k]'EN=Ad rows x:=(by simp [hx]);have d5:=Hd a9;have Z:(((set.map Int.toNat).map λf=>Ad rows f).take k).length=k:=(by rw [List.length_take,HML.o];omega);obtain ⟨hs,ho,hv⟩:=HO.o.ext ((Ext.refl wr).alloc (.cells #[.slice B2 (Ad rows x).length c2] 22));have hhs:hs.length=k:=(by have:=ho.len;rw [Z] at this;omega);rw [Z] at ho;obtain ⟨HOWN,HV,HHS,b7⟩:=Hd4 ho hv hhs Z;have f3:=HE.o.size;clear ho hv hhs Z a9 hext U b9 b5 b8 hx d8
   go_wp2_with (at_builtin;go_must (refine AL rfl (.tmp 17) (.tmp 22) rfl DCA rfl HOWN.o rfl (Blk.rd (Blk.new _ _ _)) rfl AP AA AB AI ?_);intro A4 c4 w4 hown4 hg4 hat4)
   go_roundw
   case rel =>
    refine ⟨k+1,A4,c4,AA,AE,rfl,Ext.grown (HE.o.alloc _) hg4 (λb hb=>(HOWN.o.blk hb).1),?_⟩;rw [List.take_succ_eq_append_getElem EN,d5.o];refine OwnIss.push (by rw [b7.o];exact HHS.o) HV.o (by rw [b7.o];exact hown4) hg4 hat4 hcp ((d6.o.keep (((HE.o.alloc _)).kept _)).mono λi _ hi=>⟨λh0 => ?_,hi⟩);have:=(HO.o.blk h0).1;omega
   case measure=>simp [intOf];omega
  ·obtain rfl:k=set.length:=AA;have hoo:=HO.o;rw [List.take_of_length_le (by rw [HML.o];exact Al)] at hoo;have f0:=Hd (hoo.riss (T:=λ_=>True) (by rw [HML.o];exact d7) (λ_ _=>trivial) (λ_ _=>trivial));clear hoo hext;have b0:=NI rows.length ((set.map Int.toNat).map λf=>Ad rows f) A' c' wr (λ_=>True) f0.o (λl hl=>by obtain ⟨f,_,rfl⟩:=List.mem_map.1 hl;simp [Ad]) hrl;rw [HML.o] at b0;have d9:=Hd b0;clear b0
   go_wp2_with fail
   refine d9.o.mono ?_;rintro e w1 ⟨gs,a8,A1,c1,rfl,f2,b6,hx1⟩;obtain ⟨HX1,HGO,f1⟩:=Hd3 hx1 a8 b6;have b3:=a8.len;have d4:=Hd b3;clear hx1 a8 b6 b3;have b4:=Jk (EX rows nc) gs B A1 cb c1 w1.heap.size (w1.alloc (.cells #[.slice A1 gs.length c1] 22)) T (BO wr) (HB.o.keep (((HE.o.trans HX1.o).alloc _).kept T)) ((Blk.new w1 22 #[.slice A1 gs.length c1]).cell rfl) (f1.o.keep (Kept.alloc _ _ _)) (λl hl=>by rw [d4.o];obtain ⟨f,_,rfl⟩:=List.mem_map.1 hl;simp [Ad]);rw [O.o] at b4;have HCF:=Hd b4;clear b4
   go_wp2_with fail
   refine HCF.o.mono ?_;rintro e w2 ⟨rfl,hx2⟩;have HX2:=Hd hx2;clear hx2;have HF:=Hd (show (!((EX rows nc).any λl => !Fr gs l))=F9 rows nc (set.map Int.toNat) by
    unfold EX F9;rw [List.any_map,List.not_any_eq_all_not];congr 1
    funext c
    simp only [Function.comp_apply,Bool.not_not];exact Ny HGO.o)
   go_wp2;go_ret;exact ⟨by rw [<-HF.o];rfl,HE.o.trans (HX1.o.trans ((exaa w1).trans HX2.o))⟩

def GW(n i:Nat):List (List Int):=(List.range' (i+1) (n-(i+1))).map λj:Nat=>[(i:Int),(j:Int)]
def Fz(n:Nat):List (List Int):=[[]]++((List.range n).map λi:Nat=>[(i:Int)])++(List.range n).flatMap (GW n)
def GMA(w:World)(l:List (List Int))(e:Ending)(J:World):Prop:=∃ A c,e=.returned (.slice A l.length c)/\l.length<=c/\RIss J (BO w) A l/\Ext w J
theorem OwnIss.add{c:Nat}{X:NP}{A:OA}{l:List (List Int)}(h:OwnIss w base X A c l):∃ hs,hs.length=l.length/\Own w base 22 1 A l.length c hs/\∀ (i:Nat) (r:List Int),l[i]?=some r->∃ (B:OA) (e:Nat),hs[i]?=some (Value.slice B r.length e)/\r.length<=e/\Ints w (λb=>ob A≠some b/\X b) B r:=by
 obtain ⟨hs,h1,h2⟩:=h;exact ⟨hs,by simpa using h1.len,h1,h2⟩

theorem AYA(n:Nat)(w:World)(hn:n<=1000):Cl 128 #[.I (n:Int)] w (GMA w (Fz n)):=by
 go_enter func128,ntmps128
 go_wp2;have HB0:=Hd (Blk.new (w.alloc (.cells #[] 3)) 22 #[.slice (some ⟨w.heap.size,0,none⟩) 0 0]);have hst:OwnIss ((w.alloc (.cells #[] 3)).alloc (.cells #[.slice (some ⟨w.heap.size,0,none⟩) 0 0] 22)) w.heap.size (BO w) (some ⟨w.heap.size+1,0,none⟩) 1 ([[]]++(List.range 0).map λi:Nat=>[(i:Int)]):=by
  refine ⟨[.slice (some ⟨w.heap.size,0,none⟩) 0 0],?_,λi r hr => ?_⟩
  ·have:=IIA (n:=1) (sz:=1) (base:=w.heap.size) HB0.o AC Bd AC
   simpa using this
  ·have hi:i=0:=by
    have:=(List.getElem?_eq_some_iff.1 hr).1;simp at this;exact this
   subst hi;simp at hr;subst hr;exact ⟨_,0,rfl,Al,Ints.nil⟩
 have HST:=Hd hst;clear hst
 go_loopw [10,3] (λi v wr=>∃ (k:Nat) (A':OA) (c':Nat),k<=n/\i=.I k/\v=.slice A' (k+1) c'/\Ext w wr/\OwnIss wr w.heap.size (BO w) A' c' ([[]]++(List.range k).map λi:Nat=>[(i:Int)])) (λi _ _=>n-(intOf i).toNat)
 case atStart=>exact ⟨0,_,_,AN,rfl,rfl,(exaa w).alloc _,HST.o⟩
 case round =>
  clear HST HB0;obtain ⟨k,A',c',hk,rfl,rfl,hext,hown⟩:=hrel;have HE:=Hd hext;have HO:=Hd hown;have a9:=hext.size;clear hown hext;by_cases hlt:k<n
  ·have hll:([[]]++(List.range k).map λi:Nat=>[(i:Int)]).length=k+1:=AC;obtain ⟨hs,hhs,ho,hv⟩:=(HO.o.ext (((Ext.refl wr).alloc (.cells #[.I (k:Int)] 3)).alloc (.cells #[.slice (some ⟨wr.heap.size,0,none⟩) 1 1] 22))).add;rw [hll] at ho;obtain ⟨HOWN,HV,HHS,HLL⟩:=Hd4 ho hv hhs hll;have O:=Blk.new (wr.alloc (.cells #[.I (k:Int)] 3)) 22 #[.slice (some ⟨wr.heap.size,0,none⟩) 1 1];rw [show (wr.alloc (.cells #[.I (k:Int)] 3)).heap.size=wr.heap.size+1 by simp] at O;have b0:=Hd O;clear ho hv hhs hll O
   go_wp2_with (at_builtin;go_must (refine AL rfl (.tmp 13) (.tmp 16) rfl DCA rfl HOWN.o rfl (Blk.rd b0.o) rfl AP AA AB AI ?_);intro A4 c4 w4 hown4 hg4 hat4)
   go_roundw
   case rel =>
    refine ⟨k+1,A4,c4,AA,AE,rfl,Ext.grown ((HE.o.alloc _).alloc _) hg4 (λb hb=>(HOWN.o.blk hb).1),?_⟩;rw [List.range_succ,List.map_append,<-List.append_assoc];refine OwnIss.push (r:=[(k:Int)]) HHS.o HV.o (by rw [HLL.o];exact hown4) hg4 hat4 (Al) ⟨?_,AC⟩;refine ((Blk.rd (Blk.new wr 3 #[.I (k:Int)])).keep (Kept.alloc _ _ _)).mono λi _ hi=>⟨λh0 => ?_,?_⟩
    ·have:=(HO.o.blk h0).2;omega
    ·unfold BO;omega
   case measure=>simp [intOf];omega
  ·obtain rfl:k=n:=AA;have a8:OwnIss wr w.heap.size (BO w) A' c' ([[]]++((List.range k).map λi:Nat=>[(i:Int)])++(List.range 0).flatMap (GW k)):=by
    have:=HO.o
    simpa using this
   have b6:=Hd a8;clear a8 HO;go_wp2
   go_loopw [20,3] (λi v wr=>∃ (m:Nat) (A':OA) (c':Nat) (l:List (List Int)),m<=k/\l=[[]]++((List.range k).map λi:Nat=>[(i:Int)])++(List.range m).flatMap (GW k)/\i=.I m/\v=.slice A' l.length c'/\Ext w wr/\l.length<=2000+m*1000/\OwnIss wr w.heap.size (BO w) A' c' l) (λi _ _=>k-(intOf i).toNat)
   case atStart=>exact ⟨0,_,_,_,AN,rfl,rfl,AC,HE.o,AI,b6.o⟩
   case round =>
    clear b6 HE a9;obtain ⟨m,A2,c2,l,hm,hl,rfl,rfl,Y,hll2,Z⟩:=hrel;obtain ⟨HL,b4,HO3⟩:=Hd3 hl Y Z;clear hl Y Z;obtain ⟨wo,rfl⟩:∃ wo:World,wo=wr:=⟨_,rfl⟩;by_cases hlt2:m<k
    ·go_wp2
     go_loopw [6,3] (λi v wr=>∃ (q:Nat) (A':OA) (c':Nat) (l2:List (List Int)),q<=k-(m+1)/\l2=l++(List.range' (m+1) q).map (λj:Nat=>[(m:Int),(j:Int)])/\i=.I ((m+1+q:Nat):Int)/\v=.slice A' l2.length c'/\Ext w wr/\l2.length<=l.length+q/\OwnIss wr w.heap.size (BO w) A' c' l2) (λi _ _=>k-(intOf i).toNat)
     case atStart=>exact ⟨0,A2,c2,l,AN,AC,AE,rfl,b4.o,AC,HO3.o⟩
     case round =>
      obtain ⟨q,A3,c3,l2,hq,hl2,rfl,rfl,U,hll3,hown3⟩:=hrel;obtain ⟨HL2,b3,HO4⟩:=Hd3 hl2 U hown3;have a9:=U.size;clear hl2 U hown3;by_cases hlt3:m+1+q<k
      ·obtain ⟨hs,hhs,ho,hv⟩:=(HO4.o.ext (((Ext.refl wr).alloc (.cells #[.I (m:Int),.I ((m+1+q:Nat):Int)] 3)).alloc (.cells #[.slice (some ⟨wr.heap.size,0,none⟩) 2 2] 22))).add;obtain ⟨HOWN,HV,HHS⟩:=Hd3 ho hv hhs;have O:=Blk.new (wr.alloc (.cells #[.I (m:Int),.I ((m+1+q:Nat):Int)] 3)) 22 #[.slice (some ⟨wr.heap.size,0,none⟩) 2 2];rw [show (wr.alloc (.cells #[.I (m:Int),.I ((m+1+q:Nat):Int)] 3)).heap.size=wr.heap.size+1 by simp] at O;have b0:=Hd O;clear ho hv hhs O
       go_wp2_with (at_builtin;go_must (refine AL rfl (.tmp 30) (.tmp 34) rfl DCA rfl HOWN.o rfl (Blk.rd b0.o) rfl AP AA AB AI ?_);intro A4 c4 w4 hown4 hg4 hat4)
       go_roundw
       case rel =>
        refine ⟨q+1,A4,c4,l2++[[(m:Int),((m+1+q:Nat):Int)]],AA,?_,AE,AC,Ext.grown ((b3.o.alloc _).alloc _) hg4 (λb hb=>(HOWN.o.blk hb).1),AI,?_⟩
        ·rw [HL2.o,List.range'_1_concat,List.map_append,<-List.append_assoc];simp
        ·refine OwnIss.push (r:=[(m:Int),((m+1+q:Nat):Int)]) HHS.o HV.o hown4 hg4 hat4 (Al) ⟨?_,AC⟩;refine ((Blk.rd (Blk.new wr 3 #[.I (m:Int),.I ((m+1+q:Nat):Int)])).keep (Kept.alloc _ _ _)).mono λi _ hi=>⟨λh0 => ?_,?_⟩
         ·have:=(HO4.o.blk h0).2;omega
         ·unfold BO;omega
       case measure=>simp [intOf];omega
      ·have b5:q=k-(m+1):=AA;have HQ:=Hd b5;clear b5;go_wp2;go_roundw
       case rel =>
        refine ⟨m+1,A3,c3,l2,AA,?_,AE,rfl,b3.o,AA,HO4.o⟩;rw [HL2.o,HL.o,HQ.o,List.range_succ,List.flatMap_append,<-List.append_assoc];simp [GW]
       case measure=>simp [intOf];omega
    ·obtain rfl:m=k:=AA;obtain rfl:l=Fz m:=HL.o;have HC:=Hd (show (Fz m).length<=c2 by obtain ⟨hs,_,h1,_⟩:=HO3.o.add;exact h1.cap);clear HL;go_wp2;go_ret;exact ⟨A2,c2,rfl,HC.o,HO3.o.riss AA (λb hb=>(HO3.o.blk hb).1) (λ_ h=>h),b4.o⟩
