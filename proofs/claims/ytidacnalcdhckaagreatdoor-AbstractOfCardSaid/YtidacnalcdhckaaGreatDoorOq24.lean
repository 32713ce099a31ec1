/- Lemmas. No conditions. -/
import Derived.Test.YtidacnalcdhckaaGreatDoorOq23
set_option maxRecDepth 100000
set_option maxHeartbeats 2000000
namespace Go.Proofs.YtidacnalcdhckaaGreatDoor
open Go Go.RowKit Tryz
variable {qP:Prop}

def ShN(n:Nat)(a:Sh):Prop:=a.b.size≤n∧a.e.size≤n
theorem IGA(n:Nat):ShN n H3A:=⟨AN,AN⟩
theorem ShN.join{n:Nat}{a b:Sh}(ha:ShN n a)(hb:ShN n b):ShN n (BW a b):=by
 unfold BW;split
 ·split
  ·exact IGA n
  ·exact hb
 ·split
  ·exact ha
  ·constructor
   ·show (bA _).size≤n;rw [EH];have h1:=(FK a.B b.B).length_le;have h2:a.B.length=a.b.size:=G6 a;have:=ha.1;omega
   ·show (bA _).size≤n;rw [EH];have h1:=(J8 a.E b.E).length_le;have h2:a.E.length=a.e.size:=F1 a;have:=ha.2;omega
theorem ShN.meet{n:Nat}{a b:Sh}(ha:ShN n a)(hb:ShN n b):ShN n (DN a b):=by
 have hm:ShN n (CY a b):=by
  unfold CY;constructor
  ·show (if a.b.size<b.b.size then b.b else a.b).size≤n;split
   ·exact hb.1
   ·exact ha.1
  ·show (if a.e.size<b.e.size then b.e else a.e).size≤n;split
   ·exact hb.2
   ·exact ha.2
 unfold DN;split
 ·exact IGA n
 ·split
  ·exact hm
  ·exact IGA n
theorem AbN.sh{n:Nat}{a:Abs}(h:AbN n a):ShN 1000000000 a.tx:=⟨h.1,h.2.1⟩
theorem AbN.mono{n m:Nat}{a:Abs}(h:AbN n a)(hm:n≤m):AbN m a:=⟨h.1,h.2.1,Nat.le_trans h.2.2.1 hm,Nat.le_trans h.2.2.2.1 hm,fun d hd=>Nat.le_trans (h.2.2.2.2 d hd) hm⟩
theorem U8{α:Type} [DecidableEq α](l:List α):(ddp l).length≤l.length:=by
 exact QO
theorem AbN.can{n:Nat}{a:Abs}(h:AbN n a):AbN n (AX a):=by
 have h1:=h.sh.join h.sh;have ht:ShN 1000000000 (AX a).tx:=by
  show ShN _ (if pT a=true then BW a.tx a.tx else H3A);split
  ·exact h1
  ·exact IGA _
 refine ⟨ht.1,ht.2,?_,?_,?_⟩
 ·show (if pR a=true then An (ddp a.cols) else []).length≤n;split
  ·rw [WV];exact Nat.le_trans (U8 _) h.2.2.1
  ·exact AN
 ·show (if pR a=true then ddp a.deps else []).length≤n;split
  ·exact Nat.le_trans (U8 _) h.2.2.2.1
  ·exact AN
 ·show ∀ d∈(if pR a=true then ddp a.deps else []),d.frm.length≤n;split
  ·exact fun d hd=>h.2.2.2.2 d ((IT _ _).1 hd)
  ·intro d hd;cases hd
theorem BQ(h:qP:=by cases hd):qP:=h
theorem ISA(n:Nat):AbN n noneA:=⟨AN,AN,AN,AN,fun d hd=>BQ⟩
theorem AbN.joinRaw{n m:Nat}{x y:Abs}(h:AbN n x)(k:AbN m y):AbN (n+m) (F7 x y):=by
 have ht:ShN 1000000000 (BW x.tx y.tx):=h.sh.join k.sh;refine ⟨ht.1,ht.2,?_,?_,?_⟩
 ·show (EE x y).length≤n+m;have:=h.2.2.1;have:=k.2.2.1;unfold EE;split
  ·omega
  ·split
   ·omega
   ·have:=List.length_filter_le (Aw y.cols) x.cols;omega
 ·show (BJ x y).length≤n+m;have:=h.2.2.2.1;have:=k.2.2.2.1;unfold BJ;split
  ·omega
  ·split
   ·omega
   ·have:=List.length_filter_le (V6 y) x.deps;have:=List.length_filter_le (V6 x) y.deps;rw [List.length_append];unfold DK;omega
 ·show ∀ d∈BJ x y,d.frm.length≤n+m;intro d hd;have hh:d∈x.deps∨d∈y.deps:=by
   unfold BJ at hd;split at hd
   ·exact .inr hd
   ·split at hd
    ·exact .inl hd
    ·rcases List.mem_append.1 hd with hd|hd
     ·exact .inl (List.mem_filter.1 hd).1
     ·exact .inr (List.mem_filter.1 hd).1
  rcases hh with hh|hh
  ·have:=h.2.2.2.2 d hh;omega
  ·have:=k.2.2.2.2 d hh;omega
theorem AbN.join{n m:Nat}{a b:Abs}(h:AbN n a)(k:AbN m b):AbN (n+m) (Fk a b):=(h.can.joinRaw k.can).can
theorem AbN.meetRaw{n m:Nat}{x y:Abs}(h:AbN n x)(k:AbN m y):AbN (n+m) (I1 x y):=by
 have ht:ShN 1000000000 (DN x.tx y.tx):=h.sh.meet k.sh;refine ⟨ht.1,ht.2,?_,?_,?_⟩
 ·show (x.cols++y.cols).length≤n+m;have:=h.2.2.1;have:=k.2.2.1;rw [List.length_append];omega
 ·show (x.deps++y.deps).length≤n+m;have:=h.2.2.2.1;have:=k.2.2.2.1;rw [List.length_append];omega
 ·show ∀ d∈x.deps++y.deps,d.frm.length≤n+m;intro d hd
  rcases List.mem_append.1 hd with hh|hh
  ·have:=h.2.2.2.2 d hh;omega
  ·have:=k.2.2.2.2 d hh;omega
theorem AbN.meet{n m:Nat}{a b:Abs}(h:AbN n a)(k:AbN m b):AbN (n+m) (Gq a b):=(h.can.meetRaw k.can).can
theorem CnA(n:Nat):∀ s∈Fz n,s.length≤2:=by
 intro s hs;unfold Fz at hs
 rcases List.mem_append.1 hs with hs|hs
 ·rcases List.mem_append.1 hs with hs|hs
  ·rw [List.mem_singleton.1 hs];simp
  ·obtain ⟨i,_,rfl⟩:=List.mem_map.1 hs;simp
 ·obtain ⟨i,_,hs⟩:=List.mem_flatMap.1 hs;unfold GW at hs;obtain ⟨j,_,rfl⟩:=List.mem_map.1 hs;simp
theorem WA(cols:List BA)(s:List Int)(n:Nat):(Ch cols s n).length≤n:=by
 exact QW
theorem WY(cols:List BA)(rows:List (List Val)):∀ (l:List (List Int)) (st:List (List Int) × List Dep),(∀ s∈l,s.length≤2)→(∀ d∈st.2,d.frm.length≤2)→(∀ d∈(l.foldl (BN cols rows) st).2,d.frm.length≤2)∧(l.foldl (BN cols rows) st).2.length≤st.2.length+l.length*cols.length
 |[],st,_,h=>⟨h,AC⟩
 |s::m,st,hl,h=>by
  rw [List.foldl_cons];have hm:∀ x∈m,x.length≤2:=fun x hx=>hl x (List.mem_cons_of_mem _ hx);have hs:(∀ d∈(BN cols rows st s).2,d.frm.length≤2)∧(BN cols rows st s).2.length≤st.2.length+cols.length:=by
   unfold BN;split
   ·exact ⟨h,AA⟩
   ·split
    ·exact ⟨h,AA⟩
    ·refine ⟨fun d hd => ?_,?_⟩
     ·rcases List.mem_append.1 hd with hd|hd
      ·exact h d hd
      ·unfold Ch at hd;obtain ⟨c,_,rfl⟩:=List.mem_map.1 hd;show (Dd cols s).length≤2;unfold Dd;rw [List.length_map];exact hl s AC
     ·show (st.2++Ch cols s cols.length).length≤_;rw [List.length_append];have:=WA cols s cols.length;omega
  obtain ⟨g1,g2⟩:=WY cols rows m _ hm hs.1;refine ⟨g1,?_⟩;rw [List.length_cons,Nat.add_mul,Nat.one_mul];omega
theorem GaA{n:Nat}(h:n≤8):(Fz n).length≤37:=by
 have:n=0∨n=1∨n=2∨n=3∨n=4∨n=5∨n=6∨n=7∨n=8:=AA
 rcases this with rfl|rfl|rfl|rfl|rfl|rfl|rfl|rfl|rfl<;>decide
theorem Ju(cols:List BA)(rows:List (List Val))(h:cols.length≤8):(Co cols rows).length≤300∧∀ d∈Co cols rows,d.frm.length≤2:=by
 unfold Co;split
 ·exact ⟨AN,fun d hd=>BQ⟩
 ·obtain ⟨g1,g2⟩:=WY cols rows (Fz cols.length) ([],[]) (CnA _) (fun d hd=>BQ);refine ⟨?_,g1⟩;have h1:=GaA h;have h2:(Fz cols.length).length*cols.length≤37*8:=Nat.mul_le_mul h1 h;have h3:(([],[]):List (List Int) × List Dep).2.length=0:=rfl;omega

def UpN(N:Nat)(v:Value):Prop:=∃ g,v=.pointer (some ⟨g,0,none⟩)∧N≤g
theorem BY{P:Program}{o:Oper}{ρ:Operand→Value}{K:Value→World→Prop}{w:World}(ty:TypeId){x y:Operand}(ho:o.op=.store ty x y){g:Nat}(hx:ρ x=.pointer (some ⟨g,0,none⟩)){cells:Array Value}(hy:ρ y=.agg cells)
  {t:TypeId} {old:Array Value} (hb:Blk w g t old) (hi:(P.info? ty).map (·.size)=some cells.size) (hold:old.size=cells.size) (h1:cells.all (·.oneCell')=true)
  (h:∀ w',Blk w' g t cells→Only g w w'→K undef w'):Bu P K ((execOp ρ o).run P w):=by
 have hh:K undef (w.setRow g cells):=h _ (setRow_heap w g old cells t _ hb) ⟨rfl,rfl,rfl,setRow_size _ _ _,fun b hb=>by
  exact UA⟩
 unfold execOp;simp only [ho,hx,hy,Instr.storeAt,Instr.sureAddr,Sem.run_bind,Sem.run_pure,Result.andThen_ok,run_storeVar_row w g t ty old cells hb hi hold h1];exact hh
theorem AZ{P:Program}{ops:Array Oper}{rest:List Oper}{o:Oper}{a:Act}{w w':World}{Q:Exit→Act→World→Prop}(hw:Region.wanted o (yielded ops a.tmps)=true)(v:Value)(hr:(execOp a.eval o).run P w=.ok (.value v) w')
  (h:wpList P ops Q rest (a.put o.dst v) w'):wpList P ops Q (o::rest) a w:=by
 refine wpList_step fun K hK => ?_;rw [if_pos hw];unfold Oper.wp;rw [hr];exact hK _ _ h
def JoP(N:Nat)(T:NP)(s:Abs)(v:Value)(w':World):Prop:=∃ (A:OA) (c:Nat) (D:OA) (e:Nat),v=(Aq s A c D e)∧AbM w' (fun b=>T b∨N≤b) s A c D e
abbrev S9(T:Nat→Prop)(N:Nat)(w9:World):Nat→Prop:=fun b=>(T b∨N≤b)∧b<w9.heap.size
def FlD(ws:World)(S:NP)(l:List Dep)(v:Value)(γ:Gz)(w':World):Prop:=∃ (A:OA) (c:Nat),v=.slice A l.length c∧l.length≤c∧(γ 1008=false→OwnDs w' ws.heap.size S A c l)
def FlE(ws:World)(S:NP)(l1 l2:List Dep)(p v:Value)(γ:Gz)(w':World):Prop:=∃ (A:OA) (c:Nat) (A2:OA) (c2:Nat),p=.slice A l1.length c∧v=.slice A2 l2.length c2∧l2.length≤c2∧(γ 1008=false→OwnDs w' ws.heap.size S A c l1∧RDeps w' (fun b=>(S b∨ws.heap.size≤b)∧ob A≠some b) A2 l2)
def FlF(ws:World)(X:NP)(l:List Dep)(n:Nat)(v:Value)(γ:Gz)(w':World):Prop:=∃ (A:OA) (c:Nat),v=.slice A n c∧γ 1008=true∧OwnDs w' ws.heap.size X A c l
def FlG(n:Nat)(Q:World→Value→Prop)(v:Value)(γ:Gz)(w':World):Prop:=∃ (A:OA) (c:Nat),v=.slice A n c∧Q w' (.slice A n c)∧γ 1010=true
theorem AbM.tov{w:World}{S:NP}{a b:Abs}{A D:OA}{c e:Nat}(h:AbM w S a A c D e)(h1:b.cols=a.cols)(h2:b.deps=a.deps):AbM w S b A c D e:=by
 unfold AbM at h⊢;rw [h1,h2];exact h
def JoR(g5 N:Nat)(T:NP)(w9 w10:World)(r:Abs)(wx:World):Prop:=∃ (A:OA) (c:Nat) (D:OA) (e:Nat),Blk wx g5 39 (Ap r A c D e)∧AbM wx (fun b=>S9 T N w9 b∨w10.heap.size≤b) r A c D e∧Ext w9 wx
def JoB(g N:Nat)(T:NP)(s:Abs)(w':World):Prop:=∃ (A:OA) (c:Nat) (D:OA) (e:Nat),Blk w' g 39 (Ap s A c D e)∧AbM w' (fun b=>T b∨N≤b) s A c D e

theorem Iq:(match prog.underlying 29 with|some (.struct _)|some (.array _ _)=>true|_=>false)=true:=by kernel_rfl
theorem GA:(prog.info? 29).map (·.size)=some 7:=by kernel_rfl

def Nv(s:BA):List UInt8:=Lib.itoa (s.size:Int)++[58]++s.data.toList
def V1(a:Sh):List UInt8:=Lib.itoa a.least++[32]++Lib.itoa a.most++[32]++Lib.itoa a.cls++[32]++Nv a.b++[32]++Nv a.e
def V3(r:Rg):List UInt8:=OL r.ln r.ls.toNat++[46,46]++OL r.hn r.hs.toNat
def V9(l h:Int):List UInt8:=Lib.itoa l++[46,46]++Lib.itoa h
theorem GLA(s:BA):bsA s.data.toList=s:=rfl
theorem X7(a:UInt8):(⟨#[a]⟩:BA)=bsA [a]:=rfl
theorem YE(a b:UInt8):(⟨#[a,b]⟩:BA)=bsA [a,b]:=rfl
def I64(n:Int):Prop:=-9223372036854775808≤n∧n≤9223372036854775807
theorem Hq(n:Int)(h:I64 n):(bsA (Lib.itoa n)).size≤21:=Lib.itoa_length_le n h.1 h.2
theorem We(s:BA)(hs:s.size≤1000000):(bsA (Nv s)).size≤1000100:=by
 show (Nv s).length≤1000100;unfold Nv;have h:=Mr s.size AA;have h2:s.data.toList.length=s.size:=rfl;rw [List.length_append,List.length_append,List.length_singleton];omega
theorem Wk(n:Int)(s:Nat)(h:Dz n (s:Int)=true):(bsA (OL n s)).size≤60:=by
 have hv:Bg n s=(n,(s:Int)):=(by simp [Bg,h]);have hrg:=GX n s;rw [hv] at hrg;obtain ⟨-,hs6,hn0,hn1⟩:=hrg;show (OL n s).length≤60;have hlen:(Lib.decDigits n.natAbs).length≤21:=(by have h:=Mr n.natAbs AA;rw [Lib.itoa_nonneg] at h;exact h);have h1:(V2 n s).length≤28:=by
  unfold V2;rw [List.length_append,Lib.repeatL_length];simp;omega
 have h2:(XH n s).length≤29:=by
  unfold XH;split
  ·simp;omega
  ·omega
 unfold OL;split
 ·simp;omega
 ·omega
theorem TH(s:BA)(hs:s.size≤1000000)(w:World)(h:Txa w):Cl 165 #[.string s] w (Cu w (bsA (Nv s))):=by
 obtain ⟨z,ez⟩:=eqx (bsA (Lib.itoa (s.size:Int)));have HI:=Hd (GC (s.size:Int) AA AA w h);have hil:=Mr s.size AA;have hzl:z.size≤21:=(by rw [ez];exact hil);rw [←ez] at HI;have HZ:=Hd ez;clear ez hil h
 go_enter func165,ntmps165
 go_wp2_with fail
 refine HI.o.mono ?_;rintro e1 w1 ⟨rfl,hx1⟩;have HX:=Hd hx1;clear hx1
 go_wp2_with fail
 go_ret;refine ⟨?_,HX.o⟩;show Ending.returned (Value.string (z++⟨#[58]⟩++s))=_;rw [HZ.o,X7,Cr];(conv=>lhs;rw [←GLA s,Cr]);rfl
theorem BSA(a:Sh)(h1:I64 a.least)(h2:I64 a.most)(h3:I64 a.cls)(hb:a.b.size≤1000000)(he:a.e.size≤1000000)(w:World)(h:Txa w):Cl 96 #[(Sq a)] w (Cu w (bsA (V1 a))):=by
 obtain ⟨w0,hw0⟩:=eqx (w.alloc (.cells (Sp a) 32));obtain ⟨g,hg⟩:=eqx w.heap.size;have hx0:Ext w w0:=BS;obtain ⟨HBX,HW0,HG,HX0⟩:=Hd4 (show Blk w0 g 32 (Sp a) by rw [hw0,hg];exact Blk.new _ _ _) hw0 hg hx0;obtain ⟨k0,k1,k2,k3,k4⟩:=Hd5 (show w0.cell? ⟨g,0,none⟩=some (.I a.least) from HBX.o.q0) (show w0.cell? ⟨g,1,none⟩=some (.I a.most) from HBX.o.q1) (show w0.cell? ⟨g,2,none⟩=some (.I a.cls) from HBX.o.q2) (show w0.cell? ⟨g,3,none⟩=some (.string a.b) from HBX.o.q3) (show w0.cell? ⟨g,4,none⟩=some (.string a.e) from HBX.o.q4);obtain ⟨i1,hi1⟩:=eqx (bsA (Lib.itoa a.least));have HI1:=Hd (show ∀ w',Ext w0 w'→Cl 99 #[.I a.least] w' (Cu w' i1) from fun w' hw'=>by rw [hi1];exact GC _ h1.1 h1.2 w' (h.ext (hx0.trans hw')));obtain ⟨i2,hi2⟩:=eqx (bsA (Lib.itoa a.most));have HI2:=Hd (show ∀ w',Ext w0 w'→Cl 99 #[.I a.most] w' (Cu w' i2) from fun w' hw'=>by rw [hi2];exact GC _ h2.1 h2.2 w' (h.ext (hx0.trans hw')));obtain ⟨i3,hi3⟩:=eqx (bsA (Lib.itoa a.cls));have HI3:=Hd (show ∀ w',Ext w0 w'→Cl 99 #[.I a.cls] w' (Cu w' i3) from fun w' hw'=>by rw [hi3];exact GC _ h3.1 h3.2 w' (h.ext (hx0.trans hw')));obtain ⟨i4,hi4⟩:=eqx (bsA (Nv a.b));have HI4:=Hd (show ∀ w',Ext w0 w'→Cl 165 #[.string a.b] w' (Cu w' i4) from fun w' hw'=>by rw [hi4];exact TH _ hb w' (h.ext (hx0.trans hw')));obtain ⟨i5,hi5⟩:=eqx (bsA (Nv a.e));have HI5:=Hd (show ∀ w',Ext w0 w'→Cl 165 #[.string a.e] w' (Cu w' i5) from fun w' hw'=>by rw [hi5];exact TH _ he w' (h.ext (hx0.trans hw')));have z1:i1.size≤21:=(by rw [hi1];exact Hq _ h1);have z2:i2.size≤21:=(by rw [hi2];exact Hq _ h2);have z3:i3.size≤21:=(by rw [hi3];exact Hq _ h3);have z4:i4.size≤1000100:=(by rw [hi4];exact We _ hb);have z5:i5.size≤1000100:=(by rw [hi5];exact We _ he);have hc1:¬(9223372036854775807<i1.size+1):=AA;have hc2:¬(9223372036854775807<i1.size+1+i2.size):=AA;have hc3:¬(9223372036854775807<i1.size+1+i2.size+1):=AA;have hc4:¬(9223372036854775807<i1.size+1+i2.size+1+i3.size):=AA;have hc5:¬(9223372036854775807<i1.size+1+i2.size+1+i3.size+1):=AA;have hc6:¬(9223372036854775807<i1.size+1+i2.size+1+i3.size+1+i4.size):=AA;have hc7:¬(9223372036854775807<i1.size+1+i2.size+1+i3.size+1+i4.size+1):=AA;have hc8:¬(9223372036854775807<i1.size+1+i2.size+1+i3.size+1+i4.size+1+i5.size):=AA;have HE:=Hd (show i1++⟨#[32]⟩++i2++⟨#[32]⟩++i3++⟨#[32]⟩++i4++⟨#[32]⟩++i5=bsA (V1 a) by
  rw [hi1,hi2,hi3,hi4,hi5,X7];simp only [Cr];rfl)
 clear hw0 hg hx0 hi1 hi2 hi3 hi4 hi5 h h1 h2 h3 hb he z1 z2 z3 z4 z5
 go_enter func96,ntmps96
 go_upto_region 1 with fail
 rw [←HW0.o,←HG.o];refine Qa (fun _ _=>False) [] ?_
 iterate 2 refine Qp ?_
 refine Qd (fun w' HXW=>HI1.o w' HXW.o) ?_
 iterate 3 refine Qp ?_
 refine Qd (fun w' HXW=>HI2.o w' HXW.o) ?_
 iterate 4 refine Qp ?_
 refine Qd (fun w' HXW=>HI3.o w' HXW.o) ?_
 iterate 2 refine Qp ?_
 intro vals γ w8 hR hG;refine Qx ?_;have HX8:=Hd (show Ext w0 w8 from hR.ext0 (fun _ _ _ h=>h.elim));clear hR hG;obtain ⟨k3',k4',HI4',HI5'⟩:=Hd4 (HX8.o.cell k3.o) (HX8.o.cell k4.o) (fun w' (hw':Ext w8 w')=>HI4.o w' (HX8.o.trans hw')) (fun w' (hw':Ext w8 w')=>HI5.o w' (HX8.o.trans hw'))
 go_upto_region 2 with fail
 refine Qa (fun _ _=>False) [] ?_
 iterate 4 refine Qp ?_
 refine Qd (fun w' HXW=>HI4'.out w' HXW.o) ?_
 iterate 4 refine Qp ?_
 refine Qd (fun w' HXW=>HI5'.out w' HXW.o) ?_
 iterate 2 refine Qp ?_
 intro vals γ w9 hR hG;refine Qx ?_;have HX9:=Hd (show Ext w8 w9 from hR.ext0 (fun _ _ _ h=>h.elim));clear hR hG;go_wp2;go_ret;refine ⟨?_,(HX0.o.trans HX8.o).trans HX9.o⟩;rw [←HE.o];rfl
theorem M7(l n:Int)(h1:I64 l)(h2:I64 n)(w:World)(h:Txa w):Cl 98 #[.agg #[.I l,.I n]] w (Cu w (bsA (V9 l n))):=by
 obtain ⟨w0,hw0⟩:=eqx (w.alloc (.cells #[.I l,.I n] 36));obtain ⟨g,hg⟩:=eqx w.heap.size;have hx0:Ext w w0:=BS;obtain ⟨HBX,HW0,HG,HX0⟩:=Hd4 (show Blk w0 g 36 #[.I l,.I n] by rw [hw0,hg];exact Blk.new _ _ _) hw0 hg hx0;have k0:=Hd (show w0.cell? ⟨g,0,none⟩=some (.I l) from HBX.o.q0);have k1:=Hd (show w0.cell? ⟨g,1,none⟩=some (.I n) from HBX.o.q1);obtain ⟨i1,hi1⟩:=eqx (bsA (Lib.itoa l));have HI1:=Hd (show ∀ w',Ext w0 w'→Cl 99 #[.I l] w' (Cu w' i1) from fun w' hw'=>by rw [hi1];exact GC _ h1.1 h1.2 w' (h.ext (hx0.trans hw')));obtain ⟨i2,hi2⟩:=eqx (bsA (Lib.itoa n));have HI2:=Hd (show ∀ w',Ext w0 w'→Cl 99 #[.I n] w' (Cu w' i2) from fun w' hw'=>by rw [hi2];exact GC _ h2.1 h2.2 w' (h.ext (hx0.trans hw')));have z1:i1.size≤21:=(by rw [hi1];exact Hq _ h1);have z2:i2.size≤21:=(by rw [hi2];exact Hq _ h2);have hc1:¬(9223372036854775807<i1.size+2):=AA;have hc2:¬(9223372036854775807<i1.size+2+i2.size):=AA;have HE:=Hd (show i1++⟨#[46,46]⟩++i2=bsA (V9 l n) by
  rw [hi1,hi2,YE];simp only [Cr];rfl)
 clear hw0 hg hx0 hi1 hi2 h h1 h2 z1 z2
 go_enter func98,ntmps98
 go_upto_region 1 with fail
 rw [←HW0.o,←HG.o];refine Qa (fun _ _=>False) [] ?_
 iterate 2 refine Qp ?_
 refine Qd (fun w' HXW=>HI1.o w' HXW.o) ?_
 iterate 3 refine Qp ?_
 refine Qd (fun w' HXW=>HI2.o w' HXW.o) ?_
 iterate 2 refine Qp ?_
 intro vals γ w8 hR hG;refine Qx ?_;have HX8:=Hd (show Ext w0 w8 from hR.ext0 (fun _ _ _ h=>h.elim));clear hR hG;go_wp2;go_ret;refine ⟨?_,HX0.o.trans HX8.o⟩;rw [←HE.o];rfl
theorem Vc(r:Rg)(p q:Nat)(hp:r.ls=p)(hq:r.hs=q)(h1:Dz r.ln r.ls=true)(h2:Dz r.hn r.hs=true)(hem:BF r=false)(w:World)(h:Txa w):Cl 97 #[(Rq r)] w (Cu w (bsA (V3 r))):=by
 obtain ⟨w0,hw0⟩:=eqx (w.alloc (.cells (Rp r) 34));obtain ⟨g,hg⟩:=eqx w.heap.size;have hx0:Ext w w0:=BS;obtain ⟨HBX,HW0,HG,HX0⟩:=Hd4 (show Blk w0 g 34 (Rp r) by rw [hw0,hg];exact Blk.new _ _ _) hw0 hg hx0;obtain ⟨k0,k1,k2,k3⟩:=Hd4 (show w0.cell? ⟨g,0,none⟩=some (.I r.ln) from HBX.o.q0) (show w0.cell? ⟨g,1,none⟩=some (.I r.ls) from HBX.o.q1) (show w0.cell? ⟨g,2,none⟩=some (.I r.hn) from HBX.o.q2) (show w0.cell? ⟨g,3,none⟩=some (.I r.hs) from HBX.o.q3);obtain ⟨i1,hi1⟩:=eqx (bsA (OL r.ln r.ls.toNat));obtain ⟨i2,hi2⟩:=eqx (bsA (OL r.hn r.hs.toNat));obtain ⟨HI1,HI2,HEM⟩:=Hd3 (show ∀ w',Ext w0 w'→Cl 166 #[.agg #[.I r.ln,.I r.ls]] w' (Cu w' i1) from fun w' hw'=>by rw [hi1,hp];exact KR r.ln p (by rw [←hp];exact h1) w' (h.ext (hx0.trans hw'))) (show ∀ w',Ext w0 w'→Cl 166 #[.agg #[.I r.hn,.I r.hs]] w' (Cu w' i2) from fun w' hw'=>by rw [hi2,hq];exact KR r.hn q (by rw [←hq];exact h2) w' (h.ext (hx0.trans hw'))) (show ∀ w',Ext w0 w'→Cl 156 #[(Rq r)] w' (Ae w' false) from fun w' hw'=>by have:=Ct r w' (h.ext (hx0.trans hw')).tens;rw [hem] at this;exact this);have z1:i1.size≤60:=(by rw [hi1];have:=h1;rw [hp] at this⊢;exact Wk _ _ this);have z2:i2.size≤60:=(by rw [hi2];have:=h2;rw [hq] at this⊢;exact Wk _ _ this);have hc1:¬(9223372036854775807<i1.size+2):=AA;have hc2:¬(9223372036854775807<i1.size+2+i2.size):=AA;have HE:=Hd (show i1++⟨#[46,46]⟩++i2=bsA (V3 r) by
  rw [hi1,hi2,YE];simp only [Cr];rfl)
 have c0:=k0.o;have c1:=k1.o;have c2:=k2.o;have c3:=k3.o;clear hw0 hg hx0 hi1 hi2 h h1 h2 hem z1 z2 hp hq
 go_enter func97,ntmps97
 go_upto_region 1 with fail
 rw [←HW0.o,←HG.o]
 go_wp2_with fail
 refine (HEM.o _ (Ext.refl _)).mono ?_;rintro e1 w7 ⟨rfl,hx7⟩;obtain ⟨HX7,k0',k1',k2',k3'⟩:=Hd5 hx7 (hx7.cell k0.o) (hx7.cell k1.o) (hx7.cell k2.o) (hx7.cell k3.o);have HI1':=Hd (fun w' (hw':Ext w7 w')=>HI1.o w' (HX7.o.trans hw'));have HI2':=Hd (fun w' (hw':Ext w7 w')=>HI2.o w' (HX7.o.trans hw'));clear hx7 c0 c1 c2 c3
 go_upto_region 3 with fail
 refine Qa (fun _ _=>False) [] ?_
 iterate 2 refine Qp ?_
 refine Qd (fun w' HXW=>HI1'.out w' HXW.o) ?_
 iterate 3 refine Qp ?_
 refine Qd (fun w' HXW=>HI2'.out w' HXW.o) ?_
 iterate 2 refine Qp ?_
 intro vals γ w8 hR hG;refine Qx ?_;have HX8:=Hd (show Ext w7 w8 from hR.ext0 (fun _ _ _ h=>h.elim));clear hR hG;go_wp2;go_ret;refine ⟨?_,(HX0.o.trans HX7.o).trans HX8.o⟩;rw [←HE.o];rfl

theorem GK{w:World}{g:Nat}(h:g=w.heap.size):Blk (w.alloc (.cells Az 39)) g 39 Az:=by
 rw [h];exact Blk.new _ _ _
theorem Jc(a:Abs)(A D:OA)(c e:Nat)(w:World)(S:NP)(hA:Strs w S A a.cols)(hD:RDeps w S D a.deps)(ht:Tens w)(hz:AbN 1000000 a) :
  Cl 22 #[(Aq a A c D e)] w (Ae w (Lq a)):=by
 obtain ⟨w0,hw0⟩:=eqx (w.alloc (.cells (Ap a A c D e) 39));obtain ⟨g1,hg1⟩:=eqx w.heap.size;have hx0:Ext w w0:=BS;have hb1:Blk w0 g1 39 (Ap a A c D e):=(by rw [hw0,hg1];exact Blk.new _ _ _);obtain ⟨HW0,HG1,HB1,HX0,HC⟩:=Hd5 hw0 hg1 hb1 hx0 (As a A D c e w0 S (hA.keep (hx0.kept _)) (hD.keep (hx0.kept _)) (ht.ext hx0) hz);obtain ⟨s,hs⟩:=eqx (AX a);have HE:=Hd (show Lq a=(decide (s.kinds=0)&&!s.errs) by rw [hs];rfl);rw [←hs] at HC;clear hw0 hg1 hb1 hx0 hA hD ht hz hs
 go_enter func22,ntmps22
 go_upto_region 1 with fail
 rw [←HW0.o,←HG1.o];refine wp_region_lit ?_;refine AJ rfl 39 _ rfl g1 rfl HB1.o AS AH ?_
 go_wp2_with fail
 refine HC.o.mono ?_;rintro e1 w1 ⟨A',c',D',e',rfl,-,hx1⟩;have HX1:=Hd (HX0.o.trans hx1);clear hx1;rename_i K1 hK1 K2 hK2;refine hK2 _ _ ?_;refine Ag rfl rfl ?_;obtain ⟨g3,hg3⟩:=eqx w1.heap.size;rw [←hg3];refine AM rfl 39 _ _ rfl g3 (Ap s A' c' D' e') rfl rfl 39 _ (GK hg3) AH rfl AD ?_;intro w2 hb3 ho2;have HX2:=Hd ((HX1.o.alloc _).only ho2 (by have:=HX1.o.size;omega));have q0:=hb3.q0;have q17:w2.cell? ⟨g3,17,none⟩=some (.bool s.errs):=hb3.q17;refine hK1 _ _ ?_;clear hK1 hK2 hb3 ho2 hg3;by_cases hk:s.kinds=0
 ·have hkk:(s.kinds==0)=true:=(by rw [hk];rfl);have HF:=Hd (show Lq a = !s.errs by rw [HE.o,decide_eq_true hk,Bool.true_and]);go_wp2;exact Tu
 ·have hkk:(s.kinds==0)=false:=Br;have HF:=Hd (show Lq a=false by rw [HE.o,decide_eq_false hk,Bool.false_and]);go_wp2;go_ret;exact ⟨by rw [HF.o];simp,HX2.o⟩

theorem Rj{w:World}{base c:Nat}{A:OA}{ls:List (List UInt8)}(h:Own w base 9 1 A ls.length c ((ls.map bsA).map Value.string))(hne:ls≠[])(hs:(Lib.join ls [32]).length≤140737488355328)(hn:ls.length≤1000) :
  Cl 100 #[.slice A ls.length c,.string ⟨#[32]⟩] w (Cu w (bsA (Lib.join ls [32]))):=by
 have hd:(ls.map bsA).map (fun x:BA=>x.data.toList)=ls:=by
  rw [List.map_map];(conv=>rhs;rw [←List.map_id ls]);exact List.map_congr_left fun x _=>rfl
 rcases h.rd with h0|⟨b,o,hA,-,hlt,hc⟩
 ·simp at h0;exact absurd h0 hne
 ·subst hA;have hl:(ls.map bsA).length=ls.length:=List.length_map _;have hj:=Any.strings_Join Tryz.lt156 Tryz.xt156 b o c (ls.map bsA) ⟨#[32]⟩ w (fun j x hj=>hc j _ (by rw [List.getElem?_map,hj];rfl)) hlt AA (by rw [hl];exact h.cap) (by rw [hd];exact hs);rw [hd,hl] at hj;exact hj

theorem QK(h:qP:=by
 rintro ee wz ⟨rfl,hx⟩;have HXZ:=Hd (HX.o.trans hx);clear hx hj hsz hbl;go_wp2;go_ret;exact ⟨by rw [HJN.o];rfl,HX0.o.trans HXZ.o⟩):qP:=h
theorem Pl(h:qP:=by
 rw [←hjn] at hj;have HJN:=Hd (show jn=res by rw [hjn,HRES.o];simp [Lib.join_cons,Lib.joinTail]);clear hjn;refine Calls.mono (show Cl 100 #[.slice A9 1 c9,.string ⟨#[32]⟩] w8 _ from hj) ?_;exact QK):qP:=h
theorem MM(h:qP:=by
 rw [←hca];exact As a A D c e w0 _ ((hA.mono (T:=fun b=>S b∧b<w.heap.size) fun i hi hs=>⟨hs,hi⟩).keep (hx0.kept _)) ((hD.mono (T:=fun b=>S b∧b<w.heap.size) fun i hi hs=>⟨hs,hi⟩).keep (hx0.kept _)) (ht.ext hx0).tens hz):qP:=h
theorem Od(h:qP:=by
 rw [show bt ca.kinds 2=false from by rw [HK.o];decide] at h;exact h):qP:=h
theorem Tt(h:qP:=by
 have h:=BI ca A2 D2 c2 e2 3 (by omega) w5;rw [show bt ca.kinds 3=false from by rw [HK.o];decide] at h;exact h):qP:=h
theorem Kg(h:qP:=by
 have h:=BI ca A2 D2 c2 e2 4 (by omega) w6;rw [show bt ca.kinds 4=false from by rw [HK.o];decide] at h;exact h):qP:=h
theorem LO(h:qP:=by
 have h:=BI ca A2 D2 c2 e2 5 (by omega) w7;rw [show bt ca.kinds 5=false from by rw [HK.o];decide] at h;exact h):qP:=h
theorem Ez(h:qP:=by rw [hg];exact Al):qP:=h
theorem Kw(h:qP:=by have h:=HB38.o.cell (i:=17) (u:=.bool ca.errs) rfl;rw [HER.o] at h;exact h):qP:=h
theorem MH(h:qP:=by have h:=HOW.o;rw [HTT.o] at h;exact h):qP:=h
theorem MC(h:qP:=by simp only [Lib.join_cons,Lib.joinTail,Lib.join_one,List.map_cons,List.map_nil,List.flatten_cons,List.flatten_nil,List.length_append,List.length_cons,List.length_nil];omega):qP:=h
theorem ON(a ca:Abs)(A D:OA)(c e:Nat)(w:World)(S:NP)(hA:Strs w S A a.cols)(hD:RDeps w S D a.deps)(hz:AbN 1000000 a)(ht:Txa w)(hca:AX a=ca)(hk:ca.kinds=2)(he:ca.errs=false)(hI:I64 ca.tx.least∧I64 ca.tx.most∧I64 ca.tx.cls∧ca.tx.b.size≤1000000∧ca.tx.e.size≤1000000)(hsz:(bsA (V1 ca.tx)).size≤3000000) :
  Cl 33 #[(Aq a A c D e)] w (Cu w (bsA ([116,101,120,116,40]++V1 ca.tx++[41]))):=by
 obtain ⟨w0,hw0⟩:=eqx (w.alloc (.cells (Ap a A c D e) 39));obtain ⟨g1,hg1⟩:=eqx w.heap.size;have hx0:Ext w w0:=BS;obtain ⟨res,hres⟩:=eqx (bsA ([116,101,120,116,40]++V1 ca.tx++[41]));rw [←hres];have HRES:=Hd hres;clear hres;obtain ⟨HX0,HB1,HT0,HI,HSZ,HK,HER⟩:=Hd7 hx0 (show Blk w0 g1 39 (Ap a A c D e) by rw [hw0,hg1];exact Blk.new _ _ _) (ht.ext hx0) hI hsz hk he;have HCA:=Hd (show Cl 47 #[(Aq a A c D e)] w0 (Eh w0 (fun b=>S b∧b<w.heap.size) ca) by
  exact MM)
 have HW0:=Hd hw0;have HG1:=Hd hg1;clear hw0 hg1 hx0 hI hsz hk he hA hD hz ht hca
 go_enter func33,ntmps33
 go_upto_region 1 with fail
 rw [←HW0.o,←HG1.o];refine wp_region_lit ?_;refine AJ rfl 39 _ rfl g1 rfl HB1.o AS AH ?_
 go_wp2_with fail
 refine HCA.o.mono ?_;rintro ee wt ⟨A2,c2,D2,e2,rfl,hab,hxt⟩;rename_i K1 hK1 K2 hK2;refine hK2 _ _ ?_;refine Ag rfl rfl ?_;obtain ⟨g3,hg⟩:=eqx wt.heap.size;rw [←hg];refine AM rfl 39 _ _ rfl g3 (Ap ca A2 c2 D2 e2) rfl rfl 39 _ (GK hg) AH rfl AD ?_;intro w1 hb ho;refine hK1 _ _ ?_;have hxo:Ext wt w1:=(exaa wt).only ho Ez;have HX1:=Hd (hxt.trans hxo);have HB31:=Hd hb;clear hK1 hK2 hb ho hxo hxt hab hg
 go_frame
 go_upto_region 3 with fail
 have HH:=Hd (show Cl 84 #[(Aq ca A2 c2 D2 e2),.I 1] w1 (Ae w1 true) by
  have h:=BI ca A2 D2 c2 e2 1 AA w1;rw [show bt ca.kinds 1=true from by rw [HK.o];decide] at h;exact h)
 refine wp_region_lit ?_;refine AJ rfl 39 _ rfl g3 rfl HB31.o AS AH ?_
 go_wp2_with fail
 refine HH.o.mono ?_;rintro ee w2 ⟨rfl,hx⟩;have HX2:=Hd (HX1.o.trans hx);have HB32:=Hd (HB31.o.keep (hx.kept _));clear hx HH HX1 HB31
 go_upto_region 4 with fail
 have m1:=HB32.o.q1;have m2:=HB32.o.q2;have m3:=HB32.o.q3;have m4:=HB32.o.q4;have m5:=HB32.o.q5
 go_wp2_with fail
 have hI:=HI.o;refine (BSA ca.tx hI.1 hI.2.1 hI.2.2.1 hI.2.2.2.1 hI.2.2.2.2 _ (HT0.o.ext HX2.o)).mono ?_;rintro ee w3 ⟨rfl,hx⟩;have HX3:=Hd (HX2.o.trans hx);have HB33:=Hd (HB32.o.keep (hx.kept _));clear hx hI HX2 HB32 m1 m2 m3 m4 m5;obtain ⟨tx,htx⟩:=eqx (bsA (V1 ca.tx));rw [←htx];have hsz:tx.size≤3000000:=(by rw [htx];exact HSZ.o);have HTX:=Hd htx;have hsl:(⟨#[116,101,120,116,40]⟩:BA).size=5:=rfl;have hs1:¬(9223372036854775807<5+tx.size):=AA;have hs2:¬(9223372036854775807<5+tx.size+1):=AA;have HON:=Hd (OwnSs.nil w3 w0.heap.size);clear htx hsl;obtain ⟨M,hM⟩:=eqx w3.heap.size;have HM:=Hd (show w0.heap.size≤M by rw [hM];exact HX3.o.size);have HOC:=Hd (show Own w3 w0.heap.size 9 1 none 0 0 [] from (OwnSs.nil _ _).1);have hszw:=HX3.o.size;clear hM
 go_upto_region 5 with (at_builtin;go_must (refine AL rfl (.tmp 12) (.tmp 18) rfl tiS rfl (HOC.o.ext (exaa _)) rfl (Blk.rd (Blk.new _ _ _)) rfl AP AA AB AI ?_);intro A9 c9 w9 hown9 hg9 hat9)
 obtain ⟨tt,htt⟩:=eqx ((⟨#[116,101,120,116,40]⟩:BA)++tx++⟨#[41]⟩);rw [←htt] at hown9 hg9;obtain ⟨HTT,HX4,HB34,HOW4⟩:=Hd4 (show tt=bsA ([116,101,120,116,40]++V1 ca.tx++[41]) by rw [htt,HTX.o,show (⟨#[116,101,120,116,40]⟩:BA)=bsA [116,101,120,116,40] from rfl,show (⟨#[41]⟩:BA)=bsA [41] from rfl,Cr,Cr]) (Ext.grown (HX3.o.alloc (.cells #[.string tt] 9)) hg9 (fun b hb=>by cases hb)) (HB33.o.keep ((Kept.alloc _ _ (.cells #[.string tt] 9)).trans (Kept.of_grown (S:=fun b=>b=g3) hg9 (fun b _ _ e=>by cases e)))) (show Own w9 w0.heap.size 9 1 A9 1 c9 [.string tt] from hown9);obtain ⟨w4,rfl⟩:=eqx w9;clear hown9 hg9 hat9 htt hs1 hs2 hsz HON HOC hszw HX3 HB33;have HH:=Hd (show Cl 84 #[(Aq ca A2 c2 D2 e2),.I 2] w4 (Ae w4 false) by
  have h:=BI ca A2 D2 c2 e2 2 AA w4;exact Od)
 refine wp_region_lit ?_;refine AJ rfl 39 _ rfl g3 rfl HB34.o AS AH ?_
 go_wp2_with fail
 refine HH.o.mono ?_;rintro ee w5 ⟨rfl,hx⟩;obtain ⟨HX5,HB35,HOW5⟩:=Hd3 (HX4.o.trans hx) (HB34.o.keep (hx.kept _)) (HOW4.o.ext hx);clear HOW4 hx HH HX4 HB34
 go_upto_region 7 with fail
 have HH:=Hd (show Cl 84 #[(Aq ca A2 c2 D2 e2),.I 3] w5 (Ae w5 false) by
  exact Tt)
 refine wp_region_lit ?_;refine AJ rfl 39 _ rfl g3 rfl HB35.o AS AH ?_
 go_wp2_with fail
 refine HH.o.mono ?_;rintro ee w6 ⟨rfl,hx⟩;obtain ⟨HX6,HB36,HOW6⟩:=Hd3 (HX5.o.trans hx) (HB35.o.keep (hx.kept _)) (HOW5.o.ext hx);clear HOW5 hx HH HX5 HB35
 go_upto_region 9 with fail
 have HH:=Hd (show Cl 84 #[(Aq ca A2 c2 D2 e2),.I 4] w6 (Ae w6 false) by
  exact Kg)
 refine wp_region_lit ?_;refine AJ rfl 39 _ rfl g3 rfl HB36.o AS AH ?_
 go_wp2_with fail
 refine HH.o.mono ?_;rintro ee w7 ⟨rfl,hx⟩;obtain ⟨HX7,HB37,HOW7⟩:=Hd3 (HX6.o.trans hx) (HB36.o.keep (hx.kept _)) (HOW6.o.ext hx);clear HOW6 hx HH HX6 HB36
 go_upto_region 11 with fail
 have HH:=Hd (show Cl 84 #[(Aq ca A2 c2 D2 e2),.I 5] w7 (Ae w7 false) by
  exact LO)
 refine wp_region_lit ?_;refine AJ rfl 39 _ rfl g3 rfl HB37.o AS AH ?_
 go_wp2_with fail
 refine HH.o.mono ?_;rintro ee w8 ⟨rfl,hx⟩;obtain ⟨HX8,HB38,HOW8⟩:=Hd3 (HX7.o.trans hx) (HB37.o.keep (hx.kept _)) (HOW7.o.ext hx);clear HOW7 hx HH HX7 HB37
 go_upto_region 19 with fail
 have m17:w8.cell? ⟨g3,17,none⟩=some (.bool false):=Kw;have HX:=HX8;have HOW:=HOW8
 go_upto_region 21 with fail
 clear m17
 go_wp2_with fail
 have hbl:∀ l:List UInt8,(bsA l).size=l.length:=fun l=>rfl;have hsz:=HSZ.o;rw [hbl] at hsz;have hj:=Rj (w:=w8) (base:=w0.heap.size) (c:=c9) (A:=A9) (ls:=[[116,101,120,116,40]++V1 ca.tx++[41]]) MH AC MC AC;obtain ⟨jn,hjn⟩:=eqx (bsA (Lib.join [[116,101,120,116,40]++V1 ca.tx++[41]] [32]));exact Pl

theorem Va(h:qP:=by
 have h:=BI ca A2 D2 c2 e2 1 (by omega) w1;rw [show bt ca.kinds 1=false from by rw [HK.o];decide] at h;exact h):qP:=h
theorem OI(a ca:Abs)(A D:OA)(c e:Nat)(w:World)(S:NP)(p q:Nat)(hA:Strs w S A a.cols)(hD:RDeps w S D a.deps)(hz:AbN 1000000 a)(ht:Txa w)(hca:AX a=ca)(hk:ca.kinds=4)(he:ca.errs=false)(hI:ca.nu.ls=p∧ca.nu.hs=q∧Dz ca.nu.ln ca.nu.ls=true∧Dz ca.nu.hn ca.nu.hs=true∧BF ca.nu=false)(hsz:(bsA (V3 ca.nu)).size≤3000000) :
  Cl 33 #[(Aq a A c D e)] w (Cu w (bsA ([110,117,109,98,101,114,40]++V3 ca.nu++[41]))):=by
 obtain ⟨w0,hw0⟩:=eqx (w.alloc (.cells (Ap a A c D e) 39));obtain ⟨g1,hg1⟩:=eqx w.heap.size;have hx0:Ext w w0:=BS;obtain ⟨res,hres⟩:=eqx (bsA ([110,117,109,98,101,114,40]++V3 ca.nu++[41]));rw [←hres];have HRES:=Hd hres;clear hres;obtain ⟨HX0,HB1,HT0,HI,HSZ,HK,HER⟩:=Hd7 hx0 (show Blk w0 g1 39 (Ap a A c D e) by rw [hw0,hg1];exact Blk.new _ _ _) (ht.ext hx0) hI hsz hk he;have HCA:=Hd (show Cl 47 #[(Aq a A c D e)] w0 (Eh w0 (fun b=>S b∧b<w.heap.size) ca) by
  exact MM)
 have HW0:=Hd hw0;have HG1:=Hd hg1;clear hw0 hg1 hx0 hI hsz hk he hA hD hz ht hca
 go_enter func33,ntmps33
 go_upto_region 1 with fail
 rw [←HW0.o,←HG1.o];refine wp_region_lit ?_;refine AJ rfl 39 _ rfl g1 rfl HB1.o AS AH ?_
 go_wp2_with fail
 refine HCA.o.mono ?_;rintro ee wt ⟨A2,c2,D2,e2,rfl,hab,hxt⟩;rename_i K1 hK1 K2 hK2;refine hK2 _ _ ?_;refine Ag rfl rfl ?_;obtain ⟨g3,hg⟩:=eqx wt.heap.size;rw [←hg];refine AM rfl 39 _ _ rfl g3 (Ap ca A2 c2 D2 e2) rfl rfl 39 _ (GK hg) AH rfl AD ?_;intro w1 hb ho;refine hK1 _ _ ?_;have hxo:Ext wt w1:=(exaa wt).only ho Ez;have HX1:=Hd (hxt.trans hxo);have HB31:=Hd hb;clear hK1 hK2 hb ho hxo hxt hab hg
 go_frame
 go_upto_region 3 with fail
 have HH:=Hd (show Cl 84 #[(Aq ca A2 c2 D2 e2),.I 1] w1 (Ae w1 false) by
  exact Va)
 refine wp_region_lit ?_;refine AJ rfl 39 _ rfl g3 rfl HB31.o AS AH ?_
 go_wp2_with fail
 refine HH.o.mono ?_;rintro ee w2 ⟨rfl,hx⟩;have HX2:=Hd (HX1.o.trans hx);have HB32:=Hd (HB31.o.keep (hx.kept _));clear hx HH HX1 HB31
 go_upto_region 5 with fail
 have HH:=Hd (show Cl 84 #[(Aq ca A2 c2 D2 e2),.I 2] w2 (Ae w2 true) by
  have h:=BI ca A2 D2 c2 e2 2 AA w2;rw [show bt ca.kinds 2=true from by rw [HK.o];decide] at h;exact h)
 refine wp_region_lit ?_;refine AJ rfl 39 _ rfl g3 rfl HB32.o AS AH ?_
 go_wp2_with fail
 refine HH.o.mono ?_;rintro ee w3 ⟨rfl,hx⟩;have HX3:=Hd (HX2.o.trans hx);have HB33:=Hd (HB32.o.keep (hx.kept _));clear hx HH HX2 HB32
 go_upto_region 6 with fail
 have m6:=HB33.o.q6;have m7:=HB33.o.q7;have m8:=HB33.o.q8;have m9:=HB33.o.q9
 go_wp2_with fail
 have hI:=HI.o;refine (Vc ca.nu p q hI.1 hI.2.1 hI.2.2.1 hI.2.2.2.1 hI.2.2.2.2 _ (HT0.o.ext HX3.o)).mono ?_;rintro ee w4 ⟨rfl,hx⟩;have HX4:=Hd (HX3.o.trans hx);have HB34:=Hd (HB33.o.keep (hx.kept _));clear hx hI HX3 HB33 m6 m7 m8 m9;obtain ⟨tx,htx⟩:=eqx (bsA (V3 ca.nu));rw [←htx];have hsz:tx.size≤3000000:=(by rw [htx];exact HSZ.o);have HTX:=Hd htx;have hsl:(⟨#[110,117,109,98,101,114,40]⟩:BA).size=7:=rfl;have hs1:¬(9223372036854775807<7+tx.size):=AA;have hs2:¬(9223372036854775807<7+tx.size+1):=AA;have HON:=Hd (OwnSs.nil w4 w0.heap.size);clear htx hsl;obtain ⟨M,hM⟩:=eqx w4.heap.size;have HM:=Hd (show w0.heap.size≤M by rw [hM];exact HX4.o.size);have HOC:=Hd (show Own w4 w0.heap.size 9 1 none 0 0 [] from (OwnSs.nil _ _).1);have hszw:=HX4.o.size;clear hM
 go_upto_region 7 with (at_builtin;go_must (refine AL rfl (.tmp 22) (.tmp 28) rfl tiS rfl (HOC.o.ext (exaa _)) rfl (Blk.rd (Blk.new _ _ _)) rfl AP AA AB AI ?_);intro A9 c9 w9 hown9 hg9 hat9)
 obtain ⟨tt,htt⟩:=eqx ((⟨#[110,117,109,98,101,114,40]⟩:BA)++tx++⟨#[41]⟩);rw [←htt] at hown9 hg9;obtain ⟨HTT,HX5,HB35,HOW5⟩:=Hd4 (show tt=bsA ([110,117,109,98,101,114,40]++V3 ca.nu++[41]) by rw [htt,HTX.o,show (⟨#[110,117,109,98,101,114,40]⟩:BA)=bsA [110,117,109,98,101,114,40] from rfl,show (⟨#[41]⟩:BA)=bsA [41] from rfl,Cr,Cr]) (Ext.grown (HX4.o.alloc (.cells #[.string tt] 9)) hg9 (fun b hb=>by cases hb)) (HB34.o.keep ((Kept.alloc _ _ (.cells #[.string tt] 9)).trans (Kept.of_grown (S:=fun b=>b=g3) hg9 (fun b _ _ e=>by cases e)))) (show Own w9 w0.heap.size 9 1 A9 1 c9 [.string tt] from hown9);obtain ⟨w5,rfl⟩:=eqx w9;clear hown9 hg9 hat9 htt hs1 hs2 hsz HON HOC hszw HX4 HB34;have HH:=Hd (show Cl 84 #[(Aq ca A2 c2 D2 e2),.I 3] w5 (Ae w5 false) by
  exact Tt)
 refine wp_region_lit ?_;refine AJ rfl 39 _ rfl g3 rfl HB35.o AS AH ?_
 go_wp2_with fail
 refine HH.o.mono ?_;rintro ee w6 ⟨rfl,hx⟩;obtain ⟨HX6,HB36,HOW6⟩:=Hd3 (HX5.o.trans hx) (HB35.o.keep (hx.kept _)) (HOW5.o.ext hx);clear HOW5 hx HH HX5 HB35
 go_upto_region 9 with fail
 have HH:=Hd (show Cl 84 #[(Aq ca A2 c2 D2 e2),.I 4] w6 (Ae w6 false) by
  exact Kg)
 refine wp_region_lit ?_;refine AJ rfl 39 _ rfl g3 rfl HB36.o AS AH ?_
 go_wp2_with fail
 refine HH.o.mono ?_;rintro ee w7 ⟨rfl,hx⟩;obtain ⟨HX7,HB37,HOW7⟩:=Hd3 (HX6.o.trans hx) (HB36.o.keep (hx.kept _)) (HOW6.o.ext hx);clear HOW6 hx HH HX6 HB36
 go_upto_region 11 with fail
 have HH:=Hd (show Cl 84 #[(Aq ca A2 c2 D2 e2),.I 5] w7 (Ae w7 false) by
  exact LO)
 refine wp_region_lit ?_;refine AJ rfl 39 _ rfl g3 rfl HB37.o AS AH ?_
 go_wp2_with fail
 refine HH.o.mono ?_;rintro ee w8 ⟨rfl,hx⟩;obtain ⟨HX8,HB38,HOW8⟩:=Hd3 (HX7.o.trans hx) (HB37.o.keep (hx.kept _)) (HOW7.o.ext hx);clear HOW7 hx HH HX7 HB37
 go_upto_region 19 with fail
 have m17:w8.cell? ⟨g3,17,none⟩=some (.bool false):=Kw;have HX:=HX8;have HOW:=HOW8
 go_upto_region 21 with fail
 clear m17
 go_wp2_with fail
 have hbl:∀ l:List UInt8,(bsA l).size=l.length:=fun l=>rfl;have hsz:=HSZ.o;rw [hbl] at hsz;have hj:=Rj (w:=w8) (base:=w0.heap.size) (c:=c9) (A:=A9) (ls:=[[110,117,109,98,101,114,40]++V3 ca.nu++[41]]) MH AC MC AC;obtain ⟨jn,hjn⟩:=eqx (bsA (Lib.join [[110,117,109,98,101,114,40]++V3 ca.nu++[41]] [32]));exact Pl

theorem OP(a ca:Abs)(A D:OA)(c e:Nat)(w:World)(S:NP)(hA:Strs w S A a.cols)(hD:RDeps w S D a.deps)(hz:AbN 1000000 a)(ht:Txa w)(hca:AX a=ca)(hk:ca.kinds=8)(he:ca.errs=true)(hI:I64 ca.dl∧I64 ca.dh)(hsz:(bsA (V9 ca.dl ca.dh)).size≤3000000) :
  Cl 33 #[(Aq a A c D e)] w (Cu w (bsA ([100,97,116,101,40]++V9 ca.dl ca.dh++[41]++[32]++[101,114,114,111,114]))):=by
 obtain ⟨w0,hw0⟩:=eqx (w.alloc (.cells (Ap a A c D e) 39));obtain ⟨g1,hg1⟩:=eqx w.heap.size;have hx0:Ext w w0:=BS;obtain ⟨res,hres⟩:=eqx (bsA ([100,97,116,101,40]++V9 ca.dl ca.dh++[41]++[32]++[101,114,114,111,114]));rw [←hres];have HRES:=Hd hres;clear hres;obtain ⟨HX0,HB1,HT0,HI,HSZ,HK,HER⟩:=Hd7 hx0 (show Blk w0 g1 39 (Ap a A c D e) by rw [hw0,hg1];exact Blk.new _ _ _) (ht.ext hx0) hI hsz hk he;have HCA:=Hd (show Cl 47 #[(Aq a A c D e)] w0 (Eh w0 (fun b=>S b∧b<w.heap.size) ca) by
  exact MM)
 have HW0:=Hd hw0;have HG1:=Hd hg1;clear hw0 hg1 hx0 hI hsz hk he hA hD hz ht hca
 go_enter func33,ntmps33
 go_upto_region 1 with fail
 rw [←HW0.o,←HG1.o];refine wp_region_lit ?_;refine AJ rfl 39 _ rfl g1 rfl HB1.o AS AH ?_
 go_wp2_with fail
 refine HCA.o.mono ?_;rintro ee wt ⟨A2,c2,D2,e2,rfl,hab,hxt⟩;rename_i K1 hK1 K2 hK2;refine hK2 _ _ ?_;refine Ag rfl rfl ?_;obtain ⟨g3,hg⟩:=eqx wt.heap.size;rw [←hg];refine AM rfl 39 _ _ rfl g3 (Ap ca A2 c2 D2 e2) rfl rfl 39 _ (GK hg) AH rfl AD ?_;intro w1 hb ho;refine hK1 _ _ ?_;have hxo:Ext wt w1:=(exaa wt).only ho Ez;have HX1:=Hd (hxt.trans hxo);have HB31:=Hd hb;clear hK1 hK2 hb ho hxo hxt hab hg
 go_frame
 go_upto_region 3 with fail
 have HH:=Hd (show Cl 84 #[(Aq ca A2 c2 D2 e2),.I 1] w1 (Ae w1 false) by
  exact Va)
 refine wp_region_lit ?_;refine AJ rfl 39 _ rfl g3 rfl HB31.o AS AH ?_
 go_wp2_with fail
 refine HH.o.mono ?_;rintro ee w2 ⟨rfl,hx⟩;have HX2:=Hd (HX1.o.trans hx);have HB32:=Hd (HB31.o.keep (hx.kept _));clear hx HH HX1 HB31
 go_upto_region 5 with fail
 have HH:=Hd (show Cl 84 #[(Aq ca A2 c2 D2 e2),.I 2] w2 (Ae w2 false) by
  have h:=BI ca A2 D2 c2 e2 2 AA w2;exact Od)
 refine wp_region_lit ?_;refine AJ rfl 39 _ rfl g3 rfl HB32.o AS AH ?_
 go_wp2_with fail
 refine HH.o.mono ?_;rintro ee w3 ⟨rfl,hx⟩;have HX3:=Hd (HX2.o.trans hx);have HB33:=Hd (HB32.o.keep (hx.kept _));clear hx HH HX2 HB32
 go_upto_region 7 with fail
 have HH:=Hd (show Cl 84 #[(Aq ca A2 c2 D2 e2),.I 3] w3 (Ae w3 true) by
  have h:=BI ca A2 D2 c2 e2 3 AA w3;rw [show bt ca.kinds 3=true from by rw [HK.o];decide] at h;exact h)
 refine wp_region_lit ?_;refine AJ rfl 39 _ rfl g3 rfl HB33.o AS AH ?_
 go_wp2_with fail
 refine HH.o.mono ?_;rintro ee w4 ⟨rfl,hx⟩;have HX4:=Hd (HX3.o.trans hx);have HB34:=Hd (HB33.o.keep (hx.kept _));clear hx HH HX3 HB33
 go_upto_region 8 with fail
 have m10:=HB34.o.q10;have m11:=HB34.o.q11
 go_wp2_with fail
 have hI:=HI.o;refine (M7 ca.dl ca.dh hI.1 hI.2 _ (HT0.o.ext HX4.o)).mono ?_;rintro ee w5 ⟨rfl,hx⟩;have HX5:=Hd (HX4.o.trans hx);have HB35:=Hd (HB34.o.keep (hx.kept _));clear hx hI HX4 HB34 m10 m11;obtain ⟨tx,htx⟩:=eqx (bsA (V9 ca.dl ca.dh));rw [←htx];have hsz:tx.size≤3000000:=(by rw [htx];exact HSZ.o);have HTX:=Hd htx;have hsl:(⟨#[100,97,116,101,40]⟩:BA).size=5:=rfl;have hs1:¬(9223372036854775807<5+tx.size):=AA;have hs2:¬(9223372036854775807<5+tx.size+1):=AA;have HON:=Hd (OwnSs.nil w5 w0.heap.size);clear htx hsl;obtain ⟨M,hM⟩:=eqx w5.heap.size;have HM:=Hd (show w0.heap.size≤M by rw [hM];exact HX5.o.size);have HOC:=Hd (show Own w5 w0.heap.size 9 1 none 0 0 [] from (OwnSs.nil _ _).1);have hszw:=HX5.o.size;clear hM
 go_upto_region 9 with (at_builtin;go_must (refine AL rfl (.tmp 32) (.tmp 38) rfl tiS rfl (HOC.o.ext (exaa _)) rfl (Blk.rd (Blk.new _ _ _)) rfl AP AA AB AI ?_);intro A9 c9 w9 hown9 hg9 hat9)
 obtain ⟨tt,htt⟩:=eqx ((⟨#[100,97,116,101,40]⟩:BA)++tx++⟨#[41]⟩);rw [←htt] at hown9 hg9;obtain ⟨HTT,HX6,HB36,HOW6⟩:=Hd4 (show tt=bsA ([100,97,116,101,40]++V9 ca.dl ca.dh++[41]) by rw [htt,HTX.o,show (⟨#[100,97,116,101,40]⟩:BA)=bsA [100,97,116,101,40] from rfl,show (⟨#[41]⟩:BA)=bsA [41] from rfl,Cr,Cr]) (Ext.grown (HX5.o.alloc (.cells #[.string tt] 9)) hg9 (fun b hb=>by cases hb)) (HB35.o.keep ((Kept.alloc _ _ (.cells #[.string tt] 9)).trans (Kept.of_grown (S:=fun b=>b=g3) hg9 (fun b _ _ e=>by cases e)))) (show Own w9 w0.heap.size 9 1 A9 1 c9 [.string tt] from hown9);obtain ⟨w6,rfl⟩:=eqx w9;clear hown9 hg9 hat9 htt hs1 hs2 hsz HON HOC hszw HX5 HB35;have HH:=Hd (show Cl 84 #[(Aq ca A2 c2 D2 e2),.I 4] w6 (Ae w6 false) by
  exact Kg)
 refine wp_region_lit ?_;refine AJ rfl 39 _ rfl g3 rfl HB36.o AS AH ?_
 go_wp2_with fail
 refine HH.o.mono ?_;rintro ee w7 ⟨rfl,hx⟩;obtain ⟨HX7,HB37,HOW7⟩:=Hd3 (HX6.o.trans hx) (HB36.o.keep (hx.kept _)) (HOW6.o.ext hx);clear HOW6 hx HH HX6 HB36
 go_upto_region 11 with fail
 have HH:=Hd (show Cl 84 #[(Aq ca A2 c2 D2 e2),.I 5] w7 (Ae w7 false) by
  exact LO)
 refine wp_region_lit ?_;refine AJ rfl 39 _ rfl g3 rfl HB37.o AS AH ?_
 go_wp2_with fail
 refine HH.o.mono ?_;rintro ee w8 ⟨rfl,hx⟩;obtain ⟨HX8,HB38,HOW8⟩:=Hd3 (HX7.o.trans hx) (HB37.o.keep (hx.kept _)) (HOW7.o.ext hx);clear HOW7 hx HH HX7 HB37
 go_upto_region 19 with fail
 have m17:w8.cell? ⟨g3,17,none⟩=some (.bool true):=Kw
 go_upto_region 20 with fail
 have hszw:=HX8.o.size
 go_upto_region 21 with (at_builtin;go_must (refine AL rfl (.tmp 86) (.tmp 87) rfl tiS rfl (HOW8.o.ext (exaa _)) rfl (Blk.rd (Blk.new _ _ _)) rfl AP AA AB AI ?_);intro A8 c8 w8 hown8 hg8 hat8)
 have hx8:=Ext.grown (HX8.o.alloc (.cells #[.string ⟨#[101,114,114,111,114]⟩] 9)) hg8 (fun b hb=>(HOW8.o.blk hb).1);have HX:=Hd hx8;have HOW:=Hd (show Own w8 w0.heap.size 9 1 A8 2 c8 [.string tt,.string ⟨#[101,114,114,111,114]⟩] from hown8);clear m17 hown8 hg8 hat8 hx8 hszw
 go_wp2_with fail
 have hbl:∀ l:List UInt8,(bsA l).size=l.length:=fun l=>rfl;have hsz:=HSZ.o;rw [hbl] at hsz;have hj:=Rj (w:=w8) (base:=w0.heap.size) (c:=c8) (A:=A8) (ls:=[[100,97,116,101,40]++V9 ca.dl ca.dh++[41],[101,114,114,111,114]]) MH AC MC AC;obtain ⟨jn,hjn⟩:=eqx (bsA (Lib.join [[100,97,116,101,40]++V9 ca.dl ca.dh++[41],[101,114,114,111,114]] [32]));rw [←hjn] at hj;have HJN:=Hd (show jn=res by rw [hjn,HRES.o];simp [Lib.join_cons,Lib.joinTail]);clear hjn;refine Calls.mono (show Cl 100 #[.slice A8 2 c8,.string ⟨#[32]⟩] w8 _ from hj) ?_;exact QK
end Go.Proofs.YtidacnalcdhckaaGreatDoor
