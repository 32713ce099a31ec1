/- Lemmas. No conditions. -/
import Derived.Test.YtaccjdppmmoepaaGreatDoorXq14
set_option maxRecDepth 100000
set_option maxHeartbeats 4000000
namespace Go.Proofs.YtaccjdppmmoepaaGreatDoor
open Go Go.RowKit Tryz
variable {qP:Prop}{v:Val}{w:World}

def Nv(s:BA):List UInt8:=Lib.itoa (s.size:Int)++[58]++s.data.toList
def V1(a:Sh):List UInt8:=Lib.itoa a.least++[32]++Lib.itoa a.most++[32]++Lib.itoa a.cls++[32]++Nv a.b++[32]++Nv a.e
def V3(r:Rg):List UInt8:=OL r.ln r.ls.toNat++[46,46]++OL r.hn r.hs.toNat
def V9(l h:Int):List UInt8:=Lib.itoa l++[46,46]++Lib.itoa h
theorem GLA(s:BA):bsA s.data.toList=s:=rfl
theorem X7(a:UInt8):(⟨#[a]⟩:BA)=bsA [a]:=rfl
theorem YE(a b:UInt8):(⟨#[a,b]⟩:BA)=bsA [a,b]:=rfl
def I64(n:Int):Prop:=-9223372036854775808<=n/\n<=9223372036854775807
theorem Hq(n:Int)(h:I64 n):(bsA (Lib.itoa n)).size<=21:=Lib.itoa_length_le n h.1 h.2
theorem We(s:BA)(hs:s.size<=1000000):(bsA (Nv s)).size<=1000100:=by
 show (Nv s).length<=1000100;unfold Nv;have h:=Mr s.size AA;have h2:s.data.toList.length=s.size:=rfl;rw [List.length_append,List.length_append,List.length_singleton];omega
theorem Wk(n:Int)(s:Nat)(h:Dz n (s:Int)=true):(bsA (OL n s)).size<=60:=by
 have hv:Bg n s=(n,(s:Int)):=(by simp [Bg,h]);have hrg:=GX n s;rw [hv] at hrg;obtain ⟨-,hs6,U,hn1⟩:=hrg;show (OL n s).length<=60;have O:(Lib.decDigits n.natAbs).length<=21:=(by have h:=Mr n.natAbs AA;rw [Lib.itoa_nonneg] at h;exact h);have h1:(V2 n s).length<=28:=by
  unfold V2;rw [List.length_append,Lib.repeatL_length];simp;omega
 have h2:(XH n s).length<=29:=by
  unfold XH;split
  ·simp;omega
  ·omega
 unfold OL;split
 ·simp;omega
 ·omega
theorem TH(s:BA)(hs:s.size<=1000000)(w:World)(h:Txa w):Cl 117 #[.string s] w (Cu w (bsA (Nv s))):=by
 obtain ⟨z,O⟩:=eqx (bsA (Lib.itoa (s.size:Int)));have HI:=Hd (GC (s.size:Int) AA AA w h);have hil:=Mr s.size AA;have U:z.size<=21:=(by rw [O];exact hil);rw [<-O] at HI;have HZ:=Hd O;clear O hil h
 go_enter func117,ntmps117
 go_wp2_with fail
 refine HI.o.mono ?_;rintro e1 w1 ⟨rfl,hx1⟩;have HX:=Hd hx1;clear hx1
 go_wp2_with fail
 go_ret;refine ⟨?_,HX.o⟩;show Ending.returned (Value.string (z++⟨#[58]⟩++s))=_;rw [HZ.o,X7,Cr];(conv=>lhs;rw [<-GLA s,Cr]);rfl
theorem BSA(a:Sh)(h1:I64 a.least)(h2:I64 a.most)(h3:I64 a.cls)(hb:a.b.size<=1000000)(he:a.e.size<=1000000)(w:World)(h:Txa w):Cl 60 #[(Sq a)] w (Cu w (bsA (V1 a))):=by
 obtain ⟨w0,hw0⟩:=eqx (w.alloc (.cells (Sp a) 26));obtain ⟨g,hg⟩:=eqx w.heap.size;have hx0:Ext w w0:=BS;obtain ⟨Y,HW0,HG,HX0⟩:=Hd4 (show Blk w0 g 26 (Sp a) by rw [hw0,hg];exact Blk.new _ _ _) hw0 hg hx0;obtain ⟨k0,k1,k2,k3,k4⟩:=Hd5 (show w0.cell? ⟨g,0,none⟩=some (.I a.least) from Y.o.q0) (show w0.cell? ⟨g,1,none⟩=some (.I a.most) from Y.o.q1) (show w0.cell? ⟨g,2,none⟩=some (.I a.cls) from Y.o.q2) (show w0.cell? ⟨g,3,none⟩=some (.string a.b) from Y.o.q3) (show w0.cell? ⟨g,4,none⟩=some (.string a.e) from Y.o.q4);obtain ⟨i1,a9⟩:=eqx (bsA (Lib.itoa a.least));have HI1:=Hd (show ∀ J,Ext w0 J->Cl 63 #[.I a.least] J (Cu J i1) from λJ hw'=>by rw [a9];exact GC _ h1.1 h1.2 J (h.ext (hx0.trans hw')));obtain ⟨O,Z⟩:=eqx (bsA (Lib.itoa a.most));have HI2:=Hd (show ∀ J,Ext w0 J->Cl 63 #[.I a.most] J (Cu J O) from λJ hw'=>by rw [Z];exact GC _ h2.1 h2.2 J (h.ext (hx0.trans hw')));obtain ⟨U,a8⟩:=eqx (bsA (Lib.itoa a.cls));have HI3:=Hd (show ∀ J,Ext w0 J->Cl 63 #[.I a.cls] J (Cu J U) from λJ hw'=>by rw [a8];exact GC _ h3.1 h3.2 J (h.ext (hx0.trans hw')));obtain ⟨i4,b3⟩:=eqx (bsA (Nv a.b));have HI4:=Hd (show ∀ J,Ext w0 J->Cl 117 #[.string a.b] J (Cu J i4) from λJ hw'=>by rw [b3];exact TH _ hb J (h.ext (hx0.trans hw')));obtain ⟨i5,b0⟩:=eqx (bsA (Nv a.e));have HI5:=Hd (show ∀ J,Ext w0 J->Cl 117 #[.string a.e] J (Cu J i5) from λJ hw'=>by rw [b0];exact TH _ he J (h.ext (hx0.trans hw')));have z1:i1.size<=21:=(by rw [a9];exact Hq _ h1);have z2:O.size<=21:=(by rw [Z];exact Hq _ h2);have z3:U.size<=21:=(by rw [a8];exact Hq _ h3);have z4:i4.size<=1000100:=(by rw [b3];exact We _ hb);have z5:i5.size<=1000100:=(by rw [b0];exact We _ he);have hc1:¬(9223372036854775807<i1.size+1):=AA;have hc2:¬(9223372036854775807<i1.size+1+O.size):=AA;have hc3:¬(9223372036854775807<i1.size+1+O.size+1):=AA;have hc4:¬(9223372036854775807<i1.size+1+O.size+1+U.size):=AA;have hc5:¬(9223372036854775807<i1.size+1+O.size+1+U.size+1):=AA;have hc6:¬(9223372036854775807<i1.size+1+O.size+1+U.size+1+i4.size):=AA;have hc7:¬(9223372036854775807<i1.size+1+O.size+1+U.size+1+i4.size+1):=AA;have hc8:¬(9223372036854775807<i1.size+1+O.size+1+U.size+1+i4.size+1+i5.size):=AA;have HE:=Hd (show i1++⟨#[32]⟩++O++⟨#[32]⟩++U++⟨#[32]⟩++i4++⟨#[32]⟩++i5=bsA (V1 a) by
  rw [a9,Z,a8,b3,b0,X7];simp only [Cr];rfl)
 clear hw0 hg hx0 a9 Z a8 b3 b0 h h1 h2 h3 hb he z1 z2 z3 z4 z5
 go_enter func60,ntmps60
 go_upto_region 1 with fail
 rw [<-HW0.o,<-HG.o];refine Qa (λ_ _=>False) [] ?_
 iterate 2 refine Qp ?_
 refine Qd (λJ HXW=>HI1.o J HXW.o) ?_
 iterate 3 refine Qp ?_
 refine Qd (λJ HXW=>HI2.o J HXW.o) ?_
 iterate 4 refine Qp ?_
 refine Qd (λJ HXW=>HI3.o J HXW.o) ?_
 iterate 2 refine Qp ?_
 intro V F w8 hR hG;refine Qx ?_;have HX8:=Hd (show Ext w0 w8 from hR.ext0 (λ_ _ _ h=>h.elim));clear hR hG;obtain ⟨k3',k4',HI4',HI5'⟩:=Hd4 (HX8.o.cell k3.o) (HX8.o.cell k4.o) (λJ (hw':Ext w8 J)=>HI4.o J (HX8.o.trans hw')) (λJ (hw':Ext w8 J)=>HI5.o J (HX8.o.trans hw'))
 go_upto_region 2 with fail
 refine Qa (λ_ _=>False) [] ?_
 iterate 4 refine Qp ?_
 refine Qd (λJ HXW=>HI4'.out J HXW.o) ?_
 iterate 4 refine Qp ?_
 refine Qd (λJ HXW=>HI5'.out J HXW.o) ?_
 iterate 2 refine Qp ?_
 intro V F w9 hR hG;refine Qx ?_;have HX9:=Hd (show Ext w8 w9 from hR.ext0 (λ_ _ _ h=>h.elim));clear hR hG;go_wp2;go_ret;refine ⟨?_,(HX0.o.trans HX8.o).trans HX9.o⟩;rw [<-HE.o];rfl
theorem M7(l n:Int)(h1:I64 l)(h2:I64 n)(w:World)(h:Txa w):Cl 62 #[.agg #[.I l,.I n]] w (Cu w (bsA (V9 l n))):=by
 obtain ⟨w0,hw0⟩:=eqx (w.alloc (.cells #[.I l,.I n] 32));obtain ⟨g,hg⟩:=eqx w.heap.size;have hx0:Ext w w0:=BS;obtain ⟨Z,b0,HG,HX0⟩:=Hd4 (show Blk w0 g 32 #[.I l,.I n] by rw [hw0,hg];exact Blk.new _ _ _) hw0 hg hx0;have k0:=Hd (show w0.cell? ⟨g,0,none⟩=some (.I l) from Z.o.q0);have k1:=Hd (show w0.cell? ⟨g,1,none⟩=some (.I n) from Z.o.q1);obtain ⟨i1,U⟩:=eqx (bsA (Lib.itoa l));have a8:=Hd (show ∀ J,Ext w0 J->Cl 63 #[.I l] J (Cu J i1) from λJ hw'=>by rw [U];exact GC _ h1.1 h1.2 J (h.ext (hx0.trans hw')));obtain ⟨Y,O⟩:=eqx (bsA (Lib.itoa n));have a9:=Hd (show ∀ J,Ext w0 J->Cl 63 #[.I n] J (Cu J Y) from λJ hw'=>by rw [O];exact GC _ h2.1 h2.2 J (h.ext (hx0.trans hw')));have z1:i1.size<=21:=(by rw [U];exact Hq _ h1);have z2:Y.size<=21:=(by rw [O];exact Hq _ h2);have b3:¬(9223372036854775807<i1.size+2):=AA;have b4:¬(9223372036854775807<i1.size+2+Y.size):=AA;have HE:=Hd (show i1++⟨#[46,46]⟩++Y=bsA (V9 l n) by
  rw [U,O,YE];simp only [Cr];rfl)
 clear hw0 hg hx0 U O h h1 h2 z1 z2
 go_enter func62,ntmps62
 go_upto_region 1 with fail
 rw [<-b0.o,<-HG.o];refine Qa (λ_ _=>False) [] ?_
 iterate 2 refine Qp ?_
 refine Qd (λJ HXW=>a8.o J HXW.o) ?_
 iterate 3 refine Qp ?_
 refine Qd (λJ HXW=>a9.o J HXW.o) ?_
 iterate 2 refine Qp ?_
 intro V F w8 hR hG;refine Qx ?_;have HX8:=Hd (show Ext w0 w8 from hR.ext0 (λ_ _ _ h=>h.elim));clear hR hG;go_wp2;go_ret;refine ⟨?_,HX0.o.trans HX8.o⟩;rw [<-HE.o];rfl
theorem Vc(r:Rg)(p q:Nat)(hp:r.ls=p)(hq:r.hs=q)(h1:Dz r.ln r.ls=true)(h2:Dz r.hn r.hs=true)(hem:BF r=false)(w:World)(h:Txa w):Cl 61 #[(Rq r)] w (Cu w (bsA (V3 r))):=by
 obtain ⟨w0,hw0⟩:=eqx (w.alloc (.cells (Rp r) 30));obtain ⟨g,hg⟩:=eqx w.heap.size;have hx0:Ext w w0:=BS;obtain ⟨Y,HW0,HG,HX0⟩:=Hd4 (show Blk w0 g 30 (Rp r) by rw [hw0,hg];exact Blk.new _ _ _) hw0 hg hx0;obtain ⟨k0,k1,k2,k3⟩:=Hd4 (show w0.cell? ⟨g,0,none⟩=some (.I r.ln) from Y.o.q0) (show w0.cell? ⟨g,1,none⟩=some (.I r.ls) from Y.o.q1) (show w0.cell? ⟨g,2,none⟩=some (.I r.hn) from Y.o.q2) (show w0.cell? ⟨g,3,none⟩=some (.I r.hs) from Y.o.q3);obtain ⟨i1,Z⟩:=eqx (bsA (OL r.ln r.ls.toNat));obtain ⟨i2,U⟩:=eqx (bsA (OL r.hn r.hs.toNat));obtain ⟨HI1,HI2,HEM⟩:=Hd3 (show ∀ J,Ext w0 J->Cl 119 #[.agg #[.I r.ln,.I r.ls]] J (Cu J i1) from λJ hw'=>by rw [Z,hp];exact KR r.ln p (by rw [<-hp];exact h1) J (h.ext (hx0.trans hw'))) (show ∀ J,Ext w0 J->Cl 119 #[.agg #[.I r.hn,.I r.hs]] J (Cu J i2) from λJ hw'=>by rw [U,hq];exact KR r.hn q (by rw [<-hq];exact h2) J (h.ext (hx0.trans hw'))) (show ∀ J,Ext w0 J->Cl 118 #[(Rq r)] J (Ae J false) from λJ hw'=>by have:=Ct r J (h.ext (hx0.trans hw')).tens;rw [hem] at this;exact this);have z1:i1.size<=60:=(by rw [Z];have:=h1;rw [hp] at this|-;exact Wk _ _ this);have z2:i2.size<=60:=(by rw [U];have:=h2;rw [hq] at this|-;exact Wk _ _ this);have hc1:¬(9223372036854775807<i1.size+2):=AA;have hc2:¬(9223372036854775807<i1.size+2+i2.size):=AA;have HE:=Hd (show i1++⟨#[46,46]⟩++i2=bsA (V3 r) by
  rw [Z,U,YE];simp only [Cr];rfl)
 have c0:=k0.o;have c1:=k1.o;have c2:=k2.o;have c3:=k3.o;clear hw0 hg hx0 Z U h h1 h2 hem z1 z2 hp hq
 go_enter func61,ntmps61
 go_upto_region 1 with fail
 rw [<-HW0.o,<-HG.o]
 go_wp2_with fail
 refine (HEM.o _ (Ext.refl _)).mono ?_;rintro e1 w7 ⟨rfl,O⟩;obtain ⟨HX7,k0',k1',k2',k3'⟩:=Hd5 O (O.cell k0.o) (O.cell k1.o) (O.cell k2.o) (O.cell k3.o);have HI1':=Hd (λJ (hw':Ext w7 J)=>HI1.o J (HX7.o.trans hw'));have HI2':=Hd (λJ (hw':Ext w7 J)=>HI2.o J (HX7.o.trans hw'));clear O c0 c1 c2 c3
 go_upto_region 3 with fail
 refine Qa (λ_ _=>False) [] ?_
 iterate 2 refine Qp ?_
 refine Qd (λJ HXW=>HI1'.out J HXW.o) ?_
 iterate 3 refine Qp ?_
 refine Qd (λJ HXW=>HI2'.out J HXW.o) ?_
 iterate 2 refine Qp ?_
 intro V F w8 hR hG;refine Qx ?_;have HX8:=Hd (show Ext w7 w8 from hR.ext0 (λ_ _ _ h=>h.elim));clear hR hG;go_wp2;go_ret;refine ⟨?_,(HX0.o.trans HX7.o).trans HX8.o⟩;rw [<-HE.o];rfl

theorem GK{g:Nat}(h:g=w.heap.size):Blk (w.alloc (.cells Az 36)) g 36 Az:=by
 rw [h];exact Blk.new _ _ _
theorem VP(h:qP:=by
 have hkk:(s.kinds==0)=true:=(by rw [hk];rfl);have HF:=Hd (show Lq a = !s.errs by rw [HE.o,decide_eq_true hk,Bool.true_and]);go_wp2;exact Tu):qP:=h
theorem Jc(a:Abs)(A D:OA)(c e:Nat)(w:World)(S:NP)(hA:Strs w S A a.cols)(hD:RDeps w S D a.deps)(ht:Tens w)(hz:AbN 1000000 a) :
  Cl 12 #[(Aq a A c D e)] w (Ae w (Lq a)):=by
 obtain ⟨w0,hw0⟩:=eqx (w.alloc (.cells (Ap a A c D e) 36));obtain ⟨g1,hg1⟩:=eqx w.heap.size;have hx0:Ext w w0:=BS;have hb1:Blk w0 g1 36 (Ap a A c D e):=(by rw [hw0,hg1];exact Blk.new _ _ _);obtain ⟨Z,Y,HB1,HX0,HC⟩:=Hd5 hw0 hg1 hb1 hx0 (As a A D c e w0 S (hA.keep (hx0.kept _)) (hD.keep (hx0.kept _)) (ht.ext hx0) hz);obtain ⟨s,hs⟩:=eqx (AX a);have HE:=Hd (show Lq a=(decide (s.kinds=0)&&!s.errs) by rw [hs];rfl);rw [<-hs] at HC;clear hw0 hg1 hb1 hx0 hA hD ht hz hs
 go_enter func12,ntmps12
 go_upto_region 1 with fail
 rw [<-Z.o,<-Y.o];refine wp_region_lit ?_;refine AJ rfl 36 _ rfl g1 rfl HB1.o AS AH ?_
 go_wp2_with fail
 refine HC.o.mono ?_;rintro e1 w1 ⟨A',c',D',e',rfl,-,hx1⟩;have HX1:=Hd (HX0.o.trans hx1);clear hx1;rename_i K1 hK1 K2 hK2;refine hK2 _ _ ?_;refine Ag rfl rfl ?_;obtain ⟨g3,hg3⟩:=eqx w1.heap.size;rw [<-hg3];refine AM rfl 36 _ _ rfl g3 (Ap s A' c' D' e') rfl rfl 36 _ (GK hg3) AH rfl AD ?_;intro w2 O U;have HX2:=Hd ((HX1.o.alloc _).only U (by have:=HX1.o.size;omega));have q0:=O.q0;have q17:w2.cell? ⟨g3,17,none⟩=some (.bool s.errs):=O.q17;refine hK1 _ _ ?_;clear hK1 hK2 O U hg3;by_cases hk:s.kinds=0
 ·exact VP
 ·have hkk:(s.kinds==0)=false:=Br;have HF:=Hd (show Lq a=false by rw [HE.o,decide_eq_false hk,Bool.false_and]);go_wp2;go_ret;exact ⟨by rw [HF.o];simp,HX2.o⟩

theorem Rj{base c:Nat}{A:OA}{ls:List (List UInt8)}(h:Own w base 9 1 A ls.length c ((ls.map bsA).map Value.string))(hne:ls≠[])(hs:(Lib.join ls [32]).length<=140737488355328)(hn:ls.length<=1000) :
  Cl 64 #[.slice A ls.length c,.string ⟨#[32]⟩] w (Cu w (bsA (Lib.join ls [32]))):=by
 have hd:(ls.map bsA).map (λx:BA=>x.data.toList)=ls:=by
  rw [List.map_map];(conv=>rhs;rw [<-List.map_id ls]);exact List.map_congr_left λx _=>rfl
 rcases h.rd with h0|⟨b,o,hA,-,hlt,hc⟩
 ·simp at h0;exact absurd h0 hne
 ·subst hA;have hl:(ls.map bsA).length=ls.length:=List.length_map _;have hj:=Any.strings_Join Tryz.lt156 Tryz.xt156 b o c (ls.map bsA) ⟨#[32]⟩ w (λj x hj=>hc j _ (by rw [List.getElem?_map,hj];rfl)) hlt AA (by rw [hl];exact h.cap) (by rw [hd];exact hs);rw [hd,hl] at hj;exact hj

theorem QK(h:qP:=by
 rintro ee wz ⟨rfl,hx⟩;have HXZ:=Hd (HX.o.trans hx);clear hx hj hsz hbl;go_wp2;go_ret;exact ⟨by rw [HJN.o];rfl,HX0.o.trans HXZ.o⟩):qP:=h
theorem QC(h:qP:=by
 rw [<-hjn] at hj;have HJN:=Hd (show jn=res by rw [hjn,HRES.o];simp [Lib.join_cons,Lib.joinTail]);clear hjn;refine Calls.mono (show Cl 64 #[.slice A9 1 c9,.string ⟨#[32]⟩] w8 _ from hj) ?_;exact QK):qP:=h
theorem MM(h:qP:=by
 rw [<-hca];exact As a A D c e w0 _ ((hA.mono (T:=λb=>S b/\b<w.heap.size) λi hi hs=>⟨hs,hi⟩).keep (hx0.kept _)) ((hD.mono (T:=λb=>S b/\b<w.heap.size) λi hi hs=>⟨hs,hi⟩).keep (hx0.kept _)) (ht.ext hx0).tens hz):qP:=h
theorem Od(h:qP:=by
 rw [show bt ca.kinds 2=false from by rw [HK.o];decide] at h;exact h):qP:=h
theorem Tt(h:qP:=by
 have h:=BI ca A2 D2 c2 e2 3 (by omega) w5;rw [show bt ca.kinds 3=false from by rw [HK.o];decide] at h;exact h):qP:=h
theorem Kg(h:qP:=by
 have h:=BI ca A2 D2 c2 e2 4 (by omega) w6;rw [show bt ca.kinds 4=false from by rw [HK.o];decide] at h;exact h):qP:=h
theorem LO(h:qP:=by
 have h:=BI ca A2 D2 c2 e2 5 (by omega) w7;rw [show bt ca.kinds 5=false from by rw [HK.o];decide] at h;exact h):qP:=h
theorem Ez(h:qP:=by rw [hg];exact Al):qP:=h
theorem Kw(h:qP:=by have h:=HB38.o.cell (i:=17) (u:=.bool ca.errs) rfl;rw [HER.o] at h;exact h):qP:=h
theorem MH(h:qP:=by have h:=HOW.o;rw [HTT.o] at h;exact h):qP:=h
theorem MC(h:qP:=by simp only [Lib.join_cons,Lib.joinTail,Lib.join_one,List.map_cons,List.map_nil,List.flatten_cons,List.flatten_nil,List.length_append,List.length_cons,List.length_nil];omega):qP:=h
theorem ON(a ca:Abs)(A D:OA)(c e:Nat)(w:World)(S:NP)(hA:Strs w S A a.cols)(hD:RDeps w S D a.deps)(hz:AbN 1000000 a)(ht:Txa w)(hca:AX a=ca)(hk:ca.kinds=2)(he:ca.errs=false)(hI:I64 ca.tx.least/\I64 ca.tx.most/\I64 ca.tx.cls/\ca.tx.b.size<=1000000/\ca.tx.e.size<=1000000)(hsz:(bsA (V1 ca.tx)).size<=3000000) :
  Cl 18 #[(Aq a A c D e)] w (Cu w (bsA ([116,101,120,116,40]++V1 ca.tx++[41]))):=by
 obtain ⟨w0,hw0⟩:=eqx (w.alloc (.cells (Ap a A c D e) 36));obtain ⟨g1,hg1⟩:=eqx w.heap.size;have hx0:Ext w w0:=BS;obtain ⟨res,U⟩:=eqx (bsA ([116,101,120,116,40]++V1 ca.tx++[41]));rw [<-U];have HRES:=Hd U;clear U;obtain ⟨HX0,HB1,HT0,HI,HSZ,HK,HER⟩:=Hd7 hx0 (show Blk w0 g1 36 (Ap a A c D e) by rw [hw0,hg1];exact Blk.new _ _ _) (ht.ext hx0) hI hsz hk he;have HCA:=Hd (show Cl 37 #[(Aq a A c D e)] w0 (Eh w0 (λb=>S b/\b<w.heap.size) ca) by
  exact MM)
 have HW0:=Hd hw0;have HG1:=Hd hg1;clear hw0 hg1 hx0 hI hsz hk he hA hD hz ht hca
 go_enter func18,ntmps18
 go_upto_region 1 with fail
 rw [<-HW0.o,<-HG1.o];refine wp_region_lit ?_;refine AJ rfl 36 _ rfl g1 rfl HB1.o AS AH ?_
 go_wp2_with fail
 refine HCA.o.mono ?_;rintro ee wt ⟨A2,c2,D2,e2,rfl,hab,hxt⟩;rename_i K1 hK1 K2 hK2;refine hK2 _ _ ?_;refine Ag rfl rfl ?_;obtain ⟨g3,hg⟩:=eqx wt.heap.size;rw [<-hg];refine AM rfl 36 _ _ rfl g3 (Ap ca A2 c2 D2 e2) rfl rfl 36 _ (GK hg) AH rfl AD ?_;intro w1 hb ho;refine hK1 _ _ ?_;have hxo:Ext wt w1:=(exaa wt).only ho Ez;have HX1:=Hd (hxt.trans hxo);have Y:=Hd hb;clear hK1 hK2 hb ho hxo hxt hab hg
 go_frame
 go_upto_region 3 with fail
 have HH:=Hd (show Cl 59 #[(Aq ca A2 c2 D2 e2),.I 1] w1 (Ae w1 true) by
  have h:=BI ca A2 D2 c2 e2 1 AA w1;rw [show bt ca.kinds 1=true from by rw [HK.o];decide] at h;exact h)
 refine wp_region_lit ?_;refine AJ rfl 36 _ rfl g3 rfl Y.o AS AH ?_
 go_wp2_with fail
 refine HH.o.mono ?_;rintro ee w2 ⟨rfl,hx⟩;have HX2:=Hd (HX1.o.trans hx);have O:=Hd (Y.o.keep (hx.kept _));clear hx HH HX1 Y
 go_upto_region 4 with fail
 have m1:=O.o.q1;have m2:=O.o.q2;have m3:=O.o.q3;have m4:=O.o.q4;have m5:=O.o.q5
 go_wp2_with fail
 have hI:=HI.o;refine (BSA ca.tx hI.1 hI.2.1 hI.2.2.1 hI.2.2.2.1 hI.2.2.2.2 _ (HT0.o.ext HX2.o)).mono ?_;rintro ee w3 ⟨rfl,hx⟩;have HX3:=Hd (HX2.o.trans hx);have b7:=Hd (O.o.keep (hx.kept _));clear hx hI HX2 O m1 m2 m3 m4 m5;obtain ⟨tx,b0⟩:=eqx (bsA (V1 ca.tx));rw [<-b0];have hsz:tx.size<=3000000:=(by rw [b0];exact HSZ.o);have HTX:=Hd b0;have hsl:(⟨#[116,101,120,116,40]⟩:BA).size=5:=rfl;have hs1:¬(9223372036854775807<5+tx.size):=AA;have hs2:¬(9223372036854775807<5+tx.size+1):=AA;have HON:=Hd (OwnSs.nil w3 w0.heap.size);clear b0 hsl;obtain ⟨M,hM⟩:=eqx w3.heap.size;have HM:=Hd (show w0.heap.size<=M by rw [hM];exact HX3.o.size);have HOC:=Hd (show Own w3 w0.heap.size 9 1 none 0 0 [] from (OwnSs.nil _ _).1);have hszw:=HX3.o.size;clear hM
 go_upto_region 5 with (at_builtin;go_must (refine AL rfl (.tmp 12) (.tmp 18) rfl tiS rfl (HOC.o.ext (exaa _)) rfl (Blk.rd (Blk.new _ _ _)) rfl AP AA AB AI ?_);intro A9 c9 w9 hown9 b3 hat9)
 obtain ⟨tt,b4⟩:=eqx ((⟨#[116,101,120,116,40]⟩:BA)++tx++⟨#[41]⟩);rw [<-b4] at hown9 b3;obtain ⟨HTT,HX4,a9,b8⟩:=Hd4 (show tt=bsA ([116,101,120,116,40]++V1 ca.tx++[41]) by rw [b4,HTX.o,show (⟨#[116,101,120,116,40]⟩:BA)=bsA [116,101,120,116,40] from rfl,show (⟨#[41]⟩:BA)=bsA [41] from rfl,Cr,Cr]) (Ext.grown (HX3.o.alloc (.cells #[.string tt] 9)) b3 (λb hb=>by cases hb)) (b7.o.keep ((Kept.alloc _ _ (.cells #[.string tt] 9)).trans (Kept.of_grown (S:=λb=>b=g3) b3 (λb _ _ e=>by cases e)))) (show Own w9 w0.heap.size 9 1 A9 1 c9 [.string tt] from hown9);obtain ⟨w4,rfl⟩:=eqx w9;clear hown9 b3 hat9 b4 hs1 hs2 hsz HON HOC hszw HX3 b7;have HH:=Hd (show Cl 59 #[(Aq ca A2 c2 D2 e2),.I 2] w4 (Ae w4 false) by
  have h:=BI ca A2 D2 c2 e2 2 AA w4;exact Od)
 refine wp_region_lit ?_;refine AJ rfl 36 _ rfl g3 rfl a9.o AS AH ?_
 go_wp2_with fail
 refine HH.o.mono ?_;rintro ee w5 ⟨rfl,hx⟩;obtain ⟨HX5,Z,b9⟩:=Hd3 (HX4.o.trans hx) (a9.o.keep (hx.kept _)) (b8.o.ext hx);clear b8 hx HH HX4 a9
 go_upto_region 7 with fail
 have HH:=Hd (show Cl 59 #[(Aq ca A2 c2 D2 e2),.I 3] w5 (Ae w5 false) by
  exact Tt)
 refine wp_region_lit ?_;refine AJ rfl 36 _ rfl g3 rfl Z.o AS AH ?_
 go_wp2_with fail
 refine HH.o.mono ?_;rintro ee w6 ⟨rfl,hx⟩;obtain ⟨HX6,a8,b5⟩:=Hd3 (HX5.o.trans hx) (Z.o.keep (hx.kept _)) (b9.o.ext hx);clear b9 hx HH HX5 Z
 go_upto_region 9 with fail
 have HH:=Hd (show Cl 59 #[(Aq ca A2 c2 D2 e2),.I 4] w6 (Ae w6 false) by
  exact Kg)
 refine wp_region_lit ?_;refine AJ rfl 36 _ rfl g3 rfl a8.o AS AH ?_
 go_wp2_with fail
 refine HH.o.mono ?_;rintro ee w7 ⟨rfl,hx⟩;obtain ⟨HX7,HB37,b6⟩:=Hd3 (HX6.o.trans hx) (a8.o.keep (hx.kept _)) (b5.o.ext hx);clear b5 hx HH HX6 a8
 go_upto_region 11 with fail
 have HH:=Hd (show Cl 59 #[(Aq ca A2 c2 D2 e2),.I 5] w7 (Ae w7 false) by
  exact LO)
 refine wp_region_lit ?_;refine AJ rfl 36 _ rfl g3 rfl HB37.o AS AH ?_
 go_wp2_with fail
 refine HH.o.mono ?_;rintro ee w8 ⟨rfl,hx⟩;obtain ⟨HX8,HB38,HOW8⟩:=Hd3 (HX7.o.trans hx) (HB37.o.keep (hx.kept _)) (b6.o.ext hx);clear b6 hx HH HX7 HB37
 go_upto_region 19 with fail
 have m17:w8.cell? ⟨g3,17,none⟩=some (.bool false):=Kw;have HX:=HX8;have HOW:=HOW8
 go_upto_region 21 with fail
 clear m17
 go_wp2_with fail
 have hbl:∀ l:List UInt8,(bsA l).size=l.length:=λl=>rfl;have hsz:=HSZ.o;rw [hbl] at hsz;have hj:=Rj (w:=w8) (base:=w0.heap.size) (c:=c9) (A:=A9) (ls:=[[116,101,120,116,40]++V1 ca.tx++[41]]) MH AC MC AC;obtain ⟨jn,hjn⟩:=eqx (bsA (Lib.join [[116,101,120,116,40]++V1 ca.tx++[41]] [32]));exact QC

theorem Va(h:qP:=by
 have h:=BI ca A2 D2 c2 e2 1 (by omega) w1;rw [show bt ca.kinds 1=false from by rw [HK.o];decide] at h;exact h):qP:=h
theorem OI(a ca:Abs)(A D:OA)(c e:Nat)(w:World)(S:NP)(p q:Nat)(hA:Strs w S A a.cols)(hD:RDeps w S D a.deps)(hz:AbN 1000000 a)(ht:Txa w)(hca:AX a=ca)(hk:ca.kinds=4)(he:ca.errs=false)(hI:ca.nu.ls=p/\ca.nu.hs=q/\Dz ca.nu.ln ca.nu.ls=true/\Dz ca.nu.hn ca.nu.hs=true/\BF ca.nu=false)(hsz:(bsA (V3 ca.nu)).size<=3000000) :
  Cl 18 #[(Aq a A c D e)] w (Cu w (bsA ([110,117,109,98,101,114,40]++V3 ca.nu++[41]))):=by
 obtain ⟨w0,hw0⟩:=eqx (w.alloc (.cells (Ap a A c D e) 36));obtain ⟨g1,hg1⟩:=eqx w.heap.size;have hx0:Ext w w0:=BS;obtain ⟨res,U⟩:=eqx (bsA ([110,117,109,98,101,114,40]++V3 ca.nu++[41]));rw [<-U];have HRES:=Hd U;clear U;obtain ⟨HX0,HB1,HT0,HI,HSZ,HK,HER⟩:=Hd7 hx0 (show Blk w0 g1 36 (Ap a A c D e) by rw [hw0,hg1];exact Blk.new _ _ _) (ht.ext hx0) hI hsz hk he;have HCA:=Hd (show Cl 37 #[(Aq a A c D e)] w0 (Eh w0 (λb=>S b/\b<w.heap.size) ca) by
  exact MM)
 have HW0:=Hd hw0;have HG1:=Hd hg1;clear hw0 hg1 hx0 hI hsz hk he hA hD hz ht hca
 go_enter func18,ntmps18
 go_upto_region 1 with fail
 rw [<-HW0.o,<-HG1.o];refine wp_region_lit ?_;refine AJ rfl 36 _ rfl g1 rfl HB1.o AS AH ?_
 go_wp2_with fail
 refine HCA.o.mono ?_;rintro ee wt ⟨A2,c2,D2,e2,rfl,hab,hxt⟩;rename_i K1 hK1 K2 hK2;refine hK2 _ _ ?_;refine Ag rfl rfl ?_;obtain ⟨g3,hg⟩:=eqx wt.heap.size;rw [<-hg];refine AM rfl 36 _ _ rfl g3 (Ap ca A2 c2 D2 e2) rfl rfl 36 _ (GK hg) AH rfl AD ?_;intro w1 hb ho;refine hK1 _ _ ?_;have hxo:Ext wt w1:=(exaa wt).only ho Ez;have HX1:=Hd (hxt.trans hxo);have Z:=Hd hb;clear hK1 hK2 hb ho hxo hxt hab hg
 go_frame
 go_upto_region 3 with fail
 have HH:=Hd (show Cl 59 #[(Aq ca A2 c2 D2 e2),.I 1] w1 (Ae w1 false) by
  exact Va)
 refine wp_region_lit ?_;refine AJ rfl 36 _ rfl g3 rfl Z.o AS AH ?_
 go_wp2_with fail
 refine HH.o.mono ?_;rintro ee w2 ⟨rfl,hx⟩;have HX2:=Hd (HX1.o.trans hx);have Y:=Hd (Z.o.keep (hx.kept _));clear hx HH HX1 Z
 go_upto_region 5 with fail
 have HH:=Hd (show Cl 59 #[(Aq ca A2 c2 D2 e2),.I 2] w2 (Ae w2 true) by
  have h:=BI ca A2 D2 c2 e2 2 AA w2;rw [show bt ca.kinds 2=true from by rw [HK.o];decide] at h;exact h)
 refine wp_region_lit ?_;refine AJ rfl 36 _ rfl g3 rfl Y.o AS AH ?_
 go_wp2_with fail
 refine HH.o.mono ?_;rintro ee w3 ⟨rfl,hx⟩;have HX3:=Hd (HX2.o.trans hx);have O:=Hd (Y.o.keep (hx.kept _));clear hx HH HX2 Y
 go_upto_region 6 with fail
 have m6:=O.o.q6;have m7:=O.o.q7;have m8:=O.o.q8;have m9:=O.o.q9
 go_wp2_with fail
 have hI:=HI.o;refine (Vc ca.nu p q hI.1 hI.2.1 hI.2.2.1 hI.2.2.2.1 hI.2.2.2.2 _ (HT0.o.ext HX3.o)).mono ?_;rintro ee w4 ⟨rfl,hx⟩;have HX4:=Hd (HX3.o.trans hx);have b8:=Hd (O.o.keep (hx.kept _));clear hx hI HX3 O m6 m7 m8 m9;obtain ⟨tx,b0⟩:=eqx (bsA (V3 ca.nu));rw [<-b0];have hsz:tx.size<=3000000:=(by rw [b0];exact HSZ.o);have HTX:=Hd b0;have hsl:(⟨#[110,117,109,98,101,114,40]⟩:BA).size=7:=rfl;have hs1:¬(9223372036854775807<7+tx.size):=AA;have hs2:¬(9223372036854775807<7+tx.size+1):=AA;have HON:=Hd (OwnSs.nil w4 w0.heap.size);clear b0 hsl;obtain ⟨M,hM⟩:=eqx w4.heap.size;have HM:=Hd (show w0.heap.size<=M by rw [hM];exact HX4.o.size);have HOC:=Hd (show Own w4 w0.heap.size 9 1 none 0 0 [] from (OwnSs.nil _ _).1);have hszw:=HX4.o.size;clear hM
 go_upto_region 7 with (at_builtin;go_must (refine AL rfl (.tmp 22) (.tmp 28) rfl tiS rfl (HOC.o.ext (exaa _)) rfl (Blk.rd (Blk.new _ _ _)) rfl AP AA AB AI ?_);intro A9 c9 w9 hown9 b3 hat9)
 obtain ⟨tt,b4⟩:=eqx ((⟨#[110,117,109,98,101,114,40]⟩:BA)++tx++⟨#[41]⟩);rw [<-b4] at hown9 b3;obtain ⟨HTT,HX5,a8,b7⟩:=Hd4 (show tt=bsA ([110,117,109,98,101,114,40]++V3 ca.nu++[41]) by rw [b4,HTX.o,show (⟨#[110,117,109,98,101,114,40]⟩:BA)=bsA [110,117,109,98,101,114,40] from rfl,show (⟨#[41]⟩:BA)=bsA [41] from rfl,Cr,Cr]) (Ext.grown (HX4.o.alloc (.cells #[.string tt] 9)) b3 (λb hb=>by cases hb)) (b8.o.keep ((Kept.alloc _ _ (.cells #[.string tt] 9)).trans (Kept.of_grown (S:=λb=>b=g3) b3 (λb _ _ e=>by cases e)))) (show Own w9 w0.heap.size 9 1 A9 1 c9 [.string tt] from hown9);obtain ⟨w5,rfl⟩:=eqx w9;clear hown9 b3 hat9 b4 hs1 hs2 hsz HON HOC hszw HX4 b8;have HH:=Hd (show Cl 59 #[(Aq ca A2 c2 D2 e2),.I 3] w5 (Ae w5 false) by
  exact Tt)
 refine wp_region_lit ?_;refine AJ rfl 36 _ rfl g3 rfl a8.o AS AH ?_
 go_wp2_with fail
 refine HH.o.mono ?_;rintro ee w6 ⟨rfl,hx⟩;obtain ⟨HX6,a9,b5⟩:=Hd3 (HX5.o.trans hx) (a8.o.keep (hx.kept _)) (b7.o.ext hx);clear b7 hx HH HX5 a8
 go_upto_region 9 with fail
 have HH:=Hd (show Cl 59 #[(Aq ca A2 c2 D2 e2),.I 4] w6 (Ae w6 false) by
  exact Kg)
 refine wp_region_lit ?_;refine AJ rfl 36 _ rfl g3 rfl a9.o AS AH ?_
 go_wp2_with fail
 refine HH.o.mono ?_;rintro ee w7 ⟨rfl,hx⟩;obtain ⟨HX7,HB37,b6⟩:=Hd3 (HX6.o.trans hx) (a9.o.keep (hx.kept _)) (b5.o.ext hx);clear b5 hx HH HX6 a9
 go_upto_region 11 with fail
 have HH:=Hd (show Cl 59 #[(Aq ca A2 c2 D2 e2),.I 5] w7 (Ae w7 false) by
  exact LO)
 refine wp_region_lit ?_;refine AJ rfl 36 _ rfl g3 rfl HB37.o AS AH ?_
 go_wp2_with fail
 refine HH.o.mono ?_;rintro ee w8 ⟨rfl,hx⟩;obtain ⟨HX8,HB38,HOW8⟩:=Hd3 (HX7.o.trans hx) (HB37.o.keep (hx.kept _)) (b6.o.ext hx);clear b6 hx HH HX7 HB37
 go_upto_region 19 with fail
 have m17:w8.cell? ⟨g3,17,none⟩=some (.bool false):=Kw;have HX:=HX8;have HOW:=HOW8
 go_upto_region 21 with fail
 clear m17
 go_wp2_with fail
 have hbl:∀ l:List UInt8,(bsA l).size=l.length:=λl=>rfl;have hsz:=HSZ.o;rw [hbl] at hsz;have hj:=Rj (w:=w8) (base:=w0.heap.size) (c:=c9) (A:=A9) (ls:=[[110,117,109,98,101,114,40]++V3 ca.nu++[41]]) MH AC MC AC;obtain ⟨jn,hjn⟩:=eqx (bsA (Lib.join [[110,117,109,98,101,114,40]++V3 ca.nu++[41]] [32]));exact QC

theorem OP(a ca:Abs)(A D:OA)(c e:Nat)(w:World)(S:NP)(hA:Strs w S A a.cols)(hD:RDeps w S D a.deps)(hz:AbN 1000000 a)(ht:Txa w)(hca:AX a=ca)(hk:ca.kinds=8)(he:ca.errs=true)(hI:I64 ca.dl/\I64 ca.dh)(hsz:(bsA (V9 ca.dl ca.dh)).size<=3000000) :
  Cl 18 #[(Aq a A c D e)] w (Cu w (bsA ([100,97,116,101,40]++V9 ca.dl ca.dh++[41]++[32]++[101,114,114,111,114]))):=by
 obtain ⟨w0,hw0⟩:=eqx (w.alloc (.cells (Ap a A c D e) 36));obtain ⟨g1,hg1⟩:=eqx w.heap.size;have hx0:Ext w w0:=BS;obtain ⟨res,U⟩:=eqx (bsA ([100,97,116,101,40]++V9 ca.dl ca.dh++[41]++[32]++[101,114,114,111,114]));rw [<-U];have HRES:=Hd U;clear U;obtain ⟨HX0,HB1,HT0,HI,HSZ,HK,HER⟩:=Hd7 hx0 (show Blk w0 g1 36 (Ap a A c D e) by rw [hw0,hg1];exact Blk.new _ _ _) (ht.ext hx0) hI hsz hk he;have HCA:=Hd (show Cl 37 #[(Aq a A c D e)] w0 (Eh w0 (λb=>S b/\b<w.heap.size) ca) by
  exact MM)
 have HW0:=Hd hw0;have HG1:=Hd hg1;clear hw0 hg1 hx0 hI hsz hk he hA hD hz ht hca
 go_enter func18,ntmps18
 go_upto_region 1 with fail
 rw [<-HW0.o,<-HG1.o];refine wp_region_lit ?_;refine AJ rfl 36 _ rfl g1 rfl HB1.o AS AH ?_
 go_wp2_with fail
 refine HCA.o.mono ?_;rintro ee wt ⟨A2,c2,D2,e2,rfl,hab,hxt⟩;rename_i K1 hK1 K2 hK2;refine hK2 _ _ ?_;refine Ag rfl rfl ?_;obtain ⟨g3,hg⟩:=eqx wt.heap.size;rw [<-hg];refine AM rfl 36 _ _ rfl g3 (Ap ca A2 c2 D2 e2) rfl rfl 36 _ (GK hg) AH rfl AD ?_;intro w1 hb ho;refine hK1 _ _ ?_;have hxo:Ext wt w1:=(exaa wt).only ho Ez;have HX1:=Hd (hxt.trans hxo);have Z:=Hd hb;clear hK1 hK2 hb ho hxo hxt hab hg
 go_frame
 go_upto_region 3 with fail
 have HH:=Hd (show Cl 59 #[(Aq ca A2 c2 D2 e2),.I 1] w1 (Ae w1 false) by
  exact Va)
 refine wp_region_lit ?_;refine AJ rfl 36 _ rfl g3 rfl Z.o AS AH ?_
 go_wp2_with fail
 refine HH.o.mono ?_;rintro ee w2 ⟨rfl,hx⟩;have HX2:=Hd (HX1.o.trans hx);have Y:=Hd (Z.o.keep (hx.kept _));clear hx HH HX1 Z
 go_upto_region 5 with fail
 have HH:=Hd (show Cl 59 #[(Aq ca A2 c2 D2 e2),.I 2] w2 (Ae w2 false) by
  have h:=BI ca A2 D2 c2 e2 2 AA w2;exact Od)
 refine wp_region_lit ?_;refine AJ rfl 36 _ rfl g3 rfl Y.o AS AH ?_
 go_wp2_with fail
 refine HH.o.mono ?_;rintro ee w3 ⟨rfl,hx⟩;have HX3:=Hd (HX2.o.trans hx);have b0:=Hd (Y.o.keep (hx.kept _));clear hx HH HX2 Y
 go_upto_region 7 with fail
 have HH:=Hd (show Cl 59 #[(Aq ca A2 c2 D2 e2),.I 3] w3 (Ae w3 true) by
  have h:=BI ca A2 D2 c2 e2 3 AA w3;rw [show bt ca.kinds 3=true from by rw [HK.o];decide] at h;exact h)
 refine wp_region_lit ?_;refine AJ rfl 36 _ rfl g3 rfl b0.o AS AH ?_
 go_wp2_with fail
 refine HH.o.mono ?_;rintro ee w4 ⟨rfl,hx⟩;have HX4:=Hd (HX3.o.trans hx);have O:=Hd (b0.o.keep (hx.kept _));clear hx HH HX3 b0
 go_upto_region 8 with fail
 have m10:=O.o.q10;have m11:=O.o.q11
 go_wp2_with fail
 have hI:=HI.o;refine (M7 ca.dl ca.dh hI.1 hI.2 _ (HT0.o.ext HX4.o)).mono ?_;rintro ee w5 ⟨rfl,hx⟩;have HX5:=Hd (HX4.o.trans hx);have b8:=Hd (O.o.keep (hx.kept _));clear hx hI HX4 O m10 m11;obtain ⟨tx,b3⟩:=eqx (bsA (V9 ca.dl ca.dh));rw [<-b3];have hsz:tx.size<=3000000:=(by rw [b3];exact HSZ.o);have HTX:=Hd b3;have hsl:(⟨#[100,97,116,101,40]⟩:BA).size=5:=rfl;have hs1:¬(9223372036854775807<5+tx.size):=AA;have hs2:¬(9223372036854775807<5+tx.size+1):=AA;have HON:=Hd (OwnSs.nil w5 w0.heap.size);clear b3 hsl;obtain ⟨M,hM⟩:=eqx w5.heap.size;have HM:=Hd (show w0.heap.size<=M by rw [hM];exact HX5.o.size);have HOC:=Hd (show Own w5 w0.heap.size 9 1 none 0 0 [] from (OwnSs.nil _ _).1);have a8:=HX5.o.size;clear hM
 go_upto_region 9 with (at_builtin;go_must (refine AL rfl (.tmp 32) (.tmp 38) rfl tiS rfl (HOC.o.ext (exaa _)) rfl (Blk.rd (Blk.new _ _ _)) rfl AP AA AB AI ?_);intro A9 c9 w9 hown9 b5 hat9)
 obtain ⟨tt,b6⟩:=eqx ((⟨#[100,97,116,101,40]⟩:BA)++tx++⟨#[41]⟩);rw [<-b6] at hown9 b5;obtain ⟨HTT,HX6,a9,b7⟩:=Hd4 (show tt=bsA ([100,97,116,101,40]++V9 ca.dl ca.dh++[41]) by rw [b6,HTX.o,show (⟨#[100,97,116,101,40]⟩:BA)=bsA [100,97,116,101,40] from rfl,show (⟨#[41]⟩:BA)=bsA [41] from rfl,Cr,Cr]) (Ext.grown (HX5.o.alloc (.cells #[.string tt] 9)) b5 (λb hb=>by cases hb)) (b8.o.keep ((Kept.alloc _ _ (.cells #[.string tt] 9)).trans (Kept.of_grown (S:=λb=>b=g3) b5 (λb _ _ e=>by cases e)))) (show Own w9 w0.heap.size 9 1 A9 1 c9 [.string tt] from hown9);obtain ⟨w6,rfl⟩:=eqx w9;clear hown9 b5 hat9 b6 hs1 hs2 hsz HON HOC a8 HX5 b8;have HH:=Hd (show Cl 59 #[(Aq ca A2 c2 D2 e2),.I 4] w6 (Ae w6 false) by
  exact Kg)
 refine wp_region_lit ?_;refine AJ rfl 36 _ rfl g3 rfl a9.o AS AH ?_
 go_wp2_with fail
 refine HH.o.mono ?_;rintro ee w7 ⟨rfl,hx⟩;obtain ⟨HX7,HB37,d3⟩:=Hd3 (HX6.o.trans hx) (a9.o.keep (hx.kept _)) (b7.o.ext hx);clear b7 hx HH HX6 a9
 go_upto_region 11 with fail
 have HH:=Hd (show Cl 59 #[(Aq ca A2 c2 D2 e2),.I 5] w7 (Ae w7 false) by
  exact LO)
 refine wp_region_lit ?_;refine AJ rfl 36 _ rfl g3 rfl HB37.o AS AH ?_
 go_wp2_with fail
 refine HH.o.mono ?_;rintro ee w8 ⟨rfl,hx⟩;obtain ⟨HX8,HB38,b9⟩:=Hd3 (HX7.o.trans hx) (HB37.o.keep (hx.kept _)) (d3.o.ext hx);clear d3 hx HH HX7 HB37
 go_upto_region 19 with fail
 have m17:w8.cell? ⟨g3,17,none⟩=some (.bool true):=Kw
 go_upto_region 20 with fail
 have a8:=HX8.o.size
 go_upto_region 21 with (at_builtin;go_must (refine AL rfl (.tmp 86) (.tmp 87) rfl tiS rfl (b9.o.ext (exaa _)) rfl (Blk.rd (Blk.new _ _ _)) rfl AP AA AB AI ?_);intro A8 c8 w8 b4 hg8 hat8)
 have hx8:=Ext.grown (HX8.o.alloc (.cells #[.string ⟨#[101,114,114,111,114]⟩] 9)) hg8 (λb hb=>(b9.o.blk hb).1);have HX:=Hd hx8;have HOW:=Hd (show Own w8 w0.heap.size 9 1 A8 2 c8 [.string tt,.string ⟨#[101,114,114,111,114]⟩] from b4);clear m17 b4 hg8 hat8 hx8 a8
 go_wp2_with fail
 have hbl:∀ l:List UInt8,(bsA l).size=l.length:=λl=>rfl;have hsz:=HSZ.o;rw [hbl] at hsz;have hj:=Rj (w:=w8) (base:=w0.heap.size) (c:=c8) (A:=A8) (ls:=[[100,97,116,101,40]++V9 ca.dl ca.dh++[41],[101,114,114,111,114]]) MH AC MC AC;obtain ⟨jn,hjn⟩:=eqx (bsA (Lib.join [[100,97,116,101,40]++V9 ca.dl ca.dh++[41],[101,114,114,111,114]] [32]));rw [<-hjn] at hj;have HJN:=Hd (show jn=res by rw [hjn,HRES.o];simp [Lib.join_cons,Lib.joinTail]);clear hjn;refine Calls.mono (show Cl 64 #[.slice A8 2 c8,.string ⟨#[32]⟩] w8 _ from hj) ?_;exact QK

theorem YT(s:BA):ShN 200 (ofS s):=by
 unfold ofS;split
 ·rename_i h;have:s.size<=200:=by
   unfold Ca at h;simp at h;exact h.1
  exact ⟨this,this⟩
 ·exact IGA _
theorem Jm(hr:BC v=true)(hk:v.kind=5):v.cols.length<=8:=by
 unfold BC at hr;rw [if_pos hk,Bool.and_eq_true] at hr;have h:=hr.1;unfold BK at h;simp only [Bool.and_eq_true,decide_eq_true_eq] at h;exact h.1.1.1
theorem FpA(hr:BC v=true):AbN 300 (CO v):=by
 have ht:ShN 200 (CO v).tx:=by
  show ShN 200 (if v.kind=1 then ofS v.s else H3A);split
  ·exact YT _
  ·exact IGA _
 refine ⟨Nat.le_trans ht.1 AB,Nat.le_trans ht.2 AB,?_,?_,?_⟩
 ·show (if v.kind=5 then v.cols else []).length<=300;split
  ·rename_i hk;have:=Jm hr hk;omega
  ·exact AN
 ·show (if v.kind=5 then Co v.cols v.rows else []).length<=300;split
  ·rename_i hk;exact (Ju _ _ (Jm hr hk)).1
  ·exact AN
 ·show ∀ d∈(if v.kind=5 then Co v.cols v.rows else []),d.frm.length<=300;split
  ·rename_i hk;intro d hd;have:=(Ju _ _ (Jm hr hk)).2 d hd;omega
  ·intro d hd;cases hd
theorem Mx(v:Val):AbN 300 (ofA v):=by
 unfold ofA;split
 ·rename_i h;exact (FpA h).can
 ·exact ISA _
theorem DXA(hk:v.kind=0):AX (CO v) = { noneA with errs:=true }:=by
 have hb:(CO v).kinds=1:=by
  show NO v.kind=1;rw [hk];rfl
 have h1:pT (CO v)=false:=(by unfold pT;rw [hb];rfl);have h2:pN (CO v)=false:=(by unfold pN;rw [hb];rfl);have h3:pD (CO v)=false:=(by unfold pD;rw [hb];rfl);have h4:pB (CO v)=false:=(by unfold pB;rw [hb];rfl);have h5:pR (CO v)=false:=(by unfold pR;rw [hb];rfl);have he:(CO v).errs=true:=(by show decide (v.kind=0)=true;rw [hk];rfl);unfold AX;rw [h1,h2,h3,h4,h5,he];rfl
theorem UU(h:qP:=by
 rw [HF.o];exact ⟨_,_,_,_,rfl,AbM.nil ⟨rfl,rfl⟩,HXF.o⟩):qP:=h
theorem P9(h:qP:=by
 have HBF:=Hd hbf;clear hbf hof
 go_wp2_with fail
 refine bodyPost_ret (Bv results19 rfl (Eq HBF.o AS AH)) rfl ?_;exact UU):qP:=h
theorem Oe(h:qP:=by
 have hbb:=HR6.o.set 0 (.I p2);rw [<-hwb] at hbb;rw [HR0.o]
 simpa using hbb):qP:=h
theorem AiA(h:qP:=by
 have h:=((show AbM w6 (λb=>(T b/\b<w.heap.size)\/g3<b) r0 none 0 none 0 from AbM.nil (by rw [HRR.o];exact ⟨rfl,rfl⟩))).keep hkb;rw [HR0.o];exact h):qP:=h
theorem JG(h:qP:=by
 clear p0;have p0:=(HB1.o.keep (HX6.o.kept _)).q0;have r0c:=HR6.o.q0;have rf:=HR6.o.frozen;have rl:=HR6.o.lt
 go_wp2_with fail
 refine (HBI.o _).mono ?_;rintro e9 w9 ⟨rfl,rfl⟩
 go_upto_region 21 with fail
 obtain ⟨wb,hwb⟩:=eqx (w6.setCell ⟨g3,0,none⟩ (.I p2));rw [<-hwb];have HXB:=Hd (show Ext w1 wb by rw [hwb];exact HX6.o.set2 (Bl HG3.o) _);have hrb:Blk wb g3 36 (Ap raw none 0 none 0):=by
  exact Oe
 have HRB:=Hd hrb;have hkb:Kept (λb=>(T b/\b<w.heap.size)\/g3<b) w6 wb:=(by rw [hwb];exact (Kept.refl _ _).set2 (λh=>by have:=HG3.o;have:=HXW.o.size;rcases h with h | h;(have:=h.2;omega);omega));have HAB:=Hd (show AbM wb (λb=>(T b/\b<w.heap.size)\/g3<b) raw none 0 none 0 from by
  exact AiA)
 clear hwb hrb hkb p0 r0c rf rl;have HCN:=Hd (As raw none none 0 0 wb _ HAB.o.2.2.1 HAB.o.2.2.2 (HT.o.ext (HXW.o.trans HXB.o)) HNR.o);refine wp_region_lit ?_;refine AJ rfl 36 _ rfl g3 rfl HRB.o AS AH ?_
 go_wp2_with fail
 refine HCN.o.mono ?_;rintro e5 w5 ⟨A5,c5,D5,e5,rfl,hab5,hx5⟩;have HX5:=Hd (HXB.o.trans hx5);have HAB5:=Hd hab5;have hb25:=HB2.o.keep (HX5.o.kept _);rename_i K1 hK1 K2 hK2;refine hK2 _ _ ?_;refine AM rfl 36 _ _ rfl g2 (Ap (AX raw) A5 c5 D5 e5) rfl rfl 36 _ hb25 AH rfl (by kernel_rfl) ?_;intro wf hbf hof;refine hK1 _ _ ?_;obtain ⟨HXF,HBF,HABF⟩:=Hd3 ((HXW.o.trans HX5.o).only hof (by have:=HG2.o;omega)) hbf hab5;have hkf:=hof.kept (S:=λb=>(T b/\b<w.heap.size)\/g3<b) (λb _ hb e=>by have:=HG2.o;have:=HG3.o;have:=HB2.o.lt;rcases hb with h|h;(have:=h.2;omega);omega);have HKF:=Hd hkf;clear hK1 hK2 hbf hb25 hx5 hab5 hof hkf
 go_wp2_with fail
 refine bodyPost_ret (Bv results19 rfl (Eq HBF.o AS AH)) rfl ?_;rw [HOF.o,<-HRAW.o];exact ⟨A5,c5,D5,e5,rfl,((HABF.o.mono (T:=λb=>(T b/\b<w.heap.size)\/g3<b) λb _ hb=>by rcases hb with h | h;exact h;exact .inr (by have:=HRB.o.lt;omega)).keep HKF.o).mono λb _ hb=>hb.imp And.left λh=>by have:=HG3.o;have:=HXW.o.size;omega,HXF.o⟩):qP:=h
theorem B4(h:qP:=by
 rw [<-hw6] at hbb;rw [HRR.o]
 simpa using hbb):qP:=h
theorem Tk(h:qP:=by
 clear hw6 rf rl p4 r12;exact JG):qP:=h
theorem Ic(h:qP:=by rw [hw0,hg1];exact (Blk.new _ _ _).keep ((exaa _).kept _)):qP:=h
theorem Lf(h:qP:=by have:=HG3.o;have:=HXW.o.size;have:=h.2;omega):qP:=h
theorem Am(q:Nat)(x:Val)(B C:OA)(cb cc:Nat)(w:World)(T:NP)(hx:RV w T q x B C)(hcap:x.cols.length<=cb)(ht:Tens w) :
  Cl 19 #[(Vq x B cb C cc)] w (Eh w T (ofA x)):=by
 obtain ⟨w0,hw0⟩:=eqx ((w.alloc (.cells (Vp x B cb C cc) 40)).alloc (.cells Az 36));obtain ⟨g1,hg1⟩:=eqx w.heap.size;obtain ⟨g2,hg2⟩:=eqx (w.heap.size+1);have hx0:Ext w w0:=Bh;have hb1:Blk w0 g1 40 (Vp x B cb C cc):=Ic;have hb2:Blk w0 g2 36 Az:=(by rw [hw0,hg2];exact H6A _ _ _ _);obtain ⟨f0,d6,HG2,HX0,HB10,HB20,HV,HT⟩:=Hd8 hw0 hg1 hg2 hx0 hb1 hb2 (hx.mono (T:=λb=>T b/\b<w.heap.size) λi hi hs=>⟨hs,hi⟩) ht;have hss:=hx.size;have hcp:=hcap;clear hw0 hg1 hg2 hx0 hb1 hb2 hx ht hcap
 go_enter func19,ntmps19
 go_upto_region 1 with fail
 rw [<-f0.o,<-HG2.o,<-d6.o]
 go_wp2_with fail
 refine (Hk _).mono ?_;rintro e1 w1 ⟨rfl,hx1⟩;rename_i K1 hK1 K2 hK2;refine hK2 _ _ ?_;refine Ag rfl rfl ?_;obtain ⟨g3,hg3⟩:=eqx w1.heap.size;rw [<-hg3];refine AM rfl 36 _ _ rfl g3 (Ap noneA none 0 none 0) rfl rfl 36 _ (GK hg3) AH rfl AD ?_;intro w2 b6 b7;have hx2:Ext w1 w2:=(exaa w1).only b7 GI;obtain ⟨HXW,HB1,HB2,HX2,HR2,HG3⟩:=Hd6 (HX0.o.trans hx1) (HB10.o.keep (hx1.kept _)) (HB20.o.keep (hx1.kept _)) hx2 b6 hg3;have b8:=Hd ((HV.o.keep (HXW.o.kept _)).keep (hx2.kept _));have HRT:=Hd (Nx q x B C cb cc w2 _ b8.o hcp);refine hK1 _ _ ?_;clear hK1 hK2 b6 b7 hx1 hx2 hg3;have O:=HB1.o.keep (HX2.o.kept _);obtain ⟨p0,p1,p2,p3,p4,p5,p6⟩:=O.qs7;clear O
 go_wp2_with fail
 cases hr:BC x
 ·have HF:=Hd (show ofA x=noneA by unfold ofA;rw [hr];rfl);rw [hr] at HRT;clear hr;refine HRT.o.mono ?_;rintro e3 w3 ⟨rfl,hx3⟩;have HX3:=Hd (HX2.o.trans hx3);have U:=Hd (HR2.o.keep (hx3.kept _));clear hx3 p0 p1 p2 p3 p4 p5 p6
  go_upto_region 3 with fail
  refine wp_region_lit ?_;refine AJ rfl 36 _ rfl g3 rfl U.o AS AH ?_;refine AM rfl 36 _ _ rfl g2 (Ap noneA none 0 none 0) rfl rfl 36 _ (HB2.o.keep (HX3.o.kept _)) AH rfl AD ?_;intro wf hbf hof;refine wpList_nil ?_;have HXF:=Hd ((HXW.o.trans HX3.o).only hof Bq);exact P9
 have HR:=Hd hr;rw [hr] at HRT;have HOF:=Hd (show ofA x=AX (CO x) by unfold ofA;rw [hr];rfl);have HNR:=Hd ((FpA hr).mono (m:=1000000) AB);clear hr;refine HRT.o.mono ?_;rintro e3 w3 ⟨rfl,hx3⟩;obtain ⟨HX3,U,HV3⟩:=Hd3 (HX2.o.trans hx3) (HR2.o.keep (hx3.kept _)) (b8.o.keep (hx3.kept _));clear hx3 p0 p1 p2 p3 p4 p5 p6;have O:=HB1.o.keep (HX3.o.kept _);have p0:=O.q0;have rf:=U.o.frozen;have rl:=U.o.lt;obtain ⟨raw,a9⟩:=eqx (CO x);rw [<-a9] at HNR;have HRAW:=Hd a9;clear a9
 rcases Dh HR.o with hk|hk|hk|hk|hk|hk
 ·have HF:=Hd (show ofA x = { noneA with errs:=true } by rw [HOF.o];exact DXA hk);have f3:w3.cell? ⟨g3,17,none⟩=some (.bool noneA.errs):=U.o.q17;clear O
  go_upto_region 7 with fail
  obtain ⟨w4,Z⟩:=eqx (w3.setCell ⟨g3,17,none⟩ (.bool true));rw [<-Z];have HX4:=Hd (show Ext w1 w4 by rw [Z];exact HX3.o.set2 (Bl HG3.o) _);have HR4:=Hd (show Blk w4 g3 36 #[.I noneA.kinds,.I noneA.tx.least,.I noneA.tx.most,.I noneA.tx.cls,.string noneA.tx.b,.string noneA.tx.e,.I noneA.nu.ln,.I noneA.nu.ls,.I noneA.nu.hn,.I noneA.nu.hs,.I noneA.dl,.I noneA.dh,.I noneA.bo,.I noneA.rl,.I noneA.rh,.slice none noneA.cols.length 0,.slice none noneA.deps.length 0,.bool true] by rw [Z];simpa using U.o.set 17 (.bool true));clear Z f3 p0 rf rl;refine wp_region_lit ?_;refine AJ rfl 36 _ rfl g3 rfl HR4.o AS AH ?_;refine AM rfl 36 _ _ rfl g2 #[.I noneA.kinds,.I noneA.tx.least,.I noneA.tx.most,.I noneA.tx.cls,.string noneA.tx.b,.string noneA.tx.e,.I noneA.nu.ln,.I noneA.nu.ls,.I noneA.nu.hn,.I noneA.nu.hs,.I noneA.dl,.I noneA.dh,.I noneA.bo,.I noneA.rl,.I noneA.rh,.slice none noneA.cols.length 0,.slice none noneA.deps.length 0,.bool true] rfl rfl 36 _ (HB2.o.keep (HX4.o.kept _)) AH rfl AD ?_;intro wf hbf hof;refine wpList_nil ?_;have HXF:=Hd ((HXW.o.trans HX4.o).only hof Bq);exact P9
 ·obtain ⟨p2,hp2⟩:∃ z:Int,z=((2^1:Nat):Int):=⟨_,rfl⟩;have HBI:=Hd (show ∀ J,Cl 32 #[.I 1] J (Bk J p2) from λJ=>by rw [hp2];exact At 1 AA J);obtain ⟨r0,Y⟩:∃ z:Abs,z = { noneA with tx:=ofS x.s }:=⟨_,rfl⟩;obtain ⟨HR0,HRR,HK⟩:=Hd3 (show raw = { r0 with kinds:=p2 } by rw [HRAW.o,Y,hp2];unfold CO noneA;simp [hk,NO]) Y hk;clear hp2 Y;have p1:=O.q1;clear O rf rl
  go_wp2_with fail
  refine (DZA x.s hss _).mono ?_;rintro e4 w4 ⟨rfl,hx4⟩;have HX4:=Hd (HX3.o.trans hx4);have HR4:=Hd (U.o.keep (hx4.kept _));clear hx4;have rf:=HR4.o.frozen;have rl:=HR4.o.lt;have r1:=HR4.o.q1;have r2:=HR4.o.q2;have r3:=HR4.o.q3;have r4:=HR4.o.q4;have r5:=HR4.o.q5
  go_upto_region 20 with fail
  obtain ⟨w6,hw6⟩:=eqx ((((((w4.setCell ⟨g3,1,none⟩ (.I (ofS x.s).least)).setCell ⟨g3,2,none⟩ (.I (ofS x.s).most)).setCell ⟨g3,3,none⟩ (.I (ofS x.s).cls)).setCell ⟨g3,4,none⟩ (.string (ofS x.s).b)).setCell ⟨g3,5,none⟩ (.string (ofS x.s).e)));rw [<-hw6];have HX6:=Hd (show Ext w1 w6 by rw [hw6];exact (((((HX4.o.set2 (Bl HG3.o) _).set2 (Bl HG3.o) _).set2 (Bl HG3.o) _).set2 (Bl HG3.o) _).set2 (Bl HG3.o) _));have HR6:=Hd (show Blk w6 g3 36 (Ap r0 none 0 none 0) by
   have hbb:=(((((HR4.o.set 1 (.I (ofS x.s).least)).set 2 (.I (ofS x.s).most)).set 3 (.I (ofS x.s).cls)).set 4 (.string (ofS x.s).b)).set 5 (.string (ofS x.s).e));exact B4)
  clear hw6 rf rl p1 r1 r2 r3 r4 r5;exact JG
 ·obtain ⟨p2,hp2⟩:∃ z:Int,z=((2^2:Nat):Int):=⟨_,rfl⟩;have HBI:=Hd (show ∀ J,Cl 32 #[.I 2] J (Bk J p2) from λJ=>by rw [hp2];exact At 2 AA J);obtain ⟨r0,Y⟩:∃ z:Abs,z = { noneA with nu:=⟨x.dn,x.ds,x.dn,x.ds⟩ }:=⟨_,rfl⟩;obtain ⟨HR0,HRR,HK⟩:=Hd3 (show raw = { r0 with kinds:=p2 } by rw [HRAW.o,Y,hp2];unfold CO noneA;simp [hk,NO]) Y hk;clear hp2 Y;have p2:=O.q2;have p3:=O.q3;clear O;have r6:=U.o.q6;have r7:=U.o.q7;have r8:=U.o.q8;have r9:=U.o.q9
  go_upto_region 20 with fail
  obtain ⟨w6,hw6⟩:=eqx (((((w3.setCell ⟨g3,6,none⟩ (.I x.dn)).setCell ⟨g3,7,none⟩ (.I x.ds)).setCell ⟨g3,8,none⟩ (.I x.dn)).setCell ⟨g3,9,none⟩ (.I x.ds)));rw [<-hw6];have HX6:=Hd (show Ext w1 w6 by rw [hw6];exact ((((HX3.o.set2 (Bl HG3.o) _).set2 (Bl HG3.o) _).set2 (Bl HG3.o) _).set2 (Bl HG3.o) _));have HR6:=Hd (show Blk w6 g3 36 (Ap r0 none 0 none 0) by
   have hbb:=((((U.o.set 6 (.I x.dn)).set 7 (.I x.ds)).set 8 (.I x.dn)).set 9 (.I x.ds));exact B4)
  clear hw6 rf rl p2 p3 r6 r7 r8 r9;exact JG
 ·obtain ⟨p2,hp2⟩:∃ z:Int,z=((2^3:Nat):Int):=⟨_,rfl⟩;have HBI:=Hd (show ∀ J,Cl 32 #[.I 3] J (Bk J p2) from λJ=>by rw [hp2];exact At 3 AA J);obtain ⟨r0,Y⟩:∃ z:Abs,z = { noneA with dl:=x.n,dh:=x.n }:=⟨_,rfl⟩;obtain ⟨HR0,HRR,HK⟩:=Hd3 (show raw = { r0 with kinds:=p2 } by rw [HRAW.o,Y,hp2];unfold CO noneA;simp [hk,NO]) Y hk;clear hp2 Y;have p4:=O.q4;clear O;have d8:=U.o.q10;have f5:=U.o.q11
  go_upto_region 20 with fail
  obtain ⟨w6,hw6⟩:=eqx (((w3.setCell ⟨g3,10,none⟩ (.I x.n)).setCell ⟨g3,11,none⟩ (.I x.n)));rw [<-hw6];have HX6:=Hd (show Ext w1 w6 by rw [hw6];exact ((HX3.o.set2 (Bl HG3.o) _).set2 (Bl HG3.o) _));have HR6:=Hd (show Blk w6 g3 36 (Ap r0 none 0 none 0) by
   have hbb:=((U.o.set 10 (.I x.n)).set 11 (.I x.n));exact B4)
  clear hw6 rf rl p4 d8 f5;exact JG
 ·have f2:=Gx HR.o hk
  rcases f2 with h4|h4
  ·have hw1:IntKind.i64.wrap 1=1:=rfl;obtain ⟨p2,hp2⟩:∃ z:Int,z=((2^4:Nat):Int):=⟨_,rfl⟩;have HBI:=Hd (show ∀ J,Cl 32 #[.I 4] J (Bk J p2) from λJ=>by rw [hp2];exact At 4 AA J);obtain ⟨r0,Y⟩:∃ z:Abs,z = { noneA with bo:=1 }:=⟨_,rfl⟩;obtain ⟨HR0,HRR,HK⟩:=Hd3 (show raw = { r0 with kinds:=p2 } by rw [HRAW.o,Y,hp2];unfold CO noneA;simp [hk,NO,h4]) Y hk;clear hp2 Y;have p4:=O.q4;clear O;have r12:=U.o.q12
   go_upto_region 20 with fail
   obtain ⟨w6,hw6⟩:=eqx (w3.setCell ⟨g3,12,none⟩ (.I 1));rw [<-hw6];have HX6:=Hd (show Ext w1 w6 by rw [hw6];exact (HX3.o.set2 (Bl HG3.o) _));have HR6:=Hd (show Blk w6 g3 36 (Ap r0 none 0 none 0) by
    have hbb:=(U.o.set 12 (.I 1));exact B4)
   exact Tk
  ·have hw1:IntKind.i64.wrap 2=2:=rfl;obtain ⟨p2,hp2⟩:∃ z:Int,z=((2^4:Nat):Int):=⟨_,rfl⟩;have HBI:=Hd (show ∀ J,Cl 32 #[.I 4] J (Bk J p2) from λJ=>by rw [hp2];exact At 4 AA J);obtain ⟨r0,Y⟩:∃ z:Abs,z = { noneA with bo:=2 }:=⟨_,rfl⟩;obtain ⟨HR0,HRR,HK⟩:=Hd3 (show raw = { r0 with kinds:=p2 } by rw [HRAW.o,Y,hp2];unfold CO noneA;simp [hk,NO,h4]) Y hk;clear hp2 Y;have p4:=O.q4;clear O;have r12:=U.o.q12
   go_upto_region 20 with fail
   obtain ⟨w6,hw6⟩:=eqx (w3.setCell ⟨g3,12,none⟩ (.I 2));rw [<-hw6];have HX6:=Hd (show Ext w1 w6 by rw [hw6];exact (HX3.o.set2 (Bl HG3.o) _));have HR6:=Hd (show Blk w6 g3 36 (Ap r0 none 0 none 0) by
    have hbb:=(U.o.set 12 (.I 2));exact B4)
   exact Tk
 ·obtain ⟨p2,hp2⟩:∃ z:Int,z=((2^5:Nat):Int):=⟨_,rfl⟩;have HBI:=Hd (show ∀ J,Cl 32 #[.I 5] J (Bk J p2) from λJ=>by rw [hp2];exact At 5 AA J);obtain ⟨r0,Y⟩:∃ z:Abs,z = { noneA with rl:=x.rows.length,rh:=x.rows.length,cols:=x.cols,deps:=Co x.cols x.rows }:=⟨_,rfl⟩;obtain ⟨HR0,HRR,HK⟩:=Hd3 (show raw = { r0 with kinds:=p2 } by rw [HRAW.o,Y,hp2];unfold CO noneA;simp [hk,NO]) Y hk;clear hp2 Y;have hc8:=Jm HR.o hk;have p5:=O.q5;have p6:=O.q6;clear O;have d5:=U.o.q13;have f1:=U.o.q14;have d4:w3.cell? ⟨g3,15,none⟩=some (.slice none noneA.cols.length 0):=U.o.q15
  go_upto_region 19 with fail
  obtain ⟨w4,Z⟩:=eqx ((((w3.setCell ⟨g3,13,none⟩ (.I (x.rows.length:Int))).setCell ⟨g3,14,none⟩ (.I (x.rows.length:Int))).setCell ⟨g3,15,none⟩ (.slice B x.cols.length cb)));rw [<-Z];have HX4:=Hd (show Ext w1 w4 by rw [Z];exact (((HX3.o.set2 (Bl HG3.o) _).set2 (Bl HG3.o) _).set2 (Bl HG3.o) _));have HR4:=Hd (show Blk w4 g3 36 #[.I noneA.kinds,.I noneA.tx.least,.I noneA.tx.most,.I noneA.tx.cls,.string noneA.tx.b,.string noneA.tx.e,.I noneA.nu.ln,.I noneA.nu.ls,.I noneA.nu.hn,.I noneA.nu.hs,.I noneA.dl,.I noneA.dh,.I noneA.bo,.I (x.rows.length:Int),.I (x.rows.length:Int),.slice B x.cols.length cb,.slice none noneA.deps.length 0,.bool noneA.errs] by
   have hbb:=(((U.o.set 13 (.I (x.rows.length:Int))).set 14 (.I (x.rows.length:Int))).set 15 (.slice B x.cols.length cb));rw [<-Z] at hbb
   simpa using hbb)
  have b4:Kept (λb=>T b/\b<w.heap.size) w3 w4:=(by rw [Z];exact (((Kept.refl _ _).set2 (λh=>Lf)).set2 (λh=>Lf)).set2 (λh=>Lf));have b0:=Hd (HV3.o.keep b4);clear Z b4 d5 f1 d4 rf rl p0 p5 p6;have O:=HB1.o.keep (HX4.o.kept _);have p5:=O.q5;have p6:=O.q6;clear O;have f6:=Hd (AVA q x.cols x.rows B C cb cc w4 _ _ b0.o.strs b0.o.rows_ AA)
  go_wp2_with fail
  refine f6.o.mono ?_;rintro e5 w5 ⟨D5,a8,rfl,b9,b5,hx5⟩;obtain ⟨HX5,HR5,f7⟩:=Hd3 (HX4.o.trans hx5) (HR4.o.keep (hx5.kept _)) (b0.o.keep (hx5.kept _));have hg3l:=HR4.o.lt;have d7:=Hd (b5.mono (T:=λb=>g3<b) λb _ (hb:w4.heap.size<=b)=>AA);have d9:=Hd b9;clear hx5 b5 b9 hg3l p5 p6;have rf:=HR5.o.frozen;have rl:=HR5.o.lt;have f4:w5.cell? ⟨g3,16,none⟩=some (.slice none noneA.deps.length 0):=HR5.o.q16
  go_upto_region 20 with fail
  obtain ⟨w6,hw6⟩:=eqx (w5.setCell ⟨g3,16,none⟩ (.slice D5 (Co x.cols x.rows).length a8));rw [<-hw6];have HX6:=Hd (show Ext w1 w6 by rw [hw6];exact HX5.o.set2 (Bl HG3.o) _);have HR6:=Hd (show Blk w6 g3 36 (Ap r0 B cb D5 a8) by
   have hbb:=HR5.o.set 16 (.slice D5 (Co x.cols x.rows).length a8);exact B4)
  have b3:Kept (λb=>(T b/\b<w.heap.size)\/g3<b) w5 w6:=(by rw [hw6];exact (Kept.refl _ _).set2 (λh=>by have:=HG3.o;have:=HXW.o.size;rcases h with h | h;(have:=h.2;omega);omega));have d3:=Hd (show AbM w6 (λb=>(T b/\b<w.heap.size)\/g3<b) r0 B cb D5 a8 by
   rw [HRR.o];exact ⟨hcp,d9.o,(f7.o.strs.keep (b3.mono λb _ h=>.inl h)).mono λb _ h=>.inl h,(d7.o.keep (b3.mono λb _ h=>.inr h)).mono λb _ h=>.inr h⟩)
  clear hw6 b3 f4 rf rl;have p0:=(HB1.o.keep (HX6.o.kept _)).q0;have r0c:=HR6.o.q0;have rf:=HR6.o.frozen;have rl:=HR6.o.lt
  go_wp2_with fail
  refine (HBI.o _).mono ?_;rintro e9 w9 ⟨rfl,rfl⟩
  go_upto_region 21 with fail
  obtain ⟨wb,hwb⟩:=eqx (w6.setCell ⟨g3,0,none⟩ (.I p2));rw [<-hwb];have HXB:=Hd (show Ext w1 wb by rw [hwb];exact HX6.o.set2 (Bl HG3.o) _);have hrb:Blk wb g3 36 (Ap raw B cb D5 a8):=by
   exact Oe
  have HRB:=Hd hrb;have hkb:Kept (λb=>(T b/\b<w.heap.size)\/g3<b) w6 wb:=(by rw [hwb];exact (Kept.refl _ _).set2 (λh=>by have:=HG3.o;have:=HXW.o.size;rcases h with h | h;(have:=h.2;omega);omega));have HAB:=Hd (show AbM wb (λb=>(T b/\b<w.heap.size)\/g3<b) raw B cb D5 a8 from by
   have h:=(d3.o).keep hkb;rw [HR0.o];exact h)
  clear hwb hrb hkb p0 r0c rf rl;have HCN:=Hd (As raw B D5 cb a8 wb _ HAB.o.2.2.1 HAB.o.2.2.2 (HT.o.ext (HXW.o.trans HXB.o)) HNR.o);refine wp_region_lit ?_;refine AJ rfl 36 _ rfl g3 rfl HRB.o AS AH ?_
  go_wp2_with fail
  refine HCN.o.mono ?_;rintro e8 w8 ⟨A5,c5,D7,e7,rfl,hab5,hx5⟩;have HX5:=Hd (HXB.o.trans hx5);have HAB5:=Hd hab5;have hb25:=HB2.o.keep (HX5.o.kept _);rename_i K1 hK1 K2 hK2;refine hK2 _ _ ?_;refine AM rfl 36 _ _ rfl g2 (Ap (AX raw) A5 c5 D7 e7) rfl rfl 36 _ hb25 AH rfl AD ?_;intro wf hbf hof;refine hK1 _ _ ?_;obtain ⟨HXF,HBF,HABF⟩:=Hd3 ((HXW.o.trans HX5.o).only hof Bq) hbf hab5;have hkf:=hof.kept (S:=λb=>(T b/\b<w.heap.size)\/g3<b) (λb _ hb e=>by have:=HG2.o;have:=HG3.o;have:=HB2.o.lt;rcases hb with h|h;(have:=h.2;omega);omega);have HKF:=Hd hkf;clear hK1 hK2 hbf hb25 hx5 hab5 hof hkf
  go_wp2_with fail
  refine bodyPost_ret (Bv results19 rfl (Eq HBF.o AS AH)) rfl ?_;rw [HOF.o,<-HRAW.o];exact ⟨A5,c5,D7,e7,rfl,((HABF.o.mono (T:=λb=>(T b/\b<w.heap.size)\/g3<b) λb _ hb=>by rcases hb with h|h;exact h;exact .inr (by have:=HRB.o.lt;omega)).keep HKF.o).mono λb _ hb=>hb.imp And.left λh=>by have:=HG3.o;have:=HXW.o.size;omega,HXF.o⟩
