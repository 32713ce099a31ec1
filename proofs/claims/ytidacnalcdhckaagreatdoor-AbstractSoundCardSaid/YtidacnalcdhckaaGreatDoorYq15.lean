/- Lemmas. No conditions. -/
import Derived.Test.YtidacnalcdhckaaGreatDoorYq14
import Derived.Sort.OwnSorted
import Derived.Shelf.SortM.Plain
import Derived.Shelf.SortM.SortNone
set_option maxRecDepth 100000
set_option maxHeartbeats 4000000
namespace Go.Proofs.YtidacnalcdhckaaGreatDoor
open Go Go.RowKit Tryz
variable {qP:Prop}

theorem Vm(l:List BA):l.map Value.string=(l.map fun s=>s.data.toList).map encStr:=by
 rw [List.map_map];rfl
theorem TF(g c:Nat)(ss:List (List UInt8))(w:World)(hH:Sort.Holds encStr w g 0 ss.toArray)(hb:g<w.heap.size)(hsz:ss.length<4611686018427387904) :
  Cl 183 #[.slice (some ⟨g,0,none⟩) ss.length c] w fun e w' =>
   e=.returned (.tuple #[])∧∃ n os,w'=Sort.grow (Sort.putRow encStr (Sort.ahead w n) g 0 (ss.mergeSort fun x y=>decide (x≤y)).toArray) os:=AnyM.slices_Sort_string Tryz.sort183 g 0 c ss w hH hb hsz
theorem QS{w:World}{base c:Nat}{A:OA}{l:List BA}(h:OwnSs w base A c l)(hl:l.length≤17592186044416) :
  Cl 183 #[.slice A l.length c] w (fun e w'=>e=.returned (.tuple #[])∧w.grownBy w' (ob A)∧OwnSs w' base A c (AT l)):=by
 have hsz:∀ s∈AT l,s.size≤4294967296:=fun s hs=>h.2 s (by
  unfold AT at hs;obtain ⟨b,hb,rfl⟩:=List.mem_map.1 hs;rw [List.mem_mergeSort] at hb;obtain ⟨x,hx,rfl⟩:=List.mem_map.1 hb;have:(⟨x.data.toList.toArray⟩:BA)=x:=(by cases x;simp);rw [this];exact hx)
 have hsl:(AT l).length=l.length:=by simp [AT]
 rcases h.1.2 with ⟨hv,hn⟩|⟨g,cap,cur,hv,hb,hh,hnc,hcm,hcs,ht⟩
 ·injection hv with hv1 hv2 hv3;subst hv1 hv3;have hl0:l=[]:=List.eq_nil_of_length_eq_zero hn;subst hl0;refine (show Cl 183 #[.slice none 0 0] w (fun e w'=>e=.returned (.tuple #[])∧w'=w) from AnyM.slices_Sort_string_none Tryz.sort183 none 0 w).mono ?_;rintro e w' ⟨rfl,rfl⟩;exact ⟨rfl,World.grownBy.refl _ _,by rw [show AT []=[] by simp [AT]];exact OwnSs.nil _ _⟩
 ·injection hv with hv1 hv2 hv3;subst hv1 hv3;have hh':w.heap[g]?=some (.cells cur 9 (0,0)):=hh;have hnl:(l.map fun s=>s.data.toList).length=l.length:=Y3;have ht':cur.toList.take (l.map fun s=>s.data.toList).length=(l.map fun s=>s.data.toList).map encStr:=by
   rw [←Vm,hnl,←ht,Nat.mul_one]
  have h1:=TF g c (l.map fun s=>s.data.toList) w (holds_of_block hh' ht') (Blk.lt hh) (by rw [hnl];omega);rw [hnl] at h1;refine h1.mono ?_;rintro e w' ⟨rfl,n,os,rfl⟩;refine ⟨rfl,grownBy_sorted _,?_,hsz⟩;have h2:=ownsRow_sorted (w:=w) (base:=base) (n:=n) (os:=os) (ss:=l.map fun s=>s.data.toList) (ts:=(l.map fun s=>s.data.toList).mergeSort fun x y=>decide (x≤y)) Y3 hb hh' (by rw [hnl];exact hnc) hcm hcs;rw [hnl] at h2;rw [hsl];have h3:(AT l).map Value.string=((l.map fun s=>s.data.toList).mergeSort fun x y=>decide (x≤y)).map encStr:=by
   unfold AT;rw [List.map_map];rfl
  rw [h3];exact h2
theorem OwnDs.put{w:World}{base c g:Nat}{X:NP}{l:List Dep}(h:OwnDs w base X (some ⟨g,0,none⟩) c l){i:Nat}(hi:i<l.length){B:OA}{e:Nat}(he:l[i].frm.length≤e)(hs:Strs w (fun b=>b≠g∧X b) B l[i].frm) :
  OwnDs (w.setCell ⟨g,i*2,none⟩ (.slice B l[i].frm.length e)) base X (some ⟨g,0,none⟩) c l:=by
 obtain ⟨xs,ho,hv⟩:=h;have hlen:xs.length=l.length*2:=ho.len;have hk:Kept (fun b=>ob (some ⟨g,0,none⟩)≠some b∧X b) w (w.setCell ⟨g,i*2,none⟩ (.slice B l[i].frm.length e)):=Kept.of_set fun hh=>hh.1 rfl;refine ⟨xs.set (i*2) (.slice B l[i].frm.length e),Own.put ho _,fun j d hj => ?_⟩;obtain ⟨B',e',h3,h4,h5,h6,h7⟩:=hv j d hj;have h4':(xs.set (i*2) (.slice B l[i].frm.length e))[j*2+1]?=some (.string d.to):=(by rw [List.getElem?_set_ne Y4];exact h4);by_cases hji:j=i
 ·subst hji;rw [List.getElem?_eq_getElem hi] at hj;injection hj with hj;subst hj;refine ⟨B,e,by rw [List.getElem?_set_self Y4],h4',he,h6,(hs.mono fun b _ hb=>⟨fun e=>hb.1 (by injection e with e;exact e.symm),hb.2⟩).keep hk⟩
 ·exact ⟨B',e',by rw [List.getElem?_set_ne Y4];exact h3,h4',h5,h6,h7.keep hk⟩

def AbM(w:World)(S:NP)(a:Abs)(A:OA)(c:Nat)(D:OA)(e:Nat):Prop:=a.cols.length≤c∧a.deps.length≤e∧Strs w S A a.cols∧RDeps w S D a.deps
theorem AbM.keep{w w':World}{S:NP}{a:Abs}{A D:OA}{c e:Nat}(h:AbM w S a A c D e)(k:Kept S w w'):AbM w' S a A c D e:=⟨h.1,h.2.1,h.2.2.1.keep k,h.2.2.2.keep k⟩
theorem AbM.mono{w:World}{S T:NP}{a:Abs}{A D:OA}{c e:Nat}(h:AbM w S a A c D e)(k:∀ i,i<w.heap.size→S i→T i):AbM w T a A c D e:=⟨h.1,h.2.1,h.2.2.1.mono k,h.2.2.2.mono k⟩
def DD(w:World)(S:NP)(a:Abs)(e:Ending)(w':World):Prop:=∃ A c D e',e=.returned (Aq a A c D e')∧AbM w' (fun b=>S b∨w.heap.size≤b) a A c D e'∧Ext w w'
def Off(S0:NP)(w:World):Nat→Prop:=fun b=>S0 b∨w.heap.size≤b
def R7(w w0:World)(S0:NP)(g:Nat)(A':OA)(c':Nat)(D':OA)(e':Nat)(b:Bool)(r1 r:Abs)(e:Ending)(w':World):Prop :=
 e=.returned (.bool b)∧Ext w0 w'∧w.heap.size≤w'.heap.size∧(b=true→∃ A2 c2 D2 e2,Blk w' g 39 (Ap r1 A2 c2 D2 e2)∧AbM w' (Off S0 w) r1 A2 c2 D2 e2)∧(b=false→Blk w' g 39 (Ap r A' c' D' e'))
def DMA(ws:World)(l:List BA)(γ:Gz)(w':World)(v:Value):Prop:=∃ (B:OA) (e:Nat),v=.slice B l.length e∧l.length≤e∧(γ 1010=false→Strs w' (fun b=>ws.heap.size≤b) B l)
theorem Vl(h:qP:=by
 go_wp2_with fail
 go_ret;exact ⟨Y76,HX3.o,HZ3.o,fun h=>(by rw [HPT.o] at h;cases h),fun _=>HBR3.o⟩):qP:=h
theorem B4A(h:qP:=by
 have hkk:=hR.o.kept0 (S:=fun b=>b≠gd) (fun b _ hb m hm=>absurd hm.2 hb);have m16:=Kept.cell hkk G16.o K16.o;have mv:=Kept.cell hkk GV.o KV.o;clear hkk;exact Qk):qP:=h
theorem AFA(h:qP:=by
 exact ⟨h1.keep (rr.keptS fun b _ e m hm=>Y50),rr.done _ h2⟩):qP:=h
theorem Ol(a r:Abs)(A D A' D':OA)(c e c' e' g:Nat)(w w0:World)(hx:Ext w0 w)(hg:w0.heap.size≤g)(hb:Blk w g 39 (Ap r A' c' D' e'))
  (S0:NP) (hS0:∀ b,S0 b→b<w0.heap.size) (hA:Strs w S0 A a.cols) (hD:RDeps w S0 D a.deps) (hn1:a.cols.length≤1000000) (hn2:a.deps.length≤1000000) :
  Cl 122 #[.pointer (some ⟨g,0,none⟩),(Aq a A c D e),.I 5] w (R7 w w0 S0 g A' c' D' e' (BQ a 5) (CY a 5 r) r):=by
 obtain ⟨w1,hw1⟩:=eqx (w.alloc (.cells (Ap a A c D e) 39));obtain ⟨g4,hg4⟩:=eqx w.heap.size;have hx1:Ext w w1:=Y74;have hba:Blk w1 g4 39 (Ap a A c D e):=Y75;have hgl:g<w.heap.size:=hb.lt;obtain ⟨HBA1,HBR1,HX1,HXX,HX01,HW,HG,HGE⟩:=Hd8 hba (hb.keep (hx1.kept _)) (hx.trans hx1) hx hx1 hw1 hg4 hg;obtain ⟨HGL,HS0,HA1,HD1,HAL⟩:=Hd5 hgl hS0 (hA.keep (hx1.kept _)) (hD.keep (hx1.kept _)) (show ∀ w',Cl 65 #[] w' (Bk w' (0,100)) from EZ);obtain ⟨d1,hd1⟩:=eqx ((CE a).1);obtain ⟨d2,hd2⟩:=eqx ((CE a).2);obtain ⟨cs,hcs⟩:=eqx (ddp a.cols);obtain ⟨ds,hds⟩:=eqx (ddp a.deps);have hcl:cs.length≤1000000:=(by have:=EK a.cols;rw [hcs];omega);have hdl:ds.length≤1000000:=(by have:=EK a.deps;rw [hds];omega);obtain ⟨HP,HPP,HMS,HDI,HDD,k0,k1⟩:=Hd7 (show BQ a 5=(decide (d1≤d2)&&decide (cs.length≤8)&&cs.all BC) by rw [hd1,hd2,hcs];rfl) (show CY a 5 r = { r with rl:=d1,rh:=d2,cols:=AT cs,deps:=ds } by rw [hd1,hd2,hcs,hds];rfl) (show ∀ w',Cl 89 #[.agg #[.I a.rl,.I a.rh],.agg #[.I 0,.I 100]] w' (Bk w' (d1,d2)) from fun w'=>by rw [show (d1,d2)=Bj (a.rl,a.rh) (0,100) by rw [hd1,hd2];rfl];exact CO _ _ _ _ w') (show ∀ w',Ext w1 w'→Cl 180 #[.slice A a.cols.length c,.func (.func 181) #[] #[]] w' (Uc w' cs) from fun w' hw'=>by rw [hcs];exact Gj a.cols A c w' _ (HA1.o.keep (hw'.kept _)) hn1) (show ∀ w',RDeps w' S0 D a.deps→Cl 184 #[.slice D a.deps.length e,.func (.func 185) #[] #[]] w' (Fx w' S0 ds) from fun w' hw'=>by rw [hds];exact Gp a.deps D e w' _ hw' hn2) (hba.q13) (hba.q14);clear hx hg hb hx1 hba hw1 hg4 hd1 hd2 hcs hds hA hD hgl
 go_enter func122,ntmps122
 go_upto_region 19 with fail
 rw [←HW.o,←HG.o];refine Qb (fun|5=>[4,5]|i=>[i]) (fun _ _=>False) [(5,[4])] ?_
 iterate 2 refine Qp ?_
 refine Qc (x:=.agg #[.I 0,.I 100]) (fun w'=>HAL.o w') ?_;refine Qc (x:=.agg #[.I d1,.I d2]) (fun w'=>HMS.o w') ?_;refine Qs (FP (VarX (fun _ _=>False) 4 36 2)) (EuA E3A) ?_ ?_
 ·exact ZV
 refine Chain.step (fun vl γ w'=>match vl with|[p,_]=>VarXI (fun _ _=>False) 36 p #[.I d1,.I d2] γ w'|_=>True) Y41 ?_ ?_ ?_
 ·exact BcA
 ·intro vals γ w' ρ hR hN hp hρ hc hf hg;refine ⟨rfl,?_⟩;have e72:ρ (.tmp 72)=_:=(hρ 72).trans (hp 3 Y17);obtain ⟨g,⟨cl⟩,hv,hcs,hb,hk,hst⟩:=E1A (hp 4 Y17) (s:=5) (l:=[(5,[4])]) Y17 hN;have e8:=(hρ 8).trans hv;exact B3A
 intro vals γ w9 hR hG;obtain ⟨g5,v4,hb5,-,-⟩:=hG 5 Y17;refine Qx ?_;simp only [v4];have HX9:=Hd (show Ext w1 w9 from hR.ext0 (fun _ _ h=>h.elim));have HB5:=Hd hb5;clear hR hG hb5 v4;obtain ⟨HX2,HBR2,HBA2⟩:=Hd3 (HX1.o.trans HX9.o) (HBR1.o.keep (HX9.o.kept _)) (HBA1.o.keep (HX9.o.kept _));have q15:=HBA2.o.q15
 go_wp2_with fail
 refine (HDI.o _ HX9.o).mono ?_;rintro e2 w2 ⟨A2,c2,rfl,hcap2,hown2,hx2⟩;obtain ⟨HX3,HX93,HX92,HZ3,HBR3,HBA3,HB53,HOW2⟩:=Hd8 (HX2.o.trans hx2) (HX9.o.trans hx2) hx2 (show w.heap.size≤w2.heap.size by have:=HX01.o.size;have:=HX9.o.size;have:=hx2.size;omega) (HBR2.o.keep (hx2.kept _)) (HBA2.o.keep (hx2.kept _)) (HB5.o.keep (hx2.kept _)) hown2;have HC2:=Hd hcap2;have hal:=Hi A2 c2 cs w2 (fun _=>True) (hown2.strs Y4 fun _ _=>trivial);obtain ⟨an,han⟩:=eqx (cs.all BC);rw [←han] at hal HP;have HALN:=Hd hal;clear q15 hx2 hown2 hcap2 hal han;obtain ⟨s0,s1⟩:=HB53.o.qs2;by_cases hle:d1≤d2
 case neg =>
  have hle2:d2<d1:=Y4;have HPT:=Hd (show BQ a 5=false by rw [HP.o,decide_eq_false hle];rfl);exact Vl
 have hle2:¬d2<d1:=Y4;by_cases h8:cs.length≤8
 case neg =>
  have h82:(8:Int)<(cs.length:Int):=Y4;have HPT:=Hd (show BQ a 5=false by rw [HP.o,decide_eq_false h8,Bool.and_false];rfl);exact Vl
 have h82:¬(8:Int)<(cs.length:Int):=Y4;cases an
 ·have HPT:=Hd (show BQ a 5=false by rw [HP.o,Bool.and_false])
  go_wp2_with fail
  refine HALN.o.mono ?_;rintro e3 w3 ⟨rfl,rfl⟩;exact Vl
 have HPT:=Hd (show BQ a 5=true by rw [HP.o,decide_eq_true hle,decide_eq_true h8];rfl)
 go_wp2_with fail
 refine HALN.o.mono ?_;rintro e3 w3 ⟨rfl,rfl⟩;clear s0 s1 HP
 go_wp2_with fail
 refine (QS HOW2.o Y4).mono ?_;rintro e4 w4 ⟨rfl,hg4,hown4⟩;have hsz1:=HX01.o.size;have hsz9:=HX9.o.size;have hgl:=HGL.o;have hgg:=HG.o;have hg4l:=HBA1.o.lt;have hg5l:=HB5.o.lt;have hrow:∀ b,b<w9.heap.size→some b≠ob A2:=fun b hb e=>by have:=(HOW2.o.1.blk e.symm).1;omega
 obtain ⟨HX4,HX94,HBR4,HBA4,HB54,HOW4,HGR,HSL⟩:=Hd8 (Ext.grown HX3.o hg4 (fun b hb=>by have:=(HOW2.o.1.blk hb).1;have:=HX2.o.size;omega)) (Ext.grown HX93.o hg4 (fun b hb=>by have:=(HOW2.o.1.blk hb).1;omega)) (HBR3.o.keep (Kept.of_grown hg4 fun b hb _=>by rw [hb];exact hrow g Y4)) (HBA3.o.keep (Kept.of_grown hg4 fun b hb _=>by rw [hb];exact hrow g4 Y4)) (HB53.o.keep (Kept.of_grown hg4 fun b hb _=>by rw [hb];exact hrow g5 Y4)) hown4 hg4 (show (AT cs).length=cs.length by simp [AT]);obtain ⟨s0,s1⟩:=HB54.o.qs2;have r13:=HBR4.o.q13;have r14:=HBR4.o.q14;have r15:=HBR4.o.q15;have rf:=HBR4.o.frozen;have rl:=HBR4.o.lt;clear hg4 hown4 hrow hsz1 hsz9 hgl hgg hg4l hg5l
 go_upto_region 25 with fail
 obtain ⟨w5,hw5⟩:=eqx (((w4.setCell ⟨g,13,none⟩ (.I d1)).setCell ⟨g,14,none⟩ (.I d2)).setCell ⟨g,15,none⟩ (.slice A2 cs.length c2));rw [←hw5];obtain ⟨r5,hr5⟩:=eqx ({ r with rl:=d1,rh:=d2,cols:=AT cs });have hsz1:=HX01.o.size;have hsz9:=HX9.o.size;have hszx:=HXX.o.size;have hgl:=HGL.o;have hge:=HGE.o;have hgg:=HG.o;have hg4l:=HBA1.o.lt;have HSZ9:=Hd (show w.heap.size≤w9.heap.size by omega);have HBR5:=Hd (show Blk w5 g 39 (Ap r5 A2 c2 D' e') by
  have hbb:=((HBR4.o.set 13 (.I d1)).set 14 (.I d2)).set 15 (.slice A2 cs.length c2);rw [←hw5] at hbb;rw [hr5]
  simpa [HSL.o] using hbb)
 have hkb:∀ S:Nat→Prop,¬S g→Kept S w4 w5:=fun S hS=>by rw [hw5];exact ((Kept.refl S w4).set2 hS).set2 hS |>.set2 hS
 obtain ⟨HBA5,HX5,HOW5,HD5,HS5,HR5⟩:=Hd6 (HBA4.o.keep (hkb _ (show ¬g=g4 by omega))) (show Ext w0 w5 by rw [hw5];exact ((HX4.o.set2 HGE.o _).set2 HGE.o _).set2 HGE.o _) (show OwnSs w5 w9.heap.size A2 c2 (AT cs) from ⟨HOW4.o.1.keep (hkb _ (show ¬ob A2=some g from fun e=>by have:=(HOW4.o.1.blk e).1;omega)),HOW4.o.2⟩) ((HD1.o.keep (HX94.o.kept _)).keep (hkb _ (show ¬S0 g from fun h=>by have:=HS0.o g h;omega))) (show w9.heap.size≤w5.heap.size by have:=(hkb (fun _=>False) (fun h=>h)).1;have h9:=(Ext.grown HX92.o HGR.o (fun b hb=>(HOW2.o.1.blk hb).1)).size;omega) hr5;clear hkb hw5 hr5 s0 s1 r13 r14 r15 rf rl hsz1 hsz9 hszx hgl hge hgg hg4l;have q16:w5.cell? ⟨g4,16,none⟩=some (.slice D a.deps.length e):=HBA5.o.q16;have r16:w5.cell? ⟨g,16,none⟩=some (.slice D' r5.deps.length e'):=HBR5.o.q16;have rf:=HBR5.o.frozen;have rl:=HBR5.o.lt
 go_wp2_with fail
 refine (HDD.o _ HD5.o).mono ?_;rintro e6 w6 ⟨D2,e2,rfl,hcap6,hown6,hx6⟩;obtain ⟨HX6,HBR6,HOW6,HOD6,HS6⟩:=Hd5 (HX5.o.trans hx6) (HBR5.o.keep (hx6.kept _)) (HOW5.o.ext hx6) (hown6.mono (T:=Off S0 w) fun _ _ h=>.inl h) hx6.size;clear q16 r16 rf rl hx6 hown6;have r16:w6.cell? ⟨g,16,none⟩=some (.slice D' r5.deps.length e'):=HBR6.o.q16;have rf:=HBR6.o.frozen;have rl:=HBR6.o.lt
 go_upto_region 26 with fail
 obtain ⟨w7,hw7⟩:=eqx (w6.setCell ⟨g,16,none⟩ (.slice D2 ds.length e2));rw [←hw7];have hkb:∀ S:Nat→Prop,¬S g→Kept S w6 w7:=fun S hS=>by rw [hw7];exact (Kept.refl S w6).set2 hS
 have hs5:=HS5.o;have hsz9:=HSZ9.o;have hgl:=HGL.o;have hge:=HGE.o;obtain ⟨r7,hr7⟩:=eqx (CY a 5 r);have hr7d:r7.deps=ds∧r7.cols=AT cs:=(by rw [hr7,HPP.o];exact ⟨rfl,rfl⟩);have HBR7:=Hd (show Blk w7 g 39 (Ap r7 A2 c2 D2 e2) by
  have hbb:=HBR6.o.set 16 (.slice D2 ds.length e2);rw [←hw7,HR5.o] at hbb;rw [hr7,HPP.o]
  simpa using hbb)
 have HX7:=Hd (show Ext w0 w7 by rw [hw7];exact HX6.o.set2 HGE.o _);have HOW7:=Hd (show OwnSs w7 w9.heap.size A2 c2 (AT cs) from ⟨HOW6.o.1.keep (hkb _ (show ¬ob A2=some g from fun e=>by have:=(HOW6.o.1.blk e).1;omega)),HOW6.o.2⟩);have HOD7:=Hd (show OwnDs w7 w5.heap.size (Off S0 w) D2 e2 ds from HOD6.o.keep (hkb _ (show ¬(ob D2=some g∨Off S0 w g) from fun h=>by
  rcases h with h|h
  ·have:=(HOD6.o.blk h).1;omega
  ·rcases h with h|h
   ·have:=HS0.o g h;omega
   ·omega)))
 obtain ⟨HS7,HA2L,HRD,HR7,HCP⟩:=Hd5 (show w5.heap.size≤w7.heap.size by have:=HS6.o;have:=(hkb (fun _=>False) (fun h=>h)).1;omega) (show ∀ b,ob A2=some b→b<w5.heap.size from fun b hb=>(HOW5.o.1.blk hb).2) hr7d hr7 hcap6;have hcell:w7.cell? ⟨g,16,none⟩=some (.slice D2 r7.deps.length e2):=HBR7.o.q16;rw [hr7d.1] at hcell;clear hkb hw7 hr7 hr7d r16 rf rl hs5 hsz9 hgl hge;go_wp2
 go_loopw [112] (fun i wr=>∃ k:Nat,k≤ds.length∧i=.I k∧Ext w0 wr∧w5.heap.size≤wr.heap.size∧Blk wr g 39 (Ap r7 A2 c2 D2 e2)∧OwnSs wr w9.heap.size A2 c2 (AT cs)∧OwnDs wr w5.heap.size (Off S0 w) D2 e2 ds) (fun i _=>ds.length-(intOf i).toNat)
 case atStart=>exact ⟨0,AE,rfl,HX7.o,HS7.o,HBR7.o,HOW7.o,HOD7.o⟩
 case round =>
  clear hcell;obtain ⟨k,hk,rfl,hext,hszr,hbr,hos,hod⟩:=hrel;by_cases hlt:k<ds.length
  ·obtain ⟨xs,hxl,ho,hv⟩:=hod.add;obtain ⟨gd,rfl⟩:=ho.some_ Y4;obtain ⟨B,cB,h3,h4,h5,h6,h7⟩:=hv k ds[k] (List.getElem?_eq_getElem hlt);have c1:=ho.cell_ h3;have c2':=ho.cell_ h4;have hgd:=(hod.blk rfl);obtain ⟨HE,HBR,HOS,HOD,HSR,HGD,H7,H56⟩:=Hd8 hext hbr hos hod hszr hgd (h7.mono (T:=fun b=>b≠gd∧Off S0 w b) fun b _ hb=>⟨fun e=>hb.1 (by rw [e];rfl),hb.2⟩) (And.intro h5 h6);clear ho hv hxl h3 h4 h7 hext hbr hos hod
   go_upto_region 29 with fail
   obtain ⟨ws,hws⟩:=eqx (wr.alloc (.cells #[.slice B ds[k].frm.length cB,.string ds[k].to] 69));obtain ⟨gv,hgv⟩:=eqx wr.heap.size;rw [←hws,←hgv];have hxs:Ext wr ws:=(by rw [hws];exact (Ext.refl wr).alloc _);have hbv:Blk ws gv 69 #[.slice B ds[k].frm.length cB,.string ds[k].to]:=(by rw [hws,hgv];exact Blk.new _ _ _);have KV:=Hd (hbv.q0);have hrd7:=HRD.o.1;have K16:=Hd (show ws.cell? ⟨g,16,none⟩=some (.slice (some ⟨gd,0,none⟩) ds.length e2) by rw [←hrd7];exact hxs.cell (HBR.o.q16));have hg1:=HGD.o.1;have hg2:=HGD.o.2;simp only at hg1 hg2;have hgl:=HGL.o;have hs5:=HS5.o;have hs9:=HSZ9.o;have hszs:=hxs.size;obtain ⟨G16,GV,HGX,HF,HODS,HXS⟩:=Hd6 (show g≠gd by omega) (show gv≠gd by omega) (show gd<ws.heap.size∧w.heap.size≤ws.heap.size by omega) ((H7.o.keep (hxs.kept _)).mono (T:=fun b=>b≠gd) fun b _ hb=>hb.1) (HOD.o.ext hxs) hxs;clear hws hgv hxs hbv hrd7 hg1 hg2 hgl hs5 hs9 hszs c1 c2' h5 h6 hgd;refine Qa (fun m b=>m=1010∧b=gd) [(0,[1010]),(1,[1010]),(2,[1010]),(3,[1010]),(4,[1010]),(5,[1010]),(6,[1010]),(7,[1010]),(9,[1010]),(10,[1010])] ?_
   iterate 3 refine Qp ?_
   refine Qm (fun vals γ w' ρ hR hN hp hρ zs zg=>by
    exact B4A) ?_
   iterate 2 refine Qp ?_
   refine Qm (fun vals γ w' ρ hR hN hp hρ zs zg=>by
    exact B4A) ?_
   refine Qs (FP fun v γ w'=>DMA ws ds[k].frm γ w' v) (EuA ?_) ?_ ?_
   ·rintro v γ w1 γ' w2 rr ⟨B7,e7,h1,h2,h3⟩;refine ⟨B7,e7,h1,h2,fun hk => ?_⟩;have hk0:γ 1010=false:=by
     cases h6:γ 1010 with
     |false=>rfl
     |true=>rw [rr.done _ h6] at hk;cases hk
    exact (h3 hk0).keep (rr.keptS (S:=fun b=>ws.heap.size≤b) fun b _ e m hm=>by rw [hm.1,hk,hk0])
   ·intro vals γ w' ρ hR hN hp hρ zs zg;have HR:=hR;have HCL:=Hd (ML B cB ds[k].frm w' _ (HF.o.keep (hR.o.kept0 (S:=fun b=>b≠gd) (fun b _ hb m hm=>absurd hm.2 hb))));refine Qr ?_;refine HCL.o.mono ?_;rintro e1 w3 ⟨B7,e7,he,h7,hst,hx⟩;exact ⟨_,he,γ,ExA _ γ hx,fun _ _ _ h=>h,B7,e7,rfl,h7,fun _=>hst.mono fun b _ hb=>Nat.le_trans HR.o.size hb⟩
   iterate 2 refine Qp ?_
   refine Qs (fun _ γ w'=>OwnDs w' w5.heap.size (Off S0 w) (some ⟨gd,0,none⟩) e2 ds∧γ 1010=true) ?_ ?_ ?_
   ·rintro v γ w1 γ' w2 rr ⟨h1,h2⟩;exact AFA
   ·intro vals γ w' ρ hR hN hp hρ zs zg;obtain ⟨B7,e7,hv7,hl7,hst7⟩:=hp.o 7 Y17;have e124:=(hρ.o 124).trans hv7;have hk0:=hN.o.key (k:=1010) Y17;have HST:=Hd (hst7 hk0);have HL7:=Hd hl7;have hod:=HODS.o.keep (hR.o.kept0 (S:=fun b=>ob (some ⟨gd,0,none⟩)=some b∨Off S0 w b) fun b _ e m hm=>Y45);obtain ⟨xs,hxl,ho,hv⟩:=hod.add;obtain ⟨B0,cB0,h3,-⟩:=hv k ds[k] (List.getElem?_eq_getElem hlt);have qc:=ho.cell_ h3;have qf:=ho.frozen_;have ql:=ho.lt_;have HOD9:=Hd hod;have HK:=Hd hk0;clear hv7 hl7 hst7 hod ho hv h3 hxl;refine Qr ?_;have hgx:=HGX.o;exact ⟨γ.put 1010,EvA HK.o rfl rfl rfl Y1 (fun b hb hm=>(Only.set (Only.refl gd w') (k*2) (.slice B7 ds[k].frm.length e7)).block b fun e=>hm ⟨rfl,e⟩),LK.done Y17,HOD9.o.put hlt HL7.o (HST.o.mono fun b _ hb=>⟨Y4,.inr Y4⟩),Y64⟩
   intro vals γ w9' hR hG;have v0:vals 0=_:=hG 0 Y17;have v1:vals 1=_:=hG 1 Y17;have v2:vals 2=_:=hG 2 Y17;have v3:vals 3=_:=hG 3 Y17;have v4:vals 4=_:=hG 4 Y17;have v5:vals 5=_:=hG 5 Y17;have v6:vals 6=_:=hG 6 Y17;have v8:vals 8=_:=hG 8 Y17;have v9:vals 9=_:=hG 9 Y17;simp only [AR,Act.put,List.setIfInBounds_toArray,List.set_cons_succ,List.set_cons_zero,Nat.zero_add,Nat.reduceAdd,v0,v1,v2,v3,v4,v5,v6,v8,v9];clear v0 v1 v2 v3 v4 v5 v6 v8 v9;obtain ⟨hod9,-⟩:=hG 10 Y17;have hk9:Kept (fun b=>b≠gd) ws w9':=hR.kept0 (S:=fun b=>b≠gd) (fun b _ hb m hm=>absurd hm.2 hb);have HOD9:=Hd hod9;have hx9:Ext w0 w9':=AX (HE.o.trans HXS.o) (hR.buts (S:=fun b=>b=gd) (fun m b _ hm _=>hm.2)) (fun b hb=>by have:=HGD.o.1;have:=HS5.o;have:=HSZ9.o;have:=HXX.o.size;simp only at *;omega);obtain ⟨HX9',HBR9,HOS9,HS9'⟩:=Hd4 hx9 ((HBR.o.keep (HXS.o.kept _)).keep (hk9.mono fun b _ e=>by rw [e];exact G16.o)) (show OwnSs w9' w9.heap.size A2 c2 (AT cs) from ⟨(HOS.o.ext HXS.o).1.keep (hk9.mono fun b _ e=>by have:=HA2L.o b e;have:=HGD.o.1;simp only at *;omega),HOS.o.2⟩) (show w5.heap.size≤w9'.heap.size by have:=hk9.1;have:=HXS.o.size;have:=HSR.o;omega);clear hR hG hod9 hk9 hx9;go_wp2;go_roundw
   case rel=>exact ⟨k+1,Y4,Y5,HX9'.out,HS9'.out,HBR9.o,HOS9.o,HOD9.o⟩
   case measure=>simp [intOf];omega
  ·obtain rfl:k=ds.length:=Y4;obtain ⟨HE,HBR,HOS,HOD⟩:=Hd4 hext hbr hos hod;clear hext hbr hos hod;go_wp2;go_ret;refine ⟨Y76,HE.o,by have:=HSZ9.o;have:=HS5.o;omega,fun _=>⟨A2,c2,D2,e2,?_,?_⟩,fun h=>(by rw [HPT.o] at h;cases h)⟩
   ·have hbb:=HBR.o;rw [HR7.o] at hbb;exact hbb
   ·have h1:=HRD.o;rw [HR7.o] at h1;have hs9:=HSZ9.o;have hs5:=HS5.o;refine ⟨by rw [h1.2,HSL.o];exact HC2.o,by rw [h1.1];exact HCP.o,?_,?_⟩
    ·rw [h1.2];exact HOS.o.strs (by rw [HSL.o];omega) fun b hb=>.inr (by have:=(HOS.o.1.blk hb).1;omega)
    ·rw [h1.1];exact HOD.o.rdeps Y4 (fun b hb=>.inr (by have:=(HOD.o.blk hb).1;omega)) fun b hb=>hb

theorem AbM.nil{w:World}{S:NP}{a:Abs}{A D:OA}{c e:Nat}(h:a.cols=[]∧a.deps=[]):AbM w S a A c D e:=by
 unfold AbM;rw [h.1,h.2];exact ⟨AE,AE,⟨.inl rfl,Y3,Y3⟩,Y3,[],.inl rfl,Y3,Y3⟩
theorem EKA(h:qP:=by
 rw [hp,if_pos rfl] at hs;rw [←hs];exact hbb):qP:=h
theorem C8A(h:qP:=by
 rw [hp,if_neg Y3] at hs;rw [←hs];exact hbb):qP:=h
theorem T1(h:qP:=by
 rintro e w' ⟨he,⟨s,hs,hbb⟩,hxx,hz⟩;refine ⟨he,hxx,hz,fun hp=>⟨A',c',D',e',?_,AbM.nil hr⟩,fun hp => ?_⟩
 ·exact EKA
 ·exact C8A):qP:=h
theorem Q8(a r:Abs)(A D A' D':OA)(c e c' e' g k:Nat)(w w0:World)(h1:1≤k)(h5:k≤5)(hx:Ext w0 w)(hg:w0.heap.size≤g)(hb:Blk w g 39 (Ap r A' c' D' e'))
  (S0:NP) (hS0:∀ b,S0 b→b<w0.heap.size) (hA:Strs w S0 A a.cols) (hD:RDeps w S0 D a.deps) (hn1:a.cols.length≤1000000) (hn2:a.deps.length≤1000000) (hb1:a.tx.b.size≤1000000000) (hb2:a.tx.e.size≤1000000000) (ht:Tens w0) (hr:r.cols=[]∧r.deps=[]) (hbo:k≤4→r.bo=0) :
  Cl 122 #[.pointer (some ⟨g,0,none⟩),(Aq a A c D e),.I (k:Int)] w (R7 w w0 S0 g A' c' D' e' (BQ a k) (CY a k r) r):=by
 have hk:k=1∨k=2∨k=3∨k=4∨k=5:=Y4
 rcases hk with rfl|rfl|rfl|rfl|rfl
 ·refine (OH a r A D A' D' c e c' e' g w w0 hx hg hb hb1 hb2).mono ?_;exact T1
 ·refine (OZ a r A D A' D' c e c' e' g w w0 hx hg hb ht).mono ?_;exact T1
 ·refine (Ov a r A D A' D' c e c' e' g w w0 hx hg hb ).mono ?_;exact T1
 ·refine (OL a r A D A' D' c e c' e' g w w0 hx hg hb (hbo Y4)).mono ?_;exact T1
 ·exact Ol a r A D A' D' c e c' e' g w w0 hx hg hb S0 hS0 hA hD hn1 hn2
theorem AP{ops:Array Oper}{rest:List Oper}{o:Oper}{a:Act}{w:World}{Q:Exit→Act→World→Prop}(hgd:o.guard=none)(ho:o.op=.alloc 39)
  (h:wpList prog ops Q rest (a.put o.dst (.pointer (some ⟨w.heap.size,0,none⟩))) (w.alloc (.cells Az 39))):wpList prog ops Q (o::rest) a w:=by
 refine wpList_plain hgd fun K hK => ?_;unfold Oper.wp execOp;rw [ho];simp [go_sem];exact hK _ _ h
theorem AbA(h:qP:=by
 unfold Oper.wp execOp;simp only [ho,hx,Instr.loadAt,Instr.sureAddr,Sem.run_bind,Sem.run_pure,Result.andThen_ok,DM hb hd hi];exact hK _ _ h):qP:=h
theorem AB{P:Program}{ops:Array Oper}{rest:List Oper}{o:Oper}{a:Act}{w:World}{Q:Exit→Act→World→Prop}(hgd:o.guard=none)(ty:TypeId)(x:Operand)(ho:o.op=.load ty x)
  (g:Nat) (hx:a.eval x=.pointer (some ⟨g,0,none⟩)) {cs:Array Value} (hb:Blk w g ty cs) (hd:(match P.underlying ty with|some (.struct _)|some (.array _ _)=>true|_=>false)=true) (hi:(P.info? ty).map (·.size)=some cs.size)
  (h:wpList P ops Q rest (a.put o.dst (.agg cs)) w):wpList P ops Q (o::rest) a w:=by
 refine wpList_plain hgd fun K hK => ?_;exact AbA
theorem DY{P:Program}{o:Oper}{ρ:Operand→Value}{K:Value→World→Prop}{w:World}{ty:TypeId}{x:Operand}(ho:o.op=.load ty x){g:Nat}(hx:ρ x=.pointer (some ⟨g,0,none⟩)){cs:Array Value}(hb:Blk w g ty cs)
  (hd:(match P.underlying ty with|some (.struct _)|some (.array _ _)=>true|_=>false)=true) (hi:(P.info? ty).map (·.size)=some cs.size) (h:K (.agg cs) w):BN P K ((execOp ρ o).run P w):=by
 unfold execOp;simp only [ho,hx,Instr.loadAt,Instr.sureAddr,Sem.run_bind,Sem.run_pure,Result.andThen_ok,DM hb hd hi];exact h
theorem Qy{Γ:Type}{P:Program}{ops:Array Oper}{D:Nat→List Nat}{R:Γ→World→Γ→World→Prop}{N:Nat→Γ→Prop}{a0:Act}{γ0:Γ}{w1:World}{Qf:List (Ft Γ)→Prop}{done:List (Ft Γ)}{o:Oper}{rest:List Oper}{k g ty:Nat}{cs:Array Value} [Rf R] [Rx R γ0](H:Hid (Blk w1 g ty cs))(hd:(match P.underlying ty with|some (.struct _)|some (.array _ _)=>true|_=>false)=true)(hi:(P.info? ty).map (·.size)=some cs.size)
  (next:Chain P ops D R N a0 γ0 w1.drew Qf (k+1) (FV (.agg cs)::done) rest) (hk:done.length=k:=Y41) (hD:D k=[k]:=Y41)
  (h:∀ vals γ w ρ,Blk w g ty cs→FindsZ ops D R N a0 γ0 w1.drew k done o vals γ w ρ (Ad o vals=true∧BN P (fun v w'=>v=.agg cs∧w'=w) ((execOp ρ o).run P w)):=by
   intro vals γ w' ρ hB hR hN hp hρ zs zg _ _ _
   (conv at zg=>whnf)
   refine ⟨Y40,?_⟩
   repeat ((conv at zs=>whnf);(try have e:ρ (.tmp _)=_:=zs.1);replace zs:=zs.2)
   exact DY rfl Y42 hB Y42 Y42 ⟨rfl,rfl⟩):Chain P ops D R N a0 γ0 w1.drew Qf k done (o::rest) :=
 Qm (fun vals γ w ρ hR=>h vals γ w ρ (H.o.keep ((Rx.x _ _ _ hR.o).kept _)) hR) next hk hD
theorem Pz(a:Abs)(k:Nat)(r:Abs):(CY a k r).kinds=r.kinds:=by
 unfold CY;split<;>rfl
def CnQ(g:Nat)(T:NP)(r1 r:Abs)(A':OA)(c':Nat)(D':OA)(e':Nat)(pb:Bool)(w':World):Prop :=
 (pb=true→∃ A2 c2 D2 e2,Blk w' g 39 (Ap r1 A2 c2 D2 e2)∧AbM w' T r1 A2 c2 D2 e2)∧(pb=false→Blk w' g 39 (Ap r A' c' D' e'))
theorem CnQ.keep{g:Nat}{T:NP}{r1 r:Abs}{A':OA}{c':Nat}{D':OA}{e':Nat}{pb:Bool}{w w':World}(h:CnQ g T r1 r A' c' D' e' pb w)(k:Kept (fun _=>True) w w'):CnQ g T r1 r A' c' D' e' pb w':=by
 refine ⟨fun hp => ?_,fun hp=>(h.2 hp).keep (k.mono fun _ _ _=>trivial)⟩;obtain ⟨A2,c2,D2,e2,h1,h2⟩:=h.1 hp;exact ⟨A2,c2,D2,e2,h1.keep (k.mono fun _ _ _=>trivial),h2.keep (k.mono fun _ _ _=>trivial)⟩
def AbN(n:Nat)(a:Abs):Prop:=a.tx.b.size≤1000000000∧a.tx.e.size≤1000000000∧a.cols.length≤n∧a.deps.length≤n∧∀ d∈a.deps,d.frm.length≤n
theorem S7(h:qP:=by
 refine Qr ?_;rw [HX0.o];exact ⟨rfl,rfl⟩):qP:=h
theorem Y78(h:qP:=by rw [hg3];exact AS):qP:=h
theorem Y79(h:qP:=by have:=hm.2;omega):qP:=h
theorem Y80(h:qP:=by have:=HG2.o;omega):qP:=h
theorem AU(a:Abs)(A D:OA)(c e:Nat)(w:World)(S:NP)(hA:Strs w S A a.cols)(hD:RDeps w S D a.deps)(ht:Tens w)(hz:AbN 1000000 a) :
  Cl 47 #[(Aq a A c D e)] w (DD w S (AM a)):=by
 obtain ⟨hz1,hz2,hz3,hz4,-⟩:=hz;obtain ⟨wa,hwa⟩:=eqx ((w.alloc (.cells (Ap a A c D e) 39)).alloc (.cells Az 39));obtain ⟨g1,hg1⟩:=eqx w.heap.size;obtain ⟨g2,hg2⟩:=eqx (w.heap.size+1);have hxa:Ext w wa:=(by rw [hwa];exact (exaa w).alloc _);have hb1:Blk wa g1 39 (Ap a A c D e):=(by rw [hwa,hg1];exact (Blk.new _ _ _).keep ((exaa _).kept _));have hb2:Blk wa g2 39 Az:=(by rw [hwa,hg2];exact EzA _ _ _ _);obtain ⟨HWA,HG1,HG2,HXA,HB1A,HB2A,HA,HD⟩:=Hd8 hwa hg1 hg2 hxa hb1 hb2 (hA.mono (T:=fun b=>S b∧b<w.heap.size) fun i hi hs=>⟨hs,hi⟩) (hD.mono (T:=fun b=>S b∧b<w.heap.size) fun i hi hs=>⟨hs,hi⟩);have HT:=Hd ht;clear hwa hg1 hg2 hxa hb1 hb2 hA hD ht
 go_enter func47,ntmps47
 go_upto_region 1 with fail
 rw [←HWA.o,←HG2.o,←HG1.o]
 go_wp2_with fail
 refine (Ew _).mono ?_;rintro e1 w1 ⟨rfl,hx1⟩;rename_i K1 hK1 K2 hK2;refine hK2 _ _ ?_;refine AP rfl rfl ?_;obtain ⟨g3,hg3⟩:=eqx w1.heap.size;rw [←hg3];refine AD rfl 39 _ _ rfl g3 (Ap noneA none 0 none 0) rfl rfl 39 _ (show Blk (w1.alloc (.cells Az 39)) g3 39 Az by rw [hg3];exact Blk.new _ _ _) AA rfl Y11 ?_;intro w2 hb3 ho2;have hx2:Ext w1 w2:=(exaa w1).only ho2 Y78;have HX1:=Hd (HXA.o.trans hx1);have hk2:=hx1.trans hx2;have q17:w2.cell? ⟨g1,17,none⟩=some (.bool a.errs):=(HB1A.o.keep (hk2.kept _)).q17;have r17:w2.cell? ⟨g3,17,none⟩=some (.bool noneA.errs):=hb3.q17;have rf:=hb3.frozen;have rl:=hb3.lt;obtain ⟨HB3,HX2,HG3,HB11,HB21⟩:=Hd5 hb3 hx2 hg3 (HB1A.o.keep (hx1.kept _)) (HB2A.o.keep (hx1.kept _));refine hK1 _ _ ?_;clear hK1 hK2 hb3 ho2 hx1 hx2 hk2 hg3
 go_upto_region 3 with fail
 obtain ⟨w3,hw3⟩:=eqx (w2.setCell ⟨g3,17,none⟩ (.bool a.errs));rw [←hw3];have HX3:=Hd (show Ext w1 w3 by rw [hw3];exact HX2.o.set2 (BI HG3.o) _);have HB33:=Hd (show Blk w3 g3 39 (Ap (CL a 0) none 0 none 0) by
  rw [hw3,NC];have hbb:=HB3.o.set 17 (.bool a.errs)
  simpa using hbb)
 clear hw3 q17 r17 rf rl;have K0:=Hd (HB11.o.q0);go_wp2
 go_loopw [9] (fun i wr=>∃ (k:Nat) (s:Abs) (A':OA) (c':Nat) (D':OA) (e':Nat),k≤6∧i=.I k∧s=CL a k∧Ext w1 wr∧Blk wr g3 39 (Ap s A' c' D' e')∧AbM wr (fun b=>((S b∧b<w.heap.size)∨w1.heap.size≤b)∧b≠g3) s A' c' D' e') (fun i _=>6-(intOf i).toNat)
 case atStart=>exact ⟨0,CL a 0,none,0,none,0,Y4,rfl,rfl,HX3.o,HB33.o,AbM.nil (MA a Y4)⟩
 case round =>
  clear HB33 HX3 HB3 HX2;obtain ⟨k,s,A',c',D',e',hk,rfl,hs,hext,hbr,habm⟩:=hrel;obtain ⟨HS,HE,HBR,HAB⟩:=Hd4 hs hext hbr habm;clear hs hext hbr habm;by_cases hlt:k<6
  ·have hlt':(k:Int)<6:=Y4;obtain ⟨p2,hp2⟩:=eqx ((2^k:Nat):Int);have HBI:=Hd (show ∀ w',Cl 48 #[.I (k:Int)] w' (BK w' p2) from fun w'=>by rw [hp2];exact AW k Y4 w');have hand:=Hk a.kinds k Y4;rw [←hp2] at hand;obtain ⟨x,hx⟩:=eqx (bits .and .i64 a.kinds p2);rw [←hx] at hand;have HAND:=Hd hand;have HP2:=Hd hp2;have hbx:bits .and .i64 a.kinds p2=x:=hx.symm;clear hand hp2 hx;by_cases hk0:k=0
   ·subst hk0
    go_upto_region 6 with fail
    refine Qa (fun _ _=>False) [] ?_
    iterate 3 refine Qp ?_
    iterate 6 refine Qn ?_
    iterate 2 refine Qp ?_
    iterate 3 refine Qn ?_
    refine Qp ?_;intro vals γ w9 hR hG;refine Qx ?_;have HXN:=Hd (show Ext wr w9 from hR.ext0 (fun _ _ _ h=>h.elim));clear hR hG;go_wp2;go_roundw
    case rel=>exact ⟨1,s,A',c',D',e',Y4,Y5,by rw [HS.o,PV],HE.o.trans HXN.o,HBR.o.keep (HXN.o.kept _),HAB.o.keep (HXN.o.kept _)⟩
    case measure=>simp [intOf]
   ·have HNE:=Hd (show ((k:Int) != 0)=true by simpa using hk0);have HCS:=Hd (Sf a k Y4 Y4);by_cases hxz:x=0
    ·have hbt:bt a.kinds k=false:=(by rw [←HAND.o,hxz];rfl);have HCF:=Hd (show CL a (k+1)=CL a k by rw [HCS.o,hbt,Bool.false_and,if_neg Y3]);have HX0:=Hd (show (x != 0)=false by rw [hxz];rfl);clear hbt hxz
     go_upto_region 6 with fail
     refine Qa (fun _ _=>False) [] ?_;refine Qp ?_;refine Qm (fun vals γ w' ρ hR hN hp hρ zs zg=>by
      refine Qr ?_;rw [HNE.o];exact ⟨rfl,rfl⟩) ?_
     iterate 2 refine Qp ?_
     refine Qm (fun vals γ w' ρ hR hN hp hρ zs zg=>by
      have hxx:=hR.o.ext0 (fun _ _ _ h=>h.elim);have m0:=(HE.o.trans hxx).cell K0.o;clear hxx;exact Qk) ?_
     refine Qp ?_;refine Qc (fun w'=>HBI.o w') ?_;refine Qp ?_;refine Qm (fun vals γ w' ρ hR hN hp hρ zs zg=>by
      exact S7) ?_
     iterate 2 refine Qp ?_
     iterate 3 refine Qn ?_
     refine Qp ?_;intro vals γ w9 hR hG;refine Qx ?_;have HXN:=Hd (show Ext wr w9 from hR.ext0 (fun _ _ _ h=>h.elim));clear hR hG;go_wp2;go_roundw
     case rel=>exact ⟨k+1,s,A',c',D',e',Y4,Y5,by rw [HS.o,HCF.o],HE.o.trans HXN.o,HBR.o.keep (HXN.o.kept _),HAB.o.keep (HXN.o.kept _)⟩
     case measure=>simp [intOf];omega
    ·have hbt:bt a.kinds k=true:=(by rw [←HAND.o];simpa using hxz);have HX0:=Hd (show (x != 0)=true by simpa using hxz);obtain ⟨pb,hpb⟩:=eqx (BQ a k);obtain ⟨r1,hr1⟩:=eqx (CY a k s);have hs0:=HS.o;have hct:s.cols=[]∧s.deps=[]:=(by rw [hs0];exact MA a Y4);have hw1:=HX1.o.size;have hg3e:=HG3.o;obtain ⟨HG1L,HKK,HCC⟩:=Hd3 (HB11.o.lt) (show r1.kinds=s.kinds by rw [hr1];exact Pz a k s) (show CL a (k+1)=if pb=true then { r1 with kinds:=bits .or .i64 s.kinds p2 } else s by rw [HCS.o,hbt,Bool.true_and,hpb,hr1,hs0,HP2.o]);have HTK:=Hd (show ∀ w',Ext w1 w'→Blk w' g3 39 (Ap s A' c' D' e')→Cl 122 #[.pointer (some ⟨g3,0,none⟩),(Aq a A c D e),.I (k:Int)] w' (R7 w' w1 (fun b=>S b∧b<w.heap.size) g3 A' c' D' e' pb r1 s) from fun w' hx' hb'=>by
      rw [hpb,hr1];exact Q8 a s A D A' D' c e c' e' g3 k w' w1 Y4 Y4 hx' Y4 hb' _ (fun b hb=>by have:=hb.2;omega) (HA.o.keep ((HX1.o.trans hx').kept _)) (HD.o.keep ((HX1.o.trans hx').kept _)) hz3 hz4 hz1 hz2 (HT.o.ext HX1.o) hct (fun h4=>by rw [hs0];exact U7 a h4))
     obtain ⟨HCT,HG3E,HB1R⟩:=Hd3 hct (show w.heap.size≤w1.heap.size∧g3=w1.heap.size by omega) (HB11.o.keep (HE.o.kept _));clear hbt hpb hr1 hs0 hct hw1 hg3e hxz
     go_upto_region 6 with fail
     refine Qa (fun m b=>m=1013∧w1.heap.size≤b) [(10,[1013]),(11,[1013]),(12,[1013]),(13,[1013])] ?_;refine Qp ?_;refine Qm (fun vals γ w' ρ hR hN hp hρ zs zg=>by
      refine Qr ?_;rw [HNE.o];exact ⟨rfl,rfl⟩) ?_
     iterate 2 refine Qp ?_
     refine Qm (fun vals γ w' ρ hR hN hp hρ zs zg=>by
      have hkk:=hR.o.kept0 (S:=fun b=>b<w1.heap.size) (fun b _ (hb:b<w1.heap.size) m hm=>Y79);have m0:=Kept.cell hkk HG1L.o (HE.o.cell K0.o);clear hkk;exact Qk) ?_
     refine Qp ?_;refine Qc (fun w'=>HBI.o w') ?_;refine Qp ?_;refine Qm (fun vals γ w' ρ hR hN hp hρ zs zg=>by
      exact S7) ?_
     iterate 2 refine Qp ?_
     apply E2A (LZ.refl _) Y41
     ·intro vals γ w' ρ hR hN hp hρ hc hf hg;refine ⟨by show (IZ (vals 10)==some true)=true;rw [show vals 10=.bool true from hp 10 Y17];rfl,?_⟩;have e1:=hρ 1;(conv at e1=>rhs;whnf);have hb1:=HB1R.o.keep (hR.kept0 (S:=fun b=>b=g1) (fun b _ e m hm=>by have:=hm.2;have:=HG1L.o;omega));exact DY rfl e1 hb1 AH AA ⟨rfl,rfl⟩
     ·rfl
     refine Qp ?_;refine Qs (FP fun v γ w'=>v=.bool pb∧γ 1013=true∧CnQ g3 (fun b=>((S b∧b<w.heap.size)∨w1.heap.size≤b)∧b≠g3) r1 s A' c' D' e' pb w') (EuA ?_) ?_ ?_
     ·rintro v γ wx γ' wy rr ⟨h1,h2,h3⟩;exact ⟨h1,rr.done _ h2,h3.keep (rr.keptS fun b _ _ m hm=>Y50)⟩
     ·intro vals γ w' ρ hR hN hp hρ zs zg;have hk0:=hN.o.key (k:=1013) Y17;have hbr:=HBR.o.keep (hR.o.kept0 (S:=fun b=>b=g3) fun b _ e m hm=>Y45);have hxw:Ext w1 w':=AX HE.o (hR.o.buts (S:=fun b=>w1.heap.size≤b) (fun m b _ hm _=>hm.2)) (fun b hb=>hb);obtain ⟨HXW,HBW,HK⟩:=Hd3 hxw hbr hk0;clear hk0 hbr hxw hp;refine Qr ?_;refine (HTK.o w' HXW.o HBW.o).mono ?_;rintro e1 w3 ⟨he,hx3,hz3,hy,hn⟩;have hg3w:=HG3E.o;have hlt3:=HBW.o.lt;refine ⟨_,he,γ.put 1013,EvA HK.o (hx3.os.trans HXW.o.os.symm) (hx3.tape.trans HXW.o.tape.symm) (hx3.output.trans HXW.o.output.symm) hz3 (fun b hb hm => ?_),LK.done Y17,rfl,Y64,fun hp => ?_,hn⟩
      ·have hlt:b<w1.heap.size:=Nat.lt_of_not_le fun h=>hm ⟨rfl,h⟩;rw [hx3.block b hlt,HXW.o.block b hlt]
      ·obtain ⟨A2,c2,D2,e2,h1,h2⟩:=hy hp;refine ⟨A2,c2,D2,e2,h1,h2.mono fun b _ hb => ?_⟩
       rcases hb with hb|hb
       ·exact ⟨.inl hb,by have:=hb.2;omega⟩
       ·exact ⟨.inr (by have:=HXW.o.size;omega),Y4⟩
     refine Qm (fun vals γ w' ρ hR hN hp hρ zs zg=>by
      have e25:ρ (.tmp 25)=_:=(hρ.o 25).trans (hp.o 13 Y17).1;exact Qk) ?_
     intro vals γ w9 hR hG;obtain ⟨v13,-,hq13⟩:=hG 13 Y17;refine Qx ?_;simp only [v13];clear v13;have HXN:=Hd (show Ext w1 w9 from AX HE.o (hR.buts (S:=fun b=>w1.heap.size≤b) (fun m b _ hm _=>hm.2)) (fun b hb=>hb));have HQ:=Hd hq13;clear hR hG hq13;cases pb
     ·have HCF:=Hd (show CL a (k+1)=s by rw [HCC.o,if_neg Y3]);go_wp2;go_roundw
      case rel=>exact ⟨k+1,s,A',c',D',e',Y4,Y5,HCF.o.symm,HXN.o,HQ.o.2 rfl,AbM.nil HCT.o⟩
      case measure=>simp [intOf];omega
     ·obtain ⟨A2,c2,D2,e2,hb9,hab9⟩:=HQ.o.1 rfl;have HB9:=Hd hb9;have HAB9:=Hd hab9;obtain ⟨y,hy⟩:=eqx (bits .or .i64 r1.kinds p2);obtain ⟨s9,hs9⟩:=eqx ({ r1 with kinds:=y });have HCF:=Hd (show CL a (k+1)=s9 by rw [HCC.o,if_pos rfl,hs9,hy,HKK.o]);have HS9:=Hd hs9;have hor:bits .or .i64 r1.kinds p2=y:=hy.symm;clear hb9 hab9 hy hs9
      go_upto_region 7 with fail
      refine Qa (fun m b=>m=1006∧b=g3) (lk 7 [1006]) ?_;refine Qp ?_;refine Qm (fun vals γ w' ρ hR hN hp hρ zs zg=>by
       have hk0:=hN.o.key (k:=1006) Y17;have hbx:=HB9.o.keep (hR.o.kept0 (S:=fun b=>b=g3) fun b _ e m hm=>Y45);have m0:=hbx.q0;clear hk0 hbx;exact Qk) ?_
      refine Qp ?_;refine Qc (fun w'=>HBI.o w') ?_
      iterate 2 refine Qp ?_
      refine Qs (fun _ γ w'=>Blk w' g3 39 #[.I y,.I r1.tx.least,.I r1.tx.most,.I r1.tx.cls,.string r1.tx.b,.string r1.tx.e,.I r1.nu.ln,.I r1.nu.ls,.I r1.nu.hn,.I r1.nu.hs,.I r1.dl,.I r1.dh,.I r1.bo,.I r1.rl,.I r1.rh,.slice A2 r1.cols.length c2,.slice D2 r1.deps.length e2,.bool r1.errs]∧γ 1006=true) ?_ ?_ ?_
      ·rintro l γ wx γ' wy rr ⟨h1,h2⟩;exact AFA
      ·intro vals γ w' ρ hR hN hp hρ zs zg;have hk0:=hN.o.key (k:=1006) Y17;have hbx:=HB9.o.keep (hR.o.kept0 (S:=fun b=>b=g3) fun b _ e m hm=>Y45);have HB0:=Hd hbx;have HK:=Hd hk0;have q0:=hbx.q0;have qf:=hbx.frozen;have ql:=hbx.lt;clear hk0 hbx;refine Qr ?_;refine ⟨γ.put 1006,EvA HK.o rfl rfl rfl Y1 (fun b hb hm=>(Only.set (Only.refl g3 w') 0 (.I y)).block b fun e=>hm ⟨rfl,e⟩),LK.done Y17,?_,Y64⟩;have hb1:=HB0.o.set 0 (.I y)
       simpa using hb1
      intro vals γ w10 hR hG;refine Qx ?_;obtain ⟨hbm,-⟩:=hG 6 Y17;have HBM:=Hd hbm;have hg3w:=HG3E.o;have HKM:=Hd (hR.kept0 (S:=fun b=>((S b∧b<w.heap.size)∨w1.heap.size≤b)∧b≠g3) (fun b _ hb m hm=>absurd hm.2 hb.2));have HXM:=Hd (show Ext w1 w10 from AX HXN.o (hR.buts (S:=fun b=>b=g3) (fun m b _ hm _=>hm.2)) (fun b hb=>Y4));clear hR hG hbm hg3w;go_wp2;go_roundw
      case rel =>
       refine ⟨k+1,s9,A2,c2,D2,e2,Y4,Y5,HCF.o.symm,HXM.o,?_,?_⟩
       ·have hbb:=HBM.o;rw [HS9.o];exact hbb
       ·rw [HS9.o];exact HAB9.o.keep HKM.o
      case measure=>simp [intOf];omega
  ·obtain rfl:k=6:=Y4;have HS6:=Hd (show s=AM a by rw [HS.o,PX]);have HB2R:=Hd (HB21.o.keep (HE.o.kept _))
   go_upto_region 9 with fail
   refine wp_region_lit ?_;refine AB rfl 39 _ rfl g3 rfl HBR.o AH AA ?_;refine AD rfl 39 _ _ rfl g2 (Ap s A' c' D' e') rfl rfl 39 _ HB2R.o AA rfl Y11 ?_;intro w9 hb9 ho9;refine wpList_nil ?_;have hg2l:=HB21.o.lt;obtain ⟨HX9,HAB9,HB9⟩:=Hd3 ((HX1.o.trans HE.o).only ho9 Y80) (HAB.o.keep (ho9.kept (S:=fun b=>((S b∧b<w.heap.size)∨w1.heap.size≤b)∧b≠g3) fun b _ hb e=>by have:=HG2.o;rcases hb.1 with h|h;(have:=h.2;omega);omega)) hb9;clear hb9 ho9 hg2l;go_wp2;refine bodyPost_ret (BR results47 rfl (DM HB9.o AH AA)) rfl ?_;rw [←HS6.o];exact ⟨A',c',D',e',rfl,HAB9.o.mono fun b _ hb=>hb.1.imp And.left fun h=>by have:=HX1.o.size;omega,HX9.o⟩

def ShN(n:Nat)(a:Sh):Prop:=a.b.size≤n∧a.e.size≤n
theorem E9A(n:Nat):ShN n EwA:=⟨AE,AE⟩
theorem ShN.join{n:Nat}{a b:Sh}(ha:ShN n a)(hb:ShN n b):ShN n (Aw a b):=by
 unfold Aw;split
 ·split
  ·exact E9A n
  ·exact hb
 ·split
  ·exact ha
  ·constructor
   ·show (bA _).size≤n;rw [Cv];have h1:=(Dd a.B b.B).length_le;have h2:a.B.length=a.b.size:=Ei a;have:=ha.1;omega
   ·show (bA _).size≤n;rw [Cv];have h1:=(GH a.E b.E).length_le;have h2:a.E.length=a.e.size:=EA a;have:=ha.2;omega
theorem ShN.meet{n:Nat}{a b:Sh}(ha:ShN n a)(hb:ShN n b):ShN n (CN a b):=by
 have hm:ShN n (Bh a b):=by
  unfold Bh;constructor
  ·show (if a.b.size<b.b.size then b.b else a.b).size≤n;split
   ·exact hb.1
   ·exact ha.1
  ·show (if a.e.size<b.e.size then b.e else a.e).size≤n;split
   ·exact hb.2
   ·exact ha.2
 unfold CN;split
 ·exact E9A n
 ·split
  ·exact hm
  ·exact E9A n
theorem AbN.sh{n:Nat}{a:Abs}(h:AbN n a):ShN 1000000000 a.tx:=⟨h.1,h.2.1⟩
theorem AbN.mono{n m:Nat}{a:Abs}(h:AbN n a)(hm:n≤m):AbN m a:=⟨h.1,h.2.1,Nat.le_trans h.2.2.1 hm,Nat.le_trans h.2.2.2.1 hm,fun d hd=>Nat.le_trans (h.2.2.2.2 d hd) hm⟩
theorem JX{α:Type} [DecidableEq α](l:List α):(ddp l).length≤l.length:=by
 exact Wr
theorem AbN.can{n:Nat}{a:Abs}(h:AbN n a):AbN n (AM a):=by
 have h1:=h.sh.join h.sh;have ht:ShN 1000000000 (AM a).tx:=by
  show ShN _ (if pT a=true then Aw a.tx a.tx else EwA);split
  ·exact h1
  ·exact E9A _
 refine ⟨ht.1,ht.2,?_,?_,?_⟩
 ·show (if pR a=true then AT (ddp a.cols) else []).length≤n;split
  ·rw [LA];exact Nat.le_trans (JX _) h.2.2.1
  ·exact AE
 ·show (if pR a=true then ddp a.deps else []).length≤n;split
  ·exact Nat.le_trans (JX _) h.2.2.2.1
  ·exact AE
 ·show ∀ d∈(if pR a=true then ddp a.deps else []),d.frm.length≤n;split
  ·exact fun d hd=>h.2.2.2.2 d ((FJ _ _).1 hd)
  ·intro d hd;cases hd
theorem Y81(h:qP:=by cases hd):qP:=h
theorem FMA(n:Nat):AbN n noneA:=⟨AE,AE,AE,AE,fun d hd=>Y81⟩
theorem AbN.joinRaw{n m:Nat}{x y:Abs}(h:AbN n x)(k:AbN m y):AbN (n+m) (EJ x y):=by
 have ht:ShN 1000000000 (Aw x.tx y.tx):=h.sh.join k.sh;refine ⟨ht.1,ht.2,?_,?_,?_⟩
 ·show (Cp x y).length≤n+m;have:=h.2.2.1;have:=k.2.2.1;unfold Cp;split
  ·omega
  ·split
   ·omega
   ·have:=List.length_filter_le (AZ y.cols) x.cols;omega
 ·show (An x y).length≤n+m;have:=h.2.2.2.1;have:=k.2.2.2.1;unfold An;split
  ·omega
  ·split
   ·omega
   ·have:=List.length_filter_le (KE y) x.deps;have:=List.length_filter_le (KE x) y.deps;rw [List.length_append];unfold CJ;omega
 ·show ∀ d∈An x y,d.frm.length≤n+m;intro d hd;have hh:d∈x.deps∨d∈y.deps:=by
   unfold An at hd;split at hd
   ·exact .inr hd
   ·split at hd
    ·exact .inl hd
    ·rcases List.mem_append.1 hd with hd|hd
     ·exact .inl (List.mem_filter.1 hd).1
     ·exact .inr (List.mem_filter.1 hd).1
  rcases hh with hh|hh
  ·have:=h.2.2.2.2 d hh;omega
  ·have:=k.2.2.2.2 d hh;omega
theorem AbN.join{n m:Nat}{a b:Abs}(h:AbN n a)(k:AbN m b):AbN (n+m) (Do a b):=(h.can.joinRaw k.can).can
theorem AbN.meetRaw{n m:Nat}{x y:Abs}(h:AbN n x)(k:AbN m y):AbN (n+m) (FM x y):=by
 have ht:ShN 1000000000 (CN x.tx y.tx):=h.sh.meet k.sh;refine ⟨ht.1,ht.2,?_,?_,?_⟩
 ·show (x.cols++y.cols).length≤n+m;have:=h.2.2.1;have:=k.2.2.1;rw [List.length_append];omega
 ·show (x.deps++y.deps).length≤n+m;have:=h.2.2.2.1;have:=k.2.2.2.1;rw [List.length_append];omega
 ·show ∀ d∈x.deps++y.deps,d.frm.length≤n+m;intro d hd
  rcases List.mem_append.1 hd with hh|hh
  ·have:=h.2.2.2.2 d hh;omega
  ·have:=k.2.2.2.2 d hh;omega
theorem AbN.meet{n m:Nat}{a b:Abs}(h:AbN n a)(k:AbN m b):AbN (n+m) (EW a b):=(h.can.meetRaw k.can).can
theorem Pm(n:Nat):∀ s∈EB n,s.length≤2:=by
 intro s hs;unfold EB at hs
 rcases List.mem_append.1 hs with hs|hs
 ·rcases List.mem_append.1 hs with hs|hs
  ·rw [List.mem_singleton.1 hs];simp
  ·obtain ⟨i,_,rfl⟩:=List.mem_map.1 hs;simp
 ·obtain ⟨i,_,hs⟩:=List.mem_flatMap.1 hs;unfold Ea at hs;obtain ⟨j,_,rfl⟩:=List.mem_map.1 hs;simp
theorem Kb(cols:List BA)(s:List Int)(n:Nat):(Bo cols s n).length≤n:=by
 exact XH
theorem LE(cols:List BA)(rows:List (List Val)):∀ (l:List (List Int)) (st:List (List Int) × List Dep),(∀ s∈l,s.length≤2)→(∀ d∈st.2,d.frm.length≤2)→(∀ d∈(l.foldl (As cols rows) st).2,d.frm.length≤2)∧(l.foldl (As cols rows) st).2.length≤st.2.length+l.length*cols.length
 |[],st,_,h=>⟨h,Y3⟩
 |s::m,st,hl,h=>by
  rw [List.foldl_cons];have hm:∀ x∈m,x.length≤2:=fun x hx=>hl x (List.mem_cons_of_mem _ hx);have hs:(∀ d∈(As cols rows st s).2,d.frm.length≤2)∧(As cols rows st s).2.length≤st.2.length+cols.length:=by
   unfold As;split
   ·exact ⟨h,Y4⟩
   ·split
    ·exact ⟨h,Y4⟩
    ·refine ⟨fun d hd => ?_,?_⟩
     ·rcases List.mem_append.1 hd with hd|hd
      ·exact h d hd
      ·unfold Bo at hd;obtain ⟨c,_,rfl⟩:=List.mem_map.1 hd;show (CP cols s).length≤2;unfold CP;rw [List.length_map];exact hl s Y3
     ·show (st.2++Bo cols s cols.length).length≤_;rw [List.length_append];have:=Kb cols s cols.length;omega
  obtain ⟨g1,g2⟩:=LE cols rows m _ hm hs.1;refine ⟨g1,?_⟩;rw [List.length_cons,Nat.add_mul,Nat.one_mul];omega
theorem CHA{n:Nat}(h:n≤8):(EB n).length≤37:=by
 have:n=0∨n=1∨n=2∨n=3∨n=4∨n=5∨n=6∨n=7∨n=8:=Y4
 rcases this with rfl|rfl|rfl|rfl|rfl|rfl|rfl|rfl|rfl<;>decide
theorem F4(cols:List BA)(rows:List (List Val))(h:cols.length≤8):(Bp cols rows).length≤300∧∀ d∈Bp cols rows,d.frm.length≤2:=by
 unfold Bp;split
 ·exact ⟨AE,fun d hd=>Y81⟩
 ·obtain ⟨g1,g2⟩:=LE cols rows (EB cols.length) ([],[]) (Pm _) (fun d hd=>Y81);refine ⟨?_,g1⟩;have h1:=CHA h;have h2:(EB cols.length).length*cols.length≤37*8:=Nat.mul_le_mul h1 h;have h3:(([],[]):List (List Int) × List Dep).2.length=0:=rfl;omega

def UpN(N:Nat)(v:Value):Prop:=∃ g,v=.pointer (some ⟨g,0,none⟩)∧N≤g
theorem Ay{P:Program}{o:Oper}{ρ:Operand→Value}{K:Value→World→Prop}{w:World}(ty:TypeId){x y:Operand}(ho:o.op=.store ty x y){g:Nat}(hx:ρ x=.pointer (some ⟨g,0,none⟩)){cells:Array Value}(hy:ρ y=.agg cells)
  {t:TypeId} {old:Array Value} (hb:Blk w g t old) (hi:(P.info? ty).map (·.size)=some cells.size) (hold:old.size=cells.size) (h1:cells.all (·.oneCell')=true)
  (h:∀ w',Blk w' g t cells→Only g w w'→K undef w'):BN P K ((execOp ρ o).run P w):=by
 have hh:K undef (w.setRow g cells):=h _ (setRow_heap w g old cells t _ hb) ⟨rfl,rfl,rfl,setRow_size _ _ _,fun b hb=>by
  exact Xm⟩
 unfold execOp;simp only [ho,hx,hy,Instr.storeAt,Instr.sureAddr,Sem.run_bind,Sem.run_pure,Result.andThen_ok,run_storeVar_row w g t ty old cells hb hi hold h1];exact hh
theorem BE{P:Program}{ops:Array Oper}{rest:List Oper}{o:Oper}{a:Act}{w:World}{Q:Exit→Act→World→Prop}(hw:Region.wanted o (yielded ops a.tmps)=true)(ty:TypeId)(x:Operand)(ho:o.op=.load ty x)
  (g:Nat) (hx:a.eval x=.pointer (some ⟨g,0,none⟩)) {cs:Array Value} (hb:Blk w g ty cs) (hd:(match P.underlying ty with|some (.struct _)|some (.array _ _)=>true|_=>false)=true) (hi:(P.info? ty).map (·.size)=some cs.size)
  (h:wpList P ops Q rest (a.put o.dst (.agg cs)) w):wpList P ops Q (o::rest) a w:=by
 refine wpList_step fun K hK => ?_;rw [if_pos hw];exact AbA
theorem AL{P:Program}{ops:Array Oper}{rest:List Oper}{o:Oper}{a:Act}{w w':World}{Q:Exit→Act→World→Prop}(hw:Region.wanted o (yielded ops a.tmps)=true)(v:Value)(hr:(execOp a.eval o).run P w=.ok (.value v) w')
  (h:wpList P ops Q rest (a.put o.dst v) w'):wpList P ops Q (o::rest) a w:=by
 refine wpList_step fun K hK => ?_;rw [if_pos hw];unfold Oper.wp;rw [hr];exact hK _ _ h
def JoP(N:Nat)(T:NP)(s:Abs)(v:Value)(w':World):Prop:=∃ (A:OA) (c:Nat) (D:OA) (e:Nat),v=(Aq s A c D e)∧AbM w' (fun b=>T b∨N≤b) s A c D e
abbrev S9(T:Nat→Prop)(N:Nat)(w9:World):Nat→Prop:=fun b=>(T b∨N≤b)∧b<w9.heap.size
def FlD(ws:World)(S:NP)(l:List Dep)(v:Value)(γ:Gz)(w':World):Prop:=∃ (A:OA) (c:Nat),v=.slice A l.length c∧l.length≤c∧(γ 1008=false→OwnDs w' ws.heap.size S A c l)
def FlE(ws:World)(S:NP)(l1 l2:List Dep)(p v:Value)(γ:Gz)(w':World):Prop:=∃ (A:OA) (c:Nat) (A2:OA) (c2:Nat),p=.slice A l1.length c∧v=.slice A2 l2.length c2∧l2.length≤c2∧(γ 1008=false→OwnDs w' ws.heap.size S A c l1∧RDeps w' (fun b=>(S b∨ws.heap.size≤b)∧ob A≠some b) A2 l2)
def FlF(ws:World)(X:NP)(l:List Dep)(n:Nat)(v:Value)(γ:Gz)(w':World):Prop:=∃ (A:OA) (c:Nat),v=.slice A n c∧γ 1008=true∧OwnDs w' ws.heap.size X A c l
def FlG(n:Nat)(Q:World→Value→Prop)(v:Value)(γ:Gz)(w':World):Prop:=∃ (A:OA) (c:Nat),v=.slice A n c∧Q w' (.slice A n c)∧γ 1010=true
theorem AbM.to{w:World}{S:NP}{a b:Abs}{A D:OA}{c e:Nat}(h:AbM w S a A c D e)(h1:b.cols=a.cols)(h2:b.deps=a.deps):AbM w S b A c D e:=by
 unfold AbM at h⊢;rw [h1,h2];exact h
def JoR(g5 N:Nat)(T:NP)(w9 w10:World)(r:Abs)(wx:World):Prop:=∃ (A:OA) (c:Nat) (D:OA) (e:Nat),Blk wx g5 39 (Ap r A c D e)∧AbM wx (fun b=>S9 T N w9 b∨w10.heap.size≤b) r A c D e∧Ext w9 wx
def JoB(g N:Nat)(T:NP)(s:Abs)(w':World):Prop:=∃ (A:OA) (c:Nat) (D:OA) (e:Nat),Blk w' g 39 (Ap s A c D e)∧AbM w' (fun b=>T b∨N≤b) s A c D e

theorem FN:(match prog.underlying 29 with|some (.struct _)|some (.array _ _)=>true|_=>false)=true:=by kernel_rfl
theorem ED:(prog.info? 29).map (·.size)=some 7:=by kernel_rfl
theorem DB{P:Program}{ops:Array Oper}{rest:List Oper}{o:Oper}{a:Act}{w:World}{Q:Exit→Act→World→Prop}(hw:Region.wanted o (yielded ops a.tmps)=false)(h:wpList P ops Q rest (a.put o.dst undef) w):wpList P ops Q (o::rest) a w:=by
 refine wpList_step fun K hK => ?_;rw [if_neg (by rw [hw];simp)];exact hK _ _ h

def Ik(s:BA):List UInt8:=Lib.itoa (s.size:Int)++[58]++s.data.toList
def KR(a:Sh):List UInt8:=Lib.itoa a.least++[32]++Lib.itoa a.most++[32]++Lib.itoa a.cls++[32]++Ik a.b++[32]++Ik a.e
def Kf(r:Rg):List UInt8:=JB r.ln r.ls.toNat++[46,46]++JB r.hn r.hs.toNat
def KN(l h:Int):List UInt8:=Lib.itoa l++[46,46]++Lib.itoa h
theorem Vk(s:BA):bsA s.data.toList=s:=rfl
theorem M1(a:UInt8):(⟨#[a]⟩:BA)=bsA [a]:=rfl
theorem Mv(a b:UInt8):(⟨#[a,b]⟩:BA)=bsA [a,b]:=rfl
def I64(n:Int):Prop:=-9223372036854775808≤n∧n≤9223372036854775807
theorem E6(n:Int)(h:I64 n):(bsA (Lib.itoa n)).size≤21:=Lib.itoa_length_le n h.1 h.2
theorem La(s:BA)(hs:s.size≤1000000):(bsA (Ik s)).size≤1000100:=by
 show (Ik s).length≤1000100;unfold Ik;have h:=Hv s.size Y4;have h2:s.data.toList.length=s.size:=rfl;rw [List.length_append,List.length_append,List.length_singleton];omega
theorem Kp(n:Int)(s:Nat)(h:Cm n (s:Int)=true):(bsA (JB n s)).size≤60:=by
 have hv:BG n s=(n,(s:Int)):=(by simp [BG,h]);have hrg:=Ek n s;rw [hv] at hrg;obtain ⟨-,hs6,hn0,hn1⟩:=hrg;show (JB n s).length≤60;have hlen:(Lib.decDigits n.natAbs).length≤21:=(by have h:=Hv n.natAbs Y4;rw [Lib.itoa_nonneg] at h;exact h);have h1:(KO n s).length≤28:=by
  unfold KO;rw [List.length_append,Lib.repeatL_length];simp;omega
 have h2:(Lk n s).length≤29:=by
  unfold Lk;split
  ·simp;omega
  ·omega
 unfold JB;split
 ·simp;omega
 ·omega
theorem JR(s:BA)(hs:s.size≤1000000)(w:World)(h:Txa w):Cl 165 #[.string s] w (Bt w (bsA (Ik s))):=by
 obtain ⟨z,ez⟩:=eqx (bsA (Lib.itoa (s.size:Int)));have HI:=Hd (EL (s.size:Int) Y4 Y4 w h);have hil:=Hv s.size Y4;have hzl:z.size≤21:=(by rw [ez];exact hil);rw [←ez] at HI;have HZ:=Hd ez;clear ez hil h
 go_enter func165,ntmps165
 go_wp2_with fail
 refine HI.o.mono ?_;rintro e1 w1 ⟨rfl,hx1⟩;have HX:=Hd hx1;clear hx1
 go_wp2_with fail
 go_ret;refine ⟨?_,HX.o⟩;show Ending.returned (Value.string (z++⟨#[58]⟩++s))=_;rw [HZ.o,M1,Br];(conv=>lhs;rw [←Vk s,Br]);rfl
theorem Ob(a:Sh)(h1:I64 a.least)(h2:I64 a.most)(h3:I64 a.cls)(hb:a.b.size≤1000000)(he:a.e.size≤1000000)(w:World)(h:Txa w):Cl 96 #[(Sq a)] w (Bt w (bsA (KR a))):=by
 obtain ⟨w0,hw0⟩:=eqx (w.alloc (.cells (Sp a) 32));obtain ⟨g,hg⟩:=eqx w.heap.size;have hx0:Ext w w0:=Y68;obtain ⟨HBX,HW0,HG,HX0⟩:=Hd4 (show Blk w0 g 32 (Sp a) by rw [hw0,hg];exact Blk.new _ _ _) hw0 hg hx0;obtain ⟨k0,k1,k2,k3,k4⟩:=Hd5 (show w0.cell? ⟨g,0,none⟩=some (.I a.least) from HBX.o.q0) (show w0.cell? ⟨g,1,none⟩=some (.I a.most) from HBX.o.q1) (show w0.cell? ⟨g,2,none⟩=some (.I a.cls) from HBX.o.q2) (show w0.cell? ⟨g,3,none⟩=some (.string a.b) from HBX.o.q3) (show w0.cell? ⟨g,4,none⟩=some (.string a.e) from HBX.o.q4);obtain ⟨i1,hi1⟩:=eqx (bsA (Lib.itoa a.least));have HI1:=Hd (show ∀ w',Ext w0 w'→Cl 99 #[.I a.least] w' (Bt w' i1) from fun w' hw'=>by rw [hi1];exact EL _ h1.1 h1.2 w' (h.ext (hx0.trans hw')));obtain ⟨i2,hi2⟩:=eqx (bsA (Lib.itoa a.most));have HI2:=Hd (show ∀ w',Ext w0 w'→Cl 99 #[.I a.most] w' (Bt w' i2) from fun w' hw'=>by rw [hi2];exact EL _ h2.1 h2.2 w' (h.ext (hx0.trans hw')));obtain ⟨i3,hi3⟩:=eqx (bsA (Lib.itoa a.cls));have HI3:=Hd (show ∀ w',Ext w0 w'→Cl 99 #[.I a.cls] w' (Bt w' i3) from fun w' hw'=>by rw [hi3];exact EL _ h3.1 h3.2 w' (h.ext (hx0.trans hw')));obtain ⟨i4,hi4⟩:=eqx (bsA (Ik a.b));have HI4:=Hd (show ∀ w',Ext w0 w'→Cl 165 #[.string a.b] w' (Bt w' i4) from fun w' hw'=>by rw [hi4];exact JR _ hb w' (h.ext (hx0.trans hw')));obtain ⟨i5,hi5⟩:=eqx (bsA (Ik a.e));have HI5:=Hd (show ∀ w',Ext w0 w'→Cl 165 #[.string a.e] w' (Bt w' i5) from fun w' hw'=>by rw [hi5];exact JR _ he w' (h.ext (hx0.trans hw')));have z1:i1.size≤21:=(by rw [hi1];exact E6 _ h1);have z2:i2.size≤21:=(by rw [hi2];exact E6 _ h2);have z3:i3.size≤21:=(by rw [hi3];exact E6 _ h3);have z4:i4.size≤1000100:=(by rw [hi4];exact La _ hb);have z5:i5.size≤1000100:=(by rw [hi5];exact La _ he);have hc1:¬(9223372036854775807<i1.size+1):=Y4;have hc2:¬(9223372036854775807<i1.size+1+i2.size):=Y4;have hc3:¬(9223372036854775807<i1.size+1+i2.size+1):=Y4;have hc4:¬(9223372036854775807<i1.size+1+i2.size+1+i3.size):=Y4;have hc5:¬(9223372036854775807<i1.size+1+i2.size+1+i3.size+1):=Y4;have hc6:¬(9223372036854775807<i1.size+1+i2.size+1+i3.size+1+i4.size):=Y4;have hc7:¬(9223372036854775807<i1.size+1+i2.size+1+i3.size+1+i4.size+1):=Y4;have hc8:¬(9223372036854775807<i1.size+1+i2.size+1+i3.size+1+i4.size+1+i5.size):=Y4;have HE:=Hd (show i1++⟨#[32]⟩++i2++⟨#[32]⟩++i3++⟨#[32]⟩++i4++⟨#[32]⟩++i5=bsA (KR a) by
  rw [hi1,hi2,hi3,hi4,hi5,M1];simp only [Br];rfl)
 clear hw0 hg hx0 hi1 hi2 hi3 hi4 hi5 h h1 h2 h3 hb he z1 z2 z3 z4 z5
 go_enter func96,ntmps96
 go_upto_region 1 with fail
 rw [←HW0.o,←HG.o];refine Qa (fun _ _=>False) [] ?_
 iterate 2 refine Qp ?_
 refine Qd (fun w' HXW=>HI1.o w' HXW.o) ?_
 iterate 3 refine Qp ?_
 refine Qd (fun w' HXW=>HI2.o w' HXW.o) ?_
 iterate 4 refine Qp ?_
 refine Qd (fun w' HXW=>HI3.o w' HXW.o) ?_
 iterate 2 refine Qp ?_
 intro vals γ w8 hR hG;refine Qx ?_;have HX8:=Hd (show Ext w0 w8 from hR.ext0 (fun _ _ _ h=>h.elim));clear hR hG;obtain ⟨k3',k4',HI4',HI5'⟩:=Hd4 (HX8.o.cell k3.o) (HX8.o.cell k4.o) (fun w' (hw':Ext w8 w')=>HI4.o w' (HX8.o.trans hw')) (fun w' (hw':Ext w8 w')=>HI5.o w' (HX8.o.trans hw'))
 go_upto_region 2 with fail
 refine Qa (fun _ _=>False) [] ?_
 iterate 4 refine Qp ?_
 refine Qd (fun w' HXW=>HI4'.out w' HXW.o) ?_
 iterate 4 refine Qp ?_
 refine Qd (fun w' HXW=>HI5'.out w' HXW.o) ?_
 iterate 2 refine Qp ?_
 intro vals γ w9 hR hG;refine Qx ?_;have HX9:=Hd (show Ext w8 w9 from hR.ext0 (fun _ _ _ h=>h.elim));clear hR hG;go_wp2;go_ret;refine ⟨?_,(HX0.o.trans HX8.o).trans HX9.o⟩;rw [←HE.o];rfl
theorem G4(l n:Int)(h1:I64 l)(h2:I64 n)(w:World)(h:Txa w):Cl 98 #[.agg #[.I l,.I n]] w (Bt w (bsA (KN l n))):=by
 obtain ⟨w0,hw0⟩:=eqx (w.alloc (.cells #[.I l,.I n] 36));obtain ⟨g,hg⟩:=eqx w.heap.size;have hx0:Ext w w0:=Y68;obtain ⟨HBX,HW0,HG,HX0⟩:=Hd4 (show Blk w0 g 36 #[.I l,.I n] by rw [hw0,hg];exact Blk.new _ _ _) hw0 hg hx0;have k0:=Hd (show w0.cell? ⟨g,0,none⟩=some (.I l) from HBX.o.q0);have k1:=Hd (show w0.cell? ⟨g,1,none⟩=some (.I n) from HBX.o.q1);obtain ⟨i1,hi1⟩:=eqx (bsA (Lib.itoa l));have HI1:=Hd (show ∀ w',Ext w0 w'→Cl 99 #[.I l] w' (Bt w' i1) from fun w' hw'=>by rw [hi1];exact EL _ h1.1 h1.2 w' (h.ext (hx0.trans hw')));obtain ⟨i2,hi2⟩:=eqx (bsA (Lib.itoa n));have HI2:=Hd (show ∀ w',Ext w0 w'→Cl 99 #[.I n] w' (Bt w' i2) from fun w' hw'=>by rw [hi2];exact EL _ h2.1 h2.2 w' (h.ext (hx0.trans hw')));have z1:i1.size≤21:=(by rw [hi1];exact E6 _ h1);have z2:i2.size≤21:=(by rw [hi2];exact E6 _ h2);have hc1:¬(9223372036854775807<i1.size+2):=Y4;have hc2:¬(9223372036854775807<i1.size+2+i2.size):=Y4;have HE:=Hd (show i1++⟨#[46,46]⟩++i2=bsA (KN l n) by
  rw [hi1,hi2,Mv];simp only [Br];rfl)
 clear hw0 hg hx0 hi1 hi2 h h1 h2 z1 z2
 go_enter func98,ntmps98
 go_upto_region 1 with fail
 rw [←HW0.o,←HG.o];refine Qa (fun _ _=>False) [] ?_
 iterate 2 refine Qp ?_
 refine Qd (fun w' HXW=>HI1.o w' HXW.o) ?_
 iterate 3 refine Qp ?_
 refine Qd (fun w' HXW=>HI2.o w' HXW.o) ?_
 iterate 2 refine Qp ?_
 intro vals γ w8 hR hG;refine Qx ?_;have HX8:=Hd (show Ext w0 w8 from hR.ext0 (fun _ _ _ h=>h.elim));clear hR hG;go_wp2;go_ret;refine ⟨?_,HX0.o.trans HX8.o⟩;rw [←HE.o];rfl
theorem Ki(r:Rg)(p q:Nat)(hp:r.ls=p)(hq:r.hs=q)(h1:Cm r.ln r.ls=true)(h2:Cm r.hn r.hs=true)(hem:Ah r=false)(w:World)(h:Txa w):Cl 97 #[(Rq r)] w (Bt w (bsA (Kf r))):=by
 obtain ⟨w0,hw0⟩:=eqx (w.alloc (.cells (Rp r) 34));obtain ⟨g,hg⟩:=eqx w.heap.size;have hx0:Ext w w0:=Y68;obtain ⟨HBX,HW0,HG,HX0⟩:=Hd4 (show Blk w0 g 34 (Rp r) by rw [hw0,hg];exact Blk.new _ _ _) hw0 hg hx0;obtain ⟨k0,k1,k2,k3⟩:=Hd4 (show w0.cell? ⟨g,0,none⟩=some (.I r.ln) from HBX.o.q0) (show w0.cell? ⟨g,1,none⟩=some (.I r.ls) from HBX.o.q1) (show w0.cell? ⟨g,2,none⟩=some (.I r.hn) from HBX.o.q2) (show w0.cell? ⟨g,3,none⟩=some (.I r.hs) from HBX.o.q3);obtain ⟨i1,hi1⟩:=eqx (bsA (JB r.ln r.ls.toNat));obtain ⟨i2,hi2⟩:=eqx (bsA (JB r.hn r.hs.toNat));obtain ⟨HI1,HI2,HEM⟩:=Hd3 (show ∀ w',Ext w0 w'→Cl 166 #[.agg #[.I r.ln,.I r.ls]] w' (Bt w' i1) from fun w' hw'=>by rw [hi1,hp];exact GY r.ln p (by rw [←hp];exact h1) w' (h.ext (hx0.trans hw'))) (show ∀ w',Ext w0 w'→Cl 166 #[.agg #[.I r.hn,.I r.hs]] w' (Bt w' i2) from fun w' hw'=>by rw [hi2,hq];exact GY r.hn q (by rw [←hq];exact h2) w' (h.ext (hx0.trans hw'))) (show ∀ w',Ext w0 w'→Cl 156 #[(Rq r)] w' (AO w' false) from fun w' hw'=>by have:=Bv r w' (h.ext (hx0.trans hw')).tens;rw [hem] at this;exact this);have z1:i1.size≤60:=(by rw [hi1];have:=h1;rw [hp] at this⊢;exact Kp _ _ this);have z2:i2.size≤60:=(by rw [hi2];have:=h2;rw [hq] at this⊢;exact Kp _ _ this);have hc1:¬(9223372036854775807<i1.size+2):=Y4;have hc2:¬(9223372036854775807<i1.size+2+i2.size):=Y4;have HE:=Hd (show i1++⟨#[46,46]⟩++i2=bsA (Kf r) by
  rw [hi1,hi2,Mv];simp only [Br];rfl)
 have c0:=k0.o;have c1:=k1.o;have c2:=k2.o;have c3:=k3.o;clear hw0 hg hx0 hi1 hi2 h h1 h2 hem z1 z2 hp hq
 go_enter func97,ntmps97
 go_upto_region 1 with fail
 rw [←HW0.o,←HG.o]
 go_wp2_with fail
 refine (HEM.o _ (Ext.refl _)).mono ?_;rintro e1 w7 ⟨rfl,hx7⟩;obtain ⟨HX7,k0',k1',k2',k3'⟩:=Hd5 hx7 (hx7.cell k0.o) (hx7.cell k1.o) (hx7.cell k2.o) (hx7.cell k3.o);have HI1':=Hd (fun w' (hw':Ext w7 w')=>HI1.o w' (HX7.o.trans hw'));have HI2':=Hd (fun w' (hw':Ext w7 w')=>HI2.o w' (HX7.o.trans hw'));clear hx7 c0 c1 c2 c3
 go_upto_region 3 with fail
 refine Qa (fun _ _=>False) [] ?_
 iterate 2 refine Qp ?_
 refine Qd (fun w' HXW=>HI1'.out w' HXW.o) ?_
 iterate 3 refine Qp ?_
 refine Qd (fun w' HXW=>HI2'.out w' HXW.o) ?_
 iterate 2 refine Qp ?_
 intro vals γ w8 hR hG;refine Qx ?_;have HX8:=Hd (show Ext w7 w8 from hR.ext0 (fun _ _ _ h=>h.elim));clear hR hG;go_wp2;go_ret;refine ⟨?_,(HX0.o.trans HX7.o).trans HX8.o⟩;rw [←HE.o];rfl

theorem EX{w:World}{g:Nat}(h:g=w.heap.size):Blk (w.alloc (.cells Az 39)) g 39 Az:=by
 rw [h];exact Blk.new _ _ _
theorem F7(a:Abs)(A D:OA)(c e:Nat)(w:World)(S:NP)(hA:Strs w S A a.cols)(hD:RDeps w S D a.deps)(ht:Tens w)(hz:AbN 1000000 a) :
  Cl 22 #[(Aq a A c D e)] w (AO w (Gn a)):=by
 obtain ⟨w0,hw0⟩:=eqx (w.alloc (.cells (Ap a A c D e) 39));obtain ⟨g1,hg1⟩:=eqx w.heap.size;have hx0:Ext w w0:=Y68;have hb1:Blk w0 g1 39 (Ap a A c D e):=(by rw [hw0,hg1];exact Blk.new _ _ _);obtain ⟨HW0,HG1,HB1,HX0,HC⟩:=Hd5 hw0 hg1 hb1 hx0 (AU a A D c e w0 S (hA.keep (hx0.kept _)) (hD.keep (hx0.kept _)) (ht.ext hx0) hz);obtain ⟨s,hs⟩:=eqx (AM a);have HE:=Hd (show Gn a=(decide (s.kinds=0)&&!s.errs) by rw [hs];rfl);rw [←hs] at HC;clear hw0 hg1 hb1 hx0 hA hD ht hz hs
 go_enter func22,ntmps22
 go_upto_region 1 with fail
 rw [←HW0.o,←HG1.o];refine wp_region_lit ?_;refine AB rfl 39 _ rfl g1 rfl HB1.o AH AA ?_
 go_wp2_with fail
 refine HC.o.mono ?_;rintro e1 w1 ⟨A',c',D',e',rfl,-,hx1⟩;have HX1:=Hd (HX0.o.trans hx1);clear hx1;rename_i K1 hK1 K2 hK2;refine hK2 _ _ ?_;refine AP rfl rfl ?_;obtain ⟨g3,hg3⟩:=eqx w1.heap.size;rw [←hg3];refine AD rfl 39 _ _ rfl g3 (Ap s A' c' D' e') rfl rfl 39 _ (EX hg3) AA rfl Y11 ?_;intro w2 hb3 ho2;have HX2:=Hd ((HX1.o.alloc _).only ho2 (by have:=HX1.o.size;omega));have q0:=hb3.q0;have q17:w2.cell? ⟨g3,17,none⟩=some (.bool s.errs):=hb3.q17;refine hK1 _ _ ?_;clear hK1 hK2 hb3 ho2 hg3;by_cases hk:s.kinds=0
 ·have hkk:(s.kinds==0)=true:=(by rw [hk];rfl);have HF:=Hd (show Gn a = !s.errs by rw [HE.o,decide_eq_true hk,Bool.true_and]);go_wp2;exact ZD
 ·have hkk:(s.kinds==0)=false:=(by simpa using hk);have HF:=Hd (show Gn a=false by rw [HE.o,decide_eq_false hk,Bool.false_and]);go_wp2;go_ret;exact ⟨by rw [HF.o];simp [hkk],HX2.o⟩
end Go.Proofs.YtidacnalcdhckaaGreatDoor
