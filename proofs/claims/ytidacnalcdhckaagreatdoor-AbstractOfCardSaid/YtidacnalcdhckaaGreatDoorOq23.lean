/- Lemmas. No conditions. -/
import Derived.Test.YtidacnalcdhckaaGreatDoorOq22
import Derived.Sort.OwnSorted
import Derived.Shelf.SortM.Plain
import Derived.Shelf.SortM.SortNone
set_option maxRecDepth 100000
set_option maxHeartbeats 4000000
namespace Go.Proofs.YtidacnalcdhckaaGreatDoor
open Go Go.RowKit Tryz
variable {qP:Prop}

theorem Vk(x y:Dep)(A B:OA)(ca cb g g2:Nat)(w:World)(S T:NP)(hb:w.cell? ⟨g,0,none⟩=some (.func (.func 185) #[] #[]))(hb2:w.cell? ⟨g2,0,none⟩=some (.slice B x.frm.length cb))(hb3:w.cell? ⟨g2,1,none⟩=some (.string x.tov))(hx:Strs w S B x.frm)(hy:Strs w T A y.frm) :
  Cl 230 #[.agg #[.slice A y.frm.length ca,.string y.tov],.pointer (some ⟨g,0,none⟩),.pointer (some ⟨g2,0,none⟩)] w (Ae w (decide (x=y))):=by
 have hx0:=(Ext.refl w).alloc (.cells #[.slice A y.frm.length ca,.string y.tov] 69);have HC:=Hd (Nr x y B A cb ca _ S T (hx.keep (hx0.kept S)) (hy.keep (hx0.kept T)));have k1:=hx0.cell hb;have k2:=hx0.cell hb2;have k3:=hx0.cell hb3;have hbl:=Blk.new w 69 #[.slice A y.frm.length ca,.string y.tov];obtain ⟨k4,k5⟩:=hbl.qs2;have HX0:=Hd hx0;clear hx0 hb hb2 hb3 hbl
 go_enter func230,ntmps230
 go_wp2_with fail
 refine HC.o.mono ?_;rintro e w' ⟨rfl,hx⟩;have HX:=Hd (HX0.o.trans hx);clear hx
 go_wp2_with fail
 go_ret;exact ⟨rfl,HX.o⟩
theorem Ln(l:List Dep)(x:Dep)(A B:OA)(c cb g g2:Nat)(w:World)(S T:NP)(hl:RDeps w S A l)(hb:w.cell? ⟨g,0,none⟩=some (.func (.func 185) #[] #[]))(hb2:w.cell? ⟨g2,0,none⟩=some (.slice B x.frm.length cb))(hb3:w.cell? ⟨g2,1,none⟩=some (.string x.tov))(hx:Strs w T B x.frm) :
  Cl 271 #[.slice A l.length c,.func (.func 230) #[] #[.pointer (some ⟨g,0,none⟩),.pointer (some ⟨g2,0,none⟩)]] w (DG w (Gv (fun y=>decide (x=y)) l)):=by
 have hn:=hl.1;obtain ⟨HL,HB,HB2,HB3,HXX⟩:=Hd5 hl hb hb2 hb3 hx;clear hl hb hb2 hb3 hx
 go_enter func271,ntmps271
 go_wp2
 go_loopw [8] (fun i wr=>∃ k:Nat,k≤l.length∧i=.I k∧Ext w wr∧∀ j (h:j<l.length),j<k→(fun y=>decide (x=y)) l[j]=false) (fun i _=>l.length-(intOf i).toNat)
 case atStart=>exact ⟨0,AN,rfl,Ext.refl _,AK⟩
 case round =>
  obtain ⟨k,hk,rfl,hext,hall⟩:=hrel;have HA:=Hd hall;have HE:=Hd hext;clear hall;by_cases hlt:k<l.length
  ·obtain ⟨b1,o1,B2,c2,rfl,z1,c1,c3,h4,h5,h6⟩:=(HL.o.keep (hext.kept S)).at_ hlt;have HC:=Hd (Vk x l[k] B2 B c2 cb g g2 wr T S (hext.cell HB.o) (hext.cell HB2.o) (hext.cell HB3.o) (HXX.o.keep (hext.kept T)) h6);clear hext h6;cases hm:decide (x=l[k])
   ·rw [hm] at HC;have HM:=Hd hm;clear hm
    go_wp2_with fail
    refine HC.o.mono ?_;rintro e w' ⟨rfl,hx⟩;have HX:=Hd (HE.o.trans hx);clear hx
    go_wp2_with fail
    go_roundw
    case rel =>
     refine ⟨k+1,AA,AE,HX.o,fun j h hj => ?_⟩;exact TW
    case measure=>simp [intOf];omega
   ·rw [hm] at HC;have HM:=Hd hm;clear hm
    go_wp2_with fail
    refine HC.o.mono ?_;rintro e w' ⟨rfl,hx⟩;have HX:=Hd (HE.o.trans hx);clear hx
    go_wp2_with fail
    go_ret;exact ⟨by rw [EO hlt HA.o HM.o];rfl,HX.o⟩
  ·clear hext;go_wp2;go_ret;exact ⟨by rw [GG (fun j hj=>HA.o j hj AA)];rfl,HE.o⟩
theorem Ja(l:List Dep)(x:Dep)(A B:OA)(c cb g g2:Nat)(w:World)(S T:NP)(hl:RDeps w S A l)(hb:w.cell? ⟨g,0,none⟩=some (.func (.func 185) #[] #[]))(hb2:w.cell? ⟨g2,0,none⟩=some (.slice B x.frm.length cb))(hb3:w.cell? ⟨g2,1,none⟩=some (.string x.tov))(hx:Strs w T B x.frm) :
  Cl 229 #[.slice A l.length c,.func (.func 230) #[] #[.pointer (some ⟨g,0,none⟩),.pointer (some ⟨g2,0,none⟩)]] w (Ae w (decide (x∈l))):=by
 have HC:=Hd (Ln l x A B c cb g g2 w S T hl hb hb2 hb3 hx);have HI:=Hd (show (l.any fun y=>decide (x=y))=decide (x∈l) by rw [Bool.eq_iff_iff,List.any_eq_true,decide_eq_true_eq];exact ⟨fun ⟨y,h1,h2⟩=>by rw [of_decide_eq_true h2];exact h1,fun h=>⟨x,h,decide_eq_true rfl⟩⟩);clear hb hb2 hl hb3 hx
 go_enter func229,ntmps229
 go_wp2_with fail
 refine HC.o.mono ?_;rintro e w' ⟨rfl,hx⟩;have HX:=Hd hx;clear hx
 go_wp2_with fail
 go_ret;exact ⟨by rw [←HI.o,←G5];rfl,HX.o⟩
theorem OwnDs.lower{w:World}{base base' c:Nat}{X:NP}{A:OA}{l:List Dep}(h:OwnDs w base X A c l)(hb:base'≤base):OwnDs w base' X A c l:=by
 obtain ⟨hs,h1,h2⟩:=h;exact ⟨hs,h1.lower hb,h2⟩
def Jt(w:World)(S:NP)(l:List Dep)(e:Ending)(w':World):Prop:=∃ A c,e=.returned (.slice A l.length c)∧l.length≤c∧OwnDs w' w.heap.size S A c l∧Ext w w'
theorem Lu(l:List Dep)(A:OA)(c:Nat)(w:World)(S:NP)(hA:RDeps w S A l)(hl:l.length≤1000000) :
  Cl 184 #[.slice A l.length c,.func (.func 185) #[] #[]] w (Jt w S (ddp l)):=by
 obtain ⟨HA,HB0,HX0⟩:=Hd3 (hA.mono (T:=fun b=>S b∧b<w.heap.size) fun i hi hs=>⟨hs,hi⟩) (Blk.new w 89 #[.func (.func 185) #[] #[]]) ((Ext.refl w).alloc (.cells #[.func (.func 185) #[] #[]] 89));clear hA
 go_enter func184,ntmps184
 go_wp2
 go_loopw [10,5] (fun i v wr=>∃ (m:Nat) (A':OA) (c':Nat),m≤l.length∧i=.I m∧v=.slice A' (ddp (l.take m)).length c'∧Ext (w.alloc (.cells #[.func (.func 185) #[] #[]] 89)) wr∧OwnDs wr (w.heap.size+1) (fun b=>S b∧b<w.heap.size) A' c' (ddp (l.take m))) (fun i _ _=>l.length-(intOf i).toNat)
 case atStart=>exact ⟨0,none,0,AN,rfl,rfl,Ext.refl _,OwnDs.nil _ _ _⟩
 case round =>
  obtain ⟨m,A',c',hm,rfl,rfl,hext,hown⟩:=hrel;have HE:=Hd hext;have HO:=Hd hown;clear hown;by_cases hlt:m<l.length
  ·obtain ⟨b1,o1,B2,c2,rfl,z1,c1,c3,h4,h5,h6⟩:=((HA.o.keep (HX0.o.kept _)).keep (hext.kept _)).at_ hlt;have hw0:wr.cell? ⟨w.heap.size,0,none⟩=some (.func (.func 185) #[] #[]):=hext.cell (HB0.o.cell rfl);obtain ⟨w1,hw1⟩:=eqx (wr.alloc (.cells #[.slice B2 l[m].frm.length c2,.string l[m].tov] 69));have hx1:Ext wr w1:=(by rw [hw1];exact (Ext.refl wr).alloc _);have hown:=HO.o.ext hx1;have hln:=F4 (l.take m);rw [List.length_take] at hln;have hbx:Blk w1 wr.heap.size 69 #[.slice B2 l[m].frm.length c2,.string l[m].tov]:=(by rw [hw1];exact Blk.new _ _ _);have HW1:=Hd hw1;have hst:=hown.rdeps (T:=fun _=>True) AA (fun _ _=>trivial) (fun _ _=>trivial);obtain ⟨HC,HT,HX1⟩:=Hd3 (Ja (ddp (l.take m)) l[m] A' B2 c' c2 w.heap.size wr.heap.size _ _ _ hst (hx1.cell hw0) (hbx.q0) (hbx.q1) (h6.keep (hx1.kept _))) (O6 l m hlt) hx1;have hszx:=hx1.size;have HBX:=Hd hbx;have H6:=Hd h6;obtain ⟨q0,q1⟩:=hbx.qs2;have hsz:=HE.o.size;have hsz0:(w.alloc (.cells #[.func (.func 185) #[] #[]] 89)).heap.size=w.heap.size+1:=AC;clear hw0 hx1 hown hst hbx h6 hw1
   go_upto_region 5 with fail
   rw [←HW1.o];cases hd:decide (l[m]∈ddp (l.take m))
   ·have hn:¬l[m]∈ddp (l.take m):=of_decide_eq_false hd;rw [hd] at HC;rw [if_neg hn] at HT;clear hd hn
    go_wp2_with fail
    refine HC.o.mono ?_;rintro e w' ⟨rfl,hx⟩;have HX:=Hd (HX1.o.trans hx);have hszy:=hx.size;have q2:=hx.cell q0;have q3:=hx.cell q1;obtain ⟨hs9,hhs9,ho9,hv9⟩:=((HO.o.ext HX.o).ext ((Ext.refl _).alloc (.cells #[.slice B2 l[m].frm.length c2,.string l[m].tov] 69))).add;obtain ⟨HOWN,HV,HHS⟩:=Hd3 ho9 hv9 hhs9;clear ho9 hv9 hhs9 hx q0 q1
    go_wp2_with (at_builtin;go_must (refine AL rfl (.tmp 18) (.tmp 20) rfl tiD rfl HOWN.o rfl (Blk.rd (Blk.new _ _ _)) rfl AP AA AB AI ?_);intro A4 c4 w4 hown4 hg4 hat4)
    go_roundw
    case rel =>
     refine ⟨m+1,A4,c4,AA,AE,by rw [HT.o,List.length_append];rfl,Ext.grown ((HE.o.trans HX.o).alloc _) hg4 (fun b hb=>Ii),?_⟩;rw [HT.o];refine OwnDs.push HHS.o HV.o hown4 hg4 hat4 h4 h5 (((H6.o.keep (HX.o.kept _)).keep (Kept.alloc _ _ _)).mono fun i _ hi=>⟨fun e => ?_,hi⟩);have:=(HO.o.blk e).1;have:=hi.2;omega
    case measure=>simp [intOf];omega
   ·have hn:l[m]∈ddp (l.take m):=of_decide_eq_true hd;rw [hd] at HC;rw [if_pos hn] at HT;clear hd hn
    go_wp2_with fail
    refine HC.o.mono ?_;rintro e w' ⟨rfl,hx⟩;have HX:=Hd (HX1.o.trans hx);have hszy:=hx.size;clear hx
    go_wp2_with fail
    go_roundw
    case rel =>
     refine ⟨m+1,A',c',AA,AE,by rw [HT.o],HE.o.trans HX.o,?_⟩;rw [HT.o];exact HO.o.ext HX.o
    case measure=>simp [intOf];omega
  ·obtain rfl:m=l.length:=AA;have ho:=HO.o;rw [List.take_length] at ho;obtain ⟨HO2,HT,HC⟩:=Hd3 ho (show l.take l.length=l from List.take_length) (show (ddp l).length≤c' by obtain ⟨hs,_,h1,_⟩:=ho.add;exact h1.cap);clear ho hext;go_wp2;go_ret;exact ⟨A',c',EM,HC.o,(HO2.o.lower (Nat.le_succ _)).mono fun _ _ h=>h.1,HX0.o.trans HE.o⟩

theorem F6A(l:List BA):l.map Value.string=(l.map fun s=>s.data.toList).map encStr:=by
 rw [List.map_map];rfl
theorem ElA(g c:Nat)(ss:List (List UInt8))(w:World)(hH:Sort.Holds encStr w g 0 ss.toArray)(hb:g<w.heap.size)(hsz:ss.length<4611686018427387904) :
  Cl 183 #[.slice (some ⟨g,0,none⟩) ss.length c] w fun e w' =>
   e=.returned (.tuple #[])∧∃ n os,w'=Sort.grow (Sort.putRow encStr (Sort.ahead w n) g 0 (ss.mergeSort fun x y=>decide (x≤y)).toArray) os:=AnyM.slices_Sort_string Tryz.sort183 g 0 c ss w hH hb hsz
theorem CTA{w:World}{base c:Nat}{A:OA}{l:List BA}(h:OwnSs w base A c l)(hl:l.length≤17592186044416) :
  Cl 183 #[.slice A l.length c] w (fun e w'=>e=.returned (.tuple #[])∧w.grownBy w' (ob A)∧OwnSs w' base A c (An l)):=by
 have hsz:∀ s∈An l,s.size≤4294967296:=fun s hs=>h.2 s (by
  unfold An at hs;obtain ⟨b,hb,rfl⟩:=List.mem_map.1 hs;rw [List.mem_mergeSort] at hb;obtain ⟨x,hx,rfl⟩:=List.mem_map.1 hb;have:(⟨x.data.toList.toArray⟩:BA)=x:=(by cases x;simp);rw [this];exact hx)
 have hsl:(An l).length=l.length:=by simp [An]
 rcases h.1.2 with ⟨hv,hn⟩|⟨g,cap,cur,hv,hb,hh,hnc,hcm,hcs,ht⟩
 ·injection hv with hv1 hv2 hv3;subst hv1 hv3;have hl0:l=[]:=List.eq_nil_of_length_eq_zero hn;subst hl0;refine (show Cl 183 #[.slice none 0 0] w (fun e w'=>e=.returned (.tuple #[])∧w'=w) from AnyM.slices_Sort_string_none Tryz.sort183 none 0 w).mono ?_;rintro e w' ⟨rfl,rfl⟩;exact ⟨rfl,World.grownBy.refl _ _,by rw [show An []=[] by simp [An]];exact OwnSs.nil _ _⟩
 ·injection hv with hv1 hv2 hv3;subst hv1 hv3;have hh':w.heap[g]?=some (.cells cur 9 (0,0)):=hh;have hnl:(l.map fun s=>s.data.toList).length=l.length:=AC;have ht':cur.toList.take (l.map fun s=>s.data.toList).length=(l.map fun s=>s.data.toList).map encStr:=by
   rw [←F6A,hnl,←ht,Nat.mul_one]
  have h1:=ElA g c (l.map fun s=>s.data.toList) w (holds_of_block hh' ht') (Blk.lt hh) (by rw [hnl];omega);rw [hnl] at h1;refine h1.mono ?_;rintro e w' ⟨rfl,n,os,rfl⟩;refine ⟨rfl,grownBy_sorted _,?_,hsz⟩;have h2:=ownsRow_sorted (w:=w) (base:=base) (n:=n) (os:=os) (ss:=l.map fun s=>s.data.toList) (ts:=(l.map fun s=>s.data.toList).mergeSort fun x y=>decide (x≤y)) AC hb hh' (by rw [hnl];exact hnc) hcm hcs;rw [hnl] at h2;rw [hsl];have h3:(An l).map Value.string=((l.map fun s=>s.data.toList).mergeSort fun x y=>decide (x≤y)).map encStr:=by
   unfold An;rw [List.map_map];rfl
  rw [h3];exact h2
theorem OwnDs.put{w:World}{base c g:Nat}{X:NP}{l:List Dep}(h:OwnDs w base X (some ⟨g,0,none⟩) c l){i:Nat}(hi:i<l.length){B:OA}{e:Nat}(he:l[i].frm.length≤e)(hs:Strs w (fun b=>b≠g∧X b) B l[i].frm) :
  OwnDs (w.setCell ⟨g,i*2,none⟩ (.slice B l[i].frm.length e)) base X (some ⟨g,0,none⟩) c l:=by
 obtain ⟨xs,ho,hv⟩:=h;have hlen:xs.length=l.length*2:=ho.len;have hk:Kept (fun b=>ob (some ⟨g,0,none⟩)≠some b∧X b) w (w.setCell ⟨g,i*2,none⟩ (.slice B l[i].frm.length e)):=Kept.of_set fun hh=>hh.1 rfl;refine ⟨xs.set (i*2) (.slice B l[i].frm.length e),Own.put ho _,fun j d hj => ?_⟩;obtain ⟨B',e',h3,h4,h5,h6,h7⟩:=hv j d hj;have h4':(xs.set (i*2) (.slice B l[i].frm.length e))[j*2+1]?=some (.string d.tov):=(by rw [List.getElem?_set_ne AA];exact h4);by_cases hji:j=i
 ·subst hji;rw [List.getElem?_eq_getElem hi] at hj;injection hj with hj;subst hj;refine ⟨B,e,by rw [List.getElem?_set_self AA],h4',he,h6,(hs.mono fun b _ hb=>⟨fun e=>hb.1 (by injection e with e;exact e.symm),hb.2⟩).keep hk⟩
 ·exact ⟨B',e',by rw [List.getElem?_set_ne AA];exact h3,h4',h5,h6,h7.keep hk⟩

def AbM(w:World)(S:NP)(a:Abs)(A:OA)(c:Nat)(D:OA)(e:Nat):Prop:=a.cols.length≤c∧a.deps.length≤e∧Strs w S A a.cols∧RDeps w S D a.deps
theorem AbM.keep{w w':World}{S:NP}{a:Abs}{A D:OA}{c e:Nat}(h:AbM w S a A c D e)(k:Kept S w w'):AbM w' S a A c D e:=⟨h.1,h.2.1,h.2.2.1.keep k,h.2.2.2.keep k⟩
theorem AbM.mono{w:World}{S T:NP}{a:Abs}{A D:OA}{c e:Nat}(h:AbM w S a A c D e)(k:∀ i,i<w.heap.size→S i→T i):AbM w T a A c D e:=⟨h.1,h.2.1,h.2.2.1.mono k,h.2.2.2.mono k⟩
def Eh(w:World)(S:NP)(a:Abs)(e:Ending)(w':World):Prop:=∃ A c D e',e=.returned (Aq a A c D e')∧AbM w' (fun b=>S b∨w.heap.size≤b) a A c D e'∧Ext w w'
def Off(S0:NP)(w:World):Nat→Prop:=fun b=>S0 b∨w.heap.size≤b
def D0A(w w0:World)(S0:NP)(g:Nat)(A':OA)(c':Nat)(D':OA)(e':Nat)(b:Bool)(r1 r:Abs)(e:Ending)(w':World):Prop :=
 e=.returned (.bool b)∧Ext w0 w'∧w.heap.size≤w'.heap.size∧(b=true→∃ A2 c2 D2 e2,Blk w' g 39 (Ap r1 A2 c2 D2 e2)∧AbM w' (Off S0 w) r1 A2 c2 D2 e2)∧(b=false→Blk w' g 39 (Ap r A' c' D' e'))
def HhA(ws:World)(l:List BA)(γ:Gz)(w':World)(v:Value):Prop:=∃ (B:OA) (e:Nat),v=.slice B l.length e∧l.length≤e∧(γ 1010=false→Strs w' (fun b=>ws.heap.size≤b) B l)
theorem Kq(h:qP:=by
 go_wp2_with fail
 go_ret;exact ⟨by rw [HPT.o];rfl,HX3.o,HZ3.o,fun h=>(by rw [HPT.o] at h;cases h),fun _=>HBR3.o⟩):qP:=h
theorem Pr(h:qP:=by
 have hkk:=hR.o.kept0 (S:=fun b=>b≠gd) (fun b _ hb m hm=>absurd hm.2 hb);have m16:=Kept.cell hkk G16.o K16.o;have mv:=Kept.cell hkk GV.o KV.o;clear hkk;exact Qk):qP:=h
theorem Qi(h:qP:=by
 exact ⟨h1.keep (rr.keptS fun b _ e m hm=>by rw [hm.1,h2,rr.done _ h2]),rr.done _ h2⟩):qP:=h
theorem Zq(a r:Abs)(A D A' D':OA)(c e c' e' g:Nat)(w w0:World)(hx:Ext w0 w)(hg:w0.heap.size≤g)(hb:Blk w g 39 (Ap r A' c' D' e'))
  (S0:NP) (hS0:∀ b,S0 b→b<w0.heap.size) (hA:Strs w S0 A a.cols) (hD:RDeps w S0 D a.deps) (hn1:a.cols.length≤1000000) (hn2:a.deps.length≤1000000) :
  Cl 122 #[.pointer (some ⟨g,0,none⟩),(Aq a A c D e),.I 5] w (D0A w w0 S0 g A' c' D' e' (Bw a 5) (Dp a 5 r) r):=by
 obtain ⟨w1,hw1⟩:=eqx (w.alloc (.cells (Ap a A c D e) 39));obtain ⟨g4,hg4⟩:=eqx w.heap.size;have hx1:Ext w w1:=GS;have hba:Blk w1 g4 39 (Ap a A c D e):=GN;have hgl:g<w.heap.size:=hb.lt;obtain ⟨HBA1,HBR1,HX1,HXX,HX01,HW,HG,HGE⟩:=Hd8 hba (hb.keep (hx1.kept _)) (hx.trans hx1) hx hx1 hw1 hg4 hg;obtain ⟨HGL,HS0,HA1,HD1,HAL⟩:=Hd5 hgl hS0 (hA.keep (hx1.kept _)) (hD.keep (hx1.kept _)) (show ∀ w',Cl 65 #[] w' (Cd w' (0,100)) from Ga);obtain ⟨d1,hd1⟩:=eqx ((DF a).1);obtain ⟨d2,hd2⟩:=eqx ((DF a).2);obtain ⟨cs,hcs⟩:=eqx (ddp a.cols);obtain ⟨ds,hds⟩:=eqx (ddp a.deps);have hcl:cs.length≤1000000:=(by have:=F4 a.cols;rw [hcs];omega);have hdl:ds.length≤1000000:=(by have:=F4 a.deps;rw [hds];omega);obtain ⟨HP,HPP,HMS,HDI,HDD,k0,k1⟩:=Hd7 (show Bw a 5=(decide (d1≤d2)&&decide (cs.length≤8)&&cs.all Ba) by rw [hd1,hd2,hcs];rfl) (show Dp a 5 r = { r with rl:=d1,rh:=d2,cols:=An cs,deps:=ds } by rw [hd1,hd2,hcs,hds];rfl) (show ∀ w',Cl 89 #[.agg #[.I a.rl,.I a.rh],.agg #[.I 0,.I 100]] w' (Cd w' (d1,d2)) from fun w'=>by rw [show (d1,d2)=CZ (a.rl,a.rh) (0,100) by rw [hd1,hd2];rfl];exact DM _ _ _ _ w') (show ∀ w',Ext w1 w'→Cl 180 #[.slice A a.cols.length c,.func (.func 181) #[] #[]] w' (FfA w' cs) from fun w' hw'=>by rw [hcs];exact MP a.cols A c w' _ (HA1.o.keep (hw'.kept _)) hn1) (show ∀ w',RDeps w' S0 D a.deps→Cl 184 #[.slice D a.deps.length e,.func (.func 185) #[] #[]] w' (Jt w' S0 ds) from fun w' hw'=>by rw [hds];exact Lu a.deps D e w' _ hw' hn2) (hba.q13) (hba.q14);clear hx hg hb hx1 hba hw1 hg4 hd1 hd2 hcs hds hA hD hgl
 go_enter func122,ntmps122
 go_upto_region 19 with fail
 rw [←HW.o,←HG.o];refine Qb (fun|5=>[4,5]|i=>[i]) (fun _ _=>False) [(5,[4])] ?_
 iterate 2 refine Qp ?_
 refine Qc (x:=.agg #[.I 0,.I 100]) (fun w'=>HAL.o w') ?_;refine Qc (x:=.agg #[.I d1,.I d2]) (fun w'=>HMS.o w') ?_;refine Qs (FP (VarX (fun _ _=>False) 4 36 2)) (H1A IAA) ?_ ?_
 ·exact Pb
 refine Chain.step (fun vl γ w'=>match vl with|[p,_]=>VarXI (fun _ _=>False) 36 p #[.I d1,.I d2] γ w'|_=>True) AG ?_ ?_ ?_
 ·exact SB
 ·intro vals γ w' ρ hR hN hp hρ hc hf hg;refine ⟨rfl,?_⟩;have e72:ρ (.tmp 72)=_:=(hρ 72).trans (hp 3 AB);obtain ⟨g,⟨cl⟩,hv,hcs,hb,hk,hst⟩:=VarX.stored (hp 4 AB) (s:=5) (l:=[(5,[4])]) AB hN;have e8:=(hρ 8).trans hv;exact PF
 intro vals γ w9 hR hG;obtain ⟨g5,v4,hb5,-,-⟩:=hG 5 AB;refine Qx ?_;simp only [v4];have HX9:=Hd (show Ext w1 w9 from hR.ext0 (fun _ _ h=>h.elim));have HB5:=Hd hb5;clear hR hG hb5 v4;obtain ⟨HX2,HBR2,HBA2⟩:=Hd3 (HX1.o.trans HX9.o) (HBR1.o.keep (HX9.o.kept _)) (HBA1.o.keep (HX9.o.kept _));have q15:=HBA2.o.q15
 go_wp2_with fail
 refine (HDI.o _ HX9.o).mono ?_;rintro e2 w2 ⟨A2,c2,rfl,hcap2,hown2,hx2⟩;obtain ⟨HX3,HX93,HX92,HZ3,HBR3,HBA3,HB53,HOW2⟩:=Hd8 (HX2.o.trans hx2) (HX9.o.trans hx2) hx2 (show w.heap.size≤w2.heap.size by have:=HX01.o.size;have:=HX9.o.size;have:=hx2.size;omega) (HBR2.o.keep (hx2.kept _)) (HBA2.o.keep (hx2.kept _)) (HB5.o.keep (hx2.kept _)) hown2;have HC2:=Hd hcap2;have hal:=Mv A2 c2 cs w2 (fun _=>True) (hown2.strs AA fun _ _=>trivial);obtain ⟨an,han⟩:=eqx (cs.all Ba);rw [←han] at hal HP;have HALN:=Hd hal;clear q15 hx2 hown2 hcap2 hal han;obtain ⟨s0,s1⟩:=HB53.o.qs2;by_cases hle:d1≤d2
 case neg =>
  have hle2:d2<d1:=AA;have HPT:=Hd (show Bw a 5=false by rw [HP.o,decide_eq_false hle];rfl);exact Kq
 have hle2:¬d2<d1:=AA;by_cases h8:cs.length≤8
 case neg =>
  have h82:(8:Int)<(cs.length:Int):=AA;have HPT:=Hd (show Bw a 5=false by rw [HP.o,decide_eq_false h8,Bool.and_false];rfl);exact Kq
 have h82:¬(8:Int)<(cs.length:Int):=AA;cases an
 ·have HPT:=Hd (show Bw a 5=false by rw [HP.o,Bool.and_false])
  go_wp2_with fail
  refine HALN.o.mono ?_;rintro e3 w3 ⟨rfl,rfl⟩;exact Kq
 have HPT:=Hd (show Bw a 5=true by rw [HP.o,decide_eq_true hle,decide_eq_true h8];rfl)
 go_wp2_with fail
 refine HALN.o.mono ?_;rintro e3 w3 ⟨rfl,rfl⟩;clear s0 s1 HP
 go_wp2_with fail
 refine (CTA HOW2.o AA).mono ?_;rintro e4 w4 ⟨rfl,hg4,hown4⟩;have hsz1:=HX01.o.size;have hsz9:=HX9.o.size;have hgl:=HGL.o;have hgg:=HG.o;have hg4l:=HBA1.o.lt;have hg5l:=HB5.o.lt;have hrow:∀ b,b<w9.heap.size→some b≠ob A2:=fun b hb e=>by have:=(HOW2.o.1.blk e.symm).1;omega
 obtain ⟨HX4,HX94,HBR4,HBA4,HB54,HOW4,HGR,HSL⟩:=Hd8 (Ext.grown HX3.o hg4 (fun b hb=>by have:=(HOW2.o.1.blk hb).1;have:=HX2.o.size;omega)) (Ext.grown HX93.o hg4 (fun b hb=>by have:=(HOW2.o.1.blk hb).1;omega)) (HBR3.o.keep (Kept.of_grown hg4 fun b hb _=>by rw [hb];exact hrow g AA)) (HBA3.o.keep (Kept.of_grown hg4 fun b hb _=>by rw [hb];exact hrow g4 AA)) (HB53.o.keep (Kept.of_grown hg4 fun b hb _=>by rw [hb];exact hrow g5 AA)) hown4 hg4 (show (An cs).length=cs.length by simp [An]);obtain ⟨s0,s1⟩:=HB54.o.qs2;have r13:=HBR4.o.q13;have r14:=HBR4.o.q14;have r15:=HBR4.o.q15;have rf:=HBR4.o.frozen;have rl:=HBR4.o.lt;clear hg4 hown4 hrow hsz1 hsz9 hgl hgg hg4l hg5l
 go_upto_region 25 with fail
 obtain ⟨w5,hw5⟩:=eqx (((w4.setCell ⟨g,13,none⟩ (.I d1)).setCell ⟨g,14,none⟩ (.I d2)).setCell ⟨g,15,none⟩ (.slice A2 cs.length c2));rw [←hw5];obtain ⟨r5,hr5⟩:=eqx ({ r with rl:=d1,rh:=d2,cols:=An cs });have hsz1:=HX01.o.size;have hsz9:=HX9.o.size;have hszx:=HXX.o.size;have hgl:=HGL.o;have hge:=HGE.o;have hgg:=HG.o;have hg4l:=HBA1.o.lt;have HSZ9:=Hd (show w.heap.size≤w9.heap.size by omega);have HBR5:=Hd (show Blk w5 g 39 (Ap r5 A2 c2 D' e') by
  have hbb:=((HBR4.o.set 13 (.I d1)).set 14 (.I d2)).set 15 (.slice A2 cs.length c2);rw [←hw5] at hbb;rw [hr5]
  simpa [HSL.o,Ap] using hbb)
 have hkb:∀ S:Nat→Prop,¬S g→Kept S w4 w5:=fun S hS=>by rw [hw5];exact ((Kept.refl S w4).set2 hS).set2 hS |>.set2 hS
 obtain ⟨HBA5,HX5,HOW5,HD5,HS5,HR5⟩:=Hd6 (HBA4.o.keep (hkb _ (show ¬g=g4 by omega))) (show Ext w0 w5 by rw [hw5];exact ((HX4.o.set2 HGE.o _).set2 HGE.o _).set2 HGE.o _) (show OwnSs w5 w9.heap.size A2 c2 (An cs) from ⟨HOW4.o.1.keep (hkb _ (show ¬ob A2=some g from fun e=>by have:=(HOW4.o.1.blk e).1;omega)),HOW4.o.2⟩) ((HD1.o.keep (HX94.o.kept _)).keep (hkb _ (show ¬S0 g from fun h=>by have:=HS0.o g h;omega))) (show w9.heap.size≤w5.heap.size by have:=(hkb (fun _=>False) (fun h=>h)).1;have h9:=(Ext.grown HX92.o HGR.o (fun b hb=>(HOW2.o.1.blk hb).1)).size;omega) hr5;clear hkb hw5 hr5 s0 s1 r13 r14 r15 rf rl hsz1 hsz9 hszx hgl hge hgg hg4l;have q16:w5.cell? ⟨g4,16,none⟩=some (.slice D a.deps.length e):=HBA5.o.q16;have r16:w5.cell? ⟨g,16,none⟩=some (.slice D' r5.deps.length e'):=HBR5.o.q16;have rf:=HBR5.o.frozen;have rl:=HBR5.o.lt
 go_wp2_with fail
 refine (HDD.o _ HD5.o).mono ?_;rintro e6 w6 ⟨D2,e2,rfl,hcap6,hown6,hx6⟩;obtain ⟨HX6,HBR6,HOW6,HOD6,HS6⟩:=Hd5 (HX5.o.trans hx6) (HBR5.o.keep (hx6.kept _)) (HOW5.o.ext hx6) (hown6.mono (T:=Off S0 w) fun _ _ h=>.inl h) hx6.size;clear q16 r16 rf rl hx6 hown6;have r16:w6.cell? ⟨g,16,none⟩=some (.slice D' r5.deps.length e'):=HBR6.o.q16;have rf:=HBR6.o.frozen;have rl:=HBR6.o.lt
 go_upto_region 26 with fail
 obtain ⟨w7,hw7⟩:=eqx (w6.setCell ⟨g,16,none⟩ (.slice D2 ds.length e2));rw [←hw7];have hkb:∀ S:Nat→Prop,¬S g→Kept S w6 w7:=fun S hS=>by rw [hw7];exact (Kept.refl S w6).set2 hS
 have hs5:=HS5.o;have hsz9:=HSZ9.o;have hgl:=HGL.o;have hge:=HGE.o;obtain ⟨r7,hr7⟩:=eqx (Dp a 5 r);have hr7d:r7.deps=ds∧r7.cols=An cs:=(by rw [hr7,HPP.o];exact ⟨rfl,rfl⟩);have HBR7:=Hd (show Blk w7 g 39 (Ap r7 A2 c2 D2 e2) by
  have hbb:=HBR6.o.set 16 (.slice D2 ds.length e2);rw [←hw7,HR5.o] at hbb;rw [hr7,HPP.o]
  simpa using hbb)
 have HX7:=Hd (show Ext w0 w7 by rw [hw7];exact HX6.o.set2 HGE.o _);have HOW7:=Hd (show OwnSs w7 w9.heap.size A2 c2 (An cs) from ⟨HOW6.o.1.keep (hkb _ (show ¬ob A2=some g from fun e=>by have:=(HOW6.o.1.blk e).1;omega)),HOW6.o.2⟩);have HOD7:=Hd (show OwnDs w7 w5.heap.size (Off S0 w) D2 e2 ds from HOD6.o.keep (hkb _ (show ¬(ob D2=some g∨Off S0 w g) from fun h=>by
  rcases h with h|h
  ·have:=(HOD6.o.blk h).1;omega
  ·rcases h with h|h
   ·have:=HS0.o g h;omega
   ·omega)))
 obtain ⟨HS7,HA2L,HRD,HR7,HCP⟩:=Hd5 (show w5.heap.size≤w7.heap.size by have:=HS6.o;have:=(hkb (fun _=>False) (fun h=>h)).1;omega) (show ∀ b,ob A2=some b→b<w5.heap.size from fun b hb=>(HOW5.o.1.blk hb).2) hr7d hr7 hcap6;have hcell:w7.cell? ⟨g,16,none⟩=some (.slice D2 r7.deps.length e2):=HBR7.o.q16;rw [hr7d.1] at hcell;clear hkb hw7 hr7 hr7d r16 rf rl hs5 hsz9 hgl hge;go_wp2
 go_loopw [112] (fun i wr=>∃ k:Nat,k≤ds.length∧i=.I k∧Ext w0 wr∧w5.heap.size≤wr.heap.size∧Blk wr g 39 (Ap r7 A2 c2 D2 e2)∧OwnSs wr w9.heap.size A2 c2 (An cs)∧OwnDs wr w5.heap.size (Off S0 w) D2 e2 ds) (fun i _=>ds.length-(intOf i).toNat)
 case atStart=>exact ⟨0,AN,rfl,HX7.o,HS7.o,HBR7.o,HOW7.o,HOD7.o⟩
 case round =>
  clear hcell;obtain ⟨k,hk,rfl,hext,hszr,hbr,hos,hod⟩:=hrel;by_cases hlt:k<ds.length
  ·obtain ⟨xs,hxl,ho,hv⟩:=hod.add;obtain ⟨gd,rfl⟩:=ho.some_ AA;obtain ⟨B,cB,h3,h4,h5,h6,h7⟩:=hv k ds[k] (List.getElem?_eq_getElem hlt);have c1:=ho.cell_ h3;have c2':=ho.cell_ h4;have hgd:=(hod.blk rfl);obtain ⟨HE,HBR,HOS,HOD,HSR,HGD,H7,H56⟩:=Hd8 hext hbr hos hod hszr hgd (h7.mono (T:=fun b=>b≠gd∧Off S0 w b) fun b _ hb=>⟨fun e=>hb.1 (by rw [e];rfl),hb.2⟩) (And.intro h5 h6);clear ho hv hxl h3 h4 h7 hext hbr hos hod
   go_upto_region 29 with fail
   obtain ⟨ws,hws⟩:=eqx (wr.alloc (.cells #[.slice B ds[k].frm.length cB,.string ds[k].tov] 69));obtain ⟨gv,hgv⟩:=eqx wr.heap.size;rw [←hws,←hgv];have hxs:Ext wr ws:=(by rw [hws];exact (Ext.refl wr).alloc _);have hbv:Blk ws gv 69 #[.slice B ds[k].frm.length cB,.string ds[k].tov]:=(by rw [hws,hgv];exact Blk.new _ _ _);have KV:=Hd (hbv.q0);have hrd7:=HRD.o.1;have K16:=Hd (show ws.cell? ⟨g,16,none⟩=some (.slice (some ⟨gd,0,none⟩) ds.length e2) by rw [←hrd7];exact hxs.cell (HBR.o.q16));have hg1:=HGD.o.1;have hg2:=HGD.o.2;simp only at hg1 hg2;have hgl:=HGL.o;have hs5:=HS5.o;have hs9:=HSZ9.o;have hszs:=hxs.size;obtain ⟨G16,GV,HGX,HF,HODS,HXS⟩:=Hd6 (show g≠gd by omega) (show gv≠gd by omega) (show gd<ws.heap.size∧w.heap.size≤ws.heap.size by omega) ((H7.o.keep (hxs.kept _)).mono (T:=fun b=>b≠gd) fun b _ hb=>hb.1) (HOD.o.ext hxs) hxs;clear hws hgv hxs hbv hrd7 hg1 hg2 hgl hs5 hs9 hszs c1 c2' h5 h6 hgd;refine Qa (fun m b=>m=1010∧b=gd) [(0,[1010]),(1,[1010]),(2,[1010]),(3,[1010]),(4,[1010]),(5,[1010]),(6,[1010]),(7,[1010]),(9,[1010]),(10,[1010])] ?_
   iterate 3 refine Qp ?_
   refine Qm (fun vals γ w' ρ hR hN hp hρ zs zg=>by
    exact Pr) ?_
   iterate 2 refine Qp ?_
   refine Qm (fun vals γ w' ρ hR hN hp hρ zs zg=>by
    exact Pr) ?_
   refine Qs (FP fun v γ w'=>HhA ws ds[k].frm γ w' v) (H1A ?_) ?_ ?_
   ·rintro v γ w1 γ' w2 rr ⟨B7,e7,h1,h2,h3⟩;refine ⟨B7,e7,h1,h2,fun hk => ?_⟩;have hk0:γ 1010=false:=by
     cases h6:γ 1010 with
     |false=>rfl
     |true=>rw [rr.done _ h6] at hk;cases hk
    exact (h3 hk0).keep (rr.keptS (S:=fun b=>ws.heap.size≤b) fun b _ e m hm=>by rw [hm.1,hk,hk0])
   ·intro vals γ w' ρ hR hN hp hρ zs zg;have HR:=hR;have HCL:=Hd (Wx B cB ds[k].frm w' _ (HF.o.keep (hR.o.kept0 (S:=fun b=>b≠gd) (fun b _ hb m hm=>absurd hm.2 hb))));refine Qr ?_;refine HCL.o.mono ?_;rintro e1 w3 ⟨B7,e7,he,h7,hst,hx⟩;exact ⟨_,he,γ,H4A _ γ hx,fun _ _ _ h=>h,B7,e7,rfl,h7,fun _=>hst.mono fun b _ hb=>Nat.le_trans HR.o.size hb⟩
   iterate 2 refine Qp ?_
   refine Qs (fun _ γ w'=>OwnDs w' w5.heap.size (Off S0 w) (some ⟨gd,0,none⟩) e2 ds∧γ 1010=true) ?_ ?_ ?_
   ·rintro v γ w1 γ' w2 rr ⟨h1,h2⟩;exact Qi
   ·intro vals γ w' ρ hR hN hp hρ zs zg;obtain ⟨B7,e7,hv7,hl7,hst7⟩:=hp.o 7 AB;have e124:=(hρ.o 124).trans hv7;have hk0:=hN.o.key (k:=1010) AB;have HST:=Hd (hst7 hk0);have HL7:=Hd hl7;have hod:=HODS.o.keep (hR.o.kept0 (S:=fun b=>ob (some ⟨gd,0,none⟩)=some b∨Off S0 w b) fun b _ e m hm=>CF);obtain ⟨xs,hxl,ho,hv⟩:=hod.add;obtain ⟨B0,cB0,h3,-⟩:=hv k ds[k] (List.getElem?_eq_getElem hlt);have qc:=ho.cell_ h3;have qf:=ho.frozen_;have ql:=ho.lt_;have HOD9:=Hd hod;have HK:=Hd hk0;clear hv7 hl7 hst7 hod ho hv h3 hxl;refine Qr ?_;have hgx:=HGX.o;exact ⟨γ.put 1010,H2A HK.o rfl rfl rfl Y78171d3d0 (fun b hb hm=>(Only.set (Only.refl gd w') (k*2) (.slice B7 ds[k].frm.length e7)).block b fun e=>hm ⟨rfl,e⟩),LK.done AB,HOD9.o.put hlt HL7.o (HST.o.mono fun b _ hb=>⟨AA,.inr AA⟩),AU⟩
   intro vals γ w9' hR hG;have v0:vals 0=_:=hG 0 AB;have v1:vals 1=_:=hG 1 AB;have v2:vals 2=_:=hG 2 AB;have v3:vals 3=_:=hG 3 AB;have v4:vals 4=_:=hG 4 AB;have v5:vals 5=_:=hG 5 AB;have v6:vals 6=_:=hG 6 AB;have v8:vals 8=_:=hG 8 AB;have v9:vals 9=_:=hG 9 AB;simp only [Ah,Act.put,List.setIfInBounds_toArray,List.set_cons_succ,List.set_cons_zero,Nat.zero_add,Nat.reduceAdd,v0,v1,v2,v3,v4,v5,v6,v8,v9];clear v0 v1 v2 v3 v4 v5 v6 v8 v9;obtain ⟨hod9,-⟩:=hG 10 AB;have hk9:Kept (fun b=>b≠gd) ws w9':=hR.kept0 (S:=fun b=>b≠gd) (fun b _ hb m hm=>absurd hm.2 hb);have HOD9:=Hd hod9;have hx9:Ext w0 w9':=Au (HE.o.trans HXS.o) (hR.buts (S:=fun b=>b=gd) (fun m b _ hm _=>hm.2)) (fun b hb=>by have:=HGD.o.1;have:=HS5.o;have:=HSZ9.o;have:=HXX.o.size;simp only at *;omega);obtain ⟨HX9',HBR9,HOS9,HS9'⟩:=Hd4 hx9 ((HBR.o.keep (HXS.o.kept _)).keep (hk9.mono fun b _ e=>by rw [e];exact G16.o)) (show OwnSs w9' w9.heap.size A2 c2 (An cs) from ⟨(HOS.o.ext HXS.o).1.keep (hk9.mono fun b _ e=>by have:=HA2L.o b e;have:=HGD.o.1;simp only at *;omega),HOS.o.2⟩) (show w5.heap.size≤w9'.heap.size by have:=hk9.1;have:=HXS.o.size;have:=HSR.o;omega);clear hR hG hod9 hk9 hx9;go_wp2;go_roundw
   case rel=>exact ⟨k+1,AA,AE,HX9'.out,HS9'.out,HBR9.o,HOS9.o,HOD9.o⟩
   case measure=>simp [intOf];omega
  ·obtain rfl:k=ds.length:=AA;obtain ⟨HE,HBR,HOS,HOD⟩:=Hd4 hext hbr hos hod;clear hext hbr hos hod;go_wp2;go_ret;refine ⟨EY,HE.o,by have:=HSZ9.o;have:=HS5.o;omega,fun _=>⟨A2,c2,D2,e2,?_,?_⟩,fun h=>(by rw [HPT.o] at h;cases h)⟩
   ·have hbb:=HBR.o;rw [HR7.o] at hbb;exact hbb
   ·have h1:=HRD.o;rw [HR7.o] at h1;have hs9:=HSZ9.o;have hs5:=HS5.o;refine ⟨by rw [h1.2,HSL.o];exact HC2.o,by rw [h1.1];exact HCP.o,?_,?_⟩
    ·rw [h1.2];exact HOS.o.strs (by rw [HSL.o];omega) fun b hb=>.inr (by have:=(HOS.o.1.blk hb).1;omega)
    ·rw [h1.1];exact HOD.o.rdeps AA (fun b hb=>.inr (by have:=(HOD.o.blk hb).1;omega)) fun b hb=>hb

theorem AbM.nil{w:World}{S:NP}{a:Abs}{A D:OA}{c e:Nat}(h:a.cols=[]∧a.deps=[]):AbM w S a A c D e:=by
 unfold AbM;rw [h.1,h.2];exact ⟨AN,AN,⟨.inl rfl,AC,AC⟩,AC,[],.inl rfl,AC,AC⟩
theorem ZX(h:qP:=by
 rw [hp,if_pos rfl] at hs;rw [←hs];exact hbb):qP:=h
theorem ZN(h:qP:=by
 rw [hp,if_neg (by simp)] at hs;rw [←hs];exact hbb):qP:=h
theorem I8(h:qP:=by
 rintro e w' ⟨he,⟨s,hs,hbb⟩,hxx,hz⟩;refine ⟨he,hxx,hz,fun hp=>⟨A',c',D',e',?_,AbM.nil hr⟩,fun hp => ?_⟩
 ·exact ZX
 ·exact ZN):qP:=h
theorem DPA(a r:Abs)(A D A' D':OA)(c e c' e' g k:Nat)(w w0:World)(h1:1≤k)(h5:k≤5)(hx:Ext w0 w)(hg:w0.heap.size≤g)(hb:Blk w g 39 (Ap r A' c' D' e'))
  (S0:NP) (hS0:∀ b,S0 b→b<w0.heap.size) (hA:Strs w S0 A a.cols) (hD:RDeps w S0 D a.deps) (hn1:a.cols.length≤1000000) (hn2:a.deps.length≤1000000) (hb1:a.tx.b.size≤1000000000) (hb2:a.tx.e.size≤1000000000) (ht:Tens w0) (hr:r.cols=[]∧r.deps=[]) (hbo:k≤4→r.bo=0) :
  Cl 122 #[.pointer (some ⟨g,0,none⟩),(Aq a A c D e),.I (k:Int)] w (D0A w w0 S0 g A' c' D' e' (Bw a k) (Dp a k r) r):=by
 have hk:k=1∨k=2∨k=3∨k=4∨k=5:=AA
 rcases hk with rfl|rfl|rfl|rfl|rfl
 ·refine (BgA a r A D A' D' c e c' e' g w w0 hx hg hb hb1 hb2).mono ?_;exact I8
 ·refine (Zi a r A D A' D' c e c' e' g w w0 hx hg hb ht).mono ?_;exact I8
 ·refine (ZA a r A D A' D' c e c' e' g w w0 hx hg hb ).mono ?_;exact I8
 ·refine (Z7 a r A D A' D' c e c' e' g w w0 hx hg hb (hbo AA)).mono ?_;exact I8
 ·exact Zq a r A D A' D' c e c' e' g w w0 hx hg hb S0 hS0 hA hD hn1 hn2
theorem GM(h:qP:=by
 refine wpList_plain hgd fun K hK => ?_;unfold Oper.wp execOp;rw [ho];simp [go_sem];exact hK _ _ h):qP:=h
theorem Ag{ops:Array Oper}{rest:List Oper}{o:Oper}{a:Act}{w:World}{Q:Exit→Act→World→Prop}(hgd:o.guard=none)(ho:o.op=.alloc 39)
  (h:wpList prog ops Q rest (a.put o.dst (.pointer (some ⟨w.heap.size,0,none⟩))) (w.alloc (.cells Az 39))):wpList prog ops Q (o::rest) a w:=by
 exact GM
theorem AJ{P:Program}{ops:Array Oper}{rest:List Oper}{o:Oper}{a:Act}{w:World}{Q:Exit→Act→World→Prop}(hgd:o.guard=none)(ty:TypeId)(x:Operand)(ho:o.op=.load ty x)
  (g:Nat) (hx:a.eval x=.pointer (some ⟨g,0,none⟩)) {cs:Array Value} (hb:Blk w g ty cs) (hd:(match P.underlying ty with|some (.struct _)|some (.array _ _)=>true|_=>false)=true) (hi:(P.info? ty).map (·.size)=some cs.size)
  (h:wpList P ops Q rest (a.put o.dst (.agg cs)) w):wpList P ops Q (o::rest) a w:=by
 refine wpList_plain hgd fun K hK => ?_;unfold Oper.wp execOp;simp only [ho,hx,Instr.loadAt,Instr.sureAddr,Sem.run_bind,Sem.run_pure,Result.andThen_ok,Eq hb hd hi];exact hK _ _ h
theorem FI{P:Program}{o:Oper}{ρ:Operand→Value}{K:Value→World→Prop}{w:World}{ty:TypeId}{x:Operand}(ho:o.op=.load ty x){g:Nat}(hx:ρ x=.pointer (some ⟨g,0,none⟩)){cs:Array Value}(hb:Blk w g ty cs)
  (hd:(match P.underlying ty with|some (.struct _)|some (.array _ _)=>true|_=>false)=true) (hi:(P.info? ty).map (·.size)=some cs.size) (h:K (.agg cs) w):Bu P K ((execOp ρ o).run P w):=by
 unfold execOp;simp only [ho,hx,Instr.loadAt,Instr.sureAddr,Sem.run_bind,Sem.run_pure,Result.andThen_ok,Eq hb hd hi];exact h
theorem Qy{Γ:Type}{P:Program}{ops:Array Oper}{D:Nat→List Nat}{R:Γ→World→Γ→World→Prop}{N:Nat→Γ→Prop}{a0:Act}{γ0:Γ}{w1:World}{Qf:List (Ft Γ)→Prop}{done:List (Ft Γ)}{o:Oper}{rest:List Oper}{k g ty:Nat}{cs:Array Value} [Rf R] [Rx R γ0](H:Hid (Blk w1 g ty cs))(hd:(match P.underlying ty with|some (.struct _)|some (.array _ _)=>true|_=>false)=true)(hi:(P.info? ty).map (·.size)=some cs.size)
  (next:Chain P ops D R N a0 γ0 w1.drew Qf (k+1) (FV (.agg cs)::done) rest) (hk:done.length=k:=by rfl) (hD:D k=[k]:=by rfl)
  (h:∀ vals γ w ρ,Blk w g ty cs→(match P.underlying ty with | some (.struct _) | some (.array _ _)=>true | _=>false)=true→(P.info? ty).map (·.size)=some cs.size→FindsZ ops D R N a0 γ0 w1.drew k done o vals γ w ρ (AY o vals=true∧Bu P (fun v w'=>v=.agg cs∧w'=w) ((execOp ρ o).run P w)):=by
   intro vals γ w' ρ hB h1 h2 hR hN hp hρ zs zg _ _ _
   (conv at zg=>whnf)
   refine ⟨by first|rfl|(show (NM _==some _)=true;rw [zg];rfl),?_⟩
   repeat ((conv at zs=>whnf);(try have e:ρ (.tmp _)=_:=zs.1);replace zs:=zs.2)
   exact FI rfl (by assumption) hB h1 h2 ⟨rfl,rfl⟩):Chain P ops D R N a0 γ0 w1.drew Qf k done (o::rest) :=
 Qm (fun vals γ w ρ hR=>h vals γ w ρ (H.o.keep ((Rx.x _ _ _ hR.o).kept _)) hd hi hR) next hk hD
theorem CZA(a:Abs)(k:Nat)(r:Abs):(Dp a k r).kinds=r.kinds:=by
 unfold Dp;split<;>rfl
def CnQ(g:Nat)(T:NP)(r1 r:Abs)(A':OA)(c':Nat)(D':OA)(e':Nat)(pb:Bool)(w':World):Prop :=
 (pb=true→∃ A2 c2 D2 e2,Blk w' g 39 (Ap r1 A2 c2 D2 e2)∧AbM w' T r1 A2 c2 D2 e2)∧(pb=false→Blk w' g 39 (Ap r A' c' D' e'))
theorem CnQ.keep{g:Nat}{T:NP}{r1 r:Abs}{A':OA}{c':Nat}{D':OA}{e':Nat}{pb:Bool}{w w':World}(h:CnQ g T r1 r A' c' D' e' pb w)(k:Kept (fun _=>True) w w'):CnQ g T r1 r A' c' D' e' pb w':=by
 refine ⟨fun hp => ?_,fun hp=>(h.2 hp).keep (k.mono fun _ _ _=>trivial)⟩;obtain ⟨A2,c2,D2,e2,h1,h2⟩:=h.1 hp;exact ⟨A2,c2,D2,e2,h1.keep (k.mono fun _ _ _=>trivial),h2.keep (k.mono fun _ _ _=>trivial)⟩
def AbN(n:Nat)(a:Abs):Prop:=a.tx.b.size≤1000000000∧a.tx.e.size≤1000000000∧a.cols.length≤n∧a.deps.length≤n∧∀ d∈a.deps,d.frm.length≤n
theorem IN(h:qP:=by
 refine Qr ?_;rw [HX0.o];exact ⟨rfl,rfl⟩):qP:=h
theorem GI(h:qP:=by rw [hg3];exact Al):qP:=h
theorem Ge(h:qP:=by have:=hm.2;omega):qP:=h
theorem Bq(h:qP:=by have:=HG2.o;omega):qP:=h
theorem As(a:Abs)(A D:OA)(c e:Nat)(w:World)(S:NP)(hA:Strs w S A a.cols)(hD:RDeps w S D a.deps)(ht:Tens w)(hz:AbN 1000000 a) :
  Cl 47 #[(Aq a A c D e)] w (Eh w S (AX a)):=by
 obtain ⟨hz1,hz2,hz3,hz4,-⟩:=hz;obtain ⟨wa,hwa⟩:=eqx ((w.alloc (.cells (Ap a A c D e) 39)).alloc (.cells Az 39));obtain ⟨g1,hg1⟩:=eqx w.heap.size;obtain ⟨g2,hg2⟩:=eqx (w.heap.size+1);have hxa:Ext w wa:=(by rw [hwa];exact (exaa w).alloc _);have hb1:Blk wa g1 39 (Ap a A c D e):=(by rw [hwa,hg1];exact (Blk.new _ _ _).keep ((exaa _).kept _));have hb2:Blk wa g2 39 Az:=(by rw [hwa,hg2];exact H6A _ _ _ _);obtain ⟨HWA,HG1,HG2,HXA,HB1A,HB2A,HA,HD⟩:=Hd8 hwa hg1 hg2 hxa hb1 hb2 (hA.mono (T:=fun b=>S b∧b<w.heap.size) fun i hi hs=>⟨hs,hi⟩) (hD.mono (T:=fun b=>S b∧b<w.heap.size) fun i hi hs=>⟨hs,hi⟩);have HT:=Hd ht;clear hwa hg1 hg2 hxa hb1 hb2 hA hD ht
 go_enter func47,ntmps47
 go_upto_region 1 with fail
 rw [←HWA.o,←HG2.o,←HG1.o]
 go_wp2_with fail
 refine (Hk _).mono ?_;rintro e1 w1 ⟨rfl,hx1⟩;rename_i K1 hK1 K2 hK2;refine hK2 _ _ ?_;refine Ag rfl rfl ?_;obtain ⟨g3,hg3⟩:=eqx w1.heap.size;rw [←hg3];refine AM rfl 39 _ _ rfl g3 (Ap noneA none 0 none 0) rfl rfl 39 _ (show Blk (w1.alloc (.cells Az 39)) g3 39 Az by rw [hg3];exact Blk.new _ _ _) AH rfl AD ?_;intro w2 hb3 ho2;have hx2:Ext w1 w2:=(exaa w1).only ho2 GI;have HX1:=Hd (HXA.o.trans hx1);have hk2:=hx1.trans hx2;have q17:w2.cell? ⟨g1,17,none⟩=some (.bool a.errs):=(HB1A.o.keep (hk2.kept _)).q17;have r17:w2.cell? ⟨g3,17,none⟩=some (.bool noneA.errs):=hb3.q17;have rf:=hb3.frozen;have rl:=hb3.lt;obtain ⟨HB3,HX2,HG3,HB11,HB21⟩:=Hd5 hb3 hx2 hg3 (HB1A.o.keep (hx1.kept _)) (HB2A.o.keep (hx1.kept _));refine hK1 _ _ ?_;clear hK1 hK2 hb3 ho2 hx1 hx2 hk2 hg3
 go_upto_region 3 with fail
 obtain ⟨w3,hw3⟩:=eqx (w2.setCell ⟨g3,17,none⟩ (.bool a.errs));rw [←hw3];have HX3:=Hd (show Ext w1 w3 by rw [hw3];exact HX2.o.set2 (Bl HG3.o) _);have HB33:=Hd (show Blk w3 g3 39 (Ap (DL a 0) none 0 none 0) by
  rw [hw3,YU];have hbb:=HB3.o.set 17 (.bool a.errs)
  simpa using hbb)
 clear hw3 q17 r17 rf rl;have K0:=Hd (HB11.o.q0);go_wp2
 go_loopw [9] (fun i wr=>∃ (k:Nat) (s:Abs) (A':OA) (c':Nat) (D':OA) (e':Nat),k≤6∧i=.I k∧s=DL a k∧Ext w1 wr∧Blk wr g3 39 (Ap s A' c' D' e')∧AbM wr (fun b=>((S b∧b<w.heap.size)∨w1.heap.size≤b)∧b≠g3) s A' c' D' e') (fun i _=>6-(intOf i).toNat)
 case atStart=>exact ⟨0,DL a 0,none,0,none,0,AA,rfl,rfl,HX3.o,HB33.o,AbM.nil (Ws a AA)⟩
 case round =>
  clear HB33 HX3 HB3 HX2;obtain ⟨k,s,A',c',D',e',hk,rfl,hs,hext,hbr,habm⟩:=hrel;obtain ⟨HS,HE,HBR,HAB⟩:=Hd4 hs hext hbr habm;clear hs hext hbr habm;by_cases hlt:k<6
  ·have hlt':(k:Int)<6:=AA;obtain ⟨p2,hp2⟩:=eqx ((2^k:Nat):Int);have HBI:=Hd (show ∀ w',Cl 48 #[.I (k:Int)] w' (Bk w' p2) from fun w'=>by rw [hp2];exact At k AA w');have hand:=Mp a.kinds k AA;rw [←hp2] at hand;obtain ⟨x,hx⟩:=eqx (bits .and .i64 a.kinds p2);rw [←hx] at hand;have HAND:=Hd hand;have HP2:=Hd hp2;have hbx:bits .and .i64 a.kinds p2=x:=hx.symm;clear hand hp2 hx;by_cases hk0:k=0
   ·subst hk0
    go_upto_region 6 with fail
    refine Qa (fun _ _=>False) [] ?_
    iterate 3 refine Qp ?_
    iterate 6 refine Qn ?_
    iterate 2 refine Qp ?_
    iterate 3 refine Qn ?_
    refine Qp ?_;intro vals γ w9 hR hG;refine Qx ?_;have HXN:=Hd (show Ext wr w9 from hR.ext0 (fun _ _ _ h=>h.elim));clear hR hG;go_wp2;go_roundw
    case rel=>exact ⟨1,s,A',c',D',e',AA,AE,by rw [HS.o,B6A],HE.o.trans HXN.o,HBR.o.keep (HXN.o.kept _),HAB.o.keep (HXN.o.kept _)⟩
    case measure=>simp [intOf]
   ·have HNE:=Hd (show ((k:Int) != 0)=true by simpa using hk0);have HCS:=Hd (DlA a k AA AA);by_cases hxz:x=0
    ·have hbt:bt a.kinds k=false:=(by rw [←HAND.o,hxz];rfl);have HCF:=Hd (show DL a (k+1)=DL a k by rw [HCS.o,hbt,Bool.false_and,if_neg AC]);have HX0:=Hd (show (x != 0)=false by rw [hxz];rfl);clear hbt hxz
     go_upto_region 6 with fail
     refine Qa (fun _ _=>False) [] ?_;refine Qp ?_;refine Qm (fun vals γ w' ρ hR hN hp hρ zs zg=>by
      refine Qr ?_;rw [HNE.o];exact ⟨rfl,rfl⟩) ?_
     iterate 2 refine Qp ?_
     refine Qm (fun vals γ w' ρ hR hN hp hρ zs zg=>by
      have hxx:=hR.o.ext0 (fun _ _ _ h=>h.elim);have m0:=(HE.o.trans hxx).cell K0.o;clear hxx;exact Qk) ?_
     refine Qp ?_;refine Qc (fun w'=>HBI.o w') ?_;refine Qp ?_;refine Qm (fun vals γ w' ρ hR hN hp hρ zs zg=>by
      exact IN) ?_
     iterate 2 refine Qp ?_
     iterate 3 refine Qn ?_
     refine Qp ?_;intro vals γ w9 hR hG;refine Qx ?_;have HXN:=Hd (show Ext wr w9 from hR.ext0 (fun _ _ _ h=>h.elim));clear hR hG;go_wp2;go_roundw
     case rel=>exact ⟨k+1,s,A',c',D',e',AA,AE,by rw [HS.o,HCF.o],HE.o.trans HXN.o,HBR.o.keep (HXN.o.kept _),HAB.o.keep (HXN.o.kept _)⟩
     case measure=>simp [intOf];omega
    ·have hbt:bt a.kinds k=true:=(by rw [←HAND.o];simpa using hxz);have HX0:=Hd (show (x != 0)=true by simpa using hxz);obtain ⟨pb,hpb⟩:=eqx (Bw a k);obtain ⟨r1,hr1⟩:=eqx (Dp a k s);have hs0:=HS.o;have hct:s.cols=[]∧s.deps=[]:=(by rw [hs0];exact Ws a AA);have hw1:=HX1.o.size;have hg3e:=HG3.o;obtain ⟨HG1L,HKK,HCC⟩:=Hd3 (HB11.o.lt) (show r1.kinds=s.kinds by rw [hr1];exact CZA a k s) (show DL a (k+1)=if pb=true then { r1 with kinds:=bits .or .i64 s.kinds p2 } else s by rw [HCS.o,hbt,Bool.true_and,hpb,hr1,hs0,HP2.o]);have HTK:=Hd (show ∀ w',Ext w1 w'→Blk w' g3 39 (Ap s A' c' D' e')→Cl 122 #[.pointer (some ⟨g3,0,none⟩),(Aq a A c D e),.I (k:Int)] w' (D0A w' w1 (fun b=>S b∧b<w.heap.size) g3 A' c' D' e' pb r1 s) from fun w' hx' hb'=>by
      rw [hpb,hr1];exact DPA a s A D A' D' c e c' e' g3 k w' w1 AA AA hx' AA hb' _ (fun b hb=>by have:=hb.2;omega) (HA.o.keep ((HX1.o.trans hx').kept _)) (HD.o.keep ((HX1.o.trans hx').kept _)) hz3 hz4 hz1 hz2 (HT.o.ext HX1.o) hct (fun h4=>by rw [hs0];exact GNA a h4))
     obtain ⟨HCT,HG3E,HB1R⟩:=Hd3 hct (show w.heap.size≤w1.heap.size∧g3=w1.heap.size by omega) (HB11.o.keep (HE.o.kept _));clear hbt hpb hr1 hs0 hct hw1 hg3e hxz
     go_upto_region 6 with fail
     refine Qa (fun m b=>m=1013∧w1.heap.size≤b) [(10,[1013]),(11,[1013]),(12,[1013]),(13,[1013])] ?_;refine Qp ?_;refine Qm (fun vals γ w' ρ hR hN hp hρ zs zg=>by
      refine Qr ?_;rw [HNE.o];exact ⟨rfl,rfl⟩) ?_
     iterate 2 refine Qp ?_
     refine Qm (fun vals γ w' ρ hR hN hp hρ zs zg=>by
      have hkk:=hR.o.kept0 (S:=fun b=>b<w1.heap.size) (fun b _ (hb:b<w1.heap.size) m hm=>Ge);have m0:=Kept.cell hkk HG1L.o (HE.o.cell K0.o);clear hkk;exact Qk) ?_
     refine Qp ?_;refine Qc (fun w'=>HBI.o w') ?_;refine Qp ?_;refine Qm (fun vals γ w' ρ hR hN hp hρ zs zg=>by
      exact IN) ?_
     iterate 2 refine Qp ?_
     apply H9A (LZ.refl _) AG
     ·intro vals γ w' ρ hR hN hp hρ hc hf hg;refine ⟨by show (NM (vals 10)==some true)=true;rw [show vals 10=.bool true from hp 10 AB];rfl,?_⟩;have e1:=hρ 1;(conv at e1=>rhs;whnf);have hb1:=HB1R.o.keep (hR.kept0 (S:=fun b=>b=g1) (fun b _ e m hm=>by have:=hm.2;have:=HG1L.o;omega));exact FI rfl e1 hb1 AS AH ⟨rfl,rfl⟩
     ·rfl
     refine Qp ?_;refine Qs (FP fun v γ w'=>v=.bool pb∧γ 1013=true∧CnQ g3 (fun b=>((S b∧b<w.heap.size)∨w1.heap.size≤b)∧b≠g3) r1 s A' c' D' e' pb w') (H1A ?_) ?_ ?_
     ·rintro v γ wx γ' wy rr ⟨h1,h2,h3⟩;exact ⟨h1,rr.done _ h2,h3.keep (rr.keptS fun b _ _ m hm=>by rw [hm.1,h2,rr.done _ h2])⟩
     ·intro vals γ w' ρ hR hN hp hρ zs zg;have hk0:=hN.o.key (k:=1013) AB;have hbr:=HBR.o.keep (hR.o.kept0 (S:=fun b=>b=g3) fun b _ e m hm=>CF);have hxw:Ext w1 w':=Au HE.o (hR.o.buts (S:=fun b=>w1.heap.size≤b) (fun m b _ hm _=>hm.2)) (fun b hb=>hb);obtain ⟨HXW,HBW,HK⟩:=Hd3 hxw hbr hk0;clear hk0 hbr hxw hp;refine Qr ?_;refine (HTK.o w' HXW.o HBW.o).mono ?_;rintro e1 w3 ⟨he,hx3,hz3,hy,hn⟩;have hg3w:=HG3E.o;have hlt3:=HBW.o.lt;refine ⟨_,he,γ.put 1013,H2A HK.o (hx3.os.trans HXW.o.os.symm) (hx3.tape.trans HXW.o.tape.symm) (hx3.output.trans HXW.o.output.symm) hz3 (fun b hb hm => ?_),LK.done AB,rfl,AU,fun hp => ?_,hn⟩
      ·have hlt:b<w1.heap.size:=Nat.lt_of_not_le fun h=>hm ⟨rfl,h⟩;rw [hx3.block b hlt,HXW.o.block b hlt]
      ·obtain ⟨A2,c2,D2,e2,h1,h2⟩:=hy hp;refine ⟨A2,c2,D2,e2,h1,h2.mono fun b _ hb => ?_⟩
       rcases hb with hb|hb
       ·exact ⟨.inl hb,by have:=hb.2;omega⟩
       ·exact ⟨.inr (by have:=HXW.o.size;omega),AA⟩
     refine Qm (fun vals γ w' ρ hR hN hp hρ zs zg=>by
      have e25:ρ (.tmp 25)=_:=(hρ.o 25).trans (hp.o 13 AB).1;exact Qk) ?_
     intro vals γ w9 hR hG;obtain ⟨v13,-,hq13⟩:=hG 13 AB;refine Qx ?_;simp only [v13];clear v13;have HXN:=Hd (show Ext w1 w9 from Au HE.o (hR.buts (S:=fun b=>w1.heap.size≤b) (fun m b _ hm _=>hm.2)) (fun b hb=>hb));have HQ:=Hd hq13;clear hR hG hq13;cases pb
     ·have HCF:=Hd (show DL a (k+1)=s by rw [HCC.o,if_neg AC]);go_wp2;go_roundw
      case rel=>exact ⟨k+1,s,A',c',D',e',AA,AE,HCF.o.symm,HXN.o,HQ.o.2 rfl,AbM.nil HCT.o⟩
      case measure=>simp [intOf];omega
     ·obtain ⟨A2,c2,D2,e2,hb9,hab9⟩:=HQ.o.1 rfl;have HB9:=Hd hb9;have HAB9:=Hd hab9;obtain ⟨y,hy⟩:=eqx (bits .or .i64 r1.kinds p2);obtain ⟨s9,hs9⟩:=eqx ({ r1 with kinds:=y });have HCF:=Hd (show DL a (k+1)=s9 by rw [HCC.o,if_pos rfl,hs9,hy,HKK.o]);have HS9:=Hd hs9;have hor:bits .or .i64 r1.kinds p2=y:=hy.symm;clear hb9 hab9 hy hs9
      go_upto_region 7 with fail
      refine Qa (fun m b=>m=1006∧b=g3) (lk 7 [1006]) ?_;refine Qp ?_;refine Qm (fun vals γ w' ρ hR hN hp hρ zs zg=>by
       have hk0:=hN.o.key (k:=1006) AB;have hbx:=HB9.o.keep (hR.o.kept0 (S:=fun b=>b=g3) fun b _ e m hm=>CF);have m0:=hbx.q0;clear hk0 hbx;exact Qk) ?_
      refine Qp ?_;refine Qc (fun w'=>HBI.o w') ?_
      iterate 2 refine Qp ?_
      refine Qs (fun _ γ w'=>Blk w' g3 39 #[.I y,.I r1.tx.least,.I r1.tx.most,.I r1.tx.cls,.string r1.tx.b,.string r1.tx.e,.I r1.nu.ln,.I r1.nu.ls,.I r1.nu.hn,.I r1.nu.hs,.I r1.dl,.I r1.dh,.I r1.bo,.I r1.rl,.I r1.rh,.slice A2 r1.cols.length c2,.slice D2 r1.deps.length e2,.bool r1.errs]∧γ 1006=true) ?_ ?_ ?_
      ·rintro l γ wx γ' wy rr ⟨h1,h2⟩;exact Qi
      ·intro vals γ w' ρ hR hN hp hρ zs zg;have hk0:=hN.o.key (k:=1006) AB;have hbx:=HB9.o.keep (hR.o.kept0 (S:=fun b=>b=g3) fun b _ e m hm=>CF);have HB0:=Hd hbx;have HK:=Hd hk0;have q0:=hbx.q0;have qf:=hbx.frozen;have ql:=hbx.lt;clear hk0 hbx;refine Qr ?_;refine ⟨γ.put 1006,H2A HK.o rfl rfl rfl Y78171d3d0 (fun b hb hm=>(Only.set (Only.refl g3 w') 0 (.I y)).block b fun e=>hm ⟨rfl,e⟩),LK.done AB,?_,AU⟩;have hb1:=HB0.o.set 0 (.I y)
       simpa using hb1
      intro vals γ w10 hR hG;refine Qx ?_;obtain ⟨hbm,-⟩:=hG 6 AB;have HBM:=Hd hbm;have hg3w:=HG3E.o;have HKM:=Hd (hR.kept0 (S:=fun b=>((S b∧b<w.heap.size)∨w1.heap.size≤b)∧b≠g3) (fun b _ hb m hm=>absurd hm.2 hb.2));have HXM:=Hd (show Ext w1 w10 from Au HXN.o (hR.buts (S:=fun b=>b=g3) (fun m b _ hm _=>hm.2)) (fun b hb=>AA));clear hR hG hbm hg3w;go_wp2;go_roundw
      case rel =>
       refine ⟨k+1,s9,A2,c2,D2,e2,AA,AE,HCF.o.symm,HXM.o,?_,?_⟩
       ·have hbb:=HBM.o;rw [HS9.o];exact hbb
       ·rw [HS9.o];exact HAB9.o.keep HKM.o
      case measure=>simp [intOf];omega
  ·obtain rfl:k=6:=AA;have HS6:=Hd (show s=AX a by rw [HS.o,B1A]);have HB2R:=Hd (HB21.o.keep (HE.o.kept _))
   go_upto_region 9 with fail
   refine wp_region_lit ?_;refine AJ rfl 39 _ rfl g3 rfl HBR.o AS AH ?_;refine AM rfl 39 _ _ rfl g2 (Ap s A' c' D' e') rfl rfl 39 _ HB2R.o AH rfl AD ?_;intro w9 hb9 ho9;refine wpList_nil ?_;have hg2l:=HB21.o.lt;obtain ⟨HX9,HAB9,HB9⟩:=Hd3 ((HX1.o.trans HE.o).only ho9 Bq) (HAB.o.keep (ho9.kept (S:=fun b=>((S b∧b<w.heap.size)∨w1.heap.size≤b)∧b≠g3) fun b _ hb e=>by have:=HG2.o;rcases hb.1 with h|h;(have:=h.2;omega);omega)) hb9;clear hb9 ho9 hg2l;go_wp2;refine bodyPost_ret (Bv results47 rfl (Eq HB9.o AS AH)) rfl ?_;rw [←HS6.o];exact ⟨A',c',D',e',rfl,HAB9.o.mono fun b _ hb=>hb.1.imp And.left fun h=>by have:=HX1.o.size;omega,HX9.o⟩
end Go.Proofs.YtidacnalcdhckaaGreatDoor
