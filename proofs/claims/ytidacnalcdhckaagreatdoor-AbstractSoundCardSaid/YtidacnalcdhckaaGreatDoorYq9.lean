/- Lemmas. No conditions. -/
import Derived.Test.YtidacnalcdhckaaGreatDoorYq8
import Derived.Deep.DeepCutAuto
import Derived.Deep.RegionHeld3
set_option maxRecDepth 100000
set_option maxHeartbeats 1000000
namespace Go.Proofs.YtidacnalcdhckaaGreatDoor
open Go Go.RowKit Tryz
variable {qP:Prop}

theorem FBA{w:World}{g e n sz base:Nat}{cs:Array Value}(h:Blk w g e cs)(hs:cs.size=n*sz)(hn:n≤maxLen)(hb:base≤g):Own w base e sz (some ⟨g,0,none⟩) n n cs.toList:=by
 refine ⟨by simpa using hs,Or.inr ⟨g,n,cs,rfl,hb,h,AS,hn,hs,?_⟩⟩;rw [List.take_of_length_le (by simp [hs])]
def EF(rows:List (List Val))(nc:Nat)(fs:List Nat):Bool:=(List.range nc).all fun c=>Ef rows fs c
def Cw(rows:List (List Val))(nc:Nat):List (List Int):=(List.range nc).map fun c=>AN rows c

theorem Nr(rows:List (List Val))(nc:Nat)(set:List Int)(A B:OA)(ca cb:Nat)(w:World)(S T:NP)(hA:Ints w S A set)(hB:RIss w T B (Cw rows nc))(hr:∀ c∈set,0≤c∧c<(nc:Int))(hrl:rows.length≤4294967296) :
  Cl 144 #[.slice A set.length ca,.slice B nc cb,.I (rows.length:Int)] w (AO w (EF rows nc (set.map Int.toNat))):=by
 have hal:=hA.2;have hbl:=hB.1;have hlsl:(Cw rows nc).length=nc:=(by simp [Cw]);rw [hlsl] at hbl;obtain ⟨HLSL,HA,HB,HR⟩:=Hd4 hlsl hA hB hr;clear hA hB hr hlsl
 go_enter func144,ntmps144
 go_wp2
 go_loopw [13,7] (fun i v wr=>∃ (k:Nat) (A':OA) (c':Nat),k≤set.length∧i=.I k∧v=.slice A' k c'∧Ext w wr∧OwnIss wr w.heap.size (fun b=>b<w.heap.size) A' c' (((set.map Int.toNat).map fun f=>AN rows f).take k)) (fun i _ _=>set.length-(intOf i).toNat)
 case atStart=>exact ⟨0,none,0,AE,rfl,rfl,Ext.refl _,OwnIss.nil _ _ _⟩
 case round =>
  obtain ⟨k,A',c',hk,rfl,rfl,hext,hown⟩:=hrel;have HE:=Hd hext;have HO:=Hd hown;have hml:((set.map Int.toNat).map fun f=>AN rows f).length=set.length:=Y3;have HML:=Hd hml;clear hown hml;by_cases hlt:k<set.length
  ·obtain ⟨b1,o1,rfl,z1,c1⟩:=(HA.o.keep (hext.kept S)).at_ hlt;have hrm:=HR.o _ (List.getElem_mem hlt);obtain ⟨x,hx⟩:=Int.eq_ofNat_of_zero_le hrm.1;have hx2:x<nc:=Y4;rw [hx] at c1;obtain ⟨b2,o2,B2,c2,rfl,z2',d1',hcp,hint⟩:=HB.o.at_ (show x<(Cw rows nc).length by rw [HLSL.o];exact hx2);have d1:=hext.cell d1';have z2:b2<wr.heap.size:=(by have:=hext.size;omega);have hlx:(Cw rows nc)[x]'(by rw [HLSL.o];exact hx2)=AN rows x:=(by simp [Cw]);rw [hlx] at d1 hcp hint;have HINT:=Hd (hint.mono (T:=fun b=>b<w.heap.size) (fun i hi _=>hi));have hval:((set.map Int.toNat).map fun f=>AN rows f)[k]'Y31=AN rows x:=(by simp [hx]);have HVAL:=Hd hval;have hlk:(((set.map Int.toNat).map fun f=>AN rows f).take k).length=k:=(by rw [List.length_take,HML.o];omega);obtain ⟨hs,ho,hv⟩:=HO.o.ext ((Ext.refl wr).alloc (.cells #[.slice B2 (AN rows x).length c2] 22));have hhs:hs.length=k:=(by have:=ho.len;rw [hlk] at this;omega);rw [hlk] at ho;obtain ⟨HOWN,HV,HHS,HLK⟩:=Hd4 ho hv hhs hlk;have hszw:=HE.o.size;clear ho hv hhs hlk hval hext hint d1' hlx hrm hx z2'
   go_wp2_with (at_builtin;go_must (refine AC rfl (.tmp 17) (.tmp 22) rfl QD rfl HOWN.o rfl (Blk.rd (Blk.new _ _ _)) rfl Y18 Y4 Y17 Y16 ?_);intro A4 c4 w4 hown4 hg4 hat4)
   go_roundw
   case rel =>
    refine ⟨k+1,A4,c4,Y4,Y5,rfl,Ext.grown (HE.o.alloc _) hg4 (fun b hb=>(HOWN.o.blk hb).1),?_⟩;rw [List.take_succ_eq_append_getElem Y31,HVAL.o];refine OwnIss.push (by rw [HLK.o];exact HHS.o) HV.o (by rw [HLK.o];exact hown4) hg4 hat4 hcp ((HINT.o.keep (((HE.o.alloc _)).kept _)).mono fun i _ hi=>⟨fun h0 => ?_,hi⟩);have:=(HO.o.blk h0).1;omega
   case measure=>simp [intOf];omega
  ·obtain rfl:k=set.length:=Y4;have hoo:=HO.o;rw [List.take_of_length_le (by rw [HML.o];exact AS)] at hoo;have HRS:=Hd (hoo.riss (T:=fun _=>True) (by rw [HML.o];exact hal) (fun _ _=>trivial) (fun _ _=>trivial));clear hoo hext;have hgl:=Hh rows.length ((set.map Int.toNat).map fun f=>AN rows f) A' c' wr (fun _=>True) HRS.o (fun l hl=>by obtain ⟨f,_,rfl⟩:=List.mem_map.1 hl;simp [AN]) hrl;rw [HML.o] at hgl;have HGL:=Hd hgl;clear hgl
   go_wp2_with fail
   refine HGL.o.mono ?_;rintro e w1 ⟨gs,hgo,A1,c1,rfl,hcp1,hi1,hx1⟩;obtain ⟨HX1,HGO,HI1⟩:=Hd3 hx1 hgo hi1;have hgsl:=hgo.len;have HGSL:=Hd hgsl;clear hx1 hgo hi1 hgsl;have hcf:=Fu (Cw rows nc) gs B A1 cb c1 w1.heap.size (w1.alloc (.cells #[.slice A1 gs.length c1] 22)) T (Av wr) (HB.o.keep (((HE.o.trans HX1.o).alloc _).kept T)) ((Blk.new w1 22 #[.slice A1 gs.length c1]).cell rfl) (HI1.o.keep (Kept.alloc _ _ _)) (fun l hl=>by rw [HGSL.o];obtain ⟨f,_,rfl⟩:=List.mem_map.1 hl;simp [AN]);rw [HLSL.o] at hcf;have HCF:=Hd hcf;clear hcf
   go_wp2_with fail
   refine HCF.o.mono ?_;rintro e w2 ⟨rfl,hx2⟩;have HX2:=Hd hx2;clear hx2;have HF:=Hd (show (!((Cw rows nc).any fun l => !Dn gs l))=EF rows nc (set.map Int.toNat) by
    unfold Cw EF;rw [List.any_map,List.not_any_eq_all_not];congr 1
    funext c
    simp only [Function.comp_apply,Bool.not_not];exact Io HGO.o)
   go_wp2;go_ret;exact ⟨Y33,HE.o.trans (HX1.o.trans ((exaa w1).trans HX2.o))⟩

def Ea(n i:Nat):List (List Int):=(List.range' (i+1) (n-(i+1))).map fun j:Nat=>[(i:Int),(j:Int)]
def EB(n:Nat):List (List Int):=[[]]++((List.range n).map fun i:Nat=>[(i:Int)])++(List.range n).flatMap (Ea n)
def VJ(w:World)(l:List (List Int))(e:Ending)(w':World):Prop:=∃ A c,e=.returned (.slice A l.length c)∧l.length≤c∧RIss w' (Av w) A l∧Ext w w'
theorem OwnIss.add{w:World}{base c:Nat}{X:NP}{A:OA}{l:List (List Int)}(h:OwnIss w base X A c l):∃ hs,hs.length=l.length∧Own w base 22 1 A l.length c hs∧∀ (i:Nat) (r:List Int),l[i]?=some r→∃ (B:OA) (e:Nat),hs[i]?=some (Value.slice B r.length e)∧r.length≤e∧Ints w (fun b=>ob A≠some b∧X b) B r:=by
 obtain ⟨hs,h1,h2⟩:=h;exact ⟨hs,by simpa using h1.len,h1,h2⟩

theorem Om(n:Nat)(w:World)(hn:n≤1000):Cl 140 #[.I (n:Int)] w (VJ w (EB n)):=by
 go_enter func140,ntmps140
 go_wp2;have HB0:=Hd (Blk.new (w.alloc (.cells #[] 3)) 22 #[.slice (some ⟨w.heap.size,0,none⟩) 0 0]);have hst:OwnIss ((w.alloc (.cells #[] 3)).alloc (.cells #[.slice (some ⟨w.heap.size,0,none⟩) 0 0] 22)) w.heap.size (Av w) (some ⟨w.heap.size+1,0,none⟩) 1 ([[]]++(List.range 0).map fun i:Nat=>[(i:Int)]):=by
  refine ⟨[.slice (some ⟨w.heap.size,0,none⟩) 0 0],?_,fun i r hr => ?_⟩
  ·have:=FBA (n:=1) (sz:=1) (base:=w.heap.size) HB0.o Y3 Y14 Y3
   simpa using this
  ·have hi:i=0:=by
    have:=(List.getElem?_eq_some_iff.1 hr).1;simp at this;exact this
   subst hi;simp at hr;subst hr;exact ⟨_,0,rfl,AS,Ints.nil⟩
 have HST:=Hd hst;clear hst
 go_loopw [10,3] (fun i v wr=>∃ (k:Nat) (A':OA) (c':Nat),k≤n∧i=.I k∧v=.slice A' (k+1) c'∧Ext w wr∧OwnIss wr w.heap.size (Av w) A' c' ([[]]++(List.range k).map fun i:Nat=>[(i:Int)])) (fun i _ _=>n-(intOf i).toNat)
 case atStart=>exact ⟨0,_,_,AE,rfl,rfl,(exaa w).alloc _,HST.o⟩
 case round =>
  clear HST HB0;obtain ⟨k,A',c',hk,rfl,rfl,hext,hown⟩:=hrel;have HE:=Hd hext;have HO:=Hd hown;have hszw:=hext.size;clear hown hext;by_cases hlt:k<n
  ·have hll:([[]]++(List.range k).map fun i:Nat=>[(i:Int)]).length=k+1:=Y3;obtain ⟨hs,hhs,ho,hv⟩:=(HO.o.ext (((Ext.refl wr).alloc (.cells #[.I (k:Int)] 3)).alloc (.cells #[.slice (some ⟨wr.heap.size,0,none⟩) 1 1] 22))).add;rw [hll] at ho;obtain ⟨HOWN,HV,HHS,HLL⟩:=Hd4 ho hv hhs hll;have hbn:=Blk.new (wr.alloc (.cells #[.I (k:Int)] 3)) 22 #[.slice (some ⟨wr.heap.size,0,none⟩) 1 1];rw [show (wr.alloc (.cells #[.I (k:Int)] 3)).heap.size=wr.heap.size+1 by simp] at hbn;have HBN:=Hd hbn;clear ho hv hhs hll hbn
   go_wp2_with (at_builtin;go_must (refine AC rfl (.tmp 13) (.tmp 16) rfl QD rfl HOWN.o rfl (Blk.rd HBN.o) rfl Y18 Y4 Y17 Y16 ?_);intro A4 c4 w4 hown4 hg4 hat4)
   go_roundw
   case rel =>
    refine ⟨k+1,A4,c4,Y4,Y5,rfl,Ext.grown ((HE.o.alloc _).alloc _) hg4 (fun b hb=>(HOWN.o.blk hb).1),?_⟩;rw [List.range_succ,List.map_append,←List.append_assoc];refine OwnIss.push (r:=[(k:Int)]) HHS.o HV.o (by rw [HLL.o];exact hown4) hg4 hat4 (AS) ⟨?_,Y3⟩;refine ((Blk.rd (Blk.new wr 3 #[.I (k:Int)])).keep (Kept.alloc _ _ _)).mono fun i _ hi=>⟨fun h0 => ?_,?_⟩
    ·have:=(HO.o.blk h0).2;omega
    ·unfold Av;omega
   case measure=>simp [intOf];omega
  ·obtain rfl:k=n:=Y4;have hgo0:OwnIss wr w.heap.size (Av w) A' c' ([[]]++((List.range k).map fun i:Nat=>[(i:Int)])++(List.range 0).flatMap (Ea k)):=by
    have:=HO.o
    simpa using this
   have HO2:=Hd hgo0;clear hgo0 HO;go_wp2
   go_loopw [20,3] (fun i v wr=>∃ (m:Nat) (A':OA) (c':Nat) (l:List (List Int)),m≤k∧l=[[]]++((List.range k).map fun i:Nat=>[(i:Int)])++(List.range m).flatMap (Ea k)∧i=.I m∧v=.slice A' l.length c'∧Ext w wr∧l.length≤2000+m*1000∧OwnIss wr w.heap.size (Av w) A' c' l) (fun i _ _=>k-(intOf i).toNat)
   case atStart=>exact ⟨0,_,_,_,AE,rfl,rfl,Y3,HE.o,Y16,HO2.o⟩
   case round =>
    clear HO2 HE hszw;obtain ⟨m,A2,c2,l,hm,hl,rfl,rfl,hext2,hll2,hown2⟩:=hrel;obtain ⟨HL,HE2,HO3⟩:=Hd3 hl hext2 hown2;clear hl hext2 hown2;obtain ⟨wo,rfl⟩:∃ wo:World,wo=wr:=⟨_,rfl⟩;by_cases hlt2:m<k
    ·go_wp2
     go_loopw [6,3] (fun i v wr=>∃ (q:Nat) (A':OA) (c':Nat) (l2:List (List Int)),q≤k-(m+1)∧l2=l++(List.range' (m+1) q).map (fun j:Nat=>[(m:Int),(j:Int)])∧i=.I ((m+1+q:Nat):Int)∧v=.slice A' l2.length c'∧Ext w wr∧l2.length≤l.length+q∧OwnIss wr w.heap.size (Av w) A' c' l2) (fun i _ _=>k-(intOf i).toNat)
     case atStart=>exact ⟨0,A2,c2,l,AE,Y3,Y5,rfl,HE2.o,Y3,HO3.o⟩
     case round =>
      obtain ⟨q,A3,c3,l2,hq,hl2,rfl,rfl,hext3,hll3,hown3⟩:=hrel;obtain ⟨HL2,HE3,HO4⟩:=Hd3 hl2 hext3 hown3;have hszw:=hext3.size;clear hl2 hext3 hown3;by_cases hlt3:m+1+q<k
      ·obtain ⟨hs,hhs,ho,hv⟩:=(HO4.o.ext (((Ext.refl wr).alloc (.cells #[.I (m:Int),.I ((m+1+q:Nat):Int)] 3)).alloc (.cells #[.slice (some ⟨wr.heap.size,0,none⟩) 2 2] 22))).add;obtain ⟨HOWN,HV,HHS⟩:=Hd3 ho hv hhs;have hbn:=Blk.new (wr.alloc (.cells #[.I (m:Int),.I ((m+1+q:Nat):Int)] 3)) 22 #[.slice (some ⟨wr.heap.size,0,none⟩) 2 2];rw [show (wr.alloc (.cells #[.I (m:Int),.I ((m+1+q:Nat):Int)] 3)).heap.size=wr.heap.size+1 by simp] at hbn;have HBN:=Hd hbn;clear ho hv hhs hbn
       go_wp2_with (at_builtin;go_must (refine AC rfl (.tmp 30) (.tmp 34) rfl QD rfl HOWN.o rfl (Blk.rd HBN.o) rfl Y18 Y4 Y17 Y16 ?_);intro A4 c4 w4 hown4 hg4 hat4)
       go_roundw
       case rel =>
        refine ⟨q+1,A4,c4,l2++[[(m:Int),((m+1+q:Nat):Int)]],Y4,?_,Y5,Y3,Ext.grown ((HE3.o.alloc _).alloc _) hg4 (fun b hb=>(HOWN.o.blk hb).1),Y16,?_⟩
        ·rw [HL2.o,List.range'_1_concat,List.map_append,←List.append_assoc];simp
        ·refine OwnIss.push (r:=[(m:Int),((m+1+q:Nat):Int)]) HHS.o HV.o hown4 hg4 hat4 (AS) ⟨?_,Y3⟩;refine ((Blk.rd (Blk.new wr 3 #[.I (m:Int),.I ((m+1+q:Nat):Int)])).keep (Kept.alloc _ _ _)).mono fun i _ hi=>⟨fun h0 => ?_,?_⟩
         ·have:=(HO4.o.blk h0).2;omega
         ·unfold Av;omega
       case measure=>simp [intOf];omega
      ·have hqe:q=k-(m+1):=Y4;have HQ:=Hd hqe;clear hqe;go_wp2;go_roundw
       case rel =>
        refine ⟨m+1,A3,c3,l2,Y4,?_,Y5,rfl,HE3.o,Y4,HO4.o⟩;rw [HL2.o,HL.o,HQ.o,List.range_succ,List.flatMap_append,←List.append_assoc];simp [Ea]
       case measure=>simp [intOf];omega
    ·obtain rfl:m=k:=Y4;obtain rfl:l=EB m:=HL.o;have HC:=Hd (show (EB m).length≤c2 by obtain ⟨hs,_,h1,_⟩:=HO3.o.add;exact h1.cap);clear HL;go_wp2;go_ret;exact ⟨A2,c2,rfl,HC.o,HO3.o.riss Y4 (fun b hb=>(HO3.o.blk hb).1) (fun _ h=>h),HE2.o⟩

theorem GE{α:Type} [DecidableEq α]:∀ {l m:List α},l.Nodup→(∀ x∈l,x∈m)→l.length≤m.length
 |[],_,_,_=>AE
 |x::l,m,hn,hs=>by
  have hx:x∈m:=hs x (List.mem_cons_self);have h1:=List.nodup_cons.1 hn;have:=GE (l:=l) (m:=m.erase x) h1.2 (fun y hy=>by
   have hne:y≠x:=fun e=>h1.1 (e ▸ hy);exact (List.mem_erase_of_ne hne).2 (hs y (List.mem_cons_of_mem _ hy)))
  rw [List.length_erase_of_mem hx] at this;have hp:0<m.length:=List.length_pos_of_mem hx;simp;omega
structure Part(l:List Dep)(frm ks:List BA):Prop where
 nodup:ks.Nodup
 base:∀ x∈frm,x∈ks
 least:∀ T:BA→Prop,(∀ x∈frm,T x)→(∀ d∈l,(∀ x∈d.frm,T x)→T d.to)→∀ x∈ks,T x
theorem Part.len{l:List Dep}{frm ks:List BA}(h:Part l frm ks):ks.length≤frm.length+l.length:=by
 have:=GE h.nodup (m:=frm++l.map Dep.to) (h.least (fun x=>x∈frm++l.map Dep.to) (fun x hx=>List.mem_append_left _ hx) (fun d hd _=>List.mem_append_right _ (List.mem_map_of_mem hd)))
 simpa using this
theorem Part.add{l:List Dep}{frm ks:List BA}(h:Part l frm ks){d:Dep}(hd:d∈l)(hf:∀ x∈d.frm,x∈ks)(hx:d.to ∉ ks):Part l frm (ks++[d.to]):=by
 refine ⟨?_,fun x hx=>List.mem_append_left _ (h.base x hx),fun T h1 h2 x hx => ?_⟩
 ·rw [List.nodup_append];refine ⟨h.nodup,Y3,?_⟩;intro a ha b hb;simp at hb;subst hb;exact fun e=>hx (e ▸ ha)
 ·rcases List.mem_append.1 hx with hx|hx
  ·exact h.least T h1 h2 x hx
  ·simp at hx;subst hx;exact h2 d hd (fun y hy=>h.least T h1 h2 y (hf y hy))
theorem PT{l ks:List BA} : (l.any fun x => !Ja ks x)=false↔∀ x∈l,x∈ks:=by
 rw [List.any_eq_false];constructor
 ·intro h x hx;have:=h x hx;rw [←Ho]
  simpa using this
 ·intro h x hx;have:=(Ho ks x).2 (h x hx);simp [this]
def Yc(w:World)(l:List Dep)(frm:List BA)(e:Ending)(w':World):Prop:=∃ ks,IsClosure l frm ks∧PW w (AT ks) e w'

theorem KY(l:List Dep)(frm:List BA)(A B:OA)(ca cb:Nat)(w:World)(S T:NP)(hA:RDeps w S A l)(hB:Strs w T B frm)(hsm:frm.length+l.length≤4294967296) :
  Cl 209 #[.slice A l.length ca,.slice B frm.length cb] w (Yc w l frm):=by
 have hal:=hA.1;have hbl:=hB.2.1;have HA:=Hd hA;have HB:=Hd hB;clear hA hB;have hmm:=@run_makeMap prog
 go_enter func209,ntmps209
 go_wp2
 go_step3
 go_wp2;clear hmm;have HBX:=Hd (Blk.new (w.alloc (.map #[] 0)) 183 #[.map (some w.heap.size)]);have HSET:=Hd (show SetIs ((w.alloc (.map #[] 0)).alloc (.cells #[.map (some w.heap.size)] 183)) w.heap.size [] from (FAA w _).keep (Kept.alloc _ _ _))
 go_loopw [15] (fun i wr=>∃ (k:Nat) (ks:List BA),k≤frm.length∧i=.I k∧Ext w wr∧w.heap.size+1<wr.heap.size∧wr.cell? ⟨w.heap.size+1,0,none⟩=some (.map (some w.heap.size))∧SetIs wr w.heap.size ks ∧
   ks.Nodup∧(∀ j (h:j<frm.length),j<k→frm[j]∈ks)∧(∀ x∈ks,x∈frm)) (fun i _=>frm.length-(intOf i).toNat)
 case atStart=>exact ⟨0,[],AE,rfl,(exaa w).alloc _,Y3,Y3,HSET.o,Y3,Y8,Y3⟩
 case round =>
  obtain ⟨k,ks,hk,rfl,hext,hsz,hbox,hset,h1,h2,h3⟩:=hrel;obtain ⟨HE,HS,H1,H2,H3⟩:=Hd5 hext hset h1 h2 h3;clear hset h1 h2 h3;by_cases hlt:k<frm.length
  ·obtain ⟨b1,o1,rfl,z1,c1⟩:=(HB.o.keep (hext.kept T)).at_ hlt;obtain ⟨w',ks',hup,hset',hg',hks⟩:=HS.o.put frm[k];obtain ⟨HS',HG',HKS,HBX2⟩:=Hd4 hset' hg' hks hbox;clear hset' hg' hks hext;go_wp2;go_roundw
   case rel =>
    refine ⟨k+1,ks',Y4,Y5,HE.o.grown HG'.out (fun b hb=>Y28),by have:=HG'.out.size;omega,?_,HS'.out,?_,fun j h hj => ?_,fun x hx => ?_⟩
    ·rw [World.cell?_of_block (HG'.out.block (w.heap.size+1) hsz (fun e=>Y29))];exact HBX2.o
    ·rcases HKS.o with ⟨_,rfl⟩|⟨hn,rfl⟩
     ·exact H1.o
     ·rw [List.nodup_append];refine ⟨H1.o,Y3,?_⟩;intro a ha b hb;simp at hb;subst hb;exact fun e=>hn (e ▸ ha)
    ·rcases HKS.o with ⟨hm,rfl⟩|⟨hn,rfl⟩
     ·by_cases hjk:j=k
      ·subst hjk;exact hm
      ·exact H2.o j h Y4
     ·by_cases hjk:j=k
      ·subst hjk;simp
      ·exact List.mem_append_left _ (H2.o j h Y4)
    ·rcases HKS.o with ⟨hm,rfl⟩|⟨hn,rfl⟩
     ·exact H3.o x hx
     ·rcases List.mem_append.1 hx with hx|hx
      ·exact H3.o x hx
      ·simp at hx;subst hx;exact List.getElem_mem hlt
   case measure=>simp [intOf];omega
  ·have hpart:Part l frm ks:=⟨H1.o,fun x hx=>by
    obtain ⟨i,hi,rfl⟩:=List.mem_iff_getElem.1 hx;exact H2.o i hi Y4,fun T h1 _ x hx=>h1 x (H3.o x hx)⟩
   obtain ⟨HP,HBX2,HSZ⟩:=Hd3 hpart hbox hsz;clear hpart hext hbox hsz;go_wp2
   go_step3
   go_wp2
   go_loopg [9] (frm.length+l.length+1) (fun gk _ wr=>∃ ks:List BA,frm.length+l.length+1≤gk+ks.length∧Ext w wr∧w.heap.size+1<wr.heap.size∧wr.cell? ⟨w.heap.size+1,0,none⟩=some (.map (some w.heap.size))∧SetIs wr w.heap.size ks∧Part l frm ks)
   case atStart=>exact ⟨ks,Y4,HE.o,HSZ.o,HBX2.o,HS.o,HP.o⟩
   case round =>
    clear HE HS H1 H2 H3 HP HBX2 HSZ HBX HSET hlt hk;obtain ⟨ks0,hgk,hext,hsz,hbox,hset,hpart⟩:=hrel;have hkl:=hpart.len;obtain ⟨HE,HS,HP⟩:=Hd3 hext hset hpart;have hlen:=hset.len 3;have HBX:=Hd hbox;have HGK:=Hd hgk;clear hset hpart hext hgk;go_wp2;clear hlen;obtain ⟨wo,rfl⟩:∃ wo:World,wo=wr:=⟨_,rfl⟩;clear hbox
    go_loopw [27] (fun i wi=>∃ (j:Nat) (ks:List BA),j≤l.length∧i=.I j∧Ext w wi∧w.heap.size+1<wi.heap.size∧wi.cell? ⟨w.heap.size+1,0,none⟩=some (.map (some w.heap.size))∧SetIs wi w.heap.size ks∧Part l frm ks∧ks0.length≤ks.length ∧
      (ks.length=ks0.length→ks=ks0∧∀ m (h:m<l.length),m<j→(∀ x∈l[m].frm,x∈ks0)→l[m].to∈ks0)) (fun i _=>l.length-(intOf i).toNat)
    case atStart=>exact ⟨0,ks0,AE,rfl,HE.o,hsz,HBX.o,HS.o,HP.o,AS,fun _=>⟨rfl,Y8⟩⟩
    case round =>
     obtain ⟨j,ks,hj,rfl,hexi,hszi,hbxi,hsti,hpti,hle,hsame⟩:=hrel;obtain ⟨HEI,HSI,HPI,HSAME,HBI⟩:=Hd5 hexi hsti hpti hsame hbxi;have hkl2:=hpti.len;clear hsti hpti hsame;by_cases hlt:j<l.length
     ·obtain ⟨b1,o1,B2,c2,rfl,z1,p0,p1,hcp,hts,hstr⟩:=(HA.o.keep (hexi.kept S)).at_ hlt;have HSTR:=Hd hstr;clear hstr hexi;have HCF:=Hd (Fz l[j].frm B2 c2 (w.heap.size+1) w.heap.size ks (wr.alloc (.cells #[.slice B2 l[j].frm.length c2,.string l[j].to] 69)) S (HSTR.o.keep (Kept.alloc _ _ _)) ((exaa wr).cell HBI.o) (HSI.o.keep (Kept.alloc _ _ _)));cases hany:(l[j].frm.any fun x => !Ja ks x)
      ·have hall:=PT.1 hany;have HALL:=Hd hall;have HANY:=Hd hany;clear hall hany;obtain ⟨w',ks',hup,hset',hg',hks⟩:=(HSI.o.keep (Kept.alloc _ wr (.cells #[.slice B2 l[j].frm.length c2,.string l[j].to] 69)):SetIs _ _ _).put l[j].to;obtain ⟨HS',HG',HKS⟩:=Hd3 hset' hg' hks;clear hset' hg' hks
       go_wp2_with (go_at_call 224;refine HCF.o.mono ?_;rintro e1 w1 ⟨rfl,rfl⟩;rw [HANY.o])
       go_roundw
       case rel =>
        have hszw:=HG'.out.size;simp at hszw;refine ⟨j+1,ks',Y4,Y5,(HEI.o.alloc _).grown HG'.out (fun b hb=>Y28),Y4,?_,HS'.out,?_,?_,?_⟩
        ·rw [World.cell?_of_block (HG'.out.block (w.heap.size+1) Y16 (fun e=>Y29))];exact (exaa wr).cell HBI.o
        ·rcases HKS.o with ⟨_,rfl⟩|⟨hn,rfl⟩
         ·exact HPI.o
         ·exact HPI.o.add (List.getElem_mem hlt) HALL.o hn
        ·rcases HKS.o with ⟨_,rfl⟩|⟨hn,rfl⟩
         ·exact hle
         ·simp;omega
        ·intro hsl
         rcases HKS.o with ⟨hm,rfl⟩|⟨hn,rfl⟩
         ·obtain ⟨e1,e2⟩:=HSAME.o hsl;refine ⟨e1,fun m h hm2 hf => ?_⟩;by_cases hmj:m=j
          ·subst hmj;rw [←e1];exact hm
          ·exact e2 m h Y4 hf
         ·simp at hsl;omega
       case measure=>simp [intOf];omega
      ·have HANY:=Hd hany;clear hany
       go_wp2_with (go_at_call 224;refine HCF.o.mono ?_;rintro e1 w1 ⟨rfl,rfl⟩;rw [HANY.o])
       go_roundw
       case rel =>
        refine ⟨j+1,ks,Y4,Y5,HEI.o.alloc _,Y16,(exaa wr).cell HBI.o,HSI.o.keep (Kept.alloc _ _ _),HPI.o,hle,fun hsl => ?_⟩;obtain ⟨e1,e2⟩:=HSAME.o hsl;refine ⟨e1,fun m h hm2 hf => ?_⟩;by_cases hmj:m=j
        ·subst hmj;exfalso;rw [←e1] at hf;have:=PT.2 hf;rw [HANY.o] at this;cases this
        ·exact e2 m h Y4 hf
       case measure=>simp [intOf];omega
     ·have hlen:=HSI.o.len 3;clear hexi;by_cases heq:ks.length=ks0.length
      ·have heq':((ks.length:Int)==(ks0.length:Int))=true:=(by simp [heq]);obtain ⟨rfl,hcl⟩:=HSAME.o heq;have HCL:=Hd (show IsClosure l frm ks from ⟨HPI.o.nodup,HPI.o.base,fun d hd hf=>by
        obtain ⟨i,hi,rfl⟩:=List.mem_iff_getElem.1 hd;exact hcl i hi Y4 hf,HPI.o.least⟩)
       have hksz:∀ x∈ks,x.size≤4294967296:=HPI.o.least _ (fun x hx=>HB.o.2.2 x hx) (fun d hd _=>by
        obtain ⟨i,hi,rfl⟩:=List.mem_iff_getElem.1 hd;obtain ⟨_,_,_,_,_,_,_,_,_,h9,_⟩:=HA.o.at_ hi;exact h9)
       have HKSZ:=Hd hksz;clear heq hcl hksz
       go_wp2_with fail
       refine (P9 w.heap.size _).mono ?_;rintro e1 w1 ⟨rfl,rfl⟩
       go_wp2_with fail
       refine (Kk w.heap.size (ks.map fun k=>(k,Value.bool true)) _ HSI.o Y3 (by simpa using HKSZ.o) Y16).mono ?_;have hmk:(ks.map fun k=>(k,Value.bool true)).map (·.1)=ks:=(by simp [Function.comp_def]);rw [hmk];clear hmk;rintro e1 w1 ⟨A9,c9,rfl,hc9,hs9,hx9⟩;have HX9:=Hd hx9;clear hx9 hlen;go_wp2;rw [Exit.noGoto_ret];go_ret;exact ⟨ks,HCL.o,A9,c9,rfl,hc9,hs9.mono (T:=Av w) (fun i _ hi=>by unfold Av at hi⊢;simp at hi;omega),HEI.o.trans ((exaa wr).trans HX9.o)⟩
      ·have heq':((ks.length:Int)==(ks0.length:Int))=false:=by
        rw [beq_eq_false_iff_ne];omega
       go_wp2
       go_roundg (gk-1)
       case measure=>have:=HGK.o;omega
       case rel=>exact ⟨ks,by have:=HGK.o;omega,HEI.o,hszi,HBI.o,HSI.o,HPI.o⟩

def OwnDs(w:World)(base:Nat)(X:NP)(A:OA)(c:Nat)(l:List Dep):Prop :=
 ∃ xs,Own w base 69 2 A l.length c xs∧∀ (i:Nat) (d:Dep),l[i]?=some d→∃ (B:OA) (e:Nat),xs[i*2]?=some (.slice B d.frm.length e)∧xs[i*2+1]?=some (.string d.to)∧d.frm.length≤e∧d.to.size≤4294967296∧Strs w (fun b=>ob A≠some b∧X b) B d.frm
theorem Strs.move{w w':World}{S T:NP}{l:List BA}{B:OA}(h:Strs w S B l)(k:Kept S w w')(m:∀ i,i<w.heap.size→S i→T i):Strs w' T B l :=
 ((Strs.mono h (T:=fun b=>S b∧T b) fun i hi hs=>⟨hs,m i hi hs⟩).keep (k.mono fun _ _ hh=>hh.1)).mono fun _ _ hh=>hh.2
theorem OwnDs.nil(w:World)(base:Nat)(X:NP):OwnDs w base X none 0 []:=⟨[],Own.nil _ _ _ _,Y3⟩
theorem OwnDs.keep{w w':World}{base c:Nat}{X:NP}{A:OA}{l:List Dep}(h:OwnDs w base X A c l)(hk:Kept (fun b=>ob A=some b∨X b) w w'):OwnDs w' base X A c l:=by
 obtain ⟨hs,h1,h2⟩:=h;refine ⟨hs,h1.keep (hk.mono fun _ _ hh=>Or.inl hh),fun i r hr => ?_⟩;obtain ⟨B,e,h3,h4,h5,h6,h7⟩:=h2 i r hr;exact ⟨B,e,h3,h4,h5,h6,h7.keep (hk.mono fun _ _ hh=>Or.inr hh.2)⟩
theorem OwnDs.ext{w w':World}{base c:Nat}{X:NP}{A:OA}{l:List Dep}(h:OwnDs w base X A c l)(hx:Ext w w'):OwnDs w' base X A c l:=h.keep (hx.kept _)
theorem OwnDs.mono{w:World}{base c:Nat}{X T:NP}{A:OA}{l:List Dep}(h:OwnDs w base X A c l)(hm:∀ b,b<w.heap.size→X b→T b):OwnDs w base T A c l:=by
 obtain ⟨hs,h1,h2⟩:=h;refine ⟨hs,h1,fun i r hr => ?_⟩;obtain ⟨B,e,h3,h4,h5,h6,h7⟩:=h2 i r hr;exact ⟨B,e,h3,h4,h5,h6,h7.mono fun i hi hh=>⟨hh.1,hm i hi hh.2⟩⟩
theorem OwnDs.push{w w':World}{base c':Nat}{X:NP}{A A':OA}{l:List Dep}{r:Dep}{B:OA}{e:Nat}{hs:List Value}(ho:hs.length=l.length*2)
  (hv:∀ (i:Nat) (d:Dep),l[i]?=some d→∃ (B:OA) (e:Nat),hs[i*2]?=some (.slice B d.frm.length e)∧hs[i*2+1]?=some (.string d.to)∧d.frm.length≤e∧d.to.size≤4294967296∧Strs w (fun b=>ob A≠some b∧X b) B d.frm)
  (hown:Own w' base 69 2 A' (l.length+1) c' (hs++[Value.slice B r.frm.length e,.string r.to])) (hg:w.grownBy w' (ob A)) (hat:ob A'=ob A∨ob A'=some w.heap.size)
  (hre:r.frm.length≤e) (hrt:r.to.size≤4294967296) (hy:Strs w (fun b=>ob A≠some b∧X b) B r.frm):OwnDs w' base X A' c' (l++[r]):=by
 have hk:Kept (fun b=>ob A≠some b∧X b) w w':=Kept.of_grown hg (fun b hb _ e=>hb.1 e.symm);have hm:∀ i,i<w.heap.size→(ob A≠some i∧X i)→(ob A'≠some i∧X i):=by
  exact Z31
 refine ⟨_,Y13,fun i r' hr => ?_⟩
 rcases Nat.lt_or_ge i l.length with hlt|hge
 ·rw [List.getElem?_append_left hlt] at hr;obtain ⟨B',e',h3,h4,h5,h6,h7⟩:=hv i r' hr;exact ⟨B',e',by rw [List.getElem?_append_left Y4];exact h3,by rw [List.getElem?_append_left Y4];exact h4,h5,h6,h7.move hk hm⟩
 ·rw [List.getElem?_append_right hge] at hr;have hj0:i-l.length=0:=by
   exact Z34
  rw [hj0] at hr;simp at hr;subst hr;obtain rfl:i=l.length:=Y4;exact ⟨B,e,by rw [List.getElem?_append_right Y4,ho,Nat.sub_self];rfl,by rw [List.getElem?_append_right Y4,ho,Nat.add_sub_cancel_left];rfl,hre,hrt,hy.move hk hm⟩
theorem OwnDs.rdeps{w:World}{base c:Nat}{X T:NP}{A:OA}{l:List Dep}(h:OwnDs w base X A c l)(hl:l.length≤4294967296)(h1:∀ b,ob A=some b→T b)(h2:∀ b,X b→T b):RDeps w T A l:=by
 obtain ⟨hs,ho,hv⟩:=h;refine ⟨hl,hs,ho.rd.mono fun i _ hi=>h1 i hi,by simpa using ho.len,fun i r hr => ?_⟩;obtain ⟨B,e,h3,h4,h5,h6,h7⟩:=hv i r hr;exact ⟨B,e,h3,h4,h5,h6,h7.mono fun i _ hi=>h2 i hi.2⟩
theorem OwnDs.blk{w:World}{base c:Nat}{X:NP}{A:OA}{l:List Dep}(h:OwnDs w base X A c l){k:Nat}(hk:ob A=some k):base≤k∧k<w.heap.size:=by
 exact Z33
theorem OwnDs.add{w:World}{base c:Nat}{X:NP}{A:OA}{l:List Dep}(h:OwnDs w base X A c l):∃ hs,hs.length=l.length*2∧Own w base 69 2 A l.length c hs∧∀ (i:Nat) (d:Dep),l[i]?=some d→∃ (B:OA) (e:Nat),hs[i*2]?=some (.slice B d.frm.length e)∧hs[i*2+1]?=some (.string d.to)∧d.frm.length≤e∧d.to.size≤4294967296∧Strs w (fun b=>ob A≠some b∧X b) B d.frm:=by
 obtain ⟨hs,h1,h2⟩:=h;exact ⟨hs,h1.len,h1,h2⟩
theorem OwnIss.keep{w w':World}{base c:Nat}{X:NP}{A:OA}{l:List (List Int)}(h:OwnIss w base X A c l)(hk:Kept (fun b=>ob A=some b∨X b) w w'):OwnIss w' base X A c l:=by
 obtain ⟨hs,h1,h2⟩:=h;refine ⟨hs,h1.keep (hk.mono fun _ _ hh=>Or.inl hh),fun i r hr => ?_⟩;obtain ⟨B,e,h3,h4,h7⟩:=h2 i r hr;exact ⟨B,e,h3,h4,h7.keep (hk.mono fun _ _ hh=>Or.inr hh.2)⟩
theorem CQA:(prog.info? 69).map (fun i=>(i.zero,i.size,i.bytes))=some (some (.agg #[.slice none 0 0,.string ⟨#[]⟩]),2,40):=by kernel_rfl
theorem tiD:TI prog 37 69 2 40:=FEA underlying37 CQA rfl Y17

def Bo(cols:List BA)(s:List Int)(n:Nat):List Dep:=((List.range n).filter fun c:Nat => !GM s (c:Int)).map fun c=>⟨CP cols s,cols.getD c ⟨#[]⟩⟩
def As(cols:List BA)(rows:List (List Val))(st:List (List Int) × List Dep)(s:List Int):List (List Int) × List Dep :=
 if st.1.any (fun k=>Gd k s) then st else if !EF rows cols.length (s.map Int.toNat) then st else (st.1++[s],st.2++Bo cols s cols.length)
def Gs(l:List BA):Bool:=decide l.Nodup
def Bp(cols:List BA)(rows:List (List Val)):List Dep :=
 if !Gs cols||!Cu cols rows then [] else ((EB cols.length).foldl (As cols rows) ([],[])).2
def Rt(w:World)(l:List Dep)(e:Ending)(w':World):Prop:=∃ A c,e=.returned (.slice A l.length c)∧l.length≤c∧RDeps w' (Av w) A l∧Ext w w'

theorem Pc(n:Nat)(hn:n≤1000):(EB n).length≤1002000:=by
 unfold EB;have:∀ m,((List.range m).flatMap (Ea n)).length≤m*1000:=by
  intro m
  induction m with
  |zero=>simp
  |succ m ih =>
   rw [List.range_succ,List.flatMap_append,List.length_append];have:([m].flatMap (Ea n)).length≤1000:=(by simp [Ea];omega);omega
 have:=this n;simp only [List.length_append,List.length_map,List.length_range,List.length_cons,List.length_nil];omega
theorem SA(n:Nat):∀ s∈EB n,∀ c∈s,0≤c∧c<(n:Int):=by
 intro s hs c hc;unfold EB at hs
 rcases List.mem_append.1 hs with hs|hs
 ·rcases List.mem_append.1 hs with hs|hs
  ·simp at hs;subst hs;simp at hc
  ·obtain ⟨i,hi,rfl⟩:=List.mem_map.1 hs;simp at hc hi;omega
 ·obtain ⟨i,hi,h2⟩:=List.mem_flatMap.1 hs;unfold Ea at h2;obtain ⟨j,hj,rfl⟩:=List.mem_map.1 h2;simp [List.mem_range'] at hc hi hj
  rcases hc with rfl|rfl<;>omega
theorem Fl(cols:List BA)(s:List Int)(m:Nat):Bo cols s (m+1)=Bo cols s m++if GM s (m:Int) then [] else [⟨CP cols s,cols.getD m ⟨#[]⟩⟩]:=by
 unfold Bo;rw [List.range_succ,List.filter_append,List.map_append];congr 1;cases h:GM s (m:Int)<;>simp [h]
theorem XH(h:qP:=by
 unfold Bo;rw [List.length_map];exact Nat.le_trans (List.length_filter_le _ _) Y3):qP:=h
theorem Oj(cols:List BA)(s:List Int)(m:Nat):(Bo cols s m).length≤m:=by
 exact XH

theorem Zl(h:qP:=by
 go_ret;exact ⟨none,0,Y19,by rw [HF.o];exact AS,by rw [HF.o];exact ⟨Y3,[],Rd.nil,rfl,Y3⟩,HX.o⟩):qP:=h
theorem O4(q:Nat)(cols:List BA)(rows:List (List Val))(A B:OA)(ca cb:Nat)(w:World)(S T:NP)(hA:Strs w S A cols)(hB:Rows w T q B rows)(hn:cols.length≤1000) :
  Cl 57 #[.slice A cols.length ca,.slice B rows.length cb] w (Rt w (Bp cols rows)):=by
 have hcl:=hA.2.1;have hrl:=hB.len;have HA:=Hd hA;have HB:=Hd hB;clear hA hB;cases hnd:Gs cols
 ·have HND:=Hd (show decide cols.Nodup=false from hnd);have HF:=Hd (show Bp cols rows=[] by unfold Bp;rw [hnd];rfl);clear hnd
  go_enter func57,ntmps57
  go_wp2_with (go_at_call 137;refine (Dt cols _ _ _ S HA.o).mono ?_;rintro e w' ⟨rfl,hx⟩;have HX:=Hd hx;clear hx;rw [HND.o])
  exact Zl
 have HND:=Hd (show decide cols.Nodup=true from hnd);cases hrg:Cu cols rows
 ·have HRG:=Hd hrg;have HF:=Hd (show Bp cols rows=[] by unfold Bp;rw [hrg];simp);clear hnd hrg
  go_enter func57,ntmps57
  go_wp2_with (first|(go_at_call 137;refine (Dt cols _ _ _ S HA.o).mono ?_;rintro e w' ⟨rfl,hx⟩;have HX:=Hd hx;clear hx;rw [HND.o])|(go_at_call 138;refine (Di q cols rows _ _ _ _ _ T hcl (HB.o.keep (HX.o.kept T))).mono ?_;rintro e w' ⟨rfl,rfl⟩;rw [HRG.o]))
  exact Zl
 have HRG:=Hd hrg;have HF:=Hd (show Bp cols rows=((EB cols.length).foldl (As cols rows) ([],[])).2 by unfold Bp;rw [hnd,hrg];rfl);have hrow:∀ c,c<cols.length→∀ j (h:j<rows.length),c<rows[j].length:=by
  exact Z93
 have HROW:=Hd hrow;clear hnd hrg hrow
 go_enter func57,ntmps57
 go_wp2_with (first|(go_at_call 137;refine (Dt cols _ _ _ S HA.o).mono ?_;rintro e w' ⟨rfl,hx⟩;have HX:=Hd hx;clear hx;rw [HND.o])|(go_at_call 138;refine (Di q cols rows _ _ _ _ _ T hcl (HB.o.keep (HX.o.kept T))).mono ?_;rintro e w' ⟨rfl,rfl⟩;rw [HRG.o]))
 go_loopw [24,5] (fun i v wr=>∃ (k:Nat) (A':OA) (c':Nat),k≤cols.length∧i=.I k∧v=.slice A' k c'∧Ext w wr∧OwnIss wr w.heap.size (fun b=>w.heap.size≤b) A' c' ((Cw rows cols.length).take k)) (fun i _ _=>cols.length-(intOf i).toNat)
 case atStart=>exact ⟨0,none,0,AE,rfl,rfl,HX.o,OwnIss.nil _ _ _⟩
 case round =>
  clear HX;obtain ⟨k,A',c',hk,rfl,rfl,hext,hown⟩:=hrel;have HE:=Hd hext;have HO:=Hd hown;have hml:(Cw rows cols.length).length=cols.length:=(by simp [Cw]);have HML:=Hd hml;have hszw:=hext.size;clear hown hml hext;by_cases hlt:k<cols.length
  ·go_wp2_with fail
   refine (Ez q rows _ _ k _ T (HB.o.keep (HE.o.kept T)) (HROW.o k hlt)).mono ?_;rintro e w1 ⟨A1,c1',rfl,hcp1,hi1,hx1⟩;have HX1:=Hd hx1;have hsz1:=hx1.size;have HI1:=Hd hi1;clear hx1 hi1;have hval:(Cw rows cols.length)[k]'Y31=AN rows k:=(by simp [Cw]);have HVAL:=Hd hval;have hlk:((Cw rows cols.length).take k).length=k:=(by rw [List.length_take,HML.o];omega);obtain ⟨hs,hhs,ho,hv⟩:=(HO.o.ext (HX1.o.alloc (.cells #[.slice A1 (AN rows k).length c1'] 22))).add;rw [hlk] at ho;obtain ⟨HOWN,HV,HHS,HLK⟩:=Hd4 ho hv hhs hlk;clear ho hv hhs hlk hval
   go_wp2_with (at_builtin;go_must (refine AC rfl (.tmp 27) (.tmp 31) rfl QD rfl HOWN.o rfl (Blk.rd (Blk.new _ _ _)) rfl Y18 Y4 Y17 Y16 ?_);intro A4 c4 w4 hown4 hg4 hat4)
   go_roundw
   case rel =>
    refine ⟨k+1,A4,c4,Y4,Y5,rfl,Ext.grown ((HE.o.trans HX1.o).alloc _) hg4 (fun b hb=>(HOWN.o.blk hb).1),?_⟩;rw [List.take_succ_eq_append_getElem Y31,HVAL.o];refine OwnIss.push HHS.o HV.o (by rw [HLK.o];exact hown4) hg4 hat4 hcp1 ((HI1.o.keep (Kept.alloc _ _ _)).mono fun i _ hi=>⟨fun h0 => ?_,?_⟩)
    ·have:=(HO.o.blk h0).2;unfold Av at hi;omega
    ·unfold Av at hi;omega
   case measure=>simp [intOf];omega
  ·obtain rfl:k=cols.length:=Y4;have hoo:=HO.o;rw [List.take_of_length_le (by rw [HML.o];exact AS)] at hoo;have HRS:=Hd (hoo.riss (T:=fun _=>True) (by rw [HML.o];exact hcl) (fun _ _=>trivial) (fun _ _=>trivial));clear hoo HO
   go_wp2_with fail
   refine (Om cols.length _ hn).mono ?_;rintro e w1 ⟨A1,c1,rfl,hcp1,hi1,hx1⟩;have HX1:=Hd hx1;have HI1:=Hd hi1;have hsz1:=hx1.size;have hsl:=Pc cols.length hn;clear hx1 hi1;obtain ⟨sets,hsets⟩:=eqx (EB cols.length);rw [←hsets] at HI1 hsl HF hcp1;rw [←hsets];have HIN:=Hd (show ∀ s∈sets,∀ c∈s,0≤c∧c<(cols.length:Int) by rw [hsets];exact SA _);clear hsets;obtain ⟨wo,rfl⟩:∃ wo:World,wo=wr:=⟨_,rfl⟩;go_wp2
   go_loopw [38,7,8] (fun i v u wq=>∃ (k:Nat) (A7 A8:OA) (c7 c8:Nat) (ks:List (List Int)) (ds:List Dep),k≤sets.length∧(ks,ds)=(sets.take k).foldl (As cols rows) ([],[])∧i=.I k∧v=.slice A7 ks.length c7∧u=.slice A8 ds.length c8∧Ext w1 wq∧ks.length≤k∧ds.length≤k*1000∧OwnIss wq w1.heap.size (fun b=>b<w1.heap.size) A7 c7 ks∧OwnDs wq w1.heap.size (fun b=>w1.heap.size≤b∧ob A7≠some b) A8 c8 ds∧(∀ b,ob A7=some b→ob A8≠some b)) (fun i _ _ _=>sets.length-(intOf i).toNat)
   case atStart=>exact ⟨0,none,none,0,0,[],[],AE,rfl,rfl,rfl,rfl,Ext.refl _,AE,AE,OwnIss.nil _ _ _,OwnDs.nil _ _ _,by simp [ob]⟩
   case round =>
    obtain ⟨k,A7,A8,c7,c8,ks,ds,hk,hst,rfl,rfl,rfl,hext,hkl,hdl,ho7,ho8,hdis⟩:=hrel;obtain ⟨HST,HE2,HO7,HO8,HDIS⟩:=Hd5 hst hext ho7 ho8 hdis;have hszq:=hext.size;clear hst hext ho7 ho8 hdis;by_cases hlt:k<sets.length
    ·obtain ⟨b1,o1,B1,e1,rfl,z1',p1',hcs,his⟩:=HI1.o.at_ hlt;have p1:=HE2.o.cell p1';have z1:b1<wr.heap.size:=Y4;have HIS1:=Hd (his.mono (T:=fun b=>b<w1.heap.size) fun i hi _=>hi);have hstep:(sets.take (k+1)).foldl (As cols rows) ([],[])=As cols rows (ks,ds) sets[k]:=by
      rw [List.take_succ_eq_append_getElem hlt,List.foldl_append,←HST.o];rfl
     have hmem:=List.getElem_mem hlt;obtain ⟨s,hs⟩:=eqx (sets[k]);rw [←hs] at p1 HIS1 hstep hmem hcs;obtain ⟨HSTEP,HMEM,HCS,HIS⟩:=Hd4 hstep hmem hcs (HIS1.o.keep (HE2.o.kept _));clear p1' his hstep hmem hs hcs
     go_wp2_with fail
     refine (F1 ks s A7 B1 c7 e1 wr.heap.size _ (fun _=>True) (fun b=>b<w1.heap.size) ((HO7.o.riss Y4 (fun _ _=>trivial) (fun _ _=>trivial)).keep (Kept.alloc _ _ _)) ((Blk.new wr 22 #[.slice B1 s.length e1]).cell rfl) (HIS.o.keep (Kept.alloc _ _ _))).mono ?_;rintro e w2 ⟨rfl,hx2⟩;have hbx:=hx2.cell ((Blk.new wr 22 #[.slice B1 s.length e1]).q0);have HX2:=Hd ((exaa wr).trans hx2);have hsz2:wr.heap.size<w2.heap.size:=(by have:=hx2.size;simp at this;omega);clear hx2;cases hany:ks.any (fun l=>Gd l s)
     case true =>
      have HANY:=Hd hany;clear hany;go_wp2;go_roundw
      case rel=>exact ⟨k+1,A7,A8,c7,c8,ks,ds,Y4,by rw [HSTEP.o];unfold As;rw [if_pos HANY.o],Y5,rfl,rfl,HE2.o.trans HX2.o,Y4,Y4,HO7.o.ext HX2.o,HO8.o.ext HX2.o,HDIS.o⟩
      case measure=>simp [intOf];omega
     case false =>
      have HANY:=Hd (show ¬(ks.any (fun l=>Gd l s))=true by rw [hany];simp);clear hany
      go_wp2_with fail
      refine (Nr rows cols.length s B1 _ e1 _ _ (fun b=>b<w1.heap.size) (fun _=>True) (HIS.o.keep (HX2.o.kept _)) (HRS.o.keep ((HX1.o.trans (HE2.o.trans HX2.o)).kept _)) (HIN.o s HMEM.o) hrl).mono ?_;rintro e w3 ⟨rfl,hx3⟩;have hbx3:=hx3.cell hbx;have HX3:=Hd (HX2.o.trans hx3);have hsz3:w2.heap.size≤w3.heap.size:=hx3.size;clear hx3 hbx;cases hkey:EF rows cols.length (s.map Int.toNat)
      ·have HKEY:=Hd hkey;clear hkey;go_wp2;go_roundw
       case rel=>exact ⟨k+1,A7,A8,c7,c8,ks,ds,Y4,by rw [HSTEP.o];unfold As;rw [if_neg HANY.o,HKEY.o];rfl,Y5,rfl,rfl,HE2.o.trans HX3.o,Y4,Y4,HO7.o.ext HX3.o,HO8.o.ext HX3.o,HDIS.o⟩
       case measure=>simp [intOf];omega
      ·have HKEY:=Hd (show (As cols rows (ks,ds) s)=(ks++[s],ds++Bo cols s cols.length) by unfold As;rw [if_neg HANY.o,hkey];rfl);clear hkey;obtain ⟨hs7,hhs7,ho7,hv7⟩:=(HO7.o.ext (HX3.o.alloc (.cells #[.slice B1 s.length e1] 22))).add;obtain ⟨HOWN,HV,HHS⟩:=Hd3 ho7 hv7 hhs7;clear ho7 hv7 hhs7
       go_wp2_with (at_builtin;go_must (refine AC rfl (.tmp 51) (.tmp 53) rfl QD rfl HOWN.o rfl (Blk.rd (Blk.new _ _ _)) rfl Y18 Y4 Y17 Y16 ?_);intro A4 c4 w4 hown4 hg4 hat4)
       have h74:OwnIss w4 w1.heap.size (fun b=>b<w1.heap.size) A4 c4 (ks++[s]):=by
        refine OwnIss.push HHS.o HV.o hown4 hg4 hat4 HCS.o ((HIS.o.keep ((HX3.o.alloc _).kept _)).mono fun i _ hi=>⟨fun h0 => ?_,hi⟩);have:=(HO7.o.blk h0).1;omega
       have h84:OwnDs w4 w1.heap.size (fun b=>w1.heap.size≤b∧ob A4≠some b) A8 c8 ds:=by
        refine OwnDs.mono (X:=fun b=>(w1.heap.size≤b∧ob A7≠some b)∧ob A4≠some b) ?_ (fun b _ hb=>⟨hb.1.1,hb.2⟩);refine OwnDs.keep (w:=w3.alloc (.cells #[.slice B1 s.length e1] 22)) ?_ (Kept.of_grown hg4 fun b hb _ e => ?_)
        ·refine (HO8.o.ext (HX3.o.alloc _)).mono fun b hb hh=>⟨hh,fun e => ?_⟩
         rcases hat4 with h|h
         ·rw [h] at e;exact hh.2 e
         ·rw [h] at e;injection e with e;omega
        ·rcases hb with h|h
         ·exact HDIS.o b e.symm h
         ·exact h.1.2 e.symm
       have hd4:∀ b,ob A4=some b→ob A8≠some b:=by
        intro b h1 h2
        rcases hat4 with h|h
        ·rw [h] at h1;exact HDIS.o b h1 h2
        ·rw [h] at h1;injection h1 with h1;have:=(HO8.o.blk h2).2;simp at h1;omega
       have hbx4:w4.cell? ⟨wr.heap.size,0,none⟩=some (.slice B1 s.length e1):=by
        rw [World.cell?_of_block (hg4.block wr.heap.size Y16 (fun e=>by have:=(HO7.o.blk e.symm).2;omega))];exact (exaa w3).cell hbx3
       have HX4:=Hd (show Ext w1 w4 from Ext.grown ((HE2.o.trans HX3.o).alloc _) hg4 (fun b hb=>(HOWN.o.blk hb).1));have hsz4:w3.heap.size<w4.heap.size:=(by have:=hg4.size;simp at this;omega);have h8b:ob A8≠some wr.heap.size:=fun e=>by have:=(HO8.o.blk e).2;omega
       obtain ⟨H74,H84,HD4,HB4,H8B⟩:=Hd5 h74 h84 hd4 hbx4 h8b;clear h74 h84 hd4 hbx4 h8b hown4 hg4 hat4 HOWN HV HHS HO7 HO8 HDIS hbx3;obtain ⟨wp,rfl⟩:∃ wp:World,wp=wr:=⟨_,rfl⟩;go_wp2
       go_loopw [57,8] (fun i u wr=>∃ (m:Nat) (A9:OA) (c9:Nat) (d9:List Dep),m≤cols.length∧d9=ds++Bo cols s m∧i=.I m∧u=.slice A9 d9.length c9∧Ext w1 wr∧wp.heap.size<wr.heap.size∧wr.cell? ⟨wp.heap.size,0,none⟩=some (.slice B1 s.length e1)∧ob A9≠some wp.heap.size∧d9.length≤ds.length+m∧OwnIss wr w1.heap.size (fun b=>b<w1.heap.size) A4 c4 (ks++[s])∧OwnDs wr w1.heap.size (fun b=>w1.heap.size≤b∧ob A4≠some b) A9 c9 d9∧(∀ b,ob A4=some b→ob A9≠some b)) (fun i _ _=>cols.length-(intOf i).toNat)
       case atStart=>exact ⟨0,A8,c8,ds,AE,by simp [Bo],rfl,rfl,HX4.o,Y4,HB4.o,H8B.o,Y4,H74.o,H84.o,HD4.o⟩
       case round =>
        clear HX4 HB4 H8B H74 H84 HD4;obtain ⟨m,A9,c9,d9,hm,hd9,rfl,rfl,hx9,hsz9,hbx9,h9b,hl9,h79,h99,hd99⟩:=hrel;obtain ⟨HD9,HX9,H9B,H79,H99,HD99⟩:=Hd6 hd9 hx9 h9b h79 h99 hd99;have hsz19:=hx9.size;clear hd9 hx9 h9b h79 h99 hd99;by_cases hltm:m<cols.length
        ·obtain ⟨b2,o2,rfl,z2,p2⟩:=(HA.o.keep ((HE.o.trans (HX1.o.trans HX9.o)).kept S)).at_ hltm;cases hmm:GM s (m:Int)
         ·have HMM:=Hd hmm;clear hmm
          go_wp2_with (go_at_call 145;refine (DW _ _ s _ _ (fun b=>b<w1.heap.size) (HIS1.o.keep (HX9.o.kept _))).mono ?_;rintro e w' ⟨rfl,rfl⟩;rw [HMM.o])
          refine (Nn cols s _ _ _ _ _ S (fun b=>b<w1.heap.size) (HA.o.keep ((HE.o.trans (HX1.o.trans HX9.o)).kept S)) (HIS1.o.keep (HX9.o.kept _)) (HIN.o s HMEM.o)).mono ?_;rintro e w5 ⟨A5,c5,rfl,hcp5,hss5,hx5⟩;obtain ⟨HX5,HSS5,HCP5⟩:=Hd3 hx5 hss5 hcp5;have hsz5:=hx5.size;obtain ⟨hs9,hhs9,ho9,hv9⟩:=(H99.o.ext (HX5.o.alloc (.cells #[.slice A5 (CP cols s).length c5,.string cols[m]] 69))).add;obtain ⟨HOWN,HV,HHS⟩:=Hd3 ho9 hv9 hhs9;clear ho9 hv9 hhs9 hx5 hss5 hcp5
          go_wp2_with (at_builtin;go_must (refine AC rfl (.tmp 66) (.tmp 72) rfl tiD rfl HOWN.o rfl (Blk.rd (Blk.new _ _ _)) rfl Y18 Y4 Y17 Y16 ?_);intro A6 c6 w6 hown6 hg6 hat6)
          go_roundw
          case rel =>
           have h9lt:∀ b,ob A9=some b→b<wr.heap.size:=fun b hb=>(H99.o.blk hb).2;have h4lt:∀ b,ob A4=some b→w1.heap.size≤b∧b<wr.heap.size:=fun b hb=>H79.o.blk hb;refine ⟨m+1,A6,c6,d9++[⟨CP cols s,cols[m]⟩],Y4,?_,Y5,Y3,Ext.grown ((HX9.o.trans HX5.o).alloc _) hg6 (fun b hb=>(HOWN.o.blk hb).1),by have:=hg6.size;simp at this;omega,?_,?_,Y16,?_,?_,?_⟩
           ·rw [HD9.o,Fl,HMM.o,List.append_assoc];simp [hltm]
           ·rw [World.cell?_of_block (hg6.block wp.heap.size Y16 (fun e=>H9B.o e.symm))];exact (HX5.o.alloc _).cell hbx9
           ·intro e
            rcases hat6 with h|h
            ·rw [h] at e;exact H9B.o e
            ·rw [h] at e;injection e with e;simp at e;omega
           ·exact (H79.o.ext (HX5.o.alloc _)).keep (Kept.of_grown hg6 fun b hb _ e=>by
             rcases hb with h|h
             ·exact HD99.o b h e.symm
             ·have:=(H99.o.blk e.symm).1;omega)
           ·refine OwnDs.push HHS.o HV.o hown6 hg6 hat6 HCP5.o (HA.o.2.2 _ (List.getElem_mem hltm)) ((HSS5.o.keep (Kept.alloc _ _ _)).mono fun i _ hi => ?_);unfold Av at hi;exact ⟨fun e=>by have:=h9lt i e;omega,Y4,fun e=>by have:=(h4lt i e).2;omega⟩
           ·intro b h1 h2
            rcases hat6 with h|h
            ·rw [h] at h2;exact HD99.o b h1 h2
            ·rw [h] at h2;injection h2 with h2;have:=(h4lt b h1).2;simp at h2;omega
          case measure=>simp [intOf];omega
         ·have HMM:=Hd hmm;clear hmm
          go_wp2_with (go_at_call 145;refine (DW _ _ s _ _ (fun b=>b<w1.heap.size) (HIS1.o.keep (HX9.o.kept _))).mono ?_;rintro e w' ⟨rfl,rfl⟩;rw [HMM.o])
          go_roundw
          case rel=>exact ⟨m+1,A9,c9,d9,Y4,by rw [HD9.o,Fl,HMM.o];simp,Y5,rfl,HX9.o,hsz9,hbx9,H9B.o,Y4,H79.o,H99.o,HD99.o⟩
          case measure=>simp [intOf];omega
        ·obtain rfl:m=cols.length:=Y4;go_wp2;go_roundw
         case rel=>exact ⟨k+1,A4,A9,c4,c9,ks++[s],d9,Y4,by rw [HSTEP.o,HKEY.o,HD9.o],Y5,Y3,rfl,HX9.o,Y16,Y4,H79.o,H99.o,HD99.o⟩
         case measure=>simp [intOf];omega
    ·obtain rfl:k=sets.length:=Y4;have hde:ds=Bp cols rows:=by
      have:=HST.o;rw [List.take_of_length_le (AS)] at this;rw [HF.o,←this]
     subst hde;have HC:=Hd (show (Bp cols rows).length≤c8 by obtain ⟨hs,_,h1,_⟩:=HO8.o.add;exact h1.cap);go_wp2;go_ret;exact ⟨A8,c8,rfl,HC.o,HO8.o.rdeps Y4 (fun b hb=>by have:=(HO8.o.blk hb).1;unfold Av;omega) (fun b hb=>Y30),HE.o.trans (HX1.o.trans HE2.o)⟩



def Tx(n s:Int):Val:=⟨2,⟨#[]⟩,n,s,0,[],[]⟩

def XK(s:BA):Val:=⟨1,s,0,0,0,[],[]⟩

def Ue:BA:=⟨#[99,105,116,121]⟩
def ZQ:BA:=⟨#[122,105,112]⟩
def NK:BA:=⟨#[99,111,117,110,116,114,121]⟩

set_option maxRecDepth 100000

theorem Jn{k k':List BA}(h:k.Perm k'):AT k=AT k':=by
 unfold AT;rw [Ky (h.map _)]
theorem IsClosure.mem{l:List Dep}{frm ks ks':List BA}(h:IsClosure l frm ks)(h':IsClosure l frm ks')(x:BA):x∈ks↔x∈ks' :=
 ⟨fun hx=>h.least (·∈ks') h'.base h'.closed x hx,fun hx=>h'.least (·∈ks) h.base h.closed x hx⟩
theorem IsClosure.one{l:List Dep}{frm ks ks':List BA}(h:IsClosure l frm ks)(h':IsClosure l frm ks'):AT ks=AT ks' :=
 Jn ((List.perm_ext_iff_of_nodup h.nodup h'.nodup).2 (h.mem h'))

def Rl:BA:=⟨#[115,105,110,99,101]⟩
def sX:BA:=⟨#[120]⟩
def Rj:Array Value:=#[.string Ue,.string ZQ,.string NK,.string Rl,.string sX]
structure DC(w:World)(A:OA)(n c:Nat)(s:BA)(A':OA)(c':Nat)(fs:List BA)(wr:World):Prop where
 ext:Ext w wr
 gr:Blk wr w.heap.size 69 #[.slice none 0 0,.string ⟨#[]⟩]
 num:∃ K,NumIs wr (w.heap.size+1) A n c K
 gn:Blk wr (w.heap.size+1+1) 9 Rj
 gd:Blk wr (w.heap.size+3) 69 #[.slice A' fs.length c',.string s]
 own:OwnSs wr (w.heap.size+4) A' c' fs
theorem DC.more{w wr wr':World}{A A':OA}{n c c':Nat}{s:BA}{fs:List BA}(h:DC w A n c s A' c' fs wr)(hx:Ext wr wr'):DC w A n c s A' c' fs wr':=by
 obtain ⟨K,hK⟩:=h.num;exact ⟨h.ext.trans hx,h.gr.keep (hx.kept _),⟨K,hK.keep (hx.kept _)⟩,h.gn.keep (hx.kept _),h.gd.keep (hx.kept _),h.own.ext hx⟩
theorem DC.next{w wr wr':World}{A A':OA}{n c c':Nat}{s:BA}{fs:List BA}(h:DC w A n c s A' c' fs wr)(ho:Only (w.heap.size+1) wr wr'){K:Nat}(hK:NumIs wr' (w.heap.size+1) A n c K):DC w A n c s A' c' fs wr' :=
 ⟨h.ext.only ho Y4,h.gr.keep (ho.kept fun b _ e=>Y4),⟨K,hK⟩,h.gn.keep (ho.kept fun b _ e=>Y4),h.gd.keep (ho.kept fun b _ e=>Y4),ho.own h.own.1 Y4,h.own.2⟩
structure DA(w:World)(A:OA)(n c:Nat)(s:BA)(A':OA)(c':Nat)(fs:List BA)(wr:World):Prop where
 ext:Ext w wr
 gr:Blk wr w.heap.size 69 #[.slice none 0 0,.string ⟨#[]⟩]
 num:∃ K,NumIs wr (w.heap.size+1) A n c K
 gn:Blk wr (w.heap.size+1+1) 9 Rj
 gd:∃ x,Blk wr (w.heap.size+3) 69 #[x,.string s]
 own:OwnSs wr (w.heap.size+4) A' c' fs
theorem DC.app{w wr wr':World}{A A' A4:OA}{n c c' c4:Nat}{s t:BA}{fs:List BA}(h:DC w A n c s A' c' fs wr)(hg:wr.grownBy wr' (ob A'))(ho:Own wr' (w.heap.size+4) 9 1 A4 (fs.length+1) c4 (fs.map Value.string++[.string t]))(ht:t.size≤4294967296):DA w A n c s A4 c4 (fs++[t]) wr':=by
 obtain ⟨K,hK⟩:=h.num;have hk:∀ g,g<w.heap.size+4→Kept (fun b=>b=g) wr wr':=fun g hg'=>Kept.of_grown hg fun b hb _ e=>by
  subst hb;have:=(h.own.1.blk e.symm).1;omega
 refine ⟨Ext.grown h.ext hg fun b hb=>by have:=(h.own.1.blk hb).1;omega,h.gr.keep (hk _ Y4),⟨K,hK.keep (hk _ Y4)⟩,h.gn.keep (hk _ Y4),⟨_,h.gd.keep (hk _ Y4)⟩,?_,?_⟩
 ·simpa using ho
 ·intro x hx
  rcases List.mem_append.1 hx with hx|hx
  ·exact h.own.2 x hx
  ·simp at hx;subst hx;exact ht
theorem DA.store{w wr:World}{A A':OA}{n c c':Nat}{s:BA}{fs:List BA}(h:DA w A n c s A' c' fs wr):DC w A n c s A' c' fs (wr.setCell ⟨w.heap.size+3,0,none⟩ (.slice A' fs.length c')):=by
 obtain ⟨K,hK⟩:=h.num;obtain ⟨x,hx⟩:=h.gd;have ho:=(Only.refl (w.heap.size+3) wr).set 0 (.slice A' fs.length c');exact ⟨h.ext.only ho Y4,h.gr.keep (ho.kept fun b _ e=>Y4),⟨K,hK.keep (ho.kept fun b _ e=>Y4)⟩,h.gn.keep (ho.kept fun b _ e=>Y4),hx.set 0 _,ho.own h.own.1 Y4,h.own.2⟩

def ANA:BA:=⟨#[82,111,109,101]⟩
def VT:BA:=⟨#[79,115,108,111]⟩
def Su:BA:=⟨#[66,101,114,103,101,110]⟩
def sIt:BA:=⟨#[105,116]⟩
def CEA(n:Int):Val:=⟨3,⟨#[]⟩,0,0,n,[],[]⟩
def BJA(kind:Int)(n:Nat):Val :=
 if n=4 then Val.zero
 else if kind=2 then (if n=0 then Tx 1 0 else if n=1 then Tx (-25) 1 else if n=2 then Tx 3 0 else Tx 1000000000000000 0)
 else if kind=3 then CEA (738000+n)
 else XK (if n=0 then ANA else if n=1 then VT else if n=2 then Su else sIt)

def names4:List BA:=[Ue,ZQ,NK,Rl]
section
variable {w wr wr':World}{name:BA}{A Ac Ak:OA}{n c cc ck:Nat}{cols:List BA}{ks:List Int}
end
def EBA(ks:List Int)(r:List Val):Prop:=r.length=ks.length∧∀ (j:Nat) (h:j<r.length) (h':j<ks.length),∃ m:Nat,m<5∧r[j]=BJA ks[j] m
def MadeT(name:BA)(t:Look):Prop:=t.name=name∧∃ ks:List Int,1≤ks.length∧ks.length≤4∧t.cols=names4.take ks.length∧ks.head?=some 1∧(∀ x∈ks,x=1∨x=2∨x=3)∧t.rows.length≤6∧∀ r∈t.rows,EBA ks r
def T2(w:World)(name:BA)(e:Ending)(w':World):Prop:=∃ t,MadeT name t∧EPA w t e w'
def StrsF(w:World)(S:NP)(A:OA)(l:List BA):Prop:=Strs w S A l∧∀ g,ob A=some g→S g∧∃ cs,Blk w g 9 cs
theorem StrsF.keep{w w':World}{S:NP}{A:OA}{l:List BA}(h:StrsF w S A l)(k:Kept S w w'):StrsF w' S A l :=
 ⟨h.1.keep k,fun g hg=>by
  obtain ⟨h1,cs,h2⟩:=h.2 g hg;exact ⟨h1,cs,h2.keep (k.mono fun b _ e=>by rw [e];exact h1)⟩⟩
theorem StrsF.mono{w:World}{S T:NP}{A:OA}{l:List BA}(h:StrsF w S A l)(k:∀ i,i<w.heap.size→S i→T i):StrsF w T A l :=
 ⟨h.1.mono k,fun g hg=>by
  obtain ⟨h1,cs,h2⟩:=h.2 g hg;exact ⟨k g h2.lt h1,cs,h2⟩⟩
def RetMadeF(w:World)(name:BA)(e:Ending)(w':World):Prop:=∃ (t:Look) (H:Nat) (A:OA) (c:Nat) (B:OA) (e':Nat),MadeT name t∧e=.returned (.agg #[.string t.name,.slice A t.cols.length c,.slice B t.rows.length e'])∧(t.cols.length≤c∧t.rows.length≤e')∧w.heap.size≤H∧t.name.size≤4294967296∧StrsF w' (fun b=>w.heap.size≤b∧b<H) A t.cols∧Rows w' (fun b=>H≤b) 1 B t.rows∧Ext w w'
theorem RetMadeF.made{w w':World}{name:BA}{e:Ending}(h:RetMadeF w name e w'):T2 w name e w':=by
 obtain ⟨t,H,A,c,B,e',h1,h2,h3,h4,h5,h6,h7,h8⟩:=h;exact ⟨t,h1,A,c,B,e',h2,h3,⟨h5,h6.1.mono fun b _ hb=>hb.1,h7.mono fun b _ hb=>Nat.le_trans h4 hb⟩,h8⟩
section
variable {w wr wr':World}{name:BA}{A Ac Ak Ar:OA}{n c H T cc cr:Nat}{cols:List BA}{ks:List Int}{rows:List (List Val)}
end

theorem Rs{l:List BA}{v:BA} : decide (0≤BM l v)=true↔v∈l:=by rw [decide_eq_true_iff];exact Dp l v
theorem Cx{cols:List BA}{rows:List (List Val)}{frm:List BA}{x:BA} : Al cols rows frm x=true ↔
  x∈cols∧Cu cols rows=true∧(∀ f∈frm,f∈cols)∧∀ r∈rows,∀ o∈rows,(∀ f∈frm,Bz (BM cols f).toNat r o=true)→Bz (BM cols x).toNat r o=true:=by
 unfold Al;simp only [Bool.and_eq_true,Rs,List.all_eq_true,and_assoc];refine and_congr Iff.rfl (and_congr Iff.rfl (and_congr Iff.rfl ?_));unfold Ef;simp only [List.all_eq_true,Bool.or_eq_true,Bool.not_eq_true'];constructor
 ·intro h r hr o ho hf
  rcases h r hr o ho with h1|h1
  ·exfalso;have:((frm.map fun f=>(BM cols f).toNat).all fun f=>Bz f r o)=true:=by
    rw [List.all_eq_true];intro x hx;obtain ⟨f,hf',rfl⟩:=List.mem_map.1 hx;exact hf f hf'
   rw [this] at h1;cases h1
  ·exact h1
 ·intro h r hr o ho;by_cases hf:((frm.map fun f=>(BM cols f).toNat).all fun f=>Bz f r o)=true
  ·right;refine h r hr o ho fun f hf' => ?_;rw [List.all_eq_true] at hf;exact hf _ (List.mem_map_of_mem hf')
  ·left
   simpa using hf
theorem C9{l:List BA}{x:BA} : x∈AT l↔x∈l:=by
 unfold AT;simp only [List.mem_map,List.mem_mergeSort];constructor
 ·rintro ⟨a,⟨y,hy,rfl⟩,rfl⟩;exact hy
 ·intro h;exact ⟨x.data.toList,⟨x,h,rfl⟩,rfl⟩
theorem LA(l:List BA):(AT l).length=l.length:=by simp [AT]
theorem IsClosure.again{l:List Dep}{frm ks ks':List BA}(h:IsClosure l frm ks)(h':IsClosure l (AT ks) ks'):AT ks'=AT ks:=by
 refine h'.one ⟨h.nodup,fun x hx=>C9.1 hx,h.closed,fun T h1 _ x hx=>h1 x (C9.2 hx)⟩
theorem IsClosure.grow{l m:List Dep}{frm ks ks':List BA}(h:IsClosure l frm ks)(h':IsClosure m frm ks')(hs:∀ d∈l,d∈m):∀ x∈ks,x∈ks' :=
 h.least (·∈ks') h'.base fun d hd hf=>h'.closed d (hs d hd) hf
theorem IsClosure.len{l:List Dep}{frm ks:List BA}(h:IsClosure l frm ks):ks.length≤frm.length+l.length:=Part.len ⟨h.nodup,h.base,h.least⟩
theorem MadeT.cols{name:BA}{t:Look}(h:MadeT name t):1≤t.cols.length∧t.cols.length≤4∧t.rows.length≤6:=by
 obtain ⟨_,ks,h1,h2,h3,_,_,h6,_⟩:=h;have hl:names4.length=4:=rfl;refine ⟨?_,?_,h6⟩<;>simp [h3]<;>omega
end Go.Proofs.YtidacnalcdhckaaGreatDoor
