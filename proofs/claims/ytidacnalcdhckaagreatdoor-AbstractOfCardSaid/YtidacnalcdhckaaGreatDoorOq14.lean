/- Lemmas. No conditions. -/
import Derived.Test.YtidacnalcdhckaaGreatDoorOq13
import Derived.Deep.DeepCutAuto
import Derived.Deep.RegionHeld3
set_option maxRecDepth 100000
set_option maxHeartbeats 1000000
namespace Go.Proofs.YtidacnalcdhckaaGreatDoor
open Go Go.RowKit Tryz
variable {qP:Prop}

theorem IIA{w:World}{g e n sz base:Nat}{cs:Array Value}(h:Blk w g e cs)(hs:cs.size=n*sz)(hn:n≤maxLen)(hb:base≤g):Own w base e sz (some ⟨g,0,none⟩) n n cs.toList:=by
 refine ⟨by simpa using hs,Or.inr ⟨g,n,cs,rfl,hb,h,Al,hn,hs,?_⟩⟩;rw [List.take_of_length_le (by simp [hs])]
def F9(rows:List (List Val))(nc:Nat)(fs:List Nat):Bool:=(List.range nc).all fun c=>Gk rows fs c
def EX(rows:List (List Val))(nc:Nat):List (List Int):=(List.range nc).map fun c=>Ad rows c

theorem YM(rows:List (List Val))(nc:Nat)(set:List Int)(A B:OA)(ca cb:Nat)(w:World)(S T:NP)(hA:Ints w S A set)(hB:RIss w T B (EX rows nc))(hr:∀ c∈set,0≤c∧c<(nc:Int))(hrl:rows.length≤4294967296) :
  Cl 144 #[.slice A set.length ca,.slice B nc cb,.I (rows.length:Int)] w (Ae w (F9 rows nc (set.map Int.toNat))):=by
 have hal:=hA.2;have hbl:=hB.1;have hlsl:(EX rows nc).length=nc:=(by simp [EX]);rw [hlsl] at hbl;obtain ⟨HLSL,HA,HB,HR⟩:=Hd4 hlsl hA hB hr;clear hA hB hr hlsl
 go_enter func144,ntmps144
 go_wp2
 go_loopw [13,7] (fun i v wr=>∃ (k:Nat) (A':OA) (c':Nat),k≤set.length∧i=.I k∧v=.slice A' k c'∧Ext w wr∧OwnIss wr w.heap.size (fun b=>b<w.heap.size) A' c' (((set.map Int.toNat).map fun f=>Ad rows f).take k)) (fun i _ _=>set.length-(intOf i).toNat)
 case atStart=>exact ⟨0,none,0,AN,rfl,rfl,Ext.refl _,OwnIss.nil _ _ _⟩
 case round =>
  obtain ⟨k,A',c',hk,rfl,rfl,hext,hown⟩:=hrel;have HE:=Hd hext;have HO:=Hd hown;have hml:((set.map Int.toNat).map fun f=>Ad rows f).length=set.length:=AC;have HML:=Hd hml;clear hown hml;by_cases hlt:k<set.length
  ·obtain ⟨b1,o1,rfl,z1,c1⟩:=(HA.o.keep (hext.kept S)).at_ hlt;have hrm:=HR.o _ (List.getElem_mem hlt);obtain ⟨x,hx⟩:=Int.eq_ofNat_of_zero_le hrm.1;have hx2:x<nc:=AA;rw [hx] at c1;obtain ⟨b2,o2,B2,c2,rfl,z2',d1',hcp,hint⟩:=HB.o.at_ (show x<(EX rows nc).length by rw [HLSL.o];exact hx2);have d1:=hext.cell d1';have z2:b2<wr.heap.size:=(by have:=hext.size;omega);have hlx:(EX rows nc)[x]'(by rw [HLSL.o];exact hx2)=Ad rows x:=(by simp [EX]);rw [hlx] at d1 hcp hint;have HINT:=Hd (hint.mono (T:=fun b=>b<w.heap.size) (fun i hi _=>hi));have hval:((set.map Int.toNat).map fun f=>Ad rows f)[k]'EN=Ad rows x:=(by simp [hx]);have HVAL:=Hd hval;have hlk:(((set.map Int.toNat).map fun f=>Ad rows f).take k).length=k:=(by rw [List.length_take,HML.o];omega);obtain ⟨hs,ho,hv⟩:=HO.o.ext ((Ext.refl wr).alloc (.cells #[.slice B2 (Ad rows x).length c2] 22));have hhs:hs.length=k:=(by have:=ho.len;rw [hlk] at this;omega);rw [hlk] at ho;obtain ⟨HOWN,HV,HHS,HLK⟩:=Hd4 ho hv hhs hlk;have hszw:=HE.o.size;clear ho hv hhs hlk hval hext hint d1' hlx hrm hx z2'
   go_wp2_with (at_builtin;go_must (refine AL rfl (.tmp 17) (.tmp 22) rfl DCA rfl HOWN.o rfl (Blk.rd (Blk.new _ _ _)) rfl AP AA AB AI ?_);intro A4 c4 w4 hown4 hg4 hat4)
   go_roundw
   case rel =>
    refine ⟨k+1,A4,c4,AA,AE,rfl,Ext.grown (HE.o.alloc _) hg4 (fun b hb=>(HOWN.o.blk hb).1),?_⟩;rw [List.take_succ_eq_append_getElem EN,HVAL.o];refine OwnIss.push (by rw [HLK.o];exact HHS.o) HV.o (by rw [HLK.o];exact hown4) hg4 hat4 hcp ((HINT.o.keep (((HE.o.alloc _)).kept _)).mono fun i _ hi=>⟨fun h0 => ?_,hi⟩);have:=(HO.o.blk h0).1;omega
   case measure=>simp [intOf];omega
  ·obtain rfl:k=set.length:=AA;have hoo:=HO.o;rw [List.take_of_length_le (by rw [HML.o];exact Al)] at hoo;have HRS:=Hd (hoo.riss (T:=fun _=>True) (by rw [HML.o];exact hal) (fun _ _=>trivial) (fun _ _=>trivial));clear hoo hext;have hgl:=NI rows.length ((set.map Int.toNat).map fun f=>Ad rows f) A' c' wr (fun _=>True) HRS.o (fun l hl=>by obtain ⟨f,_,rfl⟩:=List.mem_map.1 hl;simp [Ad]) hrl;rw [HML.o] at hgl;have HGL:=Hd hgl;clear hgl
   go_wp2_with fail
   refine HGL.o.mono ?_;rintro e w1 ⟨gs,hgo,A1,c1,rfl,hcp1,hi1,hx1⟩;obtain ⟨HX1,HGO,HI1⟩:=Hd3 hx1 hgo hi1;have hgsl:=hgo.len;have HGSL:=Hd hgsl;clear hx1 hgo hi1 hgsl;have hcf:=Jk (EX rows nc) gs B A1 cb c1 w1.heap.size (w1.alloc (.cells #[.slice A1 gs.length c1] 22)) T (BO wr) (HB.o.keep (((HE.o.trans HX1.o).alloc _).kept T)) ((Blk.new w1 22 #[.slice A1 gs.length c1]).cell rfl) (HI1.o.keep (Kept.alloc _ _ _)) (fun l hl=>by rw [HGSL.o];obtain ⟨f,_,rfl⟩:=List.mem_map.1 hl;simp [Ad]);rw [HLSL.o] at hcf;have HCF:=Hd hcf;clear hcf
   go_wp2_with fail
   refine HCF.o.mono ?_;rintro e w2 ⟨rfl,hx2⟩;have HX2:=Hd hx2;clear hx2;have HF:=Hd (show (!((EX rows nc).any fun l => !Fr gs l))=F9 rows nc (set.map Int.toNat) by
    unfold EX F9;rw [List.any_map,List.not_any_eq_all_not];congr 1
    funext c
    simp only [Function.comp_apply,Bool.not_not];exact Ny HGO.o)
   go_wp2;go_ret;exact ⟨by rw [←HF.o];rfl,HE.o.trans (HX1.o.trans ((exaa w1).trans HX2.o))⟩

def GW(n i:Nat):List (List Int):=(List.range' (i+1) (n-(i+1))).map fun j:Nat=>[(i:Int),(j:Int)]
def Fz(n:Nat):List (List Int):=[[]]++((List.range n).map fun i:Nat=>[(i:Int)])++(List.range n).flatMap (GW n)
def GMA(w:World)(l:List (List Int))(e:Ending)(w':World):Prop:=∃ A c,e=.returned (.slice A l.length c)∧l.length≤c∧RIss w' (BO w) A l∧Ext w w'
theorem OwnIss.add{w:World}{base c:Nat}{X:NP}{A:OA}{l:List (List Int)}(h:OwnIss w base X A c l):∃ hs,hs.length=l.length∧Own w base 22 1 A l.length c hs∧∀ (i:Nat) (r:List Int),l[i]?=some r→∃ (B:OA) (e:Nat),hs[i]?=some (Value.slice B r.length e)∧r.length≤e∧Ints w (fun b=>ob A≠some b∧X b) B r:=by
 obtain ⟨hs,h1,h2⟩:=h;exact ⟨hs,by simpa using h1.len,h1,h2⟩

theorem AYA(n:Nat)(w:World)(hn:n≤1000):Cl 140 #[.I (n:Int)] w (GMA w (Fz n)):=by
 go_enter func140,ntmps140
 go_wp2;have HB0:=Hd (Blk.new (w.alloc (.cells #[] 3)) 22 #[.slice (some ⟨w.heap.size,0,none⟩) 0 0]);have hst:OwnIss ((w.alloc (.cells #[] 3)).alloc (.cells #[.slice (some ⟨w.heap.size,0,none⟩) 0 0] 22)) w.heap.size (BO w) (some ⟨w.heap.size+1,0,none⟩) 1 ([[]]++(List.range 0).map fun i:Nat=>[(i:Int)]):=by
  refine ⟨[.slice (some ⟨w.heap.size,0,none⟩) 0 0],?_,fun i r hr => ?_⟩
  ·have:=IIA (n:=1) (sz:=1) (base:=w.heap.size) HB0.o AC Bd AC
   simpa using this
  ·have hi:i=0:=by
    have:=(List.getElem?_eq_some_iff.1 hr).1;simp at this;exact this
   subst hi;simp at hr;subst hr;exact ⟨_,0,rfl,Al,Ints.nil⟩
 have HST:=Hd hst;clear hst
 go_loopw [10,3] (fun i v wr=>∃ (k:Nat) (A':OA) (c':Nat),k≤n∧i=.I k∧v=.slice A' (k+1) c'∧Ext w wr∧OwnIss wr w.heap.size (BO w) A' c' ([[]]++(List.range k).map fun i:Nat=>[(i:Int)])) (fun i _ _=>n-(intOf i).toNat)
 case atStart=>exact ⟨0,_,_,AN,rfl,rfl,(exaa w).alloc _,HST.o⟩
 case round =>
  clear HST HB0;obtain ⟨k,A',c',hk,rfl,rfl,hext,hown⟩:=hrel;have HE:=Hd hext;have HO:=Hd hown;have hszw:=hext.size;clear hown hext;by_cases hlt:k<n
  ·have hll:([[]]++(List.range k).map fun i:Nat=>[(i:Int)]).length=k+1:=AC;obtain ⟨hs,hhs,ho,hv⟩:=(HO.o.ext (((Ext.refl wr).alloc (.cells #[.I (k:Int)] 3)).alloc (.cells #[.slice (some ⟨wr.heap.size,0,none⟩) 1 1] 22))).add;rw [hll] at ho;obtain ⟨HOWN,HV,HHS,HLL⟩:=Hd4 ho hv hhs hll;have hbn:=Blk.new (wr.alloc (.cells #[.I (k:Int)] 3)) 22 #[.slice (some ⟨wr.heap.size,0,none⟩) 1 1];rw [show (wr.alloc (.cells #[.I (k:Int)] 3)).heap.size=wr.heap.size+1 by simp] at hbn;have HBN:=Hd hbn;clear ho hv hhs hll hbn
   go_wp2_with (at_builtin;go_must (refine AL rfl (.tmp 13) (.tmp 16) rfl DCA rfl HOWN.o rfl (Blk.rd HBN.o) rfl AP AA AB AI ?_);intro A4 c4 w4 hown4 hg4 hat4)
   go_roundw
   case rel =>
    refine ⟨k+1,A4,c4,AA,AE,rfl,Ext.grown ((HE.o.alloc _).alloc _) hg4 (fun b hb=>(HOWN.o.blk hb).1),?_⟩;rw [List.range_succ,List.map_append,←List.append_assoc];refine OwnIss.push (r:=[(k:Int)]) HHS.o HV.o (by rw [HLL.o];exact hown4) hg4 hat4 (Al) ⟨?_,AC⟩;refine ((Blk.rd (Blk.new wr 3 #[.I (k:Int)])).keep (Kept.alloc _ _ _)).mono fun i _ hi=>⟨fun h0 => ?_,?_⟩
    ·have:=(HO.o.blk h0).2;omega
    ·unfold BO;omega
   case measure=>simp [intOf];omega
  ·obtain rfl:k=n:=AA;have hgo0:OwnIss wr w.heap.size (BO w) A' c' ([[]]++((List.range k).map fun i:Nat=>[(i:Int)])++(List.range 0).flatMap (GW k)):=by
    have:=HO.o
    simpa using this
   have HO2:=Hd hgo0;clear hgo0 HO;go_wp2
   go_loopw [20,3] (fun i v wr=>∃ (m:Nat) (A':OA) (c':Nat) (l:List (List Int)),m≤k∧l=[[]]++((List.range k).map fun i:Nat=>[(i:Int)])++(List.range m).flatMap (GW k)∧i=.I m∧v=.slice A' l.length c'∧Ext w wr∧l.length≤2000+m*1000∧OwnIss wr w.heap.size (BO w) A' c' l) (fun i _ _=>k-(intOf i).toNat)
   case atStart=>exact ⟨0,_,_,_,AN,rfl,rfl,AC,HE.o,AI,HO2.o⟩
   case round =>
    clear HO2 HE hszw;obtain ⟨m,A2,c2,l,hm,hl,rfl,rfl,hext2,hll2,hown2⟩:=hrel;obtain ⟨HL,HE2,HO3⟩:=Hd3 hl hext2 hown2;clear hl hext2 hown2;obtain ⟨wo,rfl⟩:∃ wo:World,wo=wr:=⟨_,rfl⟩;by_cases hlt2:m<k
    ·go_wp2
     go_loopw [6,3] (fun i v wr=>∃ (q:Nat) (A':OA) (c':Nat) (l2:List (List Int)),q≤k-(m+1)∧l2=l++(List.range' (m+1) q).map (fun j:Nat=>[(m:Int),(j:Int)])∧i=.I ((m+1+q:Nat):Int)∧v=.slice A' l2.length c'∧Ext w wr∧l2.length≤l.length+q∧OwnIss wr w.heap.size (BO w) A' c' l2) (fun i _ _=>k-(intOf i).toNat)
     case atStart=>exact ⟨0,A2,c2,l,AN,AC,AE,rfl,HE2.o,AC,HO3.o⟩
     case round =>
      obtain ⟨q,A3,c3,l2,hq,hl2,rfl,rfl,hext3,hll3,hown3⟩:=hrel;obtain ⟨HL2,HE3,HO4⟩:=Hd3 hl2 hext3 hown3;have hszw:=hext3.size;clear hl2 hext3 hown3;by_cases hlt3:m+1+q<k
      ·obtain ⟨hs,hhs,ho,hv⟩:=(HO4.o.ext (((Ext.refl wr).alloc (.cells #[.I (m:Int),.I ((m+1+q:Nat):Int)] 3)).alloc (.cells #[.slice (some ⟨wr.heap.size,0,none⟩) 2 2] 22))).add;obtain ⟨HOWN,HV,HHS⟩:=Hd3 ho hv hhs;have hbn:=Blk.new (wr.alloc (.cells #[.I (m:Int),.I ((m+1+q:Nat):Int)] 3)) 22 #[.slice (some ⟨wr.heap.size,0,none⟩) 2 2];rw [show (wr.alloc (.cells #[.I (m:Int),.I ((m+1+q:Nat):Int)] 3)).heap.size=wr.heap.size+1 by simp] at hbn;have HBN:=Hd hbn;clear ho hv hhs hbn
       go_wp2_with (at_builtin;go_must (refine AL rfl (.tmp 30) (.tmp 34) rfl DCA rfl HOWN.o rfl (Blk.rd HBN.o) rfl AP AA AB AI ?_);intro A4 c4 w4 hown4 hg4 hat4)
       go_roundw
       case rel =>
        refine ⟨q+1,A4,c4,l2++[[(m:Int),((m+1+q:Nat):Int)]],AA,?_,AE,AC,Ext.grown ((HE3.o.alloc _).alloc _) hg4 (fun b hb=>(HOWN.o.blk hb).1),AI,?_⟩
        ·rw [HL2.o,List.range'_1_concat,List.map_append,←List.append_assoc];simp
        ·refine OwnIss.push (r:=[(m:Int),((m+1+q:Nat):Int)]) HHS.o HV.o hown4 hg4 hat4 (Al) ⟨?_,AC⟩;refine ((Blk.rd (Blk.new wr 3 #[.I (m:Int),.I ((m+1+q:Nat):Int)])).keep (Kept.alloc _ _ _)).mono fun i _ hi=>⟨fun h0 => ?_,?_⟩
         ·have:=(HO4.o.blk h0).2;omega
         ·unfold BO;omega
       case measure=>simp [intOf];omega
      ·have hqe:q=k-(m+1):=AA;have HQ:=Hd hqe;clear hqe;go_wp2;go_roundw
       case rel =>
        refine ⟨m+1,A3,c3,l2,AA,?_,AE,rfl,HE3.o,AA,HO4.o⟩;rw [HL2.o,HL.o,HQ.o,List.range_succ,List.flatMap_append,←List.append_assoc];simp [GW]
       case measure=>simp [intOf];omega
    ·obtain rfl:m=k:=AA;obtain rfl:l=Fz m:=HL.o;have HC:=Hd (show (Fz m).length≤c2 by obtain ⟨hs,_,h1,_⟩:=HO3.o.add;exact h1.cap);clear HL;go_wp2;go_ret;exact ⟨A2,c2,rfl,HC.o,HO3.o.riss AA (fun b hb=>(HO3.o.blk hb).1) (fun _ h=>h),HE2.o⟩

theorem J2{α:Type} [DecidableEq α]:∀ {l m:List α},l.Nodup→(∀ x∈l,x∈m)→l.length≤m.length
 |[],_,_,_=>AN
 |x::l,m,hn,hs=>by
  have hx:x∈m:=hs x (List.mem_cons_self);have h1:=List.nodup_cons.1 hn;have:=J2 (l:=l) (m:=m.erase x) h1.2 (fun y hy=>by
   have hne:y≠x:=fun e=>h1.1 (e ▸ hy);exact (List.mem_erase_of_ne hne).2 (hs y (List.mem_cons_of_mem _ hy)))
  rw [List.length_erase_of_mem hx] at this;have hp:0<m.length:=List.length_pos_of_mem hx;simp;omega
structure Part(l:List Dep)(frm ks:List BA):Prop where
 nodup:ks.Nodup
 base:∀ x∈frm,x∈ks
 least:∀ T:BA→Prop,(∀ x∈frm,T x)→(∀ d∈l,(∀ x∈d.frm,T x)→T d.tov)→∀ x∈ks,T x
theorem Part.len{l:List Dep}{frm ks:List BA}(h:Part l frm ks):ks.length≤frm.length+l.length:=by
 have:=J2 h.nodup (m:=frm++l.map Dep.tov) (h.least (fun x=>x∈frm++l.map Dep.tov) (fun x hx=>List.mem_append_left _ hx) (fun d hd _=>List.mem_append_right _ (List.mem_map_of_mem hd)))
 simpa using this
theorem Part.add{l:List Dep}{frm ks:List BA}(h:Part l frm ks){d:Dep}(hd:d∈l)(hf:∀ x∈d.frm,x∈ks)(hx:d.tov ∉ ks):Part l frm (ks++[d.tov]):=by
 refine ⟨?_,fun x hx=>List.mem_append_left _ (h.base x hx),fun T h1 h2 x hx => ?_⟩
 ·rw [List.nodup_append];refine ⟨h.nodup,AC,?_⟩;intro a ha b hb;simp at hb;subst hb;exact fun e=>hx (e ▸ ha)
 ·rcases List.mem_append.1 hx with hx|hx
  ·exact h.least T h1 h2 x hx
  ·simp at hx;subst hx;exact h2 d hd (fun y hy=>h.least T h1 h2 y (hf y hy))
theorem CNA{l ks:List BA} : (l.any fun x => !TF ks x)=false↔∀ x∈l,x∈ks:=by
 rw [List.any_eq_false];constructor
 ·intro h x hx;have:=h x hx;rw [←Ml]
  simpa using this
 ·intro h x hx;have:=(Ml ks x).2 (h x hx);simp [this]
def G3A(w:World)(l:List Dep)(frm:List BA)(e:Ending)(w':World):Prop:=∃ ks,IsClosure l frm ks∧CEA w (An ks) e w'

theorem Vn(l:List Dep)(frm:List BA)(A B:OA)(ca cb:Nat)(w:World)(S T:NP)(hA:RDeps w S A l)(hB:Strs w T B frm)(hsm:frm.length+l.length≤4294967296) :
  Cl 209 #[.slice A l.length ca,.slice B frm.length cb] w (G3A w l frm):=by
 have hal:=hA.1;have hbl:=hB.2.1;have HA:=Hd hA;have HB:=Hd hB;clear hA hB;have hmm:=@run_makeMap prog
 go_enter func209,ntmps209
 go_wp2
 go_step3
 go_wp2;clear hmm;have HBX:=Hd (Blk.new (w.alloc (.map #[] 0)) 183 #[.map (some w.heap.size)]);have HSET:=Hd (show SetIs ((w.alloc (.map #[] 0)).alloc (.cells #[.map (some w.heap.size)] 183)) w.heap.size [] from (IHA w _).keep (Kept.alloc _ _ _))
 go_loopw [15] (fun i wr=>∃ (k:Nat) (ks:List BA),k≤frm.length∧i=.I k∧Ext w wr∧w.heap.size+1<wr.heap.size∧wr.cell? ⟨w.heap.size+1,0,none⟩=some (.map (some w.heap.size))∧SetIs wr w.heap.size ks ∧
   ks.Nodup∧(∀ j (h:j<frm.length),j<k→frm[j]∈ks)∧(∀ x∈ks,x∈frm)) (fun i _=>frm.length-(intOf i).toNat)
 case atStart=>exact ⟨0,[],AN,rfl,(exaa w).alloc _,AC,AC,HSET.o,AC,AK,AC⟩
 case round =>
  obtain ⟨k,ks,hk,rfl,hext,hsz,hbox,hset,h1,h2,h3⟩:=hrel;obtain ⟨HE,HS,H1,H2,H3⟩:=Hd5 hext hset h1 h2 h3;clear hset h1 h2 h3;by_cases hlt:k<frm.length
  ·obtain ⟨b1,o1,rfl,z1,c1⟩:=(HB.o.keep (hext.kept T)).at_ hlt;obtain ⟨w',ks',hup,hset',hg',hks⟩:=HS.o.put frm[k];obtain ⟨HS',HG',HKS,HBX2⟩:=Hd4 hset' hg' hks hbox;clear hset' hg' hks hext;go_wp2;go_roundw
   case rel =>
    refine ⟨k+1,ks',AA,AE,HE.o.grown HG'.out (fun b hb=>GQ),by have:=HG'.out.size;omega,?_,HS'.out,?_,fun j h hj => ?_,fun x hx => ?_⟩
    ·rw [World.cell?_of_block (HG'.out.block (w.heap.size+1) hsz (fun e=>Gp))];exact HBX2.o
    ·rcases HKS.o with ⟨_,rfl⟩|⟨hn,rfl⟩
     ·exact H1.o
     ·rw [List.nodup_append];refine ⟨H1.o,AC,?_⟩;intro a ha b hb;simp at hb;subst hb;exact fun e=>hn (e ▸ ha)
    ·rcases HKS.o with ⟨hm,rfl⟩|⟨hn,rfl⟩
     ·by_cases hjk:j=k
      ·subst hjk;exact hm
      ·exact H2.o j h AA
     ·by_cases hjk:j=k
      ·subst hjk;simp
      ·exact List.mem_append_left _ (H2.o j h AA)
    ·rcases HKS.o with ⟨hm,rfl⟩|⟨hn,rfl⟩
     ·exact H3.o x hx
     ·rcases List.mem_append.1 hx with hx|hx
      ·exact H3.o x hx
      ·simp at hx;subst hx;exact List.getElem_mem hlt
   case measure=>simp [intOf];omega
  ·have hpart:Part l frm ks:=⟨H1.o,fun x hx=>by
    obtain ⟨i,hi,rfl⟩:=List.mem_iff_getElem.1 hx;exact H2.o i hi AA,fun T h1 _ x hx=>h1 x (H3.o x hx)⟩
   obtain ⟨HP,HBX2,HSZ⟩:=Hd3 hpart hbox hsz;clear hpart hext hbox hsz;go_wp2
   go_step3
   go_wp2
   go_loopg [9] (frm.length+l.length+1) (fun gk _ wr=>∃ ks:List BA,frm.length+l.length+1≤gk+ks.length∧Ext w wr∧w.heap.size+1<wr.heap.size∧wr.cell? ⟨w.heap.size+1,0,none⟩=some (.map (some w.heap.size))∧SetIs wr w.heap.size ks∧Part l frm ks)
   case atStart=>exact ⟨ks,AA,HE.o,HSZ.o,HBX2.o,HS.o,HP.o⟩
   case round =>
    clear HE HS H1 H2 H3 HP HBX2 HSZ HBX HSET hlt hk;obtain ⟨ks0,hgk,hext,hsz,hbox,hset,hpart⟩:=hrel;have hkl:=hpart.len;obtain ⟨HE,HS,HP⟩:=Hd3 hext hset hpart;have hlen:=hset.len 3;have HBX:=Hd hbox;have HGK:=Hd hgk;clear hset hpart hext hgk;go_wp2;clear hlen;obtain ⟨wo,rfl⟩:∃ wo:World,wo=wr:=⟨_,rfl⟩;clear hbox
    go_loopw [27] (fun i wi=>∃ (j:Nat) (ks:List BA),j≤l.length∧i=.I j∧Ext w wi∧w.heap.size+1<wi.heap.size∧wi.cell? ⟨w.heap.size+1,0,none⟩=some (.map (some w.heap.size))∧SetIs wi w.heap.size ks∧Part l frm ks∧ks0.length≤ks.length ∧
      (ks.length=ks0.length→ks=ks0∧∀ m (h:m<l.length),m<j→(∀ x∈l[m].frm,x∈ks0)→l[m].tov∈ks0)) (fun i _=>l.length-(intOf i).toNat)
    case atStart=>exact ⟨0,ks0,AN,rfl,HE.o,hsz,HBX.o,HS.o,HP.o,Al,fun _=>⟨rfl,AK⟩⟩
    case round =>
     obtain ⟨j,ks,hj,rfl,hexi,hszi,hbxi,hsti,hpti,hle,hsame⟩:=hrel;obtain ⟨HEI,HSI,HPI,HSAME,HBI⟩:=Hd5 hexi hsti hpti hsame hbxi;have hkl2:=hpti.len;clear hsti hpti hsame;by_cases hlt:j<l.length
     ·obtain ⟨b1,o1,B2,c2,rfl,z1,p0,p1,hcp,hts,hstr⟩:=(HA.o.keep (hexi.kept S)).at_ hlt;have HSTR:=Hd hstr;clear hstr hexi;have HCF:=Hd (Jo l[j].frm B2 c2 (w.heap.size+1) w.heap.size ks (wr.alloc (.cells #[.slice B2 l[j].frm.length c2,.string l[j].tov] 69)) S (HSTR.o.keep (Kept.alloc _ _ _)) ((exaa wr).cell HBI.o) (HSI.o.keep (Kept.alloc _ _ _)));cases hany:(l[j].frm.any fun x => !TF ks x)
      ·have hall:=CNA.1 hany;have HALL:=Hd hall;have HANY:=Hd hany;clear hall hany;obtain ⟨w',ks',hup,hset',hg',hks⟩:=(HSI.o.keep (Kept.alloc _ wr (.cells #[.slice B2 l[j].frm.length c2,.string l[j].tov] 69)):SetIs _ _ _).put l[j].tov;obtain ⟨HS',HG',HKS⟩:=Hd3 hset' hg' hks;clear hset' hg' hks
       go_wp2_with (go_at_call 224;refine HCF.o.mono ?_;rintro e1 w1 ⟨rfl,rfl⟩;rw [HANY.o])
       go_roundw
       case rel =>
        have hszw:=HG'.out.size;simp at hszw;refine ⟨j+1,ks',AA,AE,(HEI.o.alloc _).grown HG'.out (fun b hb=>GQ),AA,?_,HS'.out,?_,?_,?_⟩
        ·rw [World.cell?_of_block (HG'.out.block (w.heap.size+1) AI (fun e=>Gp))];exact (exaa wr).cell HBI.o
        ·rcases HKS.o with ⟨_,rfl⟩|⟨hn,rfl⟩
         ·exact HPI.o
         ·exact HPI.o.add (List.getElem_mem hlt) HALL.o hn
        ·rcases HKS.o with ⟨_,rfl⟩|⟨hn,rfl⟩
         ·exact hle
         ·simp;omega
        ·intro hsl
         rcases HKS.o with ⟨hm,rfl⟩|⟨hn,rfl⟩
         ·obtain ⟨e1,e2⟩:=HSAME.o hsl;refine ⟨e1,fun m h hm2 hf => ?_⟩;by_cases hmj:m=j
          ·subst hmj;rw [←e1];exact hm
          ·exact e2 m h AA hf
         ·simp at hsl;omega
       case measure=>simp [intOf];omega
      ·have HANY:=Hd hany;clear hany
       go_wp2_with (go_at_call 224;refine HCF.o.mono ?_;rintro e1 w1 ⟨rfl,rfl⟩;rw [HANY.o])
       go_roundw
       case rel =>
        refine ⟨j+1,ks,AA,AE,HEI.o.alloc _,AI,(exaa wr).cell HBI.o,HSI.o.keep (Kept.alloc _ _ _),HPI.o,hle,fun hsl => ?_⟩;obtain ⟨e1,e2⟩:=HSAME.o hsl;refine ⟨e1,fun m h hm2 hf => ?_⟩;by_cases hmj:m=j
        ·subst hmj;exfalso;rw [←e1] at hf;have:=CNA.2 hf;rw [HANY.o] at this;cases this
        ·exact e2 m h AA hf
       case measure=>simp [intOf];omega
     ·have hlen:=HSI.o.len 3;clear hexi;by_cases heq:ks.length=ks0.length
      ·have heq':((ks.length:Int)==(ks0.length:Int))=true:=(by simp [heq]);obtain ⟨rfl,hcl⟩:=HSAME.o heq;have HCL:=Hd (show IsClosure l frm ks from ⟨HPI.o.nodup,HPI.o.base,fun d hd hf=>by
        obtain ⟨i,hi,rfl⟩:=List.mem_iff_getElem.1 hd;exact hcl i hi AA hf,HPI.o.least⟩)
       have hksz:∀ x∈ks,x.size≤4294967296:=HPI.o.least _ (fun x hx=>HB.o.2.2 x hx) (fun d hd _=>by
        obtain ⟨i,hi,rfl⟩:=List.mem_iff_getElem.1 hd;obtain ⟨_,_,_,_,_,_,_,_,_,h9,_⟩:=HA.o.at_ hi;exact h9)
       have HKSZ:=Hd hksz;clear heq hcl hksz
       go_wp2_with fail
       refine (ClA w.heap.size _).mono ?_;rintro e1 w1 ⟨rfl,rfl⟩
       go_wp2_with fail
       refine (Vf w.heap.size (ks.map fun k=>(k,Value.bool true)) _ HSI.o AC (by simpa using HKSZ.o) AI).mono ?_;have hmk:(ks.map fun k=>(k,Value.bool true)).map (·.1)=ks:=(by simp [Function.comp_def]);rw [hmk];clear hmk;rintro e1 w1 ⟨A9,c9,rfl,hc9,hs9,hx9⟩;have HX9:=Hd hx9;clear hx9 hlen;go_wp2;rw [Exit.noGoto_ret];go_ret;exact ⟨ks,HCL.o,A9,c9,rfl,hc9,hs9.mono (T:=BO w) (fun i _ hi=>by unfold BO at hi⊢;simp at hi;omega),HEI.o.trans ((exaa wr).trans HX9.o)⟩
      ·have heq':((ks.length:Int)==(ks0.length:Int))=false:=by
        rw [beq_eq_false_iff_ne];omega
       go_wp2
       go_roundg (gk-1)
       case measure=>have:=HGK.o;omega
       case rel=>exact ⟨ks,by have:=HGK.o;omega,HEI.o,hszi,HBI.o,HSI.o,HPI.o⟩

def OwnDs(w:World)(base:Nat)(X:NP)(A:OA)(c:Nat)(l:List Dep):Prop :=
 ∃ xs,Own w base 69 2 A l.length c xs∧∀ (i:Nat) (d:Dep),l[i]?=some d→∃ (B:OA) (e:Nat),xs[i*2]?=some (.slice B d.frm.length e)∧xs[i*2+1]?=some (.string d.tov)∧d.frm.length≤e∧d.tov.size≤4294967296∧Strs w (fun b=>ob A≠some b∧X b) B d.frm
theorem Strs.move{w w':World}{S T:NP}{l:List BA}{B:OA}(h:Strs w S B l)(k:Kept S w w')(m:∀ i,i<w.heap.size→S i→T i):Strs w' T B l :=
 ((Strs.mono h (T:=fun b=>S b∧T b) fun i hi hs=>⟨hs,m i hi hs⟩).keep (k.mono fun _ _ hh=>hh.1)).mono fun _ _ hh=>hh.2
theorem OwnDs.nil(w:World)(base:Nat)(X:NP):OwnDs w base X none 0 []:=⟨[],Own.nil _ _ _ _,AC⟩
theorem OwnDs.keep{w w':World}{base c:Nat}{X:NP}{A:OA}{l:List Dep}(h:OwnDs w base X A c l)(hk:Kept (fun b=>ob A=some b∨X b) w w'):OwnDs w' base X A c l:=by
 obtain ⟨hs,h1,h2⟩:=h;refine ⟨hs,h1.keep (hk.mono fun _ _ hh=>Or.inl hh),fun i r hr => ?_⟩;obtain ⟨B,e,h3,h4,h5,h6,h7⟩:=h2 i r hr;exact ⟨B,e,h3,h4,h5,h6,h7.keep (hk.mono fun _ _ hh=>Or.inr hh.2)⟩
theorem OwnDs.ext{w w':World}{base c:Nat}{X:NP}{A:OA}{l:List Dep}(h:OwnDs w base X A c l)(hx:Ext w w'):OwnDs w' base X A c l:=h.keep (hx.kept _)
theorem OwnDs.mono{w:World}{base c:Nat}{X T:NP}{A:OA}{l:List Dep}(h:OwnDs w base X A c l)(hm:∀ b,b<w.heap.size→X b→T b):OwnDs w base T A c l:=by
 obtain ⟨hs,h1,h2⟩:=h;refine ⟨hs,h1,fun i r hr => ?_⟩;obtain ⟨B,e,h3,h4,h5,h6,h7⟩:=h2 i r hr;exact ⟨B,e,h3,h4,h5,h6,h7.mono fun i hi hh=>⟨hh.1,hm i hi hh.2⟩⟩
theorem OwnDs.push{w w':World}{base c':Nat}{X:NP}{A A':OA}{l:List Dep}{r:Dep}{B:OA}{e:Nat}{hs:List Value}(ho:hs.length=l.length*2)
  (hv:∀ (i:Nat) (d:Dep),l[i]?=some d→∃ (B:OA) (e:Nat),hs[i*2]?=some (.slice B d.frm.length e)∧hs[i*2+1]?=some (.string d.tov)∧d.frm.length≤e∧d.tov.size≤4294967296∧Strs w (fun b=>ob A≠some b∧X b) B d.frm)
  (hown:Own w' base 69 2 A' (l.length+1) c' (hs++[Value.slice B r.frm.length e,.string r.tov])) (hg:w.grownBy w' (ob A)) (hat:ob A'=ob A∨ob A'=some w.heap.size)
  (hre:r.frm.length≤e) (hrt:r.tov.size≤4294967296) (hy:Strs w (fun b=>ob A≠some b∧X b) B r.frm):OwnDs w' base X A' c' (l++[r]):=by
 have hk:Kept (fun b=>ob A≠some b∧X b) w w':=Kept.of_grown hg (fun b hb _ e=>hb.1 e.symm);have hm:∀ i,i<w.heap.size→(ob A≠some i∧X i)→(ob A'≠some i∧X i):=by
  exact GO
 refine ⟨_,Dg,fun i r' hr => ?_⟩
 rcases Nat.lt_or_ge i l.length with hlt|hge
 ·rw [List.getElem?_append_left hlt] at hr;obtain ⟨B',e',h3,h4,h5,h6,h7⟩:=hv i r' hr;exact ⟨B',e',by rw [List.getElem?_append_left AA];exact h3,by rw [List.getElem?_append_left AA];exact h4,h5,h6,h7.move hk hm⟩
 ·rw [List.getElem?_append_right hge] at hr;have hj0:i-l.length=0:=by
   exact Lt
  rw [hj0] at hr;simp at hr;subst hr;obtain rfl:i=l.length:=AA;exact ⟨B,e,by rw [List.getElem?_append_right AA,ho,Nat.sub_self];rfl,by rw [List.getElem?_append_right AA,ho,Nat.add_sub_cancel_left];rfl,hre,hrt,hy.move hk hm⟩
theorem OwnDs.rdeps{w:World}{base c:Nat}{X T:NP}{A:OA}{l:List Dep}(h:OwnDs w base X A c l)(hl:l.length≤4294967296)(h1:∀ b,ob A=some b→T b)(h2:∀ b,X b→T b):RDeps w T A l:=by
 obtain ⟨hs,ho,hv⟩:=h;refine ⟨hl,hs,ho.rd.mono fun i _ hi=>h1 i hi,by simpa using ho.len,fun i r hr => ?_⟩;obtain ⟨B,e,h3,h4,h5,h6,h7⟩:=hv i r hr;exact ⟨B,e,h3,h4,h5,h6,h7.mono fun i _ hi=>h2 i hi.2⟩
theorem OwnDs.blk{w:World}{base c:Nat}{X:NP}{A:OA}{l:List Dep}(h:OwnDs w base X A c l){k:Nat}(hk:ob A=some k):base≤k∧k<w.heap.size:=by
 exact ID
theorem OwnDs.add{w:World}{base c:Nat}{X:NP}{A:OA}{l:List Dep}(h:OwnDs w base X A c l):∃ hs,hs.length=l.length*2∧Own w base 69 2 A l.length c hs∧∀ (i:Nat) (d:Dep),l[i]?=some d→∃ (B:OA) (e:Nat),hs[i*2]?=some (.slice B d.frm.length e)∧hs[i*2+1]?=some (.string d.tov)∧d.frm.length≤e∧d.tov.size≤4294967296∧Strs w (fun b=>ob A≠some b∧X b) B d.frm:=by
 obtain ⟨hs,h1,h2⟩:=h;exact ⟨hs,h1.len,h1,h2⟩
theorem OwnIss.keep{w w':World}{base c:Nat}{X:NP}{A:OA}{l:List (List Int)}(h:OwnIss w base X A c l)(hk:Kept (fun b=>ob A=some b∨X b) w w'):OwnIss w' base X A c l:=by
 obtain ⟨hs,h1,h2⟩:=h;refine ⟨hs,h1.keep (hk.mono fun _ _ hh=>Or.inl hh),fun i r hr => ?_⟩;obtain ⟨B,e,h3,h4,h7⟩:=h2 i r hr;exact ⟨B,e,h3,h4,h7.keep (hk.mono fun _ _ hh=>Or.inr hh.2)⟩
theorem GYA:(prog.info? 69).map (fun i=>(i.zero,i.size,i.bytes))=some (some (.agg #[.slice none 0 0,.string ⟨#[]⟩]),2,40):=by kernel_rfl
theorem tiD:TI prog 37 69 2 40:=IKA underlying37 GYA rfl AB

def Ch(cols:List BA)(s:List Int)(n:Nat):List Dep:=((List.range n).filter fun c:Nat => !KC s (c:Int)).map fun c=>⟨Dd cols s,cols.getD c ⟨#[]⟩⟩
def BN(cols:List BA)(rows:List (List Val))(st:List (List Int) × List Dep)(s:List Int):List (List Int) × List Dep :=
 if st.1.any (fun k=>MG k s) then st else if !F9 rows cols.length (s.map Int.toNat) then st else (st.1++[s],st.2++Ch cols s cols.length)
def Lw(l:List BA):Bool:=decide l.Nodup
def Co(cols:List BA)(rows:List (List Val)):List Dep :=
 if !Lw cols||!EF cols rows then [] else ((Fz cols.length).foldl (BN cols rows) ([],[])).2
def DTA(w:World)(l:List Dep)(e:Ending)(w':World):Prop:=∃ A c,e=.returned (.slice A l.length c)∧l.length≤c∧RDeps w' (BO w) A l∧Ext w w'

theorem C4A(n:Nat)(hn:n≤1000):(Fz n).length≤1002000:=by
 unfold Fz;have:∀ m,((List.range m).flatMap (GW n)).length≤m*1000:=by
  intro m
  induction m with
  |zero=>simp
  |succ m ih =>
   rw [List.range_succ,List.flatMap_append,List.length_append];have:([m].flatMap (GW n)).length≤1000:=(by simp [GW];omega);omega
 have:=this n;simp only [List.length_append,List.length_map,List.length_range,List.length_cons,List.length_nil];omega
theorem DIA(n:Nat):∀ s∈Fz n,∀ c∈s,0≤c∧c<(n:Int):=by
 intro s hs c hc;unfold Fz at hs
 rcases List.mem_append.1 hs with hs|hs
 ·rcases List.mem_append.1 hs with hs|hs
  ·simp at hs;subst hs;simp at hc
  ·obtain ⟨i,hi,rfl⟩:=List.mem_map.1 hs;simp at hc hi;omega
 ·obtain ⟨i,hi,h2⟩:=List.mem_flatMap.1 hs;unfold GW at h2;obtain ⟨j,hj,rfl⟩:=List.mem_map.1 h2;simp [List.mem_range'] at hc hi hj
  rcases hc with rfl|rfl<;>omega
theorem Jg(cols:List BA)(s:List Int)(m:Nat):Ch cols s (m+1)=Ch cols s m++if KC s (m:Int) then [] else [⟨Dd cols s,cols.getD m ⟨#[]⟩⟩]:=by
 unfold Ch;rw [List.range_succ,List.filter_append,List.map_append];congr 1;cases h:KC s (m:Int)<;>simp [h]
theorem QW(h:qP:=by
 unfold Ch;rw [List.length_map];exact Nat.le_trans (List.length_filter_le _ _) (by simp)):qP:=h
theorem APA(cols:List BA)(s:List Int)(m:Nat):(Ch cols s m).length≤m:=by
 exact QW

theorem TZ(h:qP:=by
 go_ret;exact ⟨none,0,by rw [HF.o];rfl,by rw [HF.o];exact Al,by rw [HF.o];exact ⟨by simp,[],Rd.nil,rfl,by simp⟩,HX.o⟩):qP:=h
theorem AVA(q:Nat)(cols:List BA)(rows:List (List Val))(A B:OA)(ca cb:Nat)(w:World)(S T:NP)(hA:Strs w S A cols)(hB:Rows w T q B rows)(hn:cols.length≤1000) :
  Cl 57 #[.slice A cols.length ca,.slice B rows.length cb] w (DTA w (Co cols rows)):=by
 have hcl:=hA.2.1;have hrl:=hB.len;have HA:=Hd hA;have HB:=Hd hB;clear hA hB;cases hnd:Lw cols
 ·have HND:=Hd (show decide cols.Nodup=false from hnd);have HF:=Hd (show Co cols rows=[] by unfold Co;rw [hnd];rfl);clear hnd
  go_enter func57,ntmps57
  go_wp2_with (go_at_call 137;refine (Fw cols _ _ _ S HA.o).mono ?_;rintro e w' ⟨rfl,hx⟩;have HX:=Hd hx;clear hx;rw [HND.o])
  exact TZ
 have HND:=Hd (show decide cols.Nodup=true from hnd);cases hrg:EF cols rows
 ·have HRG:=Hd hrg;have HF:=Hd (show Co cols rows=[] by unfold Co;rw [hrg];simp);clear hnd hrg
  go_enter func57,ntmps57
  go_wp2_with (first|(go_at_call 137;refine (Fw cols _ _ _ S HA.o).mono ?_;rintro e w' ⟨rfl,hx⟩;have HX:=Hd hx;clear hx;rw [HND.o])|(go_at_call 138;refine (Fg q cols rows _ _ _ _ _ T hcl (HB.o.keep (HX.o.kept T))).mono ?_;rintro e w' ⟨rfl,rfl⟩;rw [HRG.o]))
  exact TZ
 have HRG:=Hd hrg;have HF:=Hd (show Co cols rows=((Fz cols.length).foldl (BN cols rows) ([],[])).2 by unfold Co;rw [hnd,hrg];rfl);have hrow:∀ c,c<cols.length→∀ j (h:j<rows.length),c<rows[j].length:=by
  exact US
 have HROW:=Hd hrow;clear hnd hrg hrow
 go_enter func57,ntmps57
 go_wp2_with (first|(go_at_call 137;refine (Fw cols _ _ _ S HA.o).mono ?_;rintro e w' ⟨rfl,hx⟩;have HX:=Hd hx;clear hx;rw [HND.o])|(go_at_call 138;refine (Fg q cols rows _ _ _ _ _ T hcl (HB.o.keep (HX.o.kept T))).mono ?_;rintro e w' ⟨rfl,rfl⟩;rw [HRG.o]))
 go_loopw [24,5] (fun i v wr=>∃ (k:Nat) (A':OA) (c':Nat),k≤cols.length∧i=.I k∧v=.slice A' k c'∧Ext w wr∧OwnIss wr w.heap.size (fun b=>w.heap.size≤b) A' c' ((EX rows cols.length).take k)) (fun i _ _=>cols.length-(intOf i).toNat)
 case atStart=>exact ⟨0,none,0,AN,rfl,rfl,HX.o,OwnIss.nil _ _ _⟩
 case round =>
  clear HX;obtain ⟨k,A',c',hk,rfl,rfl,hext,hown⟩:=hrel;have HE:=Hd hext;have HO:=Hd hown;have hml:(EX rows cols.length).length=cols.length:=(by simp [EX]);have HML:=Hd hml;have hszw:=hext.size;clear hown hml hext;by_cases hlt:k<cols.length
  ·go_wp2_with fail
   refine (Hl q rows _ _ k _ T (HB.o.keep (HE.o.kept T)) (HROW.o k hlt)).mono ?_;rintro e w1 ⟨A1,c1',rfl,hcp1,hi1,hx1⟩;have HX1:=Hd hx1;have hsz1:=hx1.size;have HI1:=Hd hi1;clear hx1 hi1;have hval:(EX rows cols.length)[k]'EN=Ad rows k:=(by simp [EX]);have HVAL:=Hd hval;have hlk:((EX rows cols.length).take k).length=k:=(by rw [List.length_take,HML.o];omega);obtain ⟨hs,hhs,ho,hv⟩:=(HO.o.ext (HX1.o.alloc (.cells #[.slice A1 (Ad rows k).length c1'] 22))).add;rw [hlk] at ho;obtain ⟨HOWN,HV,HHS,HLK⟩:=Hd4 ho hv hhs hlk;clear ho hv hhs hlk hval
   go_wp2_with (at_builtin;go_must (refine AL rfl (.tmp 27) (.tmp 31) rfl DCA rfl HOWN.o rfl (Blk.rd (Blk.new _ _ _)) rfl AP AA AB AI ?_);intro A4 c4 w4 hown4 hg4 hat4)
   go_roundw
   case rel =>
    refine ⟨k+1,A4,c4,AA,AE,rfl,Ext.grown ((HE.o.trans HX1.o).alloc _) hg4 (fun b hb=>(HOWN.o.blk hb).1),?_⟩;rw [List.take_succ_eq_append_getElem EN,HVAL.o];refine OwnIss.push HHS.o HV.o (by rw [HLK.o];exact hown4) hg4 hat4 hcp1 ((HI1.o.keep (Kept.alloc _ _ _)).mono fun i _ hi=>⟨fun h0 => ?_,?_⟩)
    ·have:=(HO.o.blk h0).2;unfold BO at hi;omega
    ·unfold BO at hi;omega
   case measure=>simp [intOf];omega
  ·obtain rfl:k=cols.length:=AA;have hoo:=HO.o;rw [List.take_of_length_le (by rw [HML.o];exact Al)] at hoo;have HRS:=Hd (hoo.riss (T:=fun _=>True) (by rw [HML.o];exact hcl) (fun _ _=>trivial) (fun _ _=>trivial));clear hoo HO
   go_wp2_with fail
   refine (AYA cols.length _ hn).mono ?_;rintro e w1 ⟨A1,c1,rfl,hcp1,hi1,hx1⟩;have HX1:=Hd hx1;have HI1:=Hd hi1;have hsz1:=hx1.size;have hsl:=C4A cols.length hn;clear hx1 hi1;obtain ⟨sets,hsets⟩:=eqx (Fz cols.length);rw [←hsets] at HI1 hsl HF hcp1;rw [←hsets];have HIN:=Hd (show ∀ s∈sets,∀ c∈s,0≤c∧c<(cols.length:Int) by rw [hsets];exact DIA _);clear hsets;obtain ⟨wo,rfl⟩:∃ wo:World,wo=wr:=⟨_,rfl⟩;go_wp2
   go_loopw [38,7,8] (fun i v u wq=>∃ (k:Nat) (A7 A8:OA) (c7 c8:Nat) (ks:List (List Int)) (ds:List Dep),k≤sets.length∧(ks,ds)=(sets.take k).foldl (BN cols rows) ([],[])∧i=.I k∧v=.slice A7 ks.length c7∧u=.slice A8 ds.length c8∧Ext w1 wq∧ks.length≤k∧ds.length≤k*1000∧OwnIss wq w1.heap.size (fun b=>b<w1.heap.size) A7 c7 ks∧OwnDs wq w1.heap.size (fun b=>w1.heap.size≤b∧ob A7≠some b) A8 c8 ds∧(∀ b,ob A7=some b→ob A8≠some b)) (fun i _ _ _=>sets.length-(intOf i).toNat)
   case atStart=>exact ⟨0,none,none,0,0,[],[],AN,rfl,rfl,rfl,rfl,Ext.refl _,AN,AN,OwnIss.nil _ _ _,OwnDs.nil _ _ _,by simp [ob]⟩
   case round =>
    obtain ⟨k,A7,A8,c7,c8,ks,ds,hk,hst,rfl,rfl,rfl,hext,hkl,hdl,ho7,ho8,hdis⟩:=hrel;obtain ⟨HST,HE2,HO7,HO8,HDIS⟩:=Hd5 hst hext ho7 ho8 hdis;have hszq:=hext.size;clear hst hext ho7 ho8 hdis;by_cases hlt:k<sets.length
    ·obtain ⟨b1,o1,B1,e1,rfl,z1',p1',hcs,his⟩:=HI1.o.at_ hlt;have p1:=HE2.o.cell p1';have z1:b1<wr.heap.size:=AA;have HIS1:=Hd (his.mono (T:=fun b=>b<w1.heap.size) fun i hi _=>hi);have hstep:(sets.take (k+1)).foldl (BN cols rows) ([],[])=BN cols rows (ks,ds) sets[k]:=by
      rw [List.take_succ_eq_append_getElem hlt,List.foldl_append,←HST.o];rfl
     have hmem:=List.getElem_mem hlt;obtain ⟨s,hs⟩:=eqx (sets[k]);rw [←hs] at p1 HIS1 hstep hmem hcs;obtain ⟨HSTEP,HMEM,HCS,HIS⟩:=Hd4 hstep hmem hcs (HIS1.o.keep (HE2.o.kept _));clear p1' his hstep hmem hs hcs
     go_wp2_with fail
     refine (Jh ks s A7 B1 c7 e1 wr.heap.size _ (fun _=>True) (fun b=>b<w1.heap.size) ((HO7.o.riss AA (fun _ _=>trivial) (fun _ _=>trivial)).keep (Kept.alloc _ _ _)) ((Blk.new wr 22 #[.slice B1 s.length e1]).cell rfl) (HIS.o.keep (Kept.alloc _ _ _))).mono ?_;rintro e w2 ⟨rfl,hx2⟩;have hbx:=hx2.cell ((Blk.new wr 22 #[.slice B1 s.length e1]).q0);have HX2:=Hd ((exaa wr).trans hx2);have hsz2:wr.heap.size<w2.heap.size:=(by have:=hx2.size;simp at this;omega);clear hx2;cases hany:ks.any (fun l=>MG l s)
     case true =>
      have HANY:=Hd hany;clear hany;go_wp2;go_roundw
      case rel=>exact ⟨k+1,A7,A8,c7,c8,ks,ds,AA,by rw [HSTEP.o];unfold BN;rw [if_pos HANY.o],AE,rfl,rfl,HE2.o.trans HX2.o,AA,AA,HO7.o.ext HX2.o,HO8.o.ext HX2.o,HDIS.o⟩
      case measure=>simp [intOf];omega
     case false =>
      have HANY:=Hd (show ¬(ks.any (fun l=>MG l s))=true by rw [hany];simp);clear hany
      go_wp2_with fail
      refine (YM rows cols.length s B1 _ e1 _ _ (fun b=>b<w1.heap.size) (fun _=>True) (HIS.o.keep (HX2.o.kept _)) (HRS.o.keep ((HX1.o.trans (HE2.o.trans HX2.o)).kept _)) (HIN.o s HMEM.o) hrl).mono ?_;rintro e w3 ⟨rfl,hx3⟩;have hbx3:=hx3.cell hbx;have HX3:=Hd (HX2.o.trans hx3);have hsz3:w2.heap.size≤w3.heap.size:=hx3.size;clear hx3 hbx;cases hkey:F9 rows cols.length (s.map Int.toNat)
      ·have HKEY:=Hd hkey;clear hkey;go_wp2;go_roundw
       case rel=>exact ⟨k+1,A7,A8,c7,c8,ks,ds,AA,by rw [HSTEP.o];unfold BN;rw [if_neg HANY.o,HKEY.o];rfl,AE,rfl,rfl,HE2.o.trans HX3.o,AA,AA,HO7.o.ext HX3.o,HO8.o.ext HX3.o,HDIS.o⟩
       case measure=>simp [intOf];omega
      ·have HKEY:=Hd (show (BN cols rows (ks,ds) s)=(ks++[s],ds++Ch cols s cols.length) by unfold BN;rw [if_neg HANY.o,hkey];rfl);clear hkey;obtain ⟨hs7,hhs7,ho7,hv7⟩:=(HO7.o.ext (HX3.o.alloc (.cells #[.slice B1 s.length e1] 22))).add;obtain ⟨HOWN,HV,HHS⟩:=Hd3 ho7 hv7 hhs7;clear ho7 hv7 hhs7
       go_wp2_with (at_builtin;go_must (refine AL rfl (.tmp 51) (.tmp 53) rfl DCA rfl HOWN.o rfl (Blk.rd (Blk.new _ _ _)) rfl AP AA AB AI ?_);intro A4 c4 w4 hown4 hg4 hat4)
       have h74:OwnIss w4 w1.heap.size (fun b=>b<w1.heap.size) A4 c4 (ks++[s]):=by
        refine OwnIss.push HHS.o HV.o hown4 hg4 hat4 HCS.o ((HIS.o.keep ((HX3.o.alloc _).kept _)).mono fun i _ hi=>⟨fun h0 => ?_,hi⟩);have:=(HO7.o.blk h0).1;omega
       have h84:OwnDs w4 w1.heap.size (fun b=>w1.heap.size≤b∧ob A4≠some b) A8 c8 ds:=by
        refine OwnDs.mono (X:=fun b=>(w1.heap.size≤b∧ob A7≠some b)∧ob A4≠some b) ?_ (fun b _ hb=>⟨hb.1.1,hb.2⟩);refine OwnDs.keep (w:=w3.alloc (.cells #[.slice B1 s.length e1] 22)) ?_ (Kept.of_grown hg4 fun b hb _ e => ?_)
        ·refine (HO8.o.ext (HX3.o.alloc _)).mono fun b hb hh=>⟨hh,fun e => ?_⟩
         rcases hat4 with h|h
         ·rw [h] at e;exact hh.2 e
         ·rw [h] at e;injection e with e;omega
        ·rcases hb with h|h
         ·exact HDIS.o b e.symm h
         ·exact h.1.2 e.symm
       have hd4:∀ b,ob A4=some b→ob A8≠some b:=by
        intro b h1 h2
        rcases hat4 with h|h
        ·rw [h] at h1;exact HDIS.o b h1 h2
        ·rw [h] at h1;injection h1 with h1;have:=(HO8.o.blk h2).2;simp at h1;omega
       have hbx4:w4.cell? ⟨wr.heap.size,0,none⟩=some (.slice B1 s.length e1):=by
        rw [World.cell?_of_block (hg4.block wr.heap.size AI (fun e=>by have:=(HO7.o.blk e.symm).2;omega))];exact (exaa w3).cell hbx3
       have HX4:=Hd (show Ext w1 w4 from Ext.grown ((HE2.o.trans HX3.o).alloc _) hg4 (fun b hb=>(HOWN.o.blk hb).1));have hsz4:w3.heap.size<w4.heap.size:=(by have:=hg4.size;simp at this;omega);have h8b:ob A8≠some wr.heap.size:=fun e=>by have:=(HO8.o.blk e).2;omega
       obtain ⟨H74,H84,HD4,HB4,H8B⟩:=Hd5 h74 h84 hd4 hbx4 h8b;clear h74 h84 hd4 hbx4 h8b hown4 hg4 hat4 HOWN HV HHS HO7 HO8 HDIS hbx3;obtain ⟨wp,rfl⟩:∃ wp:World,wp=wr:=⟨_,rfl⟩;go_wp2
       go_loopw [57,8] (fun i u wr=>∃ (m:Nat) (A9:OA) (c9:Nat) (d9:List Dep),m≤cols.length∧d9=ds++Ch cols s m∧i=.I m∧u=.slice A9 d9.length c9∧Ext w1 wr∧wp.heap.size<wr.heap.size∧wr.cell? ⟨wp.heap.size,0,none⟩=some (.slice B1 s.length e1)∧ob A9≠some wp.heap.size∧d9.length≤ds.length+m∧OwnIss wr w1.heap.size (fun b=>b<w1.heap.size) A4 c4 (ks++[s])∧OwnDs wr w1.heap.size (fun b=>w1.heap.size≤b∧ob A4≠some b) A9 c9 d9∧(∀ b,ob A4=some b→ob A9≠some b)) (fun i _ _=>cols.length-(intOf i).toNat)
       case atStart=>exact ⟨0,A8,c8,ds,AN,by simp [Ch],rfl,rfl,HX4.o,AA,HB4.o,H8B.o,AA,H74.o,H84.o,HD4.o⟩
       case round =>
        clear HX4 HB4 H8B H74 H84 HD4;obtain ⟨m,A9,c9,d9,hm,hd9,rfl,rfl,hx9,hsz9,hbx9,h9b,hl9,h79,h99,hd99⟩:=hrel;obtain ⟨HD9,HX9,H9B,H79,H99,HD99⟩:=Hd6 hd9 hx9 h9b h79 h99 hd99;have hsz19:=hx9.size;clear hd9 hx9 h9b h79 h99 hd99;by_cases hltm:m<cols.length
        ·obtain ⟨b2,o2,rfl,z2,p2⟩:=(HA.o.keep ((HE.o.trans (HX1.o.trans HX9.o)).kept S)).at_ hltm;cases hmm:KC s (m:Int)
         ·have HMM:=Hd hmm;clear hmm
          go_wp2_with (go_at_call 145;refine (FM _ _ s _ _ (fun b=>b<w1.heap.size) (HIS1.o.keep (HX9.o.kept _))).mono ?_;rintro e w' ⟨rfl,rfl⟩;rw [HMM.o])
          refine (YH cols s _ _ _ _ _ S (fun b=>b<w1.heap.size) (HA.o.keep ((HE.o.trans (HX1.o.trans HX9.o)).kept S)) (HIS1.o.keep (HX9.o.kept _)) (HIN.o s HMEM.o)).mono ?_;rintro e w5 ⟨A5,c5,rfl,hcp5,hss5,hx5⟩;obtain ⟨HX5,HSS5,HCP5⟩:=Hd3 hx5 hss5 hcp5;have hsz5:=hx5.size;obtain ⟨hs9,hhs9,ho9,hv9⟩:=(H99.o.ext (HX5.o.alloc (.cells #[.slice A5 (Dd cols s).length c5,.string cols[m]] 69))).add;obtain ⟨HOWN,HV,HHS⟩:=Hd3 ho9 hv9 hhs9;clear ho9 hv9 hhs9 hx5 hss5 hcp5
          go_wp2_with (at_builtin;go_must (refine AL rfl (.tmp 66) (.tmp 72) rfl tiD rfl HOWN.o rfl (Blk.rd (Blk.new _ _ _)) rfl AP AA AB AI ?_);intro A6 c6 w6 hown6 hg6 hat6)
          go_roundw
          case rel =>
           have h9lt:∀ b,ob A9=some b→b<wr.heap.size:=fun b hb=>(H99.o.blk hb).2;have h4lt:∀ b,ob A4=some b→w1.heap.size≤b∧b<wr.heap.size:=fun b hb=>H79.o.blk hb;refine ⟨m+1,A6,c6,d9++[⟨Dd cols s,cols[m]⟩],AA,?_,AE,AC,Ext.grown ((HX9.o.trans HX5.o).alloc _) hg6 (fun b hb=>(HOWN.o.blk hb).1),by have:=hg6.size;simp at this;omega,?_,?_,AI,?_,?_,?_⟩
           ·rw [HD9.o,Jg,HMM.o,List.append_assoc];simp [hltm]
           ·rw [World.cell?_of_block (hg6.block wp.heap.size AI (fun e=>H9B.o e.symm))];exact (HX5.o.alloc _).cell hbx9
           ·intro e
            rcases hat6 with h|h
            ·rw [h] at e;exact H9B.o e
            ·rw [h] at e;injection e with e;simp at e;omega
           ·exact (H79.o.ext (HX5.o.alloc _)).keep (Kept.of_grown hg6 fun b hb _ e=>by
             rcases hb with h|h
             ·exact HD99.o b h e.symm
             ·have:=(H99.o.blk e.symm).1;omega)
           ·refine OwnDs.push HHS.o HV.o hown6 hg6 hat6 HCP5.o (HA.o.2.2 _ (List.getElem_mem hltm)) ((HSS5.o.keep (Kept.alloc _ _ _)).mono fun i _ hi => ?_);unfold BO at hi;exact ⟨fun e=>by have:=h9lt i e;omega,AA,fun e=>by have:=(h4lt i e).2;omega⟩
           ·intro b h1 h2
            rcases hat6 with h|h
            ·rw [h] at h2;exact HD99.o b h1 h2
            ·rw [h] at h2;injection h2 with h2;have:=(h4lt b h1).2;simp at h2;omega
          case measure=>simp [intOf];omega
         ·have HMM:=Hd hmm;clear hmm
          go_wp2_with (go_at_call 145;refine (FM _ _ s _ _ (fun b=>b<w1.heap.size) (HIS1.o.keep (HX9.o.kept _))).mono ?_;rintro e w' ⟨rfl,rfl⟩;rw [HMM.o])
          go_roundw
          case rel=>exact ⟨m+1,A9,c9,d9,AA,by rw [HD9.o,Jg,HMM.o];simp,AE,rfl,HX9.o,hsz9,hbx9,H9B.o,AA,H79.o,H99.o,HD99.o⟩
          case measure=>simp [intOf];omega
        ·obtain rfl:m=cols.length:=AA;go_wp2;go_roundw
         case rel=>exact ⟨k+1,A4,A9,c4,c9,ks++[s],d9,AA,by rw [HSTEP.o,HKEY.o,HD9.o],AE,AC,rfl,HX9.o,AI,AA,H79.o,H99.o,HD99.o⟩
         case measure=>simp [intOf];omega
    ·obtain rfl:k=sets.length:=AA;have hde:ds=Co cols rows:=by
      have:=HST.o;rw [List.take_of_length_le (Al)] at this;rw [HF.o,←this]
     subst hde;have HC:=Hd (show (Co cols rows).length≤c8 by obtain ⟨hs,_,h1,_⟩:=HO8.o.add;exact h1.cap);go_wp2;go_ret;exact ⟨A8,c8,rfl,HC.o,HO8.o.rdeps AA (fun b hb=>by have:=(HO8.o.blk hb).1;unfold BO;omega) (fun b hb=>FS),HE.o.trans (HX1.o.trans HE2.o)⟩



def E0A(n s:Int):Val:=⟨2,⟨#[]⟩,n,s,0,[],[]⟩

def G2A(s:BA):Val:=⟨1,s,0,0,0,[],[]⟩

def FeA:BA:=⟨#[99,105,116,121]⟩
def G1A:BA:=⟨#[122,105,112]⟩
def Yw:BA:=⟨#[99,111,117,110,116,114,121]⟩

set_option maxRecDepth 100000
end Go.Proofs.YtidacnalcdhckaaGreatDoor
