/- Lemmas. No conditions. -/
import Derived.Test.YtidacnalcdhckaaGreatDoorYq2
import Derived.Shelf.SlIter.Nil
import Derived.Shelf.SortM.Plain
import Derived.Shelf.SortM.SortNone
import Derived.Ground.GgzProg
import Derived.Ground.SlgmProg
import Derived.Test.YtidacnalcdhckaaGreatDoorProg
import Derived.Shelf.SlGeneric
import Derived.Deep.LoopGhost
import Derived.Deep.DeepCutAuto
import Derived.Deep.Light
set_option maxRecDepth 100000
set_option maxHeartbeats 1000000
namespace Go.Proofs.YtidacnalcdhckaaGreatDoor
open Go Go.RowKit Tryz
variable {qP:Prop}

def OwnIss(w:World)(base:Nat)(X:NP)(A:OA)(c:Nat)(l:List (List Int)):Prop :=
 ∃ hs,Own w base 22 1 A l.length c hs∧∀ (i:Nat) (r:List Int),l[i]?=some r→∃ (B:OA) (e:Nat),hs[i]?=some (Value.slice B r.length e)∧r.length≤e∧Ints w (fun b=>ob A≠some b∧X b) B r
theorem Ints.move{w w':World}{S T:NP}{l:List Int}{B:OA}(h:Ints w S B l)(k:Kept S w w')(m:∀ i,i<w.heap.size→S i→T i):Ints w' T B l :=
 ((Ints.mono h (T:=fun b=>S b∧T b) fun i hi hs=>⟨hs,m i hi hs⟩).keep (k.mono fun _ _ hh=>hh.1)).mono fun _ _ hh=>hh.2
theorem OwnIss.nil(w:World)(base:Nat)(X:NP):OwnIss w base X none 0 []:=⟨[],Own.nil _ _ _ _,Y3⟩
theorem OwnIss.ext{w w':World}{base c:Nat}{X:NP}{A:OA}{l:List (List Int)}(h:OwnIss w base X A c l)(hx:Ext w w'):OwnIss w' base X A c l:=by
 obtain ⟨hs,h1,h2⟩:=h;refine ⟨hs,h1.ext hx,fun i r hr => ?_⟩;obtain ⟨B,e,h3,hcp,h4⟩:=h2 i r hr;exact ⟨B,e,h3,hcp,h4.keep (hx.kept _)⟩
theorem OwnIss.push{w w':World}{base c':Nat}{X:NP}{A A':OA}{l:List (List Int)}{r:List Int}{B:OA}{e:Nat}{hs:List Value}(ho:hs.length=l.length)
  (hv:∀ (i:Nat) (r:List Int),l[i]?=some r→∃ (B:OA) (e:Nat),hs[i]?=some (Value.slice B r.length e)∧r.length≤e∧Ints w (fun b=>ob A≠some b∧X b) B r)
  (hown:Own w' base 22 1 A' (l.length+1) c' (hs++[Value.slice B r.length e])) (hg:w.grownBy w' (ob A)) (hat:ob A'=ob A∨ob A'=some w.heap.size)
  (hre:r.length≤e) (hy:Ints w (fun b=>ob A≠some b∧X b) B r):OwnIss w' base X A' c' (l++[r]):=by
 have hk:Kept (fun b=>ob A≠some b∧X b) w w':=Kept.of_grown hg (fun b hb _ e=>hb.1 e.symm);have hm:∀ i,i<w.heap.size→(ob A≠some i∧X i)→(ob A'≠some i∧X i):=by
  exact Z31
 refine ⟨_,Y13,fun i r' hr => ?_⟩
 rcases Nat.lt_or_ge i l.length with hlt|hge
 ·rw [List.getElem?_append_left hlt] at hr;obtain ⟨B',e',h3,hcp,h4⟩:=hv i r' hr;exact ⟨B',e',by rw [List.getElem?_append_left Y4];exact h3,hcp,h4.move hk hm⟩
 ·rw [List.getElem?_append_right hge] at hr;have hj0:i-l.length=0:=by
   exact Z34
  rw [hj0] at hr;simp at hr;subst hr;exact ⟨B,e,by rw [List.getElem?_append_right Y4,ho,hj0];rfl,hre,hy.move hk hm⟩
theorem OwnIss.riss{w:World}{base c:Nat}{X T:NP}{A:OA}{l:List (List Int)}(h:OwnIss w base X A c l)(hl:l.length≤4294967296)(h1:∀ b,ob A=some b→T b)(h2:∀ b,X b→T b):RIss w T A l:=by
 obtain ⟨hs,ho,hv⟩:=h;refine ⟨hl,hs,ho.rd.mono fun i _ hi=>h1 i hi,by simpa using ho.len,fun i r hr => ?_⟩;obtain ⟨B,e,h3,hcp,h4⟩:=hv i r hr;exact ⟨B,e,h3,hcp,h4.mono fun i _ hi=>h2 i hi.2⟩
theorem OwnIss.blk{w:World}{base c:Nat}{X:NP}{A:OA}{l:List (List Int)}(h:OwnIss w base X A c l){k:Nat}(hk:ob A=some k):base≤k∧k<w.heap.size:=by
 exact Z33
theorem VC:(prog.info? 22).map (fun i=>(i.zero,i.size,i.bytes))=some (some (.slice none 0 0),1,24):=by kernel_rfl
theorem QD:TI prog 133 22 1 24:=FEA underlying133 VC rfl Y17

theorem F5(rows:List (List Val))(c i j:Nat)(hi:i<rows.length)(hj:j<rows.length):(AN rows c).getD i 0=(AN rows c).getD j 0↔rows[i].getD c Val.zero=rows[j].getD c Val.zero:=by
 have gi:(AN rows c).getD i 0=Ee (Bz c rows[i]) rows:=(by simp [AN,hi]);have gj:(AN rows c).getD j 0=Ee (Bz c rows[j]) rows:=(by simp [AN,hj]);have hn:∀ k (hk:k<rows.length),0≤Ee (Bz c rows[k]) rows:=by
  intro k hk;have:=Ec (Bz c rows[k]) rows;rw [show rows.any (Bz c rows[k])=true from List.any_eq_true.2 ⟨rows[k],List.getElem_mem hk,by simp [Bz]⟩] at this;exact of_decide_eq_true this
 rw [gi,gj];constructor
 ·intro h;obtain ⟨a,ha,hal,hap,_⟩:=Ic (hn i hi);obtain ⟨b,hb,hbl,hbp,_⟩:=Ic (hn j hj);rw [ha,hb] at h;have:a=b:=Y4;subst this;simp only [Bz,decide_eq_true_eq] at hap hbp;rw [←hap,hbp]
 ·intro h;have:Bz c rows[i]=Bz c rows[j]:=by
   funext o
   simp only [Bz,h]
  rw [this]
def Ef(rows:List (List Val))(fs:List Nat)(to:Nat):Bool:=rows.all fun r=>rows.all fun o => !(fs.all fun f=>Bz f r o)||Bz to r o
theorem Io{rows:List (List Val)}{fs:List Nat}{to:Nat}{gs:List Int}(hg:GroupsOf rows.length (fs.map fun f=>AN rows f) gs):Dn gs (AN rows to)=Ef rows fs to:=by
 have hs:∀ i j (hi:i<rows.length) (hj:j<rows.length),(gs.getD i 0=gs.getD j 0↔∀ f∈fs,rows[i].getD f Val.zero=rows[j].getD f Val.zero):=by
  intro i j hi hj;rw [hg.same i j hi hj];constructor
  ·intro h f hf;exact (F5 rows f i j hi hj).1 (h _ (List.mem_map_of_mem hf))
  ·intro h l hl;obtain ⟨f,hf,rfl⟩:=List.mem_map.1 hl;exact (F5 rows f i j hi hj).2 (h f hf)
 rw [Bool.eq_iff_iff,LW,hg.len];have hh:Ef rows fs to=true↔∀ i j (hi:i<rows.length) (hj:j<rows.length),(∀ f∈fs,rows[i].getD f Val.zero=rows[j].getD f Val.zero)→rows[i].getD to Val.zero=rows[j].getD to Val.zero:=by
  unfold Ef;simp only [List.all_eq_true,Bool.or_eq_true,Bool.not_eq_true',Bz,decide_eq_true_eq];constructor
  ·intro h i j hi hj hf
   rcases h rows[j] (List.getElem_mem hj) rows[i] (List.getElem_mem hi) with h1|h1
   ·rw [List.all_eq_false] at h1;obtain ⟨f,hf1,hf2⟩:=h1;exact absurd (hf f hf1) (by simpa using hf2)
   ·exact h1
  ·intro h r hr o ho;obtain ⟨j,hj,rfl⟩:=List.mem_iff_getElem.1 hr;obtain ⟨i,hi,rfl⟩:=List.mem_iff_getElem.1 ho;by_cases hf:∀ f∈fs,rows[i].getD f Val.zero=rows[j].getD f Val.zero
   ·exact Or.inr (h i j hi hj hf)
   ·left;rw [List.all_eq_false];simp only [Classical.not_forall] at hf;obtain ⟨f,hf1,hf2⟩:=hf;exact ⟨f,hf1,by simpa using hf2⟩
 rw [hh];constructor
 ·intro h i j hi hj hf
  rcases Nat.lt_trichotomy i j with hlt|rfl|hlt
  ·exact ((F5 rows to j i hj hi).1 (h j i hj hlt ((hs j i hj hi).2 (fun f hf1=>(hf f hf1).symm)))).symm
  ·rfl
  ·exact (F5 rows to i j hi hj).1 (h i j hi hlt ((hs i j hi hj).2 hf))
 ·intro h i j hi hj he;exact (F5 rows to i j hi Y4).2 (h i j hi Y4 ((hs i j hi Y4).1 he))
def Al(cols:List BA)(rows:List (List Val))(frm:List BA)(to:BA):Bool :=
 decide (0≤BM cols to)&&Cu cols rows&&frm.all (fun f=>decide (0≤BM cols f))&&Ef rows (frm.map fun f=>(BM cols f).toNat) (BM cols to).toNat

theorem Z92(h:qP:=by
 go_ret;exact ⟨Y19,HX0.o⟩):qP:=h
theorem Z93(h:qP:=by
 intro c hc j hj;have:=hrg;unfold Cu at this;rw [List.all_eq_true] at this;have h9:=this rows[j] (List.getElem_mem hj);simp at h9;omega):qP:=h
theorem Y31(h:qP:=by rw [HML.o];exact hlt):qP:=h
theorem Y32(h:qP:=by have:=(HOWN.o.blk hb).1;omega):qP:=h
theorem Y33(h:qP:=by rw [←HF.o];rfl):qP:=h
theorem Nv(q:Nat)(cols:List BA)(rows:List (List Val))(frm:List BA)(to:BA)(A B C:OA)(ca cb cc:Nat)(w:World)(S T U:NP)(hA:Strs w S A cols)(hB:Rows w T q B rows)(hC:Strs w U C frm) :
  Cl 134 #[.slice A cols.length ca,.slice B rows.length cb,.agg #[.slice C frm.length cc,.string to]] w (AO w (Al cols rows frm to)):=by
 have hcl:=hA.2.1;have hrl:=hB.len;have hfl:=hC.2.1;obtain ⟨HA,HB,HC⟩:=Hd3 hA hB hC;clear hA hB hC;have HX0:=Hd ((Ext.refl w).alloc (.cells #[.slice C frm.length cc,.string to] 69));by_cases ht:0≤BM cols to
 case neg =>
  have HF:=Hd (show Al cols rows frm to=false by unfold Al;rw [decide_eq_false ht];rfl)
  go_enter func134,ntmps134
  go_wp2_with (go_at_call 160;refine (Cd _ _ _ _ _ S (HA.o.keep (HX0.o.kept S))).mono ?_;rintro e w' ⟨rfl,rfl⟩)
  exact Z92
 obtain ⟨tn,ht1,ht2,-⟩:=GD ht;cases hrg:Cu cols rows
 ·have HF:=Hd (show Al cols rows frm to=false by unfold Al;rw [hrg];simp);have HRG:=Hd hrg;clear hrg ht1
  go_enter func134,ntmps134
  go_wp2_with (first|(go_at_call 160;refine (Cd _ _ _ _ _ S (HA.o.keep (HX0.o.kept S))).mono ?_;rintro e w' ⟨rfl,rfl⟩)|(go_at_call 138;refine (Di q cols rows _ _ _ _ _ T hcl (HB.o.keep (HX0.o.kept T))).mono ?_;rintro e w' ⟨rfl,rfl⟩;rw [HRG.o]))
  exact Z92
 have HRG:=Hd hrg;have HT1:=Hd ht1;have hrow:∀ c,c<cols.length→∀ j (h:j<rows.length),c<rows[j].length:=by
  exact Z93
 have HROW:=Hd hrow;clear hrg ht1 hrow ht
 go_enter func134,ntmps134
 go_wp2_with fail
 refine (Cd _ _ _ _ _ S (HA.o.keep (HX0.o.kept S))).mono ?_;rintro e w' ⟨rfl,rfl⟩;rw [HT1.o]
 go_wp2_with (go_at_call 138;refine (Di q cols rows _ _ _ _ _ T hcl (HB.o.keep (HX0.o.kept T))).mono ?_;rintro e w' ⟨rfl,rfl⟩;rw [HRG.o])
 go_loopw [27,8] (fun i v wr=>∃ (k:Nat) (A':OA) (c':Nat),k≤frm.length∧i=.I k∧v=.slice A' k c'∧Ext w wr∧w.heap.size+1≤wr.heap.size∧(∀ j (h:j<frm.length),j<k→0≤BM cols frm[j])∧OwnIss wr (w.heap.size+1) (fun b=>w.heap.size+1≤b) A' c' ((frm.map fun f=>AN rows (BM cols f).toNat).take k)) (fun i _ _=>frm.length-(intOf i).toNat)
 case atStart=>exact ⟨0,none,0,AE,rfl,rfl,HX0.o,Y3,Y8,OwnIss.nil _ _ _⟩
 case round =>
  obtain ⟨k,A',c',hk,rfl,rfl,hext,hsz,hall,hown⟩:=hrel;obtain ⟨HE,HALL,HO⟩:=Hd3 hext hall hown;have hml:(frm.map fun f=>AN rows (BM cols f).toNat).length=frm.length:=Y3;have HML:=Hd hml;clear hall hown hml;by_cases hlt:k<frm.length
  ·obtain ⟨b1,o1,rfl,z1,c1⟩:=(HC.o.keep (hext.kept U)).at_ hlt;clear hext;by_cases hf:0≤BM cols frm[k]
   ·obtain ⟨fn,hf1,hf2,-⟩:=GD hf;have HF1:=Hd hf1;clear hf1 hf
    go_wp2_with fail
    refine (Cd _ _ _ _ _ S (HA.o.keep (HE.o.kept S))).mono ?_;rintro e w' ⟨rfl,rfl⟩;rw [HF1.o]
    go_wp2_with fail
    refine (Ez q rows _ _ fn _ T (HB.o.keep (HE.o.kept T)) (HROW.o fn hf2)).mono ?_;rintro e w1 ⟨A1,c1',rfl,hcp1,hi1,hx1⟩;have HX1:=Hd hx1;have hsz1:=hx1.size;have HI1:=Hd hi1;clear hx1 hi1;have hval:(frm.map fun f=>AN rows (BM cols f).toNat)[k]'Y31=AN rows fn:=(by simp [HF1.o]);have HVAL:=Hd hval;have hlk:((frm.map fun f=>AN rows (BM cols f).toNat).take k).length=k:=(by rw [List.length_take,HML.o];omega);obtain ⟨hs,ho,hv⟩:=HO.o.ext (HX1.o.alloc (.cells #[.slice A1 (AN rows fn).length c1'] 22));have hhs:hs.length=k:=(by have:=ho.len;rw [hlk] at this;omega);rw [hlk] at ho;obtain ⟨HOWN,HV,HHS,HLK⟩:=Hd4 ho hv hhs hlk;clear ho hv hhs hlk hval
    go_wp2_with (at_builtin;go_must (refine AC rfl (.tmp 36) (.tmp 40) rfl QD rfl HOWN.o rfl (Blk.rd (Blk.new _ _ _)) rfl Y18 Y4 Y17 Y16 ?_);intro A4 c4 w4 hown4 hg4 hat4)
    go_roundw
    case rel =>
     have hsz4:=hg4.size;simp at hsz4;refine ⟨k+1,A4,c4,Y4,Y5,rfl,Ext.grown (HE.o.trans (HX1.o.alloc _)) hg4 (fun b hb=>Y32),Y4,fun j h hj => ?_,?_⟩
     ·by_cases hjk:j=k
      ·subst hjk;rw [HF1.o];omega
      ·exact HALL.o j h Y4
     ·rw [List.take_succ_eq_append_getElem Y31,HVAL.o];refine OwnIss.push (by rw [HLK.o];exact HHS.o) HV.o (by rw [HLK.o];exact hown4) hg4 hat4 hcp1 ((HI1.o.keep (Kept.alloc _ _ _)).mono fun i _ hi=>⟨fun h0 => ?_,?_⟩)
      ·have:=(HO.o.blk h0).2;unfold Av at hi;omega
      ·unfold Av at hi;omega
    case measure=>simp [intOf];omega
   ·have HF:=Hd (show Al cols rows frm to=false by
     unfold Al;rw [Bg frm _ k hlt (by simpa using hf)];simp)
    go_wp2_with (go_at_call 160;refine (Cd _ _ _ _ _ S (HA.o.keep (HE.o.kept S))).mono ?_;rintro e w' ⟨rfl,rfl⟩)
    exact Z79
  ·obtain rfl:k=frm.length:=Y4;have hoo:=HO.o;rw [List.take_of_length_le (by rw [HML.o];exact AS)] at hoo;have HRS:=Hd (hoo.riss (T:=fun _=>True) (by rw [HML.o];exact hfl) (fun _ _=>trivial) (fun _ _=>trivial));clear hoo hext;have hgl:=Hh rows.length (frm.map fun f=>AN rows (BM cols f).toNat) A' c' wr (fun _=>True) HRS.o (fun l hl=>by obtain ⟨f,_,rfl⟩:=List.mem_map.1 hl;simp [AN]) hrl;rw [HML.o] at hgl;have HGL:=Hd hgl;clear hgl
   go_wp2_with fail
   refine HGL.o.mono ?_;rintro e w1 ⟨gs,hgo,A1,c1,rfl,hcp1,hi1,hx1⟩;obtain ⟨HX1,HGO,HI1⟩:=Hd3 hx1 hgo hi1;have hgsl:=hgo.len;have HGSL:=Hd hgsl;clear hx1 hgo hi1 hgsl
   go_wp2_with fail
   refine (Ez q rows _ _ tn _ T (HB.o.keep ((HE.o.trans HX1.o).kept T)) (HROW.o tn ht2)).mono ?_;rintro e w2 ⟨A2,c2,rfl,hcp2,hi2,hx2⟩;have HX2:=Hd hx2;have HI2:=Hd hi2;clear hx2 hi2
   go_wp2_with fail
   refine (GW gs (AN rows tn) A1 A2 c1 c2 _ (Av wr) (Av w1) (HI1.o.keep (HX2.o.kept _)) HI2.o (by rw [HGSL.o];simp [AN])).mono ?_;rintro e w3 ⟨rfl,hx3⟩;have HX3:=Hd hx3;clear hx3;have HF:=Hd (show Dn gs (AN rows tn)=Al cols rows frm to by
    unfold Al;rw [HRG.o,HT1.o,BX frm _ (fun j h=>by simpa using HALL.o j h h),decide_eq_true (by omega:(0:Int)≤(tn:Int))];simp only [Bool.true_and,Int.toNat_natCast];refine Io ?_;have:=HGO.o;rwa [List.map_map])
   go_wp2;go_ret;exact ⟨Y33,HE.o.trans (HX1.o.trans (HX2.o.trans HX3.o))⟩
end Go.Proofs.YtidacnalcdhckaaGreatDoor
namespace Go.Proofs
open Go.RowKit Go.Maps Go.Sort Go.Shelf
def Tryz.keys240_ren:Go.Shelf.Ren:=⟨fun|7=>240|10=>274|n=>n,fun|23=>183|26=>9|3=>4|28=>223|0=>0|27=>222|33=>86|4=>4|n=>n,fun|n=>n⟩
theorem Tryz.keys240:Go.Proofs.SlLaysZ.n7 Tryz.prog Tryz.keys240_ren:={
  mixed:=by kernel_rfl
  f7:=⟨Tryz.f240.name,Y17,Tryz.func240.trans (congrArg some Y11)⟩
  f10:=⟨Tryz.f274.name,Y17,Tryz.func274.trans (congrArg some Y11)⟩
  t0:=Tryz.underlying0
  a0:=Tryz.isAgg0
  z0:=Tryz.sizeOf0
  v0:=Tryz.zeroValue0
  t4:=Tryz.underlying4
  a4:=Tryz.isAgg4
  z4:=Tryz.sizeOf4
  v4:=Tryz.zeroValue4
  t23:=Tryz.underlying183
  a23:=Tryz.isAgg183
  z23:=Tryz.sizeOf183
  v23:=Tryz.zeroValue183
  t26:=Tryz.underlying9
  a26:=Tryz.isAgg9
  z26:=Tryz.sizeOf9
  v26:=Tryz.zeroValue9
  t27:=Tryz.underlying222
  a27:=Tryz.isAgg222
  z27:=Tryz.sizeOf222
  v27:=Tryz.zeroValue222
  t28:=Tryz.underlying223
  a28:=Tryz.isAgg223
  z28:=Tryz.sizeOf223
  v28:=Tryz.zeroValue223
  t33:=Tryz.underlying86
  a33:=Tryz.isAgg86
  z33:=Tryz.sizeOf86
  v33:=Tryz.zeroValue86 }
def Tryz.sorted239_ren:Go.Shelf.Ren:=⟨fun|6=>239|8=>273|9=>183|11=>289|13=>228|12=>227|23=>269|24=>270|14=>260|15=>261|16=>262|17=>263|18=>264|19=>265|20=>266|21=>267|22=>268|25=>283|26=>284|27=>285|28=>286|29=>287|30=>288|31=>292|n=>n,fun|26=>9|28=>223|24=>26|0=>0|3=>3|37=>79|48=>250|50=>194|4=>4|40=>244|39=>243|45=>215|5=>5|9=>9|51=>259|55=>263|57=>266|58=>179|33=>86|n=>n,fun|n=>n⟩
theorem Tryz.sorted239:Go.Proofs.SlLaysZ.n6 Tryz.prog Tryz.sorted239_ren:={
  mixed:=by kernel_rfl
  f6:=⟨Tryz.f239.name,Y17,Tryz.func239.trans (congrArg some Y11)⟩
  f8:=⟨Tryz.f273.name,Y17,Tryz.func273.trans (congrArg some Y11)⟩
  f11:=⟨Tryz.f289.name,Y17,Tryz.func289.trans (congrArg some Y11)⟩
  t0:=Tryz.underlying0
  a0:=Tryz.isAgg0
  z0:=Tryz.sizeOf0
  v0:=Tryz.zeroValue0
  t24:=Tryz.underlying26
  a24:=Tryz.isAgg26
  z24:=Tryz.sizeOf26
  v24:=Tryz.zeroValue26
  t26:=Tryz.underlying9
  a26:=Tryz.isAgg9
  z26:=Tryz.sizeOf9
  v26:=Tryz.zeroValue9
  t28:=Tryz.underlying223
  a28:=Tryz.isAgg223
  z28:=Tryz.sizeOf223
  v28:=Tryz.zeroValue223
  i26:=Y11}
def Tryz.sort183_ren:Go.Shelf.Ren:=⟨fun|6=>183|8=>228|9=>227|19=>269|20=>270|21=>260|22=>261|23=>262|24=>263|25=>264|26=>265|27=>266|28=>267|29=>268|36=>283|31=>284|32=>285|37=>286|38=>287|39=>288|41=>292|n=>n,fun|27=>26|29=>9|3=>3|32=>79|26=>26|0=>0|44=>250|46=>194|4=>4|36=>244|35=>243|41=>215|5=>5|9=>9|53=>259|57=>263|63=>266|64=>179|n=>n,fun|n=>n⟩
theorem Tryz.sort183:Go.Proofs.SlLaysM.n6 Tryz.prog Tryz.sort183_ren:={
  mixed:=by kernel_rfl
  f6:=⟨Tryz.f183.name,Y17,Tryz.func183.trans (congrArg some Y11)⟩
  f8:=Tryz.func228.trans (congrArg some Y11)
  f9:=⟨Tryz.f227.name,Y17,Tryz.func227.trans (congrArg some Y11)⟩
  f19:=Tryz.func269.trans (congrArg some Y11)
  f20:=Tryz.func270.trans (congrArg some Y11)
  f21:=⟨Tryz.f260.name,Y17,Tryz.func260.trans (congrArg some Y11)⟩
  f22:=⟨Tryz.f261.name,Y17,Tryz.func261.trans (congrArg some Y11)⟩
  f23:=⟨Tryz.f262.name,Y17,Tryz.func262.trans (congrArg some Y11)⟩
  f24:=⟨Tryz.f263.name,Y17,Tryz.func263.trans (congrArg some Y11)⟩
  f25:=⟨Tryz.f264.name,Y17,Tryz.func264.trans (congrArg some Y11)⟩
  f26:=⟨Tryz.f265.name,Y17,Tryz.func265.trans (congrArg some Y11)⟩
  f27:=⟨Tryz.f266.name,Y17,Tryz.func266.trans (congrArg some Y11)⟩
  f28:=⟨Tryz.f267.name,Y17,Tryz.func267.trans (congrArg some Y11)⟩
  f29:=⟨Tryz.f268.name,Y17,Tryz.func268.trans (congrArg some Y11)⟩
  f31:=Tryz.func284.trans (congrArg some Y11)
  f32:=Tryz.func285.trans (congrArg some Y11)
  f36:=⟨Tryz.f283.name,Y17,Tryz.func283.trans (congrArg some Y11)⟩
  f37:=⟨Tryz.f286.name,Y17,Tryz.func286.trans (congrArg some Y11)⟩
  f38:=⟨Tryz.f287.name,Y17,Tryz.func287.trans (congrArg some Y11)⟩
  f39:=⟨Tryz.f288.name,Y17,Tryz.func288.trans (congrArg some Y11)⟩
  f41:=⟨Tryz.f292.name,Y17,Tryz.func292.trans (congrArg some Y11)⟩
  t0:=Tryz.underlying0
  a0:=Tryz.isAgg0
  z0:=Tryz.sizeOf0
  v0:=Tryz.zeroValue0
  t3:=Tryz.underlying3
  a3:=Tryz.isAgg3
  z3:=Tryz.sizeOf3
  v3:=Tryz.zeroValue3
  t4:=Tryz.underlying4
  a4:=Tryz.isAgg4
  z4:=Tryz.sizeOf4
  v4:=Tryz.zeroValue4
  t5:=Tryz.underlying5
  a5:=Tryz.isAgg5
  z5:=Tryz.sizeOf5
  v5:=Tryz.zeroValue5
  t9:=Tryz.underlying9
  a9:=Tryz.isAgg9
  z9:=Tryz.sizeOf9
  v9:=Tryz.zeroValue9
  t26:=Tryz.underlying26
  a26:=Tryz.isAgg26
  z26:=Tryz.sizeOf26
  v26:=Tryz.zeroValue26
  t27:=Tryz.underlying26
  a27:=Tryz.isAgg26
  z27:=Tryz.sizeOf26
  v27:=Tryz.zeroValue26
  t29:=Tryz.underlying9
  a29:=Tryz.isAgg9
  z29:=Tryz.sizeOf9
  v29:=Tryz.zeroValue9
  t32:=Tryz.underlying79
  a32:=Tryz.isAgg79
  z32:=Tryz.sizeOf79
  v32:=Tryz.zeroValue79
  t35:=Tryz.underlying243
  a35:=Tryz.isAgg243
  z35:=Tryz.sizeOf243
  v35:=Tryz.zeroValue243
  t36:=Tryz.underlying244
  a36:=Tryz.isAgg244
  z36:=Tryz.sizeOf244
  v36:=Tryz.zeroValue244
  t41:=Tryz.underlying215
  a41:=Tryz.isAgg215
  z41:=Tryz.sizeOf215
  v41:=Tryz.zeroValue215
  t44:=Tryz.underlying250
  a44:=Tryz.isAgg250
  z44:=Tryz.sizeOf250
  v44:=Tryz.zeroValue250
  t46:=Tryz.underlying194
  a46:=Tryz.isAgg194
  z46:=Tryz.sizeOf194
  v46:=Tryz.zeroValue194
  t53:=Tryz.underlying259
  a53:=Tryz.isAgg259
  z53:=Tryz.sizeOf259
  v53:=Tryz.zeroValue259
  t57:=Tryz.underlying263
  a57:=Tryz.isAgg263
  z57:=Tryz.sizeOf263
  v57:=Tryz.zeroValue263
  t63:=Tryz.underlying266
  a63:=Tryz.isAgg266
  z63:=Tryz.sizeOf266
  v63:=Tryz.zeroValue266
  t64:=Tryz.underlying179
  a64:=Tryz.isAgg179
  z64:=Tryz.sizeOf179
  v64:=Tryz.zeroValue179 }


theorem Tryz.sorts239(m:Nat):AnyZ.SortsIn Tryz.prog Tryz.sorted239_ren Fence.wide m :=
  ⟨fun blk off cap ss W hH hblk hsz=>callsIn_wide.2 (AnyM.slices_Sort_string Tryz.sort183 blk off cap ss W hH hblk hsz),
   fun p cap W=>callsIn_wide.2 (AnyM.slices_Sort_string_none Tryz.sort183 p cap W)⟩

theorem Tryz.maps_Keys_240(mb:Option Nat)(W:World):CallsIn Fence.wide 5 Tryz.prog 240 #[.map mb] W fun e w'=>e=.returned (.func (.func 274) #[] #[.pointer (some ⟨W.heap.size,0,none⟩)])∧w'=W.alloc (.cells #[.map mb] 183) :=
  AnyZ.keys_in Tryz.keys240 Fence.wide 5 trivial rfl mb W

theorem Tryz.slices_Sorted_keys_239_240{H:Type}(b nn:Nat)(D0:DataW H)(R:Value→Option (DataW H × List MemPlace))(w:World)(hown:w.ownsMap Tryz.prog 9 R b nn D0)(hmax:Maps.size D0≤maxLen)(hbytes:Maps.size D0*16≤140737488355328) :
    CallsIn Fence.wide 5 Tryz.prog 239 #[.func (.func 274) #[] #[.pointer (some ⟨w.heap.size,0,none⟩)]] (w.alloc (.cells #[.map (some b)] 183)) fun e w'=>∃ (v:Value) (ss:List (List UInt8)),e=.returned v∧ss.Perm (strKeys D0) ∧
      w'.ownsRow (w.alloc (.cells #[.map (some b)] 183)).heap.size 9 1 v ss.length ((ss.mergeSort (fun x y=>decide (x≤y))).map encStr)∧(v=.slice none 0 0↔ss=[])∧Below (w.alloc (.cells #[.map (some b)] 183)).heap.size (w.alloc (.cells #[.map (some b)] 183)) w':=by
  have hbl:=hown.lt
  have hseq:SeqGives Fence.wide 2 Tryz.prog 274 #[.pointer (some ⟨w.heap.size,0,none⟩)] encStr (fun ss=>ss.Perm (strKeys D0)) (Maps.size D0) (w.alloc (.cells #[.map (some b)] 183)) :=
    AnyZ.keys_gives (ρ:=Tryz.keys240_ren) { Tryz.keys240 with } Fence.wide _ trivial rfl Y4 w.heap.size b nn D0 _ Y3 Y3 (by
      obtain ⟨es,clock,hb,Ft,hs,hD⟩:=hown
      exact ⟨es,clock,(Below.heap_alloc _ _ b hbl).trans hb,Ft,hs,hD⟩)
  exact AnyZ.sorted_in Tryz.sorted239 Fence.wide 5 trivial trivial trivial trivial rfl Y4 (Tryz.sorts239 _) (enters_of Tryz.func183 Y11 rfl) 274 #[.pointer (some ⟨w.heap.size,0,none⟩)] trivial (enters_of Tryz.func274 Y11 rfl) _ _ hmax hbytes _ hseq

end Go.Proofs
namespace Go.Proofs.YtidacnalcdhckaaGreatDoor
open Go Go.RowKit Go.MapKept Go.Maps Tryz
variable {qP:Prop}

def AT(l:List BA):List BA:=((l.map fun s=>s.data.toList).mergeSort fun x y=>decide (x≤y)).map fun b=>⟨b.toArray⟩
theorem Z94(h:qP:=by
 intro a b c h1 h2;simp only [decide_eq_true_eq] at *;exact List.le_trans h1 h2):qP:=h
theorem Z95(h:qP:=by
 intro a b;simp only [Bool.or_eq_true,decide_eq_true_eq];exact List.le_total a b):qP:=h
theorem Ky{l l':List (List UInt8)}(h:l.Perm l'):l.mergeSort (fun x y=>decide (x≤y))=l'.mergeSort (fun x y=>decide (x≤y)):=by
 have tr:∀ a b c:List UInt8,decide (a≤b)=true→decide (b≤c)=true→decide (a≤c)=true:=by
  exact Z94
 have tot:∀ a b:List UInt8,(decide (a≤b)||decide (b≤a))=true:=by
  exact Z95
 have s1:=List.pairwise_mergeSort tr tot l;have s2:=List.pairwise_mergeSort tr tot l';have hp:(l.mergeSort fun x y=>decide (x≤y)).Perm (l'.mergeSort fun x y=>decide (x≤y)):=((List.mergeSort_perm l _).trans h).trans (List.mergeSort_perm l' _).symm;refine hp.eq_of_pairwise ?_ s1 s2;intro a b _ _ h1 h2;simp only [decide_eq_true_eq] at h1 h2;exact List.le_antisymm h1 h2

theorem MapIs.owns{w:World}{b:Nat}{m:List (BA × Value)}(h:MapIs w b (fun s:BA=>Value.string s) m)(hb:∀ p∈m,p.2=.bool true)(hk:∀ p∈m,p.1.size≤4294967296)(hm:m.length≤4294967296) :
  ∃ D0:DataW Unit,w.ownsMap prog 9 (plainElem prog 4) b m.length D0∧(strKeys D0).Perm (m.map fun p=>p.1.data.toList)∧Maps.size D0=m.length:=by
 obtain ⟨es,cl,h1,h2,hst⟩:=h;have hl:es.size=m.length:=by
  have:=congrArg List.length h2
  simpa using this
 have hrd:∀ x∈es.toList,∃ p∈m,x.key=.string p.1∧WideElems.rd (H:=Unit) prog 9 (plainElem prog 4) x=some (.string p.1.data.toList,.lit (.bool true)):=by
  intro x hx;have h5:(x.key,x.val)∈es.toList.map (fun e=>(e.key,e.val)):=List.mem_map_of_mem hx;rw [h2] at h5;obtain ⟨p,hp,hpe⟩:=List.mem_map.1 h5;injection hpe with hpe1 hpe2;refine ⟨p,hp,hpe1.symm,?_⟩;have hkk:=_root_.Go.WideMaps.keyOf_string_mk (P:=prog) underlying9 (s:=p.1) (by have:=hk p hp;unfold maxLen;omega);unfold WideElems.rd;rw [←hpe1,hkk,←hpe2,hb p hp];simp [plainElem,underlying4]
 refine ⟨_,⟨es,cl,h1,⟨by rw [hl];unfold maxLen;omega,hst,fun x hx => ?_⟩,Y4,rfl⟩,?_,?_⟩
 ·obtain ⟨p,_,_,hr⟩:=hrd x hx;exact ⟨_,hr⟩
 ·show (((es.toList.map (WideElems.rg prog 9 (plainElem prog 4))).foldr DataW.insert []).map fun p=>strOf p.1).Perm _;refine ((WideShapes.sorted_perm _).map _).trans ?_;have:((es.toList.map (WideElems.rg (H:=Unit) prog 9 (plainElem prog 4))).map fun p=>strOf p.1)=m.map fun p=>p.1.data.toList:=by
   rw [List.map_map];have e1:es.toList.map ((fun p=>strOf p.1) ∘ WideElems.rg (H:=Unit) prog 9 (plainElem prog 4))=(es.toList.map (fun e=>(e.key,e.val))).map (fun q=>match q.1 with|.string s=>s.data.toList|_=>[]):=by
    rw [List.map_map];refine List.map_congr_left fun x hx => ?_;obtain ⟨p,_,hkey,hr⟩:=hrd x hx;simp [WideElems.rg,hr,hkey,strOf]
   rw [e1,h2,List.map_map];rfl
  rw [this]
 ·have:(((es.toList.map (WideElems.rg (H:=Unit) prog 9 (plainElem prog 4))).foldr DataW.insert [])).length=es.size:=by
   rw [(WideShapes.sorted_perm _).length_eq];simp
  simpa [Maps.size,hl] using this

theorem P9(b:Nat)(w:World):Cl 240 #[.map (some b)] w fun e w' =>
  e=.returned (.func (.func 274) #[] #[.pointer (some ⟨w.heap.size,0,none⟩)])∧w.alloc (.cells #[.map (some b)] 183)=w' :=
 (callsIn_wide.1 (Tryz.maps_Keys_240 (some b) w)).mono fun _ _ ⟨h1,h2⟩=>⟨h1,h2.symm⟩

theorem Kk(b:Nat)(m:List (BA × Value))(w:World)(h:MapIs w b (fun s:BA=>Value.string s) m)(hb:∀ p∈m,p.2=.bool true)(hk:∀ p∈m,p.1.size≤4294967296)(hm:m.length≤4294967296) :
  Cl 239 #[.func (.func 274) #[] #[.pointer (some ⟨w.heap.size,0,none⟩)]] (w.alloc (.cells #[.map (some b)] 183))
   (PW (w.alloc (.cells #[.map (some b)] 183)) (AT (m.map (·.1)))):=by
 obtain ⟨D0,ho,hp,hs⟩:=h.owns hb hk hm;refine (callsIn_wide.1 (Tryz.slices_Sorted_keys_239_240 b m.length D0 _ w ho (by rw [hs];unfold maxLen;omega) (by rw [hs];omega))).mono ?_;rintro e w' ⟨v,ss,rfl,hperm,hrow,_,hbel⟩;have hss:ss.mergeSort (fun x y=>decide (x≤y))=((m.map (·.1)).map fun s=>s.data.toList).mergeSort (fun x y=>decide (x≤y)):=by
  refine Ky (hperm.trans ?_);rw [List.map_map];exact hp
 have hmap:(ss.mergeSort (fun x y=>decide (x≤y))).map encStr=(AT (m.map (·.1))).map Value.string:=by
  rw [hss];unfold AT;generalize (((m.map (·.1)).map fun s=>s.data.toList).mergeSort fun x y=>decide (x≤y))=l;rw [List.map_map];rfl
 have hlen:ss.length=(AT (m.map (·.1))).length:=by
  have:=congrArg List.length hmap
  simpa using this
 rw [hmap,hlen] at hrow;have hform:∃ A c,v=.slice A (AT (m.map (·.1))).length c:=by
  rcases hrow.2 with ⟨hv,h0⟩|⟨g,cap,cur,hv,_⟩
  ·exact ⟨none,0,by rw [hv,h0]⟩
  ·exact ⟨_,_,hv⟩
 obtain ⟨A,c,rfl⟩:=hform;refine ⟨A,c,rfl,Own.cap hrow,⟨Rd.of_own hrow,?_,?_⟩,hbel⟩
 ·have:(AT (m.map (·.1))).length=m.length:=(by simp [AT]);omega
 ·intro s hs2;unfold AT at hs2;obtain ⟨l,hl,rfl⟩:=List.mem_map.1 hs2;have hl2:=(List.mergeSort_perm _ _).mem_iff.1 hl;obtain ⟨t,ht,rfl⟩:=List.mem_map.1 hl2;obtain ⟨p,hp2,rfl⟩:=List.mem_map.1 ht;have h9:=hk p hp2;have h8:(⟨p.1.data.toList.toArray⟩:BA)=p.1:=(by cases p.1;simp);rw [h8];exact h9

structure Dep where
 frm:List BA
 to:BA
def RDeps(w:World)(S:NP)(A:OA)(l:List Dep):Prop :=
 l.length≤4294967296∧∃ xs:List Value,Rd w S A xs∧xs.length=l.length*2∧∀ (i:Nat) (d:Dep),l[i]?=some d→∃ (B:OA) (c:Nat),xs[i*2]?=some (.slice B d.frm.length c)∧xs[i*2+1]?=some (.string d.to)∧d.frm.length≤c∧d.to.size≤4294967296∧Strs w S B d.frm
theorem RDeps.keep{w w':World}{S:NP}{A:OA}{l:List Dep}(h:RDeps w S A l)(k:Kept S w w'):RDeps w' S A l:=by
 obtain ⟨h0,xs,h1,h2,h3⟩:=h;refine ⟨h0,xs,h1.keep k,h2,fun i d hd => ?_⟩;obtain ⟨B,c,g1,g2,g3,g4,g5⟩:=h3 i d hd;exact ⟨B,c,g1,g2,g3,g4,g5.keep k⟩
theorem RDeps.mono{w:World}{S T:NP}{A:OA}{l:List Dep}(h:RDeps w S A l)(k:∀ i,i<w.heap.size→S i→T i):RDeps w T A l:=by
 obtain ⟨h0,xs,h1,h2,h3⟩:=h;refine ⟨h0,xs,h1.mono k,h2,fun i d hd => ?_⟩;obtain ⟨B,c,g1,g2,g3,g4,g5⟩:=h3 i d hd;exact ⟨B,c,g1,g2,g3,g4,g5.mono k⟩
theorem RDeps.at_{w:World}{S:NP}{A:OA}{l:List Dep}(h:RDeps w S A l){k:Nat}(hk:k<l.length) :
  ∃ b o B c,A=some ⟨b,o,none⟩∧b<w.heap.size∧w.cell? ⟨b,o+k*2,none⟩=some (.slice B l[k].frm.length c)∧w.cell? ⟨b,o+k*2+1,none⟩=some (.string l[k].to)∧l[k].frm.length≤c∧l[k].to.size≤4294967296∧Strs w S B l[k].frm:=by
 obtain ⟨_,xs,h1,h2,h3⟩:=h;obtain ⟨B,c,g1,g2,g3,g4,g5⟩:=h3 k l[k] (List.getElem?_eq_getElem hk);have hne:xs≠[]:=(by rintro rfl;simp at g1);obtain ⟨b,o,hA,_,hb,hc⟩:=h1.some_ hne;exact ⟨b,o,B,c,hA,hb,hc _ _ g1,by have:=hc _ _ g2;rwa [←Nat.add_assoc] at this,g3,g4,g5⟩

structure IsClosure(l:List Dep)(frm ks:List BA):Prop where
 nodup:ks.Nodup
 base:∀ x∈frm,x∈ks
 closed:∀ d∈l,(∀ x∈d.frm,x∈ks)→d.to∈ks
 least:∀ T:BA→Prop,(∀ x∈frm,T x)→(∀ d∈l,(∀ x∈d.frm,T x)→T d.to)→∀ x∈ks,T x
def SetIs(w:World)(b:Nat)(ks:List BA):Prop:=MapIs w b (fun s:BA=>Value.string s) (ks.map fun k=>(k,Value.bool true))
theorem JL(ks:List BA)(x:BA)(j:Nat):(x∈ks→∃ i,fnd x (ks.map fun k=>(k,Value.bool true)) j=some (i,.bool true)∧j≤i∧ks[i-j]?=some x)∧(x ∉ ks→fnd x (ks.map fun k=>(k,Value.bool true)) j=none):=by
 induction ks generalizing j with
 |nil=>simp [fnd]
 |cons k ks ih =>
  by_cases hk:k=x
  ·subst hk;refine ⟨fun _=>⟨j,?_,AS,Y3⟩,fun h=>absurd (List.mem_cons_self) h⟩;simp [fnd]
  ·have h:=ih (j+1);refine ⟨fun hx => ?_,fun hx => ?_⟩
   ·have hx':x∈ks:=by
     rcases List.mem_cons.1 hx with e|e
     ·exact absurd e.symm hk
     ·exact e
    obtain ⟨i,h1,h2,h3⟩:=h.1 hx';refine ⟨i,?_,Y4,?_⟩
    ·simp only [List.map_cons,fnd,if_neg hk];exact h1
    ·rw [show i-j=(i-(j+1))+1 by omega,List.getElem?_cons_succ];exact h3
   ·have hx':x ∉ ks:=fun e=>hx (List.mem_cons_of_mem _ e);simp only [List.map_cons,fnd,if_neg hk];exact h.2 hx'
theorem NF(ks:List BA)(x:BA):(x∈ks→Cf (ks.map fun k=>(k,Value.bool true)) x=some (.bool true))∧(x ∉ ks→Cf (ks.map fun k=>(k,Value.bool true)) x=none):=by
 refine ⟨fun h => ?_,fun h => ?_⟩
 ·obtain ⟨i,h1,_⟩:=(JL ks x 0).1 h;simp [Cf,h1]
 ·simp [Cf,(JL ks x 0).2 h]
theorem OG(ks:List BA)(x:BA):(x∈ks→JO (ks.map fun k=>(k,Value.bool true)) x (.bool true)=ks.map fun k=>(k,Value.bool true))∧(x ∉ ks→JO (ks.map fun k=>(k,Value.bool true)) x (.bool true)=(ks++[x]).map fun k=>(k,Value.bool true)):=by
 refine ⟨fun h => ?_,fun h => ?_⟩
 ·obtain ⟨i,h1,h2,h3⟩:=(JL ks x 0).1 h;rw [Nat.sub_zero] at h3;unfold JO;rw [h1];show (ks.map fun k=>(k,Value.bool true)).set i (x,Value.bool true)=_;rw [show (x,Value.bool true)=(fun k=>(k,Value.bool true)) x from rfl,←List.map_set];congr 1;obtain ⟨hi,hx⟩:=List.getElem?_eq_some_iff.1 h3;rw [←hx,List.set_getElem_self]
 ·unfold JO;rw [(JL ks x 0).2 h];simp
theorem SetIs.put{w:World}{b:Nat}{ks:List BA}(h:SetIs w b ks)(x:BA) :
  ∃ w' ks',(Instr.mapUpdate 183 (.map (some b)) (.string x) (.bool true)).run prog w=.ok () w'∧SetIs w' b ks'∧w.grownBy w' (some b)∧((x∈ks∧ks'=ks)∨(x ∉ ks∧ks'=ks++[x])):=by
 obtain ⟨w',h1,h2,h3⟩:=MapIs.put h underlying183 (Uh underlying9) x (.bool true);by_cases hx:x∈ks
 ·rw [(OG ks x).1 hx] at h2;exact ⟨w',ks,h1,h2,h3,.inl ⟨hx,rfl⟩⟩
 ·rw [(OG ks x).2 hx] at h2;exact ⟨w',ks++[x],h1,h2,h3,.inr ⟨hx,rfl⟩⟩
theorem BEA(w:World):(zeroValue 4).run prog w=.ok (.bool false) w:=by kernel_rfl
noncomputable def Ja (ks:List BA) (x:BA):Bool:=@decide (x∈ks) (Classical.propDecidable _)
theorem Ho(ks:List BA)(x:BA):Ja ks x=true↔x∈ks:=by simp [Ja]
theorem SetIs.get{w:World}{b:Nat}{ks:List BA}(h:SetIs w b ks)(x:BA):(Instr.lookup 183 (.map (some b)) (.string x) false).run prog w=.ok (.bool (Ja ks x)) w:=by
 rw [MapIs.get h underlying183 (Uh underlying9) (.bool false) BEA x];by_cases hx:x∈ks
 ·rw [(NF ks x).1 hx,(Ho ks x).2 hx];rfl
 ·have:Ja ks x=false:=(by rw [Bool.eq_false_iff];exact fun e=>hx ((Ho ks x).1 e));rw [(NF ks x).2 hx,this];rfl
theorem SetIs.len{w:World}{b:Nat}{ks:List BA}(h:SetIs w b ks)(ty:TypeId):(Builtin.len_ #[183] ty #[.map (some b)]).run prog w=.ok (.I (ks.length:Int)) w:=by
 have:=MapIs.len h (P:=prog) underlying183 ty
 simpa using this
theorem SetIs.keep{w w':World}{b:Nat}{ks:List BA}(h:SetIs w b ks)(hk:Kept (fun i=>i=b) w w'):SetIs w' b ks:=MapIs.keep h hk

theorem F6(x:BA)(g b:Nat)(ks:List BA)(w:World)(hb:w.cell? ⟨g,0,none⟩=some (.map (some b)))(h:SetIs w b ks) :
  Cl 238 #[.string x,.pointer (some ⟨g,0,none⟩)] w (SameB w (!Ja ks x)):=by
 have hg:=h.get x;clear h
 go_enter func238,ntmps238
 exact Z49

theorem Z96(h:qP:=by
 go_ret;exact ⟨by rw [C7 hlt HA.o (by simp [HM.o])];rfl,rfl⟩):qP:=h
theorem Z98(h:qP:=by
 refine ⟨k+1,Y4,Y5,fun j h hj => ?_⟩;by_cases hjk:j=k
 ·subst hjk;simp [HM.o]
 ·exact HA.o j h Y4):qP:=h
theorem Z97(h:qP:=by
 go_round
 case rel =>
  exact Z98
 case measure=>simp [intOf];omega):qP:=h
theorem Z99(h:qP:=by
 go_wp2;go_ret;exact ⟨by rw [EN (fun j hj=>HA.o j hj Y4)];rfl,rfl⟩):qP:=h
theorem Hq(l:List BA)(A:OA)(c g b:Nat)(ks:List BA)(w:World)(S:NP)(hl:Strs w S A l)(hb:w.cell? ⟨g,0,none⟩=some (.map (some b)))(h:SetIs w b ks) :
  Cl 259 #[.slice A l.length c,.func (.func 238) #[] #[.pointer (some ⟨g,0,none⟩)]] w (BK w (Ee (fun x => !Ja ks x) l)):=by
 have hn:=hl.2.1;have HB:=Hd hb;have HS:=Hd h;clear hb h
 go_enter func259,ntmps259
 go_wp2
 go_loop [8] (fun i=>∃ k:Nat,k≤l.length∧i=.I k∧∀ j (h:j<l.length),j<k→(fun x => !Ja ks x) l[j]=false) (fun i=>l.length-(intOf i).toNat)
 case atStart=>exact ⟨0,AE,rfl,Y8⟩
 case round =>
  obtain ⟨k,hk,rfl,hall⟩:=hrel;have HA:=Hd hall;clear hall;by_cases hlt:k<l.length
  ·obtain ⟨b1,o1,rfl,z1,c1⟩:=hl.at_ hlt;cases hm:Ja ks l[k]
   ·have HM:=Hd hm;clear hm
    go_wp2_with (go_at_call 238;refine (F6 _ g b ks _ HB.o HS.o).mono ?_;rintro e w' ⟨rfl,rfl⟩;rw [HM.o])
    exact Z96
   ·have HM:=Hd hm;clear hm
    go_wp2_with (go_at_call 238;refine (F6 _ g b ks _ HB.o HS.o).mono ?_;rintro e w' ⟨rfl,rfl⟩;rw [HM.o])
    exact Z97
  ·exact Z99
theorem Fz(l:List BA)(A:OA)(c g b:Nat)(ks:List BA)(w:World)(S:NP)(hl:Strs w S A l)(hb:w.cell? ⟨g,0,none⟩=some (.map (some b)))(h:SetIs w b ks) :
  Cl 224 #[.slice A l.length c,.func (.func 238) #[] #[.pointer (some ⟨g,0,none⟩)]] w (SameB w (l.any fun x => !Ja ks x)):=by
 obtain ⟨HB,HS,HL⟩:=Hd3 hb h hl;clear hb h hl
 go_enter func224,ntmps224
 go_wp2_with (go_at_call 259;refine (Hq _ _ _ g b ks _ S HL.o HB.o HS.o).mono ?_;rintro e w' ⟨rfl,rfl⟩)
 go_ret;exact ⟨by rw [←Ec];rfl,rfl⟩

def AJ(o:Oper):List Nat:=(o.after.toList.filter (Region.binds .any)).map (·.on)
def BN(P:Program)(K:Value→World→Prop):Result Next→Prop
 |.ok (.value v) w'=>K v w'
 |.ok .skip w'=>K undef w'
 |.ok (.enter f args) w'=>Calls P f args w' (fun e w''=>∃ v,e=.returned v∧K v w'')
 |_=>False
def De(ops:Array Oper)(o:Oper)(a0:Act)(vals:Nat→Value)(t:Nat):Value :=
 match (AJ o).find? (fun j=>(ops[j]?).bind (·.dst)==some t) with
 |some j=>vals j
 |none=>a0.tmps.getD t undef
def Ey(ops:Array Oper)(o:Oper)(a0:Act)(vals:Nat→Value):Operand→Value
 |.tmp t=>De ops o a0 vals t
 |x=>a0.eval x
def IZ:Value→Option Bool
 |.bool b=>some b
 |_=>none
def Ad(o:Oper)(vals:Nat→Value):Bool :=
 match o.guard with
 |none=>true
 |some (g,want)=>IZ (vals g)==some want
def AR(vals:Nat→Value):List Oper→Nat→Act→Act
 |[],_,a=>a
 |o::l,k,a=>AR vals l (k+1) (a.put o.dst (vals k))
def EE(vals:Nat→Value)(i:Nat)(v:Value):Nat→Value:=fun k=>if k=i then v else vals k
def KB(ops:Array Oper)(D:Nat→List Nat)(n:Nat):Bool :=
 Region.noSelect ops&&decide ((ops.toList.filterMap (·.dst)).Nodup)&&(ops.toList.filterMap (·.dst)).all (fun d=>decide (d<n)) &&
 (List.range ops.size).all fun i=>match ops[i]? with
  |none=>true
  |some o=>(AJ o).all (fun j=>decide (j<i))&&(D i).all (fun j=>decide (j=i)||(AJ o).contains j) &&
   (match o.guard with|none=>true|some (g,_)=>(AJ o).contains g&&((ops[g]?).bind (·.dst)).isSome) &&
   (o.looksAt ops).all fun t=>(List.range ops.size).all fun j=>match ops[j]? with
    |none=>true
    |some oj=>decide (oj.dst≠some t)||decide (j=i)||(AJ o).contains j||(AJ oj).contains i
def LinStep{Γ:Type}(P:Program)(ops:Array Oper)(D:Nat→List Nat)(R:Γ→World→Γ→World→Prop)(N:Nat→Γ→Prop)(G:Nat→List Value→Γ→World→Prop)(a0:Act)(γ0:Γ)(w0:World)(i:Nat)(o:Oper):Prop :=
 ∀ (vals:Nat→Value) (γ:Γ) (w:World),R γ0 w0 γ w→N i γ→(∀ j,j∈AJ o→G j ((D j).map vals) γ w) →
  if Ad o vals then BN P (fun v w'=>∃ γ',R γ w γ' w'∧(∀ j,j≠i→j ∉ AJ o→N j γ→N j γ')∧G i ((D i).map (EE vals i v)) γ' w') ((execOp (Ey ops o a0 vals) o).run P w)
  else G i ((D i).map (EE vals i undef)) γ w

section
variable {P:Program}{ops:Array Oper}{Q:Exit→Act→World→Prop}

theorem EM{D:Nat→List Nat}{n:Nat}(h:KB ops D n=true) :
  Region.noSelect ops=true∧(ops.toList.filterMap (·.dst)).Nodup∧(∀ (i:Nat) (o:Oper) (d:Nat),ops[i]?=some o→o.dst=some d→d<n) ∧
  (∀ (i:Nat) (o:Oper) (j:Nat),ops[i]?=some o→j∈AJ o→j<i)∧(∀ (i:Nat) (o:Oper) (j:Nat),ops[i]?=some o→j∈D i→j=i∨j∈AJ o) ∧
  (∀ (i:Nat) (o:Oper) (g:Nat) (b:Bool),ops[i]?=some o→o.guard=some (g,b)→g∈AJ o∧∃ (og:Oper) (t:Nat),ops[g]?=some og∧og.dst=some t) ∧
  (∀ (i:Nat) (o:Oper) (t j:Nat) (oj:Oper),ops[i]?=some o→t∈o.looksAt ops→ops[j]?=some oj→oj.dst=some t→j=i∨j∈AJ o∨i∈AJ oj):=by
 simp only [KB,Bool.and_eq_true,decide_eq_true_eq] at h;obtain ⟨⟨⟨h1,h2⟩,h3⟩,h4⟩:=h;rw [List.all_eq_true] at h3 h4;have key:∀ (i:Nat) (o:Oper),ops[i]?=some o→(((∀ j∈AJ o,j<i)∧(∀ j∈D i,(decide (j=i)||(AJ o).contains j)=true)) ∧
   (match o.guard with|none=>true|some (g,_)=>(AJ o).contains g&&((ops[g]?).bind (·.dst)).isSome)=true) ∧
   ∀ t∈o.looksAt ops,∀ j∈List.range ops.size,(match ops[j]? with
    |none=>true
    |some oj=>decide (oj.dst≠some t)||decide (j=i)||(AJ o).contains j||(AJ oj).contains i)=true:=fun i o hi=>by
  have hlt:i<ops.size:=(Array.getElem?_eq_some_iff.1 hi).1;have:=h4 i (List.mem_range.2 hlt);simp only [hi,Bool.and_eq_true,List.all_eq_true,decide_eq_true_eq] at this;exact this
 refine ⟨h1,h2,?_,?_,?_,?_,?_⟩
 ·intro i o d hi hd;have:d∈ops.toList.filterMap (·.dst):=List.mem_filterMap.2 ⟨o,by simpa using Array.mem_of_getElem? hi,hd⟩
  simpa using h3 d this
 ·intro i o j hi hj;exact (key i o hi).1.1.1 j hj
 ·intro i o j hi hj;have:=(key i o hi).1.1.2 j hj
  simpa using this
 ·intro i o g b hi hg;have:=(key i o hi).1.2;simp only [hg,Bool.and_eq_true,List.contains_iff_mem,Option.isSome_iff_exists] at this;obtain ⟨h5,t,h6⟩:=this;refine ⟨by simpa using h5,?_⟩;cases hgo:ops[g]? with
  |none=>simp [hgo] at h6
  |some og=>simp [hgo] at h6;exact ⟨og,t,rfl,h6⟩
 ·intro i o t j oj hi ht hj hd;have hlt:j<ops.size:=(Array.getElem?_eq_some_iff.1 hj).1;have:=(key i o hi).2 t ht j (List.mem_range.2 hlt);simp only [hj,hd,Bool.or_eq_true,decide_eq_true_eq,List.contains_iff_mem] at this
  rcases this with ((h|h)|h)|h
  ·exact absurd rfl h
  ·exact .inl h
  ·exact .inr (.inl Y27)
  ·exact .inr (.inr Y27)

theorem Y34(h:qP:=by simpa using hi):qP:=h
theorem TK(h:(ops.toList.filterMap (·.dst)).Nodup){i j:Nat}{oi oj:Oper}{t:Nat}(hi:ops[i]?=some oi)(hj:ops[j]?=some oj)(hdi:oi.dst=some t)(hdj:oj.dst=some t):i=j:=by
 have hi':ops.toList[i]?=some oi:=Y34;have hj':ops.toList[j]?=some oj:=Y15;clear hi hj;generalize ops.toList=l at *
 induction l generalizing i j with
 |nil=>simp at hi'
 |cons o l ih =>
  cases i with
  |zero =>
   cases j with
   |zero=>rfl
   |succ j =>
    exfalso;simp at hi' hj';subst hi';rw [List.filterMap_cons_some hdi,List.nodup_cons] at h;exact h.1 (List.mem_filterMap.2 ⟨oj,List.mem_of_getElem? hj',hdj⟩)
  |succ i =>
   cases j with
   |zero =>
    exfalso;simp at hi' hj';subst hj';rw [List.filterMap_cons_some hdj,List.nodup_cons] at h;exact h.1 (List.mem_filterMap.2 ⟨oi,List.mem_of_getElem? hi',hdi⟩)
   |succ j =>
    have hn:(l.filterMap (·.dst)).Nodup:=by
     cases hod:o.dst with
     |none=>rwa [List.filterMap_cons_none hod] at h
     |some d=>rw [List.filterMap_cons_some hod,List.nodup_cons] at h;exact h.2
    have hij:i=j:=ih hn (by simpa using hi') (by simpa using hj');rw [hij]

theorem GZ(vals:Nat→Value):∀ (l:List Oper) (k:Nat) (a:Act),(AR vals l k a).tmps.size=a.tmps.size∧(AR vals l k a).defers=a.defers
 |[],_,_=>⟨rfl,rfl⟩
 |o::l,k,a=>by
  have:=GZ vals l (k+1) (a.put o.dst (vals k));cases hd:o.dst<;>simp [AR,hd,Act.put] at this⊢<;>exact this
theorem F3(vals:Nat→Value):∀ (l:List Oper) (k:Nat) (a:Act) (t:Nat),(∀ o∈l,o.dst≠some t)→(AR vals l k a).tmps[t]?=a.tmps[t]?
 |[],_,_,_,_=>rfl
 |o::l,k,a,t,h=>by
  have h1:=F3 vals l (k+1) (a.put o.dst (vals k)) t (fun o' ho'=>h o' (List.mem_cons_of_mem _ ho'));have h2:=h o List.mem_cons_self;rw [AR,h1];cases hd:o.dst with
  |none=>rfl
  |some d =>
   have hne:d≠t:=fun e=>h2 (by rw [hd,e]);simp [Act.put,Array.getElem?_setIfInBounds_ne hne]
theorem Iq(vals:Nat→Value):∀ (l:List Oper) (k:Nat) (a:Act) (j:Nat) (o:Oper) (t:Nat),(l.filterMap (·.dst)).Nodup→l[j]?=some o→o.dst=some t→t<a.tmps.size→(AR vals l k a).tmps[t]?=some (vals (k+j))
 |[],_,_,_,_,_,_,h,_,_=>by simp at h
 |o::l,k,a,0,o',t,hn,h,hd,ht=>by
  simp at h;subst h;rw [List.filterMap_cons_some hd,List.nodup_cons] at hn;rw [AR,F3 vals l (k+1) _ t (fun o' ho' hd'=>hn.1 (List.mem_filterMap.2 ⟨o',ho',hd'⟩))];simp [Act.put,hd,ht]
 |o::l,k,a,j+1,o',t,hn,h,hd,ht=>by
  have hn':(l.filterMap (·.dst)).Nodup:=by
   cases hod:o.dst with
   |none=>rwa [List.filterMap_cons_none hod] at hn
   |some d=>rw [List.filterMap_cons_some hod,List.nodup_cons] at hn;exact hn.2
  have:=Iq vals l (k+1) (a.put o.dst (vals k)) j o' t hn' Y27 hd (by cases hod:o.dst<;>simpa [Act.put] using ht);rw [AR,this,show k+1+j=k+(j+1) by omega]

theorem XO(h:qP:=by
 rw [List.countP_cons_of_pos hx,List.countP_cons_of_pos (hle x hx)];omega):qP:=h
theorem Np{p q:Nat→Bool}(hle:∀ j,q j=true→p j=true){i:Nat}(hp:p i=true)(hq:q i=false):∀ l:List Nat,i∈l→l.countP q+1≤l.countP p
 |x::l,h=>by
  have mono:∀ l:List Nat,l.countP q≤l.countP p:=fun l=>List.countP_mono_left fun x _ hx=>hle x hx
  rcases List.mem_cons.1 h with rfl|h'
  ·rw [List.countP_cons_of_pos hp,List.countP_cons_of_neg (by simp [hq])];have:=mono l;omega
  ·have ih:=Np hle hp hq l h';by_cases hx:q x=true
   ·exact XO
   ·rw [List.countP_cons_of_neg hx];have:=List.countP_cons (p:=p) (a:=x) (l:=l);omega

structure LinInv{Γ:Type}(ops:Array Oper)(D:Nat→List Nat)(R:Γ→World→Γ→World→Prop)(N:Nat→Γ→Prop)(G:Nat→List Value→Γ→World→Prop)(a0:Act)(γ0:Γ)(w0:World)(listed:Array Bool)(a:Act)(w:World)(vals:Nat→Value)(γ:Γ):Prop where
 size:listed.size=ops.size
 asize:a.tmps.size=a0.tmps.size
 defers:a.defers=a0.defers
 at_:∀ (j:Nat) (o:Oper) (t:Nat),ops[j]?=some o→listed.getD j false=true→o.dst=some t→a.tmps[t]?=some (vals j)
 no:∀ t:Nat,(∀ (j:Nat) (o:Oper),ops[j]?=some o→listed.getD j false=true→o.dst≠some t)→a.tmps[t]?=a0.tmps[t]?
 rel:R γ0 w0 γ w
 down:∀ (j:Nat) (o:Oper),ops[j]?=some o→listed.getD j false=true→∀ k,k∈AJ o→listed.getD k false=true
 open_:∀ j,j<ops.size→listed.getD j false=false→N j γ
 facts:∀ j,j<ops.size→listed.getD j false=true→G j ((D j).map vals) γ w

theorem ER{listed:Array Bool}{j:Nat}(h:j<listed.size):listed.getD j true=listed.getD j false:=by simp [h]

theorem EFA(h:qP:=by
 obtain ⟨j,o,hj,hd⟩:=hex;have hjl:j<ops.size:=(Array.getElem?_eq_some_iff.1 hj).1;rw [I.at_ j o t hj (hall j hjl) hd,Iq vals ops.toList 0 a0 j o t hnd Y15 hd (hlt j o t hj hd),Nat.zero_add]):qP:=h
theorem EDA(h:qP:=by
 obtain ⟨j,hj⟩:=List.mem_iff_getElem?.1 ho;exact hno j o Y15):qP:=h
theorem DFA(h:qP:=by
 have hno:∀ (j:Nat) (o:Oper),ops[j]?=some o→o.dst≠some t:=fun j o hj hd=>hex ⟨j,o,hj,hd⟩;rw [I.no t (fun j o hj _=>hno j o hj),F3 vals ops.toList 0 a0 t (fun o ho=>by
  exact EDA)]):qP:=h
theorem D7A(h:qP:=by
 apply Array.ext_getElem?;intro t;by_cases hex:∃ (j:Nat) (o:Oper),ops[j]?=some o∧o.dst=some t
 ·exact EFA
 ·exact DFA):qP:=h
theorem EhA(h:qP:=by
 have hs:=GZ vals ops.toList 0 a0;have ht:a.tmps=(AR vals ops.toList 0 a0).tmps:=by
  exact D7A
 have hdf:a.defers=(AR vals ops.toList 0 a0).defers:=(by rw [I.defers,hs.2]);cases a;cases hl:AR vals ops.toList 0 a0;rw [hl] at ht hdf;simp at ht hdf;rw [ht,hdf]):qP:=h
theorem WS(h:qP:=by
 intro listed a w vals γ I hall;have ha:a=AR vals ops.toList 0 a0:=by
  exact EhA
 rw [ha];exact hfin vals γ w I.rel fun i hi=>I.facts i hi (hall i hi)):qP:=h
theorem DyA(h:qP:=by
 refine mem_ready.2 ⟨by rw [ER Y4];exact hl,ops[j],by simp [hj],fun e he hb => ?_⟩;have hp:e.on∈AJ ops[j]:=List.mem_map.2 ⟨e,List.mem_filter.2 ⟨by simpa using he,hb⟩,rfl⟩;have hlt':=hacyc j ops[j] e.on (by simp [hj]) hp;exact ih e.on hlt' Y4):qP:=h
theorem DIA(h:qP:=by
 exfalso;have hmem:j∈Region.ready .any ops listed:=by
  exact DyA
 rw [hr] at hmem;cases hmem):qP:=h
theorem C7A(h:qP:=by
 intro hj;cases hl:listed.getD j false with
 |true=>rfl
 |false =>
  exact DIA):qP:=h
theorem Vj(h:qP:=by
 intro listed hsz hr j
 induction j using Nat.strongRecOn with
 |_ j ih =>
  exact C7A):qP:=h
theorem D2A(h:qP:=by
 intro j hj;have h0:(List.range ops.size).countP (fun i => !listed.getD i true)=0:=Y4;rw [List.countP_eq_zero] at h0;have:=h0 j (List.mem_range.2 hj);rw [ER (by rw [I.size];exact hj)] at this
 simpa using this):qP:=h
theorem Y35(h:qP:=by rw [I.size];exact hil):qP:=h
theorem DAA(h:qP:=by
 exfalso;have hi:i∈Region.ready .any ops listed:=(by rw [hr];exact List.mem_cons_self);obtain ⟨h0,o,ho,_⟩:=mem_ready.1 hi;have hil:i<ops.size:=(Array.getElem?_eq_some_iff.1 ho).1;rw [ER Y35,hall i hil] at h0;cases h0):qP:=h
theorem Vt(h:qP:=by
 intro listed a w vals γ I hc;have hall:∀ j,j<ops.size→listed.getD j false=true:=by
  exact D2A
 refine ⟨?_,fin listed a w vals γ I hall⟩;cases hr:Region.ready .any ops listed with
 |nil=>rfl
 |cons i l =>
  exact DAA):qP:=h
theorem V9(h:qP:=by
 intro j hj;obtain ⟨e,he,rfl⟩:=List.mem_map.1 hj;obtain ⟨he1,he2⟩:=List.mem_filter.1 he;exact hpre e (by simpa using he1) he2):qP:=h
theorem DNA(h:qP:=by
 simp only [hoj,Option.bind_some] at hd;simp [I.at_ j oj t hoj (hpl j hj) hd]):qP:=h
theorem DEA(h:qP:=by
 have:=I.down j oj hj hjl i h;rw [hun] at this;cases this):qP:=h
theorem DnA(h:qP:=by
 rcases hlook i o t j oj ho ht hj hd with rfl|h|h
 ·rw [hun] at hjl;cases hjl
 ·exact hf j h (by simp [hj,hd])
 ·exact DEA):qP:=h
theorem CnA(h:qP:=by
 rw [List.find?_eq_none] at hf;have:a.tmps[t]?=a0.tmps[t]?:=I.no t (fun j oj hj hjl hd=>by
  exact DnA)
 simp [this]):qP:=h
theorem V1(h:qP:=by
 intro t ht;unfold De;cases hf:(AJ o).find? (fun j=>(ops[j]?).bind (·.dst)==some t) with
 |some j =>
  have hj:=List.mem_of_find?_eq_some hf;have hd:=List.find?_some hf;simp only [beq_iff_eq] at hd;cases hoj:ops[j]? with
  |none=>simp [hoj] at hd
  |some oj =>
   exact DNA
 |none =>
  exact CnA):qP:=h
theorem WX(h:qP:=by
 refine execOp_congr o (fun cs b=>Region.noSelect_spec hsel i o cs b ho) fun x hx => ?_;cases x with
 |tmp t=>exact hslot t (List.mem_append_left _ (List.mem_filterMap.2 ⟨.tmp t,by simpa using hx,rfl⟩))
 |_=>rfl):qP:=h
theorem EGA(h:qP:=by
 obtain ⟨g,b⟩:=gb;obtain ⟨hgp,og,t,hog,hdt⟩:=hguard i o g b ho hg;have h1:=I.at_ g og t hog (hpl g hgp) hdt;simp only [yielded,hog,Option.bind_some,hdt,h1];congr 1;unfold IZ;split<;>simp_all):qP:=h
theorem VP(h:qP:=by
 unfold Region.wanted Ad;cases hg:o.guard with
 |none=>rfl
 |some gb =>
  exact EGA):qP:=h
theorem D1A(h:qP:=by
 cases hd:o.dst<;>simp [Act.put,I.asize]):qP:=h
theorem DhA(h:qP:=by
 cases hd:o.dst<;>simp [Act.put,I.defers]):qP:=h
theorem EIA(h:qP:=by
 subst hji;obtain rfl:o=oj:=Option.some.inj (ho.symm.trans hj);have hlt':t<a.tmps.size:=(by rw [I.asize];exact hlt j o t ho hd);simp [Act.put,hd,hlt',EE]):qP:=h
theorem DHA(h:qP:=by
 rw [hget j hji] at hjl;have h1:=I.at_ j oj t hj hjl hd;simp only [EE,if_neg hji];cases hod:o.dst with
 |none=>exact h1
 |some d =>
  have hne:d≠t:=fun e=>hji (TK hnd hj ho hd (by rw [hod,e]));simp only [Act.put];rw [Array.getElem?_setIfInBounds_ne hne];exact h1):qP:=h
theorem DgA(h:qP:=by
 intro j oj t hj hjl hd;by_cases hji:j=i
 ·exact EIA
 ·exact DHA):qP:=h
theorem CqA(h:qP:=by
 by_cases hji:j=i
 ·subst hji;exact hgeti
 ·rw [hget j hji];exact hjl):qP:=h
theorem CvA(h:qP:=by
 intro t hno;have hdt:o.dst≠some t:=hno i o ho hgeti;have h1:=I.no t (fun j oj hj hjl=>hno j oj hj (by
  exact CqA))
 cases hod:o.dst with
 |none=>exact h1
 |some d =>
  have hne:d≠t:=fun e=>hdt (by rw [hod,e]);simp only [Act.put];rw [Array.getElem?_setIfInBounds_ne hne];exact h1):qP:=h
theorem DcA(h:qP:=by
 subst hji;obtain rfl:o=oj:=Option.some.inj (ho.symm.trans hj);exact getD_set_true (hpl k hk)):qP:=h
theorem DDA(h:qP:=by
 rw [hget j hji] at hjl;exact getD_set_true (I.down j oj hj hjl k hk)):qP:=h
theorem EsA(h:qP:=by
 intro j oj hj hjl k hk;by_cases hji:j=i
 ·exact DcA
 ·exact DDA):qP:=h
theorem DwA(h:qP:=by
 subst hji;rw [hgeti] at hjl;cases hjl):qP:=h
theorem ElA(h:qP:=by
 rw [hget j hji] at hjl;exact hN' j hji (fun hp=>by rw [hpl j hp] at hjl;cases hjl) (I.open_ j hj hjl)):qP:=h
theorem CcA(h:qP:=by
 intro j hj hjl;by_cases hji:j=i
 ·exact DwA
 ·exact ElA):qP:=h
theorem DaA(h:qP:=by
 have:=I.down j ops[j] (by simp [hj]) hjl k h;rw [hun] at this;cases this):qP:=h
theorem EjA(h:qP:=by
 intro e;subst e
 rcases hD j ops[j] k (by simp [hj]) hk with h|h
 ·exact hji h.symm
 ·exact DaA):qP:=h
theorem DtA(h:qP:=by
 apply List.map_congr_left;intro k hk;have hki:k≠i:=by
  exact EjA
 simp [EE,hki]):qP:=h
theorem EEA(h:qP:=by
 rw [hget j hji] at hjl;have h1:=hst _ _ _ _ _ _ hR (I.facts j hj hjl);have hmap:(D j).map (EE vals i v)=(D j).map vals:=by
  exact DtA
 rw [hmap];exact h1):qP:=h
theorem C3A(h:qP:=by
 intro j hj hjl;by_cases hji:j=i
 ·subst hji;exact hG
 ·exact EEA):qP:=h
theorem EZA(h:qP:=by
 rw [getD_set_ne true (Ne.symm hki)] at hk;exact hk):qP:=h
theorem EkA(h:qP:=by
 by_cases hki:k=i
 ·subst hki;simp [hisz] at hk
 ·exact EZA):qP:=h
theorem DuA(h:qP:=by
 have:=Np (p:=fun k => !listed.getD k true) (q:=fun k => !(listed.setIfInBounds i true).getD k true) (i:=i) (fun k hk=>by
  exact EkA) (by simpa using h0) (by simp [hisz]) (List.range ops.size) (List.mem_range.2 hil)
 omega):qP:=h
theorem WJ(h:qP:=by
 intro v γ' w' hR hN' hG;have hget:∀ j,j≠i→(listed.setIfInBounds i true).getD j false=listed.getD j false:=fun j hj=>getD_set_ne false (Ne.symm hj);have hgeti:(listed.setIfInBounds i true).getD i false=true:=(by simp [hisz]);refine ih _ _ _ (EE vals i v) γ' ⟨by simp [I.size],?_,?_,?_,?_,htrans _ _ _ _ _ _ I.rel hR,?_,?_,?_⟩ ?_
 ·exact D1A
 ·exact DhA
 ·exact DgA
 ·exact CvA
 ·exact EsA
 ·exact CcA
 ·exact C3A
 ·exact DuA):qP:=h
theorem AUA(h:qP:=by
 have:j<ops.size:=(Array.getElem?_eq_some_iff.1 hj).1;simp [this] at hl):qP:=h
theorem ArA(h:qP:=by
 intro j o t hj hl _;exact AUA):qP:=h
theorem Zu(h:qP:=by
 intro j o hj hl;exact AUA):qP:=h
theorem ZZ(h:qP:=by
 have:=List.countP_le_length (p:=fun i => !(Array.replicate ops.size false).getD i true) (l:=List.range ops.size)
 simpa using this):qP:=h
theorem GQ{Γ:Type}{id:Nat}{a0:Act}{w0:World}(hm:P.follows .mixedOrders=true)(D:Nat→List Nat)(hB:KB ops D a0.tmps.size=true)
  (R:Γ→World→Γ→World→Prop) (hrefl:∀ γ w,R γ w γ w) (htrans:∀ γ w γ' w' γ'' w'',R γ w γ' w'→R γ' w' γ'' w''→R γ w γ'' w'')
  (N:Nat→Γ→Prop) (G:Nat→List Value→Γ→World→Prop) (hst:∀ i l γ w γ' w',R γ w γ' w'→G i l γ w→G i l γ' w') (γ0:Γ) (hN:∀ i,N i γ0)
  (hstep:∀ i o,ops[i]?=some o→LinStep P ops D R N G a0 γ0 w0.drew i o)
  (hfin:∀ vals γ w,R γ0 w0.drew γ w→(∀ i,i<ops.size→G i ((D i).map vals) γ w)→Q .normal (AR vals ops.toList 0 a0) w) :
  (Code.region id ops true).wp P Q a0 w0:=by
 obtain ⟨hsel,hnd,hlt,hacyc,hD,hguard,hlook⟩:=EM hB;have main:∀ (fuel:Nat) (listed:Array Bool) (a:Act) (w:World) (vals:Nat→Value) (γ:Γ),LinInv ops D R N G a0 γ0 w0.drew listed a w vals γ →
   (List.range ops.size).countP (fun i => !listed.getD i true)≤fuel→wpAny P .any ops Q fuel listed a w:=by
  intro fuel;have fin:∀ (listed:Array Bool) (a:Act) (w:World) (vals:Nat→Value) (γ:Γ),LinInv ops D R N G a0 γ0 w0.drew listed a w vals γ→(∀ j,j<ops.size→listed.getD j false=true)→Q .normal a w:=by
   exact WS
  have ready_nil:∀ (listed:Array Bool),listed.size=ops.size→Region.ready .any ops listed=[]→∀ j,j<ops.size→listed.getD j false=true:=by
   exact Vj
  induction fuel with
  |zero =>
   exact Vt
  |succ fuel ih =>
   intro listed a w vals γ I hc;refine ⟨fun hr=>fin listed a w vals γ I (ready_nil listed I.size hr),fun i hi => ?_⟩;obtain ⟨h0,o,ho,hpre⟩:=mem_ready.1 hi;have hil:i<ops.size:=(Array.getElem?_eq_some_iff.1 ho).1;have hisz:i<listed.size:=Y35;have hun:listed.getD i false=false:=(by rw [←ER hisz];exact h0);have hpl:∀ j,j∈AJ o→listed.getD j false=true:=by
    exact V9
   have hslot:∀ t,t∈o.looksAt ops→a.tmps.getD t undef=De ops o a0 vals t:=by
    exact V1
   have henv:execOp a.eval o=execOp (Ey ops o a0 vals) o:=by
    exact WX
   have hwant:Region.wanted o (yielded ops a.tmps)=Ad o vals:=by
    exact VP
   have hpf:∀ j,j∈AJ o→G j ((D j).map vals) γ w:=fun j hj=>I.facts j (by have:=hacyc i o j ho hj;omega) (hpl j hj);have hS:=hstep i o ho vals γ w I.rel (I.open_ i hil hun) hpf;have next:∀ (v:Value) (γ':Γ) (w':World),R γ w γ' w'→(∀ j,j≠i→j ∉ AJ o→N j γ→N j γ')→G i ((D i).map (EE vals i v)) γ' w'→wpAny P .any ops Q fuel (listed.setIfInBounds i true) (a.put o.dst v) w':=by
    exact WJ
   unfold wpOp;simp only [ho];rw [hwant];by_cases hw:Ad o vals=true
   ·rw [if_pos hw] at hS⊢;refine .inl ?_;unfold Oper.wp;rw [henv];generalize (execOp (Ey ops o a0 vals) o).run P w=r at hS;cases r with
    |ok n w' =>
     cases n<;>simp only [BN] at hS<;>simp only [Oper.upon]
     case value v=>obtain ⟨γ',h1,hn,h2⟩:=hS;exact next v γ' w' h1 hn h2
     case skip=>obtain ⟨γ',h1,hn,h2⟩:=hS;exact next undef γ' w' h1 hn h2
     case enter f args=>exact hS.mono fun e w'' ⟨v,he,γ',h1,hn,h2⟩=>by subst he;exact next v γ' w'' h1 hn h2
    |halt x w'=>simp only [BN] at hS
   ·rw [if_neg hw] at hS⊢;exact next undef γ w (hrefl _ _) (fun _ _ _ h=>h) hS
 refine wp_region_any hm (main ops.size _ a0 w0.drew (fun _=>undef) γ0 ⟨Y3,rfl,rfl,?_,fun _ _=>rfl,hrefl _ _,?_,fun j _ _=>hN j,?_⟩ ?_)
 ·exact ArA
 ·exact Zu
 ·intro j hj hl;simp [hj] at hl
 ·exact ZZ
end

def AllSteps(F:Nat→Oper→Prop):List Oper→Nat→Prop
 |[],_=>True
 |o::l,k=>F k o∧AllSteps F l (k+1)
theorem AllSteps.at_{F:Nat→Oper→Prop} : ∀ {l:List Oper} {k:Nat},AllSteps F l k→∀ i o,l[i]?=some o→F (k+i) o
 |[],_,_,_,_,h=>by simp at h
 |o::l,k,h,0,o',hi=>by simp at hi;subst hi;exact h.1
 |o::l,k,h,i+1,o',hi=>by have:=h.2.at_ i o' Y34;rwa [show k+1+i=k+(i+1) by omega] at this
theorem SY{F:Nat→Oper→Prop}{l:List Oper}(h:AllSteps F l 0):∀ i o,l.toArray[i]?=some o→F i o:=fun i o hi=>by
 have:=h.at_ i o Y34;rwa [Nat.zero_add] at this

theorem BB{Γ:Type}{P:Program}{l:List Oper}{Q:Exit→Act→World→Prop}{id:Nat}{a0:Act}{w0:World}(hm:P.follows .mixedOrders=true)(D:Nat→List Nat)(hB:KB l.toArray D a0.tmps.size=true)
  (R:Γ→World→Γ→World→Prop) (hrefl:∀ γ w,R γ w γ w) (htrans:∀ γ w γ' w' γ'' w'',R γ w γ' w'→R γ' w' γ'' w''→R γ w γ'' w'')
  (N:Nat→Γ→Prop) (G:Nat→List Value→Γ→World→Prop) (hst:∀ i l γ w γ' w',R γ w γ' w'→G i l γ w→G i l γ' w') (γ0:Γ) (hN:∀ i,N i γ0)
  (hstep:AllSteps (LinStep P l.toArray D R N G a0 γ0 w0.drew) l 0)
  (hfin:∀ vals γ w,R γ0 w0.drew γ w→(∀ i,i<l.length→G i ((D i).map vals) γ w)→Q .normal (AR vals l 0 a0) w) :
  (Code.region id l.toArray true).wp P Q a0 w0 :=
 GQ hm D hB R hrefl htrans N G hst γ0 hN (SY hstep) (fun vals γ w h1 h2=>hfin vals γ w h1 fun i hi=>h2 i Y34)
theorem LinStep.yes{Γ:Type}{P:Program}{ops:Array Oper}{D:Nat→List Nat}{R:Γ→World→Γ→World→Prop}{N:Nat→Γ→Prop}{G:Nat→List Value→Γ→World→Prop}{a0:Act}{γ0:Γ}{w0:World}{i:Nat}{o:Oper}
  (h:∀ (vals:Nat→Value) (γ:Γ) (w:World) (ρ:Operand→Value),R γ0 w0 γ w→N i γ→(∀ j,j∈AJ o→G j ((D j).map vals) γ w)→(∀ t,ρ (.tmp t)=De ops o a0 vals t)→(∀ v,ρ (.const v)=v)→(∀ f,ρ (.func f)=.func (.func f) #[] #[])→(∀ g,ρ (.global g)=.pointer (some ⟨g,0,none⟩)) →
   Ad o vals=true∧BN P (fun v w'=>∃ γ',R γ w γ' w'∧(∀ j,j≠i→j ∉ AJ o→N j γ→N j γ')∧G i ((D i).map (EE vals i v)) γ' w') ((execOp ρ o).run P w)):LinStep P ops D R N G a0 γ0 w0 i o:=by
 intro vals γ w hR hN hp;obtain ⟨h1,h2⟩:=h vals γ w (Ey ops o a0 vals) hR hN hp (fun _=>rfl) (fun _=>rfl) (fun _=>rfl) (fun _=>rfl);rw [if_pos h1];exact h2
structure SR(Inv:Nat→World→Prop)(γ:Nat)(w:World)(γ':Nat)(w':World):Prop where
 le:γ≤γ'
 eq:γ=γ'→w'=w
 inv:Inv γ w→Inv γ' w'
theorem SR.refl(Inv:Nat→World→Prop)(γ:Nat)(w:World):SR Inv γ w γ w:=⟨AS,fun _=>rfl,id⟩
theorem SR.trans(Inv:Nat→World→Prop)(γ:Nat)(w:World)(γ':Nat)(w':World)(γ'':Nat)(w'':World)(h:SR Inv γ w γ' w')(k:SR Inv γ' w' γ'' w''):SR Inv γ w γ'' w'' :=
 ⟨Nat.le_trans h.le k.le,fun e=>by
  have h1:=h.le;have h2:=k.le;rw [k.eq Y4,h.eq Y4],fun hi=>k.inv (h.inv hi)⟩
theorem SR.up{Inv:Nat→World→Prop}{γ:Nat}{w:World}{γ':Nat}{w':World}(h:γ<γ')(hi:Inv γ' w'):SR Inv γ w γ' w':=⟨Nat.le_of_lt h,fun e=>absurd e (Nat.ne_of_lt h),fun _=>hi⟩
def SN(st:List Nat)(i γ:Nat):Prop:=γ<st.getD i 100
theorem SN.zero{st:List Nat}(h:st.all (fun s=>decide (0<s))=true)(i:Nat):SN st i 0:=by
 unfold SN
 rcases Nat.lt_or_ge i st.length with hi|hi
 ·rw [show st.getD i 100=st[i] by simp [hi]];have:=List.all_eq_true.1 h _ (List.getElem_mem hi)
  simpa using this
 ·rw [show st.getD i 100=100 by simp [List.getElem?_eq_none hi]];omega
theorem SN.up{st:List Nat}{i s:Nat}{p:List Nat}(hs:s<100)(h:((List.range st.length).all fun j=>decide (j=i)||p.contains j||decide (st.getD j 100≠s))=true){γ:Nat}(hg:γ+1=s):∀ j,j≠i→j ∉ p→SN st j γ→SN st j s:=by
 intro j hj hp hn;unfold SN at hn⊢
 rcases Nat.lt_or_ge j st.length with hl|hl
 ·have:=List.all_eq_true.1 h j (List.mem_range.2 hl);simp only [Bool.or_eq_true,decide_eq_true_eq,List.contains_iff_mem] at this
  rcases this with (h1|h1)|h1
  ·exact absurd h1 hj
  ·exact absurd h1 hp
  ·omega
 ·rw [show st.getD j 100=100 by simp [List.getElem?_eq_none hl]];omega
abbrev Gh:=Nat→Option (Option Nat)
def gh0:Gh:=fun _=>none
def Gh.put(γ:Gh)(k:Nat)(x:Option Nat):Gh:=fun j=>if j=k then some x else γ j
def Gh.V(γ:Gh)(b:Nat):Prop:=∃ k,γ k=some (some b)
def C4(γ:Gh)(b:Nat):Prop:=¬γ.V b
def LN(al:Nat→Option Nat)(i:Nat)(γ:Gh):Prop:=(∀ k,al i=some k→γ k≠some none)∧((∃ s,al s=some i)→γ i=none)
structure LR(γ:Gh)(w:World)(γ':Gh)(w':World):Prop where
 os:w'.os=w.os
 tape:w'.tape=w.tape
 output:w'.output=w.output
 size:w.heap.size≤w'.heap.size
 kept:∀ b,b<w.heap.size→C4 γ b→w'.heap[b]?=w.heap[b]?
 shape:∀ b t cs,Blk w b t cs→∃ cs',cs'.size=cs.size∧Blk w' b t cs'
 old:∀ k b,γ' k=some (some b)→b<w.heap.size→γ k=some (some b)
 on:∀ k b,γ k=some (some b)→γ' k=some (some b)∨γ' k=some none
 done:∀ k,γ k=some none→γ' k=some none
 inb:(∀ k b,γ k=some (some b)→b<w.heap.size)→∀ k b,γ' k=some (some b)→b<w'.heap.size
theorem LR.refl(γ:Gh)(w:World):LR γ w γ w:=⟨rfl,rfl,rfl,AS,fun _ _ _=>rfl,fun _ _ cs h=>⟨cs,rfl,h⟩,fun _ _ h _=>h,fun _ _ h=>.inl h,fun _ h=>h,fun h=>h⟩
theorem LR.free{γ:Gh}{w:World}{γ':Gh}{w':World}(h:LR γ w γ' w'){b:Nat}(hb:b<w.heap.size)(hf:C4 γ b):C4 γ' b:=fun ⟨k,hk⟩=>hf ⟨k,h.old k b hk hb⟩
theorem AMA(h:qP:=by
 rcases h.on i b hi with h1|h1
 ·exact k.on i b h1
 ·exact .inr (k.done i h1)):qP:=h
theorem LR.trans(γ:Gh)(w:World)(γ':Gh)(w':World)(γ'':Gh)(w'':World)(h:LR γ w γ' w')(k:LR γ' w' γ'' w''):LR γ w γ'' w'' where
 os:=k.os.trans h.os
 tape:=k.tape.trans h.tape
 output:=k.output.trans h.output
 size:=Nat.le_trans h.size k.size
 kept b hb hf:=(k.kept b (Nat.lt_of_lt_of_le hb h.size) (h.free hb hf)).trans (h.kept b hb hf)
 shape b t cs hc:=by
  obtain ⟨c1,e1,h1⟩:=h.shape b t cs hc;obtain ⟨c2,e2,h2⟩:=k.shape b t c1 h1;exact ⟨c2,e2.trans e1,h2⟩
 old i b hi hb:=h.old i b (k.old i b hi (Nat.lt_of_lt_of_le hb h.size)) hb
 on i b hi:=by
  exact AMA
 done i hi:=k.done i (h.done i hi)
 inb hi:=k.inb (h.inb hi)
theorem E8A(γ:Gh){w w':World}(h:Ext w w'):LR γ w γ w' :=
 ⟨h.os,h.tape,h.output,h.size,fun b hb _=>h.block b hb,fun _b _t cs hc=>⟨cs,rfl,hc.keep (h.kept _)⟩,fun _ _ h _=>h,fun _ _ h=>.inl h,fun _ h=>h,fun hi i b hb=>Nat.lt_of_lt_of_le (hi i b hb) h.size⟩
theorem LR.ext{w:World}{γ:Gh}{w':World}(h:LR gh0 w γ w'):Ext w w':=⟨h.os,h.tape,h.output,h.size,fun b hb=>h.kept b hb (fun ⟨k,hk⟩=>by cases hk)⟩
theorem LR.drew_ext{w:World}{γ:Gh}{w':World}(h:LR gh0 w.drew γ w'):Ext w w':=(Ext.refl w).drew.trans h.ext
theorem Zd(h:qP:=by
 intro j b hj hb;unfold Gh.put at hj;split at hj
 ·simp at hj;omega
 ·exact hj):qP:=h
theorem ALA(h:qP:=by
 intro j b hj;left;unfold Gh.put;rw [if_neg (fun e=>by subst e;rw [hk] at hj;cases hj)];exact hj):qP:=h
theorem Xd(h:qP:=by
 intro j hj;unfold Gh.put;rw [if_neg (fun e=>by subst e;rw [hk] at hj;cases hj)];exact hj):qP:=h
theorem ZN(h:qP:=by
 intro hi j b hj;unfold Gh.put at hj;split at hj
 ·simp at hj;subst hj;simp
 ·have:=hi j b hj;simp;omega):qP:=h
theorem LR.new{γ:Gh}{k:Nat}(hk:γ k=none)(w:World)(o:Obj):LR γ w (γ.put k (some w.heap.size)) (w.alloc o):=by
 have h:=(Ext.refl w).alloc o;refine ⟨h.os,h.tape,h.output,h.size,fun b hb _=>h.block b hb,fun b t cs hc=>⟨cs,rfl,hc.keep (h.kept _)⟩,?_,?_,?_,?_⟩
 ·exact Zd
 ·exact ALA
 ·exact Xd
 ·exact ZN
theorem LR.inb0{w:World}{γ:Gh}{w':World}(h:LR gh0 w γ w'):∀ k b,γ k=some (some b)→b<w'.heap.size:=h.inb fun k b hk=>by cases hk
theorem Y36(h:qP:=by cases h):qP:=h
theorem LN.zero(al:Nat→Option Nat)(i:Nat):LN al i gh0:=⟨fun _ _ h=>Y36,fun _=>rfl⟩
theorem LN.made{al:Nat→Option Nat}{γ:Gh}{i:Nat}{x:Nat}{p:List Nat} : ∀ j,j≠i→j ∉ p→LN al j γ→LN al j (γ.put i (some x)):=by
 rintro j hj-⟨h1,h2⟩;refine ⟨fun k hk => ?_,fun hs => ?_⟩
 ·unfold Gh.put;split
  ·simp
  ·exact h1 k hk
 ·unfold Gh.put;rw [if_neg hj];exact h2 hs
theorem LN.stored{al:Nat→Option Nat}(inj:∀ j s k,al j=some k→al s=some k→j=s){γ:Gh}{s k g:Nat}(hs:al s=some k)(hk:γ k=some (some g)){p:List Nat} : ∀ j,j≠s→j ∉ p→LN al j γ→LN al j (γ.put k none):=by
 rintro j hj-⟨h1,h2⟩;refine ⟨fun k' hk' => ?_,fun hs' => ?_⟩
 ·unfold Gh.put;rw [if_neg (fun e=>by subst e;exact hj (inj _ _ _ hk' hs))];exact h1 k' hk'
 ·unfold Gh.put;rw [if_neg (fun e=>by subst e;rw [h2 hs'] at hk;cases hk)];exact h2 hs'
def al0:Nat→Option Nat:=fun _=>none
structure Only(g:Nat)(w w':World):Prop where
 os:w'.os=w.os
 tape:w'.tape=w.tape
 output:w'.output=w.output
 size:w'.heap.size=w.heap.size
 block:∀ b,b≠g→w'.heap[b]?=w.heap[b]?
theorem Only.refl(g:Nat)(w:World):Only g w w:=⟨rfl,rfl,rfl,rfl,fun _ _=>rfl⟩
theorem Only.set{g:Nat}{w w':World}(h:Only g w w')(i:Nat)(u:Value):Only g w (w'.setCell ⟨g,i,none⟩ u) :=
 ⟨h.os,h.tape,h.output,by simp [World.setCell,h.size],fun b hb=>(Below.heap_setCell _ _ _ _ hb).trans (h.block b hb)⟩
theorem ChA(h:qP:=by
 subst hbg;have:=hb.symm.trans hc;simp at this;obtain ⟨rfl,rfl⟩:=this;exact ⟨cs',hs,hb'⟩):qP:=h
theorem Yl(h:qP:=by
 by_cases hbg:b=g
 ·exact ChA
 ·exact ⟨c,rfl,(ho.block b hbg).trans hc⟩):qP:=h
theorem Xx(h:qP:=by
 unfold Gh.put at hj;split at hj
 ·cases hj
 ·exact hj):qP:=h
theorem WA(h:qP:=by
 intro j b hj _;exact Xx):qP:=h
theorem V7(h:qP:=by
 intro j b hj;unfold Gh.put;split
 ·exact .inr rfl
 ·exact .inl hj):qP:=h
theorem Uu(h:qP:=by
 intro j hj;unfold Gh.put;split
 ·rfl
 ·exact hj):qP:=h
theorem ZX(h:qP:=by
 intro hi j b hj;unfold Gh.put at hj;split at hj
 ·cases hj
 ·rw [ho.size];exact hi j b hj):qP:=h
theorem LR.store{γ:Gh}{w w':World}{k g t:Nat}{cs cs':Array Value}(hk:γ k=some (some g))(hu:∀ j,γ j=some (some g)→j=k)(ho:Only g w w')(hb:Blk w g t cs)(hb':Blk w' g t cs')(hs:cs'.size=cs.size) :
  LR γ w (γ.put k none) w':=by
 refine ⟨ho.os,ho.tape,ho.output,Nat.le_of_eq ho.size.symm,fun b _ hf=>ho.block b (fun e=>hf ⟨k,by rw [hk,e]⟩),?_,?_,?_,?_,?_⟩
 ·intro b t' c hc;exact Yl
 ·exact WA
 ·exact V7
 ·exact Uu
 ·exact ZX
section
variable {γ γ':Gh}{w w':World}{A B:OA}{d:Nat}{x:Val}
theorem LR.keptS(h:LR γ w γ' w'){S:NP}(hS:∀ b,b<w.heap.size→S b→C4 γ b):Kept S w w':=⟨h.size,fun b hs hb=>h.kept b hb (hS b hb hs)⟩
theorem A7A(h:qP:=by
 exact (h1.keep (h.keptS fun _ _ hb=>hb.1)).mono fun _ _ hb=>hb.2):qP:=h
theorem LR.strs{l:List BA}(h:LR γ w γ' w')(k:Strs w (C4 γ) A l):Strs w' (C4 γ') A l:=by
 have h1:Strs w (fun b=>C4 γ b∧C4 γ' b) A l:=k.mono fun b hb hf=>⟨hf,h.free hb hf⟩;exact A7A
theorem LR.rows{l:List (List Val)}(h:LR γ w γ' w')(k:Rows w (C4 γ) d A l):Rows w' (C4 γ') d A l:=by
 have h1:Rows w (fun b=>C4 γ b∧C4 γ' b) d A l:=k.mono fun b hb hf=>⟨hf,h.free hb hf⟩;exact A7A
theorem LR.cell(h:LR γ w γ' w'){p:Addr}{u:Value}(hf:C4 γ p.block)(hc:w.cell? p=some u):w'.cell? p=some u:=by
 have hp:p.block<w.heap.size:=by
  exact Z1
 rw [World.cell?_of_block (w:=w) (h.kept p.block hp hf)];exact hc
theorem LR.blk(h:LR γ w γ' w'){g t:Nat}{cs:Array Value}(hf:C4 γ g)(hc:Blk w g t cs):Blk w' g t cs:=hc.keep (h.keptS fun b _ e=>by subst e;exact hf)
def VarAt(k t n:Nat)(v:Value)(γ:Gh)(w:World):Prop:=∃ g cs,v=.pointer (some ⟨g,0,none⟩)∧cs.size=n∧Blk w g t cs∧(γ k=some (some g)∨γ k=some none)∧∀ j,γ j=some (some g)→j=k
def W7(t:Nat)(v:Value)(cs:Array Value)(γ:Gh)(w:World):Prop:=∃ g,v=.pointer (some ⟨g,0,none⟩)∧Blk w g t cs∧C4 γ g
theorem BXA(h:qP:=by
 unfold Gh.put at hj;split at hj
 ·assumption
 ·have:=hf j _ hj;omega):qP:=h
theorem VarAt.new{k t n:Nat}(hf:∀ j b,γ j=some (some b)→b<w.heap.size){cs:Array Value}(hn:cs.size=n):VarAt k t n (.pointer (some ⟨w.heap.size,0,none⟩)) (γ.put k (some w.heap.size)) (w.alloc (.cells cs t)):=by
 refine ⟨_,cs,rfl,hn,Blk.new w t cs,.inl (by simp [Gh.put]),fun j hj => ?_⟩;exact BXA
theorem BOA(h:qP:=by
 rintro ⟨j,hj⟩;unfold Gh.put at hj;split at hj
 ·cases hj
 ·rename_i hne;exact hne (h5 j hj)):qP:=h
theorem BtA(h:qP:=by
 rcases h4 with h4|h4
 ·exact h4
 ·exact absurd h4 (hn.1 k hs)):qP:=h
theorem VarAt.stored{al:Nat→Option Nat}{s k t n:Nat}{v:Value}(h:VarAt k t n v γ w)(hs:al s=some k)(hn:LN al s γ) :
  ∃ g cs,v=.pointer (some ⟨g,0,none⟩)∧cs.size=n∧Blk w g t cs∧γ k=some (some g)∧∀ w' cs',Only g w w'→Blk w' g t cs'→cs'.size=n→LR γ w (γ.put k none) w'∧W7 t v cs' (γ.put k none) w':=by
 obtain ⟨g,cs,h1,h2,h3,h4,h5⟩:=h;have hk:γ k=some (some g):=by
  exact BtA
 refine ⟨g,cs,h1,h2,h3,hk,fun w' cs' ho hb he=>⟨LR.store hk h5 ho h3 hb (he.trans h2.symm),g,h1,hb,?_⟩⟩;exact BOA
end

theorem LinStep.no{Γ:Type}{P:Program}{ops:Array Oper}{D:Nat→List Nat}{R:Γ→World→Γ→World→Prop}{N:Nat→Γ→Prop}{G:Nat→List Value→Γ→World→Prop}{a0:Act}{γ0:Γ}{w0:World}{i:Nat}{o:Oper}
  (h:∀ (vals:Nat→Value) (γ:Γ) (w:World),(∀ j,j∈AJ o→G j ((D j).map vals) γ w)→Ad o vals=false∧G i ((D i).map (EE vals i undef)) γ w):LinStep P ops D R N G a0 γ0 w0 i o:=by
 intro vals γ w hR hN hp;obtain ⟨h1,h2⟩:=h vals γ w hp;rw [if_neg (by rw [h1];simp)];exact h2
theorem Only.drew{g:Nat}{w w':World}(h:Only g w w'):Only g w w'.drew:=⟨h.os,h.tape,h.output,h.size,h.block⟩
theorem Only.drewN{g:Nat}{w w':World}(h:Only g w w')(n:Nat):Only g w (w'.drewN n):=⟨h.os,h.tape,h.output,h.size,h.block⟩
theorem Only.trans{g:Nat}{w w' w'':World}(h:Only g w w')(k:Only g w' w''):Only g w w'':=⟨k.os.trans h.os,k.tape.trans h.tape,k.output.trans h.output,k.size.trans h.size,fun b hb=>(k.block b hb).trans (h.block b hb)⟩
theorem Only.kept{g:Nat}{w w':World}(h:Only g w w'){S:NP}(hS:∀ b,b<w.heap.size→S b→b≠g):Kept S w w':=⟨Nat.le_of_eq h.size.symm,fun b hb hl=>h.block b (hS b hl hb)⟩
theorem Only.below{g B:Nat}{w w':World}(h:Only g w w')(hB:B≤g):Below B w w':=⟨h.os,h.tape,h.output,Nat.le_of_eq h.size.symm,fun b hb=>h.block b Y4⟩
theorem Ext.only{g:Nat}{a w w':World}(h:Ext a w)(k:Only g w w')(hg:a.heap.size≤g):Ext a w':=Below.trans h (k.below hg)
theorem Only.own{g:Nat}{w w':World}(h:Only g w w'){base e sz n c:Nat}{A:OA}{xs:List Value}(ho:Own w base e sz A n c xs)(hg:g<base):Own w' base e sz A n c xs :=
 ho.keep (h.kept fun b _ hb=>by have:=(ho.blk hb).1;omega)
theorem YY(h:qP:=by
 obtain ⟨A',c',w',hrun,h2,h3,h4⟩:=PU w o.type ti hown (c2:=c2) hr hl h1 h63 hby hbase;unfold execOp;simp only [ho,resolve,invoke,builtin,Sem.run_bind,Sem.run_pure,Result.andThen_ok,List.map_toArray,List.map_cons,List.map_nil,hs,hx,hrun];exact h A' c' w' h2 h3 h4):qP:=h
theorem Tg{P:Program}{o:Oper}{ρ:Operand→Value}{K:Value→World→Prop}{w:World}{base e sz n c:Nat}{A:OA}{xs:List Value}(s x:Operand){t by_:Nat}
  (ho:o.op=.call { callee:=.builtin .append,args:=#[s,x],argTypes:=#[t,t] }) (ti:TI P t e sz by_) (hs:ρ s=.slice A n c) (hown:Own w base e sz A n c xs)
  {S:NP} {B:OA} {m c2:Nat} {news:List Value} (hx:ρ x=.slice B m c2) (hr:Rd w S B news) (hl:news.length=m*sz) (h1:∀ u∈news,u.oneCell'=true)
  (h63:(n+m)*by_≤140737488355328) (hby:0<by_) (hbase:base≤w.heap.size)
  (h:∀ A' c' w',Own w' base e sz A' (n+m) c' (xs++news)→w.grownBy w' (ob A)→(ob A'=ob A∨ob A'=some w.heap.size)→K (.slice A' (n+m) c') w') :
  BN P K ((execOp ρ o).run P w):=by
 exact YY
end Go.Proofs.YtidacnalcdhckaaGreatDoor
