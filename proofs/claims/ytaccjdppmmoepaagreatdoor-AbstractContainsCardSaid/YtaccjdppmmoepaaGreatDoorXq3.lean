/- Lemmas. No conditions. -/
import Derived.Test.YtaccjdppmmoepaaGreatDoorXq2
import Derived.Shelf.SlIter.Nil
import Derived.Shelf.SortM.Plain
import Derived.Shelf.SortM.SortNone
import Derived.Ground.GgzProg
import Derived.Ground.SlgmProg
import Derived.Test.YtaccjdppmmoepaaGreatDoorProg
import Derived.Shelf.SlGeneric
import Derived.Deep.LoopGhost
import Derived.Deep.DeepCutAuto
import Derived.Deep.Light
import Derived.IntWalk
set_option maxRecDepth 100000
set_option maxHeartbeats 1000000
namespace Go.Proofs.YtaccjdppmmoepaaGreatDoor
open Go Go.RowKit Tryz
variable {qP:Prop}{A B:OA}{T X:NP}{base c:Nat}{l:List (List Int)}{w J:World}

def OwnIss(w:World)(base:Nat)(X:NP)(A:OA)(c:Nat)(l:List (List Int)):Prop :=
 ∃ hs,Own w base 22 1 A l.length c hs/\∀ (i:Nat) (r:List Int),l[i]?=some r->∃ (B:OA) (e:Nat),hs[i]?=some (Value.slice B r.length e)/\r.length<=e/\Ints w (λb=>ob A≠some b/\X b) B r
theorem Ints.move{S:NP}{l:List Int}(h:Ints w S B l)(k:Kept S w J)(m:∀ i,i<w.heap.size->S i->T i):Ints J T B l :=
 ((Ints.mono h (T:=λb=>S b/\T b) λi hi hs=>⟨hs,m i hi hs⟩).keep (k.mono λ_ _ hh=>hh.1)).mono λ_ _ hh=>hh.2
theorem OwnIss.nil(w:World)(base:Nat)(X:NP):OwnIss w base X none 0 []:=⟨[],Own.nil _ _ _ _,AC⟩
theorem OwnIss.ext(h:OwnIss w base X A c l)(hx:Ext w J):OwnIss J base X A c l:=by
 obtain ⟨hs,h1,h2⟩:=h;refine ⟨hs,h1.ext hx,λi r hr => ?_⟩;obtain ⟨B,e,h3,hcp,h4⟩:=h2 i r hr;exact ⟨B,e,h3,hcp,h4.keep (hx.kept _)⟩
theorem OwnIss.push{c':Nat}{A':OA}{r:List Int}{e:Nat}{hs:List Value}(ho:hs.length=l.length)
  (hv:∀ (i:Nat) (r:List Int),l[i]?=some r->∃ (B:OA) (e:Nat),hs[i]?=some (Value.slice B r.length e)/\r.length<=e/\Ints w (λb=>ob A≠some b/\X b) B r)
  (hown:Own J base 22 1 A' (l.length+1) c' (hs++[Value.slice B r.length e])) (hg:w.grownBy J (ob A)) (hat:ob A'=ob A\/ob A'=some w.heap.size)
  (hre:r.length<=e) (hy:Ints w (λb=>ob A≠some b/\X b) B r):OwnIss J base X A' c' (l++[r]):=by
 have hk:Kept (λb=>ob A≠some b/\X b) w J:=Kept.of_grown hg (λb hb _ e=>hb.1 e.symm);have hm:∀ i,i<w.heap.size->(ob A≠some i/\X i)->(ob A'≠some i/\X i):=by
  exact GO
 refine ⟨_,Dg,λi r' hr => ?_⟩
 rcases Nat.lt_or_ge i l.length with hlt|O
 ·rw [List.getElem?_append_left hlt] at hr;obtain ⟨B',e',h3,hcp,h4⟩:=hv i r' hr;exact ⟨B',e',by rw [List.getElem?_append_left AA];exact h3,hcp,h4.move hk hm⟩
 ·rw [List.getElem?_append_right O] at hr;have hj0:i-l.length=0:=by
   exact Lt
  rw [hj0] at hr;simp at hr;subst hr;exact ⟨B,e,by rw [List.getElem?_append_right AA,ho,hj0];rfl,hre,hy.move hk hm⟩
theorem OwnIss.riss(h:OwnIss w base X A c l)(hl:l.length<=4294967296)(h1:∀ b,ob A=some b->T b)(h2:∀ b,X b->T b):RIss w T A l:=by
 obtain ⟨hs,ho,hv⟩:=h;refine ⟨hl,hs,ho.rd.mono λi _ hi=>h1 i hi,by simpa using ho.len,λi r hr => ?_⟩;obtain ⟨B,e,h3,hcp,h4⟩:=hv i r hr;exact ⟨B,e,h3,hcp,h4.mono λi _ hi=>h2 i hi.2⟩
theorem OwnIss.blk(h:OwnIss w base X A c l){k:Nat}(hk:ob A=some k):base<=k/\k<w.heap.size:=by
 exact ID
theorem GBA:(prog.info? 22).map (λi=>(i.zero,i.size,i.bytes))=some (some (.slice none 0 0),1,24):=by kernel_rfl
theorem DCA:TI prog 129 22 1 24:=IKA underlying129 GBA rfl AB

theorem Je(rows:List (List Val))(c i j:Nat)(hi:i<rows.length)(hj:j<rows.length):(Ad rows c).getD i 0=(Ad rows c).getD j 0↔rows[i].getD c Val.zero=rows[j].getD c Val.zero:=by
 have Y:(Ad rows c).getD i 0=Gv (Cx c rows[i]) rows:=(by simp [Ad,hi]);have Z:(Ad rows c).getD j 0=Gv (Cx c rows[j]) rows:=(by simp [Ad,hj]);have hn:∀ k (hk:k<rows.length),0<=Gv (Cx c rows[k]) rows:=by
  intro k hk;have:=G5 (Cx c rows[k]) rows;rw [show rows.any (Cx c rows[k])=true from List.any_eq_true.2 ⟨rows[k],List.getElem_mem hk,by simp [Cx]⟩] at this;exact of_decide_eq_true this
 rw [Y,Z];constructor
 ·intro h;obtain ⟨a,ha,a8,O,_⟩:=Nm (hn i hi);obtain ⟨b,hb,hbl,U,_⟩:=Nm (hn j hj);rw [ha,hb] at h;have:a=b:=AA;subst this;simp only [Cx,decide_eq_true_eq] at O U;rw [<-O,U]
 ·intro h;have:Cx c rows[i]=Cx c rows[j]:=by
   funext o
   simp only [Cx,h]
  rw [this]
def Gk(rows:List (List Val))(fs:List Nat)(tov:Nat):Bool:=rows.all λr=>rows.all λo => !(fs.all λf=>Cx f r o)||Cx tov r o
theorem Ny{rows:List (List Val)}{fs:List Nat}{tov:Nat}{gs:List Int}(hg:GroupsOf rows.length (fs.map λf=>Ad rows f) gs):Fr gs (Ad rows tov)=Gk rows fs tov:=by
 have hs:∀ i j (hi:i<rows.length) (hj:j<rows.length),(gs.getD i 0=gs.getD j 0↔∀ f∈fs,rows[i].getD f Val.zero=rows[j].getD f Val.zero):=by
  intro i j hi hj;rw [hg.same i j hi hj];constructor
  ·intro h f hf;exact (Je rows f i j hi hj).1 (h _ (List.mem_map_of_mem hf))
  ·intro h l hl;obtain ⟨f,hf,rfl⟩:=List.mem_map.1 hl;exact (Je rows f i j hi hj).2 (h f hf)
 rw [Bool.eq_iff_iff,Wb,hg.len];have hh:Gk rows fs tov=true↔∀ i j (hi:i<rows.length) (hj:j<rows.length),(∀ f∈fs,rows[i].getD f Val.zero=rows[j].getD f Val.zero)->rows[i].getD tov Val.zero=rows[j].getD tov Val.zero:=by
  unfold Gk;simp only [List.all_eq_true,Bool.or_eq_true,Bool.not_eq_true',Cx,decide_eq_true_eq];constructor
  ·intro h i j hi hj hf
   rcases h rows[j] (List.getElem_mem hj) rows[i] (List.getElem_mem hi) with h1|h1
   ·rw [List.all_eq_false] at h1;obtain ⟨f,O,U⟩:=h1;exact absurd (hf f O) (by simpa using U)
   ·exact h1
  ·intro h r hr o ho;obtain ⟨j,hj,rfl⟩:=List.mem_iff_getElem.1 hr;obtain ⟨i,hi,rfl⟩:=List.mem_iff_getElem.1 ho;by_cases hf:∀ f∈fs,rows[i].getD f Val.zero=rows[j].getD f Val.zero
   ·exact Or.inr (h i j hi hj hf)
   ·left;rw [List.all_eq_false];simp only [Classical.not_forall] at hf;obtain ⟨f,O,U⟩:=hf;exact ⟨f,O,by simpa using U⟩
 rw [hh];constructor
 ·intro h i j hi hj hf
  rcases Nat.lt_trichotomy i j with hlt|rfl|hlt
  ·exact ((Je rows tov j i hj hi).1 (h j i hj hlt ((hs j i hj hi).2 (λf O=>(hf f O).symm)))).symm
  ·rfl
  ·exact (Je rows tov i j hi hj).1 (h i j hi hlt ((hs i j hi hj).2 hf))
 ·intro h i j hi hj he;exact (Je rows tov i j hi AA).2 (h i j hi AA ((hs i j hi AA).1 he))
def BH(cols:List BA)(rows:List (List Val))(frm:List BA)(tov:BA):Bool :=
 decide (0<=Bt cols tov)&&EF cols rows&&frm.all (λf=>decide (0<=Bt cols f))&&Gk rows (frm.map λf=>(Bt cols f).toNat) (Bt cols tov).toNat

theorem Gi(h:qP:=by
 go_ret;exact ⟨by rw [HF.o];rfl,HX0.o⟩):qP:=h
theorem US(h:qP:=by
 intro c hc j hj;have:=hrg;unfold EF at this;rw [List.all_eq_true] at this;have h9:=this rows[j] (List.getElem_mem hj);simp at h9;omega):qP:=h
theorem EN(h:qP:=by rw [HML.o];exact hlt):qP:=h
theorem Ii(h:qP:=by have:=(HOWN.o.blk hb).1;omega):qP:=h
theorem Xp(q:Nat)(cols:List BA)(rows:List (List Val))(frm:List BA)(tov:BA)(A B C:OA)(ca cb cc:Nat)(w:World)(S T U:NP)(hA:Strs w S A cols)(hB:Rows w T q B rows)(hC:Strs w U C frm) :
  Cl 103 #[.slice A cols.length ca,.slice B rows.length cb,.agg #[.slice C frm.length cc,.string tov]] w (Ae w (BH cols rows frm tov)):=by
 have hcl:=hA.2.1;have hrl:=hB.len;have hfl:=hC.2.1;obtain ⟨HA,HB,HC⟩:=Hd3 hA hB hC;clear hA hB hC;have HX0:=Hd ((Ext.refl w).alloc (.cells #[.slice C frm.length cc,.string tov] 64));by_cases ht:0<=Bt cols tov
 case neg =>
  have HF:=Hd (show BH cols rows frm tov=false by unfold BH;rw [decide_eq_false ht];rfl)
  go_enter func103,ntmps103
  go_wp2_with (go_at_call 144;refine (Dv _ _ _ _ _ S (HA.o.keep (HX0.o.kept S))).mono ?_;rintro e J ⟨rfl,rfl⟩)
  exact Gi
 obtain ⟨tn,b6,ht2,-⟩:=J5 ht;cases hrg:EF cols rows
 ·have HF:=Hd (show BH cols rows frm tov=false by unfold BH;rw [hrg];simp);have Y:=Hd hrg;clear hrg b6
  go_enter func103,ntmps103
  go_wp2_with (first|(go_at_call 144;refine (Dv _ _ _ _ _ S (HA.o.keep (HX0.o.kept S))).mono ?_;rintro e J ⟨rfl,rfl⟩)|(go_at_call 126;refine (Fg q cols rows _ _ _ _ _ T hcl (HB.o.keep (HX0.o.kept T))).mono ?_;rintro e J ⟨rfl,rfl⟩;rw [Y.o]))
  exact Gi
 have Y:=Hd hrg;have HT1:=Hd b6;have hrow:∀ c,c<cols.length->∀ j (h:j<rows.length),c<rows[j].length:=by
  exact US
 have b5:=Hd hrow;clear hrg b6 hrow ht
 go_enter func103,ntmps103
 go_wp2_with fail
 refine (Dv _ _ _ _ _ S (HA.o.keep (HX0.o.kept S))).mono ?_;rintro e J ⟨rfl,rfl⟩;rw [HT1.o]
 go_wp2_with (go_at_call 126;refine (Fg q cols rows _ _ _ _ _ T hcl (HB.o.keep (HX0.o.kept T))).mono ?_;rintro e J ⟨rfl,rfl⟩;rw [Y.o])
 go_loopw [27,8] (λi v wr=>∃ (k:Nat) (A':OA) (c':Nat),k<=frm.length/\i=.I k/\v=.slice A' k c'/\Ext w wr/\w.heap.size+1<=wr.heap.size/\(∀ j (h:j<frm.length),j<k->0<=Bt cols frm[j])/\OwnIss wr (w.heap.size+1) (λb=>w.heap.size+1<=b) A' c' ((frm.map λf=>Ad rows (Bt cols f).toNat).take k)) (λi _ _=>frm.length-(intOf i).toNat)
 case atStart=>exact ⟨0,none,0,AN,rfl,rfl,HX0.o,AC,AK,OwnIss.nil _ _ _⟩
 case round =>
  obtain ⟨k,A',c',hk,rfl,rfl,hext,hsz,hall,hown⟩:=hrel;obtain ⟨HE,b7,HO⟩:=Hd3 hext hall hown;have hml:(frm.map λf=>Ad rows (Bt cols f).toNat).length=frm.length:=AC;have HML:=Hd hml;clear hall hown hml;by_cases hlt:k<frm.length
  ·obtain ⟨b1,o1,rfl,z1,c1⟩:=(HC.o.keep (hext.kept U)).at_ hlt;clear hext;by_cases hf:0<=Bt cols frm[k]
   ·obtain ⟨fn,hf1,hf2,-⟩:=J5 hf;have b3:=Hd hf1;clear hf1 hf
    go_wp2_with fail
    refine (Dv _ _ _ _ _ S (HA.o.keep (HE.o.kept S))).mono ?_;rintro e J ⟨rfl,rfl⟩;rw [b3.o]
    go_wp2_with fail
    refine (Hl q rows _ _ fn _ T (HB.o.keep (HE.o.kept T)) (b5.o fn hf2)).mono ?_;rintro e w1 ⟨A1,c1',rfl,b4,O,hx1⟩;have HX1:=Hd hx1;have hsz1:=hx1.size;have HI1:=Hd O;clear hx1 O;have a9:(frm.map λf=>Ad rows (Bt cols f).toNat)[k]'EN=Ad rows fn:=(by simp [b3.o]);have HVAL:=Hd a9;have Z:((frm.map λf=>Ad rows (Bt cols f).toNat).take k).length=k:=(by rw [List.length_take,HML.o];omega);obtain ⟨hs,ho,hv⟩:=HO.o.ext (HX1.o.alloc (.cells #[.slice A1 (Ad rows fn).length c1'] 22));have hhs:hs.length=k:=(by have:=ho.len;rw [Z] at this;omega);rw [Z] at ho;obtain ⟨HOWN,HV,HHS,HLK⟩:=Hd4 ho hv hhs Z;clear ho hv hhs Z a9
    go_wp2_with (at_builtin;go_must (refine AL rfl (.tmp 36) (.tmp 40) rfl DCA rfl HOWN.o rfl (Blk.rd (Blk.new _ _ _)) rfl AP AA AB AI ?_);intro A4 c4 w4 hown4 hg4 hat4)
    go_roundw
    case rel =>
     have hsz4:=hg4.size;simp at hsz4;refine ⟨k+1,A4,c4,AA,AE,rfl,Ext.grown (HE.o.trans (HX1.o.alloc _)) hg4 (λb hb=>Ii),AA,λj h hj => ?_,?_⟩
     ·by_cases hjk:j=k
      ·subst hjk;rw [b3.o];omega
      ·exact b7.o j h AA
     ·rw [List.take_succ_eq_append_getElem EN,HVAL.o];refine OwnIss.push (by rw [HLK.o];exact HHS.o) HV.o (by rw [HLK.o];exact hown4) hg4 hat4 b4 ((HI1.o.keep (Kept.alloc _ _ _)).mono λi _ hi=>⟨λh0 => ?_,?_⟩)
      ·have:=(HO.o.blk h0).2;unfold BO at hi;omega
      ·unfold BO at hi;omega
    case measure=>simp [intOf];omega
   ·have HF:=Hd (show BH cols rows frm tov=false by
     unfold BH;rw [CX frm _ k hlt (by simpa using hf)];simp)
    go_wp2_with (go_at_call 144;refine (Dv _ _ _ _ _ S (HA.o.keep (HE.o.kept S))).mono ?_;rintro e J ⟨rfl,rfl⟩)
    exact Pi
  ·obtain rfl:k=frm.length:=AA;have hoo:=HO.o;rw [List.take_of_length_le (by rw [HML.o];exact Al)] at hoo;have HRS:=Hd (hoo.riss (T:=λ_=>True) (by rw [HML.o];exact hfl) (λ_ _=>trivial) (λ_ _=>trivial));clear hoo hext;have b0:=NI rows.length (frm.map λf=>Ad rows (Bt cols f).toNat) A' c' wr (λ_=>True) HRS.o (λl hl=>by obtain ⟨f,_,rfl⟩:=List.mem_map.1 hl;simp [Ad]) hrl;rw [HML.o] at b0;have HGL:=Hd b0;clear b0
   go_wp2_with fail
   refine HGL.o.mono ?_;rintro e w1 ⟨gs,a8,A1,c1,rfl,b4,O,hx1⟩;obtain ⟨HX1,HGO,HI1⟩:=Hd3 hx1 a8 O;have b8:=a8.len;have HGSL:=Hd b8;clear hx1 a8 O b8
   go_wp2_with fail
   refine (Hl q rows _ _ tn _ T (HB.o.keep ((HE.o.trans HX1.o).kept T)) (b5.o tn ht2)).mono ?_;rintro e w2 ⟨A2,c2,rfl,hcp2,hi2,hx2⟩;have HX2:=Hd hx2;have HI2:=Hd hi2;clear hx2 hi2
   go_wp2_with fail
   refine (KI gs (Ad rows tn) A1 A2 c1 c2 _ (BO wr) (BO w1) (HI1.o.keep (HX2.o.kept _)) HI2.o (by rw [HGSL.o];simp [Ad])).mono ?_;rintro e w3 ⟨rfl,hx3⟩;have HX3:=Hd hx3;clear hx3;have HF:=Hd (show Fr gs (Ad rows tn)=BH cols rows frm tov by
    unfold BH;rw [Y.o,HT1.o,CH frm _ (λj h=>by simpa using b7.o j h h),decide_eq_true (by omega:(0:Int)<=(tn:Int))];simp only [Bool.true_and,Int.toNat_natCast];refine Ny ?_;have:=HGO.o;rwa [List.map_map])
   go_wp2;go_ret;exact ⟨by rw [<-HF.o];rfl,HE.o.trans (HX1.o.trans (HX2.o.trans HX3.o))⟩
end Go.Proofs.YtaccjdppmmoepaaGreatDoor
namespace Go.Proofs
open Go.RowKit Go.Maps Go.Sort Go.Shelf
def Tryz.keys235_ren:Go.Shelf.Ren:=⟨fun|7=>235|10=>267|n=>n,fun|23=>182|26=>9|3=>4|28=>224|0=>0|27=>223|33=>78|4=>4|n=>n,fun|n=>n⟩
theorem Tryz.keys235:Go.Proofs.SlLaysZ.n7 Tryz.prog Tryz.keys235_ren:={
  mixed:=by kernel_rfl
  f7:=⟨Tryz.f235.name,by decide,Tryz.func235.trans (congrArg some (by kernel_rfl))⟩
  f10:=⟨Tryz.f267.name,by decide,Tryz.func267.trans (congrArg some (by kernel_rfl))⟩
  t0:=Tryz.underlying0
  a0:=Tryz.isAgg0
  z0:=Tryz.sizeOf0
  v0:=Tryz.zeroValue0
  t4:=Tryz.underlying4
  a4:=Tryz.isAgg4
  z4:=Tryz.sizeOf4
  v4:=Tryz.zeroValue4
  t23:=Tryz.underlying182
  a23:=Tryz.isAgg182
  z23:=Tryz.sizeOf182
  v23:=Tryz.zeroValue182
  t26:=Tryz.underlying9
  a26:=Tryz.isAgg9
  z26:=Tryz.sizeOf9
  v26:=Tryz.zeroValue9
  t27:=Tryz.underlying223
  a27:=Tryz.isAgg223
  z27:=Tryz.sizeOf223
  v27:=Tryz.zeroValue223
  t28:=Tryz.underlying224
  a28:=Tryz.isAgg224
  z28:=Tryz.sizeOf224
  v28:=Tryz.zeroValue224
  t33:=Tryz.underlying78
  a33:=Tryz.isAgg78
  z33:=Tryz.sizeOf78
  v33:=Tryz.zeroValue78 }
def Tryz.sorted234_ren:Go.Shelf.Ren:=⟨fun|6=>234|8=>266|9=>167|11=>280|13=>215|12=>214|23=>257|24=>258|14=>248|15=>249|16=>250|17=>251|18=>252|19=>253|20=>254|21=>255|22=>256|25=>272|26=>273|27=>274|28=>275|29=>276|30=>277|31=>281|n=>n,fun|26=>9|28=>224|24=>33|0=>0|3=>3|37=>94|48=>244|50=>178|4=>4|40=>238|39=>237|45=>207|5=>5|9=>9|51=>253|55=>257|57=>260|58=>168|33=>78|n=>n,fun|n=>n⟩
theorem Tryz.sorted234:Go.Proofs.SlLaysZ.n6 Tryz.prog Tryz.sorted234_ren:={
  mixed:=by kernel_rfl
  f6:=⟨Tryz.f234.name,by decide,Tryz.func234.trans (congrArg some (by kernel_rfl))⟩
  f8:=⟨Tryz.f266.name,by decide,Tryz.func266.trans (congrArg some (by kernel_rfl))⟩
  f11:=⟨Tryz.f280.name,by decide,Tryz.func280.trans (congrArg some (by kernel_rfl))⟩
  t0:=Tryz.underlying0
  a0:=Tryz.isAgg0
  z0:=Tryz.sizeOf0
  v0:=Tryz.zeroValue0
  t24:=Tryz.underlying33
  a24:=Tryz.isAgg33
  z24:=Tryz.sizeOf33
  v24:=Tryz.zeroValue33
  t26:=Tryz.underlying9
  a26:=Tryz.isAgg9
  z26:=Tryz.sizeOf9
  v26:=Tryz.zeroValue9
  t28:=Tryz.underlying224
  a28:=Tryz.isAgg224
  z28:=Tryz.sizeOf224
  v28:=Tryz.zeroValue224
  i26:=by kernel_rfl }
def Tryz.sort167_ren:Go.Shelf.Ren:=⟨fun|6=>167|8=>215|9=>214|19=>257|20=>258|21=>248|22=>249|23=>250|24=>251|25=>252|26=>253|27=>254|28=>255|29=>256|36=>272|31=>273|32=>274|37=>275|38=>276|39=>277|41=>281|n=>n,fun|27=>33|29=>9|3=>3|32=>94|26=>33|0=>0|44=>244|46=>178|4=>4|36=>238|35=>237|41=>207|5=>5|9=>9|53=>253|57=>257|63=>260|64=>168|n=>n,fun|n=>n⟩
theorem Tryz.sort167:Go.Proofs.SlLaysM.n6 Tryz.prog Tryz.sort167_ren:={
  mixed:=by kernel_rfl
  f6:=⟨Tryz.f167.name,by decide,Tryz.func167.trans (congrArg some (by kernel_rfl))⟩
  f8:=Tryz.func215.trans (congrArg some (by kernel_rfl))
  f9:=⟨Tryz.f214.name,by decide,Tryz.func214.trans (congrArg some (by kernel_rfl))⟩
  f19:=Tryz.func257.trans (congrArg some (by kernel_rfl))
  f20:=Tryz.func258.trans (congrArg some (by kernel_rfl))
  f21:=⟨Tryz.f248.name,by decide,Tryz.func248.trans (congrArg some (by kernel_rfl))⟩
  f22:=⟨Tryz.f249.name,by decide,Tryz.func249.trans (congrArg some (by kernel_rfl))⟩
  f23:=⟨Tryz.f250.name,by decide,Tryz.func250.trans (congrArg some (by kernel_rfl))⟩
  f24:=⟨Tryz.f251.name,by decide,Tryz.func251.trans (congrArg some (by kernel_rfl))⟩
  f25:=⟨Tryz.f252.name,by decide,Tryz.func252.trans (congrArg some (by kernel_rfl))⟩
  f26:=⟨Tryz.f253.name,by decide,Tryz.func253.trans (congrArg some (by kernel_rfl))⟩
  f27:=⟨Tryz.f254.name,by decide,Tryz.func254.trans (congrArg some (by kernel_rfl))⟩
  f28:=⟨Tryz.f255.name,by decide,Tryz.func255.trans (congrArg some (by kernel_rfl))⟩
  f29:=⟨Tryz.f256.name,by decide,Tryz.func256.trans (congrArg some (by kernel_rfl))⟩
  f31:=Tryz.func273.trans (congrArg some (by kernel_rfl))
  f32:=Tryz.func274.trans (congrArg some (by kernel_rfl))
  f36:=⟨Tryz.f272.name,by decide,Tryz.func272.trans (congrArg some (by kernel_rfl))⟩
  f37:=⟨Tryz.f275.name,by decide,Tryz.func275.trans (congrArg some (by kernel_rfl))⟩
  f38:=⟨Tryz.f276.name,by decide,Tryz.func276.trans (congrArg some (by kernel_rfl))⟩
  f39:=⟨Tryz.f277.name,by decide,Tryz.func277.trans (congrArg some (by kernel_rfl))⟩
  f41:=⟨Tryz.f281.name,by decide,Tryz.func281.trans (congrArg some (by kernel_rfl))⟩
  t0:=Tryz.underlying0
  a0:=Tryz.isAgg0
  z0:=Tryz.sizeOf0
  v0:=Tryz.zeroValue0
  t3:=Tryz.underlying3
  a3:=Tryz.isAgg3
  z3:=Tryz.sizeOf3
  v3:=Tryz.zeroValue3
  t4:=Tryz.underlying4
  a4:=Tryz.isAgg4
  z4:=Tryz.sizeOf4
  v4:=Tryz.zeroValue4
  t5:=Tryz.underlying5
  a5:=Tryz.isAgg5
  z5:=Tryz.sizeOf5
  v5:=Tryz.zeroValue5
  t9:=Tryz.underlying9
  a9:=Tryz.isAgg9
  z9:=Tryz.sizeOf9
  v9:=Tryz.zeroValue9
  t26:=Tryz.underlying33
  a26:=Tryz.isAgg33
  z26:=Tryz.sizeOf33
  v26:=Tryz.zeroValue33
  t27:=Tryz.underlying33
  a27:=Tryz.isAgg33
  z27:=Tryz.sizeOf33
  v27:=Tryz.zeroValue33
  t29:=Tryz.underlying9
  a29:=Tryz.isAgg9
  z29:=Tryz.sizeOf9
  v29:=Tryz.zeroValue9
  t32:=Tryz.underlying94
  a32:=Tryz.isAgg94
  z32:=Tryz.sizeOf94
  v32:=Tryz.zeroValue94
  t35:=Tryz.underlying237
  a35:=Tryz.isAgg237
  z35:=Tryz.sizeOf237
  v35:=Tryz.zeroValue237
  t36:=Tryz.underlying238
  a36:=Tryz.isAgg238
  z36:=Tryz.sizeOf238
  v36:=Tryz.zeroValue238
  t41:=Tryz.underlying207
  a41:=Tryz.isAgg207
  z41:=Tryz.sizeOf207
  v41:=Tryz.zeroValue207
  t44:=Tryz.underlying244
  a44:=Tryz.isAgg244
  z44:=Tryz.sizeOf244
  v44:=Tryz.zeroValue244
  t46:=Tryz.underlying178
  a46:=Tryz.isAgg178
  z46:=Tryz.sizeOf178
  v46:=Tryz.zeroValue178
  t53:=Tryz.underlying253
  a53:=Tryz.isAgg253
  z53:=Tryz.sizeOf253
  v53:=Tryz.zeroValue253
  t57:=Tryz.underlying257
  a57:=Tryz.isAgg257
  z57:=Tryz.sizeOf257
  v57:=Tryz.zeroValue257
  t63:=Tryz.underlying260
  a63:=Tryz.isAgg260
  z63:=Tryz.sizeOf260
  v63:=Tryz.zeroValue260
  t64:=Tryz.underlying168
  a64:=Tryz.isAgg168
  z64:=Tryz.sizeOf168
  v64:=Tryz.zeroValue168 }


theorem Tryz.sorts234(m:Nat):AnyZ.SortsIn Tryz.prog Tryz.sorted234_ren Fence.wide m :=
  ⟨λblk off cap ss W hH hblk hsz=>callsIn_wide.2 (AnyM.slices_Sort_string Tryz.sort167 blk off cap ss W hH hblk hsz),
   λp cap W=>callsIn_wide.2 (AnyM.slices_Sort_string_none Tryz.sort167 p cap W)⟩

theorem Tryz.maps_Keys_235(mb:Option Nat)(W:World):CallsIn Fence.wide 5 Tryz.prog 235 #[.map mb] W λe J=>e=.returned (.func (.func 267) #[] #[.pointer (some ⟨W.heap.size,0,none⟩)])/\J=W.alloc (.cells #[.map mb] 182) :=
  AnyZ.keys_in Tryz.keys235 Fence.wide 5 trivial rfl mb W

theorem Tryz.slices_Sorted_keys_234_235{H:Type}(b nn:Nat)(D0:DataW H)(R:Value->Option (DataW H × List MemPlace))(w:World)(hown:w.ownsMap Tryz.prog 9 R b nn D0)(hmax:Maps.size D0<=maxLen)(hbytes:Maps.size D0*16<=140737488355328) :
    CallsIn Fence.wide 5 Tryz.prog 234 #[.func (.func 267) #[] #[.pointer (some ⟨w.heap.size,0,none⟩)]] (w.alloc (.cells #[.map (some b)] 182)) λe J=>∃ (v:Value) (ss:List (List UInt8)),e=.returned v/\ss.Perm (strKeys D0) /\
      J.ownsRow (w.alloc (.cells #[.map (some b)] 182)).heap.size 9 1 v ss.length ((ss.mergeSort (λx y=>decide (x<=y))).map encStr)/\(v=.slice none 0 0↔ss=[])/\Below (w.alloc (.cells #[.map (some b)] 182)).heap.size (w.alloc (.cells #[.map (some b)] 182)) J:=by
  have hbl:=hown.lt
  have O:SeqGives Fence.wide 2 Tryz.prog 267 #[.pointer (some ⟨w.heap.size,0,none⟩)] encStr (λss=>ss.Perm (strKeys D0)) (Maps.size D0) (w.alloc (.cells #[.map (some b)] 182)) :=
    AnyZ.keys_gives (ρ:=Tryz.keys235_ren) { Tryz.keys235 with } Fence.wide _ trivial rfl (by omega) w.heap.size b nn D0 _ (by simp) (by simp) (by
      obtain ⟨es,clock,hb,Ft,hs,hD⟩:=hown
      exact ⟨es,clock,(Below.heap_alloc _ _ b hbl).trans hb,Ft,hs,hD⟩)
  exact AnyZ.sorted_in Tryz.sorted234 Fence.wide 5 trivial trivial trivial trivial rfl (by omega) (Tryz.sorts234 _) (enters_of Tryz.func167 (by kernel_rfl) rfl) 267 #[.pointer (some ⟨w.heap.size,0,none⟩)] trivial (enters_of Tryz.func267 (by kernel_rfl) rfl) _ _ hmax hbytes _ O

end Go.Proofs
namespace Go.Proofs.YtaccjdppmmoepaaGreatDoor
open Go Go.RowKit Go.MapKept Go.Maps Tryz
variable {qP:Prop}

def An(l:List BA):List BA:=((l.map λs=>s.data.toList).mergeSort λx y=>decide (x<=y)).map λb=>⟨b.toArray⟩
theorem O4(h:qP:=by
 intro a b c h1 h2;simp only [decide_eq_true_eq] at *;exact List.le_trans h1 h2):qP:=h
theorem Tn(h:qP:=by
 intro a b;simp only [Bool.or_eq_true,decide_eq_true_eq];exact List.le_total a b):qP:=h
theorem Wf{l l':List (List UInt8)}(h:l.Perm l'):l.mergeSort (λx y=>decide (x<=y))=l'.mergeSort (λx y=>decide (x<=y)):=by
 have tr:∀ a b c:List UInt8,decide (a<=b)=true->decide (b<=c)=true->decide (a<=c)=true:=by
  exact O4
 have O:∀ a b:List UInt8,(decide (a<=b)||decide (b<=a))=true:=by
  exact Tn
 have s1:=List.pairwise_mergeSort tr O l;have s2:=List.pairwise_mergeSort tr O l';have hp:(l.mergeSort λx y=>decide (x<=y)).Perm (l'.mergeSort λx y=>decide (x<=y)):=((List.mergeSort_perm l _).trans h).trans (List.mergeSort_perm l' _).symm;refine hp.eq_of_pairwise ?_ s1 s2;intro a b _ _ h1 h2;simp only [decide_eq_true_eq] at h1 h2;exact List.le_antisymm h1 h2

theorem MapIs.owns{w:World}{b:Nat}{m:List (BA × Value)}(h:MapIs w b (λs:BA=>Value.string s) m)(hb:∀ p∈m,p.2=.bool true)(hk:∀ p∈m,p.1.size<=4294967296)(hm:m.length<=4294967296) :
  ∃ D0:DataW Unit,w.ownsMap prog 9 (plainElem prog 4) b m.length D0/\(strKeys D0).Perm (m.map λp=>p.1.data.toList)/\Maps.size D0=m.length:=by
 obtain ⟨es,cl,h1,h2,hst⟩:=h;have hl:es.size=m.length:=by
  have:=congrArg List.length h2
  simpa using this
 have U:∀ x∈es.toList,∃ p∈m,x.key=.string p.1/\WideElems.rd (H:=Unit) prog 9 (plainElem prog 4) x=some (.string p.1.data.toList,.lit (.bool true)):=by
  intro x hx;have h5:(x.key,x.val)∈es.toList.map (λe=>(e.key,e.val)):=List.mem_map_of_mem hx;rw [h2] at h5;obtain ⟨p,hp,a8⟩:=List.mem_map.1 h5;injection a8 with O Y;refine ⟨p,hp,O.symm,?_⟩;have hkk:=_root_.Go.WideMaps.keyOf_string_mk (P:=prog) underlying9 (s:=p.1) (by have:=hk p hp;unfold maxLen;omega);unfold WideElems.rd;rw [<-O,hkk,<-Y,hb p hp];simp [plainElem,underlying4]
 refine ⟨_,⟨es,cl,h1,⟨by rw [hl];unfold maxLen;omega,hst,λx hx => ?_⟩,AA,rfl⟩,?_,?_⟩
 ·obtain ⟨p,_,_,hr⟩:=U x hx;exact ⟨_,hr⟩
 ·show (((es.toList.map (WideElems.rg prog 9 (plainElem prog 4))).foldr DataW.insert []).map λp=>strOf p.1).Perm _;refine ((WideShapes.sorted_perm _).map _).trans ?_;have:((es.toList.map (WideElems.rg (H:=Unit) prog 9 (plainElem prog 4))).map λp=>strOf p.1)=m.map λp=>p.1.data.toList:=by
   rw [List.map_map];have e1:es.toList.map ((λp=>strOf p.1) ∘ WideElems.rg (H:=Unit) prog 9 (plainElem prog 4))=(es.toList.map (λe=>(e.key,e.val))).map (λq=>match q.1 with|.string s=>s.data.toList|_=>[]):=by
    rw [List.map_map];refine List.map_congr_left λx hx => ?_;obtain ⟨p,_,Z,hr⟩:=U x hx;simp [WideElems.rg,hr,Z,strOf]
   rw [e1,h2,List.map_map];rfl
  rw [this]
 ·have:(((es.toList.map (WideElems.rg (H:=Unit) prog 9 (plainElem prog 4))).foldr DataW.insert [])).length=es.size:=by
   rw [(WideShapes.sorted_perm _).length_eq];simp
  simpa [Maps.size,hl] using this

theorem ClA(b:Nat)(w:World):Cl 235 #[.map (some b)] w λe J =>
  e=.returned (.func (.func 267) #[] #[.pointer (some ⟨w.heap.size,0,none⟩)])/\w.alloc (.cells #[.map (some b)] 182)=J :=
 (callsIn_wide.1 (Tryz.maps_Keys_235 (some b) w)).mono λ_ _ ⟨h1,h2⟩=>⟨h1,h2.symm⟩

theorem Vf(b:Nat)(m:List (BA × Value))(w:World)(h:MapIs w b (λs:BA=>Value.string s) m)(hb:∀ p∈m,p.2=.bool true)(hk:∀ p∈m,p.1.size<=4294967296)(hm:m.length<=4294967296) :
  Cl 234 #[.func (.func 267) #[] #[.pointer (some ⟨w.heap.size,0,none⟩)]] (w.alloc (.cells #[.map (some b)] 182))
   (CEA (w.alloc (.cells #[.map (some b)] 182)) (An (m.map (·.1)))):=by
 obtain ⟨D0,ho,hp,hs⟩:=h.owns hb hk hm;refine (callsIn_wide.1 (Tryz.slices_Sorted_keys_234_235 b m.length D0 _ w ho (by rw [hs];unfold maxLen;omega) (by rw [hs];omega))).mono ?_;rintro e J ⟨v,ss,rfl,Y,O,_,Z⟩;have hss:ss.mergeSort (λx y=>decide (x<=y))=((m.map (·.1)).map λs=>s.data.toList).mergeSort (λx y=>decide (x<=y)):=by
  refine Wf (Y.trans ?_);rw [List.map_map];exact hp
 have hmap:(ss.mergeSort (λx y=>decide (x<=y))).map encStr=(An (m.map (·.1))).map Value.string:=by
  rw [hss];unfold An;generalize (((m.map (·.1)).map λs=>s.data.toList).mergeSort λx y=>decide (x<=y))=l;rw [List.map_map];rfl
 have a8:ss.length=(An (m.map (·.1))).length:=by
  have:=congrArg List.length hmap
  simpa using this
 rw [hmap,a8] at O;have U:∃ A c,v=.slice A (An (m.map (·.1))).length c:=by
  rcases O.2 with ⟨hv,h0⟩|⟨g,cap,cur,hv,_⟩
  ·exact ⟨none,0,by rw [hv,h0]⟩
  ·exact ⟨_,_,hv⟩
 obtain ⟨A,c,rfl⟩:=U;refine ⟨A,c,rfl,Own.cap O,⟨Rd.of_own O,?_,?_⟩,Z⟩
 ·have:(An (m.map (·.1))).length=m.length:=(by simp [An]);omega
 ·intro s hs2;unfold An at hs2;obtain ⟨l,hl,rfl⟩:=List.mem_map.1 hs2;have hl2:=(List.mergeSort_perm _ _).mem_iff.1 hl;obtain ⟨t,ht,rfl⟩:=List.mem_map.1 hl2;obtain ⟨p,hp2,rfl⟩:=List.mem_map.1 ht;have h9:=hk p hp2;have h8:(⟨p.1.data.toList.toArray⟩:BA)=p.1:=(by cases p.1;simp);rw [h8];exact h9

structure Dep where
 frm:List BA
 tov:BA
def RDeps(w:World)(S:NP)(A:OA)(l:List Dep):Prop :=
 l.length<=4294967296/\∃ xs:List Value,Rd w S A xs/\xs.length=l.length*2/\∀ (i:Nat) (d:Dep),l[i]?=some d->∃ (B:OA) (c:Nat),xs[i*2]?=some (.slice B d.frm.length c)/\xs[i*2+1]?=some (.string d.tov)/\d.frm.length<=c/\d.tov.size<=4294967296/\Strs w S B d.frm
theorem RDeps.keep{w J:World}{S:NP}{A:OA}{l:List Dep}(h:RDeps w S A l)(k:Kept S w J):RDeps J S A l:=by
 obtain ⟨h0,xs,h1,h2,h3⟩:=h;refine ⟨h0,xs,h1.keep k,h2,λi d hd => ?_⟩;obtain ⟨B,c,g1,g2,g3,O,g5⟩:=h3 i d hd;exact ⟨B,c,g1,g2,g3,O,g5.keep k⟩
theorem RDeps.mono{w:World}{S T:NP}{A:OA}{l:List Dep}(h:RDeps w S A l)(k:∀ i,i<w.heap.size->S i->T i):RDeps w T A l:=by
 obtain ⟨h0,xs,h1,h2,h3⟩:=h;refine ⟨h0,xs,h1.mono k,h2,λi d hd => ?_⟩;obtain ⟨B,c,g1,g2,g3,O,g5⟩:=h3 i d hd;exact ⟨B,c,g1,g2,g3,O,g5.mono k⟩
theorem RDeps.at_{w:World}{S:NP}{A:OA}{l:List Dep}(h:RDeps w S A l){k:Nat}(hk:k<l.length) :
  ∃ b o B c,A=some ⟨b,o,none⟩/\b<w.heap.size/\w.cell? ⟨b,o+k*2,none⟩=some (.slice B l[k].frm.length c)/\w.cell? ⟨b,o+k*2+1,none⟩=some (.string l[k].tov)/\l[k].frm.length<=c/\l[k].tov.size<=4294967296/\Strs w S B l[k].frm:=by
 obtain ⟨_,xs,h1,h2,h3⟩:=h;obtain ⟨B,c,g1,g2,g3,O,g5⟩:=h3 k l[k] (List.getElem?_eq_getElem hk);have hne:xs≠[]:=(by rintro rfl;simp at g1);obtain ⟨b,o,hA,_,hb,hc⟩:=h1.some_ hne;exact ⟨b,o,B,c,hA,hb,hc _ _ g1,by have:=hc _ _ g2;rwa [<-Nat.add_assoc] at this,g3,O,g5⟩

structure IsClosure(l:List Dep)(frm ks:List BA):Prop where
 nodup:ks.Nodup
 base:∀ x∈frm,x∈ks
 closed:∀ d∈l,(∀ x∈d.frm,x∈ks)->d.tov∈ks
 least:∀ T:BA->Prop,(∀ x∈frm,T x)->(∀ d∈l,(∀ x∈d.frm,T x)->T d.tov)->∀ x∈ks,T x
def SetIs(w:World)(b:Nat)(ks:List BA):Prop:=MapIs w b (λs:BA=>Value.string s) (ks.map λk=>(k,Value.bool true))
theorem OT(ks:List BA)(x:BA)(j:Nat):(x∈ks->∃ i,fnd x (ks.map λk=>(k,Value.bool true)) j=some (i,.bool true)/\j<=i/\ks[i-j]?=some x)/\(x ∉ ks->fnd x (ks.map λk=>(k,Value.bool true)) j=none):=by
 induction ks generalizing j with
 |nil=>simp [fnd]
 |cons k ks ih =>
  by_cases hk:k=x
  ·subst hk;refine ⟨λ_=>⟨j,?_,Al,AC⟩,λh=>absurd (List.mem_cons_self) h⟩;simp [fnd]
  ·have h:=ih (j+1);refine ⟨λhx => ?_,λhx => ?_⟩
   ·have O:x∈ks:=by
     rcases List.mem_cons.1 hx with e|e
     ·exact absurd e.symm hk
     ·exact e
    obtain ⟨i,h1,h2,h3⟩:=h.1 O;refine ⟨i,?_,AA,?_⟩
    ·simp only [List.map_cons,fnd,if_neg hk];exact h1
    ·rw [show i-j=(i-(j+1))+1 by omega,List.getElem?_cons_succ];exact h3
   ·have O:x ∉ ks:=λe=>hx (List.mem_cons_of_mem _ e);simp only [List.map_cons,fnd,if_neg hk];exact h.2 O
theorem Xt(ks:List BA)(x:BA):(x∈ks->Dt (ks.map λk=>(k,Value.bool true)) x=some (.bool true))/\(x ∉ ks->Dt (ks.map λk=>(k,Value.bool true)) x=none):=by
 refine ⟨λh => ?_,λh => ?_⟩
 ·obtain ⟨i,h1,_⟩:=(OT ks x 0).1 h;simp [Dt,h1]
 ·simp [Dt,(OT ks x 0).2 h]
theorem Yy(ks:List BA)(x:BA):(x∈ks->PE (ks.map λk=>(k,Value.bool true)) x (.bool true)=ks.map λk=>(k,Value.bool true))/\(x ∉ ks->PE (ks.map λk=>(k,Value.bool true)) x (.bool true)=(ks++[x]).map λk=>(k,Value.bool true)):=by
 refine ⟨λh => ?_,λh => ?_⟩
 ·obtain ⟨i,h1,h2,h3⟩:=(OT ks x 0).1 h;rw [Nat.sub_zero] at h3;unfold PE;rw [h1];show (ks.map λk=>(k,Value.bool true)).set i (x,Value.bool true)=_;rw [show (x,Value.bool true)=(λk=>(k,Value.bool true)) x from rfl,<-List.map_set];congr 1;obtain ⟨hi,hx⟩:=List.getElem?_eq_some_iff.1 h3;rw [<-hx,List.set_getElem_self]
 ·unfold PE;rw [(OT ks x 0).2 h];simp
theorem SetIs.put{w:World}{b:Nat}{ks:List BA}(h:SetIs w b ks)(x:BA) :
  ∃ J ks',(Instr.mapUpdate 182 (.map (some b)) (.string x) (.bool true)).run prog w=.ok () J/\SetIs J b ks'/\w.grownBy J (some b)/\((x∈ks/\ks'=ks)\/(x ∉ ks/\ks'=ks++[x])):=by
 obtain ⟨J,h1,h2,h3⟩:=MapIs.put h underlying182 (FdA underlying9) x (.bool true);by_cases hx:x∈ks
 ·rw [(Yy ks x).1 hx] at h2;exact ⟨J,ks,h1,h2,h3,.inl ⟨hx,rfl⟩⟩
 ·rw [(Yy ks x).2 hx] at h2;exact ⟨J,ks++[x],h1,h2,h3,.inr ⟨hx,rfl⟩⟩
theorem GXA(w:World):(zeroValue 4).run prog w=.ok (.bool false) w:=by kernel_rfl
noncomputable def TF (ks:List BA) (x:BA):Bool:=@decide (x∈ks) (Classical.propDecidable _)
theorem Ml(ks:List BA)(x:BA):TF ks x=true↔x∈ks:=by simp [TF]
theorem SetIs.get{w:World}{b:Nat}{ks:List BA}(h:SetIs w b ks)(x:BA):(Instr.lookup 182 (.map (some b)) (.string x) false).run prog w=.ok (.bool (TF ks x)) w:=by
 rw [MapIs.get h underlying182 (FdA underlying9) (.bool false) GXA x];by_cases hx:x∈ks
 ·rw [(Xt ks x).1 hx,(Ml ks x).2 hx];rfl
 ·have:TF ks x=false:=(by rw [Bool.eq_false_iff];exact λe=>hx ((Ml ks x).1 e));rw [(Xt ks x).2 hx,this];rfl
theorem SetIs.len{w:World}{b:Nat}{ks:List BA}(h:SetIs w b ks)(ty:TypeId):(Builtin.len_ #[182] ty #[.map (some b)]).run prog w=.ok (.I (ks.length:Int)) w:=by
 have:=MapIs.len h (P:=prog) underlying182 ty
 simpa using this
theorem SetIs.keep{w J:World}{b:Nat}{ks:List BA}(h:SetIs w b ks)(hk:Kept (λi=>i=b) w J):SetIs J b ks:=MapIs.keep h hk

theorem Jy(x:BA)(g b:Nat)(ks:List BA)(w:World)(hb:w.cell? ⟨g,0,none⟩=some (.map (some b)))(h:SetIs w b ks) :
  Cl 233 #[.string x,.pointer (some ⟨g,0,none⟩)] w (SameB w (!TF ks x)):=by
 have hg:=h.get x;clear h
 go_enter func233,ntmps233
 exact Ea

theorem Up(h:qP:=by
 go_ret;exact ⟨by rw [EO hlt HA.o (by simp [HM.o])];rfl,rfl⟩):qP:=h
theorem Zv(h:qP:=by
 refine ⟨k+1,by omega,by go_num,λj h hj => ?_⟩;by_cases hjk:j=k
 ·subst hjk;simp [HM.o]
 ·exact HA.o j h (by omega)):qP:=h
theorem OZ(h:qP:=by
 go_round
 case rel =>
  exact Zv
 case measure=>simp [intOf];omega):qP:=h
theorem Ll(h:qP:=by
 go_wp2;go_ret;exact ⟨by rw [GG (λj hj=>HA.o j hj (by omega))];rfl,rfl⟩):qP:=h
theorem NH(l:List BA)(A:OA)(c g b:Nat)(ks:List BA)(w:World)(S:NP)(hl:Strs w S A l)(hb:w.cell? ⟨g,0,none⟩=some (.map (some b)))(h:SetIs w b ks) :
  Cl 247 #[.slice A l.length c,.func (.func 233) #[] #[.pointer (some ⟨g,0,none⟩)]] w (Bk w (Gv (λx => !TF ks x) l)):=by
 have hn:=hl.2.1;have HB:=Hd hb;have HS:=Hd h;clear hb h
 go_enter func247,ntmps247
 go_wp2
 go_loop [8] (λi=>∃ k:Nat,k<=l.length/\i=.I k/\∀ j (h:j<l.length),j<k->(λx => !TF ks x) l[j]=false) (λi=>l.length-(intOf i).toNat)
 case atStart=>exact ⟨0,AN,rfl,AK⟩
 case round =>
  obtain ⟨k,hk,rfl,hall⟩:=hrel;have HA:=Hd hall;clear hall;by_cases hlt:k<l.length
  ·obtain ⟨b1,o1,rfl,z1,c1⟩:=hl.at_ hlt;cases hm:TF ks l[k]
   ·have HM:=Hd hm;clear hm
    go_wp2_with (go_at_call 233;refine (Jy _ g b ks _ HB.o HS.o).mono ?_;rintro e J ⟨rfl,rfl⟩;rw [HM.o])
    exact Up
   ·have HM:=Hd hm;clear hm
    go_wp2_with (go_at_call 233;refine (Jy _ g b ks _ HB.o HS.o).mono ?_;rintro e J ⟨rfl,rfl⟩;rw [HM.o])
    exact OZ
  ·exact Ll
theorem Jo(l:List BA)(A:OA)(c g b:Nat)(ks:List BA)(w:World)(S:NP)(hl:Strs w S A l)(hb:w.cell? ⟨g,0,none⟩=some (.map (some b)))(h:SetIs w b ks) :
  Cl 211 #[.slice A l.length c,.func (.func 233) #[] #[.pointer (some ⟨g,0,none⟩)]] w (SameB w (l.any λx => !TF ks x)):=by
 obtain ⟨HB,HS,HL⟩:=Hd3 hb h hl;clear hb h hl
 go_enter func211,ntmps211
 go_wp2_with (go_at_call 247;refine (NH _ _ _ g b ks _ S HL.o HB.o HS.o).mono ?_;rintro e J ⟨rfl,rfl⟩)
 go_ret;exact ⟨by rw [<-G5];rfl,rfl⟩

def AV(o:Oper):List Nat:=(o.after.toList.filter (Region.binds .any)).map (·.on)
def Bu(P:Program)(K:Value->World->Prop):Result Next->Prop
 |.ok (.value v) J=>K v J
 |.ok .skip J=>K undef J
 |.ok (.enter f args) J=>Calls P f args J (λe w''=>∃ v,e=.returned v/\K v w'')
 |_=>False
def Fi(ops:Array Oper)(o:Oper)(a0:Act)(V:Nat->Value)(t:Nat):Value :=
 match (AV o).find? (λj=>(ops[j]?).bind (·.dst)==some t) with
 |some j=>V j
 |none=>a0.tmps.getD t undef
def Hm(ops:Array Oper)(o:Oper)(a0:Act)(V:Nat->Value):Operand->Value
 |.tmp t=>Fi ops o a0 V t
 |x=>a0.eval x
def NM:Value->Option Bool
 |.bool b=>some b
 |_=>none
def AY(o:Oper)(V:Nat->Value):Bool :=
 match o.guard with
 |none=>true
 |some (g,want)=>NM (V g)==some want
def Ah(V:Nat->Value):List Oper->Nat->Act->Act
 |[],_,a=>a
 |o::l,k,a=>Ah V l (k+1) (a.put o.dst (V k))
def F3(V:Nat->Value)(i:Nat)(v:Value):Nat->Value:=λk=>if k=i then v else V k
def R8(ops:Array Oper)(D:Nat->List Nat)(n:Nat):Bool :=
 Region.noSelect ops&&decide ((ops.toList.filterMap (·.dst)).Nodup)&&(ops.toList.filterMap (·.dst)).all (λd=>decide (d<n)) &&
 (List.range ops.size).all λi=>match ops[i]? with
  |none=>true
  |some o=>(AV o).all (λj=>decide (j<i))&&(D i).all (λj=>decide (j=i)||(AV o).contains j) &&
   (match o.guard with|none=>true|some (g,_)=>(AV o).contains g&&((ops[g]?).bind (·.dst)).isSome) &&
   (o.looksAt ops).all λt=>(List.range ops.size).all λj=>match ops[j]? with
    |none=>true
    |some oj=>decide (oj.dst≠some t)||decide (j=i)||(AV o).contains j||(AV oj).contains i
def LinStep{Γ:Type}(P:Program)(ops:Array Oper)(D:Nat->List Nat)(R:Γ->World->Γ->World->Prop)(N:Nat->Γ->Prop)(G:Nat->List Value->Γ->World->Prop)(a0:Act)(γ0:Γ)(w0:World)(i:Nat)(o:Oper):Prop :=
 ∀ (V:Nat->Value) (F:Γ) (w:World),R γ0 w0 F w->N i F->(∀ j,j∈AV o->G j ((D j).map V) F w) ->
  if AY o V then Bu P (λv J=>∃ γ',R F w γ' J/\(∀ j,j≠i->j ∉ AV o->N j F->N j γ')/\G i ((D i).map (F3 V i v)) γ' J) ((execOp (Hm ops o a0 V) o).run P w)
  else G i ((D i).map (F3 V i undef)) F w

section
variable {P:Program}{ops:Array Oper}{Q:Exit->Act->World->Prop}

theorem GH{D:Nat->List Nat}{n:Nat}(h:R8 ops D n=true) :
  Region.noSelect ops=true/\(ops.toList.filterMap (·.dst)).Nodup/\(∀ (i:Nat) (o:Oper) (d:Nat),ops[i]?=some o->o.dst=some d->d<n) /\
  (∀ (i:Nat) (o:Oper) (j:Nat),ops[i]?=some o->j∈AV o->j<i)/\(∀ (i:Nat) (o:Oper) (j:Nat),ops[i]?=some o->j∈D i->j=i\/j∈AV o) /\
  (∀ (i:Nat) (o:Oper) (g:Nat) (b:Bool),ops[i]?=some o->o.guard=some (g,b)->g∈AV o/\∃ (og:Oper) (t:Nat),ops[g]?=some og/\og.dst=some t) /\
  (∀ (i:Nat) (o:Oper) (t j:Nat) (oj:Oper),ops[i]?=some o->t∈o.looksAt ops->ops[j]?=some oj->oj.dst=some t->j=i\/j∈AV o\/i∈AV oj):=by
 simp only [R8,Bool.and_eq_true,decide_eq_true_eq] at h;obtain ⟨⟨⟨h1,h2⟩,h3⟩,h4⟩:=h;rw [List.all_eq_true] at h3 h4;have key:∀ (i:Nat) (o:Oper),ops[i]?=some o->(((∀ j∈AV o,j<i)/\(∀ j∈D i,(decide (j=i)||(AV o).contains j)=true)) /\
   (match o.guard with | none=>true | some (g,_)=>(AV o).contains g&&((ops[g]?).bind (·.dst)).isSome)=true) /\
   ∀ t∈o.looksAt ops,∀ j∈List.range ops.size,(match ops[j]? with
    |none=>true
    | some oj=>decide (oj.dst≠some t)||decide (j=i)||(AV o).contains j||(AV oj).contains i)=true:=λi o hi=>by
  have hlt:i<ops.size:=(Array.getElem?_eq_some_iff.1 hi).1;have:=h4 i (List.mem_range.2 hlt);simp only [hi,Bool.and_eq_true,List.all_eq_true,decide_eq_true_eq] at this;exact this
 refine ⟨h1,h2,?_,?_,?_,?_,?_⟩
 ·intro i o d hi hd;have:d∈ops.toList.filterMap (·.dst):=List.mem_filterMap.2 ⟨o,by simpa using Array.mem_of_getElem? hi,hd⟩
  simpa using h3 d this
 ·intro i o j hi hj;exact (key i o hi).1.1.1 j hj
 ·intro i o j hi hj;have:=(key i o hi).1.1.2 j hj
  simpa using this
 ·intro i o g b hi hg;have:=(key i o hi).1.2;simp only [hg,Bool.and_eq_true,List.contains_iff_mem,Option.isSome_iff_exists] at this;obtain ⟨h5,t,h6⟩:=this;refine ⟨by simpa using h5,?_⟩;cases hgo:ops[g]? with
  |none=>simp [hgo] at h6
  |some og=>simp [hgo] at h6;exact ⟨og,t,rfl,h6⟩
 ·intro i o t j oj hi ht hj hd;have hlt:j<ops.size:=(Array.getElem?_eq_some_iff.1 hj).1;have:=(key i o hi).2 t ht j (List.mem_range.2 hlt);simp only [hj,hd,Bool.or_eq_true,decide_eq_true_eq,List.contains_iff_mem] at this
  rcases this with ((h|h)|h)|h
  ·exact absurd rfl h
  ·exact .inl h
  ·exact .inr (.inl BU)
  ·exact .inr (.inr BU)

theorem Bp(h:qP:=by simpa using hi):qP:=h
theorem FMA(h:(ops.toList.filterMap (·.dst)).Nodup){i j:Nat}{oi oj:Oper}{t:Nat}(hi:ops[i]?=some oi)(hj:ops[j]?=some oj)(hdi:oi.dst=some t)(hdj:oj.dst=some t):i=j:=by
 have O:ops.toList[i]?=some oi:=Bp;have U:ops.toList[j]?=some oj:=ET;clear hi hj;generalize ops.toList=l at *
 induction l generalizing i j with
 |nil=>simp at O
 |cons o l ih =>
  cases i with
  |zero =>
   cases j with
   |zero=>rfl
   |succ j =>
    exfalso;simp at O U;subst O;rw [List.filterMap_cons_some hdi,List.nodup_cons] at h;exact h.1 (List.mem_filterMap.2 ⟨oj,List.mem_of_getElem? U,hdj⟩)
  |succ i =>
   cases j with
   |zero =>
    exfalso;simp at O U;subst U;rw [List.filterMap_cons_some hdj,List.nodup_cons] at h;exact h.1 (List.mem_filterMap.2 ⟨oi,List.mem_of_getElem? O,hdi⟩)
   |succ j =>
    have hn:(l.filterMap (·.dst)).Nodup:=by
     cases hod:o.dst with
     |none=>rwa [List.filterMap_cons_none hod] at h
     |some d=>rw [List.filterMap_cons_some hod,List.nodup_cons] at h;exact h.2
    have hij:i=j:=ih hn (by simpa using O) (by simpa using U);rw [hij]

theorem KS(V:Nat->Value):∀ (l:List Oper) (k:Nat) (a:Act),(Ah V l k a).tmps.size=a.tmps.size/\(Ah V l k a).defers=a.defers
 |[],_,_=>⟨rfl,rfl⟩
 |o::l,k,a=>by
  have:=KS V l (k+1) (a.put o.dst (V k));cases hd:o.dst<;>simp [Ah,hd,Act.put] at this|-<;>exact this
theorem Jb(V:Nat->Value):∀ (l:List Oper) (k:Nat) (a:Act) (t:Nat),(∀ o∈l,o.dst≠some t)->(Ah V l k a).tmps[t]?=a.tmps[t]?
 |[],_,_,_,_=>rfl
 |o::l,k,a,t,h=>by
  have h1:=Jb V l (k+1) (a.put o.dst (V k)) t (λo' ho'=>h o' (List.mem_cons_of_mem _ ho'));have h2:=h o List.mem_cons_self;rw [Ah,h1];cases hd:o.dst with
  |none=>rfl
  |some d =>
   have hne:d≠t:=λe=>h2 (by rw [hd,e]);simp [Act.put,Array.getElem?_setIfInBounds_ne hne]
theorem N8(V:Nat->Value):∀ (l:List Oper) (k:Nat) (a:Act) (j:Nat) (o:Oper) (t:Nat),(l.filterMap (·.dst)).Nodup->l[j]?=some o->o.dst=some t->t<a.tmps.size->(Ah V l k a).tmps[t]?=some (V (k+j))
 |[],_,_,_,_,_,_,h,_,_=>by simp at h
 |o::l,k,a,0,o',t,hn,h,hd,ht=>by
  simp at h;subst h;rw [List.filterMap_cons_some hd,List.nodup_cons] at hn;rw [Ah,Jb V l (k+1) _ t (λo' ho' hd'=>hn.1 (List.mem_filterMap.2 ⟨o',ho',hd'⟩))];simp [Act.put,hd,ht]
 |o::l,k,a,j+1,o',t,hn,h,hd,ht=>by
  have hn':(l.filterMap (·.dst)).Nodup:=by
   cases hod:o.dst with
   |none=>rwa [List.filterMap_cons_none hod] at hn
   |some d=>rw [List.filterMap_cons_some hod,List.nodup_cons] at hn;exact hn.2
  have:=N8 V l (k+1) (a.put o.dst (V k)) j o' t hn' BU hd (by cases hod:o.dst<;>simpa [Act.put] using ht);rw [Ah,this,show k+1+j=k+(j+1) by omega]

theorem TQ(h:qP:=by
 rw [List.countP_cons_of_pos hx,List.countP_cons_of_pos (hle x hx)];omega):qP:=h
theorem Xz{p q:Nat->Bool}(hle:∀ j,q j=true->p j=true){i:Nat}(hp:p i=true)(hq:q i=false):∀ l:List Nat,i∈l->l.countP q+1<=l.countP p
 |x::l,h=>by
  have mono:∀ l:List Nat,l.countP q<=l.countP p:=λl=>List.countP_mono_left λx _ hx=>hle x hx
  rcases List.mem_cons.1 h with rfl|h'
  ·rw [List.countP_cons_of_pos hp,List.countP_cons_of_neg (by simp [hq])];have:=mono l;omega
  ·have ih:=Xz hle hp hq l h';by_cases hx:q x=true
   ·exact TQ
   ·rw [List.countP_cons_of_neg hx];have:=List.countP_cons (p:=p) (a:=x) (l:=l);omega

structure LinInv{Γ:Type}(ops:Array Oper)(D:Nat->List Nat)(R:Γ->World->Γ->World->Prop)(N:Nat->Γ->Prop)(G:Nat->List Value->Γ->World->Prop)(a0:Act)(γ0:Γ)(w0:World)(listed:Array Bool)(a:Act)(w:World)(V:Nat->Value)(F:Γ):Prop where
 size:listed.size=ops.size
 asize:a.tmps.size=a0.tmps.size
 defers:a.defers=a0.defers
 at_:∀ (j:Nat) (o:Oper) (t:Nat),ops[j]?=some o->listed.getD j false=true->o.dst=some t->a.tmps[t]?=some (V j)
 no:∀ t:Nat,(∀ (j:Nat) (o:Oper),ops[j]?=some o->listed.getD j false=true->o.dst≠some t)->a.tmps[t]?=a0.tmps[t]?
 rel:R γ0 w0 F w
 down:∀ (j:Nat) (o:Oper),ops[j]?=some o->listed.getD j false=true->∀ k,k∈AV o->listed.getD k false=true
 open_:∀ j,j<ops.size->listed.getD j false=false->N j F
 facts:∀ j,j<ops.size->listed.getD j false=true->G j ((D j).map V) F w

theorem GB{listed:Array Bool}{j:Nat}(h:j<listed.size):listed.getD j true=listed.getD j false:=by simp [h]

theorem BBA(h:qP:=by
 obtain ⟨j,o,hj,hd⟩:=hex;have hjl:j<ops.size:=(Array.getElem?_eq_some_iff.1 hj).1;rw [I.at_ j o t hj (hall j hjl) hd,N8 V ops.toList 0 a0 j o t hnd (by simpa using hj) hd (hlt j o t hj hd),Nat.zero_add]):qP:=h
theorem Z4(h:qP:=by
 obtain ⟨j,hj⟩:=List.mem_iff_getElem?.1 ho;exact hno j o (by simpa using hj)):qP:=h
theorem ACA(h:qP:=by
 have hno:∀ (j:Nat) (o:Oper),ops[j]?=some o->o.dst≠some t:=λj o hj hd=>hex ⟨j,o,hj,hd⟩;rw [I.no t (λj o hj _=>hno j o hj),Jb V ops.toList 0 a0 t (λo ho=>by
  exact Z4)]):qP:=h
theorem Zh(h:qP:=by
 apply Array.ext_getElem?;intro t;by_cases hex:∃ (j:Nat) (o:Oper),ops[j]?=some o/\o.dst=some t
 ·exact BBA
 ·exact ACA):qP:=h
theorem AfA(h:qP:=by
 have hs:=KS V ops.toList 0 a0;have ht:a.tmps=(Ah V ops.toList 0 a0).tmps:=by
  exact Zh
 have hdf:a.defers=(Ah V ops.toList 0 a0).defers:=(by rw [I.defers,hs.2]);cases a;cases hl:Ah V ops.toList 0 a0;rw [hl] at ht hdf;simp at ht hdf;rw [ht,hdf]):qP:=h
theorem MJ(h:qP:=by
 intro listed a w V F I hall;have ha:a=Ah V ops.toList 0 a0:=by
  exact AfA
 rw [ha];exact hfin V F w I.rel λi hi=>I.facts i hi (hall i hi)):qP:=h
theorem AKA(h:qP:=by
 refine mem_ready.2 ⟨by rw [GB (by omega)];exact hl,ops[j],by simp [hj],λe he hb => ?_⟩;have hp:e.on∈AV ops[j]:=List.mem_map.2 ⟨e,List.mem_filter.2 ⟨by simpa using he,hb⟩,rfl⟩;have hlt':=hacyc j ops[j] e.on (by simp [hj]) hp;exact ih e.on hlt' (by omega)):qP:=h
theorem Y1(h:qP:=by
 exfalso;have hmem:j∈Region.ready .any ops listed:=by
  exact AKA
 rw [hr] at hmem;cases hmem):qP:=h
theorem BvA(h:qP:=by
 intro hj;cases hl:listed.getD j false with
 |true=>rfl
 |false =>
  exact Y1):qP:=h
theorem Mc(h:qP:=by
 intro listed hsz hr j
 induction j using Nat.strongRecOn with
 |_ j ih =>
  exact BvA):qP:=h
theorem BOA(h:qP:=by
 intro j hj;have h0:(List.range ops.size).countP (λi => !listed.getD i true)=0:=(by omega);rw [List.countP_eq_zero] at h0;have:=h0 j (List.mem_range.2 hj);rw [GB (by rw [I.size];exact hj)] at this
 simpa using this):qP:=h
theorem AvA(h:qP:=by
 exfalso;have hi:i∈Region.ready .any ops listed:=(by rw [hr];exact List.mem_cons_self);obtain ⟨h0,o,ho,_⟩:=mem_ready.1 hi;have hil:i<ops.size:=(Array.getElem?_eq_some_iff.1 ho).1;rw [GB (by rw [I.size];exact hil),hall i hil] at h0;cases h0):qP:=h
theorem MY(h:qP:=by
 intro listed a w V F I hc;have hall:∀ j,j<ops.size->listed.getD j false=true:=by
  exact BOA
 refine ⟨?_,fin listed a w V F I hall⟩;cases hr:Region.ready .any ops listed with
 |nil=>rfl
 |cons i l =>
  exact AvA):qP:=h
theorem LG(h:qP:=by
 intro j hj;obtain ⟨e,he,rfl⟩:=List.mem_map.1 hj;obtain ⟨he1,he2⟩:=List.mem_filter.1 he;exact hpre e (by simpa using he1) he2):qP:=h
theorem Zw(h:qP:=by
 simp only [hoj,Option.bind_some] at hd;simp [I.at_ j oj t hoj (hpl j hj) hd]):qP:=h
theorem AhA(h:qP:=by
 have:=I.down j oj hj hjl i h;rw [hun] at this;cases this):qP:=h
theorem BcA(h:qP:=by
 rcases hlook i o t j oj ho ht hj hd with rfl|h|h
 ·rw [hun] at hjl;cases hjl
 ·exact hf j h (by simp [hj,hd])
 ·exact AhA):qP:=h
theorem Zl(h:qP:=by
 rw [List.find?_eq_none] at hf;have:a.tmps[t]?=a0.tmps[t]?:=I.no t (λj oj hj hjl hd=>by
  exact BcA)
 simp [this]):qP:=h
theorem Md(h:qP:=by
 intro t ht;unfold Fi;cases hf:(AV o).find? (λj=>(ops[j]?).bind (·.dst)==some t) with
 |some j =>
  have hj:=List.mem_of_find?_eq_some hf;have hd:=List.find?_some hf;simp only [beq_iff_eq] at hd;cases hoj:ops[j]? with
  |none=>simp [hoj] at hd
  |some oj =>
   exact Zw
 |none =>
  exact Zl):qP:=h
theorem Lm(h:qP:=by
 refine execOp_congr o (λcs b=>Region.noSelect_spec hsel i o cs b ho) λx hx => ?_;cases x with
 |tmp t=>exact hslot t (List.mem_append_left _ (List.mem_filterMap.2 ⟨.tmp t,by simpa using hx,rfl⟩))
 | _=>rfl):qP:=h
theorem A6A(h:qP:=by
 obtain ⟨g,b⟩:=gb;obtain ⟨hgp,og,t,hog,hdt⟩:=hguard i o g b ho hg;have h1:=I.at_ g og t hog (hpl g hgp) hdt;simp only [yielded,hog,Option.bind_some,hdt,h1];congr 1;unfold NM;split<;>simp_all):qP:=h
theorem LF(h:qP:=by
 unfold Region.wanted AY;cases hg:o.guard with
 |none=>rfl
 |some gb =>
  exact A6A):qP:=h
theorem ZS(h:qP:=by
 cases hd:o.dst<;>simp [Act.put,I.asize]):qP:=h
theorem Y3(h:qP:=by
 cases hd:o.dst<;>simp [Act.put,I.defers]):qP:=h
theorem ZV(h:qP:=by
 subst hji;obtain rfl:o=oj:=Option.some.inj (ho.symm.trans hj);have hlt':t<a.tmps.size:=(by rw [I.asize];exact hlt j o t ho hd);simp [Act.put,hd,hlt',F3]):qP:=h
theorem AUA(h:qP:=by
 rw [hget j hji] at hjl;have h1:=I.at_ j oj t hj hjl hd;simp only [F3,if_neg hji];cases hod:o.dst with
 |none=>exact h1
 |some d =>
  have hne:d≠t:=λe=>hji (FMA hnd hj ho hd (by rw [hod,e]));simp only [Act.put];rw [Array.getElem?_setIfInBounds_ne hne];exact h1):qP:=h
theorem BdA(h:qP:=by
 intro j oj t hj hjl hd;by_cases hji:j=i
 ·exact ZV
 ·exact AUA):qP:=h
theorem Zc(h:qP:=by
 by_cases hji:j=i
 ·subst hji;exact hgeti
 ·rw [hget j hji];exact hjl):qP:=h
theorem A9A(h:qP:=by
 intro t hno;have hdt:o.dst≠some t:=hno i o ho hgeti;have h1:=I.no t (λj oj hj hjl=>hno j oj hj (by
  exact Zc))
 cases hod:o.dst with
 |none=>exact h1
 |some d =>
  have hne:d≠t:=λe=>hdt (by rw [hod,e]);simp only [Act.put];rw [Array.getElem?_setIfInBounds_ne hne];exact h1):qP:=h
theorem A5A(h:qP:=by
 subst hji;obtain rfl:o=oj:=Option.some.inj (ho.symm.trans hj);exact getD_set_true (hpl k hk)):qP:=h
theorem AtA(h:qP:=by
 rw [hget j hji] at hjl;exact getD_set_true (I.down j oj hj hjl k hk)):qP:=h
theorem AjA(h:qP:=by
 intro j oj hj hjl k hk;by_cases hji:j=i
 ·exact A5A
 ·exact AtA):qP:=h
theorem Ze(h:qP:=by
 subst hji;rw [hgeti] at hjl;cases hjl):qP:=h
theorem Y0(h:qP:=by
 rw [hget j hji] at hjl;exact hN' j hji (λhp=>by rw [hpl j hp] at hjl;cases hjl) (I.open_ j hj hjl)):qP:=h
theorem ADA(h:qP:=by
 intro j hj hjl;by_cases hji:j=i
 ·exact Ze
 ·exact Y0):qP:=h
theorem Zt(h:qP:=by
 have:=I.down j ops[j] (by simp [hj]) hjl k h;rw [hun] at this;cases this):qP:=h
theorem A8A(h:qP:=by
 intro e;subst e
 rcases hD j ops[j] k (by simp [hj]) hk with h|h
 ·exact hji h.symm
 ·exact Zt):qP:=h
theorem ZO(h:qP:=by
 apply List.map_congr_left;intro k hk;have hki:k≠i:=by
  exact A8A
 simp [F3,hki]):qP:=h
theorem AnA(h:qP:=by
 rw [hget j hji] at hjl;have h1:=hst _ _ _ _ _ _ hR (I.facts j hj hjl);have hmap:(D j).map (F3 V i v)=(D j).map V:=by
  exact ZO
 rw [hmap];exact h1):qP:=h
theorem ZJ(h:qP:=by
 intro j hj hjl;by_cases hji:j=i
 ·subst hji;exact hG
 ·exact AnA):qP:=h
theorem AqA(h:qP:=by
 rw [getD_set_ne true (Ne.symm hki)] at hk;exact hk):qP:=h
theorem AxA(h:qP:=by
 by_cases hki:k=i
 ·subst hki;simp [hisz] at hk
 ·exact AqA):qP:=h
theorem ZE(h:qP:=by
 have:=Xz (p:=λk => !listed.getD k true) (q:=λk => !(listed.setIfInBounds i true).getD k true) (i:=i) (λk hk=>by
  exact AxA) (by simpa using h0) (by simp [hisz]) (List.range ops.size) (List.mem_range.2 hil)
 omega):qP:=h
theorem MK(h:qP:=by
 intro v γ' J hR hN' hG;have hget:∀ j,j≠i->(listed.setIfInBounds i true).getD j false=listed.getD j false:=λj hj=>getD_set_ne false (Ne.symm hj);have hgeti:(listed.setIfInBounds i true).getD i false=true:=(by simp [hisz]);refine ih _ _ _ (F3 V i v) γ' ⟨by simp [I.size],?_,?_,?_,?_,htrans _ _ _ _ _ _ I.rel hR,?_,?_,?_⟩ ?_
 ·exact ZS
 ·exact Y3
 ·exact BdA
 ·exact A9A
 ·exact AjA
 ·exact ADA
 ·exact ZJ
 ·exact ZE):qP:=h
theorem RP(h:qP:=by
 have:j<ops.size:=(Array.getElem?_eq_some_iff.1 hj).1;simp [this] at hl):qP:=h
theorem R3(h:qP:=by
 intro j o t hj hl _;exact RP):qP:=h
theorem RE(h:qP:=by
 intro j o hj hl;exact RP):qP:=h
theorem Uh(h:qP:=by
 have:=List.countP_le_length (p:=λi => !(Array.replicate ops.size false).getD i true) (l:=List.range ops.size)
 simpa using this):qP:=h
theorem KM{Γ:Type}{id:Nat}{a0:Act}{w0:World}(hm:P.follows .mixedOrders=true)(D:Nat->List Nat)(hB:R8 ops D a0.tmps.size=true)
  (R:Γ->World->Γ->World->Prop) (hrefl:∀ F w,R F w F w) (htrans:∀ F w γ' J γ'' w'',R F w γ' J->R γ' J γ'' w''->R F w γ'' w'')
  (N:Nat->Γ->Prop) (G:Nat->List Value->Γ->World->Prop) (hst:∀ i l F w γ' J,R F w γ' J->G i l F w->G i l γ' J) (γ0:Γ) (hN:∀ i,N i γ0)
  (hstep:∀ i o,ops[i]?=some o->LinStep P ops D R N G a0 γ0 w0.drew i o)
  (hfin:∀ V F w,R γ0 w0.drew F w->(∀ i,i<ops.size->G i ((D i).map V) F w)->Q .normal (Ah V ops.toList 0 a0) w) :
  (Code.region id ops true).wp P Q a0 w0:=by
 obtain ⟨hsel,hnd,hlt,hacyc,hD,hguard,hlook⟩:=GH hB;have main:∀ (O:Nat) (listed:Array Bool) (a:Act) (w:World) (V:Nat->Value) (F:Γ),LinInv ops D R N G a0 γ0 w0.drew listed a w V F ->
   (List.range ops.size).countP (λi => !listed.getD i true)<=O->wpAny P .any ops Q O listed a w:=by
  intro O;have fin:∀ (listed:Array Bool) (a:Act) (w:World) (V:Nat->Value) (F:Γ),LinInv ops D R N G a0 γ0 w0.drew listed a w V F->(∀ j,j<ops.size->listed.getD j false=true)->Q .normal a w:=by
   exact MJ
  have U:∀ (listed:Array Bool),listed.size=ops.size->Region.ready .any ops listed=[]->∀ j,j<ops.size->listed.getD j false=true:=by
   exact Mc
  induction O with
  |zero =>
   exact MY
  |succ O ih =>
   intro listed a w V F I hc;refine ⟨λhr=>fin listed a w V F I (U listed I.size hr),λi hi => ?_⟩;obtain ⟨h0,o,ho,hpre⟩:=mem_ready.1 hi;have hil:i<ops.size:=(Array.getElem?_eq_some_iff.1 ho).1;have hisz:i<listed.size:=(by rw [I.size];exact hil);have hun:listed.getD i false=false:=(by rw [<-GB hisz];exact h0);have hpl:∀ j,j∈AV o->listed.getD j false=true:=by
    exact LG
   have hslot:∀ t,t∈o.looksAt ops->a.tmps.getD t undef=Fi ops o a0 V t:=by
    exact Md
   have Z:execOp a.eval o=execOp (Hm ops o a0 V) o:=by
    exact Lm
   have Y:Region.wanted o (yielded ops a.tmps)=AY o V:=by
    exact LF
   have a8:∀ j,j∈AV o->G j ((D j).map V) F w:=λj hj=>I.facts j (by have:=hacyc i o j ho hj;omega) (hpl j hj);have hS:=hstep i o ho V F w I.rel (I.open_ i hil hun) a8;have next:∀ (v:Value) (γ':Γ) (J:World),R F w γ' J->(∀ j,j≠i->j ∉ AV o->N j F->N j γ')->G i ((D i).map (F3 V i v)) γ' J->wpAny P .any ops Q O (listed.setIfInBounds i true) (a.put o.dst v) J:=by
    exact MK
   unfold wpOp;simp only [ho];rw [Y];by_cases hw:AY o V=true
   ·rw [if_pos hw] at hS|-;refine .inl ?_;unfold Oper.wp;rw [Z];generalize (execOp (Hm ops o a0 V) o).run P w=r at hS;cases r with
    |ok n J =>
     cases n<;>simp only [Bu] at hS<;>simp only [Oper.upon]
     case value v=>obtain ⟨γ',h1,hn,h2⟩:=hS;exact next v γ' J h1 hn h2
     case skip=>obtain ⟨γ',h1,hn,h2⟩:=hS;exact next undef γ' J h1 hn h2
     case enter f args=>exact hS.mono λe w'' ⟨v,he,γ',h1,hn,h2⟩=>by subst he;exact next v γ' w'' h1 hn h2
    |halt x J=>simp only [Bu] at hS
   ·rw [if_neg hw] at hS|-;exact next undef F w (hrefl _ _) (λ_ _ _ h=>h) hS
 refine wp_region_any hm (main ops.size _ a0 w0.drew (λ_=>undef) γ0 ⟨AC,rfl,rfl,?_,λ_ _=>rfl,hrefl _ _,?_,λj _ _=>hN j,?_⟩ ?_)
 ·exact R3
 ·exact RE
 ·intro j hj hl;simp [hj] at hl
 ·exact Uh
end

def AllSteps(F_:Nat->Oper->Prop):List Oper->Nat->Prop
 |[],_=>True
 |o::l,k=>F_ k o/\AllSteps F_ l (k+1)
theorem AllSteps.at_{F_:Nat->Oper->Prop} : ∀ {l:List Oper} {k:Nat},AllSteps F_ l k->∀ i o,l[i]?=some o->F_ (k+i) o
 |[],_,_,_,_,h=>by simp at h
 |o::l,k,h,0,o',hi=>by simp at hi;subst hi;exact h.1
 |o::l,k,h,i+1,o',hi=>by have:=h.2.at_ i o' Bp;rwa [show k+1+i=k+(i+1) by omega] at this
theorem ELA{F_:Nat->Oper->Prop}{l:List Oper}(h:AllSteps F_ l 0):∀ i o,l.toArray[i]?=some o->F_ i o:=λi o hi=>by
 have:=h.at_ i o Bp;rwa [Nat.zero_add] at this

theorem BZ{Γ:Type}{P:Program}{l:List Oper}{Q:Exit->Act->World->Prop}{id:Nat}{a0:Act}{w0:World}(hm:P.follows .mixedOrders=true)(D:Nat->List Nat)(hB:R8 l.toArray D a0.tmps.size=true)
  (R:Γ->World->Γ->World->Prop) (hrefl:∀ F w,R F w F w) (htrans:∀ F w γ' J γ'' w'',R F w γ' J->R γ' J γ'' w''->R F w γ'' w'')
  (N:Nat->Γ->Prop) (G:Nat->List Value->Γ->World->Prop) (hst:∀ i l F w γ' J,R F w γ' J->G i l F w->G i l γ' J) (γ0:Γ) (hN:∀ i,N i γ0)
  (hstep:AllSteps (LinStep P l.toArray D R N G a0 γ0 w0.drew) l 0)
  (hfin:∀ V F w,R γ0 w0.drew F w->(∀ i,i<l.length->G i ((D i).map V) F w)->Q .normal (Ah V l 0 a0) w) :
  (Code.region id l.toArray true).wp P Q a0 w0 :=
 KM hm D hB R hrefl htrans N G hst γ0 hN (ELA hstep) (λV F w h1 h2=>hfin V F w h1 λi hi=>h2 i Bp)
theorem LinStep.yes{Γ:Type}{P:Program}{ops:Array Oper}{D:Nat->List Nat}{R:Γ->World->Γ->World->Prop}{N:Nat->Γ->Prop}{G:Nat->List Value->Γ->World->Prop}{a0:Act}{γ0:Γ}{w0:World}{i:Nat}{o:Oper}
  (h:∀ (V:Nat->Value) (F:Γ) (w:World) (L:Operand->Value),R γ0 w0 F w->N i F->(∀ j,j∈AV o->G j ((D j).map V) F w)->(∀ t,L (.tmp t)=Fi ops o a0 V t)->(∀ v,L (.const v)=v)->(∀ f,L (.func f)=.func (.func f) #[] #[])->(∀ g,L (.global g)=.pointer (some ⟨g,0,none⟩)) ->
   AY o V=true/\Bu P (λv J=>∃ γ',R F w γ' J/\(∀ j,j≠i->j ∉ AV o->N j F->N j γ')/\G i ((D i).map (F3 V i v)) γ' J) ((execOp L o).run P w)):LinStep P ops D R N G a0 γ0 w0 i o:=by
 intro V F w hR hN hp;obtain ⟨h1,h2⟩:=h V F w (Hm ops o a0 V) hR hN hp (λ_=>rfl) (λ_=>rfl) (λ_=>rfl) (λ_=>rfl);rw [if_pos h1];exact h2
structure SR(Inv:Nat->World->Prop)(F:Nat)(w:World)(γ':Nat)(J:World):Prop where
 le:F<=γ'
 eq:F=γ'->J=w
 inv:Inv F w->Inv γ' J
theorem SR.refl(Inv:Nat->World->Prop)(F:Nat)(w:World):SR Inv F w F w:=⟨Al,λ_=>rfl,id⟩
theorem SR.trans(Inv:Nat->World->Prop)(F:Nat)(w:World)(γ':Nat)(J:World)(γ'':Nat)(w'':World)(h:SR Inv F w γ' J)(k:SR Inv γ' J γ'' w''):SR Inv F w γ'' w'' :=
 ⟨Nat.le_trans h.le k.le,λe=>by
  have h1:=h.le;have h2:=k.le;rw [k.eq AA,h.eq AA],λhi=>k.inv (h.inv hi)⟩
theorem SR.up{Inv:Nat->World->Prop}{F:Nat}{w:World}{γ':Nat}{J:World}(h:F<γ')(hi:Inv γ' J):SR Inv F w γ' J:=⟨Nat.le_of_lt h,λe=>absurd e (Nat.ne_of_lt h),λ_=>hi⟩
def SN(st:List Nat)(i F:Nat):Prop:=F<st.getD i 100
theorem SN.zero{st:List Nat}(h:st.all (λs=>decide (0<s))=true)(i:Nat):SN st i 0:=by
 unfold SN
 rcases Nat.lt_or_ge i st.length with hi|hi
 ·rw [show st.getD i 100=st[i] by simp [hi]];have:=List.all_eq_true.1 h _ (List.getElem_mem hi)
  simpa using this
 ·rw [show st.getD i 100=100 by simp [List.getElem?_eq_none hi]];omega
theorem SN.up{st:List Nat}{i s:Nat}{p:List Nat}(hs:s<100)(h:((List.range st.length).all λj=>decide (j=i)||p.contains j||decide (st.getD j 100≠s))=true){F:Nat}(hg:F+1=s):∀ j,j≠i->j ∉ p->SN st j F->SN st j s:=by
 intro j hj hp hn;unfold SN at hn|-
 rcases Nat.lt_or_ge j st.length with hl|hl
 ·have:=List.all_eq_true.1 h j (List.mem_range.2 hl);simp only [Bool.or_eq_true,decide_eq_true_eq,List.contains_iff_mem] at this
  rcases this with (h1|h1)|h1
  ·exact absurd h1 hj
  ·exact absurd h1 hp
  ·omega
 ·rw [show st.getD j 100=100 by simp [List.getElem?_eq_none hl]];omega
abbrev Gh:=Nat->Option (Option Nat)
def gh0:Gh:=λ_=>none
def Gh.put(F:Gh)(k:Nat)(x:Option Nat):Gh:=λj=>if j=k then some x else F j
def Gh.V(F:Gh)(b:Nat):Prop:=∃ k,F k=some (some b)
def Ec(F:Gh)(b:Nat):Prop:=¬F.V b
def LN(al:Nat->Option Nat)(i:Nat)(F:Gh):Prop:=(∀ k,al i=some k->F k≠some none)/\((∃ s,al s=some i)->F i=none)
structure LR(F:Gh)(w:World)(γ':Gh)(J:World):Prop where
 os:J.os=w.os
 tape:J.tape=w.tape
 output:J.output=w.output
 size:w.heap.size<=J.heap.size
 kept:∀ b,b<w.heap.size->Ec F b->J.heap[b]?=w.heap[b]?
 shape:∀ b t cs,Blk w b t cs->∃ cs',cs'.size=cs.size/\Blk J b t cs'
 old:∀ k b,γ' k=some (some b)->b<w.heap.size->F k=some (some b)
 on:∀ k b,F k=some (some b)->γ' k=some (some b)\/γ' k=some none
 done:∀ k,F k=some none->γ' k=some none
 inb:(∀ k b,F k=some (some b)->b<w.heap.size)->∀ k b,γ' k=some (some b)->b<J.heap.size
theorem LR.refl(F:Gh)(w:World):LR F w F w:=⟨rfl,rfl,rfl,Al,λ_ _ _=>rfl,λ_ _ cs h=>⟨cs,rfl,h⟩,λ_ _ h _=>h,λ_ _ h=>.inl h,λ_ h=>h,λh=>h⟩
theorem LR.free{F:Gh}{w:World}{γ':Gh}{J:World}(h:LR F w γ' J){b:Nat}(hb:b<w.heap.size)(hf:Ec F b):Ec γ' b:=λ⟨k,hk⟩=>hf ⟨k,h.old k b hk hb⟩
theorem PC(h:qP:=by
 rcases h.on i b hi with h1|h1
 ·exact k.on i b h1
 ·exact .inr (k.done i h1)):qP:=h
theorem LR.trans(F:Gh)(w:World)(γ':Gh)(J:World)(γ'':Gh)(w'':World)(h:LR F w γ' J)(k:LR γ' J γ'' w''):LR F w γ'' w'' where
 os:=k.os.trans h.os
 tape:=k.tape.trans h.tape
 output:=k.output.trans h.output
 size:=Nat.le_trans h.size k.size
 kept b hb hf:=(k.kept b (Nat.lt_of_lt_of_le hb h.size) (h.free hb hf)).trans (h.kept b hb hf)
 shape b t cs hc:=by
  obtain ⟨c1,e1,h1⟩:=h.shape b t cs hc;obtain ⟨c2,e2,h2⟩:=k.shape b t c1 h1;exact ⟨c2,e2.trans e1,h2⟩
 old i b hi hb:=h.old i b (k.old i b hi (Nat.lt_of_lt_of_le hb h.size)) hb
 on i b hi:=by
  exact PC
 done i hi:=k.done i (h.done i hi)
 inb hi:=k.inb (h.inb hi)
theorem IFA(F:Gh){w J:World}(h:Ext w J):LR F w F J :=
 ⟨h.os,h.tape,h.output,h.size,λb hb _=>h.block b hb,λ_b _t cs hc=>⟨cs,rfl,hc.keep (h.kept _)⟩,λ_ _ h _=>h,λ_ _ h=>.inl h,λ_ h=>h,λhi i b hb=>Nat.lt_of_lt_of_le (hi i b hb) h.size⟩
theorem LR.ext{w:World}{F:Gh}{J:World}(h:LR gh0 w F J):Ext w J:=⟨h.os,h.tape,h.output,h.size,λb hb=>h.kept b hb (λ⟨k,hk⟩=>by cases hk)⟩
theorem LR.drew_ext{w:World}{F:Gh}{J:World}(h:LR gh0 w.drew F J):Ext w J:=(Ext.refl w).drew.trans h.ext
theorem Sc(h:qP:=by
 intro j b hj hb;unfold Gh.put at hj;split at hj
 ·simp at hj;omega
 ·exact hj):qP:=h
theorem SE(h:qP:=by
 intro j b hj;left;unfold Gh.put;rw [if_neg (λe=>by subst e;rw [hk] at hj;cases hj)];exact hj):qP:=h
theorem Tr(h:qP:=by
 intro j hj;unfold Gh.put;rw [if_neg (λe=>by subst e;rw [hk] at hj;cases hj)];exact hj):qP:=h
theorem Rl(h:qP:=by
 intro hi j b hj;unfold Gh.put at hj;split at hj
 ·simp at hj;subst hj;simp
 ·have:=hi j b hj;simp;omega):qP:=h
theorem LR.new{F:Gh}{k:Nat}(hk:F k=none)(w:World)(o:Obj):LR F w (F.put k (some w.heap.size)) (w.alloc o):=by
 have h:=(Ext.refl w).alloc o;refine ⟨h.os,h.tape,h.output,h.size,λb hb _=>h.block b hb,λb t cs hc=>⟨cs,rfl,hc.keep (h.kept _)⟩,?_,?_,?_,?_⟩
 ·exact Sc
 ·exact SE
 ·exact Tr
 ·exact Rl
theorem LR.inb0{w:World}{F:Gh}{J:World}(h:LR gh0 w F J):∀ k b,F k=some (some b)->b<J.heap.size:=h.inb λk b hk=>by cases hk
theorem Ck(h:qP:=by cases h):qP:=h
theorem LN.zero(al:Nat->Option Nat)(i:Nat):LN al i gh0:=⟨λ_ _ h=>Ck,λ_=>rfl⟩
theorem LN.made{al:Nat->Option Nat}{F:Gh}{i:Nat}{x:Nat}{p:List Nat} : ∀ j,j≠i->j ∉ p->LN al j F->LN al j (F.put i (some x)):=by
 rintro j hj-⟨h1,h2⟩;refine ⟨λk hk => ?_,λhs => ?_⟩
 ·unfold Gh.put;split
  ·simp
  ·exact h1 k hk
 ·unfold Gh.put;rw [if_neg hj];exact h2 hs
theorem LN.stored{al:Nat->Option Nat}(inj:∀ j s k,al j=some k->al s=some k->j=s){F:Gh}{s k g:Nat}(hs:al s=some k)(hk:F k=some (some g)){p:List Nat} : ∀ j,j≠s->j ∉ p->LN al j F->LN al j (F.put k none):=by
 rintro j hj-⟨h1,h2⟩;refine ⟨λk' hk' => ?_,λhs' => ?_⟩
 ·unfold Gh.put;rw [if_neg (λe=>by subst e;exact hj (inj _ _ _ hk' hs))];exact h1 k' hk'
 ·unfold Gh.put;rw [if_neg (λe=>by subst e;rw [h2 hs'] at hk;cases hk)];exact h2 hs'
def al0:Nat->Option Nat:=λ_=>none
structure Only(g:Nat)(w J:World):Prop where
 os:J.os=w.os
 tape:J.tape=w.tape
 output:J.output=w.output
 size:J.heap.size=w.heap.size
 block:∀ b,b≠g->J.heap[b]?=w.heap[b]?
theorem Only.refl(g:Nat)(w:World):Only g w w:=⟨rfl,rfl,rfl,rfl,λ_ _=>rfl⟩
theorem Only.set{g:Nat}{w J:World}(h:Only g w J)(i:Nat)(u:Value):Only g w (J.setCell ⟨g,i,none⟩ u) :=
 ⟨h.os,h.tape,h.output,by simp [World.setCell,h.size],λb hb=>(Below.heap_setCell _ _ _ _ hb).trans (h.block b hb)⟩
theorem AeA(h:qP:=by
 subst hbg;have:=hb.symm.trans hc;simp at this;obtain ⟨rfl,rfl⟩:=this;exact ⟨cs',hs,hb'⟩):qP:=h
theorem RW(h:qP:=by
 by_cases hbg:b=g
 ·exact AeA
 ·exact ⟨c,rfl,(ho.block b hbg).trans hc⟩):qP:=h
theorem Oh(h:qP:=by
 unfold Gh.put at hj;split at hj
 ·cases hj
 ·exact hj):qP:=h
theorem Lz(h:qP:=by
 intro j b hj _;exact Oh):qP:=h
theorem KW(h:qP:=by
 intro j b hj;unfold Gh.put;split
 ·exact .inr rfl
 ·exact .inl hj):qP:=h
theorem KY(h:qP:=by
 intro j hj;unfold Gh.put;split
 ·rfl
 ·exact hj):qP:=h
theorem TM(h:qP:=by
 intro hi j b hj;unfold Gh.put at hj;split at hj
 ·cases hj
 ·rw [ho.size];exact hi j b hj):qP:=h
theorem LR.store{F:Gh}{w J:World}{k g t:Nat}{cs cs':Array Value}(hk:F k=some (some g))(hu:∀ j,F j=some (some g)->j=k)(ho:Only g w J)(hb:Blk w g t cs)(hb':Blk J g t cs')(hs:cs'.size=cs.size) :
  LR F w (F.put k none) J:=by
 refine ⟨ho.os,ho.tape,ho.output,Nat.le_of_eq ho.size.symm,λb _ hf=>ho.block b (λe=>hf ⟨k,by rw [hk,e]⟩),?_,?_,?_,?_,?_⟩
 ·intro b O c hc;exact RW
 ·exact Lz
 ·exact KW
 ·exact KY
 ·exact TM
section
variable {F γ':Gh}{w J:World}{A B:OA}{d:Nat}{x:Val}
theorem LR.keptS(h:LR F w γ' J){S:NP}(hS:∀ b,b<w.heap.size->S b->Ec F b):Kept S w J:=⟨h.size,λb hs hb=>h.kept b hb (hS b hb hs)⟩
theorem RI(h:qP:=by
 exact (h1.keep (h.keptS λ_ _ hb=>hb.1)).mono λ_ _ hb=>hb.2):qP:=h
theorem LR.rv(h:LR F w γ' J)(k:RV w (Ec F) d x A B):RV J (Ec γ') d x A B:=by
 have h1:RV w (λb=>Ec F b/\Ec γ' b) d x A B:=k.mono λb hb hf=>⟨hf,h.free hb hf⟩;exact RI
theorem LR.strs{l:List BA}(h:LR F w γ' J)(k:Strs w (Ec F) A l):Strs J (Ec γ') A l:=by
 have h1:Strs w (λb=>Ec F b/\Ec γ' b) A l:=k.mono λb hb hf=>⟨hf,h.free hb hf⟩;exact RI
theorem LR.rows{l:List (List Val)}(h:LR F w γ' J)(k:Rows w (Ec F) d A l):Rows J (Ec γ') d A l:=by
 have h1:Rows w (λb=>Ec F b/\Ec γ' b) d A l:=k.mono λb hb hf=>⟨hf,h.free hb hf⟩;exact RI
theorem LR.cell(h:LR F w γ' J){p:Addr}{u:Value}(hf:Ec F p.block)(hc:w.cell? p=some u):J.cell? p=some u:=by
 have hp:p.block<w.heap.size:=by
  exact Zbea95ee93
 rw [World.cell?_of_block (w:=w) (h.kept p.block hp hf)];exact hc
theorem LR.blk(h:LR F w γ' J){g t:Nat}{cs:Array Value}(hf:Ec F g)(hc:Blk w g t cs):Blk J g t cs:=hc.keep (h.keptS λb _ e=>by subst e;exact hf)
def VarAt(k t n:Nat)(v:Value)(F:Gh)(w:World):Prop:=∃ g cs,v=.pointer (some ⟨g,0,none⟩)/\cs.size=n/\Blk w g t cs/\(F k=some (some g)\/F k=some none)/\∀ j,F j=some (some g)->j=k
def HDA(t:Nat)(v:Value)(cs:Array Value)(F:Gh)(w:World):Prop:=∃ g,v=.pointer (some ⟨g,0,none⟩)/\Blk w g t cs/\Ec F g
theorem VT(h:qP:=by
 unfold Gh.put at hj;split at hj
 ·assumption
 ·have:=hf j _ hj;omega):qP:=h
theorem VarAt.new{k t n:Nat}(hf:∀ j b,F j=some (some b)->b<w.heap.size){cs:Array Value}(hn:cs.size=n):VarAt k t n (.pointer (some ⟨w.heap.size,0,none⟩)) (F.put k (some w.heap.size)) (w.alloc (.cells cs t)):=by
 refine ⟨_,cs,rfl,hn,Blk.new w t cs,.inl (by simp [Gh.put]),λj hj => ?_⟩;exact VT
theorem Pa(h:qP:=by
 rintro ⟨j,hj⟩;unfold Gh.put at hj;split at hj
 ·cases hj
 ·rename_i hne;exact hne (h5 j hj)):qP:=h
theorem TC(h:qP:=by
 rcases h4 with h4|h4
 ·exact h4
 ·exact absurd h4 (hn.1 k hs)):qP:=h
theorem VarAt.stored{al:Nat->Option Nat}{s k t n:Nat}{v:Value}(h:VarAt k t n v F w)(hs:al s=some k)(hn:LN al s F) :
  ∃ g cs,v=.pointer (some ⟨g,0,none⟩)/\cs.size=n/\Blk w g t cs/\F k=some (some g)/\∀ J cs',Only g w J->Blk J g t cs'->cs'.size=n->LR F w (F.put k none) J/\HDA t v cs' (F.put k none) J:=by
 obtain ⟨g,cs,h1,h2,h3,h4,h5⟩:=h;have hk:F k=some (some g):=by
  exact TC
 refine ⟨g,cs,h1,h2,h3,hk,λJ cs' ho hb he=>⟨LR.store hk h5 ho h3 hb (he.trans h2.symm),g,h1,hb,?_⟩⟩;exact Pa
theorem P4{cs:Array Value}(h:cs.size=7)(a0 a1 a2 a3 a4 a5 a6:Value):((((((cs.setIfInBounds 0 a0).setIfInBounds 1 a1).setIfInBounds 2 a2).setIfInBounds 3 a3).setIfInBounds 4 a4).setIfInBounds 5 a5).setIfInBounds 6 a6=#[a0,a1,a2,a3,a4,a5,a6]:=by
 obtain ⟨l⟩:=cs
 match l,h with
 |[_,_,_,_,_,_,_],_=>rfl
theorem VarAt.store7{al:Nat->Option Nat}{s k t:Nat}{v:Value}(h:VarAt k t 7 v F w)(hs:al s=some k)(hn:LN al s F) :
  ∃ g,v=.pointer (some ⟨g,0,none⟩)/\(∃ cs,cs.size=7/\Blk w g t cs)/\F k=some (some g)/\∀ a0 a1 a2 a3 a4 a5 a6,LR F w (F.put k none) (((((((w.setCell ⟨g,0,none⟩ a0).setCell ⟨g,1,none⟩ a1).setCell ⟨g,2,none⟩ a2).setCell ⟨g,3,none⟩ a3).setCell ⟨g,4,none⟩ a4).setCell ⟨g,5,none⟩ a5).setCell ⟨g,6,none⟩ a6) /\
   HDA t v #[a0,a1,a2,a3,a4,a5,a6] (F.put k none) (((((((w.setCell ⟨g,0,none⟩ a0).setCell ⟨g,1,none⟩ a1).setCell ⟨g,2,none⟩ a2).setCell ⟨g,3,none⟩ a3).setCell ⟨g,4,none⟩ a4).setCell ⟨g,5,none⟩ a5).setCell ⟨g,6,none⟩ a6):=by
 obtain ⟨g,cs,h1,h2,h3,h4,h5⟩:=h.stored hs hn;refine ⟨g,h1,⟨cs,h2,h3⟩,h4,λa0 a1 a2 a3 a4 a5 a6=>h5 _ _ (((((((Only.refl g w).set 0 a0).set 1 a1).set 2 a2).set 3 a3).set 4 a4).set 5 a5 |>.set 6 a6) ?_ rfl⟩;have:=((((((h3.set 0 a0).set 1 a1).set 2 a2).set 3 a3).set 4 a4).set 5 a5).set 6 a6;rwa [P4 h2] at this
end

theorem LinStep.no{Γ:Type}{P:Program}{ops:Array Oper}{D:Nat->List Nat}{R:Γ->World->Γ->World->Prop}{N:Nat->Γ->Prop}{G:Nat->List Value->Γ->World->Prop}{a0:Act}{γ0:Γ}{w0:World}{i:Nat}{o:Oper}
  (h:∀ (V:Nat->Value) (F:Γ) (w:World),(∀ j,j∈AV o->G j ((D j).map V) F w)->AY o V=false/\G i ((D i).map (F3 V i undef)) F w):LinStep P ops D R N G a0 γ0 w0 i o:=by
 intro V F w hR hN hp;obtain ⟨h1,h2⟩:=h V F w hp;rw [if_neg (by rw [h1];simp)];exact h2
theorem Only.drew{g:Nat}{w J:World}(h:Only g w J):Only g w J.drew:=⟨h.os,h.tape,h.output,h.size,h.block⟩
theorem Only.drewN{g:Nat}{w J:World}(h:Only g w J)(n:Nat):Only g w (J.drewN n):=⟨h.os,h.tape,h.output,h.size,h.block⟩
theorem Only.trans{g:Nat}{w J w'':World}(h:Only g w J)(k:Only g J w''):Only g w w'':=⟨k.os.trans h.os,k.tape.trans h.tape,k.output.trans h.output,k.size.trans h.size,λb hb=>(k.block b hb).trans (h.block b hb)⟩
theorem Only.kept{g:Nat}{w J:World}(h:Only g w J){S:NP}(hS:∀ b,b<w.heap.size->S b->b≠g):Kept S w J:=⟨Nat.le_of_eq h.size.symm,λb hb hl=>h.block b (hS b hl hb)⟩
theorem Only.below{g B:Nat}{w J:World}(h:Only g w J)(hB:B<=g):Below B w J:=⟨h.os,h.tape,h.output,Nat.le_of_eq h.size.symm,λb hb=>h.block b AA⟩
theorem Ext.only{g:Nat}{a w J:World}(h:Ext a w)(k:Only g w J)(hg:a.heap.size<=g):Ext a J:=Below.trans h (k.below hg)
theorem Only.own{g:Nat}{w J:World}(h:Only g w J){base e sz n c:Nat}{A:OA}{xs:List Value}(ho:Own w base e sz A n c xs)(hg:g<base):Own J base e sz A n c xs :=
 ho.keep (h.kept λb _ hb=>by have:=(ho.blk hb).1;omega)
theorem VN(h:qP:=by
 obtain ⟨A',c',J,hrun,h2,h3,h4⟩:=CAA w o.type ti hown (c2:=c2) hr hl h1 h63 hby hbase;unfold execOp;simp only [ho,resolve,invoke,builtin,Sem.run_bind,Sem.run_pure,Result.andThen_ok,List.map_toArray,List.map_cons,List.map_nil,hs,hx,hrun];exact h A' c' J h2 h3 h4):qP:=h
theorem FNA{P:Program}{o:Oper}{L:Operand->Value}{K:Value->World->Prop}{w:World}{base e sz n c:Nat}{A:OA}{xs:List Value}(s x:Operand){t by_:Nat}
  (ho:o.op=.call { callee:=.builtin .append,args:=#[s,x],argTypes:=#[t,t] }) (ti:TI P t e sz by_) (hs:L s=.slice A n c) (hown:Own w base e sz A n c xs)
  {S:NP} {B:OA} {m c2:Nat} {news:List Value} (hx:L x=.slice B m c2) (hr:Rd w S B news) (hl:news.length=m*sz) (h1:∀ u∈news,u.oneCell'=true)
  (h63:(n+m)*by_<=140737488355328) (hby:0<by_) (hbase:base<=w.heap.size)
  (h:∀ A' c' J,Own J base e sz A' (n+m) c' (xs++news)->w.grownBy J (ob A)->(ob A'=ob A\/ob A'=some w.heap.size)->K (.slice A' (n+m) c') J) :
  Bu P K ((execOp L o).run P w):=by
 exact VN

def IntsL(w:World)(S:NP)(A:OA)(l:List Int):Prop:=Rd w S A (l.map (Value.int .i64))/\l.length<=9223372036854775807
theorem IntsL.keep{w J:World}{S:NP}{A:OA}{l:List Int}(h:IntsL w S A l)(k:Kept S w J):IntsL J S A l:=⟨h.1.keep k,h.2⟩
theorem IntsL.mono{w:World}{S T:NP}{A:OA}{l:List Int}(h:IntsL w S A l)(k:∀ i,i<w.heap.size->S i->T i):IntsL w T A l:=⟨h.1.mono k,h.2⟩
theorem IntsL.at_{w:World}{S:NP}{A:OA}{l:List Int}(h:IntsL w S A l){k:Nat}(hk:k<l.length):∃ b o,A=some ⟨b,o,none⟩/\b<w.heap.size/\w.cell? ⟨b,o+k,none⟩=some (.I l[k]) :=
 h.1.at_ AF
def RIssL(w:World)(S:NP)(A:OA)(l:List (List Int)):Prop :=
 l.length<=9223372036854775807/\∃ hs:List Value,Rd w S A hs/\hs.length=l.length/\∀ (i:Nat) (r:List Int),l[i]?=some r->∃ (B:OA) (e:Nat),hs[i]?=some (.slice B r.length e)/\r.length<=e/\IntsL w S B r
theorem RIssL.keep{w J:World}{S:NP}{A:OA}{l:List (List Int)}(h:RIssL w S A l)(k:Kept S w J):RIssL J S A l:=by
 exact UJ
theorem RIssL.at_{w:World}{S:NP}{A:OA}{l:List (List Int)}(h:RIssL w S A l){k:Nat}(hk:k<l.length) :
  ∃ b o B e,A=some ⟨b,o,none⟩/\b<w.heap.size/\w.cell? ⟨b,o+k,none⟩=some (.slice B l[k].length e)/\l[k].length<=e/\IntsL w S B l[k]:=by
 exact VD
def NumIs(w:World)(g:Nat)(A:OA)(n c K:Nat):Prop:=Blk w g 60 #[.slice A n c,.I (K:Int)]/\K<=n
theorem NumIs.keep{w J:World}{g:Nat}{A:OA}{n c K:Nat}(h:NumIs w g A n c K)(k:Kept (λb=>b=g) w J):NumIs J g A n c K:=⟨h.1.keep k,h.2⟩
theorem BzA(a n:Int)(hn:1<=n):-n<a.tmod n/\a.tmod n<n:=by
 have h1:=Int.tmod_lt_of_pos a (b:=n) AA;have h2:=Int.tmod_lt_of_pos (-a) (b:=n) AA;rw [Int.neg_tmod] at h2;omega
theorem FyA(a n:Int)(hn:1<=n):0<=(a.tmod n+n).tmod n/\(a.tmod n+n).tmod n<n:=by
 obtain ⟨h1,h2⟩:=BzA a n hn;rw [Int.tmod_eq_emod_of_nonneg AA];exact ⟨Int.emod_nonneg _ AA,Int.emod_lt_of_pos _ AA⟩
