/- Lemmas. No conditions. -/
import Derived.Test.YtidacnalcdhckaaGreatDoorYq24
set_option maxRecDepth 100000
set_option maxHeartbeats 4000000
namespace Go.Proofs.YtidacnalcdhckaaGreatDoor
open Go Go.RowKit Tryz
variable {qP:Prop}

def KzP(x y:BA)(v:Value)(w':World):Prop:=∃ g:Nat,v=.slice (some ⟨g,0,none⟩) 2 2∧Blk w' g 9 #[.string x,.string y]
theorem Vr:(prog.info? 4).map (fun i=>(i.zero,i.size,i.bytes))=some (some (.bool false),1,1):=by kernel_rfl
theorem Yy:TI prog 119 4 1 1:=FEA underlying119 Vr rfl Y17
def KX(cols:List BA)(rows:List (List Val))(k:Nat):Bool:=Cu cols rows&&(List.range k).all fun j=>decide (BM cols (cols.getD j ⟨#[]⟩)=(j:Int))
theorem Pl(cols:List BA)(rows:List (List Val))(k:Nat):KX cols rows (k+1)=(KX cols rows k&&decide (BM cols (cols.getD k ⟨#[]⟩)=(k:Int))):=by
 unfold KX;rw [List.range_succ,List.all_append,List.all_cons,List.all_nil,Bool.and_true,Bool.and_assoc]
theorem TH(cols:List BA)(rows:List (List Val)):KX cols rows cols.length=(Cu cols rows&&Gs cols):=by
 unfold KX Gs;congr 1;rw [Bool.eq_iff_iff,List.all_eq_true,decide_eq_true_eq];constructor
 ·intro h;rw [List.nodup_iff_pairwise_ne,List.pairwise_iff_getElem];intro i j hi hj hlt he;have h1:=of_decide_eq_true (h j (List.mem_range.2 hj));rw [Au _ _ _ hj] at h1;obtain ⟨k,hk,hkl,hkv,hall⟩:=GD (l:=cols) (v:=cols[j]) (by rw [h1];omega);have:k=j:=Y4;subst this;exact hall i hi hlt he
 ·intro h j hj;have hj:=List.mem_range.1 hj;rw [Au _ _ _ hj,decide_eq_true_eq];exact Lg h hj
theorem UY{cols:List BA}{rows:List (List Val)}(hn:cols.Nodup)(hr:Cu cols rows=true){k:Nat}(hk:k<cols.length):cols.all (Al cols rows [cols[k]])=Eb rows cols.length k:=by
 have:=IU hn hr [k] (by intro c hc;rw [List.mem_singleton.1 hc];exact hk);rw [List.map_cons,List.map_nil,Au _ _ _ hk] at this;rw [←this];rfl
theorem T5{cols:List BA}{rows:List (List Val)}(hn:cols.Nodup)(hr:Cu cols rows=true){i j:Nat}(hi:i<cols.length)(hj:j<cols.length):cols.all (Al cols rows [cols[i],cols[j]])=EF rows cols.length [i,j]:=by
 have:=IU hn hr [i,j] (by intro c hc;simp at hc;rcases hc with rfl|rfl<;>assumption);rw [List.map_cons,List.map_cons,List.map_nil,Au _ _ _ hi,Au _ _ _ hj] at this;rw [←this]
theorem SL{cols:List BA}{rows:List (List Val)}(hn:cols.Nodup)(hr:Cu cols rows=true):cols.all (Al cols rows [])=EF rows cols.length []:=by
 have:=IU hn hr [] Y3;exact this.symm
theorem QW{cols:List BA}(hn:cols.Nodup):Bo cols [] cols.length=C8 cols []:=by
 have:=Ge hn [] Y3 cols.length (AS);rw [List.take_length] at this;exact this
theorem RX{cols:List BA}(hn:cols.Nodup){k:Nat}(hk:k<cols.length):Bo cols [(k:Int)] cols.length=C8 cols [cols[k]]:=by
 have:=Ge hn [k] (by intro c hc;rw [List.mem_singleton.1 hc];exact hk) cols.length (AS);rw [List.take_length,List.map_cons,List.map_nil,List.map_cons,List.map_nil,Au _ _ _ hk] at this;exact this
theorem Rn{cols:List BA}(hn:cols.Nodup){i j:Nat}(hi:i<cols.length)(hj:j<cols.length):Bo cols [(i:Int),(j:Int)] cols.length=C8 cols [cols[i],cols[j]]:=by
 have:=Ge hn [i,j] (by intro c hc;simp at hc;rcases hc with rfl|rfl<;>assumption) cols.length (AS);rw [List.take_length,List.map_cons,List.map_cons,List.map_nil,List.map_cons,List.map_cons,List.map_nil,Au _ _ _ hi,Au _ _ _ hj] at this;exact this
def kL1(cols:List BA)(rows:List (List Val))(k:Nat):List Dep:=(List.range k).flatMap (GR cols rows)
def kL3(cols:List BA)(rows:List (List Val))(i j:Nat):List Dep:=(List.range' (i+1) (j-(i+1))).flatMap (Ga cols rows i)
def kL2(cols:List BA)(rows:List (List Val))(i:Nat):List Dep:=kL1 cols rows cols.length++(List.range i).flatMap fun i=>kL3 cols rows i cols.length
theorem Ry(cols:List BA)(rows:List (List Val))(k:Nat):kL1 cols rows (k+1)=kL1 cols rows k++GR cols rows k:=by
 unfold kL1;rw [List.range_succ,List.flatMap_append];simp
theorem Sr(cols:List BA)(rows:List (List Val))(i:Nat):kL2 cols rows (i+1)=kL2 cols rows i++kL3 cols rows i cols.length:=by
 unfold kL2;rw [List.range_succ,List.flatMap_append,List.append_assoc];simp
theorem Q9(cols:List BA)(rows:List (List Val))(i j:Nat)(h:i+1≤j):kL3 cols rows i (j+1)=kL3 cols rows i j++Ga cols rows i j:=by
 unfold kL3;rw [show j+1-(i+1)=(j-(i+1))+1 by omega,List.range'_concat,List.flatMap_append];congr 1;rw [show i+1+1*(j-(i+1))=j by omega];simp
theorem Sm(cols:List BA)(rows:List (List Val))(i:Nat):kL3 cols rows i (i+1)=[]:=by
 unfold kL3;rw [Nat.sub_self];rfl
theorem Kw(cols:List BA)(s:List Int):(Bo cols s cols.length).length≤cols.length:=Oj cols s cols.length
theorem Po(cols:List BA)(rows:List (List Val))(k:Nat):(GR cols rows k).length≤cols.length:=by
 unfold GR;split
 ·exact Kw _ _
 ·exact AE
theorem QE(cols:List BA)(rows:List (List Val))(i j:Nat):(Ga cols rows i j).length≤cols.length:=by
 unfold Ga;split
 ·exact Kw _ _
 ·exact AE
theorem JN{α β:Type}{l:List α}{f:α→List β}{n:Nat}(h:∀ x∈l,(f x).length≤n):(l.flatMap f).length≤l.length*n:=by
 induction l with
 |nil=>simp
 |cons a m ih =>
  rw [List.flatMap_cons,List.length_append,List.length_cons,Nat.add_mul];have:=h a Y3;have:=ih (fun x hx=>h x (by simp [hx]));omega
theorem PY(cols:List BA)(rows:List (List Val))(k:Nat):(kL1 cols rows k).length≤k*cols.length:=by
 have:=JN (l:=List.range k) (f:=GR cols rows) (n:=cols.length) fun x _=>Po _ _ _;rwa [List.length_range] at this
theorem PI(cols:List BA)(rows:List (List Val))(i j:Nat)(hj:j≤cols.length):(kL3 cols rows i j).length≤cols.length*cols.length:=by
 have:=JN (l:=List.range' (i+1) (j-(i+1))) (f:=Ga cols rows i) (n:=cols.length) fun x _=>QE _ _ _ _;rw [List.length_range'] at this;exact Nat.le_trans this (Nat.mul_le_mul_right _ Y4)
theorem UQ(cols:List BA)(rows:List (List Val))(i:Nat)(hi:i≤cols.length)(hn:cols.length≤1000):(kL2 cols rows i).length≤1001000000:=by
 unfold kL2;rw [List.length_append];have h1:=PY cols rows cols.length;have h2:=JN (l:=List.range i) (f:=fun i=>kL3 cols rows i cols.length) (n:=cols.length*cols.length) fun x _=>PI _ _ _ _ (AS);rw [List.length_range] at h2;have h3:cols.length*cols.length≤1000*1000:=Nat.mul_le_mul hn hn;have h4:i*(cols.length*cols.length)≤1000*(1000*1000):=Nat.mul_le_mul Y4 h3;omega
theorem VQ(cols:List BA)(rows:List (List Val))(h1:(Cu cols rows&&Gs cols)=true)(h2:EF rows cols.length []=false):kL2 cols rows cols.length=Bp cols rows:=by
 rw [Mh];unfold PR;rw [Bool.and_eq_true] at h1;rw [h1.1,h1.2,h2];rfl
def NT(rows:List (List Val))(n k:Nat):List Value:=(List.range k).map fun i=>Value.bool (Eb rows n i)
theorem Pw(rows:List (List Val))(n k:Nat):NT rows n (k+1)=NT rows n k++[.bool (Eb rows n k)]:=by
 unfold NT;rw [List.range_succ,List.map_append];rfl
theorem PK(rows:List (List Val))(n k i:Nat)(h:i<k):(NT rows n k)[i]?=some (.bool (Eb rows n i)):=by
 unfold NT;rw [List.getElem?_map,List.getElem?_range h];rfl
theorem SepD.mk{w w':World}{base c8:Nat}{A8 A9 A10:OA}{l:List Dep}(h:OwnDs w base (fun b=>(base≤b∧ob A9≠some b)∧b<w.heap.size) A8 c8 l)(hs:∀ b,ob A9=some b→ob A8≠some b)(hg:w.grownBy w' (ob A9))(hat:ob A10=ob A9∨ob A10=some w.heap.size):OwnDs w' base (fun b=>base≤b∧ob A10≠some b) A8 c8 l:=by
 refine (h.keep (Kept.of_grown hg fun b hb _ e => ?_)).mono fun b _ hb=>⟨hb.1.1,fun e => ?_⟩
 ·rcases hb with hb|hb
  ·exact hs b e.symm hb
  ·exact hb.1.2 e.symm
 ·rcases hat with h1|h1
  ·rw [h1] at e;exact hb.1.2 e
  ·rw [h1] at e;injection e with e;have:=hb.2;omega
theorem SepD.sep{w:World}{base c8:Nat}{A8 A9 A10:OA}{X:NP}{l:List Dep}(h:OwnDs w base X A8 c8 l)(hs:∀ b,ob A9=some b→ob A8≠some b)(hat:ob A10=ob A9∨ob A10=some w.heap.size):∀ b,ob A10=some b→ob A8≠some b:=by
 intro b hb e
 rcases hat with h1|h1
 ·rw [h1] at hb;exact hs b hb e
 ·rw [h1] at hb;injection hb with hb;have:=(h.blk e).2;omega
theorem Xh(h:qP:=by
 exact ⟨fun e=>by have:=h8 b e;omega,Y4,fun e=>by have:=h9 b e;omega⟩):qP:=h
theorem DepR.mk{w w':World}{base c5:Nat}{A5 A8 A9:OA}{l:List Dep}(h:OwnDs w' w.heap.size (fun b=>w.heap.size≤b) A5 c5 l)(hl:l.length≤4294967296)(h8:∀ b,ob A8=some b→b<w.heap.size)(h9:∀ b,ob A9=some b→b<w.heap.size)(hb:base≤w.heap.size):RDeps w' (fun b=>ob A8≠some b∧(base≤b∧ob A9≠some b)) A5 l:=by
 refine h.rdeps hl (fun b hb' => ?_) (fun b (hb':w.heap.size≤b) => ?_)
 ·have:=(h.blk hb').1;exact Xh
 ·exact Xh
theorem CMA(h:qP:=by
 rintro v γ wx γ' wy rr ⟨g,h1,h2⟩;exact ⟨g,h1,h2.keep (rr.keptS (S:=fun b=>b=g) fun b _ e m hm=>hm.elim)⟩):qP:=h
theorem CJA(h:qP:=by
 have HL:=Hd (show kL3 cols rows k (j+1)=L3 by rw [HLU.o];simp);go_wp2;go_roundw
 case rel=>exact ⟨j+1,A3,c3,Y4,Y4,Y5,by rw [HL.o,←HLE.o],by rw [HL.o,←HLE.o];exact HO8'.out,HSP3.o,HX9.o,HO9'.out⟩
 case measure=>simp [intOf];omega):qP:=h
theorem Q6(q:Nat)(cols:List BA)(rows:List (List Val))(A B:OA)(ca cb:Nat)(w:World)(S T:NP)(hA:Strs w S A cols)(hB:Rows w T q B rows)(hn:cols.length≤1000)(hca:cols.length≤ca) :
  Cl 40 #[.slice A cols.length ca,.slice B rows.length cb] w (Fx w (fun b=>w.heap.size≤b) (Bp cols rows)):=by
 obtain ⟨HA,HSQ,HIX,HKY,HDP⟩:=Hd5 (hA.mono (T:=fun b=>b<w.heap.size) fun i hi _=>hi) (JP q cols rows A B ca cb w T hA.2.1 hB) (fun x=>DF A ca cols x w S hA) (show ∀ (fs:List BA) (C:OA) (cc:Nat) (w':World) (U:NP),Ext w w'→Strs w' U C fs→Cl 112 #[.slice A cols.length ca,.slice B rows.length cb,.slice C fs.length cc] w' (AO w' (cols.all (Al cols rows fs))) from fun fs C cc w' U hw' hC=>TB q cols rows fs A B C ca cb cc w' _ _ _ (hA.keep (hw'.kept _)) (hB.keep (hw'.kept _)) hC) (show ∀ (fs:List BA) (C:OA) (cc:Nat) (w':World) (U:NP),Ext w w'→Strs w' U C fs→Cl 113 #[.slice A cols.length ca,.slice C fs.length cc] w' (Fx w' (fun b=>w'.heap.size≤b) (C8 cols fs)) from fun fs C cc w' U hw' hC=>Ru cols fs A C ca cc w' _ _ (hA.keep (hw'.kept _)) hC Y4);obtain ⟨n,hnn⟩:=eqx cols.length;clear hA hB
 go_enter func40,ntmps40
 go_wp2_with fail
 refine HSQ.o.mono ?_;rintro e1 w1 ⟨rfl,rfl⟩;have hf0:Cu cols rows=KX cols rows 0:=(by unfold KX;simp);rw [hf0];clear hf0;go_wp2
 go_loop [6,5] (fun i s=>∃ k:Nat,k≤cols.length∧i=.I k∧s=.bool (KX cols rows k)) (fun i _=>cols.length-(intOf i).toNat)
 case atStart=>exact ⟨0,AE,rfl,rfl⟩
 case round =>
  obtain ⟨k,hk,rfl,rfl⟩:=hrel;by_cases hlt:k<cols.length
  ·have hsu:=Pl cols rows k;rw [Au _ _ _ hlt] at hsu;obtain ⟨fk,hfk⟩:=eqx (KX cols rows k);rw [←hfk] at hsu⊢;obtain ⟨b1,o1,rfl,z1,q0⟩:=HA.o.at_ hlt;obtain ⟨x,hx⟩:=eqx (cols[k]);rw [←hx] at q0 hsu;obtain ⟨ix,hix⟩:=eqx (BM cols x);have HIC:=Hd (HIX.o x);rw [←hix] at hsu HIC;have HSU:=Hd hsu;clear hsu hfk hx hix;cases fk
   ·go_wp2
    go_round
    case rel=>exact ⟨k+1,Y4,Y5,by rw [HSU.o];rfl⟩
    case measure=>simp [intOf];omega
   ·go_wp2_with fail
    refine HIC.o.mono ?_;rintro e2 w2 ⟨rfl,rfl⟩;have HEQ:=Hd (show (ix==(k:Int))=decide (ix=(k:Int)) by rw [Bool.eq_iff_iff];simp);go_wp2
    go_round
    case rel=>exact ⟨k+1,Y4,Y5,by rw [HSU.o,HEQ.o];rfl⟩
    case measure=>simp [intOf];omega
  ·obtain rfl:k=cols.length:=Y4;have hfa:=TH cols rows;obtain ⟨ft,hft⟩:=eqx (KX cols rows cols.length);rw [←hft] at hfa⊢;clear hft;cases ft
   ·have HF:=Hd (show Bp cols rows=[] by
     unfold Bp;rw [if_pos];have h2:=hfa.symm
     revert h2
     cases Cu cols rows<;>cases Gs cols<;>simp)
    clear hfa;go_wp2;go_ret;rw [HF.o];exact ⟨none,0,rfl,AS,OwnDs.nil _ _ _,Ext.refl _⟩
   obtain ⟨HFA,HRG,HND⟩:=Hd3 hfa.symm (show Cu cols rows=true by have:=hfa.symm;rw [Bool.and_eq_true] at this;exact this.1) (show cols.Nodup by have:=hfa.symm;rw [Bool.and_eq_true] at this;exact of_decide_eq_true this.2);clear hfa HSQ HIX;have hk0:=SL HND.o HRG.o;obtain ⟨e0,he0⟩:=eqx (EF rows cols.length []);have HK0:=Hd (HKY.o [] none 0 w (fun _=>False) (Ext.refl _) Strs.nil);rw [hk0,←he0] at HK0;have HE0:=Hd he0;clear hk0 he0
   go_wp2_with fail
   refine HK0.o.mono ?_;rintro e2 w2 ⟨rfl,hx2⟩;have HX2:=Hd hx2;clear hx2;cases e0
   case true =>
    have HF:=Hd (show Bp cols rows=C8 cols [] by
     rw [Mh];unfold PR;have h1:=HFA.o;rw [Bool.and_eq_true] at h1;rw [h1.1,h1.2,←HE0.o];exact QW HND.o)
    go_wp2_with fail
    refine (HDP.o [] none 0 w2 (fun _=>False) HX2.o Strs.nil).mono ?_;rintro e3 w3 ⟨A3,c3,rfl,hc3,ho3,hx3⟩;obtain ⟨HO3,HX3,HC3⟩:=Hd3 ho3 (HX2.o.trans hx3) hc3;have hsz:=HX2.o.size;clear hx3 ho3 hc3;go_wp2;go_ret;exact ⟨A3,c3,Y19,by rw [HF.o];exact HC3.o,by rw [HF.o];exact (HO3.o.lower hsz).mono fun b _ hb=>by have hb':w2.heap.size≤b:=hb;omega,HX3.o⟩
   have HF:=Hd (VQ cols rows HFA.o HE0.o.symm);clear HK0 HE0;go_wp2
   go_loopw [10,9,8] (fun i s o wr=>∃ (k:Nat) (A9:OA) (c9:Nat) (A8:OA) (c8:Nat),k≤cols.length∧i=.I k∧s=.slice A9 k c9∧o=.slice A8 (kL1 cols rows k).length c8∧Own wr w.heap.size 4 1 A9 k c9 (NT rows cols.length k)∧OwnDs wr w.heap.size (fun b=>w.heap.size≤b∧ob A9≠some b) A8 c8 (kL1 cols rows k)∧(∀ b,ob A9=some b→ob A8≠some b)∧Ext w wr) (fun i _ _ _=>cols.length-(intOf i).toNat)
   case atStart=>exact ⟨0,none,0,none,0,AE,rfl,rfl,rfl,Own.nil _ _ _ _,OwnDs.nil _ _ _,(by intro b hb;cases hb),HX2.o⟩
   case round =>
    obtain ⟨k,A9,c9,A8,c8,hk,rfl,rfl,rfl,ho9,ho8,hsep,hext⟩:=hrel;obtain ⟨HO9,HO8,HSP,HE⟩:=Hd4 ho9 ho8 hsep hext;clear ho9 ho8 hsep;by_cases hlt:k<cols.length
    ·have hl1:(kL1 cols rows k).length≤1000000:=Nat.le_trans (PY _ _ _) (Nat.le_trans (Nat.mul_le_mul Y4 hn) (by decide:1000*1000≤1000000));have hlu:=Ry cols rows k;unfold GR at hlu;rw [RX HND.o hlt] at hlu;have hko:=UY HND.o HRG.o hlt;obtain ⟨sg,hsg⟩:=eqx (Eb rows cols.length k);have hss:=Pw rows cols.length k;rw [←hsg] at hlu hko hss;obtain ⟨b1,o1,rfl,z1,q0⟩:=(HA.o.keep (hext.kept _)).at_ hlt;obtain ⟨x,hx⟩:=eqx (cols[k]);rw [←hx] at q0 hlu hko;have HSX:=Hd (show Strs wr (fun b=>b<w.heap.size) (some ⟨b1,o1+k,none⟩) [x] from by
      have h1:=(HA.o.keep (hext.kept _));refine ⟨?_,Y3,fun s hs => ?_⟩
      ·have h2:=(Rd.drop h1.1 k).take 1;rw [←List.map_drop,←List.map_take,List.drop_eq_getElem_cons hlt,←hx] at h2
       simpa using h2
      ·rw [List.mem_singleton.1 hs,hx];exact h1.2.2 _ (List.getElem_mem hlt))
     have HKC:=Hd (HKY.o [x] (some ⟨b1,o1+k,none⟩) (ca-k) wr _ hext HSX.o);rw [hko] at HKC;have HLU:=Hd hlu;have HSS:=Hd hss;have hkc:k+1≤ca:=Y4;have hkn:((k:Int)+1-(k:Int))=1:=Y4;clear hlu hko hss hx hsg hext
     go_wp2_with fail
     refine HKC.o.mono ?_;rintro e3 w3 ⟨rfl,hx3⟩;obtain ⟨wb,hwb⟩:=eqx (w3.alloc (.cells #[.bool sg] 4));have hxb:Ext wr wb:=(by rw [hwb];exact hx3.trans (exaa _));obtain ⟨HXB,HXR,HO9B,HO8B⟩:=Hd4 (HE.o.trans hxb) hxb (HO9.o.ext hxb) ((HO8.o.ext hxb).mono (T:=fun b=>(w.heap.size≤b∧ob A9≠some b)∧b<wb.heap.size) fun b hb h=>⟨h,hb⟩);have hszb:=HXB.o.size;have HWB:=Hd hwb;clear hx3 hxb HKC;have HWC:=Hd HWB.o.symm;cases sg
     ·have HL:=Hd (show kL1 cols rows (k+1)=kL1 cols rows k by rw [HLU.o];simp)
      go_wp2_with (at_builtin;go_must (rw [HWC.o]);go_must (refine AC rfl (.tmp 58) (.tmp 60) rfl Yy rfl HO9B.o rfl (by rw [HWB.o];exact Blk.rd (Blk.new _ _ _)) rfl Y18 Y4 Y17 Y4 ?_);intro A10 c10 w10 hown10 hg10 hat10)
      go_roundw
      case rel =>
       refine ⟨k+1,A10,c10,A8,c8,Y4,Y5,rfl,by rw [HL.o],?_,?_,?_,HXB.o.grown hg10 fun b hb=>(HO9B.o.blk hb).1⟩
       ·rw [HSS.o];exact hown10
       ·rw [HL.o];exact SepD.mk HO8B.o HSP.o hg10 hat10
       ·exact SepD.sep HO8B.o HSP.o hat10
      case measure=>simp [intOf];omega
     ·have HL:=Hd (show kL1 cols rows (k+1)=kL1 cols rows k++C8 cols [x] by rw [HLU.o];simp)
      go_wp2_with (at_builtin;go_must (rw [HWC.o]);go_must (refine AC rfl (.tmp 58) (.tmp 60) rfl Yy rfl HO9B.o rfl (by rw [HWB.o];exact Blk.rd (Blk.new _ _ _)) rfl Y18 Y4 Y17 Y4 ?_);intro A10 c10 w10 hown10 hg10 hat10)
      have hx10:Ext w w10:=HXB.o.grown hg10 fun b hb=>(HO9B.o.blk hb).1;have HX10:=Hd hx10;have hsx:Strs w10 (fun b=>b<w.heap.size) (some ⟨b1,o1+k,none⟩) [x]:=(HSX.o.keep (HXR.o.kept _)).keep (Kept.of_grown hg10 fun b hb _ e=>by have:=(HO9B.o.blk e.symm).1;omega);obtain ⟨HO10,HO80,HSP0,HDC⟩:=Hd4 hown10 (SepD.mk HO8B.o HSP.o hg10 hat10) (SepD.sep HO8B.o HSP.o hat10) (HDP.o [x] (some ⟨b1,o1+k,none⟩) (ca-k) w10 _ hx10 hsx);have hdl:=Ig cols [x];obtain ⟨dx,hdx⟩:=eqx (C8 cols [x]);rw [←hdx] at HDC HL hdl;clear hx10 hsx hown10 hg10 hat10 hdx;refine HDC.o.mono ?_;rintro e5 w5 ⟨A5,c5,rfl,hc5,ho5,hx5⟩;have HX5:=Hd (HX10.o.trans hx5);have hsz0:=HX10.o.size;have HR5:=Hd (DepR.mk ho5 Y4 (fun b hb=>(HO80.o.blk hb).2) (fun b hb=>(HO10.o.blk hb).2) hsz0);have HO10':=Hd (HO10.o.ext hx5);obtain ⟨hs,hhs,hoo,hvv⟩:=(HO80.o.ext hx5).add;obtain ⟨HHS,HOO,HVV⟩:=Hd3 hhs hoo hvv;obtain ⟨-,ys,hry,hyl,hyd⟩:=HR5.o;obtain ⟨HRY,HYL,HYD,HY1⟩:=Hd4 hry hyl hyd (FA hyl hyd);have hsz5:=HX5.o.size;have HG5:=Hd (show ∀ b,ob A10=some b→b<w5.heap.size from fun b hb=>(HO10'.out.blk hb).2);clear hx5 ho5 hc5 hhs hoo hvv hry hyl hyd
      go_wp2_with (at_builtin;go_must (refine AC rfl (.tmp 63) (.tmp 70) rfl tiD rfl HOO.o rfl HRY.o HYL.o HY1.o Y4 Y17 Y4 ?_);intro A6 c6 w6 hown6 hg6 hat6)
      go_roundw
      case rel =>
       refine ⟨k+1,A10,c10,A6,c6,Y4,Y5,rfl,by rw [HL.o,List.length_append],?_,?_,?_,HX5.o.grown hg6 fun b hb=>(HOO.o.blk hb).1⟩
       ·rw [HSS.o];exact Own.keep HO10'.out (Kept.of_grown hg6 fun b hb _ e=>HSP0.o b hb e.symm)
       ·rw [HL.o];exact OwnDs.app HHS.o HVV.o HYD.o hown6 hg6 hat6
       ·intro b hb e
        rcases hat6 with h6|h6
        ·rw [h6] at e;exact HSP0.o b hb e
        ·rw [h6] at e;injection e with e;have:=HG5.o b hb;omega
      case measure=>simp [intOf];omega
    ·obtain rfl:k=cols.length:=Y4;obtain ⟨wp,rfl⟩:=eqx wr;have hl20:kL2 cols rows 0=kL1 cols rows cols.length:=(by unfold kL2;simp);have HO9F:=Hd HO9.o;clear hext;go_wp2
     go_loopw [12,8] (fun i o wr=>∃ (k:Nat) (A7:OA) (c7:Nat),k≤cols.length∧i=.I k∧o=.slice A7 (kL2 cols rows k).length c7∧OwnDs wr w.heap.size (fun b=>w.heap.size≤b∧ob A9≠some b) A7 c7 (kL2 cols rows k)∧(∀ b,ob A9=some b→ob A7≠some b)∧Ext w wr∧Own wr w.heap.size 4 1 A9 cols.length c9 (NT rows cols.length cols.length)) (fun i _ _=>cols.length-(intOf i).toNat)
     case atStart=>exact ⟨0,A8,c8,AE,rfl,by rw [hl20],by rw [hl20];exact HO8.o,HSP.o,HE.o,HO9F.o⟩
     case round =>
      obtain ⟨k,A7,c7,hk2,rfl,rfl,ho7,hsp7,hx7,ho9⟩:=hrel;obtain ⟨HO7,HSP7,HX7,HO97⟩:=Hd4 ho7 hsp7 hx7 ho9;clear ho7 hsp7 hx7 ho9 hl20;by_cases hlt:k<cols.length
      ·obtain ⟨wq,rfl⟩:=eqx wr;have hl2:=UQ cols rows k Y4 hn;have hl2s:=Sr cols rows k;have hz3:=Sm cols rows k;obtain ⟨L2,hL2⟩:=eqx (kL2 cols rows k);rw [←hL2] at hl2 hl2s HO7⊢;have HL2S:=Hd hl2s;clear hL2 hl2s;go_wp2
       go_loopw [13,8] (fun jv o wr=>∃ (j:Nat) (A7:OA) (c7:Nat),k+1≤j∧j≤cols.length∧jv=.I j∧o=.slice A7 (L2++kL3 cols rows k j).length c7∧OwnDs wr w.heap.size (fun b=>w.heap.size≤b∧ob A9≠some b) A7 c7 (L2++kL3 cols rows k j)∧(∀ b,ob A9=some b→ob A7≠some b)∧Ext w wr∧Own wr w.heap.size 4 1 A9 cols.length c9 (NT rows cols.length cols.length)) (fun jv _ _=>cols.length-(intOf jv).toNat)
       case atStart=>exact ⟨k+1,A7,c7,AS,Y4,Y5,by rw [hz3,List.append_nil],by rw [hz3,List.append_nil];exact HO7.o,HSP7.o,HX7.o,HO97.o⟩
       case round =>
        clear hz3;obtain ⟨j,A3,c3,hj1,hj2,rfl,rfl,ho3,hsp3,hx3,ho9⟩:=hrel;obtain ⟨HO3,HSP3,HX3,HO93⟩:=Hd4 ho3 hsp3 hx3 ho9;clear ho3 hsp3 ho9;by_cases hlj:j<cols.length
        ·have hl3:=PI cols rows k j Y4;have hl3c:cols.length*cols.length≤1000*1000:=Nat.mul_le_mul hn hn;have hlu:=Q9 cols rows k j hj1;unfold Ga at hlu;rw [Rn HND.o hlt hlj] at hlu;have hko:=T5 HND.o HRG.o hlt hlj;have hdb:Mr rows cols.length k j=(!Eb rows cols.length k&&!Eb rows cols.length j&&EF rows cols.length [k,j]):=rfl;have hsk:=PK rows cols.length cols.length k hlt;have hsj:=PK rows cols.length cols.length j hlj;rw [hdb] at hlu;obtain ⟨sk,hsk'⟩:=eqx (Eb rows cols.length k);obtain ⟨sj,hsj'⟩:=eqx (Eb rows cols.length j);obtain ⟨kp,hkp⟩:=eqx (EF rows cols.length [k,j]);obtain ⟨L3,hL3⟩:=eqx (kL3 cols rows k j);rw [←hsk'] at hlu hsk;rw [←hsj'] at hlu hsj;rw [←hkp] at hlu hko;rw [←hL3] at hlu hl3 HO3⊢;obtain ⟨LL,hLL⟩:=eqx (L2++L3);have hll:LL.length≤1002000000:=(by rw [hLL,List.length_append];omega);rw [←hLL] at HO3⊢;have HLE:=Hd hLL;clear hLL;obtain ⟨b1,o1,rfl,z1,q1⟩:=(HA.o.keep (hx3.kept _)).at_ hlt;obtain ⟨b1',o1',he1',-,q2⟩:=(HA.o.keep (hx3.kept _)).at_ hlj;injection he1' with he1';injection he1' with he2' he3';subst he2' he3';obtain ⟨x1,hx1⟩:=eqx (cols[k]);obtain ⟨x2,hx2⟩:=eqx (cols[j]);rw [←hx1] at q1 hlu hko;rw [←hx2] at q2 hlu hko;obtain ⟨Q1,Q2,HZ1,HZ2⟩:=Hd4 q1 q2 (show x1.size≤4294967296 by rw [hx1];exact HA.o.2.2 _ (List.getElem_mem hlt)) (show x2.size≤4294967296 by rw [hx2];exact HA.o.2.2 _ (List.getElem_mem hlj));obtain ⟨b9,rfl⟩:=HO93.o.some_ Y4;obtain ⟨K1,K2,HLU,HKO⟩:=Hd4 (HO93.o.cell_ hsk) (HO93.o.cell_ hsj) hlu hko;clear hlu hko hdb hsk hsj hsk' hsj' hkp hL3 hx1 hx2 q1 q2 hx3
         go_upto_region 26 with fail
         refine Qa (fun _ _=>False) [] ?_
         iterate 8 refine Qp ?_
         refine Qs (FP fun v γ w'=>KzP x1 x2 v w') (EuA ?_) ?_ ?_
         ·exact CMA
         ·intro vals γ w' ρ hR hN hp hρ zs zg;refine Qr ?_;exact ⟨γ,ExA _ γ (exaa _),fun _ _ _ h=>h,_,rfl,Blk.new _ _ _⟩
         refine Qs (FP fun v γ w'=>KzP x1 x2 v w') (EuA ?_) ?_ ?_
         ·exact CMA
         ·intro vals γ w' ρ hR hN hp hρ zs zg;have hg:=hp.o 8 Y17;have e94:=hρ.o 94;(conv at e94=>rhs;whnf);have HG:=Hd hg;clear hg;refine Qr ?_;exact ⟨γ,LZ.refl _ _ _,fun _ _ _ h=>h,HG.o⟩
         intro vals γ w9 hR hG;refine Qx ?_;obtain ⟨gs,v9',hbs⟩:=hG 9 Y17;rw [v9'];have HXN:=Hd (show Ext wr w9 from hR.ext0 (fun _ _ _ h=>h.elim));have HBS:=Hd hbs;clear hR hG hbs v9';have hx9:Ext w w9:=HX3.o.trans HXN.o;have HX9:=Hd hx9;have k1:=HXN.o.cell K1.o;have k2:=HXN.o.cell K2.o;obtain ⟨HO9',HO8',HSX⟩:=Hd3 (HO93.o.ext HXN.o) (HO3.o.ext HXN.o) (show Strs w9 (fun b=>True) (some ⟨gs,0,none⟩) [x1,x2] from ⟨(Blk.rd HBS.o).mono fun _ _ _=>trivial,Y3,fun s hs=>by simp at hs;rcases hs with rfl|rfl;exact HZ1.o;exact HZ2.o⟩);have HKC:=Hd (HKY.o [x1,x2] (some ⟨gs,0,none⟩) 2 w9 _ hx9 HSX.o);rw [HKO.o] at HKC;clear hx9;cases sk
         case true =>
          exact CJA
         cases sj
         case true =>
          exact CJA
         go_wp2_with fail
         refine HKC.o.mono ?_;rintro e4 w4 ⟨rfl,hx4⟩;obtain ⟨HX4,HO94,HO84,HSX4⟩:=Hd4 (HX9.o.trans hx4) (HO9'.out.ext hx4) (HO8'.out.ext hx4) (HSX.o.keep (hx4.kept _));clear hx4 k1 k2;cases kp
         ·have HL:=Hd (show kL3 cols rows k (j+1)=L3 by rw [HLU.o];simp);go_wp2;go_roundw
          case rel=>exact ⟨j+1,A3,c3,Y4,Y4,Y5,by rw [HL.o,←HLE.o],by rw [HL.o,←HLE.o];exact HO84.o,HSP3.o,HX4.o,HO94.o⟩
          case measure=>simp [intOf];omega
         ·have HL:=Hd (show kL3 cols rows k (j+1)=L3++C8 cols [x1,x2] by rw [HLU.o];simp);have HDC:=Hd (HDP.o [x1,x2] (some ⟨gs,0,none⟩) 2 w4 _ HX4.o HSX4.o);have hdl:=Ig cols [x1,x2];obtain ⟨dx,hdx⟩:=eqx (C8 cols [x1,x2]);rw [←hdx] at HDC HL hdl;clear hdx
          go_wp2_with fail
          refine HDC.o.mono ?_;rintro e5 w5 ⟨A5,c5,rfl,hc5,ho5,hx5⟩;have HX5:=Hd (HX4.o.trans hx5);have hsz0:=HX4.o.size;have HR5:=Hd (DepR.mk ho5 Y4 (fun b hb=>(HO84.o.blk hb).2) (fun b hb=>(HO94.o.blk hb).2) hsz0);have HO95:=Hd (HO94.o.ext hx5);obtain ⟨hs,hhs,hoo,hvv⟩:=(HO84.o.ext hx5).add;obtain ⟨HHS,HOO,HVV⟩:=Hd3 hhs hoo hvv;obtain ⟨-,ys,hry,hyl,hyd⟩:=HR5.o;obtain ⟨HRY,HYL,HYD,HY1⟩:=Hd4 hry hyl hyd (FA hyl hyd);have hsz5:=HX5.o.size;clear hx5 ho5 hc5 hhs hoo hvv hry hyl hyd
          go_wp2_with (at_builtin;go_must (refine AC rfl (.tmp 114) (.tmp 117) rfl tiD rfl HOO.o rfl HRY.o HYL.o HY1.o Y4 Y17 Y4 ?_);intro A6 c6 w6 hown6 hg6 hat6)
          go_roundw
          case rel =>
           refine ⟨j+1,A6,c6,Y4,Y4,Y5,by rw [HL.o,←List.append_assoc,←HLE.o,List.length_append],?_,?_,HX5.o.grown hg6 fun b hb=>(HOO.o.blk hb).1,Own.keep HO95.o (Kept.of_grown hg6 fun b hb _ e=>HSP3.o b hb e.symm)⟩
           ·rw [HL.o,←List.append_assoc,←HLE.o];exact OwnDs.app HHS.o HVV.o HYD.o hown6 hg6 hat6
           ·intro b hb e
            rcases hat6 with h6|h6
            ·rw [h6] at e;exact HSP3.o b hb e
            ·rw [h6] at e;injection e with e;have:=(HO95.o.blk hb).2;omega
          case measure=>simp [intOf];omega
        ·obtain rfl:j=cols.length:=Y4;go_wp2;go_roundw
         case rel=>exact ⟨k+1,A3,c3,Y4,Y5,by rw [HL2S.o],by rw [HL2S.o];exact HO3.o,HSP3.o,HX3.o,HO93.o⟩
         case measure=>simp [intOf];omega
      ·obtain rfl:k=cols.length:=Y4;have HC7:=Hd (show (kL2 cols rows cols.length).length≤c7 by obtain ⟨hs,_,h1,_⟩:=HO7.o.add;exact h1.cap);go_wp2;go_ret;exact ⟨A7,c7,Y33,by rw [←HF.o];exact HC7.o,by rw [←HF.o];exact HO7.o.mono fun b _ hb=>hb.1,HX7.o⟩

def FY:Abs:=⟨0,⟨0,0,0,⟨#[]⟩,⟨#[]⟩⟩,⟨0,0,0,0⟩,0,0,0,0,0,[],[],false⟩
theorem YE(h:qP:=by
 right;have:=HU5.o;have:=HSU.o;omega):qP:=h
theorem DlA(h:qP:=by
 rcases hb with h|h
 ·exact .inl h
 ·exact YE):qP:=h
theorem DqA(h:qP:=by
 right;have:=HX0.o.size;omega):qP:=h
theorem BUA(h:qP:=by
 clear hK1 hK2 hbf hb28 hx8 hab8 hof hkf
 go_wp2_with fail
 refine bodyPost_ret (BR results12 rfl (DM HBF.o AH AA)) rfl ?_;rw [HOF.o,HCE.o];refine ⟨A7,c7,D7,e7,rfl,HABF.o.mono fun b _ hb => ?_,HXF.o⟩
 rcases hb with hb|hb
 ·exact .inl hb.1
 ·exact DqA):qP:=h
theorem Q4(h:qP:=by
 have HCN:=Hd (Cr r0 none none 0 0 w7 _ HAB.o.2.2.1 HAB.o.2.2.2 HRN.o);refine wp_region_lit ?_;refine AB rfl 39 _ rfl g5 rfl HB7.o AH AA ?_
 go_wp2_with fail
 refine HCN.o.mono ?_;rintro e8 w8 ⟨A7,c7,D7,e7,rfl,hab8,hx8⟩;have HX8:=Hd (HX7.o.trans hx8);have hb28:=HB2.o.keep (HX8.o.kept _);rename_i K1 hK1 K2 hK2;refine hK2 _ _ ?_;refine AD rfl 39 _ _ rfl g2 (Ap (AM r0) A7 c7 D7 e7) rfl rfl 39 _ hb28 AA rfl Y11 ?_;intro wf hbf hof;refine hK1 _ _ ?_;have HXF:=Hd ((HX0.o.trans HX8.o).only hof Y80);have HBF:=Hd hbf;have hg5l:=HB7.o.lt;have hg2l:=HB2.o.lt;have hkf:=hof.kept (S:=fun b=>(T b∧b<w.heap.size)∨w0.heap.size≤b) (fun b _ hb e=>by have:=HG2.o;rcases hb with h|h;(have:=h.2;omega);omega);have HABF:=Hd ((hab8.mono (T:=fun b=>(T b∧b<w.heap.size)∨w0.heap.size≤b) fun b _ hb=>by
  exact DlA).keep hkf)
 exact BUA):qP:=h
theorem Oo(h:qP:=by
 intro vals γ w' ρ hR hN hp hρ zs zg;have HR:=hR;have HN:=hN;refine Qr ?_;exact ⟨γ.put 7 (some w'.heap.size),LX.new Y17 (HN.o.2 Y17 ⟨8,Y17⟩) _ _,FGA,VarX.new HR.o.inb0 rfl (fun _ _ h=>h.elim)⟩):qP:=h
theorem DvA(h:qP:=by
 have h9:=hR.old 7 g hk h;cases h9):qP:=h
theorem Qi(h:qP:=by
 rcases Nat.lt_or_ge g w3.heap.size with h|h
 ·exact DvA
 ·exact h):qP:=h
theorem OO(h:qP:=by
 rw [v7] at v9';injection v9' with v9';injection v9' with v9';injection v9' with v9';omega):qP:=h
theorem CWA(h:qP:=by
 rw [HRR.o]
 simpa [FY] using hbb):qP:=h
theorem QJ(h:qP:=by
 rw [←hw7] at hbb;exact CWA):qP:=h
theorem BwA(h:qP:=by
 have HAB:=Hd (show AbM w7 (fun b=>T b∧b<w.heap.size) r0 none 0 none 0 from AbM.nil Y87);clear hw7 p0 rf rl p4 r12;exact Q4):qP:=h
theorem BBA(h:qP:=by
 intro vals γ w' ρ hR hN hp hρ hc hf hg;refine ⟨rfl,?_⟩;have e16:ρ (.tmp 16)=_:=(hρ 16).trans (hp 6 Y17);obtain ⟨g,⟨cl⟩,hv,hcs,hb,hk,hst⟩:=E1A (hp 7 Y17) (s:=8) (l:=[(8,[7])]) Y17 hN;have e4:=(hρ 4).trans hv
 match cl,hcs with
 |[x0,x1,x2,x3,x4,x5,x6,x7,x8,x9,x10,x11,x12,x13,x14,x15,x16,x17],_ =>
  have hup:UpN w3.heap.size (vals 7):=⟨g,hv,by
    exact Qi⟩
  have HST:=Hd hst;have HK:=Hd hk;refine Ay 39 rfl e4 e16 hb AA rfl Y11 ?_;intro w4 hb4 ho4;obtain ⟨g1,g2⟩:=HST.o _ #[.I 16,.I 0,.I 0,.I 0,.string ⟨#[]⟩,.string ⟨#[]⟩,.I 0,.I 0,.I 0,.I 0,.I 0,.I 0,.I 0,.I 0,.I 0,.slice none 0 0,.slice none 0 0,.bool false] ho4 hb4 rfl;exact ⟨γ.put 7 none,g1,LM.done Y17 (.inl ⟨g,HK.o⟩),⟨g2,hup⟩⟩):qP:=h
theorem OX(h:qP:=by simp [Bc,IW,FY,hk]):qP:=h
theorem Jv(h:qP:=by simp [Bc,FY,hk]):qP:=h
theorem DP(h:qP:=by exfalso;revert h;simp [Bc,IW,hk];try decide):qP:=h
theorem Fk(h:qP:=by have:=HU5.o;have:=HSU.o;omega):qP:=h
theorem RA(q:Nat)(x:Val)(B C:OA)(cb cc:Nat)(w:World)(T:NP)(hx:RV w T q x B C)(hcap:x.cols.length≤cb) :
  Cl 12 #[(Vq x B cb C cc)] w (DD w T (ofA x)):=by
 obtain ⟨w0,hw0⟩:=eqx ((w.alloc (.cells (Vp x B cb C cc) 29)).alloc (.cells Az 39));obtain ⟨g1,hg1⟩:=eqx w.heap.size;obtain ⟨g2,hg2⟩:=eqx (w.heap.size+1);have hx0:Ext w w0:=Y49;have hb1:Blk w0 g1 29 (Vp x B cb C cc):=Y90;have hb2:Blk w0 g2 39 Az:=(by rw [hw0,hg2];exact EzA _ _ _ _);obtain ⟨HW0,HG1,HG2,HX0,HB1,HB2,HV⟩:=Hd7 hw0 hg1 hg2 hx0 hb1 hb2 ((hx.mono (T:=fun b=>T b∧b<w.heap.size) fun i hi hs=>⟨hs,hi⟩).keep (hx0.kept _));have HRT:=Hd (QI q x B C cb cc w0 _ HV.o);have hss:=hx.size;have hcp:=hcap;obtain ⟨p0,p1,p2,p3,p4,p5,p6⟩:=hb1.qs7;clear hw0 hg1 hg2 hx0 hb1 hb2 hx hcap
 go_enter func12,ntmps12
 go_upto_region 1 with fail
 rw [←HW0.o,←HG2.o,←HG1.o]
 go_wp2_with fail
 cases hr:Ae x
 ·have HF:=Hd (show ofA x=noneA by unfold ofA;rw [hr];rfl);rw [hr] at HRT;clear hr;refine HRT.o.mono ?_;rintro e3 w3 ⟨rfl,hx3⟩;have HX3:=Hd hx3;clear hx3 p0 p1 p2 p3 p4 p5 p6
  go_wp2_with fail
  refine (Jo _).mono ?_;rintro e4 w4 ⟨rfl,hx4⟩;have hb24:=HB2.o.keep ((HX3.o.trans hx4).kept _);have HX4:=Hd (HX3.o.trans hx4);rename_i K1 hK1 K2 hK2;refine hK2 _ _ ?_;refine AD rfl 39 _ _ rfl g2 (Ap noneA none 0 none 0) rfl rfl 39 _ hb24 AA rfl Y11 ?_;intro wf hbf hof;refine hK1 _ _ ?_;have HXF:=Hd ((HX0.o.trans HX4.o).only hof Y80);have HBF:=Hd hbf;clear hbf hof hx4 hb24 hK1 hK2
  go_wp2_with fail
  refine bodyPost_ret (BR results12 rfl (DM HBF.o AH AA)) rfl ?_;exact A4A
 have HR:=Hd hr;rw [hr] at HRT;have HOF:=Hd (show ofA x=AM (Bc x) by unfold ofA;rw [hr];rfl);clear hr;refine HRT.o.mono ?_;rintro e3 w3 ⟨rfl,hx3⟩;obtain ⟨HX3,HSU,P0⟩:=Hd3 hx3 hx3.size (hx3.cell p0);clear hx3 p0 p1 p2 p3 p4 p5 p6
 rcases CQ HR.o with hk|hk|hk|hk|hk|hk
 ·obtain ⟨r0,hr0⟩:∃ z:Abs,z = { FY with kinds:=1,errs:=true }:=⟨_,rfl⟩;obtain ⟨HCE,HRR,HRN⟩:=Hd3 (show AM (Bc x)=AM r0 by rw [hr0];exact CM OX Jv (fun h=>DP) (fun h=>DP) (fun h=>DP) (fun h=>DP) (fun h=>DP)) hr0 (show AbN 1000000 r0 by rw [hr0];exact ⟨AE,AE,AE,AE,fun d hd=>Y81⟩);clear hr0
  go_upto_region 4 with fail
  refine Qb (fun|8=>[7,8]|i=>[i]) (fun _ _=>False) [(8,[7])] ?_
  iterate 7 refine Qp ?_
  refine Qs (FP (VarX (fun _ _=>False) 7 39 18)) (EuA E3A) ?_ ?_
  ·exact Oo
  refine Chain.step (fun vl γ w'=>match vl with|[p,_]=>VarXI (fun _ _=>False) 39 p #[.I 1,.I 0,.I 0,.I 0,.string ⟨#[]⟩,.string ⟨#[]⟩,.I 0,.I 0,.I 0,.I 0,.I 0,.I 0,.I 0,.I 0,.I 0,.slice none 0 0,.slice none 0 0,.bool true] γ w'∧UpN w3.heap.size p|_=>True) Y41 ?_ ?_ ?_
  ·exact KW
  ·intro vals γ w' ρ hR hN hp hρ hc hf hg;refine ⟨rfl,?_⟩;have e16:ρ (.tmp 16)=_:=(hρ 16).trans (hp 6 Y17);obtain ⟨g,⟨cl⟩,hv,hcs,hb,hk,hst⟩:=E1A (hp 7 Y17) (s:=8) (l:=[(8,[7])]) Y17 hN;have e4:=(hρ 4).trans hv
   match cl,hcs with
   |[x0,x1,x2,x3,x4,x5,x6,x7,x8,x9,x10,x11,x12,x13,x14,x15,x16,x17],_ =>
    have hup:UpN w3.heap.size (vals 7):=⟨g,hv,by
      exact Qi⟩
    have HST:=Hd hst;have HK:=Hd hk;refine Ay 39 rfl e4 e16 hb AA rfl Y11 ?_;intro w4 hb4 ho4;obtain ⟨g1,g2⟩:=HST.o _ #[.I 1,.I 0,.I 0,.I 0,.string ⟨#[]⟩,.string ⟨#[]⟩,.I 0,.I 0,.I 0,.I 0,.I 0,.I 0,.I 0,.I 0,.I 0,.slice none 0 0,.slice none 0 0,.bool true] ho4 hb4 rfl;exact ⟨γ.put 7 none,g1,LM.done Y17 (.inl ⟨g,HK.o⟩),⟨g2,hup⟩⟩
  intro vals γ w4 hR hG;obtain ⟨⟨g5,v7,hb5,-,-⟩,g6,v9',hu6⟩:=hG 8 Y17;have hu5:w3.heap.size≤g5:=by
   exact OO
  refine Qx ?_;simp only [v7];obtain ⟨HX5,HB5,HU5⟩:=Hd3 (show Ext w3 w4 from hR.ext0 (fun _ _ h=>h.elim)) hb5 hu5;clear hR hG hb5 v7 v9' hu5 hu6;have HX4:=Hd (HX3.o.trans HX5.o);have hba:=HB1.o.keep (HX4.o.kept _);have p0:=hba.q0;clear hba;have rf:=HB5.o.frozen;have rl:=HB5.o.lt
  go_upto_region 18 with fail
  obtain ⟨w7,hw7⟩:=eqx w4;rw [←hw7] at HB5⊢;have HX7:=Hd (show Ext w0 w7 by rw [hw7];exact HX4.o);have HB7:=Hd (show Blk w7 g5 39 (Ap r0 none 0 none 0) by
   have hbb:=HB5.o;exact CWA)
  have HAB:=Hd (show AbM w7 (fun b=>T b∧b<w.heap.size) r0 none 0 none 0 from AbM.nil Y87);clear hw7 p0 rf rl;exact Q4
 ·obtain ⟨r0,hr0⟩:∃ z:Abs,z = { FY with kinds:=2,tx:=ofS x.s }:=⟨_,rfl⟩;obtain ⟨HCE,HRR,HRN⟩:=Hd3 (show AM (Bc x)=AM r0 by rw [hr0];exact CM OX Jv (fun _=>Jv) (fun h=>DP) (fun h=>DP) (fun h=>DP) (fun h=>DP)) hr0 (show AbN 1000000 r0 by rw [hr0];exact ⟨Nat.le_trans (Mu x.s).1 Y17,Nat.le_trans (Mu x.s).2 Y17,AE,AE,fun d hd=>Y81⟩);clear hr0
  go_upto_region 4 with fail
  refine Qb (fun|8=>[7,8]|i=>[i]) (fun _ _=>False) [(8,[7])] ?_
  iterate 7 refine Qp ?_
  refine Qs (FP (VarX (fun _ _=>False) 7 39 18)) (EuA E3A) ?_ ?_
  ·exact Oo
  refine Chain.step (fun vl γ w'=>match vl with|[p,_]=>VarXI (fun _ _=>False) 39 p #[.I 2,.I 0,.I 0,.I 0,.string ⟨#[]⟩,.string ⟨#[]⟩,.I 0,.I 0,.I 0,.I 0,.I 0,.I 0,.I 0,.I 0,.I 0,.slice none 0 0,.slice none 0 0,.bool false] γ w'∧UpN w3.heap.size p|_=>True) Y41 ?_ ?_ ?_
  ·exact KW
  ·intro vals γ w' ρ hR hN hp hρ hc hf hg;refine ⟨rfl,?_⟩;have e16:ρ (.tmp 16)=_:=(hρ 16).trans (hp 6 Y17);obtain ⟨g,⟨cl⟩,hv,hcs,hb,hk,hst⟩:=E1A (hp 7 Y17) (s:=8) (l:=[(8,[7])]) Y17 hN;have e4:=(hρ 4).trans hv
   match cl,hcs with
   |[x0,x1,x2,x3,x4,x5,x6,x7,x8,x9,x10,x11,x12,x13,x14,x15,x16,x17],_ =>
    have hup:UpN w3.heap.size (vals 7):=⟨g,hv,by
      exact Qi⟩
    have HST:=Hd hst;have HK:=Hd hk;refine Ay 39 rfl e4 e16 hb AA rfl Y11 ?_;intro w4 hb4 ho4;obtain ⟨g1,g2⟩:=HST.o _ #[.I 2,.I 0,.I 0,.I 0,.string ⟨#[]⟩,.string ⟨#[]⟩,.I 0,.I 0,.I 0,.I 0,.I 0,.I 0,.I 0,.I 0,.I 0,.slice none 0 0,.slice none 0 0,.bool false] ho4 hb4 rfl;exact ⟨γ.put 7 none,g1,LM.done Y17 (.inl ⟨g,HK.o⟩),⟨g2,hup⟩⟩
  intro vals γ w4 hR hG;obtain ⟨⟨g5,v7,hb5,-,-⟩,g6,v9',hu6⟩:=hG 8 Y17;have hu5:w3.heap.size≤g5:=by
   exact OO
  refine Qx ?_;simp only [v7];obtain ⟨HX5,HB5,HU5⟩:=Hd3 (show Ext w3 w4 from hR.ext0 (fun _ _ h=>h.elim)) hb5 hu5;clear hR hG hb5 v7 v9' hu5 hu6;have HX4:=Hd (HX3.o.trans HX5.o);have hba:=HB1.o.keep (HX4.o.kept _);obtain ⟨p0,p1⟩:=hba.qs2;clear hba
  go_wp2_with fail
  refine (Sc x.s hss _).mono ?_;rintro e6 w6 ⟨rfl,hx6⟩;have HX6:=Hd (HX4.o.trans hx6);have HB6:=Hd (HB5.o.keep (hx6.kept _));clear hx6;have rf:=HB6.o.frozen;have rl:=HB6.o.lt;have r1:w6.cell? ⟨g5,1,none⟩=some (.I 0):=HB6.o.q1;have r2:w6.cell? ⟨g5,2,none⟩=some (.I 0):=HB6.o.q2;have r3:w6.cell? ⟨g5,3,none⟩=some (.I 0):=HB6.o.q3;have r4:w6.cell? ⟨g5,4,none⟩=some (.string ⟨#[]⟩):=HB6.o.q4;have r5:w6.cell? ⟨g5,5,none⟩=some (.string ⟨#[]⟩):=HB6.o.q5
  go_upto_region 18 with fail
  obtain ⟨w7,hw7⟩:=eqx ((((((w6.setCell ⟨g5,1,none⟩ (.I (ofS x.s).least)).setCell ⟨g5,2,none⟩ (.I (ofS x.s).most)).setCell ⟨g5,3,none⟩ (.I (ofS x.s).cls)).setCell ⟨g5,4,none⟩ (.string (ofS x.s).b)).setCell ⟨g5,5,none⟩ (.string (ofS x.s).e)));rw [←hw7];have HX7:=Hd (show Ext w0 w7 by rw [hw7];exact (((((HX6.o.set2 Fk _).set2 Fk _).set2 Fk _).set2 Fk _).set2 Fk _));have HB7:=Hd (show Blk w7 g5 39 (Ap r0 none 0 none 0) by
   have hbb:=(((((HB6.o.set 1 (.I (ofS x.s).least)).set 2 (.I (ofS x.s).most)).set 3 (.I (ofS x.s).cls)).set 4 (.string (ofS x.s).b)).set 5 (.string (ofS x.s).e));exact QJ)
  have HAB:=Hd (show AbM w7 (fun b=>T b∧b<w.heap.size) r0 none 0 none 0 from AbM.nil Y87);clear hw7 p0 rf rl p1 r1 r2 r3 r4 r5;exact Q4
 ·obtain ⟨r0,hr0⟩:∃ z:Abs,z = { FY with kinds:=4,nu:=⟨x.dn,x.ds,x.dn,x.ds⟩ }:=⟨_,rfl⟩;obtain ⟨HCE,HRR,HRN⟩:=Hd3 (show AM (Bc x)=AM r0 by rw [hr0];exact CM OX Jv (fun h=>DP) (fun _=>Jv) (fun h=>DP) (fun h=>DP) (fun h=>DP)) hr0 (show AbN 1000000 r0 by rw [hr0];exact ⟨AE,AE,AE,AE,fun d hd=>Y81⟩);clear hr0
  go_upto_region 4 with fail
  refine Qb (fun|8=>[7,8]|i=>[i]) (fun _ _=>False) [(8,[7])] ?_
  iterate 7 refine Qp ?_
  refine Qs (FP (VarX (fun _ _=>False) 7 39 18)) (EuA E3A) ?_ ?_
  ·exact Oo
  refine Chain.step (fun vl γ w'=>match vl with|[p,_]=>VarXI (fun _ _=>False) 39 p #[.I 4,.I 0,.I 0,.I 0,.string ⟨#[]⟩,.string ⟨#[]⟩,.I 0,.I 0,.I 0,.I 0,.I 0,.I 0,.I 0,.I 0,.I 0,.slice none 0 0,.slice none 0 0,.bool false] γ w'∧UpN w3.heap.size p|_=>True) Y41 ?_ ?_ ?_
  ·exact KW
  ·intro vals γ w' ρ hR hN hp hρ hc hf hg;refine ⟨rfl,?_⟩;have e16:ρ (.tmp 16)=_:=(hρ 16).trans (hp 6 Y17);obtain ⟨g,⟨cl⟩,hv,hcs,hb,hk,hst⟩:=E1A (hp 7 Y17) (s:=8) (l:=[(8,[7])]) Y17 hN;have e4:=(hρ 4).trans hv
   match cl,hcs with
   |[x0,x1,x2,x3,x4,x5,x6,x7,x8,x9,x10,x11,x12,x13,x14,x15,x16,x17],_ =>
    have hup:UpN w3.heap.size (vals 7):=⟨g,hv,by
      exact Qi⟩
    have HST:=Hd hst;have HK:=Hd hk;refine Ay 39 rfl e4 e16 hb AA rfl Y11 ?_;intro w4 hb4 ho4;obtain ⟨g1,g2⟩:=HST.o _ #[.I 4,.I 0,.I 0,.I 0,.string ⟨#[]⟩,.string ⟨#[]⟩,.I 0,.I 0,.I 0,.I 0,.I 0,.I 0,.I 0,.I 0,.I 0,.slice none 0 0,.slice none 0 0,.bool false] ho4 hb4 rfl;exact ⟨γ.put 7 none,g1,LM.done Y17 (.inl ⟨g,HK.o⟩),⟨g2,hup⟩⟩
  intro vals γ w4 hR hG;obtain ⟨⟨g5,v7,hb5,-,-⟩,g6,v9',hu6⟩:=hG 8 Y17;have hu5:w3.heap.size≤g5:=by
   exact OO
  refine Qx ?_;simp only [v7];obtain ⟨HX5,HB5,HU5⟩:=Hd3 (show Ext w3 w4 from hR.ext0 (fun _ _ h=>h.elim)) hb5 hu5;clear hR hG hb5 v7 v9' hu5 hu6;have HX4:=Hd (HX3.o.trans HX5.o);have hba:=HB1.o.keep (HX4.o.kept _);have p0:=hba.q0;have p2:=hba.q2;have p3:=hba.q3;clear hba;have rf:=HB5.o.frozen;have rl:=HB5.o.lt;have r6:w4.cell? ⟨g5,6,none⟩=some (.I 0):=HB5.o.q6;have r7:w4.cell? ⟨g5,7,none⟩=some (.I 0):=HB5.o.q7;have r8:w4.cell? ⟨g5,8,none⟩=some (.I 0):=HB5.o.q8;have r9:w4.cell? ⟨g5,9,none⟩=some (.I 0):=HB5.o.q9
  go_upto_region 18 with fail
  obtain ⟨w7,hw7⟩:=eqx (((((w4.setCell ⟨g5,6,none⟩ (.I x.dn)).setCell ⟨g5,7,none⟩ (.I x.ds)).setCell ⟨g5,8,none⟩ (.I x.dn)).setCell ⟨g5,9,none⟩ (.I x.ds)));rw [←hw7];have HX7:=Hd (show Ext w0 w7 by rw [hw7];exact ((((HX4.o.set2 Fk _).set2 Fk _).set2 Fk _).set2 Fk _));have HB7:=Hd (show Blk w7 g5 39 (Ap r0 none 0 none 0) by
   have hbb:=((((HB5.o.set 6 (.I x.dn)).set 7 (.I x.ds)).set 8 (.I x.dn)).set 9 (.I x.ds));exact QJ)
  have HAB:=Hd (show AbM w7 (fun b=>T b∧b<w.heap.size) r0 none 0 none 0 from AbM.nil Y87);clear hw7 p0 rf rl p2 p3 r6 r7 r8 r9;exact Q4
 ·obtain ⟨r0,hr0⟩:∃ z:Abs,z = { FY with kinds:=8,dl:=x.n,dh:=x.n }:=⟨_,rfl⟩;obtain ⟨HCE,HRR,HRN⟩:=Hd3 (show AM (Bc x)=AM r0 by rw [hr0];exact CM OX Jv (fun h=>DP) (fun h=>DP) (fun _=>Jv) (fun h=>DP) (fun h=>DP)) hr0 (show AbN 1000000 r0 by rw [hr0];exact ⟨AE,AE,AE,AE,fun d hd=>Y81⟩);clear hr0
  go_upto_region 4 with fail
  refine Qb (fun|8=>[7,8]|i=>[i]) (fun _ _=>False) [(8,[7])] ?_
  iterate 7 refine Qp ?_
  refine Qs (FP (VarX (fun _ _=>False) 7 39 18)) (EuA E3A) ?_ ?_
  ·exact Oo
  refine Chain.step (fun vl γ w'=>match vl with|[p,_]=>VarXI (fun _ _=>False) 39 p #[.I 8,.I 0,.I 0,.I 0,.string ⟨#[]⟩,.string ⟨#[]⟩,.I 0,.I 0,.I 0,.I 0,.I 0,.I 0,.I 0,.I 0,.I 0,.slice none 0 0,.slice none 0 0,.bool false] γ w'∧UpN w3.heap.size p|_=>True) Y41 ?_ ?_ ?_
  ·exact KW
  ·intro vals γ w' ρ hR hN hp hρ hc hf hg;refine ⟨rfl,?_⟩;have e16:ρ (.tmp 16)=_:=(hρ 16).trans (hp 6 Y17);obtain ⟨g,⟨cl⟩,hv,hcs,hb,hk,hst⟩:=E1A (hp 7 Y17) (s:=8) (l:=[(8,[7])]) Y17 hN;have e4:=(hρ 4).trans hv
   match cl,hcs with
   |[x0,x1,x2,x3,x4,x5,x6,x7,x8,x9,x10,x11,x12,x13,x14,x15,x16,x17],_ =>
    have hup:UpN w3.heap.size (vals 7):=⟨g,hv,by
      exact Qi⟩
    have HST:=Hd hst;have HK:=Hd hk;refine Ay 39 rfl e4 e16 hb AA rfl Y11 ?_;intro w4 hb4 ho4;obtain ⟨g1,g2⟩:=HST.o _ #[.I 8,.I 0,.I 0,.I 0,.string ⟨#[]⟩,.string ⟨#[]⟩,.I 0,.I 0,.I 0,.I 0,.I 0,.I 0,.I 0,.I 0,.I 0,.slice none 0 0,.slice none 0 0,.bool false] ho4 hb4 rfl;exact ⟨γ.put 7 none,g1,LM.done Y17 (.inl ⟨g,HK.o⟩),⟨g2,hup⟩⟩
  intro vals γ w4 hR hG;obtain ⟨⟨g5,v7,hb5,-,-⟩,g6,v9',hu6⟩:=hG 8 Y17;have hu5:w3.heap.size≤g5:=by
   exact OO
  refine Qx ?_;simp only [v7];obtain ⟨HX5,HB5,HU5⟩:=Hd3 (show Ext w3 w4 from hR.ext0 (fun _ _ h=>h.elim)) hb5 hu5;clear hR hG hb5 v7 v9' hu5 hu6;have HX4:=Hd (HX3.o.trans HX5.o);have hba:=HB1.o.keep (HX4.o.kept _);have p0:=hba.q0;have p4:=hba.q4;clear hba;have rf:=HB5.o.frozen;have rl:=HB5.o.lt;have r10:w4.cell? ⟨g5,10,none⟩=some (.I 0):=HB5.o.q10;have r11:w4.cell? ⟨g5,11,none⟩=some (.I 0):=HB5.o.q11
  go_upto_region 18 with fail
  obtain ⟨w7,hw7⟩:=eqx (((w4.setCell ⟨g5,10,none⟩ (.I x.n)).setCell ⟨g5,11,none⟩ (.I x.n)));rw [←hw7];have HX7:=Hd (show Ext w0 w7 by rw [hw7];exact ((HX4.o.set2 Fk _).set2 Fk _));have HB7:=Hd (show Blk w7 g5 39 (Ap r0 none 0 none 0) by
   have hbb:=((HB5.o.set 10 (.I x.n)).set 11 (.I x.n));exact QJ)
  have HAB:=Hd (show AbM w7 (fun b=>T b∧b<w.heap.size) r0 none 0 none 0 from AbM.nil Y87);clear hw7 p0 rf rl p4 r10 r11;exact Q4
 ·have hbn:=ES HR.o hk
  rcases hbn with h4|h4
  ·obtain ⟨r0,hr0⟩:∃ z:Abs,z = { FY with kinds:=16,bo:=1 }:=⟨_,rfl⟩;obtain ⟨HCE,HRR,HRN⟩:=Hd3 (show AM (Bc x)=AM r0 by rw [hr0];exact CM OX Jv (fun h=>DP) (fun h=>DP) (fun h=>DP) (fun _=>by simp [Bc,FY,hk,h4]) (fun h=>DP)) hr0 (show AbN 1000000 r0 by rw [hr0];exact ⟨AE,AE,AE,AE,fun d hd=>Y81⟩);clear hr0;have hw1:IntKind.i64.wrap 1=1:=rfl
   go_upto_region 4 with fail
   refine Qb (fun|8=>[7,8]|i=>[i]) (fun _ _=>False) [(8,[7])] ?_
   iterate 7 refine Qp ?_
   refine Qs (FP (VarX (fun _ _=>False) 7 39 18)) (EuA E3A) ?_ ?_
   ·exact Oo
   refine Chain.step (fun vl γ w'=>match vl with|[p,_]=>VarXI (fun _ _=>False) 39 p #[.I 16,.I 0,.I 0,.I 0,.string ⟨#[]⟩,.string ⟨#[]⟩,.I 0,.I 0,.I 0,.I 0,.I 0,.I 0,.I 0,.I 0,.I 0,.slice none 0 0,.slice none 0 0,.bool false] γ w'∧UpN w3.heap.size p|_=>True) Y41 ?_ ?_ ?_
   ·exact KW
   ·exact BBA
   intro vals γ w4 hR hG;obtain ⟨⟨g5,v7,hb5,-,-⟩,g6,v9',hu6⟩:=hG 8 Y17;have hu5:w3.heap.size≤g5:=by
    exact OO
   refine Qx ?_;simp only [v7];obtain ⟨HX5,HB5,HU5⟩:=Hd3 (show Ext w3 w4 from hR.ext0 (fun _ _ h=>h.elim)) hb5 hu5;clear hR hG hb5 v7 v9' hu5 hu6;have HX4:=Hd (HX3.o.trans HX5.o);have hba:=HB1.o.keep (HX4.o.kept _);have p0:=hba.q0;have p4:=hba.q4;clear hba;have rf:=HB5.o.frozen;have rl:=HB5.o.lt;have r12:w4.cell? ⟨g5,12,none⟩=some (.I 0):=HB5.o.q12
   go_upto_region 18 with fail
   obtain ⟨w7,hw7⟩:=eqx (w4.setCell ⟨g5,12,none⟩ (.I 1));rw [←hw7];have HX7:=Hd (show Ext w0 w7 by rw [hw7];exact (HX4.o.set2 Fk _));have HB7:=Hd (show Blk w7 g5 39 (Ap r0 none 0 none 0) by
    have hbb:=(HB5.o.set 12 (.I 1));exact QJ)
   exact BwA
  ·obtain ⟨r0,hr0⟩:∃ z:Abs,z = { FY with kinds:=16,bo:=2 }:=⟨_,rfl⟩;obtain ⟨HCE,HRR,HRN⟩:=Hd3 (show AM (Bc x)=AM r0 by rw [hr0];exact CM OX Jv (fun h=>DP) (fun h=>DP) (fun h=>DP) (fun _=>by simp [Bc,FY,hk,h4]) (fun h=>DP)) hr0 (show AbN 1000000 r0 by rw [hr0];exact ⟨AE,AE,AE,AE,fun d hd=>Y81⟩);clear hr0;have hw1:IntKind.i64.wrap 2=2:=rfl
   go_upto_region 4 with fail
   refine Qb (fun|8=>[7,8]|i=>[i]) (fun _ _=>False) [(8,[7])] ?_
   iterate 7 refine Qp ?_
   refine Qs (FP (VarX (fun _ _=>False) 7 39 18)) (EuA E3A) ?_ ?_
   ·exact Oo
   refine Chain.step (fun vl γ w'=>match vl with|[p,_]=>VarXI (fun _ _=>False) 39 p #[.I 16,.I 0,.I 0,.I 0,.string ⟨#[]⟩,.string ⟨#[]⟩,.I 0,.I 0,.I 0,.I 0,.I 0,.I 0,.I 0,.I 0,.I 0,.slice none 0 0,.slice none 0 0,.bool false] γ w'∧UpN w3.heap.size p|_=>True) Y41 ?_ ?_ ?_
   ·exact KW
   ·exact BBA
   intro vals γ w4 hR hG;obtain ⟨⟨g5,v7,hb5,-,-⟩,g6,v9',hu6⟩:=hG 8 Y17;have hu5:w3.heap.size≤g5:=by
    exact OO
   refine Qx ?_;simp only [v7];obtain ⟨HX5,HB5,HU5⟩:=Hd3 (show Ext w3 w4 from hR.ext0 (fun _ _ h=>h.elim)) hb5 hu5;clear hR hG hb5 v7 v9' hu5 hu6;have HX4:=Hd (HX3.o.trans HX5.o);have hba:=HB1.o.keep (HX4.o.kept _);have p0:=hba.q0;have p4:=hba.q4;clear hba;have rf:=HB5.o.frozen;have rl:=HB5.o.lt;have r12:w4.cell? ⟨g5,12,none⟩=some (.I 0):=HB5.o.q12
   go_upto_region 18 with fail
   obtain ⟨w7,hw7⟩:=eqx (w4.setCell ⟨g5,12,none⟩ (.I 2));rw [←hw7];have HX7:=Hd (show Ext w0 w7 by rw [hw7];exact (HX4.o.set2 Fk _));have HB7:=Hd (show Blk w7 g5 39 (Ap r0 none 0 none 0) by
    have hbb:=(HB5.o.set 12 (.I 2));exact QJ)
   exact BwA
 ·obtain ⟨r0,hr0⟩:∃ z:Abs,z = { FY with kinds:=32,rl:=x.rows.length,rh:=x.rows.length,cols:=x.cols,deps:=Bp x.cols x.rows }:=⟨_,rfl⟩;have HCE:=Hd (show AM (Bc x)=AM r0 by rw [hr0];exact CM OX Jv (fun h=>DP) (fun h=>DP) (fun h=>DP) (fun h=>DP) (fun _=>Jv));have HRR:=Hd hr0;have hc8:=Fv HR.o hk;have HRN:=Hd (show AbN 1000000 r0 by rw [hr0];exact ⟨AE,AE,by show x.cols.length≤_;omega,Nat.le_trans (F4 _ _ hc8).1 Y17,fun d hd=>Nat.le_trans ((F4 _ _ hc8).2 d hd) Y17⟩);clear hr0
  go_upto_region 4 with fail
  refine Qb (fun|8=>[7,8]|i=>[i]) (fun _ _=>False) [(8,[7])] ?_
  iterate 7 refine Qp ?_
  refine Qs (FP (VarX (fun _ _=>False) 7 39 18)) (EuA E3A) ?_ ?_
  ·exact Oo
  refine Chain.step (fun vl γ w'=>match vl with|[p,_]=>VarXI (fun _ _=>False) 39 p #[.I 32,.I 0,.I 0,.I 0,.string ⟨#[]⟩,.string ⟨#[]⟩,.I 0,.I 0,.I 0,.I 0,.I 0,.I 0,.I 0,.I 0,.I 0,.slice none 0 0,.slice none 0 0,.bool false] γ w'∧UpN w3.heap.size p|_=>True) Y41 ?_ ?_ ?_
  ·exact KW
  ·intro vals γ w' ρ hR hN hp hρ hc hf hg;refine ⟨rfl,?_⟩;have e16:ρ (.tmp 16)=_:=(hρ 16).trans (hp 6 Y17);obtain ⟨g,⟨cl⟩,hv,hcs,hb,hk,hst⟩:=E1A (hp 7 Y17) (s:=8) (l:=[(8,[7])]) Y17 hN;have e4:=(hρ 4).trans hv
   match cl,hcs with
   |[x0,x1,x2,x3,x4,x5,x6,x7,x8,x9,x10,x11,x12,x13,x14,x15,x16,x17],_ =>
    have hup:UpN w3.heap.size (vals 7):=⟨g,hv,by
      exact Qi⟩
    have HST:=Hd hst;have HK:=Hd hk;refine Ay 39 rfl e4 e16 hb AA rfl Y11 ?_;intro w4 hb4 ho4;obtain ⟨g1,g2⟩:=HST.o _ #[.I 32,.I 0,.I 0,.I 0,.string ⟨#[]⟩,.string ⟨#[]⟩,.I 0,.I 0,.I 0,.I 0,.I 0,.I 0,.I 0,.I 0,.I 0,.slice none 0 0,.slice none 0 0,.bool false] ho4 hb4 rfl;exact ⟨γ.put 7 none,g1,LM.done Y17 (.inl ⟨g,HK.o⟩),⟨g2,hup⟩⟩
  intro vals γ w4 hR hG;obtain ⟨⟨g5,v7,hb5,-,-⟩,g6,v9',hu6⟩:=hG 8 Y17;have hu5:w3.heap.size≤g5:=by
   exact OO
  refine Qx ?_;simp only [v7];obtain ⟨HX5,HB5,HU5⟩:=Hd3 (show Ext w3 w4 from hR.ext0 (fun _ _ h=>h.elim)) hb5 hu5;clear hR hG hb5 v7 v9' hu5 hu6;have HX4:=Hd (HX3.o.trans HX5.o);have hba:=HB1.o.keep (HX4.o.kept _);have p0:=hba.q0;have p5:=hba.q5;have p6:=hba.q6;clear hba;have rf:=HB5.o.frozen;have rl:=HB5.o.lt;have r13:w4.cell? ⟨g5,13,none⟩=some (.I 0):=HB5.o.q13;have r14:w4.cell? ⟨g5,14,none⟩=some (.I 0):=HB5.o.q14;have r15:w4.cell? ⟨g5,15,none⟩=some (.slice none 0 0):=HB5.o.q15
  go_upto_region 17 with fail
  obtain ⟨w6,hw6⟩:=eqx ((((w4.setCell ⟨g5,13,none⟩ (.I (x.rows.length:Int))).setCell ⟨g5,14,none⟩ (.I (x.rows.length:Int))).setCell ⟨g5,15,none⟩ (.slice B x.cols.length cb)));rw [←hw6];have HX6:=Hd (show Ext w0 w6 by rw [hw6];exact (((HX4.o.set2 Fk _).set2 Fk _).set2 Fk _));have HB6:=Hd (show Blk w6 g5 39 #[.I 32,.I 0,.I 0,.I 0,.string ⟨#[]⟩,.string ⟨#[]⟩,.I 0,.I 0,.I 0,.I 0,.I 0,.I 0,.I 0,.I (x.rows.length:Int),.I (x.rows.length:Int),.slice B x.cols.length cb,.slice none 0 0,.bool false] by
   have hbb:=(((HB5.o.set 13 (.I (x.rows.length:Int))).set 14 (.I (x.rows.length:Int))).set 15 (.slice B x.cols.length cb));rw [←hw6] at hbb
   simpa using hbb)
  clear hw6 rf rl p0 p5 p6 r13 r14 r15;have HV6:=Hd (HV.o.keep (HX6.o.kept _));have HKY:=Hd (Q6 q x.cols x.rows B C cb cc w6 _ _ HV6.o.strs HV6.o.rows_ Y4 hcp);have hba:=HB1.o.keep (HX6.o.kept _);have p5:=hba.q5;have p6:=hba.q6;clear hba
  go_wp2_with fail
  refine HKY.o.mono ?_;rintro e9 w9 ⟨D9,e9',rfl,hcd,hod,hx9⟩;obtain ⟨HX9,HB9,HV9⟩:=Hd3 (HX6.o.trans hx9) (HB6.o.keep (hx9.kept _)) (HV6.o.keep (hx9.kept _));have hg5l:=HB6.o.lt;have hkl:=F4 x.cols x.rows hc8;have HRD:=Hd (hod.rdeps (T:=fun b=>w6.heap.size≤b) Y4 (fun b hb=>(hod.blk hb).1) (fun b hb=>hb));have HCD:=Hd hcd;clear hx9 hod hcd p5 p6;have rf:=HB9.o.frozen;have rl:=HB9.o.lt;have r16:w9.cell? ⟨g5,16,none⟩=some (.slice none 0 0):=HB9.o.q16
  go_upto_region 18 with fail
  obtain ⟨w7,hw7⟩:=eqx (w9.setCell ⟨g5,16,none⟩ (.slice D9 (Bp x.cols x.rows).length e9'));rw [←hw7];have HX7:=Hd (show Ext w0 w7 by rw [hw7];exact HX9.o.set2 Fk _);have HB7:=Hd (show Blk w7 g5 39 (Ap r0 B cb D9 e9') by
   have hbb:=HB9.o.set 16 (.slice D9 (Bp x.cols x.rows).length e9');exact QJ)
  have hk7:Kept (fun b=>(T b∧b<w.heap.size)∨w6.heap.size≤b) w9 w7:=(by rw [hw7];exact (Kept.refl _ _).set2 (fun h=>by have:=HU5.o;have:=HSU.o;have:=HX0.o.size;rcases h with h|h;(have:=h.2;omega);omega));have HAB:=Hd (show AbM w7 (fun b=>(T b∧b<w.heap.size)∨w6.heap.size≤b) r0 B cb D9 e9' by
   rw [HRR.o];exact ⟨hcp,HCD.o,(HV9.o.strs.keep (hk7.mono fun b _ h=>.inl h)).mono fun b _ h=>.inl h,(HRD.o.keep (hk7.mono fun b _ h=>.inr h)).mono fun b _ h=>.inr h⟩)
  clear hw7 hk7 r16 rf rl;have HCN:=Hd (Cr r0 B D9 cb e9' w7 _ HAB.o.2.2.1 HAB.o.2.2.2 HRN.o);refine wp_region_lit ?_;refine AB rfl 39 _ rfl g5 rfl HB7.o AH AA ?_
  go_wp2_with fail
  refine HCN.o.mono ?_;rintro e8 w8 ⟨A7,c7,D7,e7,rfl,hab8,hx8⟩;have HX8:=Hd (HX7.o.trans hx8);have hb28:=HB2.o.keep (HX8.o.kept _);rename_i K1 hK1 K2 hK2;refine hK2 _ _ ?_;refine AD rfl 39 _ _ rfl g2 (Ap (AM r0) A7 c7 D7 e7) rfl rfl 39 _ hb28 AA rfl Y11 ?_;intro wf hbf hof;refine hK1 _ _ ?_;have HXF:=Hd ((HX0.o.trans HX8.o).only hof Y80);have HBF:=Hd hbf;have hg5l:=HB7.o.lt;have hg2l:=HB2.o.lt;have hkf:=hof.kept (S:=fun b=>(T b∧b<w.heap.size)∨w0.heap.size≤b) (fun b _ hb e=>by have:=HG2.o;rcases hb with h|h;(have:=h.2;omega);omega);have HABF:=Hd ((hab8.mono (T:=fun b=>(T b∧b<w.heap.size)∨w0.heap.size≤b) fun b _ hb=>by
   rcases hb with h|h
   ·rcases h with h|h
    ·exact .inl h
    ·right;have:=HX6.o.size;omega
   ·exact YE).keep hkf)
  exact BUA
end Go.Proofs.YtidacnalcdhckaaGreatDoor
