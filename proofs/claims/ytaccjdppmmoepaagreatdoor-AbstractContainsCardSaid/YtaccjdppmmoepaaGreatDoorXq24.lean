/- Lemmas. No conditions. -/
import Derived.Test.YtaccjdppmmoepaaGreatDoorXq20
import Derived.Test.YtaccjdppmmoepaaGreatDoorXq23
set_option maxRecDepth 100000
set_option maxHeartbeats 4000000
namespace Go.Proofs.YtaccjdppmmoepaaGreatDoor
open Go Go.RowKit Tryz
variable {qP:Prop}{A10 A8 A9:OA}{base c8 i j k:Nat}{cols:List BA}{l:List Dep}{rows:List (List Val)}{w J:World}

def KzP(x y:BA)(v:Value)(J:World):Prop:=∃ g:Nat,v=.slice (some ⟨g,0,none⟩) 2 2/\Blk J g 9 #[.string x,.string y]
theorem F7A:(prog.info? 4).map (λi=>(i.zero,i.size,i.bytes))=some (some (.bool false),1,1):=by kernel_rfl
theorem GbA:TI prog 151 4 1 1:=IKA underlying151 F7A rfl AB
def WB(cols:List BA)(rows:List (List Val))(k:Nat):Bool:=EF cols rows&&(List.range k).all λj=>decide (Bt cols (cols.getD j ⟨#[]⟩)=(j:Int))
theorem C1A(cols:List BA)(rows:List (List Val))(k:Nat):WB cols rows (k+1)=(WB cols rows k&&decide (Bt cols (cols.getD k ⟨#[]⟩)=(k:Int))):=by
 unfold WB;rw [List.range_succ,List.all_append,List.all_cons,List.all_nil,Bool.and_true,Bool.and_assoc]
theorem FFA(cols:List BA)(rows:List (List Val)):WB cols rows cols.length=(EF cols rows&&Lw cols):=by
 unfold WB Lw;congr 1;rw [Bool.eq_iff_iff,List.all_eq_true,decide_eq_true_eq];constructor
 ·intro h;rw [List.nodup_iff_pairwise_ne,List.pairwise_iff_getElem];intro i j hi hj hlt he;have h1:=of_decide_eq_true (h j (List.mem_range.2 hj));rw [BM _ _ _ hj] at h1;obtain ⟨k,hk,U,O,hall⟩:=J5 (l:=cols) (v:=cols[j]) (by rw [h1];omega);have:k=j:=AA;subst this;exact hall i hi hlt he
 ·intro h j hj;have hj:=List.mem_range.1 hj;rw [BM _ _ _ hj,decide_eq_true_eq];exact WI h hj
theorem EiA(hn:cols.Nodup)(hr:EF cols rows=true)(hk:k<cols.length):cols.all (BH cols rows [cols[k]])=Gn rows cols.length k:=by
 have:=Nl hn hr [k] (by intro c hc;rw [List.mem_singleton.1 hc];exact hk);rw [List.map_cons,List.map_nil,BM _ _ _ hk] at this;rw [<-this];rfl
theorem E6A(hn:cols.Nodup)(hr:EF cols rows=true)(hi:i<cols.length)(hj:j<cols.length):cols.all (BH cols rows [cols[i],cols[j]])=F9 rows cols.length [i,j]:=by
 have:=Nl hn hr [i,j] (by intro c hc;simp at hc;rcases hc with rfl|rfl<;>assumption);rw [List.map_cons,List.map_cons,List.map_nil,BM _ _ _ hi,BM _ _ _ hj] at this;rw [<-this]
theorem D8A(hn:cols.Nodup)(hr:EF cols rows=true):cols.all (BH cols rows [])=F9 rows cols.length []:=by
 have:=Nl hn hr [] AC;exact this.symm
theorem C0A(hn:cols.Nodup):Ch cols [] cols.length=Ef cols []:=by
 have:=LH hn [] AC cols.length (Al);rw [List.take_length] at this;exact this
theorem DcA(hn:cols.Nodup)(hk:k<cols.length):Ch cols [(k:Int)] cols.length=Ef cols [cols[k]]:=by
 have:=LH hn [k] (by intro c hc;rw [List.mem_singleton.1 hc];exact hk) cols.length (Al);rw [List.take_length,List.map_cons,List.map_nil,List.map_cons,List.map_nil,BM _ _ _ hk] at this;exact this
theorem DyA(hn:cols.Nodup)(hi:i<cols.length)(hj:j<cols.length):Ch cols [(i:Int),(j:Int)] cols.length=Ef cols [cols[i],cols[j]]:=by
 have:=LH hn [i,j] (by intro c hc;simp at hc;rcases hc with rfl|rfl<;>assumption) cols.length (Al);rw [List.take_length,List.map_cons,List.map_cons,List.map_nil,List.map_cons,List.map_cons,List.map_nil,BM _ _ _ hi,BM _ _ _ hj] at this;exact this
def kL1(cols:List BA)(rows:List (List Val))(k:Nat):List Dep:=(List.range k).flatMap (KQ cols rows)
def kL3(cols:List BA)(rows:List (List Val))(i j:Nat):List Dep:=(List.range' (i+1) (j-(i+1))).flatMap (KO cols rows i)
def kL2(cols:List BA)(rows:List (List Val))(i:Nat):List Dep:=kL1 cols rows cols.length++(List.range i).flatMap λi=>kL3 cols rows i cols.length
theorem EEA(cols:List BA)(rows:List (List Val))(k:Nat):kL1 cols rows (k+1)=kL1 cols rows k++KQ cols rows k:=by
 unfold kL1;rw [List.range_succ,List.flatMap_append];simp
theorem D4A(cols:List BA)(rows:List (List Val))(i:Nat):kL2 cols rows (i+1)=kL2 cols rows i++kL3 cols rows i cols.length:=by
 unfold kL2;rw [List.range_succ,List.flatMap_append,List.append_assoc];simp
theorem DUA(cols:List BA)(rows:List (List Val))(i j:Nat)(h:i+1<=j):kL3 cols rows i (j+1)=kL3 cols rows i j++KO cols rows i j:=by
 unfold kL3;rw [show j+1-(i+1)=(j-(i+1))+1 by omega,List.range'_concat,List.flatMap_append];congr 1;rw [show i+1+1*(j-(i+1))=j by omega];simp
theorem EWA(cols:List BA)(rows:List (List Val))(i:Nat):kL3 cols rows i (i+1)=[]:=by
 unfold kL3;rw [Nat.sub_self];rfl
theorem WP(cols:List BA)(s:List Int):(Ch cols s cols.length).length<=cols.length:=APA cols s cols.length
theorem C6A(cols:List BA)(rows:List (List Val))(k:Nat):(KQ cols rows k).length<=cols.length:=by
 unfold KQ;split
 ·exact WP _ _
 ·exact AN
theorem CwA(cols:List BA)(rows:List (List Val))(i j:Nat):(KO cols rows i j).length<=cols.length:=by
 unfold KO;split
 ·exact WP _ _
 ·exact AN
theorem QD{α β:Type}{l:List α}{f:α->List β}{n:Nat}(h:∀ x∈l,(f x).length<=n):(l.flatMap f).length<=l.length*n:=by
 induction l with
 |nil=>simp
 |cons a m ih =>
  rw [List.flatMap_cons,List.length_append,List.length_cons,Nat.add_mul];have:=h a AC;have:=ih (λx hx=>h x (by simp [hx]));omega
theorem CDA(cols:List BA)(rows:List (List Val))(k:Nat):(kL1 cols rows k).length<=k*cols.length:=by
 have:=QD (l:=List.range k) (f:=KQ cols rows) (n:=cols.length) λx _=>C6A _ _ _;rwa [List.length_range] at this
theorem B9A(cols:List BA)(rows:List (List Val))(i j:Nat)(hj:j<=cols.length):(kL3 cols rows i j).length<=cols.length*cols.length:=by
 have:=QD (l:=List.range' (i+1) (j-(i+1))) (f:=KO cols rows i) (n:=cols.length) λx _=>CwA _ _ _ _;rw [List.length_range'] at this;exact Nat.le_trans this (Nat.mul_le_mul_right _ AA)
theorem FWA(cols:List BA)(rows:List (List Val))(i:Nat)(hi:i<=cols.length)(hn:cols.length<=1000):(kL2 cols rows i).length<=1001000000:=by
 unfold kL2;rw [List.length_append];have h1:=CDA cols rows cols.length;have h2:=QD (l:=List.range i) (f:=λi=>kL3 cols rows i cols.length) (n:=cols.length*cols.length) λx _=>B9A _ _ _ _ (Al);rw [List.length_range] at h2;have h3:cols.length*cols.length<=1000*1000:=Nat.mul_le_mul hn hn;have h4:i*(cols.length*cols.length)<=1000*(1000*1000):=Nat.mul_le_mul AA h3;omega
theorem F5A(cols:List BA)(rows:List (List Val))(h1:(EF cols rows&&Lw cols)=true)(h2:F9 rows cols.length []=false):kL2 cols rows cols.length=Co cols rows:=by
 rw [YI];unfold B7A;rw [Bool.and_eq_true] at h1;rw [h1.1,h1.2,h2];rfl
def YZ(rows:List (List Val))(n k:Nat):List Value:=(List.range k).map λi=>Value.bool (Gn rows n i)
theorem CdA(rows:List (List Val))(n k:Nat):YZ rows n (k+1)=YZ rows n k++[.bool (Gn rows n k)]:=by
 unfold YZ;rw [List.range_succ,List.map_append];rfl
theorem B0A(rows:List (List Val))(n k i:Nat)(h:i<k):(YZ rows n k)[i]?=some (.bool (Gn rows n i)):=by
 unfold YZ;rw [List.getElem?_map,List.getElem?_range h];rfl
theorem SepD.mk(h:OwnDs w base (λb=>(base<=b/\ob A9≠some b)/\b<w.heap.size) A8 c8 l)(hs:∀ b,ob A9=some b->ob A8≠some b)(hg:w.grownBy J (ob A9))(hat:ob A10=ob A9\/ob A10=some w.heap.size):OwnDs J base (λb=>base<=b/\ob A10≠some b) A8 c8 l:=by
 refine (h.keep (Kept.of_grown hg λb hb _ e => ?_)).mono λb _ hb=>⟨hb.1.1,λe => ?_⟩
 ·rcases hb with hb|hb
  ·exact hs b e.symm hb
  ·exact hb.1.2 e.symm
 ·rcases hat with h1|h1
  ·rw [h1] at e;exact hb.1.2 e
  ·rw [h1] at e;injection e with e;have:=hb.2;omega
theorem SepD.sep{X:NP}(h:OwnDs w base X A8 c8 l)(hs:∀ b,ob A9=some b->ob A8≠some b)(hat:ob A10=ob A9\/ob A10=some w.heap.size):∀ b,ob A10=some b->ob A8≠some b:=by
 intro b hb e
 rcases hat with h1|h1
 ·rw [h1] at hb;exact hs b hb e
 ·rw [h1] at hb;injection hb with hb;have:=(h.blk e).2;omega
theorem TR(h:qP:=by
 exact ⟨λe=>by have:=h8 b e;omega,by omega,λe=>by have:=h9 b e;omega⟩):qP:=h
theorem DepR.mk{c5:Nat}{A5:OA}(h:OwnDs J w.heap.size (λb=>w.heap.size<=b) A5 c5 l)(hl:l.length<=4294967296)(h8:∀ b,ob A8=some b->b<w.heap.size)(h9:∀ b,ob A9=some b->b<w.heap.size)(hb:base<=w.heap.size):RDeps J (λb=>ob A8≠some b/\(base<=b/\ob A9≠some b)) A5 l:=by
 refine h.rdeps hl (λb hb' => ?_) (λb (hb':w.heap.size<=b) => ?_)
 ·have:=(h.blk hb').1;exact TR
 ·exact TR
theorem S5(h:qP:=by
 rintro v F wx γ' wy rr ⟨g,h1,h2⟩;exact ⟨g,h1,h2.keep (rr.keptS (S:=λb=>b=g) λb _ e m hm=>hm.elim)⟩):qP:=h
theorem RO(h:qP:=by
 have HL:=Hd (show kL3 cols rows k (j+1)=L3 by rw [HLU.o];simp);go_wp2;go_roundw
 case rel=>exact ⟨j+1,A3,c3,by omega,by omega,by go_num,by rw [HL.o,<-HLE.o],by rw [HL.o,<-HLE.o];exact HO8'.out,HSP3.o,HX9.o,HO9'.out⟩
 case measure=>simp [intOf];omega):qP:=h
theorem DzA(q:Nat)(cols:List BA)(rows:List (List Val))(A B:OA)(ca cb:Nat)(w:World)(S T:NP)(hA:Strs w S A cols)(hB:Rows w T q B rows)(hn:cols.length<=1000)(hca:cols.length<=ca) :
  Cl 79 #[.slice A cols.length ca,.slice B rows.length cb] w (Jt w (λb=>w.heap.size<=b) (Co cols rows)):=by
 obtain ⟨HA,n9,o4,j4,j1⟩:=Hd5 (hA.mono (T:=λb=>b<w.heap.size) λi hi _=>hi) (Rs q cols rows A B ca cb w T hA.2.1 hB) (λx=>Ei A ca cols x w S hA) (show ∀ (fs:List BA) (C:OA) (cc:Nat) (J:World) (U:NP),Ext w J->Strs J U C fs->Cl 150 #[.slice A cols.length ca,.slice B rows.length cb,.slice C fs.length cc] J (Ae J (cols.all (BH cols rows fs))) from λfs C cc J U hw' hC=>FCA q cols rows fs A B C ca cb cc J _ _ _ (hA.keep (hw'.kept _)) (hB.keep (hw'.kept _)) hC) (show ∀ (fs:List BA) (C:OA) (cc:Nat) (J:World) (U:NP),Ext w J->Strs J U C fs->Cl 151 #[.slice A cols.length ca,.slice C fs.length cc] J (Jt J (λb=>J.heap.size<=b) (Ef cols fs)) from λfs C cc J U hw' hC=>DmA cols fs A C ca cc J _ _ (hA.keep (hw'.kept _)) hC AA);obtain ⟨n,hnn⟩:=eqx cols.length;clear hA hB
 go_enter func79,ntmps79
 go_wp2_with fail
 refine n9.o.mono ?_;rintro e1 w1 ⟨rfl,rfl⟩;have m6:EF cols rows=WB cols rows 0:=(by unfold WB;simp);rw [m6];clear m6;go_wp2
 go_loop [6,5] (λi s=>∃ k:Nat,k<=cols.length/\i=.I k/\s=.bool (WB cols rows k)) (λi _=>cols.length-(intOf i).toNat)
 case atStart=>exact ⟨0,AN,rfl,rfl⟩
 case round =>
  obtain ⟨k,hk,rfl,rfl⟩:=hrel;by_cases hlt:k<cols.length
  ·have b8:=C1A cols rows k;rw [BM _ _ _ hlt] at b8;obtain ⟨fk,l9⟩:=eqx (WB cols rows k);rw [<-l9] at b8|-;obtain ⟨b1,o1,rfl,z1,q0⟩:=HA.o.at_ hlt;obtain ⟨x,hx⟩:=eqx (cols[k]);rw [<-hx] at q0 b8;obtain ⟨ix,o0⟩:=eqx (Bt cols x);have m4:=Hd (o4.o x);rw [<-o0] at b8 m4;have HSU:=Hd b8;clear b8 l9 hx o0;cases fk
   ·go_wp2
    go_round
    case rel=>exact ⟨k+1,AA,AE,by rw [HSU.o];rfl⟩
    case measure=>simp [intOf];omega
   ·go_wp2_with fail
    refine m4.o.mono ?_;rintro e2 w2 ⟨rfl,rfl⟩;have HEQ:=Hd (show (ix==(k:Int))=decide (ix=(k:Int)) by rw [Bool.eq_iff_iff];simp);go_wp2
    go_round
    case rel=>exact ⟨k+1,AA,AE,by rw [HSU.o,HEQ.o];rfl⟩
    case measure=>simp [intOf];omega
  ·obtain rfl:k=cols.length:=AA;have b6:=FFA cols rows;obtain ⟨ft,m8⟩:=eqx (WB cols rows cols.length);rw [<-m8] at b6|-;clear m8;cases ft
   ·have HF:=Hd (show Co cols rows=[] by
     unfold Co;rw [if_pos];have h2:=b6.symm
     revert h2
     cases EF cols rows<;>cases Lw cols<;>simp)
    clear b6;go_wp2;go_ret;rw [HF.o];exact ⟨none,0,rfl,Al,OwnDs.nil _ _ _,Ext.refl _⟩
   obtain ⟨HFA,i6,d3⟩:=Hd3 b6.symm (show EF cols rows=true by have:=b6.symm;rw [Bool.and_eq_true] at this;exact this.1) (show cols.Nodup by have:=b6.symm;rw [Bool.and_eq_true] at this;exact of_decide_eq_true this.2);clear b6 n9 o4;have hk0:=D8A d3.o i6.o;obtain ⟨e0,k0⟩:=eqx (F9 rows cols.length []);have HK0:=Hd (j4.o [] none 0 w (λ_=>False) (Ext.refl _) Strs.nil);rw [hk0,<-k0] at HK0;have l5:=Hd k0;clear hk0 k0
   go_wp2_with fail
   refine HK0.o.mono ?_;rintro e2 w2 ⟨rfl,hx2⟩;have HX2:=Hd hx2;clear hx2;cases e0
   case true =>
    have HF:=Hd (show Co cols rows=Ef cols [] by
     rw [YI];unfold B7A;have h1:=HFA.o;rw [Bool.and_eq_true] at h1;rw [h1.1,h1.2,<-l5.o];exact C0A d3.o)
    go_wp2_with fail
    refine (j1.o [] none 0 w2 (λ_=>False) HX2.o Strs.nil).mono ?_;rintro e3 w3 ⟨A3,c3,rfl,hc3,d5,hx3⟩;obtain ⟨HO3,HX3,HC3⟩:=Hd3 d5 (HX2.o.trans hx3) hc3;have hsz:=HX2.o.size;clear hx3 d5 hc3;go_wp2;go_ret;exact ⟨A3,c3,BB,by rw [HF.o];exact HC3.o,by rw [HF.o];exact (HO3.o.lower hsz).mono λb _ hb=>by have hb':w2.heap.size<=b:=hb;omega,HX3.o⟩
   have HF:=Hd (F5A cols rows HFA.o l5.o.symm);clear HK0 l5;go_wp2
   go_loopw [10,9,8] (λi s o wr=>∃ (k:Nat) (A9:OA) (c9:Nat) (A8:OA) (c8:Nat),k<=cols.length/\i=.I k/\s=.slice A9 k c9/\o=.slice A8 (kL1 cols rows k).length c8/\Own wr w.heap.size 4 1 A9 k c9 (YZ rows cols.length k)/\OwnDs wr w.heap.size (λb=>w.heap.size<=b/\ob A9≠some b) A8 c8 (kL1 cols rows k)/\(∀ b,ob A9=some b->ob A8≠some b)/\Ext w wr) (λi _ _ _=>cols.length-(intOf i).toNat)
   case atStart=>exact ⟨0,none,0,none,0,AN,rfl,rfl,rfl,Own.nil _ _ _ _,OwnDs.nil _ _ _,(by intro b hb;cases hb),HX2.o⟩
   case round =>
    obtain ⟨k,A9,c9,A8,c8,hk,rfl,rfl,rfl,b0,o5,i7,hext⟩:=hrel;obtain ⟨n5,HO8,f2,HE⟩:=Hd4 b0 o5 i7 hext;clear b0 o5 i7;by_cases hlt:k<cols.length
    ·have hl1:(kL1 cols rows k).length<=1000000:=Nat.le_trans (CDA _ _ _) (Nat.le_trans (Nat.mul_le_mul AA hn) (by decide:1000*1000<=1000000));have O:=EEA cols rows k;unfold KQ at O;rw [DcA d3.o hlt] at O;have Z:=EiA d3.o i6.o hlt;obtain ⟨sg,m5⟩:=eqx (Gn rows cols.length k);have hss:=CdA rows cols.length k;rw [<-m5] at O Z hss;obtain ⟨b1,o1,rfl,z1,q0⟩:=(HA.o.keep (hext.kept _)).at_ hlt;obtain ⟨x,hx⟩:=eqx (cols[k]);rw [<-hx] at q0 O Z;have d9:=Hd (show Strs wr (λb=>b<w.heap.size) (some ⟨b1,o1+k,none⟩) [x] from by
      have h1:=(HA.o.keep (hext.kept _));refine ⟨?_,AC,λs hs => ?_⟩
      ·have h2:=(Rd.drop h1.1 k).take 1;rw [<-List.map_drop,<-List.map_take,List.drop_eq_getElem_cons hlt,<-hx] at h2
       simpa using h2
      ·rw [List.mem_singleton.1 hs,hx];exact h1.2.2 _ (List.getElem_mem hlt))
     have b7:=Hd (j4.o [x] (some ⟨b1,o1+k,none⟩) (ca-k) wr _ hext d9.o);rw [Z] at b7;have HLU:=Hd O;have n4:=Hd hss;have hkc:k+1<=ca:=AA;have hkn:((k:Int)+1-(k:Int))=1:=AA;clear O Z hss hx m5 hext
     go_wp2_with fail
     refine b7.o.mono ?_;rintro e3 w3 ⟨rfl,hx3⟩;obtain ⟨wb,hwb⟩:=eqx (w3.alloc (.cells #[.bool sg] 4));have d7:Ext wr wb:=(by rw [hwb];exact hx3.trans (exaa _));obtain ⟨HXB,HXR,b3,d4⟩:=Hd4 (HE.o.trans d7) d7 (n5.o.ext d7) ((HO8.o.ext d7).mono (T:=λb=>(w.heap.size<=b/\ob A9≠some b)/\b<wb.heap.size) λb hb h=>⟨h,hb⟩);have hszb:=HXB.o.size;have j9:=Hd hwb;clear hx3 d7 b7;have n7:=Hd j9.o.symm;cases sg
     ·have HL:=Hd (show kL1 cols rows (k+1)=kL1 cols rows k by rw [HLU.o];simp)
      go_wp2_with (at_builtin;go_must (rw [n7.o]);go_must (refine AL rfl (.tmp 58) (.tmp 60) rfl GbA rfl b3.o rfl (by rw [j9.o];exact Blk.rd (Blk.new _ _ _)) rfl AP AA AB AA ?_);intro g8 l6 w10 a9 a8 Y)
      go_roundw
      case rel =>
       refine ⟨k+1,g8,l6,A8,c8,AA,AE,rfl,by rw [HL.o],?_,?_,?_,HXB.o.grown a8 λb hb=>(b3.o.blk hb).1⟩
       ·rw [n4.o];exact a9
       ·rw [HL.o];exact SepD.mk d4.o f2.o a8 Y
       ·exact SepD.sep d4.o f2.o Y
      case measure=>simp [intOf];omega
     ·have HL:=Hd (show kL1 cols rows (k+1)=kL1 cols rows k++Ef cols [x] by rw [HLU.o];simp)
      go_wp2_with (at_builtin;go_must (rw [n7.o]);go_must (refine AL rfl (.tmp 58) (.tmp 60) rfl GbA rfl b3.o rfl (by rw [j9.o];exact Blk.rd (Blk.new _ _ _)) rfl AP AA AB AA ?_);intro g8 l6 w10 a9 a8 Y)
      have f6:Ext w w10:=HXB.o.grown a8 λb hb=>(b3.o.blk hb).1;have HX10:=Hd f6;have n3:Strs w10 (λb=>b<w.heap.size) (some ⟨b1,o1+k,none⟩) [x]:=(d9.o.keep (HXR.o.kept _)).keep (Kept.of_grown a8 λb hb _ e=>by have:=(b3.o.blk e.symm).1;omega);obtain ⟨l8,j3,j5,d6⟩:=Hd4 a9 (SepD.mk d4.o f2.o a8 Y) (SepD.sep d4.o f2.o Y) (j1.o [x] (some ⟨b1,o1+k,none⟩) (ca-k) w10 _ f6 n3);have hdl:=Nc cols [x];obtain ⟨dx,d8⟩:=eqx (Ef cols [x]);rw [<-d8] at d6 HL hdl;clear f6 n3 a9 a8 Y d8;refine d6.o.mono ?_;rintro e5 w5 ⟨A5,c5,rfl,j6,f1,hx5⟩;have HX5:=Hd (HX10.o.trans hx5);have f8:=HX10.o.size;have HR5:=Hd (DepR.mk f1 AA (λb hb=>(j3.o.blk hb).2) (λb hb=>(l8.o.blk hb).2) f8);have g6:=Hd (l8.o.ext hx5);obtain ⟨hs,hhs,hoo,hvv⟩:=(j3.o.ext hx5).add;obtain ⟨HHS,f3,i8⟩:=Hd3 hhs hoo hvv;obtain ⟨-,ys,f0,b5,hyd⟩:=HR5.o;obtain ⟨i4,l4,j0,j7⟩:=Hd4 f0 b5 hyd (Hs b5 hyd);have o8:=HX5.o.size;have HG5:=Hd (show ∀ b,ob g8=some b->b<w5.heap.size from λb hb=>(g6.out.blk hb).2);clear hx5 f1 j6 hhs hoo hvv f0 b5 hyd
      go_wp2_with (at_builtin;go_must (refine AL rfl (.tmp 63) (.tmp 70) rfl tiD rfl f3.o rfl i4.o l4.o j7.o AA AB AA ?_);intro A6 c6 w6 hown6 hg6 hat6)
      go_roundw
      case rel =>
       refine ⟨k+1,g8,l6,A6,c6,AA,AE,rfl,by rw [HL.o,List.length_append],?_,?_,?_,HX5.o.grown hg6 λb hb=>(f3.o.blk hb).1⟩
       ·rw [n4.o];exact Own.keep g6.out (Kept.of_grown hg6 λb hb _ e=>j5.o b hb e.symm)
       ·rw [HL.o];exact OwnDs.app HHS.o i8.o j0.o hown6 hg6 hat6
       ·intro b hb e
        rcases hat6 with h6|h6
        ·rw [h6] at e;exact j5.o b hb e
        ·rw [h6] at e;injection e with e;have:=HG5.o b hb;omega
      case measure=>simp [intOf];omega
    ·obtain rfl:k=cols.length:=AA;obtain ⟨wp,rfl⟩:=eqx wr;have f4:kL2 cols rows 0=kL1 cols rows cols.length:=(by unfold kL2;simp);have o9:=Hd n5.o;clear hext;go_wp2
     go_loopw [12,8] (λi o wr=>∃ (k:Nat) (A7:OA) (c7:Nat),k<=cols.length/\i=.I k/\o=.slice A7 (kL2 cols rows k).length c7/\OwnDs wr w.heap.size (λb=>w.heap.size<=b/\ob A9≠some b) A7 c7 (kL2 cols rows k)/\(∀ b,ob A9=some b->ob A7≠some b)/\Ext w wr/\Own wr w.heap.size 4 1 A9 cols.length c9 (YZ rows cols.length cols.length)) (λi _ _=>cols.length-(intOf i).toNat)
     case atStart=>exact ⟨0,A8,c8,AN,rfl,by rw [f4],by rw [f4];exact HO8.o,f2.o,HE.o,o9.o⟩
     case round =>
      obtain ⟨k,A7,c7,hk2,rfl,rfl,o3,l0,m2,b0⟩:=hrel;obtain ⟨g4,p7,HX7,HO97⟩:=Hd4 o3 l0 m2 b0;clear o3 l0 m2 b0 f4;by_cases hlt:k<cols.length
      ·obtain ⟨wq,rfl⟩:=eqx wr;have hl2:=FWA cols rows k AA hn;have f5:=D4A cols rows k;have i5:=EWA cols rows k;obtain ⟨L2,n8⟩:=eqx (kL2 cols rows k);rw [<-n8] at hl2 f5 g4|-;have k7:=Hd f5;clear n8 f5;go_wp2
       go_loopw [13,8] (λjv o wr=>∃ (j:Nat) (A7:OA) (c7:Nat),k+1<=j/\j<=cols.length/\jv=.I j/\o=.slice A7 (L2++kL3 cols rows k j).length c7/\OwnDs wr w.heap.size (λb=>w.heap.size<=b/\ob A9≠some b) A7 c7 (L2++kL3 cols rows k j)/\(∀ b,ob A9=some b->ob A7≠some b)/\Ext w wr/\Own wr w.heap.size 4 1 A9 cols.length c9 (YZ rows cols.length cols.length)) (λjv _ _=>cols.length-(intOf jv).toNat)
       case atStart=>exact ⟨k+1,A7,c7,Al,AA,AE,by rw [i5,List.append_nil],by rw [i5,List.append_nil];exact g4.o,p7.o,HX7.o,HO97.o⟩
       case round =>
        clear i5;obtain ⟨j,A3,c3,hj1,hj2,rfl,rfl,d5,j8,hx3,b0⟩:=hrel;obtain ⟨HO3,HSP3,HX3,b4⟩:=Hd4 d5 j8 hx3 b0;clear d5 j8 b0;by_cases hlj:j<cols.length
        ·have hl3:=B9A cols rows k j AA;have hl3c:cols.length*cols.length<=1000*1000:=Nat.mul_le_mul hn hn;have O:=DUA cols rows k j hj1;unfold KO at O;rw [DyA d3.o hlt hlj] at O;have Z:=E6A d3.o i6.o hlt hlj;have m9:Yu rows cols.length k j=(!Gn rows cols.length k&&!Gn rows cols.length j&&F9 rows cols.length [k,j]):=rfl;have i9:=B0A rows cols.length cols.length k hlt;have l7:=B0A rows cols.length cols.length j hlj;rw [m9] at O;obtain ⟨sk,i3⟩:=eqx (Gn rows cols.length k);obtain ⟨sj,k6⟩:=eqx (Gn rows cols.length j);obtain ⟨kp,n2⟩:=eqx (F9 rows cols.length [k,j]);obtain ⟨L3,o6⟩:=eqx (kL3 cols rows k j);rw [<-i3] at O i9;rw [<-k6] at O l7;rw [<-n2] at O Z;rw [<-o6] at O hl3 HO3|-;obtain ⟨LL,i2⟩:=eqx (L2++L3);have hll:LL.length<=1002000000:=(by rw [i2,List.length_append];omega);rw [<-i2] at HO3|-;have HLE:=Hd i2;clear i2;obtain ⟨b1,o1,rfl,z1,q1⟩:=(HA.o.keep (hx3.kept _)).at_ hlt;obtain ⟨b1',o1',f9,-,q2⟩:=(HA.o.keep (hx3.kept _)).at_ hlj;injection f9 with f9;injection f9 with o7 he3';subst o7 he3';obtain ⟨x1,hx1⟩:=eqx (cols[k]);obtain ⟨x2,hx2⟩:=eqx (cols[j]);rw [<-hx1] at q1 O Z;rw [<-hx2] at q2 O Z;obtain ⟨Q1,Q2,HZ1,HZ2⟩:=Hd4 q1 q2 (show x1.size<=4294967296 by rw [hx1];exact HA.o.2.2 _ (List.getElem_mem hlt)) (show x2.size<=4294967296 by rw [hx2];exact HA.o.2.2 _ (List.getElem_mem hlj));obtain ⟨b9,rfl⟩:=b4.o.some_ AA;obtain ⟨K1,K2,HLU,HKO⟩:=Hd4 (b4.o.cell_ i9) (b4.o.cell_ l7) O Z;clear O Z m9 i9 l7 i3 k6 n2 o6 hx1 hx2 q1 q2 hx3
         go_upto_region 26 with fail
         refine Qa (λ_ _=>False) [] ?_
         iterate 8 refine Qp ?_
         refine Qs (FP λv F J=>KzP x1 x2 v J) (H1A ?_) ?_ ?_
         ·exact S5
         ·intro V F J L hR hN hp hρ zs zg;refine Qr ?_;exact ⟨F,H4A _ F (exaa _),λ_ _ _ h=>h,_,rfl,Blk.new _ _ _⟩
         refine Qs (FP λv F J=>KzP x1 x2 v J) (H1A ?_) ?_ ?_
         ·exact S5
         ·intro V F J L hR hN hp hρ zs zg;have hg:=hp.o 8 AB;have e94:=hρ.o 94;(conv at e94=>rhs;whnf);have HG:=Hd hg;clear hg;refine Qr ?_;exact ⟨F,LZ.refl _ _ _,λ_ _ _ h=>h,HG.o⟩
         intro V F w9 hR hG;refine Qx ?_;obtain ⟨gs,v9',m7⟩:=hG 9 AB;rw [v9'];have HXN:=Hd (show Ext wr w9 from hR.ext0 (λ_ _ _ h=>h.elim));have HBS:=Hd m7;clear hR hG m7 v9';have j2:Ext w w9:=HX3.o.trans HXN.o;have HX9:=Hd j2;have k1:=HXN.o.cell K1.o;have k2:=HXN.o.cell K2.o;obtain ⟨HO9',HO8',d9⟩:=Hd3 (b4.o.ext HXN.o) (HO3.o.ext HXN.o) (show Strs w9 (λb=>True) (some ⟨gs,0,none⟩) [x1,x2] from ⟨(Blk.rd HBS.o).mono λ_ _ _=>trivial,AC,λs hs=>by simp at hs;rcases hs with rfl|rfl;exact HZ1.o;exact HZ2.o⟩);have b7:=Hd (j4.o [x1,x2] (some ⟨gs,0,none⟩) 2 w9 _ j2 d9.o);rw [HKO.o] at b7;clear j2;cases sk
         case true =>
          exact RO
         cases sj
         case true =>
          exact RO
         go_wp2_with fail
         refine b7.o.mono ?_;rintro e4 w4 ⟨rfl,hx4⟩;obtain ⟨HX4,g0,f7,p8⟩:=Hd4 (HX9.o.trans hx4) (HO9'.out.ext hx4) (HO8'.out.ext hx4) (d9.o.keep (hx4.kept _));clear hx4 k1 k2;cases kp
         ·have HL:=Hd (show kL3 cols rows k (j+1)=L3 by rw [HLU.o];simp);go_wp2;go_roundw
          case rel=>exact ⟨j+1,A3,c3,AA,AA,AE,by rw [HL.o,<-HLE.o],by rw [HL.o,<-HLE.o];exact f7.o,HSP3.o,HX4.o,g0.o⟩
          case measure=>simp [intOf];omega
         ·have HL:=Hd (show kL3 cols rows k (j+1)=L3++Ef cols [x1,x2] by rw [HLU.o];simp);have d6:=Hd (j1.o [x1,x2] (some ⟨gs,0,none⟩) 2 w4 _ HX4.o p8.o);have hdl:=Nc cols [x1,x2];obtain ⟨dx,d8⟩:=eqx (Ef cols [x1,x2]);rw [<-d8] at d6 HL hdl;clear d8
          go_wp2_with fail
          refine d6.o.mono ?_;rintro e5 w5 ⟨A5,c5,rfl,j6,f1,hx5⟩;have HX5:=Hd (HX4.o.trans hx5);have f8:=HX4.o.size;have HR5:=Hd (DepR.mk f1 AA (λb hb=>(f7.o.blk hb).2) (λb hb=>(g0.o.blk hb).2) f8);have l3:=Hd (g0.o.ext hx5);obtain ⟨hs,hhs,hoo,hvv⟩:=(f7.o.ext hx5).add;obtain ⟨HHS,f3,i8⟩:=Hd3 hhs hoo hvv;obtain ⟨-,ys,f0,b5,hyd⟩:=HR5.o;obtain ⟨i4,l4,j0,j7⟩:=Hd4 f0 b5 hyd (Hs b5 hyd);have o8:=HX5.o.size;clear hx5 f1 j6 hhs hoo hvv f0 b5 hyd
          go_wp2_with (at_builtin;go_must (refine AL rfl (.tmp 114) (.tmp 117) rfl tiD rfl f3.o rfl i4.o l4.o j7.o AA AB AA ?_);intro A6 c6 w6 hown6 hg6 hat6)
          go_roundw
          case rel =>
           refine ⟨j+1,A6,c6,AA,AA,AE,by rw [HL.o,<-List.append_assoc,<-HLE.o,List.length_append],?_,?_,HX5.o.grown hg6 λb hb=>(f3.o.blk hb).1,Own.keep l3.o (Kept.of_grown hg6 λb hb _ e=>HSP3.o b hb e.symm)⟩
           ·rw [HL.o,<-List.append_assoc,<-HLE.o];exact OwnDs.app HHS.o i8.o j0.o hown6 hg6 hat6
           ·intro b hb e
            rcases hat6 with h6|h6
            ·rw [h6] at e;exact HSP3.o b hb e
            ·rw [h6] at e;injection e with e;have:=(l3.o.blk hb).2;omega
          case measure=>simp [intOf];omega
        ·obtain rfl:j=cols.length:=AA;go_wp2;go_roundw
         case rel=>exact ⟨k+1,A3,c3,AA,AE,by rw [k7.o],by rw [k7.o];exact HO3.o,HSP3.o,HX3.o,b4.o⟩
         case measure=>simp [intOf];omega
      ·obtain rfl:k=cols.length:=AA;have HC7:=Hd (show (kL2 cols rows cols.length).length<=c7 by obtain ⟨hs,_,h1,_⟩:=g4.o.add;exact h1.cap);go_wp2;go_ret;exact ⟨A7,c7,by rw [<-HF.o];rfl,by rw [<-HF.o];exact HC7.o,by rw [<-HF.o];exact g4.o.mono λb _ hb=>hb.1,HX7.o⟩

def JR:Abs:=⟨0,⟨0,0,0,⟨#[]⟩,⟨#[]⟩⟩,⟨0,0,0,0⟩,0,0,0,0,0,[],[],false⟩
theorem PW(h:qP:=by
 right;have:=HU5.o;have:=HSU.o;omega):qP:=h
theorem Zo(h:qP:=by
 rcases hb with h|h
 ·exact .inl h
 ·exact PW):qP:=h
theorem Z2(h:qP:=by
 right;have:=HX0.o.size;omega):qP:=h
theorem Qj(h:qP:=by
 clear hK1 hK2 hbf hb28 hx8 hab8 hof hkf
 go_wp2_with fail
 refine bodyPost_ret (Bv results26 rfl (Eq HBF.o AS AH)) rfl ?_;rw [HOF.o,HCE.o];refine ⟨A7,c7,D7,e7,rfl,HABF.o.mono λb _ hb => ?_,HXF.o⟩
 rcases hb with hb|hb
 ·exact .inl hb.1
 ·exact Z2):qP:=h
theorem GZ(h:qP:=by
 have HCN:=Hd (EG r0 none none 0 0 w7 _ HAB.o.2.2.1 HAB.o.2.2.2 HRN.o);refine wp_region_lit ?_;refine AJ rfl 36 _ rfl g5 rfl HB7.o AS AH ?_
 go_wp2_with fail
 refine HCN.o.mono ?_;rintro e8 w8 ⟨A7,c7,D7,e7,rfl,hab8,hx8⟩;have HX8:=Hd (HX7.o.trans hx8);have hb28:=HB2.o.keep (HX8.o.kept _);rename_i K1 hK1 K2 hK2;refine hK2 _ _ ?_;refine AM rfl 36 _ _ rfl g2 (Ap (AX r0) A7 c7 D7 e7) rfl rfl 36 _ hb28 AH rfl (by kernel_rfl) ?_;intro wf hbf hof;refine hK1 _ _ ?_;have HXF:=Hd ((HX0.o.trans HX8.o).only hof (by have:=HG2.o;omega));have HBF:=Hd hbf;have hg5l:=HB7.o.lt;have hg2l:=HB2.o.lt;have hkf:=hof.kept (S:=λb=>(T b/\b<w.heap.size)\/w0.heap.size<=b) (λb _ hb e=>by have:=HG2.o;rcases hb with h | h;(have:=h.2;omega);omega);have HABF:=Hd ((hab8.mono (T:=λb=>(T b/\b<w.heap.size)\/w0.heap.size<=b) λb _ hb=>by
  exact Zo).keep hkf)
 exact Qj):qP:=h
theorem EQ(h:qP:=by
 intro V F J L hR hN hp hρ zs zg;have HR:=hR;have HN:=hN;refine Qr ?_;exact ⟨F.put 7 (some J.heap.size),LX.new (by decide) (HN.o.2 (by decide) ⟨8,by decide⟩) _ _,INA,VarX.new HR.o.inb0 rfl (λ_ _ h=>h.elim)⟩):qP:=h
theorem BmA(h:qP:=by
 have h9:=hR.old 7 g hk h;cases h9):qP:=h
theorem FN(h:qP:=by
 rcases Nat.lt_or_ge g w3.heap.size with h|h
 ·exact BmA
 ·exact h):qP:=h
theorem EI(h:qP:=by
 rw [v7] at v9';injection v9' with v9';injection v9' with v9';injection v9' with v9';omega):qP:=h
theorem I3(h:qP:=by
 rw [HRR.o]
 simpa [JR,Ap] using hbb):qP:=h
theorem FU(h:qP:=by
 rw [<-hw7] at hbb;exact I3):qP:=h
theorem RH(h:qP:=by
 have HAB:=Hd (show AbM w7 (λb=>T b/\b<w.heap.size) r0 none 0 none 0 from AbM.nil (by rw [HRR.o];exact ⟨rfl,rfl⟩));clear hw7 p0 rf rl p4 r12;exact GZ):qP:=h
theorem QT(h:qP:=by
 intro V F J L hR hN hp hρ hc hf hg;refine ⟨rfl,?_⟩;have e16:L (.tmp 16)=_:=(hρ 16).trans (hp 6 (by decide));obtain ⟨g,⟨cl⟩,hv,hcs,hb,hk,hst⟩:=VarX.stored (hp 7 (by decide)) (s:=8) (l:=[(8,[7])]) (by decide) hN;have e4:=(hρ 4).trans hv
 match cl,hcs with
 |[x0,x1,x2,x3,x4,x5,x6,x7,x8,x9,x10,x11,x12,x13,x14,x15,x16,x17],_ =>
  have hup:UpN w3.heap.size (V 7):=⟨g,hv,by
    exact FN⟩
  have HST:=Hd hst;have HK:=Hd hk;refine BY 36 rfl e4 e16 hb AH rfl (by kernel_rfl) ?_;intro w4 hb4 ho4;obtain ⟨g1,g2⟩:=HST.o _ #[.I 16,.I 0,.I 0,.I 0,.string ⟨#[]⟩,.string ⟨#[]⟩,.I 0,.I 0,.I 0,.I 0,.I 0,.I 0,.I 0,.I 0,.I 0,.slice none 0 0,.slice none 0 0,.bool false] ho4 hb4 rfl;exact ⟨F.put 7 none,g1,LM.done (by decide) (.inl ⟨g,HK.o⟩),⟨g2,hup⟩⟩):qP:=h
theorem EK(h:qP:=by simp [CO,NO,hk]):qP:=h
theorem I5(h:qP:=by simp [CO,hk]):qP:=h
theorem Af(h:qP:=by exfalso;revert h;simp [CO,NO,hk];try decide):qP:=h
theorem FT(h:qP:=by rw [HRR.o];exact ⟨rfl,rfl⟩):qP:=h
theorem CP(h:qP:=by simp [CO,JR,hk]):qP:=h
theorem BR(h:qP:=by have:=HU5.o;have:=HSU.o;omega):qP:=h
theorem DKA(q:Nat)(x:Val)(B C:OA)(cb cc:Nat)(w:World)(T:NP)(hx:RV w T q x B C)(hcap:x.cols.length<=cb) :
  Cl 26 #[(Vq x B cb C cc)] w (Eh w T (ofA x)):=by
 obtain ⟨w0,hw0⟩:=eqx ((w.alloc (.cells (Vp x B cb C cc) 40)).alloc (.cells Az 36));obtain ⟨g1,hg1⟩:=eqx w.heap.size;obtain ⟨g2,hg2⟩:=eqx (w.heap.size+1);have hx0:Ext w w0:=Bh;have hb1:Blk w0 g1 40 (Vp x B cb C cc):=Ic;have hb2:Blk w0 g2 36 Az:=(by rw [hw0,hg2];exact H6A _ _ _ _);obtain ⟨HW0,HG1,HG2,HX0,HB1,HB2,HV⟩:=Hd7 hw0 hg1 hg2 hx0 hb1 hb2 ((hx.mono (T:=λb=>T b/\b<w.heap.size) λi hi hs=>⟨hs,hi⟩).keep (hx0.kept _));have HRT:=Hd (C8A q x B C cb cc w0 _ HV.o);have hss:=hx.size;have hcp:=hcap;obtain ⟨p0,p1,p2,p3,p4,p5,p6⟩:=hb1.qs7;clear hw0 hg1 hg2 hx0 hb1 hb2 hx hcap
 go_enter func26,ntmps26
 go_upto_region 1 with fail
 rw [<-HW0.o,<-HG2.o,<-HG1.o]
 go_wp2_with fail
 cases hr:BC x
 ·have HF:=Hd (show ofA x=noneA by unfold ofA;rw [hr];rfl);rw [hr] at HRT;clear hr;refine HRT.o.mono ?_;rintro e3 w3 ⟨rfl,hx3⟩;have HX3:=Hd hx3;clear hx3 p0 p1 p2 p3 p4 p5 p6
  go_wp2_with fail
  refine (QV _).mono ?_;rintro e4 w4 ⟨rfl,hx4⟩;have hb24:=HB2.o.keep ((HX3.o.trans hx4).kept _);have HX4:=Hd (HX3.o.trans hx4);rename_i K1 hK1 K2 hK2;refine hK2 _ _ ?_;refine AM rfl 36 _ _ rfl g2 (Ap noneA none 0 none 0) rfl rfl 36 _ hb24 AH rfl AD ?_;intro wf hbf hof;refine hK1 _ _ ?_;have HXF:=Hd ((HX0.o.trans HX4.o).only hof Bq);have HBF:=Hd hbf;clear hbf hof hx4 hb24 hK1 hK2
  go_wp2_with fail
  refine bodyPost_ret (Bv results26 rfl (Eq HBF.o AS AH)) rfl ?_;exact UU
 have HR:=Hd hr;rw [hr] at HRT;have HOF:=Hd (show ofA x=AX (CO x) by unfold ofA;rw [hr];rfl);clear hr;refine HRT.o.mono ?_;rintro e3 w3 ⟨rfl,hx3⟩;obtain ⟨HX3,HSU,P0⟩:=Hd3 hx3 hx3.size (hx3.cell p0);clear hx3 p0 p1 p2 p3 p4 p5 p6
 rcases Dh HR.o with hk|hk|hk|hk|hk|hk
 ·obtain ⟨r0,O⟩:∃ z:Abs,z = { JR with kinds:=1,errs:=true }:=⟨_,rfl⟩;obtain ⟨HCE,HRR,HRN⟩:=Hd3 (show AX (CO x)=AX r0 by rw [O];exact DO EK I5 (λh=>Af) (λh=>Af) (λh=>Af) (λh=>Af) (λh=>Af)) O (show AbN 1000000 r0 by rw [O];exact ⟨AN,AN,AN,AN,λd hd=>BQ⟩);clear O
  go_upto_region 4 with fail
  refine Qb (fun|8=>[7,8]|i=>[i]) (λ_ _=>False) [(8,[7])] ?_
  iterate 7 refine Qp ?_
  refine Qs (FP (VarX (λ_ _=>False) 7 36 18)) (H1A IAA) ?_ ?_
  ·exact EQ
  refine Chain.step (λvl F J=>match vl with|[p,_]=>VarXI (λ_ _=>False) 36 p #[.I 1,.I 0,.I 0,.I 0,.string ⟨#[]⟩,.string ⟨#[]⟩,.I 0,.I 0,.I 0,.I 0,.I 0,.I 0,.I 0,.I 0,.I 0,.slice none 0 0,.slice none 0 0,.bool true] F J/\UpN w3.heap.size p|_=>True) AG ?_ ?_ ?_
  ·exact Cm
  ·intro V F J L hR hN hp hρ hc hf hg;refine ⟨rfl,?_⟩;have e16:L (.tmp 16)=_:=(hρ 16).trans (hp 6 AB);obtain ⟨g,⟨cl⟩,hv,hcs,hb,hk,hst⟩:=VarX.stored (hp 7 AB) (s:=8) (l:=[(8,[7])]) AB hN;have e4:=(hρ 4).trans hv
   match cl,hcs with
   |[x0,x1,x2,x3,x4,x5,x6,x7,x8,x9,x10,x11,x12,x13,x14,x15,x16,x17],_ =>
    have hup:UpN w3.heap.size (V 7):=⟨g,hv,by
      exact FN⟩
    have HST:=Hd hst;have HK:=Hd hk;refine BY 36 rfl e4 e16 hb AH rfl AD ?_;intro w4 hb4 ho4;obtain ⟨g1,g2⟩:=HST.o _ #[.I 1,.I 0,.I 0,.I 0,.string ⟨#[]⟩,.string ⟨#[]⟩,.I 0,.I 0,.I 0,.I 0,.I 0,.I 0,.I 0,.I 0,.I 0,.slice none 0 0,.slice none 0 0,.bool true] ho4 hb4 rfl;exact ⟨F.put 7 none,g1,LM.done AB (.inl ⟨g,HK.o⟩),⟨g2,hup⟩⟩
  intro V F w4 hR hG;obtain ⟨⟨g5,v7,Y,-,-⟩,g6,v9',a8⟩:=hG 8 AB;have Z:w3.heap.size<=g5:=by
   exact EI
  refine Qx ?_;simp only [v7];obtain ⟨HX5,HB5,HU5⟩:=Hd3 (show Ext w3 w4 from hR.ext0 (λ_ _ h=>h.elim)) Y Z;clear hR hG Y v7 v9' Z a8;have HX4:=Hd (HX3.o.trans HX5.o);have U:=HB1.o.keep (HX4.o.kept _);have p0:=U.q0;clear U;have rf:=HB5.o.frozen;have rl:=HB5.o.lt
  go_upto_region 18 with fail
  obtain ⟨w7,hw7⟩:=eqx w4;rw [<-hw7] at HB5|-;have HX7:=Hd (show Ext w0 w7 by rw [hw7];exact HX4.o);have HB7:=Hd (show Blk w7 g5 36 (Ap r0 none 0 none 0) by
   have hbb:=HB5.o;exact I3)
  have HAB:=Hd (show AbM w7 (λb=>T b/\b<w.heap.size) r0 none 0 none 0 from AbM.nil FT);clear hw7 p0 rf rl;exact GZ
 ·obtain ⟨r0,O⟩:∃ z:Abs,z = { JR with kinds:=2,tx:=ofS x.s }:=⟨_,rfl⟩;obtain ⟨HCE,HRR,HRN⟩:=Hd3 (show AX (CO x)=AX r0 by rw [O];exact DO EK CP (λ_=>I5) (λh=>Af) (λh=>Af) (λh=>Af) (λh=>Af)) O (show AbN 1000000 r0 by rw [O];exact ⟨Nat.le_trans (YT x.s).1 AB,Nat.le_trans (YT x.s).2 AB,AN,AN,λd hd=>BQ⟩);clear O
  go_upto_region 4 with fail
  refine Qb (fun|8=>[7,8]|i=>[i]) (λ_ _=>False) [(8,[7])] ?_
  iterate 7 refine Qp ?_
  refine Qs (FP (VarX (λ_ _=>False) 7 36 18)) (H1A IAA) ?_ ?_
  ·exact EQ
  refine Chain.step (λvl F J=>match vl with|[p,_]=>VarXI (λ_ _=>False) 36 p #[.I 2,.I 0,.I 0,.I 0,.string ⟨#[]⟩,.string ⟨#[]⟩,.I 0,.I 0,.I 0,.I 0,.I 0,.I 0,.I 0,.I 0,.I 0,.slice none 0 0,.slice none 0 0,.bool false] F J/\UpN w3.heap.size p|_=>True) AG ?_ ?_ ?_
  ·exact Cm
  ·intro V F J L hR hN hp hρ hc hf hg;refine ⟨rfl,?_⟩;have e16:L (.tmp 16)=_:=(hρ 16).trans (hp 6 AB);obtain ⟨g,⟨cl⟩,hv,hcs,hb,hk,hst⟩:=VarX.stored (hp 7 AB) (s:=8) (l:=[(8,[7])]) AB hN;have e4:=(hρ 4).trans hv
   match cl,hcs with
   |[x0,x1,x2,x3,x4,x5,x6,x7,x8,x9,x10,x11,x12,x13,x14,x15,x16,x17],_ =>
    have hup:UpN w3.heap.size (V 7):=⟨g,hv,by
      exact FN⟩
    have HST:=Hd hst;have HK:=Hd hk;refine BY 36 rfl e4 e16 hb AH rfl AD ?_;intro w4 hb4 ho4;obtain ⟨g1,g2⟩:=HST.o _ #[.I 2,.I 0,.I 0,.I 0,.string ⟨#[]⟩,.string ⟨#[]⟩,.I 0,.I 0,.I 0,.I 0,.I 0,.I 0,.I 0,.I 0,.I 0,.slice none 0 0,.slice none 0 0,.bool false] ho4 hb4 rfl;exact ⟨F.put 7 none,g1,LM.done AB (.inl ⟨g,HK.o⟩),⟨g2,hup⟩⟩
  intro V F w4 hR hG;obtain ⟨⟨g5,v7,Y,-,-⟩,g6,v9',a8⟩:=hG 8 AB;have Z:w3.heap.size<=g5:=by
   exact EI
  refine Qx ?_;simp only [v7];obtain ⟨HX5,HB5,HU5⟩:=Hd3 (show Ext w3 w4 from hR.ext0 (λ_ _ h=>h.elim)) Y Z;clear hR hG Y v7 v9' Z a8;have HX4:=Hd (HX3.o.trans HX5.o);have U:=HB1.o.keep (HX4.o.kept _);obtain ⟨p0,p1⟩:=U.qs2;clear U
  go_wp2_with fail
  refine (DOA x.s hss _).mono ?_;rintro e6 w6 ⟨rfl,hx6⟩;have HX6:=Hd (HX4.o.trans hx6);have a9:=Hd (HB5.o.keep (hx6.kept _));clear hx6;have rf:=a9.o.frozen;have rl:=a9.o.lt;have r1:w6.cell? ⟨g5,1,none⟩=some (.I 0):=a9.o.q1;have r2:w6.cell? ⟨g5,2,none⟩=some (.I 0):=a9.o.q2;have r3:w6.cell? ⟨g5,3,none⟩=some (.I 0):=a9.o.q3;have r4:w6.cell? ⟨g5,4,none⟩=some (.string ⟨#[]⟩):=a9.o.q4;have r5:w6.cell? ⟨g5,5,none⟩=some (.string ⟨#[]⟩):=a9.o.q5
  go_upto_region 18 with fail
  obtain ⟨w7,hw7⟩:=eqx ((((((w6.setCell ⟨g5,1,none⟩ (.I (ofS x.s).least)).setCell ⟨g5,2,none⟩ (.I (ofS x.s).most)).setCell ⟨g5,3,none⟩ (.I (ofS x.s).cls)).setCell ⟨g5,4,none⟩ (.string (ofS x.s).b)).setCell ⟨g5,5,none⟩ (.string (ofS x.s).e)));rw [<-hw7];have HX7:=Hd (show Ext w0 w7 by rw [hw7];exact (((((HX6.o.set2 BR _).set2 BR _).set2 BR _).set2 BR _).set2 BR _));have HB7:=Hd (show Blk w7 g5 36 (Ap r0 none 0 none 0) by
   have hbb:=(((((a9.o.set 1 (.I (ofS x.s).least)).set 2 (.I (ofS x.s).most)).set 3 (.I (ofS x.s).cls)).set 4 (.string (ofS x.s).b)).set 5 (.string (ofS x.s).e));exact FU)
  have HAB:=Hd (show AbM w7 (λb=>T b/\b<w.heap.size) r0 none 0 none 0 from AbM.nil FT);clear hw7 p0 rf rl p1 r1 r2 r3 r4 r5;exact GZ
 ·obtain ⟨r0,O⟩:∃ z:Abs,z = { JR with kinds:=4,nu:=⟨x.dn,x.ds,x.dn,x.ds⟩ }:=⟨_,rfl⟩;obtain ⟨HCE,HRR,HRN⟩:=Hd3 (show AX (CO x)=AX r0 by rw [O];exact DO EK CP (λh=>Af) (λ_=>I5) (λh=>Af) (λh=>Af) (λh=>Af)) O (show AbN 1000000 r0 by rw [O];exact ⟨AN,AN,AN,AN,λd hd=>BQ⟩);clear O
  go_upto_region 4 with fail
  refine Qb (fun|8=>[7,8]|i=>[i]) (λ_ _=>False) [(8,[7])] ?_
  iterate 7 refine Qp ?_
  refine Qs (FP (VarX (λ_ _=>False) 7 36 18)) (H1A IAA) ?_ ?_
  ·exact EQ
  refine Chain.step (λvl F J=>match vl with|[p,_]=>VarXI (λ_ _=>False) 36 p #[.I 4,.I 0,.I 0,.I 0,.string ⟨#[]⟩,.string ⟨#[]⟩,.I 0,.I 0,.I 0,.I 0,.I 0,.I 0,.I 0,.I 0,.I 0,.slice none 0 0,.slice none 0 0,.bool false] F J/\UpN w3.heap.size p|_=>True) AG ?_ ?_ ?_
  ·exact Cm
  ·intro V F J L hR hN hp hρ hc hf hg;refine ⟨rfl,?_⟩;have e16:L (.tmp 16)=_:=(hρ 16).trans (hp 6 AB);obtain ⟨g,⟨cl⟩,hv,hcs,hb,hk,hst⟩:=VarX.stored (hp 7 AB) (s:=8) (l:=[(8,[7])]) AB hN;have e4:=(hρ 4).trans hv
   match cl,hcs with
   |[x0,x1,x2,x3,x4,x5,x6,x7,x8,x9,x10,x11,x12,x13,x14,x15,x16,x17],_ =>
    have hup:UpN w3.heap.size (V 7):=⟨g,hv,by
      exact FN⟩
    have HST:=Hd hst;have HK:=Hd hk;refine BY 36 rfl e4 e16 hb AH rfl AD ?_;intro w4 hb4 ho4;obtain ⟨g1,g2⟩:=HST.o _ #[.I 4,.I 0,.I 0,.I 0,.string ⟨#[]⟩,.string ⟨#[]⟩,.I 0,.I 0,.I 0,.I 0,.I 0,.I 0,.I 0,.I 0,.I 0,.slice none 0 0,.slice none 0 0,.bool false] ho4 hb4 rfl;exact ⟨F.put 7 none,g1,LM.done AB (.inl ⟨g,HK.o⟩),⟨g2,hup⟩⟩
  intro V F w4 hR hG;obtain ⟨⟨g5,v7,Y,-,-⟩,g6,v9',a8⟩:=hG 8 AB;have Z:w3.heap.size<=g5:=by
   exact EI
  refine Qx ?_;simp only [v7];obtain ⟨HX5,HB5,HU5⟩:=Hd3 (show Ext w3 w4 from hR.ext0 (λ_ _ h=>h.elim)) Y Z;clear hR hG Y v7 v9' Z a8;have HX4:=Hd (HX3.o.trans HX5.o);have U:=HB1.o.keep (HX4.o.kept _);have p0:=U.q0;have p2:=U.q2;have p3:=U.q3;clear U;have rf:=HB5.o.frozen;have rl:=HB5.o.lt;have r6:w4.cell? ⟨g5,6,none⟩=some (.I 0):=HB5.o.q6;have r7:w4.cell? ⟨g5,7,none⟩=some (.I 0):=HB5.o.q7;have r8:w4.cell? ⟨g5,8,none⟩=some (.I 0):=HB5.o.q8;have r9:w4.cell? ⟨g5,9,none⟩=some (.I 0):=HB5.o.q9
  go_upto_region 18 with fail
  obtain ⟨w7,hw7⟩:=eqx (((((w4.setCell ⟨g5,6,none⟩ (.I x.dn)).setCell ⟨g5,7,none⟩ (.I x.ds)).setCell ⟨g5,8,none⟩ (.I x.dn)).setCell ⟨g5,9,none⟩ (.I x.ds)));rw [<-hw7];have HX7:=Hd (show Ext w0 w7 by rw [hw7];exact ((((HX4.o.set2 BR _).set2 BR _).set2 BR _).set2 BR _));have HB7:=Hd (show Blk w7 g5 36 (Ap r0 none 0 none 0) by
   have hbb:=((((HB5.o.set 6 (.I x.dn)).set 7 (.I x.ds)).set 8 (.I x.dn)).set 9 (.I x.ds));exact FU)
  have HAB:=Hd (show AbM w7 (λb=>T b/\b<w.heap.size) r0 none 0 none 0 from AbM.nil FT);clear hw7 p0 rf rl p2 p3 r6 r7 r8 r9;exact GZ
 ·obtain ⟨r0,O⟩:∃ z:Abs,z = { JR with kinds:=8,dl:=x.n,dh:=x.n }:=⟨_,rfl⟩;obtain ⟨HCE,HRR,HRN⟩:=Hd3 (show AX (CO x)=AX r0 by rw [O];exact DO EK CP (λh=>Af) (λh=>Af) (λ_=>I5) (λh=>Af) (λh=>Af)) O (show AbN 1000000 r0 by rw [O];exact ⟨AN,AN,AN,AN,λd hd=>BQ⟩);clear O
  go_upto_region 4 with fail
  refine Qb (fun|8=>[7,8]|i=>[i]) (λ_ _=>False) [(8,[7])] ?_
  iterate 7 refine Qp ?_
  refine Qs (FP (VarX (λ_ _=>False) 7 36 18)) (H1A IAA) ?_ ?_
  ·exact EQ
  refine Chain.step (λvl F J=>match vl with|[p,_]=>VarXI (λ_ _=>False) 36 p #[.I 8,.I 0,.I 0,.I 0,.string ⟨#[]⟩,.string ⟨#[]⟩,.I 0,.I 0,.I 0,.I 0,.I 0,.I 0,.I 0,.I 0,.I 0,.slice none 0 0,.slice none 0 0,.bool false] F J/\UpN w3.heap.size p|_=>True) AG ?_ ?_ ?_
  ·exact Cm
  ·intro V F J L hR hN hp hρ hc hf hg;refine ⟨rfl,?_⟩;have e16:L (.tmp 16)=_:=(hρ 16).trans (hp 6 AB);obtain ⟨g,⟨cl⟩,hv,hcs,hb,hk,hst⟩:=VarX.stored (hp 7 AB) (s:=8) (l:=[(8,[7])]) AB hN;have e4:=(hρ 4).trans hv
   match cl,hcs with
   |[x0,x1,x2,x3,x4,x5,x6,x7,x8,x9,x10,x11,x12,x13,x14,x15,x16,x17],_ =>
    have hup:UpN w3.heap.size (V 7):=⟨g,hv,by
      exact FN⟩
    have HST:=Hd hst;have HK:=Hd hk;refine BY 36 rfl e4 e16 hb AH rfl AD ?_;intro w4 hb4 ho4;obtain ⟨g1,g2⟩:=HST.o _ #[.I 8,.I 0,.I 0,.I 0,.string ⟨#[]⟩,.string ⟨#[]⟩,.I 0,.I 0,.I 0,.I 0,.I 0,.I 0,.I 0,.I 0,.I 0,.slice none 0 0,.slice none 0 0,.bool false] ho4 hb4 rfl;exact ⟨F.put 7 none,g1,LM.done AB (.inl ⟨g,HK.o⟩),⟨g2,hup⟩⟩
  intro V F w4 hR hG;obtain ⟨⟨g5,v7,Y,-,-⟩,g6,v9',a8⟩:=hG 8 AB;have Z:w3.heap.size<=g5:=by
   exact EI
  refine Qx ?_;simp only [v7];obtain ⟨HX5,HB5,HU5⟩:=Hd3 (show Ext w3 w4 from hR.ext0 (λ_ _ h=>h.elim)) Y Z;clear hR hG Y v7 v9' Z a8;have HX4:=Hd (HX3.o.trans HX5.o);have U:=HB1.o.keep (HX4.o.kept _);have p0:=U.q0;have p4:=U.q4;clear U;have rf:=HB5.o.frozen;have rl:=HB5.o.lt;have r10:w4.cell? ⟨g5,10,none⟩=some (.I 0):=HB5.o.q10;have r11:w4.cell? ⟨g5,11,none⟩=some (.I 0):=HB5.o.q11
  go_upto_region 18 with fail
  obtain ⟨w7,hw7⟩:=eqx (((w4.setCell ⟨g5,10,none⟩ (.I x.n)).setCell ⟨g5,11,none⟩ (.I x.n)));rw [<-hw7];have HX7:=Hd (show Ext w0 w7 by rw [hw7];exact ((HX4.o.set2 BR _).set2 BR _));have HB7:=Hd (show Blk w7 g5 36 (Ap r0 none 0 none 0) by
   have hbb:=((HB5.o.set 10 (.I x.n)).set 11 (.I x.n));exact FU)
  have HAB:=Hd (show AbM w7 (λb=>T b/\b<w.heap.size) r0 none 0 none 0 from AbM.nil FT);clear hw7 p0 rf rl p4 r10 r11;exact GZ
 ·have hbn:=Gx HR.o hk
  rcases hbn with h4|h4
  ·obtain ⟨r0,O⟩:∃ z:Abs,z = { JR with kinds:=16,bo:=1 }:=⟨_,rfl⟩;obtain ⟨HCE,HRR,HRN⟩:=Hd3 (show AX (CO x)=AX r0 by rw [O];exact DO EK CP (λh=>Af) (λh=>Af) (λh=>Af) (λ_=>by simp [CO,hk,h4]) (λh=>Af)) O (show AbN 1000000 r0 by rw [O];exact ⟨AN,AN,AN,AN,λd hd=>BQ⟩);clear O;have hw1:IntKind.i64.wrap 1=1:=rfl
   go_upto_region 4 with fail
   refine Qb (fun|8=>[7,8]|i=>[i]) (λ_ _=>False) [(8,[7])] ?_
   iterate 7 refine Qp ?_
   refine Qs (FP (VarX (λ_ _=>False) 7 36 18)) (H1A IAA) ?_ ?_
   ·exact EQ
   refine Chain.step (λvl F J=>match vl with|[p,_]=>VarXI (λ_ _=>False) 36 p #[.I 16,.I 0,.I 0,.I 0,.string ⟨#[]⟩,.string ⟨#[]⟩,.I 0,.I 0,.I 0,.I 0,.I 0,.I 0,.I 0,.I 0,.I 0,.slice none 0 0,.slice none 0 0,.bool false] F J/\UpN w3.heap.size p|_=>True) AG ?_ ?_ ?_
   ·exact Cm
   ·exact QT
   intro V F w4 hR hG;obtain ⟨⟨g5,v7,Y,-,-⟩,g6,v9',a8⟩:=hG 8 AB;have Z:w3.heap.size<=g5:=by
    exact EI
   refine Qx ?_;simp only [v7];obtain ⟨HX5,HB5,HU5⟩:=Hd3 (show Ext w3 w4 from hR.ext0 (λ_ _ h=>h.elim)) Y Z;clear hR hG Y v7 v9' Z a8;have HX4:=Hd (HX3.o.trans HX5.o);have U:=HB1.o.keep (HX4.o.kept _);have p0:=U.q0;have p4:=U.q4;clear U;have rf:=HB5.o.frozen;have rl:=HB5.o.lt;have r12:w4.cell? ⟨g5,12,none⟩=some (.I 0):=HB5.o.q12
   go_upto_region 18 with fail
   obtain ⟨w7,hw7⟩:=eqx (w4.setCell ⟨g5,12,none⟩ (.I 1));rw [<-hw7];have HX7:=Hd (show Ext w0 w7 by rw [hw7];exact (HX4.o.set2 BR _));have HB7:=Hd (show Blk w7 g5 36 (Ap r0 none 0 none 0) by
    have hbb:=(HB5.o.set 12 (.I 1));exact FU)
   exact RH
  ·obtain ⟨r0,O⟩:∃ z:Abs,z = { JR with kinds:=16,bo:=2 }:=⟨_,rfl⟩;obtain ⟨HCE,HRR,HRN⟩:=Hd3 (show AX (CO x)=AX r0 by rw [O];exact DO EK CP (λh=>Af) (λh=>Af) (λh=>Af) (λ_=>by simp [CO,hk,h4]) (λh=>Af)) O (show AbN 1000000 r0 by rw [O];exact ⟨AN,AN,AN,AN,λd hd=>BQ⟩);clear O;have hw1:IntKind.i64.wrap 2=2:=rfl
   go_upto_region 4 with fail
   refine Qb (fun|8=>[7,8]|i=>[i]) (λ_ _=>False) [(8,[7])] ?_
   iterate 7 refine Qp ?_
   refine Qs (FP (VarX (λ_ _=>False) 7 36 18)) (H1A IAA) ?_ ?_
   ·exact EQ
   refine Chain.step (λvl F J=>match vl with|[p,_]=>VarXI (λ_ _=>False) 36 p #[.I 16,.I 0,.I 0,.I 0,.string ⟨#[]⟩,.string ⟨#[]⟩,.I 0,.I 0,.I 0,.I 0,.I 0,.I 0,.I 0,.I 0,.I 0,.slice none 0 0,.slice none 0 0,.bool false] F J/\UpN w3.heap.size p|_=>True) AG ?_ ?_ ?_
   ·exact Cm
   ·exact QT
   intro V F w4 hR hG;obtain ⟨⟨g5,v7,Y,-,-⟩,g6,v9',a8⟩:=hG 8 AB;have Z:w3.heap.size<=g5:=by
    exact EI
   refine Qx ?_;simp only [v7];obtain ⟨HX5,HB5,HU5⟩:=Hd3 (show Ext w3 w4 from hR.ext0 (λ_ _ h=>h.elim)) Y Z;clear hR hG Y v7 v9' Z a8;have HX4:=Hd (HX3.o.trans HX5.o);have U:=HB1.o.keep (HX4.o.kept _);have p0:=U.q0;have p4:=U.q4;clear U;have rf:=HB5.o.frozen;have rl:=HB5.o.lt;have r12:w4.cell? ⟨g5,12,none⟩=some (.I 0):=HB5.o.q12
   go_upto_region 18 with fail
   obtain ⟨w7,hw7⟩:=eqx (w4.setCell ⟨g5,12,none⟩ (.I 2));rw [<-hw7];have HX7:=Hd (show Ext w0 w7 by rw [hw7];exact (HX4.o.set2 BR _));have HB7:=Hd (show Blk w7 g5 36 (Ap r0 none 0 none 0) by
    have hbb:=(HB5.o.set 12 (.I 2));exact FU)
   exact RH
 ·obtain ⟨r0,O⟩:∃ z:Abs,z = { JR with kinds:=32,rl:=x.rows.length,rh:=x.rows.length,cols:=x.cols,deps:=Co x.cols x.rows }:=⟨_,rfl⟩;have HCE:=Hd (show AX (CO x)=AX r0 by rw [O];exact DO EK CP (λh=>Af) (λh=>Af) (λh=>Af) (λh=>Af) (λ_=>I5));have HRR:=Hd O;have hc8:=Jm HR.o hk;have HRN:=Hd (show AbN 1000000 r0 by rw [O];exact ⟨AN,AN,by show x.cols.length<=_;omega,Nat.le_trans (Ju _ _ hc8).1 AB,λd hd=>Nat.le_trans ((Ju _ _ hc8).2 d hd) AB⟩);clear O
  go_upto_region 4 with fail
  refine Qb (fun|8=>[7,8]|i=>[i]) (λ_ _=>False) [(8,[7])] ?_
  iterate 7 refine Qp ?_
  refine Qs (FP (VarX (λ_ _=>False) 7 36 18)) (H1A IAA) ?_ ?_
  ·exact EQ
  refine Chain.step (λvl F J=>match vl with|[p,_]=>VarXI (λ_ _=>False) 36 p #[.I 32,.I 0,.I 0,.I 0,.string ⟨#[]⟩,.string ⟨#[]⟩,.I 0,.I 0,.I 0,.I 0,.I 0,.I 0,.I 0,.I 0,.I 0,.slice none 0 0,.slice none 0 0,.bool false] F J/\UpN w3.heap.size p|_=>True) AG ?_ ?_ ?_
  ·exact Cm
  ·intro V F J L hR hN hp hρ hc hf hg;refine ⟨rfl,?_⟩;have e16:L (.tmp 16)=_:=(hρ 16).trans (hp 6 AB);obtain ⟨g,⟨cl⟩,hv,hcs,hb,hk,hst⟩:=VarX.stored (hp 7 AB) (s:=8) (l:=[(8,[7])]) AB hN;have e4:=(hρ 4).trans hv
   match cl,hcs with
   |[x0,x1,x2,x3,x4,x5,x6,x7,x8,x9,x10,x11,x12,x13,x14,x15,x16,x17],_ =>
    have hup:UpN w3.heap.size (V 7):=⟨g,hv,by
      exact FN⟩
    have HST:=Hd hst;have HK:=Hd hk;refine BY 36 rfl e4 e16 hb AH rfl AD ?_;intro w4 hb4 ho4;obtain ⟨g1,g2⟩:=HST.o _ #[.I 32,.I 0,.I 0,.I 0,.string ⟨#[]⟩,.string ⟨#[]⟩,.I 0,.I 0,.I 0,.I 0,.I 0,.I 0,.I 0,.I 0,.I 0,.slice none 0 0,.slice none 0 0,.bool false] ho4 hb4 rfl;exact ⟨F.put 7 none,g1,LM.done AB (.inl ⟨g,HK.o⟩),⟨g2,hup⟩⟩
  intro V F w4 hR hG;obtain ⟨⟨g5,v7,Y,-,-⟩,g6,v9',a8⟩:=hG 8 AB;have Z:w3.heap.size<=g5:=by
   exact EI
  refine Qx ?_;simp only [v7];obtain ⟨HX5,HB5,HU5⟩:=Hd3 (show Ext w3 w4 from hR.ext0 (λ_ _ h=>h.elim)) Y Z;clear hR hG Y v7 v9' Z a8;have HX4:=Hd (HX3.o.trans HX5.o);have U:=HB1.o.keep (HX4.o.kept _);have p0:=U.q0;have p5:=U.q5;have p6:=U.q6;clear U;have rf:=HB5.o.frozen;have rl:=HB5.o.lt;have r13:w4.cell? ⟨g5,13,none⟩=some (.I 0):=HB5.o.q13;have r14:w4.cell? ⟨g5,14,none⟩=some (.I 0):=HB5.o.q14;have r15:w4.cell? ⟨g5,15,none⟩=some (.slice none 0 0):=HB5.o.q15
  go_upto_region 17 with fail
  obtain ⟨w6,hw6⟩:=eqx ((((w4.setCell ⟨g5,13,none⟩ (.I (x.rows.length:Int))).setCell ⟨g5,14,none⟩ (.I (x.rows.length:Int))).setCell ⟨g5,15,none⟩ (.slice B x.cols.length cb)));rw [<-hw6];have HX6:=Hd (show Ext w0 w6 by rw [hw6];exact (((HX4.o.set2 BR _).set2 BR _).set2 BR _));have a9:=Hd (show Blk w6 g5 36 #[.I 32,.I 0,.I 0,.I 0,.string ⟨#[]⟩,.string ⟨#[]⟩,.I 0,.I 0,.I 0,.I 0,.I 0,.I 0,.I 0,.I (x.rows.length:Int),.I (x.rows.length:Int),.slice B x.cols.length cb,.slice none 0 0,.bool false] by
   have hbb:=(((HB5.o.set 13 (.I (x.rows.length:Int))).set 14 (.I (x.rows.length:Int))).set 15 (.slice B x.cols.length cb));rw [<-hw6] at hbb
   simpa [Ap] using hbb)
  clear hw6 rf rl p0 p5 p6 r13 r14 r15;have HV6:=Hd (HV.o.keep (HX6.o.kept _));have HKY:=Hd (DzA q x.cols x.rows B C cb cc w6 _ _ HV6.o.strs HV6.o.rows_ AA hcp);have U:=HB1.o.keep (HX6.o.kept _);have p5:=U.q5;have p6:=U.q6;clear U
  go_wp2_with fail
  refine HKY.o.mono ?_;rintro e9 w9 ⟨D9,b0,rfl,hcd,hod,b4⟩;obtain ⟨HX9,b3,HV9⟩:=Hd3 (HX6.o.trans b4) (a9.o.keep (b4.kept _)) (HV6.o.keep (b4.kept _));have hg5l:=a9.o.lt;have hkl:=Ju x.cols x.rows hc8;have HRD:=Hd (hod.rdeps (T:=λb=>w6.heap.size<=b) AA (λb hb=>(hod.blk hb).1) (λb hb=>hb));have HCD:=Hd hcd;clear b4 hod hcd p5 p6;have rf:=b3.o.frozen;have rl:=b3.o.lt;have r16:w9.cell? ⟨g5,16,none⟩=some (.slice none 0 0):=b3.o.q16
  go_upto_region 18 with fail
  obtain ⟨w7,hw7⟩:=eqx (w9.setCell ⟨g5,16,none⟩ (.slice D9 (Co x.cols x.rows).length b0));rw [<-hw7];have HX7:=Hd (show Ext w0 w7 by rw [hw7];exact HX9.o.set2 BR _);have HB7:=Hd (show Blk w7 g5 36 (Ap r0 B cb D9 b0) by
   have hbb:=b3.o.set 16 (.slice D9 (Co x.cols x.rows).length b0);exact FU)
  have hk7:Kept (λb=>(T b/\b<w.heap.size)\/w6.heap.size<=b) w9 w7:=(by rw [hw7];exact (Kept.refl _ _).set2 (λh=>by have:=HU5.o;have:=HSU.o;have:=HX0.o.size;rcases h with h | h;(have:=h.2;omega);omega));have HAB:=Hd (show AbM w7 (λb=>(T b/\b<w.heap.size)\/w6.heap.size<=b) r0 B cb D9 b0 by
   rw [HRR.o];exact ⟨hcp,HCD.o,(HV9.o.strs.keep (hk7.mono λb _ h=>.inl h)).mono λb _ h=>.inl h,(HRD.o.keep (hk7.mono λb _ h=>.inr h)).mono λb _ h=>.inr h⟩)
  clear hw7 hk7 r16 rf rl;have HCN:=Hd (EG r0 B D9 cb b0 w7 _ HAB.o.2.2.1 HAB.o.2.2.2 HRN.o);refine wp_region_lit ?_;refine AJ rfl 36 _ rfl g5 rfl HB7.o AS AH ?_
  go_wp2_with fail
  refine HCN.o.mono ?_;rintro e8 w8 ⟨A7,c7,D7,e7,rfl,hab8,hx8⟩;have HX8:=Hd (HX7.o.trans hx8);have hb28:=HB2.o.keep (HX8.o.kept _);rename_i K1 hK1 K2 hK2;refine hK2 _ _ ?_;refine AM rfl 36 _ _ rfl g2 (Ap (AX r0) A7 c7 D7 e7) rfl rfl 36 _ hb28 AH rfl AD ?_;intro wf hbf hof;refine hK1 _ _ ?_;have HXF:=Hd ((HX0.o.trans HX8.o).only hof Bq);have HBF:=Hd hbf;have hg5l:=HB7.o.lt;have hg2l:=HB2.o.lt;have hkf:=hof.kept (S:=λb=>(T b/\b<w.heap.size)\/w0.heap.size<=b) (λb _ hb e=>by have:=HG2.o;rcases hb with h | h;(have:=h.2;omega);omega);have HABF:=Hd ((hab8.mono (T:=λb=>(T b/\b<w.heap.size)\/w0.heap.size<=b) λb _ hb=>by
   rcases hb with h|h
   ·rcases h with h|h
    ·exact .inl h
    ·right;have:=HX6.o.size;omega
   ·exact PW).keep hkf)
  exact Qj
