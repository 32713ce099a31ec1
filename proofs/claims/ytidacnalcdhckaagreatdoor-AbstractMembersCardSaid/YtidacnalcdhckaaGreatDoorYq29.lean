/- Lemmas. No conditions. -/
import Derived.Test.YtidacnalcdhckaaGreatDoorYq28
set_option maxRecDepth 100000
set_option maxHeartbeats 4000000
namespace Go.Proofs.YtidacnalcdhckaaGreatDoor
open Go Go.RowKit Tryz
variable {qP:Prop}{A10 A8 A9:OA}{base c8 i j k:Nat}{cols:List BA}{l:List Dep}{rows:List (List Val)}{w w':World}

theorem FCA(q:Nat)(cols:List BA)(rows:List (List Val))(fs:List BA)(A B C:OA)(ca cb cc:Nat)(w:World)(S T U:NP)(hA:Strs w S A cols)(hB:Rows w T q B rows)(hC:Strs w U C fs) :
  Cl 112 #[.slice A cols.length ca,.slice B rows.length cb,.slice C fs.length cc] w (Ae w (cols.all (BH cols rows fs))):=by
 have Z:=hA.2.1;have HA:=Hd hA;have HH:=Hd (show ∀ w' (x:BA),Ext w w'->Cl 68 #[.slice A cols.length ca,.slice B rows.length cb,.agg #[.slice C fs.length cc,.string x]] w' (Ae w' (BH cols rows fs x)) from λw' x hw'=>CyA q cols rows fs x A B C ca cb cc w' _ _ _ (hA.keep (hw'.kept _)) (hB.keep (hw'.kept _)) (hC.keep (hw'.kept _)));clear hA hB hC
 go_enter func112,ntmps112
 go_wp2
 go_loopw [7] (λi wr=>∃ k:Nat,k<=cols.length/\i=.I k/\Ext w wr/\∀ m (h:m<cols.length),m<k->BH cols rows fs cols[m]=true) (λi _=>cols.length-(intOf i).toNat)
 case atStart=>exact ⟨0,AN,rfl,Ext.refl _,AK⟩
 case round =>
  obtain ⟨k,hk,rfl,hext,hall⟩:=hrel;have HE:=Hd hext;have HAL:=Hd hall;clear hall;by_cases hlt:k<cols.length
  ·obtain ⟨b1,o1,rfl,z1,q0⟩:=(HA.o.keep (hext.kept _)).at_ hlt;obtain ⟨x,hx⟩:=eqx (cols[k]);rw [<-hx] at q0;obtain ⟨hb,O⟩:=eqx (BH cols rows fs x);have Y:=Hd (HH.o wr x hext);rw [<-O] at Y;have HX:=Hd hx;have HB:=Hd O;clear hext hx O
   go_wp2_with fail
   refine Y.o.mono ?_;rintro e1 w1 ⟨rfl,hx1⟩;have HX1:=Hd (HE.o.trans hx1);clear hx1;cases hb
   ·go_wp2;go_ret;refine ⟨?_,HX1.o⟩;rw [CX cols (BH cols rows fs) k hlt (by rw [<-HX.o,<-HB.o])];rfl
   ·go_wp2;go_roundw
    case rel =>
     refine ⟨k+1,AA,AE,HX1.o,λm h hm => ?_⟩;by_cases hmk:m=k
     ·subst hmk;rw [<-HX.o,<-HB.o]
     ·exact HAL.o m h AA
    case measure=>simp [intOf];omega
  ·go_wp2;go_ret;refine ⟨?_,HE.o⟩;rw [CH cols (BH cols rows fs) λm h=>HAL.o m h AA];rfl
def HpA(ws:World)(fs:List BA)(γ:Gz)(w':World)(v:Value):Prop:=∃ (A4:OA) (c4:Nat),v=.slice A4 fs.length c4/\γ 1003=true/\OwnSs w' ws.heap.size A4 c4 fs
def HaA(ws:World)(fs:List BA)(xt:BA)(γ:Gz)(w':World)(v:Value):Prop:=∃ (A4:OA) (c4:Nat),v=.agg #[.slice A4 fs.length c4,.string xt]/\γ 1003=true/\OwnSs w' ws.heap.size A4 c4 fs
def HbA(ws:World)(fs:List BA)(xt:BA)(γ:Gz)(w':World)(v:Value):Prop:=∃ (g:Nat) (A4:OA) (c4:Nat),v=.slice (some ⟨g,0,none⟩) 1 1/\γ 1003=true/\ws.heap.size<=g/\Blk w' g 69 #[.slice A4 fs.length c4,.string xt]/\OwnSs w' ws.heap.size A4 c4 fs/\ob A4≠some g
def FsA(base:Nat)(l:List Dep)(no:Nat)(γ:Gz)(w':World)(v:Value):Prop:=∃ (A5:OA) (c5:Nat),v=.slice A5 (no+1) c5/\γ 1003=true/\γ 1010=true/\OwnDs w' base (λb=>base<=b) A5 c5 l
def Ef(cols fs:List BA):List Dep:=(cols.filter λx=>decide (Bt fs x<0)).map λx=>⟨fs,x⟩
theorem Nc(cols fs:List BA):(Ef cols fs).length<=cols.length:=by
 unfold Ef;rw [List.length_map];exact List.length_filter_le _ _
theorem BhA(cols fs:List BA)(k:Nat)(hk:k<cols.length):Ef (cols.take (k+1)) fs=if Bt fs cols[k]<0 then Ef (cols.take k) fs++[⟨fs,cols[k]⟩] else Ef (cols.take k) fs:=by
 unfold Ef;rw [List.take_succ_eq_append_getElem hk,List.filter_append,List.map_append];by_cases h:Bt fs cols[k]<0
 ·rw [if_pos h,List.filter_cons,if_pos (decide_eq_true h)];rfl
 ·rw [if_neg h,List.filter_cons,if_neg AI];simp
theorem DmA(cols fs:List BA)(A C:OA)(ca cc:Nat)(w:World)(S U:NP)(hA:Strs w S A cols)(hC:Strs w U C fs)(hl:cols.length<=1000000) :
  Cl 113 #[.slice A cols.length ca,.slice C fs.length cc] w (Jt w (λb=>w.heap.size<=b) (Ef cols fs)):=by
 have H:=Hd (hA.mono (T:=λb=>b<w.heap.size) λi hi _=>hi);have HC:=Hd (hC.mono (T:=λb=>b<w.heap.size) λi hi _=>hi);clear hA hC
 go_enter func113,ntmps113
 go_wp2
 go_loopw [6,5] (λi v wr=>∃ (k:Nat) (A':OA) (c':Nat),k<=cols.length/\i=.I k/\v=.slice A' (Ef (cols.take k) fs).length c'/\Ext w wr/\OwnDs wr w.heap.size (λb=>w.heap.size<=b) A' c' (Ef (cols.take k) fs)) (λi _ _=>cols.length-(intOf i).toNat)
 case atStart=>exact ⟨0,none,0,AN,rfl,rfl,Ext.refl _,OwnDs.nil _ _ _⟩
 case round =>
  obtain ⟨k,A',c',hk,rfl,rfl,hext,hown⟩:=hrel;have HE:=Hd hext;have b0:=Hd hown;by_cases hlt:k<cols.length
  ·obtain ⟨b1,o1,rfl,z1,q0⟩:=(H.o.keep (hext.kept _)).at_ hlt;have hb1:b1<w.heap.size:=by
    rcases H.o.1 with h0|⟨b,o,hA,hS,_⟩
    ·rw [List.map_eq_nil_iff] at h0;subst h0;simp at hlt
    ·injection hA with hA;injection hA with hA;rw [hA];exact hS
   obtain ⟨xt,Z⟩:=eqx (cols[k]);have O:=BhA cols fs k hlt;have hln:=Nc (cols.take k) fs;rw [List.length_take] at hln;rw [<-Z] at q0 O;have f2:=Hd (show xt.size<=4294967296 by rw [Z];exact H.o.2.2 _ (List.getElem_mem hlt));obtain ⟨ds,b3⟩:=eqx (Ef (cols.take k) fs);rw [<-b3] at O hln hown|-;have Y:=Hd O;have HO:=Hd hown;have f0:ds.length<=k:=AA;obtain ⟨ws,rfl⟩:=eqx wr;have b6:=Hd (Ei C cc fs xt ws _ (HC.o.keep (hext.kept _)));obtain ⟨ix,b5⟩:=eqx (Bt fs xt);rw [<-b5] at b6 Y;have a8:=hext.size;obtain ⟨HAL,HXS,HWS,a9,HFB,Z0,Q0,d8⟩:=Hd8 (show ∀ b,ob A'=some b->w.heap.size<=b/\b<ws.heap.size from λb hb=>HO.o.blk hb) hext (show w.heap.size<=ws.heap.size from a8) ((HC.o.keep (hext.kept _)).mono (T:=λb=>b<ws.heap.size/\ob A'≠some b) λb hb hh=>⟨hb,λe=>by have:=(HO.o.blk e).1;have f6:b<w.heap.size:=hh;omega⟩) (show fs.length<=4294967296 from HC.o.2.1) (show b1<ws.heap.size/\ob A'≠some b1 from ⟨AA,λe=>by have:=(HO.o.blk e).1;omega⟩) q0 f0;clear hext hown O b3 hln Z b5 a8 hb1 b0
   go_wp2_with fail
   refine b6.o.mono ?_;rintro e1 w1 ⟨rfl,rfl⟩;by_cases hneg:ix<0
   ·have HI:=Hd (Y.o.trans (if_pos hneg));clear q0
    go_upto_region 6 with fail
    refine Qa (λm b=>(m=1003/\ws.heap.size<=b)\/(m=1010/\ob A'=some b)) [(0,[1010]),(1,[1003]),(2,[1003]),(3,[1003,1010]),(9,[1010]),(10,[1010])] ?_;refine Qp ?_;refine Qs (FP λv γ w'=>∃ g:Nat,v=.slice (some ⟨g,0,none⟩) 0 0/\ws.heap.size<=g/\(γ 1003=false->Blk w' g 9 #[])) (H1A ?_) ?_ ?_
    ·rintro v γ wx γ' wy rr ⟨g,h1,h2,h3⟩;refine ⟨g,h1,h2,λhk => ?_⟩;have hk0:γ 1003=false:=by
      cases h6:γ 1003 with
      |false=>rfl
      |true=>rw [rr.done _ h6] at hk;cases hk
     exact Q8
    ·exact G7
    refine Qp ?_;refine Chain.step (FP λv γ w'=>HpA ws fs γ w' v) AG (H1A ?_) ?_ ?_
    ·exact JC
    ·intro vals γ w' ρ hR hN hp hρ hc hf hg;refine ⟨rfl,?_⟩;obtain ⟨g,f1,hg,hb⟩:=hp 1 AB;have d9:=(hρ 21).trans f1;have d4:ρ (.tmp 22)=_:=(hρ 22).trans (hp 2 AB);have hk0:=hN.key (k:=1003) AB;have hbg:=hb hk0;have ho:Own w' ws.heap.size 9 1 (some ⟨g,0,none⟩) 0 0 []:=IUA (xs:=[]) hbg hg;have d5:=a9.o.1.keep (hR.kept0 (S:=λb=>b<ws.heap.size/\ob A'≠some b) (λb hbl (hb:b<ws.heap.size/\ob A'≠some b) m hm=>FJ));have hsz:=hR.size;have e0:ws.drew.heap.size=ws.heap.size:=rfl;refine Cw (.tmp 21) (.tmp 22) rfl tiS d9 ho d4 d5 (by rw [List.length_map,Nat.mul_one]) (λu hu=>Es _ u hu) (by have:=HFB.o;omega) AB AA ?_;intro A4 c4 w4 hown4 hg4 hat4;rw [Nat.zero_add] at hown4;refine ⟨γ.put 1003,H2A hk0 hg4.os hg4.tape hg4.output hg4.size (λb hb hm=>hg4.block b hb λe=>hm (.inl ⟨rfl,by simp [ob] at e;omega⟩)),LK.done AB,A4,c4,?_,AU,?_,a9.o.2.2⟩
     ·show Value.slice A4 (0+fs.length) c4=.slice A4 fs.length c4;rw [Nat.zero_add]
     ·simpa using hown4
    iterate 3 refine Qp ?_
    refine Qm (λvals γ w' ρ hR hN hp hρ zs zg=>by
     have hkk:=hR.o.kept0 (S:=λb=>b<ws.heap.size/\ob A'≠some b) (λb hbl (hb:b<ws.heap.size/\ob A'≠some b) m hm=>FJ);have m0:=Kept.cell hkk Z0.o Q0.o;clear hkk;exact Qk) ?_
    refine Qs (FP λv γ w'=>HaA ws fs xt γ w' v) (H1A ?_) ?_ ?_
    ·exact JC
    ·intro vals γ w' ρ hR hN hp hρ zs zg;obtain ⟨A4,c4,hv4,hd4,ho4⟩:=hp.o 3 AB;have f4:=(hρ.o 23).trans hv4;exact Kk
    refine Qs (FP λv γ w'=>HbA ws fs xt γ w' v) (H1A ?_) ?_ ?_
    ·exact PU
    ·intro vals γ w' ρ hR hN hp hρ zs zg;obtain ⟨A4,c4,hv4,hd4,ho4⟩:=hp.o 8 AB;have f5:=(hρ.o 28).trans hv4;have HO:=Hd ho4;have HD:=Hd hd4;have HR:=hR;clear hv4 ho4 hd4;refine Qr ?_;have hx1:=(Ext.refl w').alloc (.cells #[.slice A4 fs.length c4,.string xt] 69);exact R6
    refine Chain.step (FP λv γ w'=>FsA w.heap.size (ds++[⟨fs,xt⟩]) ds.length γ w' v) AG (H1A ?_) ?_ ?_
    ·exact Iv
    ·intro vals γ w' ρ hR hN hp hρ hc hf hg;refine ⟨rfl,?_⟩;have d6:ρ (.tmp 20)=_:=(hρ 20).trans (hp 0 AB);obtain ⟨g,A4,c4,d3,b8,f3,b9,ho4,hne⟩:=hp 9 AB;have e29:=(hρ 29).trans d3;have hk0:=hN.key (k:=1010) AB;have hod:=HO.o.keep (hR.kept0 (S:=λb=>ob A'=some b\/w.heap.size<=b) λb hbl _ m hm=>by rcases hm with ⟨rfl,h⟩|⟨rfl,h⟩;(have e0:ws.drew.heap.size=ws.heap.size:=rfl;omega);exact hk0);obtain ⟨xs,d7,ho,hv⟩:=hod.add;have hsz:=hR.size;have e0:ws.drew.heap.size=ws.heap.size:=rfl;have hws:=HWS.o;refine Cw (.tmp 20) (.tmp 29) rfl tiD d6 ho e29 (Blk.rd b9) rfl AP (by have:=d8.o;omega) AB AA ?_;intro A5 c5 w5 hown5 hg5 hat5;refine ⟨γ.put 1010,H2A hk0 hg5.os hg5.tape hg5.output hg5.size (λb hb hm=>hg5.block b hb λe=>hm (.inr ⟨rfl,e.symm⟩)),LK.done AB,A5,c5,rfl,by simp [Gz.put,b8],AU,?_⟩;refine OwnDs.push (r:=⟨fs,xt⟩) d7 hv hown5 hg5 hat5 (Own.cap ho4.1) f2.o ((ho4.strs HFB.o λb hb=>hb).mono λb _ hb=>⟨λe => ?_,?_⟩)
     ·have h1:=(ho4.1.blk hb).1;have h2:=(HAL.o b e).2;omega
     ·have h1:=(ho4.1.blk hb).1;omega
    refine Qs (FP λv γ w'=>FsA w.heap.size (ds++[⟨fs,xt⟩]) ds.length γ w' v) (H1A ?_) ?_ ?_
    ·exact Iv
    ·intro vals γ w' ρ hR hN hp hρ zs zg;obtain ⟨A5,c5,hv5,h07,h15,hod5⟩:=hp.o 10 AB;have e30:=(hρ.o 30).trans hv5;exact On
    intro vals γ w9 hR hG;obtain ⟨A5,c5,b4,-,-,hod5⟩:=hG 11 AB;have HXN:=Hd (show Ext w w9 from Au HXS.o (hR.buts (S:=λb=>w.heap.size<=b) (λm b hbl hm _=>by rcases hm with ⟨_,h⟩|⟨_,h⟩;(have:=HWS.o;omega);exact (HAL.o b h).1)) (λb hb=>hb));have b7:=Hd hod5;refine Qx ?_;simp only [b4];clear hR hG b4 hod5;go_wp2;go_roundw
    case rel=>exact ⟨k+1,A5,c5,AA,AE,by rw [HI.o,List.length_append];rfl,HXN.o,by rw [HI.o];exact b7.o⟩
    case measure=>simp [intOf];omega
   ·have HI:=Hd (Y.o.trans (if_neg hneg));go_wp2;go_roundw
    case rel=>exact ⟨k+1,A',c',AA,AE,by rw [HI.o],HXS.o,by rw [HI.o];exact HO.o⟩
    case measure=>simp [intOf];omega
  ·obtain rfl:k=cols.length:=AA;have HT:=Hd (show cols.take cols.length=cols from List.take_length);have ho:=b0.o;rw [HT.o] at ho;have HC2:=Hd (show (Ef cols fs).length<=c' by obtain ⟨hs,_,h1,_⟩:=ho.add;exact h1.cap);have HOF:=Hd ho;clear hext hown ho;go_wp2;go_ret;exact ⟨A',c',EM,HC2.o,HOF.o,HE.o⟩

def KzP(x y:BA)(v:Value)(w':World):Prop:=∃ g:Nat,v=.slice (some ⟨g,0,none⟩) 2 2/\Blk w' g 9 #[.string x,.string y]
theorem F7A:(prog.info? 4).map (λi=>(i.zero,i.size,i.bytes))=some (some (.bool false),1,1):=by kernel_rfl
theorem GbA:TI prog 119 4 1 1:=IKA underlying119 F7A rfl AB
def WB(cols:List BA)(rows:List (List Val))(k:Nat):Bool:=EF cols rows&&(List.range k).all λj=>decide (Bt cols (cols.getD j ⟨#[]⟩)=(j:Int))
theorem C1A(cols:List BA)(rows:List (List Val))(k:Nat):WB cols rows (k+1)=(WB cols rows k&&decide (Bt cols (cols.getD k ⟨#[]⟩)=(k:Int))):=by
 unfold WB;rw [List.range_succ,List.all_append,List.all_cons,List.all_nil,Bool.and_true,Bool.and_assoc]
theorem FFA(cols:List BA)(rows:List (List Val)):WB cols rows cols.length=(EF cols rows&&Lw cols):=by
 unfold WB Lw;congr 1;rw [Bool.eq_iff_iff,List.all_eq_true,decide_eq_true_eq];constructor
 ·intro h;rw [List.nodup_iff_pairwise_ne,List.pairwise_iff_getElem];intro i j hi hj hlt he;have h1:=of_decide_eq_true (h j (List.mem_range.2 hj));rw [BM _ _ _ hj] at h1;obtain ⟨k,hk,U,O,hall⟩:=J5 (l:=cols) (v:=cols[j]) (by rw [h1];omega);have:k=j:=AA;subst this;exact hall i hi hlt he
 ·intro h j hj;have hj:=List.mem_range.1 hj;rw [BM _ _ _ hj,decide_eq_true_eq];exact WI h hj
theorem EiA(hn:cols.Nodup)(hr:EF cols rows=true)(hk:k<cols.length):cols.all (BH cols rows [cols[k]])=Gn rows cols.length k:=by
 have:=Nl hn hr [k] (by intro c hc;rw [List.mem_singleton.1 hc];exact hk);rw [List.map_cons,List.map_nil,BM _ _ _ hk] at this;rw [<-this];rfl
theorem E6A(hn:cols.Nodup)(hr:EF cols rows=true)(hi:i<cols.length)(hj:j<cols.length):cols.all (BH cols rows [cols[i],cols[j]])=F9 rows cols.length [i,j]:=by
 have:=Nl hn hr [i,j] (by intro c hc;simp at hc;rcases hc with rfl|rfl<;>assumption);rw [List.map_cons,List.map_cons,List.map_nil,BM _ _ _ hi,BM _ _ _ hj] at this;rw [<-this]
theorem D8A(hn:cols.Nodup)(hr:EF cols rows=true):cols.all (BH cols rows [])=F9 rows cols.length []:=by
 have:=Nl hn hr [] AC;exact this.symm
theorem C0A(hn:cols.Nodup):Ch cols [] cols.length=Ef cols []:=by
 have:=LH hn [] AC cols.length (Al);rw [List.take_length] at this;exact this
theorem DcA(hn:cols.Nodup)(hk:k<cols.length):Ch cols [(k:Int)] cols.length=Ef cols [cols[k]]:=by
 have:=LH hn [k] (by intro c hc;rw [List.mem_singleton.1 hc];exact hk) cols.length (Al);rw [List.take_length,List.map_cons,List.map_nil,List.map_cons,List.map_nil,BM _ _ _ hk] at this;exact this
theorem DyA(hn:cols.Nodup)(hi:i<cols.length)(hj:j<cols.length):Ch cols [(i:Int),(j:Int)] cols.length=Ef cols [cols[i],cols[j]]:=by
 have:=LH hn [i,j] (by intro c hc;simp at hc;rcases hc with rfl|rfl<;>assumption) cols.length (Al);rw [List.take_length,List.map_cons,List.map_cons,List.map_nil,List.map_cons,List.map_cons,List.map_nil,BM _ _ _ hi,BM _ _ _ hj] at this;exact this
def kL1(cols:List BA)(rows:List (List Val))(k:Nat):List Dep:=(List.range k).flatMap (KQ cols rows)
def kL3(cols:List BA)(rows:List (List Val))(i j:Nat):List Dep:=(List.range' (i+1) (j-(i+1))).flatMap (KO cols rows i)
def kL2(cols:List BA)(rows:List (List Val))(i:Nat):List Dep:=kL1 cols rows cols.length++(List.range i).flatMap λi=>kL3 cols rows i cols.length
theorem EEA(cols:List BA)(rows:List (List Val))(k:Nat):kL1 cols rows (k+1)=kL1 cols rows k++KQ cols rows k:=by
 unfold kL1;rw [List.range_succ,List.flatMap_append];simp
theorem D4A(cols:List BA)(rows:List (List Val))(i:Nat):kL2 cols rows (i+1)=kL2 cols rows i++kL3 cols rows i cols.length:=by
 unfold kL2;rw [List.range_succ,List.flatMap_append,List.append_assoc];simp
theorem DUA(cols:List BA)(rows:List (List Val))(i j:Nat)(h:i+1<=j):kL3 cols rows i (j+1)=kL3 cols rows i j++KO cols rows i j:=by
 unfold kL3;rw [show j+1-(i+1)=(j-(i+1))+1 by omega,List.range'_concat,List.flatMap_append];congr 1;rw [show i+1+1*(j-(i+1))=j by omega];simp
theorem EWA(cols:List BA)(rows:List (List Val))(i:Nat):kL3 cols rows i (i+1)=[]:=by
 unfold kL3;rw [Nat.sub_self];rfl
theorem WP(cols:List BA)(s:List Int):(Ch cols s cols.length).length<=cols.length:=APA cols s cols.length
theorem C6A(cols:List BA)(rows:List (List Val))(k:Nat):(KQ cols rows k).length<=cols.length:=by
 unfold KQ;split
 ·exact WP _ _
 ·exact AN
theorem CwA(cols:List BA)(rows:List (List Val))(i j:Nat):(KO cols rows i j).length<=cols.length:=by
 unfold KO;split
 ·exact WP _ _
 ·exact AN
theorem QD{α β:Type}{l:List α}{f:α->List β}{n:Nat}(h:∀ x∈l,(f x).length<=n):(l.flatMap f).length<=l.length*n:=by
 induction l with
 |nil=>simp
 |cons a m ih =>
  rw [List.flatMap_cons,List.length_append,List.length_cons,Nat.add_mul];have:=h a AC;have:=ih (λx hx=>h x (by simp [hx]));omega
theorem CDA(cols:List BA)(rows:List (List Val))(k:Nat):(kL1 cols rows k).length<=k*cols.length:=by
 have:=QD (l:=List.range k) (f:=KQ cols rows) (n:=cols.length) λx _=>C6A _ _ _;rwa [List.length_range] at this
theorem B9A(cols:List BA)(rows:List (List Val))(i j:Nat)(hj:j<=cols.length):(kL3 cols rows i j).length<=cols.length*cols.length:=by
 have:=QD (l:=List.range' (i+1) (j-(i+1))) (f:=KO cols rows i) (n:=cols.length) λx _=>CwA _ _ _ _;rw [List.length_range'] at this;exact Nat.le_trans this (Nat.mul_le_mul_right _ AA)
theorem FWA(cols:List BA)(rows:List (List Val))(i:Nat)(hi:i<=cols.length)(hn:cols.length<=1000):(kL2 cols rows i).length<=1001000000:=by
 unfold kL2;rw [List.length_append];have h1:=CDA cols rows cols.length;have h2:=QD (l:=List.range i) (f:=λi=>kL3 cols rows i cols.length) (n:=cols.length*cols.length) λx _=>B9A _ _ _ _ (Al);rw [List.length_range] at h2;have h3:cols.length*cols.length<=1000*1000:=Nat.mul_le_mul hn hn;have h4:i*(cols.length*cols.length)<=1000*(1000*1000):=Nat.mul_le_mul AA h3;omega
theorem F5A(cols:List BA)(rows:List (List Val))(h1:(EF cols rows&&Lw cols)=true)(h2:F9 rows cols.length []=false):kL2 cols rows cols.length=Co cols rows:=by
 rw [YI];unfold B7A;rw [Bool.and_eq_true] at h1;rw [h1.1,h1.2,h2];rfl
def YZ(rows:List (List Val))(n k:Nat):List Value:=(List.range k).map λi=>Value.bool (Gn rows n i)
theorem CdA(rows:List (List Val))(n k:Nat):YZ rows n (k+1)=YZ rows n k++[.bool (Gn rows n k)]:=by
 unfold YZ;rw [List.range_succ,List.map_append];rfl
theorem B0A(rows:List (List Val))(n k i:Nat)(h:i<k):(YZ rows n k)[i]?=some (.bool (Gn rows n i)):=by
 unfold YZ;rw [List.getElem?_map,List.getElem?_range h];rfl
theorem SepD.mk(h:OwnDs w base (λb=>(base<=b/\ob A9≠some b)/\b<w.heap.size) A8 c8 l)(hs:∀ b,ob A9=some b->ob A8≠some b)(hg:w.grownBy w' (ob A9))(hat:ob A10=ob A9\/ob A10=some w.heap.size):OwnDs w' base (λb=>base<=b/\ob A10≠some b) A8 c8 l:=by
 refine (h.keep (Kept.of_grown hg λb hb _ e => ?_)).mono λb _ hb=>⟨hb.1.1,λe => ?_⟩
 ·rcases hb with hb|hb
  ·exact hs b e.symm hb
  ·exact hb.1.2 e.symm
 ·rcases hat with h1|h1
  ·rw [h1] at e;exact hb.1.2 e
  ·rw [h1] at e;injection e with e;have:=hb.2;omega
theorem SepD.sep{X:NP}(h:OwnDs w base X A8 c8 l)(hs:∀ b,ob A9=some b->ob A8≠some b)(hat:ob A10=ob A9\/ob A10=some w.heap.size):∀ b,ob A10=some b->ob A8≠some b:=by
 intro b hb e
 rcases hat with h1|h1
 ·rw [h1] at hb;exact hs b hb e
 ·rw [h1] at hb;injection hb with hb;have:=(h.blk e).2;omega
theorem TR(h:qP:=by
 exact ⟨λe=>by have:=h8 b e;omega,by omega,λe=>by have:=h9 b e;omega⟩):qP:=h
theorem DepR.mk{c5:Nat}{A5:OA}(h:OwnDs w' w.heap.size (λb=>w.heap.size<=b) A5 c5 l)(hl:l.length<=4294967296)(h8:∀ b,ob A8=some b->b<w.heap.size)(h9:∀ b,ob A9=some b->b<w.heap.size)(hb:base<=w.heap.size):RDeps w' (λb=>ob A8≠some b/\(base<=b/\ob A9≠some b)) A5 l:=by
 refine h.rdeps hl (λb hb' => ?_) (λb (hb':w.heap.size<=b) => ?_)
 ·have:=(h.blk hb').1;exact TR
 ·exact TR
theorem S5(h:qP:=by
 rintro v γ wx γ' wy rr ⟨g,h1,h2⟩;exact ⟨g,h1,h2.keep (rr.keptS (S:=λb=>b=g) λb _ e m hm=>hm.elim)⟩):qP:=h
theorem RO(h:qP:=by
 have HL:=Hd (show kL3 cols rows k (j+1)=L3 by rw [HLU.o];simp);go_wp2;go_roundw
 case rel=>exact ⟨j+1,A3,c3,by omega,by omega,by go_num,by rw [HL.o,<-HLE.o],by rw [HL.o,<-HLE.o];exact HO8'.out,HSP3.o,HX9.o,HO9'.out⟩
 case measure=>simp [intOf];omega):qP:=h
theorem DzA(q:Nat)(cols:List BA)(rows:List (List Val))(A B:OA)(ca cb:Nat)(w:World)(S T:NP)(hA:Strs w S A cols)(hB:Rows w T q B rows)(hn:cols.length<=1000)(hca:cols.length<=ca) :
  Cl 40 #[.slice A cols.length ca,.slice B rows.length cb] w (Jt w (λb=>w.heap.size<=b) (Co cols rows)):=by
 obtain ⟨HA,o5,m9,j0,i3⟩:=Hd5 (hA.mono (T:=λb=>b<w.heap.size) λi hi _=>hi) (Rs q cols rows A B ca cb w T hA.2.1 hB) (λx=>Ei A ca cols x w S hA) (show ∀ (fs:List BA) (C:OA) (cc:Nat) (w':World) (U:NP),Ext w w'->Strs w' U C fs->Cl 112 #[.slice A cols.length ca,.slice B rows.length cb,.slice C fs.length cc] w' (Ae w' (cols.all (BH cols rows fs))) from λfs C cc w' U hw' hC=>FCA q cols rows fs A B C ca cb cc w' _ _ _ (hA.keep (hw'.kept _)) (hB.keep (hw'.kept _)) hC) (show ∀ (fs:List BA) (C:OA) (cc:Nat) (w':World) (U:NP),Ext w w'->Strs w' U C fs->Cl 113 #[.slice A cols.length ca,.slice C fs.length cc] w' (Jt w' (λb=>w'.heap.size<=b) (Ef cols fs)) from λfs C cc w' U hw' hC=>DmA cols fs A C ca cc w' _ _ (hA.keep (hw'.kept _)) hC AA);obtain ⟨n,hnn⟩:=eqx cols.length;clear hA hB
 go_enter func40,ntmps40
 go_wp2_with fail
 refine o5.o.mono ?_;rintro e1 w1 ⟨rfl,rfl⟩;have n5:EF cols rows=WB cols rows 0:=(by unfold WB;simp);rw [n5];clear n5;go_wp2
 go_loop [6,5] (λi s=>∃ k:Nat,k<=cols.length/\i=.I k/\s=.bool (WB cols rows k)) (λi _=>cols.length-(intOf i).toNat)
 case atStart=>exact ⟨0,AN,rfl,rfl⟩
 case round =>
  obtain ⟨k,hk,rfl,rfl⟩:=hrel;by_cases hlt:k<cols.length
  ·have b7:=C1A cols rows k;rw [BM _ _ _ hlt] at b7;obtain ⟨fk,m2⟩:=eqx (WB cols rows k);rw [<-m2] at b7|-;obtain ⟨b1,o1,rfl,z1,q0⟩:=HA.o.at_ hlt;obtain ⟨x,hx⟩:=eqx (cols[k]);rw [<-hx] at q0 b7;obtain ⟨ix,m8⟩:=eqx (Bt cols x);have m5:=Hd (m9.o x);rw [<-m8] at b7 m5;have HSU:=Hd b7;clear b7 m2 hx m8;cases fk
   ·go_wp2
    go_round
    case rel=>exact ⟨k+1,AA,AE,by rw [HSU.o];rfl⟩
    case measure=>simp [intOf];omega
   ·go_wp2_with fail
    refine m5.o.mono ?_;rintro e2 w2 ⟨rfl,rfl⟩;have HEQ:=Hd (show (ix==(k:Int))=decide (ix=(k:Int)) by rw [Bool.eq_iff_iff];simp);go_wp2
    go_round
    case rel=>exact ⟨k+1,AA,AE,by rw [HSU.o,HEQ.o];rfl⟩
    case measure=>simp [intOf];omega
  ·obtain rfl:k=cols.length:=AA;have b4:=FFA cols rows;obtain ⟨ft,n3⟩:=eqx (WB cols rows cols.length);rw [<-n3] at b4|-;clear n3;cases ft
   ·have HF:=Hd (show Co cols rows=[] by
     unfold Co;rw [if_pos];have h2:=b4.symm
     revert h2
     cases EF cols rows<;>cases Lw cols<;>simp)
    clear b4;go_wp2;go_ret;rw [HF.o];exact ⟨none,0,rfl,Al,OwnDs.nil _ _ _,Ext.refl _⟩
   obtain ⟨HFA,l3,b8⟩:=Hd3 b4.symm (show EF cols rows=true by have:=b4.symm;rw [Bool.and_eq_true] at this;exact this.1) (show cols.Nodup by have:=b4.symm;rw [Bool.and_eq_true] at this;exact of_decide_eq_true this.2);clear b4 o5 m9;have hk0:=D8A b8.o l3.o;obtain ⟨e0,i6⟩:=eqx (F9 rows cols.length []);have l8:=Hd (j0.o [] none 0 w (λ_=>False) (Ext.refl _) Strs.nil);rw [hk0,<-i6] at l8;have k6:=Hd i6;clear hk0 i6
   go_wp2_with fail
   refine l8.o.mono ?_;rintro e2 w2 ⟨rfl,hx2⟩;have HX2:=Hd hx2;clear hx2;cases e0
   case true =>
    have HF:=Hd (show Co cols rows=Ef cols [] by
     rw [YI];unfold B7A;have h1:=HFA.o;rw [Bool.and_eq_true] at h1;rw [h1.1,h1.2,<-k6.o];exact C0A b8.o)
    go_wp2_with fail
    refine (i3.o [] none 0 w2 (λ_=>False) HX2.o Strs.nil).mono ?_;rintro e3 w3 ⟨A3,c3,rfl,hc3,d6,hx3⟩;obtain ⟨HO3,HX3,HC3⟩:=Hd3 d6 (HX2.o.trans hx3) hc3;have hsz:=HX2.o.size;clear hx3 d6 hc3;go_wp2;go_ret;exact ⟨A3,c3,BB,by rw [HF.o];exact HC3.o,by rw [HF.o];exact (HO3.o.lower hsz).mono λb _ hb=>by have hb':w2.heap.size<=b:=hb;omega,HX3.o⟩
   have HF:=Hd (F5A cols rows HFA.o k6.o.symm);clear l8 k6;go_wp2
   go_loopw [10,9,8] (λi s o wr=>∃ (k:Nat) (A9:OA) (c9:Nat) (A8:OA) (c8:Nat),k<=cols.length/\i=.I k/\s=.slice A9 k c9/\o=.slice A8 (kL1 cols rows k).length c8/\Own wr w.heap.size 4 1 A9 k c9 (YZ rows cols.length k)/\OwnDs wr w.heap.size (λb=>w.heap.size<=b/\ob A9≠some b) A8 c8 (kL1 cols rows k)/\(∀ b,ob A9=some b->ob A8≠some b)/\Ext w wr) (λi _ _ _=>cols.length-(intOf i).toNat)
   case atStart=>exact ⟨0,none,0,none,0,AN,rfl,rfl,rfl,Own.nil _ _ _ _,OwnDs.nil _ _ _,(by intro b hb;cases hb),HX2.o⟩
   case round =>
    obtain ⟨k,A9,c9,A8,c8,hk,rfl,rfl,rfl,b0,m7,i7,hext⟩:=hrel;obtain ⟨n9,HO8,f0,HE⟩:=Hd4 b0 m7 i7 hext;clear b0 m7 i7;by_cases hlt:k<cols.length
    ·have hl1:(kL1 cols rows k).length<=1000000:=Nat.le_trans (CDA _ _ _) (Nat.le_trans (Nat.mul_le_mul AA hn) (by decide:1000*1000<=1000000));have O:=EEA cols rows k;unfold KQ at O;rw [DcA b8.o hlt] at O;have Z:=EiA b8.o l3.o hlt;obtain ⟨sg,m3⟩:=eqx (Gn rows cols.length k);have hss:=CdA rows cols.length k;rw [<-m3] at O Z hss;obtain ⟨b1,o1,rfl,z1,q0⟩:=(HA.o.keep (hext.kept _)).at_ hlt;obtain ⟨x,hx⟩:=eqx (cols[k]);rw [<-hx] at q0 O Z;have f1:=Hd (show Strs wr (λb=>b<w.heap.size) (some ⟨b1,o1+k,none⟩) [x] from by
      have h1:=(HA.o.keep (hext.kept _));refine ⟨?_,AC,λs hs => ?_⟩
      ·have h2:=(Rd.drop h1.1 k).take 1;rw [<-List.map_drop,<-List.map_take,List.drop_eq_getElem_cons hlt,<-hx] at h2
       simpa using h2
      ·rw [List.mem_singleton.1 hs,hx];exact h1.2.2 _ (List.getElem_mem hlt))
     have d3:=Hd (j0.o [x] (some ⟨b1,o1+k,none⟩) (ca-k) wr _ hext f1.o);rw [Z] at d3;have HLU:=Hd O;have n8:=Hd hss;have hkc:k+1<=ca:=AA;have hkn:((k:Int)+1-(k:Int))=1:=AA;clear O Z hss hx m3 hext
     go_wp2_with fail
     refine d3.o.mono ?_;rintro e3 w3 ⟨rfl,hx3⟩;obtain ⟨wb,hwb⟩:=eqx (w3.alloc (.cells #[.bool sg] 4));have d5:Ext wr wb:=(by rw [hwb];exact hx3.trans (exaa _));obtain ⟨HXB,HXR,b6,d4⟩:=Hd4 (HE.o.trans d5) d5 (n9.o.ext d5) ((HO8.o.ext d5).mono (T:=λb=>(w.heap.size<=b/\ob A9≠some b)/\b<wb.heap.size) λb hb h=>⟨h,hb⟩);have hszb:=HXB.o.size;have j8:=Hd hwb;clear hx3 d5 d3;have o6:=Hd j8.o.symm;cases sg
     ·have HL:=Hd (show kL1 cols rows (k+1)=kL1 cols rows k by rw [HLU.o];simp)
      go_wp2_with (at_builtin;go_must (rw [o6.o]);go_must (refine AL rfl (.tmp 58) (.tmp 60) rfl GbA rfl b6.o rfl (by rw [j8.o];exact Blk.rd (Blk.new _ _ _)) rfl AP AA AB AA ?_);intro g4 j2 w10 a9 a8 Y)
      go_roundw
      case rel =>
       refine ⟨k+1,g4,j2,A8,c8,AA,AE,rfl,by rw [HL.o],?_,?_,?_,HXB.o.grown a8 λb hb=>(b6.o.blk hb).1⟩
       ·rw [n8.o];exact a9
       ·rw [HL.o];exact SepD.mk d4.o f0.o a8 Y
       ·exact SepD.sep d4.o f0.o Y
      case measure=>simp [intOf];omega
     ·have HL:=Hd (show kL1 cols rows (k+1)=kL1 cols rows k++Ef cols [x] by rw [HLU.o];simp)
      go_wp2_with (at_builtin;go_must (rw [o6.o]);go_must (refine AL rfl (.tmp 58) (.tmp 60) rfl GbA rfl b6.o rfl (by rw [j8.o];exact Blk.rd (Blk.new _ _ _)) rfl AP AA AB AA ?_);intro g4 j2 w10 a9 a8 Y)
      have f7:Ext w w10:=HXB.o.grown a8 λb hb=>(b6.o.blk hb).1;have HX10:=Hd f7;have n2:Strs w10 (λb=>b<w.heap.size) (some ⟨b1,o1+k,none⟩) [x]:=(f1.o.keep (HXR.o.kept _)).keep (Kept.of_grown a8 λb hb _ e=>by have:=(b6.o.blk e.symm).1;omega);obtain ⟨j9,j7,j4,d8⟩:=Hd4 a9 (SepD.mk d4.o f0.o a8 Y) (SepD.sep d4.o f0.o Y) (i3.o [x] (some ⟨b1,o1+k,none⟩) (ca-k) w10 _ f7 n2);have hdl:=Nc cols [x];obtain ⟨dx,f3⟩:=eqx (Ef cols [x]);rw [<-f3] at d8 HL hdl;clear f7 n2 a9 a8 Y f3;refine d8.o.mono ?_;rintro e5 w5 ⟨A5,c5,rfl,j3,d9,hx5⟩;have HX5:=Hd (HX10.o.trans hx5);have g0:=HX10.o.size;have HR5:=Hd (DepR.mk d9 AA (λb hb=>(j7.o.blk hb).2) (λb hb=>(j9.o.blk hb).2) g0);have i2:=Hd (j9.o.ext hx5);obtain ⟨hs,hhs,hoo,hvv⟩:=(j7.o.ext hx5).add;obtain ⟨HHS,d7,l5⟩:=Hd3 hhs hoo hvv;obtain ⟨-,ys,f2,b3,hyd⟩:=HR5.o;obtain ⟨k7,l6,i5,l7⟩:=Hd4 f2 b3 hyd (Hs b3 hyd);have o7:=HX5.o.size;have HG5:=Hd (show ∀ b,ob g4=some b->b<w5.heap.size from λb hb=>(i2.out.blk hb).2);clear hx5 d9 j3 hhs hoo hvv f2 b3 hyd
      go_wp2_with (at_builtin;go_must (refine AL rfl (.tmp 63) (.tmp 70) rfl tiD rfl d7.o rfl k7.o l6.o l7.o AA AB AA ?_);intro A6 c6 w6 hown6 hg6 hat6)
      go_roundw
      case rel =>
       refine ⟨k+1,g4,j2,A6,c6,AA,AE,rfl,by rw [HL.o,List.length_append],?_,?_,?_,HX5.o.grown hg6 λb hb=>(d7.o.blk hb).1⟩
       ·rw [n8.o];exact Own.keep i2.out (Kept.of_grown hg6 λb hb _ e=>j4.o b hb e.symm)
       ·rw [HL.o];exact OwnDs.app HHS.o l5.o i5.o hown6 hg6 hat6
       ·intro b hb e
        rcases hat6 with h6|h6
        ·rw [h6] at e;exact j4.o b hb e
        ·rw [h6] at e;injection e with e;have:=HG5.o b hb;omega
      case measure=>simp [intOf];omega
    ·obtain rfl:k=cols.length:=AA;obtain ⟨wp,rfl⟩:=eqx wr;have f8:kL2 cols rows 0=kL1 cols rows cols.length:=(by unfold kL2;simp);have HO9F:=Hd n9.o;clear hext;go_wp2
     go_loopw [12,8] (λi o wr=>∃ (k:Nat) (A7:OA) (c7:Nat),k<=cols.length/\i=.I k/\o=.slice A7 (kL2 cols rows k).length c7/\OwnDs wr w.heap.size (λb=>w.heap.size<=b/\ob A9≠some b) A7 c7 (kL2 cols rows k)/\(∀ b,ob A9=some b->ob A7≠some b)/\Ext w wr/\Own wr w.heap.size 4 1 A9 cols.length c9 (YZ rows cols.length cols.length)) (λi _ _=>cols.length-(intOf i).toNat)
     case atStart=>exact ⟨0,A8,c8,AN,rfl,by rw [f8],by rw [f8];exact HO8.o,f0.o,HE.o,HO9F.o⟩
     case round =>
      obtain ⟨k,A7,c7,hk2,rfl,rfl,n4,k0,o4,b0⟩:=hrel;obtain ⟨g8,HSP7,HX7,HO97⟩:=Hd4 n4 k0 o4 b0;clear n4 k0 o4 b0 f8;by_cases hlt:k<cols.length
      ·obtain ⟨wq,rfl⟩:=eqx wr;have hl2:=FWA cols rows k AA hn;have f4:=D4A cols rows k;have l0:=EWA cols rows k;obtain ⟨L2,o0⟩:=eqx (kL2 cols rows k);rw [<-o0] at hl2 f4 g8|-;have i8:=Hd f4;clear o0 f4;go_wp2
       go_loopw [13,8] (λjv o wr=>∃ (j:Nat) (A7:OA) (c7:Nat),k+1<=j/\j<=cols.length/\jv=.I j/\o=.slice A7 (L2++kL3 cols rows k j).length c7/\OwnDs wr w.heap.size (λb=>w.heap.size<=b/\ob A9≠some b) A7 c7 (L2++kL3 cols rows k j)/\(∀ b,ob A9=some b->ob A7≠some b)/\Ext w wr/\Own wr w.heap.size 4 1 A9 cols.length c9 (YZ rows cols.length cols.length)) (λjv _ _=>cols.length-(intOf jv).toNat)
       case atStart=>exact ⟨k+1,A7,c7,Al,AA,AE,by rw [l0,List.append_nil],by rw [l0,List.append_nil];exact g8.o,HSP7.o,HX7.o,HO97.o⟩
       case round =>
        clear l0;obtain ⟨j,A3,c3,hj1,hj2,rfl,rfl,d6,j5,hx3,b0⟩:=hrel;obtain ⟨HO3,HSP3,HX3,b5⟩:=Hd4 d6 j5 hx3 b0;clear d6 j5 b0;by_cases hlj:j<cols.length
        ·have hl3:=B9A cols rows k j AA;have hl3c:cols.length*cols.length<=1000*1000:=Nat.mul_le_mul hn hn;have O:=DUA cols rows k j hj1;unfold KO at O;rw [DyA b8.o hlt hlj] at O;have Z:=E6A b8.o l3.o hlt hlj;have m4:Yu rows cols.length k j=(!Gn rows cols.length k&&!Gn rows cols.length j&&F9 rows cols.length [k,j]):=rfl;have l4:=B0A rows cols.length cols.length k hlt;have l9:=B0A rows cols.length cols.length j hlj;rw [m4] at O;obtain ⟨sk,j6⟩:=eqx (Gn rows cols.length k);obtain ⟨sj,j1⟩:=eqx (Gn rows cols.length j);obtain ⟨kp,m6⟩:=eqx (F9 rows cols.length [k,j]);obtain ⟨L3,o3⟩:=eqx (kL3 cols rows k j);rw [<-j6] at O l4;rw [<-j1] at O l9;rw [<-m6] at O Z;rw [<-o3] at O hl3 HO3|-;obtain ⟨LL,g6⟩:=eqx (L2++L3);have hll:LL.length<=1002000000:=(by rw [g6,List.length_append];omega);rw [<-g6] at HO3|-;have HLE:=Hd g6;clear g6;obtain ⟨b1,o1,rfl,z1,q1⟩:=(HA.o.keep (hx3.kept _)).at_ hlt;obtain ⟨b1',o1',f6,-,q2⟩:=(HA.o.keep (hx3.kept _)).at_ hlj;injection f6 with f6;injection f6 with p7 o9;subst p7 o9;obtain ⟨x1,hx1⟩:=eqx (cols[k]);obtain ⟨x2,hx2⟩:=eqx (cols[j]);rw [<-hx1] at q1 O Z;rw [<-hx2] at q2 O Z;obtain ⟨Q1,Q2,HZ1,HZ2⟩:=Hd4 q1 q2 (show x1.size<=4294967296 by rw [hx1];exact HA.o.2.2 _ (List.getElem_mem hlt)) (show x2.size<=4294967296 by rw [hx2];exact HA.o.2.2 _ (List.getElem_mem hlj));obtain ⟨b9,rfl⟩:=b5.o.some_ AA;obtain ⟨K1,K2,HLU,HKO⟩:=Hd4 (b5.o.cell_ l4) (b5.o.cell_ l9) O Z;clear O Z m4 l4 l9 j6 j1 m6 o3 hx1 hx2 q1 q2 hx3
         go_upto_region 26 with fail
         refine Qa (λ_ _=>False) [] ?_
         iterate 8 refine Qp ?_
         refine Qs (FP λv γ w'=>KzP x1 x2 v w') (H1A ?_) ?_ ?_
         ·exact S5
         ·intro vals γ w' ρ hR hN hp hρ zs zg;refine Qr ?_;exact ⟨γ,H4A _ γ (exaa _),λ_ _ _ h=>h,_,rfl,Blk.new _ _ _⟩
         refine Qs (FP λv γ w'=>KzP x1 x2 v w') (H1A ?_) ?_ ?_
         ·exact S5
         ·intro vals γ w' ρ hR hN hp hρ zs zg;have hg:=hp.o 8 AB;have e94:=hρ.o 94;(conv at e94=>rhs;whnf);have HG:=Hd hg;clear hg;refine Qr ?_;exact ⟨γ,LZ.refl _ _ _,λ_ _ _ h=>h,HG.o⟩
         intro vals γ w9 hR hG;refine Qx ?_;obtain ⟨gs,v9',n7⟩:=hG 9 AB;rw [v9'];have HXN:=Hd (show Ext wr w9 from hR.ext0 (λ_ _ _ h=>h.elim));have HBS:=Hd n7;clear hR hG n7 v9';have i9:Ext w w9:=HX3.o.trans HXN.o;have HX9:=Hd i9;have k1:=HXN.o.cell K1.o;have k2:=HXN.o.cell K2.o;obtain ⟨HO9',HO8',f1⟩:=Hd3 (b5.o.ext HXN.o) (HO3.o.ext HXN.o) (show Strs w9 (λb=>True) (some ⟨gs,0,none⟩) [x1,x2] from ⟨(Blk.rd HBS.o).mono λ_ _ _=>trivial,AC,λs hs=>by simp at hs;rcases hs with rfl|rfl;exact HZ1.o;exact HZ2.o⟩);have d3:=Hd (j0.o [x1,x2] (some ⟨gs,0,none⟩) 2 w9 _ i9 f1.o);rw [HKO.o] at d3;clear i9;cases sk
         case true =>
          exact RO
         cases sj
         case true =>
          exact RO
         go_wp2_with fail
         refine d3.o.mono ?_;rintro e4 w4 ⟨rfl,hx4⟩;obtain ⟨HX4,f9,f5,o8⟩:=Hd4 (HX9.o.trans hx4) (HO9'.out.ext hx4) (HO8'.out.ext hx4) (f1.o.keep (hx4.kept _));clear hx4 k1 k2;cases kp
         ·have HL:=Hd (show kL3 cols rows k (j+1)=L3 by rw [HLU.o];simp);go_wp2;go_roundw
          case rel=>exact ⟨j+1,A3,c3,AA,AA,AE,by rw [HL.o,<-HLE.o],by rw [HL.o,<-HLE.o];exact f5.o,HSP3.o,HX4.o,f9.o⟩
          case measure=>simp [intOf];omega
         ·have HL:=Hd (show kL3 cols rows k (j+1)=L3++Ef cols [x1,x2] by rw [HLU.o];simp);have d8:=Hd (i3.o [x1,x2] (some ⟨gs,0,none⟩) 2 w4 _ HX4.o o8.o);have hdl:=Nc cols [x1,x2];obtain ⟨dx,f3⟩:=eqx (Ef cols [x1,x2]);rw [<-f3] at d8 HL hdl;clear f3
          go_wp2_with fail
          refine d8.o.mono ?_;rintro e5 w5 ⟨A5,c5,rfl,j3,d9,hx5⟩;have HX5:=Hd (HX4.o.trans hx5);have g0:=HX4.o.size;have HR5:=Hd (DepR.mk d9 AA (λb hb=>(f5.o.blk hb).2) (λb hb=>(f9.o.blk hb).2) g0);have i4:=Hd (f9.o.ext hx5);obtain ⟨hs,hhs,hoo,hvv⟩:=(f5.o.ext hx5).add;obtain ⟨HHS,d7,l5⟩:=Hd3 hhs hoo hvv;obtain ⟨-,ys,f2,b3,hyd⟩:=HR5.o;obtain ⟨k7,l6,i5,l7⟩:=Hd4 f2 b3 hyd (Hs b3 hyd);have o7:=HX5.o.size;clear hx5 d9 j3 hhs hoo hvv f2 b3 hyd
          go_wp2_with (at_builtin;go_must (refine AL rfl (.tmp 114) (.tmp 117) rfl tiD rfl d7.o rfl k7.o l6.o l7.o AA AB AA ?_);intro A6 c6 w6 hown6 hg6 hat6)
          go_roundw
          case rel =>
           refine ⟨j+1,A6,c6,AA,AA,AE,by rw [HL.o,<-List.append_assoc,<-HLE.o,List.length_append],?_,?_,HX5.o.grown hg6 λb hb=>(d7.o.blk hb).1,Own.keep i4.o (Kept.of_grown hg6 λb hb _ e=>HSP3.o b hb e.symm)⟩
           ·rw [HL.o,<-List.append_assoc,<-HLE.o];exact OwnDs.app HHS.o l5.o i5.o hown6 hg6 hat6
           ·intro b hb e
            rcases hat6 with h6|h6
            ·rw [h6] at e;exact HSP3.o b hb e
            ·rw [h6] at e;injection e with e;have:=(i4.o.blk hb).2;omega
          case measure=>simp [intOf];omega
        ·obtain rfl:j=cols.length:=AA;go_wp2;go_roundw
         case rel=>exact ⟨k+1,A3,c3,AA,AE,by rw [i8.o],by rw [i8.o];exact HO3.o,HSP3.o,HX3.o,b5.o⟩
         case measure=>simp [intOf];omega
      ·obtain rfl:k=cols.length:=AA;have HC7:=Hd (show (kL2 cols rows cols.length).length<=c7 by obtain ⟨hs,_,h1,_⟩:=g8.o.add;exact h1.cap);go_wp2;go_ret;exact ⟨A7,c7,by rw [<-HF.o];rfl,by rw [<-HF.o];exact HC7.o,by rw [<-HF.o];exact g8.o.mono λb _ hb=>hb.1,HX7.o⟩
