/- Lemmas. No conditions. -/
import Derived.Test.YtidacnalcdhckaaGreatDoorYq11
import Derived.Sort.Walk0
set_option maxRecDepth 100000
set_option maxHeartbeats 1000000
namespace Go.Proofs.YtidacnalcdhckaaGreatDoor
open Go Go.RowKit Tryz
variable {qP:Prop}{A:OA}{a:Abs}{base c n:Nat}{d:Dep}{frm ks l out:List BA}{s x:BA}{v:Val}{w:World}{xs:List Value}

def Fm(x y:BA):Bool:=Op.bytesLess x.toList y.toList
theorem GE(x y:BA):Fm x y=true↔x.data.toList<y.data.toList:=by
 unfold Fm;rw [bytesLess_eq,decide_eq_true_iff,ByteArray.toList_eq,ByteArray.toList_eq]
theorem GJA{y:BA}(h:x.data.toList=y.data.toList):x=y:=by
 cases x;cases y;simp at h;rw [h]
def EW(s:BA):List BA->List BA
 |[]=>[s]
 |x::l=>if Fm x s=true then x::EW s l else if x=s then x::l else s::x::l
def SS(l:List BA):Prop:=l.Pairwise λa b=>a.data.toList<b.data.toList
theorem Sd(h:qP:=by
 rintro (h|h|h)
 ·exact .inr (.inl h)
 ·exact .inl h
 ·exact .inr (.inr h)):qP:=h
theorem Cv(s y:BA):∀ l:List BA,y∈EW s l↔y=s\/y∈l
 |[]=>by simp [EW]
 |x::l=>by
  have ih:=Cv s y l;unfold EW;split
  ·rw [List.mem_cons,ih,List.mem_cons];constructor
   ·exact Sd
   ·exact Sd
  ·split
   ·rename_i hx;rw [List.mem_cons];constructor
    ·exact .inr
    ·rintro (h|h)
     ·exact .inl (h.trans hx.symm)
     ·exact h
   ·rw [List.mem_cons]
theorem SS.ins(h:SS l)(s:BA):SS (EW s l):=by
 induction l with
 |nil=>simp [SS,EW]
 |cons x l ih =>
  have h1:=List.pairwise_cons.1 h;unfold EW;split
  ·rename_i hlt;refine List.pairwise_cons.2 ⟨λy hy => ?_,ih h1.2⟩
   rcases (Cv s y l).1 hy with rfl|hy
   ·exact (GE _ _).1 hlt
   ·exact h1.1 y hy
  ·rename_i hlt;split
   ·exact h
   ·rename_i hne;have O:s.data.toList<x.data.toList:=by
     have h3:¬x.data.toList<s.data.toList:=λe=>hlt ((GE _ _).2 e);exact Std.lt_of_le_of_ne (List.not_lt.1 h3) (λe=>hne (GJA e.symm))
    refine List.pairwise_cons.2 ⟨λy hy => ?_,h⟩
    rcases List.mem_cons.1 hy with rfl|hy
    ·exact O
    ·exact List.lt_trans O (h1.1 y hy)
theorem SS.nodup(h:SS l):l.Nodup:=by
 refine List.Pairwise.imp ?_ h;rintro a b hab rfl;exact List.lt_irrefl _ hab
theorem SS.sort(h:SS l):An l=l:=by
 unfold An;rw [List.mergeSort_of_pairwise]
 ·rw [List.map_map];exact List.map_id _
 ·rw [List.pairwise_map];exact h.imp λhab=>by simp only [decide_eq_true_eq];exact List.le_of_lt hab
theorem Rr{s:BA} : ∀ {l:List BA} {k:Nat},k<=l.length->(∀ j (h:j<l.length),j<k->Fm l[j] s=true)->EW s l=l.take k++EW s (l.drop k)
 |l,0,_,_=>by simp
 |[],k+1,hk,_=>by simp at hk
 |x::l,k+1,hk,h=>by
  have h0:Fm x s=true:=h 0 AC AA;have ih:=Rr (s:=s) (l:=l) (k:=k) (by simpa using hk) λj hj hjk=>by
   have:=h (j+1) ET AA
   simpa using this
  simp only [EW,h0,if_true,List.take_succ_cons,List.drop_succ_cons,List.cons_append];rw [ih]
theorem Nf{k:Nat}(hk:k<l.length)(h:∀ j (h:j<l.length),j<k->Fm l[j] s=true)(hn:Fm l[k] s=false):EW s l=if l[k]=s then l else l.take k++s::l.drop k:=by
 rw [Rr (Nat.le_of_lt hk) h,List.drop_eq_getElem_cons hk,EW,if_neg (by simp [hn])];split
 ·rw [<-List.drop_eq_getElem_cons hk,List.take_append_drop]
 ·rfl
theorem YD(h:∀ j (h:j<l.length),j<l.length->Fm l[j] s=true):EW s l=l++[s]:=by
 rw [Rr (Al) h,List.take_length,List.drop_length];rfl
/- The reference's Insert. Conditions: the list reads as data. -/

def Y4(A:OA)(n c:Nat):Prop:=(A=none/\n=0/\c=0)\/∃ b o,A=some ⟨b,o,none⟩/\n<=c
theorem Own.ok{e sz:Nat}(h:Own w base e sz A n c xs):Y4 A n c:=by
 rcases h.2 with ⟨hv,hn⟩|⟨g,cap,cur,hv,_,_,O,_⟩
 ·injection hv with h1 _ h2;exact .inl ⟨h1,hn,h2⟩
 ·injection hv with h1 _ h2;exact .inr ⟨g,0,h1,by rw [h2];exact O⟩
def Wq(B0:Nat)(w:World)(l:List BA)(e:Ending)(w':World):Prop:=∃ A' c',e=.returned (.slice A' l.length c')/\Y4 A' l.length c'/\Strs w' (λb=>B0<=b) A' l/\Ext w w'
theorem Rd.drop{S:NP}{b o:Nat}(h:Rd w S (some ⟨b,o,none⟩) xs)(k:Nat):Rd w S (some ⟨b,o+k,none⟩) (xs.drop k):=by
 rcases h with h|⟨b',o',hA,hS,hlt,hc⟩
 ·subst h;exact Or.inl AC
 ·injection hA with hA;injection hA with h1 h2;subst h1;subst h2;refine Or.inr ⟨b,o+k,rfl,hS,hlt,λj u hj => ?_⟩;rw [List.getElem?_drop] at hj;have:=hc _ u hj;rwa [<-Nat.add_assoc] at this
theorem Strs.of_own{B0:Nat}(h:Own w base 9 1 A n c xs)(hB0:B0<=base)(hx:xs=l.map Value.string)(hl:l.length<=4294967296)(hs:∀ s∈l,s.size<=4294967296):Strs w (λb=>B0<=b) A l :=
 ⟨by rw [<-hx];exact h.rd.mono λb _ hb=>Nat.le_trans hB0 (h.blk hb).1,hl,hs⟩
theorem Es(l:List BA):∀ u∈l.map Value.string,u.oneCell'=true:=by
 intro u hu;obtain ⟨x,_,rfl⟩:=List.mem_map.1 hu;rfl
theorem Ix(h:qP:=by
 have HRN:=Hd (show ∀ B,Rd (w.alloc (.cells #[.string s] 9)) (λ_=>True) B [] from λB=>Or.inl rfl)
 go_upto_region 7 with (at_builtin;go_must (refine AL rfl (.tmp 35) (.tmp 38) rfl tiS rfl HO1.o rfl (HRN.o _) (by simp) (by simp) (by omega) (by decide) (by simp) ?_);intro A3 c3 w3 hown3 hg3 hat3)
 simp only [List.append_nil,Nat.add_zero] at hown3;obtain ⟨HO3,HX3,HO4⟩:=Hd3 hown3 (Ext.grown (exaa w) hg3 (λb hb=>(HO1.o.blk hb).1)) (show Own (w3.alloc (.cells #[] 9)) w3.heap.size 9 1 (some ⟨w3.heap.size,0,none⟩) 0 0 [] from World.ownsRow_made w3 #[] 0 (Al) (by unfold maxLen;omega) rfl);have HR4:=Hd ((H.o.1.keep (HX3.o.kept _)).keep (Kept.alloc _ _ (.cells #[] 9)));clear hown3 hg3 hat3;have tok:True:=trivial
 go_wp2_with (first|(at_builtin;have _t:=tok;go_must (refine AL rfl (.tmp 40) (.tmp 43) rfl tiS rfl HO4.o rfl HR4.o (by simp) (Es _) (by first|omega|(simp;done)|(simp;omega)) (by decide) (by simp) ?_);intro A4 c4 w4 hown4 hg4 hat4;simp only [Nat.zero_add,List.nil_append] at hown4;have HO44:=Hd hown4;have HX4:=Hd (Ext.grown (exaa w3) hg4 (λb hb=>(HO4.o.blk hb).1));have HR5:=Hd ((HO3.o.rd.mono (T:=λb=>b<w3.heap.size) λb hb _=>hb).keep (HX4.o.kept _));have hsz4:=HX4.o.size;clear hown4 hg4 hat4 tok)|(at_builtin;go_must (refine AL rfl (.tmp 44) (.tmp 45) rfl tiS rfl HO44.o rfl HR5.o (by simp) (by simp [Value.oneCell']) (by first|omega|(simp;done)|(simp;omega)) (by decide) (by omega) ?_);intro A5 c5 w5 hown5 hg5 hat5))
 go_ret;refine ⟨A5,c5,by rw [HI.o];simp,by rw [HI.o];simpa using hown5.ok,?_,(HX3.o.trans HX4.o).grown hg5 (λb hb=>by have:=(HO44.o.blk hb).1;have:=HX3.o.size;omega)⟩;refine Strs.of_own hown5 (Nat.le_trans hB0 HX3.o.size) (by rw [HI.o];simp) (by rw [HI.o];first|(simp;done)|(simp;omega)) λy hy => ?_
 rcases (Cv s y _).1 hy with rfl|hy
 ·exact hs
 ·exact HSZ.o y hy):qP:=h
theorem RF(A:OA)(c:Nat)(l:List BA)(s:BA)(w:World)(B0:Nat)(hB0:B0<=w.heap.size)(h:Strs w (λb=>B0<=b) A l)(hok:Y4 A l.length c)(hs:s.size<=4294967296)(hl:l.length<=1000000) :
  Cl 223 #[.slice A l.length c,.string s] w (Wq B0 w (EW s l)):=by
 have hn:=h.2.1;obtain ⟨HSZ,H,Y⟩:=Hd3 h.2.2 h hok;clear h hok
 go_enter func223,ntmps223
 go_wp2
 go_loop [5] (λi=>∃ k:Nat,k<=l.length/\i=.I k/\∀ j (h:j<l.length),j<k->Fm l[j] s=true) (λi=>l.length-(intOf i).toNat)
 case atStart=>exact ⟨0,AN,rfl,AK⟩
 case round =>
  obtain ⟨k,hk,rfl,hall⟩:=hrel;have HA:=Hd hall;clear hall;by_cases hlt:k<l.length
  ·obtain ⟨b1,o1,rfl,z1,c1⟩:=H.o.at_ hlt;have O:l.length<=c:=by
    rcases Y.o with ⟨h,_⟩|⟨_,_,_,h⟩
    ·cases h
    ·exact h
   cases hls:Fm l[k] s
   ·have a9:Op.bytesLess l[k].toList s.toList=false:=hls;by_cases heq:l[k]=s
    ·have b0:(l[k].toList==s.toList)=true:=(by rw [Bj];simp [heq]);have HI:=Hd (show EW s l=l by rw [Nf hlt HA.o hls,if_pos heq]);clear hls heq;go_wp2;go_ret;exact ⟨_,c,by rw [HI.o];rfl,by rw [HI.o];exact Y.o,by rw [HI.o];exact H.o,Ext.refl w⟩
    ·have b0:(l[k].toList==s.toList)=false:=(by rw [Bj];simp [heq]);have HI:=Hd (show EW s l=l.take k++s::l.drop k by rw [Nf hlt HA.o hls,if_neg heq]);clear hls heq;have HO1:=Hd (IIA (n:=1) (sz:=1) (base:=w.heap.size) (Blk.new w 9 #[.string s]) rfl Bd (Al));have HR1:=Hd ((H.o.1.keep (Kept.alloc _ _ (.cells #[.string s] 9))).drop k);have b4:k<=c:=AA
     go_upto_region 7 with (at_builtin;go_must (refine AL rfl (.tmp 35) (.tmp 38) rfl tiS rfl HO1.o rfl HR1.o AC (λu hu=>Es l u (List.mem_of_mem_drop hu)) AA AB AC ?_);intro A3 c3 w3 hown3 hg3 hat3)
     obtain ⟨HO3,HX3,HO4⟩:=Hd3 hown3 (Ext.grown (exaa w) hg3 (λb hb=>(HO1.o.blk hb).1)) (show Own (w3.alloc (.cells #[] 9)) w3.heap.size 9 1 (some ⟨w3.heap.size,0,none⟩) 0 0 [] from World.ownsRow_made w3 #[] 0 (Al) Bd rfl);have HR4:=Hd (((H.o.1.keep (HX3.o.kept _)).keep (Kept.alloc _ _ (.cells #[] 9))).take k);clear hown3 hg3 hat3;have U:∀ u∈[Value.string s]++(l.map Value.string).drop k,u.oneCell'=true:=λu hu=>by
      rcases List.mem_append.1 hu with hu|hu
      ·simp at hu;subst hu;rfl
      ·exact Es l u (List.mem_of_mem_drop hu)
     have Z:=Hd U;clear U;have tok:True:=trivial
     go_wp2_with (first|(at_builtin;have _t:=tok;go_must (refine AL rfl (.tmp 40) (.tmp 43) rfl tiS rfl HO4.o rfl HR4.o AI (λu hu=>Es l u (List.mem_of_mem_take hu)) AA AB AC ?_);intro A4 c4 w4 hown4 hg4 hat4;simp only [Nat.zero_add,List.nil_append] at hown4;have HO44:=Hd hown4;have HX4:=Hd (Ext.grown (exaa w3) hg4 (λb hb=>(HO4.o.blk hb).1));have HR5:=Hd ((HO3.o.rd.mono (T:=λb=>b<w3.heap.size) λb hb _=>hb).keep (HX4.o.kept _));have hsz4:=HX4.o.size;clear hown4 hg4 hat4 tok)|(at_builtin;go_must (refine AL rfl (.tmp 44) (.tmp 45) rfl tiS rfl HO44.o rfl HR5.o AI Z.o AA AB AA ?_);intro A5 c5 w5 hown5 hg5 hat5))
     go_ret;have hll:(EW s l).length=k+(1+(l.length-k)):=(by rw [HI.o];simp;omega);refine ⟨A5,c5,by rw [hll];rfl,by rw [hll];exact hown5.ok,?_,(HX3.o.trans HX4.o).grown hg5 (λb hb=>by have:=(HO44.o.blk hb).1;have:=HX3.o.size;omega)⟩;refine Strs.of_own hown5 (Nat.le_trans hB0 HX3.o.size) (by rw [HI.o];simp) (by rw [hll];omega) λy hy => ?_
     rcases (Cv s y l).1 hy with rfl|hy
     ·exact hs
     ·exact HSZ.o y hy
   ·have a9:Op.bytesLess l[k].toList s.toList=true:=hls;have HLS:=Hd hls;clear hls;go_wp2
    go_round
    case rel =>
     refine ⟨k+1,AA,AE,λj h hj => ?_⟩;by_cases hjk:j=k
     ·subst hjk;exact HLS.o
     ·exact HA.o j h AA
    case measure=>simp [intOf];omega
  ·obtain rfl:k=l.length:=AA;have HI:=Hd (show EW s l=l.take l.length++s::l.drop l.length by rw [YD HA.o];simp);have HO1:=Hd (IIA (n:=1) (sz:=1) (base:=w.heap.size) (Blk.new w 9 #[.string s]) rfl Bd (Al))
   rcases Y.o with ⟨rfl,h0,rfl⟩|⟨b1,o1,rfl,O⟩
   ·have a8:l=[]:=List.eq_nil_of_length_eq_zero h0;subst a8;clear h0 hlt hk;exact Ix
   ·by_cases hcc:l.length<c
    ·have b3:l.length<=c:=O;clear O hlt hk;exact Ix
    ·obtain rfl:c=l.length:=AA;clear O hcc hlt hk;exact Ix
/- The reference's Closure: the ordered list of the least closed set. Conditions: the arguments read as data, and are few. -/

structure CR(l:List Dep)(frm out:List BA):Prop where
 sorted:SS out
 base:∀ x∈frm,x∈out
 least:∀ T:BA->Prop,(∀ x∈frm,T x)->(∀ d∈l,(∀ x∈d.frm,T x)->T d.tov)->∀ x∈out,T x
def Mn(l:List Dep)(out:List BA):Prop:=∀ d∈l,(∀ x∈d.frm,x∈out)->d.tov∈out
theorem CR.len{l:List Dep}(h:CR l frm out):out.length<=frm.length+l.length:=Part.len ⟨h.sorted.nodup,h.base,h.least⟩
theorem CR.ins{l:List Dep}(h:CR l frm out)(hd:d∈l)(hf:∀ x∈d.frm,x∈out):CR l frm (EW d.tov out) :=
 ⟨h.sorted.ins _,λx hx=>(Cv _ _ _).2 (.inr (h.base x hx)),λT h1 h2 x hx=>by
  rcases (Cv _ _ _).1 hx with rfl|hx
  ·exact h2 d hd λy hy=>h.least T h1 h2 y (hf y hy)
  ·exact h.least T h1 h2 x hx⟩
def CkA(l:List Dep)(out:List BA):Nat:=l.countP λd=>Aw out d.tov
theorem EuA(l:List Dep)(out:List BA):CkA l out<=l.length:=List.countP_le_length
theorem Wl{p q:Dep->Bool}(hle:∀ j,p j=true->q j=true){i:Dep}(hp:p i=false)(hq:q i=true):∀ l:List Dep,i∈l->l.countP p+1<=l.countP q
 |x::l,h=>by
  have mono:∀ l:List Dep,l.countP p<=l.countP q:=λl=>List.countP_mono_left λx _ hx=>hle x hx
  rcases List.mem_cons.1 h with rfl|h'
  ·rw [List.countP_cons_of_pos hq,List.countP_cons_of_neg (by simp [hp])];have:=mono l;omega
  ·have ih:=Wl hle hp hq l h';by_cases hx:p x=true
   ·exact Pm
   ·rw [List.countP_cons_of_neg hx];have:=List.countP_cons (p:=q) (a:=x) (l:=l);omega
theorem AoA{l:List Dep}{out0:List BA}{r:Nat}(h0:CR l frm out0)(h:CR l frm out)(hs:∀ x∈out0,x∈out)(hd:∀ d∈l,(∀ x∈d.frm,x∈out0)->d.tov∈out)(hc:Mn l out0\/r<=CkA l out0):Mn l out\/r+1<=CkA l out:=by
 by_cases hcl:Mn l out0
 ·left;have hm:∀ x∈out,x∈out0:=h.least (·∈out0) h0.base hcl;exact λd hd' hf=>hs _ (hcl d hd' λx hx=>hm x (hf x hx))
 ·right;have hr:r<=CkA l out0:=hc.resolve_left hcl;obtain ⟨d,hdl,hf,hn⟩:∃ d,d∈l/\(∀ x∈d.frm,x∈out0)/\d.tov ∉ out0:=by
   apply Classical.byContradiction;intro hno;exact hcl λd hd' hf=>Classical.byContradiction λhn=>hno ⟨d,hd',hf,hn⟩
  have:=Wl (p:=λd=>Aw out0 d.tov) (q:=λd=>Aw out d.tov) (λj hj=>(Ao _ _).2 (hs _ ((Ao _ _).1 hj))) (i:=d) (by rw [Bool.eq_false_iff];exact λe=>hn ((Ao _ _).1 e)) ((Ao _ _).2 (hd d hdl hf)) l hdl;unfold CkA at hr|-;omega
def GpA(w:World)(l:List Dep)(frm:List BA)(e:Ending)(w':World):Prop:=∃ out,IsClosure l frm out/\SS out/\Wq w.heap.size w out e w'
theorem YW(l:List Dep)(frm:List BA)(A B:OA)(ca cb:Nat)(w:World)(S T:NP)(hA:RDeps w S A l)(hB:Strs w T B frm)(hsm:frm.length+l.length<=100000) :
  Cl 179 #[.slice A l.length ca,.slice B frm.length cb] w (GpA w l frm):=by
 have HA:=Hd hA;have HB:=Hd hB;clear hA hB
 go_enter func179,ntmps179
 go_wp2
 go_loopw [6,5] (λi v wr=>∃ (k:Nat) (A':OA) (c':Nat) (out:List BA),k<=frm.length/\i=.I k/\v=.slice A' out.length c'/\out.length<=k/\Y4 A' out.length c'/\Strs wr (λb=>w.heap.size<=b) A' out/\Ext w wr/\SS out/\∀ x,x∈out↔x∈frm.take k) (λi _ _=>frm.length-(intOf i).toNat)
 case atStart=>exact ⟨0,none,0,[],AN,rfl,rfl,Al,.inl ⟨rfl,rfl,rfl⟩,Strs.nil,Ext.refl _,by simp [SS],AC⟩
 case round =>
  obtain ⟨k,A',c',out,hk,rfl,rfl,g6,a8,hst,hext,hss,hmem⟩:=hrel;obtain ⟨O,HST,HE,b9,b8⟩:=Hd5 a8 hst hext hss hmem;clear a8 hst hext hss hmem;by_cases hlt:k<frm.length
  ·obtain ⟨b1,o1,hB1,z1,q1⟩:=(HB.o.keep (HE.o.kept _)).at_ hlt;subst hB1
   go_wp2_with fail
   refine (RF A' c' out frm[k] _ w.heap.size HE.o.size HST.o O.o (HB.o.sz hlt) AA).mono ?_;rintro e1 w1 ⟨A1,c1,rfl,b4,a9,hx1⟩;obtain ⟨b6,b7,HX1⟩:=Hd3 b4 a9 hx1;clear b4 a9 hx1;go_wp2;go_roundw
   case rel =>
    have d5:=b9.o.ins frm[k];have f7:(EW frm[k] out).length<=k+1:=by
     have:=Jc d5.nodup (m:=frm[k]::out) λy hy=>by rcases (Cv _ _ _).1 hy with rfl|hy;exact List.mem_cons_self;exact List.mem_cons_of_mem _ hy
     simp at this;omega
    refine ⟨k+1,A1,c1,EW frm[k] out,AA,AE,rfl,f7,b6.o,b7.o,HE.o.trans HX1.o,d5,λx => ?_⟩;rw [Cv,b8.o,List.take_succ_eq_append_getElem hlt,List.mem_append,List.mem_singleton];exact or_comm
   case measure=>simp [intOf];omega
  ·have Z:CR l frm out:=⟨b9.o,λx hx=>(b8.o x).2 (by rw [List.take_of_length_le AA];exact hx),λT h1 _ x hx=>h1 x (List.mem_of_mem_take ((b8.o x).1 hx))⟩;have U:=Hd Z;clear Z b9 b8 g6;go_wp2
   go_loopw [7,5] (λi v wr=>∃ (r:Nat) (A':OA) (c':Nat) (out:List BA),r<=l.length+1/\i=.I r/\v=.slice A' out.length c'/\Y4 A' out.length c'/\Strs wr (λb=>w.heap.size<=b) A' out/\Ext w wr/\CR l frm out/\(Mn l out\/r<=CkA l out)) (λi _ _=>l.length+1-(intOf i).toNat)
   case atStart=>exact ⟨0,A',c',out,AN,rfl,rfl,O.o,HST.o,HE.o,U.o,.inr (AN)⟩
   case round =>
    clear O HST HE U;obtain ⟨r,A',c',Y,hr,rfl,rfl,a8,hst,hext,Z,f0⟩:=hrel;obtain ⟨O,HST,HE,U,f1⟩:=Hd5 a8 hst hext Z f0;clear a8 hst hext Z f0;by_cases hltr:r<l.length+1
    ·have hle:r<=l.length:=AA;have f8:decide (r<=l.length)=true:=(by simpa using hle);go_wp2;clear f8
     go_loopw [8,5] (λi v wr=>∃ (k:Nat) (A':OA) (c':Nat) (out:List BA),k<=l.length/\i=.I k/\v=.slice A' out.length c'/\Y4 A' out.length c'/\Strs wr (λb=>w.heap.size<=b) A' out/\Ext w wr/\CR l frm out/\(∀ x∈Y,x∈out)/\∀ d∈l.take k,(∀ x∈d.frm,x∈Y)->d.tov∈out) (λi _ _=>l.length-(intOf i).toNat)
     case atStart=>exact ⟨0,A',c',Y,AN,rfl,rfl,O.o,HST.o,HE.o,U.o,λ_ h=>h,AC⟩
     case round =>
      clear O HST HE;obtain ⟨k,A',c',out,hk,rfl,rfl,a8,hst,hext,Z,d7,f3⟩:=hrel;obtain ⟨O,HST,HE,b0,b5,d6⟩:=Hd6 a8 hst hext Z d7 f3;clear a8 hst hext Z d7 f3;by_cases hltk:k<l.length
      ·obtain ⟨b2,o2,B2,c2,g0,z2,p1,p2,p3,p4,p5⟩:=(HA.o.keep (HE.o.kept _)).at_ hltk;subst g0;have f9:=Hd p5;have g8:=p5.2.1;clear p5;go_wp2
       go_loop [10,9] (λi v=>∃ (j:Nat) (al:Bool),j<=l[k].frm.length/\i=.I j/\v=.bool al/\al=(l[k].frm.take j).all (Aw out)) (λi _=>l[k].frm.length-(intOf i).toNat)
       case atStart=>exact ⟨0,true,AN,rfl,rfl,rfl⟩
       case round =>
        obtain ⟨j,al,hj,rfl,rfl,d9⟩:=hrel;have HAL:=Hd d9;clear d9;by_cases hltj:j<l[k].frm.length
        ·have f4:(l[k].frm.take (j+1)).all (Aw out)=(al&&Aw out l[k].frm[j]):=by
          rw [List.take_succ_eq_append_getElem hltj,List.all_append,<-HAL.o];simp
         have f2:=Hd f4;clear f4;cases al
         ·go_wp2
          go_round
          case rel=>exact ⟨j+1,false,AA,AE,rfl,by rw [f2.o];rfl⟩
          case measure=>simp [intOf];omega
         ·obtain ⟨b3,o3,g4,z3,q3⟩:=f9.o.at_ hltj;subst g4
          go_wp2_with fail
          refine (Ei A' c' out l[k].frm[j] _ _ HST.o).mono ?_;rintro e1 w1 ⟨rfl,rfl⟩;go_wp2
          go_round
          case rel=>exact ⟨j+1,Aw out l[k].frm[j],AA,AE,rfl,by rw [f2.o];rfl⟩
          case measure=>simp [intOf];omega
        ·have hall:al=l[k].frm.all (Aw out):=(by rw [HAL.o,List.take_of_length_le AA]);have d3:=Hd hall;clear hall HAL;cases al
         ·go_wp2;go_roundw
          case rel =>
           refine ⟨k+1,A',c',out,AA,AE,rfl,O.o,HST.o,HE.o,b0.o,b5.o,λd hd hf => ?_⟩;rw [List.take_succ_eq_append_getElem hltk] at hd
           rcases List.mem_append.1 hd with hd|hd
           ·exact d6.o d hd hf
           ·simp at hd;subst hd;have:l[k].frm.all (Aw out)=true:=List.all_eq_true.2 λx hx=>(Ao _ _).2 (b5.o x (hf x hx));rw [<-d3.o] at this;cases this
          case measure=>simp [intOf];omega
         ·have f5:∀ x∈l[k].frm,x∈out:=λx hx=>(Ao _ _).1 (List.all_eq_true.1 d3.o.symm x hx);have HIN:=Hd f5;have hlo:=b0.o.len;clear f5
          go_wp2_with fail
          refine (RF A' c' out l[k].tov _ w.heap.size HE.o.size HST.o O.o p4 AA).mono ?_;rintro e1 w1 ⟨A1,c1,rfl,b4,a9,hx1⟩;obtain ⟨b6,b7,HX1⟩:=Hd3 b4 a9 hx1;clear b4 a9 hx1;go_wp2;go_roundw
          case rel =>
           refine ⟨k+1,A1,c1,EW l[k].tov out,AA,AE,rfl,b6.o,b7.o,HE.o.trans HX1.o,b0.o.ins (List.getElem_mem hltk) HIN.o,λx hx=>(Cv _ _ _).2 (.inr (b5.o x hx)),λd hd hf => ?_⟩;rw [List.take_succ_eq_append_getElem hltk] at hd
           rcases List.mem_append.1 hd with hd|hd
           ·exact (Cv _ _ _).2 (.inr (d6.o d hd hf))
           ·simp at hd;subst hd;exact (Cv _ _ _).2 (.inl rfl)
          case measure=>simp [intOf];omega
      ·have hst:=AoA U.o b0.o b5.o (λd hd=>d6.o d (by rw [List.take_of_length_le AA];exact hd)) f1.o;have d8:=Hd hst;clear hst;go_wp2;go_roundw
       case rel=>exact ⟨r+1,A',c',out,AA,AE,rfl,O.o,HST.o,HE.o,b0.o,d8.o⟩
       case measure=>simp [intOf];omega
    ·have d4:Mn l Y:=f1.o.resolve_right λh=>by have:=EuA l Y;omega
     have f6:=Hd d4;clear d4;go_wp2;go_ret;exact ⟨Y,⟨U.o.sorted.nodup,U.o.base,f6.o,U.o.least⟩,U.o.sorted,A',c',rfl,O.o,HST.o,HE.o⟩

noncomputable def JX (l:List Dep) (frm:List BA) (x:BA):Bool:=@decide (∀ T:BA->Prop,(∀ y∈frm,T y)->(∀ d∈l,(∀ y∈d.frm,T y)->T d.tov)->T x) (Classical.propDecidable _)
theorem Xe{l:List Dep}(h:IsClosure l frm ks)(x:BA):JX l frm x=true↔x∈ks:=by
 unfold JX;refine (@decide_eq_true_iff _ (Classical.propDecidable _)).trans ?_;exact ⟨λhx=>hx (·∈ks) h.base h.closed,λhx T h1 h2=>h.least T h1 h2 x hx⟩
theorem FTA{l:List Dep}(h:IsClosure l frm ks)(x:BA):Aw ks x=JX l frm x:=by
 rw [Bool.eq_iff_iff,Xe h,Ao]
theorem DbA{l:List Dep}(h:IsClosure l frm ks)(x:BA):Aw (An ks) x=JX l frm x:=by
 rw [Bool.eq_iff_iff,Xe h,Ao,Ek]
noncomputable def vMp (g:Nat) (l:List Dep) (frm:List BA) (x:BA) (A:OA) (ca:Nat) (C:OA) (cc:Nat):Nat->Value
 |0=>.slice A l.length ca
 |1=>.pointer (some ⟨g,0,none⟩)
 |2=>.slice C frm.length cc
 |4=>.pointer (some ⟨g,1,none⟩)
 |5=>.string x
 |6=>.bool (JX l frm x)
 |7=>.bool (JX l frm x)
 |_=>undef
def gMp(g:Nat)(l:List Dep)(frm:List BA)(x:BA)(A:OA)(ca:Nat)(C:OA)(cc:Nat)(ix:Nat)(vl:List Value)(γ:Gh)(w':World):Prop:=match vl with
 |[v]=>if ix=3 then (∃ (ks:List BA) (A':OA) (c':Nat),IsClosure l frm ks/\v=.slice A' (An ks).length c'/\Strs w' (Ec γ) A' (An ks)) else v=vMp g l frm x A ca C cc ix
 |_=>True
theorem R2(h:qP:=by
 simp only [if_pos h3] at h|-;obtain ⟨ks,a,b,h0,h1,h2⟩:=h;exact ⟨ks,a,b,h0,h1,r.strs h2⟩):qP:=h
theorem FvA(g:Nat)(l:List Dep)(frm:List BA)(x:BA)(A:OA)(ca:Nat)(C:OA)(cc:Nat):∀ ix vl γ w γ' w',LR γ w γ' w'->gMp g l frm x A ca C cc ix vl γ w->gMp g l frm x A ca C cc ix vl γ' w':=by
 intro ix vl γ w γ' w' r h
 match vl,h with
 |[v],h =>
  unfold gMp at h|-;by_cases h3:ix=3
  ·exact R2
  simp only [if_neg h3] at h|-;exact h
 |[],_=>trivial
 |_::_::_,_=>trivial
theorem Sr(h:qP:=by
 refine LinStep.yes λvals γ w' ρ hR hN hp hρ hc hf hg=>⟨rfl,?_⟩;have e6:ρ (.tmp 6)=.pointer (some ⟨g,0,none⟩):=(hρ 6).trans (hp 1 (by decide));have hx:=hR.drew_ext;have c0:=(HG.o.keep (hx.kept _)).q0;exact Dl):qP:=h
theorem UK(h:qP:=by
 refine LinStep.yes λvals γ w' ρ hR hN hp hρ hc hf hg=>⟨rfl,?_⟩;have e9:ρ (.tmp 9)=.pointer (some ⟨g,1,none⟩):=(hρ 9).trans (hp 4 (by decide));have hx:=hR.drew_ext;have c1:=(HG.o.keep (hx.kept _)).q1;exact Dl):qP:=h
theorem QL(h:qP:=by
 have HX:=Hd (HX1.o.trans hR.drew_ext);clear hR hG;simp only [Ah,Act.put,List.setIfInBounds_toArray,List.set_cons_succ,List.set_cons_zero,Nat.zero_add,Nat.reduceAdd,hz];clear hz;exact PJ):qP:=h
theorem Vy(l:List Dep)(frm:List BA)(x:BA)(A C:OA)(ca cc:Nat)(w:World)(S T:NP)(hA:RDeps w S A l)(hC:Strs w T C frm)(hsm:frm.length+l.length<=100000) :
  Cl 162 #[.slice A l.length ca,.agg #[.slice C frm.length cc,.string x]] w (Ae w (JX l frm x)):=by
 obtain ⟨w1,hw1⟩:=eqx (w.alloc (.cells #[.slice C frm.length cc,.string x] 69));have hx1:Ext w w1:=(by rw [hw1];exact (Ext.refl _).alloc _);obtain ⟨HX1,HA,HC,HG,Y⟩:=Hd5 hx1 (hA.keep (hx1.kept _)) (hC.keep (hx1.kept _)) (show Blk w1 w.heap.size 69 #[.slice C frm.length cc,.string x] by rw [hw1];exact Blk.new _ _ _) hw1;clear hA hC hx1 hw1
 go_enter func162,ntmps162
 go_upto_region 1 with fail
 rw [<-Y.o];obtain ⟨g,hg⟩:=eqx w.heap.size;rw [<-hg] at HG;rw [<-hg];clear Y hg;refine BZ AD (λi=>[i]) AD LR LR.refl LR.trans (LN (al0)) (gMp g l frm x A ca C cc) (FvA _ _ _ _ _ _ _ _) gh0 (LN.zero _) ⟨?_,?_,?_,?_,?_,?_,?_,?_,trivial⟩ ?_
 ·exact Lp
 ·exact Lp
 ·exact Sr
 ·refine LinStep.yes λvals γ w' ρ hR hN hp hρ hc hf hg=>⟨rfl,?_⟩;have e5:ρ (.tmp 5)=.slice A l.length ca:=(hρ 5).trans (hp 0 AB);have e7:ρ (.tmp 7)=.slice C frm.length cc:=(hρ 7).trans (hp 2 AB);have hx:=hR.drew_ext;have HR:=Hd hR;have HN:=Hd hN;clear hR hN hp hρ hx;go_light;go_simp;refine (Vn l frm A C ca cc _ _ _ (HA.o.keep (HR.o.drew_ext.kept _)) (HC.o.keep (HR.o.drew_ext.kept _)) AA).mono ?_;rintro e' w3 ⟨ks,O,A3,c3,he,hc3,U,hx3⟩;refine ⟨_,he,γ,IFA γ hx3,λ_ _ _ h=>h,ks,A3,c3,O,rfl,U.mono λb _ hb => ?_⟩;rintro ⟨k',hk'⟩;have:=HR.o.inb0 k' _ hk';unfold BO at hb;omega
 ·exact Lp
 ·exact UK
 ·refine LinStep.yes λvals γ w' ρ hR hN hp hρ hc hf hg=>⟨rfl,?_⟩;obtain ⟨ks,A3,c3,O,hv3,U⟩:=hp 3 AB;have e8:ρ (.tmp 8)=_:=(hρ 8).trans hv3;have Z:=Hd O;have a8:=Hd U;clear O hv3 U;have a9:ρ (.tmp 10)=.string x:=(hρ 10).trans (hp 5 AB);have hx:=hR.drew_ext;have HR:=Hd hR;have HN:=Hd hN;clear hR hN hp hρ hx;go_light;go_simp;refine (Bu A3 c3 (An ks) x _ _ a8.o).mono ?_;rintro e' w3 ⟨he,rfl⟩;rw [DbA Z.o] at he;exact ⟨_,he,γ,LR.refl _ _,λ_ _ _ h=>h,rfl⟩
 ·exact Lp
 ·intro vals γ w' hR hG;have hz:vals 7=.bool (JX l frm x):=hG 7 AB;exact QL
noncomputable def vMr (g:Nat) (l:List Dep) (frm:List BA) (x:BA) (A:OA) (ca:Nat) (C:OA) (cc:Nat):Nat->Value
 |0=>.slice A l.length ca
 |1=>.pointer (some ⟨g,0,none⟩)
 |2=>.slice C frm.length cc
 |4=>.pointer (some ⟨g,1,none⟩)
 |5=>.string x
 |7=>.bool (JX l frm x)
 |8=>.bool (JX l frm x)
 |_=>undef
def gMr(g:Nat)(l:List Dep)(frm:List BA)(x:BA)(A:OA)(ca:Nat)(C:OA)(cc:Nat)(ix:Nat)(vl:List Value)(γ:Gh)(w':World):Prop:=match vl with
 |[v]=>if ix=3 then (∃ (ks:List BA) (A':OA) (c':Nat),IsClosure l frm ks/\v=.slice A' ks.length c'/\Strs w' (Ec γ) A' ks) else if ix=6 then (∃ n:Int,v=.I n/\decide (0<=n)=JX l frm x) else v=vMr g l frm x A ca C cc ix
 |_=>True
theorem FzA(g:Nat)(l:List Dep)(frm:List BA)(x:BA)(A:OA)(ca:Nat)(C:OA)(cc:Nat):∀ ix vl γ w γ' w',LR γ w γ' w'->gMr g l frm x A ca C cc ix vl γ w->gMr g l frm x A ca C cc ix vl γ' w':=by
 intro ix vl γ w γ' w' r h
 match vl,h with
 |[v],h =>
  unfold gMr at h|-;by_cases h3:ix=3
  ·exact R2
  simp only [if_neg h3] at h|-;by_cases h6:ix=6
  ·simp only [if_pos h6] at h|-;exact h
  simp only [if_neg h6] at h|-;exact h
 |[],_=>trivial
 |_::_::_,_=>trivial
theorem Yv(l:List Dep)(frm:List BA)(x:BA)(A C:OA)(ca cc:Nat)(w:World)(S T:NP)(hA:RDeps w S A l)(hC:Strs w T C frm)(hsm:frm.length+l.length<=100000) :
  Cl 120 #[.slice A l.length ca,.agg #[.slice C frm.length cc,.string x]] w (Ae w (JX l frm x)):=by
 obtain ⟨w1,hw1⟩:=eqx (w.alloc (.cells #[.slice C frm.length cc,.string x] 69));have hx1:Ext w w1:=(by rw [hw1];exact (Ext.refl _).alloc _);obtain ⟨HX1,HA,HC,HG,Y⟩:=Hd5 hx1 (hA.keep (hx1.kept _)) (hC.keep (hx1.kept _)) (show Blk w1 w.heap.size 69 #[.slice C frm.length cc,.string x] by rw [hw1];exact Blk.new _ _ _) hw1;clear hA hC hx1 hw1
 go_enter func120,ntmps120
 go_upto_region 1 with fail
 rw [<-Y.o];obtain ⟨g,hg⟩:=eqx w.heap.size;rw [<-hg] at HG;rw [<-hg];clear Y hg;refine BZ AD (λi=>[i]) AD LR LR.refl LR.trans (LN (al0)) (gMr g l frm x A ca C cc) (FzA _ _ _ _ _ _ _ _) gh0 (LN.zero _) ⟨?_,?_,?_,?_,?_,?_,?_,?_,?_,trivial⟩ ?_
 ·exact Lp
 ·exact Lp
 ·exact Sr
 ·refine LinStep.yes λvals γ w' ρ hR hN hp hρ hc hf hg=>⟨rfl,?_⟩;have e5:ρ (.tmp 5)=.slice A l.length ca:=(hρ 5).trans (hp 0 AB);have e7:ρ (.tmp 7)=.slice C frm.length cc:=(hρ 7).trans (hp 2 AB);have hx:=hR.drew_ext;have HR:=Hd hR;have HN:=Hd hN;clear hR hN hp hρ hx;go_light;go_simp;refine (YW l frm A C ca cc _ _ _ (HA.o.keep (HR.o.drew_ext.kept _)) (HC.o.keep (HR.o.drew_ext.kept _)) AA).mono ?_;rintro e' w3 ⟨ks,O,hss,A3,c3,he,a9,U,hx3⟩;refine ⟨_,he,γ,IFA γ hx3,λ_ _ _ h=>h,ks,A3,c3,O,rfl,U.mono λb _ hb => ?_⟩;rintro ⟨k',hk'⟩;have:=HR.o.inb0 k' _ hk';omega
 ·exact Lp
 ·exact UK
 ·refine LinStep.yes λvals γ w' ρ hR hN hp hρ hc hf hg=>⟨rfl,?_⟩;obtain ⟨ks,A3,c3,O,hv3,U⟩:=hp 3 AB;have e8:ρ (.tmp 8)=_:=(hρ 8).trans hv3;have Z:=Hd O;have a8:=Hd U;clear O hv3 U;have b0:ρ (.tmp 10)=.string x:=(hρ 10).trans (hp 5 AB);have hx:=hR.drew_ext;have HR:=Hd hR;have HN:=Hd hN;clear hR hN hp hρ hx;go_light;go_simp;refine (Ei A3 c3 ks x _ _ a8.o).mono ?_;rintro e' w3 ⟨he,rfl⟩;exact ⟨_,he,γ,LR.refl _ _,λ_ _ _ h=>h,_,rfl,FTA Z.o x⟩
 ·refine LinStep.yes λvals γ w' ρ hR hN hp hρ hc hf hg=>⟨rfl,?_⟩;obtain ⟨n,hv6,hn⟩:=hp 6 AB;have b3:ρ (.tmp 11)=_:=(hρ 11).trans hv6;have HNN:=Hd hn;clear hv6 hn;have hx:=hR.drew_ext;have HR:=Hd hR;have HN:=Hd hN;clear hR hN hp hρ hx;go_light;go_simp;exact ⟨γ,LR.refl _ _,λ_ _ _ h=>h,congrArg Value.bool HNN.o⟩
 ·exact Lp
 ·intro vals γ w' hR hG;have hz:vals 8=.bool (JX l frm x):=hG 8 AB;exact QL

def Eu(a:Abs)(x:BA):Bool:=Aw a.cols x||a.deps.any λd=>Aw d.frm x||decide (d.tov=x)
noncomputable def V6 (a:Abs) (d:Dep):Bool:=Eu a d.tov&&d.frm.all (Eu a)&&JX a.deps d.frm d.tov
noncomputable def DK (l:List Dep) (a:Abs):List Dep:=l.filter (V6 a)
noncomputable def EE (x y:Abs):List BA:=if bt x.kinds 5=false then y.cols else if bt y.kinds 5=false then x.cols else x.cols.filter (Aw y.cols)
noncomputable def BJ (x y:Abs):List Dep:=if bt x.kinds 5=false then y.deps else if bt y.kinds 5=false then x.deps else DK x.deps y++DK y.deps x
noncomputable def F7 (x y:Abs):Abs where
 kinds:=bits .or .i64 x.kinds y.kinds
 tx:=BW x.tx y.tx
 nu:=Cc x.nu y.nu
 dl:=(Cb (x.dl,x.dh) (y.dl,y.dh)).1
 dh:=(Cb (x.dl,x.dh) (y.dl,y.dh)).2
 bo:=bits .or .i64 x.bo y.bo
 rl:=(Cb (x.rl,x.rh) (y.rl,y.rh)).1
 rh:=(Cb (x.rl,x.rh) (y.rl,y.rh)).2
 cols:=EE x y
 deps:=BJ x y
 errs:=x.errs||y.errs
noncomputable def Fk (a b:Abs):Abs:=AX (F7 (AX a) (AX b))
def I1(x y:Abs):Abs where
 kinds:=bits .and .i64 x.kinds y.kinds
 tx:=DN x.tx y.tx
 nu:=NB x.nu y.nu
 dl:=(CZ (x.dl,x.dh) (y.dl,y.dh)).1
 dh:=(CZ (x.dl,x.dh) (y.dl,y.dh)).2
 bo:=bits .and .i64 x.bo y.bo
 rl:=(CZ (x.rl,x.rh) (y.rl,y.rh)).1
 rh:=(CZ (x.rl,x.rh) (y.rl,y.rh)).2
 cols:=x.cols++y.cols
 deps:=x.deps++y.deps
 errs:=x.errs&&y.errs
def Gq(a b:Abs):Abs:=AX (I1 (AX a) (AX b))
noncomputable def XB (x y:Abs):Bool :=
 CM x.kinds y.kinds&&(!x.errs||y.errs)&&(!bt x.kinds 1||Dr x.tx y.tx)&&(!bt x.kinds 2||F5 x.nu y.nu) &&
  (!bt x.kinds 3||decide (y.dl<=x.dl/\x.dh<=y.dh))&&CM x.bo y.bo &&
  (!bt x.kinds 5||(decide (y.rl<=x.rl/\x.rh<=y.rh)&&y.cols.all (Aw x.cols)&&decide ((DK y.deps x).length=y.deps.length)))
noncomputable def KA (a b:Abs):Bool:=XB (AX a) (AX b)

theorem Og(h:ED a v=true)(hx:Eu a x=true):x∈v.cols:=by
 unfold ED at h;simp only [Bool.and_eq_true,List.all_eq_true] at h;obtain ⟨⟨_,h3⟩,h4⟩:=h;unfold Eu at hx;rw [Bool.or_eq_true,Ao,List.any_eq_true] at hx
 rcases hx with hx|⟨d,hd,hx⟩
 ·exact (Ao _ _).1 (h3 x hx)
 ·rw [Bool.or_eq_true,Ao,decide_eq_true_eq] at hx;obtain ⟨k1,_,k2,_⟩:=EU.1 (h4 d hd)
  rcases hx with hx|hx
  ·exact k2 x hx
  ·rw [<-hx];exact k1
theorem BnA(h:BC v=true)(hk:v.kind=5):EF v.cols v.rows=true:=by
 have h1:=(OC (N9 h hk)).2.2.2.2;unfold EF;rw [List.all_eq_true];intro r hr;have h2:=h1 r hr;unfold Ew at h2;rw [Bool.and_eq_true] at h2;exact h2.1
theorem NV(hr:BC v=true)(hk:v.kind=5)(h:ED a v=true)(hd:V6 a d=true):BH v.cols v.rows d.frm d.tov=true:=by
 unfold V6 at hd;rw [Bool.and_eq_true,Bool.and_eq_true,List.all_eq_true] at hd;obtain ⟨⟨_,h2⟩,h3⟩:=hd;have Y:∀ e∈a.deps,BH v.cols v.rows e.frm e.tov=true:=by
  unfold ED at h;simp only [Bool.and_eq_true,List.all_eq_true] at h;exact h.2
 have O:∀ x∈d.frm,x∈v.cols:=λx hx=>Og h (h2 x hx);have U:=BnA hr hk;unfold JX at h3;have h4:=(@decide_eq_true_iff _ (Classical.propDecidable _)).1 h3;refine h4 (λx=>BH v.cols v.rows d.frm x=true) (λx hx => ?_) (λe he hf => ?_)
 ·exact EU.2 ⟨O x hx,U,O,λr _ o _ hf=>hf x hx⟩
 ·obtain ⟨k1,_,_,k4⟩:=EU.1 (Y e he);refine EU.2 ⟨k1,U,O,λr hr o ho hf1=>k4 r hr o ho λf hf' => ?_⟩;exact (EU.1 (hf f hf')).2.2.2 r hr o ho hf1
theorem G3(h:AW a v=true):BC v=true:=by
 unfold AW at h;rw [Bool.and_eq_true] at h;exact h.1
theorem DI(hr:BC v=true):AW a v=if v.kind=0 then a.errs else Ha a v:=by
 unfold AW;rw [hr,Bool.true_and]
theorem DuA{x y:Abs}(hr:BC v=true)(hk:v.kind=5)(h:(bt x.kinds 5=true/\ED x v=true)\/(bt y.kinds 5=true/\ED y v=true)):ED (F7 x y) v=true:=by
 have O:inP (Cb (x.rl,x.rh) (y.rl,y.rh)) v.rows.length:=by
  refine O9 ?_
  rcases h with ⟨_,h⟩|⟨_,h⟩
  ·left;unfold ED at h;simp only [Bool.and_eq_true,decide_eq_true_eq] at h;exact h.1.1
  ·right;unfold ED at h;simp only [Bool.and_eq_true,decide_eq_true_eq] at h;exact h.1.1
 have hc:∀ c∈EE x y,c∈v.cols:=by
  intro c hc;unfold EE at hc
  rcases h with ⟨hb,h⟩|⟨hb,h⟩
  ·rw [hb] at hc;simp only [Bool.true_eq_false,if_false] at hc;refine Og h ?_;unfold Eu;rw [Bool.or_eq_true,Ao];left;split at hc
   ·exact hc
   ·exact (List.mem_filter.1 hc).1
  ·refine Og h ?_;unfold Eu;rw [Bool.or_eq_true,Ao];left;rw [hb] at hc;simp only [Bool.true_eq_false,if_false] at hc;split at hc
   ·exact hc
   ·exact (Ao _ _).1 (List.mem_filter.1 hc).2
 have hd:∀ d∈BJ x y,BH v.cols v.rows d.frm d.tov=true:=by
  intro d hd;unfold BJ at hd;have own:∀ {z:Abs},ED z v=true->∀ e∈z.deps,BH v.cols v.rows e.frm e.tov=true:=by
   intro z hz;unfold ED at hz;simp only [Bool.and_eq_true,List.all_eq_true] at hz;exact hz.2
  rcases h with ⟨hb,h⟩|⟨hb,h⟩
  ·rw [hb] at hd;simp only [Bool.true_eq_false,if_false] at hd;split at hd
   ·exact own h d hd
   ·rw [List.mem_append] at hd
    rcases hd with hd|hd
    ·exact own h d (List.mem_filter.1 hd).1
    ·exact NV hr hk h (List.mem_filter.1 hd).2
  ·rw [hb] at hd;simp only [Bool.true_eq_false,if_false] at hd;split at hd
   ·exact own h d hd
   ·rw [List.mem_append] at hd
    rcases hd with hd|hd
    ·exact NV hr hk h (List.mem_filter.1 hd).2
    ·exact own h d (List.mem_filter.1 hd).1
 unfold ED;simp only [Bool.and_eq_true,decide_eq_true_eq,List.all_eq_true];exact ⟨⟨O,λc hc'=>(Ao _ _).2 (hc c hc')⟩,hd⟩
theorem Mo(x y:Abs)(i:Nat):bt (F7 x y).kinds i=(bt x.kinds i||bt y.kinds i):=Ux _ _ _
theorem Mw(x y:Abs)(i:Nat):bt (I1 x y).kinds i=(bt x.kinds i&&bt y.kinds i):=CN _ _ _
theorem Vw{b:Abs}(h:AW a v=true\/AW b v=true):AW (Fk a b) v=true:=by
 unfold Fk;rw [CL];have hr:BC v=true:=(by rcases h with h|h<;>exact G3 h);rw [<-CL a,<-CL b,DI hr,DI hr] at h;generalize AX a=x at *;generalize AX b=y at *;rw [DI hr];by_cases h0:v.kind=0
 ·rw [if_pos h0] at h|-;rw [if_pos h0] at h;show (x.errs||y.errs)=true;rw [Bool.or_eq_true];exact h
 ·rw [if_neg h0] at h|-;rw [if_neg h0] at h;unfold Ha at h|-;rw [Mo,Mo,Mo,Mo,Mo]
  rcases Dh hr with hk|hk|hk|hk|hk|hk
  ·omega
  ·rw [if_pos hk] at h|-;rw [if_pos hk] at h;simp only [Bool.and_eq_true,Bool.or_eq_true,Cf] at h|-
   rcases h with h|h
   ·exact ⟨Or.inl h.1,Wj h.2⟩
   ·exact ⟨Or.inr h.1,BkA h.2⟩
  ·simp only [hk,if_true,if_false,show ¬(2:Int)=1 by decide] at h|-;simp only [Bool.and_eq_true,Bool.or_eq_true] at h|-
   rcases h with h|h
   ·exact ⟨Or.inl h.1,YN _ _ _ _ (Or.inl h.2)⟩
   ·exact ⟨Or.inr h.1,YN _ _ _ _ (Or.inr h.2)⟩
  ·simp only [hk,if_true,if_false,show ¬(3:Int)=1 by decide,show ¬(3:Int)=2 by decide] at h|-;simp only [Bool.and_eq_true,Bool.or_eq_true,decide_eq_true_eq] at h|-
   rcases h with h|h
   ·exact ⟨Or.inl h.1,O9 (a:=(x.dl,x.dh)) (b:=(y.dl,y.dh)) (Or.inl h.2)⟩
   ·exact ⟨Or.inr h.1,O9 (a:=(x.dl,x.dh)) (b:=(y.dl,y.dh)) (Or.inr h.2)⟩
  ·simp only [hk,if_true,if_false,show ¬(4:Int)=1 by decide,show ¬(4:Int)=2 by decide,show ¬(4:Int)=3 by decide] at h|-;have e:bt (F7 x y).bo v.n.toNat=(bt x.bo v.n.toNat||bt y.bo v.n.toNat):=Ux _ _ _;rw [e];simp only [Bool.and_eq_true,Bool.or_eq_true] at h|-
   rcases h with h|h
   ·exact ⟨Or.inl h.1,Or.inl h.2⟩
   ·exact ⟨Or.inr h.1,Or.inr h.2⟩
  ·simp only [hk,if_false,show ¬(5:Int)=1 by decide,show ¬(5:Int)=2 by decide,show ¬(5:Int)=3 by decide,show ¬(5:Int)=4 by decide] at h|-;rw [Bool.and_eq_true,Bool.and_eq_true] at h;rw [Bool.and_eq_true,Bool.or_eq_true];exact ⟨by rcases h with h|h;exact Or.inl h.1;exact Or.inr h.1,DuA hr hk h⟩
theorem V8(a b:Abs)(v:Val):AW (Gq a b) v=(AW a v&&AW b v):=by
 unfold Gq;rw [CL,<-CL a,<-CL b];generalize AX a=x;generalize AX b=y;unfold AW;cases hr:BC v
 ·rfl
 ·simp only [Bool.true_and];by_cases h0:v.kind=0
  ·rw [if_pos h0,if_pos h0,if_pos h0];rfl
  ·rw [if_neg h0,if_neg h0,if_neg h0];unfold Ha;rw [Mw,Mw,Mw,Mw,Mw];rw [Bool.eq_iff_iff]
   rcases Dh hr with hk|hk|hk|hk|hk|hk
   ·omega
   ·simp only [hk,if_true,Bool.and_eq_true,Cf];have:=EvA x.tx y.tx v.s.data.toList
    change (_/\InS (DN x.tx y.tx) _)↔_
    rw [this];exact and_and_and_comm
   ·simp only [hk,if_true,if_false,show ¬(2:Int)=1 by decide,Bool.and_eq_true]
    change (_/\BD (NB x.nu y.nu) _ _=true)↔_
    rw [CpA];exact and_and_and_comm
   ·simp only [hk,if_true,if_false,show ¬(3:Int)=1 by decide,show ¬(3:Int)=2 by decide,Bool.and_eq_true,decide_eq_true_eq];have:=M2 (x.dl,x.dh) (y.dl,y.dh) v.n
    change (_/\inP (CZ (x.dl,x.dh) (y.dl,y.dh)) v.n)↔_
    rw [this];exact and_and_and_comm
   ·simp only [hk,if_true,if_false,show ¬(4:Int)=1 by decide,show ¬(4:Int)=2 by decide,show ¬(4:Int)=3 by decide];have e:bt (I1 x y).bo v.n.toNat=(bt x.bo v.n.toNat&&bt y.bo v.n.toNat):=CN _ _ _;rw [e];simp only [Bool.and_eq_true];exact and_and_and_comm
   ·simp only [hk,if_false,show ¬(5:Int)=1 by decide,show ¬(5:Int)=2 by decide,show ¬(5:Int)=3 by decide,show ¬(5:Int)=4 by decide,Bool.and_eq_true];have:ED (I1 x y) v=true↔ED x v=true/\ED y v=true:=by
     unfold ED;simp only [Bool.and_eq_true,decide_eq_true_eq,List.all_eq_true];have hm:=M2 (x.rl,x.rh) (y.rl,y.rh) v.rows.length
     change ((inP (CZ (x.rl,x.rh) (y.rl,y.rh)) v.rows.length/\∀ c∈x.cols++y.cols,_)/\∀ d∈x.deps++y.deps,_)↔_
     rw [hm];simp only [List.mem_append,or_imp,forall_and];unfold inP;constructor
     ·rintro ⟨⟨⟨h1,h2⟩,h3,h4⟩,h5,h6⟩;exact ⟨⟨⟨h1,h3⟩,h5⟩,⟨h2,h4⟩,h6⟩
     ·rintro ⟨⟨⟨h1,h3⟩,h5⟩,⟨h2,h4⟩,h6⟩;exact ⟨⟨⟨h1,h2⟩,h3,h4⟩,h5,h6⟩
    rw [this];exact and_and_and_comm
theorem ARA{α:Type}{p:α->Bool}{l:List α}(h:(l.filter p).length=l.length):∀ x∈l,p x=true:=by
 have:=List.filter_sublist (p:=p) (l:=l);have h1:=this.eq_of_length h;intro x hx;rw [<-h1] at hx;exact (List.mem_filter.1 hx).2
