/- Lemmas. No conditions. -/
import Derived.Test.YtaccjdppmmoepaaGreatDoorXq9
import Derived.Sort.Walk0
set_option maxRecDepth 100000
set_option maxHeartbeats 1000000
namespace Go.Proofs.YtaccjdppmmoepaaGreatDoor
open Go Go.RowKit Tryz
variable {qP:Prop}{A:OA}{a x:Sh}{base n:Nat}{c:Abs}{frm ks l out:List BA}{s:BA}{v:Val}{w:World}{xs:List Value}

def Fm(x y:BA):Bool:=Op.bytesLess x.toList y.toList
theorem GE(x y:BA):Fm x y=true↔x.data.toList<y.data.toList:=by
 unfold Fm;rw [bytesLess_eq,decide_eq_true_iff,ByteArray.toList_eq,ByteArray.toList_eq]
theorem GJA{x y:BA}(h:x.data.toList=y.data.toList):x=y:=by
 cases x;cases y;simp at h;rw [h]
def EW(s:BA):List BA->List BA
 |[]=>[s]
 |x::l=>if Fm x s=true then x::EW s l else if x=s then x::l else s::x::l
def SS(l:List BA):Prop:=l.Pairwise λa b=>a.data.toList<b.data.toList
theorem Sd(h:qP:=by
 rintro (h|h|h)
 ·exact .inr (.inl h)
 ·exact .inl h
 ·exact .inr (.inr h)):qP:=h
theorem Cv(s y:BA):∀ l:List BA,y∈EW s l↔y=s\/y∈l
 |[]=>by simp [EW]
 |x::l=>by
  have ih:=Cv s y l;unfold EW;split
  ·rw [List.mem_cons,ih,List.mem_cons];constructor
   ·exact Sd
   ·exact Sd
  ·split
   ·rename_i hx;rw [List.mem_cons];constructor
    ·exact .inr
    ·rintro (h|h)
     ·exact .inl (h.trans hx.symm)
     ·exact h
   ·rw [List.mem_cons]
theorem SS.ins(h:SS l)(s:BA):SS (EW s l):=by
 induction l with
 |nil=>simp [SS,EW]
 |cons x l ih =>
  have h1:=List.pairwise_cons.1 h;unfold EW;split
  ·rename_i hlt;refine List.pairwise_cons.2 ⟨λy hy => ?_,ih h1.2⟩
   rcases (Cv s y l).1 hy with rfl|hy
   ·exact (GE _ _).1 hlt
   ·exact h1.1 y hy
  ·rename_i hlt;split
   ·exact h
   ·rename_i hne;have O:s.data.toList<x.data.toList:=by
     have h3:¬x.data.toList<s.data.toList:=λe=>hlt ((GE _ _).2 e);exact Std.lt_of_le_of_ne (List.not_lt.1 h3) (λe=>hne (GJA e.symm))
    refine List.pairwise_cons.2 ⟨λy hy => ?_,h⟩
    rcases List.mem_cons.1 hy with rfl|hy
    ·exact O
    ·exact List.lt_trans O (h1.1 y hy)
theorem SS.nodup(h:SS l):l.Nodup:=by
 refine List.Pairwise.imp ?_ h;rintro a b hab rfl;exact List.lt_irrefl _ hab
theorem SS.sort(h:SS l):An l=l:=by
 unfold An;rw [List.mergeSort_of_pairwise]
 ·rw [List.map_map];exact List.map_id _
 ·rw [List.pairwise_map];exact h.imp λhab=>by simp only [decide_eq_true_eq];exact List.le_of_lt hab
theorem Rr{s:BA} : ∀ {l:List BA} {k:Nat},k<=l.length->(∀ j (h:j<l.length),j<k->Fm l[j] s=true)->EW s l=l.take k++EW s (l.drop k)
 |l,0,_,_=>by simp
 |[],k+1,hk,_=>by simp at hk
 |x::l,k+1,hk,h=>by
  have h0:Fm x s=true:=h 0 AC AA;have ih:=Rr (s:=s) (l:=l) (k:=k) Br λj hj hjk=>by
   have:=h (j+1) ET AA
   simpa using this
  simp only [EW,h0,if_true,List.take_succ_cons,List.drop_succ_cons,List.cons_append];rw [ih]
theorem Nf{k:Nat}(hk:k<l.length)(h:∀ j (h:j<l.length),j<k->Fm l[j] s=true)(hn:Fm l[k] s=false):EW s l=if l[k]=s then l else l.take k++s::l.drop k:=by
 rw [Rr (Nat.le_of_lt hk) h,List.drop_eq_getElem_cons hk,EW,if_neg (by simp [hn])];split
 ·rw [<-List.drop_eq_getElem_cons hk,List.take_append_drop]
 ·rfl
theorem YD(h:∀ j (h:j<l.length),j<l.length->Fm l[j] s=true):EW s l=l++[s]:=by
 rw [Rr (Al) h,List.take_length,List.drop_length];rfl
/- The reference's Insert. Conditions: the list reads as data. -/

def Y4(A:OA)(n c:Nat):Prop:=(A=none/\n=0/\c=0)\/∃ b o,A=some ⟨b,o,none⟩/\n<=c
theorem Own.ok{e sz c:Nat}(h:Own w base e sz A n c xs):Y4 A n c:=by
 rcases h.2 with ⟨hv,hn⟩|⟨g,cap,cur,hv,_,_,O,_⟩
 ·injection hv with h1 _ h2;exact .inl ⟨h1,hn,h2⟩
 ·injection hv with h1 _ h2;exact .inr ⟨g,0,h1,by rw [h2];exact O⟩
def Wq(B0:Nat)(w:World)(l:List BA)(e:Ending)(J:World):Prop:=∃ A' c',e=.returned (.slice A' l.length c')/\Y4 A' l.length c'/\Strs J (λb=>B0<=b) A' l/\Ext w J
theorem Rd.drop{S:NP}{b o:Nat}(h:Rd w S (some ⟨b,o,none⟩) xs)(k:Nat):Rd w S (some ⟨b,o+k,none⟩) (xs.drop k):=by
 rcases h with h|⟨b',o',hA,hS,hlt,hc⟩
 ·subst h;exact Or.inl AC
 ·injection hA with hA;injection hA with h1 h2;subst h1;subst h2;refine Or.inr ⟨b,o+k,rfl,hS,hlt,λj u hj => ?_⟩;rw [List.getElem?_drop] at hj;have:=hc _ u hj;rwa [<-Nat.add_assoc] at this
theorem Strs.of_own{c:Nat}{B0:Nat}(h:Own w base 9 1 A n c xs)(hB0:B0<=base)(hx:xs=l.map Value.string)(hl:l.length<=4294967296)(hs:∀ s∈l,s.size<=4294967296):Strs w (λb=>B0<=b) A l :=
 ⟨by rw [<-hx];exact h.rd.mono λb _ hb=>Nat.le_trans hB0 (h.blk hb).1,hl,hs⟩
theorem Es(l:List BA):∀ u∈l.map Value.string,u.oneCell'=true:=by
 intro u hu;obtain ⟨x,_,rfl⟩:=List.mem_map.1 hu;rfl
theorem QA(h:qP:=by
 have HRN:=Hd (show ∀ B,Rd (w.alloc (.cells #[.string s] 9)) (λ_=>True) B [] from λB=>Or.inl rfl)
 go_upto_region 7 with (at_builtin;go_must (refine AL rfl (.tmp 35) (.tmp 38) rfl tiS rfl HO1.o rfl (HRN.o _) (by simp) (by simp) (by omega) (by decide) (by simp) ?_);intro A3 c3 w3 hown3 hg3 hat3)
 simp only [List.append_nil,Nat.add_zero] at hown3;obtain ⟨HO3,HX3,HO4⟩:=Hd3 hown3 (Ext.grown (exaa w) hg3 (λb hb=>(HO1.o.blk hb).1)) (show Own (w3.alloc (.cells #[] 9)) w3.heap.size 9 1 (some ⟨w3.heap.size,0,none⟩) 0 0 [] from World.ownsRow_made w3 #[] 0 (Al) (by unfold maxLen;omega) rfl);have HR4:=Hd ((H.o.1.keep (HX3.o.kept _)).keep (Kept.alloc _ _ (.cells #[] 9)));clear hown3 hg3 hat3;have tok:True:=trivial
 go_wp2_with (first|(at_builtin;have _t:=tok;go_must (refine AL rfl (.tmp 40) (.tmp 43) rfl tiS rfl HO4.o rfl HR4.o (by simp) (Es _) (by first|omega|(simp;done)|(simp;omega)) (by decide) (by simp) ?_);intro A4 c4 w4 hown4 hg4 hat4;simp only [Nat.zero_add,List.nil_append] at hown4;have HO44:=Hd hown4;have HX4:=Hd (Ext.grown (exaa w3) hg4 (λb hb=>(HO4.o.blk hb).1));have HR5:=Hd ((HO3.o.rd.mono (T:=λb=>b<w3.heap.size) λb hb _=>hb).keep (HX4.o.kept _));have hsz4:=HX4.o.size;clear hown4 hg4 hat4 tok)|(at_builtin;go_must (refine AL rfl (.tmp 44) (.tmp 45) rfl tiS rfl HO44.o rfl HR5.o (by simp) (by simp [Value.oneCell']) (by first|omega|(simp;done)|(simp;omega)) (by decide) (by omega) ?_);intro A5 c5 w5 hown5 hg5 hat5))
 go_ret;refine ⟨A5,c5,by rw [HI.o];simp,by rw [HI.o];simpa using hown5.ok,?_,(HX3.o.trans HX4.o).grown hg5 (λb hb=>by have:=(HO44.o.blk hb).1;have:=HX3.o.size;omega)⟩;refine Strs.of_own hown5 (Nat.le_trans hB0 HX3.o.size) (by rw [HI.o];simp) (by rw [HI.o];first|(simp;done)|(simp;omega)) λy hy => ?_
 rcases (Cv s y _).1 hy with rfl|hy
 ·exact hs
 ·exact HSZ.o y hy):qP:=h
theorem T7(A:OA)(c:Nat)(l:List BA)(s:BA)(w:World)(B0:Nat)(hB0:B0<=w.heap.size)(h:Strs w (λb=>B0<=b) A l)(hok:Y4 A l.length c)(hs:s.size<=4294967296)(hl:l.length<=1000000) :
  Cl 236 #[.slice A l.length c,.string s] w (Wq B0 w (EW s l)):=by
 have hn:=h.2.1;obtain ⟨HSZ,H,U⟩:=Hd3 h.2.2 h hok;clear h hok
 go_enter func236,ntmps236
 go_wp2
 go_loop [5] (λi=>∃ k:Nat,k<=l.length/\i=.I k/\∀ j (h:j<l.length),j<k->Fm l[j] s=true) (λi=>l.length-(intOf i).toNat)
 case atStart=>exact ⟨0,AN,rfl,AK⟩
 case round =>
  obtain ⟨k,hk,rfl,hall⟩:=hrel;have HA:=Hd hall;clear hall;by_cases hlt:k<l.length
  ·obtain ⟨b1,o1,rfl,z1,c1⟩:=H.o.at_ hlt;have O:l.length<=c:=by
    rcases U.o with ⟨h,_⟩|⟨_,_,_,h⟩
    ·cases h
    ·exact h
   cases hls:Fm l[k] s
   ·have a9:Op.bytesLess l[k].toList s.toList=false:=hls;by_cases heq:l[k]=s
    ·have a8:(l[k].toList==s.toList)=true:=(by rw [Bj];simp [heq]);have HI:=Hd (show EW s l=l by rw [Nf hlt HA.o hls,if_pos heq]);clear hls heq;go_wp2;go_ret;exact ⟨_,c,by rw [HI.o];rfl,by rw [HI.o];exact U.o,by rw [HI.o];exact H.o,Ext.refl w⟩
    ·have a8:(l[k].toList==s.toList)=false:=(by rw [Bj];simp [heq]);have HI:=Hd (show EW s l=l.take k++s::l.drop k by rw [Nf hlt HA.o hls,if_neg heq]);clear hls heq;have HO1:=Hd (IIA (n:=1) (sz:=1) (base:=w.heap.size) (Blk.new w 9 #[.string s]) rfl Bd (Al));have HR1:=Hd ((H.o.1.keep (Kept.alloc _ _ (.cells #[.string s] 9))).drop k);have b3:k<=c:=AA
     go_upto_region 7 with (at_builtin;go_must (refine AL rfl (.tmp 35) (.tmp 38) rfl tiS rfl HO1.o rfl HR1.o AC (λu hu=>Es l u (List.mem_of_mem_drop hu)) AA AB AC ?_);intro A3 c3 w3 hown3 hg3 hat3)
     obtain ⟨HO3,HX3,HO4⟩:=Hd3 hown3 (Ext.grown (exaa w) hg3 (λb hb=>(HO1.o.blk hb).1)) (show Own (w3.alloc (.cells #[] 9)) w3.heap.size 9 1 (some ⟨w3.heap.size,0,none⟩) 0 0 [] from World.ownsRow_made w3 #[] 0 (Al) Bd rfl);have HR4:=Hd (((H.o.1.keep (HX3.o.kept _)).keep (Kept.alloc _ _ (.cells #[] 9))).take k);clear hown3 hg3 hat3;have Y:∀ u∈[Value.string s]++(l.map Value.string).drop k,u.oneCell'=true:=λu hu=>by
      rcases List.mem_append.1 hu with hu|hu
      ·simp at hu;subst hu;rfl
      ·exact Es l u (List.mem_of_mem_drop hu)
     have Z:=Hd Y;clear Y;have tok:True:=trivial
     go_wp2_with (first|(at_builtin;have _t:=tok;go_must (refine AL rfl (.tmp 40) (.tmp 43) rfl tiS rfl HO4.o rfl HR4.o AI (λu hu=>Es l u (List.mem_of_mem_take hu)) AA AB AC ?_);intro A4 c4 w4 hown4 hg4 hat4;simp only [Nat.zero_add,List.nil_append] at hown4;have HO44:=Hd hown4;have HX4:=Hd (Ext.grown (exaa w3) hg4 (λb hb=>(HO4.o.blk hb).1));have HR5:=Hd ((HO3.o.rd.mono (T:=λb=>b<w3.heap.size) λb hb _=>hb).keep (HX4.o.kept _));have hsz4:=HX4.o.size;clear hown4 hg4 hat4 tok)|(at_builtin;go_must (refine AL rfl (.tmp 44) (.tmp 45) rfl tiS rfl HO44.o rfl HR5.o AI Z.o AA AB AA ?_);intro A5 c5 w5 hown5 hg5 hat5))
     go_ret;have hll:(EW s l).length=k+(1+(l.length-k)):=(by rw [HI.o];simp;omega);refine ⟨A5,c5,by rw [hll];rfl,by rw [hll];exact hown5.ok,?_,(HX3.o.trans HX4.o).grown hg5 (λb hb=>by have:=(HO44.o.blk hb).1;have:=HX3.o.size;omega)⟩;refine Strs.of_own hown5 (Nat.le_trans hB0 HX3.o.size) (by rw [HI.o];simp) (by rw [hll];omega) λy hy => ?_
     rcases (Cv s y l).1 hy with rfl|hy
     ·exact hs
     ·exact HSZ.o y hy
   ·have a9:Op.bytesLess l[k].toList s.toList=true:=hls;have HLS:=Hd hls;clear hls;go_wp2
    go_round
    case rel =>
     refine ⟨k+1,AA,AE,λj h hj => ?_⟩;by_cases hjk:j=k
     ·subst hjk;exact HLS.o
     ·exact HA.o j h AA
    case measure=>simp [intOf];omega
  ·obtain rfl:k=l.length:=AA;have HI:=Hd (show EW s l=l.take l.length++s::l.drop l.length by rw [YD HA.o];simp);have HO1:=Hd (IIA (n:=1) (sz:=1) (base:=w.heap.size) (Blk.new w 9 #[.string s]) rfl Bd (Al))
   rcases U.o with ⟨rfl,h0,rfl⟩|⟨b1,o1,rfl,O⟩
   ·have b0:l=[]:=List.eq_nil_of_length_eq_zero h0;subst b0;clear h0 hlt hk;exact QA
   ·by_cases hcc:l.length<c
    ·have b4:l.length<=c:=O;clear O hlt hk;exact QA
    ·obtain rfl:c=l.length:=AA;clear O hcc hlt hk;exact QA
/- The reference's Closure: the ordered list of the least closed set. Conditions: the arguments read as data, and are few. -/

structure CR(l:List Dep)(frm out:List BA):Prop where
 sorted:SS out
 base:∀ x∈frm,x∈out
 least:∀ T:BA->Prop,(∀ x∈frm,T x)->(∀ d∈l,(∀ x∈d.frm,T x)->T d.tov)->∀ x∈out,T x
def Q7(l:List Dep)(out:List BA):Prop:=∀ d∈l,(∀ x∈d.frm,x∈out)->d.tov∈out
theorem CR.len{l:List Dep}(h:CR l frm out):out.length<=frm.length+l.length:=Part.len ⟨h.sorted.nodup,h.base,h.least⟩
theorem CR.ins{l:List Dep}(h:CR l frm out){d:Dep}(hd:d∈l)(hf:∀ x∈d.frm,x∈out):CR l frm (EW d.tov out) :=
 ⟨h.sorted.ins _,λx hx=>(Cv _ _ _).2 (.inr (h.base x hx)),λT h1 h2 x hx=>by
  rcases (Cv _ _ _).1 hx with rfl|hx
  ·exact h2 d hd λy hy=>h.least T h1 h2 y (hf y hy)
  ·exact h.least T h1 h2 x hx⟩
def BoA(l:List Dep)(out:List BA):Nat:=l.countP λd=>Aw out d.tov
theorem EpA(l:List Dep)(out:List BA):BoA l out<=l.length:=List.countP_le_length
theorem X5{p q:Dep->Bool}(hle:∀ j,p j=true->q j=true){i:Dep}(hp:p i=false)(hq:q i=true):∀ l:List Dep,i∈l->l.countP p+1<=l.countP q
 |x::l,h=>by
  have mono:∀ l:List Dep,l.countP p<=l.countP q:=λl=>List.countP_mono_left λx _ hx=>hle x hx
  rcases List.mem_cons.1 h with rfl|h'
  ·rw [List.countP_cons_of_pos hq,List.countP_cons_of_neg (by simp [hp])];have:=mono l;omega
  ·have ih:=X5 hle hp hq l h';by_cases hx:p x=true
   ·exact TQ
   ·rw [List.countP_cons_of_neg hx];have:=List.countP_cons (p:=q) (a:=x) (l:=l);omega
theorem BMA{l:List Dep}{out0:List BA}{r:Nat}(h0:CR l frm out0)(h:CR l frm out)(hs:∀ x∈out0,x∈out)(hd:∀ d∈l,(∀ x∈d.frm,x∈out0)->d.tov∈out)(hc:Q7 l out0\/r<=BoA l out0):Q7 l out\/r+1<=BoA l out:=by
 by_cases hcl:Q7 l out0
 ·left;have hm:∀ x∈out,x∈out0:=h.least (·∈out0) h0.base hcl;exact λd hd' hf=>hs _ (hcl d hd' λx hx=>hm x (hf x hx))
 ·right;have hr:r<=BoA l out0:=hc.resolve_left hcl;obtain ⟨d,hdl,hf,hn⟩:∃ d,d∈l/\(∀ x∈d.frm,x∈out0)/\d.tov ∉ out0:=by
   apply Classical.byContradiction;intro hno;exact hcl λd hd' hf=>Classical.byContradiction λhn=>hno ⟨d,hd',hf,hn⟩
  have:=X5 (p:=λd=>Aw out0 d.tov) (q:=λd=>Aw out d.tov) (λj hj=>(Ao _ _).2 (hs _ ((Ao _ _).1 hj))) (i:=d) (by rw [Bool.eq_false_iff];exact λe=>hn ((Ao _ _).1 e)) ((Ao _ _).2 (hd d hdl hf)) l hdl;unfold BoA at hr|-;omega
def GpA(w:World)(l:List Dep)(frm:List BA)(e:Ending)(J:World):Prop:=∃ out,IsClosure l frm out/\SS out/\Wq w.heap.size w out e J
theorem ZT(l:List Dep)(frm:List BA)(A B:OA)(ca cb:Nat)(w:World)(S T:NP)(hA:RDeps w S A l)(hB:Strs w T B frm)(hsm:frm.length+l.length<=100000) :
  Cl 204 #[.slice A l.length ca,.slice B frm.length cb] w (GpA w l frm):=by
 have HA:=Hd hA;have HB:=Hd hB;clear hA hB
 go_enter func204,ntmps204
 go_wp2
 go_loopw [6,5] (λi v wr=>∃ (k:Nat) (A':OA) (c':Nat) (out:List BA),k<=frm.length/\i=.I k/\v=.slice A' out.length c'/\out.length<=k/\Y4 A' out.length c'/\Strs wr (λb=>w.heap.size<=b) A' out/\Ext w wr/\SS out/\∀ x,x∈out↔x∈frm.take k) (λi _ _=>frm.length-(intOf i).toNat)
 case atStart=>exact ⟨0,none,0,[],AN,rfl,rfl,Al,.inl ⟨rfl,rfl,rfl⟩,Strs.nil,Ext.refl _,by simp [SS],AC⟩
 case round =>
  obtain ⟨k,A',c',out,hk,rfl,rfl,g4,Z,hst,hext,hss,hmem⟩:=hrel;obtain ⟨O,HST,HE,d6,b8⟩:=Hd5 Z hst hext hss hmem;clear Z hst hext hss hmem;by_cases hlt:k<frm.length
  ·obtain ⟨b1,o1,f8,z1,q1⟩:=(HB.o.keep (HE.o.kept _)).at_ hlt;subst f8
   go_wp2_with fail
   refine (T7 A' c' out frm[k] _ w.heap.size HE.o.size HST.o O.o (HB.o.sz hlt) AA).mono ?_;rintro e1 w1 ⟨A1,c1,rfl,b0,b4,hx1⟩;obtain ⟨b7,b6,HX1⟩:=Hd3 b0 b4 hx1;clear b0 b4 hx1;go_wp2;go_roundw
   case rel =>
    have d3:=d6.o.ins frm[k];have f7:(EW frm[k] out).length<=k+1:=by
     have:=J2 d3.nodup (m:=frm[k]::out) λy hy=>by rcases (Cv _ _ _).1 hy with rfl|hy;exact List.mem_cons_self;exact List.mem_cons_of_mem _ hy
     simp at this;omega
    refine ⟨k+1,A1,c1,EW frm[k] out,AA,AE,rfl,f7,b7.o,b6.o,HE.o.trans HX1.o,d3,λx => ?_⟩;rw [Cv,b8.o,List.take_succ_eq_append_getElem hlt,List.mem_append,List.mem_singleton];exact or_comm
   case measure=>simp [intOf];omega
  ·have a8:CR l frm out:=⟨d6.o,λx hx=>(b8.o x).2 (by rw [List.take_of_length_le AA];exact hx),λT h1 _ x hx=>h1 x (List.mem_of_mem_take ((b8.o x).1 hx))⟩;have U:=Hd a8;clear a8 d6 b8 g4;go_wp2
   go_loopw [7,5] (λi v wr=>∃ (r:Nat) (A':OA) (c':Nat) (out:List BA),r<=l.length+1/\i=.I r/\v=.slice A' out.length c'/\Y4 A' out.length c'/\Strs wr (λb=>w.heap.size<=b) A' out/\Ext w wr/\CR l frm out/\(Q7 l out\/r<=BoA l out)) (λi _ _=>l.length+1-(intOf i).toNat)
   case atStart=>exact ⟨0,A',c',out,AN,rfl,rfl,O.o,HST.o,HE.o,U.o,.inr (AN)⟩
   case round =>
    clear O HST HE U;obtain ⟨r,A',c',Y,hr,rfl,rfl,Z,hst,hext,a8,f3⟩:=hrel;obtain ⟨O,HST,HE,U,HCL⟩:=Hd5 Z hst hext a8 f3;clear Z hst hext a8 f3;by_cases hltr:r<l.length+1
    ·have hle:r<=l.length:=AA;have f5:decide (r<=l.length)=true:=(by simpa using hle);go_wp2;clear f5
     go_loopw [8,5] (λi v wr=>∃ (k:Nat) (A':OA) (c':Nat) (out:List BA),k<=l.length/\i=.I k/\v=.slice A' out.length c'/\Y4 A' out.length c'/\Strs wr (λb=>w.heap.size<=b) A' out/\Ext w wr/\CR l frm out/\(∀ x∈Y,x∈out)/\∀ d∈l.take k,(∀ x∈d.frm,x∈Y)->d.tov∈out) (λi _ _=>l.length-(intOf i).toNat)
     case atStart=>exact ⟨0,A',c',Y,AN,rfl,rfl,O.o,HST.o,HE.o,U.o,λ_ h=>h,AC⟩
     case round =>
      clear O HST HE;obtain ⟨k,A',c',out,hk,rfl,rfl,Z,hst,hext,a8,d5,f4⟩:=hrel;obtain ⟨O,HST,HE,a9,b5,b9⟩:=Hd6 Z hst hext a8 d5 f4;clear Z hst hext a8 d5 f4;by_cases hltk:k<l.length
      ·obtain ⟨b2,o2,B2,c2,g6,z2,p1,p2,p3,p4,p5⟩:=(HA.o.keep (HE.o.kept _)).at_ hltk;subst g6;have f9:=Hd p5;have g8:=p5.2.1;clear p5;go_wp2
       go_loop [10,9] (λi v=>∃ (j:Nat) (al:Bool),j<=l[k].frm.length/\i=.I j/\v=.bool al/\al=(l[k].frm.take j).all (Aw out)) (λi _=>l[k].frm.length-(intOf i).toNat)
       case atStart=>exact ⟨0,true,AN,rfl,rfl,rfl⟩
       case round =>
        obtain ⟨j,al,hj,rfl,rfl,f1⟩:=hrel;have HAL:=Hd f1;clear f1;by_cases hltj:j<l[k].frm.length
        ·have f2:(l[k].frm.take (j+1)).all (Aw out)=(al&&Aw out l[k].frm[j]):=by
          rw [List.take_succ_eq_append_getElem hltj,List.all_append,<-HAL.o];simp
         have f0:=Hd f2;clear f2;cases al
         ·go_wp2
          go_round
          case rel=>exact ⟨j+1,false,AA,AE,rfl,by rw [f0.o];rfl⟩
          case measure=>simp [intOf];omega
         ·obtain ⟨b3,o3,g0,z3,q3⟩:=f9.o.at_ hltj;subst g0
          go_wp2_with fail
          refine (Ei A' c' out l[k].frm[j] _ _ HST.o).mono ?_;rintro e1 w1 ⟨rfl,rfl⟩;go_wp2
          go_round
          case rel=>exact ⟨j+1,Aw out l[k].frm[j],AA,AE,rfl,by rw [f0.o];rfl⟩
          case measure=>simp [intOf];omega
        ·have hall:al=l[k].frm.all (Aw out):=(by rw [HAL.o,List.take_of_length_le AA]);have d7:=Hd hall;clear hall HAL;cases al
         ·go_wp2;go_roundw
          case rel =>
           refine ⟨k+1,A',c',out,AA,AE,rfl,O.o,HST.o,HE.o,a9.o,b5.o,λd hd hf => ?_⟩;rw [List.take_succ_eq_append_getElem hltk] at hd
           rcases List.mem_append.1 hd with hd|hd
           ·exact b9.o d hd hf
           ·simp at hd;subst hd;have:l[k].frm.all (Aw out)=true:=List.all_eq_true.2 λx hx=>(Ao _ _).2 (b5.o x (hf x hx));rw [<-d7.o] at this;cases this
          case measure=>simp [intOf];omega
         ·have d9:∀ x∈l[k].frm,x∈out:=λx hx=>(Ao _ _).1 (List.all_eq_true.1 d7.o.symm x hx);have HIN:=Hd d9;have hlo:=a9.o.len;clear d9
          go_wp2_with fail
          refine (T7 A' c' out l[k].tov _ w.heap.size HE.o.size HST.o O.o p4 AA).mono ?_;rintro e1 w1 ⟨A1,c1,rfl,b0,b4,hx1⟩;obtain ⟨b7,b6,HX1⟩:=Hd3 b0 b4 hx1;clear b0 b4 hx1;go_wp2;go_roundw
          case rel =>
           refine ⟨k+1,A1,c1,EW l[k].tov out,AA,AE,rfl,b7.o,b6.o,HE.o.trans HX1.o,a9.o.ins (List.getElem_mem hltk) HIN.o,λx hx=>(Cv _ _ _).2 (.inr (b5.o x hx)),λd hd hf => ?_⟩;rw [List.take_succ_eq_append_getElem hltk] at hd
           rcases List.mem_append.1 hd with hd|hd
           ·exact (Cv _ _ _).2 (.inr (b9.o d hd hf))
           ·simp at hd;subst hd;exact (Cv _ _ _).2 (.inl rfl)
          case measure=>simp [intOf];omega
      ·have hst:=BMA U.o a9.o b5.o (λd hd=>b9.o d (by rw [List.take_of_length_le AA];exact hd)) HCL.o;have d8:=Hd hst;clear hst;go_wp2;go_roundw
       case rel=>exact ⟨r+1,A',c',out,AA,AE,rfl,O.o,HST.o,HE.o,a9.o,d8.o⟩
       case measure=>simp [intOf];omega
    ·have d4:Q7 l Y:=HCL.o.resolve_right λh=>by have:=EpA l Y;omega
     have f6:=Hd d4;clear d4;go_wp2;go_ret;exact ⟨Y,⟨U.o.sorted.nodup,U.o.base,f6.o,U.o.least⟩,U.o.sorted,A',c',rfl,O.o,HST.o,HE.o⟩

noncomputable def JX (l:List Dep) (frm:List BA) (x:BA):Bool:=@decide (∀ T:BA->Prop,(∀ y∈frm,T y)->(∀ d∈l,(∀ y∈d.frm,T y)->T d.tov)->T x) (Classical.propDecidable _)
theorem Xe{l:List Dep}(h:IsClosure l frm ks)(x:BA):JX l frm x=true↔x∈ks:=by
 unfold JX;refine (@decide_eq_true_iff _ (Classical.propDecidable _)).trans ?_;exact ⟨λhx=>hx (·∈ks) h.base h.closed,λhx T h1 h2=>h.least T h1 h2 x hx⟩
theorem EVA{l:List Dep}(h:IsClosure l frm ks)(x:BA):Aw ks x=JX l frm x:=by
 rw [Bool.eq_iff_iff,Xe h,Ao]
theorem DbA{l:List Dep}(h:IsClosure l frm ks)(x:BA):Aw (An ks) x=JX l frm x:=by
 rw [Bool.eq_iff_iff,Xe h,Ao,Ek]
noncomputable def vMp (g:Nat) (l:List Dep) (frm:List BA) (x:BA) (A:OA) (ca:Nat) (C:OA) (cc:Nat):Nat->Value
 |0=>.slice A l.length ca
 |1=>.pointer (some ⟨g,0,none⟩)
 |2=>.slice C frm.length cc
 |4=>.pointer (some ⟨g,1,none⟩)
 |5=>.string x
 |6=>.bool (JX l frm x)
 |7=>.bool (JX l frm x)
 |_=>undef
def gMp(g:Nat)(l:List Dep)(frm:List BA)(x:BA)(A:OA)(ca:Nat)(C:OA)(cc:Nat)(ix:Nat)(vl:List Value)(F:Gh)(J:World):Prop:=match vl with
 |[v]=>if ix=3 then (∃ (ks:List BA) (A':OA) (c':Nat),IsClosure l frm ks/\v=.slice A' (An ks).length c'/\Strs J (Ec F) A' (An ks)) else v=vMp g l frm x A ca C cc ix
 |_=>True
theorem S4(h:qP:=by
 simp only [if_pos h3] at h|-;obtain ⟨ks,a,b,h0,h1,h2⟩:=h;exact ⟨ks,a,b,h0,h1,r.strs h2⟩):qP:=h
theorem FvA(g:Nat)(l:List Dep)(frm:List BA)(x:BA)(A:OA)(ca:Nat)(C:OA)(cc:Nat):∀ ix vl F w γ' J,LR F w γ' J->gMp g l frm x A ca C cc ix vl F w->gMp g l frm x A ca C cc ix vl γ' J:=by
 intro ix vl F w γ' J r h
 match vl,h with
 |[v],h =>
  unfold gMp at h|-;by_cases h3:ix=3
  ·exact S4
  simp only [if_neg h3] at h|-;exact h
 |[],_=>trivial
 |_::_::_,_=>trivial
theorem TD(h:qP:=by
 refine LinStep.yes λV F J L hR hN hp hρ hc hf hg=>⟨rfl,?_⟩;have e6:L (.tmp 6)=.pointer (some ⟨g,0,none⟩):=(hρ 6).trans (hp 1 (by decide));have hx:=hR.drew_ext;have c0:=(HG.o.keep (hx.kept _)).q0;exact Dl):qP:=h
theorem T1(h:qP:=by
 refine LinStep.yes λV F J L hR hN hp hρ hc hf hg=>⟨rfl,?_⟩;have e9:L (.tmp 9)=.pointer (some ⟨g,1,none⟩):=(hρ 9).trans (hp 4 (by decide));have hx:=hR.drew_ext;have c1:=(HG.o.keep (hx.kept _)).q1;exact Dl):qP:=h
theorem SC(h:qP:=by
 have HX:=Hd (HX1.o.trans hR.drew_ext);clear hR hG;simp only [Ah,Act.put,List.setIfInBounds_toArray,List.set_cons_succ,List.set_cons_zero,Nat.zero_add,Nat.reduceAdd,hz];clear hz;exact Sr):qP:=h
theorem Vy(l:List Dep)(frm:List BA)(x:BA)(A C:OA)(ca cc:Nat)(w:World)(S T:NP)(hA:RDeps w S A l)(hC:Strs w T C frm)(hsm:frm.length+l.length<=100000) :
  Cl 146 #[.slice A l.length ca,.agg #[.slice C frm.length cc,.string x]] w (Ae w (JX l frm x)):=by
 obtain ⟨w1,hw1⟩:=eqx (w.alloc (.cells #[.slice C frm.length cc,.string x] 64));have hx1:Ext w w1:=(by rw [hw1];exact (Ext.refl _).alloc _);obtain ⟨HX1,HA,HC,HG,Y⟩:=Hd5 hx1 (hA.keep (hx1.kept _)) (hC.keep (hx1.kept _)) (show Blk w1 w.heap.size 64 #[.slice C frm.length cc,.string x] by rw [hw1];exact Blk.new _ _ _) hw1;clear hA hC hx1 hw1
 go_enter func146,ntmps146
 go_upto_region 1 with fail
 rw [<-Y.o];obtain ⟨g,hg⟩:=eqx w.heap.size;rw [<-hg] at HG;rw [<-hg];clear Y hg;refine BZ AD (λi=>[i]) AD LR LR.refl LR.trans (LN (al0)) (gMp g l frm x A ca C cc) (FvA _ _ _ _ _ _ _ _) gh0 (LN.zero _) ⟨?_,?_,?_,?_,?_,?_,?_,?_,trivial⟩ ?_
 ·exact Lp
 ·exact Lp
 ·exact TD
 ·refine LinStep.yes λV F J L hR hN hp hρ hc hf hg=>⟨rfl,?_⟩;have e5:L (.tmp 5)=.slice A l.length ca:=(hρ 5).trans (hp 0 AB);have e7:L (.tmp 7)=.slice C frm.length cc:=(hρ 7).trans (hp 2 AB);have hx:=hR.drew_ext;have HR:=Hd hR;have HN:=Hd hN;clear hR hN hp hρ hx;go_light;go_simp;refine (Vn l frm A C ca cc _ _ _ (HA.o.keep (HR.o.drew_ext.kept _)) (HC.o.keep (HR.o.drew_ext.kept _)) AA).mono ?_;rintro e' w3 ⟨ks,O,A3,c3,he,hc3,U,hx3⟩;refine ⟨_,he,F,IFA F hx3,λ_ _ _ h=>h,ks,A3,c3,O,rfl,U.mono λb _ hb => ?_⟩;rintro ⟨k',hk'⟩;have:=HR.o.inb0 k' _ hk';unfold BO at hb;omega
 ·exact Lp
 ·exact T1
 ·refine LinStep.yes λV F J L hR hN hp hρ hc hf hg=>⟨rfl,?_⟩;obtain ⟨ks,A3,c3,O,hv3,U⟩:=hp 3 AB;have e8:L (.tmp 8)=_:=(hρ 8).trans hv3;have a8:=Hd O;have Z:=Hd U;clear O hv3 U;have a9:L (.tmp 10)=.string x:=(hρ 10).trans (hp 5 AB);have hx:=hR.drew_ext;have HR:=Hd hR;have HN:=Hd hN;clear hR hN hp hρ hx;go_light;go_simp;refine (JK A3 c3 (An ks) x _ _ Z.o).mono ?_;rintro e' w3 ⟨he,rfl⟩;rw [DbA a8.o] at he;exact ⟨_,he,F,LR.refl _ _,λ_ _ _ h=>h,rfl⟩
 ·exact Lp
 ·intro V F J hR hG;have hz:V 7=.bool (JX l frm x):=hG 7 AB;exact SC
noncomputable def vMr (g:Nat) (l:List Dep) (frm:List BA) (x:BA) (A:OA) (ca:Nat) (C:OA) (cc:Nat):Nat->Value
 |0=>.slice A l.length ca
 |1=>.pointer (some ⟨g,0,none⟩)
 |2=>.slice C frm.length cc
 |4=>.pointer (some ⟨g,1,none⟩)
 |5=>.string x
 |7=>.bool (JX l frm x)
 |8=>.bool (JX l frm x)
 |_=>undef
def gMr(g:Nat)(l:List Dep)(frm:List BA)(x:BA)(A:OA)(ca:Nat)(C:OA)(cc:Nat)(ix:Nat)(vl:List Value)(F:Gh)(J:World):Prop:=match vl with
 |[v]=>if ix=3 then (∃ (ks:List BA) (A':OA) (c':Nat),IsClosure l frm ks/\v=.slice A' ks.length c'/\Strs J (Ec F) A' ks) else if ix=6 then (∃ n:Int,v=.I n/\decide (0<=n)=JX l frm x) else v=vMr g l frm x A ca C cc ix
 |_=>True
theorem EyA(g:Nat)(l:List Dep)(frm:List BA)(x:BA)(A:OA)(ca:Nat)(C:OA)(cc:Nat):∀ ix vl F w γ' J,LR F w γ' J->gMr g l frm x A ca C cc ix vl F w->gMr g l frm x A ca C cc ix vl γ' J:=by
 intro ix vl F w γ' J r h
 match vl,h with
 |[v],h =>
  unfold gMr at h|-;by_cases h3:ix=3
  ·exact S4
  simp only [if_neg h3] at h|-;by_cases h6:ix=6
  ·simp only [if_pos h6] at h|-;exact h
  simp only [if_neg h6] at h|-;exact h
 |[],_=>trivial
 |_::_::_,_=>trivial
theorem ZL(l:List Dep)(frm:List BA)(x:BA)(A C:OA)(ca cc:Nat)(w:World)(S T:NP)(hA:RDeps w S A l)(hC:Strs w T C frm)(hsm:frm.length+l.length<=100000) :
  Cl 157 #[.slice A l.length ca,.agg #[.slice C frm.length cc,.string x]] w (Ae w (JX l frm x)):=by
 obtain ⟨w1,hw1⟩:=eqx (w.alloc (.cells #[.slice C frm.length cc,.string x] 64));have hx1:Ext w w1:=(by rw [hw1];exact (Ext.refl _).alloc _);obtain ⟨HX1,HA,HC,HG,Y⟩:=Hd5 hx1 (hA.keep (hx1.kept _)) (hC.keep (hx1.kept _)) (show Blk w1 w.heap.size 64 #[.slice C frm.length cc,.string x] by rw [hw1];exact Blk.new _ _ _) hw1;clear hA hC hx1 hw1
 go_enter func157,ntmps157
 go_upto_region 1 with fail
 rw [<-Y.o];obtain ⟨g,hg⟩:=eqx w.heap.size;rw [<-hg] at HG;rw [<-hg];clear Y hg;refine BZ AD (λi=>[i]) AD LR LR.refl LR.trans (LN (al0)) (gMr g l frm x A ca C cc) (EyA _ _ _ _ _ _ _ _) gh0 (LN.zero _) ⟨?_,?_,?_,?_,?_,?_,?_,?_,?_,trivial⟩ ?_
 ·exact Lp
 ·exact Lp
 ·exact TD
 ·refine LinStep.yes λV F J L hR hN hp hρ hc hf hg=>⟨rfl,?_⟩;have e5:L (.tmp 5)=.slice A l.length ca:=(hρ 5).trans (hp 0 AB);have e7:L (.tmp 7)=.slice C frm.length cc:=(hρ 7).trans (hp 2 AB);have hx:=hR.drew_ext;have HR:=Hd hR;have HN:=Hd hN;clear hR hN hp hρ hx;go_light;go_simp;refine (ZT l frm A C ca cc _ _ _ (HA.o.keep (HR.o.drew_ext.kept _)) (HC.o.keep (HR.o.drew_ext.kept _)) AA).mono ?_;rintro e' w3 ⟨ks,O,hss,A3,c3,he,a9,U,hx3⟩;refine ⟨_,he,F,IFA F hx3,λ_ _ _ h=>h,ks,A3,c3,O,rfl,U.mono λb _ hb => ?_⟩;rintro ⟨k',hk'⟩;have:=HR.o.inb0 k' _ hk';omega
 ·exact Lp
 ·exact T1
 ·refine LinStep.yes λV F J L hR hN hp hρ hc hf hg=>⟨rfl,?_⟩;obtain ⟨ks,A3,c3,O,hv3,U⟩:=hp 3 AB;have e8:L (.tmp 8)=_:=(hρ 8).trans hv3;have a8:=Hd O;have Z:=Hd U;clear O hv3 U;have b0:L (.tmp 10)=.string x:=(hρ 10).trans (hp 5 AB);have hx:=hR.drew_ext;have HR:=Hd hR;have HN:=Hd hN;clear hR hN hp hρ hx;go_light;go_simp;refine (Ei A3 c3 ks x _ _ Z.o).mono ?_;rintro e' w3 ⟨he,rfl⟩;exact ⟨_,he,F,LR.refl _ _,λ_ _ _ h=>h,_,rfl,EVA a8.o x⟩
 ·refine LinStep.yes λV F J L hR hN hp hρ hc hf hg=>⟨rfl,?_⟩;obtain ⟨n,hv6,hn⟩:=hp 6 AB;have e11:L (.tmp 11)=_:=(hρ 11).trans hv6;have HNN:=Hd hn;clear hv6 hn;have hx:=hR.drew_ext;have HR:=Hd hR;have HN:=Hd hN;clear hR hN hp hρ hx;go_light;go_simp;exact ⟨F,LR.refl _ _,λ_ _ _ h=>h,congrArg Value.bool HNN.o⟩
 ·exact Lp
 ·intro V F J hR hG;have hz:V 8=.bool (JX l frm x):=hG 8 AB;exact SC

def Eu(a:Abs)(x:BA):Bool:=Aw a.cols x||a.deps.any λd=>Aw d.frm x||decide (d.tov=x)
noncomputable def V6 (a:Abs) (d:Dep):Bool:=Eu a d.tov&&d.frm.all (Eu a)&&JX a.deps d.frm d.tov
noncomputable def DK (l:List Dep) (a:Abs):List Dep:=l.filter (V6 a)
noncomputable def EE (x y:Abs):List BA:=if bt x.kinds 5=false then y.cols else if bt y.kinds 5=false then x.cols else x.cols.filter (Aw y.cols)
noncomputable def BJ (x y:Abs):List Dep:=if bt x.kinds 5=false then y.deps else if bt y.kinds 5=false then x.deps else DK x.deps y++DK y.deps x
noncomputable def F7 (x y:Abs):Abs where
 kinds:=bits .or .i64 x.kinds y.kinds
 tx:=BW x.tx y.tx
 nu:=Cc x.nu y.nu
 dl:=(Cb (x.dl,x.dh) (y.dl,y.dh)).1
 dh:=(Cb (x.dl,x.dh) (y.dl,y.dh)).2
 bo:=bits .or .i64 x.bo y.bo
 rl:=(Cb (x.rl,x.rh) (y.rl,y.rh)).1
 rh:=(Cb (x.rl,x.rh) (y.rl,y.rh)).2
 cols:=EE x y
 deps:=BJ x y
 errs:=x.errs||y.errs
noncomputable def Fk (a b:Abs):Abs:=AX (F7 (AX a) (AX b))
def I1(x y:Abs):Abs where
 kinds:=bits .and .i64 x.kinds y.kinds
 tx:=DN x.tx y.tx
 nu:=NB x.nu y.nu
 dl:=(CZ (x.dl,x.dh) (y.dl,y.dh)).1
 dh:=(CZ (x.dl,x.dh) (y.dl,y.dh)).2
 bo:=bits .and .i64 x.bo y.bo
 rl:=(CZ (x.rl,x.rh) (y.rl,y.rh)).1
 rh:=(CZ (x.rl,x.rh) (y.rl,y.rh)).2
 cols:=x.cols++y.cols
 deps:=x.deps++y.deps
 errs:=x.errs&&y.errs
def Gq(a b:Abs):Abs:=AX (I1 (AX a) (AX b))
noncomputable def XB (x y:Abs):Bool :=
 CM x.kinds y.kinds&&(!x.errs||y.errs)&&(!bt x.kinds 1||Dr x.tx y.tx)&&(!bt x.kinds 2||F5 x.nu y.nu) &&
  (!bt x.kinds 3||decide (y.dl<=x.dl/\x.dh<=y.dh))&&CM x.bo y.bo &&
  (!bt x.kinds 5||(decide (y.rl<=x.rl/\x.rh<=y.rh)&&y.cols.all (Aw x.cols)&&decide ((DK y.deps x).length=y.deps.length)))
noncomputable def withinA (a b:Abs):Bool:=XB (AX a) (AX b)


theorem EnA{x:Int}(h:Er x):bits .or .i64 x x=x:=DT (CJ _ _ _) h λi _=>by rw [Ux,Bool.or_self]
theorem CcA{x:Int}(h:Er x):bits .and .i64 x x=x:=DT (CJ _ _ _) h λi _=>by rw [CN,Bool.and_self]
theorem EDA(p1 p2 p3 p4 p5:Bool):Er (Ey p1 p2 p3 p4 p5):=by
 unfold Er;exact Ok
structure CanT(x:Sh):Prop where
 ne:AT x=false
 least:x.least=AQ x
 most:x.most=BE x
 cls:BL x=x.cls
 wf:Er x.cls
theorem GqA(a:Sh):bA a.B=a.b:=He _
theorem HiA(a:Sh):bA a.E=a.e:=He _
theorem YO(h:AT a=false):BW a a=⟨AQ a,BE a,BL a,a.b,a.e⟩:=by
 unfold BW;rw [h];simp only [Bool.false_eq_true,if_false];rw [Hw,NQ,GqA,HiA,EnA (show Er (BL a) from CJ _ _ _),Int.min_self,Int.max_self]
theorem EtA(a:Sh)(h:x.cls=BL a):BL x=BL a:=by
 unfold BL at h|-;rw [h];refine DT (CJ _ _ _) (CJ _ _ _) λi _ => ?_;rw [CN,CN,Bool.and_assoc,Bool.and_self]
theorem CXA(h:AT a=false):CanT (BW a a):=by
 have hne:AT (BW a a)=false:=by
  obtain ⟨l,hl⟩:∃ l,InS a l:=by
   refine Classical.byContradiction λhn => ?_;rw [(Bs a).2 λl hl=>hn ⟨l,hl⟩] at h;cases h
  exact Eg ((Ty h l).2 hl)
 rw [YO h] at hne|-;have U:(a.b.size:Int)<=AQ a/\(a.e.size:Int)<=AQ a/\0<=AQ a:=DQ;have O:BE a<=200:=(by unfold BE;omega);refine ⟨hne,?_,?_,EtA a (x:=⟨AQ a,BE a,BL a,a.b,a.e⟩) rfl,(show Er (BL a) from CJ .and a.cls 110)⟩
 ·show AQ a=max (max (max 0 (AQ a)) (a.b.size:Int)) (a.e.size:Int);omega
 ·show BE a=min (BE a) 200;omega
theorem CanT.join(h:CanT x):BW x x=x:=by
 rw [YO h.ne,<-h.least,<-h.most,h.cls]
theorem CanT.meet(h:CanT x):DN x x=x:=by
 have hm:CY x x=x:=by
  unfold CY;rw [Int.max_self,Int.min_self,<-h.least,<-h.most,h.cls,CcA h.wf,if_neg (Nat.lt_irrefl _),if_neg (Nat.lt_irrefl _)]
 unfold DN;rw [if_neg (by rw [h.ne];simp),hm,if_pos];refine ⟨?_,?_,?_,?_,h.ne⟩
 ·rw [Fq];exact List.prefix_refl _
 ·rw [Fq];exact List.prefix_refl _
 ·rw [Fo];exact List.suffix_refl _
 ·rw [Fo];exact List.suffix_refl _
structure CanI(x:Rg):Prop where
 ne:BF x=false
 low:Bg x.ln x.ls=(x.ln,x.ls)
 high:Bg x.hn x.hs=(x.hn,x.hs)
theorem CanI.norm{x:Rg}(h:CanI x):CI x=x:=by
 unfold CI;rw [h.ne,if_neg AC,h.low,h.high]
theorem CaA(x:Rg):CiA x x=x:=by
 unfold CiA CU Bm;simp
theorem EZA(x:Rg):DQA x x=x:=by
 unfold DQA CU Bm;simp
theorem EHA{a:Rg}(h:BF a=false):CanI (CI a):=by
 have h1:=Fd a;rw [h] at h1;unfold CI at h1|-;rw [h,if_neg AC] at h1|-;exact ⟨h1,by simp only;rw [Nk],by simp only;rw [Nk]⟩
theorem Yq{a:Rg}(h:BF a=false):Cc a a=CI a:=by
 unfold Cc;rw [Fd,h];simp only [Bool.false_eq_true,if_false];rw [CaA]
theorem CanI.join{x:Rg}(h:CanI x):Cc x x=x:=by rw [Yq h.ne,h.norm]
theorem CanI.meet{x:Rg}(h:CanI x):NB x x=x:=by
 unfold NB;rw [h.norm,EZA,h.norm]
theorem Wu(l:List BA):An (An l)=An l:=by
 unfold An;congr 1;rw [List.map_map];have e:((λs:BA=>s.data.toList) ∘ λb:List UInt8=>(⟨b.toArray⟩:BA))=id:=by
  funext b
  rfl
 rw [e,List.map_id];refine List.mergeSort_of_pairwise ?_;have tr:∀ a b c:List UInt8,decide (a<=b)=true->decide (b<=c)=true->decide (a<=c)=true:=by
  exact O4
 have O:∀ a b:List UInt8,(decide (a<=b)||decide (b<=a))=true:=by
  exact Tn
 exact List.pairwise_mergeSort tr O _
theorem Ym(h:l.Nodup):(An l).Nodup:=by
 unfold An;have h1:(l.map λs:BA=>s.data.toList).Nodup:=by
  rw [List.nodup_iff_pairwise_ne,List.pairwise_map];rw [List.nodup_iff_pairwise_ne] at h;refine h.imp λhne he=>hne ?_;have:=congrArg bA he;rw [He,He] at this;exact this
 have h2:=(List.mergeSort_perm (l.map λs:BA=>s.data.toList) λx y=>decide (x<=y)).nodup_iff.2 h1;rw [List.nodup_iff_pairwise_ne,List.pairwise_map];rw [List.nodup_iff_pairwise_ne] at h2;refine h2.imp λhne he=>hne ?_;have:=congrArg (λs:BA=>s.data.toList) he;exact this
theorem ZG(h:qP:=by
 intro h;simp only;rw [if_neg (by omega)]
 ext<;>simp only<;>omega):qP:=h
theorem Ui(h:qP:=by
 simp only;split
 ·intro h;simp at h
 ·exact ZG):qP:=h
theorem DqA(a:Abs)(h:(Cy a).1<=(Cy a).2):CZ ((Cy a).1,(Cy a).2) (0,3652058)=Cy a:=by
 revert h
 unfold Cy CZ CQ;exact Ui
theorem DLA(a:Abs)(h:(DF a).1<=(DF a).2):CZ ((DF a).1,(DF a).2) (0,100)=DF a:=by
 revert h
 unfold DF CZ CQ;exact Ui
structure Can(c:Abs):Prop where
 wf:Er c.kinds
 tx:(bt c.kinds 1=true/\CanT c.tx)\/(bt c.kinds 1=false/\c.tx=H3A)
 nu:(bt c.kinds 2=true/\CanI c.nu)\/(bt c.kinds 2=false/\c.nu=IBA)
 dt:(bt c.kinds 3=true/\c.dl<=c.dh/\Cy c=(c.dl,c.dh))\/(bt c.kinds 3=false/\c.dl=1/\c.dh=0)
 bl:(bt c.kinds 4=true/\c.bo≠0/\boI c=c.bo)\/(bt c.kinds 4=false/\c.bo=0)
 tb:(bt c.kinds 5=true/\c.rl<=c.rh/\DF c=(c.rl,c.rh)/\c.cols.length<=8/\c.cols.all Ba=true/\c.cols.Nodup/\An c.cols=c.cols/\c.deps.Nodup)\/(bt c.kinds 5=false/\c.rl=1/\c.rh=0/\c.cols=[]/\c.deps=[])
 all:c.kinds=Ey (bt c.kinds 1) (bt c.kinds 2) (bt c.kinds 3) (bt c.kinds 4) (bt c.kinds 5)
theorem Ma(h:qP:=by
 right;exact ⟨rfl,by unfold AX;simp [hp]⟩):qP:=h
theorem Ix(h:qP:=by unfold AX;simp [hp]):qP:=h
theorem FSA(a:Abs):Can (AX a):=by
 obtain ⟨b1,b2,O,Y,U⟩:=Zb a;refine ⟨EDA _ _ _ _ _,?_,?_,?_,?_,?_,?_⟩
 ·rw [b1];cases hp:pT a
  ·exact Ma
  ·left;refine ⟨rfl,?_⟩;have e:(AX a).tx=BW a.tx a.tx:=Ix;rw [e];unfold pT at hp;rw [Bool.and_eq_true,Bool.not_eq_true'] at hp;exact CXA hp.2
 ·rw [b2];cases hp:pN a
  ·exact Ma
  ·left;refine ⟨rfl,?_⟩;have e:(AX a).nu=Cc a.nu a.nu:=Ix;rw [e];unfold pN at hp;rw [Bool.and_eq_true,Bool.not_eq_true'] at hp;rw [Yq hp.2];exact EHA hp.2
 ·rw [O];cases hp:pD a
  ·right;exact ⟨rfl,Ix,Ix⟩
  ·left;have e1:(AX a).dl=(Cy a).1:=Ix;have e2:(AX a).dh=(Cy a).2:=Ix;unfold pD at hp;rw [Bool.and_eq_true,decide_eq_true_eq] at hp;refine ⟨rfl,by rw [e1,e2];exact hp.2,?_⟩;show CZ ((AX a).dl,(AX a).dh) _=_;rw [e1,e2,DqA a hp.2]
 ·rw [Y];cases hp:pB a
  ·exact Ma
  ·left;have e:(AX a).bo=boI a:=Ix;unfold pB at hp;rw [Bool.and_eq_true,decide_eq_true_eq] at hp;refine ⟨rfl,by rw [e];exact hp.2,?_⟩;rw [e];refine DT (CJ _ _ _) (CJ _ _ _) λi _ => ?_;show bt (boI (AX a)) i=bt (boI a) i;rw [Wc,e,Wc,Bool.and_assoc,Bool.and_self]
 ·rw [U];cases hp:pR a
  ·right;refine ⟨rfl,?_,?_,?_,?_⟩<;>· unfold AX;simp [hp]
  ·left;have e1:(AX a).rl=(DF a).1:=Ix;have e2:(AX a).rh=(DF a).2:=Ix;have e3:(AX a).cols=An (ddp a.cols):=Ix;have e4:(AX a).deps=ddp a.deps:=Ix;unfold pR at hp;simp only [Bool.and_eq_true,decide_eq_true_eq] at hp;obtain ⟨⟨⟨_,h1⟩,h2⟩,h3⟩:=hp;rw [e3,e4];refine ⟨rfl,by rw [e1,e2];exact h1,?_,by rw [WV];exact h2,?_,Ym (KB _),Wu _,KB _⟩
   ·show CZ ((AX a).rl,(AX a).rh) _=_;rw [e1,e2,DLA a h1]
   ·rw [List.all_eq_true] at h3|-;exact λx hx=>h3 x (Ek.1 hx)
 ·rw [b1,b2,O,Y,U];rfl
theorem FF(h:qP:=by rw [k];simp):qP:=h
theorem FBA{x:Abs}(h:Can c)(hk:x.kinds=c.kinds)(ht:x.tx=c.tx)(hn:x.nu=c.nu)(hd1:x.dl=c.dl)(hd2:x.dh=c.dh)(hb:x.bo=c.bo)(hr1:x.rl=c.rl)(hr2:x.rh=c.rh)(hc:ddp x.cols=c.cols\/(bt c.kinds 5=false))(hd:ddp x.deps=c.deps\/(bt c.kinds 5=false))(he:x.errs=c.errs):AX x=c:=by
 obtain ⟨h0,h1,h2,h3,h4,h5,h6⟩:=h;have p1:pT x=bt c.kinds 1:=by
  unfold pT;rw [hk,ht]
  rcases h1 with ⟨k,h⟩|⟨k,_⟩
  ·rw [k,h.ne];rfl
  ·rw [k];rfl
 have p2:pN x=bt c.kinds 2:=by
  unfold pN;rw [hk,hn]
  rcases h2 with ⟨k,h⟩|⟨k,_⟩
  ·rw [k,h.ne];rfl
  ·rw [k];rfl
 have Y:Cy x=Cy c:=(by unfold Cy;rw [hd1,hd2]);have p3:pD x=bt c.kinds 3:=by
  unfold pD;rw [hk,Y]
  rcases h3 with ⟨k,h,h'⟩|⟨k,_⟩
  ·rw [k,h'];simpa using h
  ·rw [k];rfl
 have U:boI x=boI c:=(by unfold boI;rw [hb]);have p4:pB x=bt c.kinds 4:=by
  unfold pB;rw [hk,U]
  rcases h4 with ⟨k,h,h'⟩|⟨k,_⟩
  ·rw [k,h'];simpa using h
  ·rw [k];rfl
 have O:DF x=DF c:=(by unfold DF;rw [hr1,hr2]);have p5:pR x=bt c.kinds 5:=by
  unfold pR;rw [hk,O]
  rcases h5 with ⟨k,k1,k2,k3,k4,k5,Z,k7⟩|⟨k,_⟩
  ·rcases hc with hc|hc
   ·rw [k,k2,hc,k4];simp [k1,k3]
   ·rw [k] at hc;cases hc
  ·rw [k];rfl
 unfold AX;rw [p1,p2,p3,p4,p5,ht,hn,Y,U,O,he,<-h6];have e1:(if bt c.kinds 1=true then BW c.tx c.tx else H3A)=c.tx:=by
  rcases h1 with ⟨k,h⟩|⟨k,h⟩
  ·rw [if_pos k,h.join]
  ·rw [if_neg FF,h]
 have e2:(if bt c.kinds 2=true then Cc c.nu c.nu else IBA)=c.nu:=by
  rcases h2 with ⟨k,h⟩|⟨k,h⟩
  ·rw [if_pos k,h.join]
  ·rw [if_neg FF,h]
 have e3:(if bt c.kinds 3=true then (Cy c).1 else 1)=c.dl/\(if bt c.kinds 3=true then (Cy c).2 else 0)=c.dh:=by
  rcases h3 with ⟨k,_,h⟩|⟨k,h,h'⟩
  ·rw [if_pos k,if_pos k,h];exact ⟨rfl,rfl⟩
  ·rw [if_neg FF,if_neg FF,h,h'];exact ⟨rfl,rfl⟩
 have e4:(if bt c.kinds 4=true then boI c else 0)=c.bo:=by
  rcases h4 with ⟨k,_,h⟩|⟨k,h⟩
  ·rw [if_pos k,h]
  ·rw [if_neg FF,h]
 have e5:(if bt c.kinds 5=true then (DF c).1 else 1)=c.rl/\(if bt c.kinds 5=true then (DF c).2 else 0)=c.rh/\(if bt c.kinds 5=true then An (ddp x.cols) else [])=c.cols/\(if bt c.kinds 5=true then ddp x.deps else [])=c.deps:=by
  rcases h5 with ⟨k,k1,k2,k3,k4,k5,Z,k7⟩|⟨k,k1,k2,k3,k4⟩
  ·rw [if_pos k,if_pos k,if_pos k,if_pos k,k2];refine ⟨rfl,rfl,?_,?_⟩
   ·rcases hc with hc|hc
    ·rw [hc,Z]
    ·rw [k] at hc;cases hc
   ·rcases hd with hd|hd
    ·exact hd
    ·rw [k] at hd;cases hd
  ·have:¬bt c.kinds 5=true:=FF;rw [if_neg this,if_neg this,if_neg this,if_neg this,k1,k2,k3,k4];exact ⟨rfl,rfl,rfl,rfl⟩
 rw [e1,e2,e3.1,e3.2,e4,e5.1,e5.2.1,e5.2.2.1,e5.2.2.2]
theorem Can.eq(h:Can c):AX c=c:=by
 refine FBA h rfl rfl rfl rfl rfl rfl rfl rfl ?_ ?_ rfl
 ·rcases h.tb with ⟨_,_,_,_,_,k,_,_⟩|⟨k,_⟩
  ·exact Or.inl (WK _ k)
  ·exact Or.inr k
 ·rcases h.tb with ⟨_,_,_,_,_,_,_,k⟩|⟨k,_⟩
  ·exact Or.inl (WK _ k)
  ·exact Or.inr k
theorem Can.days(h:Can c):c.dl<=c.dh\/(c.dl=1/\c.dh=0):=by
 rcases h.dt with ⟨_,h,_⟩|⟨_,h⟩
 ·exact Or.inl h
 ·exact Or.inr h
theorem Can.rows(h:Can c):c.rl<=c.rh\/(c.rl=1/\c.rh=0):=by
 rcases h.tb with ⟨_,h,_⟩|⟨_,h1,h2,_⟩
 ·exact Or.inl h
 ·exact Or.inr ⟨h1,h2⟩
theorem Can.boIn(h:Can c):Er c.bo:=by
 rcases h.bl with ⟨_,_,h⟩|⟨_,h⟩
 ·rw [<-h];exact CJ _ _ _
 ·rw [h];unfold Er;omega
def noneA:Abs:=⟨0,H3A,IBA,1,0,0,1,0,[],[],false⟩

def ofS(s:BA):Sh:=if Ca s=true then ⟨s.size,s.size,CT (bs s),s,s⟩ else H3A
def NO(k:Int):Int:=if k=0 then 1 else if k=1 then 2 else if k=2 then 4 else if k=3 then 8 else if k=4 then 16 else 32
def CO(v:Val):Abs where
 kinds:=NO v.kind
 tx:=if v.kind=1 then ofS v.s else H3A
 nu:=if v.kind=2 then ⟨v.dn,v.ds,v.dn,v.ds⟩ else IBA
 dl:=if v.kind=3 then v.n else 1
 dh:=if v.kind=3 then v.n else 0
 bo:=if v.kind=4 then (if v.n=0 then 1 else 2) else 0
 rl:=if v.kind=5 then v.rows.length else 1
 rh:=if v.kind=5 then v.rows.length else 0
 cols:=if v.kind=5 then v.cols else []
 deps:=if v.kind=5 then Co v.cols v.rows else []
 errs:=decide (v.kind=0)
def ofA(v:Val):Abs:=if BC v=true then AX (CO v) else noneA
def IF(k:Int):Abs where
 kinds:=if 1<=k/\k<=5 then NO k else 0
 tx:=Sh.full
 nu:=Rg.full
 dl:=0
 dh:=3652058
 bo:=3
 rl:=0
 rh:=100
 cols:=[]
 deps:=[]
 errs:=decide (k=0)
def Cs(k:Int):Abs:=AX (IF k)
theorem JN(h:BC v=true)(hk:v.kind≠5):BG v=true:=by
 unfold BC at h;rw [if_neg hk] at h;exact h
theorem LU(h:BC v=true)(hk:v.kind=1):Ca v.s=true/\v=⟨1,v.s,0,0,0,[],[]⟩:=by
 have h1:=JN h AA;unfold BG at h1;rw [if_neg AA,if_pos hk,Bool.and_eq_true] at h1;refine ⟨h1.1,?_⟩;have h2:=h1.2;unfold KU at h2;simp only [decide_eq_true_eq] at h2;obtain ⟨k,s,a,b,n,c,r⟩:=v;obtain ⟨_,rfl,rfl,rfl,rfl,rfl⟩:=h2;simp only at hk;subst hk;rfl
def Cp(a:Abs):Option Val :=
 let c:=AX a
 if c.errs=true then none
 else if c.kinds=2 then (if c.tx.least=c.tx.b.size/\c.tx.most=c.tx.b.size then some ⟨1,c.tx.b,0,0,0,[],[]⟩ else none)
 else if c.kinds=4 then (if c.nu.ln=c.nu.hn/\c.nu.ls=c.nu.hs then some ⟨2,⟨#[]⟩,c.nu.ln,c.nu.ls,0,[],[]⟩ else none)
 else if c.kinds=8 then (if c.dl=c.dh then some ⟨3,⟨#[]⟩,0,0,c.dl,[],[]⟩ else none)
 else if c.kinds=16 then (if c.bo≠3 then some ⟨4,⟨#[]⟩,0,0,c.bo-1,[],[]⟩ else none)
 else none
theorem D3A(h:Can c)(hk:bt c.kinds 4=true):c.bo=1\/c.bo=2\/c.bo=3:=by
 rcases h.bl with ⟨_,h0,h1⟩|⟨h2,_⟩
 ·have key:∀ i,bt c.bo i=(bt c.bo i&&decide (i<2)):=λi=>by
   have:=Wc c i;rw [h1] at this;exact this
  have hz:=CCA c;rw [h1] at hz;have O:=h.boIn;have up:∀ i,2<=i->bt c.bo i=false:=λi hi=>by
   rw [key i];simp;omega
  cases b0:bt c.bo 0
  ·cases b1:bt c.bo 1
   ·exact absurd (hz.2 ⟨b0,b1⟩) h0
   ·right;left;refine DT O Fb λi _ => ?_
    match i with
    |0=>rw [b0];decide
    |1=>rw [b1];decide
    |k+2 =>
     rw [up _ AA,show (2:Int)=((2^1:Nat):Int) from rfl,Js _ _ AA,eq_comm,decide_eq_false_iff_not];omega
  ·cases b1:bt c.bo 1
   ·left;refine DT O Fb λi _ => ?_
    match i with
    |0=>rw [b0];decide
    |1=>rw [b1];decide
    |k+2 =>
     rw [up _ AA,show (1:Int)=((2^0:Nat):Int) from rfl,Js _ _ AA,eq_comm,decide_eq_false_iff_not];omega
   ·right;right;refine DT O Fb λi _ => ?_
    match i with
    |0=>rw [b0];decide
    |1=>rw [b1];decide
    |k+2 =>
     rw [up _ AA,GmA,eq_comm,decide_eq_false_iff_not];omega
 ·rw [hk] at h2;cases h2
