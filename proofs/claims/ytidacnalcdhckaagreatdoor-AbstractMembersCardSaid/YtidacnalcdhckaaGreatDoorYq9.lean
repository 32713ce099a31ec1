/- Lemmas. No conditions. -/
import Derived.Test.YtidacnalcdhckaaGreatDoorYq8
import Derived.Shelf.Unicode.PredsPay
import Derived.Lib.ItoaLen
import Derived.Lib.AppendIntMem
set_option maxRecDepth 100000
set_option maxHeartbeats 1000000
namespace Go.Proofs.YtidacnalcdhckaaGreatDoor
open Go Go.RowKit Tryz
variable {qP:Prop}

def Nums(w:World)(S:NP)(A:OA)(l:List Nat):Prop:=Rd w S A ((Ds l).map (Value.int .i64))/\l.length<=4294967296
def NN(w:World)(S:NP)(A:OA)(gs:List (List Nat)):Prop :=
 gs.length<=4294967296/\∃ hs:List Value,Rd w S A hs/\hs.length=gs.length/\∀ (i:Nat) (g:List Nat),gs[i]?=some g->∃ (B:OA) (e:Nat),hs[i]?=some (Value.slice B g.length e)/\g.length<=e/\Nums w S B g
section
variable {w w':World}{S T:NP}{A:OA}{l:List Nat}{gs:List (List Nat)}
theorem FPA{l:List Nat}{k:Nat}(h:k<l.length):((Ds l).map (Value.int .i64))[k]?=some (.I ((l[k]:Nat):Int)):=by simp [Ds,h]
theorem Nums.keep(h:Nums w S A l)(k:Kept S w w'):Nums w' S A l:=⟨h.1.keep k,h.2⟩
theorem Nums.mono(h:Nums w S A l)(k:∀ i,i<w.heap.size->S i->T i):Nums w T A l:=⟨h.1.mono k,h.2⟩
theorem Nums.at_(h:Nums w S A l){k:Nat}(hk:k<l.length):∃ b o,A=some ⟨b,o,none⟩/\b<w.heap.size/\w.cell? ⟨b,o+k,none⟩=some (.I ((l[k]:Nat):Int)):=h.1.at_ (FPA hk)
theorem Nums.take(h:Nums w S A l)(k:Nat):Nums w S A (l.take k):=⟨by have:=h.1.take k;simpa [Ds,List.map_take] using this,by have:=h.2;rw [List.length_take];omega⟩
theorem NN.keep(h:NN w S A gs)(k:Kept S w w'):NN w' S A gs:=by
 obtain ⟨h0,hs,h1,h2,h3⟩:=h;refine ⟨h0,hs,h1.keep k,h2,λi g hg => ?_⟩;obtain ⟨B,e,h4,h5,h6⟩:=h3 i g hg;exact ⟨B,e,h4,h5,h6.keep k⟩
theorem NN.mono(h:NN w S A gs)(k:∀ i,i<w.heap.size->S i->T i):NN w T A gs:=by
 obtain ⟨h0,hs,h1,h2,h3⟩:=h;refine ⟨h0,hs,h1.mono k,h2,λi g hg => ?_⟩;obtain ⟨B,e,h4,h5,h6⟩:=h3 i g hg;exact ⟨B,e,h4,h5,h6.mono k⟩
theorem NN.at_(h:NN w S A gs){k:Nat}(hk:k<gs.length):∃ b o B e,A=some ⟨b,o,none⟩/\b<w.heap.size/\w.cell? ⟨b,o+k,none⟩=some (.slice B gs[k].length e)/\gs[k].length<=e/\Nums w S B gs[k]:=by
 obtain ⟨h0,hs,h1,h2,h3⟩:=h;obtain ⟨B,e,h4,h5,h6⟩:=h3 k gs[k] (List.getElem?_eq_getElem hk);obtain ⟨b,o,e1,e2,e3⟩:=h1.at_ h4;exact ⟨b,o,B,e,e1,e2,e3,h5,h6⟩
theorem NN.nil:NN w S A []:=⟨AC,[],.inl rfl,rfl,AC⟩
theorem OwnN.nums{base c:Nat}(h:OwnN w base A c l)(hl:l.length<=4294967296):Nums w (λb=>ob A=some b) A l:=⟨Own.rd h,hl⟩
theorem Own.put{base e sz n c g i:Nat}{xs:List Value}(h:Own w base e sz (some ⟨g,0,none⟩) n c xs)(u:Value):Own (w.setCell ⟨g,i,none⟩ u) base e sz (some ⟨g,0,none⟩) n c (xs.set i u):=by
 refine ⟨by rw [List.length_set];exact h.1,?_⟩
 rcases h.2 with ⟨hv,h0⟩|⟨g',cap,cur,hv,hb,hh,U,Y,hcs,ht⟩
 ·cases hv
 ·injection hv with O Z hv3;injection O with O;injection O with O;subst O hv3;refine .inr ⟨g,c,cur.setIfInBounds i u,rfl,hb,Blk.set hh i u,U,Y,by simpa using hcs,?_⟩;rw [Array.toList_setIfInBounds,List.take_set,ht]
end

def hdr(bs:List (Nat × Nat))(gs:List (List Nat)):List Value:=List.zipWith (λb g=>Value.slice (some ⟨b.1,0,none⟩) g.length b.2) bs gs
structure Parts(w:World)(base:Nat)(bs:List (Nat × Nat))(gs:List (List Nat)):Prop where
 len:bs.length=gs.length
 own:∀ (i:Nat) (b:Nat × Nat) (g:List Nat),bs[i]?=some b->gs[i]?=some g->OwnN w base (some ⟨b.1,0,none⟩) b.2 g
 nd:(bs.map (·.1)).Nodup
def OwnNN(w:World)(base:Nat)(A:OA)(c:Nat)(gs:List (List Nat)):Prop :=
 ∃ bs,Parts w base bs gs/\Own w base 22 1 A gs.length c (hdr bs gs)/\∀ b∈bs,ob A≠some b.1
section
variable {w w':World}{base c:Nat}{A:OA}{bs:List (Nat × Nat)}{gs:List (List Nat)}
theorem Parts.keep(h:Parts w base bs gs)(hk:Kept (λb=>b∈bs.map (·.1)) w w'):Parts w' base bs gs :=
 ⟨h.len,λi b g hb hg=>Own.keep (h.own i b g hb hg) (hk.mono λx _ hx=>by
  have:x=b.1:=(by simp [ob] at hx;exact hx.symm);rw [this];exact List.mem_map.2 ⟨b,List.mem_of_getElem? hb,rfl⟩),h.nd⟩
theorem Parts.nil:Parts w base [] []:=⟨rfl,AC,AC⟩
theorem XO(h:bs.length=gs.length):(hdr bs gs).length=gs.length:=by simp [hdr,h]
theorem GWA{i:Nat}{b:Nat × Nat}{g:List Nat}(hb:bs[i]?=some b)(hg:gs[i]?=some g):(hdr bs gs)[i]?=some (.slice (some ⟨b.1,0,none⟩) g.length b.2):=by
 simp [hdr,List.getElem?_zipWith,hb,hg]
theorem EmA(i:Nat)(b:Nat × Nat)(g:List Nat):(hdr bs gs).set i (.slice (some ⟨b.1,0,none⟩) g.length b.2)=hdr (bs.set i b) (gs.set i g):=by
 apply List.ext_getElem?;intro j;by_cases hj:i=j
 ·subst hj;simp only [hdr,List.getElem?_zipWith,List.getElem?_set_self'];cases h1:bs[i]?<;>cases h2:gs[i]?<;>simp
 ·simp only [hdr,List.getElem?_zipWith,List.getElem?_set_ne hj]
theorem FaA{bs2:List (Nat × Nat)}{gs2:List (List Nat)}(h:bs.length=gs.length):hdr (bs++bs2) (gs++gs2)=hdr bs gs++hdr bs2 gs2:=by
 simp [hdr,List.zipWith_append h]
theorem Parts.lt(h:Parts w base bs gs):∀ b∈bs,base<=b.1/\b.1<w.heap.size:=by
 intro b hb;obtain ⟨i,hi,rfl⟩:=List.mem_iff_getElem.1 hb;have:=h.own i bs[i] (gs[i]'(by rw [<-h.len];exact hi)) (List.getElem?_eq_getElem hi) (List.getElem?_eq_getElem (by rw [<-h.len];exact hi));exact Own.blk this rfl
theorem OwnNN.ext(h:OwnNN w base A c gs)(hx:Ext w w'):OwnNN w' base A c gs:=by
 obtain ⟨bs,h1,h2,h3⟩:=h;exact ⟨bs,h1.keep (hx.kept _),Own.ext h2 hx,h3⟩
theorem OwnNN.nil(w:World)(base:Nat):OwnNN w base none 0 []:=⟨[],Parts.nil,Own.nil _ _ _ _,AC⟩
theorem OwnNN.blk(h:OwnNN w base A c gs){k:Nat}(hk:ob A=some k):base<=k/\k<w.heap.size:=by
 obtain ⟨bs,h1,h2,h3⟩:=h;exact Own.blk h2 hk
theorem OwnNN.nn(h:OwnNN w base A c gs)(hl:gs.length<=4294967296)(hg:∀ g∈gs,g.length<=4294967296):NN w (λb=>base<=b) A gs:=by
 obtain ⟨bs,h1,h2,h3⟩:=h;refine ⟨hl,hdr bs gs,h2.rd.mono λb _ hb=>(Own.blk h2 hb).1,XO h1.len,λi g hi => ?_⟩;have O:i<bs.length:=by
  rw [h1.len]
  rcases Nat.lt_or_ge i gs.length with h|h
  ·exact h
  ·rw [List.getElem?_eq_none h] at hi;cases hi
 have ho:=h1.own i bs[i] g (List.getElem?_eq_getElem O) hi;refine ⟨_,_,GWA (List.getElem?_eq_getElem O) hi,Own.cap ho,(OwnN.nums ho (hg g (List.mem_of_getElem? hi))).mono λb _ hb=>(Own.blk ho hb).1⟩
theorem Own.some_{e sz n:Nat}{xs:List Value}(h:Own w base e sz A n c xs)(hn:0<n):∃ g,A=some ⟨g,0,none⟩:=by
 rcases h.2 with ⟨hv,h0⟩|⟨U,cap,cur,hv,_⟩
 ·omega
 ·injection hv with O;exact ⟨U,O⟩
theorem Rn(h:qP:=by
 obtain rfl:=Option.some.inj hd;obtain rfl:=Option.some.inj hg';exact Own.set ho (by simp [ob];omega) _):qP:=h
theorem OwnNN.grow{gA i:Nat}{b:Nat × Nat}{g g2:List Nat}{A2:OA}{c2:Nat}{w1 w2:World}(h1:Parts w base bs gs)(h2:Own w base 22 1 (some ⟨gA,0,none⟩) gs.length c (hdr bs gs))(h3:∀ b∈bs,gA≠b.1)
  (hb:bs[i]?=some b) (_hg:gs[i]?=some g) (hx:Ext w w1) (ho:OwnN w2 base A2 c2 g2) (hgr:w1.grownBy w2 (some b.1)) (hat:ob A2=some b.1\/ob A2=some w1.heap.size) (hne:0<g2.length) :
  OwnNN (w2.setCell ⟨gA,i,none⟩ (.slice A2 g2.length c2)) base (some ⟨gA,0,none⟩) c (gs.set i g2):=by
 obtain ⟨x,rfl⟩:=Own.some_ ho hne;have Y:x=b.1\/x=w1.heap.size:=(by simpa [ob] using hat);have U:b∈bs:=List.mem_of_getElem? hb;have b4:=h1.lt b U;have b5:=Own.blk h2 (k:=gA) rfl;have b6:=h3 b U;have b7:=hx.size;have b0:gA≠x:=(by rcases Y with rfl | rfl<;>omega);have hk1:∀ S:Nat->Prop,(∀ y,S y->y<w.heap.size->y≠b.1)->Kept S w w2:=λS hS=>(hx.kept S).trans (Kept.of_grown hgr λy hy _ hyb=>by
  have Z:y=b.1:=Option.some.inj hyb;exact hS y hy AA Z)
 have hi:i<bs.length:=by
  rcases Nat.lt_or_ge i bs.length with h|h
  ·exact h
  ·rw [List.getElem?_eq_none h] at hb;cases hb
 have a9:bs[i]=b:=(by rw [List.getElem?_eq_getElem hi] at hb;exact Option.some.inj hb);have O:∀ (j:Nat) (d:Nat × Nat),bs[j]?=some d->j≠i->d.1≠b.1:=by
  intro j d hd hji e;have hj:j<bs.length:=by
   rcases Nat.lt_or_ge j bs.length with h|h
   ·exact h
   ·rw [List.getElem?_eq_none h] at hd;cases hd
  have a8:bs[j]=d:=(by rw [List.getElem?_eq_getElem hj] at hd;exact Option.some.inj hd);have:=(List.getElem_inj (xs:=bs.map (·.1)) (i:=j) (j:=i) (h₀:=ET) (h₁:=Bp) h1.nd).1 (by simp [a8,a9,e]);exact hji this
 refine ⟨bs.set i (x,c2),⟨by simp [h1.len],λj d g' hd hg' => ?_,?_⟩,?_,?_⟩
 ·by_cases hji:j=i
  ·subst hji;rw [List.getElem?_set_self hi] at hd;rw [List.getElem?_set_self (by rw [<-h1.len];exact hi)] at hg';exact Rn
  ·rw [List.getElem?_set_ne (λe=>hji e.symm)] at hd hg';have b3:=h1.own j d g' hd hg';have b9:gA≠d.1:=h3 d (List.mem_of_getElem? hd);refine Own.set (Own.keep b3 (hk1 _ λy hy _ => ?_)) (by simp [ob];omega) _;simp [ob] at hy;rw [<-hy];exact O j d hd hji
 ·rw [List.map_set];rw [List.nodup_iff_pairwise_ne,List.pairwise_iff_getElem];intro p q hp hq b8;simp only [List.length_set,List.length_map] at hp hq;have hlt:∀ (j:Nat) (hj:j<bs.length),j≠i->bs[j].1≠x:=by
   intro j hj hji;have:=O j bs[j] (List.getElem?_eq_getElem hj) hji;have:=(h1.lt bs[j] (List.getElem_mem hj)).2
   rcases Y with rfl|rfl<;>omega
  rw [List.getElem_set,List.getElem_set];split
  ·subst_vars
   rw [if_neg AA,List.getElem_map];exact λe=>hlt q (by simpa using hq) AA e.symm
  ·split
   ·subst_vars
    rw [List.getElem_map];exact λe=>hlt p (by simpa using hp) AA e
   ·rw [List.getElem_map,List.getElem_map];intro e;have:=(List.getElem_inj (xs:=bs.map (·.1)) (i:=p) (j:=q) (h₀:=by simpa using hp) (h₁:=by simpa using hq) h1.nd).1 (by simpa using e);omega
 ·have h4:=Own.put (i:=i) (Own.keep h2 (hk1 _ λy hy _=>by simp [ob] at hy;omega)) (.slice (some ⟨x,0,none⟩) g2.length c2);rw [EmA i (x,c2) g2] at h4
  simpa using h4
 ·intro d hd
  rcases List.mem_or_eq_of_mem_set hd with hd|rfl
  ·have:=h3 d hd
   simpa [ob] using this
  ·simpa [ob] using b0
theorem OwnNN.push{gA:Nat}{g2:List Nat}{A2:OA}{c2:Nat}{w1 w2:World}(h1:Parts w base bs gs)(h2:Own w base 22 1 (some ⟨gA,0,none⟩) (gs.length+1) c (hdr bs gs++[.slice none 0 0]))(h3:∀ b∈bs,gA≠b.1)
  (hx:Ext w w1) (ho:OwnN w2 base A2 c2 g2) (hgr:w1.grownBy w2 none) (hat:ob A2=none\/ob A2=some w1.heap.size) (hne:0<g2.length) :
  OwnNN (w2.setCell ⟨gA,gs.length,none⟩ (.slice A2 g2.length c2)) base (some ⟨gA,0,none⟩) c (gs++[g2]):=by
 obtain ⟨x,rfl⟩:=Own.some_ ho hne;have a8:x=w1.heap.size:=(by simpa [ob] using hat);have Y:=Own.blk h2 (k:=gA) rfl;have Z:=hx.size;have hk1:∀ S:Nat->Prop,Kept S w w2:=λS=>(hx.kept S).trans (Kept.of_grown hgr λy hy _ hyb=>by cases hyb);refine ⟨bs++[(x,c2)],⟨by simp [h1.len],λj d g' hd hg' => ?_,?_⟩,?_,?_⟩
 ·rcases Nat.lt_or_ge j bs.length with hj|hj
  ·rw [List.getElem?_append_left hj] at hd;rw [List.getElem?_append_left (by rw [<-h1.len];exact hj)] at hg';have O:=h1.own j d g' hd hg';have a9:gA≠d.1:=h3 d (List.mem_of_getElem? hd);exact Own.set (Own.keep O (hk1 _)) (by simp [ob];omega) _
  ·rw [List.getElem?_append_right hj] at hd;rw [List.getElem?_append_right (by rw [<-h1.len];exact hj),<-h1.len] at hg';have U:j-bs.length=0:=by
    rcases Nat.eq_zero_or_pos (j-bs.length) with h0|h0
    ·exact h0
    ·rw [List.getElem?_eq_none AI] at hd;cases hd
   rw [U] at hd hg';exact Rn
 ·rw [List.map_append,List.nodup_append];refine ⟨h1.nd,AC,λa ha b hb => ?_⟩;simp at hb;obtain ⟨d,hd,rfl⟩:=List.mem_map.1 ha;have:=(h1.lt d hd).2;omega
 ·have h4:=Own.put (i:=gs.length) (Own.keep h2 (hk1 _)) (.slice (some ⟨x,0,none⟩) g2.length c2);have e:(hdr bs gs++[Value.slice none 0 0]).set gs.length (.slice (some ⟨x,0,none⟩) g2.length c2)=hdr (bs++[(x,c2)]) (gs++[g2]):=by
   rw [FaA h1.len,List.set_append_right _ _ (by rw [XO h1.len];exact Al),XO h1.len,Nat.sub_self];rfl
  rw [e] at h4
  simpa using h4
 ·intro d hd
  rcases List.mem_append.1 hd with hd|hd
  ·have:=h3 d hd
   simpa [ob] using this
  ·simp at hd;subst hd;simp [ob];omega
end
section
variable {w:World}{base e sz n c g:Nat}{xs:List Value}
theorem Own.cell_(h:Own w base e sz (some ⟨g,0,none⟩) n c xs){j:Nat}{u:Value}(hj:xs[j]?=some u):w.cell? ⟨g,j,none⟩=some u:=by
 obtain ⟨b,o,e1,_,e3⟩:=h.rd.at_ hj;injection e1 with e1;injection e1 with e1 e2;subst e1 e2;rwa [Nat.zero_add] at e3
theorem Own.lt_(h:Own w base e sz (some ⟨g,0,none⟩) n c xs):g<w.heap.size:=(Own.blk h rfl).2
theorem Own.frozen_(h:Own w base e sz (some ⟨g,0,none⟩) n c xs)(i:Nat):w.frozen? ⟨g,i,none⟩=false:=by
 rcases h.2 with ⟨hv,_⟩|⟨U,cap,cur,hv,_,hh,_⟩
 ·cases hv
 ·injection hv with O;injection O with O;injection O with O;subst O;exact Blk.frozen hh i
end
theorem OwnNN.lower{w:World}{base base' c:Nat}{A:OA}{gs:List (List Nat)}(h:OwnNN w base A c gs)(hb:base'<=base):OwnNN w base' A c gs:=by
 obtain ⟨bs,h1,h2,h3⟩:=h;exact ⟨bs,⟨h1.len,λi b g hi hg=>Own.lower (h1.own i b g hi hg) hb,h1.nd⟩,Own.lower h2 hb,h3⟩

structure ButS(S:NP)(w w':World):Prop where
 os:w'.os=w.os
 tape:w'.tape=w.tape
 output:w'.output=w.output
 size:w.heap.size<=w'.heap.size
 block:∀ b,b<w.heap.size->¬S b->w'.heap[b]?=w.heap[b]?
section
variable {S T:NP}{w w' w'':World}
theorem ButS.refl(S:NP)(w:World):ButS S w w:=⟨rfl,rfl,rfl,Al,λ_ _ _=>rfl⟩
theorem ButS.trans2(h:ButS S w w')(k:ButS T w' w'')(hT:∀ b,b<w.heap.size->T b->S b):ButS S w w'' :=
 ⟨k.os.trans h.os,k.tape.trans h.tape,k.output.trans h.output,Nat.le_trans h.size k.size,λb hb hg=>(k.block b (Nat.lt_of_lt_of_le hb h.size) λe=>hg (hT b hb e)).trans (h.block b hb hg)⟩
theorem ButS.trans(h:ButS S w w')(k:ButS S w' w''):ButS S w w'':=h.trans2 k λ_ _ e=>e
theorem ButS.mono(h:ButS S w w')(hT:∀ b,b<w.heap.size->S b->T b):ButS T w w':=⟨h.os,h.tape,h.output,h.size,λb hb hg=>h.block b hb λe=>hg (hT b hb e)⟩
theorem IJA(h:Ext w w'):ButS S w w':=⟨h.os,h.tape,h.output,h.size,λb hb _=>h.block b hb⟩
theorem ButS.but{g:Nat}(h:ButS S w w')(hg:∀ b,b<w.heap.size->S b->b=g):But g w w':=⟨h.os,h.tape,h.output,h.size,λb hb hn=>h.block b hb λe=>hn (hg b hb e)⟩
theorem ButS.kept(h:ButS S w w')(hS:∀ b,b<w.heap.size->T b->¬S b):Kept T w w':=⟨h.size,λb hb hl=>h.block b hl (hS b hl hb)⟩
theorem ButS.ext(h:ButS S w w')(hg:∀ b,S b->w.heap.size<=b):Ext w w':=⟨h.os,h.tape,h.output,h.size,λb hb=>h.block b hb λe=>by have:=hg b e;omega⟩
theorem ButS.exts{a:World}(h:Ext a w)(k:ButS S w w')(hg:∀ b,S b->a.heap.size<=b):Ext a w':=⟨k.os.trans h.os,k.tape.trans h.tape,k.output.trans h.output,Nat.le_trans h.size k.size,λb hb=>(k.block b (Nat.lt_of_lt_of_le hb h.size) λe=>by have:=hg b e;omega).trans (h.block b hb)⟩
theorem ButS.grown{row:Option Nat}(h:ButS S w w')(hg:w'.grownBy w'' row)(hr:∀ k,row=some k->S k\/w.heap.size<=k):ButS S w w'':=⟨hg.os.trans h.os,hg.tape.trans h.tape,hg.output.trans h.output,Nat.le_trans h.size hg.size,λb hb hx=>(hg.block b (Nat.lt_of_lt_of_le hb h.size) λe=>by
 rcases hr b e.symm with h1|h1
 ·exact hx h1
 ·omega).trans (h.block b hb hx)⟩
theorem ButS.set{b i:Nat}{u:Value}(h:ButS S w w')(hb:S b\/w.heap.size<=b):ButS S w (w'.setCell ⟨b,i,none⟩ u):=⟨h.os,h.tape,h.output,by simpa [World.setCell] using h.size,λx hx hg=>(Below.heap_setCell _ _ _ _ (by
 show x≠b;rintro rfl
 rcases hb with h1|h1
 ·exact hg h1
 ·omega)).trans (h.block x hx hg)⟩
theorem ButS.alloc(h:ButS S w w')(o:Obj):ButS S w (w'.alloc o):=h.trans (IJA ((Ext.refl _).alloc o))
theorem ButS.drew(h:ButS S w w'):ButS S w w'.drew:=h.trans (IJA ((Ext.refl _).drew))
theorem ButS.drewN(h:ButS S w w')(n:Nat):ButS S w (w'.drewN n):=h.trans (IJA ((Ext.refl _).drewN n))
theorem ButS.cell(h:ButS S w w'){p:Addr}{u:Value}(hp:¬S p.block)(hc:w.cell? p=some u):w'.cell? p=some u:=by
 have hl:p.block<w.heap.size:=by
  exact Zbea95ee93
 rw [World.cell?_of_block (w:=w) (h.block _ hl hp)];exact hc
theorem ButS.blk{b t:Nat}{cs:Array Value}(h:ButS S w w')(hb:Blk w b t cs)(hg:¬S b):Blk w' b t cs:=hb.keep (h.kept λx _ e=>by rw [e];exact hg)
end

abbrev Gz:=Nat->Bool
def gz0:Gz:=λ_=>false
def Gz.put(γ:Gz)(k:Nat):Gz:=λj=>if j=k then true else γ j
structure LZ(X:Nat->Nat->Prop)(γ:Gz)(w:World)(γ':Gz)(w':World):Prop where
 os:w'.os=w.os
 tape:w'.tape=w.tape
 output:w'.output=w.output
 size:w.heap.size<=w'.heap.size
 kept:∀ b,b<w.heap.size->(∀ m,X m b->γ' m=γ m)->w'.heap[b]?=w.heap[b]?
 done:∀ k,γ k=true->γ' k=true
section
variable {X:Nat->Nat->Prop}{γ γ' γ'':Gz}{w w' w'':World}
theorem LZ.refl(X:Nat->Nat->Prop)(γ:Gz)(w:World):LZ X γ w γ w:=⟨rfl,rfl,rfl,Al,λ_ _ _=>rfl,λ_ h=>h⟩
theorem LZ.mid(h:LZ X γ w γ' w')(k:LZ X γ' w' γ'' w''){m:Nat}(e:γ'' m=γ m):γ' m=γ m/\γ'' m=γ' m:=by
 cases h0:γ m with
 |true=>have h1:=h.done m h0;exact ⟨h1,(k.done m h1).trans h1.symm⟩
 |false =>
  rw [h0] at e;cases h1:γ' m with
  |false=>exact ⟨rfl,e⟩
  |true=>rw [k.done m h1] at e;cases e
theorem LZ.trans(X:Nat->Nat->Prop)(γ:Gz)(w:World)(γ':Gz)(w':World)(γ'':Gz)(w'':World)(h:LZ X γ w γ' w')(k:LZ X γ' w' γ'' w''):LZ X γ w γ'' w'' :=
 ⟨k.os.trans h.os,k.tape.trans h.tape,k.output.trans h.output,Nat.le_trans h.size k.size,λb hb hm=>(k.kept b (Nat.lt_of_lt_of_le hb h.size) λm hX=>(h.mid k (hm m hX)).2).trans (h.kept b hb λm hX=>(h.mid k (hm m hX)).1),λi hi=>k.done i (h.done i hi)⟩
theorem H4A(X:Nat->Nat->Prop)(γ:Gz)(h:Ext w w'):LZ X γ w γ w':=⟨h.os,h.tape,h.output,h.size,λb hb _=>h.block b hb,λ_ h=>h⟩
theorem LZ.keptS(h:LZ X γ w γ' w'){S:NP}(hS:∀ b,b<w.heap.size->S b->∀ m,X m b->γ' m=γ m):Kept S w w':=⟨h.size,λb hs hb=>h.kept b hb (hS b hb hs)⟩
theorem LZ.kept0(h:LZ X gz0 w.drew γ' w'){S:NP}(hS:∀ b,b<w.heap.size->S b->∀ m,X m b->γ' m=false):Kept S w w':=(Kept.drew S w).trans (h.keptS hS)
theorem LZ.buts(h:LZ X gz0 w.drew γ' w'){S:NP}(hS:∀ m b,b<w.heap.size->X m b->γ' m=true->S b):ButS S w w':=⟨h.os,h.tape,h.output,h.size,λb hb hn=>h.kept b hb λm hm=>by
 cases e:γ' m with
 |false=>rfl
 | true=>exact absurd (hS m b hb hm e) hn⟩
theorem LZ.ext0(h:LZ X gz0 w.drew γ' w')(hX:∀ m b,b<w.heap.size->X m b->γ' m=false):Ext w w':=⟨h.os,h.tape,h.output,h.size,λb hb=>h.kept b hb λm hm=>hX m b hb hm⟩
theorem H2A{m:Nat}(hm:γ m=false)(hos:w'.os=w.os)(ht:w'.tape=w.tape)(hou:w'.output=w.output)(hz:w.heap.size<=w'.heap.size)(hb:∀ b,b<w.heap.size->¬X m b->w'.heap[b]?=w.heap[b]?):LZ X γ w (γ.put m) w':=by
 refine ⟨hos,ht,hou,hz,λb hl hX=>hb b hl λh => ?_,λk hk => ?_⟩
 ·have:=hX m h;simp [Gz.put,hm] at this
 ·unfold Gz.put;split
  ·rfl
  ·exact hk
end
def LK(l:List (Nat × List Nat))(i:Nat)(γ:Gz):Prop:=∀ k∈alF l i,γ k=false
theorem LK.zero(l:List (Nat × List Nat))(i:Nat):LK l i gz0:=λ_ _=>rfl
theorem LK.done{l:List (Nat × List Nat)}{γ:Gz}{s k:Nat}{p:List Nat}(h:(l.all λq => !(q.2.contains k)||decide (q.1=s)||p.contains q.1)=true):∀ j,j≠s->j ∉ p->LK l j γ->LK l j (γ.put k):=by
 intro j hj hp h1 k' hk';unfold Gz.put;exact RB
theorem LK.key{l:List (Nat × List Nat)}{γ:Gz}{i k:Nat}(h:LK l i γ)(hk:(alF l i).contains k=true):γ k=false:=h k (by simpa using hk)
instance (X:Nat->Nat->Prop):Rf (LZ X):=⟨LZ.refl X⟩
instance (X:Nat->Nat->Prop):Re (LZ X):=⟨λγ _ _ h=>H4A X γ h⟩
instance:Rx (LZ (λ_ _=>False)) gz0:=⟨λ_ _ _ h=>h.ext0 λ_ _ _ h=>h.elim⟩
theorem Qa{P:Program}{l:List Oper}{Q:Exit->Act->World->Prop}{id:Nat}{a0:Act}{w0:World}(X:Nat->Nat->Prop)(al:List (Nat × List Nat))
  (h:Chain P l.toArray (λi=>[i]) (LZ X) (LK al) a0 gz0 w0.drew (λΦs=>∀ vals γ w,LZ X gz0 w0.drew γ w->(∀ i,i<l.length->gOf Φs i ([i].map vals) γ w)->Q .normal (Ah vals l 0 a0) w) 0 [] l)
  (hm:P.follows .mixedOrders=true:=by kernel_rfl) (hB:R8 l.toArray (λi=>[i]) a0.tmps.size=true:=by kernel_rfl):(Code.region id l.toArray true).wp P Q a0 w0 :=
 B6 hm (λi=>[i]) hB (LZ X) (LZ.refl X) (LZ.trans X) (LK al) gz0 (LK.zero al) h


def bsA(l:List UInt8):BA:=⟨l.toArray⟩
theorem Cr(a b:List UInt8):bsA a++bsA b=bsA (a++b):=by
 apply ByteArray.ext;simp [bsA,ByteArray.data_append]
def Cu(w:World)(s:BA)(e:Ending)(w':World):Prop:=e=.returned (.string s)/\Ext w w'
theorem Ext.grow{w w':World}(h:Ext w w')(os:Array Obj):Ext w (Go.Sort.grow w' os):=⟨h.os,h.tape,h.output,by simp only [Go.Sort.grow,Array.size_append];have:=h.size;omega,λb hb=>by
 have h1:=h.block b hb;have h2:=h.size;simp only [Go.Sort.grow];rw [Array.getElem?_append_left AA];exact h1⟩
theorem GdA:prog.globalNamed "internal/strconv.uint64pow10" = some 1:=by kernel_rfl
theorem Mr(n:Nat)(h:n<=9223372036854775807):(Lib.itoa (n:Int)).length<=21:=Lib.itoa_length_le n AA AA
end Go.Proofs.YtidacnalcdhckaaGreatDoor
namespace Go.Proofs.YtidacnalcdhckaaGreatDoor
open Go Go.RowKit Go.Sort Tryz
variable {qP:Prop}

theorem CYA(u:Nat)(h:u<100)(w:World):Cl 241 #[.int .u64 (u:Int),.I 10] w (Cu w (bsA (Lib.decDigits u))):=by
 obtain ⟨z,O⟩:=eqx (bsA (Lib.decDigits u));have HS:=Hd (show ∀ w',Cl 242 #[.I (u:Int)] w' (λe w2=>e=.returned (.string z)/\w2=w') from λw'=>by rw [O];exact Any.internal_strconv_small Tryz.lt283 u h w');rw [<-O];clear O
 go_enter func241,ntmps241
 go_wp2_with fail
 refine (HS.o _).mono ?_;rintro e2 w2 ⟨rfl,rfl⟩
 go_wp2_with fail
 go_ret;exact ⟨rfl,Ext.refl _⟩

theorem Nw(l:List UInt8)(a b:Nat):(bsA l).extract a b=bsA ((l.drop a).take (b-a)):=by
 apply ByteArray.ext;show ((bsA l).extract a b).data=_;rw [ByteArray.data_extract];apply Array.ext';simp [bsA,List.extract]

theorem Ra(h:qP:=by
 go_wp2_with fail
 go_ret;exact ⟨rfl,rfl⟩):qP:=h
theorem Sx(h:qP:=by
 have hw:IntKind.u64.wrap (u:Int)=(u:Int):=(by rw [IntKind.wrap_u64];omega);rw [hu]
 go_enter func212,ntmps212
 exact Ra):qP:=h
theorem XV(n:Int)(h0:-1000000000000000<=n)(h1:n<=1000000000000000)(w:World):Cl 212 #[.I n] w (λe w'=>e=.returned (.int .u64 (n.natAbs:Int))/\w'=w):=by
 by_cases hn:n<0
 ·obtain ⟨u,rfl⟩:∃ u:Nat,n=-(u:Int):=⟨n.natAbs,AA⟩;have hu:(-(u:Int)).natAbs=u:=AA;exact Sx
 ·obtain ⟨u,rfl⟩:∃ u:Nat,n=(u:Int):=⟨n.natAbs,AA⟩;have hu:(u:Int).natAbs=u:=AA;exact Sx
def V2(n:Int)(s:Nat):List UInt8:=Lib.repeatL [48] (s+1-(Lib.decDigits n.natAbs).length)++Lib.decDigits n.natAbs
def XH(n:Int)(s:Nat):List UInt8:=if 0<s then (V2 n s).take ((V2 n s).length-s)++[46]++(V2 n s).drop ((V2 n s).length-s) else V2 n s
def OL(n:Int)(s:Nat):List UInt8:=if n<0 then 45::XH n s else XH n s
theorem Wr(n:Nat):Lib.repeatL [48] (n+1)=48::Lib.repeatL [48] n:=by simp [Lib.repeatL]
end Go.Proofs.YtidacnalcdhckaaGreatDoor
namespace Go.Proofs.YtidacnalcdhckaaGreatDoor
open Go Go.RowKit Go.Sort Tryz
variable {qP:Prop}{n:Nat}{q x:Int}

structure Txa(w:World):Prop where
 tens:Tens w
 pow:Lib.TabIs prog w "internal/strconv.uint64pow10" .u64 Lib.pow10Tab
theorem Txa.ext{w w':World}(h:Txa w)(hx:Ext w w'):Txa w':=⟨h.tens.ext hx,TabIs_below GdA h.pow hx⟩
theorem GC(n:Int)(h0:-9223372036854775808<=n)(h1:n<=9223372036854775807)(w:World)(h:Txa w):Cl 99 #[.I n] w (Cu w (bsA (Lib.itoa n))):=by
 refine (Any.strconv_Itoa Tryz.lt171 n h0 h1 w h.pow).mono ?_;rintro e w' ⟨rfl,k,os,rfl⟩;exact ⟨rfl,(Ext.refl w).drewN k |>.grow os⟩
theorem DJA(u:Nat)(h:100<=u)(h2:u<=9223372036854775807)(w:World)(hT:Txa w):Cl 241 #[.int .u64 (u:Int),.I 10] w (Cu w (bsA (Lib.decDigits u))):=by
 have b0:1<=u:=AA;have O:u<18446744073709551616:=AA;have hnd20:Lib.nDigits u<=20:=(by have:=Lib.numDigits_eq u b0 O;split at this<;>omega);have HND:=Hd (show ∀ w',Lib.TabIs prog w' "internal/strconv.uint64pow10" .u64 Lib.pow10Tab->Cl 243 #[.int .u64 (u:Int)] w' (λe w2=>e=.returned (.I (Lib.nDigits u:Int))/\w2=w') from λw' h=>Any.internal_strconv_numDigits (ρ:=Tryz.lt171_ren) { Tryz.lt171 with } u b0 O w' h);have a8:=Lib.holds_zero0 w 225 (Lib.nDigits u) AA;have U:=Any.internal_strconv_formatBase10 Tryz.lt285 w.heap.size 0 24 u (Array.replicate (Lib.nDigits u) 0) (w.alloc (.cells Lib.zeros24 225)) a8 (by rw [Array.size_replicate];exact Lib.lt_pow_nDigits u) O (by rw [Array.size_replicate];omega);rw [Array.size_replicate] at U;have HF:=Hd (show Cl 244 #[.slice (some ⟨w.heap.size,0,none⟩) (Lib.nDigits u) 24,.int .u64 (u:Int)] (w.alloc (.cells Lib.zeros24 225)) _ from U);have HH0:=Hd a8;have Y:prog.arrayLen 225=24:=AD;have a9:prog.elem 225=5:=AD;have hsl:∀ W,(Instr.sliceAt 225 (.pointer (some ⟨w.heap.size,0,none⟩)) none (some (.I (Lib.nDigits u:Int))) none).run prog W=.ok (.slice (some ⟨w.heap.size,0,none⟩) (Lib.nDigits u) 24) W:=λW=>by
  rw [run_sliceAt_array_h W 225 ⟨w.heap.size,0,none⟩ (by simp [Y,a9,underlying225]) .i64 (Lib.nDigits u:Int) AA (by rw [Y];omega)];rw [Y,a9];go_simp
 clear U a8 Y a9
 go_enter func241,ntmps241
 go_wp2_with fail
 refine (HND.o _ (Lib.tabIs_alloc hT.pow _)).mono ?_;rintro e2 w2 ⟨rfl,rfl⟩
 go_wp2_with fail
 refine HF.o.mono ?_;rintro e3 w3 ⟨rfl,k,v',Z,rfl,hF⟩;have hcv:(convert 85 9 (.slice (some ⟨w.heap.size,0,none⟩) (Lib.nDigits u) 24)).run prog ((putRow (λ(b:UInt8)=>Value.int .u8 (b.toNat:Int)) (w.alloc (.cells Lib.zeros24 225)) w.heap.size 0 Z).drewN k)=.ok (.string ⟨(Lib.decDigits u).toArray⟩) ((putRow (λ(b:UInt8)=>Value.int .u8 (b.toNat:Int)) (w.alloc (.cells Lib.zeros24 225)) w.heap.size 0 Z).drewN k):=by
  have h:=run_convert_bytes_back (P:=prog) ((putRow (λ(b:UInt8)=>Value.int .u8 (b.toNat:Int)) (w.alloc (.cells Lib.zeros24 225)) w.heap.size 0 Z).drewN k) 85 9 5 ⟨w.heap.size,0,none⟩ 24 (Lib.decDigits u) underlying85 underlying5 underlying9 (λj hj=>by
   rw [Lib.row_is_numeral hF j hj,Lib.add_plain,World.cell?_drewN];exact cell?_putRow (λ(b:UInt8)=>Value.int .u8 (b.toNat:Int)) _ w.heap.size 0 _ Z HH0.o (by rw [hF.size,Array.size_replicate]) j (by rw [hF.size];rw [Lib.decDigits_length] at hj;exact hj))
  rw [Lib.decDigits_length] at h;exact h
 go_wp2;go_ret;obtain ⟨os,eo⟩:=Lib.fin_at w (.cells Lib.zeros24 225) Z k 0;refine ⟨rfl,?_⟩;rw [eo];exact (Ext.refl w).drewN k |>.grow os
theorem OM(u:Nat)(h2:u<=9223372036854775807)(w:World)(hT:Txa w):Cl 211 #[.int .u64 (u:Int),.I 10] w (Cu w (bsA (Lib.decDigits u))):=by
 have HI:=Hd (show Cl 241 #[.int .u64 (u:Int),.I 10] w (Cu w (bsA (Lib.decDigits u))) from by
  rcases Nat.lt_or_ge u 100 with h|h
  ·exact CYA u h w
  ·exact DJA u h h2 w hT)
 obtain ⟨z,O⟩:=eqx (bsA (Lib.decDigits u));rw [<-O] at HI|-;clear O hT
 go_enter func211,ntmps211
 go_wp2_with fail
 refine HI.o.mono ?_;rintro e2 w2 ⟨rfl,hx⟩;have HX:=Hd hx;clear hx
 go_wp2_with fail
 go_ret;exact ⟨rfl,HX.o⟩
theorem KR(n:Int)(s:Nat)(hr:Dz n s=true)(w:World)(hT:Txa w):Cl 166 #[.agg #[.I n,.I (s:Int)]] w (Cu w (bsA (OL n s))):=by
 have hv:Bg n s=(n,(s:Int)):=(by simp [Bg,hr]);have hrg:=GX n s;rw [hv] at hrg;obtain ⟨-,hs6,hn0,hn1⟩:=hrg;have hs6:s<=6:=AA;have hu:n.natAbs<=1000000000000000:=AA;obtain ⟨HV,HSZ,HT⟩:=Hd3 (show ∀ w',Cl 210 #[.agg #[.I n,.I (s:Int)]] w' (λe w2=>e=.returned (.agg #[.I n,.I (s:Int)])/\Ext w' w2) from λw'=>by have h:=KN n s w';rw [hv] at h;exact h) (XV n hn0 hn1) hT;have a8:(Lib.decDigits n.natAbs).length<=21:=(by have h:=Mr n.natAbs AA;rw [Lib.itoa_nonneg] at h;exact h);obtain ⟨D,eD⟩:=eqx (Lib.decDigits n.natAbs);obtain ⟨z,ez⟩:=eqx (bsA D);obtain ⟨k,Z⟩:=eqx D.length;have hz:z.size=k:=(by rw [ez,Z];simp [bsA,ByteArray.size]);have HF:=Hd (show ∀ w',Txa w'->Cl 211 #[.int .u64 (n.natAbs:Int),.I 10] w' (Cu w' z) from λw' h=>by rw [ez,eD];exact OM n.natAbs AA w' h);have hk:k<=21:=(by rw [Z,eD];exact a8);obtain ⟨HDD,HEZ,HEK⟩:=Hd3 (show V2 n s=Lib.repeatL [48] (s+1-k)++D by unfold V2;rw [Z,eD]) ez Z;obtain ⟨u,eu⟩:=eqx n.natAbs;rw [<-eu] at HF HSZ;clear hv hT a8 eD ez Z hu hr eu
 go_enter func166,ntmps166
 go_wp2_with fail
 refine (HV.o _).mono ?_;rintro e1 w1 ⟨rfl,hx1⟩;have HX1:=Hd ((exaa w).trans hx1);have hb1:=(Blk.new w 25 #[.I n,.I (s:Int)]).keep (hx1.kept _);have HB1:=Hd hb1;obtain ⟨c0,c1⟩:=hb1.qs2;have hf:=hb1.frozen;have hl:=hb1.lt;clear hx1 hb1
 go_wp2_with fail
 refine (HSZ.o _).mono ?_;rintro e2 w2 ⟨rfl,rfl⟩;obtain ⟨wb,Y⟩:=eqx ((w1.setCell ⟨w.heap.size,0,none⟩ (.I n)).setCell ⟨w.heap.size,1,none⟩ (.I (s:Int)));have HBb:=Hd (show Blk wb w.heap.size 25 #[.I n,.I (s:Int)] by rw [Y];exact (HB1.o.set 0 (.I n)).set 1 (.I (s:Int)));have HXb:=Hd (show Ext w wb by rw [Y];exact (HX1.o.set2 (Al) _).set2 (Al) _);rw [<-Y];clear Y c0 c1 hf hl
 go_wp2_with fail
 refine (HF.o _ (HT.o.ext HXb.o)).mono ?_;rintro e3 w3 ⟨rfl,hx3⟩;have HX3:=Hd (HXb.o.trans hx3);have a9:=HBb.o.keep (hx3.kept _);have HB3:=Hd a9;obtain ⟨d0,d1⟩:=a9.qs2;clear hx3 a9
 go_wp2_with fail
 have hcs:((s:Int)+1-(k:Int)<=((s+1-k:Nat):Int)):=AA
 go_loopw [3,17] (λv3 v17 wr=>∃ (i:Nat) (L:List UInt8),v17=.I (i:Int)/\v3=.string (bsA L)/\i<=s+1-k/\L=Lib.repeatL [48] i++D/\wr=w3) (λ_ v17 _=>(s+1-k)-(intOf v17).toNat)
 case atStart=>exact ⟨0,D,rfl,by rw [HEZ.o],AA,rfl,rfl⟩
 case round =>
  obtain ⟨i,L,rfl,rfl,hi,hL,rfl⟩:=hrel;obtain ⟨y,ey⟩:=eqx (bsA L);have hy:y.size=i+k:=(by rw [ey,hL,HEK.o];simp [bsA,ByteArray.size,Lib.repeatL_length]);have O:=Hd ey;have HL:=Hd hL;rw [<-ey];clear ey hL;by_cases hlt:i<s+1-k
  ·have h1:((i:Int)<(s:Int)+1-(k:Int)):=AA
   go_wp2_with fail
   go_roundw
   case rel =>
    refine ⟨i+1,48::L,AC,?_,AA,by rw [HL.o,Wr];rfl,by first|rfl|trivial⟩;show Value.string (⟨#[48]⟩++y)=_;rw [O.o,show (⟨#[48]⟩:BA)=bsA [48] from rfl,Cr];rfl
   case measure=>simp [intOf];omega
  ·have h1:¬((i:Int)<(s:Int)+1-(k:Int)):=AA;have hie:i=s+1-k:=AA;have HLD:=Hd (show V2 n s=L by rw [HDD.o,HL.o,hie]);clear hlt;have hsy:s+1<=y.size:=AA;have hyb:y.size<=100:=AA;clear hy
   rcases Nat.eq_zero_or_pos s with hs|hs
   ·have hs1:¬((0:Int)<(s:Int)):=AA;have U:=Hd (show XH n s=L by unfold XH;rw [if_neg AA];exact HLD.o);clear hs;by_cases hn:n<0
    ·have HN:=Hd hn
     go_wp2_with fail
     go_ret;refine ⟨?_,HX3.o⟩;show Ending.returned (Value.string (⟨#[45]⟩++y))=_;rw [O.o,show (⟨#[45]⟩:BA)=bsA [45] from rfl,Cr];unfold OL;rw [if_pos HN.o,U.o];rfl
    ·have HN:=Hd hn
     go_wp2_with fail
     go_ret;refine ⟨?_,HX3.o⟩;show Ending.returned (Value.string y)=_;unfold OL;rw [if_neg IP,U.o,O.o]
   ·have hs1:((0:Int)<(s:Int)):=AA;obtain ⟨p,ep⟩:=eqx (y.size-s);have hyp:y.size=p+s:=AA;have hp:p<=100:=AA;have hp1:¬(9223372036854775807<p+1):=AA;have hp2:¬(9223372036854775807<p+1+s):=AA;have hps:((p:Int)<=(p:Int)+(s:Int)):=AA;have hyL:L.length=p+s:=(by rw [<-hyp,O.o];simp [bsA,ByteArray.size]);have U:=Hd (show XH n s=L.take p++[46]++L.drop p by unfold XH;rw [if_pos hs,HLD.o,hyL,Nat.add_sub_cancel]);clear ep hs
    go_wp2_with fail
    refine Qa (λ_ _=>False) [] ?_
    iterate 9 refine Qp ?_
    intro vals γ w9 hR hG;refine Qx ?_;have HX9:=Hd (hR.ext0 (λm b _ e=>e.elim));clear hR hG;have hb9:=HB3.o.keep (HX9.o.kept _);have f0:=hb9.q0;clear hb9;obtain ⟨x,ex⟩:=eqx (y.extract 0 p++⟨#[46]⟩++y.extract p (p+s));have hxs:x.size<=200:=(by rw [ex,ByteArray.size_append,ByteArray.size_append,ByteArray.size_extract,ByteArray.size_extract];show _+1+_<=200;omega);have HEX:=Hd (show x=bsA (XH n s) by
     rw [ex,U.o,O.o,Nw,Nw,show (⟨#[46]⟩:BA)=bsA [46] from rfl,Cr,Cr,List.drop_zero,Nat.sub_zero,Nat.add_sub_cancel_left,show List.take s (L.drop p)=L.drop p from List.take_of_length_le (by rw [List.length_drop];omega)])
    rw [<-ex];clear ex;by_cases hn:n<0
    ·have HN:=Hd hn
     go_wp2_with fail
     go_ret;refine ⟨?_,HX3.o.trans HX9.o⟩;show Ending.returned (Value.string (⟨#[45]⟩++x))=_;rw [HEX.o,show (⟨#[45]⟩:BA)=bsA [45] from rfl,Cr];unfold OL;rw [if_pos IP];rfl
    ·have HN:=Hd hn
     go_wp2_with fail
     go_ret;refine ⟨?_,HX3.o.trans HX9.o⟩;show Ending.returned (Value.string x)=_;unfold OL;rw [if_neg IP,HEX.o]

def bt(x:Int)(i:Nat):Bool:=(BitVec.ofInt 64 x).getLsbD i
theorem Hc(n:Int):IntKind.i64.wrap n=n % 18446744073709551616\/IntKind.i64.wrap n=n % 18446744073709551616-18446744073709551616:=by
 unfold IntKind.wrap;simp only [IntKind.bits,IntKind.signed];by_cases h:(9223372036854775808:Int)<=n % 18446744073709551616
 ·right;simp [h]
 ·left;simp [h]
theorem CqA(n:Int):(IntKind.i64.wrap n) % 18446744073709551616=n % 18446744073709551616:=by
 rcases Hc n with h|h<;>rw [h]<;>omega
theorem BQA(n:Int):BitVec.ofInt 64 (IntKind.i64.wrap n)=BitVec.ofInt 64 n:=by
 apply BitVec.eq_of_toNat_eq;rw [BitVec.toNat_ofInt,BitVec.toNat_ofInt];show ((IntKind.i64.wrap n) % 18446744073709551616).toNat=(n % 18446744073709551616).toNat;rw [CqA]
theorem LP(v:BitVec 64):BitVec.ofInt 64 (IntKind.i64.wrap v.toNat)=v:=by
 rw [BQA];apply BitVec.eq_of_toNat_eq;simp
theorem CN(x y:Int)(i:Nat):bt (bits .and .i64 x y) i=(bt x i&&bt y i):=by
 show (BitVec.ofInt 64 (IntKind.i64.wrap (BitVec.ofInt 64 x &&& BitVec.ofInt 64 y).toNat)).getLsbD i=_;rw [LP,BitVec.getLsbD_and];rfl
theorem Ux(x y:Int)(i:Nat):bt (bits .or .i64 x y) i=(bt x i||bt y i):=by
 show (BitVec.ofInt 64 (IntKind.i64.wrap (BitVec.ofInt 64 x ||| BitVec.ofInt 64 y).toNat)).getLsbD i=_;rw [LP,BitVec.getLsbD_or];rfl
theorem CUA(x y:Int)(i:Nat)(hi:i<64):bt (bits .andNot .i64 x y) i=(bt x i&&!bt y i):=by
 show (BitVec.ofInt 64 (IntKind.i64.wrap (BitVec.ofInt 64 x &&& ~~~ BitVec.ofInt 64 y).toNat)).getLsbD i=_;rw [LP,BitVec.getLsbD_and,BitVec.getLsbD_not];simp [hi,bt]
def Er(x:Int):Prop:=-9223372036854775808<=x/\x<=9223372036854775807
theorem DT{y:Int}(hx:Er x)(hy:Er y)(h:∀ i,i<64->bt x i=bt y i):x=y:=by
 have h1:BitVec.ofInt 64 x=BitVec.ofInt 64 y:=BitVec.eq_of_getLsbD_eq h;have h2:=congrArg BitVec.toNat h1;rw [BitVec.toNat_ofInt,BitVec.toNat_ofInt] at h2;have h3:(x % 18446744073709551616).toNat=(y % 18446744073709551616).toNat:=h2;unfold Er at hx hy;omega
theorem Hh(n:Int):Er (IntKind.i64.wrap n):=by
 unfold IntKind.wrap Er;simp only [IntKind.bits,IntKind.signed];by_cases h:(9223372036854775808:Int)<=n % 18446744073709551616
 ·simp [h];omega
 ·simp [h];omega
theorem CJ(op:BinOp)(x y:Int):Er (bits op .i64 x y):=Hh _
theorem GiA{i:Nat}(h:64<=i):bt x i=false:=by
 unfold bt;exact BitVec.getLsbD_of_ge _ _ h
theorem M5(i:Nat):bt 0 i=false:=by
 unfold bt;simp
theorem Fb(h:qP:=by unfold Er;omega):qP:=h
theorem M0(hx:Er x):x=0↔∀ i,i<64->bt x i=false:=by
 constructor
 ·rintro rfl i _;exact M5 i
 ·intro h;refine DT hx Fb λi hi => ?_;rw [h i hi,M5]
theorem DVA(n:Nat)(i:Nat)(hn:n<18446744073709551616):bt (n:Int) i=n.testBit i:=by
 unfold bt;rw [BitVec.ofInt_natCast,BitVec.getLsbD_ofNat];by_cases hi:i<64
 ·simp [hi]
 ·simp [hi];exact (Nat.testBit_lt_two_pow (Nat.lt_of_lt_of_le hn (Nat.pow_le_pow_right (n:=2) AA (show 64<=i by omega))))
theorem Js(k i:Nat)(hk:k<63):bt ((2^k:Nat):Int) i=decide (i=k):=by
 rw [DVA _ _ (Nat.lt_of_lt_of_le (Nat.pow_lt_pow_right AA (show k<64 by omega)) AB)];rw [Nat.testBit_two_pow];rw [Bool.eq_iff_iff];simp [eq_comm]

def Ev(c:Int):Nat:=if c<32\/126<c then 0 else if 48<=c/\c<=57 then 1 else if 65<=c/\c<=90 then 2 else if 97<=c/\c<=122 then 3 else if c=32 then 5 else 6
def DxA(c:UInt8):Nat:=Ev (c.toNat:Int)
theorem Sg(h:qP:=by
 unfold Ev
 repeat' split
 all_goals omega):qP:=h
theorem Ir(c:Int):Ev c<=6:=by
 exact Sg
def CT(l:List Int):Int:=l.foldl (λa c=>bits .or .i64 a ((2^Ev c:Nat):Int)) 0
theorem EdA(l:List Int)(a:Int)(i:Nat):bt (l.foldl (λa c=>bits .or .i64 a ((2^Ev c:Nat):Int)) a) i=(bt a i||l.any λc=>decide (Ev c=i)):=by
 induction l generalizing a with
 |nil=>simp
 |cons c l ih =>
  rw [List.foldl_cons,ih,Ux,Js _ _ (by have:=Ir c;omega),List.any_cons,Bool.or_assoc];congr 2;rw [Bool.eq_iff_iff];simp [eq_comm]
theorem Xu(l:List Int)(i:Nat):bt (CT l) i=l.any λc=>decide (Ev c=i):=by
 unfold CT;rw [EdA,M5,Bool.false_or]
theorem DgA(l:List Int):Er (CT l):=by
 unfold CT
 rcases List.eq_nil_or_concat l with rfl|⟨m,c,rfl⟩
 ·simp [Er]
 ·rw [List.concat_eq_append,List.foldl_append,List.foldl_cons,List.foldl_nil];exact CJ _ _ _
def CM(p q:Int):Bool:=decide (bits .andNot .i64 p q=0)
theorem Iy{p:Int} : CM p q=true↔∀ i,i<64->bt p i=true->bt q i=true:=by
 unfold CM;rw [decide_eq_true_eq,M0 (CJ _ _ _)];refine forall_congr' λi=>forall_congr' λhi => ?_;rw [CUA _ _ _ hi];cases bt p i<;>cases bt q i<;>simp
theorem Hg{l:List Int} : CM (CT l) q=true↔∀ c∈l,bt q (Ev c)=true:=by
 rw [Iy];constructor
 ·intro h c hc;refine h _ (by have:=Ir c;omega) ?_;rw [Xu,List.any_eq_true];exact ⟨c,hc,AC⟩
 ·intro h i _ hi;rw [Xu,List.any_eq_true] at hi;obtain ⟨c,hc,he⟩:=hi;rw [decide_eq_true_eq] at he;rw [<-he];exact h c hc
theorem DSA(i:Nat):bt 110 i=decide (i=1\/i=2\/i=3\/i=5\/i=6):=by
 by_cases h:i<64
 ·have H:(List.range 64).all (λi=>bt 110 i==decide (i=1\/i=2\/i=3\/i=5\/i=6))=true:=AB;rw [List.all_eq_true] at H;exact eq_of_beq (H i BU)
 ·rw [GiA AA];rw [Bool.eq_iff_iff];simp;omega
theorem MS(h:qP:=by
 rw [Bool.eq_iff_iff,decide_eq_true_eq,decide_eq_true_eq]
 repeat' split
 all_goals omega):qP:=h
theorem Mu(c:Int):bt 110 (Ev c)=C4 c:=by
 rw [DSA];unfold Ev C4;exact MS
theorem XQ{s:BA}{c:Int} : c∈bs s↔∃ u∈s.data.toList,(u.toNat:Int)=c:=by
 unfold bs;rw [List.mem_map]
theorem WN(s:BA):Ca s=(decide (s.size<=200)&&CM (CT (bs s)) 110):=by
 unfold Ca;congr 1;rw [Bool.eq_iff_iff,Hg,List.all_eq_true];refine forall_congr' λc=>forall_congr' λ_ => ?_;rw [Mu]

structure Sh where
 least:Int
 most:Int
 cls:Int
 b:BA
 e:BA
abbrev Sp(x:Sh):Array Value:=List.toArray [.int .i64 x.least,.int .i64 x.most,.int .i64 x.cls,.string x.b,.string x.e]
abbrev Sq(x:Sh):Value:=.agg (Sp x)
def H3A:Sh:=⟨1,0,0,⟨#[]⟩,⟨#[]⟩⟩
def Sh.full:Sh:=⟨0,200,110,⟨#[]⟩,⟨#[]⟩⟩
def Sh.B(a:Sh):List UInt8:=a.b.data.toList
def Sh.E(a:Sh):List UInt8:=a.e.data.toList
def BL(a:Sh):Int:=bits .and .i64 a.cls 110
def AQ(a:Sh):Int:=max (max (max 0 a.least) a.b.size) a.e.size
def BE(a:Sh):Int:=min a.most 200
theorem G6(a:Sh):a.B.length=a.b.size:=rfl
theorem F1(a:Sh):a.E.length=a.e.size:=rfl
def okU(o:Int)(c:UInt8):Prop:=bt o (DxA c)=true
theorem Xa{a:Sh}{c:UInt8} : okU (BL a) c↔bt a.cls (DxA c)=true/\C4 (c.toNat:Int)=true:=by
 unfold okU BL;rw [CN,Bool.and_eq_true];unfold DxA;rw [Mu]
def InS(a:Sh)(l:List UInt8):Prop:=AQ a<=l.length/\l.length<=BE a/\(∀ c∈l,okU (BL a) c)/\a.B <+: l/\a.E <:+ l
def EA(p s:BA):Bool:=p.data.toList.isPrefixOf s.data.toList
def EB(p s:BA):Bool:=p.data.toList.isSuffixOf s.data.toList
def Aj(a:Sh)(s:BA):Bool :=
 Ca s&&decide (a.least<=s.size)&&decide ((s.size:Int)<=a.most)&&CM (CT (bs s)) a.cls&&EA a.b s&&EB a.e s
theorem Cf(a:Sh)(s:BA):Aj a s=true↔InS a s.data.toList:=by
 unfold Aj InS EA EB AQ BE;simp only [Bool.and_eq_true,decide_eq_true_eq,List.isPrefixOf_iff_prefix,List.isSuffixOf_iff_suffix];rw [WN,Bool.and_eq_true,decide_eq_true_eq,Hg,Hg];have hl:s.data.toList.length=s.size:=rfl;have e1:(∀ c∈s.data.toList,okU (BL a) c)↔(∀ c∈bs s,bt 110 (Ev c)=true)/\∀ c∈bs s,bt a.cls (Ev c)=true:=by
  constructor
  ·intro h;refine ⟨λc hc => ?_,λc hc => ?_⟩
   all_goals
    obtain ⟨u,hu,rfl⟩:=XQ.1 hc;have:=Xa.1 (h u hu)
   ·rw [Mu];exact this.2
   ·exact this.1
  ·rintro ⟨h1,h2⟩ u hu;have hc:=XQ.2 ⟨u,hu,rfl⟩;refine Xa.2 ⟨h2 _ hc,?_⟩;rw [<-Mu];exact h1 _ hc
 rw [e1];constructor
 ·rintro ⟨⟨⟨⟨⟨⟨h1,h2⟩,h3⟩,h4⟩,h5⟩,h6⟩,h7⟩;have k1:=h6.length_le;have k2:=h7.length_le
  change a.b.size<=_ at k1
  change a.e.size<=_ at k2
  refine ⟨AA,AA,⟨h2,h5⟩,h6,h7⟩
 ·rintro ⟨h1,h2,⟨h3,h4⟩,h5,h6⟩;exact ⟨⟨⟨⟨⟨⟨AA,h3⟩,AA⟩,AA⟩,h4⟩,h5⟩,h6⟩
def XG(a:Sh)(n:Nat):Bool:=decide (a.B.drop (n-a.E.length)=a.E.take (a.B.length+a.E.length-n))
def AT(a:Sh):Bool :=
 decide (BE a<AQ a)||!CM (CT (bs a.b)) (BL a)||!CM (CT (bs a.e)) (BL a) ||
  (if BL a=0 then decide (0<AQ a) else decide (BE a<a.b.size+a.e.size)&&!((List.range 201).any λn=>decide (AQ a<=n/\(n:Int)<=BE a)&&XG a n))
theorem DWA{o:Int}(h:o=0)(c:UInt8):¬okU o c:=by
 subst h;unfold okU;rw [M5];simp
theorem CGA{a:Sh}(h:BL a≠0):∃ c:UInt8,okU (BL a) c:=by
 by_cases h1:∃ i,i<64/\bt (BL a) i=true
 ·obtain ⟨i,_,hb⟩:=h1;have hb':=hb;unfold BL at hb';rw [CN,Bool.and_eq_true,DSA,decide_eq_true_eq] at hb';obtain ⟨_,rfl|rfl|rfl|rfl|rfl⟩:=hb'
  ·exact ⟨48,hb⟩
  ·exact ⟨65,hb⟩
  ·exact ⟨97,hb⟩
  ·exact ⟨32,hb⟩
  ·exact ⟨33,hb⟩
 ·exfalso;refine h ((M0 (CJ _ _ _)).2 λi hi => ?_);cases hb:bt (bits .and .i64 a.cls 110) i
  ·rfl
  ·exact absurd ⟨i,hi,hb⟩ h1
theorem BVA(h:qP:=by
 intro h c hc;obtain ⟨u,hu,rfl⟩:=XQ.1 hc;exact h u hu):qP:=h
theorem UH(h:qP:=by
 rw [Hg];constructor
 ·intro h u hu;exact h _ (XQ.2 ⟨u,hu,rfl⟩)
 ·exact BVA):qP:=h
theorem CPA{a:Sh} : CM (CT (bs a.b)) (BL a)=true↔∀ c∈a.B,okU (BL a) c:=by
 exact UH
theorem COA{a:Sh} : CM (CT (bs a.e)) (BL a)=true↔∀ c∈a.E,okU (BL a) c:=by
 exact UH
theorem DpA{x y l:List UInt8}(h1:x <+: l)(h2:y <:+ l)(hl:l.length<=x.length+y.length):x.drop (l.length-y.length)=y.take (x.length+y.length-l.length):=by
 obtain ⟨t,rfl⟩:=h1;obtain ⟨u,hu⟩:=h2;have O:=congrArg List.length hu;simp only [List.length_append] at O hl;have h3:((x++t).drop ((x++t).length-y.length))=y:=by
  rw [<-hu];simp only [List.length_append];rw [show u.length+y.length-y.length=u.length by omega,List.drop_left]
 have h4:(x++t).length-y.length<=x.length:=by
  simp only [List.length_append];omega
 rw [List.drop_append_of_le_length h4] at h3;have h5:(x.drop ((x++t).length-y.length)).length=x.length+y.length-(x++t).length:=by
  rw [List.length_drop];simp only [List.length_append];omega
 rw [<-h5];generalize hz:x.drop ((x++t).length-y.length)=z at h3;rw [<-h3,List.take_left]
theorem YA{x y:List UInt8}(h1:x.length<=n)(_h2:y.length<=n)(hn:n<=x.length+y.length)(h:x.drop (n-y.length)=y.take (x.length+y.length-n)):x <+: x++y.drop (x.length+y.length-n)/\y <:+ x++y.drop (x.length+y.length-n)/\(x++y.drop (x.length+y.length-n)).length=n:=by
 refine ⟨List.prefix_append _ _,⟨x.take (n-y.length),?_⟩,?_⟩
 ·generalize hz:y.drop (x.length+y.length-n)=z;have hy:y=x.drop (n-y.length)++z:=(by rw [h,<-hz,List.take_append_drop]);generalize n-y.length=k at hy;rw [hy,<-List.append_assoc,List.take_append_drop]
 ·rw [List.length_append,List.length_drop];omega
theorem Uo{x y:List UInt8}(c:UInt8)(h:x.length+y.length<=n):x <+: x++(List.replicate (n-x.length-y.length) c++y)/\y <:+ x++(List.replicate (n-x.length-y.length) c++y)/\(x++(List.replicate (n-x.length-y.length) c++y)).length=n:=by
 refine ⟨List.prefix_append _ _,?_,?_⟩
 ·rw [<-List.append_assoc];exact List.suffix_append _ _
 ·simp only [List.length_append,List.length_replicate];omega
theorem Ol(h:qP:=by
 refine h _ ⟨by rw [k3];omega,by rw [k3];omega,?_,k1,k2⟩;intro u hu;rw [List.mem_append,List.mem_append,List.mem_replicate] at hu
 rcases hu with hu|⟨_,rfl⟩|hu
 ·exact h2 u hu
 ·exact hc
 ·exact h3 u hu):qP:=h
theorem DQ(h:qP:=by unfold AQ;omega):qP:=h
theorem Gj(h:qP:=by unfold BE;omega):qP:=h
theorem Eb(h:qP:=by rw [k3];omega):qP:=h
theorem IM(a:Sh):AT a=true↔∀ l,¬InS a l:=by
 have U:(a.b.size:Int)<=AQ a/\(a.e.size:Int)<=AQ a/\0<=AQ a:=DQ;have Y:BE a<=200:=Gj;constructor
 ·intro h l O;obtain ⟨h1,h2,h3,h4,h5⟩:=O;unfold AT at h;simp only [Bool.or_eq_true,decide_eq_true_eq,Bool.not_eq_true'] at h
  rcases h with ((h|h)|h)|h
  ·omega
  ·rw [CPA.2 λc hc=>h3 c (h4.subset hc)] at h;cases h
  ·rw [COA.2 λc hc=>h3 c (h5.subset hc)] at h;cases h
  ·split at h
   next ho =>
    have hl:l=[]:=by
     cases l with
     |nil=>rfl
     |cons c l=>exact absurd (h3 c List.mem_cons_self) (DWA ho c)
    subst hl;simp at h h1;omega
   next ho =>
    simp only [Bool.and_eq_true,decide_eq_true_eq,Bool.not_eq_true'] at h;obtain ⟨h6,h7⟩:=h;rw [List.any_eq_false] at h7;refine h7 l.length (by rw [List.mem_range];omega) ?_;simp only [Bool.and_eq_true,decide_eq_true_eq,XG];exact ⟨⟨h1,h2⟩,DpA h4 h5 (by rw [G6,F1];omega)⟩
 ·intro h;cases he:AT a
  ·exfalso;unfold AT at he;simp only [Bool.or_eq_false_iff,decide_eq_false_iff_not,Bool.not_eq_false'] at he;obtain ⟨⟨⟨h1,h2⟩,h3⟩,h4⟩:=he;rw [CPA] at h2;rw [COA] at h3;split at h4
   next ho =>
    rw [decide_eq_false_iff_not] at h4;refine h [] ⟨AI,AI,AC,?_,?_⟩
    ·rw [List.eq_nil_of_length_eq_zero (by rw [G6];omega:a.B.length=0)];exact List.nil_prefix
    ·rw [List.eq_nil_of_length_eq_zero (by rw [F1];omega:a.E.length=0)];exact List.nil_suffix
   next ho =>
    rw [Bool.and_eq_false_iff,decide_eq_false_iff_not,Bool.not_eq_false'] at h4
    rcases h4 with h4|h4
    ·obtain ⟨c,hc⟩:=CGA ho;obtain ⟨n,hn⟩:∃ n:Nat,(n:Int)=max (AQ a) (a.b.size+a.e.size):=⟨(max (AQ a) (a.b.size+a.e.size)).toNat,AA⟩;obtain ⟨k1,k2,k3⟩:=Uo (x:=a.B) (y:=a.E) (n:=n) c (by rw [G6,F1];omega);exact Ol
    ·rw [List.any_eq_true] at h4;obtain ⟨n,_,h5⟩:=h4;simp only [Bool.and_eq_true,decide_eq_true_eq,XG] at h5;obtain ⟨⟨h6,h7⟩,h8⟩:=h5;by_cases hn:n<=a.B.length+a.E.length
     ·obtain ⟨k1,k2,k3⟩:=YA (x:=a.B) (y:=a.E) (n:=n) (by rw [G6];omega) (by rw [F1];omega) hn h8;refine h _ ⟨Eb,Eb,?_,k1,k2⟩;intro u hu;rw [List.mem_append] at hu
      rcases hu with hu|hu
      ·exact h2 u hu
      ·exact h3 u (List.mem_of_mem_drop hu)
     ·obtain ⟨c,hc⟩:=CGA ho;obtain ⟨k1,k2,k3⟩:=Uo (x:=a.B) (y:=a.E) (n:=n) c AA;exact Ol
  ·rfl
