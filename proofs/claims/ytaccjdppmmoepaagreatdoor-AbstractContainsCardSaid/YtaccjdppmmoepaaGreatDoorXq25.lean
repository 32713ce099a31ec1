/- Lemmas. No conditions. -/
import Derived.Test.YtaccjdppmmoepaaGreatDoorXq22
set_option maxRecDepth 100000
set_option maxHeartbeats 4000000
namespace Go.Proofs.YtaccjdppmmoepaaGreatDoor
open Go Go.RowKit Tryz
variable {qP:Prop}

def nam3:List BA:=[⟨#[97]⟩,⟨#[98]⟩,⟨#[99]⟩]
def EcA:Array Value:=#[.string ⟨#[97]⟩,.string ⟨#[98]⟩,.string ⟨#[99]⟩]
theorem FcA(k:Nat)(hk:k<3):∃ h:k<nam3.length,EcA[k]?=some (.string nam3[k])/\nam3[k].size<=20:=by
 match k,hk with
 |0,_=>exact ⟨AB,rfl,AB⟩
 |1,_=>exact ⟨AB,rfl,AB⟩
 |2,_=>exact ⟨AB,rfl,AB⟩
 |n+3,h=>omega
structure YB(w:World)(g:Nat)(A:OA)(l:List Int)(c:Nat)(Ac:OA)(cc:Nat)(cols:List BA)(Ak:OA)(ck:Nat)(ks:List Int)(wr:World):Prop where
 but:But g w wr
 gr:Blk wr w.heap.size 40 Vz
 gt:Blk wr (w.heap.size+1) 40 #[.I 5,.string ⟨#[]⟩,.I 0,.I 0,.I 0,.slice Ac cols.length cc,.slice none 0 0]
 num:∃ K,NSt wr g A l c K
 ownC:OwnSs wr (w.heap.size+2) Ac cc cols
 ownK:OwnIs wr (w.heap.size+2) Ak ck ks
 sep:∀ b,ob Ac=some b->ob Ak≠some b
structure YBA(w:World)(g:Nat)(A:OA)(l:List Int)(c:Nat)(Ac:OA)(cc:Nat)(cols:List BA)(Ak:OA)(ck:Nat)(ks:List Int)(wr:World):Prop where
 but:But g w wr
 gr:Blk wr w.heap.size 40 Vz
 gt:∃ x,Blk wr (w.heap.size+1) 40 #[.I 5,.string ⟨#[]⟩,.I 0,.I 0,.I 0,x,.slice none 0 0]
 num:∃ K,NSt wr g A l c K
 ownC:OwnSs wr (w.heap.size+2) Ac cc cols
 ownK:OwnIs wr (w.heap.size+2) Ak ck ks
 sep:∀ b,ob Ac=some b->ob Ak≠some b
section
variable {w wr wr':World}{g:Nat}{A Ac Ak:OA}{c cc ck:Nat}{cols:List BA}{l ks:List Int}
theorem YB.more(h:YB w g A l c Ac cc cols Ak ck ks wr)(hx:Ext wr wr'):YB w g A l c Ac cc cols Ak ck ks wr':=by
 obtain ⟨K,hK⟩:=h.num;exact ⟨h.but.trans (H7A hx),h.gr.keep (hx.kept _),h.gt.keep (hx.kept _),⟨K,hK.ext hx⟩,h.ownC.ext hx,h.ownK.ext hx,h.sep⟩
theorem YB.next(h:YB w g A l c Ac cc cols Ak ck ks wr)(hg:g<w.heap.size)(hb:But g wr wr'){K:Nat}(hK:NSt wr' g A l c K):YB w g A l c Ac cc cols Ak ck ks wr' :=
 ⟨h.but.trans hb,hb.blk h.gr AA,hb.blk h.gt AA,⟨K,hK⟩,⟨hb.own h.ownC.1 AA,h.ownC.2⟩,hb.own h.ownK AA,h.sep⟩
theorem YB.app{A4:OA}{c4:Nat}{t:BA}(h:YB w g A l c Ac cc cols Ak ck ks wr)(hgw:g<w.heap.size)(hD:∀ b o,A=some ⟨b,o,none⟩->l≠[]->b<w.heap.size)(hg:wr.grownBy wr' (ob Ac))(ho:Own wr' (w.heap.size+2) 9 1 A4 (cols.length+1) c4 (cols.map Value.string++[.string t]))
  (hat:ob A4=ob Ac\/ob A4=some wr.heap.size) (ht:t.size<=4294967296):YBA w g A l c A4 c4 (cols++[t]) Ak ck ks wr':=by
 obtain ⟨K,hK⟩:=h.num;have hk:∀ g,g<w.heap.size+2->Kept (λb=>b=g) wr wr':=λg hg'=>Kept.of_grown hg λb hb _ e=>by
  subst hb;have:=(h.ownC.1.blk e.symm).1;omega
 refine ⟨h.but.grown hg λb hb=>by have:=(h.ownC.1.blk hb).1;omega,h.gr.keep (hk _ AA),⟨_,h.gt.keep (hk _ AA)⟩,⟨K,hK.keep2 hgw hD (Kept.of_grown hg λb hb _ e=>by have:=(h.ownC.1.blk e.symm).1;omega)⟩,⟨?_,?_⟩,?_,?_⟩
 ·simpa using ho
 ·intro x hx
  rcases List.mem_append.1 hx with hx|hx
  ·exact h.ownC.2 x hx
  ·simp at hx;subst hx;exact ht
 ·exact Own.keep h.ownK (Kept.of_grown hg λb hb _ e=>h.sep b e.symm hb)
 ·intro b hb hb'
  rcases hat with e|e
  ·rw [e] at hb;exact h.sep b hb hb'
  ·rw [e] at hb;have:=(Own.blk h.ownK hb').2;injection hb with hb;omega
theorem YBA.store(h:YBA w g A l c Ac cc cols Ak ck ks wr)(hgw:g<w.heap.size)(hD:∀ b o,A=some ⟨b,o,none⟩->l≠[]->b<w.heap.size):YB w g A l c Ac cc cols Ak ck ks (wr.setCell ⟨w.heap.size+1,5,none⟩ (.slice Ac cols.length cc)):=by
 obtain ⟨K,hK⟩:=h.num;obtain ⟨x,hx⟩:=h.gt;have ho:=(Only.refl (w.heap.size+1) wr).set 5 (.slice Ac cols.length cc);exact ⟨h.but.set AA,h.gr.keep (ho.kept λb _ e=>AA),hx.set 5 _,⟨K,hK.keep2 hgw hD (ho.kept λb _ e=>AA)⟩,⟨ho.own h.ownC.1 AA,h.ownC.2⟩,ho.own h.ownK AA,h.sep⟩
theorem YB.appK{A4:OA}{c4:Nat}{x:Int}(h:YB w g A l c Ac cc cols Ak ck ks wr)(hgw:g<w.heap.size)(hD:∀ b o,A=some ⟨b,o,none⟩->l≠[]->b<w.heap.size)(hg:wr.grownBy wr' (ob Ak))(ho:Own wr' (w.heap.size+2) 3 1 A4 (ks.length+1) c4 (ks.map (Value.int .i64)++[.I x]))
  (hat:ob A4=ob Ak\/ob A4=some wr.heap.size):YB w g A l c Ac cc cols A4 c4 (ks++[x]) wr':=by
 obtain ⟨K,hK⟩:=h.num;have hk:∀ g,g<w.heap.size+2->Kept (λb=>b=g) wr wr':=λg hg'=>Kept.of_grown hg λb hb _ e=>by
  subst hb;have:=(Own.blk h.ownK e.symm).1;omega
 refine ⟨h.but.grown hg λb hb=>by have:=(Own.blk h.ownK hb).1;omega,h.gr.keep (hk _ AA),h.gt.keep (hk _ AA),⟨K,hK.keep2 hgw hD (Kept.of_grown hg λb hb _ e=>by have:=(Own.blk h.ownK e.symm).1;omega)⟩,⟨?_,h.ownC.2⟩,?_,?_⟩
 ·exact h.ownC.1.keep (Kept.of_grown hg λb hb _ e=>h.sep b hb e.symm)
 ·unfold OwnIs
  simpa using ho
 ·intro b hb hb'
  rcases hat with e|e
  ·rw [e] at hb';exact h.sep b hb hb'
  ·rw [e] at hb';have:=(h.ownC.1.blk hb).2;injection hb' with hb';omega
end
def GvA(w:World)(g:Nat)(A:OA)(l:List Int)(c:Nat)(Ac:OA)(cc:Nat)(cols:List BA)(Ak:OA)(ck:Nat)(ks:List Int)(_t:BA)(_k:Nat)(F:Nat)(J:World):Prop:=F<=4/\(F<=2->YB w g A l c Ac cc cols Ak ck ks J)
def E4A(w:World)(g:Nat)(A:OA)(l:List Int)(c:Nat)(Ac:OA)(cc:Nat)(cols:List BA)(Ak:OA)(ck:Nat)(ks:List Int)(t:BA)(k:Nat):Nat->List Value->Nat->World->Prop
 |0,[v],_,_=>v=.pointer (some ⟨w.heap.size+1,5,none⟩)
 |1,[v],_,_=>v=.slice Ac cols.length cc
 |2,[v],F,J=>∃ g:Nat,v=.slice (some ⟨g,0,none⟩) 3 3/\1<=F/\(F=1->Blk J g 9 EcA)
 |3,[v],_,_=>v=.I (k:Int)
 |4,[v],F,J=>∃ g:Nat,v=.pointer (some ⟨g,k,none⟩)/\1<=F/\(F=1->Blk J g 9 EcA)
 |5,[v],F,_=>v=.string t/\1<=F
 |6,[v],F,J=>∃ g:Nat,v=.slice (some ⟨g,0,none⟩) 1 1/\2<=F/\(F=2->Blk J g 9 #[.string t])
 |7,[v],F,J=>∃ (A4:OA) (c4:Nat),v=.slice A4 (cols.length+1) c4/\3<=F/\(F=3->YBA w g A l c A4 c4 (cols++[t]) Ak ck ks J)
 |8,[v],_,_=>v=.pointer (some ⟨w.heap.size+1,5,none⟩)
 |9,[_],F,J=>4<=F/\(F=4->∃ (A4:OA) (c4:Nat),YB w g A l c A4 c4 (cols++[t]) Ak ck ks J)
 |_,_,_,_=>True
theorem EwA(w:World)(g:Nat)(A:OA)(l:List Int)(c:Nat)(Ac:OA)(cc:Nat)(cols:List BA)(Ak:OA)(ck:Nat)(ks:List Int)(t:BA)(k:Nat):∀ i l' F v γ' v',SR (GvA w g A l c Ac cc cols Ak ck ks t k) F v γ' v'->E4A w g A l c Ac cc cols Ak ck ks t k i l' F v->E4A w g A l c Ac cc cols Ak ck ks t k i l' γ' v':=by
 intro i l' F v γ' v' r h;have hle:=r.le;unfold E4A at h|-;split at h
 all_goals first
  |exact h
  |(obtain ⟨h1,h2⟩:=h;exact ⟨h1,AA⟩)
  |(obtain ⟨x,h1,h3,h4⟩:=h;exact ⟨x,h1,AA,λe=>by rw [r.eq AA];exact h4 AA⟩)
  |(obtain ⟨x,y,h1,h3,h4⟩:=h;exact ⟨x,y,h1,AA,λe=>by rw [r.eq AA];exact h4 AA⟩)
  |(obtain ⟨h3,h4⟩:=h;exact ⟨AA,λe=>by rw [r.eq AA];exact h4 AA⟩)
def HjA:Nat->List Nat:=λi=>[i]
def GnA:List Nat:=[100,3,1,100,100,2,2,3,100,4]


def KsOK(ks:List Int):Prop:=∀ x∈ks,1<=x/\x<=4
theorem KsOK.nil:KsOK []:=by intro x hx;cases hx
theorem KsOK.snoc{ks:List Int}(h:KsOK ks){x:Int}(h1:1<=x)(h2:x<=4):KsOK (ks++[x]):=by
 exact P6
theorem Xd{x:Val}(h:BG x=true):DU x=true:=by
 unfold DU;rw [h,Bool.and_true,decide_eq_true_eq];intro hk;unfold BG at h;rw [hk] at h;simp at h
def RwsOK(m:Nat)(L_:List (List Val)):Prop:=∀ r∈L_,Ew m r=true
def CelOK(xs:List Val):Prop:=∀ x∈xs,DU x=true/\x.cols=[]/\x.rows=[]
theorem CelOK.snoc{xs:List Val}(h:CelOK xs){x:Val}(h1:DU x=true)(h2:x.cols=[])(h3:x.rows=[]):CelOK (xs++[x]):=by
 intro y hy
 rcases List.mem_append.1 hy with hy|hy
 ·exact h y hy
 ·rw [List.mem_singleton.1 hy];exact ⟨h1,h2,h3⟩
theorem RwsOK.snoc{m:Nat}{L_:List (List Val)}(h:RwsOK m L_){xs:List Val}(hx:CelOK xs)(hl:xs.length=m):RwsOK m (L_++[xs]):=by
 intro y hy
 rcases List.mem_append.1 hy with hy|hy
 ·exact h y hy
 ·rw [List.mem_singleton.1 hy];unfold Ew;rw [Bool.and_eq_true,decide_eq_true_eq,List.all_eq_true];exact ⟨hl,λx hx'=>(hx x hx').1⟩
theorem CtA:∀ m,m<4->(List.range (nam3.take m).length).all (Fj (nam3.take m))=true/\(nam3.take m).length=m:=by
 intro m hm
 match m,hm with
 |0,_=>decide
 |1,_=>decide
 |2,_=>decide
 |3,_=>decide
 |n+4,h=>omega
theorem C9A{m:Nat}(hm:m<4){L_:List (List Val)}(hL:RwsOK m L_)(hl:L_.length<=100):BC ⟨5,⟨#[]⟩,0,0,0,nam3.take m,L_⟩=true:=by
 obtain ⟨h1,h2⟩:=CtA m hm;unfold BC BK KU;rw [if_pos rfl];dsimp only;rw [h1,h2,Bool.and_eq_true,Bool.and_eq_true,Bool.and_eq_true,decide_eq_true_eq,List.all_eq_true];exact ⟨⟨⟨⟨AA,hl⟩,rfl⟩,hL⟩,AC⟩
structure YR(w:World)(g:Nat)(A:OA)(l:List Int)(c:Nat)(Ac:OA)(cc:Nat)(cols:List BA)(Ak:OA)(ck:Nat)(ks:List Int)(Ar:OA)(cr:Nat)(L_:List (List Val))(wr:World):Prop where
 but:But g w wr
 gr:Blk wr w.heap.size 40 Vz
 gt:Blk wr (w.heap.size+1) 40 #[.I 5,.string ⟨#[]⟩,.I 0,.I 0,.I 0,.slice Ac cols.length cc,.slice Ar L_.length cr]
 num:∃ K,NSt wr g A l c K
 ownC:OwnSs wr (w.heap.size+2) Ac cc cols
 ownK:OwnIs wr (w.heap.size+2) Ak ck ks
 rows:OwnRs wr (w.heap.size+2) (λb=>w.heap.size+2<=b/\ob Ac≠some b/\ob Ak≠some b) 1 Ar cr L_
 sep:∀ b,ob Ar=some b->ob Ac≠some b/\ob Ak≠some b
section
variable {w wr wr':World}{g:Nat}{A Ac Ak Ar:OA}{c cc ck cr:Nat}{cols:List BA}{l ks:List Int}{L_:List (List Val)}
theorem YR.start(h:YB w g A l c Ac cc cols Ak ck ks wr):YR w g A l c Ac cc cols Ak ck ks none 0 [] wr :=
 ⟨h.but,h.gr,h.gt,h.num,h.ownC,h.ownK,OwnRs.nil _ _ _ _,λb hb=>by cases hb⟩
theorem YR.next(h:YR w g A l c Ac cc cols Ak ck ks Ar cr L_ wr)(hg:g<w.heap.size)(hb:But g wr wr'){K:Nat}(hK:NSt wr' g A l c K):YR w g A l c Ac cc cols Ak ck ks Ar cr L_ wr' :=
 ⟨h.but.trans hb,hb.blk h.gr AA,hb.blk h.gt AA,⟨K,hK⟩,⟨hb.own h.ownC.1 AA,h.ownC.2⟩,hb.own h.ownK AA,h.rows.keep (hb.kept λb _ hs e=>by
  rcases hs with hs|hs
  ·have:=(h.rows.blk hs).1;omega
  ·have:=hs.1;omega),h.sep⟩
theorem YR.app(h:YR w g A l c Ac cc cols Ak ck ks Ar cr L_ wr)(hgw:g<w.heap.size)(hD:∀ b o,A=some ⟨b,o,none⟩->l≠[]->b<w.heap.size){A4 B:OA}{c4 e:Nat}{xs:List Val}{hs:List Value}(hl:hs.length=L_.length)
  (hv:∀ (i:Nat) (r:List Val),L_[i]?=some r->∃ (B:OA) (e:Nat),hs[i]?=some (Value.slice B r.length e)/\r.length<=e/\Row wr (λb=>ob Ar≠some b/\(w.heap.size+2<=b/\ob Ac≠some b/\ob Ak≠some b)) 1 B r)
  (hown:Own wr' (w.heap.size+2) 45 1 A4 (L_.length+1) c4 (hs++[Value.slice B xs.length e])) (hg:wr.grownBy wr' (ob Ar)) (hat:ob A4=ob Ar\/ob A4=some wr.heap.size)
  (hre:xs.length<=e) (hy:Row wr (λb=>ob Ar≠some b/\(w.heap.size+2<=b/\ob Ac≠some b/\ob Ak≠some b)) 1 B xs):YR w g A l c Ac cc cols Ak ck ks A4 c4 (L_++[xs]) (wr'.setCell ⟨w.heap.size+1,6,none⟩ (.slice A4 (L_.length+1) c4)):=by
 obtain ⟨K,hK⟩:=h.num;have h1:=OwnRs.push (X:=λb=>w.heap.size+2<=b/\ob Ac≠some b/\ob Ak≠some b) hl hv hown hg hat hre hy;have hk:∀ g,g<w.heap.size+2->Kept (λb=>b=g) wr wr':=λg hg'=>Kept.of_grown hg λb hb _ e=>by
  subst hb;have:=(h.rows.blk e.symm).1;omega
 have ho:=(Only.refl (w.heap.size+1) wr').set 6 (.slice A4 (L_.length+1) c4);have O:∀ b,ob A4=some b->ob Ac≠some b/\ob Ak≠some b:=by
  intro b hb
  rcases hat with e|e
  ·rw [e] at hb;exact h.sep b hb
  ·rw [e] at hb;injection hb with hb;exact ⟨λe2=>by have:=(h.ownC.1.blk e2).2;omega,λe2=>by have:=(Own.blk h.ownK e2).2;omega⟩
 refine ⟨(h.but.grown hg λb hb=>by have:=(h.rows.blk hb).1;omega).set AA,(h.gr.keep (hk _ AA)).keep (ho.kept λb _ e=>AA),?_,⟨K,(hK.keep2 hgw hD (Kept.of_grown hg λb hb _ e=>by have:=(h.rows.blk e.symm).1;omega)).keep2 hgw hD (ho.kept λb _ e=>AA)⟩,⟨?_,h.ownC.2⟩,?_,?_,O⟩
 ·have h2:=(h.gt.keep (hk _ AA)).set 6 (.slice A4 (L_.length+1) c4)
  simpa using h2
 ·exact ho.own (h.ownC.1.keep (Kept.of_grown hg λb hb _ e=>(h.sep b e.symm).1 hb)) AA
 ·exact ho.own (Own.keep h.ownK (Kept.of_grown hg λb hb _ e=>(h.sep b e.symm).2 hb)) AA
 ·refine h1.keep (ho.kept λb _ hb e => ?_)
  rcases hb with hb|hb
  ·have:=(h1.blk hb).1;omega
  ·have:=hb.1;omega
end
def DeA(w:World)(g:Nat)(A:OA)(l:List Int)(c:Nat)(e:Ending)(J:World):Prop:=∃ (x:Val) (B:OA) (c1:Nat) (C:OA) (e':Nat),e=.returned (Vq x B c1 C e')/\(x.cols.length<=c1/\x.rows.length<=e')/\BC x=true/\RV J (BO w) 1 x B C/\But g w J/\∃ K,NSt J g A l c K
theorem Th(h:qP:=by
 go_light;go_simp;exact ⟨F,SR.refl _ _ _,λ_ _ _ h=>h,rfl⟩):qP:=h
theorem Uf(h:qP:=by
 clear hR hN hp hρ hi;exact Th):qP:=h
theorem Tq(h:qP:=by
 refine LinStep.yes λV F J L hR hN hp hρ hc hf hg=>⟨rfl,?_⟩;have hi:=hR.inv ⟨by omega,λ_=>HM.o.more (Ext.refl _).drew⟩;have e3:L (.tmp 3)=.pointer (some ⟨w.heap.size+1,0,none⟩):=hρ 3;exact Uf):qP:=h
theorem Ih(h:qP:=by
 clear hR hN hp hρ hi hb;exact Th):qP:=h
theorem JP(h:qP:=by
 have k1:=hb.q5;exact Ih):qP:=h
theorem Bc(h:qP:=by have h:F<3:=hN;omega):qP:=h
theorem Dm(h:qP:=by have h:F<2:=hN;omega):qP:=h
theorem O9(h:qP:=by have h:F<4:=hN;omega):qP:=h
theorem ZR(g:Nat)(A:OA)(l:List Int)(c K:Nat)(w:World)(h:NSt w g A l c K):Cl 90 #[.pointer (some ⟨g,0,none⟩)] w (DeA w g A l c):=by
 have hgw:=h.1.1.lt;have hne:w.heap.size≠g:=AA;have HD:=Hd (TxR.data h);have hx0:Ext w ((w.alloc (.cells Vz 40)).alloc (.cells #[.I 5,.string ⟨#[]⟩,.I 0,.I 0,.I 0,.slice none 0 0,.slice none 0 0] 40)):=(exaa w).alloc _;obtain ⟨HN,HB0,HG0⟩:=Hd3 (h.ext hx0) (H7A (g:=g) hx0) ((Blk.new w 40 Vz).keep (Kept.alloc _ _ (.cells #[.I 5,.string ⟨#[]⟩,.I 0,.I 0,.I 0,.slice none 0 0,.slice none 0 0] 40)));have HG1:=Hd (show Blk ((w.alloc (.cells Vz 40)).alloc (.cells #[.I 5,.string ⟨#[]⟩,.I 0,.I 0,.I 0,.slice none 0 0,.slice none 0 0] 40)) (w.heap.size+1) 40 #[.I 5,.string ⟨#[]⟩,.I 0,.I 0,.I 0,.slice none 0 0,.slice none 0 0] by
  have:=Blk.new (w.alloc (.cells Vz 40)) 40 #[.I 5,.string ⟨#[]⟩,.I 0,.I 0,.I 0,.slice none 0 0,.slice none 0 0]
  simpa using this)
 clear h hx0
 go_enter func90,ntmps90
 go_wp2_with fail
 refine (Bb 4 g A l c K _ AA AA HN.o).mono ?_;rintro e1 w1 ⟨m,K1,rfl,hm,hKK,hN1,hb1,hs1⟩;have HM0:=Hd (show YB w g A l c none 0 [] none 0 [] w1 from ⟨HB0.o.trans hb1,hb1.blk HG0.o hne,hb1.blk HG1.o AA,⟨K1,hN1⟩,OwnSs.nil _ _,OwnIs.nil _ _,λb hb=>by cases hb⟩);clear hKK hN1 hb1 hs1 HN HB0 HG0 HG1;go_wp2
 go_loopw [5,6] (λv i wr=>∃ (k:Nat) (Ac:OA) (cc:Nat) (Ak:OA) (ck:Nat) (ks:List Int),k<=m/\i=.I k/\ks.length=k/\KsOK ks/\v=.slice Ak k ck/\YB w g A l c Ac cc (nam3.take k) Ak ck ks wr) (λ_ i _=>m-(intOf i).toNat)
 case atStart=>exact ⟨0,none,0,none,0,[],AN,rfl,rfl,KsOK.nil,rfl,HM0.o⟩
 case round =>
  clear HM0;obtain ⟨k,Ac,cc,Ak,ck,ks,hk,rfl,hkl,hko,rfl,i3⟩:=hrel;obtain ⟨cols,b5⟩:=eqx (nam3.take k);rw [<-b5] at i3;obtain ⟨HM,d7,HKO,i5⟩:=Hd4 i3 hkl hko b5;clear i3 hkl b5 hko;have HCL:=Hd (show cols.length=k by rw [i5.o,List.length_take];have:nam3.length=3:=rfl;omega);by_cases hlt:k<m
  ·obtain ⟨hk3,ht,f6⟩:=FcA k AA;obtain ⟨t,d9⟩:=eqx (nam3[k]);rw [<-d9] at ht f6;obtain ⟨HTT,HTZ,HTE⟩:=Hd3 ht f6 d9;clear ht f6 d9
   go_upto_region 7 with fail
   refine BZ AD HjA AD (SR (GvA w g A l c Ac cc cols Ak ck ks t k)) (SR.refl _) (SR.trans _) (SN GnA) (E4A w g A l c Ac cc cols Ak ck ks t k) (EwA _ _ _ _ _ _ _ _ _ _ _ _ _) 0 (SN.zero AB) ⟨?_,?_,?_,?_,?_,?_,?_,?_,?_,?_,trivial⟩ ?_
   ·exact Tq
   ·refine LinStep.yes λV F J L hR hN hp hρ hc hf hg=>⟨rfl,?_⟩;have hi:=hR.inv ⟨AA,λ_=>HM.o.more (Ext.refl _).drew⟩;have e19:L (.tmp 19)=_:=(hρ 19).trans (hp 0 AB);have hb:=(hi.2 Bc).gt;exact JP
   ·refine LinStep.yes λV F J L hR hN hp hρ hc hf hg=>⟨rfl,?_⟩;have hi:=hR.inv ⟨AA,λ_=>HM.o.more (Ext.refl _).drew⟩;have h0:F=0:=(by have h:F<1:=hN;omega);subst h0;have HI:=Hd (hi.2 AA);clear hR hN hp hρ hi;go_light;go_simp;exact ⟨1,SR.up AA ⟨AA,λ_=>HI.o.more (exaa _)⟩,SN.up AA AB rfl,_,rfl,AA,λ_=>Blk.new _ _ _⟩
   ·refine LinStep.yes λV F J L hR hN hp hρ hc hf hg=>⟨rfl,?_⟩;have hi:=hR.inv ⟨AA,λ_=>HM.o.more (Ext.refl _).drew⟩;have e6:L (.tmp 6)=.I (k:Int):=hρ 6;exact Uf
   ·refine LinStep.yes λV F J L hR hN hp hρ hc hf hg=>⟨rfl,?_⟩;have hi:=hR.inv ⟨AA,λ_=>HM.o.more (Ext.refl _).drew⟩;obtain ⟨g',g2,b6,a9⟩:=hp 2 AB;have e21:L (.tmp 21)=_:=(hρ 21).trans g2;have e22:L (.tmp 22)=_:=(hρ 22).trans (hp 3 AB);have i0:(0:Int)<=(k:Int):=AA;have i1:(k:Int)<3:=AA;have HBK:=Hd a9;clear hR hN hp hρ hi g2 a9;go_light;go_simp;exact ⟨F,SR.refl _ _ _,λ_ _ _ h=>h,g',rfl,b6,HBK.o⟩
   ·refine LinStep.yes λV F J L hR hN hp hρ hc hf hg=>⟨rfl,?_⟩;have hi:=hR.inv ⟨AA,λ_=>HM.o.more (Ext.refl _).drew⟩;obtain ⟨g',g4,b6,a9⟩:=hp 4 AB;have e23:L (.tmp 23)=_:=(hρ 23).trans g4;have q:=(a9 Dm).cell HTT.o;clear hR hN hp hρ hi g4 a9;go_light;go_simp;exact ⟨F,SR.refl _ _ _,λ_ _ _ h=>h,rfl,b6⟩
   ·refine LinStep.yes λV F J L hR hN hp hρ hc hf hg=>⟨rfl,?_⟩;have hi:=hR.inv ⟨AA,λ_=>HM.o.more (Ext.refl _).drew⟩;obtain ⟨g5,b6⟩:=hp 5 AB;have h0:F=1:=Dm;subst h0;have e24:L (.tmp 24)=_:=(hρ 24).trans g5;have HI:=Hd (hi.2 AA);clear hR hN hp hρ hi g5;go_light;go_simp;exact ⟨2,SR.up AA ⟨AA,λ_=>HI.o.more (exaa _)⟩,SN.up AA AB rfl,_,rfl,AA,λ_=>Blk.new _ _ _⟩
   ·refine LinStep.yes λV F J L hR hN hp hρ hc hf hg=>⟨rfl,?_⟩;have hi:=hR.inv ⟨AA,λ_=>HM.o.more (Ext.refl _).drew⟩;obtain ⟨g',g6,b6,a9⟩:=hp 6 AB;have h0:F=2:=Bc;subst h0;have e20:L (.tmp 20)=_:=(hρ 20).trans (hp 1 AB);have e25:L (.tmp 25)=_:=(hρ 25).trans g6;have hd:=hi.2 AA;refine FNA (.tmp 20) (.tmp 25) rfl tiS e20 hd.ownC.1 e25 (a9 rfl).rd rfl AP (by have:=HCL.o;omega) AB (by have h1:=hd.gt.lt;omega) ?_;intro A4 c4 w4 hown4 hg4 hat4;exact ⟨3,SR.up AA ⟨AA,λh=>absurd h AA⟩,SN.up AA AB rfl,A4,c4,rfl,AA,λ_=>hd.app hgw HD.o hg4 hown4 hat4 (by have:=HTZ.o;omega)⟩
   ·exact Tq
   ·refine LinStep.yes λV F J L hR hN hp hρ hc hf hg=>⟨rfl,?_⟩;have hi:=hR.inv ⟨AA,λ_=>HM.o.more (Ext.refl _).drew⟩;obtain ⟨A4,c4,g7,hr3,hda⟩:=hp 7 AB;have h0:F=3:=O9;subst h0;have e26:L (.tmp 26)=_:=(hρ 26).trans g7;have e27:L (.tmp 27)=_:=(hρ 27).trans (hp 8 AB);have HA:=Hd (hda rfl);obtain ⟨x,hx⟩:=(hda rfl).gt;have k0:=hx.q5;have kf:=hx.frozen;have kz:=hx.lt;clear hR hN hp hρ hi g7 hda hx;go_light;go_simp;refine ⟨4,SR.up AA ⟨AA,λh=>absurd h AA⟩,SN.up AA AB rfl,AA,λ_=>⟨A4,c4,?_⟩⟩;have:=HA.o.store hgw HD.o
    simpa using this
   ·intro V F J hR hG;have hi:=hR.inv ⟨AA,λ_=>HM.o.more (Ext.refl _).drew⟩;obtain ⟨h4,h5⟩:=hG 9 AB;obtain ⟨A4,c4,hm1⟩:=h5 (by have:=hi.1;omega);have HM1:=Hd hm1;clear hR hG hi h4 h5 hm1;simp only [Ah,Act.put,List.setIfInBounds_toArray,List.set_cons_succ,List.set_cons_zero,Nat.zero_add,Nat.reduceAdd];generalize V 0=u0,V 1=u1,V 2=u2,V 3=u3,V 4=u4,V 5=u5,V 6=u6,V 7=u7,V 8=u8,V 9=u9
    go_wp2_with fail
    obtain ⟨K2,b8⟩:=HM1.o.num;refine (Bb 4 g A l c K2 _ AA AA b8).mono ?_;rintro e3 w3 ⟨r3,K3,rfl,hr3,i4,d3,b7,i2⟩;have f1:=Hd (HM1.o.next hgw b7 d3);clear b8 i4 d3 b7 i2;have f5:=Own.ext f1.o.ownK ((Ext.refl w3).alloc (.cells #[.I (1+(r3:Int))] 3));rw [d7.o] at f5;have HOK:=Hd f5;have hsz3:w.heap.size+2<=w3.heap.size:=(by have:=f1.o.gt.lt;omega);clear f5 HM HM1
    go_wp2_with (at_builtin;go_must (refine AL rfl (.tmp 28) (.tmp 32) rfl tiI rfl HOK.o rfl (Blk.rd (Blk.new _ _ _)) rfl AP AA AB AI ?_);intro A5 c5 w5 hown5 hg5 hat5)
    go_roundw
    case rel =>
     refine ⟨k+1,A4,c4,A5,c5,ks++[1+(r3:Int)],AA,AE,by simp [d7.o],HKO.o.snoc AA AA,rfl,?_⟩;have h1:=(f1.o.more ((Ext.refl w3).alloc (.cells #[.I (1+(r3:Int))] 3))).appK hgw HD.o hg5 (by rw [d7.o];exact hown5) hat5;rw [List.take_succ_eq_append_getElem hk3,<-i5.o,<-HTE.o];exact h1
    case measure=>simp [intOf];omega
  ·obtain rfl:m=k:=AA;obtain ⟨K2,b8⟩:=HM.o.num;have HN2:=Hd b8;clear b8
   go_wp2_with fail
   refine (Bb 5 g A l c K2 _ AA AA HN2.o).mono ?_;rintro e3 w3 ⟨n,K3,rfl,hr3,i4,d3,b7,i2⟩;have HY0:=Hd (YR.start (HM.o.next hgw b7 d3));clear i4 d3 b7 i2 HM HN2;go_wp2
   go_loopw [8] (λi wr=>∃ (k:Nat) (Ar:OA) (cr:Nat) (L_:List (List Val)),k<=n/\i=.I k/\L_.length=k/\RwsOK m L_/\YR w g A l c Ac cc cols Ak ck ks Ar cr L_ wr) (λi _=>n-(intOf i).toNat)
   case atStart=>exact ⟨0,none,0,[],AN,rfl,rfl,(by intro r hr;cases hr),HY0.o⟩
   case round =>
    obtain ⟨k,Ar,cr,L_,hk,rfl,hLl,hLo,hyr⟩:=hrel;obtain ⟨HY,g8,HLO⟩:=Hd3 hyr hLl hLo;clear hyr hLl hLo HY0;by_cases hlt:k<n
    ·obtain ⟨ws,rfl⟩:=eqx wr;have hwz:w.heap.size+2<=ws.heap.size:=(by have:=HY.o.gt.lt;omega);go_wp2
     go_loopw [10,9] (λi v wi=>∃ (j:Nat) (A9:OA) (c9:Nat) (xs:List Val),j<=m/\i=.I j/\xs.length=j/\CelOK xs/\v=.slice A9 j c9/\OwnVs wi ws.heap.size (λ_=>False) 1 A9 c9 xs/\But g ws wi/\∃ K,NSt wi g A l c K) (λi _ _=>m-(intOf i).toNat)
     case atStart=>exact ⟨0,none,0,[],AN,rfl,rfl,(by intro x hx;cases hx),rfl,OwnVs.nil _ _ _ _,But.refl _ _,HY.o.num⟩
     case round =>
      obtain ⟨j,A9,c9,xs,hj,rfl,hxl,hxo,rfl,hov,hbt,K4,hN4⟩:=hrel;obtain ⟨HXL,f7,b3,d8,d5⟩:=Hd5 hxl hxo hov hbt hN4;clear hxl hxo hov hbt hN4;by_cases hlj:j<m
      ·go_wp2_with fail
       refine (Bb 9 g A l c K4 _ AA AA d5.o).mono ?_;rintro e5 w5 ⟨r5,K5,rfl,hr5,hK5,hN5,f8,hs5⟩;have b4:=Hd (d8.o.trans f8);have HN5:=Hd hN5;have d4:=Hd (b3.o.keep (f8.kept λb _ hs e=>by
        rcases hs with hs|hs
        ·have:=(b3.o.blk hs).1;omega
        ·exact hs))
       clear hK5 hN5 f8 hs5 b3 d8 d5;by_cases h8:r5=8
       ·have e8:((r5:Int)==8)=true:=(by simp [h8]);have hsz5:=b4.o.size;obtain ⟨ys,O,Z⟩:=d4.o.ext ((Ext.refl w5).alloc (.cells Vz 40));rw [HXL.o] at O;have HO:=Hd O;have HV:=Hd Z;clear O Z
        go_wp2_with (at_builtin;go_must (refine AL rfl (.tmp 49) (.tmp 51) rfl tiV rfl HO.o rfl (Blk.rd (Blk.new _ _ _)) rfl AP AA AB AI ?_);intro A7 c7 w7 hown7 hg7 a8)
        go_roundw
        case rel =>
         have g0:=OwnVs.push (y:=Val.zero) (A1:=none) (B1:=none) (c1:=0) (e1:=0) HV.o (by rw [HXL.o];exact hown7) hg7 a8 ⟨AB,Al,Al⟩ (RV.mk (AN) Strs.nil Rows.nil);refine ⟨j+1,A7,c7,xs++[Val.zero],AA,AE,by simp [HXL.o],f7.o.snoc AB rfl rfl,rfl,g0,?_,K5,?_⟩
         ·exact (b4.o.trans (H7A (exaa _))).grown hg7 λb hb=>(HO.o.blk hb).1
         ·exact (HN5.o.ext (exaa _)).grown hg7 (λb hb e=>by have:=(HO.o.blk hb).1;omega) (λb hb b' o hA hl e=>by have:=(HO.o.blk hb).1;have:=HD.o b' o hA hl;omega)
        case measure=>simp [intOf];omega
       ·have e8:((r5:Int)==8)=false:=AI;obtain ⟨kk,hkk⟩:=eqx (ks.getD j 0);have hjk:j<ks.length:=(by have:=d7.o;omega);have hki:1<=kk/\kk<=4:=by
         rw [hkk,List.getD_eq_getElem?_getD,List.getElem?_eq_getElem hjk];exact HKO.o _ (List.getElem_mem hjk)
        have hown9:=HY.o.ownK;have hkc:∃ b9,Ak=some ⟨b9,0,none⟩/\w5.cell? ⟨b9,j,none⟩=some (.I kk):=by
         obtain ⟨b9,o9,b0,-,f4⟩:=(Own.rd ((b4.o.own hown9 AA))).at_ (k:=j) (u:=.I kk) (by rw [List.getElem?_map,List.getElem?_eq_getElem hjk,hkk,List.getD_eq_getElem?_getD,List.getElem?_eq_getElem hjk];rfl);have ho9:o9=0:=by
          rcases hown9.2 with ⟨i6,h09⟩|⟨g9,cap9,cur9,i6,_⟩
          ·injection i6 with h1;rw [h1] at b0;cases b0
          ·injection i6 with h1;rw [h1] at b0;injection b0 with h2;injection h2 with h3 h4;exact h4.symm
         subst ho9;exact ⟨b9,b0,by simpa using f4⟩
        obtain ⟨b9,b0,f4⟩:=hkc;have HKI:=Hd hki;clear hkk hki hown9;subst b0
        go_wp2_with fail
        refine (JW kk g A l c K5 _ HN5.o (by have:=HKI.o;omega)).mono ?_;rintro e6 w6 ⟨x,K6,rfl,hfb,⟨hf1,hf2,hf3⟩,hK6,hN6,f0⟩;obtain ⟨HFB,f9,HF2,HF3,f2,HN6⟩:=Hd6 hfb hf1 hf2 hf3 (b4.o.trans f0) hN6;have HOV6:=Hd (d4.o.keep (f0.kept λb _ hs e=>by
         rcases hs with hs|hs
         ·have:=(d4.o.blk hs).1;omega
         ·exact hs))
        clear hfb hf1 hf2 hf3 hK6 hN6 f0 f4;have hsz6:=f2.o.size;obtain ⟨ys,O,Z⟩:=HOV6.o.ext ((Ext.refl w6).alloc (.cells (Vp x none 0 none 0) 40));rw [HXL.o] at O;have HO:=Hd O;have HV:=Hd Z;clear O Z
        go_wp2_with (at_builtin;go_must (refine AL rfl (.tmp 53) (.tmp 60) rfl tiV rfl HO.o rfl (Blk.rd (Blk.new _ _ _)) rfl AP AA AB AI ?_);intro A7 c7 w7 hown7 hg7 a8)
        go_roundw
        case rel =>
         have g0:=OwnVs.push (y:=x) (A1:=none) (B1:=none) (c1:=0) (e1:=0) HV.o (by rw [HXL.o];exact hown7) hg7 a8 ⟨AB,by rw [f9.o];exact Al,by rw [HF2.o];exact Al⟩ (RV.mk HF3.o (by rw [f9.o];exact Strs.nil) (by rw [HF2.o];exact Rows.nil));refine ⟨j+1,A7,c7,xs++[x],AA,AE,by simp [HXL.o],f7.o.snoc (Xd HFB.o) f9.o HF2.o,rfl,g0,?_,K6,?_⟩
         ·exact (f2.o.trans (H7A (exaa _))).grown hg7 λb hb=>(HO.o.blk hb).1
         ·exact (HN6.o.ext (exaa _)).grown hg7 (λb hb e=>by have:=(HO.o.blk hb).1;omega) (λb hb b' o hA hl e=>by have:=(HO.o.blk hb).1;have:=HD.o b' o hA hl;omega)
        case measure=>simp [intOf];omega
      ·obtain rfl:m=j:=AA;have d6:=Hd (HY.o.next hgw d8.o d5.o);have t6:=d6.o.gt.q6;obtain ⟨hs,O,Z⟩:=d6.o.rows.ext ((Ext.refl wr).alloc (.cells #[.slice A9 m c9] 45));have hol:=O.len;obtain ⟨HHL,HO,HV⟩:=Hd3 (show hs.length=L_.length by omega) O Z;have hsz6:=d8.o.size;have hL4:L_.length<=4:=(by have:=g8.o;omega);have HGK:=Hd (d6.o.gt.keep (((Ext.refl wr).alloc (.cells #[.slice A9 m c9] 45)).kept _));have HRW:=Hd (show Row (wr.alloc (.cells #[.slice A9 m c9] 45)) (λb=>ob Ar≠some b/\(w.heap.size+2<=b/\ob Ac≠some b/\ob Ak≠some b)) 1 A9 xs from by
        refine ((b3.o.ext (exaa wr)).row (T:=λb=>ob Ar≠some b/\(w.heap.size+2<=b/\ob Ac≠some b/\ob Ak≠some b)) (by have:=HXL.o;omega) (λb hb => ?_) (λb hb=>hb.elim));have h1:=(b3.o.blk hb).1;refine ⟨λe => ?_,AA,λe => ?_,λe => ?_⟩
        ·have:=(HY.o.rows.blk e).2;omega
        ·have:=(HY.o.ownC.1.blk e).2;omega
        ·have:=(Own.blk HY.o.ownK e).2;omega)
       have HXC:=Hd (show xs.length<=c9 by obtain ⟨ys,f3,_⟩:=b3.o;exact f3.cap);have HYA:=Hd (show YR w g A l c Ac cc cols Ak ck ks Ar cr L_ (wr.alloc (.cells #[.slice A9 m c9] 45)) from d6.o.next hgw (H7A (exaa wr)) (d5.o.ext (exaa wr)));clear O Z hol
       go_wp2_with (at_builtin;go_must (refine AL rfl (.tmp 63) (.tmp 65) rfl tiR rfl HO.o rfl (Blk.rd (Blk.new _ _ _)) rfl AP AA AB AI ?_);intro A7 c7 w7 hown7 hg7 a8;have i7:=HGK.o.keep (Kept.of_grown hg7 λb hb _ e=>by have:=(HO.o.blk e.symm).1;omega);have s6:=i7.q6;have sf:=i7.frozen;have sl:=i7.lt)
       go_roundw
       case rel =>
        refine ⟨k+1,A7,c7,L_++[xs],AA,AE,by simp [g8.o],HLO.o.snoc f7.o HXL.o,?_⟩;have:=HYA.o.app hgw HD.o HHL.o HV.o (by rw [HXL.o];exact hown7) hg7 a8 (by rw [HXL.o,<-HXL.o];exact HXC.o) HRW.o
        simpa using this
       case measure=>simp [intOf];omega
    ·obtain rfl:n=k:=AA;have Y:=HY.o.gt;have U:=HY.o.gr;have t0:=Y.q0;have r0:=U.q0;have t1:=Y.q1;have r1:=U.q1;have t2:=Y.q2;have r2:=U.q2;have t3:=Y.q3;have r3:=U.q3;have t4:=Y.q4;have r4:=U.q4;have t5:=Y.q5;have r5:=U.q5;have t6:=Y.q6;have r6:=U.q6;have rf:=U.frozen;have rz:=U.lt;obtain ⟨HCC,HRC,HL4⟩:=Hd3 (show cols.length<=cc from HY.o.ownC.1.cap) (show L_.length<=cr by obtain ⟨hs,f3,_⟩:=HY.o.rows;exact f3.cap) (show L_.length<=100 by have:=g8.o;omega);clear Y U;go_wp2;refine bodyPost_ret (v:=.agg #[.I 5,.string ⟨#[]⟩,.I 0,.I 0,.I 0,.slice Ac cols.length cc,.slice Ar L_.length cr]) (by simp [results,results90,go_sem,r0,r1,r2,r3,r4,r5,r6]) rfl ⟨⟨5,⟨#[]⟩,0,0,0,cols,L_⟩,Ac,cc,Ar,cr,rfl,⟨HCC.o,HRC.o⟩,(by rw [i5.o];exact C9A AA HLO.o HL4.o),?_,?_,?_⟩
     ·have hkw:∀ wz,Kept (λb=>w.heap.size+2<=b) wr wz->RV wz (BO w) 1 ⟨5,⟨#[]⟩,0,0,0,cols,L_⟩ Ac Ar:=λwz hkz=>by
       refine RV.mk (AN) ?_ ?_
       ·exact ((HY.o.ownC.strs (T:=λb=>w.heap.size+2<=b) (by have:=HCL.o;omega) λb hb=>(HY.o.ownC.1.blk hb).1).keep hkz).mono λb _ hb=>FS
       ·refine (Rows.keep (HY.o.rows.rows (T:=λb=>w.heap.size+2<=b) (by have:=HL4.o;omega) (λb hb=>(HY.o.rows.blk hb).1) (λb hb=>hb.1)) hkz).mono λb _ hb=>FS
      refine hkw _ ?_
      iterate 7 with_reducible refine Kept.set2 ?_ (by show ¬(_<=_);omega)
      exact FY
     ·iterate 7 with_reducible refine But.set ?_ AA
      with_reducible exact HY.o.but
     ·obtain ⟨K9,hK9⟩:=HY.o.num;refine ⟨K9,hK9.keep2 hgw HD.o ?_⟩;exact LQ

theorem CgA{x:Val}(h:BG x=true):BC x=true:=by
 have hc:=Xd h;unfold DU at hc;rw [Bool.and_eq_true,decide_eq_true_eq] at hc;unfold BC;rw [if_neg hc.1];exact h
theorem XW(g:Nat)(A:OA)(l:List Int)(c K:Nat)(w:World)(h:NSt w g A l c K):Cl 30 #[.pointer (some ⟨g,0,none⟩),.I 5] w (DeA w g A l c):=by
 have hgw:=h.1.1.lt;have hne:w.heap.size≠g:=AA;obtain ⟨HN,HB,Z,a9⟩:=Hd4 (h.ext ((Ext.refl w).alloc (.cells Vz 40))) (H7A (g:=g) ((Ext.refl w).alloc (.cells Vz 40))) (Blk.new w 40 Vz) (TxR.data h);clear h
 go_enter func30,ntmps30
 go_wp2_with fail
 refine (ZR g A l c K _ HN.o).mono ?_;rintro e1 w1 ⟨x,A1,c1,B1,e1',rfl,hcp,Y,hv,hb1,K9,U⟩;have HRT:=Hd Y;have b0:=Hd U;clear Y U;obtain ⟨O,HV,HB1⟩:=Hd3 (hb1.blk Z.o hne) hv (HB.o.trans hb1);clear hv hb1;obtain ⟨r0,r1,r2,r3,r4,r5,r6⟩:=O.o.qs7;have rf:=O.o.frozen;have rz:=O.o.lt;go_wp2;refine bodyPost_ret (v:=(Vq x A1 c1 B1 e1')) Di rfl ⟨x,A1,c1,B1,e1',rfl,hcp,HRT.o,?_,?_,K9,?_⟩
 ·refine (HV.o.keep ?_).mono λb _ hb=>by unfold BO at hb|-;simp at hb;omega
  iterate 7 with_reducible refine Kept.set2 ?_ (by unfold BO;simp)
  exact FY
 ·iterate 7 with_reducible refine But.set ?_ AA
  with_reducible exact HB1.o
 ·have a8:∀ b o,A=some ⟨b,o,none⟩->l≠[]->b<w.heap.size:=a9.o;refine b0.o.keep2 hgw a8 ?_;exact LQ
theorem Yo(kind:Int)(g:Nat)(A:OA)(l:List Int)(c K:Nat)(w:World)(h:NSt w g A l c K):Cl 30 #[.pointer (some ⟨g,0,none⟩),.I kind] w (DeA w g A l c):=by
 by_cases hk:kind=5
 ·subst hk;exact XW g A l c K w h
 ·refine (JW kind g A l c K w h hk).mono ?_;rintro e1 w1 ⟨x,K',rfl,O,⟨h1,h2,h3⟩,-,hn,hb⟩;exact ⟨x,none,0,none,0,rfl,⟨by rw [h1];exact Al,by rw [h2];exact Al⟩,CgA O,RV.mk h3 (by rw [h1];exact Strs.nil) (by rw [h2];exact Rows.nil),hb,K',hn⟩
theorem Ni(l:List Int)(A:OA)(c:Nat)(w:World)(S:NP)(hl:IntsL w S A l):Cl 6 #[.slice A l.length c] w (λe J=>∃ x,BC x=true/\HuA w (BO w) 1 x e J):=by
 have hx0:Ext w ((w.alloc (.cells Vz 40)).alloc (.cells #[.slice A l.length c,.I 0] 60)):=(exaa w).alloc _;have HX0:=Hd hx0;have HN:=Hd (show NSt ((w.alloc (.cells Vz 40)).alloc (.cells #[.slice A l.length c,.I 0] 60)) (w.heap.size+1) A l c 0 from ⟨⟨by
  have:=Blk.new (w.alloc (.cells Vz 40)) 60 #[.slice A l.length c,.I 0]
  simpa using this,AN⟩,λb=>b<w.heap.size,AA,(hl.mono (T:=λb=>b<w.heap.size) λi hi _=>hi).keep (hx0.kept _)⟩)
 have Z:=Hd ((Blk.new w 40 Vz).keep (Kept.alloc _ _ (.cells #[.slice A l.length c,.I 0] 60)));clear hl hx0
 go_enter func6,ntmps6
 go_wp2_with fail
 refine (Bb 6 (w.heap.size+1) A l c 0 _ AA AA HN.o).mono ?_;rintro e1 w1 ⟨k,K1,rfl,hk,hK1,U,hb1,hs1⟩;obtain ⟨HN1,HB1,HS1⟩:=Hd3 U hb1 hs1;clear hK1 U hb1 hs1
 go_wp2_with fail
 refine (Yo (k:Int) (w.heap.size+1) A l c K1 _ HN1.o).mono ?_;rintro e1 w2 ⟨x,A1,c1,B1,e1',rfl,hcp,Y,hv,hb2,K9,a8⟩;have HRT:=Hd Y;clear Y a8;obtain ⟨O,HV,HB2⟩:=Hd3 (hb2.blk (HB1.o.blk Z.o AA) AA) hv (But.exts HX0.o (HB1.o.trans hb2) AA);have hz:w.heap.size+2<=w1.heap.size:=(by have:=HS1.o;simp at this;omega);clear hv hb2;obtain ⟨r0,r1,r2,r3,r4,r5,r6⟩:=O.o.qs7;have rf:=O.o.frozen;have rz:=O.o.lt;go_wp2;refine bodyPost_ret (v:=(Vq x A1 c1 B1 e1')) (by simp [results,results6,go_sem,r0,r1,r2,r3,r4,r5,r6]) rfl ⟨x,HRT.o,A1,c1,B1,e1',rfl,hcp,?_,?_⟩
 ·refine (HV.o.keep ?_).mono λb _ hb=>by unfold BO at hb|-;omega
  iterate 7 with_reducible refine Kept.set2 ?_ FS
  exact FY
 ·iterate 7 with_reducible refine Ext.set2 ?_ AA _
  with_reducible exact HB2.o
