/- Lemmas. No conditions. -/
import Derived.Test.YtaccjdppmmoepaaGreatDoorXq27
import Derived.Deep.DeepCutAuto
import Derived.Deep.CutBlock
import Derived.Deep.MidRow
set_option maxRecDepth 100000
set_option maxHeartbeats 4000000
namespace Go.Proofs.YtaccjdppmmoepaaGreatDoor
open Go Go.RowKit Tryz
variable {qP:Prop}

theorem MV{x:Val}(h:KU x=true):x.s.size=0:=by
  rw [(of_decide_eq_true h).1]
  rfl
theorem PJ{x:Val}(h:KU x=true):x.cols=[]/\x.rows=[]:=(of_decide_eq_true h).2.2.2.2
theorem O1{x:Val}(h:BC x=true):x.s.size<=200/\x.cols.length<=8/\x.rows.length<=100:=by
  by_cases hk:x.kind=5
  · obtain ⟨h1,h2,-⟩:=OC (N9 h hk)
    unfold BC at h
    rw [if_pos hk,Bool.and_eq_true] at h
    have h3:=MV h.2
    change x.s.size=0 at h3
    exact ⟨AA,h1,h2⟩
  · unfold BC at h
    rw [if_neg hk] at h
    unfold BG at h
    repeat' split at h
    all_goals first
      |cases h
      | (rw [Bool.and_eq_true] at h
         have h2:=PJ h.2
         change x.cols=[]/\x.rows=[] at h2
         rw [h2.1,h2.2]
         refine ⟨?_,AN,AN⟩
         first
           |(have h1:=MV h.2;change x.s.size=0 at h1;omega)
           | (have h1:=h.1;unfold Ca at h1;rw [Bool.and_eq_true,decide_eq_true_eq] at h1;exact h1.1))
structure OvD(w:World)(q0 q1 q2:Int)(x:Val)(Ac:OA)(cc:Nat)(Ar:OA)(cr:Nat)(wr:World):Prop where
  ext:Ext w wr
  box:Blk wr w.heap.size 40 (Vp x Ac cc Ar cr)
  qb:Blk wr (w.heap.size+1) 43 #[.I q0,.I q1,.I q2]
  res:Blk wr (w.heap.size+2) 40 Vz
  cols:OwnSs wr (w.heap.size+3) Ac cc x.cols
  rows:OwnRR wr (w.heap.size+3) (λb=>ob Ac=some b) 1 Ar cr x.rows
  sep:∀ b,ob Ac=some b->ob Ar≠some b
def OvJ(w wx:World):Prop:=∃ (y:Val) (A:OA) (c:Nat) (B:OA) (e:Nat),Blk wx w.heap.size 40 (Vp y A c B e)/\Blk wx (w.heap.size+2) 40 Vz/\(y.cols.length<=c/\y.rows.length<=e)/\RV wx (λb=>w.heap.size+3<=b) 1 y A B/\Ext w wx
section
variable {w wr wr':World}{q0 q1 q2:Int}{x:Val}{Ac Ar:OA}{cc cr:Nat}
theorem OvD.more(h:OvD w q0 q1 q2 x Ac cc Ar cr wr)(hx:Ext wr wr'):OvD w q0 q1 q2 x Ac cc Ar cr wr' :=
  ⟨h.ext.trans hx,h.box.keep (hx.kept _),h.qb.keep (hx.kept _),h.res.keep (hx.kept _),h.cols.ext hx,h.rows.ext hx,h.sep⟩
theorem OvD.flat(h:OvD w q0 q1 q2 x Ac cc Ar cr wr){y:Val}(ho:Only w.heap.size wr wr')(hb:Blk wr' w.heap.size 40 (Vp y Ac cc Ar cr))(hc:y.cols=x.cols)(hr:y.rows=x.rows)(hs:y.s.size<=4294967296)(h2:x.cols.length<=4294967296)(h3:x.rows.length<=4294967296)(h4:∀ r∈x.rows,r.length<=4294967296):OvJ w wr':=by
  refine ⟨y,Ac,cc,Ar,cr,hb,h.res.keep (ho.kept λb _ e=>AA),by rw [hc,hr];exact ⟨h.cols.1.cap,h.rows.cap⟩,RV.mk hs ?_ ?_,h.ext.only ho AA⟩
  · rw [hc]
    exact (h.cols.strs (T:=λb=>w.heap.size+3<=b) h2 λb hb=>(h.cols.1.blk hb).1).keep (ho.kept λb _ hb=>AA)
  · rw [hr]
    exact (h.rows.rows h3 h4).keep (ho.kept λb _ hb=>AA)
end
structure OvE(w:World)(q0 q1 q2:Int)(x:Val)(Ac:OA)(cc:Nat)(Ar:OA)(cr:Nat)(wr:World):Prop where
  ext:Ext w wr
  box:∃ y,Blk wr w.heap.size 40 #[.I x.kind,.string x.s,.I x.dn,.I x.ds,.I x.n,.slice Ac x.cols.length cc,y]
  qb:Blk wr (w.heap.size+1) 43 #[.I q0,.I q1,.I q2]
  res:Blk wr (w.heap.size+2) 40 Vz
  cols:OwnSs wr (w.heap.size+3) Ac cc x.cols
  rows:OwnRR wr (w.heap.size+3) (λb=>ob Ac=some b) 1 Ar cr x.rows
  sep:∀ b,ob Ac=some b->ob Ar≠some b
section
variable {w wr wr':World}{q0 q1 q2:Int}{x:Val}{Ac Ar:OA}{cc cr:Nat}
theorem OvD.fin(h:OvD w q0 q1 q2 x Ac cc Ar cr wr)(hs:x.s.size<=4294967296)(h2:x.cols.length<=4294967296)(h3:x.rows.length<=4294967296)(h4:∀ r∈x.rows,r.length<=4294967296):OvJ w wr :=
  h.flat (Only.refl _ _) h.box rfl rfl hs h2 h3 h4
theorem OvJ.more(h:OvJ w wr)(hx:Ext wr wr'):OvJ w wr':=by
  obtain ⟨y,A,c,B,e,h1,h2,h3,h4,h5⟩:=h
  exact ⟨y,A,c,B,e,h1.keep (hx.kept _),h2.keep (hx.kept _),h3,h4.keep (hx.kept _),h5.trans hx⟩
theorem OvD.appR(h:OvD w q0 q1 q2 x Ac cc Ar cr wr){A4:OA}{c4:Nat}{rows':List (List Val)}(hg:wr.grownBy wr' (ob Ar))(hr:OwnRR wr' (w.heap.size+3) (λb=>ob Ac=some b) 1 A4 c4 rows')(hat:ob A4=ob Ar\/ob A4=some wr.heap.size):OvE w q0 q1 q2 { x with rows:=rows' } Ac cc A4 c4 wr':=by
  have O:∀ b,ob Ar=some b->w.heap.size+3<=b:=λb hb=>(h.rows.blk hb).1
  have hkb:∀ g,g<w.heap.size+3->Kept (λb=>b=g) wr wr':=λg hg'=>Kept.of_grown hg λb hb _ e=>by
    subst hb
    have:=O _ e.symm
    omega
  refine ⟨Ext.grown h.ext hg λb hb=>by have:=O b hb;omega,⟨_,h.box.keep (hkb _ AA)⟩,h.qb.keep (hkb _ AA),h.res.keep (hkb _ AA),⟨h.cols.1.keep (Kept.of_grown hg λb hb _ e=>h.sep b hb e.symm),h.cols.2⟩,hr,?_⟩
  exact II
theorem OvE.store(h:OvE w q0 q1 q2 x Ac cc Ar cr wr):OvD w q0 q1 q2 x Ac cc Ar cr (wr.setCell ⟨w.heap.size,6,none⟩ (.slice Ar x.rows.length cr)):=by
  obtain ⟨y,hy⟩:=h.box
  have ho:=(Only.refl w.heap.size wr).set 6 (.slice Ar x.rows.length cr)
  refine ⟨h.ext.only ho AA,hy.set 6 _,h.qb.keep (ho.kept λb _ e=>AA),h.res.keep (ho.kept λb _ e=>AA),⟨ho.own h.cols.1 AA,h.cols.2⟩,h.rows.keep (ho.kept λb _ e=>AA) (λb hb hb'=>h.sep b hb' hb),h.sep⟩
end
theorem Own.apart{w:World}{base e sz n c g t:Nat}{A:OA}{xs:List Value}{cs:Array Value}(h:Own w base e sz A n c xs)(hb:Blk w g t cs)(ht:e≠t):ob A≠some g:=by
  intro hA
  rcases h.2 with ⟨hv,h0⟩|⟨g',cap,cur,hv,_,hh,_⟩
  · injection hv with hv
    rw [hv] at hA
    cases hA
  · injection hv with hv
    rw [hv] at hA
    injection hA with hA
    subst hA
    unfold Blk at hb
    rw [hb] at hh
    injection hh with hh
    injection hh with _ hh
    exact ht hh.symm
theorem OvD.cellR{w wr wr':World}{q0 q1 q2:Int}{x:Val}{Ac Ar:OA}{cc cr gB:Nat}{r':List Val}(h:OvD w q0 q1 q2 x Ac cc Ar cr wr)(hs:x.s.size<=4294967296)(h2:x.cols.length<=4294967296)(hK:0<x.rows.length)(hg:w.heap.size+3<=gB)(hsc:ob Ac≠some gB)
    (hcl:∀ (J:World) (r':List Val),Kept (λb=>ob (some ⟨gB,0,none⟩)≠some b) wr J->r'.length=x.rows[0].length->Row J (λb=>w.heap.size+3<=b) 1 (some ⟨gB,0,none⟩) r'->Rows J (λb=>w.heap.size+3<=b) 1 Ar (x.rows.set 0 r'))
    (hl:r'.length=x.rows[0].length) (hr:Row wr' (λb=>w.heap.size+3<=b) 1 (some ⟨gB,0,none⟩) r') (hkk:Kept (λb=>b≠gB) wr wr') (hx:Ext w wr'):OvJ w wr':=by
  refine ⟨{ x with rows:=x.rows.set 0 r' },Ac,cc,Ar,cr,?_,h.res.keep (hkk.mono λb _ hb=>AA),⟨h.cols.1.cap,by show (x.rows.set 0 _).length<=cr;rw [List.length_set];exact h.rows.cap⟩,RV.mk hs ?_ (hcl wr' _ (hkk.mono λb _ hb e=>hb (by rw [e];rfl)) hl hr),hx⟩
  · have hb:=h.box.keep (J:=wr') (hkk.mono λb _ hb=>AA)
    simpa [Vp] using hb
  · have:=(h.cols.strs (T:=λb=>w.heap.size+3<=b/\b≠gB) h2 λb hb=>⟨(h.cols.1.blk hb).1,λe=>hsc (by rw [<-e];exact hb)⟩).keep (hkk.mono λb _ hb=>hb.2)
    exact this.mono λb _ hb=>hb.1
theorem OwnVs.there{w:World}{base g e d:Nat}{X:NP}{r:List Val}(h:OwnVs w base X d (some ⟨g,0,none⟩) e r)(hj:0<r.length)(hl:r.length<=4294967296)(hf:∀ i,w.frozen? ⟨g,i,none⟩=false):w.there g 0 7:=by
  obtain ⟨b,o,A5,c5,Z,e5,O,Y,⟨p0,p1,p2,p3,p4,p5,p6⟩,-⟩:=(h.row (T:=λ_=>True) hl (λ_ _=>trivial) (λ_ _=>trivial)).at_ (k:=0) hj
  injection O with O
  injection O with O U
  subst O
  subst U
  simp only [Nat.zero_add,Nat.zero_mul] at p0 p1 p2 p3 p4 p5 p6
  intro j hj
  refine ⟨?_,hf _⟩
  rw [Nat.zero_add]
  match j,hj with
  |0,_=>rw [p0];rfl
  |1,_=>rw [p1];rfl
  |2,_=>rw [p2];rfl
  |3,_=>rw [p3];rfl
  |4,_=>rw [p4];rfl
  |5,_=>rw [p5];rfl
  |6,_=>rw [p6];rfl
theorem OwnVs.put0{w:World}{base g e:Nat}{X:NP}{r:List Val}(h:OwnVs w base X 1 (some ⟨g,0,none⟩) e r)(hj:0<r.length)(hl:r.length<=4294967296)(hX:∀ b,X b->base<=b)(k n:Int) :
    Row (w.setCells g 0 [.I k,.string ⟨#[]⟩,.I 0,.I 0,.I n,.slice none 0 0,.slice none 0 0]) (λb=>base<=b) 1 (some ⟨g,0,none⟩) (r.set 0 (Val.mk k ⟨#[]⟩ 0 0 n [] []))/\Kept (λb=>b≠g) w (w.setCells g 0 [.I k,.string ⟨#[]⟩,.I 0,.I 0,.I n,.slice none 0 0,.slice none 0 0]) :=
  h.store7 (T:=λb=>base<=b) hj hl (x:=Val.mk k ⟨#[]⟩ 0 0 n [] []) (A1:=none) (B1:=none) (c1:=0) (e1:=0) ⟨AB,Al,Al⟩ (RV.mk (AN) Strs.nil Rows.nil) (h.blk (k:=g) rfl).1 hX rfl
theorem Ext.setCells{a:World}{g:Nat}(hg:a.heap.size<=g):∀ (l:List Value) (o:Nat) {w:World},Ext a w->Ext a (w.setCells g o l)
  |[],_,_,h=>h
  |v::r,o,w,h=>by
    rw [World.setCells]
    exact Ext.setCells hg r (o+1) (h.set2 hg v)
theorem EC(g:Nat):∀ (l:List Value) (o:Nat) (w:World),(w.setCells g o l).os=w.os/\(w.setCells g o l).tape=w.tape/\(w.setCells g o l).output=w.output/\w.heap.size<=(w.setCells g o l).heap.size
  |[],_,_=>⟨rfl,rfl,rfl,Al⟩
  |v::r,o,w=>by
    rw [World.setCells]
    obtain ⟨h1,h2,h3,h4⟩:=EC g r (o+1) (w.setCell ⟨g,o,none⟩ v)
    exact ⟨h1,h2,h3,by simpa [World.setCell] using h4⟩
def ovC:Array Value:=#[.string ⟨#[97]⟩,.string ⟨#[]⟩,.string ⟨#[120,49]⟩,.string ⟨#[49,120]⟩,.string ⟨#[97,98,99,100,101,102,103,104,105,106,107,108,109,110,111,112,113,114,115,116,117]⟩]
theorem PG(k:Nat)(h:k<5):∃ s:BA,ovC[k]?=some (.string s)/\s.size<=30:=by
  match k,h with
  |0,_=>exact ⟨_,rfl,AB⟩
  |1,_=>exact ⟨_,rfl,AB⟩
  |2,_=>exact ⟨_,rfl,AB⟩
  |3,_=>exact ⟨_,rfl,AB⟩
  |4,_=>exact ⟨_,rfl,AB⟩
def OvS(ws:World)(v:Value)(J:World):Prop:=∃ g:Nat,v=.slice (some ⟨g,0,none⟩) 5 5/\ws.heap.size<=g/\Blk J g 9 ovC
def OvP(ws:World)(k:Nat)(v:Value)(J:World):Prop:=∃ g:Nat,v=.pointer (some ⟨g,k,none⟩)/\ws.heap.size<=g/\Blk J g 9 ovC
def OvT(v:Value):Prop:=∃ s:BA,v=.string s/\s.size<=30
def OvN(ws:World)(v:Value)(J:World):Prop:=∃ (g:Nat) (s:BA),v=.slice (some ⟨g,0,none⟩) 1 1/\ws.heap.size<=g/\s.size<=30/\Blk J g 9 #[.string s]
def OvA(M:Nat)(l:List BA)(v:Value)(F:Gz)(J:World):Prop:=∃ (A:OA) (c:Nat) (s:BA),v=.slice A (l.length+1) c/\s.size<=30/\F 1008=true/\OwnSs J M A c (l++[s])
def OvF(M g:Nat)(x:Val)(h:Value)(F:Gz)(J:World):Prop:=∃ (A:OA) (c:Nat) (s:BA),s.size<=30/\Blk J g 40 #[.I x.kind,.string x.s,.I x.dn,.I x.ds,.I x.n,.slice A (x.cols.length+1) c,h]/\OwnSs J M A c (x.cols++[s])/\F 1008=true/\F 1010=true
theorem Kz{P:Program}{o:Oper}{L:Operand->Value}{K:Value->World->Prop}{w:World}(ty:TypeId){x y:Operand}(ho:o.op=.store ty x y){b i:Nat}(hx:L x=.pointer (some ⟨b,i,none⟩)){cells:Array Value}(hy:L y=.agg cells)(ht:w.there b i cells.size)
    (hi:(P.info? ty).map (·.size)=some cells.size) (h1:cells.all (·.oneCell')=true) (h:K undef (w.setCells b i cells.toList)):Bu P K ((execOp L o).run P w):=by
  unfold execOp
  simp only [ho,hx,hy,Instr.storeAt,Instr.sureAddr,Sem.run_bind,Sem.run_pure,Result.andThen_ok,run_storeVar_mid w b i ty cells ht hi h1]
  exact h
def MN(w:World)(q0 q1 q2:Int)(x:Val)(Ac:OA)(cc:Nat)(Ar:OA)(cr:Nat)(F:Nat)(J:World):Prop:=F<=4/\(F<=3->∃ y,Blk J w.heap.size 40 #[.I x.kind,.string x.s,.I x.dn,.I x.ds,.I x.n,.slice Ac x.cols.length cc,y])/\(F<=2->OvD w q0 q1 q2 x Ac cc Ar cr J)
def Og(w:World)(q0 q1 q2:Int)(x:Val)(Ac:OA)(cc:Nat)(Ar:OA)(cr:Nat):Nat->List Value->Nat->World->Prop
  |0,[v],_,_=>v=.pointer (some ⟨w.heap.size,6,none⟩)
  |1,[v],_,_=>v=.slice Ar x.rows.length cr
  |2,[v],_,_=>v=.pointer (some ⟨w.heap.size,5,none⟩)
  |3,[v],_,_=>v=.slice Ac x.cols.length cc
  |4,[v],_,_=>v=.I (x.cols.length:Int)
  |5,[v],F,J=>∃ g:Nat,v=.slice (some ⟨g,0,none⟩) x.cols.length x.cols.length/\1<=F/\(F=1->RRpush J (w.heap.size+3) (λb=>ob Ac=some b) 1 Ar cr x.rows (some ⟨g,0,none⟩) x.cols.length (List.replicate x.cols.length Val.zero))
  |6,[v],F,J=>∃ g g':Nat,v=.slice (some ⟨g,0,none⟩) 1 1/\2<=F/\(F=2->Blk J g 45 #[.slice (some ⟨g',0,none⟩) x.cols.length x.cols.length]/\RRpush J (w.heap.size+3) (λb=>ob Ac=some b) 1 Ar cr x.rows (some ⟨g',0,none⟩) x.cols.length (List.replicate x.cols.length Val.zero))
  |7,[v],F,J=>∃ (A4:OA) (c4:Nat),v=.slice A4 (x.rows.length+1) c4/\3<=F/\(F=3->OvE w q0 q1 q2 { x with rows:=x.rows++[(List.replicate x.cols.length Val.zero)] } Ac cc A4 c4 J)
  |8,[v],_,_=>v=.pointer (some ⟨w.heap.size,6,none⟩)
  |9,[_],F,J=>4<=F/\(F=4->∃ (A4:OA) (c4:Nat),OvD w q0 q1 q2 { x with rows:=x.rows++[(List.replicate x.cols.length Val.zero)] } Ac cc A4 c4 J)
  |_,_,_,_=>True
theorem NE(w:World)(q0 q1 q2:Int)(x:Val)(Ac:OA)(cc:Nat)(Ar:OA)(cr:Nat):∀ i l' F v γ' v',SR (MN w q0 q1 q2 x Ac cc Ar cr) F v γ' v'->Og w q0 q1 q2 x Ac cc Ar cr i l' F v->Og w q0 q1 q2 x Ac cc Ar cr i l' γ' v':=by
  intro i l' F v γ' v' r h
  have hle:=r.le
  unfold Og at h|-
  exact Ik
def GyA:Nat->List Nat:=λi=>[i]
def Pm:List Nat:=[100,3,100,4,100,1,2,3,100,4]

theorem Ig(h:qP:=by
  rintro v F wx γ' wy rr ⟨g,h1,h2,h3⟩
  exact ⟨g,h1,h2,h3.keep (rr.keptS (S:=λb=>b=g) λb _ e m hm=>by have:=HG.o;rcases hm with ⟨_,h⟩ | ⟨_,h⟩;(have:=HAL.o b h;omega);omega)⟩):qP:=h
theorem IM(h:qP:=by
  rcases hm with ⟨rfl,h⟩|⟨rfl,h⟩
  · rw [h4,rr.done _ h4]
  · rw [h5,rr.done _ h5]):qP:=h
theorem JD(h:qP:=by
  go_wp2_with fail
  go_meet
  case rel=>exact HM.o.fin (by omega) HCL.o HRL.o HRR.o):qP:=h
theorem Jv(h:qP:=by
  have hqj:¬(0:Int)<rl:=by omega
  exact JD):qP:=h
theorem Gc(h:qP:=by
  have hqk:¬(0:Int)<x.rows.length:=by omega
  exact JD):qP:=h
theorem FW(h:qP:=by
  refine LinStep.yes λV F J L hR hN hp hρ hc hf hg=>⟨rfl,?_⟩
  have hi:=hR.inv ⟨by omega,λ_=>⟨_,HM.o.box.keep (Kept.drew _ _)⟩,λ_=>HM.o.more (Ext.refl _).drew⟩
  have e2:L (.tmp 2)=.pointer (some ⟨w.heap.size,0,none⟩):=hρ 2
  exact Uf):qP:=h
theorem MX(h:qP:=by show x.s.size<=4294967296;omega):qP:=h
theorem OE(h:qP:=by rw [<-HRL0.o];exact hj0):qP:=h
theorem Ou(x:Val)(A B:OA)(c e:Nat)(q0 q1 q2:Int)(w:World)(S:NP)(h:RV w S 1 x A B)(hrx:BC x=true) :
    Cl 7 #[(Vq x A c B e),.agg #[.I q0,.I q1,.I q2]] w (λe' J=>∃ y,HuA w (BO w) 1 y e' J):=by
  obtain ⟨hs1,hs2,hs3⟩:=O1 hrx
  obtain ⟨HS,HC8,HR100,HCL,HRL⟩:=Hd5 hs1 hs2 hs3 (show x.cols.length<=4294967296 by omega) (show x.rows.length<=4294967296 by omega)
  clear hs1 hs2 hs3
  have HRR:=Hd h.rows_.lens
  have H:=Hd h
  obtain ⟨hb1,hb2⟩:=BzA q0 10 AA
  obtain ⟨W0,b7⟩:=eqx (((w.alloc (.cells (Vp x A c B e) 40)).alloc (.cells #[.I q0,.I q1,.I q2] 43)).alloc (.cells Vz 40))
  have HX0:=Hd (show Ext w W0 by rw [b7];exact (exbb w).alloc _)
  obtain ⟨g2,hg2⟩:=eqx w.heap.size
  obtain ⟨g3,hg3⟩:=eqx (w.heap.size+1)
  obtain ⟨g4,hg4⟩:=eqx (w.heap.size+2)
  obtain ⟨HB0,HB1,HB2,HSZ,HW0,HG,HG2,HG3⟩:=Hd8 (show Blk W0 g2 40 (Vp x A c B e) by rw [b7,hg2];exact (Blk.new _ _ _).keep ((exbb _).kept _)) (show Blk W0 g3 43 #[.I q0,.I q1,.I q2] by rw [b7,hg3];exact (H6A _ _ _ _).keep ((exaa _).kept _)) (show Blk W0 g4 40 Vz by rw [b7,hg4];exact ICA _ _ _ _ _) (show W0.heap.size=w.heap.size+3 by rw [b7];simp) b7 (show g2=w.heap.size/\g3=w.heap.size+1/\g4=w.heap.size+2 from ⟨hg2,hg3,hg4⟩) hg2 hg3
  have HG4:=Hd hg4
  clear b7 hg2 hg3 hg4 h hrx
  go_enter func7,ntmps7
  go_upto_region 1 with fail
  rw [<-HW0.o,<-HG4.o,<-HG3.o,<-HG2.o]
  refine wp_region_lit ?_
  refine AJ rfl 40 _ rfl g2 rfl HB0.o Iq GA ?_
  go_wp2_with fail
  refine (Mn 1 x A B c e W0 S (H.o.keep (HX0.o.kept S))).mono ?_
  rintro e1 w1 ⟨Ac,cc,Ar,cr,rfl,hoc,hor,f4,hx1⟩
  rw [HSZ.o] at hoc hor
  rename_i K1 hK1 K2 hK2
  refine hK2 _ _ ?_
  refine AM rfl 40 _ _ rfl g2 (Vp x Ac cc Ar cr) rfl rfl 40 _ (HB0.o.keep (hx1.kept _)) GA rfl AD ?_
  intro w2 f3 a9
  refine hK1 _ _ ?_
  have HM:=Hd (show OvD w q0 q1 q2 x Ac cc Ar cr w2 by
    obtain ⟨e2,e3,e4⟩:=HG.o
    rw [e2] at f3 a9
    rw [e3] at HB1
    rw [e4] at HB2
    exact ⟨(HX0.o.trans hx1).only a9 AA,f3,(HB1.o.keep (hx1.kept _)).keep (a9.kept λb _ e=>AA),(HB2.o.keep (hx1.kept _)).keep (a9.kept λb _ e=>AA),⟨a9.own hoc.1 AA,hoc.2⟩,hor.keep (a9.kept λb _ e=>AA) (λb hb hb'=>f4 b hb' hb),f4⟩)
  clear hK1 hK2 hoc hor f4 hx1 f3 a9 HB0 HB1 HB2 HX0 HSZ HW0
  go_frame
  go_upto_region 2 with fail
  have k0:w2.cell? ⟨g3,0,none⟩=some (.I q0):=by rw [HG3.o];exact HM.o.qb.q0
  have HK1:=Hd (show w2.cell? ⟨g3,1,none⟩=some (.I q1) by rw [HG3.o];exact HM.o.qb.q1)
  have HK2:=Hd (show w2.cell? ⟨g3,2,none⟩=some (.I q2) by rw [HG3.o];exact HM.o.qb.q2)
  obtain ⟨u,hu⟩:=eqx ((q0.tmod 10+10) % 10)
  go_upto_block 0 with fail
  rw [<-hu]
  have hu10:u=0\/u=1\/u=2\/u=3\/u=4\/u=5\/u=6\/u=7\/u=8\/u=9:=AA
  obtain ⟨hc1,hc2⟩:=BzA q1 8 AA
  clear hu hb1 hb2 k0
  go_cut [] (λwx=>OvJ w wx)
  case first =>
    have hs:=HS.o
    have k1:=HK1.o
    have k2:=HK2.o
    have U:=Hd (show Blk w2 g2 40 (Vp x Ac cc Ar cr) by rw [HG2.o];exact HM.o.box)
    obtain ⟨b0,b1,b2,b3,b4,b5,b6⟩:=U.o.qs7
    have bf:=U.o.frozen
    have bl:=U.o.lt
    have HFL:=Hd (λ(y:Val) (wx:World) (ho:Only g2 w2 wx) (hb:Blk wx g2 40 (Vp y Ac cc Ar cr)) (hc:y.cols=x.cols) (hr:y.rows=x.rows) (hs:y.s.size<=4294967296)=>HM.o.flat (y:=y) (by rw [<-HG2.o];exact ho) (by rw [<-HG2.o];exact hb) hc hr hs HCL.o HRL.o HRR.o)
    rcases hu10 with rfl|rfl|rfl|rfl|rfl|rfl|rfl|rfl|rfl|rfl
    · go_wp2_with fail
      go_meet
      case rel=>exact HFL.o { x with kind:=q1.tmod 8-1 } _ ((Only.refl g2 w2).set 0 (.I (q1.tmod 8-1))) (by have:=(U.o.set 0 (.I (q1.tmod 8-1)));simpa [Vp] using this) rfl rfl MX
    · have hcv:=run_convert_bytes_arg (P:=prog) (w2.alloc (.cells #[.int .u8 (q1 % 256)] 5)) 68 5 underlying68 underlying5 w2.heap.size 0 1 1 [q1 % 256] rfl (λi hi=>by
        have:i=0:=AA
        subst this
        exact (Blk.new w2 5 #[.int .u8 (q1 % 256)]).cell rfl) 9 underlying9
      obtain ⟨b1,hb1⟩:=eqx (strOfNums [q1 % 256])
      have hbs:b1.size=1:=by rw [hb1];rfl
      rw [<-hb1] at hcv
      clear hb1
      have hbb:¬(9223372036854775807:Int)<((x.s.size+b1.size:Nat):Int):=AA
      go_wp2
      clear hcv
      go_meet
      case rel=>exact (HFL.o { x with s:=x.s++b1 } _ ((Only.refl g2 w2).set 1 (.string (x.s++b1))) (by have:=(U.o.set 1 (.string (x.s++b1)));simpa [Vp] using this) rfl rfl (by show (x.s++b1).size<=4294967296;rw [ByteArray.size_append];omega)).more (exaa _)
    · go_wp2_with fail
      go_meet
      case rel=>exact HFL.o { x with dn:=q1,ds:=q2.tmod 8 } _ (((Only.refl g2 w2).set 2 (.I q1)).set 3 (.I (q2.tmod 8))) (by have:=((U.o.set 2 (.I q1)).set 3 (.I (q2.tmod 8)));simpa [Vp] using this) rfl rfl MX
    · go_wp2_with fail
      go_meet
      case rel=>exact HFL.o { x with n:=q1 } _ ((Only.refl g2 w2).set 4 (.I q1)) (by have:=(U.o.set 4 (.I q1));simpa [Vp] using this) rfl rfl MX
    · obtain ⟨hd1,hd2⟩:=BzA q1 5 AA
      obtain ⟨kk,hkk⟩:∃ k:Nat,(q1.tmod 5+5) % 5=(k:Int):=⟨((q1.tmod 5+5) % 5).toNat,AA⟩
      have hkk5:kk<5:=AA
      have hwr:IntKind.i64.wrap (q1.tmod 5+5)=q1.tmod 5+5:=IntWalk.i64_in _ ⟨AA,AA⟩
      have htm:(q1.tmod 5+5).tmod 5=(kk:Int):=by rw [Int.tmod_eq_emod_of_nonneg AA];exact hkk
      have hki:(kk:Int)<5:=AA
      obtain ⟨st,hst,hsz⟩:=PG kk hkk5
      have HST:=Hd hst
      have hw2:w.heap.size+3<=w2.heap.size:=by have:=HM.o.res.lt;omega
      have HAL:=Hd (show ∀ b,ob Ac=some b->w.heap.size+3<=b/\b<w2.heap.size from λb hb=>HM.o.cols.1.blk hb)
      have C5:=Hd b5
      clear b0 b1 b2 b3 b4 b5 b6 bf bl k1 k2 hst
      go_upto_region 12 with fail
      refine Qa (λm b=>(m=1008/\ob Ac=some b)\/(m=1010/\b=g2)) [(0,[1010]),(1,[1008,1010]),(2,[1010]),(3,[1010]),(4,[1010]),(5,[1010]),(6,[1010]),(7,[1010]),(8,[1010]),(9,[1010]),(10,[1008,1010]),(11,[1008,1010]),(12,[1010]),(13,[1010])] ?_
      iterate 2 refine Qp ?_
      refine Qs (FP λv F J=>OvS w2 v J) (H1A ?_) ?_ ?_
      · exact Ig
      · exact JB
      refine Qp ?_
      refine Qm (λV F J L hR hN hp hρ zs zg=>by
        have hkq:=hR.o.kept0 (S:=λb=>b=g3) λb _ e m hm=>by
          exfalso
          have:=HG.o
          rcases hm with ⟨_,h⟩|⟨_,h⟩
          · have:=HAL.o b h;omega
          · omega
        have m1:=Kept.cell hkq rfl HK1.o
        clear hkq
        exact Qk) ?_
      iterate 3 refine Qp ?_
      refine Qs (FP λv F J=>OvP w2 kk v J) (H1A ?_) ?_ ?_
      · exact Ig
      · intro V F J L hR hN hp hρ zs zg
        obtain ⟨g,hv,d6,hb⟩:=hp.o 2 AB
        have e49:=(hρ.o 49).trans hv
        have HB:=Hd hb
        have HGL:=Hd d6
        clear hv hb d6
        refine Qr ?_
        exact ⟨F,LZ.refl _ _ _,λ_ _ _ h=>h,_,rfl,HGL.o,HB.o⟩
      refine Qs (FP λv F J=>OvT v) (H1A λ_ _ _ _ _ _ h=>h) ?_ ?_
      · intro V F J L hR hN hp hρ zs zg
        obtain ⟨g,hv,d6,hb⟩:=hp.o 8 AB
        have e55:=(hρ.o 55).trans hv
        have m1:=hb.cell HST.o
        clear hv hb d6
        refine Qr ?_
        exact ⟨F,LZ.refl _ _ _,λ_ _ _ h=>h,_,rfl,hsz⟩
      refine Qs (FP λv F J=>OvN w2 v J) (H1A ?_) ?_ ?_
      · rintro v F wx γ' wy rr ⟨g,s,h1,h2,h3,h4⟩
        exact ⟨g,s,h1,h2,h3,h4.keep (rr.keptS (S:=λb=>b=g) λb _ e m hm=>by have:=HG.o;rcases hm with ⟨_,h⟩|⟨_,h⟩;(have:=HAL.o b h;omega);omega)⟩
      · intro V F J L hR hN hp hρ zs zg
        obtain ⟨s,hv,d3⟩:=hp.o 9 AB
        have e56:=(hρ.o 56).trans hv
        clear hv
        have HR:=hR
        refine Qr ?_
        exact ⟨F,H4A _ F (exaa _),λ_ _ _ h=>h,_,s,rfl,HR.o.size,d3,Blk.new _ _ _⟩
      refine Chain.step (FP λv F J=>OvA (w.heap.size+3) x.cols v F J) AG (H1A ?_) ?_ ?_
      · rintro v F wx γ' wy rr ⟨A9,c9,s,h1,h2,h3,h4⟩
        refine ⟨A9,c9,s,h1,h2,rr.done _ h3,⟨Own.keep h4.1 (rr.keptS λb _ hb m hm => ?_),h4.2⟩⟩
        rcases hm with ⟨rfl,h⟩|⟨rfl,h⟩
        · rw [h3,rr.done _ h3]
        · exfalso;have:=(h4.1.blk hb).1;have:=HG.o;omega
      · intro V F J L hR hN hp hρ hc hf hg
        refine ⟨rfl,?_⟩
        have hk8:=hN.key (k:=1008) AB
        have e48:L (.tmp 48)=_:=(hρ 48).trans (hp 1 AB)
        obtain ⟨g,s,hv,d6,d3,hb⟩:=hp 10 AB
        have e57:=(hρ 57).trans hv
        have hoo:=Own.keep HM.o.cols.1 (hR.kept0 (S:=λb=>ob Ac=some b) λb _ hb m hm=>by
          rcases hm with ⟨rfl,h⟩|⟨rfl,h⟩
          · exact hk8
          · exfalso;have:=HAL.o b hb;have:=HG.o;omega)
        have hsz2:=hR.size
        have e0:w2.drew.heap.size=w2.heap.size:=rfl
        have hc8:=HC8.o
        refine Cw (.tmp 48) (.tmp 57) rfl tiS e48 hoo e57 (Blk.rd hb) rfl AP AA AB AA ?_
        intro A9 c9 w9' hown9 a8 f2
        refine ⟨F.put 1008,H2A hk8 a8.os a8.tape a8.output a8.size (λb hb hm=>a8.block b hb λe=>hm (.inl ⟨rfl,e.symm⟩)),LK.done AB,A9,c9,s,rfl,d3,AU,⟨?_,λs' Z => ?_⟩⟩
        · exact QP
        · rcases List.mem_append.1 Z with Z|Z
          · exact HM.o.cols.2 s' Z
          · rw [List.mem_singleton.1 Z];omega
      refine Qp ?_
      refine Chain.step (λ_ F J=>OvF (w.heap.size+3) g2 x (.slice Ar x.rows.length cr) F J) AG ?_ ?_ ?_
      · rintro l F wx γ' wy rr ⟨A9,c9,s,h1,h2,h3,h4,h5⟩
        refine ⟨A9,c9,s,h1,h2.keep (rr.keptS (S:=λb=>b=g2) λb _ e m hm => ?_),⟨Own.keep h3.1 (rr.keptS λb _ hb m hm => ?_),h3.2⟩,rr.done _ h4,rr.done _ h5⟩
        · exact IM
        · exact IM
      · intro V F J L hR hN hp hρ hc hf hg
        refine ⟨rfl,?_⟩
        obtain ⟨A9,c9,s,hv,d3,hk8,hoo⟩:=hp 11 AB
        have e58:=(hρ 58).trans hv
        have e59:L (.tmp 59)=_:=(hρ 59).trans (hp 12 AB)
        have hk10:=hN.key (k:=1010) AB
        have HB0:=Hd (U.o.keep (hR.kept0 (S:=λb=>b=g2) λb _ e m hm=>by
          rcases hm with ⟨rfl,h⟩|⟨rfl,h⟩
          · exfalso;have:=HAL.o b h;have:=HG.o;omega
          · exact hk10))
        have HK:=Hd hk10
        have HO:=Hd hoo
        have q5:=HB0.o.q5
        have qf:=HB0.o.frozen
        have ql:=HB0.o.lt
        clear hR hN hp hρ hv hk10 hoo
        go_light
        go_simp
        have hon:=(Only.refl g2 J).set 5 (.slice A9 (x.cols.length+1) c9)
        refine ⟨F.put 1010,H2A HK.o rfl rfl rfl Y78171d3d0 (λb hb hm=>hon.block b λe=>hm (.inr ⟨rfl,e⟩)),LK.done AB,A9,c9,s,d3,?_,⟨hon.own HO.o.1 (by have:=HG.o;omega),HO.o.2⟩,?_,AU⟩
        · have hb1:=HB0.o.set 5 (.slice A9 (x.cols.length+1) c9)
          simpa [Vp] using hb1
        · simp [Gz.put,hk8]
      intro V F w9 hR hG
      refine Qx ?_
      obtain ⟨A9,c9,s,d3,hb9,ho9,-,-⟩:=hG 13 AB
      have HJ:=Hd (show OvJ w w9 by
        have hx9:Ext w w9:=Au HM.o.ext (hR.buts (S:=λb=>ob Ac=some b\/b=g2) (λm b _ hm _=>hm.imp And.right And.right)) (λb hb=>by have:=HG.o;rcases hb with hb|hb;(have:=HAL.o b hb;omega);omega)
        have hrw:=(HM.o.rows.keep (hR.kept0 λb _ hb m hm=>by have:=HG.o;rcases hm with ⟨_,h⟩|⟨_,h⟩;exact absurd h hb.2;omega) (λb hb hb'=>HM.o.sep b hb' hb)).rows HRL.o HRR.o
        have hc8:=HC8.o
        refine ⟨{ x with cols:=x.cols++[s] },A9,c9,Ar,cr,?_,HM.o.res.keep (hR.kept0 (S:=λb=>b=w.heap.size+2) λb _ e m hm=>by have:=HG.o;rcases hm with ⟨_,h⟩|⟨_,h⟩;(have:=HAL.o b h;omega);omega),⟨ho9.1.cap,HM.o.rows.cap⟩,RV.mk MX (ho9.strs (by show (x.cols++[s]).length<=4294967296;rw [List.length_append];simp;omega) λb hb=>(ho9.1.blk hb).1) hrw,hx9⟩
        rw [HG2.o] at hb9
        simpa [Vp] using hb9)
      clear hR hG hb9 ho9
      go_wp2
      go_meet
      case rel=>exact HJ.o
    · have hw2:w.heap.size+3<=w2.heap.size:=by have:=HM.o.res.lt;omega
      have O:=HRL.o
      obtain ⟨Z,hown,d4⟩:=(G4A HM.o.rows (λb hb=>(HM.o.cols.1.blk hb).2) (OwnVs.nil (w2.alloc (.cells #[.slice none 0 0] 45)) w2.heap.size (λb=>w2.heap.size<=b) 1) ((Ext.refl w2).alloc (.cells #[.slice none 0 0] 45))).use
      have HOWN:=Hd hown
      have HUSE:=Hd d4
      clear hown d4
      go_wp2_with (at_builtin;go_must (refine AL rfl (.tmp 63) (.tmp 64) rfl tiR rfl HOWN.o rfl (Blk.rd (Blk.new _ _ _)) rfl AP AA AB AI ?_);intro A9 c9 w9 hown9 a8 f2;have hE:=(HM.o.more ((Ext.refl w2).alloc (.cells #[.slice none 0 0] 45))).appR a8 (HUSE.o w9 A9 c9 hown9 a8 f2) f2;have HE:=Hd hE;obtain ⟨y6,hy6⟩:=hE.box;rw [<-HG2.o] at hy6;have s6:=hy6.q6;have sf:=hy6.frozen;have sl:=hy6.lt;clear hE)
      go_meet
      case rel =>
        have h1:=HE.o.store
        rw [<-HG2.o] at h1
        refine OvD.fin (x:={ x with rows:=x.rows++[[]] }) CE MX HCL.o (by show (x.rows++[[]]).length<=4294967296;rw [List.length_append];have:=HR100.o;simp;omega) (λr hr=>by rcases List.mem_append.1 hr with hr|hr;exact HRR.o r hr;rw [List.mem_singleton.1 hr];exact AN)
    · by_cases hk0:0<x.rows.length
      · obtain ⟨Z,B0,e0,X0,hown,f0,Y,d8,hB0,hfin⟩:=HM.o.rows.at_ hk0 HRL.o HRR.o
        obtain ⟨gA,curA,rfl,hblA,hgA⟩:=hown.blk0 hk0
        have HHD:=Hd (show w2.cell? ⟨gA,0,none⟩=some (.slice B0 x.rows[0].length e0) from hown.cell_ f0)
        have hr0:(x.rows[0].length:Int)<=4294967296:=by have:=HRR.o _ (List.getElem_mem hk0);omega
        have hqk:(0:Int)<x.rows.length:=AA
        have a0:=HHD.o
        obtain ⟨b9,HX0',HFIN⟩:=Hd3 Y d8 hfin
        obtain ⟨rl,O⟩:=eqx (x.rows[0].length)
        rw [<-O] at a0 hr0
        have HRL0:=Hd O
        clear Y d8 hfin hown f0 hB0 hblA O
        by_cases hj0:0<rl
        · have hqj:(0:Int)<rl:=AA
          obtain ⟨ys,d9,-⟩:=b9.o
          obtain ⟨gB,curB,rfl,b8,hgB⟩:=d9.blk0 OE
          have d7:=Hd b8
          clear d9 b8
          have d5:0<x.rows[0].length:=OE
          have f1:x.rows[0].length<=4294967296:=HRR.o _ (List.getElem_mem hk0)
          obtain ⟨HSC,HTH,HPUT⟩:=Hd3 (HM.o.cols.1.apart d7.o AB) (b9.o.there d5 f1 d7.o.frozen) (b9.o.put0 d5 f1 (λb hb=>(HX0'.out b hb).1) 5 0)
          go_upto_region 17 with fail
          go_wp2_with (refine wpList_store_mid rfl 40 _ _ rfl gB 0 #[.I 5,.string ⟨#[]⟩,.I 0,.I 0,.I 0,.slice none 0 0,.slice none 0 0] rfl rfl HTH.o GA AD ?_)
          go_meet
          case rel =>
            exact HM.o.cellR AA HCL.o hk0 hgB HSC.o HFIN.o AC HPUT.o.1 HPUT.o.2 (Ext.setCells AA _ _ HM.o.ext)
        · exact Jv
      · exact Gc
    · by_cases hk0:0<x.rows.length
      · obtain ⟨Z,B0,e0,X0,hown,f0,Y,d8,hB0,hfin⟩:=HM.o.rows.at_ hk0 HRL.o HRR.o
        obtain ⟨gA,curA,rfl,hblA,hgA⟩:=hown.blk0 hk0
        have HHD:=Hd (show w2.cell? ⟨gA,0,none⟩=some (.slice B0 x.rows[0].length e0) from hown.cell_ f0)
        have hr0:(x.rows[0].length:Int)<=4294967296:=by have:=HRR.o _ (List.getElem_mem hk0);omega
        have hqk:(0:Int)<x.rows.length:=AA
        have a0:=HHD.o
        obtain ⟨b9,HX0',HFIN⟩:=Hd3 Y d8 hfin
        obtain ⟨rl,O⟩:=eqx (x.rows[0].length)
        rw [<-O] at a0 hr0
        have HRL0:=Hd O
        clear Y d8 hfin hown f0 hB0 hblA O
        by_cases hj0:0<rl
        · have hqj:(0:Int)<rl:=AA
          obtain ⟨ys,d9,-⟩:=b9.o
          obtain ⟨gB,curB,rfl,b8,hgB⟩:=d9.blk0 OE
          have d7:=Hd b8
          clear d9 b8
          have d5:0<x.rows[0].length:=OE
          have f1:x.rows[0].length<=4294967296:=HRR.o _ (List.getElem_mem hk0)
          have HSC:=Hd (HM.o.cols.1.apart d7.o AB)
          have A0:=HHD
          rw [<-HRL0.o] at A0
          have C6:=Hd b6
          go_upto_region 20 with fail
          clear a0 b0 b1 b2 b3 b4 b5 b6 bf bl k1 k2
          refine Qa (λm b=>m=1010/\b=gB) (lk 10 [1010]) ?_
          iterate 9 refine Qp ?_
          refine Chain.step (λ_ F J=>Row J (λb=>w.heap.size+3<=b) 1 (some ⟨gB,0,none⟩) (x.rows[0].set 0 (Val.mk 4 ⟨#[]⟩ 0 0 (q1.tmod 3) [] []))/\F 1010=true) AG ?_ ?_ ?_
          · rintro l F wx γ' wy rr ⟨h1,h2⟩
            exact ⟨h1.keep (rr.keptS λb _ hb m hm=>MF),rr.done _ h2⟩
          · intro V F J L hR hN hp hρ hc hf hg
            refine ⟨rfl,?_⟩
            have hk:=hN.key (k:=1010) AB
            have hkp:=hR.kept0 (S:=λ_=>True) λb _ _ m hm=>LI
            have Y:=b9.o.keep (hkp.mono λ_ _ _=>trivial)
            have hput:=Y.put0 d5 f1 (λb hb=>(HX0'.out b hb).1) 4 (q1.tmod 3)
            have e109:L (.tmp 109)=_:=(hρ 109).trans (hp 8 AB)
            have e108:L (.tmp 108)=_:=(hρ 108).trans (hp 7 AB)
            refine Kz 40 rfl e109 e108 (Y.there d5 f1 (d7.o.keep (hkp.mono λ_ _ _=>trivial)).frozen) GA AD ?_
            obtain ⟨z1,z2,z3,z4⟩:=EC gB [.I 4,.string ⟨#[]⟩,.I 0,.I 0,.I (q1.tmod 3),.slice none 0 0,.slice none 0 0] 0 J
            exact ⟨F.put 1010,H2A hk z1 z2 z3 z4 (λb hb hm=>hput.2.2 b (λe=>hm ⟨rfl,e⟩) hb),LK.done AB,hput.1,AU⟩
          intro V F w9 hR hG
          refine Qx ?_
          obtain ⟨hrow,-⟩:=hG 9 AB
          obtain ⟨HROW,HK9,HX9⟩:=Hd3 hrow (hR.kept0 (S:=λb=>b≠gB) λb _ hb m hm=>absurd hm.2 hb) (show Ext w w9 from Au HM.o.ext (hR.buts (S:=λb=>b=gB) (λm b _ hm _=>hm.2)) (λb hb=>AA))
          clear hR hG hrow
          go_wp2
          go_meet
          case rel=>exact HM.o.cellR AA HCL.o hk0 hgB HSC.o HFIN.o AC HROW.o HK9.o HX9.o
        · exact Jv
      · exact Gc
    · go_wp2_with fail
      go_meet
      case rel=>exact HFL.o { x with s:=x.s++⟨#[39]⟩ } _ ((Only.refl g2 w2).set 1 (.string (x.s++⟨#[39]⟩))) (by have:=(U.o.set 1 (.string (x.s++⟨#[39]⟩)));simpa [Vp] using this) rfl rfl (by show (x.s++(⟨#[39]⟩:BA)).size<=4294967296;rw [ByteArray.size_append];have h1:(⟨#[39]⟩:BA).size=1:=rfl;omega)
    · obtain ⟨N,hN⟩:∃ N:Nat,(q1.tmod 4+4) % 4=(N:Int):=⟨((q1.tmod 4+4) % 4).toNat,by have:=BzA q1 4 AA;omega⟩
      have hN4:N<4:=AA
      have HNN:=Hd hN
      obtain ⟨hd1,hd2⟩:=BzA q1 4 AA
      obtain ⟨x0,hx0⟩:=eqx x
      have hg:=HG2.o
      subst hg
      have hr100:=HR100.o
      have hc8:=HC8.o
      have hrr:=HRR.o
      have hm:=HM.o
      rw [<-hx0] at hr100 hc8 hs hrr hm
      have HRR0:=Hd hrr
      have HM0:=Hd hm
      clear b0 b1 b2 b3 b4 b5 b6 bf bl k1 k2 hx0 hrr hm HFL
      go_wp2
      go_loopw [5] (λi wr=>∃ (k:Nat) (y:Val) (Ar:OA) (cr:Nat),k<=98+N/\i=.I k/\y.rows.length=x0.rows.length+k/\(∀ r∈y.rows,r.length<=4294967296)/\y.s.size<=200/\y.cols.length<=8/\OvD w q0 q1 q2 y Ac cc Ar cr wr) (λi _=>98+N-(intOf i).toNat)
      case atStart=>exact ⟨0,x0,Ar,cr,AN,rfl,rfl,HRR0.o,hs,hc8,HM0.o⟩
      case round =>
        clear HM HM0 HRR0
        obtain ⟨k,x,Ar,cr,hk,rfl,O,hr4,hss,hcl,hm0⟩:=hrel
        obtain ⟨HM,HR4,HRL2⟩:=Hd3 hm0 hr4 O
        have hrl2:x.rows.length<=202:=AA
        have g1:wr.cell? ⟨g3,1,none⟩=some (.I q1):=by rw [HG3.o];exact hm0.qb.q1
        have hlt:(k:Int)<98+(q1.tmod 4+4) % 4\/k=98+N:=AA
        clear hm0 hr4 O
        by_cases hl:k<98+N
        · have hq:(k:Int)<98+(q1.tmod 4+4) % 4:=AA
          clear hlt
          go_upto_region 27 with fail
          clear g1
          refine BZ AD GyA AD (SR (MN w q0 q1 q2 x Ac cc Ar cr)) (SR.refl _) (SR.trans _) (SN Pm) (Og w q0 q1 q2 x Ac cc Ar cr) (NE _ _ _ _ _ _ _ _ _) 0 (SN.zero AB) ⟨?_,?_,?_,?_,?_,?_,?_,?_,?_,?_,trivial⟩ ?_
          · exact FW
          · refine LinStep.yes λV F J L hR hN hp hρ hc hf hg=>⟨rfl,?_⟩
            have hi:=hR.inv ⟨AA,λ_=>⟨_,HM.o.box.keep (Kept.drew _ _)⟩,λ_=>HM.o.more (Ext.refl _).drew⟩
            have e128:L (.tmp 128)=_:=(hρ 128).trans (hp 0 AB)
            have hb:=(hi.2.2 Bc).box
            exact IX
          · exact FW
          · refine LinStep.yes λV F J L hR hN hp hρ hc hf hg=>⟨rfl,?_⟩
            have hi:=hR.inv ⟨AA,λ_=>⟨_,HM.o.box.keep (Kept.drew _ _)⟩,λ_=>HM.o.more (Ext.refl _).drew⟩
            have e130:L (.tmp 130)=_:=(hρ 130).trans (hp 2 AB)
            obtain ⟨y,hb⟩:=hi.2.1 O9
            exact JP
          · refine LinStep.yes λV F J L hR hN hp hρ hc hf hg=>⟨rfl,?_⟩
            have hi:=hR.inv ⟨AA,λ_=>⟨_,HM.o.box.keep (Kept.drew _ _)⟩,λ_=>HM.o.more (Ext.refl _).drew⟩
            have e131:L (.tmp 131)=_:=(hρ 131).trans (hp 3 AB)
            exact Uf
          · refine LinStep.yes λV F J L hR hN hp hρ hc hf hg=>⟨rfl,?_⟩
            have hi:=hR.inv ⟨AA,λ_=>⟨_,HM.o.box.keep (Kept.drew _ _)⟩,λ_=>HM.o.more (Ext.refl _).drew⟩
            have e132:L (.tmp 132)=_:=(hρ 132).trans (hp 4 AB)
            have h0:F=0:=by have h:F<1:=hN;omega
            subst h0
            have HI:=Hd (hi.2.2 AA)
            have hmk:=Ow x.cols.length AA
            clear hR hN hp hρ hi
            go_light
            go_simp
            have hx1:Ext J (J.alloc (.cells (Be x.cols.length) 40)):=(Ext.refl _).alloc _
            have hod:=HI.o.more hx1
            exact ⟨1,SR.up AA ⟨AA,λ_=>⟨_,hod.box⟩,λ_=>hod⟩,SN.up AA AB rfl,_,rfl,AA,λ_=>G4A HI.o.rows (λb hb=>(HI.o.cols.1.blk hb).2) (OwnVs.zeros J x.cols.length 1 AB AA) hx1⟩
          · refine LinStep.yes λV F J L hR hN hp hρ hc hf hg=>⟨rfl,?_⟩
            have hi:=hR.inv ⟨AA,λ_=>⟨_,HM.o.box.keep (Kept.drew _ _)⟩,λ_=>HM.o.more (Ext.refl _).drew⟩
            obtain ⟨g',g5,hr1,hpu⟩:=hp 5 AB
            have e133:L (.tmp 133)=_:=(hρ 133).trans g5
            have h0:F=1:=Dm
            subst h0
            have HI:=Hd (hi.2.2 AA)
            have HPU:=Hd (hpu rfl)
            clear hR hN hp hρ hi g5 hpu
            go_light
            go_simp
            have hx1:Ext J (J.alloc (.cells #[.slice (some ⟨g',0,none⟩) x.cols.length x.cols.length] 45)):=(Ext.refl _).alloc _
            have hod:=HI.o.more hx1
            exact ⟨2,SR.up AA ⟨AA,λ_=>⟨_,hod.box⟩,λ_=>hod⟩,SN.up AA AB rfl,_,g',rfl,AA,λ_=>⟨Blk.new _ _ _,HPU.o.ext hx1⟩⟩
          · refine LinStep.yes λV F J L hR hN hp hρ hc hf hg=>⟨rfl,?_⟩
            have hi:=hR.inv ⟨AA,λ_=>⟨_,HM.o.box.keep (Kept.drew _ _)⟩,λ_=>HM.o.more (Ext.refl _).drew⟩
            obtain ⟨g',g'',g6,hr2,hbk⟩:=hp 6 AB
            have e134:L (.tmp 134)=_:=(hρ 134).trans g6
            have e129:L (.tmp 129)=_:=(hρ 129).trans (hp 1 AB)
            have h0:F=2:=Bc
            subst h0
            obtain ⟨hbk1,hbk2⟩:=hbk rfl
            have hod:=hi.2.2 AA
            obtain ⟨hs,ho1,d4⟩:=hbk2.use
            refine FNA (.tmp 129) (.tmp 134) rfl tiR e129 ho1 e134 hbk1.rd rfl AP AA AB (by have h1:=hod.res.lt;omega) ?_
            intro A4 c4 w4 hown4 hg4 hat4
            have hoda:=hod.appR hg4 (d4 w4 A4 c4 (by rw [List.length_replicate];exact hown4) hg4 hat4) hat4
            exact ⟨3,SR.up AA ⟨AA,λ_=>hoda.box,λh=>absurd h AA⟩,SN.up AA AB rfl,A4,c4,rfl,AA,λ_=>hoda⟩
          · exact FW
          · refine LinStep.yes λV F J L hR hN hp hρ hc hf hg=>⟨rfl,?_⟩
            have hi:=hR.inv ⟨AA,λ_=>⟨_,HM.o.box.keep (Kept.drew _ _)⟩,λ_=>HM.o.more (Ext.refl _).drew⟩
            obtain ⟨A4,c4,g7,hr3,hda⟩:=hp 7 AB
            have e135:L (.tmp 135)=_:=(hρ 135).trans g7
            have e136:L (.tmp 136)=_:=(hρ 136).trans (hp 8 AB)
            have h0:F=3:=O9
            subst h0
            have HA:=Hd (hda rfl)
            obtain ⟨y,hy⟩:=(hda rfl).box
            have k0:=hy.q6
            have kf:=hy.frozen
            have kz:=hy.lt
            clear hR hN hp hρ hi g7 hda hy
            go_light
            go_simp
            have hs:=HA.o.store
            simp only [List.length_append,List.length_singleton] at hs
            exact ⟨4,SR.up AA ⟨AA,λh=>absurd h AA,λh=>absurd h AA⟩,SN.up AA AB rfl,AA,λ_=>⟨A4,c4,hs⟩⟩
          · intro V F J hR hG
            have hi:=hR.inv ⟨AA,λ_=>⟨_,HM.o.box.keep (Kept.drew _ _)⟩,λ_=>HM.o.more (Ext.refl _).drew⟩
            obtain ⟨h4,h5⟩:=hG 9 AB
            obtain ⟨A4,c4,hm1⟩:=h5 (by have:=hi.1;omega)
            have HM1:=Hd hm1
            clear hR hG hi h4 h5 hm1 HM
            simp only [Ah,Act.put,List.setIfInBounds_toArray,List.set_cons_succ,List.set_cons_zero,Nat.zero_add,Nat.reduceAdd]
            generalize V 0=u0,V 1=u1,V 2=u2,V 3=u3,V 4=u4,V 5=u5,V 6=u6,V 7=u7,V 8=u8,V 9=u9
            go_wp2
            go_roundw
            case rel =>
              refine ⟨k+1,{ x with rows:=x.rows++[List.replicate x.cols.length Val.zero] },A4,c4,AA,AE,?_,λr hr => ?_,hss,hcl,HM1.o⟩
              · show (x.rows++_).length=_
                rw [List.length_append,HRL2.o]
                simp
                omega
              · rcases List.mem_append.1 hr with hr|hr
                · exact HR4.o r hr
                · rw [List.mem_singleton.1 hr,List.length_replicate];omega
            case measure=>simp [intOf];omega
        · have hq:¬(k:Int)<98+(q1.tmod 4+4) % 4:=AA
          go_wp2
          go_meet
          case rel=>exact HM.o.fin AA AA AA HR4.o
  case rest =>
  obtain ⟨w9,rfl⟩:=eqx wc
  obtain ⟨y,Ay,cy,By,ey,hby,hb4,hcp,hrv,hx⟩:=hcut
  rw [<-HG2.o] at hby
  rw [<-HG4.o] at hb4
  have hlt:=hb4.lt
  have hge:w.heap.size<=g4:=by have:=HG4.o;omega
  go_upto_region 28 with fail
  refine wp_region_lit ?_
  refine AJ rfl 40 _ rfl g2 rfl hby Iq GA ?_
  refine AM rfl 40 _ _ rfl g4 (Vp y Ay cy By ey) rfl rfl 40 _ hb4 GA rfl AD ?_
  intro wf hbf hof
  obtain ⟨HBF,HXF,HRV,HCP⟩:=Hd4 hbf (hx.only hof hge) (hrv.move (T:=BO w) (hof.kept λb _ hb e=>by have:=HG4.o;omega) λb _ hb=>FS) hcp
  clear hbf hof hby hb4 hcp hrv hx
  go_wp2_with fail
  refine bodyPost_ret (Bv results7 rfl (Eq HBF.o Iq GA)) rfl ?_
  exact ⟨y,Ay,cy,By,ey,rfl,HCP.o,HRV.o,HXF.o⟩
