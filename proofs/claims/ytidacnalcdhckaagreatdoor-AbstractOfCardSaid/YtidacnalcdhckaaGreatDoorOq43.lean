/- Lemmas. No conditions. -/
import Derived.Test.YtidacnalcdhckaaGreatDoorOq42
import Derived.Deep.DeepCutAuto
import Derived.Deep.CutBlock
import Derived.Deep.MidRow
set_option maxRecDepth 100000
set_option maxHeartbeats 4000000
namespace Go.Proofs.YtidacnalcdhckaaGreatDoor
open Go Go.RowKit Tryz
variable {qP:Prop}

theorem MV{x:Val}(h:Ab x=true):x.s.size=0:=by
  rw [(of_decide_eq_true h).1]
  rfl
theorem PJ{x:Val}(h:Ab x=true):x.cols=[]∧x.rows=[]:=(of_decide_eq_true h).2.2.2.2
theorem O1{x:Val}(h:BC x=true):x.s.size≤200∧x.cols.length≤8∧x.rows.length≤100:=by
  by_cases hk:x.kind=5
  · obtain ⟨h1,h2,-⟩:=OC (N9 h hk)
    unfold BC at h
    rw [if_pos hk,Bool.and_eq_true] at h
    have h3:=MV h.2
    change x.s.size=0 at h3
    exact ⟨AA,h1,h2⟩
  · unfold BC at h
    rw [if_neg hk] at h
    unfold BG at h
    repeat' split at h
    all_goals first
      |cases h
      | (rw [Bool.and_eq_true] at h
         have h2:=PJ h.2
         change x.cols=[]∧x.rows=[] at h2
         rw [h2.1,h2.2]
         refine ⟨?_,AN,AN⟩
         first
           |(have h1:=MV h.2;change x.s.size=0 at h1;omega)
           | (have h1:=h.1;unfold Ca at h1;rw [Bool.and_eq_true,decide_eq_true_eq] at h1;exact h1.1))
structure OvD(w:World)(q0 q1 q2:Int)(x:Val)(Ac:OA)(cc:Nat)(Ar:OA)(cr:Nat)(wr:World):Prop where
  ext:Ext w wr
  box:Blk wr w.heap.size 29 (Vp x Ac cc Ar cr)
  qb:Blk wr (w.heap.size+1) 50 #[.I q0,.I q1,.I q2]
  res:Blk wr (w.heap.size+2) 29 Vz
  cols:OwnSs wr (w.heap.size+3) Ac cc x.cols
  rows:OwnRR wr (w.heap.size+3) (fun b=>ob Ac=some b) 1 Ar cr x.rows
  sep:∀ b,ob Ac=some b→ob Ar≠some b
def OvJ(w wx:World):Prop:=∃ (y:Val) (A:OA) (c:Nat) (B:OA) (e:Nat),Blk wx w.heap.size 29 (Vp y A c B e)∧Blk wx (w.heap.size+2) 29 Vz∧(y.cols.length≤c∧y.rows.length≤e)∧RV wx (fun b=>w.heap.size+3≤b) 1 y A B∧Ext w wx
section
variable {w wr wr':World}{q0 q1 q2:Int}{x:Val}{Ac Ar:OA}{cc cr:Nat}
theorem OvD.more(h:OvD w q0 q1 q2 x Ac cc Ar cr wr)(hx:Ext wr wr'):OvD w q0 q1 q2 x Ac cc Ar cr wr' :=
  ⟨h.ext.trans hx,h.box.keep (hx.kept _),h.qb.keep (hx.kept _),h.res.keep (hx.kept _),h.cols.ext hx,h.rows.ext hx,h.sep⟩
theorem OvD.flat(h:OvD w q0 q1 q2 x Ac cc Ar cr wr){y:Val}(ho:Only w.heap.size wr wr')(hb:Blk wr' w.heap.size 29 (Vp y Ac cc Ar cr))(hc:y.cols=x.cols)(hr:y.rows=x.rows)(hs:y.s.size≤4294967296)(h2:x.cols.length≤4294967296)(h3:x.rows.length≤4294967296)(h4:∀ r∈x.rows,r.length≤4294967296):OvJ w wr':=by
  refine ⟨y,Ac,cc,Ar,cr,hb,h.res.keep (ho.kept fun b _ e=>AA),by rw [hc,hr];exact ⟨h.cols.1.cap,h.rows.cap⟩,RV.mk hs ?_ ?_,h.ext.only ho AA⟩
  · rw [hc]
    exact (h.cols.strs (T:=fun b=>w.heap.size+3≤b) h2 fun b hb=>(h.cols.1.blk hb).1).keep (ho.kept fun b _ hb=>AA)
  · rw [hr]
    exact (h.rows.rows h3 h4).keep (ho.kept fun b _ hb=>AA)
end
structure OvE(w:World)(q0 q1 q2:Int)(x:Val)(Ac:OA)(cc:Nat)(Ar:OA)(cr:Nat)(wr:World):Prop where
  ext:Ext w wr
  box:∃ y,Blk wr w.heap.size 29 #[.I x.kind,.string x.s,.I x.dn,.I x.ds,.I x.n,.slice Ac x.cols.length cc,y]
  qb:Blk wr (w.heap.size+1) 50 #[.I q0,.I q1,.I q2]
  res:Blk wr (w.heap.size+2) 29 Vz
  cols:OwnSs wr (w.heap.size+3) Ac cc x.cols
  rows:OwnRR wr (w.heap.size+3) (fun b=>ob Ac=some b) 1 Ar cr x.rows
  sep:∀ b,ob Ac=some b→ob Ar≠some b
section
variable {w wr wr':World}{q0 q1 q2:Int}{x:Val}{Ac Ar:OA}{cc cr:Nat}
theorem OvD.fin(h:OvD w q0 q1 q2 x Ac cc Ar cr wr)(hs:x.s.size≤4294967296)(h2:x.cols.length≤4294967296)(h3:x.rows.length≤4294967296)(h4:∀ r∈x.rows,r.length≤4294967296):OvJ w wr :=
  h.flat (Only.refl _ _) h.box rfl rfl hs h2 h3 h4
theorem OvJ.more(h:OvJ w wr)(hx:Ext wr wr'):OvJ w wr':=by
  obtain ⟨y,A,c,B,e,h1,h2,h3,h4,h5⟩:=h
  exact ⟨y,A,c,B,e,h1.keep (hx.kept _),h2.keep (hx.kept _),h3,h4.keep (hx.kept _),h5.trans hx⟩
theorem OvD.appR(h:OvD w q0 q1 q2 x Ac cc Ar cr wr){A4:OA}{c4:Nat}{rows':List (List Val)}(hg:wr.grownBy wr' (ob Ar))(hr:OwnRR wr' (w.heap.size+3) (fun b=>ob Ac=some b) 1 A4 c4 rows')(hat:ob A4=ob Ar∨ob A4=some wr.heap.size):OvE w q0 q1 q2 { x with rows:=rows' } Ac cc A4 c4 wr':=by
  have hlow:∀ b,ob Ar=some b→w.heap.size+3≤b:=fun b hb=>(h.rows.blk hb).1
  have hkb:∀ g,g<w.heap.size+3→Kept (fun b=>b=g) wr wr':=fun g hg'=>Kept.of_grown hg fun b hb _ e=>by
    subst hb
    have:=hlow _ e.symm
    omega
  refine ⟨Ext.grown h.ext hg fun b hb=>by have:=hlow b hb;omega,⟨_,h.box.keep (hkb _ AA)⟩,h.qb.keep (hkb _ AA),h.res.keep (hkb _ AA),⟨h.cols.1.keep (Kept.of_grown hg fun b hb _ e=>h.sep b hb e.symm),h.cols.2⟩,hr,?_⟩
  exact II
theorem OvE.store(h:OvE w q0 q1 q2 x Ac cc Ar cr wr):OvD w q0 q1 q2 x Ac cc Ar cr (wr.setCell ⟨w.heap.size,6,none⟩ (.slice Ar x.rows.length cr)):=by
  obtain ⟨y,hy⟩:=h.box
  have ho:=(Only.refl w.heap.size wr).set 6 (.slice Ar x.rows.length cr)
  refine ⟨h.ext.only ho AA,hy.set 6 _,h.qb.keep (ho.kept fun b _ e=>AA),h.res.keep (ho.kept fun b _ e=>AA),⟨ho.own h.cols.1 AA,h.cols.2⟩,h.rows.keep (ho.kept fun b _ e=>AA) (fun b hb hb'=>h.sep b hb' hb),h.sep⟩
end
theorem Own.apart{w:World}{base e sz n c g t:Nat}{A:OA}{xs:List Value}{cs:Array Value}(h:Own w base e sz A n c xs)(hb:Blk w g t cs)(ht:e≠t):ob A≠some g:=by
  intro hA
  rcases h.2 with ⟨hv,h0⟩|⟨g',cap,cur,hv,_,hh,_⟩
  · injection hv with hv
    rw [hv] at hA
    cases hA
  · injection hv with hv
    rw [hv] at hA
    injection hA with hA
    subst hA
    unfold Blk at hb
    rw [hb] at hh
    injection hh with hh
    injection hh with _ hh
    exact ht hh.symm
theorem OvD.cellR{w wr wr':World}{q0 q1 q2:Int}{x:Val}{Ac Ar:OA}{cc cr gB:Nat}{r':List Val}(h:OvD w q0 q1 q2 x Ac cc Ar cr wr)(hs:x.s.size≤4294967296)(h2:x.cols.length≤4294967296)(hK:0<x.rows.length)(hg:w.heap.size+3≤gB)(hsc:ob Ac≠some gB)
    (hcl:∀ (w':World) (r':List Val),Kept (fun b=>ob (some ⟨gB,0,none⟩)≠some b) wr w'→r'.length=x.rows[0].length→Row w' (fun b=>w.heap.size+3≤b) 1 (some ⟨gB,0,none⟩) r'→Rows w' (fun b=>w.heap.size+3≤b) 1 Ar (x.rows.set 0 r'))
    (hl:r'.length=x.rows[0].length) (hr:Row wr' (fun b=>w.heap.size+3≤b) 1 (some ⟨gB,0,none⟩) r') (hkk:Kept (fun b=>b≠gB) wr wr') (hx:Ext w wr'):OvJ w wr':=by
  refine ⟨{ x with rows:=x.rows.set 0 r' },Ac,cc,Ar,cr,?_,h.res.keep (hkk.mono fun b _ hb=>AA),⟨h.cols.1.cap,by show (x.rows.set 0 _).length≤cr;rw [List.length_set];exact h.rows.cap⟩,RV.mk hs ?_ (hcl wr' _ (hkk.mono fun b _ hb e=>hb (by rw [e];rfl)) hl hr),hx⟩
  · have hb:=h.box.keep (w':=wr') (hkk.mono fun b _ hb=>AA)
    simpa [Vp] using hb
  · have:=(h.cols.strs (T:=fun b=>w.heap.size+3≤b∧b≠gB) h2 fun b hb=>⟨(h.cols.1.blk hb).1,fun e=>hsc (by rw [←e];exact hb)⟩).keep (hkk.mono fun b _ hb=>hb.2)
    exact this.mono fun b _ hb=>hb.1
theorem OwnVs.there{w:World}{base g e d:Nat}{X:NP}{r:List Val}(h:OwnVs w base X d (some ⟨g,0,none⟩) e r)(hj:0<r.length)(hl:r.length≤4294967296)(hf:∀ i,w.frozen? ⟨g,i,none⟩=false):w.there g 0 7:=by
  obtain ⟨b,o,A5,c5,B5,e5,hb5,z5,⟨p0,p1,p2,p3,p4,p5,p6⟩,-⟩:=(h.row (T:=fun _=>True) hl (fun _ _=>trivial) (fun _ _=>trivial)).at_ (k:=0) hj
  injection hb5 with hb5
  injection hb5 with hb5 hb6
  subst hb5
  subst hb6
  simp only [Nat.zero_add,Nat.zero_mul] at p0 p1 p2 p3 p4 p5 p6
  intro j hj
  refine ⟨?_,hf _⟩
  rw [Nat.zero_add]
  match j,hj with
  |0,_=>rw [p0];rfl
  |1,_=>rw [p1];rfl
  |2,_=>rw [p2];rfl
  |3,_=>rw [p3];rfl
  |4,_=>rw [p4];rfl
  |5,_=>rw [p5];rfl
  |6,_=>rw [p6];rfl
theorem OwnVs.put0{w:World}{base g e:Nat}{X:NP}{r:List Val}(h:OwnVs w base X 1 (some ⟨g,0,none⟩) e r)(hj:0<r.length)(hl:r.length≤4294967296)(hX:∀ b,X b→base≤b)(k n:Int) :
    Row (w.setCells g 0 [.I k,.string ⟨#[]⟩,.I 0,.I 0,.I n,.slice none 0 0,.slice none 0 0]) (fun b=>base≤b) 1 (some ⟨g,0,none⟩) (r.set 0 (Val.mk k ⟨#[]⟩ 0 0 n [] []))∧Kept (fun b=>b≠g) w (w.setCells g 0 [.I k,.string ⟨#[]⟩,.I 0,.I 0,.I n,.slice none 0 0,.slice none 0 0]) :=
  h.store7 (T:=fun b=>base≤b) hj hl (x:=Val.mk k ⟨#[]⟩ 0 0 n [] []) (A1:=none) (B1:=none) (c1:=0) (e1:=0) ⟨AB,Al,Al⟩ (RV.mk (AN) Strs.nil Rows.nil) (h.blk (k:=g) rfl).1 hX rfl
theorem Ext.setCells{a:World}{g:Nat}(hg:a.heap.size≤g):∀ (l:List Value) (o:Nat) {w:World},Ext a w→Ext a (w.setCells g o l)
  |[],_,_,h=>h
  |v::r,o,w,h=>by
    rw [World.setCells]
    exact Ext.setCells hg r (o+1) (h.set2 hg v)
theorem EC(g:Nat):∀ (l:List Value) (o:Nat) (w:World),(w.setCells g o l).os=w.os∧(w.setCells g o l).tape=w.tape∧(w.setCells g o l).output=w.output∧w.heap.size≤(w.setCells g o l).heap.size
  |[],_,_=>⟨rfl,rfl,rfl,Al⟩
  |v::r,o,w=>by
    rw [World.setCells]
    obtain ⟨h1,h2,h3,h4⟩:=EC g r (o+1) (w.setCell ⟨g,o,none⟩ v)
    exact ⟨h1,h2,h3,by simpa [World.setCell] using h4⟩
def ovC:Array Value:=#[.string ⟨#[97]⟩,.string ⟨#[]⟩,.string ⟨#[120,49]⟩,.string ⟨#[49,120]⟩,.string ⟨#[97,98,99,100,101,102,103,104,105,106,107,108,109,110,111,112,113,114,115,116,117]⟩]
theorem PG(k:Nat)(h:k<5):∃ s:BA,ovC[k]?=some (.string s)∧s.size≤30:=by
  match k,h with
  |0,_=>exact ⟨_,rfl,AB⟩
  |1,_=>exact ⟨_,rfl,AB⟩
  |2,_=>exact ⟨_,rfl,AB⟩
  |3,_=>exact ⟨_,rfl,AB⟩
  |4,_=>exact ⟨_,rfl,AB⟩
def OvS(ws:World)(v:Value)(w':World):Prop:=∃ g:Nat,v=.slice (some ⟨g,0,none⟩) 5 5∧ws.heap.size≤g∧Blk w' g 9 ovC
def OvP(ws:World)(k:Nat)(v:Value)(w':World):Prop:=∃ g:Nat,v=.pointer (some ⟨g,k,none⟩)∧ws.heap.size≤g∧Blk w' g 9 ovC
def OvT(v:Value):Prop:=∃ s:BA,v=.string s∧s.size≤30
def OvN(ws:World)(v:Value)(w':World):Prop:=∃ (g:Nat) (s:BA),v=.slice (some ⟨g,0,none⟩) 1 1∧ws.heap.size≤g∧s.size≤30∧Blk w' g 9 #[.string s]
def OvA(M:Nat)(l:List BA)(v:Value)(γ:Gz)(w':World):Prop:=∃ (A:OA) (c:Nat) (s:BA),v=.slice A (l.length+1) c∧s.size≤30∧γ 1008=true∧OwnSs w' M A c (l++[s])
def OvF(M g:Nat)(x:Val)(h:Value)(γ:Gz)(w':World):Prop:=∃ (A:OA) (c:Nat) (s:BA),s.size≤30∧Blk w' g 29 #[.I x.kind,.string x.s,.I x.dn,.I x.ds,.I x.n,.slice A (x.cols.length+1) c,h]∧OwnSs w' M A c (x.cols++[s])∧γ 1008=true∧γ 1010=true
theorem Kz{P:Program}{o:Oper}{ρ:Operand→Value}{K:Value→World→Prop}{w:World}(ty:TypeId){x y:Operand}(ho:o.op=.store ty x y){b i:Nat}(hx:ρ x=.pointer (some ⟨b,i,none⟩)){cells:Array Value}(hy:ρ y=.agg cells)(ht:w.there b i cells.size)
    (hi:(P.info? ty).map (·.size)=some cells.size) (h1:cells.all (·.oneCell')=true) (h:K undef (w.setCells b i cells.toList)):Bu P K ((execOp ρ o).run P w):=by
  unfold execOp
  simp only [ho,hx,hy,Instr.storeAt,Instr.sureAddr,Sem.run_bind,Sem.run_pure,Result.andThen_ok,run_storeVar_mid w b i ty cells ht hi h1]
  exact h
def MN(w:World)(q0 q1 q2:Int)(x:Val)(Ac:OA)(cc:Nat)(Ar:OA)(cr:Nat)(γ:Nat)(w':World):Prop:=γ≤4∧(γ≤3→∃ y,Blk w' w.heap.size 29 #[.I x.kind,.string x.s,.I x.dn,.I x.ds,.I x.n,.slice Ac x.cols.length cc,y])∧(γ≤2→OvD w q0 q1 q2 x Ac cc Ar cr w')
def Og(w:World)(q0 q1 q2:Int)(x:Val)(Ac:OA)(cc:Nat)(Ar:OA)(cr:Nat):Nat→List Value→Nat→World→Prop
  |0,[v],_,_=>v=.pointer (some ⟨w.heap.size,6,none⟩)
  |1,[v],_,_=>v=.slice Ar x.rows.length cr
  |2,[v],_,_=>v=.pointer (some ⟨w.heap.size,5,none⟩)
  |3,[v],_,_=>v=.slice Ac x.cols.length cc
  |4,[v],_,_=>v=.I (x.cols.length:Int)
  |5,[v],γ,w'=>∃ g:Nat,v=.slice (some ⟨g,0,none⟩) x.cols.length x.cols.length∧1≤γ∧(γ=1→RRpush w' (w.heap.size+3) (fun b=>ob Ac=some b) 1 Ar cr x.rows (some ⟨g,0,none⟩) x.cols.length (List.replicate x.cols.length Val.zero))
  |6,[v],γ,w'=>∃ g g':Nat,v=.slice (some ⟨g,0,none⟩) 1 1∧2≤γ∧(γ=2→Blk w' g 47 #[.slice (some ⟨g',0,none⟩) x.cols.length x.cols.length]∧RRpush w' (w.heap.size+3) (fun b=>ob Ac=some b) 1 Ar cr x.rows (some ⟨g',0,none⟩) x.cols.length (List.replicate x.cols.length Val.zero))
  |7,[v],γ,w'=>∃ (A4:OA) (c4:Nat),v=.slice A4 (x.rows.length+1) c4∧3≤γ∧(γ=3→OvE w q0 q1 q2 { x with rows:=x.rows++[(List.replicate x.cols.length Val.zero)] } Ac cc A4 c4 w')
  |8,[v],_,_=>v=.pointer (some ⟨w.heap.size,6,none⟩)
  |9,[_],γ,w'=>4≤γ∧(γ=4→∃ (A4:OA) (c4:Nat),OvD w q0 q1 q2 { x with rows:=x.rows++[(List.replicate x.cols.length Val.zero)] } Ac cc A4 c4 w')
  |_,_,_,_=>True
theorem NE(w:World)(q0 q1 q2:Int)(x:Val)(Ac:OA)(cc:Nat)(Ar:OA)(cr:Nat):∀ i l' γ v γ' v',SR (MN w q0 q1 q2 x Ac cc Ar cr) γ v γ' v'→Og w q0 q1 q2 x Ac cc Ar cr i l' γ v→Og w q0 q1 q2 x Ac cc Ar cr i l' γ' v':=by
  intro i l' γ v γ' v' r h
  have hle:=r.le
  unfold Og at h⊢
  exact Ik
def P1:Nat→List Nat:=fun i=>[i]
def Pm:List Nat:=[100,3,100,4,100,1,2,3,100,4]

theorem Ig(h:qP:=by
  rintro v γ wx γ' wy rr ⟨g,h1,h2,h3⟩
  exact ⟨g,h1,h2,h3.keep (rr.keptS (S:=fun b=>b=g) fun b _ e m hm=>by have:=HG.o;rcases hm with ⟨_,h⟩ | ⟨_,h⟩;(have:=HAL.o b h;omega);omega)⟩):qP:=h
theorem IM(h:qP:=by
  rcases hm with ⟨rfl,h⟩|⟨rfl,h⟩
  · rw [h4,rr.done _ h4]
  · rw [h5,rr.done _ h5]):qP:=h
theorem JD(h:qP:=by
  go_wp2_with fail
  go_meet
  case rel=>exact HM.o.fin (by omega) HCL.o HRL.o HRR.o):qP:=h
theorem Jv(h:qP:=by
  have hqj:¬(0:Int)<rl:=by omega
  exact JD):qP:=h
theorem Gc(h:qP:=by
  have hqk:¬(0:Int)<x.rows.length:=by omega
  exact JD):qP:=h
theorem FW(h:qP:=by
  refine LinStep.yes fun vals γ w' ρ hR hN hp hρ hc hf hg=>⟨rfl,?_⟩
  have hi:=hR.inv ⟨by omega,fun _=>⟨_,HM.o.box.keep (Kept.drew _ _)⟩,fun _=>HM.o.more (Ext.refl _).drew⟩
  have e2:ρ (.tmp 2)=.pointer (some ⟨w.heap.size,0,none⟩):=hρ 2
  exact Uf):qP:=h
theorem Bx(h:qP:=by show x.s.size≤4294967296;omega):qP:=h
theorem Da(h:qP:=by rw [←HRL0.o];exact hj0):qP:=h
theorem Ou(x:Val)(A B:OA)(c e:Nat)(q0 q1 q2:Int)(w:World)(S:NP)(h:RV w S 1 x A B)(hrx:BC x=true) :
    Cl 18 #[(Vq x A c B e),.agg #[.I q0,.I q1,.I q2]] w (fun e' w'=>∃ y,HuA w (BO w) 1 y e' w'):=by
  obtain ⟨hs1,hs2,hs3⟩:=O1 hrx
  obtain ⟨HS,HC8,HR100,HCL,HRL⟩:=Hd5 hs1 hs2 hs3 (show x.cols.length≤4294967296 by omega) (show x.rows.length≤4294967296 by omega)
  clear hs1 hs2 hs3
  have HRR:=Hd h.rows_.lens
  have H:=Hd h
  obtain ⟨hb1,hb2⟩:=BzA q0 10 AA
  obtain ⟨W0,hW0⟩:=eqx (((w.alloc (.cells (Vp x A c B e) 29)).alloc (.cells #[.I q0,.I q1,.I q2] 50)).alloc (.cells Vz 29))
  have HX0:=Hd (show Ext w W0 by rw [hW0];exact (exbb w).alloc _)
  obtain ⟨g2,hg2⟩:=eqx w.heap.size
  obtain ⟨g3,hg3⟩:=eqx (w.heap.size+1)
  obtain ⟨g4,hg4⟩:=eqx (w.heap.size+2)
  obtain ⟨HB0,HB1,HB2,HSZ,HW0,HG,HG2,HG3⟩:=Hd8 (show Blk W0 g2 29 (Vp x A c B e) by rw [hW0,hg2];exact (Blk.new _ _ _).keep ((exbb _).kept _)) (show Blk W0 g3 50 #[.I q0,.I q1,.I q2] by rw [hW0,hg3];exact (H6A _ _ _ _).keep ((exaa _).kept _)) (show Blk W0 g4 29 Vz by rw [hW0,hg4];exact ICA _ _ _ _ _) (show W0.heap.size=w.heap.size+3 by rw [hW0];simp) hW0 (show g2=w.heap.size∧g3=w.heap.size+1∧g4=w.heap.size+2 from ⟨hg2,hg3,hg4⟩) hg2 hg3
  have HG4:=Hd hg4
  clear hW0 hg2 hg3 hg4 h hrx
  go_enter func18,ntmps18
  go_upto_region 1 with fail
  rw [←HW0.o,←HG4.o,←HG3.o,←HG2.o]
  refine wp_region_lit ?_
  refine AJ rfl 29 _ rfl g2 rfl HB0.o Iq GA ?_
  go_wp2_with fail
  refine (Mn 1 x A B c e W0 S (H.o.keep (HX0.o.kept S))).mono ?_
  rintro e1 w1 ⟨Ac,cc,Ar,cr,rfl,hoc,hor,hsep,hx1⟩
  rw [HSZ.o] at hoc hor
  rename_i K1 hK1 K2 hK2
  refine hK2 _ _ ?_
  refine AM rfl 29 _ _ rfl g2 (Vp x Ac cc Ar cr) rfl rfl 29 _ (HB0.o.keep (hx1.kept _)) GA rfl AD ?_
  intro w2 hb2' ho2
  refine hK1 _ _ ?_
  have HM:=Hd (show OvD w q0 q1 q2 x Ac cc Ar cr w2 by
    obtain ⟨e2,e3,e4⟩:=HG.o
    rw [e2] at hb2' ho2
    rw [e3] at HB1
    rw [e4] at HB2
    exact ⟨(HX0.o.trans hx1).only ho2 AA,hb2',(HB1.o.keep (hx1.kept _)).keep (ho2.kept fun b _ e=>AA),(HB2.o.keep (hx1.kept _)).keep (ho2.kept fun b _ e=>AA),⟨ho2.own hoc.1 AA,hoc.2⟩,hor.keep (ho2.kept fun b _ e=>AA) (fun b hb hb'=>hsep b hb' hb),hsep⟩)
  clear hK1 hK2 hoc hor hsep hx1 hb2' ho2 HB0 HB1 HB2 HX0 HSZ HW0
  go_frame
  go_upto_region 2 with fail
  have k0:w2.cell? ⟨g3,0,none⟩=some (.I q0):=by rw [HG3.o];exact HM.o.qb.q0
  have HK1:=Hd (show w2.cell? ⟨g3,1,none⟩=some (.I q1) by rw [HG3.o];exact HM.o.qb.q1)
  have HK2:=Hd (show w2.cell? ⟨g3,2,none⟩=some (.I q2) by rw [HG3.o];exact HM.o.qb.q2)
  obtain ⟨u,hu⟩:=eqx ((q0.tmod 10+10) % 10)
  go_upto_block 0 with fail
  rw [←hu]
  have hu10:u=0∨u=1∨u=2∨u=3∨u=4∨u=5∨u=6∨u=7∨u=8∨u=9:=AA
  obtain ⟨hc1,hc2⟩:=BzA q1 8 AA
  clear hu hb1 hb2 k0
  go_cut [] (fun wx=>OvJ w wx)
  case first =>
    have hs:=HS.o
    have k1:=HK1.o
    have k2:=HK2.o
    have HBX:=Hd (show Blk w2 g2 29 (Vp x Ac cc Ar cr) by rw [HG2.o];exact HM.o.box)
    obtain ⟨b0,b1,b2,b3,b4,b5,b6⟩:=HBX.o.qs7
    have bf:=HBX.o.frozen
    have bl:=HBX.o.lt
    have HFL:=Hd (fun (y:Val) (wx:World) (ho:Only g2 w2 wx) (hb:Blk wx g2 29 (Vp y Ac cc Ar cr)) (hc:y.cols=x.cols) (hr:y.rows=x.rows) (hs:y.s.size≤4294967296)=>HM.o.flat (y:=y) (by rw [←HG2.o];exact ho) (by rw [←HG2.o];exact hb) hc hr hs HCL.o HRL.o HRR.o)
    rcases hu10 with rfl|rfl|rfl|rfl|rfl|rfl|rfl|rfl|rfl|rfl
    · go_wp2_with fail
      go_meet
      case rel=>exact HFL.o { x with kind:=q1.tmod 8-1 } _ ((Only.refl g2 w2).set 0 (.I (q1.tmod 8-1))) (by have:=(HBX.o.set 0 (.I (q1.tmod 8-1)));simpa [Vp] using this) rfl rfl Bx
    · have hcv:=run_convert_bytes_arg (P:=prog) (w2.alloc (.cells #[.int .u8 (q1 % 256)] 5)) 85 5 underlying85 underlying5 w2.heap.size 0 1 1 [q1 % 256] rfl (fun i hi=>by
        have:i=0:=AA
        subst this
        exact (Blk.new w2 5 #[.int .u8 (q1 % 256)]).cell rfl) 9 underlying9
      obtain ⟨b1,hb1⟩:=eqx (strOfNums [q1 % 256])
      have hbs:b1.size=1:=by rw [hb1];rfl
      rw [←hb1] at hcv
      clear hb1
      have hbb:¬(9223372036854775807:Int)<((x.s.size+b1.size:Nat):Int):=AA
      go_wp2
      clear hcv
      go_meet
      case rel=>exact (HFL.o { x with s:=x.s++b1 } _ ((Only.refl g2 w2).set 1 (.string (x.s++b1))) (by have:=(HBX.o.set 1 (.string (x.s++b1)));simpa [Vp] using this) rfl rfl (by show (x.s++b1).size≤4294967296;rw [ByteArray.size_append];omega)).more (exaa _)
    · go_wp2_with fail
      go_meet
      case rel=>exact HFL.o { x with dn:=q1,ds:=q2.tmod 8 } _ (((Only.refl g2 w2).set 2 (.I q1)).set 3 (.I (q2.tmod 8))) (by have:=((HBX.o.set 2 (.I q1)).set 3 (.I (q2.tmod 8)));simpa [Vp] using this) rfl rfl Bx
    · go_wp2_with fail
      go_meet
      case rel=>exact HFL.o { x with n:=q1 } _ ((Only.refl g2 w2).set 4 (.I q1)) (by have:=(HBX.o.set 4 (.I q1));simpa [Vp] using this) rfl rfl Bx
    · obtain ⟨hd1,hd2⟩:=BzA q1 5 AA
      obtain ⟨kk,hkk⟩:∃ k:Nat,(q1.tmod 5+5) % 5=(k:Int):=⟨((q1.tmod 5+5) % 5).toNat,AA⟩
      have hkk5:kk<5:=AA
      have hwr:IntKind.i64.wrap (q1.tmod 5+5)=q1.tmod 5+5:=IntWalk.i64_in _ ⟨AA,AA⟩
      have htm:(q1.tmod 5+5).tmod 5=(kk:Int):=by rw [Int.tmod_eq_emod_of_nonneg AA];exact hkk
      have hki:(kk:Int)<5:=AA
      obtain ⟨st,hst,hsz⟩:=PG kk hkk5
      have HST:=Hd hst
      have hw2:w.heap.size+3≤w2.heap.size:=by have:=HM.o.res.lt;omega
      have HAL:=Hd (show ∀ b,ob Ac=some b→w.heap.size+3≤b∧b<w2.heap.size from fun b hb=>HM.o.cols.1.blk hb)
      have C5:=Hd b5
      clear b0 b1 b2 b3 b4 b5 b6 bf bl k1 k2 hst
      go_upto_region 12 with fail
      refine Qa (fun m b=>(m=1008∧ob Ac=some b)∨(m=1010∧b=g2)) [(0,[1010]),(1,[1008,1010]),(2,[1010]),(3,[1010]),(4,[1010]),(5,[1010]),(6,[1010]),(7,[1010]),(8,[1010]),(9,[1010]),(10,[1008,1010]),(11,[1008,1010]),(12,[1010]),(13,[1010])] ?_
      iterate 2 refine Qp ?_
      refine Qs (FP fun v γ w'=>OvS w2 v w') (H1A ?_) ?_ ?_
      · exact Ig
      · exact JB
      refine Qp ?_
      refine Qm (fun vals γ w' ρ hR hN hp hρ zs zg=>by
        have hkq:=hR.o.kept0 (S:=fun b=>b=g3) fun b _ e m hm=>by
          exfalso
          have:=HG.o
          rcases hm with ⟨_,h⟩|⟨_,h⟩
          · have:=HAL.o b h;omega
          · omega
        have m1:=Kept.cell hkq rfl HK1.o
        clear hkq
        exact Qk) ?_
      iterate 3 refine Qp ?_
      refine Qs (FP fun v γ w'=>OvP w2 kk v w') (H1A ?_) ?_ ?_
      · exact Ig
      · intro vals γ w' ρ hR hN hp hρ zs zg
        obtain ⟨g,hv,hgl,hb⟩:=hp.o 2 AB
        have e49:=(hρ.o 49).trans hv
        have HB:=Hd hb
        have HGL:=Hd hgl
        clear hv hb hgl
        refine Qr ?_
        exact ⟨γ,LZ.refl _ _ _,fun _ _ _ h=>h,_,rfl,HGL.o,HB.o⟩
      refine Qs (FP fun v γ w'=>OvT v) (H1A fun _ _ _ _ _ _ h=>h) ?_ ?_
      · intro vals γ w' ρ hR hN hp hρ zs zg
        obtain ⟨g,hv,hgl,hb⟩:=hp.o 8 AB
        have e55:=(hρ.o 55).trans hv
        have m1:=hb.cell HST.o
        clear hv hb hgl
        refine Qr ?_
        exact ⟨γ,LZ.refl _ _ _,fun _ _ _ h=>h,_,rfl,hsz⟩
      refine Qs (FP fun v γ w'=>OvN w2 v w') (H1A ?_) ?_ ?_
      · rintro v γ wx γ' wy rr ⟨g,s,h1,h2,h3,h4⟩
        exact ⟨g,s,h1,h2,h3,h4.keep (rr.keptS (S:=fun b=>b=g) fun b _ e m hm=>by have:=HG.o;rcases hm with ⟨_,h⟩|⟨_,h⟩;(have:=HAL.o b h;omega);omega)⟩
      · intro vals γ w' ρ hR hN hp hρ zs zg
        obtain ⟨s,hv,hs9⟩:=hp.o 9 AB
        have e56:=(hρ.o 56).trans hv
        clear hv
        have HR:=hR
        refine Qr ?_
        exact ⟨γ,H4A _ γ (exaa _),fun _ _ _ h=>h,_,s,rfl,HR.o.size,hs9,Blk.new _ _ _⟩
      refine Chain.step (FP fun v γ w'=>OvA (w.heap.size+3) x.cols v γ w') AG (H1A ?_) ?_ ?_
      · rintro v γ wx γ' wy rr ⟨A9,c9,s,h1,h2,h3,h4⟩
        refine ⟨A9,c9,s,h1,h2,rr.done _ h3,⟨Own.keep h4.1 (rr.keptS fun b _ hb m hm => ?_),h4.2⟩⟩
        rcases hm with ⟨rfl,h⟩|⟨rfl,h⟩
        · rw [h3,rr.done _ h3]
        · exfalso;have:=(h4.1.blk hb).1;have:=HG.o;omega
      · intro vals γ w' ρ hR hN hp hρ hc hf hg
        refine ⟨rfl,?_⟩
        have hk8:=hN.key (k:=1008) AB
        have e48:ρ (.tmp 48)=_:=(hρ 48).trans (hp 1 AB)
        obtain ⟨g,s,hv,hgl,hs9,hb⟩:=hp 10 AB
        have e57:=(hρ 57).trans hv
        have hoo:=Own.keep HM.o.cols.1 (hR.kept0 (S:=fun b=>ob Ac=some b) fun b _ hb m hm=>by
          rcases hm with ⟨rfl,h⟩|⟨rfl,h⟩
          · exact hk8
          · exfalso;have:=HAL.o b hb;have:=HG.o;omega)
        have hsz2:=hR.size
        have e0:w2.drew.heap.size=w2.heap.size:=rfl
        have hc8:=HC8.o
        refine Cw (.tmp 48) (.tmp 57) rfl tiS e48 hoo e57 (Blk.rd hb) rfl AP AA AB AA ?_
        intro A9 c9 w9' hown9 hg9 hat9
        refine ⟨γ.put 1008,H2A hk8 hg9.os hg9.tape hg9.output hg9.size (fun b hb hm=>hg9.block b hb fun e=>hm (.inl ⟨rfl,e.symm⟩)),LK.done AB,A9,c9,s,rfl,hs9,AU,⟨?_,fun s' hs' => ?_⟩⟩
        · rw [List.length_append,List.map_append]
          exact hown9
        · rcases List.mem_append.1 hs' with hs'|hs'
          · exact HM.o.cols.2 s' hs'
          · rw [List.mem_singleton.1 hs'];omega
      refine Qp ?_
      refine Chain.step (fun _ γ w'=>OvF (w.heap.size+3) g2 x (.slice Ar x.rows.length cr) γ w') AG ?_ ?_ ?_
      · rintro l γ wx γ' wy rr ⟨A9,c9,s,h1,h2,h3,h4,h5⟩
        refine ⟨A9,c9,s,h1,h2.keep (rr.keptS (S:=fun b=>b=g2) fun b _ e m hm => ?_),⟨Own.keep h3.1 (rr.keptS fun b _ hb m hm => ?_),h3.2⟩,rr.done _ h4,rr.done _ h5⟩
        · exact IM
        · exact IM
      · intro vals γ w' ρ hR hN hp hρ hc hf hg
        refine ⟨rfl,?_⟩
        obtain ⟨A9,c9,s,hv,hs9,hk8,hoo⟩:=hp 11 AB
        have e58:=(hρ 58).trans hv
        have e59:ρ (.tmp 59)=_:=(hρ 59).trans (hp 12 AB)
        have hk10:=hN.key (k:=1010) AB
        have HB0:=Hd (HBX.o.keep (hR.kept0 (S:=fun b=>b=g2) fun b _ e m hm=>by
          rcases hm with ⟨rfl,h⟩|⟨rfl,h⟩
          · exfalso;have:=HAL.o b h;have:=HG.o;omega
          · exact hk10))
        have HK:=Hd hk10
        have HO:=Hd hoo
        have q5:=HB0.o.q5
        have qf:=HB0.o.frozen
        have ql:=HB0.o.lt
        clear hR hN hp hρ hv hk10 hoo
        go_light
        go_simp
        have hon:=(Only.refl g2 w').set 5 (.slice A9 (x.cols.length+1) c9)
        refine ⟨γ.put 1010,H2A HK.o rfl rfl rfl Y78171d3d0 (fun b hb hm=>hon.block b fun e=>hm (.inr ⟨rfl,e⟩)),LK.done AB,A9,c9,s,hs9,?_,⟨hon.own HO.o.1 (by have:=HG.o;omega),HO.o.2⟩,?_,AU⟩
        · have hb1:=HB0.o.set 5 (.slice A9 (x.cols.length+1) c9)
          simpa [Vp] using hb1
        · simp [Gz.put,hk8]
      intro vals γ w9 hR hG
      refine Qx ?_
      obtain ⟨A9,c9,s,hs9,hb9,ho9,-,-⟩:=hG 13 AB
      have HJ:=Hd (show OvJ w w9 by
        have hx9:Ext w w9:=Au HM.o.ext (hR.buts (S:=fun b=>ob Ac=some b∨b=g2) (fun m b _ hm _=>hm.imp And.right And.right)) (fun b hb=>by have:=HG.o;rcases hb with hb|hb;(have:=HAL.o b hb;omega);omega)
        have hrw:=(HM.o.rows.keep (hR.kept0 fun b _ hb m hm=>by have:=HG.o;rcases hm with ⟨_,h⟩|⟨_,h⟩;exact absurd h hb.2;omega) (fun b hb hb'=>HM.o.sep b hb' hb)).rows HRL.o HRR.o
        have hc8:=HC8.o
        refine ⟨{ x with cols:=x.cols++[s] },A9,c9,Ar,cr,?_,HM.o.res.keep (hR.kept0 (S:=fun b=>b=w.heap.size+2) fun b _ e m hm=>by have:=HG.o;rcases hm with ⟨_,h⟩|⟨_,h⟩;(have:=HAL.o b h;omega);omega),⟨ho9.1.cap,HM.o.rows.cap⟩,RV.mk Bx (ho9.strs (by show (x.cols++[s]).length≤4294967296;rw [List.length_append];simp;omega) fun b hb=>(ho9.1.blk hb).1) hrw,hx9⟩
        rw [HG2.o] at hb9
        simpa [Vp] using hb9)
      clear hR hG hb9 ho9
      go_wp2
      go_meet
      case rel=>exact HJ.o
    · have hw2:w.heap.size+3≤w2.heap.size:=by have:=HM.o.res.lt;omega
      have hrl:=HRL.o
      obtain ⟨hs',hown,huse⟩:=(P7 HM.o.rows (fun b hb=>(HM.o.cols.1.blk hb).2) (OwnVs.nil (w2.alloc (.cells #[.slice none 0 0] 47)) w2.heap.size (fun b=>w2.heap.size≤b) 1) ((Ext.refl w2).alloc (.cells #[.slice none 0 0] 47))).use
      have HOWN:=Hd hown
      have HUSE:=Hd huse
      clear hown huse
      go_wp2_with (at_builtin;go_must (refine AL rfl (.tmp 63) (.tmp 64) rfl tiR rfl HOWN.o rfl (Blk.rd (Blk.new _ _ _)) rfl AP AA AB AI ?_);intro A9 c9 w9 hown9 hg9 hat9;have hE:=(HM.o.more ((Ext.refl w2).alloc (.cells #[.slice none 0 0] 47))).appR hg9 (HUSE.o w9 A9 c9 hown9 hg9 hat9) hat9;have HE:=Hd hE;obtain ⟨y6,hy6⟩:=hE.box;rw [←HG2.o] at hy6;have s6:=hy6.q6;have sf:=hy6.frozen;have sl:=hy6.lt;clear hE)
      go_meet
      case rel =>
        have h1:=HE.o.store
        rw [←HG2.o] at h1
        refine OvD.fin (x:={ x with rows:=x.rows++[[]] }) CE Bx HCL.o (by show (x.rows++[[]]).length≤4294967296;rw [List.length_append];have:=HR100.o;simp;omega) (fun r hr=>by rcases List.mem_append.1 hr with hr|hr;exact HRR.o r hr;rw [List.mem_singleton.1 hr];exact AN)
    · by_cases hk0:0<x.rows.length
      · obtain ⟨hs',B0,e0,X0,hown,hs0,hov,hX0,hB0,hfin⟩:=HM.o.rows.at_ hk0 HRL.o HRR.o
        obtain ⟨gA,curA,rfl,hblA,hgA⟩:=hown.blk0 hk0
        have HHD:=Hd (show w2.cell? ⟨gA,0,none⟩=some (.slice B0 x.rows[0].length e0) from hown.cell_ hs0)
        have hr0:(x.rows[0].length:Int)≤4294967296:=by have:=HRR.o _ (List.getElem_mem hk0);omega
        have hqk:(0:Int)<x.rows.length:=AA
        have a0:=HHD.o
        obtain ⟨HOV,HX0',HFIN⟩:=Hd3 hov hX0 hfin
        obtain ⟨rl,hrl⟩:=eqx (x.rows[0].length)
        rw [←hrl] at a0 hr0
        have HRL0:=Hd hrl
        clear hov hX0 hfin hown hs0 hB0 hblA hrl
        by_cases hj0:0<rl
        · have hqj:(0:Int)<rl:=AA
          obtain ⟨ys,hys,-⟩:=HOV.o
          obtain ⟨gB,curB,rfl,hblB,hgB⟩:=hys.blk0 Da
          have HBB:=Hd hblB
          clear hys hblB
          have hj1:0<x.rows[0].length:=Da
          have hl1:x.rows[0].length≤4294967296:=HRR.o _ (List.getElem_mem hk0)
          obtain ⟨HSC,HTH,HPUT⟩:=Hd3 (HM.o.cols.1.apart HBB.o AB) (HOV.o.there hj1 hl1 HBB.o.frozen) (HOV.o.put0 hj1 hl1 (fun b hb=>(HX0'.out b hb).1) 5 0)
          go_upto_region 17 with fail
          go_wp2_with (refine wpList_store_mid rfl 29 _ _ rfl gB 0 #[.I 5,.string ⟨#[]⟩,.I 0,.I 0,.I 0,.slice none 0 0,.slice none 0 0] rfl rfl HTH.o GA AD ?_)
          go_meet
          case rel =>
            exact HM.o.cellR AA HCL.o hk0 hgB HSC.o HFIN.o AC HPUT.o.1 HPUT.o.2 (Ext.setCells AA _ _ HM.o.ext)
        · exact Jv
      · exact Gc
    · by_cases hk0:0<x.rows.length
      · obtain ⟨hs',B0,e0,X0,hown,hs0,hov,hX0,hB0,hfin⟩:=HM.o.rows.at_ hk0 HRL.o HRR.o
        obtain ⟨gA,curA,rfl,hblA,hgA⟩:=hown.blk0 hk0
        have HHD:=Hd (show w2.cell? ⟨gA,0,none⟩=some (.slice B0 x.rows[0].length e0) from hown.cell_ hs0)
        have hr0:(x.rows[0].length:Int)≤4294967296:=by have:=HRR.o _ (List.getElem_mem hk0);omega
        have hqk:(0:Int)<x.rows.length:=AA
        have a0:=HHD.o
        obtain ⟨HOV,HX0',HFIN⟩:=Hd3 hov hX0 hfin
        obtain ⟨rl,hrl⟩:=eqx (x.rows[0].length)
        rw [←hrl] at a0 hr0
        have HRL0:=Hd hrl
        clear hov hX0 hfin hown hs0 hB0 hblA hrl
        by_cases hj0:0<rl
        · have hqj:(0:Int)<rl:=AA
          obtain ⟨ys,hys,-⟩:=HOV.o
          obtain ⟨gB,curB,rfl,hblB,hgB⟩:=hys.blk0 Da
          have HBB:=Hd hblB
          clear hys hblB
          have hj1:0<x.rows[0].length:=Da
          have hl1:x.rows[0].length≤4294967296:=HRR.o _ (List.getElem_mem hk0)
          have HSC:=Hd (HM.o.cols.1.apart HBB.o AB)
          have A0:=HHD
          rw [←HRL0.o] at A0
          have C6:=Hd b6
          go_upto_region 20 with fail
          clear a0 b0 b1 b2 b3 b4 b5 b6 bf bl k1 k2
          refine Qa (fun m b=>m=1010∧b=gB) (lk 10 [1010]) ?_
          iterate 9 refine Qp ?_
          refine Chain.step (fun _ γ w'=>Row w' (fun b=>w.heap.size+3≤b) 1 (some ⟨gB,0,none⟩) (x.rows[0].set 0 (Val.mk 4 ⟨#[]⟩ 0 0 (q1.tmod 3) [] []))∧γ 1010=true) AG ?_ ?_ ?_
          · rintro l γ wx γ' wy rr ⟨h1,h2⟩
            exact ⟨h1.keep (rr.keptS fun b _ hb m hm=>by rw [hm.1,h2,rr.done _ h2]),rr.done _ h2⟩
          · intro vals γ w' ρ hR hN hp hρ hc hf hg
            refine ⟨rfl,?_⟩
            have hk:=hN.key (k:=1010) AB
            have hkp:=hR.kept0 (S:=fun _=>True) fun b _ _ m hm=>by rw [hm.1];exact hk
            have hov:=HOV.o.keep (hkp.mono fun _ _ _=>trivial)
            have hput:=hov.put0 hj1 hl1 (fun b hb=>(HX0'.out b hb).1) 4 (q1.tmod 3)
            have e109:ρ (.tmp 109)=_:=(hρ 109).trans (hp 8 AB)
            have e108:ρ (.tmp 108)=_:=(hρ 108).trans (hp 7 AB)
            refine Kz 29 rfl e109 e108 (hov.there hj1 hl1 (HBB.o.keep (hkp.mono fun _ _ _=>trivial)).frozen) GA AD ?_
            obtain ⟨z1,z2,z3,z4⟩:=EC gB [.I 4,.string ⟨#[]⟩,.I 0,.I 0,.I (q1.tmod 3),.slice none 0 0,.slice none 0 0] 0 w'
            exact ⟨γ.put 1010,H2A hk z1 z2 z3 z4 (fun b hb hm=>hput.2.2 b (fun e=>hm ⟨rfl,e⟩) hb),LK.done AB,hput.1,AU⟩
          intro vals γ w9 hR hG
          refine Qx ?_
          obtain ⟨hrow,-⟩:=hG 9 AB
          obtain ⟨HROW,HK9,HX9⟩:=Hd3 hrow (hR.kept0 (S:=fun b=>b≠gB) fun b _ hb m hm=>absurd hm.2 hb) (show Ext w w9 from Au HM.o.ext (hR.buts (S:=fun b=>b=gB) (fun m b _ hm _=>hm.2)) (fun b hb=>AA))
          clear hR hG hrow
          go_wp2
          go_meet
          case rel=>exact HM.o.cellR AA HCL.o hk0 hgB HSC.o HFIN.o AC HROW.o HK9.o HX9.o
        · exact Jv
      · exact Gc
    · go_wp2_with fail
      go_meet
      case rel=>exact HFL.o { x with s:=x.s++⟨#[39]⟩ } _ ((Only.refl g2 w2).set 1 (.string (x.s++⟨#[39]⟩))) (by have:=(HBX.o.set 1 (.string (x.s++⟨#[39]⟩)));simpa [Vp] using this) rfl rfl (by show (x.s++(⟨#[39]⟩:BA)).size≤4294967296;rw [ByteArray.size_append];have h1:(⟨#[39]⟩:BA).size=1:=rfl;omega)
    · obtain ⟨N,hN⟩:∃ N:Nat,(q1.tmod 4+4) % 4=(N:Int):=⟨((q1.tmod 4+4) % 4).toNat,by have:=BzA q1 4 AA;omega⟩
      have hN4:N<4:=AA
      have HNN:=Hd hN
      obtain ⟨hd1,hd2⟩:=BzA q1 4 AA
      obtain ⟨x0,hx0⟩:=eqx x
      have hg:=HG2.o
      subst hg
      have hr100:=HR100.o
      have hc8:=HC8.o
      have hrr:=HRR.o
      have hm:=HM.o
      rw [←hx0] at hr100 hc8 hs hrr hm
      have HRR0:=Hd hrr
      have HM0:=Hd hm
      clear b0 b1 b2 b3 b4 b5 b6 bf bl k1 k2 hx0 hrr hm HFL
      go_wp2
      go_loopw [5] (fun i wr=>∃ (k:Nat) (y:Val) (Ar:OA) (cr:Nat),k≤98+N∧i=.I k∧y.rows.length=x0.rows.length+k∧(∀ r∈y.rows,r.length≤4294967296)∧y.s.size≤200∧y.cols.length≤8∧OvD w q0 q1 q2 y Ac cc Ar cr wr) (fun i _=>98+N-(intOf i).toNat)
      case atStart=>exact ⟨0,x0,Ar,cr,AN,rfl,rfl,HRR0.o,hs,hc8,HM0.o⟩
      case round =>
        clear HM HM0 HRR0
        obtain ⟨k,x,Ar,cr,hk,rfl,hrl,hr4,hss,hcl,hm0⟩:=hrel
        obtain ⟨HM,HR4,HRL2⟩:=Hd3 hm0 hr4 hrl
        have hrl2:x.rows.length≤202:=AA
        have g1:wr.cell? ⟨g3,1,none⟩=some (.I q1):=by rw [HG3.o];exact hm0.qb.q1
        have hlt:(k:Int)<98+(q1.tmod 4+4) % 4∨k=98+N:=AA
        clear hm0 hr4 hrl
        by_cases hl:k<98+N
        · have hq:(k:Int)<98+(q1.tmod 4+4) % 4:=AA
          clear hlt
          go_upto_region 27 with fail
          clear g1
          refine BZ AD P1 AD (SR (MN w q0 q1 q2 x Ac cc Ar cr)) (SR.refl _) (SR.trans _) (SN Pm) (Og w q0 q1 q2 x Ac cc Ar cr) (NE _ _ _ _ _ _ _ _ _) 0 (SN.zero AB) ⟨?_,?_,?_,?_,?_,?_,?_,?_,?_,?_,trivial⟩ ?_
          · exact FW
          · refine LinStep.yes fun vals γ w' ρ hR hN hp hρ hc hf hg=>⟨rfl,?_⟩
            have hi:=hR.inv ⟨AA,fun _=>⟨_,HM.o.box.keep (Kept.drew _ _)⟩,fun _=>HM.o.more (Ext.refl _).drew⟩
            have e128:ρ (.tmp 128)=_:=(hρ 128).trans (hp 0 AB)
            have hb:=(hi.2.2 Bc).box
            exact IX
          · exact FW
          · refine LinStep.yes fun vals γ w' ρ hR hN hp hρ hc hf hg=>⟨rfl,?_⟩
            have hi:=hR.inv ⟨AA,fun _=>⟨_,HM.o.box.keep (Kept.drew _ _)⟩,fun _=>HM.o.more (Ext.refl _).drew⟩
            have e130:ρ (.tmp 130)=_:=(hρ 130).trans (hp 2 AB)
            obtain ⟨y,hb⟩:=hi.2.1 Db
            exact JP
          · refine LinStep.yes fun vals γ w' ρ hR hN hp hρ hc hf hg=>⟨rfl,?_⟩
            have hi:=hR.inv ⟨AA,fun _=>⟨_,HM.o.box.keep (Kept.drew _ _)⟩,fun _=>HM.o.more (Ext.refl _).drew⟩
            have e131:ρ (.tmp 131)=_:=(hρ 131).trans (hp 3 AB)
            exact Uf
          · refine LinStep.yes fun vals γ w' ρ hR hN hp hρ hc hf hg=>⟨rfl,?_⟩
            have hi:=hR.inv ⟨AA,fun _=>⟨_,HM.o.box.keep (Kept.drew _ _)⟩,fun _=>HM.o.more (Ext.refl _).drew⟩
            have e132:ρ (.tmp 132)=_:=(hρ 132).trans (hp 4 AB)
            have h0:γ=0:=by have h:γ<1:=hN;omega
            subst h0
            have HI:=Hd (hi.2.2 AA)
            have hmk:=Ow x.cols.length AA
            clear hR hN hp hρ hi
            go_light
            go_simp
            have hx1:Ext w' (w'.alloc (.cells (Be x.cols.length) 29)):=(Ext.refl _).alloc _
            have hod:=HI.o.more hx1
            exact ⟨1,SR.up AA ⟨AA,fun _=>⟨_,hod.box⟩,fun _=>hod⟩,SN.up AA AB rfl,_,rfl,AA,fun _=>P7 HI.o.rows (fun b hb=>(HI.o.cols.1.blk hb).2) (OwnVs.zeros w' x.cols.length 1 AB AA) hx1⟩
          · refine LinStep.yes fun vals γ w' ρ hR hN hp hρ hc hf hg=>⟨rfl,?_⟩
            have hi:=hR.inv ⟨AA,fun _=>⟨_,HM.o.box.keep (Kept.drew _ _)⟩,fun _=>HM.o.more (Ext.refl _).drew⟩
            obtain ⟨g',g5,hr1,hpu⟩:=hp 5 AB
            have e133:ρ (.tmp 133)=_:=(hρ 133).trans g5
            have h0:γ=1:=Dm
            subst h0
            have HI:=Hd (hi.2.2 AA)
            have HPU:=Hd (hpu rfl)
            clear hR hN hp hρ hi g5 hpu
            go_light
            go_simp
            have hx1:Ext w' (w'.alloc (.cells #[.slice (some ⟨g',0,none⟩) x.cols.length x.cols.length] 47)):=(Ext.refl _).alloc _
            have hod:=HI.o.more hx1
            exact ⟨2,SR.up AA ⟨AA,fun _=>⟨_,hod.box⟩,fun _=>hod⟩,SN.up AA AB rfl,_,g',rfl,AA,fun _=>⟨Blk.new _ _ _,HPU.o.ext hx1⟩⟩
          · refine LinStep.yes fun vals γ w' ρ hR hN hp hρ hc hf hg=>⟨rfl,?_⟩
            have hi:=hR.inv ⟨AA,fun _=>⟨_,HM.o.box.keep (Kept.drew _ _)⟩,fun _=>HM.o.more (Ext.refl _).drew⟩
            obtain ⟨g',g'',g6,hr2,hbk⟩:=hp 6 AB
            have e134:ρ (.tmp 134)=_:=(hρ 134).trans g6
            have e129:ρ (.tmp 129)=_:=(hρ 129).trans (hp 1 AB)
            have h0:γ=2:=Bc
            subst h0
            obtain ⟨hbk1,hbk2⟩:=hbk rfl
            have hod:=hi.2.2 AA
            obtain ⟨hs,ho1,huse⟩:=hbk2.use
            refine FNA (.tmp 129) (.tmp 134) rfl tiR e129 ho1 e134 hbk1.rd rfl AP AA AB (by have h1:=hod.res.lt;omega) ?_
            intro A4 c4 w4 hown4 hg4 hat4
            have hoda:=hod.appR hg4 (huse w4 A4 c4 (by rw [List.length_replicate];exact hown4) hg4 hat4) hat4
            exact ⟨3,SR.up AA ⟨AA,fun _=>hoda.box,fun h=>absurd h AA⟩,SN.up AA AB rfl,A4,c4,rfl,AA,fun _=>hoda⟩
          · exact FW
          · refine LinStep.yes fun vals γ w' ρ hR hN hp hρ hc hf hg=>⟨rfl,?_⟩
            have hi:=hR.inv ⟨AA,fun _=>⟨_,HM.o.box.keep (Kept.drew _ _)⟩,fun _=>HM.o.more (Ext.refl _).drew⟩
            obtain ⟨A4,c4,g7,hr3,hda⟩:=hp 7 AB
            have e135:ρ (.tmp 135)=_:=(hρ 135).trans g7
            have e136:ρ (.tmp 136)=_:=(hρ 136).trans (hp 8 AB)
            have h0:γ=3:=Db
            subst h0
            have HA:=Hd (hda rfl)
            obtain ⟨y,hy⟩:=(hda rfl).box
            have k0:=hy.q6
            have kf:=hy.frozen
            have kz:=hy.lt
            clear hR hN hp hρ hi g7 hda hy
            go_light
            go_simp
            have hs:=HA.o.store
            simp only [List.length_append,List.length_singleton] at hs
            exact ⟨4,SR.up AA ⟨AA,fun h=>absurd h AA,fun h=>absurd h AA⟩,SN.up AA AB rfl,AA,fun _=>⟨A4,c4,hs⟩⟩
          · intro vals γ w' hR hG
            have hi:=hR.inv ⟨AA,fun _=>⟨_,HM.o.box.keep (Kept.drew _ _)⟩,fun _=>HM.o.more (Ext.refl _).drew⟩
            obtain ⟨h4,h5⟩:=hG 9 AB
            obtain ⟨A4,c4,hm1⟩:=h5 (by have:=hi.1;omega)
            have HM1:=Hd hm1
            clear hR hG hi h4 h5 hm1 HM
            simp only [Ah,Act.put,List.setIfInBounds_toArray,List.set_cons_succ,List.set_cons_zero,Nat.zero_add,Nat.reduceAdd]
            generalize vals 0=u0,vals 1=u1,vals 2=u2,vals 3=u3,vals 4=u4,vals 5=u5,vals 6=u6,vals 7=u7,vals 8=u8,vals 9=u9
            go_wp2
            go_roundw
            case rel =>
              refine ⟨k+1,{ x with rows:=x.rows++[List.replicate x.cols.length Val.zero] },A4,c4,AA,AE,?_,fun r hr => ?_,hss,hcl,HM1.o⟩
              · show (x.rows++_).length=_
                rw [List.length_append,HRL2.o]
                simp
                omega
              · rcases List.mem_append.1 hr with hr|hr
                · exact HR4.o r hr
                · rw [List.mem_singleton.1 hr,List.length_replicate];omega
            case measure=>simp [intOf];omega
        · have hq:¬(k:Int)<98+(q1.tmod 4+4) % 4:=AA
          go_wp2
          go_meet
          case rel=>exact HM.o.fin AA AA AA HR4.o
  case rest =>
  obtain ⟨w9,rfl⟩:=eqx wc
  obtain ⟨y,Ay,cy,By,ey,hby,hb4,hcp,hrv,hx⟩:=hcut
  rw [←HG2.o] at hby
  rw [←HG4.o] at hb4
  have hlt:=hb4.lt
  have hge:w.heap.size≤g4:=by have:=HG4.o;omega
  go_upto_region 28 with fail
  refine wp_region_lit ?_
  refine AJ rfl 29 _ rfl g2 rfl hby Iq GA ?_
  refine AM rfl 29 _ _ rfl g4 (Vp y Ay cy By ey) rfl rfl 29 _ hb4 GA rfl AD ?_
  intro wf hbf hof
  obtain ⟨HBF,HXF,HRV,HCP⟩:=Hd4 hbf (hx.only hof hge) (hrv.move (T:=BO w) (hof.kept fun b _ hb e=>by have:=HG4.o;omega) fun b _ hb=>FS) hcp
  clear hbf hof hby hb4 hcp hrv hx
  go_wp2_with fail
  refine bodyPost_ret (Bv results18 rfl (Eq HBF.o Iq GA)) rfl ?_
  exact ⟨y,Ay,cy,By,ey,rfl,HCP.o,HRV.o,HXF.o⟩
end Go.Proofs.YtidacnalcdhckaaGreatDoor
