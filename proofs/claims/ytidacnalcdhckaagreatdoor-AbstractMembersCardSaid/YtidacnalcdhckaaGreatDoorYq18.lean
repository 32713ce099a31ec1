/- Lemmas. No conditions. -/
import Derived.Test.YtidacnalcdhckaaGreatDoorYq17
set_option maxRecDepth 100000
set_option maxHeartbeats 4000000
namespace Go.Proofs.YtidacnalcdhckaaGreatDoor
open Go Go.RowKit Tryz
variable {qP:Prop}{A D:OA}{P:Program}{Q:Exit->Act->World->Prop}{S T:NP}{a b x y:Abs}{c e g m n:Nat}{cs:Array Value}{o:Oper}{ops:Array Oper}{rest:List Oper}{w w':World}{ρ:Operand->Value}

def AbM(w:World)(S:NP)(a:Abs)(A:OA)(c:Nat)(D:OA)(e:Nat):Prop:=a.cols.length<=c/\a.deps.length<=e/\Strs w S A a.cols/\RDeps w S D a.deps
theorem AbM.keep(h:AbM w S a A c D e)(k:Kept S w w'):AbM w' S a A c D e:=⟨h.1,h.2.1,h.2.2.1.keep k,h.2.2.2.keep k⟩
theorem AbM.mono(h:AbM w S a A c D e)(k:∀ i,i<w.heap.size->S i->T i):AbM w T a A c D e:=⟨h.1,h.2.1,h.2.2.1.mono k,h.2.2.2.mono k⟩
def Eh(w:World)(S:NP)(a:Abs)(e:Ending)(w':World):Prop:=∃ A c D e',e=.returned (Aq a A c D e')/\AbM w' (λb=>S b\/w.heap.size<=b) a A c D e'/\Ext w w'
def Off(S0:NP)(w:World):Nat->Prop:=λb=>S0 b\/w.heap.size<=b
def D0A(w w0:World)(S0:NP)(g:Nat)(A':OA)(c':Nat)(D':OA)(e':Nat)(b:Bool)(r1 r:Abs)(e:Ending)(w':World):Prop :=
 e=.returned (.bool b)/\Ext w0 w'/\w.heap.size<=w'.heap.size/\(b=true->∃ A2 c2 D2 e2,Blk w' g 39 (Ap r1 A2 c2 D2 e2)/\AbM w' (Off S0 w) r1 A2 c2 D2 e2)/\(b=false->Blk w' g 39 (Ap r A' c' D' e'))
def HhA(ws:World)(l:List BA)(γ:Gz)(w':World)(v:Value):Prop:=∃ (B:OA) (e:Nat),v=.slice B l.length e/\l.length<=e/\(γ 1010=false->Strs w' (λb=>ws.heap.size<=b) B l)
theorem Kq(h:qP:=by
 go_wp2_with fail
 go_ret;exact ⟨by rw [HPT.o];rfl,HX3.o,HZ3.o,λh=>(by rw [HPT.o] at h;cases h),λ_=>HBR3.o⟩):qP:=h
theorem Pr(h:qP:=by
 have hkk:=hR.o.kept0 (S:=λb=>b≠gd) (λb _ hb m hm=>absurd hm.2 hb);have m16:=Kept.cell hkk G16.o K16.o;have mv:=Kept.cell hkk GV.o KV.o;clear hkk;exact Qk):qP:=h
theorem Qi(h:qP:=by
 exact ⟨h1.keep (rr.keptS λb _ e m hm=>by rw [hm.1,h2,rr.done _ h2]),rr.done _ h2⟩):qP:=h
theorem Zq(a r:Abs)(A D A' D':OA)(c e c' e' g:Nat)(w w0:World)(hx:Ext w0 w)(hg:w0.heap.size<=g)(hb:Blk w g 39 (Ap r A' c' D' e'))
  (S0:NP) (hS0:∀ b,S0 b->b<w0.heap.size) (hA:Strs w S0 A a.cols) (hD:RDeps w S0 D a.deps) (hn1:a.cols.length<=1000000) (hn2:a.deps.length<=1000000) :
  Cl 122 #[.pointer (some ⟨g,0,none⟩),(Aq a A c D e),.I 5] w (D0A w w0 S0 g A' c' D' e' (Bw a 5) (Dp a 5 r) r):=by
 obtain ⟨w1,hw1⟩:=eqx (w.alloc (.cells (Ap a A c D e) 39));obtain ⟨g4,hg4⟩:=eqx w.heap.size;have hx1:Ext w w1:=GS;have f1:Blk w1 g4 39 (Ap a A c D e):=GN;have O:g<w.heap.size:=hb.lt;obtain ⟨d7,HBR1,HX1,HXX,d5,HW,HG,HGE⟩:=Hd8 f1 (hb.keep (hx1.kept _)) (hx.trans hx1) hx hx1 hw1 hg4 hg;obtain ⟨f0,HS0,HA1,HD1,HAL⟩:=Hd5 O hS0 (hA.keep (hx1.kept _)) (hD.keep (hx1.kept _)) (show ∀ w',Cl 65 #[] w' (Cd w' (0,100)) from Ga);obtain ⟨d1,f2⟩:=eqx ((DF a).1);obtain ⟨d2,f6⟩:=eqx ((DF a).2);obtain ⟨cs,hcs⟩:=eqx (ddp a.cols);obtain ⟨ds,g6⟩:=eqx (ddp a.deps);have hcl:cs.length<=1000000:=(by have:=F4 a.cols;rw [hcs];omega);have hdl:ds.length<=1000000:=(by have:=F4 a.deps;rw [g6];omega);obtain ⟨HP,HPP,HMS,HDI,HDD,k0,k1⟩:=Hd7 (show Bw a 5=(decide (d1<=d2)&&decide (cs.length<=8)&&cs.all Ba) by rw [f2,f6,hcs];rfl) (show Dp a 5 r = { r with rl:=d1,rh:=d2,cols:=An cs,deps:=ds } by rw [f2,f6,hcs,g6];rfl) (show ∀ w',Cl 89 #[.agg #[.I a.rl,.I a.rh],.agg #[.I 0,.I 100]] w' (Cd w' (d1,d2)) from λw'=>by rw [show (d1,d2)=CZ (a.rl,a.rh) (0,100) by rw [f2,f6];rfl];exact DM _ _ _ _ w') (show ∀ w',Ext w1 w'->Cl 180 #[.slice A a.cols.length c,.func (.func 181) #[] #[]] w' (FfA w' cs) from λw' hw'=>by rw [hcs];exact MP a.cols A c w' _ (HA1.o.keep (hw'.kept _)) hn1) (show ∀ w',RDeps w' S0 D a.deps->Cl 184 #[.slice D a.deps.length e,.func (.func 185) #[] #[]] w' (Jt w' S0 ds) from λw' hw'=>by rw [g6];exact Lu a.deps D e w' _ hw' hn2) (f1.q13) (f1.q14);clear hx hg hb hx1 f1 hw1 hg4 f2 f6 hcs g6 hA hD O
 go_enter func122,ntmps122
 go_upto_region 19 with fail
 rw [<-HW.o,<-HG.o];refine Qb (fun|5=>[4,5]|i=>[i]) (λ_ _=>False) [(5,[4])] ?_
 iterate 2 refine Qp ?_
 refine Qc (x:=.agg #[.I 0,.I 100]) (λw'=>HAL.o w') ?_;refine Qc (x:=.agg #[.I d1,.I d2]) (λw'=>HMS.o w') ?_;refine Qs (FP (VarX (λ_ _=>False) 4 36 2)) (H1A IAA) ?_ ?_
 ·exact Pb
 refine Chain.step (λvl γ w'=>match vl with|[p,_]=>VarXI (λ_ _=>False) 36 p #[.I d1,.I d2] γ w'|_=>True) AG ?_ ?_ ?_
 ·exact SB
 ·intro vals γ w' ρ hR hN hp hρ hc hf hg;refine ⟨rfl,?_⟩;have e72:ρ (.tmp 72)=_:=(hρ 72).trans (hp 3 AB);obtain ⟨g,⟨cl⟩,hv,hcs,hb,hk,hst⟩:=H8A (hp 4 AB) (s:=5) (l:=[(5,[4])]) AB hN;have e8:=(hρ 8).trans hv;exact PF
 intro vals γ w9 hR hG;obtain ⟨g5,v4,hb5,-,-⟩:=hG 5 AB;refine Qx ?_;simp only [v4];have HX9:=Hd (show Ext w1 w9 from hR.ext0 (λ_ _ h=>h.elim));have HB5:=Hd hb5;clear hR hG hb5 v4;obtain ⟨HX2,HBR2,i4⟩:=Hd3 (HX1.o.trans HX9.o) (HBR1.o.keep (HX9.o.kept _)) (d7.o.keep (HX9.o.kept _));have q15:=i4.o.q15
 go_wp2_with fail
 refine (HDI.o _ HX9.o).mono ?_;rintro e2 w2 ⟨A2,c2,rfl,f8,b3,hx2⟩;obtain ⟨HX3,HX93,HX92,HZ3,HBR3,HBA3,i3,Y⟩:=Hd8 (HX2.o.trans hx2) (HX9.o.trans hx2) hx2 (show w.heap.size<=w2.heap.size by have:=d5.o.size;have:=HX9.o.size;have:=hx2.size;omega) (HBR2.o.keep (hx2.kept _)) (i4.o.keep (hx2.kept _)) (HB5.o.keep (hx2.kept _)) b3;have HC2:=Hd f8;have hal:=Mv A2 c2 cs w2 (λ_=>True) (b3.strs AA λ_ _=>trivial);obtain ⟨an,han⟩:=eqx (cs.all Ba);rw [<-han] at hal HP;have HALN:=Hd hal;clear q15 hx2 b3 f8 hal han;obtain ⟨s0,s1⟩:=i3.o.qs2;by_cases hle:d1<=d2
 case neg =>
  have hle2:d2<d1:=AA;have HPT:=Hd (show Bw a 5=false by rw [HP.o,decide_eq_false hle];rfl);exact Kq
 have hle2:¬d2<d1:=AA;by_cases h8:cs.length<=8
 case neg =>
  have h82:(8:Int)<(cs.length:Int):=AA;have HPT:=Hd (show Bw a 5=false by rw [HP.o,decide_eq_false h8,Bool.and_false];rfl);exact Kq
 have h82:¬(8:Int)<(cs.length:Int):=AA;cases an
 ·have HPT:=Hd (show Bw a 5=false by rw [HP.o,Bool.and_false])
  go_wp2_with fail
  refine HALN.o.mono ?_;rintro e3 w3 ⟨rfl,rfl⟩;exact Kq
 have HPT:=Hd (show Bw a 5=true by rw [HP.o,decide_eq_true hle,decide_eq_true h8];rfl)
 go_wp2_with fail
 refine HALN.o.mono ?_;rintro e3 w3 ⟨rfl,rfl⟩;clear s0 s1 HP
 go_wp2_with fail
 refine (CTA Y.o AA).mono ?_;rintro e4 w4 ⟨rfl,hg4,hown4⟩;have b9:=d5.o.size;have Z:=HX9.o.size;have O:=f0.o;have hgg:=HG.o;have d8:=d7.o.lt;have hg5l:=HB5.o.lt;have b0:∀ b,b<w9.heap.size->some b≠ob A2:=λb hb e=>by have:=(Y.o.1.blk e.symm).1;omega
 obtain ⟨HX4,HX94,U,HBA4,HB54,d6,HGR,HSL⟩:=Hd8 (Ext.grown HX3.o hg4 (λb hb=>by have:=(Y.o.1.blk hb).1;have:=HX2.o.size;omega)) (Ext.grown HX93.o hg4 (λb hb=>by have:=(Y.o.1.blk hb).1;omega)) (HBR3.o.keep (Kept.of_grown hg4 λb hb _=>by rw [hb];exact b0 g AA)) (HBA3.o.keep (Kept.of_grown hg4 λb hb _=>by rw [hb];exact b0 g4 AA)) (i3.o.keep (Kept.of_grown hg4 λb hb _=>by rw [hb];exact b0 g5 AA)) hown4 hg4 (show (An cs).length=cs.length by simp [An]);obtain ⟨s0,s1⟩:=HB54.o.qs2;have r13:=U.o.q13;have r14:=U.o.q14;have r15:=U.o.q15;have rf:=U.o.frozen;have rl:=U.o.lt;clear hg4 hown4 b0 b9 Z O hgg d8 hg5l
 go_upto_region 25 with fail
 obtain ⟨w5,b7⟩:=eqx (((w4.setCell ⟨g,13,none⟩ (.I d1)).setCell ⟨g,14,none⟩ (.I d2)).setCell ⟨g,15,none⟩ (.slice A2 cs.length c2));rw [<-b7];obtain ⟨r5,hr5⟩:=eqx ({ r with rl:=d1,rh:=d2,cols:=An cs });have b9:=d5.o.size;have Z:=HX9.o.size;have hszx:=HXX.o.size;have O:=f0.o;have hge:=HGE.o;have hgg:=HG.o;have d8:=d7.o.lt;have HSZ9:=Hd (show w.heap.size<=w9.heap.size by omega);have b4:=Hd (show Blk w5 g 39 (Ap r5 A2 c2 D' e') by
  have hbb:=((U.o.set 13 (.I d1)).set 14 (.I d2)).set 15 (.slice A2 cs.length c2);rw [<-b7] at hbb;rw [hr5]
  simpa [HSL.o,Ap] using hbb)
 have hkb:∀ S:Nat->Prop,¬S g->Kept S w4 w5:=λS hS=>by rw [b7];exact ((Kept.refl S w4).set2 hS).set2 hS |>.set2 hS
 obtain ⟨HBA5,HX5,HOW5,HD5,b8,HR5⟩:=Hd6 (HBA4.o.keep (hkb _ (show ¬g=g4 by omega))) (show Ext w0 w5 by rw [b7];exact ((HX4.o.set2 HGE.o _).set2 HGE.o _).set2 HGE.o _) (show OwnSs w5 w9.heap.size A2 c2 (An cs) from ⟨d6.o.1.keep (hkb _ (show ¬ob A2=some g from λe=>by have:=(d6.o.1.blk e).1;omega)),d6.o.2⟩) ((HD1.o.keep (HX94.o.kept _)).keep (hkb _ (show ¬S0 g from λh=>by have:=HS0.o g h;omega))) (show w9.heap.size<=w5.heap.size by have:=(hkb (λ_=>False) (λh=>h)).1;have h9:=(Ext.grown HX92.o HGR.o (λb hb=>(Y.o.1.blk hb).1)).size;omega) hr5;clear hkb b7 hr5 s0 s1 r13 r14 r15 rf rl b9 Z hszx O hge hgg d8;have q16:w5.cell? ⟨g4,16,none⟩=some (.slice D a.deps.length e):=HBA5.o.q16;have r16:w5.cell? ⟨g,16,none⟩=some (.slice D' r5.deps.length e'):=b4.o.q16;have rf:=b4.o.frozen;have rl:=b4.o.lt
 go_wp2_with fail
 refine (HDD.o _ HD5.o).mono ?_;rintro e6 w6 ⟨D2,e2,rfl,hcap6,hown6,b6⟩;obtain ⟨HX6,a9,d4,HOD6,HS6⟩:=Hd5 (HX5.o.trans b6) (b4.o.keep (b6.kept _)) (HOW5.o.ext b6) (hown6.mono (T:=Off S0 w) λ_ _ h=>.inl h) b6.size;clear q16 r16 rf rl b6 hown6;have r16:w6.cell? ⟨g,16,none⟩=some (.slice D' r5.deps.length e'):=a9.o.q16;have rf:=a9.o.frozen;have rl:=a9.o.lt
 go_upto_region 26 with fail
 obtain ⟨w7,hw7⟩:=eqx (w6.setCell ⟨g,16,none⟩ (.slice D2 ds.length e2));rw [<-hw7];have hkb:∀ S:Nat->Prop,¬S g->Kept S w6 w7:=λS hS=>by rw [hw7];exact (Kept.refl S w6).set2 hS
 have f4:=b8.o;have Z:=HSZ9.o;have O:=f0.o;have hge:=HGE.o;obtain ⟨r7,hr7⟩:=eqx (Dp a 5 r);have d9:r7.deps=ds/\r7.cols=An cs:=(by rw [hr7,HPP.o];exact ⟨rfl,rfl⟩);have HBR7:=Hd (show Blk w7 g 39 (Ap r7 A2 c2 D2 e2) by
  have hbb:=a9.o.set 16 (.slice D2 ds.length e2);rw [<-hw7,HR5.o] at hbb;rw [hr7,HPP.o]
  simpa using hbb)
 have HX7:=Hd (show Ext w0 w7 by rw [hw7];exact HX6.o.set2 HGE.o _);have HOW7:=Hd (show OwnSs w7 w9.heap.size A2 c2 (An cs) from ⟨d4.o.1.keep (hkb _ (show ¬ob A2=some g from λe=>by have:=(d4.o.1.blk e).1;omega)),d4.o.2⟩);have HOD7:=Hd (show OwnDs w7 w5.heap.size (Off S0 w) D2 e2 ds from HOD6.o.keep (hkb _ (show ¬(ob D2=some g\/Off S0 w g) from λh=>by
  rcases h with h|h
  ·have:=(HOD6.o.blk h).1;omega
  ·rcases h with h|h
   ·have:=HS0.o g h;omega
   ·omega)))
 obtain ⟨HS7,HA2L,HRD,HR7,HCP⟩:=Hd5 (show w5.heap.size<=w7.heap.size by have:=HS6.o;have:=(hkb (λ_=>False) (λh=>h)).1;omega) (show ∀ b,ob A2=some b->b<w5.heap.size from λb hb=>(HOW5.o.1.blk hb).2) d9 hr7 hcap6;have f9:w7.cell? ⟨g,16,none⟩=some (.slice D2 r7.deps.length e2):=HBR7.o.q16;rw [d9.1] at f9;clear hkb hw7 hr7 d9 r16 rf rl f4 Z O hge;go_wp2
 go_loopw [112] (λi wr=>∃ k:Nat,k<=ds.length/\i=.I k/\Ext w0 wr/\w5.heap.size<=wr.heap.size/\Blk wr g 39 (Ap r7 A2 c2 D2 e2)/\OwnSs wr w9.heap.size A2 c2 (An cs)/\OwnDs wr w5.heap.size (Off S0 w) D2 e2 ds) (λi _=>ds.length-(intOf i).toNat)
 case atStart=>exact ⟨0,AN,rfl,HX7.o,HS7.o,HBR7.o,HOW7.o,HOD7.o⟩
 case round =>
  clear f9;obtain ⟨k,hk,rfl,hext,hszr,g8,f7,hod⟩:=hrel;by_cases hlt:k<ds.length
  ·obtain ⟨xs,hxl,ho,hv⟩:=hod.add;obtain ⟨gd,rfl⟩:=ho.some_ AA;obtain ⟨B,cB,h3,h4,h5,h6,h7⟩:=hv k ds[k] (List.getElem?_eq_getElem hlt);have c1:=ho.cell_ h3;have c2':=ho.cell_ h4;have hgd:=(hod.blk rfl);obtain ⟨HE,f3,b5,HOD,HSR,f5,H7,H56⟩:=Hd8 hext g8 f7 hod hszr hgd (h7.mono (T:=λb=>b≠gd/\Off S0 w b) λb _ hb=>⟨λe=>hb.1 (by rw [e];rfl),hb.2⟩) (And.intro h5 h6);clear ho hv hxl h3 h4 h7 hext g8 f7 hod
   go_upto_region 29 with fail
   obtain ⟨ws,hws⟩:=eqx (wr.alloc (.cells #[.slice B ds[k].frm.length cB,.string ds[k].tov] 69));obtain ⟨gv,hgv⟩:=eqx wr.heap.size;rw [<-hws,<-hgv];have a8:Ext wr ws:=(by rw [hws];exact (Ext.refl wr).alloc _);have hbv:Blk ws gv 69 #[.slice B ds[k].frm.length cB,.string ds[k].tov]:=(by rw [hws,hgv];exact Blk.new _ _ _);have KV:=Hd (hbv.q0);have hrd7:=HRD.o.1;have K16:=Hd (show ws.cell? ⟨g,16,none⟩=some (.slice (some ⟨gd,0,none⟩) ds.length e2) by rw [<-hrd7];exact a8.cell (f3.o.q16));have hg1:=f5.o.1;have hg2:=f5.o.2;simp only at hg1 hg2;have O:=f0.o;have f4:=b8.o;have hs9:=HSZ9.o;have hszs:=a8.size;obtain ⟨G16,GV,HGX,HF,HODS,HXS⟩:=Hd6 (show g≠gd by omega) (show gv≠gd by omega) (show gd<ws.heap.size/\w.heap.size<=ws.heap.size by omega) ((H7.o.keep (a8.kept _)).mono (T:=λb=>b≠gd) λb _ hb=>hb.1) (HOD.o.ext a8) a8;clear hws hgv a8 hbv hrd7 hg1 hg2 O f4 hs9 hszs c1 c2' h5 h6 hgd;refine Qa (λm b=>m=1010/\b=gd) [(0,[1010]),(1,[1010]),(2,[1010]),(3,[1010]),(4,[1010]),(5,[1010]),(6,[1010]),(7,[1010]),(9,[1010]),(10,[1010])] ?_
   iterate 3 refine Qp ?_
   refine Qm (λvals γ w' ρ hR hN hp hρ zs zg=>by
    exact Pr) ?_
   iterate 2 refine Qp ?_
   refine Qm (λvals γ w' ρ hR hN hp hρ zs zg=>by
    exact Pr) ?_
   refine Qs (FP λv γ w'=>HhA ws ds[k].frm γ w' v) (H1A ?_) ?_ ?_
   ·rintro v γ w1 γ' w2 rr ⟨B7,e7,h1,h2,h3⟩;refine ⟨B7,e7,h1,h2,λhk => ?_⟩;have hk0:γ 1010=false:=by
     cases h6:γ 1010 with
     |false=>rfl
     |true=>rw [rr.done _ h6] at hk;cases hk
    exact (h3 hk0).keep (rr.keptS (S:=λb=>ws.heap.size<=b) λb _ e m hm=>by rw [hm.1,hk,hk0])
   ·intro vals γ w' ρ hR hN hp hρ zs zg;have HR:=hR;have HCL:=Hd (Wx B cB ds[k].frm w' _ (HF.o.keep (hR.o.kept0 (S:=λb=>b≠gd) (λb _ hb m hm=>absurd hm.2 hb))));refine Qr ?_;refine HCL.o.mono ?_;rintro e1 w3 ⟨B7,e7,he,h7,hst,hx⟩;exact ⟨_,he,γ,H4A _ γ hx,λ_ _ _ h=>h,B7,e7,rfl,h7,λ_=>hst.mono λb _ hb=>Nat.le_trans HR.o.size hb⟩
   iterate 2 refine Qp ?_
   refine Qs (λ_ γ w'=>OwnDs w' w5.heap.size (Off S0 w) (some ⟨gd,0,none⟩) e2 ds/\γ 1010=true) ?_ ?_ ?_
   ·rintro v γ w1 γ' w2 rr ⟨h1,h2⟩;exact Qi
   ·intro vals γ w' ρ hR hN hp hρ zs zg;obtain ⟨B7,e7,hv7,hl7,hst7⟩:=hp.o 7 AB;have e124:=(hρ.o 124).trans hv7;have hk0:=hN.o.key (k:=1010) AB;have HST:=Hd (hst7 hk0);have HL7:=Hd hl7;have hod:=HODS.o.keep (hR.o.kept0 (S:=λb=>ob (some ⟨gd,0,none⟩)=some b\/Off S0 w b) λb _ e m hm=>CF);obtain ⟨xs,hxl,ho,hv⟩:=hod.add;obtain ⟨B0,cB0,h3,-⟩:=hv k ds[k] (List.getElem?_eq_getElem hlt);have qc:=ho.cell_ h3;have qf:=ho.frozen_;have ql:=ho.lt_;have d3:=Hd hod;have HK:=Hd hk0;clear hv7 hl7 hst7 hod ho hv h3 hxl;refine Qr ?_;have hgx:=HGX.o;exact ⟨γ.put 1010,H2A HK.o rfl rfl rfl Y78171d3d0 (λb hb hm=>(Only.set (Only.refl gd w') (k*2) (.slice B7 ds[k].frm.length e7)).block b λe=>hm ⟨rfl,e⟩),LK.done AB,d3.o.put hlt HL7.o (HST.o.mono λb _ hb=>⟨AA,.inr AA⟩),AU⟩
   intro vals γ g0 hR hG;have v0:vals 0=_:=hG 0 AB;have v1:vals 1=_:=hG 1 AB;have v2:vals 2=_:=hG 2 AB;have v3:vals 3=_:=hG 3 AB;have v4:vals 4=_:=hG 4 AB;have v5:vals 5=_:=hG 5 AB;have v6:vals 6=_:=hG 6 AB;have v8:vals 8=_:=hG 8 AB;have v9:vals 9=_:=hG 9 AB;simp only [Ah,Act.put,List.setIfInBounds_toArray,List.set_cons_succ,List.set_cons_zero,Nat.zero_add,Nat.reduceAdd,v0,v1,v2,v3,v4,v5,v6,v8,v9];clear v0 v1 v2 v3 v4 v5 v6 v8 v9;obtain ⟨hod9,-⟩:=hG 10 AB;have i2:Kept (λb=>b≠gd) ws g0:=hR.kept0 (S:=λb=>b≠gd) (λb _ hb m hm=>absurd hm.2 hb);have d3:=Hd hod9;have hx9:Ext w0 g0:=Au (HE.o.trans HXS.o) (hR.buts (S:=λb=>b=gd) (λm b _ hm _=>hm.2)) (λb hb=>by have:=f5.o.1;have:=b8.o;have:=HSZ9.o;have:=HXX.o.size;simp only at *;omega);obtain ⟨HX9',HBR9,HOS9,HS9'⟩:=Hd4 hx9 ((f3.o.keep (HXS.o.kept _)).keep (i2.mono λb _ e=>by rw [e];exact G16.o)) (show OwnSs g0 w9.heap.size A2 c2 (An cs) from ⟨(b5.o.ext HXS.o).1.keep (i2.mono λb _ e=>by have:=HA2L.o b e;have:=f5.o.1;simp only at *;omega),b5.o.2⟩) (show w5.heap.size<=g0.heap.size by have:=i2.1;have:=HXS.o.size;have:=HSR.o;omega);clear hR hG hod9 i2 hx9;go_wp2;go_roundw
   case rel=>exact ⟨k+1,AA,AE,HX9'.out,HS9'.out,HBR9.o,HOS9.o,d3.o⟩
   case measure=>simp [intOf];omega
  ·obtain rfl:k=ds.length:=AA;obtain ⟨HE,f3,b5,HOD⟩:=Hd4 hext g8 f7 hod;clear hext g8 f7 hod;go_wp2;go_ret;refine ⟨EY,HE.o,by have:=HSZ9.o;have:=b8.o;omega,λ_=>⟨A2,c2,D2,e2,?_,?_⟩,λh=>(by rw [HPT.o] at h;cases h)⟩
   ·have hbb:=f3.o;rw [HR7.o] at hbb;exact hbb
   ·have h1:=HRD.o;rw [HR7.o] at h1;have hs9:=HSZ9.o;have f4:=b8.o;refine ⟨by rw [h1.2,HSL.o];exact HC2.o,by rw [h1.1];exact HCP.o,?_,?_⟩
    ·rw [h1.2];exact b5.o.strs (by rw [HSL.o];omega) λb hb=>.inr (by have:=(b5.o.1.blk hb).1;omega)
    ·rw [h1.1];exact HOD.o.rdeps AA (λb hb=>.inr (by have:=(HOD.o.blk hb).1;omega)) λb hb=>hb

theorem AbM.nil(h:a.cols=[]/\a.deps=[]):AbM w S a A c D e:=by
 unfold AbM;rw [h.1,h.2];exact ⟨AN,AN,⟨.inl rfl,AC,AC⟩,AC,[],.inl rfl,AC,AC⟩
theorem ZX(h:qP:=by
 rw [hp,if_pos rfl] at hs;rw [<-hs];exact hbb):qP:=h
theorem ZN(h:qP:=by
 rw [hp,if_neg (by simp)] at hs;rw [<-hs];exact hbb):qP:=h
theorem I8(h:qP:=by
 rintro e w' ⟨he,⟨s,hs,hbb⟩,hxx,hz⟩;refine ⟨he,hxx,hz,λhp=>⟨A',c',D',e',?_,AbM.nil hr⟩,λhp => ?_⟩
 ·exact ZX
 ·exact ZN):qP:=h
theorem DPA(a r:Abs)(A D A' D':OA)(c e c' e' g k:Nat)(w w0:World)(h1:1<=k)(h5:k<=5)(hx:Ext w0 w)(hg:w0.heap.size<=g)(hb:Blk w g 39 (Ap r A' c' D' e'))
  (S0:NP) (hS0:∀ b,S0 b->b<w0.heap.size) (hA:Strs w S0 A a.cols) (hD:RDeps w S0 D a.deps) (hn1:a.cols.length<=1000000) (hn2:a.deps.length<=1000000) (hb1:a.tx.b.size<=1000000000) (hb2:a.tx.e.size<=1000000000) (ht:Tens w0) (hr:r.cols=[]/\r.deps=[]) (hbo:k<=4->r.bo=0) :
  Cl 122 #[.pointer (some ⟨g,0,none⟩),(Aq a A c D e),.I (k:Int)] w (D0A w w0 S0 g A' c' D' e' (Bw a k) (Dp a k r) r):=by
 have hk:k=1\/k=2\/k=3\/k=4\/k=5:=AA
 rcases hk with rfl|rfl|rfl|rfl|rfl
 ·refine (BgA a r A D A' D' c e c' e' g w w0 hx hg hb hb1 hb2).mono ?_;exact I8
 ·refine (Zi a r A D A' D' c e c' e' g w w0 hx hg hb ht).mono ?_;exact I8
 ·refine (ZA a r A D A' D' c e c' e' g w w0 hx hg hb ).mono ?_;exact I8
 ·refine (Z7 a r A D A' D' c e c' e' g w w0 hx hg hb (hbo AA)).mono ?_;exact I8
 ·exact Zq a r A D A' D' c e c' e' g w w0 hx hg hb S0 hS0 hA hD hn1 hn2
theorem O3(h:qP:=by
 refine wpList_plain hgd λK hK => ?_;unfold Oper.wp execOp;rw [ho];simp [go_sem];exact hK _ _ h):qP:=h
theorem Ag{a:Act}(hgd:o.guard=none)(ho:o.op=.alloc 39)
  (h:wpList prog ops Q rest (a.put o.dst (.pointer (some ⟨w.heap.size,0,none⟩))) (w.alloc (.cells Az 39))):wpList prog ops Q (o::rest) a w:=by
 exact O3
theorem TJ(h:qP:=by
 unfold Oper.wp execOp;simp only [ho,hx,Instr.loadAt,Instr.sureAddr,Sem.run_bind,Sem.run_pure,Result.andThen_ok,Eq hb hd hi];exact hK _ _ h):qP:=h
theorem AJ{a:Act}(hgd:o.guard=none)(ty:TypeId)(x:Operand)(ho:o.op=.load ty x)
  (g:Nat) (hx:a.eval x=.pointer (some ⟨g,0,none⟩))  (hb:Blk w g ty cs) (hd:(match P.underlying ty with|some (.struct _)|some (.array _ _)=>true|_=>false)=true) (hi:(P.info? ty).map (·.size)=some cs.size)
  (h:wpList P ops Q rest (a.put o.dst (.agg cs)) w):wpList P ops Q (o::rest) a w:=by
 refine wpList_plain hgd λK hK => ?_;exact TJ
theorem FI{K:Value->World->Prop}{ty:TypeId}{x:Operand}(ho:o.op=.load ty x)(hx:ρ x=.pointer (some ⟨g,0,none⟩))(hb:Blk w g ty cs)
  (hd:(match P.underlying ty with|some (.struct _)|some (.array _ _)=>true|_=>false)=true) (hi:(P.info? ty).map (·.size)=some cs.size) (h:K (.agg cs) w):linUpon P K ((execOp ρ o).run P w):=by
 unfold execOp;simp only [ho,hx,Instr.loadAt,Instr.sureAddr,Sem.run_bind,Sem.run_pure,Result.andThen_ok,Eq hb hd hi];exact h
theorem Qy{Γ:Type}{D:Nat->List Nat}{R:Γ->World->Γ->World->Prop}{N:Nat->Γ->Prop}{a0:Act}{γ0:Γ}{w1:World}{Qf:List (Ft Γ)->Prop}{done:List (Ft Γ)}{k ty:Nat} [Rf R] [Rx R γ0](H:Hid (Blk w1 g ty cs))(hd:(match P.underlying ty with|some (.struct _)|some (.array _ _)=>true|_=>false)=true)(hi:(P.info? ty).map (·.size)=some cs.size)
  (next:Chain P ops D R N a0 γ0 w1.drew Qf (k+1) (FV (.agg cs)::done) rest) (hk:done.length=k:=by rfl) (hD:D k=[k]:=by rfl)
  (h:∀ vals γ w ρ,Blk w g ty cs->(match P.underlying ty with | some (.struct _) | some (.array _ _)=>true | _=>false)=true->(P.info? ty).map (·.size)=some cs.size->FindsZ ops D R N a0 γ0 w1.drew k done o vals γ w ρ (Ay o vals=true/\linUpon P (λv w'=>v=.agg cs/\w'=w) ((execOp ρ o).run P w)):=by
   intro vals γ w' ρ hB h1 h2 hR hN hp hρ zs zg _ _ _
   (conv at zg=>whnf)
   refine ⟨by first|rfl|(show (NM _==some _)=true;rw [zg];rfl),?_⟩
   repeat ((conv at zs=>whnf);(try have e:ρ (.tmp _)=_:=zs.1);replace zs:=zs.2)
   exact FI rfl (by assumption) hB h1 h2 ⟨rfl,rfl⟩):Chain P ops D R N a0 γ0 w1.drew Qf k done (o::rest) :=
 Qm (λvals γ w ρ hR=>h vals γ w ρ (H.o.keep ((Rx.x _ _ _ hR.o).kept _)) hd hi hR) next hk hD
theorem CZA(a:Abs)(k:Nat)(r:Abs):(Dp a k r).kinds=r.kinds:=by
 unfold Dp;split<;>rfl
def CnQ(g:Nat)(T:NP)(r1 r:Abs)(A':OA)(c':Nat)(D':OA)(e':Nat)(pb:Bool)(w':World):Prop :=
 (pb=true->∃ A2 c2 D2 e2,Blk w' g 39 (Ap r1 A2 c2 D2 e2)/\AbM w' T r1 A2 c2 D2 e2)/\(pb=false->Blk w' g 39 (Ap r A' c' D' e'))
theorem CnQ.keep{r1 r:Abs}{A':OA}{c':Nat}{D':OA}{e':Nat}{pb:Bool}(h:CnQ g T r1 r A' c' D' e' pb w)(k:Kept (λ_=>True) w w'):CnQ g T r1 r A' c' D' e' pb w':=by
 refine ⟨λhp => ?_,λhp=>(h.2 hp).keep (k.mono λ_ _ _=>trivial)⟩;obtain ⟨A2,c2,D2,e2,h1,h2⟩:=h.1 hp;exact ⟨A2,c2,D2,e2,h1.keep (k.mono λ_ _ _=>trivial),h2.keep (k.mono λ_ _ _=>trivial)⟩
def AbN(n:Nat)(a:Abs):Prop:=a.tx.b.size<=1000000000/\a.tx.e.size<=1000000000/\a.cols.length<=n/\a.deps.length<=n/\∀ d∈a.deps,d.frm.length<=n
theorem IN(h:qP:=by
 refine Qr ?_;rw [HX0.o];exact ⟨rfl,rfl⟩):qP:=h
theorem GI(h:qP:=by rw [hg3];exact Al):qP:=h
theorem Ge(h:qP:=by have:=hm.2;omega):qP:=h
theorem Bq(h:qP:=by have:=HG2.o;omega):qP:=h
theorem As(a:Abs)(A D:OA)(c e:Nat)(w:World)(S:NP)(hA:Strs w S A a.cols)(hD:RDeps w S D a.deps)(ht:Tens w)(hz:AbN 1000000 a) :
  Cl 47 #[(Aq a A c D e)] w (Eh w S (AX a)):=by
 obtain ⟨hz1,hz2,d4,hz4,-⟩:=hz;obtain ⟨wa,a9⟩:=eqx ((w.alloc (.cells (Ap a A c D e) 39)).alloc (.cells Az 39));obtain ⟨g1,hg1⟩:=eqx w.heap.size;obtain ⟨g2,hg2⟩:=eqx (w.heap.size+1);have g6:Ext w wa:=(by rw [a9];exact (exaa w).alloc _);have hb1:Blk wa g1 39 (Ap a A c D e):=(by rw [a9,hg1];exact (Blk.new _ _ _).keep ((exaa _).kept _));have hb2:Blk wa g2 39 Az:=(by rw [a9,hg2];exact H6A _ _ _ _);obtain ⟨HWA,HG1,HG2,HXA,d7,HB2A,HA,HD⟩:=Hd8 a9 hg1 hg2 g6 hb1 hb2 (hA.mono (T:=λb=>S b/\b<w.heap.size) λi hi hs=>⟨hs,hi⟩) (hD.mono (T:=λb=>S b/\b<w.heap.size) λi hi hs=>⟨hs,hi⟩);have HT:=Hd ht;clear a9 hg1 hg2 g6 hb1 hb2 hA hD ht
 go_enter func47,ntmps47
 go_upto_region 1 with fail
 rw [<-HWA.o,<-HG2.o,<-HG1.o]
 go_wp2_with fail
 refine (Hk _).mono ?_;rintro e1 w1 ⟨rfl,hx1⟩;rename_i K1 hK1 K2 hK2;refine hK2 _ _ ?_;refine Ag rfl rfl ?_;obtain ⟨g3,hg3⟩:=eqx w1.heap.size;rw [<-hg3];refine AM rfl 39 _ _ rfl g3 (Ap noneA none 0 none 0) rfl rfl 39 _ (show Blk (w1.alloc (.cells Az 39)) g3 39 Az by rw [hg3];exact Blk.new _ _ _) AH rfl AD ?_;intro w2 a8 i3;have hx2:Ext w1 w2:=(exaa w1).only i3 GI;have HX1:=Hd (HXA.o.trans hx1);have hk2:=hx1.trans hx2;have q17:w2.cell? ⟨g1,17,none⟩=some (.bool a.errs):=(d7.o.keep (hk2.kept _)).q17;have r17:w2.cell? ⟨g3,17,none⟩=some (.bool noneA.errs):=a8.q17;have rf:=a8.frozen;have rl:=a8.lt;obtain ⟨HB3,HX2,HG3,b3,d5⟩:=Hd5 a8 hx2 hg3 (d7.o.keep (hx1.kept _)) (HB2A.o.keep (hx1.kept _));refine hK1 _ _ ?_;clear hK1 hK2 a8 i3 hx1 hx2 hk2 hg3
 go_upto_region 3 with fail
 obtain ⟨w3,b8⟩:=eqx (w2.setCell ⟨g3,17,none⟩ (.bool a.errs));rw [<-b8];have HX3:=Hd (show Ext w1 w3 by rw [b8];exact HX2.o.set2 (Bl HG3.o) _);have f0:=Hd (show Blk w3 g3 39 (Ap (DL a 0) none 0 none 0) by
  rw [b8,YU];have hbb:=HB3.o.set 17 (.bool a.errs)
  simpa using hbb)
 clear b8 q17 r17 rf rl;have K0:=Hd (b3.o.q0);go_wp2
 go_loopw [9] (λi wr=>∃ (k:Nat) (s:Abs) (A':OA) (c':Nat) (D':OA) (e':Nat),k<=6/\i=.I k/\s=DL a k/\Ext w1 wr/\Blk wr g3 39 (Ap s A' c' D' e')/\AbM wr (λb=>((S b/\b<w.heap.size)\/w1.heap.size<=b)/\b≠g3) s A' c' D' e') (λi _=>6-(intOf i).toNat)
 case atStart=>exact ⟨0,DL a 0,none,0,none,0,AA,rfl,rfl,HX3.o,f0.o,AbM.nil (Ws a AA)⟩
 case round =>
  clear f0 HX3 HB3 HX2;obtain ⟨k,s,A',c',D',e',hk,rfl,hs,hext,Z,f3⟩:=hrel;obtain ⟨HS,HE,b4,HAB⟩:=Hd4 hs hext Z f3;clear hs hext Z f3;by_cases hlt:k<6
  ·have hlt':(k:Int)<6:=AA;obtain ⟨p2,hp2⟩:=eqx ((2^k:Nat):Int);have HBI:=Hd (show ∀ w',Cl 48 #[.I (k:Int)] w' (Bk w' p2) from λw'=>by rw [hp2];exact At k AA w');have O:=Mp a.kinds k AA;rw [<-hp2] at O;obtain ⟨x,hx⟩:=eqx (bits .and .i64 a.kinds p2);rw [<-hx] at O;have b9:=Hd O;have HP2:=Hd hp2;have hbx:bits .and .i64 a.kinds p2=x:=hx.symm;clear O hp2 hx;by_cases hk0:k=0
   ·subst hk0
    go_upto_region 6 with fail
    refine Qa (λ_ _=>False) [] ?_
    iterate 3 refine Qp ?_
    iterate 6 refine Qn ?_
    iterate 2 refine Qp ?_
    iterate 3 refine Qn ?_
    refine Qp ?_;intro vals γ w9 hR hG;refine Qx ?_;have HXN:=Hd (show Ext wr w9 from hR.ext0 (λ_ _ _ h=>h.elim));clear hR hG;go_wp2;go_roundw
    case rel=>exact ⟨1,s,A',c',D',e',AA,AE,by rw [HS.o,B6A],HE.o.trans HXN.o,b4.o.keep (HXN.o.kept _),HAB.o.keep (HXN.o.kept _)⟩
    case measure=>simp [intOf]
   ·have HNE:=Hd (show ((k:Int) != 0)=true by simpa using hk0);have f9:=Hd (DlA a k AA AA);by_cases hxz:x=0
    ·have U:bt a.kinds k=false:=(by rw [<-b9.o,hxz];rfl);have Y:=Hd (show DL a (k+1)=DL a k by rw [f9.o,U,Bool.false_and,if_neg AC]);have HX0:=Hd (show (x != 0)=false by rw [hxz];rfl);clear U hxz
     go_upto_region 6 with fail
     refine Qa (λ_ _=>False) [] ?_;refine Qp ?_;refine Qm (λvals γ w' ρ hR hN hp hρ zs zg=>by
      refine Qr ?_;rw [HNE.o];exact ⟨rfl,rfl⟩) ?_
     iterate 2 refine Qp ?_
     refine Qm (λvals γ w' ρ hR hN hp hρ zs zg=>by
      have hxx:=hR.o.ext0 (λ_ _ _ h=>h.elim);have m0:=(HE.o.trans hxx).cell K0.o;clear hxx;exact Qk) ?_
     refine Qp ?_;refine Qc (λw'=>HBI.o w') ?_;refine Qp ?_;refine Qm (λvals γ w' ρ hR hN hp hρ zs zg=>by
      exact IN) ?_
     iterate 2 refine Qp ?_
     iterate 3 refine Qn ?_
     refine Qp ?_;intro vals γ w9 hR hG;refine Qx ?_;have HXN:=Hd (show Ext wr w9 from hR.ext0 (λ_ _ _ h=>h.elim));clear hR hG;go_wp2;go_roundw
     case rel=>exact ⟨k+1,s,A',c',D',e',AA,AE,by rw [HS.o,Y.o],HE.o.trans HXN.o,b4.o.keep (HXN.o.kept _),HAB.o.keep (HXN.o.kept _)⟩
     case measure=>simp [intOf];omega
    ·have U:bt a.kinds k=true:=(by rw [<-b9.o];simpa using hxz);have HX0:=Hd (show (x != 0)=true by simpa using hxz);obtain ⟨pb,f6⟩:=eqx (Bw a k);obtain ⟨r1,b7⟩:=eqx (Dp a k s);have b6:=HS.o;have d6:s.cols=[]/\s.deps=[]:=(by rw [b6];exact Ws a AA);have hw1:=HX1.o.size;have hg3e:=HG3.o;obtain ⟨d8,HKK,g8⟩:=Hd3 (b3.o.lt) (show r1.kinds=s.kinds by rw [b7];exact CZA a k s) (show DL a (k+1)=if pb=true then { r1 with kinds:=bits .or .i64 s.kinds p2 } else s by rw [f9.o,U,Bool.true_and,f6,b7,b6,HP2.o]);have HTK:=Hd (show ∀ w',Ext w1 w'->Blk w' g3 39 (Ap s A' c' D' e')->Cl 122 #[.pointer (some ⟨g3,0,none⟩),(Aq a A c D e),.I (k:Int)] w' (D0A w' w1 (λb=>S b/\b<w.heap.size) g3 A' c' D' e' pb r1 s) from λw' hx' hb'=>by
      rw [f6,b7];exact DPA a s A D A' D' c e c' e' g3 k w' w1 AA AA hx' AA hb' _ (λb hb=>by have:=hb.2;omega) (HA.o.keep ((HX1.o.trans hx').kept _)) (HD.o.keep ((HX1.o.trans hx').kept _)) d4 hz4 hz1 hz2 (HT.o.ext HX1.o) d6 (λh4=>by rw [b6];exact GNA a h4))
     obtain ⟨HCT,f2,HB1R⟩:=Hd3 d6 (show w.heap.size<=w1.heap.size/\g3=w1.heap.size by omega) (b3.o.keep (HE.o.kept _));clear U f6 b7 b6 d6 hw1 hg3e hxz
     go_upto_region 6 with fail
     refine Qa (λm b=>m=1013/\w1.heap.size<=b) [(10,[1013]),(11,[1013]),(12,[1013]),(13,[1013])] ?_;refine Qp ?_;refine Qm (λvals γ w' ρ hR hN hp hρ zs zg=>by
      refine Qr ?_;rw [HNE.o];exact ⟨rfl,rfl⟩) ?_
     iterate 2 refine Qp ?_
     refine Qm (λvals γ w' ρ hR hN hp hρ zs zg=>by
      have hkk:=hR.o.kept0 (S:=λb=>b<w1.heap.size) (λb _ (hb:b<w1.heap.size) m hm=>Ge);have m0:=Kept.cell hkk d8.o (HE.o.cell K0.o);clear hkk;exact Qk) ?_
     refine Qp ?_;refine Qc (λw'=>HBI.o w') ?_;refine Qp ?_;refine Qm (λvals γ w' ρ hR hN hp hρ zs zg=>by
      exact IN) ?_
     iterate 2 refine Qp ?_
     apply H9A (LZ.refl _) AG
     ·intro vals γ w' ρ hR hN hp hρ hc hf hg;refine ⟨by show (NM (vals 10)==some true)=true;rw [show vals 10=.bool true from hp 10 AB];rfl,?_⟩;have e1:=hρ 1;(conv at e1=>rhs;whnf);have hb1:=HB1R.o.keep (hR.kept0 (S:=λb=>b=g1) (λb _ e m hm=>by have:=hm.2;have:=d8.o;omega));exact FI rfl e1 hb1 AS AH ⟨rfl,rfl⟩
     ·rfl
     refine Qp ?_;refine Qs (FP λv γ w'=>v=.bool pb/\γ 1013=true/\CnQ g3 (λb=>((S b/\b<w.heap.size)\/w1.heap.size<=b)/\b≠g3) r1 s A' c' D' e' pb w') (H1A ?_) ?_ ?_
     ·rintro v γ wx γ' wy rr ⟨h1,h2,h3⟩;exact ⟨h1,rr.done _ h2,h3.keep (rr.keptS λb _ _ m hm=>IX)⟩
     ·intro vals γ w' ρ hR hN hp hρ zs zg;have hk0:=hN.o.key (k:=1013) AB;have Z:=b4.o.keep (hR.o.kept0 (S:=λb=>b=g3) λb _ e m hm=>CF);have i2:Ext w1 w':=Au HE.o (hR.o.buts (S:=λb=>w1.heap.size<=b) (λm b _ hm _=>hm.2)) (λb hb=>hb);obtain ⟨HXW,g0,HK⟩:=Hd3 i2 Z hk0;clear hk0 Z i2 hp;refine Qr ?_;refine (HTK.o w' HXW.o g0.o).mono ?_;rintro e1 w3 ⟨he,hx3,d4,hy,hn⟩;have f4:=f2.o;have hlt3:=g0.o.lt;refine ⟨_,he,γ.put 1013,H2A HK.o (hx3.os.trans HXW.o.os.symm) (hx3.tape.trans HXW.o.tape.symm) (hx3.output.trans HXW.o.output.symm) d4 (λb hb hm => ?_),LK.done AB,rfl,AU,λhp => ?_,hn⟩
      ·have hlt:b<w1.heap.size:=Nat.lt_of_not_le λh=>hm ⟨rfl,h⟩;rw [hx3.block b hlt,HXW.o.block b hlt]
      ·obtain ⟨A2,c2,D2,e2,h1,h2⟩:=hy hp;refine ⟨A2,c2,D2,e2,h1,h2.mono λb _ hb => ?_⟩
       rcases hb with hb|hb
       ·exact ⟨.inl hb,by have:=hb.2;omega⟩
       ·exact ⟨.inr (by have:=HXW.o.size;omega),AA⟩
     refine Qm (λvals γ w' ρ hR hN hp hρ zs zg=>by
      have e25:ρ (.tmp 25)=_:=(hρ.o 25).trans (hp.o 13 AB).1;exact Qk) ?_
     intro vals γ w9 hR hG;obtain ⟨f8,-,d3⟩:=hG 13 AB;refine Qx ?_;simp only [f8];clear f8;have HXN:=Hd (show Ext w1 w9 from Au HE.o (hR.buts (S:=λb=>w1.heap.size<=b) (λm b _ hm _=>hm.2)) (λb hb=>hb));have HQ:=Hd d3;clear hR hG d3;cases pb
     ·have Y:=Hd (show DL a (k+1)=s by rw [g8.o,if_neg AC]);go_wp2;go_roundw
      case rel=>exact ⟨k+1,s,A',c',D',e',AA,AE,Y.o.symm,HXN.o,HQ.o.2 rfl,AbM.nil HCT.o⟩
      case measure=>simp [intOf];omega
     ·obtain ⟨A2,c2,D2,e2,hb9,f5⟩:=HQ.o.1 rfl;have b5:=Hd hb9;have b0:=Hd f5;obtain ⟨y,hy⟩:=eqx (bits .or .i64 r1.kinds p2);obtain ⟨s9,f1⟩:=eqx ({ r1 with kinds:=y });have Y:=Hd (show DL a (k+1)=s9 by rw [g8.o,if_pos rfl,f1,hy,HKK.o]);have g4:=Hd f1;have hor:bits .or .i64 r1.kinds p2=y:=hy.symm;clear hb9 f5 hy f1
      go_upto_region 7 with fail
      refine Qa (λm b=>m=1006/\b=g3) (lk 7 [1006]) ?_;refine Qp ?_;refine Qm (λvals γ w' ρ hR hN hp hρ zs zg=>by
       have hk0:=hN.o.key (k:=1006) AB;have hbx:=b5.o.keep (hR.o.kept0 (S:=λb=>b=g3) λb _ e m hm=>CF);have m0:=hbx.q0;clear hk0 hbx;exact Qk) ?_
      refine Qp ?_;refine Qc (λw'=>HBI.o w') ?_
      iterate 2 refine Qp ?_
      refine Qs (λ_ γ w'=>Blk w' g3 39 #[.I y,.I r1.tx.least,.I r1.tx.most,.I r1.tx.cls,.string r1.tx.b,.string r1.tx.e,.I r1.nu.ln,.I r1.nu.ls,.I r1.nu.hn,.I r1.nu.hs,.I r1.dl,.I r1.dh,.I r1.bo,.I r1.rl,.I r1.rh,.slice A2 r1.cols.length c2,.slice D2 r1.deps.length e2,.bool r1.errs]/\γ 1006=true) ?_ ?_ ?_
      ·rintro l γ wx γ' wy rr ⟨h1,h2⟩;exact Qi
      ·intro vals γ w' ρ hR hN hp hρ zs zg;have hk0:=hN.o.key (k:=1006) AB;have hbx:=b5.o.keep (hR.o.kept0 (S:=λb=>b=g3) λb _ e m hm=>CF);have HB0:=Hd hbx;have HK:=Hd hk0;have q0:=hbx.q0;have qf:=hbx.frozen;have ql:=hbx.lt;clear hk0 hbx;refine Qr ?_;refine ⟨γ.put 1006,H2A HK.o rfl rfl rfl Y78171d3d0 (λb hb hm=>(Only.set (Only.refl g3 w') 0 (.I y)).block b λe=>hm ⟨rfl,e⟩),LK.done AB,?_,AU⟩;have hb1:=HB0.o.set 0 (.I y)
       simpa using hb1
      intro vals γ w10 hR hG;refine Qx ?_;obtain ⟨f7,-⟩:=hG 6 AB;have HBM:=Hd f7;have f4:=f2.o;have HKM:=Hd (hR.kept0 (S:=λb=>((S b/\b<w.heap.size)\/w1.heap.size<=b)/\b≠g3) (λb _ hb m hm=>absurd hm.2 hb.2));have HXM:=Hd (show Ext w1 w10 from Au HXN.o (hR.buts (S:=λb=>b=g3) (λm b _ hm _=>hm.2)) (λb hb=>AA));clear hR hG f7 f4;go_wp2;go_roundw
      case rel =>
       refine ⟨k+1,s9,A2,c2,D2,e2,AA,AE,Y.o.symm,HXM.o,?_,?_⟩
       ·have hbb:=HBM.o;rw [g4.o];exact hbb
       ·rw [g4.o];exact b0.o.keep HKM.o
      case measure=>simp [intOf];omega
  ·obtain rfl:k=6:=AA;have HS6:=Hd (show s=AX a by rw [HS.o,B1A]);have HB2R:=Hd (d5.o.keep (HE.o.kept _))
   go_upto_region 9 with fail
   refine wp_region_lit ?_;refine AJ rfl 39 _ rfl g3 rfl b4.o AS AH ?_;refine AM rfl 39 _ _ rfl g2 (Ap s A' c' D' e') rfl rfl 39 _ HB2R.o AH rfl AD ?_;intro w9 hb9 d9;refine wpList_nil ?_;have hg2l:=d5.o.lt;obtain ⟨HX9,b0,b5⟩:=Hd3 ((HX1.o.trans HE.o).only d9 Bq) (HAB.o.keep (d9.kept (S:=λb=>((S b/\b<w.heap.size)\/w1.heap.size<=b)/\b≠g3) λb _ hb e=>by have:=HG2.o;rcases hb.1 with h|h;(have:=h.2;omega);omega)) hb9;clear hb9 d9 hg2l;go_wp2;refine bodyPost_ret (Bv results47 rfl (Eq b5.o AS AH)) rfl ?_;rw [<-HS6.o];exact ⟨A',c',D',e',rfl,b0.o.mono λb _ hb=>hb.1.imp And.left λh=>by have:=HX1.o.size;omega,HX9.o⟩

def ShN(n:Nat)(a:Sh):Prop:=a.b.size<=n/\a.e.size<=n
theorem IGA(n:Nat):ShN n H3A:=⟨AN,AN⟩
theorem ShN.join{a b:Sh}(ha:ShN n a)(hb:ShN n b):ShN n (BW a b):=by
 unfold BW;split
 ·split
  ·exact IGA n
  ·exact hb
 ·split
  ·exact ha
  ·constructor
   ·show (bA _).size<=n;rw [EH];have h1:=(FK a.B b.B).length_le;have h2:a.B.length=a.b.size:=G6 a;have:=ha.1;omega
   ·show (bA _).size<=n;rw [EH];have h1:=(J8 a.E b.E).length_le;have h2:a.E.length=a.e.size:=F1 a;have:=ha.2;omega
theorem ShN.meet{a b:Sh}(ha:ShN n a)(hb:ShN n b):ShN n (DN a b):=by
 have hm:ShN n (CY a b):=by
  unfold CY;constructor
  ·show (if a.b.size<b.b.size then b.b else a.b).size<=n;split
   ·exact hb.1
   ·exact ha.1
  ·show (if a.e.size<b.e.size then b.e else a.e).size<=n;split
   ·exact hb.2
   ·exact ha.2
 unfold DN;split
 ·exact IGA n
 ·split
  ·exact hm
  ·exact IGA n
theorem AbN.sh(h:AbN n a):ShN 1000000000 a.tx:=⟨h.1,h.2.1⟩
theorem AbN.mono(h:AbN n a)(hm:n<=m):AbN m a:=⟨h.1,h.2.1,Nat.le_trans h.2.2.1 hm,Nat.le_trans h.2.2.2.1 hm,λd hd=>Nat.le_trans (h.2.2.2.2 d hd) hm⟩
theorem U8{α:Type} [DecidableEq α](l:List α):(ddp l).length<=l.length:=by
 exact QO
theorem AbN.can(h:AbN n a):AbN n (AX a):=by
 have h1:=h.sh.join h.sh;have ht:ShN 1000000000 (AX a).tx:=by
  show ShN _ (if pT a=true then BW a.tx a.tx else H3A);split
  ·exact h1
  ·exact IGA _
 refine ⟨ht.1,ht.2,?_,?_,?_⟩
 ·show (if pR a=true then An (ddp a.cols) else []).length<=n;split
  ·rw [WV];exact Nat.le_trans (U8 _) h.2.2.1
  ·exact AN
 ·show (if pR a=true then ddp a.deps else []).length<=n;split
  ·exact Nat.le_trans (U8 _) h.2.2.2.1
  ·exact AN
 ·show ∀ d∈(if pR a=true then ddp a.deps else []),d.frm.length<=n;split
  ·exact λd hd=>h.2.2.2.2 d ((IT _ _).1 hd)
  ·intro d hd;cases hd
theorem BQ(h:qP:=by cases hd):qP:=h
theorem ISA(n:Nat):AbN n noneA:=⟨AN,AN,AN,AN,λd hd=>BQ⟩
theorem AbN.joinRaw(h:AbN n x)(k:AbN m y):AbN (n+m) (F7 x y):=by
 have ht:ShN 1000000000 (BW x.tx y.tx):=h.sh.join k.sh;refine ⟨ht.1,ht.2,?_,?_,?_⟩
 ·show (EE x y).length<=n+m;have:=h.2.2.1;have:=k.2.2.1;unfold EE;split
  ·omega
  ·split
   ·omega
   ·have:=List.length_filter_le (Aw y.cols) x.cols;omega
 ·show (BJ x y).length<=n+m;have:=h.2.2.2.1;have:=k.2.2.2.1;unfold BJ;split
  ·omega
  ·split
   ·omega
   ·have:=List.length_filter_le (V6 y) x.deps;have:=List.length_filter_le (V6 x) y.deps;rw [List.length_append];unfold DK;omega
 ·show ∀ d∈BJ x y,d.frm.length<=n+m;intro d hd;have hh:d∈x.deps\/d∈y.deps:=by
   unfold BJ at hd;split at hd
   ·exact .inr hd
   ·split at hd
    ·exact .inl hd
    ·rcases List.mem_append.1 hd with hd|hd
     ·exact .inl (List.mem_filter.1 hd).1
     ·exact .inr (List.mem_filter.1 hd).1
  rcases hh with hh|hh
  ·have:=h.2.2.2.2 d hh;omega
  ·have:=k.2.2.2.2 d hh;omega
theorem AbN.join(h:AbN n a)(k:AbN m b):AbN (n+m) (Fk a b):=(h.can.joinRaw k.can).can
theorem AbN.meetRaw(h:AbN n x)(k:AbN m y):AbN (n+m) (I1 x y):=by
 have ht:ShN 1000000000 (DN x.tx y.tx):=h.sh.meet k.sh;refine ⟨ht.1,ht.2,?_,?_,?_⟩
 ·show (x.cols++y.cols).length<=n+m;have:=h.2.2.1;have:=k.2.2.1;rw [List.length_append];omega
 ·show (x.deps++y.deps).length<=n+m;have:=h.2.2.2.1;have:=k.2.2.2.1;rw [List.length_append];omega
 ·show ∀ d∈x.deps++y.deps,d.frm.length<=n+m;intro d hd
  rcases List.mem_append.1 hd with hh|hh
  ·have:=h.2.2.2.2 d hh;omega
  ·have:=k.2.2.2.2 d hh;omega
theorem AbN.meet(h:AbN n a)(k:AbN m b):AbN (n+m) (Gq a b):=(h.can.meetRaw k.can).can
theorem CnA(n:Nat):∀ s∈Fz n,s.length<=2:=by
 intro s hs;unfold Fz at hs
 rcases List.mem_append.1 hs with hs|hs
 ·rcases List.mem_append.1 hs with hs|hs
  ·rw [List.mem_singleton.1 hs];simp
  ·obtain ⟨i,_,rfl⟩:=List.mem_map.1 hs;simp
 ·obtain ⟨i,_,hs⟩:=List.mem_flatMap.1 hs;unfold GW at hs;obtain ⟨j,_,rfl⟩:=List.mem_map.1 hs;simp
theorem WA(cols:List BA)(s:List Int)(n:Nat):(Ch cols s n).length<=n:=by
 exact QW
theorem WY(cols:List BA)(rows:List (List Val)):∀ (l:List (List Int)) (st:List (List Int) × List Dep),(∀ s∈l,s.length<=2)->(∀ d∈st.2,d.frm.length<=2)->(∀ d∈(l.foldl (BN cols rows) st).2,d.frm.length<=2)/\(l.foldl (BN cols rows) st).2.length<=st.2.length+l.length*cols.length
 |[],st,_,h=>⟨h,AC⟩
 |s::m,st,hl,h=>by
  rw [List.foldl_cons];have hm:∀ x∈m,x.length<=2:=λx hx=>hl x (List.mem_cons_of_mem _ hx);have hs:(∀ d∈(BN cols rows st s).2,d.frm.length<=2)/\(BN cols rows st s).2.length<=st.2.length+cols.length:=by
   unfold BN;split
   ·exact ⟨h,AA⟩
   ·split
    ·exact ⟨h,AA⟩
    ·refine ⟨λd hd => ?_,?_⟩
     ·rcases List.mem_append.1 hd with hd|hd
      ·exact h d hd
      ·unfold Ch at hd;obtain ⟨c,_,rfl⟩:=List.mem_map.1 hd;show (Dd cols s).length<=2;unfold Dd;rw [List.length_map];exact hl s AC
     ·show (st.2++Ch cols s cols.length).length<=_;rw [List.length_append];have:=WA cols s cols.length;omega
  obtain ⟨g1,g2⟩:=WY cols rows m _ hm hs.1;refine ⟨g1,?_⟩;rw [List.length_cons,Nat.add_mul,Nat.one_mul];omega
theorem GaA(h:n<=8):(Fz n).length<=37:=by
 have:n=0\/n=1\/n=2\/n=3\/n=4\/n=5\/n=6\/n=7\/n=8:=AA
 rcases this with rfl|rfl|rfl|rfl|rfl|rfl|rfl|rfl|rfl<;>decide
theorem Ju(cols:List BA)(rows:List (List Val))(h:cols.length<=8):(Co cols rows).length<=300/\∀ d∈Co cols rows,d.frm.length<=2:=by
 unfold Co;split
 ·exact ⟨AN,λd hd=>BQ⟩
 ·obtain ⟨g1,g2⟩:=WY cols rows (Fz cols.length) ([],[]) (CnA _) (λd hd=>BQ);refine ⟨?_,g1⟩;have h1:=GaA h;have h2:(Fz cols.length).length*cols.length<=37*8:=Nat.mul_le_mul h1 h;have h3:(([],[]):List (List Int) × List Dep).2.length=0:=rfl;omega

def UpN(N:Nat)(v:Value):Prop:=∃ g,v=.pointer (some ⟨g,0,none⟩)/\N<=g
theorem BY{K:Value->World->Prop}(ty:TypeId){x y:Operand}(ho:o.op=.store ty x y)(hx:ρ x=.pointer (some ⟨g,0,none⟩)){cells:Array Value}(hy:ρ y=.agg cells)
  {t:TypeId} {old:Array Value} (hb:Blk w g t old) (hi:(P.info? ty).map (·.size)=some cells.size) (hold:old.size=cells.size) (h1:cells.all (·.oneCell')=true)
  (h:∀ w',Blk w' g t cells->Only g w w'->K undef w'):linUpon P K ((execOp ρ o).run P w):=by
 have hh:K undef (w.setRow g cells):=h _ (setRow_heap w g old cells t _ hb) ⟨rfl,rfl,rfl,setRow_size _ _ _,λb hb=>by
  exact UA⟩
 unfold execOp;simp only [ho,hx,hy,Instr.storeAt,Instr.sureAddr,Sem.run_bind,Sem.run_pure,Result.andThen_ok,run_storeVar_row w g t ty old cells hb hi hold h1];exact hh
theorem Be{a:Act}(hw:Region.wanted o (yielded ops a.tmps)=true)(ty:TypeId)(x:Operand)(ho:o.op=.load ty x)
  (g:Nat) (hx:a.eval x=.pointer (some ⟨g,0,none⟩))  (hb:Blk w g ty cs) (hd:(match P.underlying ty with|some (.struct _)|some (.array _ _)=>true|_=>false)=true) (hi:(P.info? ty).map (·.size)=some cs.size)
  (h:wpList P ops Q rest (a.put o.dst (.agg cs)) w):wpList P ops Q (o::rest) a w:=by
 refine wpList_step λK hK => ?_;rw [if_pos hw];exact TJ
theorem AZ{a:Act}(hw:Region.wanted o (yielded ops a.tmps)=true)(v:Value)(hr:(execOp a.eval o).run P w=.ok (.value v) w')
  (h:wpList P ops Q rest (a.put o.dst v) w'):wpList P ops Q (o::rest) a w:=by
 refine wpList_step λK hK => ?_;rw [if_pos hw];unfold Oper.wp;rw [hr];exact hK _ _ h
def JoP(N:Nat)(T:NP)(s:Abs)(v:Value)(w':World):Prop:=∃ (A:OA) (c:Nat) (D:OA) (e:Nat),v=(Aq s A c D e)/\AbM w' (λb=>T b\/N<=b) s A c D e
abbrev S9(T:Nat->Prop)(N:Nat)(w9:World):Nat->Prop:=λb=>(T b\/N<=b)/\b<w9.heap.size
def FlD(ws:World)(S:NP)(l:List Dep)(v:Value)(γ:Gz)(w':World):Prop:=∃ (A:OA) (c:Nat),v=.slice A l.length c/\l.length<=c/\(γ 1008=false->OwnDs w' ws.heap.size S A c l)
def FlE(ws:World)(S:NP)(l1 l2:List Dep)(p v:Value)(γ:Gz)(w':World):Prop:=∃ (A:OA) (c:Nat) (A2:OA) (c2:Nat),p=.slice A l1.length c/\v=.slice A2 l2.length c2/\l2.length<=c2/\(γ 1008=false->OwnDs w' ws.heap.size S A c l1/\RDeps w' (λb=>(S b\/ws.heap.size<=b)/\ob A≠some b) A2 l2)
def FlF(ws:World)(X:NP)(l:List Dep)(n:Nat)(v:Value)(γ:Gz)(w':World):Prop:=∃ (A:OA) (c:Nat),v=.slice A n c/\γ 1008=true/\OwnDs w' ws.heap.size X A c l
def FlG(n:Nat)(Q:World->Value->Prop)(v:Value)(γ:Gz)(w':World):Prop:=∃ (A:OA) (c:Nat),v=.slice A n c/\Q w' (.slice A n c)/\γ 1010=true
theorem AbM.tov(h:AbM w S a A c D e)(h1:b.cols=a.cols)(h2:b.deps=a.deps):AbM w S b A c D e:=by
 unfold AbM at h|-;rw [h1,h2];exact h
def JoR(g5 N:Nat)(T:NP)(w9 w10:World)(r:Abs)(wx:World):Prop:=∃ (A:OA) (c:Nat) (D:OA) (e:Nat),Blk wx g5 39 (Ap r A c D e)/\AbM wx (λb=>S9 T N w9 b\/w10.heap.size<=b) r A c D e/\Ext w9 wx
def JoB(g N:Nat)(T:NP)(s:Abs)(w':World):Prop:=∃ (A:OA) (c:Nat) (D:OA) (e:Nat),Blk w' g 39 (Ap s A c D e)/\AbM w' (λb=>T b\/N<=b) s A c D e

theorem Iq:(match prog.underlying 29 with|some (.struct _)|some (.array _ _)=>true|_=>false)=true:=by kernel_rfl
theorem GA:(prog.info? 29).map (·.size)=some 7:=by kernel_rfl

def Nv(s:BA):List UInt8:=Lib.itoa (s.size:Int)++[58]++s.data.toList
def V1(a:Sh):List UInt8:=Lib.itoa a.least++[32]++Lib.itoa a.most++[32]++Lib.itoa a.cls++[32]++Nv a.b++[32]++Nv a.e
def V3(r:Rg):List UInt8:=OL r.ln r.ls.toNat++[46,46]++OL r.hn r.hs.toNat
def V9(l h:Int):List UInt8:=Lib.itoa l++[46,46]++Lib.itoa h
theorem GLA(s:BA):bsA s.data.toList=s:=rfl
theorem X7(a:UInt8):(⟨#[a]⟩:BA)=bsA [a]:=rfl
theorem YE(a b:UInt8):(⟨#[a,b]⟩:BA)=bsA [a,b]:=rfl
def I64(n:Int):Prop:=-9223372036854775808<=n/\n<=9223372036854775807
theorem Hq(n:Int)(h:I64 n):(bsA (Lib.itoa n)).size<=21:=Lib.itoa_length_le n h.1 h.2
theorem We(s:BA)(hs:s.size<=1000000):(bsA (Nv s)).size<=1000100:=by
 show (Nv s).length<=1000100;unfold Nv;have h:=Mr s.size AA;have h2:s.data.toList.length=s.size:=rfl;rw [List.length_append,List.length_append,List.length_singleton];omega
theorem Wk(n:Int)(s:Nat)(h:Dz n (s:Int)=true):(bsA (OL n s)).size<=60:=by
 have hv:Bg n s=(n,(s:Int)):=(by simp [Bg,h]);have hrg:=GX n s;rw [hv] at hrg;obtain ⟨-,hs6,U,hn1⟩:=hrg;show (OL n s).length<=60;have O:(Lib.decDigits n.natAbs).length<=21:=(by have h:=Mr n.natAbs AA;rw [Lib.itoa_nonneg] at h;exact h);have h1:(V2 n s).length<=28:=by
  unfold V2;rw [List.length_append,Lib.repeatL_length];simp;omega
 have h2:(XH n s).length<=29:=by
  unfold XH;split
  ·simp;omega
  ·omega
 unfold OL;split
 ·simp;omega
 ·omega
theorem TH(s:BA)(hs:s.size<=1000000)(w:World)(h:Txa w):Cl 165 #[.string s] w (Cu w (bsA (Nv s))):=by
 obtain ⟨z,O⟩:=eqx (bsA (Lib.itoa (s.size:Int)));have HI:=Hd (GC (s.size:Int) AA AA w h);have hil:=Mr s.size AA;have U:z.size<=21:=(by rw [O];exact hil);rw [<-O] at HI;have HZ:=Hd O;clear O hil h
 go_enter func165,ntmps165
 go_wp2_with fail
 refine HI.o.mono ?_;rintro e1 w1 ⟨rfl,hx1⟩;have HX:=Hd hx1;clear hx1
 go_wp2_with fail
 go_ret;refine ⟨?_,HX.o⟩;show Ending.returned (Value.string (z++⟨#[58]⟩++s))=_;rw [HZ.o,X7,Cr];(conv=>lhs;rw [<-GLA s,Cr]);rfl
theorem BSA(a:Sh)(h1:I64 a.least)(h2:I64 a.most)(h3:I64 a.cls)(hb:a.b.size<=1000000)(he:a.e.size<=1000000)(w:World)(h:Txa w):Cl 96 #[(Sq a)] w (Cu w (bsA (V1 a))):=by
 obtain ⟨w0,hw0⟩:=eqx (w.alloc (.cells (Sp a) 32));obtain ⟨g,hg⟩:=eqx w.heap.size;have hx0:Ext w w0:=BS;obtain ⟨Y,HW0,HG,HX0⟩:=Hd4 (show Blk w0 g 32 (Sp a) by rw [hw0,hg];exact Blk.new _ _ _) hw0 hg hx0;obtain ⟨k0,k1,k2,k3,k4⟩:=Hd5 (show w0.cell? ⟨g,0,none⟩=some (.I a.least) from Y.o.q0) (show w0.cell? ⟨g,1,none⟩=some (.I a.most) from Y.o.q1) (show w0.cell? ⟨g,2,none⟩=some (.I a.cls) from Y.o.q2) (show w0.cell? ⟨g,3,none⟩=some (.string a.b) from Y.o.q3) (show w0.cell? ⟨g,4,none⟩=some (.string a.e) from Y.o.q4);obtain ⟨i1,a9⟩:=eqx (bsA (Lib.itoa a.least));have HI1:=Hd (show ∀ w',Ext w0 w'->Cl 99 #[.I a.least] w' (Cu w' i1) from λw' hw'=>by rw [a9];exact GC _ h1.1 h1.2 w' (h.ext (hx0.trans hw')));obtain ⟨O,b0⟩:=eqx (bsA (Lib.itoa a.most));have HI2:=Hd (show ∀ w',Ext w0 w'->Cl 99 #[.I a.most] w' (Cu w' O) from λw' hw'=>by rw [b0];exact GC _ h2.1 h2.2 w' (h.ext (hx0.trans hw')));obtain ⟨U,a8⟩:=eqx (bsA (Lib.itoa a.cls));have HI3:=Hd (show ∀ w',Ext w0 w'->Cl 99 #[.I a.cls] w' (Cu w' U) from λw' hw'=>by rw [a8];exact GC _ h3.1 h3.2 w' (h.ext (hx0.trans hw')));obtain ⟨i4,Z⟩:=eqx (bsA (Nv a.b));have HI4:=Hd (show ∀ w',Ext w0 w'->Cl 165 #[.string a.b] w' (Cu w' i4) from λw' hw'=>by rw [Z];exact TH _ hb w' (h.ext (hx0.trans hw')));obtain ⟨i5,b3⟩:=eqx (bsA (Nv a.e));have HI5:=Hd (show ∀ w',Ext w0 w'->Cl 165 #[.string a.e] w' (Cu w' i5) from λw' hw'=>by rw [b3];exact TH _ he w' (h.ext (hx0.trans hw')));have z1:i1.size<=21:=(by rw [a9];exact Hq _ h1);have z2:O.size<=21:=(by rw [b0];exact Hq _ h2);have z3:U.size<=21:=(by rw [a8];exact Hq _ h3);have z4:i4.size<=1000100:=(by rw [Z];exact We _ hb);have z5:i5.size<=1000100:=(by rw [b3];exact We _ he);have hc1:¬(9223372036854775807<i1.size+1):=AA;have hc2:¬(9223372036854775807<i1.size+1+O.size):=AA;have hc3:¬(9223372036854775807<i1.size+1+O.size+1):=AA;have hc4:¬(9223372036854775807<i1.size+1+O.size+1+U.size):=AA;have hc5:¬(9223372036854775807<i1.size+1+O.size+1+U.size+1):=AA;have hc6:¬(9223372036854775807<i1.size+1+O.size+1+U.size+1+i4.size):=AA;have hc7:¬(9223372036854775807<i1.size+1+O.size+1+U.size+1+i4.size+1):=AA;have hc8:¬(9223372036854775807<i1.size+1+O.size+1+U.size+1+i4.size+1+i5.size):=AA;have HE:=Hd (show i1++⟨#[32]⟩++O++⟨#[32]⟩++U++⟨#[32]⟩++i4++⟨#[32]⟩++i5=bsA (V1 a) by
  rw [a9,b0,a8,Z,b3,X7];simp only [Cr];rfl)
 clear hw0 hg hx0 a9 b0 a8 Z b3 h h1 h2 h3 hb he z1 z2 z3 z4 z5
 go_enter func96,ntmps96
 go_upto_region 1 with fail
 rw [<-HW0.o,<-HG.o];refine Qa (λ_ _=>False) [] ?_
 iterate 2 refine Qp ?_
 refine Qd (λw' HXW=>HI1.o w' HXW.o) ?_
 iterate 3 refine Qp ?_
 refine Qd (λw' HXW=>HI2.o w' HXW.o) ?_
 iterate 4 refine Qp ?_
 refine Qd (λw' HXW=>HI3.o w' HXW.o) ?_
 iterate 2 refine Qp ?_
 intro vals γ w8 hR hG;refine Qx ?_;have HX8:=Hd (show Ext w0 w8 from hR.ext0 (λ_ _ _ h=>h.elim));clear hR hG;obtain ⟨k3',k4',HI4',HI5'⟩:=Hd4 (HX8.o.cell k3.o) (HX8.o.cell k4.o) (λw' (hw':Ext w8 w')=>HI4.o w' (HX8.o.trans hw')) (λw' (hw':Ext w8 w')=>HI5.o w' (HX8.o.trans hw'))
 go_upto_region 2 with fail
 refine Qa (λ_ _=>False) [] ?_
 iterate 4 refine Qp ?_
 refine Qd (λw' HXW=>HI4'.out w' HXW.o) ?_
 iterate 4 refine Qp ?_
 refine Qd (λw' HXW=>HI5'.out w' HXW.o) ?_
 iterate 2 refine Qp ?_
 intro vals γ w9 hR hG;refine Qx ?_;have HX9:=Hd (show Ext w8 w9 from hR.ext0 (λ_ _ _ h=>h.elim));clear hR hG;go_wp2;go_ret;refine ⟨?_,(HX0.o.trans HX8.o).trans HX9.o⟩;rw [<-HE.o];rfl
theorem M7(l n:Int)(h1:I64 l)(h2:I64 n)(w:World)(h:Txa w):Cl 98 #[.agg #[.I l,.I n]] w (Cu w (bsA (V9 l n))):=by
 obtain ⟨w0,hw0⟩:=eqx (w.alloc (.cells #[.I l,.I n] 36));obtain ⟨g,hg⟩:=eqx w.heap.size;have hx0:Ext w w0:=BS;obtain ⟨Z,a8,HG,HX0⟩:=Hd4 (show Blk w0 g 36 #[.I l,.I n] by rw [hw0,hg];exact Blk.new _ _ _) hw0 hg hx0;have k0:=Hd (show w0.cell? ⟨g,0,none⟩=some (.I l) from Z.o.q0);have k1:=Hd (show w0.cell? ⟨g,1,none⟩=some (.I n) from Z.o.q1);obtain ⟨i1,O⟩:=eqx (bsA (Lib.itoa l));have a9:=Hd (show ∀ w',Ext w0 w'->Cl 99 #[.I l] w' (Cu w' i1) from λw' hw'=>by rw [O];exact GC _ h1.1 h1.2 w' (h.ext (hx0.trans hw')));obtain ⟨Y,U⟩:=eqx (bsA (Lib.itoa n));have b0:=Hd (show ∀ w',Ext w0 w'->Cl 99 #[.I n] w' (Cu w' Y) from λw' hw'=>by rw [U];exact GC _ h2.1 h2.2 w' (h.ext (hx0.trans hw')));have z1:i1.size<=21:=(by rw [O];exact Hq _ h1);have z2:Y.size<=21:=(by rw [U];exact Hq _ h2);have b3:¬(9223372036854775807<i1.size+2):=AA;have b4:¬(9223372036854775807<i1.size+2+Y.size):=AA;have HE:=Hd (show i1++⟨#[46,46]⟩++Y=bsA (V9 l n) by
  rw [O,U,YE];simp only [Cr];rfl)
 clear hw0 hg hx0 O U h h1 h2 z1 z2
 go_enter func98,ntmps98
 go_upto_region 1 with fail
 rw [<-a8.o,<-HG.o];refine Qa (λ_ _=>False) [] ?_
 iterate 2 refine Qp ?_
 refine Qd (λw' HXW=>a9.o w' HXW.o) ?_
 iterate 3 refine Qp ?_
 refine Qd (λw' HXW=>b0.o w' HXW.o) ?_
 iterate 2 refine Qp ?_
 intro vals γ w8 hR hG;refine Qx ?_;have HX8:=Hd (show Ext w0 w8 from hR.ext0 (λ_ _ _ h=>h.elim));clear hR hG;go_wp2;go_ret;refine ⟨?_,HX0.o.trans HX8.o⟩;rw [<-HE.o];rfl
theorem Vc(r:Rg)(p q:Nat)(hp:r.ls=p)(hq:r.hs=q)(h1:Dz r.ln r.ls=true)(h2:Dz r.hn r.hs=true)(hem:BF r=false)(w:World)(h:Txa w):Cl 97 #[(Rq r)] w (Cu w (bsA (V3 r))):=by
 obtain ⟨w0,hw0⟩:=eqx (w.alloc (.cells (Rp r) 34));obtain ⟨g,hg⟩:=eqx w.heap.size;have hx0:Ext w w0:=BS;obtain ⟨Z,HW0,HG,HX0⟩:=Hd4 (show Blk w0 g 34 (Rp r) by rw [hw0,hg];exact Blk.new _ _ _) hw0 hg hx0;obtain ⟨k0,k1,k2,k3⟩:=Hd4 (show w0.cell? ⟨g,0,none⟩=some (.I r.ln) from Z.o.q0) (show w0.cell? ⟨g,1,none⟩=some (.I r.ls) from Z.o.q1) (show w0.cell? ⟨g,2,none⟩=some (.I r.hn) from Z.o.q2) (show w0.cell? ⟨g,3,none⟩=some (.I r.hs) from Z.o.q3);obtain ⟨i1,U⟩:=eqx (bsA (OL r.ln r.ls.toNat));obtain ⟨i2,Y⟩:=eqx (bsA (OL r.hn r.hs.toNat));obtain ⟨HI1,HI2,HEM⟩:=Hd3 (show ∀ w',Ext w0 w'->Cl 166 #[.agg #[.I r.ln,.I r.ls]] w' (Cu w' i1) from λw' hw'=>by rw [U,hp];exact KR r.ln p (by rw [<-hp];exact h1) w' (h.ext (hx0.trans hw'))) (show ∀ w',Ext w0 w'->Cl 166 #[.agg #[.I r.hn,.I r.hs]] w' (Cu w' i2) from λw' hw'=>by rw [Y,hq];exact KR r.hn q (by rw [<-hq];exact h2) w' (h.ext (hx0.trans hw'))) (show ∀ w',Ext w0 w'->Cl 156 #[(Rq r)] w' (Ae w' false) from λw' hw'=>by have:=Ct r w' (h.ext (hx0.trans hw')).tens;rw [hem] at this;exact this);have z1:i1.size<=60:=(by rw [U];have:=h1;rw [hp] at this|-;exact Wk _ _ this);have z2:i2.size<=60:=(by rw [Y];have:=h2;rw [hq] at this|-;exact Wk _ _ this);have hc1:¬(9223372036854775807<i1.size+2):=AA;have hc2:¬(9223372036854775807<i1.size+2+i2.size):=AA;have HE:=Hd (show i1++⟨#[46,46]⟩++i2=bsA (V3 r) by
  rw [U,Y,YE];simp only [Cr];rfl)
 have c0:=k0.o;have c1:=k1.o;have c2:=k2.o;have c3:=k3.o;clear hw0 hg hx0 U Y h h1 h2 hem z1 z2 hp hq
 go_enter func97,ntmps97
 go_upto_region 1 with fail
 rw [<-HW0.o,<-HG.o]
 go_wp2_with fail
 refine (HEM.o _ (Ext.refl _)).mono ?_;rintro e1 w7 ⟨rfl,O⟩;obtain ⟨HX7,k0',k1',k2',k3'⟩:=Hd5 O (O.cell k0.o) (O.cell k1.o) (O.cell k2.o) (O.cell k3.o);have HI1':=Hd (λw' (hw':Ext w7 w')=>HI1.o w' (HX7.o.trans hw'));have HI2':=Hd (λw' (hw':Ext w7 w')=>HI2.o w' (HX7.o.trans hw'));clear O c0 c1 c2 c3
 go_upto_region 3 with fail
 refine Qa (λ_ _=>False) [] ?_
 iterate 2 refine Qp ?_
 refine Qd (λw' HXW=>HI1'.out w' HXW.o) ?_
 iterate 3 refine Qp ?_
 refine Qd (λw' HXW=>HI2'.out w' HXW.o) ?_
 iterate 2 refine Qp ?_
 intro vals γ w8 hR hG;refine Qx ?_;have HX8:=Hd (show Ext w7 w8 from hR.ext0 (λ_ _ _ h=>h.elim));clear hR hG;go_wp2;go_ret;refine ⟨?_,(HX0.o.trans HX7.o).trans HX8.o⟩;rw [<-HE.o];rfl

theorem GK(h:g=w.heap.size):Blk (w.alloc (.cells Az 39)) g 39 Az:=by
 rw [h];exact Blk.new _ _ _
