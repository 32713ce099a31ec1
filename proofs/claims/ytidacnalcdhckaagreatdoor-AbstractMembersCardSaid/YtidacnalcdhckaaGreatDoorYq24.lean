/- Lemmas. No conditions. -/
import Derived.Test.YtidacnalcdhckaaGreatDoorYq23
set_option maxRecDepth 100000
set_option maxHeartbeats 4000000
namespace Go.Proofs.YtidacnalcdhckaaGreatDoor
open Go Go.RowKit Tryz
variable {qP:Prop}

def HdA(v:Val):Value:=.agg #[.I v.kind,.string v.s,.I v.dn,.I v.ds,.I v.n,.slice none 0 0,.slice none 0 0]
def G0A(w:World)(o:Option Val)(e:Ending)(w':World):Prop:=e=.returned (.tuple #[HdA (o.getD Val.zero),.bool o.isSome])/\Ext w w'
def Do(c:Abs):Option Val :=
 if c.errs=true then none
 else if c.kinds=2 then (if c.tx.least=c.tx.b.size/\c.tx.most=c.tx.b.size then some ⟨1,c.tx.b,0,0,0,[],[]⟩ else none)
 else if c.kinds=4 then (if c.nu.ln=c.nu.hn/\c.nu.ls=c.nu.hs then some ⟨2,⟨#[]⟩,c.nu.ln,c.nu.ls,0,[],[]⟩ else none)
 else if c.kinds=8 then (if c.dl=c.dh then some ⟨3,⟨#[]⟩,0,0,c.dl,[],[]⟩ else none)
 else if c.kinds=16 then (if c.bo≠3 then some ⟨4,⟨#[]⟩,0,0,c.bo-1,[],[]⟩ else none)
 else none
theorem DGA(a:Abs):Cp a=Do (AX a):=rfl
theorem GRA{a:Abs}(h:(AX a).kinds=16):1<=(AX a).bo/\(AX a).bo<=3:=by
 have:=D3A (FSA a) (by rw [h];decide);omega
theorem EJ(h:qP:=by
 iterate 7 with_reducible refine Ext.set2 ?_ HG2L.o _
 with_reducible exact HX2.o):qP:=h
theorem SV(h:qP:=by
 go_wp2_with fail
 refine bodyPost_ret (v:=.tuple #[.agg Vz,.bool false]) (by simp [results,results14,go_sem,v0,v1,v2,v3,v4,v5,v6]) rfl ⟨?_,?_⟩
 ·rw [HF.o];rfl
 ·exact EJ):qP:=h
theorem I4(h:qP:=by
 rintro ee wz ⟨rfl,rfl⟩;exact SV):qP:=h
theorem QT(h:qP:=by
 clear ha
 go_wp2_with fail
 refine (HT1.o _).mono ?_;exact I4):qP:=h
theorem TU(h:qP:=by
 clear ha
 go_wp2_with fail
 refine (HT1.o _).mono ?_;rintro ee wz ⟨rfl,rfl⟩
 go_wp2_with fail
 refine (HT2.o _).mono ?_;exact I4):qP:=h
theorem EP(h:qP:=by simp [results,results14,go_sem,v0,v1,v2,v3,v4,v5,v6]):qP:=h
theorem JS(a:Abs)(A D:OA)(c e:Nat)(w:World)(S:NP)(hA:Strs w S A a.cols)(hD:RDeps w S D a.deps)(ht:Tens w)(hz:AbN 1000000 a) :
  Cl 14 #[(Aq a A c D e)] w (G0A w (Cp a)):=by
 obtain ⟨w0,hw0⟩:=eqx ((w.alloc (.cells (Ap a A c D e) 39)).alloc (.cells Vz 29));obtain ⟨g1,hg1⟩:=eqx w.heap.size;obtain ⟨g2,hg2⟩:=eqx (w.heap.size+1);have hx0:Ext w w0:=Bh;have hb1:Blk w0 g1 39 (Ap a A c D e):=Ic;have hb2:Blk w0 g2 29 Vz:=(by rw [hw0,hg2];exact H6A _ _ _ _);obtain ⟨b5,b8,HG2,HB1,HB2,HX0,HC⟩:=Hd7 hw0 hg1 hg2 hb1 hb2 hx0 (As a A D c e w0 S (hA.keep (hx0.kept _)) (hD.keep (hx0.kept _)) (ht.ext hx0) hz);obtain ⟨s,hs⟩:=eqx (AX a);obtain ⟨U,b6,HG2L⟩:=Hd3 (show Cp a=Do s by rw [hs];exact DGA a) (show s.kinds=16->1<=s.bo/\s.bo<=3 from λh=>by rw [hs] at h|-;exact GRA h) (show w.heap.size<=g2 by omega);rw [<-hs] at HC;clear hw0 hg1 hg2 hb1 hb2 hx0 hA hD ht hz hs
 go_enter func14,ntmps14
 go_upto_region 1 with fail
 rw [<-b5.o,<-HG2.o,<-b8.o];refine wp_region_lit ?_;refine AJ rfl 39 _ rfl g1 rfl HB1.o AS AH ?_
 go_wp2_with fail
 refine HC.o.mono ?_;rintro e1 w1 ⟨A',c',D',e',rfl,-,hx1⟩;have HX1:=Hd (HX0.o.trans hx1);have b4:=Hd (HB2.o.keep (hx1.kept _));clear hx1;rename_i K1 hK1 K2 hK2;refine hK2 _ _ ?_;refine Ag rfl rfl ?_;obtain ⟨g3,hg3⟩:=eqx w1.heap.size;rw [<-hg3];refine AM rfl 39 _ _ rfl g3 (Ap s A' c' D' e') rfl rfl 39 _ (GK hg3) AH rfl AD ?_;intro w2 O b0;have hx2:Ext w1 w2:=(exaa w1).only b0 GI;have HX2:=Hd (HX1.o.trans hx2);have hb2:=b4.o.keep (hx2.kept _);obtain ⟨q0,q1,q2⟩:=O.qs3;have q4:=O.q4;have q6:=O.q6;have q7:=O.q7;have q8:=O.q8;have q9:=O.q9;have q10:=O.q10;have q11:=O.q11;have q12:=O.q12;have q17:w2.cell? ⟨g3,17,none⟩=some (.bool s.errs):=O.q17;obtain ⟨v0,v1,v2,v3,v4,v5,v6⟩:=hb2.qs7;have vf:=hb2.frozen;have vl:=hb2.lt;obtain ⟨HT1,HT2,Z,a9⟩:=Hd4 (show ∀ w',Cl 48 #[.I 1] w' (Bk w' 2) from λw'=>At 1 AA w') (show ∀ w',Cl 48 #[.I 2] w' (Bk w' 4) from λw'=>At 2 AA w') (show ∀ w',Cl 48 #[.I 3] w' (Bk w' 8) from λw'=>At 3 AA w') (show ∀ w',Cl 48 #[.I 4] w' (Bk w' 16) from λw'=>At 4 AA w');refine hK1 _ _ ?_;clear hK1 hK2 O hb2 b0 hx2 hg3;cases he:s.errs
 case true =>
  have HF:=Hd (show Cp a=none by rw [U.o];unfold Do;simp [he]);exact SV
 by_cases h2:s.kinds=2
 case pos =>
  by_cases ha:s.tx.least=s.tx.b.size/\s.tx.most=s.tx.b.size
  case pos =>
   obtain ⟨Y,a8⟩:=ha;have HF:=Hd (show Cp a=some ⟨1,s.tx.b,0,0,0,[],[]⟩ by rw [U.o];unfold Do;simp [he,h2,Y,a8])
   go_wp2_with fail
   refine (HT1.o _).mono ?_;rintro ee wz ⟨rfl,rfl⟩
   go_wp2_with fail
   refine bodyPost_ret (v:=.tuple #[.agg #[.I 1,.string s.tx.b,.I 0,.I 0,.I 0,.slice none 0 0,.slice none 0 0],.bool true]) EP rfl ⟨?_,?_⟩
   ·rw [HF.o];rfl
   ·exact EJ
  case neg =>
   have HF:=Hd (show Cp a=none by rw [U.o];unfold Do;rw [if_neg De,if_pos h2,if_neg ha]);by_cases Y:s.tx.least=s.tx.b.size
   ·have a8:¬s.tx.most=s.tx.b.size:=λh=>ha ⟨Y,h⟩;exact QT
   ·exact QT
 by_cases h4:s.kinds=4
 case pos =>
  by_cases ha:s.nu.ln=s.nu.hn/\s.nu.ls=s.nu.hs
  case pos =>
   obtain ⟨Y,a8⟩:=ha;have HF:=Hd (show Cp a=some ⟨2,⟨#[]⟩,s.nu.hn,s.nu.hs,0,[],[]⟩ by rw [U.o];unfold Do;simp [he,h4,Y,a8])
   go_wp2_with fail
   refine (HT1.o _).mono ?_;rintro ee wz ⟨rfl,rfl⟩
   go_wp2_with fail
   refine (HT2.o _).mono ?_;rintro ee wz ⟨rfl,rfl⟩
   go_wp2_with fail
   refine bodyPost_ret (v:=.tuple #[.agg #[.I 2,.string ⟨#[]⟩,.I s.nu.hn,.I s.nu.hs,.I 0,.slice none 0 0,.slice none 0 0],.bool true]) EP rfl ⟨?_,?_⟩
   ·rw [HF.o];rfl
   ·exact EJ
  case neg =>
   have HF:=Hd (show Cp a=none by rw [U.o];unfold Do;rw [if_neg De,if_neg h2,if_pos h4,if_neg ha]);by_cases Y:s.nu.ln=s.nu.hn
   ·have a8:¬s.nu.ls=s.nu.hs:=λh=>ha ⟨Y,h⟩;exact TU
   ·exact TU
 by_cases h8:s.kinds=8
 case pos =>
  by_cases ha:s.dl=s.dh
  case pos =>
   have HF:=Hd (show Cp a=some ⟨3,⟨#[]⟩,0,0,s.dh,[],[]⟩ by rw [U.o];unfold Do;simp [he,h8,ha])
   go_wp2_with fail
   refine (HT1.o _).mono ?_;rintro ee wz ⟨rfl,rfl⟩
   go_wp2_with fail
   refine (HT2.o _).mono ?_;rintro ee wz ⟨rfl,rfl⟩
   go_wp2_with fail
   refine (Z.o _).mono ?_;rintro ee wz ⟨rfl,rfl⟩
   go_wp2_with fail
   refine bodyPost_ret (v:=.tuple #[.agg #[.I 3,.string ⟨#[]⟩,.I 0,.I 0,.I s.dh,.slice none 0 0,.slice none 0 0],.bool true]) EP rfl ⟨?_,?_⟩
   ·rw [HF.o];rfl
   ·exact EJ
  case neg =>
   have HF:=Hd (show Cp a=none by rw [U.o];unfold Do;simp [he,h8,ha])
   go_wp2_with fail
   refine (HT1.o _).mono ?_;rintro ee wz ⟨rfl,rfl⟩
   go_wp2_with fail
   refine (HT2.o _).mono ?_;rintro ee wz ⟨rfl,rfl⟩
   go_wp2_with fail
   refine (Z.o _).mono ?_;exact I4
 by_cases h16:s.kinds=16
 case pos =>
  have b9:=b6.o h16;by_cases ha:s.bo=3
  case pos =>
   have HF:=Hd (show Cp a=none by rw [U.o];unfold Do;simp [he,h16,ha])
   go_wp2_with fail
   refine (HT1.o _).mono ?_;rintro ee wz ⟨rfl,rfl⟩
   go_wp2_with fail
   refine (HT2.o _).mono ?_;rintro ee wz ⟨rfl,rfl⟩
   go_wp2_with fail
   refine (Z.o _).mono ?_;rintro ee wz ⟨rfl,rfl⟩
   go_wp2_with fail
   refine (a9.o _).mono ?_;exact I4
  case neg =>
   have b3:s.bo=1\/s.bo=2:=AA;clear b9
   rcases b3 with hb|hb
   ·have b7:IntKind.i64.wrap 1=1:=rfl;have HF:=Hd (show Cp a=some ⟨4,⟨#[]⟩,0,0,0,[],[]⟩ by rw [U.o];unfold Do;simp [he,h16,hb])
    go_wp2_with fail
    refine (HT1.o _).mono ?_;rintro ee wz ⟨rfl,rfl⟩
    go_wp2_with fail
    refine (HT2.o _).mono ?_;rintro ee wz ⟨rfl,rfl⟩
    go_wp2_with fail
    refine (Z.o _).mono ?_;rintro ee wz ⟨rfl,rfl⟩
    go_wp2_with fail
    refine (a9.o _).mono ?_;rintro ee wz ⟨rfl,rfl⟩
    go_wp2_with fail
    refine bodyPost_ret (v:=.tuple #[.agg #[.I 4,.string ⟨#[]⟩,.I 0,.I 0,.I 0,.slice none 0 0,.slice none 0 0],.bool true]) EP rfl ⟨?_,?_⟩
    ·rw [HF.o];rfl
    ·exact EJ
   ·have b7:IntKind.i64.wrap 2=2:=rfl;have HF:=Hd (show Cp a=some ⟨4,⟨#[]⟩,0,0,1,[],[]⟩ by rw [U.o];unfold Do;simp [he,h16,hb])
    go_wp2_with fail
    refine (HT1.o _).mono ?_;rintro ee wz ⟨rfl,rfl⟩
    go_wp2_with fail
    refine (HT2.o _).mono ?_;rintro ee wz ⟨rfl,rfl⟩
    go_wp2_with fail
    refine (Z.o _).mono ?_;rintro ee wz ⟨rfl,rfl⟩
    go_wp2_with fail
    refine (a9.o _).mono ?_;rintro ee wz ⟨rfl,rfl⟩
    go_wp2_with fail
    refine bodyPost_ret (v:=.tuple #[.agg #[.I 4,.string ⟨#[]⟩,.I 0,.I 0,.I 1,.slice none 0 0,.slice none 0 0],.bool true]) EP rfl ⟨?_,?_⟩
    ·rw [HF.o];rfl
    ·exact EJ
 have HF:=Hd (show Cp a=none by rw [U.o];unfold Do;rw [if_neg De,if_neg h2,if_neg h4,if_neg h8,if_neg h16])
 go_wp2_with fail
 refine (HT1.o _).mono ?_;rintro ee wz ⟨rfl,rfl⟩
 go_wp2_with fail
 refine (HT2.o _).mono ?_;rintro ee wz ⟨rfl,rfl⟩
 go_wp2_with fail
 refine (Z.o _).mono ?_;rintro ee wz ⟨rfl,rfl⟩
 go_wp2_with fail
 refine (a9.o _).mono ?_;rintro ee wz ⟨rfl,rfl⟩
 go_wp2_with fail
 refine bodyPost_ret (v:=.tuple #[.agg Vz,.bool false]) EP rfl ⟨?_,?_⟩
 ·rw [HF.o];rfl
 ·exact EJ

theorem Gr(h:qP:=by rw [hw0,hg2];exact (Blk.new _ _ _).keep ((exaa _).kept _)):qP:=h
theorem FW(h:qP:=by rw [hw0,hg3];exact H6A _ _ _ _):qP:=h
theorem I9(q:Nat)(a:Abs)(x:Val)(A D B C:OA)(c e cb cc:Nat)(w:World)(S T:NP)(hA:Strs w S A a.cols)(hD:RDeps w S D a.deps)(hx:RV w T q x B C) :
  Cl 54 #[(Aq a A c D e),(Vq x B cb C cc)] w (Ae w (ED a x)):=by
 obtain ⟨w0,hw0⟩:=eqx ((w.alloc (.cells (Ap a A c D e) 39)).alloc (.cells (Vp x B cb C cc) 29));obtain ⟨g2,hg2⟩:=eqx w.heap.size;obtain ⟨g3,hg3⟩:=eqx (w.heap.size+1);have hx0:Ext w w0:=Bh;have hb2:Blk w0 g2 39 (Ap a A c D e):=Gr;have a8:Blk w0 g3 29 (Vp x B cb C cc):=FW;have q13:=hb2.q13;have q14:=hb2.q14;have q15:w0.cell? ⟨g2,15,none⟩=some (.slice A a.cols.length c):=hb2.q15;have q16:w0.cell? ⟨g2,16,none⟩=some (.slice D a.deps.length e):=hb2.q16;have p5:=a8.q5;have p6:w0.cell? ⟨g3,6,none⟩=some (.slice C x.rows.length cc):=a8.q6;obtain ⟨HW0,HG2,HG3,HX0,HA,HD,HV,HP5⟩:=Hd8 hw0 hg2 hg3 hx0 (hA.keep (hx0.kept _)) (hD.keep (hx0.kept _)) (hx.keep (hx0.kept _)) p5;have HP6:=Hd p6;have hal:=hA.2.1;have hdl:=hD.1;obtain ⟨Y,hnr⟩:=eqx x.rows.length;have HT:=Hd (show ED a x=(decide (a.rl<=(Y:Int))&&decide ((Y:Int)<=a.rh)&&a.cols.all (Aw x.cols)&&a.deps.all λd=>BH x.cols x.rows d.frm d.tov) by rw [hnr];rfl);have HNR:=Hd hnr;rw [<-hnr] at p6;clear hw0 hg2 hg3 hx0 hb2 a8 hA hD hx hnr
 go_enter func54,ntmps54
 go_upto_region 1 with fail
 rw [<-HW0.o,<-HG3.o,<-HG2.o];by_cases h1:a.rl<=(Y:Int)
 case neg =>
  have h1':(Y:Int)<a.rl:=AA;have HF:=Hd (show ED a x=false by rw [HT.o,decide_eq_false h1];rfl);go_wp2;exact Gi
 have h1':¬(Y:Int)<a.rl:=AA;by_cases h2:(Y:Int)<=a.rh
 case neg =>
  have h2':a.rh<(Y:Int):=AA;have HF:=Hd (show ED a x=false by rw [HT.o,decide_eq_false h2,Bool.and_false];rfl);go_wp2;exact Gi
 have h2':¬a.rh<(Y:Int):=AA;have HT2:=Hd (show ED a x=(a.cols.all (Aw x.cols)&&a.deps.all λd=>BH x.cols x.rows d.frm d.tov) by rw [HT.o,decide_eq_true h1,decide_eq_true h2];rfl);clear h1 h2;go_wp2
 go_loop [28] (λi=>∃ k:Nat,k<=a.cols.length/\i=.I k/\∀ j (h:j<a.cols.length),j<k->Aw x.cols a.cols[j]=true) (λi=>a.cols.length-(intOf i).toNat)
 case atStart=>exact ⟨0,AN,rfl,AK⟩
 case round =>
  obtain ⟨k,hk,rfl,hall⟩:=hrel;have HAL:=Hd hall;clear hall;by_cases hlt:k<a.cols.length
  ·obtain ⟨b1,o1,rfl,z1,c1⟩:=HA.o.at_ hlt;have HC:=Hd (λw' (hw':Ext w0 w')=>Bu B cb x.cols a.cols[k] w' T (HV.o.strs.keep (hw'.kept _)));cases hm:Aw x.cols a.cols[k]
   ·rw [hm] at HC;have HF:=Hd (show ED a x=false by rw [HT2.o,CX a.cols (Aw x.cols) k hlt hm];rfl);clear hm
    go_wp2_with fail
    refine (HC.o _ (Ext.refl _)).mono ?_;rintro ee w' ⟨rfl,rfl⟩
    go_wp2_with fail
    exact Gi
   ·rw [hm] at HC;have HM:=Hd hm;clear hm
    go_wp2_with fail
    refine (HC.o _ (Ext.refl _)).mono ?_;rintro ee w' ⟨rfl,rfl⟩
    go_wp2_with fail
    go_round
    case rel =>
     refine ⟨k+1,AA,AE,λj h hj => ?_⟩;by_cases hjk:j=k
     ·subst hjk;exact HM.o
     ·exact HAL.o j h AA
    case measure=>simp [intOf];omega
  ·have b0:=Hd (show ED a x=(a.deps.all λd=>BH x.cols x.rows d.frm d.tov) by rw [HT2.o,CH a.cols (Aw x.cols) (λj h=>HAL.o j h AA),Bool.true_and]);go_wp2
   go_loopw [41] (λi wr=>∃ k:Nat,k<=a.deps.length/\i=.I k/\Ext w0 wr/\∀ j (h:j<a.deps.length),j<k->(λd:Dep=>BH x.cols x.rows d.frm d.tov) a.deps[j]=true) (λi _=>a.deps.length-(intOf i).toNat)
   case atStart=>exact ⟨0,AN,rfl,Ext.refl _,AK⟩
   case round =>
    clear p5 p6 q13 q14 q15 q16;obtain ⟨m,hm,rfl,hext,hall⟩:=hrel;have HE:=Hd hext;have HDL:=Hd hall;clear hall;by_cases hlm:m<a.deps.length
    ·obtain ⟨b1,o1,B1,e1,he,z1,c1,c2,f1,f2,f3⟩:=(HD.o.keep (hext.kept _)).at_ hlm;subst he;obtain ⟨d,hd⟩:=eqx (a.deps[m]);rw [<-hd] at c1 c2 f1 f2 f3;have p5:=hext.cell HP5.o;have p6:=hext.cell HP6.o;obtain ⟨wv,Z⟩:=eqx (wr.alloc (.cells #[.slice B1 d.frm.length e1,.string d.tov] 69));have O:Ext wr wv:=(by rw [Z];exact (Ext.refl wr).alloc _);have b3:Blk wv wr.heap.size 69 #[.slice B1 d.frm.length e1,.string d.tov]:=(by rw [Z];exact Blk.new _ _ _);obtain ⟨r0,r1⟩:=b3.qs2;have p5':=O.cell p5;have p6':=O.cell p6;have hxx:=hext.trans O;obtain ⟨HH,HWV,HXV,HXW,a9⟩:=Hd5 (Xp q x.cols x.rows d.frm d.tov B C B1 cb cc e1 wv T T S (HV.o.strs.keep (hxx.kept _)) (HV.o.rows_.keep (hxx.kept _)) (f3.keep (O.kept _))) Z (HX0.o.trans hxx) hxx hd;clear Z O b3 hxx f1 f2 f3 hd hext
     go_upto_region 12 with fail
     rw [<-HWV.o];clear p5 p6 c1 c2;cases hh:BH x.cols x.rows d.frm d.tov
     ·rw [hh] at HH;have HF:=Hd (show ED a x=false by rw [b0.o];exact CX a.deps (λd=>BH x.cols x.rows d.frm d.tov) m hlm (by rw [<-a9.o];exact hh));clear hh
      go_wp2_with fail
      refine HH.o.mono ?_;rintro ee w' ⟨rfl,U⟩;have HXL:=Hd (HXV.o.trans U);clear U
      go_wp2_with fail
      go_ret;exact ⟨BB,HXL.o⟩
     ·rw [hh] at HH;have HM:=Hd hh;clear hh
      go_wp2_with fail
      refine HH.o.mono ?_;rintro ee w' ⟨rfl,U⟩;have HXL:=Hd (HXW.o.trans U);clear U
      go_wp2_with fail
      go_roundw
      case rel =>
       refine ⟨m+1,AA,AE,HXL.o,λj h hj => ?_⟩;by_cases hjk:j=m
       ·subst hjk;have:=HM.o;rw [a9.o] at this;exact this
       ·exact HDL.o j h AA
      case measure=>simp [intOf];omega
    ·have HF:=Hd (show ED a x=true by rw [b0.o];exact CH a.deps (λd=>BH x.cols x.rows d.frm d.tov) (λj h=>HDL.o j h AA));clear hext;go_wp2;go_ret;exact ⟨BB,HX0.o.trans HE.o⟩

theorem GOA{v:Val}(hr:BC v=true)(hk:v.kind=4):v.n=0\/v.n=1:=Gx hr hk
theorem KX(h:qP:=by
 go_wp2_with fail
 exact Uj):qP:=h
theorem QR(h:qP:=by
 go_wp2_with fail
 refine HC.o.mono ?_;rintro e2 w2 ⟨rfl,hx2⟩;have HX2:=Hd (HXF.o.trans hx2);clear hx2;exact LS):qP:=h
theorem QE(h:qP:=by
 clear hk1 hk2;exact QR):qP:=h
theorem RZ(h:qP:=by
 go_upto_region 15 with fail
 refine Qa (λ_ _=>False) [] ?_
 iterate 8 refine Qp ?_
 intro vals γ w9 hR hG;refine Qx ?_;have HXM:=Hd (show Ext wx w9 from hR.ext0 (λ_ _ _ h=>h.elim));clear hR hG;have HXG:=Hd (HXF.o.trans HXM.o)
 go_wp2_with fail
 go_ret;exact ⟨by rw [HF.o,<-HBZ.o];rfl,HXG.o⟩):qP:=h
theorem B3(q:Nat)(a:Abs)(x:Val)(A D B C:OA)(c e cb cc:Nat)(w:World)(S T:NP)(hA:Strs w S A a.cols)(hD:RDeps w S D a.deps)(hx:RV w T q x B C)(hcap:x.cols.length<=cb)(ht:Tens w)(hz:AbN 1000000 a) :
  Cl 17 #[(Aq a A c D e),(Vq x B cb C cc)] w (Ae w (AW a x)):=by
 obtain ⟨d9,d7,-⟩:=hz;obtain ⟨w0,hw0⟩:=eqx ((w.alloc (.cells (Ap a A c D e) 39)).alloc (.cells (Vp x B cb C cc) 29));obtain ⟨g2,hg2⟩:=eqx w.heap.size;obtain ⟨g3,hg3⟩:=eqx (w.heap.size+1);have hx0:Ext w w0:=Bh;have hb2:Blk w0 g2 39 (Ap a A c D e):=Gr;have b7:Blk w0 g3 29 (Vp x B cb C cc):=FW;obtain ⟨p0,p1,p2,p3,p4,p5,p6⟩:=b7.qs7;obtain ⟨HB2,HB3,d6,HG2,HG3,HX0,HA,HD⟩:=Hd8 hb2 b7 hw0 hg2 hg3 hx0 (hA.keep (hx0.kept _)) (hD.keep (hx0.kept _));have HV:=Hd (hx.keep (hx0.kept _));have HT:=Hd (ht.ext hx0);have hss:=hx.size;have a9:=Hd (Nx q x B C cb cc w0 T (hx.keep (hx0.kept _)) hcap);clear hw0 hg2 hg3 hx0 hb2 b7 hA hD hx ht hcap
 go_enter func17,ntmps17
 go_upto_region 1 with fail
 rw [<-d6.o,<-HG3.o,<-HG2.o]
 go_wp2_with fail
 cases hr:BC x
 ·have HF:=Hd (show AW a x=false by unfold AW;rw [hr];rfl);rw [hr] at a9;clear hr;refine a9.o.mono ?_;rintro e1 w1 ⟨rfl,hx1⟩;have HX1:=Hd (HX0.o.trans hx1);clear hx1 p0 p1 p2 p3 p4 p5 p6;exact KX
 have HR:=Hd hr;rw [hr] at a9;clear hr;refine a9.o.mono ?_;rintro e1 w1 ⟨rfl,hx1⟩;have HX1:=Hd (HX0.o.trans hx1);have HXA:=Hd hx1;clear hx1 p0 p1 p2 p3 p4 p5 p6;have b3:=Hd (HB2.o.keep (HXA.o.kept _));have b8:=Hd (HB3.o.keep (HXA.o.kept _));have p0:=b8.o.q0;by_cases hk0:x.kind=0
 ·have q17:w1.cell? ⟨g2,17,none⟩=some (.bool a.errs):=b3.o.q17;have hkk:(x.kind==0)=true:=(by rw [hk0];rfl);have HF:=Hd (show AW a x=a.errs by unfold AW;rw [HR.o,if_pos hk0];rfl);exact KX
 have d8:(x.kind==0)=false:=(by simpa using hk0);obtain ⟨k,hk⟩:∃ k:Nat,x.kind=(k:Int):=⟨x.kind.toNat,by rcases Dh HR.o with h|h|h|h|h|h<;>rw [h]<;>rfl⟩;have hk5:1<=k/\k<=5:=(by rcases Dh HR.o with h|h|h|h|h|h<;>omega);obtain ⟨p2,hp2⟩:=eqx ((2^k:Nat):Int);have HBI:=Hd (show ∀ w',Cl 48 #[.I x.kind] w' (Bk w' p2) from λw'=>by rw [hp2,hk];exact At k AA w');have Y:=Mp a.kinds k AA;rw [<-hp2] at Y;obtain ⟨y,hy⟩:=eqx (bits .and .i64 a.kinds p2);rw [<-hy] at Y;obtain ⟨b0,HK,d4⟩:=Hd3 Y hk hk5;have hbx:bits .and .i64 a.kinds p2=y:=hy.symm;obtain ⟨a8,k0,l0⟩:=Hd3 (show AW a x=Ha a x by unfold AW;rw [HR.o,if_neg hk0];rfl) (b3.o.q0) (b8.o.q0);clear Y hp2 hy hk hk5;by_cases hyz:y=0
 ·have HX0:=Hd (show (y==0)=true by rw [hyz];rfl);have HF:=Hd (show AW a x=false by
   have hb:bt a.kinds k=false:=(by rw [<-b0.o,hyz];rfl);have hkk:=HK.o;have hh:=d4.o;rw [a8.o];unfold Ha
   rcases (show k=1\/k=2\/k=3\/k=4\/k=5 by omega) with h | h | h | h | h<;>subst h<;>simp [hkk,hb])
  clear hyz
  go_upto_region 5 with fail
  refine Qa (λ_ _=>False) [] ?_
  iterate 4 refine Qp ?_
  refine Qc (λw'=>HBI.o w') ?_;refine Qp ?_;refine Qm (λvals γ w' ρ hR hN hp hρ zs zg=>by
   exact IN) ?_
  intro vals γ w9 hR hG;refine Qx ?_;have HXN:=Hd (show Ext w1 w9 from hR.ext0 (λ_ _ _ h=>h.elim));clear hR hG;have HXF:=Hd (HX1.o.trans HXN.o)
  go_wp2_with fail
  go_ret;exact ⟨BB,HXF.o⟩
 have d5:=HX0;have HB:=Hd (show bt a.kinds k=true by rw [<-b0.o];simpa using hyz);clear HX0;have HX0:=Hd (show (y==0)=false by simpa using hyz);clear hyz
 go_upto_region 5 with fail
 refine Qa (λ_ _=>False) [] ?_
 iterate 4 refine Qp ?_
 refine Qc (λw'=>HBI.o w') ?_;refine Qp ?_;refine Qm (λvals γ w' ρ hR hN hp hρ zs zg=>by
  exact IN) ?_
 intro vals γ w9 hR hG;refine Qx ?_;have HXN:=Hd (show Ext w1 w9 from hR.ext0 (λ_ _ _ h=>h.elim));clear hR hG;obtain ⟨wx,b4⟩:=eqx w9;rw [<-b4];have HXW:=Hd (show Ext w0 wx by rw [b4];exact HXA.o.trans HXN.o);obtain ⟨HXF,O,U⟩:=Hd3 (d5.out.trans HXW.o) (HB2.o.keep (HXW.o.kept _)) (HB3.o.keep (HXW.o.kept _));clear b4 p0 hbx;have p0:=U.o.q0;have hk1:=HK.o;have hk2:=d4.o
 rcases (show k=1\/k=2\/k=3\/k=4\/k=5 by omega) with h|h|h|h|h
 ·subst h;have Z:x.kind=1:=hk1;have HF:=Hd (show AW a x=Aj a.tx x.s by rw [a8.o];unfold Ha;rw [if_pos Z,HB.o];rfl);have HC:=Hd (U0 a.tx x.s AA AA hss wx);have q1:=O.o.q1;have q2:=O.o.q2;have q3:=O.o.q3;have q4:=O.o.q4;have q5:=O.o.q5;have p1:=U.o.q1;exact QE
 ·subst h;have Z:x.kind=2:=hk1;have HF:=Hd (show AW a x=BD a.nu x.dn x.ds by rw [a8.o];unfold Ha;rw [if_neg AA,if_pos Z,HB.o];rfl);have HC:=Hd (M4 a.nu x.dn x.ds wx (HT.o.ext HXW.o));have q6:=O.o.q6;have q7:=O.o.q7;have q8:=O.o.q8;have q9:=O.o.q9;have p2:=U.o.q2;have p3:=U.o.q3;exact QE
 ·subst h;have Z:x.kind=3:=hk1;have HF:=Hd (show AW a x=(decide (a.dl<=x.n)&&decide (x.n<=a.dh)) by rw [a8.o];unfold Ha;rw [if_neg AA,if_neg AA,if_pos Z,HB.o];simp);have q10:=O.o.q10;have q11:=O.o.q11;have p4:=U.o.q4;clear hk1 hk2;by_cases hle:a.dl<=x.n
  ·have b6:=Hd (show AW a x=decide (x.n<=a.dh) by rw [HF.o,decide_eq_true hle,Bool.true_and])
   go_wp2_with fail
   go_ret;exact ⟨by rw [b6.o];rfl,HXF.o⟩
  ·have hlt:¬a.dl<=x.n:=hle;have b6:=Hd (show AW a x=false by rw [HF.o,decide_eq_false hlt,Bool.false_and]);clear hlt
   go_wp2_with fail
   go_ret;exact ⟨by rw [b6.o];first|rfl|(simp;omega),HXF.o⟩
 ·subst h;have Z:x.kind=4:=hk1;have HF:=Hd (show AW a x=bt a.bo x.n.toNat by rw [a8.o];unfold Ha;rw [if_neg AA,if_neg AA,if_neg AA,if_pos Z,HB.o];rfl);have b9:=GOA HR.o hk1;have k12:=Hd (O.o.q12);have l4:=Hd (U.o.q4);obtain ⟨z,b5⟩:=eqx (bits .and .i64 a.bo (if x.n=0 then 1 else 2));have d3:(z != 0)=bt a.bo x.n.toNat:=by
   rw [b5]
   rcases b9 with h|h
   ·rw [h,if_pos rfl];exact Mp a.bo 0 AA
   ·rw [h,if_neg AB];exact Mp a.bo 1 AA
  have HBZ:=Hd d3;have Y:bits .and .i64 a.bo (if x.n=0 then 1 else 2)=z:=b5.symm;clear b5 d3
  rcases b9 with h0|h0
  ·rw [if_pos h0] at Y;have hw1:IntKind.i64.wrap 1=1:=rfl;exact RZ
  ·rw [if_neg AA] at Y;have hw1:IntKind.i64.wrap 2=2:=rfl;exact RZ
 ·subst h;have Z:x.kind=5:=hk1;have HF:=Hd (show AW a x=ED a x by rw [a8.o];unfold Ha;rw [if_neg AA,if_neg AA,if_neg AA,if_neg AA,HB.o];rfl);have HC:=Hd (I9 q a x A D B C c e cb cc wx _ _ (HA.o.keep (HXW.o.kept _)) (HD.o.keep (HXW.o.kept _)) (HV.o.keep (HXW.o.kept _)));clear hk1 hk2
  go_upto_region 16 with fail
  clear Z p0;obtain ⟨p0,p1,p2,p3,p4,p5,p6⟩:=U.o.qs7;refine wp_region_lit ?_;refine AJ rfl 39 _ rfl g2 rfl O.o AS AH ?_;exact QR

theorem DRA(a:Abs)(A D B E:OA)(c e cb eb:Nat)(w:World)(S T:NP)(hA:Strs w S A a.cols)(hD:RDeps w S D a.deps)(hB:Strs w T B a.cols)(hE:RDeps w T E a.deps) :
  Cl 21 #[(Aq a A c D e),(Aq a B cb E eb)] w (Ae w true):=by
 obtain ⟨w0,hw0⟩:=eqx ((w.alloc (.cells (Ap a A c D e) 39)).alloc (.cells (Ap a B cb E eb) 39));obtain ⟨g2,hg2⟩:=eqx w.heap.size;obtain ⟨g3,hg3⟩:=eqx (w.heap.size+1);have hx0:Ext w w0:=Bh;have hb2:Blk w0 g2 39 (Ap a A c D e):=Gr;have O:Blk w0 g3 39 (Ap a B cb E eb):=FW;obtain ⟨HW0,HG2,HG3,HX0,HB2,HB3,HD,HE⟩:=Hd8 hw0 hg2 hg3 hx0 hb2 O (hD.keep (hx0.kept _)) (hE.keep (hx0.kept _));have hdl:=hD.1;have HST:=Hd (Jq A B c cb a.cols a.cols w0 S T (hA.keep (hx0.kept _)) (hB.keep (hx0.kept _)));rw [decide_eq_true rfl] at HST;clear hw0 hg2 hg3 hx0 hb2 O hA hD hB hE;have q15:w0.cell? ⟨g2,15,none⟩=some (.slice A a.cols.length c):=HB2.o.q15;have b0:w0.cell? ⟨g3,15,none⟩=some (.slice B a.cols.length cb):=HB3.o.q15
 go_enter func21,ntmps21
 go_upto_region 1 with fail
 rw [<-HW0.o,<-HG3.o,<-HG2.o]
 go_wp2_with fail
 refine HST.o.mono ?_;rintro e1 w1 ⟨rfl,n,Z⟩;have U:Ext w0 w1:=(by rw [Z];exact (Ext.refl _).drewN n);have a8:=Hd U;have hb2:=HB2.o.keep (U.kept _);have O:=HB3.o.keep (U.kept _);have q0:w1.cell? ⟨g2,0,none⟩=some (.I a.kinds):=hb2.q0;have p0:w1.cell? ⟨g3,0,none⟩=some (.I a.kinds):=O.q0;have q1:w1.cell? ⟨g2,1,none⟩=some (.I a.tx.least):=hb2.q1;have p1:w1.cell? ⟨g3,1,none⟩=some (.I a.tx.least):=O.q1;have q2:w1.cell? ⟨g2,2,none⟩=some (.I a.tx.most):=hb2.q2;have p2:w1.cell? ⟨g3,2,none⟩=some (.I a.tx.most):=O.q2;have q3:w1.cell? ⟨g2,3,none⟩=some (.I a.tx.cls):=hb2.q3;have p3:w1.cell? ⟨g3,3,none⟩=some (.I a.tx.cls):=O.q3;have q4:w1.cell? ⟨g2,4,none⟩=some (.string a.tx.b):=hb2.q4;have p4:w1.cell? ⟨g3,4,none⟩=some (.string a.tx.b):=O.q4;have q5:w1.cell? ⟨g2,5,none⟩=some (.string a.tx.e):=hb2.q5;have p5:w1.cell? ⟨g3,5,none⟩=some (.string a.tx.e):=O.q5;have q6:w1.cell? ⟨g2,6,none⟩=some (.I a.nu.ln):=hb2.q6;have p6:w1.cell? ⟨g3,6,none⟩=some (.I a.nu.ln):=O.q6;have q7:w1.cell? ⟨g2,7,none⟩=some (.I a.nu.ls):=hb2.q7;have p7:w1.cell? ⟨g3,7,none⟩=some (.I a.nu.ls):=O.q7;have q8:w1.cell? ⟨g2,8,none⟩=some (.I a.nu.hn):=hb2.q8;have p8:w1.cell? ⟨g3,8,none⟩=some (.I a.nu.hn):=O.q8;have q9:w1.cell? ⟨g2,9,none⟩=some (.I a.nu.hs):=hb2.q9;have p9:w1.cell? ⟨g3,9,none⟩=some (.I a.nu.hs):=O.q9;have q10:w1.cell? ⟨g2,10,none⟩=some (.I a.dl):=hb2.q10;have b5:w1.cell? ⟨g3,10,none⟩=some (.I a.dl):=O.q10;have q11:w1.cell? ⟨g2,11,none⟩=some (.I a.dh):=hb2.q11;have b7:w1.cell? ⟨g3,11,none⟩=some (.I a.dh):=O.q11;have q12:w1.cell? ⟨g2,12,none⟩=some (.I a.bo):=hb2.q12;have a9:w1.cell? ⟨g3,12,none⟩=some (.I a.bo):=O.q12;have q13:w1.cell? ⟨g2,13,none⟩=some (.I a.rl):=hb2.q13;have b4:w1.cell? ⟨g3,13,none⟩=some (.I a.rl):=O.q13;have q14:w1.cell? ⟨g2,14,none⟩=some (.I a.rh):=hb2.q14;have p14:w1.cell? ⟨g3,14,none⟩=some (.I a.rh):=O.q14;have q16:w1.cell? ⟨g2,16,none⟩=some (.slice D a.deps.length e):=hb2.q16;have Y:w1.cell? ⟨g3,16,none⟩=some (.slice E a.deps.length eb):=O.q16;have q17:w1.cell? ⟨g2,17,none⟩=some (.bool a.errs):=hb2.q17;have p17:w1.cell? ⟨g3,17,none⟩=some (.bool a.errs):=O.q17;clear U Z hb2 O q15 b0
 go_upto_region 4 with fail
 clear q0 p0 q1 p1 q2 p2 q3 p3 q4 p4 q5 p5 q6 p6 q7 p7 q8 p8 q9 p9 q10 b5 q11 b7 q12 a9 q13 b4 q14 p14 q17 p17;go_wp2
 go_loopw [6] (λi wr=>∃ k:Nat,k<=a.deps.length/\i=.I k/\Ext w0 wr) (λi _=>a.deps.length-(intOf i).toNat)
 case atStart=>exact ⟨0,AN,rfl,a8.o⟩
 case round =>
  clear q16 Y;obtain ⟨k,hk,rfl,hext⟩:=hrel;have b6:=Hd hext;have q16:wr.cell? ⟨g2,16,none⟩=some (.slice D a.deps.length e):=(HB2.o.keep (hext.kept _)).q16;have Y:wr.cell? ⟨g3,16,none⟩=some (.slice E a.deps.length eb):=(HB3.o.keep (hext.kept _)).q16;by_cases hlt:k<a.deps.length
  ·obtain ⟨b1,o1,B1,e1,he1,z1,c1,c2,f1,f2,f3⟩:=(HD.o.keep (hext.kept _)).at_ hlt;obtain ⟨b2,o2,B2,e2,he2,z2,d1,d2,k1,k2,k3⟩:=(HE.o.keep (hext.kept _)).at_ hlt;subst he1 he2;obtain ⟨K16,L16,C0,C1,C2,C3,b3,HK3⟩:=Hd8 q16 Y c1 c2 d1 d2 f3 k3;have HSD:=Hd (show ∀ w',Ext wr w'->Cl 61 #[.agg #[.slice B1 a.deps[k].frm.length e1,.string a.deps[k].tov],.agg #[.slice B2 a.deps[k].frm.length e2,.string a.deps[k].tov]] w' (Ae w' true) from λw' hw'=>by
    have h:=N5 a.deps[k] a.deps[k] B1 B2 e1 e2 w' _ _ (b3.o.keep (hw'.kept _)) (HK3.o.keep (hw'.kept _));rwa [decide_eq_true rfl] at h)
   clear hext c1 c2 d1 d2 f1 f2 f3 k1 k2 k3
   go_upto_region 7 with fail
   clear q16 Y;refine Qa (λ_ _=>False) [] ?_
   iterate 10 refine Qp ?_
   refine Qd (λw' HXW=>HSD.o w' HXW.o) ?_;refine Qp ?_;intro vals γ w9 hR hG;refine Qx ?_;have HXN:=Hd (show Ext wr w9 from hR.ext0 (λ_ _ _ h=>h.elim));clear hR hG
   go_wp2_with fail
   go_roundw
   case rel=>exact ⟨k+1,AA,AE,b6.o.trans HXN.o⟩
   case measure=>simp [intOf];omega
  ·have HXF:=Hd (HX0.o.trans hext);clear hext;go_wp2;go_ret;exact ⟨rfl,HXF.o⟩

theorem QV(w:World):Cl 28 #[] w (DoA w noneA):=by
 have U:=Hd (show ∀ w',Cl 73 #[] w' (λe w''=>e=.returned (.agg #[.I 1,.I 0,.I 0,.string ⟨#[]⟩,.string ⟨#[]⟩])/\Ext w' w'') from RC);have O:=Hd (show ∀ w',Cl 74 #[] w' (λe w''=>e=.returned (.agg #[.I 1,.I 0])/\Ext w' w'') from Xo)
 go_enter func28,ntmps28
 go_wp2_with fail
 refine (U.o _).mono ?_;rintro e1 w1 ⟨rfl,hx1⟩;have HX1:=Hd ((exaa w).trans hx1);have HB1:=Hd ((Blk.new w 39 Az).keep (hx1.kept _));clear hx1
 go_wp2_with fail
 refine (O.o _).mono ?_;rintro e2 w2 ⟨rfl,hx2⟩;have HX2:=Hd (HX1.o.trans hx2);have HB2:=Hd (HB1.o.keep (hx2.kept _));clear hx2
 go_wp2_with fail
 refine (O.o _).mono ?_;rintro e3 w3 ⟨rfl,hx3⟩;have HX3:=Hd (HX2.o.trans hx3);have HB3:=Hd (HB2.o.keep (hx3.kept _));clear hx3;rename_i K1 hK1 K2 hK2;refine hK2 _ _ ?_;refine wpList_build rfl 39 _ rfl AD ?_;refine AM rfl 39 _ _ rfl w.heap.size (Ap noneA none 0 none 0) rfl AD 39 _ HB3.o AH rfl AD ?_;intro w4 hb4 ho4;have HX4:=Hd (HX3.o.only ho4 (Al));refine hK1 _ _ ?_;clear hK1 hK2 HB1 HB2 HB3 HX1 HX2 HX3
 go_wp2_with fail
 exact bodyPost_ret (Bv results28 rfl (Eq hb4 AS AH)) rfl ⟨rfl,HX4.o⟩

def vA1:Val:=⟨1,⟨#[97,49]⟩,0,0,0,[],[]⟩
def CvA:Val:=⟨4,⟨#[]⟩,0,0,1,[],[]⟩
def vN1:Val:=⟨2,⟨#[]⟩,1,0,0,[],[]⟩
def vN2:Val:=⟨2,⟨#[]⟩,2,0,0,[],[]⟩
def vN3:Val:=⟨2,⟨#[]⟩,3,0,0,[],[]⟩
def EgA:Val:=⟨2,⟨#[]⟩,25,1,0,[],[]⟩
def FLA:Val:=⟨3,⟨#[]⟩,0,0,5,[],[]⟩
def FEA:Val:=⟨0,⟨#[]⟩,0,0,18,[],[]⟩
noncomputable def vJn:Abs:=Fk (ofA vN1) (ofA EgA)
noncomputable def vJd:Abs:=Fk (ofA FLA) (ofA FEA)
theorem HRA:(AX (ofA vA1)).kinds=2/\(AX (ofA vA1)).errs=false/\(AX (ofA vA1)).tx=⟨2,2,10,⟨#[97,49]⟩,⟨#[97,49]⟩⟩:=⟨AD,AD,AD⟩
theorem HoA:(AX vJn).kinds=4/\(AX vJn).errs=false/\(AX vJn).nu=⟨1,0,25,1⟩:=⟨AD,AD,AD⟩
theorem HlA:(AX vJd).kinds=8/\(AX vJd).errs=true/\(AX vJd).dl=5/\(AX vJd).dh=5:=⟨AD,AD,AD,AD⟩
theorem HnA:Gq (ofA vN1) (ofA vN2)=noneA:=by kernel_rfl
theorem HqA:Cp (ofA CvA)=some CvA:=by kernel_rfl
theorem HxA:Cp (Cs 4)=none:=by kernel_rfl
theorem HrA:AW (Cs 2) vN3=true:=by kernel_rfl
theorem GfA:AW (Cs 2) vA1=false:=by kernel_rfl
theorem E8(h:qP:=by show (0:Nat)<=_;omega):qP:=h
theorem DvA(k:Int):AbN 1000 (Cs k):=by
 unfold Cs;exact AbN.can ⟨E8,E8,E8,E8,λd hd=>BQ⟩
theorem FIA:AbN 1000000 (Cs 4):=(DvA 4).mono AB
theorem B3A:AbN 1000000 (Cs 2):=(DvA 2).mono AB
theorem OJ(w:World)(S:NP)(q:Nat)(k:Int)(s:BA)(a b n:Int)(hs:s.size<=4294967296)(A B:OA):RV w S q ⟨k,s,a,b,n,[],[]⟩ A B :=
 RV.mk hs ⟨.inl rfl,E8,by intro s hs;cases hs⟩ ⟨E8,[],.inl rfl,rfl,by intro i r hi;simp at hi⟩
def SvA(a:Abs)(v:Value)(w':World):Prop:=∃ (A:OA) (c:Nat) (D:OA) (e:Nat),v=(Aq a A c D e)/\AbM w' (λ_=>True) a A c D e
theorem GgA(A D:OA)(c e:Nat)(w:World)(ht:Txa w)(h:AbM w (λ_=>True) (ofA vA1) A c D e)(hz:AbN 1000000 (ofA vA1)):Cl 33 #[(let av:=(ofA vA1);(Aq av A c D e))] w (Cu w ⟨#[116,101,120,116,40,50,32,50,32,49,48,32,50,58,97,49,32,50,58,97,49,41]⟩):=by
 have h1:=HRA;have h2:=ON (ofA vA1) (AX (ofA vA1)) A D c e w (λ_=>True) h.2.2.1 h.2.2.2 hz ht rfl h1.1 h1.2.1 (by rw [h1.2.2];exact ⟨⟨AB,AB⟩,⟨AB,AB⟩,⟨AB,AB⟩,AB,AB⟩) (by rw [h1.2.2];exact of_decide_eq_true AD);have h3:bsA ([116,101,120,116,40]++V1 (AX (ofA vA1)).tx++[41])=⟨#[116,101,120,116,40,50,32,50,32,49,48,32,50,58,97,49,32,50,58,97,49,41]⟩:=AD;rw [h3] at h2;exact h2
theorem HIA(A D:OA)(c e:Nat)(w:World)(ht:Txa w)(h:AbM w (λ_=>True) (vJn) A c D e)(hz:AbN 1000000 (vJn)):Cl 33 #[(let av:=(vJn);(Aq av A c D e))] w (Cu w ⟨#[110,117,109,98,101,114,40,49,46,46,50,46,53,41]⟩):=by
 have h1:=HoA;have h2:=OI (vJn) (AX (vJn)) A D c e w (λ_=>True) 0 1 h.2.2.1 h.2.2.2 hz ht rfl h1.1 h1.2.1 (by rw [h1.2.2];exact ⟨rfl,rfl,AB,AB,AB⟩) (by rw [h1.2.2];exact of_decide_eq_true AD);have h3:bsA ([110,117,109,98,101,114,40]++V3 (AX vJn).nu++[41])=⟨#[110,117,109,98,101,114,40,49,46,46,50,46,53,41]⟩:=AD;rw [h3] at h2;exact h2
theorem GzA(A D:OA)(c e:Nat)(w:World)(ht:Txa w)(h:AbM w (λ_=>True) (vJd) A c D e)(hz:AbN 1000000 (vJd)):Cl 33 #[(let av:=(vJd);(Aq av A c D e))] w (Cu w ⟨#[100,97,116,101,40,53,46,46,53,41,32,101,114,114,111,114]⟩):=by
 have h1:=HlA;have h2:=OP (vJd) (AX (vJd)) A D c e w (λ_=>True) h.2.2.1 h.2.2.2 hz ht rfl h1.1 h1.2.1 (by rw [h1.2.2.1,h1.2.2.2];exact ⟨⟨AB,AB⟩,⟨AB,AB⟩⟩) (by rw [h1.2.2.1,h1.2.2.2];exact of_decide_eq_true AD);have h3:bsA ([100,97,116,101,40]++V9 (AX vJd).dl (AX vJd).dh++[41]++[32]++[101,114,114,111,114])=⟨#[100,97,116,101,40,53,46,46,53,41,32,101,114,114,111,114]⟩:=AD;rw [h3] at h2;exact h2

theorem IO(n:Int)(w:World):Cl 34 #[.I n] w (λe w'=>e=.returned (.agg #[.I 2,.string ⟨#[]⟩,.I n,.I 0,.I 0,.slice none 0 0,.slice none 0 0])/\Ext w w'):=by
 go_enter func34,ntmps34
 go_wp2;exact bodyPost_ret (v:=.agg #[.I 2,.string ⟨#[]⟩,.I n,.I 0,.I 0,.slice none 0 0,.slice none 0 0]) (by simp [results,results34,go_sem]) rfl ⟨rfl,(Ext.refl _).alloc _⟩

theorem VV(h:qP:=by
 have hxx:=hR.o.ext0 (λ_ _ _ h=>h.elim);have HXW:=Hd hxx;have b1_0:=(HB1.o.keep (hxx.kept _)).q0;have b1_1:=(HB1.o.keep (hxx.kept _)).q1;have b1_2:=(HB1.o.keep (hxx.kept _)).q2;have b1_3:=(HB1.o.keep (hxx.kept _)).q3;have b1_4:=(HB1.o.keep (hxx.kept _)).q4;have b1_5:=(HB1.o.keep (hxx.kept _)).q5;have b1_6:=(HB1.o.keep (hxx.kept _)).q6;have b2_0:=(HB2.o.keep (hxx.kept _)).q0;have b2_1:=(HB2.o.keep (hxx.kept _)).q1;have b2_2:=(HB2.o.keep (hxx.kept _)).q2;have b2_3:=(HB2.o.keep (hxx.kept _)).q3;have b2_4:=(HB2.o.keep (hxx.kept _)).q4;have b2_5:=(HB2.o.keep (hxx.kept _)).q5;have b2_6:=(HB2.o.keep (hxx.kept _)).q6;have b3_0:=(HB3.o.keep (hxx.kept _)).q0;have b3_1:=(HB3.o.keep (hxx.kept _)).q1;have b3_2:=(HB3.o.keep (hxx.kept _)).q2;have b3_3:=(HB3.o.keep (hxx.kept _)).q3;have b3_4:=(HB3.o.keep (hxx.kept _)).q4;have b3_5:=(HB3.o.keep (hxx.kept _)).q5;have b3_6:=(HB3.o.keep (hxx.kept _)).q6;clear hxx;exact Qk):qP:=h
theorem Bn(h:qP:=by
 rintro v γ wx γ' wy rr ⟨A1,c1,D1,e1,h1,h2⟩;exact ⟨A1,c1,D1,e1,h1,h2.keep (rr.keptS λb _ hb m hm=>hm.elim)⟩):qP:=h
theorem Gt(h:qP:=by
 rintro e1 w3 ⟨A4,c4,D4,e4,he,hab,hx⟩;exact ⟨_,he,γ,H4A _ γ hx,λ_ _ _ h=>h,A4,c4,D4,e4,rfl,hab.mono λ_ _ _=>trivial⟩):qP:=h
theorem VO(h:qP:=by
 intro vals γ w' ρ hR hN hp hρ zs zg;have hxx:=hR.o.ext0 (λ_ _ _ h=>h.elim);have HXW:=Hd hxx;clear hxx;refine Qr ?_;refine (KP 2 w' (HT.o.ext (HX.o.trans HXW.o)).tens).mono ?_;exact Gt):qP:=h
theorem Li(h:qP:=by
 have hxx:=hR.o.ext0 (λ_ _ _ h=>h.elim);have HXW:=Hd hxx;have b1_0:=(HB1.o.keep ((HX.o.trans hxx).kept _)).q0;have b1_1:=(HB1.o.keep ((HX.o.trans hxx).kept _)).q1;have b1_2:=(HB1.o.keep ((HX.o.trans hxx).kept _)).q2;have b1_3:=(HB1.o.keep ((HX.o.trans hxx).kept _)).q3;have b1_4:=(HB1.o.keep ((HX.o.trans hxx).kept _)).q4;have b1_5:=(HB1.o.keep ((HX.o.trans hxx).kept _)).q5;have b1_6:=(HB1.o.keep ((HX.o.trans hxx).kept _)).q6;have b2_0:=(HB2.o.keep ((HX.o.trans hxx).kept _)).q0;have b2_1:=(HB2.o.keep ((HX.o.trans hxx).kept _)).q1;have b2_2:=(HB2.o.keep ((HX.o.trans hxx).kept _)).q2;have b2_3:=(HB2.o.keep ((HX.o.trans hxx).kept _)).q3;have b2_4:=(HB2.o.keep ((HX.o.trans hxx).kept _)).q4;have b2_5:=(HB2.o.keep ((HX.o.trans hxx).kept _)).q5;have b2_6:=(HB2.o.keep ((HX.o.trans hxx).kept _)).q6;have b4_0:=(HB4.o.keep (hxx.kept _)).q0;have b4_1:=(HB4.o.keep (hxx.kept _)).q1;have b4_2:=(HB4.o.keep (hxx.kept _)).q2;have b4_3:=(HB4.o.keep (hxx.kept _)).q3;have b4_4:=(HB4.o.keep (hxx.kept _)).q4;have b4_5:=(HB4.o.keep (hxx.kept _)).q5;have b4_6:=(HB4.o.keep (hxx.kept _)).q6;clear hxx;exact Qk):qP:=h
theorem BXA(w:World)(ht:Txa w):Cl 9 #[] w (Ae w true):=by
 obtain ⟨w0,hw0⟩:=eqx (((w.alloc (.cells #[.I 1,.string ⟨#[97,49]⟩,.I 0,.I 0,.I 0,.slice none 0 0,.slice none 0 0] 29)).alloc (.cells #[.I 4,.string ⟨#[]⟩,.I 0,.I 0,.I 1,.slice none 0 0,.slice none 0 0] 29)).alloc (.cells #[.I 2,.string ⟨#[]⟩,.I 25,.I 1,.I 0,.slice none 0 0,.slice none 0 0] 29));obtain ⟨g1,hg1⟩:=eqx w.heap.size;obtain ⟨g2,hg2⟩:=eqx (w.heap.size+1);obtain ⟨g3,hg3⟩:=eqx (w.heap.size+2);have hx0:Ext w w0:=CC;obtain ⟨HB1,HB2,HB3,HT,HX0,HW0,HG1,HG2⟩:=Hd8 (show Blk w0 g1 29 #[.I 1,.string ⟨#[97,49]⟩,.I 0,.I 0,.I 0,.slice none 0 0,.slice none 0 0] by rw [hw0,hg1];exact (Blk.new _ _ _).keep ((exbb _).kept _)) (show Blk w0 g2 29 #[.I 4,.string ⟨#[]⟩,.I 0,.I 0,.I 1,.slice none 0 0,.slice none 0 0] by rw [hw0,hg2];exact (H6A _ _ _ _).keep ((exaa _).kept _)) (show Blk w0 g3 29 #[.I 2,.string ⟨#[]⟩,.I 25,.I 1,.I 0,.slice none 0 0,.slice none 0 0] by rw [hw0,hg3];exact ICA _ _ _ _ _) (ht.ext hx0) hx0 hw0 hg1 hg2;have HG3:=Hd hg3;clear hw0 hg1 hg2 hg3 hx0 ht
 go_enter func9,ntmps9
 go_upto_region 4 with fail
 rw [<-HW0.o,<-HG3.o,<-HG2.o,<-HG1.o];refine Qa (λ_ _=>False) [] ?_;refine Qm (λvals γ w' ρ hR hN hp hρ zs zg=>by
  exact VV) ?_
 refine Qs (FP λv γ w'=>SvA (ofA vA1) v w') (H1A ?_) ?_ ?_
 ·exact Bn
 ·intro vals γ w' ρ hR hN hp hρ zs zg;have hxx:=hR.o.ext0 (λ_ _ _ h=>h.elim);have HXW:=Hd hxx;clear hxx;refine Qr ?_;refine (C5 0 vA1 none none 0 0 w' (λ_=>True) (OJ w' (λ_=>True) 0 1 ⟨#[97,49]⟩ 0 0 0 AB none none) (Al) (HT.o.ext HXW.o).tens).mono ?_;exact Gt
 refine Qg (.string ⟨#[116,101,120,116,40,50,32,50,32,49,48,32,50,58,97,49,32,50,58,97,49,41]⟩) ?_ ?_
 ·intro vals γ w' ρ hR hN hp hρ zs zg;obtain ⟨A1,c1,D1,e1,hv1,hab1⟩:=hp.o 1 AB;have e14:=(hρ.o 14).trans hv1;have hxx:=hR.o.ext0 (λ_ _ _ h=>h.elim);have HXW:=Hd hxx;clear hxx;refine Qr ?_;refine (GgA A1 D1 c1 e1 w' (HT.o.ext HXW.o) hab1 ((Mx vA1).mono AB)).mono ?_;exact DR
 iterate 2 refine Qp ?_
 refine Qd (x:=.agg #[.I 2,.string ⟨#[]⟩,.I 1,.I 0,.I 0,.slice none 0 0,.slice none 0 0]) (λw' HXW=>IO 1 w') ?_;refine Qs (FP λv γ w'=>SvA (ofA vN1) v w') (H1A ?_) ?_ ?_
 ·exact Bn
 ·intro vals γ w' ρ hR hN hp hρ zs zg;have hxx:=hR.o.ext0 (λ_ _ _ h=>h.elim);have HXW:=Hd hxx;clear hxx;refine Qr ?_;refine (C5 0 vN1 none none 0 0 w' (λ_=>True) (OJ w' (λ_=>True) 0 2 ⟨#[]⟩ 1 0 0 AB none none) (Al) (HT.o.ext HXW.o).tens).mono ?_;exact Gt
 refine Qm (λvals γ w' ρ hR hN hp hρ zs zg=>by
  exact VV) ?_
 refine Qs (FP λv γ w'=>SvA (ofA EgA) v w') (H1A ?_) ?_ ?_
 ·exact Bn
 ·intro vals γ w' ρ hR hN hp hρ zs zg;have hxx:=hR.o.ext0 (λ_ _ _ h=>h.elim);have HXW:=Hd hxx;clear hxx;refine Qr ?_;refine (C5 0 EgA none none 0 0 w' (λ_=>True) (OJ w' (λ_=>True) 0 2 ⟨#[]⟩ 25 1 0 AB none none) (Al) (HT.o.ext HXW.o).tens).mono ?_;exact Gt
 refine Qs (FP λv γ w'=>SvA (vJn) v w') (H1A ?_) ?_ ?_
 ·exact Bn
 ·intro vals γ w' ρ hR hN hp hρ zs zg;obtain ⟨A6,c6,D6,e6,hv6,hab6⟩:=hp.o 6 AB;have e19:=(hρ.o 19).trans hv6;obtain ⟨A8,c8,D8,e8,hv8,hab8⟩:=hp.o 8 AB;have e21:=(hρ.o 21).trans hv8;have hxx:=hR.o.ext0 (λ_ _ _ h=>h.elim);have HXW:=Hd hxx;clear hxx;refine Qr ?_;refine (Hn (ofA vN1) (ofA EgA) A6 D6 A8 D8 c6 e6 c8 e8 w' (λ_=>True) hab6.2.2.1 hab6.2.2.2 hab8.2.2.1 hab8.2.2.2 (HT.o.ext HXW.o).tens ((Mx _).mono AB) ((Mx _).mono AB)).mono ?_;exact Gt
 refine Qg (.string ⟨#[110,117,109,98,101,114,40,49,46,46,50,46,53,41]⟩) ?_ ?_
 ·intro vals γ w' ρ hR hN hp hρ zs zg;obtain ⟨A9,c9,D9,e9,hv9,hab9⟩:=hp.o 9 AB;have e22:=(hρ.o 22).trans hv9;have hxx:=hR.o.ext0 (λ_ _ _ h=>h.elim);have HXW:=Hd hxx;clear hxx;refine Qr ?_;refine (HIA A9 D9 c9 e9 w' (HT.o.ext HXW.o) hab9 (((Mx vN1).join (Mx EgA)).mono AB)).mono ?_;exact DR
 iterate 2 refine Qp ?_
 intro vals γ w4 hR hG;refine Qx ?_;have HX4:=Hd (show Ext w0 w4 from hR.ext0 (λ_ _ _ h=>h.elim));clear hR hG
 go_upto_region 6 with fail
 go_wp2_with fail
 refine (C5 0 FLA none none 0 0 w4 (λ_=>True) (OJ w4 (λ_=>True) 0 3 ⟨#[]⟩ 0 0 5 AB none none) (Al) (HT.o.ext HX4.o).tens).mono ?_;rintro ee w5 ⟨A1,c1,D1,e1,rfl,hab,hx⟩;have HX5:=Hd (HX4.o.trans hx);clear hx HX4;have O:=Hd (hab.mono (T:=λ_=>True) λ_ _ _=>trivial);clear hab
 go_wp2_with fail
 refine (C5 0 FEA none none 0 0 w5 (λ_=>True) (OJ w5 (λ_=>True) 0 0 ⟨#[]⟩ 0 0 18 AB none none) (Al) (HT.o.ext HX5.o).tens).mono ?_;rintro ee w6 ⟨A2,c2,D2,e2,rfl,hab,hx⟩;have HX6:=Hd (HX5.o.trans hx)
 replace O:=Hd (O.o.keep (hx.kept _))
 clear hx HX5;have Z:=Hd (hab.mono (T:=λ_=>True) λ_ _ _=>trivial);clear hab
 go_wp2_with fail
 refine (Hn (ofA FLA) (ofA FEA) A1 D1 A2 D2 c1 e1 c2 e2 w6 (λ_=>True) O.o.2.2.1 O.o.2.2.2 Z.o.2.2.1 Z.o.2.2.2 (HT.o.ext HX6.o).tens ((Mx _).mono AB) ((Mx _).mono AB)).mono ?_;rintro ee w7 ⟨A3,c3,D3,e3,rfl,hab,hx⟩;have HX7:=Hd (HX6.o.trans hx);clear hx HX6;have HA3:=Hd (show AbM w7 (λ_=>True) vJd A3 c3 D3 e3 from hab.mono (T:=λ_=>True) λ_ _ _=>trivial);clear hab O Z
 go_wp2_with fail
 refine (GzA A3 D3 c3 e3 w7 (HT.o.ext HX7.o) HA3.o (((Mx FLA).join (Mx FEA)).mono AB)).mono ?_;rintro ee w8 ⟨rfl,hx⟩;have HX8:=Hd (HX7.o.trans hx);clear hx HX7 HA3
 go_upto_region 8 with fail
 have b2_0:=(HB2.o.keep (HX8.o.kept _)).q0;have b2_1:=(HB2.o.keep (HX8.o.kept _)).q1;have b2_2:=(HB2.o.keep (HX8.o.kept _)).q2;have b2_3:=(HB2.o.keep (HX8.o.kept _)).q3;have b2_4:=(HB2.o.keep (HX8.o.kept _)).q4;have b2_5:=(HB2.o.keep (HX8.o.kept _)).q5;have b2_6:=(HB2.o.keep (HX8.o.kept _)).q6
 go_wp2_with fail
 refine (C5 0 CvA none none 0 0 w8 (λ_=>True) (OJ w8 (λ_=>True) 0 4 ⟨#[]⟩ 0 0 1 AB none none) (Al) (HT.o.ext HX8.o).tens).mono ?_;rintro ee w9 ⟨A1,c1,D1,e1,rfl,hab,hx⟩;have HX9:=Hd (HX8.o.trans hx);clear hx HX8;have O:=Hd (hab.mono (T:=λ_=>True) λ_ _ _=>trivial);clear hab b2_0 b2_1 b2_2 b2_3 b2_4 b2_5 b2_6
 go_wp2_with fail
 refine (JS (ofA CvA) A1 D1 c1 e1 w9 (λ_=>True) O.o.2.2.1 O.o.2.2.2 (HT.o.ext HX9.o).tens ((Mx _).mono AB)).mono ?_;rintro ee w10 ⟨he,hx⟩;have HX10:=Hd (HX9.o.trans hx);clear hx HX9;rw [HqA] at he;have he2:ee=.returned (.tuple #[.agg #[.I 4,.string ⟨#[]⟩,.I 0,.I 0,.I 1,.slice none 0 0,.slice none 0 0],.bool true]):=he;subst he2;clear he O
 go_upto_region 9 with fail
 obtain ⟨g4,hg4⟩:=eqx w10.heap.size;obtain ⟨w11,a8⟩:=eqx (w10.alloc (.cells #[.I 4,.string ⟨#[]⟩,.I 0,.I 0,.I 1,.slice none 0 0,.slice none 0 0] 29));rw [<-hg4,<-a8];have Y:=Hd (show Blk w11 g4 29 #[.I 4,.string ⟨#[]⟩,.I 0,.I 0,.I 1,.slice none 0 0,.slice none 0 0] by rw [a8,hg4];exact Blk.new _ _ _);have HX11:=Hd (show Ext w0 w11 by rw [a8];exact HX10.o.alloc _);clear hg4 a8 HX10
 go_wp2_with fail
 refine (KP 4 w11 (HT.o.ext HX11.o).tens).mono ?_;rintro ee w12 ⟨A1,c1,D1,e1,rfl,hab,hx⟩;have b6:=Hd (HX11.o.trans hx)
 replace Y:=Hd (Y.o.keep (hx.kept _))
 clear hx HX11;have O:=Hd (hab.mono (T:=λ_=>True) λ_ _ _=>trivial);clear hab
 go_wp2_with fail
 refine (JS (Cs 4) A1 D1 c1 e1 w12 (λ_=>True) O.o.2.2.1 O.o.2.2.2 (HT.o.ext b6.o).tens FIA).mono ?_;rintro ee w13 ⟨he,hx⟩;have HX13:=Hd (b6.o.trans hx)
 replace Y:=Hd (Y.o.keep (hx.kept _))
 clear hx b6;rw [HxA] at he;have he2:ee=.returned (.tuple #[.agg Vz,.bool false]):=he;subst he2;clear he O
 go_upto_region 10 with fail
 obtain ⟨g6,hg6⟩:=eqx w13.heap.size;obtain ⟨w14,b0⟩:=eqx (w13.alloc (.cells Vz 29));rw [<-hg6,<-b0];have a9:Ext w13 w14:=(by rw [b0];exact (Ext.refl _).alloc _);have HX14:=Hd (HX13.o.trans a9);have U:=Hd (Y.o.keep (a9.kept _));clear hg6 b0 a9 HX13 Y
 go_wp2_with fail
 refine (IO 1 w14).mono ?_;rintro ee w15 ⟨rfl,hx⟩;have b5:=Hd (HX14.o.trans hx)
 replace U:=Hd (U.o.keep (hx.kept _))
 clear hx HX14
 go_wp2_with fail
 refine (C5 0 vN1 none none 0 0 w15 (λ_=>True) (OJ w15 (λ_=>True) 0 2 ⟨#[]⟩ 1 0 0 AB none none) (Al) (HT.o.ext b5.o).tens).mono ?_;rintro ee w16 ⟨A1,c1,D1,e1,rfl,hab,hx⟩;have HX16:=Hd (b5.o.trans hx)
 replace U:=Hd (U.o.keep (hx.kept _))
 clear hx b5;have O:=Hd (hab.mono (T:=λ_=>True) λ_ _ _=>trivial);clear hab
 go_wp2_with fail
 refine (IO 2 w16).mono ?_;rintro ee w17 ⟨rfl,hx⟩;have b3:=Hd (HX16.o.trans hx)
 replace U:=Hd (U.o.keep (hx.kept _))
 replace O:=Hd (O.o.keep (hx.kept _))
 clear hx HX16
 go_wp2_with fail
 refine (C5 0 vN2 none none 0 0 w17 (λ_=>True) (OJ w17 (λ_=>True) 0 2 ⟨#[]⟩ 2 0 0 AB none none) (Al) (HT.o.ext b3.o).tens).mono ?_;rintro ee w18 ⟨A2,c2,D2,e2,rfl,hab,hx⟩;have b4:=Hd (b3.o.trans hx)
 replace U:=Hd (U.o.keep (hx.kept _))
 replace O:=Hd (O.o.keep (hx.kept _))
 clear hx b3;have Z:=Hd (hab.mono (T:=λ_=>True) λ_ _ _=>trivial);clear hab
 go_wp2_with fail
 refine (KH (ofA vN1) (ofA vN2) A1 D1 A2 D2 c1 e1 c2 e2 w18 (λ_=>True) O.o.2.2.1 O.o.2.2.2 Z.o.2.2.1 Z.o.2.2.2 (HT.o.ext b4.o).tens ((Mx _).mono AB) ((Mx _).mono AB)).mono ?_;rintro ee w19 ⟨A8,c8,D8,e8,he,hab,hx⟩;have HX19:=Hd (b4.o.trans hx)
 replace U:=Hd (U.o.keep (hx.kept _))
 clear hx b4;rw [HnA] at he;subst he;clear hab O Z;rename_i K1 hK1 K2 hK2;refine hK2 _ _ ?_;refine Ag rfl rfl ?_;obtain ⟨g8,hg⟩:=eqx w19.heap.size;rw [<-hg];refine AM rfl 39 _ _ rfl g8 (Ap noneA A8 c8 D8 e8) rfl rfl 39 _ (GK hg) AH rfl AD ?_;intro wp hb ho;refine hK1 _ _ ?_;have hxo:Ext w19 wp:=(exaa w19).only ho Ez;obtain ⟨HX,HB8,HB4⟩:=Hd3 (HX19.o.trans hxo) hb (U.o.keep (hxo.kept _));clear hK1 hK2 hb ho hxo hg HX19 U
 go_frame
 go_upto_region 11 with fail
 refine Qa (λ_ _=>False) [] ?_;refine Qs (FP λv γ w'=>SvA (Cs 2) v w') (H1A ?_) ?_ ?_
 ·exact Bn
 ·exact VO
 refine Qd (x:=.agg #[.I 2,.string ⟨#[]⟩,.I 3,.I 0,.I 0,.slice none 0 0,.slice none 0 0]) (λw' HXW=>IO 3 w') ?_;refine Qg (.bool true) ?_ ?_
 ·intro vals γ w' ρ hR hN hp hρ zs zg;obtain ⟨A0,c0,D0,e0,hv0,hab0⟩:=hp.o 0 AB;have e49:=(hρ.o 49).trans hv0;have hxx:=hR.o.ext0 (λ_ _ _ h=>h.elim);have HXW:=Hd hxx;clear hxx;refine Qr ?_;refine (B3 0 (Cs 2) vN3 A0 D0 none none c0 e0 0 0 w' (λ_=>True) (λ_=>True) hab0.2.2.1 hab0.2.2.2 (OJ w' (λ_=>True) 0 2 ⟨#[]⟩ 3 0 0 AB none none) (Al) (HT.o.ext (HX.o.trans HXW.o)).tens B3A).mono ?_;rintro e1 w3 ⟨he,hx⟩;rw [HrA] at he;exact DP
 refine Qp ?_;refine Qs (FP λv γ w'=>SvA (Cs 2) v w') (H1A ?_) ?_ ?_
 ·exact Bn
 ·exact VO
 refine Qm (λvals γ w' ρ hR hN hp hρ zs zg=>by
  exact Li) ?_
 refine Qg (.bool false) ?_ ?_
 ·intro vals γ w' ρ hR hN hp hρ zs zg;obtain ⟨A4,c4,D4,e4,hv4,hab4⟩:=hp.o 4 AB;have e53:=(hρ.o 53).trans hv4;have hxx:=hR.o.ext0 (λ_ _ _ h=>h.elim);have HXW:=Hd hxx;clear hxx;refine Qr ?_;refine (B3 0 (Cs 2) vA1 A4 D4 none none c4 e4 0 0 w' (λ_=>True) (λ_=>True) hab4.2.2.1 hab4.2.2.2 (OJ w' (λ_=>True) 0 1 ⟨#[97,49]⟩ 0 0 0 AB none none) (Al) (HT.o.ext (HX.o.trans HXW.o)).tens B3A).mono ?_;rintro e1 w3 ⟨he,hx⟩;rw [GfA] at he;exact DP
 iterate 6 refine Qp ?_
 refine Qm (λvals γ w' ρ hR hN hp hρ zs zg=>by
  exact Li) ?_
 refine Qm (λvals γ w' ρ hR hN hp hρ zs zg=>by
  exact Li) ?_
 refine Qg (.bool true) ?_ ?_
 ·intro vals γ w' ρ hR hN hp hρ zs zg;have hxx:=hR.o.ext0 (λ_ _ _ h=>h.elim);have HXW:=Hd hxx;clear hxx;refine Qr ?_;refine (Dn 0 CvA CvA none none none none 0 0 0 0 w' (λ_=>True) (λ_=>True) (OJ w' (λ_=>True) 0 4 ⟨#[]⟩ 0 0 1 AB none none) (OJ w' (λ_=>True) 0 4 ⟨#[]⟩ 0 0 1 AB none none)).mono ?_;rintro e1 w3 ⟨he,hx⟩;rw [decide_eq_true rfl] at he;exact DP
 iterate 6 refine Qp ?_
 apply H9A (LZ.refl _) AG
 ·intro vals γ w' ρ hR hN hp hρ hc hf hg;refine ⟨by show (NM (vals 21)==some true)=true;rw [show vals 21=.bool true from hp 21 AB];rfl,?_⟩;have e8:=hρ 8;(conv at e8=>rhs;whnf);have hxx:=hR.ext0 (λ_ _ _ h=>h.elim);have HXW:=Hd hxx;have hb8:=HB8.o.keep (hxx.kept _);exact FI rfl e8 hb8 AS AH ⟨rfl,rfl⟩
 ·rfl
 refine Qd (x:=(Aq noneA none 0 none 0)) (λw' HXW=>QV w') ?_;refine Qd (λw' HXW=>DRA noneA A8 D8 none none c8 e8 0 0 w' (λ_=>True) (λ_=>True) (AbM.nil (A:=A8) (D:=D8) (c:=c8) (e:=e8) ⟨rfl,rfl⟩).2.2.1 (AbM.nil (A:=A8) (D:=D8) (c:=c8) (e:=e8) ⟨rfl,rfl⟩).2.2.2 (AbM.nil (A:=none) (D:=none) (c:=0) (e:=0) ⟨rfl,rfl⟩).2.2.1 (AbM.nil (A:=none) (D:=none) (c:=0) (e:=0) ⟨rfl,rfl⟩).2.2.2) ?_
 iterate 2 refine Qp ?_
 intro vals γ w9 hR hG;refine Qx ?_;have HXE:=Hd (show Ext wp w9 from hR.ext0 (λ_ _ _ h=>h.elim));clear hR hG;go_wp2;go_ret;exact ⟨rfl,(HX0.o.trans HX.o).trans HXE.o⟩

theorem WT(n s:Int)(w:World):Cl 178 #[.agg #[.I n,.I s]] w (Fu w (Bg n s)):=by
 have HD:=Hd (λw'=>Ns n s w');cases hd:Dz n s
 all_goals
  have HV:=Hd (show Bg n s=if Dz n s=true then (n,s) else (0,0) from rfl);rw [hd] at HD HV;clear hd
  go_enter func178,ntmps178
  go_wp2_with fail
  refine (HD.o _).mono ?_;rintro e1 w1 ⟨rfl,hx1⟩;have hb1:=(Blk.new w 25 #[.I n,.I s]).keep (((exaa _).trans hx1).kept _);have hb2:=(H6A w (.cells #[.I n,.I s] 25) 25 #[.I 0,.I 0]).keep (hx1.kept _);obtain ⟨q0,q1⟩:=hb1.qs2;obtain ⟨q2,q3⟩:=hb2.qs2;have qf:=hb2.frozen;have ql:=hb2.lt;have HX:=Hd ((exbb w).trans hx1);clear hx1 hb1 hb2
  go_wp2_with fail
  rw [HV.o]
 ·refine bodyPost_ret (v:=.agg #[.I 0,.I 0]) (by simp [results,results178,go_sem,q2,q3]) rfl ⟨rfl,?_⟩;exact BT
 ·refine bodyPost_ret (v:=.agg #[.I n,.I s]) (by simp [results,results178,go_sem,q2,q3]) rfl ⟨rfl,?_⟩;exact BT
theorem NX(r:Rg)(w:World):Cl 76 #[(Rq r)] w (Ae w (BF r)):=by
 have HC:=Hd (λw'=>NK r.ln r.ls r.hn r.hs w');have HE:=Hd (show BF r=decide (CG (mu r.ln r.ls) (mu r.hn r.hs) > 0) by rw [Sb];rfl);generalize CG (mu r.ln r.ls) (mu r.hn r.hs)=z at *
 go_enter func76,ntmps76
 go_wp2_with fail
 refine (HC.o _).mono ?_;exact Oj
theorem N6(r:Rg)(w:World):Cl 118 #[.agg #[.I r.ln,.I r.ls],.agg #[.I r.hn,.I r.hs]] w (Em w (CI r)):=by
 have HN:=Hd (show CI r=if decide (CG (mu r.ln r.ls) (mu r.hn r.hs) > 0)=true then IBA else ⟨(Bg r.ln r.ls).1,(Bg r.ln r.ls).2,(Bg r.hn r.hs).1,(Bg r.hn r.hs).2⟩ by rw [Sb];rfl);have HC:=Hd (λw'=>NK r.ln r.ls r.hn r.hs w');obtain ⟨⟨u1,u2⟩,hu⟩:=eqx (Bg r.ln r.ls);obtain ⟨⟨v1,v2⟩,hv⟩:=eqx (Bg r.hn r.hs);have HR1:=Hd (show ∀ w',Cl 178 #[.agg #[.I r.ln,.I r.ls]] w' (Fu w' (u1,u2)) from λw'=>by rw [hu];exact WT _ _ w');have HR2:=Hd (show ∀ w',Cl 178 #[.agg #[.I r.hn,.I r.hs]] w' (Fu w' (v1,v2)) from λw'=>by rw [hv];exact WT _ _ w');rw [<-hu,<-hv] at HN;generalize CG (mu r.ln r.ls) (mu r.hn r.hs)=z at *;obtain ⟨g2,hg2⟩:=eqx (w.heap.size+2);have HGG:=Hd hg2;have HG2:=Hd (show w.heap.size<=g2 by omega);clear hu hv hg2
 go_enter func118,ntmps118
 go_wp2_with fail
 refine (HC.o _).mono ?_;rintro e1 w1 ⟨rfl,hx1⟩;have hb1:=(Blk.new w 25 #[.I r.ln,.I r.ls]).keep (((exbb _).trans hx1).kept _);have hb2:=(H6A w (.cells #[.I r.ln,.I r.ls] 25) 25 #[.I r.hn,.I r.hs]).keep (((exaa _).trans hx1).kept _);have O:=(ICA w (.cells #[.I r.ln,.I r.ls] 25) (.cells #[.I r.hn,.I r.hs] 25) 34 #[.I 0,.I 0,.I 0,.I 0]).keep (hx1.kept _);rw [<-HGG.o] at O;have HX1:=Hd ((excc w).trans hx1);have HB2:=Hd O;obtain ⟨r0,r1,r2,r3⟩:=O.qs4;have qf:=O.frozen;have ql:=O.lt;obtain ⟨Z,k1,k2,k3⟩:=Hd4 (hb1.q0) (hb1.q1) (hb2.q0) (hb2.q1);clear hx1 hb1 hb2 O;rw [show w.heap.size+1+1=g2 from HGG.o.symm];by_cases hz:z > 0
 ·have HF:=Hd (show CI r=IBA by rw [HN.o,decide_eq_true hz,if_pos rfl]);go_wp2;rw [HF.o];refine bodyPost_ret (v:=(Rq IBA)) (by simp [results,results118,go_sem,r0,r1,r2,r3,IBA]) rfl ⟨rfl,?_⟩
  iterate 4 with_reducible refine Ext.set2 ?_ HG2.o _
  with_reducible exact HX1.o
 ·have HF:=Hd (show CI r=⟨u1,u2,v1,v2⟩ by rw [HN.o,decide_eq_false hz,if_neg AC]);clear r0 r1 r2 r3 qf ql
  go_upto_region 3 with fail
  refine Qa (λm b=>(m=1005/\b=g2)) (lk 6 [1005]) ?_;refine Qp ?_;refine Qc (x:=.agg #[.I u1,.I u2]) (λw'=>HR1.o w') ?_;refine Qp ?_;refine Qc (x:=.agg #[.I v1,.I v2]) (λw'=>HR2.o w') ?_;refine Qp ?_;refine Qs (λ_ γ w'=>Blk w' g2 34 #[.I u1,.I u2,.I v1,.I v2]/\γ 1005=true) ?_ ?_ ?_
  ·exact FE
  ·intro vals γ w' ρ hR hN hp hρ zs zg;have hk1005:=hN.o.key (k:=1005) AB;have hb0:=HB2.o.keep (hR.o.kept0 (S:=λb=>b=g2) λb _ e m hm=>by
    rw [hm.1];exact hk1005)
   have HB0:=Hd hb0;have HK:=Hd hk1005;obtain ⟨q0,q1,q2,q3⟩:=hb0.qs4;have qf:=hb0.frozen;have ql:=hb0.lt;clear hb0 hk1005;refine Qr ?_;refine ⟨γ.put 1005,H2A HK.o rfl rfl rfl Y78171d3d0 (λb hb hm=>(((((Only.refl g2 w').set 0 (.I u1)).set 1 (.I u2)).set 2 (.I v1)).set 3 (.I v2)).block b λe=>hm (⟨rfl,e⟩)),LK.done AB,?_,AU⟩;exact Kv
  intro vals γ w9 hR hG;refine Qx ?_;obtain ⟨U,-⟩:=hG 5 AB;have Y:=Hd U;clear U;have HXN:=Hd (show Ext w w9 from Au HX1.o (hR.buts (S:=λb=>b=g2) (λm b _ hm _=>hm.2)) (λb hb=>by
   rw [hb];exact HG2.o))
  clear hR hG;obtain ⟨s0,s1,s2,s3⟩:=Y.o.qs4;go_wp2;rw [HF.o];exact bodyPost_ret (v:=.agg #[.I u1,.I u2,.I v1,.I v2]) (by simp [results,results118,go_sem,s0,s1,s2,s3]) rfl ⟨rfl,HXN.o⟩
