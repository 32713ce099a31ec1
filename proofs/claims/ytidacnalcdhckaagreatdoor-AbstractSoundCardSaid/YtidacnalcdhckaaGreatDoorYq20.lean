/- Lemmas. No conditions. -/
import Derived.Test.YtidacnalcdhckaaGreatDoorYq19
set_option maxRecDepth 100000
set_option maxHeartbeats 4000000
namespace Go.Proofs.YtidacnalcdhckaaGreatDoor
open Go Go.RowKit Tryz
variable {qP:Prop}

def DYA(v:Val):Value:=.agg #[.I v.kind,.string v.s,.I v.dn,.I v.ds,.I v.n,.slice none 0 0,.slice none 0 0]
def Ym(w:World)(o:Option Val)(e:Ending)(w':World):Prop:=e=.returned (.tuple #[DYA (o.getD Val.zero),.bool o.isSome])∧Ext w w'
def Cb(c:Abs):Option Val :=
 if c.errs=true then none
 else if c.kinds=2 then (if c.tx.least=c.tx.b.size∧c.tx.most=c.tx.b.size then some ⟨1,c.tx.b,0,0,0,[],[]⟩ else none)
 else if c.kinds=4 then (if c.nu.ln=c.nu.hn∧c.nu.ls=c.nu.hs then some ⟨2,⟨#[]⟩,c.nu.ln,c.nu.ls,0,[],[]⟩ else none)
 else if c.kinds=8 then (if c.dl=c.dh then some ⟨3,⟨#[]⟩,0,0,c.dl,[],[]⟩ else none)
 else if c.kinds=16 then (if c.bo≠3 then some ⟨4,⟨#[]⟩,0,0,c.bo-1,[],[]⟩ else none)
 else none
theorem Sl(a:Abs):Bq a=Cb (AM a):=rfl
theorem Vo{a:Abs}(h:(AM a).kinds=16):1≤(AM a).bo∧(AM a).bo≤3:=by
 have:=Sa (UT a) (by rw [h];decide);omega
theorem O0(h:qP:=by
 iterate 7 with_reducible refine Ext.set2 ?_ HG2L.o _
 with_reducible exact HX2.o):qP:=h
theorem Ot(h:qP:=by simp [results,results14,go_sem,v0,v1,v2,v3,v4,v5,v6]):qP:=h
theorem Zx(h:qP:=by
 go_wp2_with fail
 refine bodyPost_ret (v:=.tuple #[.agg Vz,.bool false]) Ot rfl ⟨?_,?_⟩
 ·rw [HF.o];rfl
 ·exact O0):qP:=h
theorem Sx(h:qP:=by
 rintro ee wz ⟨rfl,rfl⟩;exact Zx):qP:=h
theorem YP(h:qP:=by
 clear ha
 go_wp2_with fail
 refine (HT1.o _).mono ?_;exact Sx):qP:=h
theorem Yo(h:qP:=by
 clear ha
 go_wp2_with fail
 refine (HT1.o _).mono ?_;rintro ee wz ⟨rfl,rfl⟩
 go_wp2_with fail
 refine (HT2.o _).mono ?_;exact Sx):qP:=h
theorem FX(a:Abs)(A D:OA)(c e:Nat)(w:World)(S:NP)(hA:Strs w S A a.cols)(hD:RDeps w S D a.deps)(ht:Tens w)(hz:AbN 1000000 a) :
  Cl 14 #[(Aq a A c D e)] w (Ym w (Bq a)):=by
 obtain ⟨w0,hw0⟩:=eqx ((w.alloc (.cells (Ap a A c D e) 39)).alloc (.cells Vz 29));obtain ⟨g1,hg1⟩:=eqx w.heap.size;obtain ⟨g2,hg2⟩:=eqx (w.heap.size+1);have hx0:Ext w w0:=Y49;have hb1:Blk w0 g1 39 (Ap a A c D e):=Y90;have hb2:Blk w0 g2 29 Vz:=(by rw [hw0,hg2];exact EzA _ _ _ _);obtain ⟨HW0,HG1,HG2,HB1,HB2,HX0,HC⟩:=Hd7 hw0 hg1 hg2 hb1 hb2 hx0 (AU a A D c e w0 S (hA.keep (hx0.kept _)) (hD.keep (hx0.kept _)) (ht.ext hx0) hz);obtain ⟨s,hs⟩:=eqx (AM a);obtain ⟨HSI,HBO,HG2L⟩:=Hd3 (show Bq a=Cb s by rw [hs];exact Sl a) (show s.kinds=16→1≤s.bo∧s.bo≤3 from fun h=>by rw [hs] at h⊢;exact Vo h) (show w.heap.size≤g2 by omega);rw [←hs] at HC;clear hw0 hg1 hg2 hb1 hb2 hx0 hA hD ht hz hs
 go_enter func14,ntmps14
 go_upto_region 1 with fail
 rw [←HW0.o,←HG2.o,←HG1.o];refine wp_region_lit ?_;refine AB rfl 39 _ rfl g1 rfl HB1.o AH AA ?_
 go_wp2_with fail
 refine HC.o.mono ?_;rintro e1 w1 ⟨A',c',D',e',rfl,-,hx1⟩;have HX1:=Hd (HX0.o.trans hx1);have HB21:=Hd (HB2.o.keep (hx1.kept _));clear hx1;rename_i K1 hK1 K2 hK2;refine hK2 _ _ ?_;refine AP rfl rfl ?_;obtain ⟨g3,hg3⟩:=eqx w1.heap.size;rw [←hg3];refine AD rfl 39 _ _ rfl g3 (Ap s A' c' D' e') rfl rfl 39 _ (EX hg3) AA rfl Y11 ?_;intro w2 hb3 ho2;have hx2:Ext w1 w2:=(exaa w1).only ho2 Y78;have HX2:=Hd (HX1.o.trans hx2);have hb2:=HB21.o.keep (hx2.kept _);obtain ⟨q0,q1,q2⟩:=hb3.qs3;have q4:=hb3.q4;have q6:=hb3.q6;have q7:=hb3.q7;have q8:=hb3.q8;have q9:=hb3.q9;have q10:=hb3.q10;have q11:=hb3.q11;have q12:=hb3.q12;have q17:w2.cell? ⟨g3,17,none⟩=some (.bool s.errs):=hb3.q17;obtain ⟨v0,v1,v2,v3,v4,v5,v6⟩:=hb2.qs7;have vf:=hb2.frozen;have vl:=hb2.lt;obtain ⟨HT1,HT2,HT3,HT4⟩:=Hd4 (show ∀ w',Cl 48 #[.I 1] w' (BK w' 2) from fun w'=>AW 1 Y4 w') (show ∀ w',Cl 48 #[.I 2] w' (BK w' 4) from fun w'=>AW 2 Y4 w') (show ∀ w',Cl 48 #[.I 3] w' (BK w' 8) from fun w'=>AW 3 Y4 w') (show ∀ w',Cl 48 #[.I 4] w' (BK w' 16) from fun w'=>AW 4 Y4 w');refine hK1 _ _ ?_;clear hK1 hK2 hb3 hb2 ho2 hx2 hg3;cases he:s.errs
 case true =>
  have HF:=Hd (show Bq a=none by rw [HSI.o];unfold Cb;simp [he]);exact Zx
 by_cases h2:s.kinds=2
 case pos =>
  by_cases ha:s.tx.least=s.tx.b.size∧s.tx.most=s.tx.b.size
  case pos =>
   obtain ⟨ha1,ha2⟩:=ha;have HF:=Hd (show Bq a=some ⟨1,s.tx.b,0,0,0,[],[]⟩ by rw [HSI.o];unfold Cb;simp [he,h2,ha1,ha2])
   go_wp2_with fail
   refine (HT1.o _).mono ?_;rintro ee wz ⟨rfl,rfl⟩
   go_wp2_with fail
   refine bodyPost_ret (v:=.tuple #[.agg #[.I 1,.string s.tx.b,.I 0,.I 0,.I 0,.slice none 0 0,.slice none 0 0],.bool true]) Ot rfl ⟨?_,?_⟩
   ·rw [HF.o];rfl
   ·exact O0
  case neg =>
   have HF:=Hd (show Bq a=none by rw [HSI.o];unfold Cb;rw [if_neg Y38,if_pos h2,if_neg ha]);by_cases ha1:s.tx.least=s.tx.b.size
   ·have ha2:¬s.tx.most=s.tx.b.size:=fun h=>ha ⟨ha1,h⟩;exact YP
   ·exact YP
 by_cases h4:s.kinds=4
 case pos =>
  by_cases ha:s.nu.ln=s.nu.hn∧s.nu.ls=s.nu.hs
  case pos =>
   obtain ⟨ha1,ha2⟩:=ha;have HF:=Hd (show Bq a=some ⟨2,⟨#[]⟩,s.nu.hn,s.nu.hs,0,[],[]⟩ by rw [HSI.o];unfold Cb;simp [he,h4,ha1,ha2])
   go_wp2_with fail
   refine (HT1.o _).mono ?_;rintro ee wz ⟨rfl,rfl⟩
   go_wp2_with fail
   refine (HT2.o _).mono ?_;rintro ee wz ⟨rfl,rfl⟩
   go_wp2_with fail
   refine bodyPost_ret (v:=.tuple #[.agg #[.I 2,.string ⟨#[]⟩,.I s.nu.hn,.I s.nu.hs,.I 0,.slice none 0 0,.slice none 0 0],.bool true]) Ot rfl ⟨?_,?_⟩
   ·rw [HF.o];rfl
   ·exact O0
  case neg =>
   have HF:=Hd (show Bq a=none by rw [HSI.o];unfold Cb;rw [if_neg Y38,if_neg h2,if_pos h4,if_neg ha]);by_cases ha1:s.nu.ln=s.nu.hn
   ·have ha2:¬s.nu.ls=s.nu.hs:=fun h=>ha ⟨ha1,h⟩;exact Yo
   ·exact Yo
 by_cases h8:s.kinds=8
 case pos =>
  by_cases ha:s.dl=s.dh
  case pos =>
   have HF:=Hd (show Bq a=some ⟨3,⟨#[]⟩,0,0,s.dh,[],[]⟩ by rw [HSI.o];unfold Cb;simp [he,h8,ha])
   go_wp2_with fail
   refine (HT1.o _).mono ?_;rintro ee wz ⟨rfl,rfl⟩
   go_wp2_with fail
   refine (HT2.o _).mono ?_;rintro ee wz ⟨rfl,rfl⟩
   go_wp2_with fail
   refine (HT3.o _).mono ?_;rintro ee wz ⟨rfl,rfl⟩
   go_wp2_with fail
   refine bodyPost_ret (v:=.tuple #[.agg #[.I 3,.string ⟨#[]⟩,.I 0,.I 0,.I s.dh,.slice none 0 0,.slice none 0 0],.bool true]) Ot rfl ⟨?_,?_⟩
   ·rw [HF.o];rfl
   ·exact O0
  case neg =>
   have HF:=Hd (show Bq a=none by rw [HSI.o];unfold Cb;simp [he,h8,ha])
   go_wp2_with fail
   refine (HT1.o _).mono ?_;rintro ee wz ⟨rfl,rfl⟩
   go_wp2_with fail
   refine (HT2.o _).mono ?_;rintro ee wz ⟨rfl,rfl⟩
   go_wp2_with fail
   refine (HT3.o _).mono ?_;exact Sx
 by_cases h16:s.kinds=16
 case pos =>
  have hbo:=HBO.o h16;by_cases ha:s.bo=3
  case pos =>
   have HF:=Hd (show Bq a=none by rw [HSI.o];unfold Cb;simp [he,h16,ha])
   go_wp2_with fail
   refine (HT1.o _).mono ?_;rintro ee wz ⟨rfl,rfl⟩
   go_wp2_with fail
   refine (HT2.o _).mono ?_;rintro ee wz ⟨rfl,rfl⟩
   go_wp2_with fail
   refine (HT3.o _).mono ?_;rintro ee wz ⟨rfl,rfl⟩
   go_wp2_with fail
   refine (HT4.o _).mono ?_;exact Sx
  case neg =>
   have hb12:s.bo=1∨s.bo=2:=Y4;clear hbo
   rcases hb12 with hb|hb
   ·have hwr:IntKind.i64.wrap 1=1:=rfl;have HF:=Hd (show Bq a=some ⟨4,⟨#[]⟩,0,0,0,[],[]⟩ by rw [HSI.o];unfold Cb;simp [he,h16,hb])
    go_wp2_with fail
    refine (HT1.o _).mono ?_;rintro ee wz ⟨rfl,rfl⟩
    go_wp2_with fail
    refine (HT2.o _).mono ?_;rintro ee wz ⟨rfl,rfl⟩
    go_wp2_with fail
    refine (HT3.o _).mono ?_;rintro ee wz ⟨rfl,rfl⟩
    go_wp2_with fail
    refine (HT4.o _).mono ?_;rintro ee wz ⟨rfl,rfl⟩
    go_wp2_with fail
    refine bodyPost_ret (v:=.tuple #[.agg #[.I 4,.string ⟨#[]⟩,.I 0,.I 0,.I 0,.slice none 0 0,.slice none 0 0],.bool true]) Ot rfl ⟨?_,?_⟩
    ·rw [HF.o];rfl
    ·exact O0
   ·have hwr:IntKind.i64.wrap 2=2:=rfl;have HF:=Hd (show Bq a=some ⟨4,⟨#[]⟩,0,0,1,[],[]⟩ by rw [HSI.o];unfold Cb;simp [he,h16,hb])
    go_wp2_with fail
    refine (HT1.o _).mono ?_;rintro ee wz ⟨rfl,rfl⟩
    go_wp2_with fail
    refine (HT2.o _).mono ?_;rintro ee wz ⟨rfl,rfl⟩
    go_wp2_with fail
    refine (HT3.o _).mono ?_;rintro ee wz ⟨rfl,rfl⟩
    go_wp2_with fail
    refine (HT4.o _).mono ?_;rintro ee wz ⟨rfl,rfl⟩
    go_wp2_with fail
    refine bodyPost_ret (v:=.tuple #[.agg #[.I 4,.string ⟨#[]⟩,.I 0,.I 0,.I 1,.slice none 0 0,.slice none 0 0],.bool true]) Ot rfl ⟨?_,?_⟩
    ·rw [HF.o];rfl
    ·exact O0
 have HF:=Hd (show Bq a=none by rw [HSI.o];unfold Cb;rw [if_neg Y38,if_neg h2,if_neg h4,if_neg h8,if_neg h16])
 go_wp2_with fail
 refine (HT1.o _).mono ?_;rintro ee wz ⟨rfl,rfl⟩
 go_wp2_with fail
 refine (HT2.o _).mono ?_;rintro ee wz ⟨rfl,rfl⟩
 go_wp2_with fail
 refine (HT3.o _).mono ?_;rintro ee wz ⟨rfl,rfl⟩
 go_wp2_with fail
 refine (HT4.o _).mono ?_;rintro ee wz ⟨rfl,rfl⟩
 go_wp2_with fail
 refine bodyPost_ret (v:=.tuple #[.agg Vz,.bool false]) Ot rfl ⟨?_,?_⟩
 ·rw [HF.o];rfl
 ·exact O0

theorem R2(h:qP:=by rw [hw0,hg2];exact (Blk.new _ _ _).keep ((exaa _).kept _)):qP:=h
theorem Rv(h:qP:=by rw [hw0,hg3];exact EzA _ _ _ _):qP:=h
theorem FH(q:Nat)(a:Abs)(x:Val)(A D B C:OA)(c e cb cc:Nat)(w:World)(S T:NP)(hA:Strs w S A a.cols)(hD:RDeps w S D a.deps)(hx:RV w T q x B C) :
  Cl 54 #[(Aq a A c D e),(Vq x B cb C cc)] w (AO w (Ct a x)):=by
 obtain ⟨w0,hw0⟩:=eqx ((w.alloc (.cells (Ap a A c D e) 39)).alloc (.cells (Vp x B cb C cc) 29));obtain ⟨g2,hg2⟩:=eqx w.heap.size;obtain ⟨g3,hg3⟩:=eqx (w.heap.size+1);have hx0:Ext w w0:=Y49;have hb2:Blk w0 g2 39 (Ap a A c D e):=R2;have hb3:Blk w0 g3 29 (Vp x B cb C cc):=Rv;have q13:=hb2.q13;have q14:=hb2.q14;have q15:w0.cell? ⟨g2,15,none⟩=some (.slice A a.cols.length c):=hb2.q15;have q16:w0.cell? ⟨g2,16,none⟩=some (.slice D a.deps.length e):=hb2.q16;have p5:=hb3.q5;have p6:=hb3.q6;obtain ⟨HW0,HG2,HG3,HX0,HA,HD,HV,HP5⟩:=Hd8 hw0 hg2 hg3 hx0 (hA.keep (hx0.kept _)) (hD.keep (hx0.kept _)) (hx.keep (hx0.kept _)) p5;have HP6:=Hd p6;have hal:=hA.2.1;have hdl:=hD.1;obtain ⟨nr,hnr⟩:=eqx x.rows.length;have HT:=Hd (show Ct a x=(decide (a.rl≤(nr:Int))&&decide ((nr:Int)≤a.rh)&&a.cols.all (AZ x.cols)&&a.deps.all fun d=>Al x.cols x.rows d.frm d.to) by rw [hnr];rfl);have HNR:=Hd hnr;rw [←hnr] at p6;clear hw0 hg2 hg3 hx0 hb2 hb3 hA hD hx hnr
 go_enter func54,ntmps54
 go_upto_region 1 with fail
 rw [←HW0.o,←HG3.o,←HG2.o];by_cases h1:a.rl≤(nr:Int)
 case neg =>
  have h1':(nr:Int)<a.rl:=Y4;have HF:=Hd (show Ct a x=false by rw [HT.o,decide_eq_false h1];rfl);go_wp2;exact Z92
 have h1':¬(nr:Int)<a.rl:=Y4;by_cases h2:(nr:Int)≤a.rh
 case neg =>
  have h2':a.rh<(nr:Int):=Y4;have HF:=Hd (show Ct a x=false by rw [HT.o,decide_eq_false h2,Bool.and_false];rfl);go_wp2;exact Z92
 have h2':¬a.rh<(nr:Int):=Y4;have HT2:=Hd (show Ct a x=(a.cols.all (AZ x.cols)&&a.deps.all fun d=>Al x.cols x.rows d.frm d.to) by rw [HT.o,decide_eq_true h1,decide_eq_true h2];rfl);clear h1 h2;go_wp2
 go_loop [28] (fun i=>∃ k:Nat,k≤a.cols.length∧i=.I k∧∀ j (h:j<a.cols.length),j<k→AZ x.cols a.cols[j]=true) (fun i=>a.cols.length-(intOf i).toNat)
 case atStart=>exact ⟨0,AE,rfl,Y8⟩
 case round =>
  obtain ⟨k,hk,rfl,hall⟩:=hrel;have HAL:=Hd hall;clear hall;by_cases hlt:k<a.cols.length
  ·obtain ⟨b1,o1,rfl,z1,c1⟩:=HA.o.at_ hlt;have HC:=Hd (fun w' (hw':Ext w0 w')=>BU B cb x.cols a.cols[k] w' T (HV.o.strs.keep (hw'.kept _)));cases hm:AZ x.cols a.cols[k]
   ·rw [hm] at HC;have HF:=Hd (show Ct a x=false by rw [HT2.o,Bg a.cols (AZ x.cols) k hlt hm];rfl);clear hm
    go_wp2_with fail
    refine (HC.o _ (Ext.refl _)).mono ?_;rintro ee w' ⟨rfl,rfl⟩
    go_wp2_with fail
    exact Z92
   ·rw [hm] at HC;have HM:=Hd hm;clear hm
    go_wp2_with fail
    refine (HC.o _ (Ext.refl _)).mono ?_;rintro ee w' ⟨rfl,rfl⟩
    go_wp2_with fail
    go_round
    case rel =>
     refine ⟨k+1,Y4,Y5,fun j h hj => ?_⟩;by_cases hjk:j=k
     ·subst hjk;exact HM.o
     ·exact HAL.o j h Y4
    case measure=>simp [intOf];omega
  ·have HT3:=Hd (show Ct a x=(a.deps.all fun d=>Al x.cols x.rows d.frm d.to) by rw [HT2.o,BX a.cols (AZ x.cols) (fun j h=>HAL.o j h Y4),Bool.true_and]);go_wp2
   go_loopw [41] (fun i wr=>∃ k:Nat,k≤a.deps.length∧i=.I k∧Ext w0 wr∧∀ j (h:j<a.deps.length),j<k→(fun d:Dep=>Al x.cols x.rows d.frm d.to) a.deps[j]=true) (fun i _=>a.deps.length-(intOf i).toNat)
   case atStart=>exact ⟨0,AE,rfl,Ext.refl _,Y8⟩
   case round =>
    clear p5 p6 q13 q14 q15 q16;obtain ⟨m,hm,rfl,hext,hall⟩:=hrel;have HE:=Hd hext;have HDL:=Hd hall;clear hall;by_cases hlm:m<a.deps.length
    ·obtain ⟨b1,o1,B1,e1,he,z1,c1,c2,f1,f2,f3⟩:=(HD.o.keep (hext.kept _)).at_ hlm;subst he;obtain ⟨d,hd⟩:=eqx (a.deps[m]);rw [←hd] at c1 c2 f1 f2 f3;have p5:=hext.cell HP5.o;have p6:=hext.cell HP6.o;obtain ⟨wv,hwv⟩:=eqx (wr.alloc (.cells #[.slice B1 d.frm.length e1,.string d.to] 69));have hxv:Ext wr wv:=(by rw [hwv];exact (Ext.refl wr).alloc _);have hbv:Blk wv wr.heap.size 69 #[.slice B1 d.frm.length e1,.string d.to]:=(by rw [hwv];exact Blk.new _ _ _);obtain ⟨r0,r1⟩:=hbv.qs2;have p5':=hxv.cell p5;have p6':=hxv.cell p6;have hxx:=hext.trans hxv;obtain ⟨HH,HWV,HXV,HXW,HDM⟩:=Hd5 (Nv q x.cols x.rows d.frm d.to B C B1 cb cc e1 wv T T S (HV.o.strs.keep (hxx.kept _)) (HV.o.rows_.keep (hxx.kept _)) (f3.keep (hxv.kept _))) hwv (HX0.o.trans hxx) hxx hd;clear hwv hxv hbv hxx f1 f2 f3 hd hext
     go_upto_region 12 with fail
     rw [←HWV.o];clear p5 p6 c1 c2;cases hh:Al x.cols x.rows d.frm d.to
     ·rw [hh] at HH;have HF:=Hd (show Ct a x=false by rw [HT3.o];exact Bg a.deps (fun d=>Al x.cols x.rows d.frm d.to) m hlm (by rw [←HDM.o];exact hh));clear hh
      go_wp2_with fail
      refine HH.o.mono ?_;rintro ee w' ⟨rfl,hx'⟩;have HXL:=Hd (HXV.o.trans hx');clear hx'
      go_wp2_with fail
      go_ret;exact ⟨Y19,HXL.o⟩
     ·rw [hh] at HH;have HM:=Hd hh;clear hh
      go_wp2_with fail
      refine HH.o.mono ?_;rintro ee w' ⟨rfl,hx'⟩;have HXL:=Hd (HXW.o.trans hx');clear hx'
      go_wp2_with fail
      go_roundw
      case rel =>
       refine ⟨m+1,Y4,Y5,HXL.o,fun j h hj => ?_⟩;by_cases hjk:j=m
       ·subst hjk;have:=HM.o;rw [HDM.o] at this;exact this
       ·exact HDL.o j h Y4
      case measure=>simp [intOf];omega
    ·have HF:=Hd (show Ct a x=true by rw [HT3.o];exact BX a.deps (fun d=>Al x.cols x.rows d.frm d.to) (fun j h=>HDL.o j h Y4));clear hext;go_wp2;go_ret;exact ⟨Y19,HX0.o.trans HE.o⟩

theorem U9{v:Val}(hr:Ae v=true)(hk:v.kind=4):v.n=0∨v.n=1:=ES hr hk
theorem Ve(h:qP:=by
 go_wp2_with fail
 exact Z82):qP:=h
theorem BpA(h:qP:=by
 go_wp2_with fail
 refine HC.o.mono ?_;rintro e2 w2 ⟨rfl,hx2⟩;have HX2:=Hd (HXF.o.trans hx2);clear hx2;exact VM):qP:=h
theorem AYA(h:qP:=by
 clear hk1 hk2;exact BpA):qP:=h
theorem X3(h:qP:=by
 go_upto_region 15 with fail
 refine Qa (fun _ _=>False) [] ?_
 iterate 8 refine Qp ?_
 intro vals γ w9 hR hG;refine Qx ?_;have HXM:=Hd (show Ext wx w9 from hR.ext0 (fun _ _ _ h=>h.elim));clear hR hG;have HXG:=Hd (HXF.o.trans HXM.o)
 go_wp2_with fail
 go_ret;exact ⟨by rw [HF.o,←HBZ.o];rfl,HXG.o⟩):qP:=h
theorem BS(q:Nat)(a:Abs)(x:Val)(A D B C:OA)(c e cb cc:Nat)(w:World)(S T:NP)(hA:Strs w S A a.cols)(hD:RDeps w S D a.deps)(hx:RV w T q x B C)(hcap:x.cols.length≤cb)(ht:Tens w)(hz:AbN 1000000 a) :
  Cl 17 #[(Aq a A c D e),(Vq x B cb C cc)] w (AO w (AK a x)):=by
 obtain ⟨hz1,hz2,-⟩:=hz;obtain ⟨w0,hw0⟩:=eqx ((w.alloc (.cells (Ap a A c D e) 39)).alloc (.cells (Vp x B cb C cc) 29));obtain ⟨g2,hg2⟩:=eqx w.heap.size;obtain ⟨g3,hg3⟩:=eqx (w.heap.size+1);have hx0:Ext w w0:=Y49;have hb2:Blk w0 g2 39 (Ap a A c D e):=R2;have hb3:Blk w0 g3 29 (Vp x B cb C cc):=Rv;obtain ⟨p0,p1,p2,p3,p4,p5,p6⟩:=hb3.qs7;obtain ⟨HB2,HB3,HW0,HG2,HG3,HX0,HA,HD⟩:=Hd8 hb2 hb3 hw0 hg2 hg3 hx0 (hA.keep (hx0.kept _)) (hD.keep (hx0.kept _));have HV:=Hd (hx.keep (hx0.kept _));have HT:=Hd (ht.ext hx0);have hss:=hx.size;have HRT:=Hd (Im q x B C cb cc w0 T (hx.keep (hx0.kept _)) hcap);clear hw0 hg2 hg3 hx0 hb2 hb3 hA hD hx ht hcap
 go_enter func17,ntmps17
 go_upto_region 1 with fail
 rw [←HW0.o,←HG3.o,←HG2.o]
 go_wp2_with fail
 cases hr:Ae x
 ·have HF:=Hd (show AK a x=false by unfold AK;rw [hr];rfl);rw [hr] at HRT;clear hr;refine HRT.o.mono ?_;rintro e1 w1 ⟨rfl,hx1⟩;have HX1:=Hd (HX0.o.trans hx1);clear hx1 p0 p1 p2 p3 p4 p5 p6;exact Ve
 have HR:=Hd hr;rw [hr] at HRT;clear hr;refine HRT.o.mono ?_;rintro e1 w1 ⟨rfl,hx1⟩;have HX1:=Hd (HX0.o.trans hx1);have HXA:=Hd hx1;clear hx1 p0 p1 p2 p3 p4 p5 p6;have HB21:=Hd (HB2.o.keep (HXA.o.kept _));have HB31:=Hd (HB3.o.keep (HXA.o.kept _));have p0:=HB31.o.q0;by_cases hk0:x.kind=0
 ·have q17:w1.cell? ⟨g2,17,none⟩=some (.bool a.errs):=HB21.o.q17;have hkk:(x.kind==0)=true:=(by rw [hk0];rfl);have HF:=Hd (show AK a x=a.errs by unfold AK;rw [HR.o,if_pos hk0];rfl);exact Ve
 have hkz:(x.kind==0)=false:=(by simpa using hk0);obtain ⟨k,hk⟩:∃ k:Nat,x.kind=(k:Int):=⟨x.kind.toNat,by rcases CQ HR.o with h|h|h|h|h|h<;>rw [h]<;>rfl⟩;have hk5:1≤k∧k≤5:=(by rcases CQ HR.o with h|h|h|h|h|h<;>omega);obtain ⟨p2,hp2⟩:=eqx ((2^k:Nat):Int);have HBI:=Hd (show ∀ w',Cl 48 #[.I x.kind] w' (BK w' p2) from fun w'=>by rw [hp2,hk];exact AW k Y4 w');have hand:=Hk a.kinds k Y4;rw [←hp2] at hand;obtain ⟨y,hy⟩:=eqx (bits .and .i64 a.kinds p2);rw [←hy] at hand;obtain ⟨HAND,HK,HK5⟩:=Hd3 hand hk hk5;have hbx:bits .and .i64 a.kinds p2=y:=hy.symm;obtain ⟨HPA,k0,l0⟩:=Hd3 (show AK a x=Eq a x by unfold AK;rw [HR.o,if_neg hk0];rfl) (HB21.o.q0) (HB31.o.q0);clear hand hp2 hy hk hk5;by_cases hyz:y=0
 ·have HX0:=Hd (show (y==0)=true by rw [hyz];rfl);have HF:=Hd (show AK a x=false by
   have hb:bt a.kinds k=false:=(by rw [←HAND.o,hyz];rfl);have hkk:=HK.o;have hh:=HK5.o;rw [HPA.o];unfold Eq
   rcases (show k=1∨k=2∨k=3∨k=4∨k=5 by omega) with h|h|h|h|h<;>subst h<;>simp [hkk,hb])
  clear hyz
  go_upto_region 5 with fail
  refine Qa (fun _ _=>False) [] ?_
  iterate 4 refine Qp ?_
  refine Qc (fun w'=>HBI.o w') ?_;refine Qp ?_;refine Qm (fun vals γ w' ρ hR hN hp hρ zs zg=>by
   exact S7) ?_
  intro vals γ w9 hR hG;refine Qx ?_;have HXN:=Hd (show Ext w1 w9 from hR.ext0 (fun _ _ _ h=>h.elim));clear hR hG;have HXF:=Hd (HX1.o.trans HXN.o)
  go_wp2_with fail
  go_ret;exact ⟨Y19,HXF.o⟩
 have HX0':=HX0;have HB:=Hd (show bt a.kinds k=true by rw [←HAND.o];simpa using hyz);clear HX0;have HX0:=Hd (show (y==0)=false by simpa using hyz);clear hyz
 go_upto_region 5 with fail
 refine Qa (fun _ _=>False) [] ?_
 iterate 4 refine Qp ?_
 refine Qc (fun w'=>HBI.o w') ?_;refine Qp ?_;refine Qm (fun vals γ w' ρ hR hN hp hρ zs zg=>by
  exact S7) ?_
 intro vals γ w9 hR hG;refine Qx ?_;have HXN:=Hd (show Ext w1 w9 from hR.ext0 (fun _ _ _ h=>h.elim));clear hR hG;obtain ⟨wx,hwx⟩:=eqx w9;rw [←hwx];have HXW:=Hd (show Ext w0 wx by rw [hwx];exact HXA.o.trans HXN.o);obtain ⟨HXF,HB2X,HB3X⟩:=Hd3 (HX0'.out.trans HXW.o) (HB2.o.keep (HXW.o.kept _)) (HB3.o.keep (HXW.o.kept _));clear hwx p0 hbx;have p0:=HB3X.o.q0;have hk1:=HK.o;have hk2:=HK5.o
 rcases (show k=1∨k=2∨k=3∨k=4∨k=5 by omega) with h|h|h|h|h
 ·subst h;have hke:x.kind=1:=hk1;have HF:=Hd (show AK a x=AQ a.tx x.s by rw [HPA.o];unfold Eq;rw [if_pos hke,HB.o];rfl);have HC:=Hd (J7 a.tx x.s Y4 Y4 hss wx);have q1:=HB2X.o.q1;have q2:=HB2X.o.q2;have q3:=HB2X.o.q3;have q4:=HB2X.o.q4;have q5:=HB2X.o.q5;have p1:=HB3X.o.q1;exact AYA
 ·subst h;have hke:x.kind=2:=hk1;have HF:=Hd (show AK a x=Af a.nu x.dn x.ds by rw [HPA.o];unfold Eq;rw [if_neg Y4,if_pos hke,HB.o];rfl);have HC:=Hd (Hz a.nu x.dn x.ds wx (HT.o.ext HXW.o));have q6:=HB2X.o.q6;have q7:=HB2X.o.q7;have q8:=HB2X.o.q8;have q9:=HB2X.o.q9;have p2:=HB3X.o.q2;have p3:=HB3X.o.q3;exact AYA
 ·subst h;have hke:x.kind=3:=hk1;have HF:=Hd (show AK a x=(decide (a.dl≤x.n)&&decide (x.n≤a.dh)) by rw [HPA.o];unfold Eq;rw [if_neg Y4,if_neg Y4,if_pos hke,HB.o];simp);have q10:=HB2X.o.q10;have q11:=HB2X.o.q11;have p4:=HB3X.o.q4;clear hk1 hk2;by_cases hle:a.dl≤x.n
  ·have HF2:=Hd (show AK a x=decide (x.n≤a.dh) by rw [HF.o,decide_eq_true hle,Bool.true_and])
   go_wp2_with fail
   go_ret;exact ⟨by rw [HF2.o];rfl,HXF.o⟩
  ·have hlt:¬a.dl≤x.n:=hle;have HF2:=Hd (show AK a x=false by rw [HF.o,decide_eq_false hlt,Bool.false_and]);clear hlt
   go_wp2_with fail
   go_ret;exact ⟨by rw [HF2.o];first|rfl|(simp;omega),HXF.o⟩
 ·subst h;have hke:x.kind=4:=hk1;have HF:=Hd (show AK a x=bt a.bo x.n.toNat by rw [HPA.o];unfold Eq;rw [if_neg Y4,if_neg Y4,if_neg Y4,if_pos hke,HB.o];rfl);have hbn:=U9 HR.o hk1;have k12:=Hd (HB2X.o.q12);have l4:=Hd (HB3X.o.q4);obtain ⟨z,hzz⟩:=eqx (bits .and .i64 a.bo (if x.n=0 then 1 else 2));have hbz:(z != 0)=bt a.bo x.n.toNat:=by
   rw [hzz]
   rcases hbn with h|h
   ·rw [h,if_pos rfl];exact Hk a.bo 0 Y4
   ·rw [h,if_neg Y17];exact Hk a.bo 1 Y4
  have HBZ:=Hd hbz;have hand:bits .and .i64 a.bo (if x.n=0 then 1 else 2)=z:=hzz.symm;clear hzz hbz
  rcases hbn with h0|h0
  ·rw [if_pos h0] at hand;have hw1:IntKind.i64.wrap 1=1:=rfl;exact X3
  ·rw [if_neg Y4] at hand;have hw1:IntKind.i64.wrap 2=2:=rfl;exact X3
 ·subst h;have hke:x.kind=5:=hk1;have HF:=Hd (show AK a x=Ct a x by rw [HPA.o];unfold Eq;rw [if_neg Y4,if_neg Y4,if_neg Y4,if_neg Y4,HB.o];rfl);have HC:=Hd (FH q a x A D B C c e cb cc wx _ _ (HA.o.keep (HXW.o.kept _)) (HD.o.keep (HXW.o.kept _)) (HV.o.keep (HXW.o.kept _)));clear hk1 hk2
  go_upto_region 16 with fail
  clear hke p0;obtain ⟨p0,p1,p2,p3,p4,p5,p6⟩:=HB3X.o.qs7;refine wp_region_lit ?_;refine AB rfl 39 _ rfl g2 rfl HB2X.o AH AA ?_;exact BpA

theorem RP(a:Abs)(A D B E:OA)(c e cb eb:Nat)(w:World)(S T:NP)(hA:Strs w S A a.cols)(hD:RDeps w S D a.deps)(hB:Strs w T B a.cols)(hE:RDeps w T E a.deps) :
  Cl 21 #[(Aq a A c D e),(Aq a B cb E eb)] w (AO w true):=by
 obtain ⟨w0,hw0⟩:=eqx ((w.alloc (.cells (Ap a A c D e) 39)).alloc (.cells (Ap a B cb E eb) 39));obtain ⟨g2,hg2⟩:=eqx w.heap.size;obtain ⟨g3,hg3⟩:=eqx (w.heap.size+1);have hx0:Ext w w0:=Y49;have hb2:Blk w0 g2 39 (Ap a A c D e):=R2;have hb3:Blk w0 g3 39 (Ap a B cb E eb):=Rv;obtain ⟨HW0,HG2,HG3,HX0,HB2,HB3,HD,HE⟩:=Hd8 hw0 hg2 hg3 hx0 hb2 hb3 (hD.keep (hx0.kept _)) (hE.keep (hx0.kept _));have hdl:=hD.1;have HST:=Hd (Fw A B c cb a.cols a.cols w0 S T (hA.keep (hx0.kept _)) (hB.keep (hx0.kept _)));rw [decide_eq_true rfl] at HST;clear hw0 hg2 hg3 hx0 hb2 hb3 hA hD hB hE;have q15:w0.cell? ⟨g2,15,none⟩=some (.slice A a.cols.length c):=HB2.o.q15;have p15:w0.cell? ⟨g3,15,none⟩=some (.slice B a.cols.length cb):=HB3.o.q15
 go_enter func21,ntmps21
 go_upto_region 1 with fail
 rw [←HW0.o,←HG3.o,←HG2.o]
 go_wp2_with fail
 refine HST.o.mono ?_;rintro e1 w1 ⟨rfl,n,hwn⟩;have hxn:Ext w0 w1:=(by rw [hwn];exact (Ext.refl _).drewN n);have HXN1:=Hd hxn;have hb2:=HB2.o.keep (hxn.kept _);have hb3:=HB3.o.keep (hxn.kept _);have q0:w1.cell? ⟨g2,0,none⟩=some (.I a.kinds):=hb2.q0;have p0:w1.cell? ⟨g3,0,none⟩=some (.I a.kinds):=hb3.q0;have q1:w1.cell? ⟨g2,1,none⟩=some (.I a.tx.least):=hb2.q1;have p1:w1.cell? ⟨g3,1,none⟩=some (.I a.tx.least):=hb3.q1;have q2:w1.cell? ⟨g2,2,none⟩=some (.I a.tx.most):=hb2.q2;have p2:w1.cell? ⟨g3,2,none⟩=some (.I a.tx.most):=hb3.q2;have q3:w1.cell? ⟨g2,3,none⟩=some (.I a.tx.cls):=hb2.q3;have p3:w1.cell? ⟨g3,3,none⟩=some (.I a.tx.cls):=hb3.q3;have q4:w1.cell? ⟨g2,4,none⟩=some (.string a.tx.b):=hb2.q4;have p4:w1.cell? ⟨g3,4,none⟩=some (.string a.tx.b):=hb3.q4;have q5:w1.cell? ⟨g2,5,none⟩=some (.string a.tx.e):=hb2.q5;have p5:w1.cell? ⟨g3,5,none⟩=some (.string a.tx.e):=hb3.q5;have q6:w1.cell? ⟨g2,6,none⟩=some (.I a.nu.ln):=hb2.q6;have p6:w1.cell? ⟨g3,6,none⟩=some (.I a.nu.ln):=hb3.q6;have q7:w1.cell? ⟨g2,7,none⟩=some (.I a.nu.ls):=hb2.q7;have p7:w1.cell? ⟨g3,7,none⟩=some (.I a.nu.ls):=hb3.q7;have q8:w1.cell? ⟨g2,8,none⟩=some (.I a.nu.hn):=hb2.q8;have p8:w1.cell? ⟨g3,8,none⟩=some (.I a.nu.hn):=hb3.q8;have q9:w1.cell? ⟨g2,9,none⟩=some (.I a.nu.hs):=hb2.q9;have p9:w1.cell? ⟨g3,9,none⟩=some (.I a.nu.hs):=hb3.q9;have q10:w1.cell? ⟨g2,10,none⟩=some (.I a.dl):=hb2.q10;have p10:w1.cell? ⟨g3,10,none⟩=some (.I a.dl):=hb3.q10;have q11:w1.cell? ⟨g2,11,none⟩=some (.I a.dh):=hb2.q11;have p11:w1.cell? ⟨g3,11,none⟩=some (.I a.dh):=hb3.q11;have q12:w1.cell? ⟨g2,12,none⟩=some (.I a.bo):=hb2.q12;have p12:w1.cell? ⟨g3,12,none⟩=some (.I a.bo):=hb3.q12;have q13:w1.cell? ⟨g2,13,none⟩=some (.I a.rl):=hb2.q13;have p13:w1.cell? ⟨g3,13,none⟩=some (.I a.rl):=hb3.q13;have q14:w1.cell? ⟨g2,14,none⟩=some (.I a.rh):=hb2.q14;have p14:w1.cell? ⟨g3,14,none⟩=some (.I a.rh):=hb3.q14;have q16:w1.cell? ⟨g2,16,none⟩=some (.slice D a.deps.length e):=hb2.q16;have p16:w1.cell? ⟨g3,16,none⟩=some (.slice E a.deps.length eb):=hb3.q16;have q17:w1.cell? ⟨g2,17,none⟩=some (.bool a.errs):=hb2.q17;have p17:w1.cell? ⟨g3,17,none⟩=some (.bool a.errs):=hb3.q17;clear hxn hwn hb2 hb3 q15 p15
 go_upto_region 4 with fail
 clear q0 p0 q1 p1 q2 p2 q3 p3 q4 p4 q5 p5 q6 p6 q7 p7 q8 p8 q9 p9 q10 p10 q11 p11 q12 p12 q13 p13 q14 p14 q17 p17;go_wp2
 go_loopw [6] (fun i wr=>∃ k:Nat,k≤a.deps.length∧i=.I k∧Ext w0 wr) (fun i _=>a.deps.length-(intOf i).toNat)
 case atStart=>exact ⟨0,AE,rfl,HXN1.o⟩
 case round =>
  clear q16 p16;obtain ⟨k,hk,rfl,hext⟩:=hrel;have HXE:=Hd hext;have q16:wr.cell? ⟨g2,16,none⟩=some (.slice D a.deps.length e):=(HB2.o.keep (hext.kept _)).q16;have p16:wr.cell? ⟨g3,16,none⟩=some (.slice E a.deps.length eb):=(HB3.o.keep (hext.kept _)).q16;by_cases hlt:k<a.deps.length
  ·obtain ⟨b1,o1,B1,e1,he1,z1,c1,c2,f1,f2,f3⟩:=(HD.o.keep (hext.kept _)).at_ hlt;obtain ⟨b2,o2,B2,e2,he2,z2,d1,d2,k1,k2,k3⟩:=(HE.o.keep (hext.kept _)).at_ hlt;subst he1 he2;obtain ⟨K16,L16,C0,C1,C2,C3,HF3,HK3⟩:=Hd8 q16 p16 c1 c2 d1 d2 f3 k3;have HSD:=Hd (show ∀ w',Ext wr w'→Cl 61 #[.agg #[.slice B1 a.deps[k].frm.length e1,.string a.deps[k].to],.agg #[.slice B2 a.deps[k].frm.length e2,.string a.deps[k].to]] w' (AO w' true) from fun w' hw'=>by
    have h:=Iu a.deps[k] a.deps[k] B1 B2 e1 e2 w' _ _ (HF3.o.keep (hw'.kept _)) (HK3.o.keep (hw'.kept _));rwa [decide_eq_true rfl] at h)
   clear hext c1 c2 d1 d2 f1 f2 f3 k1 k2 k3
   go_upto_region 7 with fail
   clear q16 p16;refine Qa (fun _ _=>False) [] ?_
   iterate 10 refine Qp ?_
   refine Qd (fun w' HXW=>HSD.o w' HXW.o) ?_;refine Qp ?_;intro vals γ w9 hR hG;refine Qx ?_;have HXN:=Hd (show Ext wr w9 from hR.ext0 (fun _ _ _ h=>h.elim));clear hR hG
   go_wp2_with fail
   go_roundw
   case rel=>exact ⟨k+1,Y4,Y5,HXE.o.trans HXN.o⟩
   case measure=>simp [intOf];omega
  ·have HXF:=Hd (HX0.o.trans hext);clear hext;go_wp2;go_ret;exact ⟨rfl,HXF.o⟩

theorem Jo(w:World):Cl 28 #[] w (Rk w noneA):=by
 have HSH:=Hd (show ∀ w',Cl 73 #[] w' (fun e w''=>e=.returned (.agg #[.I 1,.I 0,.I 0,.string ⟨#[]⟩,.string ⟨#[]⟩])∧Ext w' w'') from Jd);have HSP:=Hd (show ∀ w',Cl 74 #[] w' (fun e w''=>e=.returned (.agg #[.I 1,.I 0])∧Ext w' w'') from NI)
 go_enter func28,ntmps28
 go_wp2_with fail
 refine (HSH.o _).mono ?_;rintro e1 w1 ⟨rfl,hx1⟩;have HX1:=Hd ((exaa w).trans hx1);have HB1:=Hd ((Blk.new w 39 Az).keep (hx1.kept _));clear hx1
 go_wp2_with fail
 refine (HSP.o _).mono ?_;rintro e2 w2 ⟨rfl,hx2⟩;have HX2:=Hd (HX1.o.trans hx2);have HB2:=Hd (HB1.o.keep (hx2.kept _));clear hx2
 go_wp2_with fail
 refine (HSP.o _).mono ?_;rintro e3 w3 ⟨rfl,hx3⟩;have HX3:=Hd (HX2.o.trans hx3);have HB3:=Hd (HB2.o.keep (hx3.kept _));clear hx3;rename_i K1 hK1 K2 hK2;refine hK2 _ _ ?_;refine wpList_build rfl 39 _ rfl Y11 ?_;refine AD rfl 39 _ _ rfl w.heap.size (Ap noneA none 0 none 0) rfl Y11 39 _ HB3.o AA rfl Y11 ?_;intro w4 hb4 ho4;have HX4:=Hd (HX3.o.only ho4 (AS));refine hK1 _ _ ?_;clear hK1 hK2 HB1 HB2 HB3 HX1 HX2 HX3
 go_wp2_with fail
 exact bodyPost_ret (BR results28 rfl (DM hb4 AH AA)) rfl ⟨rfl,HX4.o⟩

def vA1:Val:=⟨1,⟨#[97,49]⟩,0,0,0,[],[]⟩
def Pu:Val:=⟨4,⟨#[]⟩,0,0,1,[],[]⟩
def vN1:Val:=⟨2,⟨#[]⟩,1,0,0,[],[]⟩
def vN2:Val:=⟨2,⟨#[]⟩,2,0,0,[],[]⟩
def vN3:Val:=⟨2,⟨#[]⟩,3,0,0,[],[]⟩
def SP:Val:=⟨2,⟨#[]⟩,25,1,0,[],[]⟩
def Tw:Val:=⟨3,⟨#[]⟩,0,0,5,[],[]⟩
def Sw:Val:=⟨0,⟨#[]⟩,0,0,18,[],[]⟩
noncomputable def vJn:Abs:=Do (ofA vN1) (ofA SP)
noncomputable def vJd:Abs:=Do (ofA Tw) (ofA Sw)
theorem CkA:(AM (ofA vA1)).kinds=2∧(AM (ofA vA1)).errs=false∧(AM (ofA vA1)).tx=⟨2,2,10,⟨#[97,49]⟩,⟨#[97,49]⟩⟩:=⟨Y11,Y11,Y11⟩
theorem EQA:(AM vJn).kinds=4∧(AM vJn).errs=false∧(AM vJn).nu=⟨1,0,25,1⟩:=⟨Y11,Y11,Y11⟩
theorem EOA:(AM vJd).kinds=8∧(AM vJd).errs=true∧(AM vJd).dl=5∧(AM vJd).dh=5:=⟨Y11,Y11,Y11,Y11⟩
theorem CgA:EW (ofA vN1) (ofA vN2)=noneA:=by kernel_rfl
theorem EeA:Bq (ofA Pu)=some Pu:=by kernel_rfl
theorem DRA:Bq (By 4)=none:=by kernel_rfl
theorem DGA:AK (By 2) vN3=true:=by kernel_rfl
theorem BsA:AK (By 2) vA1=false:=by kernel_rfl
theorem QP(h:qP:=by show (0:Nat)≤_;omega):qP:=h
theorem SC(k:Int):AbN 1000 (By k):=by
 unfold By;exact AbN.can ⟨QP,QP,QP,QP,fun d hd=>Y81⟩
theorem UJ:AbN 1000000 (By 4):=(SC 4).mono Y17
theorem PP:AbN 1000000 (By 2):=(SC 2).mono Y17
theorem I7(w:World)(S:NP)(q:Nat)(k:Int)(s:BA)(a b n:Int)(hs:s.size≤4294967296)(A B:OA):RV w S q ⟨k,s,a,b,n,[],[]⟩ A B :=
 RV.mk hs ⟨.inl rfl,QP,by intro s hs;cases hs⟩ ⟨QP,[],.inl rfl,rfl,by intro i r hi;simp at hi⟩
def SvA(a:Abs)(v:Value)(w':World):Prop:=∃ (A:OA) (c:Nat) (D:OA) (e:Nat),v=(Aq a A c D e)∧AbM w' (fun _=>True) a A c D e
theorem ZF(A D:OA)(c e:Nat)(w:World)(ht:Txa w)(h:AbM w (fun _=>True) (ofA vA1) A c D e)(hz:AbN 1000000 (ofA vA1)):Cl 33 #[(let av:=(ofA vA1);(Aq av A c D e))] w (Bt w ⟨#[116,101,120,116,40,50,32,50,32,49,48,32,50,58,97,49,32,50,58,97,49,41]⟩):=by
 have h1:=CkA;have h2:=JC (ofA vA1) (AM (ofA vA1)) A D c e w (fun _=>True) h.2.2.1 h.2.2.2 hz ht rfl h1.1 h1.2.1 (by rw [h1.2.2];exact ⟨⟨Y17,Y17⟩,⟨Y17,Y17⟩,⟨Y17,Y17⟩,Y17,Y17⟩) (by rw [h1.2.2];exact of_decide_eq_true Y11);have h3:bsA ([116,101,120,116,40]++KR (AM (ofA vA1)).tx++[41])=⟨#[116,101,120,116,40,50,32,50,32,49,48,32,50,58,97,49,32,50,58,97,49,41]⟩:=Y11;rw [h3] at h2;exact h2
theorem XG(A D:OA)(c e:Nat)(w:World)(ht:Txa w)(h:AbM w (fun _=>True) (vJn) A c D e)(hz:AbN 1000000 (vJn)):Cl 33 #[(let av:=(vJn);(Aq av A c D e))] w (Bt w ⟨#[110,117,109,98,101,114,40,49,46,46,50,46,53,41]⟩):=by
 have h1:=EQA;have h2:=Ix (vJn) (AM (vJn)) A D c e w (fun _=>True) 0 1 h.2.2.1 h.2.2.2 hz ht rfl h1.1 h1.2.1 (by rw [h1.2.2];exact ⟨rfl,rfl,Y17,Y17,Y17⟩) (by rw [h1.2.2];exact of_decide_eq_true Y11);have h3:bsA ([110,117,109,98,101,114,40]++Kf (AM vJn).nu++[41])=⟨#[110,117,109,98,101,114,40,49,46,46,50,46,53,41]⟩:=Y11;rw [h3] at h2;exact h2
theorem Yu(A D:OA)(c e:Nat)(w:World)(ht:Txa w)(h:AbM w (fun _=>True) (vJd) A c D e)(hz:AbN 1000000 (vJd)):Cl 33 #[(let av:=(vJd);(Aq av A c D e))] w (Bt w ⟨#[100,97,116,101,40,53,46,46,53,41,32,101,114,114,111,114]⟩):=by
 have h1:=EOA;have h2:=I4 (vJd) (AM (vJd)) A D c e w (fun _=>True) h.2.2.1 h.2.2.2 hz ht rfl h1.1 h1.2.1 (by rw [h1.2.2.1,h1.2.2.2];exact ⟨⟨Y17,Y17⟩,⟨Y17,Y17⟩⟩) (by rw [h1.2.2.1,h1.2.2.2];exact of_decide_eq_true Y11);have h3:bsA ([100,97,116,101,40]++KN (AM vJd).dl (AM vJd).dh++[41]++[32]++[101,114,114,111,114])=⟨#[100,97,116,101,40,53,46,46,53,41,32,101,114,114,111,114]⟩:=Y11;rw [h3] at h2;exact h2

theorem FR(n:Int)(w:World):Cl 34 #[.I n] w (fun e w'=>e=.returned (.agg #[.I 2,.string ⟨#[]⟩,.I n,.I 0,.I 0,.slice none 0 0,.slice none 0 0])∧Ext w w'):=by
 go_enter func34,ntmps34
 go_wp2;exact bodyPost_ret (v:=.agg #[.I 2,.string ⟨#[]⟩,.I n,.I 0,.I 0,.slice none 0 0,.slice none 0 0]) (by simp [results,results34,go_sem]) rfl ⟨rfl,(Ext.refl _).alloc _⟩

theorem CDA(h:qP:=by
 have hxx:=hR.o.ext0 (fun _ _ _ h=>h.elim);have HXW:=Hd hxx;have b1_0:=(HB1.o.keep (hxx.kept _)).q0;have b1_1:=(HB1.o.keep (hxx.kept _)).q1;have b1_2:=(HB1.o.keep (hxx.kept _)).q2;have b1_3:=(HB1.o.keep (hxx.kept _)).q3;have b1_4:=(HB1.o.keep (hxx.kept _)).q4;have b1_5:=(HB1.o.keep (hxx.kept _)).q5;have b1_6:=(HB1.o.keep (hxx.kept _)).q6;have b2_0:=(HB2.o.keep (hxx.kept _)).q0;have b2_1:=(HB2.o.keep (hxx.kept _)).q1;have b2_2:=(HB2.o.keep (hxx.kept _)).q2;have b2_3:=(HB2.o.keep (hxx.kept _)).q3;have b2_4:=(HB2.o.keep (hxx.kept _)).q4;have b2_5:=(HB2.o.keep (hxx.kept _)).q5;have b2_6:=(HB2.o.keep (hxx.kept _)).q6;have b3_0:=(HB3.o.keep (hxx.kept _)).q0;have b3_1:=(HB3.o.keep (hxx.kept _)).q1;have b3_2:=(HB3.o.keep (hxx.kept _)).q2;have b3_3:=(HB3.o.keep (hxx.kept _)).q3;have b3_4:=(HB3.o.keep (hxx.kept _)).q4;have b3_5:=(HB3.o.keep (hxx.kept _)).q5;have b3_6:=(HB3.o.keep (hxx.kept _)).q6;clear hxx;exact Qk):qP:=h
theorem IC(h:qP:=by
 rintro v γ wx γ' wy rr ⟨A1,c1,D1,e1,h1,h2⟩;exact ⟨A1,c1,D1,e1,h1,h2.keep (rr.keptS fun b _ hb m hm=>hm.elim)⟩):qP:=h
theorem Q7(h:qP:=by
 rintro e1 w3 ⟨A4,c4,D4,e4,he,hab,hx⟩;exact ⟨_,he,γ,ExA _ γ hx,fun _ _ _ h=>h,A4,c4,D4,e4,rfl,hab.mono fun _ _ _=>trivial⟩):qP:=h
theorem Zk(h:qP:=by
 intro vals γ w' ρ hR hN hp hρ zs zg;have hxx:=hR.o.ext0 (fun _ _ _ h=>h.elim);have HXW:=Hd hxx;clear hxx;refine Qr ?_;refine (GT 2 w' (HT.o.ext (HX.o.trans HXW.o)).tens).mono ?_;exact Q7):qP:=h
theorem U1(h:qP:=by
 have hxx:=hR.o.ext0 (fun _ _ _ h=>h.elim);have HXW:=Hd hxx;have b1_0:=(HB1.o.keep ((HX.o.trans hxx).kept _)).q0;have b1_1:=(HB1.o.keep ((HX.o.trans hxx).kept _)).q1;have b1_2:=(HB1.o.keep ((HX.o.trans hxx).kept _)).q2;have b1_3:=(HB1.o.keep ((HX.o.trans hxx).kept _)).q3;have b1_4:=(HB1.o.keep ((HX.o.trans hxx).kept _)).q4;have b1_5:=(HB1.o.keep ((HX.o.trans hxx).kept _)).q5;have b1_6:=(HB1.o.keep ((HX.o.trans hxx).kept _)).q6;have b2_0:=(HB2.o.keep ((HX.o.trans hxx).kept _)).q0;have b2_1:=(HB2.o.keep ((HX.o.trans hxx).kept _)).q1;have b2_2:=(HB2.o.keep ((HX.o.trans hxx).kept _)).q2;have b2_3:=(HB2.o.keep ((HX.o.trans hxx).kept _)).q3;have b2_4:=(HB2.o.keep ((HX.o.trans hxx).kept _)).q4;have b2_5:=(HB2.o.keep ((HX.o.trans hxx).kept _)).q5;have b2_6:=(HB2.o.keep ((HX.o.trans hxx).kept _)).q6;have b4_0:=(HB4.o.keep (hxx.kept _)).q0;have b4_1:=(HB4.o.keep (hxx.kept _)).q1;have b4_2:=(HB4.o.keep (hxx.kept _)).q2;have b4_3:=(HB4.o.keep (hxx.kept _)).q3;have b4_4:=(HB4.o.keep (hxx.kept _)).q4;have b4_5:=(HB4.o.keep (hxx.kept _)).q5;have b4_6:=(HB4.o.keep (hxx.kept _)).q6;clear hxx;exact Qk):qP:=h
theorem OU(w:World)(ht:Txa w):Cl 9 #[] w (AO w true):=by
 obtain ⟨w0,hw0⟩:=eqx (((w.alloc (.cells #[.I 1,.string ⟨#[97,49]⟩,.I 0,.I 0,.I 0,.slice none 0 0,.slice none 0 0] 29)).alloc (.cells #[.I 4,.string ⟨#[]⟩,.I 0,.I 0,.I 1,.slice none 0 0,.slice none 0 0] 29)).alloc (.cells #[.I 2,.string ⟨#[]⟩,.I 25,.I 1,.I 0,.slice none 0 0,.slice none 0 0] 29));obtain ⟨g1,hg1⟩:=eqx w.heap.size;obtain ⟨g2,hg2⟩:=eqx (w.heap.size+1);obtain ⟨g3,hg3⟩:=eqx (w.heap.size+2);have hx0:Ext w w0:=Y54;obtain ⟨HB1,HB2,HB3,HT,HX0,HW0,HG1,HG2⟩:=Hd8 (show Blk w0 g1 29 #[.I 1,.string ⟨#[97,49]⟩,.I 0,.I 0,.I 0,.slice none 0 0,.slice none 0 0] by rw [hw0,hg1];exact (Blk.new _ _ _).keep ((exbb _).kept _)) (show Blk w0 g2 29 #[.I 4,.string ⟨#[]⟩,.I 0,.I 0,.I 1,.slice none 0 0,.slice none 0 0] by rw [hw0,hg2];exact (EzA _ _ _ _).keep ((exaa _).kept _)) (show Blk w0 g3 29 #[.I 2,.string ⟨#[]⟩,.I 25,.I 1,.I 0,.slice none 0 0,.slice none 0 0] by rw [hw0,hg3];exact E5A _ _ _ _ _) (ht.ext hx0) hx0 hw0 hg1 hg2;have HG3:=Hd hg3;clear hw0 hg1 hg2 hg3 hx0 ht
 go_enter func9,ntmps9
 go_upto_region 4 with fail
 rw [←HW0.o,←HG3.o,←HG2.o,←HG1.o];refine Qa (fun _ _=>False) [] ?_;refine Qm (fun vals γ w' ρ hR hN hp hρ zs zg=>by
  exact CDA) ?_
 refine Qs (FP fun v γ w'=>SvA (ofA vA1) v w') (EuA ?_) ?_ ?_
 ·exact IC
 ·intro vals γ w' ρ hR hN hp hρ zs zg;have hxx:=hR.o.ext0 (fun _ _ _ h=>h.elim);have HXW:=Hd hxx;clear hxx;refine Qr ?_;refine (B4 0 vA1 none none 0 0 w' (fun _=>True) (I7 w' (fun _=>True) 0 1 ⟨#[97,49]⟩ 0 0 0 Y17 none none) (AS) (HT.o.ext HXW.o).tens).mono ?_;exact Q7
 refine Qg (.string ⟨#[116,101,120,116,40,50,32,50,32,49,48,32,50,58,97,49,32,50,58,97,49,41]⟩) ?_ ?_
 ·intro vals γ w' ρ hR hN hp hρ zs zg;obtain ⟨A1,c1,D1,e1,hv1,hab1⟩:=hp.o 1 Y17;have e14:=(hρ.o 14).trans hv1;have hxx:=hR.o.ext0 (fun _ _ _ h=>h.elim);have HXW:=Hd hxx;clear hxx;refine Qr ?_;refine (ZF A1 D1 c1 e1 w' (HT.o.ext HXW.o) hab1 ((Ha vA1).mono Y17)).mono ?_;exact Ng
 iterate 2 refine Qp ?_
 refine Qd (x:=.agg #[.I 2,.string ⟨#[]⟩,.I 1,.I 0,.I 0,.slice none 0 0,.slice none 0 0]) (fun w' HXW=>FR 1 w') ?_;refine Qs (FP fun v γ w'=>SvA (ofA vN1) v w') (EuA ?_) ?_ ?_
 ·exact IC
 ·intro vals γ w' ρ hR hN hp hρ zs zg;have hxx:=hR.o.ext0 (fun _ _ _ h=>h.elim);have HXW:=Hd hxx;clear hxx;refine Qr ?_;refine (B4 0 vN1 none none 0 0 w' (fun _=>True) (I7 w' (fun _=>True) 0 2 ⟨#[]⟩ 1 0 0 Y17 none none) (AS) (HT.o.ext HXW.o).tens).mono ?_;exact Q7
 refine Qm (fun vals γ w' ρ hR hN hp hρ zs zg=>by
  exact CDA) ?_
 refine Qs (FP fun v γ w'=>SvA (ofA SP) v w') (EuA ?_) ?_ ?_
 ·exact IC
 ·intro vals γ w' ρ hR hN hp hρ zs zg;have hxx:=hR.o.ext0 (fun _ _ _ h=>h.elim);have HXW:=Hd hxx;clear hxx;refine Qr ?_;refine (B4 0 SP none none 0 0 w' (fun _=>True) (I7 w' (fun _=>True) 0 2 ⟨#[]⟩ 25 1 0 Y17 none none) (AS) (HT.o.ext HXW.o).tens).mono ?_;exact Q7
 refine Qs (FP fun v γ w'=>SvA (vJn) v w') (EuA ?_) ?_ ?_
 ·exact IC
 ·intro vals γ w' ρ hR hN hp hρ zs zg;obtain ⟨A6,c6,D6,e6,hv6,hab6⟩:=hp.o 6 Y17;have e19:=(hρ.o 19).trans hv6;obtain ⟨A8,c8,D8,e8,hv8,hab8⟩:=hp.o 8 Y17;have e21:=(hρ.o 21).trans hv8;have hxx:=hR.o.ext0 (fun _ _ _ h=>h.elim);have HXW:=Hd hxx;clear hxx;refine Qr ?_;refine (Ev (ofA vN1) (ofA SP) A6 D6 A8 D8 c6 e6 c8 e8 w' (fun _=>True) hab6.2.2.1 hab6.2.2.2 hab8.2.2.1 hab8.2.2.2 (HT.o.ext HXW.o).tens ((Ha _).mono Y17) ((Ha _).mono Y17)).mono ?_;exact Q7
 refine Qg (.string ⟨#[110,117,109,98,101,114,40,49,46,46,50,46,53,41]⟩) ?_ ?_
 ·intro vals γ w' ρ hR hN hp hρ zs zg;obtain ⟨A9,c9,D9,e9,hv9,hab9⟩:=hp.o 9 Y17;have e22:=(hρ.o 22).trans hv9;have hxx:=hR.o.ext0 (fun _ _ _ h=>h.elim);have HXW:=Hd hxx;clear hxx;refine Qr ?_;refine (XG A9 D9 c9 e9 w' (HT.o.ext HXW.o) hab9 (((Ha vN1).join (Ha SP)).mono Y17)).mono ?_;exact Ng
 iterate 2 refine Qp ?_
 intro vals γ w4 hR hG;refine Qx ?_;have HX4:=Hd (show Ext w0 w4 from hR.ext0 (fun _ _ _ h=>h.elim));clear hR hG
 go_upto_region 6 with fail
 go_wp2_with fail
 refine (B4 0 Tw none none 0 0 w4 (fun _=>True) (I7 w4 (fun _=>True) 0 3 ⟨#[]⟩ 0 0 5 Y17 none none) (AS) (HT.o.ext HX4.o).tens).mono ?_;rintro ee w5 ⟨A1,c1,D1,e1,rfl,hab,hx⟩;have HX5:=Hd (HX4.o.trans hx);clear hx HX4;have HA1:=Hd (hab.mono (T:=fun _=>True) fun _ _ _=>trivial);clear hab
 go_wp2_with fail
 refine (B4 0 Sw none none 0 0 w5 (fun _=>True) (I7 w5 (fun _=>True) 0 0 ⟨#[]⟩ 0 0 18 Y17 none none) (AS) (HT.o.ext HX5.o).tens).mono ?_;rintro ee w6 ⟨A2,c2,D2,e2,rfl,hab,hx⟩;have HX6:=Hd (HX5.o.trans hx)
 replace HA1:=Hd (HA1.o.keep (hx.kept _))
 clear hx HX5;have HA2:=Hd (hab.mono (T:=fun _=>True) fun _ _ _=>trivial);clear hab
 go_wp2_with fail
 refine (Ev (ofA Tw) (ofA Sw) A1 D1 A2 D2 c1 e1 c2 e2 w6 (fun _=>True) HA1.o.2.2.1 HA1.o.2.2.2 HA2.o.2.2.1 HA2.o.2.2.2 (HT.o.ext HX6.o).tens ((Ha _).mono Y17) ((Ha _).mono Y17)).mono ?_;rintro ee w7 ⟨A3,c3,D3,e3,rfl,hab,hx⟩;have HX7:=Hd (HX6.o.trans hx);clear hx HX6;have HA3:=Hd (show AbM w7 (fun _=>True) vJd A3 c3 D3 e3 from hab.mono (T:=fun _=>True) fun _ _ _=>trivial);clear hab HA1 HA2
 go_wp2_with fail
 refine (Yu A3 D3 c3 e3 w7 (HT.o.ext HX7.o) HA3.o (((Ha Tw).join (Ha Sw)).mono Y17)).mono ?_;rintro ee w8 ⟨rfl,hx⟩;have HX8:=Hd (HX7.o.trans hx);clear hx HX7 HA3
 go_upto_region 8 with fail
 have b2_0:=(HB2.o.keep (HX8.o.kept _)).q0;have b2_1:=(HB2.o.keep (HX8.o.kept _)).q1;have b2_2:=(HB2.o.keep (HX8.o.kept _)).q2;have b2_3:=(HB2.o.keep (HX8.o.kept _)).q3;have b2_4:=(HB2.o.keep (HX8.o.kept _)).q4;have b2_5:=(HB2.o.keep (HX8.o.kept _)).q5;have b2_6:=(HB2.o.keep (HX8.o.kept _)).q6
 go_wp2_with fail
 refine (B4 0 Pu none none 0 0 w8 (fun _=>True) (I7 w8 (fun _=>True) 0 4 ⟨#[]⟩ 0 0 1 Y17 none none) (AS) (HT.o.ext HX8.o).tens).mono ?_;rintro ee w9 ⟨A1,c1,D1,e1,rfl,hab,hx⟩;have HX9:=Hd (HX8.o.trans hx);clear hx HX8;have HA1:=Hd (hab.mono (T:=fun _=>True) fun _ _ _=>trivial);clear hab b2_0 b2_1 b2_2 b2_3 b2_4 b2_5 b2_6
 go_wp2_with fail
 refine (FX (ofA Pu) A1 D1 c1 e1 w9 (fun _=>True) HA1.o.2.2.1 HA1.o.2.2.2 (HT.o.ext HX9.o).tens ((Ha _).mono Y17)).mono ?_;rintro ee w10 ⟨he,hx⟩;have HX10:=Hd (HX9.o.trans hx);clear hx HX9;rw [EeA] at he;have he2:ee=.returned (.tuple #[.agg #[.I 4,.string ⟨#[]⟩,.I 0,.I 0,.I 1,.slice none 0 0,.slice none 0 0],.bool true]):=he;subst he2;clear he HA1
 go_upto_region 9 with fail
 obtain ⟨g4,hg4⟩:=eqx w10.heap.size;obtain ⟨w11,hw11⟩:=eqx (w10.alloc (.cells #[.I 4,.string ⟨#[]⟩,.I 0,.I 0,.I 1,.slice none 0 0,.slice none 0 0] 29));rw [←hg4,←hw11];have HB411:=Hd (show Blk w11 g4 29 #[.I 4,.string ⟨#[]⟩,.I 0,.I 0,.I 1,.slice none 0 0,.slice none 0 0] by rw [hw11,hg4];exact Blk.new _ _ _);have HX11:=Hd (show Ext w0 w11 by rw [hw11];exact HX10.o.alloc _);clear hg4 hw11 HX10
 go_wp2_with fail
 refine (GT 4 w11 (HT.o.ext HX11.o).tens).mono ?_;rintro ee w12 ⟨A1,c1,D1,e1,rfl,hab,hx⟩;have HX12:=Hd (HX11.o.trans hx)
 replace HB411:=Hd (HB411.o.keep (hx.kept _))
 clear hx HX11;have HA1:=Hd (hab.mono (T:=fun _=>True) fun _ _ _=>trivial);clear hab
 go_wp2_with fail
 refine (FX (By 4) A1 D1 c1 e1 w12 (fun _=>True) HA1.o.2.2.1 HA1.o.2.2.2 (HT.o.ext HX12.o).tens UJ).mono ?_;rintro ee w13 ⟨he,hx⟩;have HX13:=Hd (HX12.o.trans hx)
 replace HB411:=Hd (HB411.o.keep (hx.kept _))
 clear hx HX12;rw [DRA] at he;have he2:ee=.returned (.tuple #[.agg Vz,.bool false]):=he;subst he2;clear he HA1
 go_upto_region 10 with fail
 obtain ⟨g6,hg6⟩:=eqx w13.heap.size;obtain ⟨w14,hw14⟩:=eqx (w13.alloc (.cells Vz 29));rw [←hg6,←hw14];have hx14:Ext w13 w14:=(by rw [hw14];exact (Ext.refl _).alloc _);have HX14:=Hd (HX13.o.trans hx14);have HB414:=Hd (HB411.o.keep (hx14.kept _));clear hg6 hw14 hx14 HX13 HB411
 go_wp2_with fail
 refine (FR 1 w14).mono ?_;rintro ee w15 ⟨rfl,hx⟩;have HX15:=Hd (HX14.o.trans hx)
 replace HB414:=Hd (HB414.o.keep (hx.kept _))
 clear hx HX14
 go_wp2_with fail
 refine (B4 0 vN1 none none 0 0 w15 (fun _=>True) (I7 w15 (fun _=>True) 0 2 ⟨#[]⟩ 1 0 0 Y17 none none) (AS) (HT.o.ext HX15.o).tens).mono ?_;rintro ee w16 ⟨A1,c1,D1,e1,rfl,hab,hx⟩;have HX16:=Hd (HX15.o.trans hx)
 replace HB414:=Hd (HB414.o.keep (hx.kept _))
 clear hx HX15;have HA1:=Hd (hab.mono (T:=fun _=>True) fun _ _ _=>trivial);clear hab
 go_wp2_with fail
 refine (FR 2 w16).mono ?_;rintro ee w17 ⟨rfl,hx⟩;have HX17:=Hd (HX16.o.trans hx)
 replace HB414:=Hd (HB414.o.keep (hx.kept _))
 replace HA1:=Hd (HA1.o.keep (hx.kept _))
 clear hx HX16
 go_wp2_with fail
 refine (B4 0 vN2 none none 0 0 w17 (fun _=>True) (I7 w17 (fun _=>True) 0 2 ⟨#[]⟩ 2 0 0 Y17 none none) (AS) (HT.o.ext HX17.o).tens).mono ?_;rintro ee w18 ⟨A2,c2,D2,e2,rfl,hab,hx⟩;have HX18:=Hd (HX17.o.trans hx)
 replace HB414:=Hd (HB414.o.keep (hx.kept _))
 replace HA1:=Hd (HA1.o.keep (hx.kept _))
 clear hx HX17;have HA2:=Hd (hab.mono (T:=fun _=>True) fun _ _ _=>trivial);clear hab
 go_wp2_with fail
 refine (GP (ofA vN1) (ofA vN2) A1 D1 A2 D2 c1 e1 c2 e2 w18 (fun _=>True) HA1.o.2.2.1 HA1.o.2.2.2 HA2.o.2.2.1 HA2.o.2.2.2 (HT.o.ext HX18.o).tens ((Ha _).mono Y17) ((Ha _).mono Y17)).mono ?_;rintro ee w19 ⟨A8,c8,D8,e8,he,hab,hx⟩;have HX19:=Hd (HX18.o.trans hx)
 replace HB414:=Hd (HB414.o.keep (hx.kept _))
 clear hx HX18;rw [CgA] at he;subst he;clear hab HA1 HA2;rename_i K1 hK1 K2 hK2;refine hK2 _ _ ?_;refine AP rfl rfl ?_;obtain ⟨g8,hg⟩:=eqx w19.heap.size;rw [←hg];refine AD rfl 39 _ _ rfl g8 (Ap noneA A8 c8 D8 e8) rfl rfl 39 _ (EX hg) AA rfl Y11 ?_;intro wp hb ho;refine hK1 _ _ ?_;have hxo:Ext w19 wp:=(exaa w19).only ho Y83;obtain ⟨HX,HB8,HB4⟩:=Hd3 (HX19.o.trans hxo) hb (HB414.o.keep (hxo.kept _));clear hK1 hK2 hb ho hxo hg HX19 HB414
 go_frame
 go_upto_region 11 with fail
 refine Qa (fun _ _=>False) [] ?_;refine Qs (FP fun v γ w'=>SvA (By 2) v w') (EuA ?_) ?_ ?_
 ·exact IC
 ·exact Zk
 refine Qd (x:=.agg #[.I 2,.string ⟨#[]⟩,.I 3,.I 0,.I 0,.slice none 0 0,.slice none 0 0]) (fun w' HXW=>FR 3 w') ?_;refine Qg (.bool true) ?_ ?_
 ·intro vals γ w' ρ hR hN hp hρ zs zg;obtain ⟨A0,c0,D0,e0,hv0,hab0⟩:=hp.o 0 Y17;have e49:=(hρ.o 49).trans hv0;have hxx:=hR.o.ext0 (fun _ _ _ h=>h.elim);have HXW:=Hd hxx;clear hxx;refine Qr ?_;refine (BS 0 (By 2) vN3 A0 D0 none none c0 e0 0 0 w' (fun _=>True) (fun _=>True) hab0.2.2.1 hab0.2.2.2 (I7 w' (fun _=>True) 0 2 ⟨#[]⟩ 3 0 0 Y17 none none) (AS) (HT.o.ext (HX.o.trans HXW.o)).tens PP).mono ?_;rintro e1 w3 ⟨he,hx⟩;rw [DGA] at he;exact Nu
 refine Qp ?_;refine Qs (FP fun v γ w'=>SvA (By 2) v w') (EuA ?_) ?_ ?_
 ·exact IC
 ·exact Zk
 refine Qm (fun vals γ w' ρ hR hN hp hρ zs zg=>by
  exact U1) ?_
 refine Qg (.bool false) ?_ ?_
 ·intro vals γ w' ρ hR hN hp hρ zs zg;obtain ⟨A4,c4,D4,e4,hv4,hab4⟩:=hp.o 4 Y17;have e53:=(hρ.o 53).trans hv4;have hxx:=hR.o.ext0 (fun _ _ _ h=>h.elim);have HXW:=Hd hxx;clear hxx;refine Qr ?_;refine (BS 0 (By 2) vA1 A4 D4 none none c4 e4 0 0 w' (fun _=>True) (fun _=>True) hab4.2.2.1 hab4.2.2.2 (I7 w' (fun _=>True) 0 1 ⟨#[97,49]⟩ 0 0 0 Y17 none none) (AS) (HT.o.ext (HX.o.trans HXW.o)).tens PP).mono ?_;rintro e1 w3 ⟨he,hx⟩;rw [BsA] at he;exact Nu
 iterate 6 refine Qp ?_
 refine Qm (fun vals γ w' ρ hR hN hp hρ zs zg=>by
  exact U1) ?_
 refine Qm (fun vals γ w' ρ hR hN hp hρ zs zg=>by
  exact U1) ?_
 refine Qg (.bool true) ?_ ?_
 ·intro vals γ w' ρ hR hN hp hρ zs zg;have hxx:=hR.o.ext0 (fun _ _ _ h=>h.elim);have HXW:=Hd hxx;clear hxx;refine Qr ?_;refine (Ch 0 Pu Pu none none none none 0 0 0 0 w' (fun _=>True) (fun _=>True) (I7 w' (fun _=>True) 0 4 ⟨#[]⟩ 0 0 1 Y17 none none) (I7 w' (fun _=>True) 0 4 ⟨#[]⟩ 0 0 1 Y17 none none)).mono ?_;rintro e1 w3 ⟨he,hx⟩;rw [decide_eq_true rfl] at he;exact Nu
 iterate 6 refine Qp ?_
 apply E2A (LZ.refl _) Y41
 ·intro vals γ w' ρ hR hN hp hρ hc hf hg;refine ⟨by show (IZ (vals 21)==some true)=true;rw [show vals 21=.bool true from hp 21 Y17];rfl,?_⟩;have e8:=hρ 8;(conv at e8=>rhs;whnf);have hxx:=hR.ext0 (fun _ _ _ h=>h.elim);have HXW:=Hd hxx;have hb8:=HB8.o.keep (hxx.kept _);exact DY rfl e8 hb8 AH AA ⟨rfl,rfl⟩
 ·rfl
 refine Qd (x:=(Aq noneA none 0 none 0)) (fun w' HXW=>Jo w') ?_;refine Qd (fun w' HXW=>RP noneA A8 D8 none none c8 e8 0 0 w' (fun _=>True) (fun _=>True) (AbM.nil (A:=A8) (D:=D8) (c:=c8) (e:=e8) ⟨rfl,rfl⟩).2.2.1 (AbM.nil (A:=A8) (D:=D8) (c:=c8) (e:=e8) ⟨rfl,rfl⟩).2.2.2 (AbM.nil (A:=none) (D:=none) (c:=0) (e:=0) ⟨rfl,rfl⟩).2.2.1 (AbM.nil (A:=none) (D:=none) (c:=0) (e:=0) ⟨rfl,rfl⟩).2.2.2) ?_
 iterate 2 refine Qp ?_
 intro vals γ w9 hR hG;refine Qx ?_;have HXE:=Hd (show Ext wp w9 from hR.ext0 (fun _ _ _ h=>h.elim));clear hR hG;go_wp2;go_ret;exact ⟨rfl,(HX0.o.trans HX.o).trans HXE.o⟩

theorem LP(n s:Int)(w:World):Cl 178 #[.agg #[.I n,.I s]] w (Ds w (BG n s)):=by
 have HD:=Hd (fun w'=>IN n s w');cases hd:Cm n s
 all_goals
  have HV:=Hd (show BG n s=if Cm n s=true then (n,s) else (0,0) from rfl);rw [hd] at HD HV;clear hd
  go_enter func178,ntmps178
  exact XE
 ·refine bodyPost_ret (v:=.agg #[.I 0,.I 0]) (by simp [results,results178,go_sem,q2,q3]) rfl ⟨rfl,?_⟩;exact GL
 ·refine bodyPost_ret (v:=.agg #[.I n,.I s]) (by simp [results,results178,go_sem,q2,q3]) rfl ⟨rfl,?_⟩;exact GL
theorem Ia(r:Rg)(w:World):Cl 76 #[(Rq r)] w (AO w (Ah r)):=by
 have HC:=Hd (fun w'=>Gv r.ln r.ls r.hn r.hs w');have HE:=Hd (show Ah r=decide (BW (mu r.ln r.ls) (mu r.hn r.hs) > 0) by rw [JY];rfl);generalize BW (mu r.ln r.ls) (mu r.hn r.hs)=z at *
 go_enter func76,ntmps76
 go_wp2_with fail
 refine (HC.o _).mono ?_;exact XB
theorem Ij(r:Rg)(w:World):Cl 118 #[.agg #[.I r.ln,.I r.ls],.agg #[.I r.hn,.I r.hs]] w (DJ w (BV r)):=by
 have HN:=Hd (show BV r=if decide (BW (mu r.ln r.ls) (mu r.hn r.hs) > 0)=true then E4A else ⟨(BG r.ln r.ls).1,(BG r.ln r.ls).2,(BG r.hn r.hs).1,(BG r.hn r.hs).2⟩ by rw [JY];rfl);have HC:=Hd (fun w'=>Gv r.ln r.ls r.hn r.hs w');obtain ⟨⟨u1,u2⟩,hu⟩:=eqx (BG r.ln r.ls);obtain ⟨⟨v1,v2⟩,hv⟩:=eqx (BG r.hn r.hs);have HR1:=Hd (show ∀ w',Cl 178 #[.agg #[.I r.ln,.I r.ls]] w' (Ds w' (u1,u2)) from fun w'=>by rw [hu];exact LP _ _ w');have HR2:=Hd (show ∀ w',Cl 178 #[.agg #[.I r.hn,.I r.hs]] w' (Ds w' (v1,v2)) from fun w'=>by rw [hv];exact LP _ _ w');rw [←hu,←hv] at HN;generalize BW (mu r.ln r.ls) (mu r.hn r.hs)=z at *;obtain ⟨g2,hg2⟩:=eqx (w.heap.size+2);have HGG:=Hd hg2;have HG2:=Hd (show w.heap.size≤g2 by omega);clear hu hv hg2
 go_enter func118,ntmps118
 go_wp2_with fail
 refine (HC.o _).mono ?_;rintro e1 w1 ⟨rfl,hx1⟩;have hb1:=(Blk.new w 25 #[.I r.ln,.I r.ls]).keep (((exbb _).trans hx1).kept _);have hb2:=(EzA w (.cells #[.I r.ln,.I r.ls] 25) 25 #[.I r.hn,.I r.hs]).keep (((exaa _).trans hx1).kept _);have hb3:=(E5A w (.cells #[.I r.ln,.I r.ls] 25) (.cells #[.I r.hn,.I r.hs] 25) 34 #[.I 0,.I 0,.I 0,.I 0]).keep (hx1.kept _);rw [←HGG.o] at hb3;have HX1:=Hd ((excc w).trans hx1);have HB2:=Hd hb3;obtain ⟨r0,r1,r2,r3⟩:=hb3.qs4;have qf:=hb3.frozen;have ql:=hb3.lt;obtain ⟨k0,k1,k2,k3⟩:=Hd4 (hb1.q0) (hb1.q1) (hb2.q0) (hb2.q1);clear hx1 hb1 hb2 hb3;rw [show w.heap.size+1+1=g2 from HGG.o.symm];by_cases hz:z > 0
 ·have HF:=Hd (show BV r=E4A by rw [HN.o,decide_eq_true hz,if_pos rfl]);go_wp2;rw [HF.o];refine bodyPost_ret (v:=(Rq E4A)) (by simp [results,results118,go_sem,r0,r1,r2,r3,E4A]) rfl ⟨rfl,?_⟩
  iterate 4 with_reducible refine Ext.set2 ?_ HG2.o _
  with_reducible exact HX1.o
 ·have HF:=Hd (show BV r=⟨u1,u2,v1,v2⟩ by rw [HN.o,decide_eq_false hz,if_neg Y3]);clear r0 r1 r2 r3 qf ql
  go_upto_region 3 with fail
  refine Qa (fun m b=>(m=1005∧b=g2)) (lk 6 [1005]) ?_;refine Qp ?_;refine Qc (x:=.agg #[.I u1,.I u2]) (fun w'=>HR1.o w') ?_;refine Qp ?_;refine Qc (x:=.agg #[.I v1,.I v2]) (fun w'=>HR2.o w') ?_;refine Qp ?_;refine Qs (fun _ γ w'=>Blk w' g2 34 #[.I u1,.I u2,.I v1,.I v2]∧γ 1005=true) ?_ ?_ ?_
  ·exact Ph
  ·intro vals γ w' ρ hR hN hp hρ zs zg;have hk1005:=hN.o.key (k:=1005) Y17;have hb0:=HB2.o.keep (hR.o.kept0 (S:=fun b=>b=g2) fun b _ e m hm=>by
    rw [hm.1];exact hk1005)
   have HB0:=Hd hb0;have HK:=Hd hk1005;obtain ⟨q0,q1,q2,q3⟩:=hb0.qs4;have qf:=hb0.frozen;have ql:=hb0.lt;clear hb0 hk1005;refine Qr ?_;refine ⟨γ.put 1005,EvA HK.o rfl rfl rfl Y1 (fun b hb hm=>(((((Only.refl g2 w').set 0 (.I u1)).set 1 (.I u2)).set 2 (.I v1)).set 3 (.I v2)).block b fun e=>hm (⟨rfl,e⟩)),LK.done Y17,?_,Y64⟩;exact VZ
  intro vals γ w9 hR hG;refine Qx ?_;obtain ⟨hb5,-⟩:=hG 5 Y17;have HB5N:=Hd hb5;clear hb5;have HXN:=Hd (show Ext w w9 from AX HX1.o (hR.buts (S:=fun b=>b=g2) (fun m b _ hm _=>hm.2)) (fun b hb=>by
   rw [hb];exact HG2.o))
  clear hR hG;obtain ⟨s0,s1,s2,s3⟩:=HB5N.o.qs4;go_wp2;rw [HF.o];exact bodyPost_ret (v:=.agg #[.I u1,.I u2,.I v1,.I v2]) (by simp [results,results118,go_sem,s0,s1,s2,s3]) rfl ⟨rfl,HXN.o⟩

theorem BoA(h:qP:=by
 iterate 4 with_reducible refine Ext.set2 ?_ HG.o _
 with_reducible exact HXD.o):qP:=h
theorem Wp(h:qP:=by
 iterate 4 with_reducible refine Ext.set2 ?_ HG.o _
 iterate 2 with_reducible refine Ext.set2 ?_ HL5.o _
 with_reducible exact HXG.o):qP:=h
theorem Zy(h:qP:=by
 iterate 4 with_reducible refine Ext.set2 ?_ HG.o _
 with_reducible exact HXG.o):qP:=h
theorem Sv(h:qP:=by simp [results,results42,go_sem,r0,r1,r2,r3]):qP:=h
theorem TO(h:qP:=by have:=H1.o;omega):qP:=h
theorem Mo(a b:Rg)(w:World):Cl 42 #[(Rq a),(Rq b)] w (DJ w (Bm a b)):=by
 obtain ⟨x,hx⟩:=eqx (BV a);obtain ⟨y,hy⟩:=eqx (BV b);obtain ⟨HN1,HN2,HEX,HEY,HC1,HC2⟩:=Hd6 (show ∀ w',Cl 118 #[.agg #[.I a.ln,.I a.ls],.agg #[.I a.hn,.I a.hs]] w' (DJ w' x) from fun w'=>by rw [hx];exact Ij a w') (show ∀ w',Cl 118 #[.agg #[.I b.ln,.I b.ls],.agg #[.I b.hn,.I b.hs]] w' (DJ w' y) from fun w'=>by rw [hy];exact Ij b w') (fun w'=>Ia x w') (fun w'=>Ia y w') (fun w'=>Gv y.ln y.ls x.ln x.ls w') (fun w'=>Gv y.hn y.hs x.hn x.hs w');have HJ:=Hd (show Bm a b=if Ah x=true then y else if Ah y=true then x else ⟨if decide (BW (mu y.ln y.ls) (mu x.ln x.ls)<0)=true then y.ln else x.ln,if decide (BW (mu y.ln y.ls) (mu x.ln x.ls)<0)=true then y.ls else x.ls,if decide (BW (mu y.hn y.hs) (mu x.hn x.hs) > 0)=true then y.hn else x.hn,if decide (BW (mu y.hn y.hs) (mu x.hn x.hs) > 0)=true then y.hs else x.hs⟩ from by
  rw [Ra,JY];unfold Bm;rw [←hx,←hy];unfold Pi Bf BJ;simp only [decide_eq_true_eq];congr 2;by_cases h1:mu y.ln y.ls<mu x.ln x.ls<;>by_cases h2:mu x.hn x.hs<mu y.hn y.hs<;>simp [h1,h2])
 generalize BW (mu y.ln y.ls) (mu x.ln x.ls)=z1 at *;generalize BW (mu y.hn y.hs) (mu x.hn x.hs)=z2 at *;generalize Ah x=b1 at *;generalize Ah y=b2 at *;obtain ⟨gR,hgR⟩:=eqx (w.heap.size+1+1);have HGR:=Hd hgR;have HG:=Hd (show w.heap.size≤gR by omega);clear hx hy hgR
 go_enter func42,ntmps42
 go_wp2_with fail
 refine (HN1.o _).mono ?_;rintro e1 w1 ⟨rfl,hx1⟩;have hb2:=(EzA w (.cells (Rp a) 34) 34 (Rp b)).keep (((exaa _).trans hx1).kept _);have hb3:=(E5A w (.cells (Rp a) 34) (.cells (Rp b) 34) 34 #[.I 0,.I 0,.I 0,.I 0]).keep (hx1.kept _);have e3:w.heap.size+2=gR:=HGR.o.symm;rw [e3] at hb3;rw [show w.heap.size+1+1=gR from e3];clear e3;obtain ⟨w1',hw1'⟩:=eqx (w1.alloc (.cells (Rp x) 34));obtain ⟨p5,hp5⟩:=eqx w1.heap.size;have hxa:Ext w1 w1':=(by rw [hw1'];exact (Ext.refl _).alloc _);have hb5:Blk w1' p5 34 (Rp x):=(by rw [hw1',hp5];exact Blk.new _ _ _);have HXA:=Hd ((excc w).trans (hx1.trans hxa));have HBR:=Hd (hb3.keep (hxa.kept _));have hb2:=hb2.keep (hxa.kept _);obtain ⟨HB5,HW1,HP5,HL5⟩:=Hd4 hb5 hw1' hp5 (show w.heap.size≤p5 by rw [hp5];have:=(excc w).trans hx1 |>.size;omega);obtain ⟨q0,q1,q2,q3⟩:=hb2.qs4;have HN56:=Hd hb5.lt;have HNR:=Hd (show gR≠p5 from fun e=>by have:=hb3.lt;omega);clear hx1 hxa hb2 hb3 hb5 hw1' hp5
 go_upto_region 2 with fail
 rw [←HW1.o,←HP5.o]
 go_wp2_with fail
 refine (HN2.o _).mono ?_;rintro e2 w2 ⟨rfl,hx2⟩;obtain ⟨w2',hw2'⟩:=eqx (w2.alloc (.cells (Rp y) 34));obtain ⟨p6,hp6⟩:=eqx w2.heap.size;have hxb:Ext w2 w2':=(by rw [hw2'];exact (Ext.refl _).alloc _);have hb6:Blk w2' p6 34 (Rp y):=(by rw [hw2',hp6];exact Blk.new _ _ _);have HXB:=Hd (HXA.o.trans (hx2.trans hxb));have HBR2:=Hd (HBR.o.keep ((hx2.trans hxb).kept _));have hb5:=HB5.o.keep ((hx2.trans hxb).kept _);obtain ⟨HB52,HB6,HW2,HP6,HN65⟩:=Hd5 hb5 hb6 hw2' hp6 (show p6≠p5 from fun e=>by have:=HN56.o;have:=hx2.size;omega);obtain ⟨m0,m1,m2,m3⟩:=hb5.qs4;clear hx2 hxb hb5 hb6 hw2' hp6 q0 q1 q2 q3
 go_upto_region 3 with fail
 rw [←HW2.o,←HP6.o]
 go_wp2_with fail
 refine (HEX.o _).mono ?_;rintro e3 w3 ⟨rfl,hx3⟩;obtain ⟨HXC,HBR3,HB53⟩:=Hd3 (HXB.o.trans hx3) (HBR2.o.keep (hx3.kept _)) (HB52.o.keep (hx3.kept _));have hb6:=HB6.o.keep (hx3.kept _);have HB63:=Hd hb6;obtain ⟨m4,m5,m6,m7⟩:=hb6.qs4;clear hx3 hb6 m0 m1 m2 m3
 go_wp2_with fail
 refine (HEY.o _).mono ?_;rintro e4 w4 ⟨rfl,hx4⟩;have HXD:=Hd (HXC.o.trans hx4);have hbr:=HBR3.o.keep (hx4.kept _);have hb5:=HB53.o.keep (hx4.kept _);have hb6:=HB63.o.keep (hx4.kept _);obtain ⟨HBRD,HB5D,HB6D⟩:=Hd3 hbr hb5 hb6;obtain ⟨m0,m1,m2,m3⟩:=hb5.qs4;obtain ⟨m4,m5,m6,m7⟩:=hb6.qs4;obtain ⟨r0,r1,r2,r3⟩:=hbr.qs4;have qf:=hbr.frozen;have ql:=hbr.lt;clear hx4 hbr hb5 hb6;cases b1
 case' true =>
  go_wp2_with fail
  rw [HJ.o,if_pos trivial];refine bodyPost_ret (v:=(Rq y)) Sv rfl ⟨rfl,?_⟩;exact BoA
 cases b2
 case' true =>
  go_wp2_with fail
  rw [HJ.o,if_neg Y3,if_pos trivial];refine bodyPost_ret (v:=(Rq x)) Sv rfl ⟨rfl,?_⟩;exact BoA
 go_wp2_with fail
 refine (HC1.o _).mono ?_;rintro e5 w5 ⟨rfl,hx5⟩;have HXE:=Hd (HXD.o.trans hx5);have hbr:=HBRD.o.keep (hx5.kept _);have hb5:=HB5D.o.keep (hx5.kept _);have hb6:=HB6D.o.keep (hx5.kept _);obtain ⟨HBRE,HB5E,HB6E⟩:=Hd3 hbr hb5 hb6;obtain ⟨m0,m1,m2,m3⟩:=hb5.qs4;obtain ⟨m4,m5,m6,m7⟩:=hb6.qs4;have qf5:=hb5.frozen;have ql5:=hb5.lt;clear hx5 hbr hb5 hb6 r0 r1 r2 r3 qf ql;by_cases h1:z1<0
 ·have H1:=Hd h1;obtain ⟨w6,hw6⟩:=eqx ((w5.setCell ⟨p5,0,none⟩ (.I y.ln)).setCell ⟨p5,1,none⟩ (.I y.ls));have ho:Only p5 w5 w6:=(by rw [hw6];exact ((Only.refl p5 w5).set 0 _).set 1 _);have hb5:Blk w6 p5 34 #[.I y.ln,.I y.ls,.I x.hn,.I x.hs]:=by
   rw [hw6];have:=(HB5E.o.set 0 (.I y.ln)).set 1 (.I y.ls)
   simpa using this
  obtain ⟨HBRF,HB6F,HB5F,HXF,HW6⟩:=Hd5 (HBRE.o.keep (ho.kept (S:=fun b=>b=gR) fun b _ e=>by rw [e];exact HNR.o)) (HB6E.o.keep (ho.kept (S:=fun b=>b=p6) fun b _ e=>by rw [e];exact HN65.o)) hb5 (show Ext w w6 by rw [hw6];exact (HXE.o.set2 HL5.o _).set2 HL5.o _) hw6;obtain ⟨d0,d1,d2,d3⟩:=hb5.qs4;obtain ⟨c4,c5,c6,c7⟩:=HB6F.o.qs4;clear ho hb5 hw6
  go_upto_region 11 with fail
  rw [←HW6.o];clear m0 m1 m2 m3 m4 m5 m6 m7
  go_wp2_with fail
  refine (HC2.o _).mono ?_;rintro e7 w7 ⟨rfl,hx7⟩;have HXG:=Hd (HXF.o.trans hx7);have hbr:=HBRF.o.keep (hx7.kept _);have hb5:=HB5F.o.keep (hx7.kept _);have hb6:=HB6F.o.keep (hx7.kept _);obtain ⟨m0,m1,m2,m3⟩:=hb5.qs4;obtain ⟨m4,m5,m6,m7⟩:=hb6.qs4;obtain ⟨r0,r1,r2,r3⟩:=hbr.qs4;have qf:=hbr.frozen;have ql:=hbr.lt;have qf5:=hb5.frozen;have ql5:=hb5.lt;have hn1:=HNR.o;have hn2:=HN65.o;clear hx7 hbr hb5 hb6;by_cases h2:z2 > 0
  ·have HF:=Hd (show Bm a b=⟨y.ln,y.ls,y.hn,y.hs⟩ by rw [HJ.o,if_neg Y3,if_neg Y3,show decide (z1<0)=true from decide_eq_true TO,show decide (z2 > 0)=true from decide_eq_true Y4];rfl)
   go_wp2_with fail
   rw [HF.o];refine bodyPost_ret (v:=(Rq y)) (by simp [results,results42,go_sem,r0,r1,r2,r3,hn1]) rfl ⟨rfl,?_⟩;exact Wp
  ·have HF:=Hd (show Bm a b=⟨y.ln,y.ls,x.hn,x.hs⟩ by rw [HJ.o,if_neg Y3,if_neg Y3,show decide (z1<0)=true from decide_eq_true TO,show decide (z2 > 0)=false from decide_eq_false Y4];rfl)
   go_wp2_with fail
   rw [HF.o];refine bodyPost_ret (v:=.agg #[.I y.ln,.I y.ls,.I x.hn,.I x.hs]) Sv rfl ⟨rfl,?_⟩;exact Zy
 ·have H1:=Hd h1;have HXF:=HXE;have HBRF:=HBRE;have HB5F:=HB5E;have HB6F:=HB6E
  go_wp2_with fail
  refine (HC2.o _).mono ?_;rintro e7 w7 ⟨rfl,hx7⟩;have HXG:=Hd (HXF.o.trans hx7);have hbr:=HBRF.o.keep (hx7.kept _);have hb5:=HB5F.o.keep (hx7.kept _);have hb6:=HB6F.o.keep (hx7.kept _);obtain ⟨m0,m1,m2,m3⟩:=hb5.qs4;obtain ⟨m4,m5,m6,m7⟩:=hb6.qs4;obtain ⟨r0,r1,r2,r3⟩:=hbr.qs4;have qf:=hbr.frozen;have ql:=hbr.lt;have qf5:=hb5.frozen;have ql5:=hb5.lt;have hn1:=HNR.o;have hn2:=HN65.o;clear hx7 hbr hb5 hb6;by_cases h2:z2 > 0
  ·have HF:=Hd (show Bm a b=⟨x.ln,x.ls,y.hn,y.hs⟩ by rw [HJ.o,if_neg Y3,if_neg Y3,show decide (z1<0)=false from decide_eq_false TO,show decide (z2 > 0)=true from decide_eq_true Y4];rfl)
   go_wp2_with fail
   rw [HF.o];refine bodyPost_ret (v:=.agg #[.I x.ln,.I x.ls,.I y.hn,.I y.hs]) (by simp [results,results42,go_sem,r0,r1,r2,r3,hn1]) rfl ⟨rfl,?_⟩;exact Wp
  ·have HF:=Hd (show Bm a b=⟨x.ln,x.ls,x.hn,x.hs⟩ by rw [HJ.o,if_neg Y3,if_neg Y3,show decide (z1<0)=false from decide_eq_false TO,show decide (z2 > 0)=false from decide_eq_false Y4];rfl)
   go_wp2_with fail
   rw [HF.o];refine bodyPost_ret (v:=(Rq x)) Sv rfl ⟨rfl,?_⟩;exact Zy
end Go.Proofs.YtidacnalcdhckaaGreatDoor
