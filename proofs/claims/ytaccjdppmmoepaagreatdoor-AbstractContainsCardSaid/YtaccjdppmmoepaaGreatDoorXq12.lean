/- Lemmas. No conditions. -/
import Derived.Test.YtaccjdppmmoepaaGreatDoorXq11
import Derived.Sort.Walk0
import Derived.OwnWalkIn
import Derived.OrdersIn
import Derived.RangeFuncCalls
set_option maxRecDepth 100000
set_option maxHeartbeats 4000000
namespace Go.Proofs.YtaccjdppmmoepaaGreatDoor
open Go Go.RowKit Tryz
variable {qP:Prop}

theorem DOA(s:BA)(hs:s.size<=4294967296)(w:World):Cl 78 #[.string s] w (G0 w (ofS s)):=by
 have HT:=Hd (TT s hs);have HB:=Hd (Xq s hs);obtain ⟨p,hp⟩:=eqx (CT (bs s));rw [<-hp] at HB;have HP:=Hd hp;clear hp;cases ht:Ca s
 ·rw [ht] at HT;have HF:=Hd (EKA ht);clear ht
  go_enter func78,ntmps78
  go_wp2_with fail
  refine (HT.o _).mono ?_;rintro e J ⟨rfl,rfl⟩
  go_wp2_with fail
  refine (RC _).mono ?_;rintro e1 w1 ⟨rfl,hx1⟩;have hb1:=(Blk.new w 26 #[.I 0,.I 0,.I 0,.string ⟨#[]⟩,.string ⟨#[]⟩]).keep (hx1.kept _);obtain ⟨q0,q1,q2,q3,q4⟩:=hb1.qs5;have qf:=hb1.frozen;have ql:=hb1.lt;have HX:=Hd ((exaa w).trans hx1);clear hx1 hb1
  go_wp2_with fail
  rw [HF.o];refine bodyPost_ret (v:=(Sq H3A)) (by simp [results,results78,go_sem,q0,q1,q2,q3,q4]) rfl ⟨rfl,?_⟩;exact R5
 ·rw [ht] at HT;have HF:=Hd (show ofS s=⟨s.size,s.size,p,s,s⟩ by rw [Yt ht,HP.o];rfl);clear ht
  go_enter func78,ntmps78
  go_wp2_with fail
  refine (HT.o _).mono ?_;rintro e J ⟨rfl,rfl⟩
  go_wp2_with fail
  refine (HB.o _).mono ?_;rintro e1 w1 ⟨rfl,rfl⟩
  go_wp2_with fail
  rw [HF.o];refine bodyPost_ret (v:=.agg #[.I (s.size:Int),.I (s.size:Int),.I p,.string s,.string s]) (by simp [results,results78,go_sem]) rfl ⟨rfl,?_⟩;exact (Ext.refl w).alloc _
theorem Xf{p s:BA}(_h:p.size<=s.size):((s.extract 0 p.size).toList==p.toList)=EA p s:=by
 rw [Bj,Bool.eq_iff_iff,decide_eq_true_eq,Fq,List.prefix_iff_eq_take];constructor
 ·intro he;have:=congrArg (λx:BA=>x.data.toList) he;simp only [ByteArray.data_extract,Array.toList_extract,List.extract_eq_take_drop,List.drop_zero,Nat.sub_zero] at this;exact this.symm
 ·intro he;have:(s.extract 0 p.size).data.toList=p.data.toList:=by
   rw [ByteArray.data_extract,Array.toList_extract,List.extract_eq_take_drop,List.drop_zero,Nat.sub_zero];exact he.symm
  rw [<-He (s.extract 0 p.size),this,He]
theorem Xc{p s:BA}(_h:p.size<=s.size):((s.extract (s.size-p.size) s.size).toList==p.toList)=EB p s:=by
 rw [Bj,Bool.eq_iff_iff,decide_eq_true_eq,Fo,List.suffix_iff_eq_drop];have e:(s.extract (s.size-p.size) s.size).data.toList=s.data.toList.drop (s.data.toList.length-p.data.toList.length):=by
  rw [ByteArray.data_extract,Array.toList_extract,List.extract_eq_take_drop,List.take_of_length_le]
  ·rfl
  ·rw [List.length_drop];exact Al
 constructor
 ·intro he;have:=congrArg (λx:BA=>x.data.toList) he;exact (e.symm.trans this).symm
 ·intro he;rw [<-He (s.extract _ _),e,<-he,He]
theorem GL(h:qP:=by
 go_wp2_with (go_at_call 104;refine (HT.o _).mono ?_;rintro e1 w1 ⟨rfl,rfl⟩)
 go_ret;exact ⟨by rw [HF.o];rfl,HXA.o⟩):qP:=h
theorem RG(h:qP:=by
 iterate 11 refine Qn ?_
 exact QH):qP:=h
theorem TG(h:qP:=by
 refine Qa (λ_ _=>False) [] ?_;refine Qp ?_;refine Qc (λJ=>HP1.o J) ?_
 iterate 4 refine Qp ?_
 refine Qc (λJ=>HP1.o J) ?_
 iterate 25 refine Qp ?_
 exact Kh):qP:=h
theorem Wt(a:Sh)(s:BA)(_ha:a.b.size<=4294967296)(he:a.e.size<=4294967296)(hs:s.size<=4294967296)(w:World):Cl 43 #[(Sq a),.string s] w (Ae w (Aj a s)):=by
 obtain ⟨p,hp⟩:=eqx (CT (bs s));obtain ⟨t,ht⟩:=eqx (Ca s);obtain ⟨HT,HP1,HE,HPI⟩:=Hd4 (show ∀ J,Cl 104 #[.string s] J (SameB J t) from λJ=>by rw [ht];exact TT s hs J) (show ∀ J,Cl 105 #[.string s] J (Bk J p) from λJ=>by rw [hp];exact Xq s hs J) (show Aj a s=(t&&decide (a.least<=s.size)&&decide ((s.size:Int)<=a.most)&&CM p a.cls&&EA a.b s&&EB a.e s) from by rw [ht,hp];rfl) (show Er p from by rw [hp];exact DgA _);clear hp ht;obtain ⟨w0,hw0⟩:=eqx (w.alloc (.cells (Sp a) 26));have hx0:Ext w w0:=BS;obtain ⟨g,hg⟩:=eqx w.heap.size;have O:Blk w0 g 26 (Sp a):=EL;obtain ⟨k0,k1,k2,k3,k4,HX0,HW0,HG⟩:=Hd8 (O.q0) (O.q1) (O.q2) (O.q3) (O.q4) hx0 hw0 hg;clear hx0 O hw0 hg;have HXA:=Hd (show Ext w (w.alloc (.cells (Sp a) 26)) from (Ext.refl w).alloc _);have Y:(bits .and .i64 p a.cls==p)=CM p a.cls:=by
  rw [Bool.eq_iff_iff,beq_iff_eq,Iy];constructor
  ·intro h i _ hi;rw [<-h,CN,Bool.and_eq_true] at hi;exact hi.2
  ·intro h;refine DT (CJ _ _ _) HPI.o λi hi => ?_;rw [CN];cases hb:bt p i
   ·rfl
   ·rw [h i hi hb];rfl
 obtain ⟨b1,hb1⟩:=eqx (CM p a.cls);obtain ⟨b2,hb2⟩:=eqx (EA a.b s);obtain ⟨b3,Z⟩:=eqx (EB a.e s);rw [<-hb1] at Y;have HAND:=Hd Y;rw [<-hb1,<-hb2,<-Z] at HE;have HB2:=Hd hb2;have HB3:=Hd Z;clear Y hb1 hb2 Z
 go_enter func43,ntmps43
 cases t
 ·have HF:=Hd (show Aj a s=false by rw [HE.o];rfl);exact GL
 by_cases h1:(s.size:Int)<a.least
 ·have HF:=Hd (show Aj a s=false by rw [HE.o,show decide (a.least<=(s.size:Int))=false from decide_eq_false AA];rfl);exact GL
 by_cases h2:a.most<(s.size:Int)
 ·have HF:=Hd (show Aj a s=false by rw [HE.o,show decide ((s.size:Int)<=a.most)=false from decide_eq_false AA,Bool.and_false];rfl);exact GL
 have U:=Hd (show Aj a s=(b1&&b2&&b3) by rw [HE.o,show decide (a.least<=(s.size:Int))=true from decide_eq_true AA,show decide ((s.size:Int)<=a.most)=true from decide_eq_true AA];rfl);by_cases h3:s.size<a.b.size
 ·have HF:=Hd (show Aj a s=false by
   rw [U.o];have:b2=false:=by
    rw [HB2.o,Bool.eq_false_iff];intro h;have h:=(Fq.1 h).length_le
    change a.b.size<=s.size at h
    omega
   rw [this,Bool.and_false];rfl)
  exact GL
 by_cases h4:s.size<a.e.size
 ·have HF:=Hd (show Aj a s=false by
   rw [U.o];have:b3=false:=by
    rw [HB3.o,Bool.eq_false_iff];intro h;have h:=(Fo.1 h).length_le
    change a.e.size<=s.size at h
    omega
   rw [this,Bool.and_false])
  exact GL
 go_upto_region 3 with (go_at_call 104;refine (HT.o _).mono ?_;rintro e1 w1 ⟨rfl,rfl⟩)
 rw [<-HW0.o,<-HG.o];have Y:=HAND.o;have hpre:=Xf (p:=a.b) (s:=s) AA;have a8:=Xc (p:=a.e) (s:=s) AA;obtain ⟨u,hu⟩:=eqx (s.size-a.e.size);rw [<-hu] at a8;have hsub:IntKind.i64.wrap ((s.size:Int)-(a.e.size:Int))=(u:Int):=by
  rcases Hc ((s.size:Int)-(a.e.size:Int)) with h|h<;>have:=Hh ((s.size:Int)-(a.e.size:Int))<;>unfold Er at this<;>omega
 have n3:u<=s.size:=AA;have HU:=Hd hu;clear hu;rw [<-HB2.o] at hpre;rw [<-HB3.o] at a8;have n1:a.b.size<=s.size:=AA;have n2:a.e.size<=s.size:=AA;cases b1
 ·have HF:=Hd (show Aj a s=false by rw [U.o];rfl);refine Qa (λ_ _=>False) [] ?_;refine Qp ?_;refine Qc (λJ=>HP1.o J) ?_
  iterate 4 refine Qp ?_
  refine Qc (λJ=>HP1.o J) ?_
  iterate 2 refine Qp ?_
  iterate 8 refine Qn ?_
  iterate 2 refine Qp ?_
  exact RG
 cases b2
 ·have HF:=Hd (show Aj a s=false by rw [U.o];rfl);refine Qa (λ_ _=>False) [] ?_;refine Qp ?_;refine Qc (λJ=>HP1.o J) ?_
  iterate 4 refine Qp ?_
  refine Qc (λJ=>HP1.o J) ?_
  iterate 12 refine Qp ?_
  exact RG
 cases b3
 ·have HF:=Hd (show Aj a s=false by rw [U.o];rfl);exact TG
 ·have HF:=Hd (show Aj a s=true by rw [U.o];rfl);exact TG

theorem Xn{α:Sort _}(p q:Prop) [Decidable p] [Decidable q](x y:α):(if p then (if q then x else y) else y)=if p/\q then x else y:=by
 by_cases h1:p<;>by_cases h2:q<;>simp [h1,h2]
def CoA(lo hi o:Int)(b1 b2:Bool)(nb ne:Nat)(lap:Bool):Bool:=decide (hi<lo)||!b1||!b2||(if o=0 then decide (0<lo) else decide (hi<nb+ne)&&!lap)
theorem Wp{a:Sh}(h:a.least=1/\a.most=0/\a.cls=0/\a.b.toList=[]/\a.e.toList=[]):AT a=true:=by
 obtain ⟨l,m,c,b,e⟩:=a;simp only at h;obtain ⟨rfl,rfl,rfl,h4,h5⟩:=h;rw [WR] at h4 h5;subst h4 h5;exact Mf
theorem CJA{b e:BA}{u v:Nat}(_hv:v<=e.size):((b.extract u b.size).toList==(e.extract 0 v).toList)=decide (b.data.toList.drop u=e.data.toList.take v):=by
 rw [Bj,Bool.eq_iff_iff,decide_eq_true_eq,decide_eq_true_eq];have h1:(b.extract u b.size).data.toList=b.data.toList.drop u:=by
  rw [ByteArray.data_extract,Array.toList_extract,List.extract_eq_take_drop,List.take_of_length_le];rw [List.length_drop];exact Al
 have h2:(e.extract 0 v).data.toList=e.data.toList.take v:=by
  rw [ByteArray.data_extract,Array.toList_extract,List.extract_eq_take_drop,List.drop_zero,Nat.sub_zero]
 constructor
 ·intro h;have:=congrArg (λx:BA=>x.data.toList) h;exact h1.symm.trans (this.trans h2)
 ·intro h;rw [<-He (b.extract u b.size),h1,h,<-h2,He]
theorem T9(h:qP:=by
 refine Qr ?_;simp only [Xn];rw [if_neg HP.o];exact ⟨rfl,rfl⟩):qP:=h
theorem KA(a:Sh)(hb:a.b.size<=4294967296)(he:a.e.size<=4294967296)(w:World):Cl 135 #[(Sq a)] w (Ae w (AT a)):=by
 obtain ⟨lo,hlo⟩:=eqx (AQ a);obtain ⟨hi,b0⟩:=eqx (BE a);obtain ⟨o,ho⟩:=eqx (BL a);obtain ⟨p,hp⟩:=eqx (CT (bs a.b));obtain ⟨q,hq⟩:=eqx (CT (bs a.e));obtain ⟨b1,hb1⟩:=eqx (CM p o);obtain ⟨b2,hb2⟩:=eqx (CM q o);obtain ⟨HL,HM,HO,HP1,b5,a9,b6,HN⟩:=Hd8 (show ∀ J,Cl 136 #[(Sq a)] J (DG J lo) from λJ=>by rw [hlo];exact Df a J) (show ∀ J,Cl 137 #[(Sq a)] J (DG J hi) from λJ=>by rw [b0];exact Ed a J) (show ∀ J,Cl 138 #[(Sq a)] J (DG J o) from λJ=>by rw [ho];exact FD a J) (show ∀ J,Cl 99 #[.string a.b] J (Bk J p) from λJ=>by rw [hp];exact El a.b hb J) (show ∀ J,Cl 99 #[.string a.e] J (Bk J q) from λJ=>by rw [hq];exact El a.e he J) (show ∀ J,Cl 98 #[.I p,.I o] J (SameB J b1) from λJ=>by rw [hb1];exact Fp p o J) (show ∀ J,Cl 98 #[.I q,.I o] J (SameB J b2) from λJ=>by rw [hb2];exact Fp q o J) (show ∀ J,Cl 124 #[] J (G0 J H3A) from Hf);have HE:=Hd (show AT a=CoA lo hi o b1 b2 a.b.size a.e.size ((List.range 201).any λn=>decide (lo<=n/\(n:Int)<=hi)&&XG a n) from by
  rw [hlo,b0,hb1,hb2,hp,hq,ho];rfl)
 have d8:=Hd (show (a.b.size:Int)<=lo/\(a.e.size:Int)<=lo/\0<=lo/\hi<=200 from by rw [hlo,b0];unfold AQ BE;omega);clear hlo b0 ho hp hq hb1 hb2;have d6:=Hd (Wp (a:=a));obtain ⟨w0,hw0⟩:=eqx (w.alloc (.cells (Sp a) 26));have hx0:Ext w w0:=BS;obtain ⟨g,hg⟩:=eqx w.heap.size;have U:Blk w0 g 26 (Sp a):=EL;obtain ⟨k0,k1,k2,k3,k4,HX0,d9,HG⟩:=Hd8 (U.q0) (U.q1) (U.q2) (U.q3) (U.q4) hx0 hw0 hg;clear hx0 U hw0 hg
 go_enter func135,ntmps135
 go_upto_region 1 with fail
 rw [<-d9.o,<-HG.o];refine Qa (λ_ _=>False) [] ?_;refine Qp ?_;refine Qc (λJ=>HL.o J) ?_;refine Qp ?_;refine Qc (λJ=>HM.o J) ?_
 iterate 2 refine Qp ?_
 intro V F w9 hR hG;refine Qx ?_;have HXN:=Hd (show Ext w0 w9 from hR.ext0 (λ_ _ _ h=>h.elim));clear hR hG;obtain ⟨w1,hw1⟩:=eqx w9;rw [<-hw1] at HXN|-;have HX1:=Hd (HX0.o.trans HXN.o);clear hw1;obtain ⟨p0,p1,p2,p3,p4⟩:=Hd5 (HXN.o.cell k0.o) (HXN.o.cell k1.o) (HXN.o.cell k2.o) (HXN.o.cell k3.o) (HXN.o.cell k4.o);clear k0 k1 k2 k3 k4 HX0 HXN
 go_upto_region 2 with fail
 by_cases hpn:a.least=1/\a.most=0/\a.cls=0/\a.b.toList=[]/\a.e.toList=[]
 ·have HP:=Hd hpn;have HF:=Hd (d6.o hpn);clear hpn;refine Qa (λ_ _=>False) [] ?_;refine Qp ?_;refine Qc (x:=.agg #[.I 1,.I 0,.I 0,.string ⟨#[]⟩,.string ⟨#[]⟩]) (λJ=>HN.o J) ?_;refine Qm (λV F J L hR hN hp hρ zs zg=>by
   refine Qr ?_;simp only [Xn];rw [if_pos HP.o];exact ⟨rfl,rfl⟩) ?_
  refine Qp ?_
  iterate 3 refine Qn ?_
  refine Qp ?_;intro V F w9 hR hG;refine Qx ?_;have HX2:=Hd (show Ext w1 w9 from hR.ext0 (λ_ _ _ h=>h.elim));clear hR hG;go_wp2;go_ret;exact ⟨BB,HX1.o.trans HX2.o⟩
 have HP:=Hd hpn;clear hpn d6;by_cases hlt:hi<lo
 ·have HF:=Hd (show AT a=true by rw [HE.o];unfold CoA;rw [decide_eq_true hlt];rfl);refine Qa (λ_ _=>False) [] ?_;refine Qp ?_;refine Qc (x:=.agg #[.I 1,.I 0,.I 0,.string ⟨#[]⟩,.string ⟨#[]⟩]) (λJ=>HN.o J) ?_;refine Qm (λV F J L hR hN hp hρ zs zg=>by
   exact T9) ?_
  iterate 5 refine Qp ?_
  intro V F w9 hR hG;refine Qx ?_;have HX2:=Hd (show Ext w1 w9 from hR.ext0 (λ_ _ _ h=>h.elim));clear hR hG;go_wp2;go_ret;exact ⟨BB,HX1.o.trans HX2.o⟩
 refine Qa (λ_ _=>False) [] ?_;refine Qp ?_;refine Qc (x:=.agg #[.I 1,.I 0,.I 0,.string ⟨#[]⟩,.string ⟨#[]⟩]) (λJ=>HN.o J) ?_;refine Qm (λV F J L hR hN hp hρ zs zg=>by
  exact T9) ?_
 iterate 5 refine Qp ?_
 intro V F w9 hR hG;refine Qx ?_;have HX2:=Hd (show Ext w1 w9 from hR.ext0 (λ_ _ _ h=>h.elim));clear hR hG;obtain ⟨w2,d4⟩:=eqx w9;rw [<-d4] at HX2|-;have HX4:=Hd (HX1.o.trans HX2.o);clear d4;obtain ⟨r0,r1,r2,r3,r4⟩:=Hd5 (HX2.o.cell p0.o) (HX2.o.cell p1.o) (HX2.o.cell p2.o) (HX2.o.cell p3.o) (HX2.o.cell p4.o);clear p0 p1 p2 p3 p4 HX1 HX2
 go_upto_region 4 with fail
 cases b1
 ·have HF:=Hd (show AT a=true by rw [HE.o];unfold CoA;cases decide (hi<lo)<;>rfl);refine Qa (λ_ _=>False) [] ?_
  iterate 2 refine Qp ?_
  refine Qc (λJ=>HP1.o J) ?_;refine Qp ?_;refine Qc (λJ=>HO.o J) ?_;refine Qc (λJ=>a9.o J) ?_
  iterate 2 refine Qp ?_
  iterate 7 refine Qn ?_
  refine Qp ?_;intro V F w9 hR hG;refine Qx ?_;have HX3:=Hd (show Ext w2 w9 from hR.ext0 (λ_ _ _ h=>h.elim));clear hR hG;go_wp2;go_ret;exact ⟨BB,HX4.o.trans HX3.o⟩
 cases b2
 ·have HF:=Hd (show AT a=true by rw [HE.o];unfold CoA;cases decide (hi<lo)<;>rfl);refine Qa (λ_ _=>False) [] ?_
  iterate 2 refine Qp ?_
  refine Qc (λJ=>HP1.o J) ?_;refine Qp ?_;refine Qc (λJ=>HO.o J) ?_;refine Qc (λJ=>a9.o J) ?_
  iterate 4 refine Qp ?_
  refine Qc (λJ=>b5.o J) ?_;refine Qp ?_;refine Qc (λJ=>HO.o J) ?_;refine Qc (λJ=>b6.o J) ?_
  iterate 2 refine Qp ?_
  intro V F w9 hR hG;refine Qx ?_;have HX3:=Hd (show Ext w2 w9 from hR.ext0 (λ_ _ _ h=>h.elim));clear hR hG;go_wp2;go_ret;exact ⟨BB,HX4.o.trans HX3.o⟩
 refine Qa (λ_ _=>False) [] ?_
 iterate 2 refine Qp ?_
 refine Qc (λJ=>HP1.o J) ?_;refine Qp ?_;refine Qc (λJ=>HO.o J) ?_;refine Qc (λJ=>a9.o J) ?_
 iterate 4 refine Qp ?_
 refine Qc (λJ=>b5.o J) ?_;refine Qp ?_;refine Qc (λJ=>HO.o J) ?_;refine Qc (λJ=>b6.o J) ?_
 iterate 2 refine Qp ?_
 intro V F w9 hR hG;refine Qx ?_;have HX3:=Hd (show Ext w2 w9 from hR.ext0 (λ_ _ _ h=>h.elim));clear hR hG;obtain ⟨w3,b9⟩:=eqx w9;rw [<-b9] at HX3|-;have HX5:=Hd (HX4.o.trans HX3.o);clear b9;have s0:=HX3.o.cell r0.o;have s1:=HX3.o.cell r1.o;have s2:=HX3.o.cell r2.o;have s3:=HX3.o.cell r3.o;have s4:=HX3.o.cell r4.o;have b7:=Hd hlt;clear r0 r1 r2 r3 r4 HX4 HX3 hlt;by_cases ho:o=0
 ·have HF:=Hd (show AT a=decide (0<lo) by rw [HE.o];unfold CoA;rw [if_pos ho,decide_eq_false b7.o];simp);have hoz:(o==0)=true:=(by rw [beq_iff_eq];exact ho);clear ho HE
  go_wp2_with (go_at_call 138;refine (HO.o _).mono ?_;rintro e4 w4 ⟨rfl,hx4⟩;have HX6:=Hd (HX5.o.trans hx4);clear hx4)
  go_ret;refine ⟨?_,HX6.o⟩;rw [HF.o];rfl
 have HF:=Hd (show AT a=(decide (hi<(a.b.size:Int)+a.e.size)&&!((List.range 201).any λn=>decide (lo<=n/\(n:Int)<=hi)&&XG a n)) by rw [HE.o];unfold CoA;rw [if_neg ho,decide_eq_false b7.o];simp);have hoz:(o==0)=false:=(by rw [beq_eq_false_iff_ne];exact ho);clear ho HE
 go_wp2_with (go_at_call 138;refine (HO.o _).mono ?_;rintro e4 w4 ⟨rfl,hx4⟩;have HX6:=Hd (HX5.o.trans hx4);have s0:=hx4.cell s0;have s1:=hx4.cell s1;have s2:=hx4.cell s2;have s3:=hx4.cell s3;have s4:=hx4.cell s4;clear hx4)
 ·go_ret;refine ⟨?_,HX6.o⟩;rw [HF.o,show decide (hi<(a.b.size:Int)+a.e.size)=false from decide_eq_false AA];rfl
 obtain ⟨d7,hle,hl0,hh⟩:=d8.o;obtain ⟨L_,rfl⟩:∃ L_:Nat,lo=(L_:Int):=⟨lo.toNat,AA⟩;have b4:hi<(a.b.size:Int)+a.e.size:=AA;obtain ⟨nb,a8⟩:=eqx a.b.size;obtain ⟨ne,hne⟩:=eqx a.e.size;rw [<-a8] at hb d7;rw [<-hne] at he hle;obtain ⟨wk,b8⟩:=eqx w4;obtain ⟨d3,Y,HNE⟩:=Hd3 b8 a8 hne;rw [<-a8,<-hne] at b4;rw [<-a8,<-hne];rw [<-b8] at s3 s4|-;have t3:=Hd s3;have t4:=Hd s4;clear s0 s1 s2 s3 s4 b8 a8 hne HL HM HO HP1 b5 a9 b6 HN
 go_loopw [6,7] (λi _u wr=>(∃ k:Nat,i=.I k/\L_<=k/\(k:Int)<=hi+1/\∀ m,L_<=m->m<k->XG a m=false)/\Ext wk wr) (λi _ _=>202-(intOf i).toNat)
 case atStart=>exact ⟨⟨L_,rfl,Al,by have:=b7.o;omega,AK⟩,Ext.refl _⟩
 case round =>
  obtain ⟨⟨k,rfl,hk1,hk2,hall⟩,d5⟩:=hrel;have Z:=Hd d5;clear d5;have HA:=Hd hall;clear hall;by_cases hkh:(k:Int)<=hi
  ·obtain ⟨v,hv⟩:=eqx (nb+ne-k);obtain ⟨u,hu⟩:=eqx (k-ne);have e1:(nb:Int)+ne-(k:Int)=(v:Int):=AA;have e3:u<=nb:=AA;have e4:v<=ne:=AA;have e5:v<=nb:=AA;have O:XG a k=((a.b.extract u a.b.size).toList==(a.e.extract 0 v).toList):=by
    rw [CJA (by rw [<-HNE.o];exact e4)];unfold XG;rw [show k-a.E.length=u by rw [F1,<-HNE.o];exact hu.symm,show a.B.length+a.E.length-k=v by rw [F1,G6,<-HNE.o,<-Y.o];exact hv.symm];rfl
   have hsub:IntKind.i64.wrap ((a.b.size:Int)-(v:Int))=(u:Int):=by
    rw [<-Y.o]
    rcases Hc ((nb:Int)-(v:Int)) with h|h<;>have:=Hh ((nb:Int)-(v:Int))<;>unfold Er at this<;>omega
   rw [Y.o] at e3 e5;rw [HNE.o] at e4;clear hv hu;obtain ⟨HXR,x3,x4⟩:=Hd3 (show Ext w wr from by have:=HX6.o;rw [<-d3.o] at this;exact this.trans Z.o) (Z.o.cell t3.o) (Z.o.cell t4.o)
   go_upto_region 15 with fail
   cases hl:XG a k
   ·rw [hl] at O
    replace O:=O.symm
    have b3:=Hd hl;clear hl;refine Qa (λ_ _=>False) [] ?_
    iterate 13 refine Qp ?_
    intro V F w9 hR hG;refine Qx ?_;have HX9:=Hd (show Ext wr w9 from hR.ext0 (λ_ _ _ h=>h.elim));clear hR hG;go_wp2;go_roundw
    case rel=>exact ⟨⟨k+1,AE,AA,AA,λm hm1 hm2=>by by_cases hmk:m=k;exact hmk ▸ b3.o;exact HA.o m hm1 AA⟩,Z.o.trans HX9.o⟩
    case measure=>simp [intOf];omega
   ·rw [hl] at O
    replace O:=O.symm
    have b3:=Hd hl;clear hl;have HF2:=Hd (show AT a=false from by
     rw [HF.o,show decide (hi<(a.b.size:Int)+a.e.size)=true from decide_eq_true (by rw [<-Y.o,<-HNE.o];exact b4),Bool.true_and,Bool.not_eq_false',List.any_eq_true];exact ⟨k,by rw [List.mem_range];omega,by rw [b3.o];simp;omega⟩)
    refine Qa (λ_ _=>False) [] ?_
    iterate 13 refine Qp ?_
    intro V F w9 hR hG;refine Qx ?_;have HX9:=Hd (show Ext wr w9 from hR.ext0 (λ_ _ _ h=>h.elim));clear hR hG;go_wp2;go_ret;exact ⟨by rw [HF2.o];rfl,HXR.o.trans HX9.o⟩
  ·have HF2:=Hd (show AT a=true from by
    rw [HF.o,show decide (hi<(a.b.size:Int)+a.e.size)=true from decide_eq_true (by rw [<-Y.o,<-HNE.o];exact b4),Bool.true_and,Bool.not_eq_true',List.any_eq_false];intro m _ hm;simp only [Bool.and_eq_true,decide_eq_true_eq] at hm;rw [HA.o m AA AA] at hm;cases hm.2)
   go_wp2;go_ret;exact ⟨by rw [HF2.o];rfl,by have:=HX6.o;rw [<-d3.o] at this;exact this.trans Z.o⟩

theorem GF:∀ (l m:List UInt8) (n:Nat),n<=l.length->n<=m.length->(∀ j,j<n->l[j]?=m[j]?)->(n=l.length\/n=m.length\/l[n]?≠m[n]?)->ES l m=l.take n
 |[],m,n,h1,_,_,_=>by simp [ES]
 |x::l,[],n,_,h2,_,_=>by
  have:n=0:=Dj;subst this;simp [ES]
 |x::l,y::m,0,_,_,_,h4=>by
  unfold ES;rw [if_neg]
  ·rfl
  ·rintro rfl;simp at h4
 |x::l,y::m,n+1,h1,h2,h3,h4=>by
  have O:x=y:=(by simpa using h3 0 AA);unfold ES;rw [if_pos O,List.take_succ_cons,GF l m n CE Dj (λj hj=>by simpa using h3 (j+1) AA) (by simpa using h4)]
theorem Nj{s:BA}{j:Nat}(h:j<s.size):s.data.toList[j]?=some s[j]:=by
 rw [List.getElem?_eq_getElem (show j<s.data.toList.length from h)];rfl
theorem Mt(x y:UInt8):((x.toNat:Int)==(y.toNat:Int))=decide (x=y):=by
 rw [Bool.eq_iff_iff,beq_iff_eq,decide_eq_true_eq];constructor
 ·intro h;exact UInt8.toNat_inj.1 AA
 ·rintro rfl;rfl
theorem F8(s:BA)(n:Nat):s.extract 0 n=bA (s.data.toList.take n):=by
 rw [<-He (s.extract 0 n)];congr 1;rw [ByteArray.data_extract,Array.toList_extract,List.extract_eq_take_drop,List.drop_zero,Nat.sub_zero]
theorem Et(s:BA)(n:Nat):s.extract n s.size=bA (s.data.toList.drop n):=by
 rw [<-He (s.extract n s.size)];congr 1;rw [ByteArray.data_extract,Array.toList_extract,List.extract_eq_take_drop,List.take_of_length_le];rw [List.length_drop];exact Al
def Wo(w:World)(s:BA)(e:Ending)(J:World):Prop:=e=.returned (.string s)/\Ext w J
theorem FX(h:qP:=by
 go_wp2
 go_quiet (fail)
 go_wp2;go_ret;exact ⟨by rw [<-HF.o];rfl,by rw [HWR.o];exact ((Ext.refl w).drewN _).drewN _⟩):qP:=h
theorem Y7(h:qP:=by
 refine ⟨⟨k+1,by omega,by omega,by go_num,λj hj => ?_⟩,_,by rw [HWR.o];exact World.drewN_drewN _ _ _⟩;by_cases hjk:j=k
 ·subst hjk;exact HE.o
 ·exact HA.o j (by omega)):qP:=h
theorem Un(h:qP:=by
 go_wp2
 go_quiet (fail)
 go_wp2;go_roundw
 case rel =>
  exact Y7
 case measure=>simp [intOf];omega):qP:=h
theorem Zd(a b:BA)(ha:a.size<=4294967296)(_hb:b.size<=4294967296)(w:World):Cl 154 #[.string a,.string b] w (Wo w (bA (ES a.data.toList b.data.toList))):=by
 go_enter func154,ntmps154
 go_wp2
 go_loopw [5] (λi wr=>(∃ k:Nat,k<=a.size/\k<=b.size/\i=.I k/\∀ j,j<k->a.data.toList[j]?=b.data.toList[j]?)/\∃ n,wr=w.drewN n) (λi _=>a.size-(intOf i).toNat)
 case atStart=>exact ⟨⟨0,AN,AN,rfl,AK⟩,0,rfl⟩
 case round =>
  obtain ⟨⟨k,U,hkb,rfl,hall⟩,n,rfl⟩:=hrel;have HA:=Hd hall;clear hall;obtain ⟨wr,O⟩:=eqx (w.drewN n);rw [<-O];have HWR:=Hd O;clear O;by_cases h1:k<a.size
  ·by_cases h2:k<b.size
   ·cases hc:((a[k].toNat:Int)==(b[k].toNat:Int))
    ·have HF:=Hd (show a.extract 0 k=bA (ES a.data.toList b.data.toList) by
      rw [F8,GF _ _ k U hkb HA.o (.inr (.inr (by rw [Nj h1,Nj h2];intro e;injection e with e;rw [Mt,e] at hc;simp at hc)))])
     exact FX
    ·have HE:=Hd (show a.data.toList[k]?=b.data.toList[k]? by rw [Nj h1,Nj h2];rw [Mt,decide_eq_true_eq] at hc;rw [hc]);exact Un
   ·have HF:=Hd (show a.extract 0 k=bA (ES a.data.toList b.data.toList) by
     rw [F8,GF _ _ k U hkb HA.o (.inr (.inl (by show k=b.size;omega)))])
    exact FX
  ·have HF:=Hd (show a.extract 0 k=bA (ES a.data.toList b.data.toList) by
    rw [F8,GF _ _ k U hkb HA.o (.inl (by show k=a.size;omega))])
   exact FX
theorem J6(l m:List UInt8)(n:Nat)(h1:n<=l.length)(h2:n<=m.length)(h3:∀ j,j<n->l.reverse[j]?=m.reverse[j]?)(h4:n=l.length\/n=m.length\/l.reverse[n]?≠m.reverse[n]?):Hv l m=l.drop (l.length-n):=by
 unfold Hv;rw [GF l.reverse m.reverse n CE Dj h3 (by simpa using h4),List.take_reverse,List.reverse_reverse]
theorem O7{s:BA}{j u:Nat}(hu:u+j+1=s.size):s.data.toList.reverse[j]?=some (s[u]'AA):=by
 have hl:s.data.toList.length=s.size:=rfl;rw [List.getElem?_reverse AA,hl,show s.size-1-j=u by omega];exact Nj AA
theorem ArA(a b:BA)(ha:a.size<=4294967296)(hb:b.size<=4294967296)(w:World):Cl 155 #[.string a,.string b] w (Wo w (bA (Hv a.data.toList b.data.toList))):=by
 go_enter func155,ntmps155
 go_wp2
 go_loopw [5] (λi wr=>(∃ k:Nat,k<=a.size/\k<=b.size/\i=.I k/\∀ j,j<k->a.data.toList.reverse[j]?=b.data.toList.reverse[j]?)/\∃ n,wr=w.drewN n) (λi _=>a.size-(intOf i).toNat)
 case atStart=>exact ⟨⟨0,AN,AN,rfl,AK⟩,0,rfl⟩
 case round =>
  obtain ⟨⟨k,O,hkb,rfl,hall⟩,n,rfl⟩:=hrel;have HA:=Hd hall;clear hall;obtain ⟨wr,U⟩:=eqx (w.drewN n);rw [<-U];have HWR:=Hd U;clear U;obtain ⟨d,hd⟩:=eqx (a.size-k);have HD:=Hd hd;have b0:(a.size:Int)-(k:Int)=(d:Int):=AA;have Z:d<=a.size:=AA;clear hd;by_cases h1:k<a.size
  ·by_cases h2:k<b.size
   ·obtain ⟨u,hu⟩:∃ u,u+k+1=a.size:=⟨a.size-k-1,AA⟩;obtain ⟨v,hv⟩:∃ v,v+k+1=b.size:=⟨b.size-k-1,AA⟩;have a8:u<a.size:=AA;have a9:v<b.size:=AA;have e1:IntKind.i64.wrap (IntKind.i64.wrap ((a.size:Int)-1)-(k:Int))=(u:Int):=by
     rw [show IntKind.i64.wrap ((a.size:Int)-1)=(a.size:Int)-1 by rcases Hc ((a.size:Int)-1) with h|h<;>have:=Hh ((a.size:Int)-1)<;>unfold Er at this<;>omega]
     rcases Hc ((a.size:Int)-1-(k:Int)) with h|h<;>have:=Hh ((a.size:Int)-1-(k:Int))<;>unfold Er at this<;>omega
    have e2:IntKind.i64.wrap (IntKind.i64.wrap ((b.size:Int)-1)-(k:Int))=(v:Int):=by
     rw [show IntKind.i64.wrap ((b.size:Int)-1)=(b.size:Int)-1 by rcases Hc ((b.size:Int)-1) with h|h<;>have:=Hh ((b.size:Int)-1)<;>unfold Er at this<;>omega]
     rcases Hc ((b.size:Int)-1-(k:Int)) with h|h<;>have:=Hh ((b.size:Int)-1-(k:Int))<;>unfold Er at this<;>omega
    have Y:=Hd hu;have HV:=Hd hv;clear hu hv;cases hc:((a[u].toNat:Int)==(b[v].toNat:Int))
    ·have HF:=Hd (show a.extract d a.size=bA (Hv a.data.toList b.data.toList) by
      rw [Et,J6 _ _ k O hkb HA.o (.inr (.inr (by rw [O7 Y.o,O7 HV.o];intro e;injection e with e;rw [Mt,e] at hc;simp at hc))),HD.o];rfl)
     exact FX
    ·have HE:=Hd (show a.data.toList.reverse[k]?=b.data.toList.reverse[k]? by rw [O7 Y.o,O7 HV.o];rw [Mt,decide_eq_true_eq] at hc;rw [hc]);exact Un
   ·have HF:=Hd (show a.extract d a.size=bA (Hv a.data.toList b.data.toList) by
     rw [Et,J6 _ _ k O hkb HA.o (.inr (.inl (by show k=b.size;omega))),HD.o];rfl)
    exact FX
  ·have HF:=Hd (show a.extract d a.size=bA (Hv a.data.toList b.data.toList) by
    rw [Et,J6 _ _ k O hkb HA.o (.inl (by show k=a.size;omega)),HD.o];rfl)
   exact FX

theorem DfA(m:Nat)(h:m<=6):IntKind.i64.wrap (2^m)=((2^m:Nat):Int):=by
 match m,h with
 |0,_=>decide
 |1,_=>decide
 |2,_=>decide
 |3,_=>decide
 |4,_=>decide
 |5,_=>decide
 |6,_=>decide
theorem E5A(x:Int)(m:Nat)(h:m<=6):(bits .and .i64 x (IntKind.i64.wrap (2^m)) != 0)=bt x m:=by
 rw [DfA m h,Bool.eq_iff_iff,bne_iff_ne,ne_eq,RF (CJ _ _ _)];constructor
 ·intro hn;refine Classical.byContradiction λhb=>hn λi hi => ?_;rw [CN,Js _ _ AA];by_cases e:i=m
  ·subst e;cases hbt:bt x i
   ·rfl
   ·exact absurd hbt hb
  ·exact MI
 ·intro hb hn;have h1:=hn m AA;exact QG
theorem DNA(l m:List UInt8):bA l++bA m=bA (l++m):=by
 have h:(bA l++bA m).data.toList=l++m:=(by simp [bA]);rw [<-He (bA l++bA m),h]
def FAA(f:Int):BA:=bA [UInt8.ofNat f.toNat]
def G5A(w:World)(o:Option (List UInt8))(e:Ending)(J:World):Prop:=e=.returned (.tuple #[.string (bA (o.getD [])),.bool o.isSome])/\Ext w J
theorem UY(h:qP:=by
 go_wp2;go_ret2;refine ⟨by rw [HF.o];rfl,(Ext.refl w).alloc _⟩):qP:=h
theorem DMA(a:Sh)(n:Nat)(ha:a.b.size<=4294967296)(he:a.e.size<=4294967296)(hn:n<=200)(w:World):Cl 182 #[(Sq a),.I (n:Int)] w (G5A w (Fn a n)):=by
 obtain ⟨w0,hw0⟩:=eqx (w.alloc (.cells (Sp a) 26));have hx0:Ext w w0:=BS;obtain ⟨g,hg⟩:=eqx w.heap.size;have b9:Blk w0 g 26 (Sp a):=EL;obtain ⟨k0,k1,k2,k3,k4⟩:=b9.qs5;obtain ⟨HX0,d7,HG⟩:=Hd3 hx0 hw0 hg;clear hx0 b9 hw0 hg
 go_enter func182,ntmps182
 by_cases h1:n<a.b.size
 ·have HF:=Hd (show Fn a n=none by unfold Fn;rw [if_pos (.inl h1)]);exact UY
 by_cases h2:n<a.e.size
 ·have HF:=Hd (show Fn a n=none by unfold Fn;rw [if_pos (.inr h2)]);exact UY
 obtain ⟨nb,b8⟩:=eqx a.b.size;obtain ⟨ne,hne⟩:=eqx a.e.size;have Z:=Hd b8;have HNE:=Hd hne;clear b8 hne;go_wp2;rw [<-d7.o,<-HG.o]
 go_loopw [6,7] (λf i wr=>(∃ (k:Nat) (v:Int),k<=95/\i=.I ((k:Int)+31)/\f=.string (FAA v)/\Hu a.cls k v=Hu a.cls 95 32)/\Ext w0 wr) (λ_ i _=>(intOf i).toNat)
 case atStart=>exact ⟨⟨95,32,AA,rfl,rfl,rfl⟩,Ext.refl _⟩
 case round =>
  obtain ⟨⟨k,v,hk,rfl,rfl,hfl⟩,hx⟩:=hrel;obtain ⟨HFL,HX,c0,c1,c2,c3,c4⟩:=Hd7 hfl hx (hx.cell k0) (hx.cell k1) (hx.cell k2) (hx.cell k3) (hx.cell k4);clear hfl hx;by_cases hk0:k=0
  ·subst hk0;have hlt:¬(32:Int)<=((0:Nat):Int)+31:=AA;have HV:=Hd (show v=Hu a.cls 95 32 from HFL.o);have d0:=c0.o;have d1:=c1.o;have d2:=c2.o;have d3:=c3.o;have d4:=c4.o;have hS:=Hd (show FAA v=bA [JQ a] from by rw [HV.o];rfl);have f2:(FAA v).size=1:=rfl;generalize FAA v=sv at *;obtain ⟨wz,a9⟩:=eqx wr;rw [<-a9] at HX d0 d1 d2 d3 d4 c0 c1 c2 c3 c4|-;have f0:=Hd a9;clear a9 HFL HV;have hle:nb+ne<=9000000000:=(by rw [Z.o,HNE.o];omega);have f5:=Hd (show a.b=bA (a.B++List.replicate 0 (JQ a)) by rw [List.replicate_zero,List.append_nil,GqA]);go_wp2
   go_loopw [8] (λs wr2=>(∃ (j:Nat) (z:BA),s=.string z/\z=bA (a.B++List.replicate j (JQ a))/\j<=n-ne-nb)/\wr2=wz) (λs _=>n-(match s with|.string z=>z.size|_=>0))
   case atStart=>exact ⟨⟨0,_,rfl,f5.o,AN⟩,rfl⟩
   case round =>
    obtain ⟨⟨j,z,rfl,hz,hj⟩,rfl⟩:=hrel;have Y:z.size=nb+j:=by
     rw [hz,EH,List.length_append,List.length_replicate,G6,Z.o]
    have HZ:=Hd hz;clear hz;have b0:a.b.size=nb:=Z.o.symm;have O:a.e.size=ne:=HNE.o.symm;by_cases hlt:nb+j+ne<n
    ·have b5:(z.size:Int)+(a.e.size:Int)<(n:Int):=(by rw [Y,O];omega);have d5:=Hd (show z++sv=bA (a.B++List.replicate (j+1) (JQ a)) by rw [HZ.o,hS.o,DNA,List.append_assoc,List.replicate_succ']);have d9:z.size<=9000000000:=AA;clear b0 O;go_wp2;go_roundw
     case rel=>exact ⟨⟨j+1,_,rfl,d5.o,AA⟩,trivial⟩
     case measure =>
      show n-(z++sv).size<n-z.size;have:(z++sv).size=z.size+1:=(by rw [d5.o,EH,HZ.o,EH];simp only [List.length_append,List.length_replicate];omega);omega
    ·have b5:¬(z.size:Int)+(a.e.size:Int)<(n:Int):=(by rw [Y,O];omega);obtain ⟨q,hq⟩:=eqx (nb+j+ne-n);obtain ⟨p,hp⟩:=eqx (n-ne);have d9:z.size<=9000000000:=AA;have hq1:(z.size:Int)+(a.e.size:Int)-(n:Int)=(q:Int):=(by rw [Y,O];omega);have hq2:q<=z.size:=AA;have d6:q<=a.e.size:=AA;have hp1:IntKind.i64.wrap ((z.size:Int)-(q:Int))=(p:Int):=by
      rw [Y]
      rcases Hc (((nb+j:Nat):Int)-(q:Int)) with h|h<;>have:=Hh (((nb+j:Nat):Int)-(q:Int))<;>unfold Er at this<;>omega
     have hp2:p<=z.size:=AA;have HZS:=Hd Y;obtain ⟨tl,f6⟩:=eqx (a.e.extract q a.e.size);have b4:((z.extract p z.size).toList==(a.e.extract 0 q).toList)=decide (z.data.toList.drop p=a.E.take q):=CJA d6;have b6:=Hd (show Fn a n=if z.data.toList.drop p=a.E.take q then some (z.data.toList++a.E.drop q) else none from by
      unfold Fn;rw [if_neg (by rw [G6,F1,<-Z.o,<-HNE.o];omega)];simp only;have ez:a.B++List.replicate (n-a.E.length-a.B.length) (JQ a)=z.data.toList:=by
       rw [HZ.o];show _=a.B++List.replicate j (JQ a);rw [show n-a.E.length-a.B.length=j by rw [G6,F1,<-Z.o,<-HNE.o];omega]
      have e1:z.data.toList.length=nb+j:=Y;rw [ez,e1,F1,<-HNE.o,<-hq,show nb+j-q=p by omega])
     have HTL:=Hd (show z++a.e.extract q a.e.size=bA (z.data.toList++a.E.drop q) from by
      rw [Et,<-DNA,He];rfl)
     have HJQ:=Hd hq;clear b0 O f6 hq hp f0 Y hlt f2 hle;by_cases heq:z.data.toList.drop p=a.E.take q
     ·rw [decide_eq_true heq] at b4;have HF:=Hd (show Fn a n=some (z.data.toList++a.E.drop q) by rw [b6.o,if_pos heq]);clear heq
      go_upto_region 13 with fail
      refine Qa (λ_ _=>False) [] ?_
      iterate 11 refine Qp ?_
      intro V F w9 hR hG;refine Qx ?_;have U:=Hd (show Ext wr w9 from hR.ext0 (λ_ _ _ h=>h.elim));clear hR hG;have f3:=U.o.cell c3.o;have f4:=U.o.cell c4.o;go_wp2;go_ret2;refine ⟨?_,HX0.o.trans (HX.o.trans U.o)⟩;rw [HF.o,Option.getD_some,<-HTL.o];rfl
     ·rw [decide_eq_false heq] at b4;have HF:=Hd (show Fn a n=none by rw [b6.o,if_neg heq]);clear heq
      go_upto_region 13 with fail
      refine Qa (λ_ _=>False) [] ?_
      iterate 11 refine Qp ?_
      intro V F w9 hR hG;refine Qx ?_;have U:=Hd (show Ext wr w9 from hR.ext0 (λ_ _ _ h=>h.elim));clear hR hG;go_wp2;go_ret2;refine ⟨BB,HX0.o.trans (HX.o.trans U.o)⟩
  ·obtain ⟨j,rfl⟩:∃ j,k=j+1:=⟨k-1,AA⟩;clear hk0;obtain ⟨c,hc⟩:∃ c:Int,c=((j+1:Nat):Int)+31:=⟨_,rfl⟩;rw [<-hc];have f1:32<=c/\c<=126:=AA;obtain ⟨hc1,hc2⟩:=f1;have a8:=Hd (show c=((32+j:Nat):Int) by omega);have hw8:IntKind.u8.wrap c=c:=by
    unfold IntKind.wrap;simp only [IntKind.bits,IntKind.signed];simp;omega
   clear hc;obtain ⟨m,hm⟩:=eqx (Ev c);have HC:=Hd (show ∀ J,Cl 181 #[.int .u8 c] J (Bk J (m:Int)) from λJ=>by rw [hm];exact NR _ J);have d8:m<=6:=(by rw [hm];exact Ir _);have HM:=Hd hm;clear hm;have b3:=E5A a.cls m d8;cases hb:bt a.cls m
   ·rw [hb] at b3;have HB:=Hd hb;clear hb
    go_upto_region 7 with fail
    refine Qa (λ_ _=>False) [] ?_
    iterate 4 refine Qp ?_
    refine Qc (λJ=>HC.o J) ?_
    iterate 3 refine Qp ?_
    intro V F w9 hR hG;refine Qx ?_;have HX7:=Hd (show Ext wr w9 from hR.ext0 (λ_ _ _ h=>h.elim));clear hR hG;go_wp2;go_roundw
    case rel=>exact ⟨⟨j,v,AA,by have:=a8.o;go_num,rfl,by have h:=HFL.o;unfold Hu at h;rw [<-a8.o,<-HM.o,HB.o,if_neg AC] at h;exact h⟩,HX.o.trans HX7.o⟩
    case measure=>simp [intOf];omega
   ·rw [hb] at b3;have HB:=Hd hb;clear hb
    go_upto_region 7 with fail
    refine Qa (λ_ _=>False) [] ?_
    iterate 4 refine Qp ?_
    refine Qc (λJ=>HC.o J) ?_
    iterate 3 refine Qp ?_
    intro V F w9 hR hG;refine Qx ?_;have HX7:=Hd (show Ext wr w9 from hR.ext0 (λ_ _ _ h=>h.elim));clear hR hG;go_wp2;have b7:=run_convert_bytes_arg (P:=prog) (w9.alloc (.cells #[.int .u8 c] 5)) 68 5 underlying68 underlying5 w9.heap.size 0 1 1 [c] rfl (λi hi=>by
     have:i=0:=AA;subst this;exact (Blk.new w9 5 #[.int .u8 c]).cell rfl) 9 underlying9
    rw [b7];clear b7;go_wp2;go_roundw
    case rel=>exact ⟨⟨j,c,AA,by have:=a8.o;go_num,rfl,by have h:=HFL.o;unfold Hu at h;rw [<-a8.o,<-HM.o,HB.o,if_pos rfl] at h;exact h⟩,(HX.o.trans HX7.o).alloc _⟩
    case measure=>simp [intOf];omega

theorem FRA(a:Sh):FUA a=min (min a.most 200) (max (max a.least 0) ((a.b.size:Int)+a.e.size+1)):=rfl
theorem CfA{a:Sh}{n:Nat}{s:List UInt8}(h:Fn a n=some s):s.length<=a.b.size+n+a.e.size:=by
 unfold Fn at h;split at h
 ·cases h
 ·simp only at h;split at h
  ·injection h with h;rw [<-h];simp only [List.length_append,List.length_replicate,List.length_drop];rw [G6,F1];omega
  ·cases h
theorem U6(h:qP:=by
 have HF:=Hd (show AT a=true from Yc λn hn1 hn2 s hs=>HA.o n (by rw [HLW.o];exact hn1) (by have:=HTOP.o;omega) s hs)
 go_wp2_with fail
 go_ret;exact ⟨by rw [HF.o];rfl,HX0.o.trans HX.o⟩):qP:=h
theorem Nq(a:Sh)(hb:a.b.size<=1000000000)(he:a.e.size<=1000000000)(w:World):Cl 109 #[(Sq a)] w (Ae w (AT a)):=by
 obtain ⟨w0,hw0⟩:=eqx (w.alloc (.cells (Sp a) 26));have hx0:Ext w w0:=BS;obtain ⟨g,hg⟩:=eqx w.heap.size;have O:Blk w0 g 26 (Sp a):=EL;have k0:=O.q0;obtain ⟨HK1,HK2,b0,a9,HK0,HX0,HW0,HG⟩:=Hd8 (O.q1) (O.q2) (O.q3) (O.q4) k0 hx0 hw0 hg;have HTOP:=Hd (FRA a);clear hx0 O hw0 hg
 go_enter func109,ntmps109
 go_upto_region 1 with fail
 rw [<-HW0.o,<-HG.o];obtain ⟨Y,U⟩:=eqx (max a.least 0);have b3:0<=Y:=AA;rw [<-U] at HTOP;have HLW:=Hd U;go_wp2;rw [<-U];clear U k0
 go_loopw [4,5,6] (λi _s _o wr=>(∃ k:Nat,i=.I k/\Y<=k/\∀ m:Nat,Y<=m->m<k->∀ s,Fn a m=some s->¬InS a s)/\Ext w0 wr) (λi _ _ _=>202-(intOf i).toNat)
 case atStart=>exact ⟨⟨Y.toNat,by rw [Int.toNat_of_nonneg b3],AA,AK⟩,Ext.refl _⟩
 case round =>
  obtain ⟨⟨k,rfl,hk1,hall⟩,hx⟩:=hrel;have HA:=Hd hall;have HX:=Hd hx;have c0:=hx.cell HK0.o;have c1:=hx.cell HK1.o;have c2:=hx.cell HK2.o;have c3:=hx.cell b0.o;have c4:=hx.cell a9.o;clear hall hx;by_cases h1:(k:Int)<=min a.most 200
  ·by_cases h2:(k:Int)<=max Y ((a.b.size:Int)+a.e.size+1)
   ·have hk2:k<=200:=AA;have HS:=Hd (λJ=>DMA a k AA AA hk2 J);have b4:=Hd (λs (h:Fn a k=some s)=>CfA h);cases ho:Fn a k with
    |none =>
     have HO:=Hd ho;rw [ho] at HS;clear ho
     go_wp2_with fail
     refine (HS.o _).mono ?_;rintro e1 w1 ⟨rfl,hx1⟩;have HX1:=Hd (HX.o.trans hx1);clear hx1 c0 c1 c2 c3 c4
     go_wp2_with fail
     go_roundw
     case rel =>
      refine ⟨⟨k+1,AE,AA,λm hm1 hm2 s hs => ?_⟩,HX1.o⟩;by_cases hmk:m=k
      ·subst hmk;rw [HO.o] at hs;cases hs
      ·exact HA.o m hm1 AA s hs
     case measure=>simp [intOf];omega
    |some s =>
     have hsl:=b4.o s ho;have hsz:(bA s).size<=4294967296:=(by rw [EH];omega);have HC:=Hd (λJ=>Wt a (bA s) AA AA hsz J);have HO:=Hd ho;rw [ho] at HS;have Z:=Hd (Cf a (bA s));have hrs:Option.getD (some s) []=s:=rfl;generalize Aj a (bA s)=cb at *;obtain ⟨z,hz⟩:=eqx (bA s);have HS2:=Hd (show ∀ J,Cl 182 #[(Sq a),.I (k:Int)] J (λe w''=>e=.returned (.tuple #[.string z,.bool true])/\Ext J w'') from λJ=>by rw [hz];exact HS.o J);rw [<-hz] at HC;have HZ:=Hd hz;clear ho hz hsz hsl HS hrs
     go_wp2_with fail
     refine (HS2.o _).mono ?_;rintro e1 w1 ⟨rfl,hx1⟩;have HX1:=Hd (HX.o.trans hx1);have c0:=hx1.cell c0;have c1:=hx1.cell c1;have c2:=hx1.cell c2;have c3:=hx1.cell c3;have c4:=hx1.cell c4;clear hx1
     go_wp2_with fail
     refine (HC.o _).mono ?_;rintro e2 w2 ⟨rfl,hx2⟩;have HX2:=Hd (HX1.o.trans hx2);clear hx2;cases cb
     ·go_wp2_with fail
      go_roundw
      case rel =>
       refine ⟨⟨k+1,AE,AA,λm hm1 hm2 s' hs => ?_⟩,HX2.o⟩;by_cases hmk:m=k
       ·subst hmk;rw [HO.o] at hs;injection hs with hs;intro a8;have:=Z.o.2 (by rw [<-hs] at a8;exact a8);cases this
       ·exact HA.o m hm1 AA s' hs
      case measure=>simp [intOf];omega
     ·have HF:=Hd (show AT a=false from Eg (Z.o.1 rfl))
      go_wp2_with fail
      go_ret;exact ⟨BB,HX0.o.trans HX2.o⟩
   ·exact U6
  ·exact U6

theorem GFA(a b:Sh):bits .and .i64 (bits .or .i64 a.cls b.cls) 110=bits .or .i64 (BL a) (BL b):=by
 refine DT (CJ _ _ _) (CJ _ _ _) λi _ => ?_;unfold BL;rw [CN,Ux,Ux,CN,CN,Bool.and_or_distrib_right]
theorem Q6(h:qP:=by
 have hb1:=(((((HB0.o.set 0 (.I (min la lb))).set 1 (.I (max ma mb))).set 2 (.I cc)).set 3 (.string sp)).set 4 (.string ss))
 simpa using hb1):qP:=h
theorem LB(h:qP:=by simp [results,results80,go_sem,r0,r1,r2,r3,r4]):qP:=h
theorem YJ(a b:Sh)(h1:a.b.size<=1000000000)(h2:a.e.size<=1000000000)(h3:b.b.size<=1000000000)(h4:b.e.size<=1000000000)(w:World):Cl 80 #[(Sq a),(Sq b)] w (G0 w (BW a b)):=by
 obtain ⟨w0,hw0⟩:=eqx (((w.alloc (.cells (Sp a) 26)).alloc (.cells (Sp b) 26)).alloc (.cells #[.I 0,.I 0,.I 0,.string ⟨#[]⟩,.string ⟨#[]⟩] 26));have hx0:Ext w w0:=CC;have hb2:Blk w0 w.heap.size 26 (Sp a):=FH;have O:Blk w0 (w.heap.size+1) 26 (Sp b):=Fc;have hb4:Blk w0 (w.heap.size+2) 26 #[.I 0,.I 0,.I 0,.string ⟨#[]⟩,.string ⟨#[]⟩]:=GP;obtain ⟨g2,hg2⟩:=eqx w.heap.size;obtain ⟨g3,hg3⟩:=eqx (w.heap.size+1);obtain ⟨Y,hg4⟩:=eqx (w.heap.size+2);rw [<-hg2] at hb2;rw [<-hg3] at O;rw [<-hg4] at hb4;have HG4:=Hd (show w.heap.size<=Y by omega);obtain ⟨la,b0⟩:=eqx (AQ a);obtain ⟨lb,Z⟩:=eqx (AQ b);obtain ⟨ma,a9⟩:=eqx (BE a);obtain ⟨mb,b4⟩:=eqx (BE b);obtain ⟨cc,b3⟩:=eqx (bits .or .i64 (BL a) (BL b));obtain ⟨sp,a8⟩:=eqx (bA (ES a.B b.B));obtain ⟨ss,hss⟩:=eqx (bA (Hv a.E b.E));obtain ⟨HLA,HLB,HMA,HMB,HSP,HSS,HEA,HEB⟩:=Hd8 (show ∀ J,Cl 152 #[(Sq a)] J (DG J la) from λJ=>by rw [b0];exact WE a J) (show ∀ J,Cl 152 #[(Sq b)] J (DG J lb) from λJ=>by rw [Z];exact WE b J) (show ∀ J,Cl 153 #[(Sq a)] J (DG J ma) from λJ=>by rw [a9];exact Xw a J) (show ∀ J,Cl 153 #[(Sq b)] J (DG J mb) from λJ=>by rw [b4];exact Xw b J) (show ∀ J,Cl 154 #[.string a.b,.string b.b] J (Wo J sp) from λJ=>by rw [a8];exact Zd a.b b.b AA AA J) (show ∀ J,Cl 155 #[.string a.e,.string b.e] J (Wo J ss) from λJ=>by rw [hss];exact ArA a.e b.e AA AA J) (λJ=>Nq a h1 h2 J) (λJ=>Nq b h3 h4 J);have HJ:=Hd (show BW a b=if AT a=true then (if AT b=true then H3A else b) else if AT b=true then a else ⟨min la lb,max ma mb,cc,sp,ss⟩ from by rw [b0,Z,a9,b4,b3,a8,hss];rfl);have hor:bits .and .i64 (bits .or .i64 a.cls b.cls) 110=cc:=(by rw [b3];exact GFA a b);generalize AT a=b1 at *;generalize AT b=b2 at *;obtain ⟨HX0,HW0,HE2,HE3,HE4⟩:=Hd5 hx0 hw0 hg2 hg3 hg4;obtain ⟨q0,q1,q2,q3,q4⟩:=hb2.qs5;obtain ⟨HB2,HB3,HB4a⟩:=Hd3 hb2 O hb4;clear hx0 hw0 hb2 O hb4 hg2 hg3 hg4 b0 Z a9 b4 b3 a8 hss
 go_enter func80,ntmps80
 go_upto_region 1 with fail
 rw [<-HW0.o,show w.heap.size+1+1=Y from HE4.o.symm,<-HE3.o,<-HE2.o]
 go_wp2_with fail
 refine (HEA.o _).mono ?_;rintro e1 w1 ⟨rfl,hx1⟩;have HX1:=Hd (HX0.o.trans hx1);have O:=HB3.o.keep (hx1.kept _);obtain ⟨HB2b,HB4c,HB3b⟩:=Hd3 (HB2.o.keep (hx1.kept _)) (HB4a.o.keep (hx1.kept _)) O;obtain ⟨q0,q1,q2,q3,q4⟩:=O.qs5;clear hx1 O
 go_wp2_with fail
 refine (HEB.o _).mono ?_;rintro e2 w5 ⟨rfl,hx2⟩;have HX5:=Hd (HX1.o.trans hx2);have hb2:=HB2b.o.keep (hx2.kept _);have O:=HB3b.o.keep (hx2.kept _);have hb4:=HB4c.o.keep (hx2.kept _);obtain ⟨HB4,k0,k1,k2,k3,k4,k5,k6⟩:=Hd8 hb4 (hb2.q0) (hb2.q1) (hb2.q2) (hb2.q3) (hb2.q4) (O.q0) (O.q1);obtain ⟨k7,k8,k9⟩:=Hd3 (O.q2) (O.q3) (O.q4);clear hx2 hb2 O hb4 q0 q1 q2 q3 q4;cases b1
 ·cases b2
  case' true =>
   have m0:=k0.o;have m1:=k1.o;have m2:=k2.o;have m3:=k3.o;have m4:=k4.o;obtain ⟨r0,r1,r2,r3,r4⟩:=HB4.o.qs5;have qf:=HB4.o.frozen;have ql:=HB4.o.lt
   go_wp2_with fail
   rw [HJ.o,if_neg AC,if_pos trivial];refine bodyPost_ret (v:=(Sq a)) LB rfl ⟨rfl,?_⟩
   iterate 5 with_reducible refine Ext.set2 ?_ HG4.o _
   with_reducible exact HX5.o
  go_upto_region 9 with fail
  refine Qa (λm b=>(m=1027/\b=Y)) (lk 28 [1027]) ?_;refine Qp ?_;refine Qc (λJ=>HLA.o J) ?_;refine Qp ?_;refine Qc (λJ=>HLB.o J) ?_
  iterate 2 refine Qp ?_
  refine Qc (λJ=>HMA.o J) ?_;refine Qp ?_;refine Qc (λJ=>HMB.o J) ?_
  iterate 11 refine Qp ?_
  refine Qc (λJ=>HSP.o J) ?_
  iterate 4 refine Qp ?_
  refine Qc (λJ=>HSS.o J) ?_;refine Qp ?_;refine Qs (λ_ F J=>Blk J Y 26 #[.I (min la lb),.I (max ma mb),.I cc,.string sp,.string ss]/\F 1027=true) ?_ ?_ ?_
  ·exact FE
  ·intro V F J L hR hN hp hρ zs zg;have U:=hN.o.key (k:=1027) AB;have hb0:=HB4.o.keep (hR.o.kept0 (S:=λb=>b=Y) λb _ e m hm=>by
    rw [hm.1];exact U)
   have HB0:=Hd hb0;have HK:=Hd U;obtain ⟨q0,q1,q2,q3,q4⟩:=hb0.qs5;have qf:=hb0.frozen;have ql:=hb0.lt;clear hb0 U;refine Qr ?_;refine ⟨F.put 1027,H2A HK.o rfl rfl rfl Y78171d3d0 (λb hb hm=>((((((Only.refl Y J).set 0 (.I (min la lb))).set 1 (.I (max ma mb))).set 2 (.I cc)).set 3 (.string sp)).set 4 (.string ss)).block b λe=>hm (⟨rfl,e⟩)),LK.done AB,?_,AU⟩;exact Q6
  intro V F w9 hR hG;refine Qx ?_;obtain ⟨b5,-⟩:=hG 27 AB;have HB27N:=Hd b5;clear b5;have HXN:=Hd (show Ext w w9 from Au HX5.o (hR.buts (S:=λb=>b=Y) (λm b _ hm _=>hm.2)) (λb hb=>by
   rw [hb];exact HG4.o))
  clear hR hG;obtain ⟨s0,s1,s2,s3,s4⟩:=HB27N.o.qs5;go_wp2;rw [HJ.o,if_neg AC,if_neg AC];exact bodyPost_ret (v:=.agg #[.I (min la lb),.I (max ma mb),.I cc,.string sp,.string ss]) (by simp [results,results80,go_sem,s0,s1,s2,s3,s4]) rfl ⟨rfl,HXN.o⟩
 ·have m0:=k5.o;have m1:=k6.o;have m2:=k7.o;have m3:=k8.o;have m4:=k9.o;obtain ⟨r0,r1,r2,r3,r4⟩:=HB4.o.qs5;have qf:=HB4.o.frozen;have ql:=HB4.o.lt;cases b2
  ·go_wp2_with fail
   rw [HJ.o,if_pos trivial,if_neg AC];refine bodyPost_ret (v:=(Sq b)) LB rfl ⟨rfl,?_⟩
   iterate 5 with_reducible refine Ext.set2 ?_ HG4.o _
   with_reducible exact HX5.o
  ·go_wp2_with fail
   refine (RC _).mono ?_;rintro e3 w6 ⟨rfl,hx3⟩;have hb4:=HB4.o.keep (hx3.kept _);obtain ⟨r0,r1,r2,r3,r4⟩:=hb4.qs5;have qf:=hb4.frozen;have ql:=hb4.lt;have HX6:=Hd (HX5.o.trans hx3);clear hx3 hb4
   go_wp2_with fail
   rw [HJ.o,if_pos trivial,if_pos trivial];refine bodyPost_ret (v:=(Sq H3A)) LB rfl ⟨rfl,?_⟩
   iterate 5 with_reducible refine Ext.set2 ?_ HG4.o _
   with_reducible exact HX6.o

def J3(o:Oper):Bool:=match o.op with
 |.defer _=>false
 |_=>true
theorem NJ{ops:Array Oper}(h:ops.all J3=true){i:Nat}{o:Oper}(ho:ops[i]?=some o):∀ c,o.op≠.defer c:=by
 intro c hc;rw [Array.all_eq_true] at h;obtain ⟨hlt,he⟩:=Array.getElem?_eq_some_iff.1 ho;have h1:=h i hlt;rw [he] at h1;unfold J3 at h1;rw [hc] at h1;cases h1
section
variable {P:Program}{ops:Array Oper}{Q:Exit->Act->World->Prop}
end
section
variable {P:Program}{ops:Array Oper}{Q:Exit->Act->World->Prop}
theorem SW(h:qP:=by
 refine wpIn_region_any hm (main ops.size _ a0 w0.drew (λ_=>undef) γ0 ⟨by simp,rfl,rfl,?_,λ_ _=>rfl,hrefl _ _,?_,λj _ _=>hN j,?_⟩ ?_)
 ·exact R3
 ·exact RE
 ·intro j hj hl;simp [hj] at hl
 ·exact Uh):qP:=h
theorem Oo(h:qP:=by
 intro e w'' ⟨v,he,γ',h1,hn,h2⟩;subst he;exact next v γ' w'' h1 hn h2):qP:=h
theorem Qq(h:qP:=by
 refine ⟨λh=>(by cases h),callsIn_wide.2 (hS.mono ?_)⟩;exact Oo):qP:=h
theorem PB(h:qP:=by
 rw [if_neg hw] at hS|-;exact ⟨λ_ _=>trivial,next undef F w (hrefl _ _) (λ_ _ _ h=>h) hS⟩):qP:=h
theorem Nb{Γ:Type}{n0:Nat}{id:Nat}{a0:Act}{w0:World}(hnf:ops.all J3=true)(hm:P.follows .mixedOrders=true)(D:Nat->List Nat)(hB:R8 ops D a0.tmps.size=true)
  (R:Γ->World->Γ->World->Prop) (hrefl:∀ F w,R F w F w) (htrans:∀ F w γ' J γ'' w'',R F w γ' J->R γ' J γ'' w''->R F w γ'' w'')
  (N:Nat->Γ->Prop) (G:Nat->List Value->Γ->World->Prop) (hst:∀ i l F w γ' J,R F w γ' J->G i l F w->G i l γ' J) (γ0:Γ) (hN:∀ i,N i γ0)
  (hstep:∀ i o,ops[i]?=some o->LinStep P ops D R N G a0 γ0 w0.drew i o)
  (hfin:∀ V F w,R γ0 w0.drew F w->(∀ i,i<ops.size->G i ((D i).map V) F w)->Q .normal (Ah V ops.toList 0 a0) w) :
  (Code.region id ops true).wpIn Fence.wide n0 P Q a0 w0:=by
 obtain ⟨hsel,hnd,hlt,hacyc,hD,hguard,hlook⟩:=GH hB;have main:∀ (O:Nat) (listed:Array Bool) (a:Act) (w:World) (V:Nat->Value) (F:Γ),LinInv ops D R N G a0 γ0 w0.drew listed a w V F ->
   (List.range ops.size).countP (λi => !listed.getD i true)<=O->wpAnyIn Fence.wide n0 P .any ops Q O listed a w:=by
  intro O;have fin:∀ (listed:Array Bool) (a:Act) (w:World) (V:Nat->Value) (F:Γ),LinInv ops D R N G a0 γ0 w0.drew listed a w V F->(∀ j,j<ops.size->listed.getD j false=true)->Q .normal a w:=by
   exact MJ
  have U:∀ (listed:Array Bool),listed.size=ops.size->Region.ready .any ops listed=[]->∀ j,j<ops.size->listed.getD j false=true:=by
   exact Mc
  induction O with
  |zero =>
   exact MY
  |succ O ih =>
   intro listed a w V F I hc;refine ⟨λhr=>fin listed a w V F I (U listed I.size hr),λi hi => ?_⟩;obtain ⟨h0,o,ho,hpre⟩:=mem_ready.1 hi;have hil:i<ops.size:=(Array.getElem?_eq_some_iff.1 ho).1;have hisz:i<listed.size:=(by rw [I.size];exact hil);have hun:listed.getD i false=false:=(by rw [<-GB hisz];exact h0);have hpl:∀ j,j∈AV o->listed.getD j false=true:=by
    exact LG
   have hslot:∀ t,t∈o.looksAt ops->a.tmps.getD t undef=Fi ops o a0 V t:=by
    exact Md
   have Z:execOp a.eval o=execOp (Hm ops o a0 V) o:=by
    exact Lm
   have Y:Region.wanted o (yielded ops a.tmps)=AY o V:=by
    exact LF
   have a8:∀ j,j∈AV o->G j ((D j).map V) F w:=λj hj=>I.facts j (by have:=hacyc i o j ho hj;omega) (hpl j hj);have hS:=hstep i o ho V F w I.rel (I.open_ i hil hun) a8;have next:∀ (v:Value) (γ':Γ) (J:World),R F w γ' J->(∀ j,j≠i->j ∉ AV o->N j F->N j γ')->G i ((D i).map (F3 V i v)) γ' J->wpAnyIn Fence.wide n0 P .any ops Q O (listed.setIfInBounds i true) (a.put o.dst v) J:=by
    exact MK
   unfold wpOpIn;simp only [ho];rw [Y];by_cases hw:AY o V=true
   ·rw [if_pos hw] at hS|-;refine ⟨λ_ _=>trivial,?_⟩;rw [Oper.semAt_plain _ _ _ (NJ hnf ho),Z];generalize (execOp (Hm ops o a0 V) o).run P w=r at hS;cases r with
    |ok n J =>
     cases n<;>simp only [Bu] at hS<;>simp only [Oper.uponIn]
     case value v=>obtain ⟨γ',h1,hn,h2⟩:=hS;exact next v γ' J h1 hn h2
     case skip=>obtain ⟨γ',h1,hn,h2⟩:=hS;exact next undef γ' J h1 hn h2
     case enter f args =>
      exact Qq
    |halt x J=>simp only [Bu] at hS
   ·exact PB
 exact SW
end
theorem Ks{Γ:Type}{P:Program}{n0:Nat}{l:List Oper}{Q:Exit->Act->World->Prop}{id:Nat}{a0:Act}{w0:World}(hnf:l.toArray.all J3=true)(hm:P.follows .mixedOrders=true)(D:Nat->List Nat)(hB:R8 l.toArray D a0.tmps.size=true)
  (R:Γ->World->Γ->World->Prop) (hrefl:∀ F w,R F w F w) (htrans:∀ F w γ' J γ'' w'',R F w γ' J->R γ' J γ'' w''->R F w γ'' w'')
  (N:Nat->Γ->Prop) (γ0:Γ) (hN:∀ i,N i γ0)
  (h:Chain P l.toArray D R N a0 γ0 w0.drew (λΦs=>∀ V F w,R γ0 w0.drew F w->(∀ i,i<l.length->gOf Φs i ((D i).map V) F w)->Q .normal (Ah V l 0 a0) w) 0 [] l) :
  (Code.region id l.toArray true).wpIn Fence.wide n0 P Q a0 w0:=by
 obtain ⟨Φs,-,h2,h3,h4⟩:=Chain.full (k:=0) (done:=[]) rfl (λ_ h=>Ck) h;obtain ⟨-,-,-,hac,-⟩:=GH hB;refine Nb hnf hm D hB R hrefl htrans N (gOf Φs) (λi l F w γ' J r hg => ?_) γ0 hN (λi o hi => ?_) (λV F w hr hg=>h3 V F w hr λi hi=>hg i Bp)
 ·exact La
 ·exact Me

