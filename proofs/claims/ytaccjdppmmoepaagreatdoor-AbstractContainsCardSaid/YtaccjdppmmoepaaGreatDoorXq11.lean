/- Lemmas. No conditions. -/
import Derived.Test.YtaccjdppmmoepaaGreatDoorXq10
import Derived.Sort.Walk0
set_option maxRecDepth 100000
set_option maxHeartbeats 2000000
namespace Go.Proofs.YtaccjdppmmoepaaGreatDoor
open Go Go.RowKit Tryz
variable {qP:Prop}{P:Program}{cols:List BA}{k t:Nat}{s:BA}{w:World}

theorem WI(h:cols.Nodup)(hk:k<cols.length):Bt cols cols[k]=k:=by
 refine QN hk (λj hj hlt he => ?_) rfl;have:=(List.getElem_inj h).1 he;omega
theorem I2(h:cols.Nodup)(hk:k<cols.length):cols.getD k ⟨#[]⟩∈cols/\(Bt cols (cols.getD k ⟨#[]⟩)).toNat=k:=by
 rw [BM _ _ _ hk,WI h hk];exact ⟨List.getElem_mem hk,AC⟩

theorem Au{S:NP}{ws w9:World}(hx:Ext w ws)(hb:ButS S ws w9)(hS:∀ b,S b->w.heap.size<=b):Ext w w9 :=
 ⟨hb.os.trans hx.os,hb.tape.trans hx.tape,hb.output.trans hx.output,Nat.le_trans hx.size hb.size,λb h=>(hb.block b (Nat.lt_of_lt_of_le h hx.size) λhs=>by have:=hS b hs;omega).trans (hx.block b h)⟩
theorem H6A(w:World)(o:Obj)(t:Nat)(cs:Array Value):Blk ((w.alloc o).alloc (.cells cs t)) (w.heap.size+1) t cs:=by
 have h:=Blk.new (w.alloc o) t cs;rwa [show (w.alloc o).heap.size=w.heap.size+1 by simp] at h
theorem ICA(w:World)(o o':Obj)(t:Nat)(cs:Array Value):Blk (((w.alloc o).alloc o').alloc (.cells cs t)) (w.heap.size+2) t cs:=by
 have h:=Blk.new ((w.alloc o).alloc o') t cs;rwa [show ((w.alloc o).alloc o').heap.size=w.heap.size+2 by simp] at h
def Em(w:World)(r:Rg)(e:Ending)(J:World):Prop:=e=.returned (Rq r)/\Ext w J
theorem LY(h:qP:=by
 unfold CG;exact MS):qP:=h
theorem Sb(a b:Int):decide (CG a b > 0)=decide (b<a):=by
 exact LY
theorem XT(a b:Int):decide (CG a b<=0)=decide (a<=b):=by
 exact LY
theorem DiA(a b:Int):decide (CG a b<0)=decide (a<b):=by
 exact LY
theorem O0(w:World):Cl 200 #[] w (Em w IBA):=by
 go_enter func200,ntmps200
 go_wp2;refine bodyPost_ret (v:=(Rq IBA)) (by simp [results,results200,go_sem,IBA]) rfl ⟨rfl,?_⟩;exact (exaa w)
theorem Vg(w:World):Cl 34 #[] w (Em w Rg.full):=by
 go_enter func34,ntmps34
 go_wp2;refine bodyPost_ret (v:=(Rq Rg.full)) (by simp [results,results34,go_sem,Rg.full]) rfl ⟨rfl,?_⟩;exact (exaa w)
theorem Oj(h:qP:=by
 rintro e1 w1 ⟨rfl,hx1⟩;have HX:=Hd ((exaa w).trans hx1);clear hx1
 go_wp2_with fail
 go_ret;exact ⟨by rw [HE.o];rfl,HX.o⟩):qP:=h
theorem Ct(r:Rg)(w:World)(ht:Tens w):Cl 118 #[(Rq r)] w (Ae w (BF r)):=by
 obtain ⟨HC,HT,HE⟩:=Hd3 (λJ (h:Tens J)=>DS r.ln r.ls r.hn r.hs J h) ht (show BF r=decide (CG (mu r.ln r.ls) (mu r.hn r.hs) > 0) by rw [Sb];rfl);generalize CG (mu r.ln r.ls) (mu r.hn r.hs)=z at *;clear ht
 go_enter func118,ntmps118
 go_wp2_with fail
 refine (HC.o _ (HT.o.ext (exaa w))).mono ?_;exact Oj
theorem Lv(h:qP:=by
 go_ret;exact ⟨by rw [HF.o];rfl,HX.o⟩):qP:=h
theorem MQ(h:qP:=by
 go_wp2_with fail
 exact Lv):qP:=h
theorem UI(h:qP:=by
 have HF:=Hd (show BD r n s=false by rw [HE.o];rfl);exact MQ):qP:=h
theorem TJ(h:qP:=by
 rintro e3 w3 ⟨rfl,hx3⟩;have HX3:=Hd (HX2.o.trans hx3);clear hx3
 go_wp2_with fail
 go_ret;exact ⟨by rw [HF.o];rfl,HX3.o⟩):qP:=h
theorem Tu(h:qP:=by
 go_ret;exact ⟨by rw [HF.o];rfl,HX2.o⟩):qP:=h
theorem LS(h:qP:=by
 go_wp2_with fail
 exact Tu):qP:=h
theorem Ri(h:qP:=by
 have HF:=Hd (show BD r n s=false by rw [HE.o,decide_eq_false hz];rfl);exact LS):qP:=h
theorem M4(r:Rg)(n s:Int)(w:World)(ht:Tens w):Cl 40 #[(Rq r),.agg #[.I n,.I s]] w (Ae w (BD r n s)):=by
 obtain ⟨HC1,O,HD,HT,HE⟩:=Hd5 (λJ (h:Tens J)=>DS r.ln r.ls n s J h) (λJ (h:Tens J)=>DS n s r.hn r.hs J h) (λJ=>Ff n s J) ht (show BD r n s=(Dz n s&&decide (CG (mu r.ln r.ls) (mu n s)<=0)&&decide (CG (mu n s) (mu r.hn r.hs)<=0)) by rw [XT,XT];rfl);generalize CG (mu r.ln r.ls) (mu n s)=z at *;generalize CG (mu n s) (mu r.hn r.hs)=y at *;generalize Dz n s=b at *;clear ht
 go_enter func40,ntmps40
 go_wp2_with fail
 refine (HD.o _).mono ?_;rintro e1 w1 ⟨rfl,hx1⟩;have HX:=Hd ((exbb w).trans hx1);have hb1:=(Blk.new w 30 (Rp r)).keep (((exaa _).trans hx1).kept _);have hb2:=(H6A w (.cells (Rp r) 30) 28 #[.I n,.I s]).keep (hx1.kept _);obtain ⟨q0,q1,q2,q3⟩:=hb1.qs4;obtain ⟨q4,q5⟩:=hb2.qs2;have HT1:=Hd (HT.o.ext HX.o);clear hx1 hb1 hb2;cases b
 ·exact UI
 go_wp2_with fail
 refine (HC1.o _ HT1.o).mono ?_;rintro e2 w2 ⟨rfl,hx2⟩;have HX2:=Hd (HX.o.trans hx2);have HT2:=Hd (HT1.o.ext hx2);have q0:=hx2.cell q0;have q1:=hx2.cell q1;have q2:=hx2.cell q2;have q3:=hx2.cell q3;have q4:=hx2.cell q4;have q5:=hx2.cell q5;clear hx2;by_cases hz:z<=0
 ·have HF:=Hd (show BD r n s=decide (y<=0) by rw [HE.o,decide_eq_true hz];rfl)
  go_wp2_with fail
  refine (O.o _ HT2.o).mono ?_;exact TJ
 ·exact Ri
def Fu(w:World)(p:Int × Int)(e:Ending)(J:World):Prop:=e=.returned (.agg #[.I p.1,.I p.2])/\Ext w J
theorem Jr(n s:Int)(w:World):Cl 201 #[.agg #[.I n,.I s]] w (Fu w (Bg n s)):=by
 have HD:=Hd (λJ=>Ff n s J);obtain ⟨w0,hw0⟩:=eqx ((w.alloc (.cells #[.I n,.I s] 28)).alloc (.cells #[.I 0,.I 0] 28));cases hd:Dz n s
 all_goals
  have HV:=Hd (show Bg n s=if Dz n s=true then (n,s) else (0,0) from rfl);rw [hd] at HD HV;clear hd hw0
  go_enter func201,ntmps201
  go_wp2_with fail
  refine (HD.o _).mono ?_;rintro e1 w1 ⟨rfl,hx1⟩;have hb1:=(Blk.new w 28 #[.I n,.I s]).keep (((exaa _).trans hx1).kept _);have hb2:=(H6A w (.cells #[.I n,.I s] 28) 28 #[.I 0,.I 0]).keep (hx1.kept _);obtain ⟨q0,q1⟩:=hb1.qs2;obtain ⟨q2,q3⟩:=hb2.qs2;have qf:=hb2.frozen;have ql:=hb2.lt;have HX:=Hd ((exbb w).trans hx1);clear hx1 hb1 hb2
  go_wp2_with fail
  rw [HV.o]
 ·refine bodyPost_ret (v:=.agg #[.I 0,.I 0]) (by simp [results,results201,go_sem,q2,q3]) rfl ⟨rfl,?_⟩;exact BT
 ·refine bodyPost_ret (v:=.agg #[.I n,.I s]) (by simp [results,results201,go_sem,q2,q3]) rfl ⟨rfl,?_⟩;exact BT
theorem IQ(h:qP:=by have:=HD.o;omega):qP:=h
theorem JT(n s n' s':Int)(w:World)(ht:Tens w):Cl 141 #[.agg #[.I n,.I s],.agg #[.I n',.I s']] w (Fu w (CU n s n' s')):=by
 obtain ⟨HC,HT,HE⟩:=Hd3 (λJ (h:Tens J)=>DS n' s' n s J h) (ht.ext ((((Ext.refl w).alloc (.cells #[.I n,.I s] 28)).alloc (.cells #[.I n',.I s'] 28)).alloc (.cells #[.I 0,.I 0] 28))) (show CU n s n' s'=if decide (CG (mu n' s') (mu n s)<0)=true then (n',s') else (n,s) by rw [DiA];simp only [decide_eq_true_eq];rfl);generalize CG (mu n' s') (mu n s)=z at *;clear ht;by_cases hz:z<0
 all_goals
  have HD:=Hd hz
  go_enter func141,ntmps141
  go_wp2_with fail
  refine (HC.o _ HT.o).mono ?_;rintro e1 w1 ⟨rfl,hx1⟩;have hb1:=(Blk.new w 28 #[.I n,.I s]).keep (((exbb _).trans hx1).kept _);have hb2:=(H6A w (.cells #[.I n,.I s] 28) 28 #[.I n',.I s']).keep (((exaa _).trans hx1).kept _);have O:=(ICA w (.cells #[.I n,.I s] 28) (.cells #[.I n',.I s'] 28) 28 #[.I 0,.I 0]).keep (hx1.kept _);obtain ⟨q0,q1⟩:=hb1.qs2;obtain ⟨q2,q3⟩:=hb2.qs2;obtain ⟨q4,q5⟩:=O.qs2;have qf:=O.frozen;have ql:=O.lt;have HX:=Hd ((excc w).trans hx1);clear hx1 hb1 hb2 O
  go_wp2_with fail
  rw [HE.o]
 ·rw [decide_eq_true IQ,if_pos rfl];refine bodyPost_ret (v:=.agg #[.I n',.I s']) (by simp [results,results141,go_sem,q4,q5]) rfl ⟨rfl,?_⟩;exact BT
 ·rw [decide_eq_false IQ,if_neg AC];refine bodyPost_ret (v:=.agg #[.I n,.I s]) (by simp [results,results141,go_sem,q4,q5]) rfl ⟨rfl,?_⟩;exact BT
theorem Hy(n s n' s':Int)(w:World)(ht:Tens w):Cl 142 #[.agg #[.I n,.I s],.agg #[.I n',.I s']] w (Fu w (Bm n s n' s')):=by
 obtain ⟨HC,HT,HE⟩:=Hd3 (λJ (h:Tens J)=>DS n' s' n s J h) (ht.ext ((((Ext.refl w).alloc (.cells #[.I n,.I s] 28)).alloc (.cells #[.I n',.I s'] 28)).alloc (.cells #[.I 0,.I 0] 28))) (show Bm n s n' s'=if decide (CG (mu n' s') (mu n s) > 0)=true then (n',s') else (n,s) by rw [Sb];simp only [decide_eq_true_eq];rfl);generalize CG (mu n' s') (mu n s)=z at *;clear ht;by_cases hz:z > 0
 all_goals
  have HD:=Hd hz
  go_enter func142,ntmps142
  go_wp2_with fail
  refine (HC.o _ HT.o).mono ?_;rintro e1 w1 ⟨rfl,hx1⟩;have hb1:=(Blk.new w 28 #[.I n,.I s]).keep (((exbb _).trans hx1).kept _);have hb2:=(H6A w (.cells #[.I n,.I s] 28) 28 #[.I n',.I s']).keep (((exaa _).trans hx1).kept _);have O:=(ICA w (.cells #[.I n,.I s] 28) (.cells #[.I n',.I s'] 28) 28 #[.I 0,.I 0]).keep (hx1.kept _);obtain ⟨q0,q1⟩:=hb1.qs2;obtain ⟨q2,q3⟩:=hb2.qs2;obtain ⟨q4,q5⟩:=O.qs2;have qf:=O.frozen;have ql:=O.lt;have HX:=Hd ((excc w).trans hx1);clear hx1 hb1 hb2 O
  go_wp2_with fail
  rw [HE.o]
 ·rw [decide_eq_true IQ,if_pos rfl];refine bodyPost_ret (v:=.agg #[.I n',.I s']) (by simp [results,results142,go_sem,q4,q5]) rfl ⟨rfl,?_⟩;exact BT
 ·rw [decide_eq_false IQ,if_neg AC];refine bodyPost_ret (v:=.agg #[.I n,.I s]) (by simp [results,results142,go_sem,q4,q5]) rfl ⟨rfl,?_⟩;exact BT
theorem FE(h:qP:=by
 rintro l F w1 γ' w2 rr ⟨h1,h2⟩;refine ⟨h1.keep (rr.keptS λb _ e m hm => ?_),rr.done _ h2⟩;rw [hm.1,h2,rr.done _ h2]):qP:=h
theorem Kv(h:qP:=by
 have hb1:=((((HB0.o.set 0 (.I u1)).set 1 (.I u2)).set 2 (.I v1)).set 3 (.I v2))
 simpa using hb1):qP:=h
theorem AU(h:qP:=by simp [Gz.put]):qP:=h
theorem DE(r:Rg)(w:World)(ht:Tens w):Cl 140 #[(Rq r)] w (Em w (CI r)):=by
 obtain ⟨w0,hw0⟩:=eqx ((w.alloc (.cells (Rp r) 30)).alloc (.cells #[.I 0,.I 0,.I 0,.I 0] 30));have hx0:Ext w w0:=Bh;have hb1:Blk w0 w.heap.size 30 (Rp r):=(by rw [hw0];exact (Blk.new _ _ _).keep ((exaa _).kept _));have hb2:Blk w0 (w.heap.size+1) 30 #[.I 0,.I 0,.I 0,.I 0]:=(by rw [hw0];exact H6A _ _ _ _);obtain ⟨HT0,HE,HN⟩:=Hd3 (ht.ext hx0) (λJ (h:Tens J)=>Ct r J h) (show CI r=if BF r=true then IBA else ⟨(Bg r.ln r.ls).1,(Bg r.ln r.ls).2,(Bg r.hn r.hs).1,(Bg r.hn r.hs).2⟩ from rfl);obtain ⟨⟨u1,u2⟩,hu⟩:=eqx (Bg r.ln r.ls);obtain ⟨⟨v1,v2⟩,hv⟩:=eqx (Bg r.hn r.hs);have HR1:=Hd (show ∀ J,Cl 201 #[.agg #[.I r.ln,.I r.ls]] J (Fu J (u1,u2)) from λJ=>by rw [hu];exact Jr _ _ J);have HR2:=Hd (show ∀ J,Cl 201 #[.agg #[.I r.hn,.I r.hs]] J (Fu J (v1,v2)) from λJ=>by rw [hv];exact Jr _ _ J);rw [<-hu,<-hv] at HN;obtain ⟨HX0,Z,HB1,U⟩:=Hd4 hx0 hw0 hb1 hb2;obtain ⟨g2,hg2⟩:=eqx (w.heap.size+1);obtain ⟨q0,q1,q2,q3⟩:=hb1.qs4;generalize BF r=b at *;have HGG:=Hd hg2;clear ht hx0 hw0 hb1 hb2 hu hv hg2
 go_enter func140,ntmps140
 go_wp2_with fail
 rw [<-Z.o,<-HGG.o];refine (HE.o _ HT0.o).mono ?_;rintro e1 w1 ⟨rfl,hx1⟩;have HX1:=Hd (HX0.o.trans hx1);have hb2:=U.o.keep (hx1.kept _);rw [<-HGG.o] at hb2;obtain ⟨HB2,k0,k1,k2,k3,HG2⟩:=Hd6 hb2 (hx1.cell q0) (hx1.cell q1) (hx1.cell q2) (hx1.cell q3) (show w.heap.size<=g2 by rw [HGG.o];omega);clear hx1 hb2 q0 q1 q2 q3 HB1 U Z;cases b
 ·go_upto_region 3 with fail
  refine Qa (λm b=>(m=1007/\b=g2)) (lk 8 [1007]) ?_
  iterate 2 refine Qp ?_
  refine Qc (x:=.agg #[.I u1,.I u2]) (λJ=>HR1.o J) ?_
  iterate 2 refine Qp ?_
  refine Qc (x:=.agg #[.I v1,.I v2]) (λJ=>HR2.o J) ?_;refine Qp ?_;refine Qs (λ_ F J=>Blk J g2 30 #[.I u1,.I u2,.I v1,.I v2]/\F 1007=true) ?_ ?_ ?_
  ·exact FE
  ·intro V F J L hR hN hp hρ zs zg;have O:=hN.o.key (k:=1007) AB;have hb0:=HB2.o.keep (hR.o.kept0 (S:=λb=>b=g2) λb _ e m hm=>by
    rw [hm.1];exact O)
   have HB0:=Hd hb0;have HK:=Hd O;obtain ⟨q0,q1,q2,q3⟩:=hb0.qs4;have qf:=hb0.frozen;have ql:=hb0.lt;clear hb0 O;refine Qr ?_;refine ⟨F.put 1007,H2A HK.o rfl rfl rfl Y78171d3d0 (λb hb hm=>(((((Only.refl g2 J).set 0 (.I u1)).set 1 (.I u2)).set 2 (.I v1)).set 3 (.I v2)).block b λe=>hm (⟨rfl,e⟩)),LK.done AB,?_,AU⟩;exact Kv
  intro V F w9 hR hG;refine Qx ?_;obtain ⟨Y,-⟩:=hG 7 AB;have a8:=Hd Y;clear Y;have HXN:=Hd (show Ext w w9 from Au HX1.o (hR.buts (S:=λb=>b=g2) (λm b _ hm _=>hm.2)) (λb hb=>by
   rw [hb];exact HG2.o))
  clear hR hG;obtain ⟨r0,r1,r2,r3⟩:=a8.o.qs4;go_wp2;rw [HN.o,if_neg AC];exact bodyPost_ret (v:=.agg #[.I u1,.I u2,.I v1,.I v2]) (by simp [results,results140,go_sem,r0,r1,r2,r3]) rfl ⟨rfl,HXN.o⟩
 ·go_wp2_with fail
  refine (O0 _).mono ?_;rintro e2 w2 ⟨rfl,hx2⟩;have HX2:=Hd (HX1.o.trans hx2);have hb2:=HB2.o.keep (hx2.kept _);obtain ⟨r0,r1,r2,r3⟩:=hb2.qs4;have qf:=hb2.frozen;have ql:=hb2.lt;clear hx2 hb2
  go_wp2_with fail
  rw [HN.o,if_pos trivial];refine bodyPost_ret (v:=(Rq IBA)) (by simp [results,results140,go_sem,r0,r1,r2,r3]) rfl ⟨rfl,?_⟩
  iterate 4 with_reducible refine Ext.set2 ?_ HG2.o _
  with_reducible exact HX2.o
theorem RK(h:qP:=by
 rcases hm with ⟨rfl,_⟩|⟨rfl,_⟩
 ·exact hk1004
 ·exact hk1005):qP:=h
theorem DP(h:qP:=by
 exact ⟨_,he,F,H4A _ F hx,λ_ _ _ h=>h,rfl⟩):qP:=h
theorem DR(h:qP:=by
 rintro e1 w3 ⟨he,hx⟩;exact DP):qP:=h
theorem U9(h:qP:=by
 intro V F J L hR hN hp hρ zs zg;have hk1004:=hN.o.key (k:=1004) (by decide);have hk1005:=hN.o.key (k:=1005) (by decide);have hxx:=hR.o.ext0 (λm b _ hm=>by
  exact RK)
 have HXW:=Hd hxx;clear hxx hk1004 hk1005;have HR:=hR;refine Qr ?_;refine (HN1.o J (HT0.o.ext HXW.o)).mono ?_;exact DR):qP:=h
theorem Mg(h:qP:=by
 exact absurd (e.symm.trans e2) HNE2.o):qP:=h
theorem ZB(h:qP:=by
 rcases hm with ⟨rfl,e2⟩|⟨rfl,e2⟩
 ·exact Mg
 ·exact hkx):qP:=h
theorem TY(h:qP:=by
 have hkx:=hN.o.key (k:=1005) (by decide);have hbx:=HB3.o.keep (hR.o.kept0 (S:=λb=>b=g3) λb _ e m hm=>by
  exact ZB)
 obtain ⟨x0,x1,x2,x3⟩:=hbx.qs4;clear hkx hbx;exact Qk):qP:=h
theorem Sa(h:qP:=by
 intro V F J L hR hN hp hρ zs zg;have hk1004:=hN.o.key (k:=1004) (by decide);have hk1005:=hN.o.key (k:=1005) (by decide);have hxx:=hR.o.ext0 (λm b _ hm=>by
  exact RK)
 have HXW:=Hd hxx;clear hxx hk1004 hk1005;have HR:=hR;refine Qr ?_;refine (HN2.o J (HT0.o.ext HXW.o)).mono ?_;exact DR):qP:=h
theorem Te(h:qP:=by
 exact absurd (e.symm.trans e2) HNE.o):qP:=h
theorem PK(h:qP:=by
 rintro l F w1 γ' w2 rr ⟨h1,h2⟩;refine ⟨h1.keep (rr.keptS λb _ e m hm => ?_),rr.done _ h2⟩
 rcases hm with ⟨rfl,e2⟩|⟨rfl,e2⟩
 ·rw [h2,rr.done _ h2]
 ·exact Te):qP:=h
theorem Zx(h:qP:=by
 rcases hm with ⟨rfl,e2⟩|⟨rfl,e2⟩
 ·exact hk1004
 ·exact Te):qP:=h
theorem Tb(h:qP:=by
 intro V F J L hR hN hp hρ zs zg;have e2:=hρ.o 2;(conv at e2=>rhs;whnf);have hk1004:=hN.o.key (k:=1004) (by decide);have hk1005:=hN.o.key (k:=1005) (by decide);have hb0:=HB2.o.keep (hR.o.kept0 (S:=λb=>b=g2) λb _ e m hm=>by
  exact Zx)
 have HB0:=Hd hb0;have HK:=Hd hk1004;obtain ⟨q0,q1,q2,q3⟩:=hb0.qs4;have qf:=hb0.frozen;have ql:=hb0.lt;clear hb0 hk1004 hk1005;refine Qr ?_;refine ⟨F.put 1004,H2A HK.o rfl rfl rfl (by simp [World.setCell]) (λb hb hm=>(((((Only.refl g2 J).set 0 (.I x.ln)).set 1 (.I x.ls)).set 2 (.I x.hn)).set 3 (.I x.hs)).block b λe=>hm (.inl ⟨rfl,e⟩)),LK.done (by decide),?_,by simp [Gz.put]⟩;have hb1:=((((HB0.o.set 0 (.I x.ln)).set 1 (.I x.ls)).set 2 (.I x.hn)).set 3 (.I x.hs))
 simpa using hb1):qP:=h
theorem R1(h:qP:=by
 rintro l F w1 γ' w2 rr ⟨h1,h2⟩;refine ⟨h1.keep (rr.keptS λb _ e m hm => ?_),rr.done _ h2⟩
 rcases hm with ⟨rfl,e2⟩|⟨rfl,e2⟩
 ·exact Mg
 ·rw [h2,rr.done _ h2]):qP:=h
theorem ALA(h:qP:=by
 rcases hm with ⟨rfl,e2⟩|⟨rfl,e2⟩
 ·exact Mg
 ·exact hk1005):qP:=h
theorem Ua(h:qP:=by
 intro V F J L hR hN hp hρ zs zg;have hk1005:=hN.o.key (k:=1005) (by decide);have hb0:=HB3.o.keep (hR.o.kept0 (S:=λb=>b=g3) λb _ e m hm=>by
  exact ALA)
 have HB0:=Hd hb0;have HK:=Hd hk1005;obtain ⟨q0,q1,q2,q3⟩:=hb0.qs4;have qf:=hb0.frozen;have ql:=hb0.lt;clear hb0 hk1005;refine Qr ?_;refine ⟨F.put 1005,H2A HK.o rfl rfl rfl (by simp [World.setCell]) (λb hb hm=>(((((Only.refl g3 J).set 0 (.I y.ln)).set 1 (.I y.ls)).set 2 (.I y.hn)).set 3 (.I y.hs)).block b λe=>hm (.inr ⟨rfl,e⟩)),LK.done (by decide),?_,by simp [Gz.put]⟩;have hb1:=((((HB0.o.set 0 (.I y.ln)).set 1 (.I y.ls)).set 2 (.I y.hn)).set 3 (.I y.hs))
 simpa using hb1):qP:=h
theorem RA(h:qP:=by
 rcases hm with ⟨rfl,e2⟩|⟨rfl,e2⟩
 ·exact absurd (e.symm.trans e2) HN42.o
 ·exact absurd (e.symm.trans e2) HN43.o):qP:=h
theorem O5(h:qP:=by
 rcases hb with hb|hb
 ·rw [hb];exact HG2.o
 ·rw [hb];exact HG3.o):qP:=h
theorem Sj(h:qP:=by
 have HR:=hR;refine Qr ?_;refine (HLS.o J (HT5.o.ext HXW.o)).mono ?_;exact DR):qP:=h
theorem VR(h:qP:=by
 have HR:=hR;refine Qr ?_;refine (HGR.o J (HT5.o.ext HXW.o)).mono ?_;exact DR):qP:=h
theorem FH(h:qP:=by rw [hw0];exact (Blk.new _ _ _).keep ((exbb _).kept _)):qP:=h
theorem Fc(h:qP:=by rw [hw0];exact (H6A _ _ _ _).keep ((exaa _).kept _)):qP:=h
theorem GP(h:qP:=by rw [hw0];exact ICA _ _ _ _ _):qP:=h
theorem KG(a b:Rg)(w:World)(ht:Tens w):Cl 68 #[(Rq a),(Rq b)] w (Em w (Cc a b)):=by
 obtain ⟨w0,hw0⟩:=eqx (((w.alloc (.cells (Rp a) 30)).alloc (.cells (Rp b) 30)).alloc (.cells #[.I 0,.I 0,.I 0,.I 0] 30));have hx0:Ext w w0:=CC;have hb2:Blk w0 w.heap.size 30 (Rp a):=FH;have U:Blk w0 (w.heap.size+1) 30 (Rp b):=Fc;have hb4:Blk w0 (w.heap.size+2) 30 #[.I 0,.I 0,.I 0,.I 0]:=GP;obtain ⟨g2,hg2⟩:=eqx w.heap.size;obtain ⟨g3,hg3⟩:=eqx (w.heap.size+1);obtain ⟨Y,hg4⟩:=eqx (w.heap.size+2);rw [<-hg2] at hb2;rw [<-hg3] at U;rw [<-hg4] at hb4;obtain ⟨HNE,HNE2,HN42,HN43,HN24,HN34,HG2,HG3⟩:=Hd8 (show g2≠g3 by omega) (show g3≠g2 by omega) (show Y≠g2 by omega) (show Y≠g3 by omega) (show g2≠Y by omega) (show g3≠Y by omega) (show w.heap.size<=g2 by omega) (show w.heap.size<=g3 by omega);obtain ⟨HG4,k0,k1,k2,k3,k4,k5,k6⟩:=Hd8 (show w.heap.size<=Y by omega) (hb2.q0) (hb2.q1) (hb2.q2) (hb2.q3) (U.q0) (U.q1) (U.q2);obtain ⟨k7,HT0,HTW⟩:=Hd3 (U.q3) (ht.ext hx0) ht;obtain ⟨x,hx⟩:=eqx (CI a);obtain ⟨y,hy⟩:=eqx (CI b);obtain ⟨HN1,HN2,HE1,HEY⟩:=Hd4 (show ∀ J,Tens J->Cl 140 #[(Rq a)] J (Em J x) from λJ h=>by rw [hx];exact DE a J h) (show ∀ J,Tens J->Cl 140 #[(Rq b)] J (Em J y) from λJ h=>by rw [hy];exact DE b J h) (λJ (h:Tens J)=>Ct x J h) (λJ (h:Tens J)=>Ct y J h);obtain ⟨⟨u1,u2⟩,hu⟩:=eqx (CU x.ln x.ls y.ln y.ls);obtain ⟨⟨v1,v2⟩,hv⟩:=eqx (Bm x.hn x.hs y.hn y.hs);have HLS:=Hd (show ∀ J,Tens J->Cl 141 #[.agg #[.I x.ln,.I x.ls],.agg #[.I y.ln,.I y.ls]] J (Fu J (u1,u2)) from λJ h=>by rw [hu];exact JT _ _ _ _ J h);have HGR:=Hd (show ∀ J,Tens J->Cl 142 #[.agg #[.I x.hn,.I x.hs],.agg #[.I y.hn,.I y.hs]] J (Fu J (v1,v2)) from λJ h=>by rw [hv];exact Hy _ _ _ _ J h);have HJ:=Hd (show Cc a b=if BF x=true then y else if BF y=true then x else ⟨u1,u2,v1,v2⟩ from by
  have h1:u1=(CU x.ln x.ls y.ln y.ls).1:=congrArg Prod.fst hu;have h2:u2=(CU x.ln x.ls y.ln y.ls).2:=congrArg Prod.snd hu;have h3:v1=(Bm x.hn x.hs y.hn y.hs).1:=congrArg Prod.fst hv;have h4:v2=(Bm x.hn x.hs y.hn y.hs).2:=congrArg Prod.snd hv;rw [h1,h2,h3,h4,hx,hy];rfl)
 generalize BF x=b1 at *;generalize BF y=b2 at *;clear hu hv;obtain ⟨HX0,HB2,HB3,HB4,b5,HE2,HE3,HE4⟩:=Hd8 hx0 hb2 U hb4 hw0 hg2 hg3 hg4;clear ht hx0 hw0 hb2 U hb4 hg2 hg3 hg4 hx hy
 go_enter func68,ntmps68
 go_upto_region 1 with fail
 rw [<-b5.o,show w.heap.size+1+1=Y from HE4.o.symm,<-HE3.o,<-HE2.o];refine Qa (λm b=>(m=1004/\b=g2)\/(m=1005/\b=g3)) [(0,[1004,1005]),(1,[1004,1005]),(2,[1005]),(3,[1004,1005]),(4,[1004,1005]),(5,[1005])] ?_;refine Qp ?_;refine Qg (Rq x) ?_ ?_
 ·exact U9
 refine Qm (λV F J L hR hN hp hρ zs zg=>by
  exact TY) ?_
 refine Qg (Rq y) ?_ ?_
 ·exact Sa
 refine Qs (λ_ F J=>Blk J g2 30 (Rp x)/\F 1004=true) ?_ ?_ ?_
 ·exact PK
 ·exact Tb
 refine Qs (λ_ F J=>Blk J g3 30 (Rp y)/\F 1005=true) ?_ ?_ ?_
 ·exact R1
 ·exact Ua
 intro V F w9 hR hG;refine Qx ?_;obtain ⟨hb4,-⟩:=hG 4 AB;have Z:=Hd hb4;clear hb4;obtain ⟨b8,-⟩:=hG 5 AB;have b3:=Hd b8;clear b8;have d3:=HB4.o.keep (hR.kept0 (S:=λb=>b=Y) λb _ e m hm=>by
  exact RA)
 have b0:=Hd d3;clear d3;have HXN:=Hd (show Ext w w9 from Au HX0.o (hR.buts (S:=λb=>b=g2\/b=g3) (λm b _ hm _=>hm.imp And.right And.right)) (λb hb=>by
  exact O5))
 clear hR hG;obtain ⟨w1,hw1⟩:=eqx w9;rw [<-hw1] at HXN Z b3 b0|-;clear hw1 b5 HB2 HB3 HB4 k0 k1 k2 k3 k4 k5 k6 k7;have HT1:=Hd (HTW.o.ext HXN.o);obtain ⟨m0,m1,m2,m3⟩:=Z.o.qs4
 go_wp2_with fail
 refine (HE1.o _ HT1.o).mono ?_;rintro e2 w2 ⟨rfl,hx2⟩;have HX2:=Hd (HXN.o.trans hx2);have U:=b3.o.keep (hx2.kept _);have hb2:=Z.o.keep (hx2.kept _);have hb4:=b0.o.keep (hx2.kept _);obtain ⟨b6,b7,d4⟩:=Hd3 hb2 U hb4;obtain ⟨m4,m5,m6,m7⟩:=U.qs4;obtain ⟨r0,r1,r2,r3⟩:=hb4.qs4;have qf:=hb4.frozen;have ql:=hb4.lt;have HT2:=Hd (HT1.o.ext hx2);clear hx2 hb2 U hb4 m0 m1 m2 m3;cases b1
 ·go_wp2_with fail
  refine (HEY.o _ HT2.o).mono ?_;rintro e3 w3 ⟨rfl,hx3⟩;have HX5:=Hd (HX2.o.trans hx3);have U:=b7.o.keep (hx3.kept _);have hb2:=b6.o.keep (hx3.kept _);have hb4:=d4.o.keep (hx3.kept _);obtain ⟨HT5,a8,j0,j1,j2,j3,j4,j5⟩:=Hd8 (HT2.o.ext hx3) hb4 (hb2.q0) (hb2.q1) (hb2.q2) (hb2.q3) (U.q0) (U.q1);have j6:=Hd (U.q2);have j7:=Hd (U.q3);have qf:=hb4.frozen;have ql:=hb4.lt;clear hx3 hb2 U hb4 m4 m5 m6 m7 r0 r1 r2 r3 b6 b7 d4;obtain ⟨w5,b9⟩:=eqx w3;rw [<-b9] at HX5 HT5 a8 j0 j1 j2 j3 j4 j5 j6 j7 qf ql|-;clear b9;cases b2
  ·go_upto_region 6 with fail
   refine Qa (λm b=>(m=1011/\b=Y)) (lk 12 [1011]) ?_
   iterate 4 refine Qp ?_
   refine Qg (.agg #[.I u1,.I u2]) ?_ ?_
   ·intro V F J L hR hN hp hρ zs zg;have O:=hN.o.key (k:=1011) AB;have hxx:=hR.o.ext0 (λm b _ hm=>by
     rcases hm with ⟨rfl,_⟩
     ·exact O)
    have HXW:=Hd hxx;clear hxx O;exact Sj
   iterate 4 refine Qp ?_
   refine Qg (.agg #[.I v1,.I v2]) ?_ ?_
   ·intro V F J L hR hN hp hρ zs zg;have O:=hN.o.key (k:=1011) AB;have hxx:=hR.o.ext0 (λm b _ hm=>by
     rcases hm with ⟨rfl,_⟩
     ·exact O)
    have HXW:=Hd hxx;clear hxx O;exact VR
   refine Qp ?_;refine Qs (λ_ F J=>Blk J Y 30 #[.I u1,.I u2,.I v1,.I v2]/\F 1011=true) ?_ ?_ ?_
   ·exact FE
   ·intro V F J L hR hN hp hρ zs zg;have O:=hN.o.key (k:=1011) AB;have hb0:=a8.o.keep (hR.o.kept0 (S:=λb=>b=Y) λb _ e m hm=>by
     rw [hm.1];exact O)
    have HB0:=Hd hb0;have HK:=Hd O;obtain ⟨q0,q1,q2,q3⟩:=hb0.qs4;have qf:=hb0.frozen;have ql:=hb0.lt;clear hb0 O;refine Qr ?_;refine ⟨F.put 1011,H2A HK.o rfl rfl rfl Y78171d3d0 (λb hb hm=>(((((Only.refl Y J).set 0 (.I u1)).set 1 (.I u2)).set 2 (.I v1)).set 3 (.I v2)).block b λe=>hm (⟨rfl,e⟩)),LK.done AB,?_,AU⟩;exact Kv
   intro V F w9 hR hG;refine Qx ?_;obtain ⟨a9,-⟩:=hG 11 AB;have b4:=Hd a9;clear a9;have HXN:=Hd (show Ext w w9 from Au HX5.o (hR.buts (S:=λb=>b=Y) (λm b _ hm _=>hm.2)) (λb hb=>by
    rw [hb];exact HG4.o))
   clear hR hG;obtain ⟨s0,s1,s2,s3⟩:=b4.o.qs4;go_wp2;rw [HJ.o,if_neg AC,if_neg AC];exact bodyPost_ret (v:=.agg #[.I u1,.I u2,.I v1,.I v2]) (by simp [results,results68,go_sem,s0,s1,s2,s3]) rfl ⟨rfl,HXN.o⟩
  ·have j0:=j0.o;have j1:=j1.o;have j2:=j2.o;have j3:=j3.o;obtain ⟨r0,r1,r2,r3⟩:=a8.o.qs4;go_wp2;rw [HJ.o,if_neg AC,if_pos trivial];refine bodyPost_ret (v:=(Rq x)) (by simp [results,results68,go_sem,r0,r1,r2,r3]) rfl ⟨rfl,?_⟩
   iterate 4 with_reducible refine Ext.set2 ?_ HG4.o _
   with_reducible exact HX5.o
 ·go_wp2;rw [HJ.o,if_pos trivial];refine bodyPost_ret (v:=(Rq y)) (by simp [results,results68,go_sem,r0,r1,r2,r3]) rfl ⟨rfl,?_⟩
  iterate 4 with_reducible refine Ext.set2 ?_ HG4.o _
  with_reducible exact HX2.o

theorem MA(h:qP:=by
 rcases hm with ⟨rfl,_⟩
 ·exact hk1012):qP:=h
theorem Ve(a b:Rg)(w:World)(ht:Tens w):Cl 73 #[(Rq a),(Rq b)] w (Em w (NB a b)):=by
 obtain ⟨w0,hw0⟩:=eqx (((w.alloc (.cells (Rp a) 30)).alloc (.cells (Rp b) 30)).alloc (.cells #[.I 0,.I 0,.I 0,.I 0] 30));have hx0:Ext w w0:=CC;have hb2:Blk w0 w.heap.size 30 (Rp a):=FH;have Z:Blk w0 (w.heap.size+1) 30 (Rp b):=Fc;have hb4:Blk w0 (w.heap.size+2) 30 #[.I 0,.I 0,.I 0,.I 0]:=GP;obtain ⟨g2,hg2⟩:=eqx w.heap.size;obtain ⟨g3,hg3⟩:=eqx (w.heap.size+1);obtain ⟨Y,hg4⟩:=eqx (w.heap.size+2);rw [<-hg2] at hb2;rw [<-hg3] at Z;rw [<-hg4] at hb4;obtain ⟨HNE,HNE2,HN42,HN43,HN24,HN34,HG2,HG3⟩:=Hd8 (show g2≠g3 by omega) (show g3≠g2 by omega) (show Y≠g2 by omega) (show Y≠g3 by omega) (show g2≠Y by omega) (show g3≠Y by omega) (show w.heap.size<=g2 by omega) (show w.heap.size<=g3 by omega);obtain ⟨HG4,k0,k1,k2,k3,k4,k5,k6⟩:=Hd8 (show w.heap.size<=Y by omega) (hb2.q0) (hb2.q1) (hb2.q2) (hb2.q3) (Z.q0) (Z.q1) (Z.q2);obtain ⟨k7,HT0,b9⟩:=Hd3 (Z.q3) (ht.ext hx0) ht;obtain ⟨x,hx⟩:=eqx (CI a);obtain ⟨y,hy⟩:=eqx (CI b);have HN1:=Hd (show ∀ J,Tens J->Cl 140 #[(Rq a)] J (Em J x) from λJ h=>by rw [hx];exact DE a J h);have HN2:=Hd (show ∀ J,Tens J->Cl 140 #[(Rq b)] J (Em J y) from λJ h=>by rw [hy];exact DE b J h);obtain ⟨⟨u1,u2⟩,hu⟩:=eqx (Bm x.ln x.ls y.ln y.ls);obtain ⟨⟨v1,v2⟩,hv⟩:=eqx (CU x.hn x.hs y.hn y.hs);have HGR:=Hd (show ∀ J,Tens J->Cl 142 #[.agg #[.I x.ln,.I x.ls],.agg #[.I y.ln,.I y.ls]] J (Fu J (u1,u2)) from λJ h=>by rw [hu];exact Hy _ _ _ _ J h);have HLS:=Hd (show ∀ J,Tens J->Cl 141 #[.agg #[.I x.hn,.I x.hs],.agg #[.I y.hn,.I y.hs]] J (Fu J (v1,v2)) from λJ h=>by rw [hv];exact JT _ _ _ _ J h);obtain ⟨z,hz⟩:=eqx (CI ⟨u1,u2,v1,v2⟩);have d4:=Hd (show ∀ J,Tens J->Cl 140 #[.agg #[.I u1,.I u2,.I v1,.I v2]] J (Em J z) from λJ h=>by rw [hz];exact DE ⟨u1,u2,v1,v2⟩ J h);have HJ:=Hd (show NB a b=z from by
  have h1:u1=(Bm x.ln x.ls y.ln y.ls).1:=congrArg Prod.fst hu;have h2:u2=(Bm x.ln x.ls y.ln y.ls).2:=congrArg Prod.snd hu;have h3:v1=(CU x.hn x.hs y.hn y.hs).1:=congrArg Prod.fst hv;have h4:v2=(CU x.hn x.hs y.hn y.hs).2:=congrArg Prod.snd hv;rw [hz,h1,h2,h3,h4,hx,hy];rfl)
 clear hu hv hz;obtain ⟨HX0,HB2,HB3,HB4,b4,d5,d3,b8⟩:=Hd8 hx0 hb2 Z hb4 hw0 hg2 hg3 hg4;clear ht hx0 hw0 hb2 Z hb4 hg2 hg3 hg4 hx hy
 go_enter func73,ntmps73
 go_upto_region 1 with fail
 rw [<-b4.o,show w.heap.size+1+1=Y from b8.o.symm,<-d3.o,<-d5.o];refine Qa (λm b=>(m=1004/\b=g2)\/(m=1005/\b=g3)) [(0,[1004,1005]),(1,[1004,1005]),(2,[1005]),(3,[1004,1005]),(4,[1004,1005]),(5,[1005])] ?_;refine Qp ?_;refine Qg (Rq x) ?_ ?_
 ·exact U9
 refine Qm (λV F J L hR hN hp hρ zs zg=>by
  exact TY) ?_
 refine Qg (Rq y) ?_ ?_
 ·exact Sa
 refine Qs (λ_ F J=>Blk J g2 30 (Rp x)/\F 1004=true) ?_ ?_ ?_
 ·exact PK
 ·exact Tb
 refine Qs (λ_ F J=>Blk J g3 30 (Rp y)/\F 1005=true) ?_ ?_ ?_
 ·exact R1
 ·exact Ua
 intro V F w9 hR hG;refine Qx ?_;obtain ⟨hb4,-⟩:=hG 4 AB;have O:=Hd hb4;clear hb4;obtain ⟨b5,-⟩:=hG 5 AB;have U:=Hd b5;clear b5;have b7:=HB4.o.keep (hR.kept0 (S:=λb=>b=Y) λb _ e m hm=>by
  exact RA)
 have a8:=Hd b7;clear b7;have HXN:=Hd (show Ext w w9 from Au HX0.o (hR.buts (S:=λb=>b=g2\/b=g3) (λm b _ hm _=>hm.imp And.right And.right)) (λb hb=>by
  exact O5))
 clear hR hG;obtain ⟨w1,hw1⟩:=eqx w9;rw [<-hw1] at HXN O U a8|-;clear hw1 b4 HB2 HB3 HB4 k0 k1 k2 k3 k4 k5 k6 k7;have HT1:=Hd (b9.o.ext HXN.o);obtain ⟨HX5,HT5,a9,j0,j1,j2,j3,j4⟩:=Hd8 HXN.o HT1.o a8.o (O.o.q0) (O.o.q1) (O.o.q2) (O.o.q3) (U.o.q0);obtain ⟨j5,j6,j7⟩:=Hd3 (U.o.q1) (U.o.q2) (U.o.q3);obtain ⟨w5,b6⟩:=eqx w1;rw [<-b6] at HX5 HT5 a9 j0 j1 j2 j3 j4 j5 j6 j7|-;clear b6 HXN HT1 a8 O U
 go_upto_region 2 with fail
 refine Qa (λm b=>(m=1012/\b=Y)) (lk 13 [1012]) ?_
 iterate 4 refine Qp ?_
 refine Qg (.agg #[.I u1,.I u2]) ?_ ?_
 ·intro V F J L hR hN hp hρ zs zg;have hk1012:=hN.o.key (k:=1012) AB;have hxx:=hR.o.ext0 (λm b _ hm=>by
   exact MA)
  have HXW:=Hd hxx;clear hxx hk1012;exact VR
 iterate 4 refine Qp ?_
 refine Qg (.agg #[.I v1,.I v2]) ?_ ?_
 ·intro V F J L hR hN hp hρ zs zg;have hk1012:=hN.o.key (k:=1012) AB;have hxx:=hR.o.ext0 (λm b _ hm=>by
   exact MA)
  have HXW:=Hd hxx;clear hxx hk1012;exact Sj
 refine Qp ?_;refine Qg (Rq z) ?_ ?_
 ·intro V F J L hR hN hp hρ zs zg;have hk1012:=hN.o.key (k:=1012) AB;have hxx:=hR.o.ext0 (λm b _ hm=>by
   exact MA)
  have HXW:=Hd hxx;clear hxx hk1012;have HR:=hR;refine Qr ?_;refine (d4.o J (HT5.o.ext HXW.o)).mono ?_;exact DR
 refine Qs (λ_ F J=>Blk J Y 30 (Rp z)/\F 1012=true) ?_ ?_ ?_
 ·exact FE
 ·intro V F J L hR hN hp hρ zs zg;have hk1012:=hN.o.key (k:=1012) AB;have hb0:=a9.o.keep (hR.o.kept0 (S:=λb=>b=Y) λb _ e m hm=>by
   rw [hm.1];exact hk1012)
  have HB0:=Hd hb0;have HK:=Hd hk1012;obtain ⟨q0,q1,q2,q3⟩:=hb0.qs4;have qf:=hb0.frozen;have ql:=hb0.lt;clear hb0 hk1012;refine Qr ?_;refine ⟨F.put 1012,H2A HK.o rfl rfl rfl Y78171d3d0 (λb hb hm=>(((((Only.refl Y J).set 0 (.I z.ln)).set 1 (.I z.ls)).set 2 (.I z.hn)).set 3 (.I z.hs)).block b λe=>hm (⟨rfl,e⟩)),LK.done AB,?_,AU⟩;have hb1:=((((HB0.o.set 0 (.I z.ln)).set 1 (.I z.ls)).set 2 (.I z.hn)).set 3 (.I z.hs))
  simpa using hb1
 intro V F w9 hR hG;refine Qx ?_;obtain ⟨b0,-⟩:=hG 12 AB;have b3:=Hd b0;clear b0;have HXN:=Hd (show Ext w w9 from Au HX5.o (hR.buts (S:=λb=>b=Y) (λm b _ hm _=>hm.2)) (λb hb=>by
  rw [hb];exact HG4.o))
 clear hR hG;obtain ⟨s0,s1,s2,s3⟩:=b3.o.qs4;go_wp2;rw [HJ.o];exact bodyPost_ret (v:=(Rq z)) (by simp [results,results73,go_sem,s0,s1,s2,s3]) rfl ⟨rfl,HXN.o⟩
def Cd(w:World)(p:Int × Int)(e:Ending)(J:World):Prop:=e=.returned (.agg #[.I p.1,.I p.2])/\Ext w J
theorem Lg(w:World):Cl 202 #[] w (Cd w (1,0)):=by
 go_enter func202,ntmps202
 go_wp2;refine bodyPost_ret (v:=.agg #[.I 1,.I 0]) (by simp [results,results202,go_sem]) rfl ⟨rfl,?_⟩;exact (exaa w)
theorem F2(l h:Int)(w:World):Cl 143 #[.agg #[.I l,.I h]] w (Cd w (CQ l h)):=by
 by_cases hl:h<l
 ·have HF:=Hd (show CQ l h=(1,0) by unfold CQ;rw [if_pos hl])
  go_enter func143,ntmps143
  go_wp2_with fail
  refine (Lg _).mono ?_;rintro e1 w1 ⟨rfl,hx1⟩;have hb2:=(H6A w (.cells #[.I l,.I h] 32) 32 #[.I 0,.I 0]).keep (hx1.kept _);obtain ⟨r0,r1⟩:=hb2.qs2;have qf:=hb2.frozen;have ql:=hb2.lt;have HX:=Hd ((exbb w).trans hx1);clear hx1 hb2
  go_wp2_with fail
  rw [HF.o];refine bodyPost_ret (v:=.agg #[.I 1,.I 0]) (by simp [results,results143,go_sem,r0,r1]) rfl ⟨rfl,?_⟩;exact BT
 ·have HF:=Hd (show CQ l h=(l,h) by unfold CQ;rw [if_neg hl])
  go_enter func143,ntmps143
  go_wp2;rw [HF.o];refine bodyPost_ret (v:=.agg #[.I l,.I h]) (by simp [results,results143,go_sem]) rfl ⟨rfl,?_⟩;exact (exbb w)
theorem DM(l h l' h':Int)(w:World):Cl 74 #[.agg #[.I l,.I h],.agg #[.I l',.I h']] w (Cd w (CZ (l,h) (l',h'))):=by
 have HF:=Hd (show CZ (l,h) (l',h')=CQ (max l l') (min h h') from rfl);obtain ⟨⟨u1,u2⟩,hu⟩:=eqx (CQ (max l l') (min h h'));have HN:=Hd (show ∀ J,Cl 143 #[.agg #[.I (max l l'),.I (min h h')]] J (Cd J (u1,u2)) from λJ=>by rw [hu];exact F2 _ _ J);rw [<-hu] at HF;clear hu
 go_enter func74,ntmps74
 go_wp2_with fail
 refine (HN.o _).mono ?_;rintro e1 w1 ⟨rfl,hx1⟩;have hb2:=(ICA w (.cells #[.I l,.I h] 32) (.cells #[.I l',.I h'] 32) 32 #[.I 0,.I 0]).keep (hx1.kept _);obtain ⟨r0,r1⟩:=hb2.qs2;have qf:=hb2.frozen;have ql:=hb2.lt;have HX:=Hd ((excc w).trans hx1);clear hx1 hb2
 go_wp2_with fail
 rw [HF.o];refine bodyPost_ret (v:=.agg #[.I u1,.I u2]) (by simp [results,results74,go_sem,r0,r1]) rfl ⟨rfl,?_⟩;exact BT
theorem Hi(l h l' h':Int)(w:World):Cl 69 #[.agg #[.I l,.I h],.agg #[.I l',.I h']] w (Cd w (Cb (l,h) (l',h'))):=by
 by_cases h1:h<l
 ·have HF:=Hd (show Cb (l,h) (l',h')=CQ l' h' by unfold Cb;rw [if_pos h1]);obtain ⟨⟨u1,u2⟩,hu⟩:=eqx (CQ l' h');have HN:=Hd (show ∀ J,Cl 143 #[.agg #[.I l',.I h']] J (Cd J (u1,u2)) from λJ=>by rw [hu];exact F2 _ _ J);rw [<-hu] at HF;clear hu
  go_enter func69,ntmps69
  go_wp2_with fail
  refine (HN.o _).mono ?_;rintro e1 w1 ⟨rfl,hx1⟩;have hb2:=(ICA w (.cells #[.I l,.I h] 32) (.cells #[.I l',.I h'] 32) 32 #[.I 0,.I 0]).keep (hx1.kept _);obtain ⟨r0,r1⟩:=hb2.qs2;have qf:=hb2.frozen;have ql:=hb2.lt;have HX:=Hd ((excc w).trans hx1);clear hx1 hb2
  go_wp2_with fail
  rw [HF.o];refine bodyPost_ret (v:=.agg #[.I u1,.I u2]) (by simp [results,results69,go_sem,r0,r1]) rfl ⟨rfl,?_⟩;exact BT
 by_cases h2:h'<l'
 ·have HF:=Hd (show Cb (l,h) (l',h')=(l,h) by unfold Cb;rw [if_neg h1,if_pos h2])
  go_enter func69,ntmps69
  go_wp2;rw [HF.o];refine bodyPost_ret (v:=.agg #[.I l,.I h]) (by simp [results,results69,go_sem]) rfl ⟨rfl,?_⟩;exact (excc w)
 ·have HF:=Hd (show Cb (l,h) (l',h')=(min l l',max h h') by unfold Cb;rw [if_neg h1,if_neg h2])
  go_enter func69,ntmps69
  go_wp2;rw [HF.o];refine bodyPost_ret (v:=.agg #[.I (min l l'),.I (max h h')]) (by simp [results,results69,go_sem]) rfl ⟨rfl,?_⟩;exact (excc w)

theorem CD(h:qP:=by
 rw [hn];exact Sg):qP:=h
theorem E5(h:qP:=by
 subst this;clear hn
 go_enter func172,ntmps172
 exact Ea):qP:=h
theorem QF(h:qP:=by
 have:n=0:=by
  exact CD
 exact E5):qP:=h
theorem I0(h:qP:=by
 have:n=6:=by
  exact CD
 exact E5):qP:=h
theorem V5(c:Int)(w:World):Cl 172 #[.int .u8 c] w (Bk w (Ev c:Int)):=by
 obtain ⟨n,hn⟩:=eqx (Ev c);rw [<-hn]
 rcases (show c<32\/c=32\/(33<=c/\c<=47)\/(48<=c/\c<=57)\/(58<=c/\c<=64)\/(65<=c/\c<=90)\/(91<=c/\c<=96)\/(97<=c/\c<=122)\/(123<=c/\c<=126)\/126<c by omega) with h1|rfl|⟨h1,h2⟩|⟨h1,h2⟩|⟨h1,h2⟩|⟨h1,h2⟩|⟨h1,h2⟩|⟨h1,h2⟩|⟨h1,h2⟩|h1
 ·exact QF
 ·have:n=5:=by
   exact CD
  exact E5
 ·exact I0
 ·have:n=1:=by
   exact CD
  exact E5
 ·exact I0
 ·have:n=2:=by
   exact CD
  exact E5
 ·exact I0
 ·have:n=3:=by
   exact CD
  exact E5
 ·exact I0
 ·exact QF
theorem FL(h:qP:=by
 subst this;clear hn
 go_enter func181,ntmps181
 exact Ea):qP:=h
theorem SG(h:qP:=by
 have:n=0:=by
  exact CD
 exact FL):qP:=h
theorem Iz(h:qP:=by
 have:n=6:=by
  exact CD
 exact FL):qP:=h
theorem NR(c:Int)(w:World):Cl 181 #[.int .u8 c] w (Bk w (Ev c:Int)):=by
 obtain ⟨n,hn⟩:=eqx (Ev c);rw [<-hn]
 rcases (show c<32\/c=32\/(33<=c/\c<=47)\/(48<=c/\c<=57)\/(58<=c/\c<=64)\/(65<=c/\c<=90)\/(91<=c/\c<=96)\/(97<=c/\c<=122)\/(123<=c/\c<=126)\/126<c by omega) with h1|rfl|⟨h1,h2⟩|⟨h1,h2⟩|⟨h1,h2⟩|⟨h1,h2⟩|⟨h1,h2⟩|⟨h1,h2⟩|⟨h1,h2⟩|h1
 ·exact SG
 ·have:n=5:=by
   exact CD
  exact FL
 ·exact Iz
 ·have:n=1:=by
   exact CD
  exact FL
 ·exact Iz
 ·have:n=2:=by
   exact CD
  exact FL
 ·exact Iz
 ·have:n=3:=by
   exact CD
  exact FL
 ·exact Iz
 ·exact SG
theorem ZF(s:BA)(k:Nat)(h:k<s.size):CT ((bs s).take (k+1))=bits .or .i64 (CT ((bs s).take k)) ((2^Ev (s[k].toNat:Int):Nat):Int):=by
 rw [List.take_add_one,List.getElem?_eq_getElem (by rw [GY];exact h),M8 s k h];unfold CT;rw [Option.toList_some,List.foldl_append];rfl
theorem Yl(k:Nat)(h:k<=6):wrap64 (2^k)=((2^k:Nat):Int):=by
 match k,h with
 |0,_=>unfold wrap64;decide
 |1,_=>unfold wrap64;decide
 |2,_=>unfold wrap64;decide
 |3,_=>unfold wrap64;decide
 |4,_=>unfold wrap64;decide
 |5,_=>unfold wrap64;decide
 |6,_=>unfold wrap64;decide
theorem Zg(h:qP:=by
 refine ⟨k+1,by omega,by go_num,?_⟩;rw [ZF s k hlt,<-HZ.o,<-HN.o];rw [Yl n hn6]):qP:=h
theorem S1(h:qP:=by
 go_round
 case rel =>
  exact Zg
 case measure=>simp [intOf];omega):qP:=h
theorem Tc(h:qP:=by
 go_wp2;go_ret;have hk':k=s.size:=(by omega);refine ⟨?_,rfl⟩;rw [HZ.o,List.take_of_length_le (by rw [GY];omega)];rfl):qP:=h
theorem El(s:BA)(hs:s.size<=4294967296)(w:World):Cl 99 #[.string s] w (Bk w (CT (bs s))):=by
 go_enter func99,ntmps99
 go_wp2
 go_loop [3,7] (λa i=>∃ k:Nat,k<=s.size/\i=.I k/\a=.I (CT ((bs s).take k))) (λ_ i=>s.size-(intOf i).toNat)
 case atStart=>exact ⟨0,AN,rfl,rfl⟩
 case round =>
  obtain ⟨k,hk,rfl,rfl⟩:=hrel;obtain ⟨z,hz⟩:=eqx (CT ((bs s).take k));rw [<-hz];have HZ:=Hd hz;clear hz;by_cases hlt:k<s.size
  ·obtain ⟨n,hn⟩:=eqx (Ev (s[k].toNat:Int));have hn6:n<=6:=(by rw [hn];exact Ir _);have HC:=Hd (show ∀ J,Cl 172 #[.int .u8 (s[k].toNat:Int)] J (Bk J (n:Int)) from λJ=>by rw [hn];exact V5 _ J);have HN:=Hd hn;clear hn
   go_wp2_with (go_at_call 172;refine (HC.o _).mono ?_;rintro e J ⟨rfl,rfl⟩)
   exact S1
  ·exact Tc

theorem CmA(k:Nat)(h:k<=6):wrap64 (2^k)=((2^k:Nat):Int):=Yl k h
theorem At(k:Nat)(hk:k<=6)(w:World):Cl 32 #[.I (k:Int)] w (Bk w ((2^k:Nat):Int)):=by
 have HW:=Hd (CmA k hk)
 go_enter func32,ntmps32
 go_wp2;go_ret;refine ⟨?_,rfl⟩;rw [<-HW.o];rfl
theorem MI(h:qP:=by
 rw [decide_eq_false e,Bool.and_false]):qP:=h
theorem QG(h:qP:=by
 rw [CN,Js _ _ (by omega),hb,decide_eq_true rfl] at h1;cases h1):qP:=h
theorem Mp(x:Int)(k:Nat)(h:k<=6):(bits .and .i64 x ((2^k:Nat):Int) != 0)=bt x k:=by
 rw [Bool.eq_iff_iff,bne_iff_ne,ne_eq,RF (CJ _ _ _)];constructor
 ·intro hn;refine Classical.byContradiction λhb=>hn λi hi => ?_;rw [CN,Js _ _ AA];by_cases e:i=k
  ·subst e;cases hbt:bt x i
   ·rfl
   ·exact absurd hbt hb
  ·exact MI
 ·intro hb hn;have h1:=hn k AA;exact QG
theorem EbA(x:Int)(k:Nat)(h:k<=6):bt x k=decide ((x / 2^k) % 2=1):=by
 unfold bt;rw [BitVec.getLsbD,BitVec.toNat_ofInt,Nat.testBit_eq_decide_div_mod_eq];rw [Bool.eq_iff_iff,decide_eq_true_eq,decide_eq_true_eq]
 match k,h with
 |0,_=>simp;omega
 |1,_=>simp;omega
 |2,_=>simp;omega
 |3,_=>simp;omega
 |4,_=>simp;omega
 |5,_=>simp;omega
 |6,_=>simp;omega
theorem FbA(x:Int)(k:Nat)(h:k<=6):(bits .and .i64 (x / 2^k) 1==1)=bt x k:=by
 have h0:bt (x / 2^k) 0=bt x k:=by
  rw [EbA _ 0 AA,EbA _ k h];simp
 rw [<-h0,Bool.eq_iff_iff,beq_iff_eq];have e1:(1:Int)=((2^0:Nat):Int):=rfl;constructor
 ·intro he;have:bt (bits .and .i64 (x / 2^k) 1) 0=bt 1 0:=(by rw [he]);rw [CN,e1,Js _ _ AA,decide_eq_true rfl,Bool.and_true] at this;exact this
 ·intro hb;refine DT (CJ _ _ _) Fb λi _ => ?_;rw [CN,e1,Js _ _ AA];by_cases e:i=0
  ·subst e;rw [hb];rfl
  ·exact MI
theorem IC(a:Abs)(A D:OA)(c e k:Nat)(hk:k<=6)(w:World):Cl 42 #[(Aq a A c D e),.I (k:Int)] w (Ae w (bt a.kinds k)):=by
 have HS:=Hd (FbA a.kinds k hk)
 go_enter func42,ntmps42
 go_wp2;go_ret;refine ⟨?_,(Ext.refl _).alloc _⟩;rw [<-HS.o];rfl
theorem Y5(A:OA)(c:Nat)(l:List BA)(v:BA)(w:World)(S:NP)(h:Strs w S A l) :
  Cl 45 #[.slice A l.length c,.string v] w (SameB w (Aw l v)):=by
 have hn:=h.2.1
 go_enter func45,ntmps45
 go_wp2
 go_loop [5] (λi=>∃ k:Nat,k<=l.length/\i=.I k/\∀ j (h:j<l.length),j<k->l[j]≠v) (λi=>l.length-(intOf i).toNat)
 case atStart=>exact ⟨0,AN,rfl,AK⟩
 case round =>
  obtain ⟨k,hk,rfl,hall⟩:=hrel;have HA:=Hd hall;clear hall;by_cases hlt:k<l.length
  ·obtain ⟨b1,o1,rfl,z1,c1⟩:=h.at_ hlt;by_cases hv:l[k]=v
   ·have ht:(l[k].toList==v.toList)=true:=(by rw [Bj];simp [hv]);have HF:=Hd (show Aw l v=true by rw [Ao,<-hv];exact List.getElem_mem hlt);clear hv;exact Bf
   ·exact VA
  ·have HF:=Hd (show Aw l v=false by
    rw [Bool.eq_false_iff,ne_eq,Ao];intro hm;obtain ⟨i,hi,he⟩:=List.mem_iff_getElem.1 hm;exact HA.o i hi AA he)
   exact Bf

theorem Xq(s:BA)(hs:s.size<=4294967296)(w:World):Cl 105 #[.string s] w (Bk w (CT (bs s))):=by
 go_enter func105,ntmps105
 go_wp2
 go_loop [3,4] (λa i=>∃ k:Nat,k<=s.size/\i=.I k/\a=.I (CT ((bs s).take k))) (λ_ i=>s.size-(intOf i).toNat)
 case atStart=>exact ⟨0,AN,rfl,rfl⟩
 case round =>
  obtain ⟨k,hk,rfl,rfl⟩:=hrel;obtain ⟨z,hz⟩:=eqx (CT ((bs s).take k));rw [<-hz];have HZ:=Hd hz;clear hz;by_cases hlt:k<s.size
  ·obtain ⟨n,hn⟩:=eqx (Ev (s[k].toNat:Int));have hn6:n<=6:=(by rw [hn];exact Ir _);have HC:=Hd (show ∀ J,Cl 181 #[.int .u8 (s[k].toNat:Int)] J (Bk J (n:Int)) from λJ=>by rw [hn];exact NR _ J);have HN:=Hd hn;clear hn
   go_wp2_with (go_at_call 181;refine (HC.o _).mono ?_;rintro e J ⟨rfl,rfl⟩)
   exact S1
  ·exact Tc
theorem Fp(p q:Int)(w:World):Cl 98 #[.I p,.I q] w (SameB w (CM p q)):=by
 go_enter func98,ntmps98
 go_wp2;go_ret;refine ⟨?_,rfl⟩;unfold CM;show Ending.returned (Value.bool _)=Ending.returned (Value.bool _);congr 2
theorem Lb(h:qP:=by
 go_ret;refine ⟨?_,rfl⟩;rw [HT.o];simp [h]):qP:=h
theorem IE(h:qP:=by
 rintro e J ⟨rfl,rfl⟩
 go_wp2_with fail
 exact Lb):qP:=h
theorem Mm(s:BA)(hs:s.size<=4294967296)(w:World):Cl 97 #[.string s] w (SameB w (Ca s)):=by
 obtain ⟨HB,HA,HT⟩:=Hd3 (El s hs) (λw=>Fp (CT (bs s)) 110 w) (WN s);obtain ⟨z,hz⟩:=eqx (CM (CT (bs s)) 110);rw [<-hz] at HA HT;clear hz;generalize CT (bs s)=x at *;by_cases h:s.size<=200
 ·go_enter func97,ntmps97
  go_wp2_with fail
  refine (HB.o _).mono ?_;rintro e J ⟨rfl,rfl⟩
  go_wp2_with fail
  refine (HA.o _).mono ?_;exact IE
 ·go_enter func97,ntmps97
  go_wp2;exact Lb
theorem FD(a:Sh)(w:World):Cl 138 #[(Sq a)] w (DG w (BL a)):=by
 go_enter func138,ntmps138
 go_wp2;go_ret;exact ⟨rfl,(Ext.refl _).alloc _⟩
theorem AwA(x y:Int):(if y > x then y else x)=max x y:=by
 split<;>omega
theorem DEA(P:Program)(w:World)(ts:Array TypeId)(t:TypeId)(k k1 k2 k3:IntKind)(x y z u:Int):(Builtin.max_ ts t #[.int k x,.int k1 y,.int k2 z,.int k3 u]).run P w=.ok (.int k (max (max (max x y) z) u)) w:=by
 rw [<-AwA x y,<-AwA _ z,<-AwA _ u];simp [Builtin.max_,Builtin.max2]
theorem TE(h:qP:=by
 go_wp2;go_ret;refine ⟨?_,(Ext.refl _).alloc _⟩;rw [H.o];rw [show max (max (max 0 a.least) (a.b.size:Int)) (a.e.size:Int)=max 0 (max a.least (max (a.b.size:Int) (a.e.size:Int))) by omega];rfl):qP:=h
theorem Df(a:Sh)(w:World):Cl 136 #[(Sq a)] w (DG w (AQ a)):=by
 have H:=Hd (show AQ a=max (max (max 0 a.least) (a.b.size:Int)) (a.e.size:Int) from rfl)
 go_enter func136,ntmps136
 go_wp2;rw [DEA];exact TE
theorem T5(h:qP:=by
 go_wp2;go_ret;refine ⟨?_,(Ext.refl _).alloc _⟩;rw [H.o]
 first | rfl | (simp only [Ending.returned.injEq,Value.int.injEq,true_and];omega)):qP:=h
theorem Ed(a:Sh)(w:World):Cl 137 #[(Sq a)] w (DG w (BE a)):=by
 have H:=Hd (show BE a=min a.most 200 from rfl)
 go_enter func137,ntmps137
 exact T5
theorem WE(a:Sh)(w:World):Cl 152 #[(Sq a)] w (DG w (AQ a)):=by
 have H:=Hd (show AQ a=max (max (max 0 a.least) (a.b.size:Int)) (a.e.size:Int) from rfl)
 go_enter func152,ntmps152
 exact TE
theorem Xw(a:Sh)(w:World):Cl 153 #[(Sq a)] w (DG w (BE a)):=by
 have H:=Hd (show BE a=min a.most 200 from rfl)
 go_enter func153,ntmps153
 exact T5
theorem Yj(c:Int)(w:World):Cl 221 #[.int .u8 c,.I 7] w (SameB w (C4 c)):=by
 have HC:=Hd (NR c);have HT:=Hd (show C4 c=decide (0<Ev c) from by
  unfold C4 Ev;exact MS)
 have hn6:=Ir c;generalize Ev c=n at *;by_cases h:0<n
 ·go_enter func221,ntmps221
  go_wp2_with fail
  refine (HC.o _).mono ?_;rintro e J ⟨rfl,rfl⟩
  go_wp2_with fail
  have hk:Cl 260 #[.I (n:Int),.I 7] w (SameB w true):=by
   by_cases h7:(n:Int)=7
   ·omega
   ·go_enter func260,ntmps260
    exact Ea
  refine hk.mono ?_;exact IE
 ·go_enter func221,ntmps221
  go_wp2_with fail
  refine (HC.o _).mono ?_;exact IE
theorem FKA(s:BA)(hs:s.size<=4294967296)(w:World):Cl 180 #[.string s,.I 7] w (SameB w ((bs s).all C4)):=by
 go_enter func180,ntmps180
 go_wp2
 go_loop [5] (λi=>∃ k:Nat,k<=s.size/\i=.I k/\∀ j (h:j<s.size),j<k->C4 (s[j].toNat:Int)=true) (λi=>s.size-(intOf i).toNat)
 case atStart=>exact ⟨0,AN,rfl,AK⟩
 case round =>
  obtain ⟨k,hk,rfl,hall⟩:=hrel;have HA:=Hd hall;clear hall;by_cases hlt:k<s.size
  ·have HC:=Hd (Yj (s[k].toNat:Int));cases ht:C4 (s[k].toNat:Int)
   ·rw [ht] at HC;have hf:(bs s).all C4=false:=CX (bs s) C4 k (by rw [GY];exact hlt) (by rw [M8 s k hlt];exact ht);have HF:=Hd hf;clear hf ht
    go_wp2_with (go_at_call 221;refine (HC.o _).mono ?_;rintro e J ⟨rfl,rfl⟩)
    exact FR
   ·rw [ht] at HC;have HT:=Hd ht;clear ht
    go_wp2_with (go_at_call 221;refine (HC.o _).mono ?_;rintro e J ⟨rfl,rfl⟩)
    go_round
    case rel =>
     refine ⟨k+1,AA,AE,λj h hj => ?_⟩;by_cases hjk:j=k
     ·subst hjk;exact HT.o
     ·exact HA.o j h AA
    case measure=>simp [intOf];omega
  ·have hf:(bs s).all C4=true:=CH (bs s) C4 (λj h=>by rw [GY] at h;rw [M8 s j h];exact HA.o j h AA);exact T8
theorem TT(s:BA)(hs:s.size<=4294967296)(w:World):Cl 104 #[.string s] w (SameB w (Ca s)):=by
 have HB:=Hd (FKA s hs);have HT:=Hd (show Ca s=(decide (s.size<=200)&&(bs s).all C4) from rfl);generalize (bs s).all C4=z at *;by_cases h:s.size<=200
 ·go_enter func104,ntmps104
  go_wp2_with fail
  refine (HB.o _).mono ?_;exact IE
 ·go_enter func104,ntmps104
  go_wp2;exact Lb

theorem Fe(s p:BA)(w:World):Cl 100 #[.string s,.string p] w (SameB w (EA p s)) :=
 (Any.strings_HasPrefix Tryz.lt99 s p w).mono λ_ _ h=>⟨h.1,h.2.symm⟩
theorem Fh(s p:BA)(hs:s.size<=4294967296)(w:World):Cl 101 #[.string s,.string p] w (SameB w (EB p s)) :=
 (Any.strings_HasSuffix Tryz.lt100 s p w AA).mono λ_ _ h=>⟨h.1,h.2.symm⟩
def G0(w:World)(a:Sh)(e:Ending)(J:World):Prop:=e=.returned (Sq a)/\Ext w J
theorem Hf(w:World):Cl 124 #[] w (G0 w H3A):=by
 go_enter func124,ntmps124
 go_wp2;refine bodyPost_ret (v:=(Sq H3A)) (by simp [results,results124,go_sem,H3A]) rfl ⟨rfl,?_⟩;exact (exaa w)
theorem AQA(w:World):Cl 33 #[] w (G0 w Sh.full):=by
 go_enter func33,ntmps33
 go_wp2;refine bodyPost_ret (v:=(Sq Sh.full)) (by simp [results,results33,go_sem,Sh.full]) rfl ⟨rfl,?_⟩;exact (exaa w)
theorem RC(w:World):Cl 57 #[] w (G0 w H3A):=by
 go_enter func57,ntmps57
 go_wp2;refine bodyPost_ret (v:=(Sq H3A)) (by simp [results,results57,go_sem,H3A]) rfl ⟨rfl,?_⟩;exact (exaa w)
theorem BuA(w:World):Cl 53 #[] w (G0 w Sh.full):=by
 go_enter func53,ntmps53
 go_wp2;refine bodyPost_ret (v:=(Sq Sh.full)) (by simp [results,results53,go_sem,Sh.full]) rfl ⟨rfl,?_⟩;exact (exaa w)
def ofT(s:BA):Sh:=⟨s.size,s.size,CT (bs s),s,s⟩
theorem Yt(h:Ca s=true):ofS s=ofT s:=by
 unfold ofS;rw [if_pos h];rfl
theorem EKA(h:Ca s=false):ofS s=H3A:=by
 unfold ofS;rw [if_neg (by rw [h];simp)]
theorem R5(h:qP:=by
 iterate 5 with_reducible refine Ext.set2 ?_ (by omega) _
 with_reducible exact HX.o):qP:=h
theorem DZA(s:BA)(hs:s.size<=4294967296)(w:World):Cl 65 #[.string s] w (G0 w (ofS s)):=by
 have HT:=Hd (Mm s hs);have HB:=Hd (El s hs);obtain ⟨p,hp⟩:=eqx (CT (bs s));rw [<-hp] at HB;have HP:=Hd hp;clear hp;cases ht:Ca s
 ·rw [ht] at HT;have HF:=Hd (EKA ht);clear ht
  go_enter func65,ntmps65
  go_wp2_with fail
  refine (HT.o _).mono ?_;rintro e J ⟨rfl,rfl⟩
  go_wp2_with fail
  refine (Hf _).mono ?_;rintro e1 w1 ⟨rfl,hx1⟩;have hb1:=(Blk.new w 26 #[.I 0,.I 0,.I 0,.string ⟨#[]⟩,.string ⟨#[]⟩]).keep (hx1.kept _);obtain ⟨q0,q1,q2,q3,q4⟩:=hb1.qs5;have qf:=hb1.frozen;have ql:=hb1.lt;have HX:=Hd ((exaa w).trans hx1);clear hx1 hb1
  go_wp2_with fail
  rw [HF.o];refine bodyPost_ret (v:=(Sq H3A)) (by simp [results,results65,go_sem,q0,q1,q2,q3,q4]) rfl ⟨rfl,?_⟩;exact R5
 ·rw [ht] at HT;have HF:=Hd (show ofS s=⟨s.size,s.size,p,s,s⟩ by rw [Yt ht,HP.o];rfl);clear ht
  go_enter func65,ntmps65
  go_wp2_with fail
  refine (HT.o _).mono ?_;rintro e J ⟨rfl,rfl⟩
  go_wp2_with fail
  refine (HB.o _).mono ?_;rintro e1 w1 ⟨rfl,rfl⟩
  go_wp2_with fail
  rw [HF.o];refine bodyPost_ret (v:=.agg #[.I (s.size:Int),.I (s.size:Int),.I p,.string s,.string s]) (by simp [results,results65,go_sem]) rfl ⟨rfl,?_⟩;exact (Ext.refl w).alloc _
theorem Kh(h:qP:=by
 intro V F w9 hR hG;refine Qx ?_;have HXN:=Hd (show Ext w0 w9 from hR.ext0 (λ_ _ _ h=>h.elim));clear hR hG;go_wp2;go_ret;exact ⟨by rw [HF.o];rfl,HX0.o.trans HXN.o⟩):qP:=h
theorem S6(h:qP:=by
 iterate 6 refine Qn ?_
 refine Qp ?_;exact Kh):qP:=h
theorem Se(h:qP:=by
 iterate 5 refine Qn ?_
 iterate 2 refine Qp ?_
 exact S6):qP:=h
theorem QH(h:qP:=by
 iterate 2 refine Qp ?_
 exact Kh):qP:=h
theorem BS(h:qP:=by rw [hw0];exact (Ext.refl w).alloc _):qP:=h
theorem EL(h:qP:=by rw [hw0,hg];exact Blk.new _ _ _):qP:=h
theorem U0(a:Sh)(s:BA)(_ha:a.b.size<=4294967296)(_he:a.e.size<=4294967296)(hs:s.size<=4294967296)(w:World):Cl 39 #[(Sq a),.string s] w (Ae w (Aj a s)):=by
 obtain ⟨p,hp⟩:=eqx (CT (bs s));obtain ⟨b1,hb1⟩:=eqx (CM p a.cls);obtain ⟨b2,hb2⟩:=eqx (EA a.b s);obtain ⟨Y,U⟩:=eqx (EB a.e s);obtain ⟨t,ht⟩:=eqx (Ca s);obtain ⟨HT,HP1,a8,HH,HS,HE⟩:=Hd6 (show ∀ J,Cl 97 #[.string s] J (SameB J t) from λJ=>by rw [ht];exact Mm s hs J) (show ∀ J,Cl 99 #[.string s] J (Bk J p) from λJ=>by rw [hp];exact El s hs J) (show ∀ J,Cl 98 #[.I p,.I a.cls] J (SameB J b1) from λJ=>by rw [hb1];exact Fp p a.cls J) (show ∀ J,Cl 100 #[.string s,.string a.b] J (SameB J b2) from λJ=>by rw [hb2];exact Fe s a.b J) (show ∀ J,Cl 101 #[.string s,.string a.e] J (SameB J Y) from λJ=>by rw [U];exact Fh s a.e hs J) (show Aj a s=(t&&decide (a.least<=s.size)&&decide ((s.size:Int)<=a.most)&&b1&&b2&&Y) from by rw [ht,hb1,hb2,U,hp];rfl);clear hp hb1 hb2 U ht;obtain ⟨w0,hw0⟩:=eqx (w.alloc (.cells (Sp a) 26));have hx0:Ext w w0:=BS;obtain ⟨g,hg⟩:=eqx w.heap.size;have O:Blk w0 g 26 (Sp a):=EL;obtain ⟨k0,k1,k2,k3,k4,HX0,HW0,HG⟩:=Hd8 (O.q0) (O.q1) (O.q2) (O.q3) (O.q4) hx0 hw0 hg;clear hx0 O hw0 hg
 go_enter func39,ntmps39
 go_upto_region 1 with fail
 rw [<-HW0.o,<-HG.o];cases t
 ·have HF:=Hd (show Aj a s=false by rw [HE.o];rfl);refine Qa (λ_ _=>False) [] ?_;refine Qp ?_;refine Qc (λJ=>HT.o J) ?_
  iterate 2 refine Qp ?_
  iterate 5 refine Qn ?_
  iterate 2 refine Qp ?_
  exact Se
 by_cases h1:(s.size:Int)<a.least
 ·have HF:=Hd (show Aj a s=false by rw [HE.o,show decide (a.least<=(s.size:Int))=false from decide_eq_false AA];rfl);refine Qa (λ_ _=>False) [] ?_;refine Qp ?_;refine Qc (λJ=>HT.o J) ?_
  iterate 9 refine Qp ?_
  exact Se
 by_cases h2:a.most<(s.size:Int)
 ·have HF:=Hd (show Aj a s=false by rw [HE.o,show decide ((s.size:Int)<=a.most)=false from decide_eq_false AA,Bool.and_false];rfl);refine Qa (λ_ _=>False) [] ?_;refine Qp ?_;refine Qc (λJ=>HT.o J) ?_
  iterate 16 refine Qp ?_
  exact S6
 have Z:=Hd (show Aj a s=(b1&&b2&&Y) by rw [HE.o,show decide (a.least<=(s.size:Int))=true from decide_eq_true AA,show decide ((s.size:Int)<=a.most)=true from decide_eq_true AA];rfl);cases b1
 ·have HF:=Hd (show Aj a s=false by rw [Z.o];rfl);refine Qa (λ_ _=>False) [] ?_;refine Qp ?_;refine Qc (λJ=>HT.o J) ?_
  iterate 17 refine Qp ?_
  refine Qc (λJ=>HP1.o J) ?_
  iterate 2 refine Qp ?_
  refine Qc (λJ=>a8.o J) ?_;exact QH
 refine Qa (λ_ _=>False) [] ?_;refine Qp ?_;refine Qc (λJ=>HT.o J) ?_
 iterate 17 refine Qp ?_
 refine Qc (λJ=>HP1.o J) ?_
 iterate 2 refine Qp ?_
 refine Qc (λJ=>a8.o J) ?_
 iterate 2 refine Qp ?_
 intro V F w9 hR hG;refine Qx ?_;have HXN:=Hd (show Ext w0 w9 from hR.ext0 (λ_ _ _ h=>h.elim));clear hR hG;have s0:=HXN.o.cell k0.o;have s1:=HXN.o.cell k1.o;have s2:=HXN.o.cell k2.o;have s3:=HXN.o.cell k3.o;have s4:=HXN.o.cell k4.o;have HX:=Hd (HX0.o.trans HXN.o);clear k0 k1 k2 k3 k4 HX0 HXN;have HF:=Hd (show Aj a s=(b2&&Y) by rw [Z.o];rfl);cases b2
 ·go_wp2_with (go_at_call 100;refine (HH.o _).mono ?_;rintro e5 w5 ⟨rfl,rfl⟩)
  exact Lv
 ·go_wp2_with first|(go_at_call 100;refine (HH.o _).mono ?_;rintro e5 w5 ⟨rfl,rfl⟩)|(go_at_call 101;refine (HS.o _).mono ?_;rintro e6 w6 ⟨rfl,rfl⟩)
  exact Lv

theorem BI(a:Abs)(A D:OA)(c e k:Nat)(hk:k<=6)(w:World):Cl 59 #[(Aq a A c D e),.I (k:Int)] w (Ae w (bt a.kinds k)):=by
 have HBI:=Hd (λJ=>At k hk J);have O:=Mp a.kinds k hk;obtain ⟨w0,hw0⟩:=eqx (w.alloc (.cells (Ap a A c D e) 36));have hx0:Ext w w0:=BS;obtain ⟨g,hg⟩:=eqx w.heap.size;have U:Blk w0 g 36 (Ap a A c D e):=EL;obtain ⟨k0,HX0,Z,HG⟩:=Hd4 (U.q0) hx0 hw0 hg;obtain ⟨b,hb⟩:=eqx (bt a.kinds k);rw [<-hb] at O|-;have Y:=Hd O;clear hx0 U hw0 hg hb O
 go_enter func59,ntmps59
 go_upto_region 1 with fail
 rw [<-Z.o,<-HG.o];refine Qa (λ_ _=>False) [] ?_
 iterate 3 refine Qp ?_
 refine Qc (λJ=>HBI.o J) ?_
 iterate 3 refine Qp ?_
 intro V F w9 hR hG;refine Qx ?_;have HX1:=Hd (show Ext w0 w9 from hR.ext0 (λ_ _ _ h=>h.elim));clear hR hG;go_wp2;go_ret;refine ⟨?_,HX0.o.trans HX1.o⟩;rw [<-Y.o];rfl
def DoA(w:World)(a:Abs)(e:Ending)(J:World):Prop:=e=.returned (Aq a none 0 none 0)/\Ext w J
theorem KE(w:World):Cl 55 #[] w (G0 w H3A):=by
 go_enter func55,ntmps55
 go_wp2;refine bodyPost_ret (v:=(Sq H3A)) (by simp [results,results55,go_sem,H3A]) rfl ⟨rfl,?_⟩;exact (exaa w)
theorem MT(w:World):Cl 56 #[] w (Cd w (1,0)):=by
 go_enter func56,ntmps56
 go_wp2;refine bodyPost_ret (v:=.agg #[.I 1,.I 0]) (by simp [results,results56,go_sem]) rfl ⟨rfl,?_⟩;exact (exaa w)
theorem Ho(w:World):Cl 35 #[] w (Cd w (0,3652058)):=by
 go_enter func35,ntmps35
 go_wp2;refine bodyPost_ret (v:=.agg #[.I 0,.I 3652058]) (by simp [results,results35,go_sem]) rfl ⟨rfl,?_⟩;exact (exaa w)
theorem Ga(w:World):Cl 36 #[] w (Cd w (0,100)):=by
 go_enter func36,ntmps36
 go_wp2;refine bodyPost_ret (v:=.agg #[.I 0,.I 100]) (by simp [results,results36,go_sem]) rfl ⟨rfl,?_⟩;exact (exaa w)
theorem Xo(w:World):Cl 58 #[] w (Cd w (1,0)):=by
 go_enter func58,ntmps58
 go_wp2;refine bodyPost_ret (v:=.agg #[.I 1,.I 0]) (by simp [results,results58,go_sem]) rfl ⟨rfl,?_⟩;exact (exaa w)
theorem D7A(d e:Dep):decide (d=e)=(decide (d.tov=e.tov)&&decide (d.frm=e.frm)):=by
 rw [Bool.eq_iff_iff,Bool.and_eq_true,decide_eq_true_eq,decide_eq_true_eq,decide_eq_true_eq];cases d;cases e;simp only [Dep.mk.injEq];exact and_comm
theorem Kx(h:qP:=by
 go_wp2_with fail
 go_ret;exact ⟨by rw [HF.o];rfl,HX.o.drewN _⟩):qP:=h
theorem Nr(d e:Dep)(A B:OA)(ca cb:Nat)(w:World)(S T:NP)(hA:Strs w S A d.frm)(hB:Strs w T B e.frm) :
  Cl 169 #[.agg #[.slice A d.frm.length ca,.string d.tov],.agg #[.slice B e.frm.length cb,.string e.tov]] w (Ae w (decide (d=e))):=by
 have HD:=Hd (D7A d e);have hx0:Ext w ((w.alloc (.cells #[.slice A d.frm.length ca,.string d.tov] 64)).alloc (.cells #[.slice B e.frm.length cb,.string e.tov] 64)):=(exaa w).alloc _;have HQ:=Hd (M9 A B ca cb d.frm e.frm _ S T (hA.keep (hx0.kept S)) (hB.keep (hx0.kept T)));have HX:=Hd hx0;clear hA hB hx0;by_cases ht:d.tov=e.tov
 ·have h1:(d.tov.toList==e.tov.toList)=true:=(by rw [Bj];simp [ht]);have HF:=Hd (show decide (d=e)=decide (d.frm=e.frm) by rw [HD.o,decide_eq_true ht,Bool.true_and]);clear ht
  go_enter func169,ntmps169
  go_wp2_with fail
  refine HQ.o.mono ?_;rintro e1 w1 ⟨rfl,n,rfl⟩;exact Kx
 ·have h1:(d.tov.toList==e.tov.toList)=false:=(by rw [Bj];simp [ht]);have HF:=Hd (show decide (d=e)=false by rw [HD.o,decide_eq_false ht,Bool.false_and]);clear ht
  go_enter func169,ntmps169
  exact MQ
theorem N5(d e:Dep)(A B:OA)(ca cb:Nat)(w:World)(S T:NP)(hA:Strs w S A d.frm)(hB:Strs w T B e.frm) :
  Cl 52 #[.agg #[.slice A d.frm.length ca,.string d.tov],.agg #[.slice B e.frm.length cb,.string e.tov]] w (Ae w (decide (d=e))):=by
 have HD:=Hd (D7A d e);have hx0:Ext w ((w.alloc (.cells #[.slice A d.frm.length ca,.string d.tov] 64)).alloc (.cells #[.slice B e.frm.length cb,.string e.tov] 64)):=(exaa w).alloc _;have HQ:=Hd (Jq A B ca cb d.frm e.frm _ S T (hA.keep (hx0.kept S)) (hB.keep (hx0.kept T)));have HX:=Hd hx0;have hb1:Blk ((w.alloc (.cells #[.slice A d.frm.length ca,.string d.tov] 64)).alloc (.cells #[.slice B e.frm.length cb,.string e.tov] 64)) w.heap.size 64 #[.slice A d.frm.length ca,.string d.tov]:=(Blk.new _ _ _).keep ((exaa _).kept _);have hb2:=H6A w (.cells #[.slice A d.frm.length ca,.string d.tov] 64) 64 #[.slice B e.frm.length cb,.string e.tov];have HB1:=Hd (hb1.q1);have HB2:=Hd (hb2.q1);have h1:(d.tov.toList==e.tov.toList)=decide (d.tov=e.tov):=(by rw [Bj]);obtain ⟨b2,O⟩:=eqx (decide (d.tov=e.tov));rw [<-O] at h1 HD;clear hA hB hx0 hb1 hb2 O
 go_enter func52,ntmps52
 go_wp2_with fail
 refine HQ.o.mono ?_;rintro e1 w1 ⟨rfl,n,rfl⟩;have q0:=((Ext.refl _).drewN n).cell HB1.o;have q1:=((Ext.refl _).drewN n).cell HB2.o;cases hf:decide (d.frm=e.frm)
 ·have HF:=Hd (show decide (d=e)=false by rw [HD.o,hf,Bool.and_false]);exact Kx
 ·have HF:=Hd (show decide (d=e)=b2 by rw [HD.o,hf,Bool.and_true]);exact Kx

theorem UA(h:qP:=by
 show (w.heap.modify g _)[b]?=_;rw [Array.getElem?_modify,if_neg (λe=>hb e.symm)]):qP:=h
theorem AM{ops:Array Oper}{rest:List Oper}{o:Oper}{a:Act}{Q:Exit->Act->World->Prop}(hgd:o.guard=none)(ty:TypeId)(x y:Operand)(ho:o.op=.store ty x y)
  (g:Nat) (cells:Array Value) (hx:a.eval x=.pointer (some ⟨g,0,none⟩)) (hy:a.eval y=.agg cells)
  (t:TypeId) (old:Array Value) (hb:Blk w g t old) (hi:(P.info? ty).map (·.size)=some cells.size)
  (hold:old.size=cells.size) (h1:cells.all (·.oneCell')=true)
  (h:∀ J,Blk J g t cells->Only g w J->wpList P ops Q rest (a.put o.dst undef) J):wpList P ops Q (o::rest) a w:=by
 refine wpList_store_row hgd ty x y ho g cells hx hy t old hb hi hold h1 (h _ ?_ ?_)
 ·exact setRow_heap w g old cells t _ hb
 ·refine ⟨rfl,rfl,rfl,setRow_size _ _ _,λb hb => ?_⟩;exact UA
theorem Eq{g:Nat}{cs:Array Value}(hb:Blk w g t cs)(hd:(match P.underlying t with|some (.struct _)|some (.array _ _)=>true|_=>false)=true)(hi:(P.info? t).map (·.size)=some cs.size) :
  (loadVar t ⟨g,0,none⟩).run P w=.ok (.agg cs) w:=by
 cases hu:P.underlying t with
 |none=>rw [hu] at hd;cases hd
 |some d =>
  rw [hu] at hd;refine run_loadVar_row w g t t cs (0,0) d hb hu ?_ hi;cases d<;>first|rfl|cases hd
theorem Bv{fn:Func}{tmps:Array Value}{i:Nat}{p:Addr}{v:Value}(hf:fn.results=#[.cell i t])(ht:tmps.getD i undef=.pointer (some p))(hl:(loadVar t p).run P w=.ok v w) :
  (results fn tmps).run P w=.ok v w:=by
 have O:tmps[i]?.getD undef=.pointer (some p):=(by simpa using ht);unfold results;simp [hf,O,hl,asAddr]
theorem AS:(match prog.underlying 36 with|some (.struct _)|some (.array _ _)=>true|_=>false)=true:=by kernel_rfl
theorem AH:(prog.info? 36).map (·.size)=some 18:=by kernel_rfl

theorem Hk(w:World):Cl 16 #[] w (DoA w noneA):=by
 have U:=Hd (show ∀ J,Cl 55 #[] J (λe w''=>e=.returned (.agg #[.I 1,.I 0,.I 0,.string ⟨#[]⟩,.string ⟨#[]⟩])/\Ext J w'') from KE);have O:=Hd (show ∀ J,Cl 56 #[] J (λe w''=>e=.returned (.agg #[.I 1,.I 0])/\Ext J w'') from MT)
 go_enter func16,ntmps16
 go_wp2_with fail
 refine (U.o _).mono ?_;rintro e1 w1 ⟨rfl,hx1⟩;have HX1:=Hd ((exaa w).trans hx1);have HB1:=Hd ((Blk.new w 36 Az).keep (hx1.kept _));clear hx1
 go_wp2_with fail
 refine (O.o _).mono ?_;rintro e2 w2 ⟨rfl,hx2⟩;have HX2:=Hd (HX1.o.trans hx2);have HB2:=Hd (HB1.o.keep (hx2.kept _));clear hx2
 go_wp2_with fail
 refine (O.o _).mono ?_;rintro e3 w3 ⟨rfl,hx3⟩;have HX3:=Hd (HX2.o.trans hx3);have HB3:=Hd (HB2.o.keep (hx3.kept _));clear hx3;rename_i K1 hK1 K2 hK2;refine hK2 _ _ ?_;refine wpList_build rfl 36 _ rfl AD ?_;refine AM rfl 36 _ _ rfl w.heap.size (Ap noneA none 0 none 0) rfl AD 36 _ HB3.o AH rfl AD ?_;intro w4 hb4 ho4;have HX4:=Hd (HX3.o.only ho4 (Al));refine hK1 _ _ ?_;clear hK1 hK2 HB1 HB2 HB3 HX1 HX2 HX3
 go_wp2_with fail
 exact bodyPost_ret (Bv results16 rfl (Eq hb4 AS AH)) rfl ⟨rfl,HX4.o⟩

def Bw(a:Abs)(k:Nat):Bool :=
 match k with
 |1 => !AT a.tx
 |2 => !BF a.nu
 |3=>decide ((Cy a).1<=(Cy a).2)
 |4=>decide (boI a≠0)
 |5=>decide ((DF a).1<=(DF a).2)&&decide ((ddp a.cols).length<=8)&&(ddp a.cols).all Ba
 |_=>false
def Dp(a:Abs)(k:Nat)(r:Abs):Abs :=
 match k with
 |1 => { r with tx:=BW a.tx a.tx }
 |2 => { r with nu:=Cc a.nu a.nu }
 |3 => { r with dl:=(Cy a).1,dh:=(Cy a).2 }
 |4 => { r with bo:=boI a }
 |5 => { r with rl:=(DF a).1,rh:=(DF a).2,cols:=An (ddp a.cols),deps:=ddp a.deps }
 |_=>r
def DL(a:Abs)(k:Nat):Abs where
 kinds:=Ey (decide (1<k)&&pT a) (decide (2<k)&&pN a) (decide (3<k)&&pD a) (decide (4<k)&&pB a) (decide (5<k)&&pR a)
 tx:=if (decide (1<k)&&pT a)=true then BW a.tx a.tx else H3A
 nu:=if (decide (2<k)&&pN a)=true then Cc a.nu a.nu else IBA
 dl:=if (decide (3<k)&&pD a)=true then (Cy a).1 else 1
 dh:=if (decide (3<k)&&pD a)=true then (Cy a).2 else 0
 bo:=if (decide (4<k)&&pB a)=true then boI a else 0
 rl:=if (decide (5<k)&&pR a)=true then (DF a).1 else 1
 rh:=if (decide (5<k)&&pR a)=true then (DF a).2 else 0
 cols:=if (decide (5<k)&&pR a)=true then An (ddp a.cols) else []
 deps:=if (decide (5<k)&&pR a)=true then ddp a.deps else []
 errs:=a.errs
theorem B1A(a:Abs):DL a 6=AX a:=by
 unfold DL AX;simp
theorem YU(a:Abs):DL a 0 = { noneA with errs:=a.errs }:=by
 unfold DL noneA Ey;simp
theorem B6A(a:Abs):DL a 1=DL a 0:=by
 unfold DL;simp
theorem ExA(a:Abs):(bt a.kinds 1&&Bw a 1)=pT a/\(bt a.kinds 2&&Bw a 2)=pN a/\(bt a.kinds 3&&Bw a 3)=pD a/\(bt a.kinds 4&&Bw a 4)=pB a/\(bt a.kinds 5&&Bw a 5)=pR a:=by
 refine ⟨rfl,rfl,rfl,rfl,?_⟩;unfold pR Bw;simp only [Bool.and_assoc]
theorem Zr(h:qP:=by
 rw [e3];cases pD a<;>cases pN a<;>cases pT a<;>simp<;>decide):qP:=h
theorem ZM(h:qP:=by
 rw [e4];cases pB a<;>cases pD a<;>cases pN a<;>cases pT a<;>simp<;>decide):qP:=h
theorem AmA(h:qP:=by
 rw [e5];cases pR a<;>cases pB a<;>cases pD a<;>cases pN a<;>cases pT a<;>simp<;>decide):qP:=h
theorem UE(h:qP:=by
 obtain ⟨e1,e2,e3,e4,e5⟩:=ExA a;have hk:k=1\/k=2\/k=3\/k=4\/k=5:=(by omega);unfold DL Dp
 rcases hk with rfl|rfl|rfl|rfl|rfl
 ·rw [e1];cases pT a<;>simp<;>decide
 ·rw [e2];cases pN a<;>cases pT a<;>simp<;>decide
 ·exact Zr
 ·exact ZM
 ·exact AmA):qP:=h
theorem DlA(a:Abs)(k:Nat)(h1:1<=k)(h5:k<=5):DL a (k+1)=if (bt a.kinds k&&Bw a k)=true then { Dp a k (DL a k) with kinds:=bits .or .i64 (DL a k).kinds ((2^k:Nat):Int) } else DL a k:=by
 exact UE
theorem Hr(a:Abs)(k:Nat)(h1:1<=k)(h5:k<=5):DL a (k+1)=if (bt a.kinds k&&Bw a k)=true then { Dp a k (DL a k) with kinds:=(DL a k).kinds+((2^k:Nat):Int) } else DL a k:=by
 exact UE
theorem IA(a:Abs)(k:Nat):0<=(DL a k).kinds/\(DL a k).kinds<=62:=by
 show 0<=Ey _ _ _ _ _/\Ey _ _ _ _ _<=62;unfold Ey;constructor<;>(repeat' split)<;>omega
theorem GNA(a:Abs)(h:k<=4):(DL a k).bo=0:=by
 unfold DL;simp;omega
theorem Ws(a:Abs)(h:k<=5):(DL a k).cols=[]/\(DL a k).deps=[]:=by
 unfold DL;constructor<;>simp<;>omega
