/- Lemmas. No conditions. -/
import Derived.Test.YtidacnalcdhckaaGreatDoorOq17
import Derived.Sort.Walk0
set_option maxRecDepth 100000
set_option maxHeartbeats 2000000
namespace Go.Proofs.YtidacnalcdhckaaGreatDoor
open Go Go.RowKit Tryz
variable {qP:Prop}

theorem Au{S:NP}{w ws w9:World}(hx:Ext w ws)(hb:ButS S ws w9)(hS:∀ b,S b→w.heap.size≤b):Ext w w9 :=
 ⟨hb.os.trans hx.os,hb.tape.trans hx.tape,hb.output.trans hx.output,Nat.le_trans hx.size hb.size,fun b h=>(hb.block b (Nat.lt_of_lt_of_le h hx.size) fun hs=>by have:=hS b hs;omega).trans (hx.block b h)⟩
theorem H6A(w:World)(o:Obj)(t:Nat)(cs:Array Value):Blk ((w.alloc o).alloc (.cells cs t)) (w.heap.size+1) t cs:=by
 have h:=Blk.new (w.alloc o) t cs;rwa [show (w.alloc o).heap.size=w.heap.size+1 by simp] at h
theorem ICA(w:World)(o o':Obj)(t:Nat)(cs:Array Value):Blk (((w.alloc o).alloc o').alloc (.cells cs t)) (w.heap.size+2) t cs:=by
 have h:=Blk.new ((w.alloc o).alloc o') t cs;rwa [show ((w.alloc o).alloc o').heap.size=w.heap.size+2 by simp] at h
def Em(w:World)(r:Rg)(e:Ending)(w':World):Prop:=e=.returned (Rq r)∧Ext w w'
theorem LY(h:qP:=by
 unfold CG;exact MS):qP:=h
theorem Sb(a b:Int):decide (CG a b > 0)=decide (b<a):=by
 exact LY
theorem XT(a b:Int):decide (CG a b≤0)=decide (a≤b):=by
 exact LY
theorem DiA(a b:Int):decide (CG a b<0)=decide (a<b):=by
 exact LY
theorem O0(w:World):Cl 206 #[] w (Em w IBA):=by
 go_enter func206,ntmps206
 go_wp2;refine bodyPost_ret (v:=(Rq IBA)) (by simp [results,results206,go_sem,IBA]) rfl ⟨rfl,?_⟩;exact (exaa w)
theorem Vg(w:World):Cl 63 #[] w (Em w Rg.full):=by
 go_enter func63,ntmps63
 go_wp2;refine bodyPost_ret (v:=(Rq Rg.full)) (by simp [results,results63,go_sem,Rg.full]) rfl ⟨rfl,?_⟩;exact (exaa w)
theorem Oj(h:qP:=by
 rintro e1 w1 ⟨rfl,hx1⟩;have HX:=Hd ((exaa w).trans hx1);clear hx1
 go_wp2_with fail
 go_ret;exact ⟨by rw [HE.o];rfl,HX.o⟩):qP:=h
theorem Ct(r:Rg)(w:World)(ht:Tens w):Cl 156 #[(Rq r)] w (Ae w (BF r)):=by
 obtain ⟨HC,HT,HE⟩:=Hd3 (fun w' (h:Tens w')=>DS r.ln r.ls r.hn r.hs w' h) ht (show BF r=decide (CG (mu r.ln r.ls) (mu r.hn r.hs) > 0) by rw [Sb];rfl);generalize CG (mu r.ln r.ls) (mu r.hn r.hs)=z at *;clear ht
 go_enter func156,ntmps156
 go_wp2_with fail
 refine (HC.o _ (HT.o.ext (exaa w))).mono ?_;exact Oj
theorem Lv(h:qP:=by
 go_ret;exact ⟨by rw [HF.o];rfl,HX.o⟩):qP:=h
theorem MQ(h:qP:=by
 go_wp2_with fail
 exact Lv):qP:=h
theorem Tu(h:qP:=by
 go_ret;exact ⟨by rw [HF.o];rfl,HX2.o⟩):qP:=h
theorem LS(h:qP:=by
 go_wp2_with fail
 exact Tu):qP:=h
theorem M4(r:Rg)(n s:Int)(w:World)(ht:Tens w):Cl 53 #[(Rq r),.agg #[.I n,.I s]] w (Ae w (BD r n s)):=by
 obtain ⟨HC1,HC2,HD,HT,HE⟩:=Hd5 (fun w' (h:Tens w')=>DS r.ln r.ls n s w' h) (fun w' (h:Tens w')=>DS n s r.hn r.hs w' h) (fun w'=>Ff n s w') ht (show BD r n s=(Dz n s&&decide (CG (mu r.ln r.ls) (mu n s)≤0)&&decide (CG (mu n s) (mu r.hn r.hs)≤0)) by rw [XT,XT];rfl);generalize CG (mu r.ln r.ls) (mu n s)=z at *;generalize CG (mu n s) (mu r.hn r.hs)=y at *;generalize Dz n s=b at *;clear ht
 go_enter func53,ntmps53
 go_wp2_with fail
 refine (HD.o _).mono ?_;rintro e1 w1 ⟨rfl,hx1⟩;have HX:=Hd ((exbb w).trans hx1);have hb1:=(Blk.new w 34 (Rp r)).keep (((exaa _).trans hx1).kept _);have hb2:=(H6A w (.cells (Rp r) 34) 25 #[.I n,.I s]).keep (hx1.kept _);obtain ⟨q0,q1,q2,q3⟩:=hb1.qs4;obtain ⟨q4,q5⟩:=hb2.qs2;have HT1:=Hd (HT.o.ext HX.o);clear hx1 hb1 hb2;cases b
 ·have HF:=Hd (show BD r n s=false by rw [HE.o];rfl);exact MQ
 go_wp2_with fail
 refine (HC1.o _ HT1.o).mono ?_;rintro e2 w2 ⟨rfl,hx2⟩;have HX2:=Hd (HX.o.trans hx2);have HT2:=Hd (HT1.o.ext hx2);have q0:=hx2.cell q0;have q1:=hx2.cell q1;have q2:=hx2.cell q2;have q3:=hx2.cell q3;have q4:=hx2.cell q4;have q5:=hx2.cell q5;clear hx2;by_cases hz:z≤0
 ·have HF:=Hd (show BD r n s=decide (y≤0) by rw [HE.o,decide_eq_true hz];rfl)
  go_wp2_with fail
  refine (HC2.o _ HT2.o).mono ?_;rintro e3 w3 ⟨rfl,hx3⟩;have HX3:=Hd (HX2.o.trans hx3);clear hx3
  go_wp2_with fail
  go_ret;exact ⟨BB,HX3.o⟩
 ·have HF:=Hd (show BD r n s=false by rw [HE.o,decide_eq_false hz];rfl);exact LS
def Fu(w:World)(p:Int × Int)(e:Ending)(w':World):Prop:=e=.returned (.agg #[.I p.1,.I p.2])∧Ext w w'
theorem Jr(n s:Int)(w:World):Cl 207 #[.agg #[.I n,.I s]] w (Fu w (Bg n s)):=by
 have HD:=Hd (fun w'=>Ff n s w');obtain ⟨w0,hw0⟩:=eqx ((w.alloc (.cells #[.I n,.I s] 25)).alloc (.cells #[.I 0,.I 0] 25));cases hd:Dz n s
 all_goals
  have HV:=Hd (show Bg n s=if Dz n s=true then (n,s) else (0,0) from rfl);rw [hd] at HD HV;clear hd hw0
  go_enter func207,ntmps207
  go_wp2_with fail
  refine (HD.o _).mono ?_;rintro e1 w1 ⟨rfl,hx1⟩;have hb1:=(Blk.new w 25 #[.I n,.I s]).keep (((exaa _).trans hx1).kept _);have hb2:=(H6A w (.cells #[.I n,.I s] 25) 25 #[.I 0,.I 0]).keep (hx1.kept _);obtain ⟨q0,q1⟩:=hb1.qs2;obtain ⟨q2,q3⟩:=hb2.qs2;have qf:=hb2.frozen;have ql:=hb2.lt;have HX:=Hd ((exbb w).trans hx1);clear hx1 hb1 hb2
  go_wp2_with fail
  rw [HV.o]
 ·refine bodyPost_ret (v:=.agg #[.I 0,.I 0]) (by simp [results,results207,go_sem,q2,q3]) rfl ⟨rfl,?_⟩;exact BT
 ·refine bodyPost_ret (v:=.agg #[.I n,.I s]) (by simp [results,results207,go_sem,q2,q3]) rfl ⟨rfl,?_⟩;exact BT
theorem IQ(h:qP:=by have:=HD.o;omega):qP:=h
theorem JT(n s n' s':Int)(w:World)(ht:Tens w):Cl 157 #[.agg #[.I n,.I s],.agg #[.I n',.I s']] w (Fu w (CU n s n' s')):=by
 obtain ⟨HC,HT,HE⟩:=Hd3 (fun w' (h:Tens w')=>DS n' s' n s w' h) (ht.ext ((((Ext.refl w).alloc (.cells #[.I n,.I s] 25)).alloc (.cells #[.I n',.I s'] 25)).alloc (.cells #[.I 0,.I 0] 25))) (show CU n s n' s'=if decide (CG (mu n' s') (mu n s)<0)=true then (n',s') else (n,s) by rw [DiA];simp only [decide_eq_true_eq];rfl);generalize CG (mu n' s') (mu n s)=z at *;clear ht;by_cases hz:z<0
 all_goals
  have HD:=Hd hz
  go_enter func157,ntmps157
  go_wp2_with fail
  refine (HC.o _ HT.o).mono ?_;rintro e1 w1 ⟨rfl,hx1⟩;have hb1:=(Blk.new w 25 #[.I n,.I s]).keep (((exbb _).trans hx1).kept _);have hb2:=(H6A w (.cells #[.I n,.I s] 25) 25 #[.I n',.I s']).keep (((exaa _).trans hx1).kept _);have hb3:=(ICA w (.cells #[.I n,.I s] 25) (.cells #[.I n',.I s'] 25) 25 #[.I 0,.I 0]).keep (hx1.kept _);obtain ⟨q0,q1⟩:=hb1.qs2;obtain ⟨q2,q3⟩:=hb2.qs2;obtain ⟨q4,q5⟩:=hb3.qs2;have qf:=hb3.frozen;have ql:=hb3.lt;have HX:=Hd ((excc w).trans hx1);clear hx1 hb1 hb2 hb3
  go_wp2_with fail
  rw [HE.o]
 ·rw [decide_eq_true IQ,if_pos rfl];refine bodyPost_ret (v:=.agg #[.I n',.I s']) (by simp [results,results157,go_sem,q4,q5]) rfl ⟨rfl,?_⟩;exact BT
 ·rw [decide_eq_false IQ,if_neg AC];refine bodyPost_ret (v:=.agg #[.I n,.I s]) (by simp [results,results157,go_sem,q4,q5]) rfl ⟨rfl,?_⟩;exact BT
theorem Hy(n s n' s':Int)(w:World)(ht:Tens w):Cl 158 #[.agg #[.I n,.I s],.agg #[.I n',.I s']] w (Fu w (Bm n s n' s')):=by
 obtain ⟨HC,HT,HE⟩:=Hd3 (fun w' (h:Tens w')=>DS n' s' n s w' h) (ht.ext ((((Ext.refl w).alloc (.cells #[.I n,.I s] 25)).alloc (.cells #[.I n',.I s'] 25)).alloc (.cells #[.I 0,.I 0] 25))) (show Bm n s n' s'=if decide (CG (mu n' s') (mu n s) > 0)=true then (n',s') else (n,s) by rw [Sb];simp only [decide_eq_true_eq];rfl);generalize CG (mu n' s') (mu n s)=z at *;clear ht;by_cases hz:z > 0
 all_goals
  have HD:=Hd hz
  go_enter func158,ntmps158
  go_wp2_with fail
  refine (HC.o _ HT.o).mono ?_;rintro e1 w1 ⟨rfl,hx1⟩;have hb1:=(Blk.new w 25 #[.I n,.I s]).keep (((exbb _).trans hx1).kept _);have hb2:=(H6A w (.cells #[.I n,.I s] 25) 25 #[.I n',.I s']).keep (((exaa _).trans hx1).kept _);have hb3:=(ICA w (.cells #[.I n,.I s] 25) (.cells #[.I n',.I s'] 25) 25 #[.I 0,.I 0]).keep (hx1.kept _);obtain ⟨q0,q1⟩:=hb1.qs2;obtain ⟨q2,q3⟩:=hb2.qs2;obtain ⟨q4,q5⟩:=hb3.qs2;have qf:=hb3.frozen;have ql:=hb3.lt;have HX:=Hd ((excc w).trans hx1);clear hx1 hb1 hb2 hb3
  go_wp2_with fail
  rw [HE.o]
 ·rw [decide_eq_true IQ,if_pos rfl];refine bodyPost_ret (v:=.agg #[.I n',.I s']) (by simp [results,results158,go_sem,q4,q5]) rfl ⟨rfl,?_⟩;exact BT
 ·rw [decide_eq_false IQ,if_neg AC];refine bodyPost_ret (v:=.agg #[.I n,.I s]) (by simp [results,results158,go_sem,q4,q5]) rfl ⟨rfl,?_⟩;exact BT
theorem FE(h:qP:=by
 rintro l γ w1 γ' w2 rr ⟨h1,h2⟩;refine ⟨h1.keep (rr.keptS fun b _ e m hm => ?_),rr.done _ h2⟩;rw [hm.1,h2,rr.done _ h2]):qP:=h
theorem Kv(h:qP:=by
 have hb1:=((((HB0.o.set 0 (.I u1)).set 1 (.I u2)).set 2 (.I v1)).set 3 (.I v2))
 simpa using hb1):qP:=h
theorem AU(h:qP:=by simp [Gz.put]):qP:=h
theorem DE(r:Rg)(w:World)(ht:Tens w):Cl 155 #[(Rq r)] w (Em w (CI r)):=by
 obtain ⟨w0,hw0⟩:=eqx ((w.alloc (.cells (Rp r) 34)).alloc (.cells #[.I 0,.I 0,.I 0,.I 0] 34));have hx0:Ext w w0:=Bh;have hb1:Blk w0 w.heap.size 34 (Rp r):=(by rw [hw0];exact (Blk.new _ _ _).keep ((exaa _).kept _));have hb2:Blk w0 (w.heap.size+1) 34 #[.I 0,.I 0,.I 0,.I 0]:=(by rw [hw0];exact H6A _ _ _ _);obtain ⟨HT0,HE,HN⟩:=Hd3 (ht.ext hx0) (fun w' (h:Tens w')=>Ct r w' h) (show CI r=if BF r=true then IBA else ⟨(Bg r.ln r.ls).1,(Bg r.ln r.ls).2,(Bg r.hn r.hs).1,(Bg r.hn r.hs).2⟩ from rfl);obtain ⟨⟨u1,u2⟩,hu⟩:=eqx (Bg r.ln r.ls);obtain ⟨⟨v1,v2⟩,hv⟩:=eqx (Bg r.hn r.hs);have HR1:=Hd (show ∀ w',Cl 207 #[.agg #[.I r.ln,.I r.ls]] w' (Fu w' (u1,u2)) from fun w'=>by rw [hu];exact Jr _ _ w');have HR2:=Hd (show ∀ w',Cl 207 #[.agg #[.I r.hn,.I r.hs]] w' (Fu w' (v1,v2)) from fun w'=>by rw [hv];exact Jr _ _ w');rw [←hu,←hv] at HN;obtain ⟨HX0,HW0,HB1,HB2a⟩:=Hd4 hx0 hw0 hb1 hb2;obtain ⟨g2,hg2⟩:=eqx (w.heap.size+1);obtain ⟨q0,q1,q2,q3⟩:=hb1.qs4;generalize BF r=b at *;have HGG:=Hd hg2;clear ht hx0 hw0 hb1 hb2 hu hv hg2
 go_enter func155,ntmps155
 go_wp2_with fail
 rw [←HW0.o,←HGG.o];refine (HE.o _ HT0.o).mono ?_;rintro e1 w1 ⟨rfl,hx1⟩;have HX1:=Hd (HX0.o.trans hx1);have hb2:=HB2a.o.keep (hx1.kept _);rw [←HGG.o] at hb2;obtain ⟨HB2,k0,k1,k2,k3,HG2⟩:=Hd6 hb2 (hx1.cell q0) (hx1.cell q1) (hx1.cell q2) (hx1.cell q3) (show w.heap.size≤g2 by rw [HGG.o];omega);clear hx1 hb2 q0 q1 q2 q3 HB1 HB2a HW0;cases b
 ·go_upto_region 3 with fail
  refine Qa (fun m b=>(m=1007∧b=g2)) (lk 8 [1007]) ?_
  iterate 2 refine Qp ?_
  refine Qc (x:=.agg #[.I u1,.I u2]) (fun w'=>HR1.o w') ?_
  iterate 2 refine Qp ?_
  refine Qc (x:=.agg #[.I v1,.I v2]) (fun w'=>HR2.o w') ?_;refine Qp ?_;refine Qs (fun _ γ w'=>Blk w' g2 34 #[.I u1,.I u2,.I v1,.I v2]∧γ 1007=true) ?_ ?_ ?_
  ·exact FE
  ·intro vals γ w' ρ hR hN hp hρ zs zg;have hk1007:=hN.o.key (k:=1007) AB;have hb0:=HB2.o.keep (hR.o.kept0 (S:=fun b=>b=g2) fun b _ e m hm=>by
    rw [hm.1];exact hk1007)
   have HB0:=Hd hb0;have HK:=Hd hk1007;obtain ⟨q0,q1,q2,q3⟩:=hb0.qs4;have qf:=hb0.frozen;have ql:=hb0.lt;clear hb0 hk1007;refine Qr ?_;refine ⟨γ.put 1007,H2A HK.o rfl rfl rfl Y78171d3d0 (fun b hb hm=>(((((Only.refl g2 w').set 0 (.I u1)).set 1 (.I u2)).set 2 (.I v1)).set 3 (.I v2)).block b fun e=>hm (⟨rfl,e⟩)),LK.done AB,?_,AU⟩;exact Kv
  intro vals γ w9 hR hG;refine Qx ?_;obtain ⟨hb7,-⟩:=hG 7 AB;have HB7N:=Hd hb7;clear hb7;have HXN:=Hd (show Ext w w9 from Au HX1.o (hR.buts (S:=fun b=>b=g2) (fun m b _ hm _=>hm.2)) (fun b hb=>by
   rw [hb];exact HG2.o))
  clear hR hG;obtain ⟨r0,r1,r2,r3⟩:=HB7N.o.qs4;go_wp2;rw [HN.o,if_neg AC];exact bodyPost_ret (v:=.agg #[.I u1,.I u2,.I v1,.I v2]) (by simp [results,results155,go_sem,r0,r1,r2,r3]) rfl ⟨rfl,HXN.o⟩
 ·go_wp2_with fail
  refine (O0 _).mono ?_;rintro e2 w2 ⟨rfl,hx2⟩;have HX2:=Hd (HX1.o.trans hx2);have hb2:=HB2.o.keep (hx2.kept _);obtain ⟨r0,r1,r2,r3⟩:=hb2.qs4;have qf:=hb2.frozen;have ql:=hb2.lt;clear hx2 hb2
  go_wp2_with fail
  rw [HN.o,if_pos trivial];refine bodyPost_ret (v:=(Rq IBA)) (by simp [results,results155,go_sem,r0,r1,r2,r3]) rfl ⟨rfl,?_⟩
  iterate 4 with_reducible refine Ext.set2 ?_ HG2.o _
  with_reducible exact HX2.o
theorem RK(h:qP:=by
 rcases hm with ⟨rfl,_⟩|⟨rfl,_⟩
 ·exact hk1004
 ·exact hk1005):qP:=h
theorem DP(h:qP:=by
 exact ⟨_,he,γ,H4A _ γ hx,fun _ _ _ h=>h,rfl⟩):qP:=h
theorem DR(h:qP:=by
 rintro e1 w3 ⟨he,hx⟩;exact DP):qP:=h
theorem U9(h:qP:=by
 intro vals γ w' ρ hR hN hp hρ zs zg;have hk1004:=hN.o.key (k:=1004) (by decide);have hk1005:=hN.o.key (k:=1005) (by decide);have hxx:=hR.o.ext0 (fun m b _ hm=>by
  exact RK)
 have HXW:=Hd hxx;clear hxx hk1004 hk1005;have HR:=hR;refine Qr ?_;refine (HN1.o w' (HT0.o.ext HXW.o)).mono ?_;exact DR):qP:=h
theorem Mg(h:qP:=by
 exact absurd (e.symm.trans e2) HNE2.o):qP:=h
theorem ZB(h:qP:=by
 rcases hm with ⟨rfl,e2⟩|⟨rfl,e2⟩
 ·exact Mg
 ·exact hkx):qP:=h
theorem TY(h:qP:=by
 have hkx:=hN.o.key (k:=1005) (by decide);have hbx:=HB3.o.keep (hR.o.kept0 (S:=fun b=>b=g3) fun b _ e m hm=>by
  exact ZB)
 obtain ⟨x0,x1,x2,x3⟩:=hbx.qs4;clear hkx hbx;exact Qk):qP:=h
theorem Sa(h:qP:=by
 intro vals γ w' ρ hR hN hp hρ zs zg;have hk1004:=hN.o.key (k:=1004) (by decide);have hk1005:=hN.o.key (k:=1005) (by decide);have hxx:=hR.o.ext0 (fun m b _ hm=>by
  exact RK)
 have HXW:=Hd hxx;clear hxx hk1004 hk1005;have HR:=hR;refine Qr ?_;refine (HN2.o w' (HT0.o.ext HXW.o)).mono ?_;exact DR):qP:=h
theorem Te(h:qP:=by
 exact absurd (e.symm.trans e2) HNE.o):qP:=h
theorem PK(h:qP:=by
 rintro l γ w1 γ' w2 rr ⟨h1,h2⟩;refine ⟨h1.keep (rr.keptS fun b _ e m hm => ?_),rr.done _ h2⟩
 rcases hm with ⟨rfl,e2⟩|⟨rfl,e2⟩
 ·rw [h2,rr.done _ h2]
 ·exact Te):qP:=h
theorem Zx(h:qP:=by
 rcases hm with ⟨rfl,e2⟩|⟨rfl,e2⟩
 ·exact hk1004
 ·exact Te):qP:=h
theorem Tb(h:qP:=by
 intro vals γ w' ρ hR hN hp hρ zs zg;have e2:=hρ.o 2;(conv at e2=>rhs;whnf);have hk1004:=hN.o.key (k:=1004) (by decide);have hk1005:=hN.o.key (k:=1005) (by decide);have hb0:=HB2.o.keep (hR.o.kept0 (S:=fun b=>b=g2) fun b _ e m hm=>by
  exact Zx)
 have HB0:=Hd hb0;have HK:=Hd hk1004;obtain ⟨q0,q1,q2,q3⟩:=hb0.qs4;have qf:=hb0.frozen;have ql:=hb0.lt;clear hb0 hk1004 hk1005;refine Qr ?_;refine ⟨γ.put 1004,H2A HK.o rfl rfl rfl (by simp [World.setCell]) (fun b hb hm=>(((((Only.refl g2 w').set 0 (.I x.ln)).set 1 (.I x.ls)).set 2 (.I x.hn)).set 3 (.I x.hs)).block b fun e=>hm (.inl ⟨rfl,e⟩)),LK.done (by decide),?_,by simp [Gz.put]⟩;have hb1:=((((HB0.o.set 0 (.I x.ln)).set 1 (.I x.ls)).set 2 (.I x.hn)).set 3 (.I x.hs))
 simpa using hb1):qP:=h
theorem R1(h:qP:=by
 rintro l γ w1 γ' w2 rr ⟨h1,h2⟩;refine ⟨h1.keep (rr.keptS fun b _ e m hm => ?_),rr.done _ h2⟩
 rcases hm with ⟨rfl,e2⟩|⟨rfl,e2⟩
 ·exact Mg
 ·rw [h2,rr.done _ h2]):qP:=h
theorem ALA(h:qP:=by
 rcases hm with ⟨rfl,e2⟩|⟨rfl,e2⟩
 ·exact Mg
 ·exact hk1005):qP:=h
theorem Ua(h:qP:=by
 intro vals γ w' ρ hR hN hp hρ zs zg;have hk1005:=hN.o.key (k:=1005) (by decide);have hb0:=HB3.o.keep (hR.o.kept0 (S:=fun b=>b=g3) fun b _ e m hm=>by
  exact ALA)
 have HB0:=Hd hb0;have HK:=Hd hk1005;obtain ⟨q0,q1,q2,q3⟩:=hb0.qs4;have qf:=hb0.frozen;have ql:=hb0.lt;clear hb0 hk1005;refine Qr ?_;refine ⟨γ.put 1005,H2A HK.o rfl rfl rfl (by simp [World.setCell]) (fun b hb hm=>(((((Only.refl g3 w').set 0 (.I y.ln)).set 1 (.I y.ls)).set 2 (.I y.hn)).set 3 (.I y.hs)).block b fun e=>hm (.inr ⟨rfl,e⟩)),LK.done (by decide),?_,by simp [Gz.put]⟩;have hb1:=((((HB0.o.set 0 (.I y.ln)).set 1 (.I y.ls)).set 2 (.I y.hn)).set 3 (.I y.hs))
 simpa using hb1):qP:=h
theorem RA(h:qP:=by
 rcases hm with ⟨rfl,e2⟩|⟨rfl,e2⟩
 ·exact absurd (e.symm.trans e2) HN42.o
 ·exact absurd (e.symm.trans e2) HN43.o):qP:=h
theorem O5(h:qP:=by
 rcases hb with hb|hb
 ·rw [hb];exact HG2.o
 ·rw [hb];exact HG3.o):qP:=h
theorem Sj(h:qP:=by
 have HR:=hR;refine Qr ?_;refine (HLS.o w' (HT5.o.ext HXW.o)).mono ?_;exact DR):qP:=h
theorem VR(h:qP:=by
 have HR:=hR;refine Qr ?_;refine (HGR.o w' (HT5.o.ext HXW.o)).mono ?_;exact DR):qP:=h
theorem FH(h:qP:=by rw [hw0];exact (Blk.new _ _ _).keep ((exbb _).kept _)):qP:=h
theorem Fc(h:qP:=by rw [hw0];exact (H6A _ _ _ _).keep ((exaa _).kept _)):qP:=h
theorem GP(h:qP:=by rw [hw0];exact ICA _ _ _ _ _):qP:=h
theorem KG(a b:Rg)(w:World)(ht:Tens w):Cl 82 #[(Rq a),(Rq b)] w (Em w (Cc a b)):=by
 obtain ⟨w0,hw0⟩:=eqx (((w.alloc (.cells (Rp a) 34)).alloc (.cells (Rp b) 34)).alloc (.cells #[.I 0,.I 0,.I 0,.I 0] 34));have hx0:Ext w w0:=CC;have hb2:Blk w0 w.heap.size 34 (Rp a):=FH;have hb3:Blk w0 (w.heap.size+1) 34 (Rp b):=Fc;have hb4:Blk w0 (w.heap.size+2) 34 #[.I 0,.I 0,.I 0,.I 0]:=GP;obtain ⟨g2,hg2⟩:=eqx w.heap.size;obtain ⟨g3,hg3⟩:=eqx (w.heap.size+1);obtain ⟨g4,hg4⟩:=eqx (w.heap.size+2);rw [←hg2] at hb2;rw [←hg3] at hb3;rw [←hg4] at hb4;obtain ⟨HNE,HNE2,HN42,HN43,HN24,HN34,HG2,HG3⟩:=Hd8 (show g2≠g3 by omega) (show g3≠g2 by omega) (show g4≠g2 by omega) (show g4≠g3 by omega) (show g2≠g4 by omega) (show g3≠g4 by omega) (show w.heap.size≤g2 by omega) (show w.heap.size≤g3 by omega);obtain ⟨HG4,k0,k1,k2,k3,k4,k5,k6⟩:=Hd8 (show w.heap.size≤g4 by omega) (hb2.q0) (hb2.q1) (hb2.q2) (hb2.q3) (hb3.q0) (hb3.q1) (hb3.q2);obtain ⟨k7,HT0,HTW⟩:=Hd3 (hb3.q3) (ht.ext hx0) ht;obtain ⟨x,hx⟩:=eqx (CI a);obtain ⟨y,hy⟩:=eqx (CI b);obtain ⟨HN1,HN2,HE1,HEY⟩:=Hd4 (show ∀ w',Tens w'→Cl 155 #[(Rq a)] w' (Em w' x) from fun w' h=>by rw [hx];exact DE a w' h) (show ∀ w',Tens w'→Cl 155 #[(Rq b)] w' (Em w' y) from fun w' h=>by rw [hy];exact DE b w' h) (fun w' (h:Tens w')=>Ct x w' h) (fun w' (h:Tens w')=>Ct y w' h);obtain ⟨⟨u1,u2⟩,hu⟩:=eqx (CU x.ln x.ls y.ln y.ls);obtain ⟨⟨v1,v2⟩,hv⟩:=eqx (Bm x.hn x.hs y.hn y.hs);have HLS:=Hd (show ∀ w',Tens w'→Cl 157 #[.agg #[.I x.ln,.I x.ls],.agg #[.I y.ln,.I y.ls]] w' (Fu w' (u1,u2)) from fun w' h=>by rw [hu];exact JT _ _ _ _ w' h);have HGR:=Hd (show ∀ w',Tens w'→Cl 158 #[.agg #[.I x.hn,.I x.hs],.agg #[.I y.hn,.I y.hs]] w' (Fu w' (v1,v2)) from fun w' h=>by rw [hv];exact Hy _ _ _ _ w' h);have HJ:=Hd (show Cc a b=if BF x=true then y else if BF y=true then x else ⟨u1,u2,v1,v2⟩ from by
  have h1:u1=(CU x.ln x.ls y.ln y.ls).1:=congrArg Prod.fst hu;have h2:u2=(CU x.ln x.ls y.ln y.ls).2:=congrArg Prod.snd hu;have h3:v1=(Bm x.hn x.hs y.hn y.hs).1:=congrArg Prod.fst hv;have h4:v2=(Bm x.hn x.hs y.hn y.hs).2:=congrArg Prod.snd hv;rw [h1,h2,h3,h4,hx,hy];rfl)
 generalize BF x=b1 at *;generalize BF y=b2 at *;clear hu hv;obtain ⟨HX0,HB2,HB3,HB4,HW0,HE2,HE3,HE4⟩:=Hd8 hx0 hb2 hb3 hb4 hw0 hg2 hg3 hg4;clear ht hx0 hw0 hb2 hb3 hb4 hg2 hg3 hg4 hx hy
 go_enter func82,ntmps82
 go_upto_region 1 with fail
 rw [←HW0.o,show w.heap.size+1+1=g4 from HE4.o.symm,←HE3.o,←HE2.o];refine Qa (fun m b=>(m=1004∧b=g2)∨(m=1005∧b=g3)) [(0,[1004,1005]),(1,[1004,1005]),(2,[1005]),(3,[1004,1005]),(4,[1004,1005]),(5,[1005])] ?_;refine Qp ?_;refine Qg (Rq x) ?_ ?_
 ·exact U9
 refine Qm (fun vals γ w' ρ hR hN hp hρ zs zg=>by
  exact TY) ?_
 refine Qg (Rq y) ?_ ?_
 ·exact Sa
 refine Qs (fun _ γ w'=>Blk w' g2 34 (Rp x)∧γ 1004=true) ?_ ?_ ?_
 ·exact PK
 ·exact Tb
 refine Qs (fun _ γ w'=>Blk w' g3 34 (Rp y)∧γ 1005=true) ?_ ?_ ?_
 ·exact R1
 ·exact Ua
 intro vals γ w9 hR hG;refine Qx ?_;obtain ⟨hb4,-⟩:=hG 4 AB;have HB4N:=Hd hb4;clear hb4;obtain ⟨hb5,-⟩:=hG 5 AB;have HB5N:=Hd hb5;clear hb5;have hck:=HB4.o.keep (hR.kept0 (S:=fun b=>b=g4) fun b _ e m hm=>by
  exact RA)
 have HB49:=Hd hck;clear hck;have HXN:=Hd (show Ext w w9 from Au HX0.o (hR.buts (S:=fun b=>b=g2∨b=g3) (fun m b _ hm _=>hm.imp And.right And.right)) (fun b hb=>by
  exact O5))
 clear hR hG;obtain ⟨w1,hw1⟩:=eqx w9;rw [←hw1] at HXN HB4N HB5N HB49⊢;clear hw1 HW0 HB2 HB3 HB4 k0 k1 k2 k3 k4 k5 k6 k7;have HT1:=Hd (HTW.o.ext HXN.o);obtain ⟨m0,m1,m2,m3⟩:=HB4N.o.qs4
 go_wp2_with fail
 refine (HE1.o _ HT1.o).mono ?_;rintro e2 w2 ⟨rfl,hx2⟩;have HX2:=Hd (HXN.o.trans hx2);have hb3:=HB5N.o.keep (hx2.kept _);have hb2:=HB4N.o.keep (hx2.kept _);have hb4:=HB49.o.keep (hx2.kept _);obtain ⟨HBa,HBb,HBc⟩:=Hd3 hb2 hb3 hb4;obtain ⟨m4,m5,m6,m7⟩:=hb3.qs4;obtain ⟨r0,r1,r2,r3⟩:=hb4.qs4;have qf:=hb4.frozen;have ql:=hb4.lt;have HT2:=Hd (HT1.o.ext hx2);clear hx2 hb2 hb3 hb4 m0 m1 m2 m3;cases b1
 ·go_wp2_with fail
  refine (HEY.o _ HT2.o).mono ?_;rintro e3 w3 ⟨rfl,hx3⟩;have HX5:=Hd (HX2.o.trans hx3);have hb3:=HBb.o.keep (hx3.kept _);have hb2:=HBa.o.keep (hx3.kept _);have hb4:=HBc.o.keep (hx3.kept _);obtain ⟨HT5,HB4b,j0,j1,j2,j3,j4,j5⟩:=Hd8 (HT2.o.ext hx3) hb4 (hb2.q0) (hb2.q1) (hb2.q2) (hb2.q3) (hb3.q0) (hb3.q1);have j6:=Hd (hb3.q2);have j7:=Hd (hb3.q3);have qf:=hb4.frozen;have ql:=hb4.lt;clear hx3 hb2 hb3 hb4 m4 m5 m6 m7 r0 r1 r2 r3 HBa HBb HBc;obtain ⟨w5,hw5⟩:=eqx w3;rw [←hw5] at HX5 HT5 HB4b j0 j1 j2 j3 j4 j5 j6 j7 qf ql⊢;clear hw5;cases b2
  ·go_upto_region 6 with fail
   refine Qa (fun m b=>(m=1011∧b=g4)) (lk 12 [1011]) ?_
   iterate 4 refine Qp ?_
   refine Qg (.agg #[.I u1,.I u2]) ?_ ?_
   ·intro vals γ w' ρ hR hN hp hρ zs zg;have hk1011:=hN.o.key (k:=1011) AB;have hxx:=hR.o.ext0 (fun m b _ hm=>by
     rcases hm with ⟨rfl,_⟩
     ·exact hk1011)
    have HXW:=Hd hxx;clear hxx hk1011;exact Sj
   iterate 4 refine Qp ?_
   refine Qg (.agg #[.I v1,.I v2]) ?_ ?_
   ·intro vals γ w' ρ hR hN hp hρ zs zg;have hk1011:=hN.o.key (k:=1011) AB;have hxx:=hR.o.ext0 (fun m b _ hm=>by
     rcases hm with ⟨rfl,_⟩
     ·exact hk1011)
    have HXW:=Hd hxx;clear hxx hk1011;exact VR
   refine Qp ?_;refine Qs (fun _ γ w'=>Blk w' g4 34 #[.I u1,.I u2,.I v1,.I v2]∧γ 1011=true) ?_ ?_ ?_
   ·exact FE
   ·intro vals γ w' ρ hR hN hp hρ zs zg;have hk1011:=hN.o.key (k:=1011) AB;have hb0:=HB4b.o.keep (hR.o.kept0 (S:=fun b=>b=g4) fun b _ e m hm=>by
     rw [hm.1];exact hk1011)
    have HB0:=Hd hb0;have HK:=Hd hk1011;obtain ⟨q0,q1,q2,q3⟩:=hb0.qs4;have qf:=hb0.frozen;have ql:=hb0.lt;clear hb0 hk1011;refine Qr ?_;refine ⟨γ.put 1011,H2A HK.o rfl rfl rfl Y78171d3d0 (fun b hb hm=>(((((Only.refl g4 w').set 0 (.I u1)).set 1 (.I u2)).set 2 (.I v1)).set 3 (.I v2)).block b fun e=>hm (⟨rfl,e⟩)),LK.done AB,?_,AU⟩;exact Kv
   intro vals γ w9 hR hG;refine Qx ?_;obtain ⟨hb11,-⟩:=hG 11 AB;have HB11N:=Hd hb11;clear hb11;have HXN:=Hd (show Ext w w9 from Au HX5.o (hR.buts (S:=fun b=>b=g4) (fun m b _ hm _=>hm.2)) (fun b hb=>by
    rw [hb];exact HG4.o))
   clear hR hG;obtain ⟨s0,s1,s2,s3⟩:=HB11N.o.qs4;go_wp2;rw [HJ.o,if_neg AC,if_neg AC];exact bodyPost_ret (v:=.agg #[.I u1,.I u2,.I v1,.I v2]) (by simp [results,results82,go_sem,s0,s1,s2,s3]) rfl ⟨rfl,HXN.o⟩
  ·have j0:=j0.o;have j1:=j1.o;have j2:=j2.o;have j3:=j3.o;obtain ⟨r0,r1,r2,r3⟩:=HB4b.o.qs4;go_wp2;rw [HJ.o,if_neg AC,if_pos trivial];refine bodyPost_ret (v:=(Rq x)) (by simp [results,results82,go_sem,r0,r1,r2,r3]) rfl ⟨rfl,?_⟩
   iterate 4 with_reducible refine Ext.set2 ?_ HG4.o _
   with_reducible exact HX5.o
 ·go_wp2;rw [HJ.o,if_pos trivial];refine bodyPost_ret (v:=(Rq y)) (by simp [results,results82,go_sem,r0,r1,r2,r3]) rfl ⟨rfl,?_⟩
  iterate 4 with_reducible refine Ext.set2 ?_ HG4.o _
  with_reducible exact HX2.o

theorem MA(h:qP:=by
 rcases hm with ⟨rfl,_⟩
 ·exact hk1012):qP:=h
theorem Ve(a b:Rg)(w:World)(ht:Tens w):Cl 88 #[(Rq a),(Rq b)] w (Em w (NB a b)):=by
 obtain ⟨w0,hw0⟩:=eqx (((w.alloc (.cells (Rp a) 34)).alloc (.cells (Rp b) 34)).alloc (.cells #[.I 0,.I 0,.I 0,.I 0] 34));have hx0:Ext w w0:=CC;have hb2:Blk w0 w.heap.size 34 (Rp a):=FH;have hb3:Blk w0 (w.heap.size+1) 34 (Rp b):=Fc;have hb4:Blk w0 (w.heap.size+2) 34 #[.I 0,.I 0,.I 0,.I 0]:=GP;obtain ⟨g2,hg2⟩:=eqx w.heap.size;obtain ⟨g3,hg3⟩:=eqx (w.heap.size+1);obtain ⟨g4,hg4⟩:=eqx (w.heap.size+2);rw [←hg2] at hb2;rw [←hg3] at hb3;rw [←hg4] at hb4;obtain ⟨HNE,HNE2,HN42,HN43,HN24,HN34,HG2,HG3⟩:=Hd8 (show g2≠g3 by omega) (show g3≠g2 by omega) (show g4≠g2 by omega) (show g4≠g3 by omega) (show g2≠g4 by omega) (show g3≠g4 by omega) (show w.heap.size≤g2 by omega) (show w.heap.size≤g3 by omega);obtain ⟨HG4,k0,k1,k2,k3,k4,k5,k6⟩:=Hd8 (show w.heap.size≤g4 by omega) (hb2.q0) (hb2.q1) (hb2.q2) (hb2.q3) (hb3.q0) (hb3.q1) (hb3.q2);obtain ⟨k7,HT0,HTW⟩:=Hd3 (hb3.q3) (ht.ext hx0) ht;obtain ⟨x,hx⟩:=eqx (CI a);obtain ⟨y,hy⟩:=eqx (CI b);have HN1:=Hd (show ∀ w',Tens w'→Cl 155 #[(Rq a)] w' (Em w' x) from fun w' h=>by rw [hx];exact DE a w' h);have HN2:=Hd (show ∀ w',Tens w'→Cl 155 #[(Rq b)] w' (Em w' y) from fun w' h=>by rw [hy];exact DE b w' h);obtain ⟨⟨u1,u2⟩,hu⟩:=eqx (Bm x.ln x.ls y.ln y.ls);obtain ⟨⟨v1,v2⟩,hv⟩:=eqx (CU x.hn x.hs y.hn y.hs);have HGR:=Hd (show ∀ w',Tens w'→Cl 158 #[.agg #[.I x.ln,.I x.ls],.agg #[.I y.ln,.I y.ls]] w' (Fu w' (u1,u2)) from fun w' h=>by rw [hu];exact Hy _ _ _ _ w' h);have HLS:=Hd (show ∀ w',Tens w'→Cl 157 #[.agg #[.I x.hn,.I x.hs],.agg #[.I y.hn,.I y.hs]] w' (Fu w' (v1,v2)) from fun w' h=>by rw [hv];exact JT _ _ _ _ w' h);obtain ⟨z,hz⟩:=eqx (CI ⟨u1,u2,v1,v2⟩);have HN3:=Hd (show ∀ w',Tens w'→Cl 155 #[.agg #[.I u1,.I u2,.I v1,.I v2]] w' (Em w' z) from fun w' h=>by rw [hz];exact DE ⟨u1,u2,v1,v2⟩ w' h);have HJ:=Hd (show NB a b=z from by
  have h1:u1=(Bm x.ln x.ls y.ln y.ls).1:=congrArg Prod.fst hu;have h2:u2=(Bm x.ln x.ls y.ln y.ls).2:=congrArg Prod.snd hu;have h3:v1=(CU x.hn x.hs y.hn y.hs).1:=congrArg Prod.fst hv;have h4:v2=(CU x.hn x.hs y.hn y.hs).2:=congrArg Prod.snd hv;rw [hz,h1,h2,h3,h4,hx,hy];rfl)
 clear hu hv hz;obtain ⟨HX0,HB2,HB3,HB4,HW0,HE2,HE3,HE4⟩:=Hd8 hx0 hb2 hb3 hb4 hw0 hg2 hg3 hg4;clear ht hx0 hw0 hb2 hb3 hb4 hg2 hg3 hg4 hx hy
 go_enter func88,ntmps88
 go_upto_region 1 with fail
 rw [←HW0.o,show w.heap.size+1+1=g4 from HE4.o.symm,←HE3.o,←HE2.o];refine Qa (fun m b=>(m=1004∧b=g2)∨(m=1005∧b=g3)) [(0,[1004,1005]),(1,[1004,1005]),(2,[1005]),(3,[1004,1005]),(4,[1004,1005]),(5,[1005])] ?_;refine Qp ?_;refine Qg (Rq x) ?_ ?_
 ·exact U9
 refine Qm (fun vals γ w' ρ hR hN hp hρ zs zg=>by
  exact TY) ?_
 refine Qg (Rq y) ?_ ?_
 ·exact Sa
 refine Qs (fun _ γ w'=>Blk w' g2 34 (Rp x)∧γ 1004=true) ?_ ?_ ?_
 ·exact PK
 ·exact Tb
 refine Qs (fun _ γ w'=>Blk w' g3 34 (Rp y)∧γ 1005=true) ?_ ?_ ?_
 ·exact R1
 ·exact Ua
 intro vals γ w9 hR hG;refine Qx ?_;obtain ⟨hb4,-⟩:=hG 4 AB;have HB4N:=Hd hb4;clear hb4;obtain ⟨hb5,-⟩:=hG 5 AB;have HB5N:=Hd hb5;clear hb5;have hck:=HB4.o.keep (hR.kept0 (S:=fun b=>b=g4) fun b _ e m hm=>by
  exact RA)
 have HB49:=Hd hck;clear hck;have HXN:=Hd (show Ext w w9 from Au HX0.o (hR.buts (S:=fun b=>b=g2∨b=g3) (fun m b _ hm _=>hm.imp And.right And.right)) (fun b hb=>by
  exact O5))
 clear hR hG;obtain ⟨w1,hw1⟩:=eqx w9;rw [←hw1] at HXN HB4N HB5N HB49⊢;clear hw1 HW0 HB2 HB3 HB4 k0 k1 k2 k3 k4 k5 k6 k7;have HT1:=Hd (HTW.o.ext HXN.o);obtain ⟨HX5,HT5,HB4b,j0,j1,j2,j3,j4⟩:=Hd8 HXN.o HT1.o HB49.o (HB4N.o.q0) (HB4N.o.q1) (HB4N.o.q2) (HB4N.o.q3) (HB5N.o.q0);obtain ⟨j5,j6,j7⟩:=Hd3 (HB5N.o.q1) (HB5N.o.q2) (HB5N.o.q3);obtain ⟨w5,hw5⟩:=eqx w1;rw [←hw5] at HX5 HT5 HB4b j0 j1 j2 j3 j4 j5 j6 j7⊢;clear hw5 HXN HT1 HB49 HB4N HB5N
 go_upto_region 2 with fail
 refine Qa (fun m b=>(m=1012∧b=g4)) (lk 13 [1012]) ?_
 iterate 4 refine Qp ?_
 refine Qg (.agg #[.I u1,.I u2]) ?_ ?_
 ·intro vals γ w' ρ hR hN hp hρ zs zg;have hk1012:=hN.o.key (k:=1012) AB;have hxx:=hR.o.ext0 (fun m b _ hm=>by
   exact MA)
  have HXW:=Hd hxx;clear hxx hk1012;exact VR
 iterate 4 refine Qp ?_
 refine Qg (.agg #[.I v1,.I v2]) ?_ ?_
 ·intro vals γ w' ρ hR hN hp hρ zs zg;have hk1012:=hN.o.key (k:=1012) AB;have hxx:=hR.o.ext0 (fun m b _ hm=>by
   exact MA)
  have HXW:=Hd hxx;clear hxx hk1012;exact Sj
 refine Qp ?_;refine Qg (Rq z) ?_ ?_
 ·intro vals γ w' ρ hR hN hp hρ zs zg;have hk1012:=hN.o.key (k:=1012) AB;have hxx:=hR.o.ext0 (fun m b _ hm=>by
   exact MA)
  have HXW:=Hd hxx;clear hxx hk1012;have HR:=hR;refine Qr ?_;refine (HN3.o w' (HT5.o.ext HXW.o)).mono ?_;exact DR
 refine Qs (fun _ γ w'=>Blk w' g4 34 (Rp z)∧γ 1012=true) ?_ ?_ ?_
 ·exact FE
 ·intro vals γ w' ρ hR hN hp hρ zs zg;have hk1012:=hN.o.key (k:=1012) AB;have hb0:=HB4b.o.keep (hR.o.kept0 (S:=fun b=>b=g4) fun b _ e m hm=>by
   rw [hm.1];exact hk1012)
  have HB0:=Hd hb0;have HK:=Hd hk1012;obtain ⟨q0,q1,q2,q3⟩:=hb0.qs4;have qf:=hb0.frozen;have ql:=hb0.lt;clear hb0 hk1012;refine Qr ?_;refine ⟨γ.put 1012,H2A HK.o rfl rfl rfl Y78171d3d0 (fun b hb hm=>(((((Only.refl g4 w').set 0 (.I z.ln)).set 1 (.I z.ls)).set 2 (.I z.hn)).set 3 (.I z.hs)).block b fun e=>hm (⟨rfl,e⟩)),LK.done AB,?_,AU⟩;have hb1:=((((HB0.o.set 0 (.I z.ln)).set 1 (.I z.ls)).set 2 (.I z.hn)).set 3 (.I z.hs))
  simpa using hb1
 intro vals γ w9 hR hG;refine Qx ?_;obtain ⟨hb12,-⟩:=hG 12 AB;have HB12N:=Hd hb12;clear hb12;have HXN:=Hd (show Ext w w9 from Au HX5.o (hR.buts (S:=fun b=>b=g4) (fun m b _ hm _=>hm.2)) (fun b hb=>by
  rw [hb];exact HG4.o))
 clear hR hG;obtain ⟨s0,s1,s2,s3⟩:=HB12N.o.qs4;go_wp2;rw [HJ.o];exact bodyPost_ret (v:=(Rq z)) (by simp [results,results88,go_sem,s0,s1,s2,s3]) rfl ⟨rfl,HXN.o⟩
def Cd(w:World)(p:Int × Int)(e:Ending)(w':World):Prop:=e=.returned (.agg #[.I p.1,.I p.2])∧Ext w w'
theorem Lg(w:World):Cl 208 #[] w (Cd w (1,0)):=by
 go_enter func208,ntmps208
 go_wp2;refine bodyPost_ret (v:=.agg #[.I 1,.I 0]) (by simp [results,results208,go_sem]) rfl ⟨rfl,?_⟩;exact (exaa w)
theorem F2(l h:Int)(w:World):Cl 159 #[.agg #[.I l,.I h]] w (Cd w (CQ l h)):=by
 by_cases hl:h<l
 ·have HF:=Hd (show CQ l h=(1,0) by unfold CQ;rw [if_pos hl])
  go_enter func159,ntmps159
  go_wp2_with fail
  refine (Lg _).mono ?_;rintro e1 w1 ⟨rfl,hx1⟩;have hb2:=(H6A w (.cells #[.I l,.I h] 36) 36 #[.I 0,.I 0]).keep (hx1.kept _);obtain ⟨r0,r1⟩:=hb2.qs2;have qf:=hb2.frozen;have ql:=hb2.lt;have HX:=Hd ((exbb w).trans hx1);clear hx1 hb2
  go_wp2_with fail
  rw [HF.o];refine bodyPost_ret (v:=.agg #[.I 1,.I 0]) (by simp [results,results159,go_sem,r0,r1]) rfl ⟨rfl,?_⟩;exact BT
 ·have HF:=Hd (show CQ l h=(l,h) by unfold CQ;rw [if_neg hl])
  go_enter func159,ntmps159
  go_wp2;rw [HF.o];refine bodyPost_ret (v:=.agg #[.I l,.I h]) (by simp [results,results159,go_sem]) rfl ⟨rfl,?_⟩;exact (exbb w)
theorem DM(l h l' h':Int)(w:World):Cl 89 #[.agg #[.I l,.I h],.agg #[.I l',.I h']] w (Cd w (CZ (l,h) (l',h'))):=by
 have HF:=Hd (show CZ (l,h) (l',h')=CQ (max l l') (min h h') from rfl);obtain ⟨⟨u1,u2⟩,hu⟩:=eqx (CQ (max l l') (min h h'));have HN:=Hd (show ∀ w',Cl 159 #[.agg #[.I (max l l'),.I (min h h')]] w' (Cd w' (u1,u2)) from fun w'=>by rw [hu];exact F2 _ _ w');rw [←hu] at HF;clear hu
 go_enter func89,ntmps89
 go_wp2_with fail
 refine (HN.o _).mono ?_;rintro e1 w1 ⟨rfl,hx1⟩;have hb2:=(ICA w (.cells #[.I l,.I h] 36) (.cells #[.I l',.I h'] 36) 36 #[.I 0,.I 0]).keep (hx1.kept _);obtain ⟨r0,r1⟩:=hb2.qs2;have qf:=hb2.frozen;have ql:=hb2.lt;have HX:=Hd ((excc w).trans hx1);clear hx1 hb2
 go_wp2_with fail
 rw [HF.o];refine bodyPost_ret (v:=.agg #[.I u1,.I u2]) (by simp [results,results89,go_sem,r0,r1]) rfl ⟨rfl,?_⟩;exact BT
theorem Hi(l h l' h':Int)(w:World):Cl 83 #[.agg #[.I l,.I h],.agg #[.I l',.I h']] w (Cd w (Cb (l,h) (l',h'))):=by
 by_cases h1:h<l
 ·have HF:=Hd (show Cb (l,h) (l',h')=CQ l' h' by unfold Cb;rw [if_pos h1]);obtain ⟨⟨u1,u2⟩,hu⟩:=eqx (CQ l' h');have HN:=Hd (show ∀ w',Cl 159 #[.agg #[.I l',.I h']] w' (Cd w' (u1,u2)) from fun w'=>by rw [hu];exact F2 _ _ w');rw [←hu] at HF;clear hu
  go_enter func83,ntmps83
  go_wp2_with fail
  refine (HN.o _).mono ?_;rintro e1 w1 ⟨rfl,hx1⟩;have hb2:=(ICA w (.cells #[.I l,.I h] 36) (.cells #[.I l',.I h'] 36) 36 #[.I 0,.I 0]).keep (hx1.kept _);obtain ⟨r0,r1⟩:=hb2.qs2;have qf:=hb2.frozen;have ql:=hb2.lt;have HX:=Hd ((excc w).trans hx1);clear hx1 hb2
  go_wp2_with fail
  rw [HF.o];refine bodyPost_ret (v:=.agg #[.I u1,.I u2]) (by simp [results,results83,go_sem,r0,r1]) rfl ⟨rfl,?_⟩;exact BT
 by_cases h2:h'<l'
 ·have HF:=Hd (show Cb (l,h) (l',h')=(l,h) by unfold Cb;rw [if_neg h1,if_pos h2])
  go_enter func83,ntmps83
  go_wp2;rw [HF.o];refine bodyPost_ret (v:=.agg #[.I l,.I h]) (by simp [results,results83,go_sem]) rfl ⟨rfl,?_⟩;exact (excc w)
 ·have HF:=Hd (show Cb (l,h) (l',h')=(min l l',max h h') by unfold Cb;rw [if_neg h1,if_neg h2])
  go_enter func83,ntmps83
  go_wp2;rw [HF.o];refine bodyPost_ret (v:=.agg #[.I (min l l'),.I (max h h')]) (by simp [results,results83,go_sem]) rfl ⟨rfl,?_⟩;exact (excc w)

theorem CD(h:qP:=by
 rw [hn];exact Sg):qP:=h
theorem FL(h:qP:=by
 subst this;clear hn
 go_enter func188,ntmps188
 exact Ea):qP:=h
theorem Oi(h:qP:=by
 have:n=0:=by
  exact CD
 exact FL):qP:=h
theorem IG(h:qP:=by
 have:n=6:=by
  exact CD
 exact FL):qP:=h
theorem V5(c:Int)(w:World):Cl 188 #[.int .u8 c] w (Bk w (Ev c:Int)):=by
 obtain ⟨n,hn⟩:=eqx (Ev c);rw [←hn]
 rcases (show c<32∨c=32∨(33≤c∧c≤47)∨(48≤c∧c≤57)∨(58≤c∧c≤64)∨(65≤c∧c≤90)∨(91≤c∧c≤96)∨(97≤c∧c≤122)∨(123≤c∧c≤126)∨126<c by omega) with h1|rfl|⟨h1,h2⟩|⟨h1,h2⟩|⟨h1,h2⟩|⟨h1,h2⟩|⟨h1,h2⟩|⟨h1,h2⟩|⟨h1,h2⟩|h1
 ·exact Oi
 ·have:n=5:=by
   exact CD
  exact FL
 ·exact IG
 ·have:n=1:=by
   exact CD
  exact FL
 ·exact IG
 ·have:n=2:=by
   exact CD
  exact FL
 ·exact IG
 ·have:n=3:=by
   exact CD
  exact FL
 ·exact IG
 ·exact Oi
theorem E5(h:qP:=by
 subst this;clear hn
 go_enter func177,ntmps177
 exact Ea):qP:=h
theorem Ti(h:qP:=by
 have:n=0:=by
  exact CD
 exact E5):qP:=h
theorem JG(h:qP:=by
 have:n=6:=by
  exact CD
 exact E5):qP:=h
theorem NR(c:Int)(w:World):Cl 177 #[.int .u8 c] w (Bk w (Ev c:Int)):=by
 obtain ⟨n,hn⟩:=eqx (Ev c);rw [←hn]
 rcases (show c<32∨c=32∨(33≤c∧c≤47)∨(48≤c∧c≤57)∨(58≤c∧c≤64)∨(65≤c∧c≤90)∨(91≤c∧c≤96)∨(97≤c∧c≤122)∨(123≤c∧c≤126)∨126<c by omega) with h1|rfl|⟨h1,h2⟩|⟨h1,h2⟩|⟨h1,h2⟩|⟨h1,h2⟩|⟨h1,h2⟩|⟨h1,h2⟩|⟨h1,h2⟩|h1
 ·exact Ti
 ·have:n=5:=by
   exact CD
  exact E5
 ·exact JG
 ·have:n=1:=by
   exact CD
  exact E5
 ·exact JG
 ·have:n=2:=by
   exact CD
  exact E5
 ·exact JG
 ·have:n=3:=by
   exact CD
  exact E5
 ·exact JG
 ·exact Ti
theorem ZF(s:BA)(k:Nat)(h:k<s.size):CT ((bs s).take (k+1))=bits .or .i64 (CT ((bs s).take k)) ((2^Ev (s[k].toNat:Int):Nat):Int):=by
 rw [List.take_add_one,List.getElem?_eq_getElem (by rw [GY];exact h),M8 s k h];unfold CT;rw [Option.toList_some,List.foldl_append];rfl
theorem Yl(k:Nat)(h:k≤6):wrap64 (2^k)=((2^k:Nat):Int):=by
 match k,h with
 |0,_=>unfold wrap64;decide
 |1,_=>unfold wrap64;decide
 |2,_=>unfold wrap64;decide
 |3,_=>unfold wrap64;decide
 |4,_=>unfold wrap64;decide
 |5,_=>unfold wrap64;decide
 |6,_=>unfold wrap64;decide
theorem Zg(h:qP:=by
 refine ⟨k+1,by omega,by go_num,?_⟩;rw [ZF s k hlt,←HZ.o,←HN.o];rw [Yl n hn6]):qP:=h
theorem S1(h:qP:=by
 go_round
 case rel =>
  exact Zg
 case measure=>simp [intOf];omega):qP:=h
theorem Tc(h:qP:=by
 go_wp2;go_ret;have hk':k=s.size:=(by omega);refine ⟨?_,rfl⟩;rw [HZ.o,List.take_of_length_le (by rw [GY];omega)];rfl):qP:=h
theorem El(s:BA)(hs:s.size≤4294967296)(w:World):Cl 130 #[.string s] w (Bk w (CT (bs s))):=by
 go_enter func130,ntmps130
 go_wp2
 go_loop [3,7] (fun a i=>∃ k:Nat,k≤s.size∧i=.I k∧a=.I (CT ((bs s).take k))) (fun _ i=>s.size-(intOf i).toNat)
 case atStart=>exact ⟨0,AN,rfl,rfl⟩
 case round =>
  obtain ⟨k,hk,rfl,rfl⟩:=hrel;obtain ⟨z,hz⟩:=eqx (CT ((bs s).take k));rw [←hz];have HZ:=Hd hz;clear hz;by_cases hlt:k<s.size
  ·obtain ⟨n,hn⟩:=eqx (Ev (s[k].toNat:Int));have hn6:n≤6:=(by rw [hn];exact Ir _);have HC:=Hd (show ∀ w',Cl 188 #[.int .u8 (s[k].toNat:Int)] w' (Bk w' (n:Int)) from fun w'=>by rw [hn];exact V5 _ w');have HN:=Hd hn;clear hn
   go_wp2_with (go_at_call 188;refine (HC.o _).mono ?_;rintro e w' ⟨rfl,rfl⟩)
   exact S1
  ·exact Tc

theorem CmA(k:Nat)(h:k≤6):wrap64 (2^k)=((2^k:Nat):Int):=Yl k h
theorem At(k:Nat)(hk:k≤6)(w:World):Cl 48 #[.I (k:Int)] w (Bk w ((2^k:Nat):Int)):=by
 have HW:=Hd (CmA k hk)
 go_enter func48,ntmps48
 go_wp2;go_ret;refine ⟨?_,rfl⟩;rw [←HW.o];rfl
theorem MI(h:qP:=by
 rw [decide_eq_false e,Bool.and_false]):qP:=h
theorem QG(h:qP:=by
 rw [CN,Js _ _ (by omega),hb,decide_eq_true rfl] at h1;cases h1):qP:=h
theorem Mp(x:Int)(k:Nat)(h:k≤6):(bits .and .i64 x ((2^k:Nat):Int) != 0)=bt x k:=by
 rw [Bool.eq_iff_iff,bne_iff_ne,ne_eq,M0 (CJ _ _ _)];constructor
 ·intro hn;refine Classical.byContradiction fun hb=>hn fun i hi => ?_;rw [CN,Js _ _ AA];by_cases e:i=k
  ·subst e;cases hbt:bt x i
   ·rfl
   ·exact absurd hbt hb
  ·exact MI
 ·intro hb hn;have h1:=hn k AA;exact QG
theorem EbA(x:Int)(k:Nat)(h:k≤6):bt x k=decide ((x / 2^k) % 2=1):=by
 unfold bt;rw [BitVec.getLsbD,BitVec.toNat_ofInt,Nat.testBit_eq_decide_div_mod_eq];rw [Bool.eq_iff_iff,decide_eq_true_eq,decide_eq_true_eq]
 match k,h with
 |0,_=>simp;omega
 |1,_=>simp;omega
 |2,_=>simp;omega
 |3,_=>simp;omega
 |4,_=>simp;omega
 |5,_=>simp;omega
 |6,_=>simp;omega
theorem FbA(x:Int)(k:Nat)(h:k≤6):(bits .and .i64 (x / 2^k) 1==1)=bt x k:=by
 have h0:bt (x / 2^k) 0=bt x k:=by
  rw [EbA _ 0 AA,EbA _ k h];simp
 rw [←h0,Bool.eq_iff_iff,beq_iff_eq];have e1:(1:Int)=((2^0:Nat):Int):=rfl;constructor
 ·intro he;have:bt (bits .and .i64 (x / 2^k) 1) 0=bt 1 0:=(by rw [he]);rw [CN,e1,Js _ _ AA,decide_eq_true rfl,Bool.and_true] at this;exact this
 ·intro hb;refine DT (CJ _ _ _) Fb fun i _ => ?_;rw [CN,e1,Js _ _ AA];by_cases e:i=0
  ·subst e;rw [hb];rfl
  ·exact MI
theorem IC(a:Abs)(A D:OA)(c e k:Nat)(hk:k≤6)(w:World):Cl 44 #[(Aq a A c D e),.I (k:Int)] w (Ae w (bt a.kinds k)):=by
 have HS:=Hd (FbA a.kinds k hk)
 go_enter func44,ntmps44
 go_wp2;go_ret;refine ⟨?_,(Ext.refl _).alloc _⟩;rw [←HS.o];rfl
end Go.Proofs.YtidacnalcdhckaaGreatDoor
