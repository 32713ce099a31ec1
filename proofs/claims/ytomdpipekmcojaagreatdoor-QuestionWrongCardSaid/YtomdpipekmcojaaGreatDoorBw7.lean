/- The reference's plus: decimals as numbers of any size. Conditions: bounds on sizes. -/
import Derived.Test.YtomdpipekmcojaaGreatDoorBw6
import Derived.WalkLawsBesides
namespace Go.Proofs.YtomdpipekmcojaaGreatDoor
open Go Go.RowKit

def sv (neg:Bool) (n:Nat):Int:=if neg then -(n:Int) else n
def RetPl (w:World) (v:Int) (s:Nat) (e:Ending) (w':World):Prop:=∃ (neg:Bool) (r:ByteArray) (n:Nat),e=.returned (.agg #[.bool neg,.string r,.int .i64 (s:Int)])∧isN r n∧sv neg n=v∧n<256 ^ 50∧Ext w w'
theorem wide_lt {n k:Nat} (hn:n<256 ^ 20) (hk:k≤6):n*10 ^ k<256 ^ 40:=by
 have h1:10 ^ k≤10 ^ 6:=Nat.pow_le_pow_right (by decide) hk;have h2:n*10 ^ k≤256 ^ 20*10 ^ 6:=Nat.mul_le_mul (by omega) h1;exact Nat.lt_of_le_of_lt h2 (by decide)
theorem swap_mem {w w4 w6:World} {gx gy g3 t:Nat} {u0 u1 u2:Value} {p0 p1 p2 q0 q1 q2:Value} {o:Obj} (hw:w6=(((((((w4.setCell ⟨gx,0,none⟩ q0).setCell ⟨gx,1,none⟩ q1).setCell ⟨gx,2,none⟩ q2).setCell ⟨gy,0,none⟩ p0).setCell ⟨gy,1,none⟩ p1).setCell ⟨gy,2,none⟩ p2).alloc o))
  (hb:Blk w4 gx t #[u0,u1,u2]) (hx:Ext w w4) (hxy:gx≠gy) (hx3:g3≠gx) (h3y:g3≠gy) (h1:w.heap.size≤gx) (h2:w.heap.size≤gy):Kept (fun b=>b=g3) w4 w6∧Ext w w6∧Blk w6 gx t #[q0,q1,q2]:=by
 subst hw;have st:∀ (gg:Nat) {a b:World} {g i:Nat} {u:Value},Kept (fun x=>x=gg) a b→g≠gg→Kept (fun x=>x=gg) a (b.setCell ⟨g,i,none⟩ u):=fun gg a b g i u h e=>Kept.set2 (S:=fun x=>x=gg) h e;refine ⟨?_,?_,?_⟩
 ·refine Kept.trans ?_ (Kept.alloc _ _ _);exact st g3 (st g3 (st g3 (st g3 (st g3 (st g3 (Kept.refl _ _) hx3.symm) hx3.symm) hx3.symm) h3y.symm) h3y.symm) h3y.symm
 ·exact (((((((hx.set2 h1 _).set2 h1 _).set2 h1 _).set2 h2 _).set2 h2 _).set2 h2 _).alloc _)
 ·have h3:Blk (((w4.setCell ⟨gx,0,none⟩ q0).setCell ⟨gx,1,none⟩ q1).setCell ⟨gx,2,none⟩ q2) gx t #[q0,q1,q2]:=((hb.set 0 q0).set 1 q1).set 2 q2;exact h3.keep ((st gx (st gx (st gx (Kept.refl _ _) hxy.symm) hxy.symm) hxy.symm).trans (Kept.alloc _ _ _))
set_option maxRecDepth 100000 in
set_option maxHeartbeats 4000000 in
theorem r04_plus (n1 n2:Bool) (N1 N2:ByteArray) (s1 s2 S:Nat) (h1:N1.size≤4294967296) (h2:N2.size≤4294967296) (hN1:nval N1<256 ^ 20) (hN2:nval N2<256 ^ 20) (hs1:s1≤6) (hs2:s2≤6) (hS:S=max s1 s2) (w:World) :
  Calls Tryz.prog 236 #[.agg #[.bool n1,.string N1,.int .i64 (s1:Int)],.agg #[.bool n2,.string N2,.int .i64 (s2:Int)]] w (RetPl w (sv n1 (nval N1*10 ^ (S-s1))+sv n2 (nval N2*10 ^ (S-s2))) S):=by
 obtain ⟨w0,hw0⟩:∃ w0,w0=((w.alloc (.cells #[.bool n1,.string N1,.int .i64 (s1:Int)] 250)).alloc (.cells #[.bool n2,.string N2,.int .i64 (s2:Int)] 250)).alloc (.cells #[.bool false,.string ⟨#[]⟩,.int .i64 0] 250):=⟨_,rfl⟩;have hb1:Blk w0 w.heap.size 250 #[.bool n1,.string N1,.int .i64 (s1:Int)]:=(by rw [hw0]; exact ((Blk.new _ _ _).keep (Kept.alloc _ _ _)).keep (Kept.alloc _ _ _));have hb2:Blk w0 (w.heap.size+1) 250 #[.bool n2,.string N2,.int .i64 (s2:Int)]:=by
  rw [hw0];have:=(Blk.new (w.alloc (.cells #[.bool n1,.string N1,.int .i64 (s1:Int)] 250)) 250 #[.bool n2,.string N2,.int .i64 (s2:Int)]).keep (Kept.alloc _ _ (.cells #[.bool false,.string ⟨#[]⟩,.int .i64 0] 250))
  simpa using this
 have hb3:Blk w0 (w.heap.size+1+1) 250 #[.bool false,.string ⟨#[]⟩,.int .i64 0]:=by
  rw [hw0];have:=Blk.new ((w.alloc (.cells #[.bool n1,.string N1,.int .i64 (s1:Int)] 250)).alloc (.cells #[.bool n2,.string N2,.int .i64 (s2:Int)] 250)) 250 #[.bool false,.string ⟨#[]⟩,.int .i64 0]
  simpa using this
 have hx0:Ext w w0:=(by rw [hw0]; exact (((Ext.refl w).alloc _).alloc _).alloc _);obtain ⟨g1,hg1⟩:∃ g1,g1=w.heap.size:=⟨_,rfl⟩;obtain ⟨g2,hg2⟩:∃ g2,g2=w.heap.size+1:=⟨_,rfl⟩;obtain ⟨g3,hg3⟩:∃ g3,g3=w.heap.size+1+1:=⟨_,rfl⟩;have HW0:=Hd hw0;have HG1:=Hd hg1;have HG2:=Hd hg2;have HG3:=Hd hg3;have HGW:w.heap.size≤g3:=(by omega);rw [← hg1] at hb1;rw [← hg2] at hb2;rw [← hg3] at hb3;have HC1:=Hd hb1;have HC2:=Hd hb2;have HC3:=Hd hb3;have HX0:=Hd hx0;have HS:=Hd (show max (s1:Int) (s2:Int)=(S:Int) by omega);have ha1:s1≤S:=(by omega);have ha2:s2≤S:=(by omega);have ha6:S≤6:=(by omega);have HM1:=Hd (wide_lt hN1 (k:=S-s1) (by omega));have HM2:=Hd (wide_lt hN2 (k:=S-s2) (by omega));obtain ⟨m1,hm1⟩:∃ m1,m1=nval N1*10 ^ (S-s1):=⟨_,rfl⟩;obtain ⟨m2,hm2⟩:∃ m2,m2=nval N2*10 ^ (S-s2):=⟨_,rfl⟩;rw [← hm1] at HM1 ⊢;rw [← hm2] at HM2 ⊢;have HE1:=Hd hm1;have HE2:=Hd hm2;have HP1:=Hd (show nval N1<256 ^ 50 from Nat.lt_trans hN1 (Nat.pow_lt_pow_right (by decide) (by decide)));have HP2:=Hd (show nval N2<256 ^ 50 from Nat.lt_trans hN2 (Nat.pow_lt_pow_right (by decide) (by decide)));clear hb1 hb2 hb3 hx0 hw0 hg1 hg2 hg3 hS hm1 hm2 hN1 hN2
 go_enter Tryz.func236,Tryz.ntmps236
 go_wp2_with fail
 rw [← HW0.o,← HG3.o,← HG2.o,← HG1.o,HS.o];refine (r04_wider n1 N1 s1 S h1 HP1.o ha1 ha6 w0).mono ?_;rintro e1 w1 ⟨r1,rfl,hr1,hx1⟩;rw [← HE1.o] at hr1;have HR1:=Hd hr1;obtain ⟨w2,hw2⟩:∃ w2,w2=w1.alloc (.cells #[.bool n1,.string r1,.int .i64 (S:Int)] 250):=⟨_,rfl⟩;obtain ⟨gx,hgx⟩:∃ gx,gx=w1.heap.size:=⟨_,rfl⟩;have hx12:Ext w1 w2:=(by rw [hw2]; exact (Ext.refl _).alloc _);have HBX:=Hd (show Blk w2 gx 250 #[.bool n1,.string r1,.int .i64 (S:Int)] by rw [hw2,hgx]; exact Blk.new _ _ _);have HX2:=Hd (HX0.o.trans (hx1.trans hx12));have HB1:=Hd (HC1.o.keep (hx1.kept _));have HB2:=Hd (HC2.o.keep (hx1.kept _));have HD1:=Hd (HC1.o.keep ((hx1.trans hx12).kept _));have HD2:=Hd (HC2.o.keep ((hx1.trans hx12).kept _));have HD3:=Hd (HC3.o.keep ((hx1.trans hx12).kept _));have hx3:g3≠gx:=(by have:=HC3.o.lt; have:=hx1.size; omega);have HW2:=Hd hw2;have HGX:=Hd hgx;have hgw:w.heap.size≤gx:=(by have:=HX0.o.size; have:=hx1.size; omega);have p0:=HB1.o.cell (i:=0) rfl;have p1:=HB1.o.cell (i:=1) rfl;have p2:=HB1.o.cell (i:=2) rfl;have pf:=HB1.o.frozen;have pl:=HB1.o.lt;have q0:=HB2.o.cell (i:=0) rfl;have q1:=HB2.o.cell (i:=1) rfl;have q2:=HB2.o.cell (i:=2) rfl;have qf:=HB2.o.frozen;have ql:=HB2.o.lt;clear hr1 hw2 hgx hx12 hx1 HC1 HC2 HC3 HX0 HW0
 go_wp2_with fail
 rw [← HW2.o,← HGX.o,HS.o];refine (r04_wider n2 N2 s2 S h2 HP2.o ha2 ha6 w2).mono ?_;rintro e3 w3 ⟨r2,rfl,hr2,hx3⟩;rw [← HE2.o] at hr2;have HR2:=Hd hr2;obtain ⟨w4,hw4⟩:∃ w4,w4=w3.alloc (.cells #[.bool n2,.string r2,.int .i64 (S:Int)] 250):=⟨_,rfl⟩;obtain ⟨gy,hgy⟩:∃ gy,gy=w3.heap.size:=⟨_,rfl⟩;have hx34:Ext w3 w4:=(by rw [hw4]; exact (Ext.refl _).alloc _);have HBY:=Hd (show Blk w4 gy 250 #[.bool n2,.string r2,.int .i64 (S:Int)] by rw [hw4,hgy]; exact Blk.new _ _ _);have HBX3:=Hd (HBX.o.keep (hx3.kept _));have HBX4:=Hd (HBX.o.keep ((hx3.trans hx34).kept _));have HX4:=Hd (HX2.o.trans (hx3.trans hx34));have HE3:=Hd (HD3.o.keep ((hx3.trans hx34).kept _));have hxy:gx≠gy:=(by have:=HBX.o.lt; have:=hx3.size; omega);have h3y:g3≠gy:=(by have:=HD3.o.lt; have:=hx3.size; omega);have hgw2:w.heap.size≤gy:=(by have:=HX2.o.size; have:=hx3.size; omega);have HW4:=Hd hw4;have HGY:=Hd hgy;have HR1b:=HR1;have x0:=HBX3.o.cell (i:=0) rfl;have x1:=HBX3.o.cell (i:=1) rfl;have x2:=HBX3.o.cell (i:=2) rfl;have xf:=HBX3.o.frozen;have xl:=HBX3.o.lt;clear hr2 hw4 hgy hx34 hx3 HD1 HD2 HD3 HX2 HW2 HBX p0 p1 p2 pf pl q0 q1 q2 qf ql
 rcases n1 with _ | _ <;> rcases n2 with _ | _
 ·go_upto_region 4 with fail
  rw [← HW4.o,← HGY.o];clear x0 x1 x2 xf xl;refine wp_region_chain (by kernel_rfl) (fun i=>[i]) (by kernel_rfl) (LX (fun m b=>m=1010∧b=g3)) (LX.refl _) (LX.trans _) (LM [(10,[1010])]) gh0 (LM.zero _) ?_;apply Chain.pure (LX.refl _) (by rfl)
  ·intro vals γ w' ρ hR hN hp hρ hc hf hg;refine ⟨rfl,?_⟩;have e5:=hρ 5;(conv at e5=>rhs; whnf);clear hR hN hp hρ;go_light;go_simp;exact ⟨rfl,rfl⟩
  ·rfl
  apply Chain.pure (LX.refl _) (by rfl)
  ·intro vals γ w' ρ hR hN hp hρ hc hf hg;refine ⟨rfl,?_⟩;have e29:ρ (.tmp 29)=_:=(hρ 29).trans (hp 0 (by decide));have hk:=hR.kept0 (S:=fun b=>b=gx∨b=gy) (fun b hb m hm=>by rcases hb with e | e <;> omega);have kx:=HBX4.o.keep (hk.mono fun b _ e=>.inl e);have ky:=HBY.o.keep (hk.mono fun b _ e=>.inr e);have kx0:=kx.cell (i:=0) rfl;have kx1:=kx.cell (i:=1) rfl;have kx2:=kx.cell (i:=2) rfl;have ky0:=ky.cell (i:=0) rfl;have ky1:=ky.cell (i:=1) rfl;have ky2:=ky.cell (i:=2) rfl;clear hk kx ky hR hN hp hρ;go_light;go_simp;exact ⟨rfl,rfl⟩
  ·rfl
  apply Chain.pure (LX.refl _) (by rfl)
  ·intro vals γ w' ρ hR hN hp hρ hc hf hg;refine ⟨rfl,?_⟩;have e5:=hρ 5;(conv at e5=>rhs; whnf);clear hR hN hp hρ;go_light;go_simp;exact ⟨rfl,rfl⟩
  ·rfl
  apply Chain.pure (LX.refl _) (by rfl)
  ·intro vals γ w' ρ hR hN hp hρ hc hf hg;refine ⟨rfl,?_⟩;have e31:ρ (.tmp 31)=_:=(hρ 31).trans (hp 2 (by decide));have hk:=hR.kept0 (S:=fun b=>b=gx∨b=gy) (fun b hb m hm=>by rcases hb with e | e <;> omega);have kx:=HBX4.o.keep (hk.mono fun b _ e=>.inl e);have ky:=HBY.o.keep (hk.mono fun b _ e=>.inr e);have kx0:=kx.cell (i:=0) rfl;have kx1:=kx.cell (i:=1) rfl;have kx2:=kx.cell (i:=2) rfl;have ky0:=ky.cell (i:=0) rfl;have ky1:=ky.cell (i:=1) rfl;have ky2:=ky.cell (i:=2) rfl;clear hk kx ky hR hN hp hρ;go_light;go_simp;exact ⟨rfl,rfl⟩
  ·rfl
  apply Chain.pure (LX.refl _) (by rfl)
  ·intro vals γ w' ρ hR hN hp hρ hc hf hg;refine ⟨rfl,?_⟩;have e6:=hρ 6;(conv at e6=>rhs; whnf);clear hR hN hp hρ;go_light;go_simp;exact ⟨rfl,rfl⟩
  ·rfl
  apply Chain.pure (LX.refl _) (by rfl)
  ·intro vals γ w' ρ hR hN hp hρ hc hf hg;refine ⟨rfl,?_⟩;have e33:ρ (.tmp 33)=_:=(hρ 33).trans (hp 4 (by decide));have hk:=hR.kept0 (S:=fun b=>b=gx∨b=gy) (fun b hb m hm=>by rcases hb with e | e <;> omega);have kx:=HBX4.o.keep (hk.mono fun b _ e=>.inl e);have ky:=HBY.o.keep (hk.mono fun b _ e=>.inr e);have kx0:=kx.cell (i:=0) rfl;have kx1:=kx.cell (i:=1) rfl;have kx2:=kx.cell (i:=2) rfl;have ky0:=ky.cell (i:=0) rfl;have ky1:=ky.cell (i:=1) rfl;have ky2:=ky.cell (i:=2) rfl;clear hk kx ky hR hN hp hρ;go_light;go_simp;exact ⟨rfl,rfl⟩
  ·rfl
  refine Chain.step (FP fun v γ w'=>∃ r,v=.string r∧isN r (m1+m2)) (by rfl) (FP.stab ?_) ?_ ?_
  ·intro v γ w1 γ' w2 r h;exact h
  ·intro vals γ w' ρ hR hN hp hρ hc hf hg;refine ⟨rfl,?_⟩;have e32:ρ (.tmp 32)=_:=(hρ 32).trans (hp 3 (by decide));have e34:ρ (.tmp 34)=_:=(hρ 34).trans (hp 5 (by decide));have HR:=Hd hR;clear hR hN hp hρ;go_light;go_simp;refine (r01_Add r1 r2 HR1.o.2.2 HR2.o.2.2 (by rw [HR1.o.1]; exact Nat.lt_trans HM1.o (Nat.pow_lt_pow_right (by decide) (by decide))) (by rw [HR2.o.1]; exact Nat.lt_trans HM2.o (Nat.pow_lt_pow_right (by decide) (by decide))) w').mono ?_;rintro e1 w3 ⟨r,he,h1,h2,h3,hx⟩;exact ⟨_,he,γ,LX.of_ext _ γ hx,fun _ _ _ h=>h,r,rfl,by rw [h1,HR1.o.1,HR2.o.1],h2,h3⟩
  apply Chain.pure (LX.refl _) (by rfl)
  ·intro vals γ w' ρ hR hN hp hρ hc hf hg;refine ⟨rfl,?_⟩;have e5:=hρ 5;(conv at e5=>rhs; whnf);clear hR hN hp hρ;go_light;go_simp;exact ⟨rfl,rfl⟩
  ·rfl
  apply Chain.pure (LX.refl _) (by rfl)
  ·intro vals γ w' ρ hR hN hp hρ hc hf hg;refine ⟨rfl,?_⟩;have e36:ρ (.tmp 36)=_:=(hρ 36).trans (hp 7 (by decide));have hk:=hR.kept0 (S:=fun b=>b=gx∨b=gy) (fun b hb m hm=>by rcases hb with e | e <;> omega);have kx:=HBX4.o.keep (hk.mono fun b _ e=>.inl e);have ky:=HBY.o.keep (hk.mono fun b _ e=>.inr e);have kx0:=kx.cell (i:=0) rfl;have kx1:=kx.cell (i:=1) rfl;have kx2:=kx.cell (i:=2) rfl;have ky0:=ky.cell (i:=0) rfl;have ky1:=ky.cell (i:=1) rfl;have ky2:=ky.cell (i:=2) rfl;clear hk kx ky hR hN hp hρ;go_light;go_simp;exact ⟨rfl,rfl⟩
  ·rfl
  refine Chain.step (FP fun v γ w'=>∃ r,v=.agg #[.bool false,.string r,.int .i64 (S:Int)]∧isN r (m1+m2)) (by rfl) (FP.stab ?_) ?_ ?_
  ·intro v γ w1 γ' w2 r h;exact h
  ·intro vals γ w' ρ hR hN hp hρ hc hf hg;refine ⟨rfl,?_⟩;have e30:ρ (.tmp 30)=_:=(hρ 30).trans (hp 1 (by decide));obtain ⟨r6,hv6,hn6⟩:=hp 6 (by decide);have e35:=(hρ 35).trans hv6;have e37:ρ (.tmp 37)=_:=(hρ 37).trans (hp 8 (by decide));have HN6:=Hd hn6;clear hR hN hp hρ hn6;go_light;go_simp;exact ⟨γ,LX.refl _ _ _,fun _ _ _ h=>h,r6,rfl,HN6.o⟩
  refine Chain.step (fun _ γ w'=>∃ r,(Blk w' g3 250 #[.bool false,.string r,.int .i64 (S:Int)]∧γ 1010=some none∧Free γ g3)∧isN r (m1+m2)) (by rfl) ?_ ?_ ?_
  ·intro l γ w1 γ' w2 rr h;obtain ⟨r,⟨h1,h2,h3⟩,hnr⟩:=h;exact ⟨r,⟨h1.keep (rr.keptS fun b _ e=>⟨by rw [e]; exact h3,fun m hm=>by rw [hm.1,h2,rr.done _ h2]⟩),rr.done _ h2,rr.free h1.lt h3⟩,hnr⟩
  ·intro vals γ w' ρ hR hN hp hρ hc hf hg;refine ⟨rfl,?_⟩;have e4:=hρ 4;(conv at e4=>rhs; whnf);obtain ⟨r,hv9,hn9⟩:=hp 9 (by decide);have e38:=(hρ 38).trans hv9;have HN9:=Hd hn9;clear hn9;have HR:=Hd hR;have hk0:=hR.key0 hN (k:=1010) (by decide) (by decide);have HK:=Hd hk0;have hb0:=HE3.o.keep ((Kept.drew _ _).trans (hR.keptS (S:=fun b=>b=g3) fun b _ e=>⟨free0 b,fun m hm=>by rw [hm.1]; exact hk0⟩));have HB0:=Hd hb0;have q0:=hb0.cell (i:=0) rfl;have q1:=hb0.cell (i:=1) rfl;have q2:=hb0.cell (i:=2) rfl;have qf:=hb0.frozen;have ql:=hb0.lt;clear hR hN hp hρ hk0 hb0;go_light;go_simp;refine ⟨γ.put 1010 none,LX.write HK.o rfl rfl rfl (by simp [World.setCell]) (fun b hb hm=>(((((Only.refl g3 w').set 0 (.bool false)).set 1 (.string r)).set 2 (.int .i64 (S:Int)))).block b fun e=>hm ⟨rfl,e⟩),LM.done (by decide) (.inr (by decide)),?_⟩;have hb1:=HB0.o;exact ⟨r,⟨by simpa using (((hb1.set 0 (.bool false)).set 1 (.string r)).set 2 (.int .i64 (S:Int))),rfl,fun ⟨k',hk'⟩=>by unfold Gh.put at hk'; split at hk'; (cases hk'); exact absurd (HR.o.old k' _ hk' (by have:=HE3.o.lt; exact this)) (by simp [gh0])⟩,HN9.o⟩
  intro vals γ w9 hR hG;have v0:vals 0=_:=hG 0 (by decide);have v1:vals 1=_:=hG 1 (by decide);have v2:vals 2=_:=hG 2 (by decide);have v3:vals 3=_:=hG 3 (by decide);have v4:vals 4=_:=hG 4 (by decide);have v5:vals 5=_:=hG 5 (by decide);obtain ⟨q6,v6,-⟩:=hG 6 (by decide);have v7:vals 7=_:=hG 7 (by decide);have v8:vals 8=_:=hG 8 (by decide);obtain ⟨q9,v9,-⟩:=hG 9 (by decide);simp only [lexFrame,Act.put,List.setIfInBounds_toArray,List.set_cons_succ,List.set_cons_zero,Nat.zero_add,Nat.reduceAdd,v0,v1,v2,v3,v4,v5,v6,v7,v8,v9];clear v0 v1 v2 v3 v4 v5 v6 v7 v8 v9;obtain ⟨r,⟨hb9,-,-⟩,hn9⟩:=hG 10 (by decide);have c0:=hb9.cell (i:=0) rfl;have c1:=hb9.cell (i:=1) rfl;have c2:=hb9.cell (i:=2) rfl;have cl:=hb9.lt;have HX9:=Hd (hR.extB HX4.o fun m b hm=>by rw [hm.2]; exact HGW);have HN9:=Hd hn9;clear hb9 hn9 hR hG;go_wp2;refine bodyPost_ret (v:=.agg #[.bool false,.string r,.int .i64 (S:Int)]) (by simp [results,Tryz.results236,go_sem,c0,c1,c2]) rfl ⟨false,r,m1+m2,rfl,HN9.o,by simp [sv]; try omega,?_,HX9.o⟩;exact Nat.lt_of_lt_of_le (Nat.add_lt_add HM1.o HM2.o) (by decide)
 ·go_wp2_with fail
  rw [← HW4.o]
  try rw [← HGY.o]
  clear x0 x1 x2 xf xl;refine (r01_Cmp r1 r2 HR1.o.2.2 HR2.o.2.2 w4).mono ?_;rintro e5 w5 ⟨rfl,rfl⟩;rw [HR1.o.1,HR2.o.1];by_cases hlt:m1<m2
  ·have hc:cmpN m1 m2<0:=(by unfold cmpN; rw [if_pos hlt]; decide);obtain ⟨cn,hcn⟩:∃ cn,cn=cmpN m1 m2:=⟨_,rfl⟩;rw [← hcn] at hc ⊢;clear hcn;have z0:=HE3.o.cell (i:=0) rfl;have z1:=HE3.o.cell (i:=1) rfl;have z2:=HE3.o.cell (i:=2) rfl;have zf:=HE3.o.frozen;have zl:=HE3.o.lt;have x0:=HBX4.o.cell (i:=0) rfl;have x1:=HBX4.o.cell (i:=1) rfl;have x2:=HBX4.o.cell (i:=2) rfl;have xf:=HBX4.o.frozen;have xl:=HBX4.o.lt;have y0:=HBY.o.cell (i:=0) rfl;have y1:=HBY.o.cell (i:=1) rfl;have y2:=HBY.o.cell (i:=2) rfl;have yf:=HBY.o.frozen;have yl:=HBY.o.lt
   go_wp2_with fail
   obtain ⟨w6,hw6⟩:∃ w6,w6=(((((((w4.setCell ⟨gx,0,none⟩ (.bool true)).setCell ⟨gx,1,none⟩ (.string r2)).setCell ⟨gx,2,none⟩ (.int .i64 (S:Int))).setCell ⟨gy,0,none⟩ (.bool false)).setCell ⟨gy,1,none⟩ (.string r1)).setCell ⟨gy,2,none⟩ (.int .i64 (S:Int))).alloc (.cells #[.bool false,.string r1,.int .i64 (S:Int)] 250)):=⟨_,rfl⟩;have hsw:=swap_mem (w:=w) (g3:=g3) hw6 HBX4.o HX4.o hxy hx3 h3y hgw hgw2;obtain ⟨hk6,hx6,hbx6⟩:=hsw;rw [← hw6];have HBX6:=Hd hbx6;have HX6:=Hd hx6;have HE6:=Hd (HE3.o.keep hk6);have hle:m1≤m2:=(by omega);have HLE:=Hd hle;clear hw6 hk6 hx6 hbx6 hle hlt hc z0 z1 z2 zf zl x0 x1 x2 xf xl y0 y1 y2 yf yl;refine (r01_Sub r2 r1 HR2.o.2.2 HR1.o.2.2 (by rw [HR2.o.1,HR1.o.1]; exact HLE.o) (by rw [HR2.o.1]; exact Nat.lt_trans HM2.o (Nat.pow_lt_pow_right (by decide) (by decide))) w6).mono ?_;rintro e7 w7 ⟨r,rfl,hr,hx7⟩;rw [HR2.o.1,HR1.o.1] at hr;obtain ⟨d,hd⟩:∃ d,d=m2-m1:=⟨_,rfl⟩;rw [← hd] at hr;have HRR:=Hd hr;have hdl:m1+d=m2:=(by have:=HLE.o; omega);have HX7:=Hd (HX6.o.trans hx7);have HE7:=Hd (HE6.o.keep (hx7.kept _));have HBX7:=Hd (HBX6.o.keep (hx7.kept _));have hrz:=can_nil hr.2.1;have HD:=Hd hdl;have z0:=HE7.o.cell (i:=0) rfl;have z1:=HE7.o.cell (i:=1) rfl;have z2:=HE7.o.cell (i:=2) rfl;have zf:=HE7.o.frozen;have zl:=HE7.o.lt;have x0:=HBX7.o.cell (i:=0) rfl;have x1:=HBX7.o.cell (i:=1) rfl;have x2:=HBX7.o.cell (i:=2) rfl;have xf:=HBX7.o.frozen;have xl:=HBX7.o.lt;by_cases h0:d=0
   ·have hs0:r.size=0:=hrz.2 (hr.1.trans h0);have hs1:¬ 0<r.size:=(by omega);clear hs0;have H0:=Hd h0;clear h0;have hz:=((HE7.o.set 0 (.bool false)).set 1 (.string r)).set 2 (.int .i64 (S:Int));have d0:=hz.cell (i:=0) rfl;have d1:=hz.cell (i:=1) rfl;have d2:=hz.cell (i:=2) rfl;have dl:=hz.lt;have HF:=Hd (show sv false d=sv false m1+sv true m2 by have:=HD.o; have:=H0.o; simp [sv]; omega);have HDL:=Hd (show d<256 ^ 50 by have h1:=HD.o; have h2:=Nat.lt_trans HM2.o (show (256:Nat) ^ 40<256 ^ 50 from Nat.pow_lt_pow_right (by decide) (by decide)); omega);clear hz hdl hr hrz hd;go_wp2;refine bodyPost_ret (v:=.agg #[.bool false,.string r,.int .i64 (S:Int)]) (by simp [results,Tryz.results236,go_sem,d0,d1,d2]) rfl ⟨false,r,d,rfl,HRR.o,HF.o,HDL.o,?_⟩;exact ((HX7.o.set2 HGW _).set2 HGW _).set2 HGW _
   ·have hs0:r.size≠0:=fun e=>h0 (hr.1.symm.trans (hrz.1 e));have hs1:0<r.size:=(by omega);clear hs0;have hz:=((HE7.o.set 0 (.bool true)).set 1 (.string r)).set 2 (.int .i64 (S:Int));have d0:=hz.cell (i:=0) rfl;have d1:=hz.cell (i:=1) rfl;have d2:=hz.cell (i:=2) rfl;have dl:=hz.lt;have HF:=Hd (show sv true d=sv false m1+sv true m2 by have:=HD.o; simp [sv]; omega);have HDL:=Hd (show d<256 ^ 50 by have h1:=HD.o; have h2:=Nat.lt_trans HM2.o (show (256:Nat) ^ 40<256 ^ 50 from Nat.pow_lt_pow_right (by decide) (by decide)); omega);clear hz hdl hr hrz hd;go_wp2;refine bodyPost_ret (v:=.agg #[.bool true,.string r,.int .i64 (S:Int)]) (by simp [results,Tryz.results236,go_sem,d0,d1,d2]) rfl ⟨true,r,d,rfl,HRR.o,HF.o,HDL.o,?_⟩;exact ((HX7.o.set2 HGW _).set2 HGW _).set2 HGW _
  ·have hc:¬ cmpN m1 m2<0:=(by unfold cmpN; rw [if_neg hlt]; split <;> decide);obtain ⟨cn,hcn⟩:∃ cn,cn=cmpN m1 m2:=⟨_,rfl⟩;rw [← hcn] at hc ⊢;clear hcn;have z0:=HE3.o.cell (i:=0) rfl;have z1:=HE3.o.cell (i:=1) rfl;have z2:=HE3.o.cell (i:=2) rfl;have zf:=HE3.o.frozen;have zl:=HE3.o.lt;have x0:=HBX4.o.cell (i:=0) rfl;have x1:=HBX4.o.cell (i:=1) rfl;have x2:=HBX4.o.cell (i:=2) rfl;have xf:=HBX4.o.frozen;have xl:=HBX4.o.lt;have y0:=HBY.o.cell (i:=0) rfl;have y1:=HBY.o.cell (i:=1) rfl;have y2:=HBY.o.cell (i:=2) rfl;have yf:=HBY.o.frozen;have yl:=HBY.o.lt
   go_wp2_with fail
   obtain ⟨w6,hw6⟩:∃ w6,w6=w4:=⟨_,rfl⟩;have hk6:Kept (fun b=>b=g3) w4 w6:=(by rw [hw6]; exact Kept.refl _ _);have hx6:Ext w w6:=(by rw [hw6]; exact HX4.o);have hbx6:Blk w6 gx 250 #[.bool false,.string r1,.int .i64 (S:Int)]:=(by rw [hw6]; exact HBX4.o);rw [← hw6];have HBX6:=Hd hbx6;have HX6:=Hd hx6;have HE6:=Hd (HE3.o.keep hk6);have hle:m2≤m1:=(by omega);have HLE:=Hd hle;clear hw6 hk6 hx6 hbx6 hle hlt hc z0 z1 z2 zf zl x0 x1 x2 xf xl y0 y1 y2 yf yl;refine (r01_Sub r1 r2 HR1.o.2.2 HR2.o.2.2 (by rw [HR1.o.1,HR2.o.1]; exact HLE.o) (by rw [HR1.o.1]; exact Nat.lt_trans HM1.o (Nat.pow_lt_pow_right (by decide) (by decide))) w6).mono ?_;rintro e7 w7 ⟨r,rfl,hr,hx7⟩;rw [HR1.o.1,HR2.o.1] at hr;obtain ⟨d,hd⟩:∃ d,d=m1-m2:=⟨_,rfl⟩;rw [← hd] at hr;have HRR:=Hd hr;have hdl:m2+d=m1:=(by have:=HLE.o; omega);have HX7:=Hd (HX6.o.trans hx7);have HE7:=Hd (HE6.o.keep (hx7.kept _));have HBX7:=Hd (HBX6.o.keep (hx7.kept _));have hrz:=can_nil hr.2.1;have HD:=Hd hdl;have z0:=HE7.o.cell (i:=0) rfl;have z1:=HE7.o.cell (i:=1) rfl;have z2:=HE7.o.cell (i:=2) rfl;have zf:=HE7.o.frozen;have zl:=HE7.o.lt;have x0:=HBX7.o.cell (i:=0) rfl;have x1:=HBX7.o.cell (i:=1) rfl;have x2:=HBX7.o.cell (i:=2) rfl;have xf:=HBX7.o.frozen;have xl:=HBX7.o.lt;by_cases h0:d=0
   ·have hs0:r.size=0:=hrz.2 (hr.1.trans h0);have hs1:¬ 0<r.size:=(by omega);clear hs0;have H0:=Hd h0;clear h0;have hz:=((HE7.o.set 0 (.bool false)).set 1 (.string r)).set 2 (.int .i64 (S:Int));have d0:=hz.cell (i:=0) rfl;have d1:=hz.cell (i:=1) rfl;have d2:=hz.cell (i:=2) rfl;have dl:=hz.lt;have HF:=Hd (show sv false d=sv false m1+sv true m2 by have:=HD.o; have:=H0.o; simp [sv]; omega);have HDL:=Hd (show d<256 ^ 50 by have h1:=HD.o; have h2:=Nat.lt_trans HM1.o (show (256:Nat) ^ 40<256 ^ 50 from Nat.pow_lt_pow_right (by decide) (by decide)); omega);clear hz hdl hr hrz hd;go_wp2;refine bodyPost_ret (v:=.agg #[.bool false,.string r,.int .i64 (S:Int)]) (by simp [results,Tryz.results236,go_sem,d0,d1,d2]) rfl ⟨false,r,d,rfl,HRR.o,HF.o,HDL.o,?_⟩;exact ((HX7.o.set2 HGW _).set2 HGW _).set2 HGW _
   ·have hs0:r.size≠0:=fun e=>h0 (hr.1.symm.trans (hrz.1 e));have hs1:0<r.size:=(by omega);clear hs0;have hz:=((HE7.o.set 0 (.bool false)).set 1 (.string r)).set 2 (.int .i64 (S:Int));have d0:=hz.cell (i:=0) rfl;have d1:=hz.cell (i:=1) rfl;have d2:=hz.cell (i:=2) rfl;have dl:=hz.lt;have HF:=Hd (show sv false d=sv false m1+sv true m2 by have:=HD.o; simp [sv]; omega);have HDL:=Hd (show d<256 ^ 50 by have h1:=HD.o; have h2:=Nat.lt_trans HM1.o (show (256:Nat) ^ 40<256 ^ 50 from Nat.pow_lt_pow_right (by decide) (by decide)); omega);clear hz hdl hr hrz hd;go_wp2;refine bodyPost_ret (v:=.agg #[.bool false,.string r,.int .i64 (S:Int)]) (by simp [results,Tryz.results236,go_sem,d0,d1,d2]) rfl ⟨false,r,d,rfl,HRR.o,HF.o,HDL.o,?_⟩;exact ((HX7.o.set2 HGW _).set2 HGW _).set2 HGW _
 ·go_wp2_with fail
  rw [← HW4.o]
  try rw [← HGY.o]
  clear x0 x1 x2 xf xl;refine (r01_Cmp r1 r2 HR1.o.2.2 HR2.o.2.2 w4).mono ?_;rintro e5 w5 ⟨rfl,rfl⟩;rw [HR1.o.1,HR2.o.1];by_cases hlt:m1<m2
  ·have hc:cmpN m1 m2<0:=(by unfold cmpN; rw [if_pos hlt]; decide);obtain ⟨cn,hcn⟩:∃ cn,cn=cmpN m1 m2:=⟨_,rfl⟩;rw [← hcn] at hc ⊢;clear hcn;have z0:=HE3.o.cell (i:=0) rfl;have z1:=HE3.o.cell (i:=1) rfl;have z2:=HE3.o.cell (i:=2) rfl;have zf:=HE3.o.frozen;have zl:=HE3.o.lt;have x0:=HBX4.o.cell (i:=0) rfl;have x1:=HBX4.o.cell (i:=1) rfl;have x2:=HBX4.o.cell (i:=2) rfl;have xf:=HBX4.o.frozen;have xl:=HBX4.o.lt;have y0:=HBY.o.cell (i:=0) rfl;have y1:=HBY.o.cell (i:=1) rfl;have y2:=HBY.o.cell (i:=2) rfl;have yf:=HBY.o.frozen;have yl:=HBY.o.lt
   go_wp2_with fail
   obtain ⟨w6,hw6⟩:∃ w6,w6=(((((((w4.setCell ⟨gx,0,none⟩ (.bool false)).setCell ⟨gx,1,none⟩ (.string r2)).setCell ⟨gx,2,none⟩ (.int .i64 (S:Int))).setCell ⟨gy,0,none⟩ (.bool true)).setCell ⟨gy,1,none⟩ (.string r1)).setCell ⟨gy,2,none⟩ (.int .i64 (S:Int))).alloc (.cells #[.bool true,.string r1,.int .i64 (S:Int)] 250)):=⟨_,rfl⟩;have hsw:=swap_mem (w:=w) (g3:=g3) hw6 HBX4.o HX4.o hxy hx3 h3y hgw hgw2;obtain ⟨hk6,hx6,hbx6⟩:=hsw;rw [← hw6];have HBX6:=Hd hbx6;have HX6:=Hd hx6;have HE6:=Hd (HE3.o.keep hk6);have hle:m1≤m2:=(by omega);have HLE:=Hd hle;clear hw6 hk6 hx6 hbx6 hle hlt hc z0 z1 z2 zf zl x0 x1 x2 xf xl y0 y1 y2 yf yl;refine (r01_Sub r2 r1 HR2.o.2.2 HR1.o.2.2 (by rw [HR2.o.1,HR1.o.1]; exact HLE.o) (by rw [HR2.o.1]; exact Nat.lt_trans HM2.o (Nat.pow_lt_pow_right (by decide) (by decide))) w6).mono ?_;rintro e7 w7 ⟨r,rfl,hr,hx7⟩;rw [HR2.o.1,HR1.o.1] at hr;obtain ⟨d,hd⟩:∃ d,d=m2-m1:=⟨_,rfl⟩;rw [← hd] at hr;have HRR:=Hd hr;have hdl:m1+d=m2:=(by have:=HLE.o; omega);have HX7:=Hd (HX6.o.trans hx7);have HE7:=Hd (HE6.o.keep (hx7.kept _));have HBX7:=Hd (HBX6.o.keep (hx7.kept _));have hrz:=can_nil hr.2.1;have HD:=Hd hdl;have z0:=HE7.o.cell (i:=0) rfl;have z1:=HE7.o.cell (i:=1) rfl;have z2:=HE7.o.cell (i:=2) rfl;have zf:=HE7.o.frozen;have zl:=HE7.o.lt;have x0:=HBX7.o.cell (i:=0) rfl;have x1:=HBX7.o.cell (i:=1) rfl;have x2:=HBX7.o.cell (i:=2) rfl;have xf:=HBX7.o.frozen;have xl:=HBX7.o.lt;by_cases h0:d=0
   ·have hs0:r.size=0:=hrz.2 (hr.1.trans h0);have hs1:¬ 0<r.size:=(by omega);clear hs0;have H0:=Hd h0;clear h0;have hz:=((HE7.o.set 0 (.bool false)).set 1 (.string r)).set 2 (.int .i64 (S:Int));have d0:=hz.cell (i:=0) rfl;have d1:=hz.cell (i:=1) rfl;have d2:=hz.cell (i:=2) rfl;have dl:=hz.lt;have HF:=Hd (show sv false d=sv true m1+sv false m2 by have:=HD.o; have:=H0.o; simp [sv]; omega);have HDL:=Hd (show d<256 ^ 50 by have h1:=HD.o; have h2:=Nat.lt_trans HM2.o (show (256:Nat) ^ 40<256 ^ 50 from Nat.pow_lt_pow_right (by decide) (by decide)); omega);clear hz hdl hr hrz hd;go_wp2;refine bodyPost_ret (v:=.agg #[.bool false,.string r,.int .i64 (S:Int)]) (by simp [results,Tryz.results236,go_sem,d0,d1,d2]) rfl ⟨false,r,d,rfl,HRR.o,HF.o,HDL.o,?_⟩;exact ((HX7.o.set2 HGW _).set2 HGW _).set2 HGW _
   ·have hs0:r.size≠0:=fun e=>h0 (hr.1.symm.trans (hrz.1 e));have hs1:0<r.size:=(by omega);clear hs0;have hz:=((HE7.o.set 0 (.bool false)).set 1 (.string r)).set 2 (.int .i64 (S:Int));have d0:=hz.cell (i:=0) rfl;have d1:=hz.cell (i:=1) rfl;have d2:=hz.cell (i:=2) rfl;have dl:=hz.lt;have HF:=Hd (show sv false d=sv true m1+sv false m2 by have:=HD.o; simp [sv]; omega);have HDL:=Hd (show d<256 ^ 50 by have h1:=HD.o; have h2:=Nat.lt_trans HM2.o (show (256:Nat) ^ 40<256 ^ 50 from Nat.pow_lt_pow_right (by decide) (by decide)); omega);clear hz hdl hr hrz hd;go_wp2;refine bodyPost_ret (v:=.agg #[.bool false,.string r,.int .i64 (S:Int)]) (by simp [results,Tryz.results236,go_sem,d0,d1,d2]) rfl ⟨false,r,d,rfl,HRR.o,HF.o,HDL.o,?_⟩;exact ((HX7.o.set2 HGW _).set2 HGW _).set2 HGW _
  ·have hc:¬ cmpN m1 m2<0:=(by unfold cmpN; rw [if_neg hlt]; split <;> decide);obtain ⟨cn,hcn⟩:∃ cn,cn=cmpN m1 m2:=⟨_,rfl⟩;rw [← hcn] at hc ⊢;clear hcn;have z0:=HE3.o.cell (i:=0) rfl;have z1:=HE3.o.cell (i:=1) rfl;have z2:=HE3.o.cell (i:=2) rfl;have zf:=HE3.o.frozen;have zl:=HE3.o.lt;have x0:=HBX4.o.cell (i:=0) rfl;have x1:=HBX4.o.cell (i:=1) rfl;have x2:=HBX4.o.cell (i:=2) rfl;have xf:=HBX4.o.frozen;have xl:=HBX4.o.lt;have y0:=HBY.o.cell (i:=0) rfl;have y1:=HBY.o.cell (i:=1) rfl;have y2:=HBY.o.cell (i:=2) rfl;have yf:=HBY.o.frozen;have yl:=HBY.o.lt
   go_wp2_with fail
   obtain ⟨w6,hw6⟩:∃ w6,w6=w4:=⟨_,rfl⟩;have hk6:Kept (fun b=>b=g3) w4 w6:=(by rw [hw6]; exact Kept.refl _ _);have hx6:Ext w w6:=(by rw [hw6]; exact HX4.o);have hbx6:Blk w6 gx 250 #[.bool true,.string r1,.int .i64 (S:Int)]:=(by rw [hw6]; exact HBX4.o);rw [← hw6];have HBX6:=Hd hbx6;have HX6:=Hd hx6;have HE6:=Hd (HE3.o.keep hk6);have hle:m2≤m1:=(by omega);have HLE:=Hd hle;clear hw6 hk6 hx6 hbx6 hle hlt hc z0 z1 z2 zf zl x0 x1 x2 xf xl y0 y1 y2 yf yl;refine (r01_Sub r1 r2 HR1.o.2.2 HR2.o.2.2 (by rw [HR1.o.1,HR2.o.1]; exact HLE.o) (by rw [HR1.o.1]; exact Nat.lt_trans HM1.o (Nat.pow_lt_pow_right (by decide) (by decide))) w6).mono ?_;rintro e7 w7 ⟨r,rfl,hr,hx7⟩;rw [HR1.o.1,HR2.o.1] at hr;obtain ⟨d,hd⟩:∃ d,d=m1-m2:=⟨_,rfl⟩;rw [← hd] at hr;have HRR:=Hd hr;have hdl:m2+d=m1:=(by have:=HLE.o; omega);have HX7:=Hd (HX6.o.trans hx7);have HE7:=Hd (HE6.o.keep (hx7.kept _));have HBX7:=Hd (HBX6.o.keep (hx7.kept _));have hrz:=can_nil hr.2.1;have HD:=Hd hdl;have z0:=HE7.o.cell (i:=0) rfl;have z1:=HE7.o.cell (i:=1) rfl;have z2:=HE7.o.cell (i:=2) rfl;have zf:=HE7.o.frozen;have zl:=HE7.o.lt;have x0:=HBX7.o.cell (i:=0) rfl;have x1:=HBX7.o.cell (i:=1) rfl;have x2:=HBX7.o.cell (i:=2) rfl;have xf:=HBX7.o.frozen;have xl:=HBX7.o.lt;by_cases h0:d=0
   ·have hs0:r.size=0:=hrz.2 (hr.1.trans h0);have hs1:¬ 0<r.size:=(by omega);clear hs0;have H0:=Hd h0;clear h0;have hz:=((HE7.o.set 0 (.bool false)).set 1 (.string r)).set 2 (.int .i64 (S:Int));have d0:=hz.cell (i:=0) rfl;have d1:=hz.cell (i:=1) rfl;have d2:=hz.cell (i:=2) rfl;have dl:=hz.lt;have HF:=Hd (show sv false d=sv true m1+sv false m2 by have:=HD.o; have:=H0.o; simp [sv]; omega);have HDL:=Hd (show d<256 ^ 50 by have h1:=HD.o; have h2:=Nat.lt_trans HM1.o (show (256:Nat) ^ 40<256 ^ 50 from Nat.pow_lt_pow_right (by decide) (by decide)); omega);clear hz hdl hr hrz hd;go_wp2;refine bodyPost_ret (v:=.agg #[.bool false,.string r,.int .i64 (S:Int)]) (by simp [results,Tryz.results236,go_sem,d0,d1,d2]) rfl ⟨false,r,d,rfl,HRR.o,HF.o,HDL.o,?_⟩;exact ((HX7.o.set2 HGW _).set2 HGW _).set2 HGW _
   ·have hs0:r.size≠0:=fun e=>h0 (hr.1.symm.trans (hrz.1 e));have hs1:0<r.size:=(by omega);clear hs0;have hz:=((HE7.o.set 0 (.bool true)).set 1 (.string r)).set 2 (.int .i64 (S:Int));have d0:=hz.cell (i:=0) rfl;have d1:=hz.cell (i:=1) rfl;have d2:=hz.cell (i:=2) rfl;have dl:=hz.lt;have HF:=Hd (show sv true d=sv true m1+sv false m2 by have:=HD.o; simp [sv]; omega);have HDL:=Hd (show d<256 ^ 50 by have h1:=HD.o; have h2:=Nat.lt_trans HM1.o (show (256:Nat) ^ 40<256 ^ 50 from Nat.pow_lt_pow_right (by decide) (by decide)); omega);clear hz hdl hr hrz hd;go_wp2;refine bodyPost_ret (v:=.agg #[.bool true,.string r,.int .i64 (S:Int)]) (by simp [results,Tryz.results236,go_sem,d0,d1,d2]) rfl ⟨true,r,d,rfl,HRR.o,HF.o,HDL.o,?_⟩;exact ((HX7.o.set2 HGW _).set2 HGW _).set2 HGW _
 ·go_upto_region 4 with fail
  rw [← HW4.o,← HGY.o];clear x0 x1 x2 xf xl;refine wp_region_chain (by kernel_rfl) (fun i=>[i]) (by kernel_rfl) (LX (fun m b=>m=1010∧b=g3)) (LX.refl _) (LX.trans _) (LM [(10,[1010])]) gh0 (LM.zero _) ?_;apply Chain.pure (LX.refl _) (by rfl)
  ·intro vals γ w' ρ hR hN hp hρ hc hf hg;refine ⟨rfl,?_⟩;have e5:=hρ 5;(conv at e5=>rhs; whnf);clear hR hN hp hρ;go_light;go_simp;exact ⟨rfl,rfl⟩
  ·rfl
  apply Chain.pure (LX.refl _) (by rfl)
  ·intro vals γ w' ρ hR hN hp hρ hc hf hg;refine ⟨rfl,?_⟩;have e29:ρ (.tmp 29)=_:=(hρ 29).trans (hp 0 (by decide));have hk:=hR.kept0 (S:=fun b=>b=gx∨b=gy) (fun b hb m hm=>by rcases hb with e | e <;> omega);have kx:=HBX4.o.keep (hk.mono fun b _ e=>.inl e);have ky:=HBY.o.keep (hk.mono fun b _ e=>.inr e);have kx0:=kx.cell (i:=0) rfl;have kx1:=kx.cell (i:=1) rfl;have kx2:=kx.cell (i:=2) rfl;have ky0:=ky.cell (i:=0) rfl;have ky1:=ky.cell (i:=1) rfl;have ky2:=ky.cell (i:=2) rfl;clear hk kx ky hR hN hp hρ;go_light;go_simp;exact ⟨rfl,rfl⟩
  ·rfl
  apply Chain.pure (LX.refl _) (by rfl)
  ·intro vals γ w' ρ hR hN hp hρ hc hf hg;refine ⟨rfl,?_⟩;have e5:=hρ 5;(conv at e5=>rhs; whnf);clear hR hN hp hρ;go_light;go_simp;exact ⟨rfl,rfl⟩
  ·rfl
  apply Chain.pure (LX.refl _) (by rfl)
  ·intro vals γ w' ρ hR hN hp hρ hc hf hg;refine ⟨rfl,?_⟩;have e31:ρ (.tmp 31)=_:=(hρ 31).trans (hp 2 (by decide));have hk:=hR.kept0 (S:=fun b=>b=gx∨b=gy) (fun b hb m hm=>by rcases hb with e | e <;> omega);have kx:=HBX4.o.keep (hk.mono fun b _ e=>.inl e);have ky:=HBY.o.keep (hk.mono fun b _ e=>.inr e);have kx0:=kx.cell (i:=0) rfl;have kx1:=kx.cell (i:=1) rfl;have kx2:=kx.cell (i:=2) rfl;have ky0:=ky.cell (i:=0) rfl;have ky1:=ky.cell (i:=1) rfl;have ky2:=ky.cell (i:=2) rfl;clear hk kx ky hR hN hp hρ;go_light;go_simp;exact ⟨rfl,rfl⟩
  ·rfl
  apply Chain.pure (LX.refl _) (by rfl)
  ·intro vals γ w' ρ hR hN hp hρ hc hf hg;refine ⟨rfl,?_⟩;have e6:=hρ 6;(conv at e6=>rhs; whnf);clear hR hN hp hρ;go_light;go_simp;exact ⟨rfl,rfl⟩
  ·rfl
  apply Chain.pure (LX.refl _) (by rfl)
  ·intro vals γ w' ρ hR hN hp hρ hc hf hg;refine ⟨rfl,?_⟩;have e33:ρ (.tmp 33)=_:=(hρ 33).trans (hp 4 (by decide));have hk:=hR.kept0 (S:=fun b=>b=gx∨b=gy) (fun b hb m hm=>by rcases hb with e | e <;> omega);have kx:=HBX4.o.keep (hk.mono fun b _ e=>.inl e);have ky:=HBY.o.keep (hk.mono fun b _ e=>.inr e);have kx0:=kx.cell (i:=0) rfl;have kx1:=kx.cell (i:=1) rfl;have kx2:=kx.cell (i:=2) rfl;have ky0:=ky.cell (i:=0) rfl;have ky1:=ky.cell (i:=1) rfl;have ky2:=ky.cell (i:=2) rfl;clear hk kx ky hR hN hp hρ;go_light;go_simp;exact ⟨rfl,rfl⟩
  ·rfl
  refine Chain.step (FP fun v γ w'=>∃ r,v=.string r∧isN r (m1+m2)) (by rfl) (FP.stab ?_) ?_ ?_
  ·intro v γ w1 γ' w2 r h;exact h
  ·intro vals γ w' ρ hR hN hp hρ hc hf hg;refine ⟨rfl,?_⟩;have e32:ρ (.tmp 32)=_:=(hρ 32).trans (hp 3 (by decide));have e34:ρ (.tmp 34)=_:=(hρ 34).trans (hp 5 (by decide));have HR:=Hd hR;clear hR hN hp hρ;go_light;go_simp;refine (r01_Add r1 r2 HR1.o.2.2 HR2.o.2.2 (by rw [HR1.o.1]; exact Nat.lt_trans HM1.o (Nat.pow_lt_pow_right (by decide) (by decide))) (by rw [HR2.o.1]; exact Nat.lt_trans HM2.o (Nat.pow_lt_pow_right (by decide) (by decide))) w').mono ?_;rintro e1 w3 ⟨r,he,h1,h2,h3,hx⟩;exact ⟨_,he,γ,LX.of_ext _ γ hx,fun _ _ _ h=>h,r,rfl,by rw [h1,HR1.o.1,HR2.o.1],h2,h3⟩
  apply Chain.pure (LX.refl _) (by rfl)
  ·intro vals γ w' ρ hR hN hp hρ hc hf hg;refine ⟨rfl,?_⟩;have e5:=hρ 5;(conv at e5=>rhs; whnf);clear hR hN hp hρ;go_light;go_simp;exact ⟨rfl,rfl⟩
  ·rfl
  apply Chain.pure (LX.refl _) (by rfl)
  ·intro vals γ w' ρ hR hN hp hρ hc hf hg;refine ⟨rfl,?_⟩;have e36:ρ (.tmp 36)=_:=(hρ 36).trans (hp 7 (by decide));have hk:=hR.kept0 (S:=fun b=>b=gx∨b=gy) (fun b hb m hm=>by rcases hb with e | e <;> omega);have kx:=HBX4.o.keep (hk.mono fun b _ e=>.inl e);have ky:=HBY.o.keep (hk.mono fun b _ e=>.inr e);have kx0:=kx.cell (i:=0) rfl;have kx1:=kx.cell (i:=1) rfl;have kx2:=kx.cell (i:=2) rfl;have ky0:=ky.cell (i:=0) rfl;have ky1:=ky.cell (i:=1) rfl;have ky2:=ky.cell (i:=2) rfl;clear hk kx ky hR hN hp hρ;go_light;go_simp;exact ⟨rfl,rfl⟩
  ·rfl
  refine Chain.step (FP fun v γ w'=>∃ r,v=.agg #[.bool true,.string r,.int .i64 (S:Int)]∧isN r (m1+m2)) (by rfl) (FP.stab ?_) ?_ ?_
  ·intro v γ w1 γ' w2 r h;exact h
  ·intro vals γ w' ρ hR hN hp hρ hc hf hg;refine ⟨rfl,?_⟩;have e30:ρ (.tmp 30)=_:=(hρ 30).trans (hp 1 (by decide));obtain ⟨r6,hv6,hn6⟩:=hp 6 (by decide);have e35:=(hρ 35).trans hv6;have e37:ρ (.tmp 37)=_:=(hρ 37).trans (hp 8 (by decide));have HN6:=Hd hn6;clear hR hN hp hρ hn6;go_light;go_simp;exact ⟨γ,LX.refl _ _ _,fun _ _ _ h=>h,r6,rfl,HN6.o⟩
  refine Chain.step (fun _ γ w'=>∃ r,(Blk w' g3 250 #[.bool true,.string r,.int .i64 (S:Int)]∧γ 1010=some none∧Free γ g3)∧isN r (m1+m2)) (by rfl) ?_ ?_ ?_
  ·intro l γ w1 γ' w2 rr h;obtain ⟨r,⟨h1,h2,h3⟩,hnr⟩:=h;exact ⟨r,⟨h1.keep (rr.keptS fun b _ e=>⟨by rw [e]; exact h3,fun m hm=>by rw [hm.1,h2,rr.done _ h2]⟩),rr.done _ h2,rr.free h1.lt h3⟩,hnr⟩
  ·intro vals γ w' ρ hR hN hp hρ hc hf hg;refine ⟨rfl,?_⟩;have e4:=hρ 4;(conv at e4=>rhs; whnf);obtain ⟨r,hv9,hn9⟩:=hp 9 (by decide);have e38:=(hρ 38).trans hv9;have HN9:=Hd hn9;clear hn9;have HR:=Hd hR;have hk0:=hR.key0 hN (k:=1010) (by decide) (by decide);have HK:=Hd hk0;have hb0:=HE3.o.keep ((Kept.drew _ _).trans (hR.keptS (S:=fun b=>b=g3) fun b _ e=>⟨free0 b,fun m hm=>by rw [hm.1]; exact hk0⟩));have HB0:=Hd hb0;have q0:=hb0.cell (i:=0) rfl;have q1:=hb0.cell (i:=1) rfl;have q2:=hb0.cell (i:=2) rfl;have qf:=hb0.frozen;have ql:=hb0.lt;clear hR hN hp hρ hk0 hb0;go_light;go_simp;refine ⟨γ.put 1010 none,LX.write HK.o rfl rfl rfl (by simp [World.setCell]) (fun b hb hm=>(((((Only.refl g3 w').set 0 (.bool true)).set 1 (.string r)).set 2 (.int .i64 (S:Int)))).block b fun e=>hm ⟨rfl,e⟩),LM.done (by decide) (.inr (by decide)),?_⟩;have hb1:=HB0.o;exact ⟨r,⟨by simpa using (((hb1.set 0 (.bool true)).set 1 (.string r)).set 2 (.int .i64 (S:Int))),rfl,fun ⟨k',hk'⟩=>by unfold Gh.put at hk'; split at hk'; (cases hk'); exact absurd (HR.o.old k' _ hk' (by have:=HE3.o.lt; exact this)) (by simp [gh0])⟩,HN9.o⟩
  intro vals γ w9 hR hG;have v0:vals 0=_:=hG 0 (by decide);have v1:vals 1=_:=hG 1 (by decide);have v2:vals 2=_:=hG 2 (by decide);have v3:vals 3=_:=hG 3 (by decide);have v4:vals 4=_:=hG 4 (by decide);have v5:vals 5=_:=hG 5 (by decide);obtain ⟨q6,v6,-⟩:=hG 6 (by decide);have v7:vals 7=_:=hG 7 (by decide);have v8:vals 8=_:=hG 8 (by decide);obtain ⟨q9,v9,-⟩:=hG 9 (by decide);simp only [lexFrame,Act.put,List.setIfInBounds_toArray,List.set_cons_succ,List.set_cons_zero,Nat.zero_add,Nat.reduceAdd,v0,v1,v2,v3,v4,v5,v6,v7,v8,v9];clear v0 v1 v2 v3 v4 v5 v6 v7 v8 v9;obtain ⟨r,⟨hb9,-,-⟩,hn9⟩:=hG 10 (by decide);have c0:=hb9.cell (i:=0) rfl;have c1:=hb9.cell (i:=1) rfl;have c2:=hb9.cell (i:=2) rfl;have cl:=hb9.lt;have HX9:=Hd (hR.extB HX4.o fun m b hm=>by rw [hm.2]; exact HGW);have HN9:=Hd hn9;clear hb9 hn9 hR hG;go_wp2;refine bodyPost_ret (v:=.agg #[.bool true,.string r,.int .i64 (S:Int)]) (by simp [results,Tryz.results236,go_sem,c0,c1,c2]) rfl ⟨true,r,m1+m2,rfl,HN9.o,by simp [sv]; try omega,?_,HX9.o⟩;exact Nat.lt_of_lt_of_le (Nat.add_lt_add HM1.o HM2.o) (by decide)
/- The reference's Cmp of decimals is that of the program. Conditions: none. -/

theorem pw_split:∀ S:Nat,S<7→∀ s:Nat,s<S+1→pw (6-(s:Int))=((10 ^ (S-s):Nat):Int)*pw (6-(S:Int)):=by decide
theorem pw_pos:∀ S:Nat,S<7→0<pw (6-(S:Int)):=by decide
theorem sv_abs (v:Int):sv (decide (v<0)) v.natAbs=v:=by unfold sv; by_cases h:v<0 <;> simp [h] <;> omega
theorem sv_not (v:Int):sv (!decide (v<0)) v.natAbs=-v:=by unfold sv; by_cases h:v<0 <;> simp [h] <;> omega
theorem sv_mul (b:Bool) (n k:Nat):sv b (n*k)=sv b n*(k:Int):=by cases b <;> simp [sv,Int.neg_mul]
structure Dc (a b v:Int) (s:Nat):Prop where
 mu:mu a b=v*pw (6-(s:Int))
 s6:s≤6
 v1:(valD a b).1=v
 v2:(valD a b).2.toNat=s
 lo:-1000000000000000≤v
 hi:v≤1000000000000000
theorem Dc.of (a b:Int):∃ v s,Dc a b v s:=by
 have h:=valD_range a b;refine ⟨(valD a b).1,(valD a b).2.toNat,?_,by omega,rfl,rfl,h.2.2.1,h.2.2.2⟩;rw [Int.toNat_of_nonneg h.1];rfl
theorem Dc.lt {a b v:Int} {s:Nat} (h:Dc a b v s):v.natAbs<256 ^ 20:=by
 have h1:=h.lo;have h2:=h.hi;exact Nat.lt_of_le_of_lt (show v.natAbs≤1000000000000000 by omega) (by decide)
theorem mu_dif {a b v a' b' v':Int} {s s' S:Nat} (h:Dc a b v s) (h':Dc a' b' v' s') (hS:S=max s s'):(v*((10 ^ (S-s):Nat):Int)+(-v')*((10 ^ (S-s'):Nat):Int))*pw (6-(S:Int))=mu a b-mu a' b':=by
 have h1:=h.s6;have h2:=h'.s6;rw [h.mu,h'.mu,pw_split S (by omega) s (by omega),pw_split S (by omega) s' (by omega),Int.add_mul,Int.neg_mul,Int.neg_mul,Int.mul_assoc,Int.mul_assoc];exact Int.sub_eq_add_neg.symm
theorem cmp_sign {V p x y:Int} (hp:0<p) (h:V*p=x-y):(V=0→cmpI x y=0)∧(V<0→cmpI x y=-1)∧(0<V→cmpI x y=1):=by
 refine ⟨fun h0 => ?_,fun h0 => ?_,fun h0 => ?_⟩
 ·rw [h0,Int.zero_mul] at h;unfold cmpI;rw [if_neg (by omega),if_neg (by omega)]
 ·have:=Int.mul_neg_of_neg_of_pos h0 hp;unfold cmpI;rw [if_pos (by omega)]
 ·have:=Int.mul_pos h0 hp;unfold cmpI;rw [if_neg (by omega),if_pos (by omega)]
set_option maxRecDepth 100000 in
set_option maxHeartbeats 4000000 in
theorem r04_Cmp (a b a' b':Int) (w:World):Calls Tryz.prog 216 #[.agg #[.int .i64 a,.int .i64 b],.agg #[.int .i64 a',.int .i64 b']] w (RetI w (cmpI (mu a b) (mu a' b'))):=by
 obtain ⟨v1,s1,hd1⟩:=Dc.of a b;obtain ⟨v2,s2,hd2⟩:=Dc.of a' b';obtain ⟨S,hS⟩:∃ S,S=max s1 s2:=⟨_,rfl⟩;have hdif:=mu_dif hd1 hd2 hS;have hsg:=cmp_sign (pw_pos S (by have:=hd1.s6; have:=hd2.s6; omega)) hdif;have HSG:=Hd hsg;have HD1:=Hd hd1;have HD2:=Hd hd2;have HS:=Hd hS;obtain ⟨n1,hn1⟩:∃ n1,n1=decide (v1<0):=⟨_,rfl⟩;obtain ⟨n2,hn2⟩:∃ n2,n2=decide (v2<0):=⟨_,rfl⟩;have HN1:=Hd hn1;have HN2:=Hd hn2;clear hdif hsg hd1 hd2 hS hn1 hn2;obtain ⟨w0,hw0⟩:∃ w0,w0=(w.alloc (.cells #[.int .i64 a,.int .i64 b] 44)).alloc (.cells #[.int .i64 a',.int .i64 b'] 44):=⟨_,rfl⟩;have hb1:Blk w0 w.heap.size 44 #[.int .i64 a,.int .i64 b]:=(by rw [hw0]; exact (Blk.new _ _ _).keep (Kept.alloc _ _ _));have hb2:Blk w0 (w.heap.size+1) 44 #[.int .i64 a',.int .i64 b']:=by
  rw [hw0];have:=Blk.new (w.alloc (.cells #[.int .i64 a,.int .i64 b] 44)) 44 #[.int .i64 a',.int .i64 b']
  simpa using this
 have hx0:Ext w w0:=(by rw [hw0]; exact ((Ext.refl w).alloc _).alloc _);have HW0:=Hd hw0;have HX0:=Hd hx0;have HB2:=Hd hb2;clear hw0 hx0 hb1 hb2
 go_enter Tryz.func216,Tryz.ntmps216
 go_wp2_with fail
 rw [← HW0.o];refine (r04_big a b w0).mono ?_;rintro e1 w1 ⟨N1,rfl,hr1,hx1⟩;rw [HD1.o.v1,HD1.o.v2,← HN1.o];rw [HD1.o.v1] at hr1;have HR1:=Hd hr1;obtain ⟨w2,hw2⟩:∃ w2,w2=w1.alloc (.cells #[.bool n1,.string N1,.int .i64 (s1:Int)] 250):=⟨_,rfl⟩;obtain ⟨gx,hgx⟩:∃ gx,gx=w1.heap.size:=⟨_,rfl⟩;have hx12:Ext w1 w2:=(by rw [hw2]; exact (Ext.refl _).alloc _);have HBX:=Hd (show Blk w2 gx 250 #[.bool n1,.string N1,.int .i64 (s1:Int)] by rw [hw2,hgx]; exact Blk.new _ _ _);have HX2:=Hd (HX0.o.trans (hx1.trans hx12));have hb2:=HB2.o.keep (hx1.kept _);have p0:=hb2.cell (i:=0) rfl;have p1:=hb2.cell (i:=1) rfl;have pl:=hb2.lt;have hgw:w.heap.size≤gx:=(by have:=HX0.o.size; have:=hx1.size; omega);have HW2:=Hd hw2;have HGX:=Hd hgx;clear hr1 hx1 hw2 hgx hx12 hb2 HB2 HX0 HW0
 go_wp2_with fail
 rw [← HW2.o,← HGX.o];clear p0 p1 pl;refine (r04_big a' b' w2).mono ?_;rintro e3 w3 ⟨N2,rfl,hr2,hx3⟩;rw [HD2.o.v1,HD2.o.v2,← HN2.o];rw [HD2.o.v1] at hr2;have HR2:=Hd hr2;obtain ⟨w4,hw4⟩:∃ w4,w4=w3.alloc (.cells #[.bool (!n2),.string N2,.int .i64 (s2:Int)] 250):=⟨_,rfl⟩;have hx34:Ext w3 w4:=(by rw [hw4]; exact (Ext.refl _).alloc _);have HX4:=Hd (HX2.o.trans (hx3.trans hx34));have hbx:=HBX.o.keep (hx3.kept _);have q0:=hbx.cell (i:=0) rfl;have q1:=hbx.cell (i:=1) rfl;have q2:=hbx.cell (i:=2) rfl;have ql:=hbx.lt;have HW4:=Hd hw4;clear hr2 hx3 hw4 hx34 hbx HX2 HW2 HBX
 go_wp2_with fail
 rw [← HW4.o];refine (r04_plus n1 (!n2) N1 N2 s1 s2 S HR1.o.2.2 HR2.o.2.2 (by rw [HR1.o.1]; exact HD1.o.lt) (by rw [HR2.o.1]; exact HD2.o.lt) HD1.o.s6 HD2.o.s6 HS.o w4).mono ?_;rintro e5 w5 ⟨neg,r,n,rfl,hr,hsv,-,hx5⟩;rw [HR1.o.1,HR2.o.1,sv_mul,sv_mul,HN1.o,HN2.o,sv_abs,sv_not] at hsv;rw [← hsv] at HSG;have hrz:=can_nil hr.2.1;rw [hr.1] at hrz;have HX5:=Hd (HX4.o.trans hx5);clear hsv hr hx5 q0 q1 q2 ql;by_cases h0:n=0
 ·have hf:=HSG.o.1 (by subst h0; cases neg <;> rfl);have HF:=Hd hf;have hs0:((r.size:Int)==0)=true:=(by rw [hrz.2 h0]; rfl);clear hf hrz;go_wp2;go_ret;exact ⟨by rw [HF.o]; rfl,HX5.o.alloc _⟩
 ·have hs0:((r.size:Int)==0)=false:=(by rw [beq_eq_false_iff_ne]; intro e; exact h0 (hrz.1 (by omega)));cases neg
  ·have HF:=Hd (HSG.o.2.2 (by simp [sv]; omega));clear hrz;go_wp2;go_ret;exact ⟨by rw [HF.o]; rfl,HX5.o.alloc _⟩
  ·have HF:=Hd (HSG.o.2.1 (by simp [sv]; omega));clear hrz;go_wp2;go_ret;exact ⟨by rw [HF.o]; rfl,HX5.o.alloc _⟩
/- The reference's Right of values that are no tables. Conditions: the value reads as data. -/

set_option maxRecDepth 100000 in
set_option maxHeartbeats 400000 in
theorem r06_Right_0 (q:Nat) (x:Val) (A B:Option Addr) (c e:Nat) (w:World) (S:Nat→Prop) (h:RV w S q x A B) (hk:x.kind=0):Calls Tryz.prog 118 #[(.agg #[.int .i64 x.kind,.string x.s,.int .i64 x.dn,.int .i64 x.ds,.int .i64 x.n,.slice A x.cols.length c,.slice B x.rows.length e])] w (RetB w (flatB x)):=by
 have hf:flatB x=(decide (0≤x.n∧x.n≤99) && decide (x=⟨x.kind,⟨#[]⟩,0,0,x.n,[],[]⟩)):=by
  cases x;simp_all [flatB,bareB]
 have HF:=Hd hf;have H:=Hd h;have k0:(x.kind==0)=true:=(by simp [hk]);have k1:(x.kind==1)=false:=(by simp [hk]);have k2:(x.kind==2)=false:=(by simp [hk]);have k3:(x.kind==3)=false:=(by simp [hk]);have k4:(x.kind==4)=false:=(by simp [hk]);have k5:(x.kind==5)=false:=(by simp [hk]);clear hf hk h;by_cases h1:0≤x.n
 ·by_cases h2:x.n≤99
  ·go_enter Tryz.func118,Tryz.ntmps118
   go_wp2_with fail
   refine (r06_Equal q x ⟨x.kind,⟨#[]⟩,0,0,x.n,[],[]⟩ A B none none c e 0 0 _ S S (H.o.keep ((((Ext.refl w).alloc _).alloc _).kept _)) (RV.mk (Nat.zero_le _) Strs.nil Rows.nil)).mono ?_;rintro e1 w2 ⟨rfl,hx2⟩;have HX2:=Hd hx2;clear hx2;go_wp2;go_ret;exact ⟨by rw [HF.o,decide_eq_true (show (0≤x.n∧x.n≤99) from ⟨h1,h2⟩),Bool.true_and]; rfl,Ext.trans (((Ext.refl w).alloc _).alloc _) HX2.o⟩
  ·go_enter Tryz.func118,Tryz.ntmps118
   go_wp2;go_ret;exact ⟨by rw [HF.o,decide_eq_false (by omega),Bool.false_and]; rfl,(((Ext.refl w).alloc _).alloc _)⟩
 ·go_enter Tryz.func118,Tryz.ntmps118
  go_wp2;go_ret;exact ⟨by rw [HF.o,decide_eq_false (by omega),Bool.false_and]; rfl,(((Ext.refl w).alloc _).alloc _)⟩

set_option maxRecDepth 100000 in
set_option maxHeartbeats 400000 in
theorem r06_Right_1 (q:Nat) (x:Val) (A B:Option Addr) (c e:Nat) (w:World) (S:Nat→Prop) (h:RV w S q x A B) (hk:x.kind=1):Calls Tryz.prog 118 #[(.agg #[.int .i64 x.kind,.string x.s,.int .i64 x.dn,.int .i64 x.ds,.int .i64 x.n,.slice A x.cols.length c,.slice B x.rows.length e])] w (RetB w (flatB x)):=by
 have hf:flatB x=(textB x.s && decide (x=⟨x.kind,x.s,0,0,0,[],[]⟩)):=by
  cases x;simp_all [flatB,bareB]
 have HF:=Hd hf;have H:=Hd h;have k0:(x.kind==0)=false:=(by simp [hk]);have k1:(x.kind==1)=true:=(by simp [hk]);have k2:(x.kind==2)=false:=(by simp [hk]);have k3:(x.kind==3)=false:=(by simp [hk]);have k4:(x.kind==4)=false:=(by simp [hk]);have k5:(x.kind==5)=false:=(by simp [hk]);clear hf hk h;have hs:=H.o.size;cases ht:textB x.s
 ·have HT:=Hd ht;clear ht
  go_enter Tryz.func118,Tryz.ntmps118
  go_wp2_with (go_at_call 164; refine (r06_Plain _ hs _).mono ?_; rintro e w' ⟨rfl,rfl⟩; rw [HT.o])
  go_ret;exact ⟨by rw [HF.o,HT.o]; rfl,(((Ext.refl w).alloc _).alloc _)⟩
 ·have HT:=Hd ht;clear ht
  go_enter Tryz.func118,Tryz.ntmps118
  go_wp2_with (go_at_call 164; refine (r06_Plain _ hs _).mono ?_; rintro e w' ⟨rfl,rfl⟩; rw [HT.o])
  refine (r06_Equal q x ⟨x.kind,x.s,0,0,0,[],[]⟩ A B none none c e 0 0 _ S S (H.o.keep ((((Ext.refl w).alloc _).alloc _).kept _)) (RV.mk H.o.size Strs.nil Rows.nil)).mono ?_;rintro e1 w2 ⟨rfl,hx2⟩;have HX2:=Hd hx2;clear hx2;go_wp2;go_ret;exact ⟨by rw [HF.o,HT.o,Bool.true_and]; rfl,Ext.trans (((Ext.refl w).alloc _).alloc _) HX2.o⟩

set_option maxRecDepth 100000 in
set_option maxHeartbeats 400000 in
theorem r06_Right_2 (q:Nat) (x:Val) (A B:Option Addr) (c e:Nat) (w:World) (S:Nat→Prop) (h:RV w S q x A B) (hk:x.kind=2):Calls Tryz.prog 118 #[(.agg #[.int .i64 x.kind,.string x.s,.int .i64 x.dn,.int .i64 x.ds,.int .i64 x.n,.slice A x.cols.length c,.slice B x.rows.length e])] w (RetB w (flatB x)):=by
 have hf:flatB x=(decR x.dn x.ds && decide (x=⟨x.kind,⟨#[]⟩,x.dn,x.ds,0,[],[]⟩)):=by
  cases x;simp_all [flatB,bareB]
 have HF:=Hd hf;have H:=Hd h;have k0:(x.kind==0)=false:=(by simp [hk]);have k1:(x.kind==1)=false:=(by simp [hk]);have k2:(x.kind==2)=true:=(by simp [hk]);have k3:(x.kind==3)=false:=(by simp [hk]);have k4:(x.kind==4)=false:=(by simp [hk]);have k5:(x.kind==5)=false:=(by simp [hk]);clear hf hk h
 go_enter Tryz.func118,Tryz.ntmps118
 go_wp2_with fail
 refine (r04_Right x.dn x.ds _).mono ?_;rintro e1 w1 ⟨rfl,hx1⟩;obtain ⟨hc1,hf1⟩:=bcell hx1;have hz1:=hx1.size;simp at hc1 hf1 hz1;have hz2:w.heap.size<w1.heap.size:=(by omega);have hz3:w.heap.size+1<w1.heap.size:=(by omega);have HX:=Hd hx1;cases ht:decR x.dn x.ds
 ·have HT:=Hd ht;clear ht hx1;go_wp2;go_ret;exact ⟨by rw [HF.o,HT.o]; rfl,Ext.trans (((Ext.refl w).alloc _).alloc _) HX.o⟩
 ·have HT:=Hd ht;clear ht hx1
  go_wp2_with fail
  refine (r06_Equal q x ⟨x.kind,⟨#[]⟩,x.dn,x.ds,0,[],[]⟩ A B none none c e 0 0 _ S S (H.o.keep ((Ext.trans (((Ext.refl w).alloc _).alloc _) HX.o).kept _)) (RV.mk (Nat.zero_le _) Strs.nil Rows.nil)).mono ?_;rintro e1 w2 ⟨rfl,hx2⟩;have HX2:=Hd hx2;clear hx2;go_wp2;go_ret;exact ⟨by rw [HF.o,HT.o,Bool.true_and]; rfl,Ext.trans (Ext.trans (((Ext.refl w).alloc _).alloc _) HX.o) HX2.o⟩

set_option maxRecDepth 100000 in
set_option maxHeartbeats 400000 in
theorem r06_Right_3 (q:Nat) (x:Val) (A B:Option Addr) (c e:Nat) (w:World) (S:Nat→Prop) (h:RV w S q x A B) (hk:x.kind=3):Calls Tryz.prog 118 #[(.agg #[.int .i64 x.kind,.string x.s,.int .i64 x.dn,.int .i64 x.ds,.int .i64 x.n,.slice A x.cols.length c,.slice B x.rows.length e])] w (RetB w (flatB x)):=by
 have hf:flatB x=(decide (0≤x.n∧x.n≤3652058) && decide (x=⟨x.kind,⟨#[]⟩,0,0,x.n,[],[]⟩)):=by
  cases x;simp_all [flatB,bareB]
 have HF:=Hd hf;have H:=Hd h;have k0:(x.kind==0)=false:=(by simp [hk]);have k1:(x.kind==1)=false:=(by simp [hk]);have k2:(x.kind==2)=false:=(by simp [hk]);have k3:(x.kind==3)=true:=(by simp [hk]);have k4:(x.kind==4)=false:=(by simp [hk]);have k5:(x.kind==5)=false:=(by simp [hk]);clear hf hk h;by_cases h1:0≤x.n
 ·by_cases h2:x.n≤3652058
  ·go_enter Tryz.func118,Tryz.ntmps118
   go_wp2_with fail
   refine (r06_Equal q x ⟨x.kind,⟨#[]⟩,0,0,x.n,[],[]⟩ A B none none c e 0 0 _ S S (H.o.keep ((((Ext.refl w).alloc _).alloc _).kept _)) (RV.mk (Nat.zero_le _) Strs.nil Rows.nil)).mono ?_;rintro e1 w2 ⟨rfl,hx2⟩;have HX2:=Hd hx2;clear hx2;go_wp2;go_ret;exact ⟨by rw [HF.o,decide_eq_true (show (0≤x.n∧x.n≤3652058) from ⟨h1,h2⟩),Bool.true_and]; rfl,Ext.trans (((Ext.refl w).alloc _).alloc _) HX2.o⟩
  ·go_enter Tryz.func118,Tryz.ntmps118
   go_wp2;go_ret;exact ⟨by rw [HF.o,decide_eq_false (by omega),Bool.false_and]; rfl,(((Ext.refl w).alloc _).alloc _)⟩
 ·go_enter Tryz.func118,Tryz.ntmps118
  go_wp2;go_ret;exact ⟨by rw [HF.o,decide_eq_false (by omega),Bool.false_and]; rfl,(((Ext.refl w).alloc _).alloc _)⟩

set_option maxRecDepth 100000 in
set_option maxHeartbeats 400000 in
theorem r06_Right_4 (q:Nat) (x:Val) (A B:Option Addr) (c e:Nat) (w:World) (S:Nat→Prop) (h:RV w S q x A B) (hk:x.kind=4):Calls Tryz.prog 118 #[(.agg #[.int .i64 x.kind,.string x.s,.int .i64 x.dn,.int .i64 x.ds,.int .i64 x.n,.slice A x.cols.length c,.slice B x.rows.length e])] w (RetB w (flatB x)):=by
 have hf:flatB x=(decide (x.n=0∨x.n=1) && decide (x=⟨x.kind,⟨#[]⟩,0,0,x.n,[],[]⟩)):=by
  cases x;simp_all [flatB,bareB]
 have HF:=Hd hf;have H:=Hd h;have k0:(x.kind==0)=false:=(by simp [hk]);have k1:(x.kind==1)=false:=(by simp [hk]);have k2:(x.kind==2)=false:=(by simp [hk]);have k3:(x.kind==3)=false:=(by simp [hk]);have k4:(x.kind==4)=true:=(by simp [hk]);have k5:(x.kind==5)=false:=(by simp [hk]);clear hf hk h;by_cases h1:x.n=0
 ·have n0:(x.n==0)=true:=(by simp [h1]);have H1:=Hd h1;clear h1
  go_enter Tryz.func118,Tryz.ntmps118
  go_wp2_with fail
  refine (r06_Equal q x ⟨x.kind,⟨#[]⟩,0,0,x.n,[],[]⟩ A B none none c e 0 0 _ S S (H.o.keep ((((Ext.refl w).alloc _).alloc _).kept _)) (RV.mk (Nat.zero_le _) Strs.nil Rows.nil)).mono ?_;rintro e1 w2 ⟨rfl,hx2⟩;have HX2:=Hd hx2;clear hx2;go_wp2;go_ret;exact ⟨by rw [HF.o,decide_eq_true (show x.n=0∨x.n=1 from .inl H1.o),Bool.true_and]; rfl,Ext.trans (((Ext.refl w).alloc _).alloc _) HX2.o⟩
 ·have n0:(x.n==0)=false:=(by simp [h1]);have H1:=Hd h1;clear h1;by_cases h2:x.n=1
  ·have n1:(x.n==1)=true:=(by simp [h2]);have H2:=Hd h2;clear h2
   go_enter Tryz.func118,Tryz.ntmps118
   go_wp2_with fail
   refine (r06_Equal q x ⟨x.kind,⟨#[]⟩,0,0,x.n,[],[]⟩ A B none none c e 0 0 _ S S (H.o.keep ((((Ext.refl w).alloc _).alloc _).kept _)) (RV.mk (Nat.zero_le _) Strs.nil Rows.nil)).mono ?_;rintro e1 w2 ⟨rfl,hx2⟩;have HX2:=Hd hx2;clear hx2;go_wp2;go_ret;exact ⟨by rw [HF.o,decide_eq_true (show x.n=0∨x.n=1 from .inr H2.o),Bool.true_and]; rfl,Ext.trans (((Ext.refl w).alloc _).alloc _) HX2.o⟩
  ·have n1:(x.n==1)=false:=(by simp [h2]);have H2:=Hd h2;clear h2
   go_enter Tryz.func118,Tryz.ntmps118
   go_wp2;go_ret;exact ⟨by rw [HF.o,decide_eq_false (show ¬ (x.n=0∨x.n=1) from fun h=>h.elim H1.o H2.o),Bool.false_and]; rfl,(((Ext.refl w).alloc _).alloc _)⟩

set_option maxRecDepth 100000 in
set_option maxHeartbeats 400000 in
theorem r06_Right_flat (q:Nat) (x:Val) (A B:Option Addr) (c e:Nat) (w:World) (S:Nat→Prop) (h:RV w S q x A B) (hk:x.kind≠5):Calls Tryz.prog 118 #[(.agg #[.int .i64 x.kind,.string x.s,.int .i64 x.dn,.int .i64 x.ds,.int .i64 x.n,.slice A x.cols.length c,.slice B x.rows.length e])] w (RetB w (flatB x)):=by
 by_cases g0:x.kind=0
 ·exact r06_Right_0 q x A B c e w S h g0
 by_cases g1:x.kind=1
 ·exact r06_Right_1 q x A B c e w S h g1
 by_cases g2:x.kind=2
 ·exact r06_Right_2 q x A B c e w S h g2
 by_cases g3:x.kind=3
 ·exact r06_Right_3 q x A B c e w S h g3
 by_cases g4:x.kind=4
 ·exact r06_Right_4 q x A B c e w S h g4
 have hf:flatB x=false:=(by simp [flatB,g0,g1,g2,g3,g4]);have HF:=Hd hf;have k0:(x.kind==0)=false:=(by simp [g0]);have k1:(x.kind==1)=false:=(by simp [g1]);have k2:(x.kind==2)=false:=(by simp [g2]);have k3:(x.kind==3)=false:=(by simp [g3]);have k4:(x.kind==4)=false:=(by simp [g4]);have k5:(x.kind==5)=false:=(by simp [hk]);clear hf hk h g0 g1 g2 g3 g4
 go_enter Tryz.func118,Tryz.ntmps118
 go_wp2;go_ret;exact ⟨by rw [HF.o]; rfl,(((Ext.refl w).alloc _).alloc _)⟩
/- The reference's Right: concordref06.Rows, Right. Conditions: the arguments read as data. -/

/- The reference's Less of values that are no tables. Conditions: the arguments read as data. -/

theorem compare_negQ:∀ (a b:List UInt8),Lib.compareBytes a b<0↔a<b
 | [],[]=>by simp [Lib.compareBytes]
 | [],_ :: _=>by simp [Lib.compareBytes]
 | _ :: _,[]=>by simp [Lib.compareBytes]
 | x :: a,y :: b=>by
  have ih:=compare_negQ a b;unfold Lib.compareBytes;rw [List.cons_lt_cons_iff];by_cases h1:x<y
  ·simp [h1]
  ·by_cases h2:y<x
   ·have hne:¬ x=y:=fun e=>by subst e; exact h1 h2
    simp [h1,h2,hne]
   ·have he:x=y:=UInt8.le_antisymm (UInt8.not_lt.1 h2) (UInt8.not_lt.1 h1);subst he;simp [h1,ih]
theorem less_cmpS (a b:ByteArray):Op.bytesLess a.toList b.toList=decide (cmpS a b<0):=by
 rw [Bool.eq_iff_iff,decide_eq_true_iff,bytesLess_eq,decide_eq_true_iff,ByteArray.toList_eq,ByteArray.toList_eq];exact (compare_negQ _ _).symm
def RetNeg (w:World) (b:Bool) (e:Ending) (w':World):Prop:=∃ n:Int,e=.returned (.int .i64 n)∧decide (n<0)=b∧Ext w w'
set_option maxRecDepth 100000 in
theorem r06_text (a b:ByteArray) (w:World):Calls Tryz.prog 215 #[.string a,.string b] w (RetNeg w (decide (cmpS a b<0))):=by
 have h:=less_cmpS a b;cases hb:Op.bytesLess a.toList b.toList
 ·rw [hb] at h;have H:=Hd h;clear h;cases hg:(Op.bytesLess a.toList b.toList || a.toList==b.toList)
  ·have he:(a.toList==b.toList)=false:=(by rw [hb] at hg; simpa using hg);clear hg
   go_enter Tryz.func215,Tryz.ntmps215
   go_wp2;go_ret;exact ⟨1,rfl,by rw [← H.o]; rfl,Ext.refl _⟩
  ·have he:(a.toList==b.toList)=true:=(by rw [hb] at hg; simpa using hg);clear hg
   go_enter Tryz.func215,Tryz.ntmps215
   go_wp2;go_ret;exact ⟨0,rfl,by rw [← H.o]; rfl,Ext.refl _⟩
 ·rw [hb] at h;have H:=Hd h;clear h
  go_enter Tryz.func215,Tryz.ntmps215
  go_wp2;go_ret;exact ⟨-1,rfl,by rw [← H.o]; rfl,Ext.refl _⟩
theorem cmpI_neg (a b:Int):decide (cmpI a b<0)=decide (a<b):=by
 unfold cmpI;by_cases h:a<b
 ·simp [h]
 ·by_cases h2:b<a
  ·simp [h,h2]
  ·simp [h,h2]
theorem flatB_n {x:Val} (h:flatB x=true) (h1:x.kind≠1) (h2:x.kind≠2):0≤x.n∧x.n≤3652058:=by
 rcases flatB_kind h with h0 | h0 | h0 | h0 | h0
 ·simp [flatB,h0] at h; omega
 ·exact absurd h0 h1
 ·exact absurd h0 h2
 ·simp [flatB,h0] at h; omega
 ·simp [flatB,h0] at h; omega
set_option maxRecDepth 100000 in
set_option maxHeartbeats 2000000 in
theorem r06_cmp (x y:Val) (A B A' B':Option Addr) (c e c' e':Nat) (w:World) (hx:flatB x=true) (hy:flatB y=true):Calls Tryz.prog 167 #[(.agg #[.int .i64 x.kind,.string x.s,.int .i64 x.dn,.int .i64 x.ds,.int .i64 x.n,.slice A x.cols.length c,.slice B x.rows.length e]),(.agg #[.int .i64 y.kind,.string y.s,.int .i64 y.dn,.int .i64 y.ds,.int .i64 y.n,.slice A' y.cols.length c',.slice B' y.rows.length e'])] w (RetNeg w (lessK x y)):=by
 obtain ⟨w0,hw0⟩:∃ w0,w0=(w.alloc (.cells #[.int .i64 x.kind,.string x.s,.int .i64 x.dn,.int .i64 x.ds,.int .i64 x.n,.slice A x.cols.length c,.slice B x.rows.length e] 47)).alloc (.cells #[.int .i64 y.kind,.string y.s,.int .i64 y.dn,.int .i64 y.ds,.int .i64 y.n,.slice A' y.cols.length c',.slice B' y.rows.length e'] 47):=⟨_,rfl⟩;obtain ⟨g1,hg1⟩:∃ g1,g1=w.heap.size:=⟨_,rfl⟩;obtain ⟨g2,hg2⟩:∃ g2,g2=w.heap.size+1:=⟨_,rfl⟩;have HW0:=Hd hw0;have HG1:=Hd hg1;have HG2:=Hd hg2;have HB1:=Hd (show Blk w0 g1 47 #[.int .i64 x.kind,.string x.s,.int .i64 x.dn,.int .i64 x.ds,.int .i64 x.n,.slice A x.cols.length c,.slice B x.rows.length e] by rw [hw0,hg1]; exact (Blk.new _ _ _).keep (Kept.alloc _ _ _));have HB2:=Hd (show Blk w0 g2 47 #[.int .i64 y.kind,.string y.s,.int .i64 y.dn,.int .i64 y.ds,.int .i64 y.n,.slice A' y.cols.length c',.slice B' y.rows.length e'] by
  rw [hw0,hg2];have:=Blk.new (w.alloc (.cells #[.int .i64 x.kind,.string x.s,.int .i64 x.dn,.int .i64 x.ds,.int .i64 x.n,.slice A x.cols.length c,.slice B x.rows.length e] 47)) 47 #[.int .i64 y.kind,.string y.s,.int .i64 y.dn,.int .i64 y.ds,.int .i64 y.n,.slice A' y.cols.length c',.slice B' y.rows.length e']
  simpa using this)
 have HX0:=Hd (show Ext w w0 by rw [hw0]; exact ((Ext.refl w).alloc _).alloc _);clear hw0 hg1 hg2;have hkx:=flatB_kind hx;have hky:=flatB_kind hy;have q1:0≤x.kind∧x.kind≤4:=(by omega);have q2:0≤y.kind∧y.kind≤4:=(by omega);have HFX:=Hd hx;have HFY:=Hd hy;clear hkx hky hx hy;by_cases hk:x.kind=y.kind
 ·have hkb:(x.kind != y.kind)=false:=(by rw [hk]; simp);have HK:=Hd (show ¬ x.kind≠y.kind by rw [hk]; simp);by_cases h1:x.kind=1
  ·have HF:=Hd (show lessK x y=decide (cmpS x.s y.s<0) by unfold lessK; rw [if_neg HK.o,if_pos h1]);have k1:(x.kind==1)=true:=(by rw [h1]; rfl);have H1:=Hd h1;clear hk h1
   go_enter Tryz.func167,Tryz.ntmps167
   go_wp2_with fail
   rw [← HW0.o];refine (r06_text x.s y.s w0).mono ?_;rintro e1 w1 ⟨n,rfl,hn,hx1⟩;have HN:=Hd hn;have HX1:=Hd (HX0.o.trans hx1);clear hn hx1;go_wp2;go_ret;exact ⟨n,rfl,by rw [HF.o]; exact HN.o,HX1.o⟩
  ·have k1:(x.kind==1)=false:=(by simp [h1]);by_cases h2:x.kind=2
   ·have HF:=Hd (show lessK x y=decide (cmpI (mu x.dn x.ds) (mu y.dn y.ds)<0) by unfold lessK; rw [if_neg HK.o,if_neg h1,if_pos h2]);have k2:(x.kind==2)=true:=(by rw [h2]; rfl);clear hk h1 h2
    go_enter Tryz.func167,Tryz.ntmps167
    go_wp2_with fail
    rw [← HW0.o];refine (r04_Cmp x.dn x.ds y.dn y.ds w0).mono ?_;rintro e1 w1 ⟨rfl,hx1⟩;have HX1:=Hd (HX0.o.trans hx1);clear hx1;go_wp2;go_ret;exact ⟨_,rfl,by rw [HF.o],HX1.o⟩
   ·have HF:=Hd (show lessK x y=decide (x.n<y.n) by unfold lessK; rw [if_neg HK.o,if_neg h1,if_neg h2,cmpI_neg]);have k2:(x.kind==2)=false:=(by simp [h2]);have k5:(x.kind==5)=false:=(by rw [beq_eq_false_iff_ne]; omega);have hnx:=flatB_n HFX.o h1 h2;have hny:=flatB_n HFY.o (by rw [← hk]; exact h1) (by rw [← hk]; exact h2);clear hk h1 h2
    go_enter Tryz.func167,Tryz.ntmps167
    go_wp2;go_ret;exact ⟨x.n-y.n,rfl,by rw [HF.o,decide_eq_decide]; omega,by rw [← HW0.o]; exact HX0.o⟩
 ·have hkb:(x.kind != y.kind)=true:=(by rw [bne_iff_ne]; exact hk);have HF:=Hd (show lessK x y=decide (x.kind<y.kind) by unfold lessK; rw [if_pos hk]);clear hk
  go_enter Tryz.func167,Tryz.ntmps167
  go_wp2;go_ret;exact ⟨x.kind-y.kind,rfl,by rw [HF.o,decide_eq_decide]; omega,by rw [← HW0.o]; exact HX0.o⟩
set_option maxRecDepth 100000 in
set_option maxHeartbeats 2000000 in
theorem r06_Less (q:Nat) (x y:Val) (A B A' B':Option Addr) (c e c' e':Nat) (w:World) (S T:Nat→Prop) (hx:RV w S q x A B) (hy:RV w T q y A' B') (hx5:x.kind≠5) (hy5:y.kind≠5):Calls Tryz.prog 119 #[(.agg #[.int .i64 x.kind,.string x.s,.int .i64 x.dn,.int .i64 x.ds,.int .i64 x.n,.slice A x.cols.length c,.slice B x.rows.length e]),(.agg #[.int .i64 y.kind,.string y.s,.int .i64 y.dn,.int .i64 y.ds,.int .i64 y.n,.slice A' y.cols.length c',.slice B' y.rows.length e'])] w (RetB w (lessF x y)):=by
 obtain ⟨w0,hw0⟩:∃ w0,w0=(w.alloc (.cells #[.int .i64 x.kind,.string x.s,.int .i64 x.dn,.int .i64 x.ds,.int .i64 x.n,.slice A x.cols.length c,.slice B x.rows.length e] 47)).alloc (.cells #[.int .i64 y.kind,.string y.s,.int .i64 y.dn,.int .i64 y.ds,.int .i64 y.n,.slice A' y.cols.length c',.slice B' y.rows.length e'] 47):=⟨_,rfl⟩;obtain ⟨g1,hg1⟩:∃ g1,g1=w.heap.size:=⟨_,rfl⟩;obtain ⟨g2,hg2⟩:∃ g2,g2=w.heap.size+1:=⟨_,rfl⟩;have HW0:=Hd hw0;have HG1:=Hd hg1;have HG2:=Hd hg2;have HB1:=Hd (show Blk w0 g1 47 #[.int .i64 x.kind,.string x.s,.int .i64 x.dn,.int .i64 x.ds,.int .i64 x.n,.slice A x.cols.length c,.slice B x.rows.length e] by rw [hw0,hg1]; exact (Blk.new _ _ _).keep (Kept.alloc _ _ _));have HB2:=Hd (show Blk w0 g2 47 #[.int .i64 y.kind,.string y.s,.int .i64 y.dn,.int .i64 y.ds,.int .i64 y.n,.slice A' y.cols.length c',.slice B' y.rows.length e'] by
  rw [hw0,hg2];have:=Blk.new (w.alloc (.cells #[.int .i64 x.kind,.string x.s,.int .i64 x.dn,.int .i64 x.ds,.int .i64 x.n,.slice A x.cols.length c,.slice B x.rows.length e] 47)) 47 #[.int .i64 y.kind,.string y.s,.int .i64 y.dn,.int .i64 y.ds,.int .i64 y.n,.slice A' y.cols.length c',.slice B' y.rows.length e']
  simpa using this)
 have HX0:=Hd (show Ext w w0 by rw [hw0]; exact ((Ext.refl w).alloc _).alloc _);clear hw0 hg1 hg2;have HXR:=Hd hx;have HYR:=Hd hy;clear hx hy
 go_enter Tryz.func119,Tryz.ntmps119
 go_wp2_with fail
 rw [← HW0.o];refine (r06_Right_flat q x A B c e w0 _ (HXR.o.keep (HX0.o.kept _)) hx5).mono ?_;rintro e1 w1 ⟨rfl,hx1⟩;have HX1:=Hd (HX0.o.trans hx1);have HB1a:=Hd (HB1.o.keep (hx1.kept _));have HB2a:=Hd (HB2.o.keep (hx1.kept _));rw [← HG2.o,← HG1.o];have p0:=HB1a.o.cell (i:=0) rfl;have p1:=HB1a.o.cell (i:=1) rfl;have p2:=HB1a.o.cell (i:=2) rfl;have p3:=HB1a.o.cell (i:=3) rfl;have p4:=HB1a.o.cell (i:=4) rfl;have p5:=HB1a.o.cell (i:=5) rfl;have p6:=HB1a.o.cell (i:=6) rfl;have pz:=HB1a.o.lt;have q0:=HB2a.o.cell (i:=0) rfl;have q1:=HB2a.o.cell (i:=1) rfl;have q2:=HB2a.o.cell (i:=2) rfl;have q3:=HB2a.o.cell (i:=3) rfl;have q4:=HB2a.o.cell (i:=4) rfl;have q5:=HB2a.o.cell (i:=5) rfl;have q6:=HB2a.o.cell (i:=6) rfl;have qz:=HB2a.o.lt;clear hx1 HB1 HB2 HX0 HW0
 go_wp2_with fail
 refine (r06_Right_flat q y A' B' c' e' w1 _ (HYR.o.keep (HX1.o.kept _)) hy5).mono ?_;rintro e2 w2 ⟨rfl,hx2⟩;have HX2:=Hd (HX1.o.trans hx2);have HB1b:=Hd (HB1a.o.keep (hx2.kept _));have HB2b:=Hd (HB2a.o.keep (hx2.kept _));clear hx2 HB1a HB2a HX1 p0 p1 p2 p3 p4 p5 p6 pz q0 q1 q2 q3 q4 q5 q6 qz;have r0:=HB1b.o.cell (i:=0) rfl;have r1:=HB1b.o.cell (i:=1) rfl;have r2:=HB1b.o.cell (i:=2) rfl;have r3:=HB1b.o.cell (i:=3) rfl;have r4:=HB1b.o.cell (i:=4) rfl;have r5:=HB1b.o.cell (i:=5) rfl;have r6:=HB1b.o.cell (i:=6) rfl;have rz:=HB1b.o.lt;have s0:=HB2b.o.cell (i:=0) rfl;have s1:=HB2b.o.cell (i:=1) rfl;have s2:=HB2b.o.cell (i:=2) rfl;have s3:=HB2b.o.cell (i:=3) rfl;have s4:=HB2b.o.cell (i:=4) rfl;have s5:=HB2b.o.cell (i:=5) rfl;have s6:=HB2b.o.cell (i:=6) rfl;have sz:=HB2b.o.lt;cases hfx:flatB x
 ·have HF:=Hd (show lessF x y=false by simp [lessF,hfx]);clear hfx;cases hfy:flatB y
  all_goals
   clear hfy;go_wp2;go_ret;exact ⟨by rw [HF.o]; rfl,HX2.o⟩
 ·cases hfy:flatB y
  ·have HF:=Hd (show lessF x y=true by simp [lessF,hfy,hfx]);clear hfx hfy;go_wp2;go_ret;exact ⟨by rw [HF.o]; rfl,HX2.o⟩
  ·have HF:=Hd (show lessF x y=lessK x y by simp [lessF,hfy,hfx]);have HFX:=Hd hfx;have HFY:=Hd hfy;clear hfx hfy
   go_wp2_with fail
   refine (r06_cmp x y A B A' B' c e c' e' w2 HFX.o HFY.o).mono ?_;rintro e3 w3 ⟨n,rfl,hn,hx3⟩;have HN:=Hd hn;have HX3:=Hd (HX2.o.trans hx3);clear hn hx3 r0 r1 r2 r3 r4 r5 r6 rz s0 s1 s2 s3 s4 s5 s6 sz;go_wp2;go_ret;exact ⟨by rw [HF.o,← HN.o]; rfl,HX3.o⟩
end Go.Proofs.YtomdpipekmcojaaGreatDoor
