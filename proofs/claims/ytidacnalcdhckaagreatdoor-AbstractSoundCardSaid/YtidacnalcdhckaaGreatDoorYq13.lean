/- Lemmas. No conditions. -/
import Derived.Test.YtidacnalcdhckaaGreatDoorYq12
import Derived.Sort.Walk0
import Derived.OwnWalkIn
import Derived.OrdersIn
import Derived.RangeFuncCalls
import Derived.RangeFuncNested
import Derived.RangeFuncBound
import Derived.RangeFuncLeaves
import Derived.Shelf.Abstract
import Derived.Shelf.RegionOpen
import Derived.WalkKit
import Derived.TacticsInMore
import Derived.LoopNIn
import Derived.LoopIn
set_option maxRecDepth 100000
set_option maxHeartbeats 4000000
namespace Go.Proofs.YtidacnalcdhckaaGreatDoor
open Go Go.RowKit Tryz
variable {qP:Prop}

theorem TV(a:Sh):UI a=min (min a.most 200) (max (max a.least 0) ((a.b.size:Int)+a.e.size+1)):=rfl
theorem QC{a:Sh}{n:Nat}{s:List UInt8}(h:Dr a n=some s):s.length≤a.b.size+n+a.e.size:=by
 unfold Dr at h;split at h
 ·cases h
 ·simp only at h;split at h
  ·injection h with h;rw [←h];simp only [List.length_append,List.length_replicate,List.length_drop];rw [Ei,EA];omega
  ·cases h
theorem XQ(h:qP:=by
 have HF:=Hd (show AI a=true from Nh fun n hn1 hn2 s hs=>HA.o n (by rw [HLW.o];exact hn1) (by have:=HTOP.o;omega) s hs)
 go_wp2_with fail
 go_ret;exact ⟨Y19,HX0.o.trans HX.o⟩):qP:=h
theorem IP(a:Sh)(hb:a.b.size≤1000000000)(he:a.e.size≤1000000000)(w:World):Cl 75 #[(Sq a)] w (AO w (AI a)):=by
 obtain ⟨w0,hw0⟩:=eqx (w.alloc (.cells (Sp a) 32));have hx0:Ext w w0:=Y68;obtain ⟨g,hg⟩:=eqx w.heap.size;have hbk:Blk w0 g 32 (Sp a):=Y69;have k0:=hbk.q0;obtain ⟨HK1,HK2,HK3,HK4,HK0,HX0,HW0,HG⟩:=Hd8 (hbk.q1) (hbk.q2) (hbk.q3) (hbk.q4) k0 hx0 hw0 hg;have HTOP:=Hd (TV a);clear hx0 hbk hw0 hg
 go_enter func75,ntmps75
 go_upto_region 1 with fail
 rw [←HW0.o,←HG.o];obtain ⟨lw,hlw⟩:=eqx (max a.least 0);have hl0:0≤lw:=Y4;rw [←hlw] at HTOP;have HLW:=Hd hlw;go_wp2;rw [←hlw];clear hlw k0
 go_loopw [4,5,6] (fun i _s _o wr=>(∃ k:Nat,i=.I k∧lw≤k∧∀ m:Nat,lw≤m→m<k→∀ s,Dr a m=some s→¬InS a s)∧Ext w0 wr) (fun i _ _ _=>202-(intOf i).toNat)
 case atStart=>exact ⟨⟨lw.toNat,by rw [Int.toNat_of_nonneg hl0],Y4,Y8⟩,Ext.refl _⟩
 case round =>
  obtain ⟨⟨k,rfl,hk1,hall⟩,hx⟩:=hrel;have HA:=Hd hall;have HX:=Hd hx;have c0:=hx.cell HK0.o;have c1:=hx.cell HK1.o;have c2:=hx.cell HK2.o;have c3:=hx.cell HK3.o;have c4:=hx.cell HK4.o;clear hall hx;by_cases h1:(k:Int)≤min a.most 200
  ·by_cases h2:(k:Int)≤max lw ((a.b.size:Int)+a.e.size+1)
   ·have hk2:k≤200:=Y4;have HS:=Hd (fun w'=>SG a k Y4 Y4 hk2 w');have HSL:=Hd (fun s (h:Dr a k=some s)=>QC h);cases ho:Dr a k with
    |none =>
     have HO:=Hd ho;rw [ho] at HS;clear ho
     go_wp2_with fail
     refine (HS.o _).mono ?_;rintro e1 w1 ⟨rfl,hx1⟩;have HX1:=Hd (HX.o.trans hx1);clear hx1 c0 c1 c2 c3 c4
     go_wp2_with fail
     go_roundw
     case rel =>
      refine ⟨⟨k+1,Y5,Y4,fun m hm1 hm2 s hs => ?_⟩,HX1.o⟩;by_cases hmk:m=k
      ·subst hmk;rw [HO.o] at hs;cases hs
      ·exact HA.o m hm1 Y4 s hs
     case measure=>simp [intOf];omega
    |some s =>
     have hsl:=HSL.o s ho;have hsz:(bA s).size≤4294967296:=(by rw [Cv];omega);have HC:=Hd (fun w'=>MK a (bA s) Y4 Y4 hsz w');have HO:=Hd ho;rw [ho] at HS;have HCI:=Hd (Bn a (bA s));have hrs:Option.getD (some s) []=s:=rfl;generalize AQ a (bA s)=cb at *;obtain ⟨z,hz⟩:=eqx (bA s);have HS2:=Hd (show ∀ w',Cl 149 #[(Sq a),.I (k:Int)] w' (fun e w''=>e=.returned (.tuple #[.string z,.bool true])∧Ext w' w'') from fun w'=>by rw [hz];exact HS.o w');rw [←hz] at HC;have HZ:=Hd hz;clear ho hz hsz hsl HS hrs
     go_wp2_with fail
     refine (HS2.o _).mono ?_;rintro e1 w1 ⟨rfl,hx1⟩;have HX1:=Hd (HX.o.trans hx1);have c0:=hx1.cell c0;have c1:=hx1.cell c1;have c2:=hx1.cell c2;have c3:=hx1.cell c3;have c4:=hx1.cell c4;clear hx1
     go_wp2_with fail
     refine (HC.o _).mono ?_;rintro e2 w2 ⟨rfl,hx2⟩;have HX2:=Hd (HX1.o.trans hx2);clear hx2;cases cb
     ·go_wp2_with fail
      go_roundw
      case rel =>
       refine ⟨⟨k+1,Y5,Y4,fun m hm1 hm2 s' hs => ?_⟩,HX2.o⟩;by_cases hmk:m=k
       ·subst hmk;rw [HO.o] at hs;injection hs with hs;intro hin;have:=HCI.o.2 (by rw [←hs] at hin;exact hin);cases this
       ·exact HA.o m hm1 Y4 s' hs
      case measure=>simp [intOf];omega
     ·have HF:=Hd (show AI a=false from DE (HCI.o.1 rfl))
      go_wp2_with fail
      go_ret;exact ⟨Y19,HX0.o.trans HX2.o⟩
   ·exact XQ
  ·exact XQ

theorem U3(a b:Sh):bits .and .i64 (bits .or .i64 a.cls b.cls) 110=bits .or .i64 (At a) (At b):=by
 refine CT (BY _ _ _) (BY _ _ _) fun i _ => ?_;unfold At;rw [Ba,Js,Js,Ba,Ba,Bool.and_or_distrib_right]
theorem BGA(h:qP:=by
 iterate 5 with_reducible refine Ext.set2 ?_ HG4.o _
 with_reducible exact HX5.o):qP:=h
theorem Zg(h:qP:=by
 have hb1:=(((((HB0.o.set 0 (.I (min la lb))).set 1 (.I (max ma mb))).set 2 (.I cc)).set 3 (.string sp)).set 4 (.string ss))
 simpa using hb1):qP:=h
theorem Y70(h:qP:=by simp [results,results41,go_sem,r0,r1,r2,r3,r4]):qP:=h
theorem Nx(a b:Sh)(h1:a.b.size≤1000000000)(h2:a.e.size≤1000000000)(h3:b.b.size≤1000000000)(h4:b.e.size≤1000000000)(w:World):Cl 41 #[(Sq a),(Sq b)] w (Eg w (Aw a b)):=by
 obtain ⟨w0,hw0⟩:=eqx (((w.alloc (.cells (Sp a) 32)).alloc (.cells (Sp b) 32)).alloc (.cells #[.I 0,.I 0,.I 0,.string ⟨#[]⟩,.string ⟨#[]⟩] 32));have hx0:Ext w w0:=Y54;have hb2:Blk w0 w.heap.size 32 (Sp a):=Y65;have hb3:Blk w0 (w.heap.size+1) 32 (Sp b):=Y66;have hb4:Blk w0 (w.heap.size+2) 32 #[.I 0,.I 0,.I 0,.string ⟨#[]⟩,.string ⟨#[]⟩]:=Y67;obtain ⟨g2,hg2⟩:=eqx w.heap.size;obtain ⟨g3,hg3⟩:=eqx (w.heap.size+1);obtain ⟨g4,hg4⟩:=eqx (w.heap.size+2);rw [←hg2] at hb2;rw [←hg3] at hb3;rw [←hg4] at hb4;have HG4:=Hd (show w.heap.size≤g4 by omega);obtain ⟨la,hla⟩:=eqx (AG a);obtain ⟨lb,hlb⟩:=eqx (AG b);obtain ⟨ma,hma⟩:=eqx (Ag a);obtain ⟨mb,hmb⟩:=eqx (Ag b);obtain ⟨cc,hcc⟩:=eqx (bits .or .i64 (At a) (At b));obtain ⟨sp,hsp⟩:=eqx (bA (Cz a.B b.B));obtain ⟨ss,hss⟩:=eqx (bA (FD a.E b.E));obtain ⟨HLA,HLB,HMA,HMB,HSP,HSS,HEA,HEB⟩:=Hd8 (show ∀ w',Cl 114 #[(Sq a)] w' (CD w' la) from fun w'=>by rw [hla];exact Kx a w') (show ∀ w',Cl 114 #[(Sq b)] w' (CD w' lb) from fun w'=>by rw [hlb];exact Kx b w') (show ∀ w',Cl 115 #[(Sq a)] w' (CD w' ma) from fun w'=>by rw [hma];exact Mp a w') (show ∀ w',Cl 115 #[(Sq b)] w' (CD w' mb) from fun w'=>by rw [hmb];exact Mp b w') (show ∀ w',Cl 116 #[.string a.b,.string b.b] w' (MR w' sp) from fun w'=>by rw [hsp];exact Oz a.b b.b Y4 Y4 w') (show ∀ w',Cl 117 #[.string a.e,.string b.e] w' (MR w' ss) from fun w'=>by rw [hss];exact Ow a.e b.e Y4 Y4 w') (fun w'=>IP a h1 h2 w') (fun w'=>IP b h3 h4 w');have HJ:=Hd (show Aw a b=if AI a=true then (if AI b=true then EwA else b) else if AI b=true then a else ⟨min la lb,max ma mb,cc,sp,ss⟩ from by rw [hla,hlb,hma,hmb,hcc,hsp,hss];rfl);have hor:bits .and .i64 (bits .or .i64 a.cls b.cls) 110=cc:=(by rw [hcc];exact U3 a b);generalize AI a=b1 at *;generalize AI b=b2 at *;obtain ⟨HX0,HW0,HE2,HE3,HE4⟩:=Hd5 hx0 hw0 hg2 hg3 hg4;obtain ⟨q0,q1,q2,q3,q4⟩:=hb2.qs5;obtain ⟨HB2,HB3,HB4a⟩:=Hd3 hb2 hb3 hb4;clear hx0 hw0 hb2 hb3 hb4 hg2 hg3 hg4 hla hlb hma hmb hcc hsp hss
 go_enter func41,ntmps41
 go_upto_region 1 with fail
 rw [←HW0.o,show w.heap.size+1+1=g4 from HE4.o.symm,←HE3.o,←HE2.o]
 go_wp2_with fail
 refine (HEA.o _).mono ?_;rintro e1 w1 ⟨rfl,hx1⟩;have HX1:=Hd (HX0.o.trans hx1);have hb3:=HB3.o.keep (hx1.kept _);obtain ⟨HB2b,HB4c,HB3b⟩:=Hd3 (HB2.o.keep (hx1.kept _)) (HB4a.o.keep (hx1.kept _)) hb3;obtain ⟨q0,q1,q2,q3,q4⟩:=hb3.qs5;clear hx1 hb3
 go_wp2_with fail
 refine (HEB.o _).mono ?_;rintro e2 w5 ⟨rfl,hx2⟩;have HX5:=Hd (HX1.o.trans hx2);have hb2:=HB2b.o.keep (hx2.kept _);have hb3:=HB3b.o.keep (hx2.kept _);have hb4:=HB4c.o.keep (hx2.kept _);obtain ⟨HB4,k0,k1,k2,k3,k4,k5,k6⟩:=Hd8 hb4 (hb2.q0) (hb2.q1) (hb2.q2) (hb2.q3) (hb2.q4) (hb3.q0) (hb3.q1);obtain ⟨k7,k8,k9⟩:=Hd3 (hb3.q2) (hb3.q3) (hb3.q4);clear hx2 hb2 hb3 hb4 q0 q1 q2 q3 q4;cases b1
 ·cases b2
  case' true =>
   have m0:=k0.o;have m1:=k1.o;have m2:=k2.o;have m3:=k3.o;have m4:=k4.o;obtain ⟨r0,r1,r2,r3,r4⟩:=HB4.o.qs5;have qf:=HB4.o.frozen;have ql:=HB4.o.lt
   go_wp2_with fail
   rw [HJ.o,if_neg Y3,if_pos trivial];refine bodyPost_ret (v:=(Sq a)) Y70 rfl ⟨rfl,?_⟩;exact BGA
  go_upto_region 9 with fail
  refine Qa (fun m b=>(m=1027∧b=g4)) (lk 28 [1027]) ?_;refine Qp ?_;refine Qc (fun w'=>HLA.o w') ?_;refine Qp ?_;refine Qc (fun w'=>HLB.o w') ?_
  iterate 2 refine Qp ?_
  refine Qc (fun w'=>HMA.o w') ?_;refine Qp ?_;refine Qc (fun w'=>HMB.o w') ?_
  iterate 11 refine Qp ?_
  refine Qc (fun w'=>HSP.o w') ?_
  iterate 4 refine Qp ?_
  refine Qc (fun w'=>HSS.o w') ?_;refine Qp ?_;refine Qs (fun _ γ w'=>Blk w' g4 32 #[.I (min la lb),.I (max ma mb),.I cc,.string sp,.string ss]∧γ 1027=true) ?_ ?_ ?_
  ·exact Ph
  ·intro vals γ w' ρ hR hN hp hρ zs zg;have hk1027:=hN.o.key (k:=1027) Y17;have hb0:=HB4.o.keep (hR.o.kept0 (S:=fun b=>b=g4) fun b _ e m hm=>by
    rw [hm.1];exact hk1027)
   have HB0:=Hd hb0;have HK:=Hd hk1027;obtain ⟨q0,q1,q2,q3,q4⟩:=hb0.qs5;have qf:=hb0.frozen;have ql:=hb0.lt;clear hb0 hk1027;refine Qr ?_;refine ⟨γ.put 1027,EvA HK.o rfl rfl rfl Y1 (fun b hb hm=>((((((Only.refl g4 w').set 0 (.I (min la lb))).set 1 (.I (max ma mb))).set 2 (.I cc)).set 3 (.string sp)).set 4 (.string ss)).block b fun e=>hm (⟨rfl,e⟩)),LK.done Y17,?_,Y64⟩;exact Zg
  intro vals γ w9 hR hG;refine Qx ?_;obtain ⟨hb27,-⟩:=hG 27 Y17;have HB27N:=Hd hb27;clear hb27;have HXN:=Hd (show Ext w w9 from AX HX5.o (hR.buts (S:=fun b=>b=g4) (fun m b _ hm _=>hm.2)) (fun b hb=>by
   rw [hb];exact HG4.o))
  clear hR hG;obtain ⟨s0,s1,s2,s3,s4⟩:=HB27N.o.qs5;go_wp2;rw [HJ.o,if_neg Y3,if_neg Y3];exact bodyPost_ret (v:=.agg #[.I (min la lb),.I (max ma mb),.I cc,.string sp,.string ss]) (by simp [results,results41,go_sem,s0,s1,s2,s3,s4]) rfl ⟨rfl,HXN.o⟩
 ·have m0:=k5.o;have m1:=k6.o;have m2:=k7.o;have m3:=k8.o;have m4:=k9.o;obtain ⟨r0,r1,r2,r3,r4⟩:=HB4.o.qs5;have qf:=HB4.o.frozen;have ql:=HB4.o.lt;cases b2
  ·go_wp2_with fail
   rw [HJ.o,if_pos trivial,if_neg Y3];refine bodyPost_ret (v:=(Sq b)) Y70 rfl ⟨rfl,?_⟩;exact BGA
  ·go_wp2_with fail
   refine (Jd _).mono ?_;rintro e3 w6 ⟨rfl,hx3⟩;have hb4:=HB4.o.keep (hx3.kept _);obtain ⟨r0,r1,r2,r3,r4⟩:=hb4.qs5;have qf:=hb4.frozen;have ql:=hb4.lt;have HX6:=Hd (HX5.o.trans hx3);clear hx3 hb4
   go_wp2_with fail
   rw [HJ.o,if_pos trivial,if_pos trivial];refine bodyPost_ret (v:=(Sq EwA)) Y70 rfl ⟨rfl,?_⟩
   iterate 5 with_reducible refine Ext.set2 ?_ HG4.o _
   with_reducible exact HX6.o

def GC(o:Oper):Bool:=match o.op with
 |.defer _=>false
 |_=>true
theorem G3{ops:Array Oper}(h:ops.all GC=true){i:Nat}{o:Oper}(ho:ops[i]?=some o):∀ c,o.op≠.defer c:=by
 intro c hc;rw [Array.all_eq_true] at h;obtain ⟨hlt,he⟩:=Array.getElem?_eq_some_iff.1 ho;have h1:=h i hlt;rw [he] at h1;unfold GC at h1;rw [hc] at h1;cases h1
section
variable {P:Program}{ops:Array Oper}{Q:Exit→Act→World→Prop}
end
section
variable {P:Program}{ops:Array Oper}{Q:Exit→Act→World→Prop}
theorem Ys(h:qP:=by
 refine wpIn_region_any hm (main ops.size _ a0 w0.drew (fun _=>undef) γ0 ⟨Y3,rfl,rfl,?_,fun _ _=>rfl,hrefl _ _,?_,fun j _ _=>hN j,?_⟩ ?_)
 ·exact ArA
 ·exact Zu
 ·intro j hj hl;simp [hj] at hl
 ·exact ZZ):qP:=h
theorem ZK(h:qP:=by
 intro e w'' ⟨v,he,γ',h1,hn,h2⟩;subst he;exact next v γ' w'' h1 hn h2):qP:=h
theorem BvA(h:qP:=by
 refine ⟨fun h=>Y36,callsIn_wide.2 (hS.mono ?_)⟩;exact ZK):qP:=h
theorem ZJ(h:qP:=by
 rw [if_neg hw] at hS⊢;exact ⟨fun _ _=>trivial,next undef γ w (hrefl _ _) (fun _ _ _ h=>h) hS⟩):qP:=h
theorem Ib{Γ:Type}{n0:Nat}{id:Nat}{a0:Act}{w0:World}(hnf:ops.all GC=true)(hm:P.follows .mixedOrders=true)(D:Nat→List Nat)(hB:KB ops D a0.tmps.size=true)
  (R:Γ→World→Γ→World→Prop) (hrefl:∀ γ w,R γ w γ w) (htrans:∀ γ w γ' w' γ'' w'',R γ w γ' w'→R γ' w' γ'' w''→R γ w γ'' w'')
  (N:Nat→Γ→Prop) (G:Nat→List Value→Γ→World→Prop) (hst:∀ i l γ w γ' w',R γ w γ' w'→G i l γ w→G i l γ' w') (γ0:Γ) (hN:∀ i,N i γ0)
  (hstep:∀ i o,ops[i]?=some o→LinStep P ops D R N G a0 γ0 w0.drew i o)
  (hfin:∀ vals γ w,R γ0 w0.drew γ w→(∀ i,i<ops.size→G i ((D i).map vals) γ w)→Q .normal (AR vals ops.toList 0 a0) w) :
  (Code.region id ops true).wpIn Fence.wide n0 P Q a0 w0:=by
 obtain ⟨hsel,hnd,hlt,hacyc,hD,hguard,hlook⟩:=EM hB;have main:∀ (fuel:Nat) (listed:Array Bool) (a:Act) (w:World) (vals:Nat→Value) (γ:Γ),LinInv ops D R N G a0 γ0 w0.drew listed a w vals γ →
   (List.range ops.size).countP (fun i => !listed.getD i true)≤fuel→wpAnyIn Fence.wide n0 P .any ops Q fuel listed a w:=by
  intro fuel;have fin:∀ (listed:Array Bool) (a:Act) (w:World) (vals:Nat→Value) (γ:Γ),LinInv ops D R N G a0 γ0 w0.drew listed a w vals γ→(∀ j,j<ops.size→listed.getD j false=true)→Q .normal a w:=by
   exact WS
  have ready_nil:∀ (listed:Array Bool),listed.size=ops.size→Region.ready .any ops listed=[]→∀ j,j<ops.size→listed.getD j false=true:=by
   exact Vj
  induction fuel with
  |zero =>
   exact Vt
  |succ fuel ih =>
   intro listed a w vals γ I hc;refine ⟨fun hr=>fin listed a w vals γ I (ready_nil listed I.size hr),fun i hi => ?_⟩;obtain ⟨h0,o,ho,hpre⟩:=mem_ready.1 hi;have hil:i<ops.size:=(Array.getElem?_eq_some_iff.1 ho).1;have hisz:i<listed.size:=Y35;have hun:listed.getD i false=false:=(by rw [←ER hisz];exact h0);have hpl:∀ j,j∈AJ o→listed.getD j false=true:=by
    exact V9
   have hslot:∀ t,t∈o.looksAt ops→a.tmps.getD t undef=De ops o a0 vals t:=by
    exact V1
   have henv:execOp a.eval o=execOp (Ey ops o a0 vals) o:=by
    exact WX
   have hwant:Region.wanted o (yielded ops a.tmps)=Ad o vals:=by
    exact VP
   have hpf:∀ j,j∈AJ o→G j ((D j).map vals) γ w:=fun j hj=>I.facts j (by have:=hacyc i o j ho hj;omega) (hpl j hj);have hS:=hstep i o ho vals γ w I.rel (I.open_ i hil hun) hpf;have next:∀ (v:Value) (γ':Γ) (w':World),R γ w γ' w'→(∀ j,j≠i→j ∉ AJ o→N j γ→N j γ')→G i ((D i).map (EE vals i v)) γ' w'→wpAnyIn Fence.wide n0 P .any ops Q fuel (listed.setIfInBounds i true) (a.put o.dst v) w':=by
    exact WJ
   unfold wpOpIn;simp only [ho];rw [hwant];by_cases hw:Ad o vals=true
   ·rw [if_pos hw] at hS⊢;refine ⟨fun _ _=>trivial,?_⟩;rw [Oper.semAt_plain _ _ _ (G3 hnf ho),henv];generalize (execOp (Ey ops o a0 vals) o).run P w=r at hS;cases r with
    |ok n w' =>
     cases n<;>simp only [BN] at hS<;>simp only [Oper.uponIn]
     case value v=>obtain ⟨γ',h1,hn,h2⟩:=hS;exact next v γ' w' h1 hn h2
     case skip=>obtain ⟨γ',h1,hn,h2⟩:=hS;exact next undef γ' w' h1 hn h2
     case enter f args =>
      exact BvA
    |halt x w'=>simp only [BN] at hS
   ·exact ZJ
 exact Ys
end
theorem Gg{Γ:Type}{P:Program}{n0:Nat}{l:List Oper}{Q:Exit→Act→World→Prop}{id:Nat}{a0:Act}{w0:World}(hnf:l.toArray.all GC=true)(hm:P.follows .mixedOrders=true)(D:Nat→List Nat)(hB:KB l.toArray D a0.tmps.size=true)
  (R:Γ→World→Γ→World→Prop) (hrefl:∀ γ w,R γ w γ w) (htrans:∀ γ w γ' w' γ'' w'',R γ w γ' w'→R γ' w' γ'' w''→R γ w γ'' w'')
  (N:Nat→Γ→Prop) (γ0:Γ) (hN:∀ i,N i γ0)
  (h:Chain P l.toArray D R N a0 γ0 w0.drew (fun Φs=>∀ vals γ w,R γ0 w0.drew γ w→(∀ i,i<l.length→gOf Φs i ((D i).map vals) γ w)→Q .normal (AR vals l 0 a0) w) 0 [] l) :
  (Code.region id l.toArray true).wpIn Fence.wide n0 P Q a0 w0:=by
 obtain ⟨Φs,-,h2,h3,h4⟩:=Chain.full (k:=0) (done:=[]) rfl (fun _ h=>Y36) h;obtain ⟨-,-,-,hac,-⟩:=EM hB;refine Ib hnf hm D hB R hrefl htrans N (gOf Φs) (fun i l γ w γ' w' r hg => ?_) γ0 hN (fun i o hi => ?_) (fun vals γ w hr hg=>h3 vals γ w hr fun i hi=>hg i Y34)
 ·exact WR
 ·exact U6


def F0(n0:Nat)(P:Program)(K:Value→World→Prop):Result Next→Prop
 |.ok (.value v) w'=>K v w'
 |.ok .skip w'=>K undef w'
 |.ok (.enter f args) w'=>Calls P f args w' fun e w''=>∃ v,e=.returned v∧K v w''
 |.ok (.round l f tmps assign body) w'=>RoundIn Fence.wide (n0-1) P l f tmps assign body w' fun e w''=>∃ v,e=.returned v∧K v w''
 |_=>False
def LinStepY{Γ:Type}(n0:Nat)(P:Program)(ops:Array Oper)(D:Nat→List Nat)(R:Γ→World→Γ→World→Prop)(N:Nat→Γ→Prop)(G:Nat→List Value→Γ→World→Prop)(a0:Act)(γ0:Γ)(w0:World)(i:Nat)(o:Oper):Prop :=
 ∀ (vals:Nat→Value) (γ:Γ) (w:World),R γ0 w0 γ w→N i γ→(∀ j,j∈AJ o→G j ((D j).map vals) γ w) →
  if Ad o vals then F0 n0 P (fun v w'=>∃ γ',R γ w γ' w'∧(∀ j,j≠i→j ∉ AJ o→N j γ→N j γ')∧G i ((D i).map (EE vals i v)) γ' w') ((execOp (Ey ops o a0 vals) o).run P w)
  else G i ((D i).map (EE vals i undef)) γ w

section
variable {P:Program}{ops:Array Oper}{Q:Exit→Act→World→Prop}
theorem IS{Γ:Type}{n0:Nat}{id:Nat}{a0:Act}{w0:World}(hnf:ops.all GC=true)(hm:P.follows .mixedOrders=true)(D:Nat→List Nat)(hB:KB ops D a0.tmps.size=true)
  (R:Γ→World→Γ→World→Prop) (hrefl:∀ γ w,R γ w γ w) (htrans:∀ γ w γ' w' γ'' w'',R γ w γ' w'→R γ' w' γ'' w''→R γ w γ'' w'')
  (N:Nat→Γ→Prop) (G:Nat→List Value→Γ→World→Prop) (hst:∀ i l γ w γ' w',R γ w γ' w'→G i l γ w→G i l γ' w') (γ0:Γ) (hN:∀ i,N i γ0)
  (hstep:∀ i o,ops[i]?=some o→LinStepY n0 P ops D R N G a0 γ0 w0.drew i o)
  (hfin:∀ vals γ w,R γ0 w0.drew γ w→(∀ i,i<ops.size→G i ((D i).map vals) γ w)→Q .normal (AR vals ops.toList 0 a0) w) :
  (Code.region id ops true).wpIn Fence.wide n0 P Q a0 w0:=by
 obtain ⟨hsel,hnd,hlt,hacyc,hD,hguard,hlook⟩:=EM hB;have main:∀ (fuel:Nat) (listed:Array Bool) (a:Act) (w:World) (vals:Nat→Value) (γ:Γ),LinInv ops D R N G a0 γ0 w0.drew listed a w vals γ →
   (List.range ops.size).countP (fun i => !listed.getD i true)≤fuel→wpAnyIn Fence.wide n0 P .any ops Q fuel listed a w:=by
  intro fuel;have fin:∀ (listed:Array Bool) (a:Act) (w:World) (vals:Nat→Value) (γ:Γ),LinInv ops D R N G a0 γ0 w0.drew listed a w vals γ→(∀ j,j<ops.size→listed.getD j false=true)→Q .normal a w:=by
   exact WS
  have ready_nil:∀ (listed:Array Bool),listed.size=ops.size→Region.ready .any ops listed=[]→∀ j,j<ops.size→listed.getD j false=true:=by
   exact Vj
  induction fuel with
  |zero =>
   exact Vt
  |succ fuel ih =>
   intro listed a w vals γ I hc;refine ⟨fun hr=>fin listed a w vals γ I (ready_nil listed I.size hr),fun i hi => ?_⟩;obtain ⟨h0,o,ho,hpre⟩:=mem_ready.1 hi;have hil:i<ops.size:=(Array.getElem?_eq_some_iff.1 ho).1;have hisz:i<listed.size:=Y35;have hun:listed.getD i false=false:=(by rw [←ER hisz];exact h0);have hpl:∀ j,j∈AJ o→listed.getD j false=true:=by
    exact V9
   have hslot:∀ t,t∈o.looksAt ops→a.tmps.getD t undef=De ops o a0 vals t:=by
    exact V1
   have henv:execOp a.eval o=execOp (Ey ops o a0 vals) o:=by
    exact WX
   have hwant:Region.wanted o (yielded ops a.tmps)=Ad o vals:=by
    exact VP
   have hpf:∀ j,j∈AJ o→G j ((D j).map vals) γ w:=fun j hj=>I.facts j (by have:=hacyc i o j ho hj;omega) (hpl j hj);have hS:=hstep i o ho vals γ w I.rel (I.open_ i hil hun) hpf;have next:∀ (v:Value) (γ':Γ) (w':World),R γ w γ' w'→(∀ j,j≠i→j ∉ AJ o→N j γ→N j γ')→G i ((D i).map (EE vals i v)) γ' w'→wpAnyIn Fence.wide n0 P .any ops Q fuel (listed.setIfInBounds i true) (a.put o.dst v) w':=by
    exact WJ
   unfold wpOpIn;simp only [ho];rw [hwant];by_cases hw:Ad o vals=true
   ·rw [if_pos hw] at hS⊢;refine ⟨fun _ _=>trivial,?_⟩;rw [Oper.semAt_plain _ _ _ (G3 hnf ho),henv];generalize (execOp (Ey ops o a0 vals) o).run P w=r at hS;cases r with
    |ok n w' =>
     cases n<;>simp only [F0] at hS<;>simp only [Oper.uponIn]
     case value v=>obtain ⟨γ',h1,hn,h2⟩:=hS;exact next v γ' w' h1 hn h2
     case skip=>obtain ⟨γ',h1,hn,h2⟩:=hS;exact next undef γ' w' h1 hn h2
     case enter f args =>
      exact BvA
     case round l f tmps assign body =>
      refine ⟨fun h=>Y36,hS.mono ?_⟩;exact ZK
    |halt x w'=>simp only [F0] at hS
   ·exact ZJ
 exact Ys
end
def ChainY{Γ:Type}(n0:Nat)(P:Program)(ops:Array Oper)(D:Nat→List Nat)(R:Γ→World→Γ→World→Prop)(N:Nat→Γ→Prop)(a0:Act)(γ0:Γ)(w0:World)(Qf:List (Ft Γ)→Prop):Nat→List (Ft Γ)→List Oper→Prop
 |_,done,[]=>Qf done.reverse
 |k,done,o::rest=>∃ Φ:Ft Γ,Jt R Φ∧LinStepY n0 P ops D R N (gOf (Φ::done).reverse) a0 γ0 w0 k o∧ChainY n0 P ops D R N a0 γ0 w0 Qf (k+1) (Φ::done) rest
section
variable {Γ:Type}{n0:Nat}{P:Program}{ops:Array Oper}{D:Nat→List Nat}{R:Γ→World→Γ→World→Prop}{N:Nat→Γ→Prop}{a0:Act}{γ0:Γ}{w0:World}{Qf:List (Ft Γ)→Prop}
theorem ChainY.full:∀ {rest:List Oper} {k:Nat} {done:List (Ft Γ)},done.length=k→(∀ Φ∈done,Jt R Φ)→ChainY n0 P ops D R N a0 γ0 w0 Qf k done rest →
  ∃ Φs:List (Ft Γ),Φs.take k=done.reverse∧(∀ Φ∈Φs,Jt R Φ)∧Qf Φs∧∀ i o,rest[i]?=some o→LinStepY n0 P ops D R N (gOf (Φs.take (k+i+1))) a0 γ0 w0 (k+i) o
 |[],k,done,hk,hd,h=>⟨done.reverse,by rw [←hk,←List.length_reverse];exact List.take_length,fun Φ hΦ=>hd Φ (by simpa using hΦ),h,Y3⟩
 |o::rest,k,done,hk,hd,h=>by
  obtain ⟨Φ,h1,h2,h3⟩:=h;obtain ⟨Φs,e1,e2,e3,e4⟩:=ChainY.full (rest:=rest) (k:=k+1) (done:=Φ::done) Y2 (fun Ψ hΨ=>by
   exact Xq) h3
  exact XY
theorem LinStepY.congr{G G':Nat→List Value→Γ→World→Prop}{i:Nat}{o:Oper}(hp:∀ j∈AJ o,G j=G' j)(hi:G i=G' i)(h:LinStepY n0 P ops D R N G a0 γ0 w0 i o):LinStepY n0 P ops D R N G' a0 γ0 w0 i o:=by
 exact AaA
end
theorem Eh{Γ:Type}{P:Program}{n0:Nat}{l:List Oper}{Q:Exit→Act→World→Prop}{id:Nat}{a0:Act}{w0:World}(hnf:l.toArray.all GC=true)(hm:P.follows .mixedOrders=true)(D:Nat→List Nat)(hB:KB l.toArray D a0.tmps.size=true)
  (R:Γ→World→Γ→World→Prop) (hrefl:∀ γ w,R γ w γ w) (htrans:∀ γ w γ' w' γ'' w'',R γ w γ' w'→R γ' w' γ'' w''→R γ w γ'' w'')
  (N:Nat→Γ→Prop) (γ0:Γ) (hN:∀ i,N i γ0)
  (h:ChainY n0 P l.toArray D R N a0 γ0 w0.drew (fun Φs=>∀ vals γ w,R γ0 w0.drew γ w→(∀ i,i<l.length→gOf Φs i ((D i).map vals) γ w)→Q .normal (AR vals l 0 a0) w) 0 [] l) :
  (Code.region id l.toArray true).wpIn Fence.wide n0 P Q a0 w0:=by
 obtain ⟨Φs,-,h2,h3,h4⟩:=ChainY.full (k:=0) (done:=[]) rfl (fun _ h=>Y36) h;obtain ⟨-,-,-,hac,-⟩:=EM hB;refine IS hnf hm D hB R hrefl htrans N (gOf Φs) (fun i l γ w γ' w' r hg => ?_) γ0 hN (fun i o hi => ?_) (fun vals γ w hr hg=>h3 vals γ w hr fun i hi=>hg i Y34)
 ·exact WR
 ·exact U6

section
variable {Γ:Type}{n0:Nat}{P:Program}{ops:Array Oper}{D:Nat→List Nat}{R:Γ→World→Γ→World→Prop}{N:Nat→Γ→Prop}{a0:Act}{γ0:Γ}{w0:World}{Qf:List (Ft Γ)→Prop}{done:List (Ft Γ)}{o:Oper}{rest:List Oper}
theorem ChainY.step{k:Nat}(Φ:Ft Γ)(hk:done.length=k)(hst:Jt R Φ)
  (h:∀ vals γ w ρ,M9 ops D R N a0 γ0 w0 k done o vals γ w ρ (Ad o vals=true∧F0 n0 P (fun v w'=>∃ γ',R γ w γ' w'∧(∀ j,j≠k→j ∉ AJ o→N j γ→N j γ')∧Φ ((D k).map (EE vals k v)) γ' w') ((execOp ρ o).run P w)))
  (next:ChainY n0 P ops D R N a0 γ0 w0 Qf (k+1) (Φ::done) rest):ChainY n0 P ops D R N a0 γ0 w0 Qf k done (o::rest):=by
 exact YG
theorem EyA{k:Nat}{x:Value}(hrefl:∀ γ w,R γ w γ w)(hk:done.length=k)
  (h:∀ vals γ w ρ,M9 ops D R N a0 γ0 w0 k done o vals γ w ρ (Ad o vals=true∧F0 n0 P (fun v w'=>v=x∧w'=w) ((execOp ρ o).run P w)))
  (hD:D k=[k]) (next:ChainY n0 P ops D R N a0 γ0 w0 Qf (k+1) (FV x::done) rest):ChainY n0 P ops D R N a0 γ0 w0 Qf k done (o::rest):=by
 refine ChainY.step (FV x) hk (FIA x) (fun vals γ w ρ hR hN hp h1 h2 h3 h4 => ?_) next;obtain ⟨g1,g2⟩:=h vals γ w ρ hR hN hp h1 h2 h3 h4;refine ⟨g1,?_⟩;have key:∀ v w',v=x∧w'=w→∃ γ',R γ w γ' w'∧(∀ j,j≠k→j ∉ AJ o→N j γ→N j γ')∧FV x ((D k).map (EE vals k v)) γ' w':=by
  exact A8A
 revert g2
 cases (execOp ρ o).run P w with
 |ok n w' =>
  cases n with
  |value v=>exact key v w'
  |skip=>exact key undef w'
  |enter f args=>exact fun g2=>g2.mono fun e w'' ⟨v,e1,e2⟩=>⟨v,e1,key v w'' e2⟩
  |round l f tmps assign body=>exact fun g2=>g2.mono fun e w'' ⟨v,e1,e2⟩=>⟨v,e1,key v w'' e2⟩
  |_=>exact id
 |_=>exact id
end

def Rdy(r:Loop)(l D:Nat)(W:World):Prop:=W.heap[l]?=some (.loop r)∧W.heap[D]?=some (.deferred (some []))∧D<l
def DQA{β:Type}(B:Nat)(J:β→World→Prop):Prop:=∀ (s:β) (W:World) (l:Nat) (o o':Obj),B≤l→J s W→W.heap[l]?=some o→o.isCells=false→J s (W.putObj l o')
theorem Rdy.others{r:Loop}{l D:Nat}{W W':World}(h:Rdy r l D W)(k:KeepsOthers W W'):Rdy r l D W':=⟨k.same _ _ h.1 rfl,k.same _ _ h.2.1 rfl,h.2.2⟩
section
variable {F:Fence}{n:Nat}{P:Program}
end
end Go.Proofs.YtidacnalcdhckaaGreatDoor
namespace Go.Proofs.YtidacnalcdhckaaGreatDoor
open Go Go.RowKit Go.Shelf Tryz
variable {qP:Prop}
attribute [local go_sem] Oper.semAt_some

end Go.Proofs.YtidacnalcdhckaaGreatDoor
namespace Go.Proofs.YtidacnalcdhckaaGreatDoor
open Go Go.RowKit Go.Shelf Tryz
variable {qP:Prop}
attribute [local go_sem] Oper.semAt_some

structure RgJ(w:World)(g:Nat)(i:Nat)(W:World):Prop where
 ext:Ext w W
 res:Blk W g 4 #[.bool false]
 yr:Blk W (g+1) 3 #[.I (if 1≤i then 1 else 0)]
 mo:Blk W (g+1+1) 3 #[.I (if 3≤i then 1 else 0)]
 da:Blk W (g+1+1+1) 3 #[.I (if 5≤i then 1 else 0)]
 sh:Blk W (g+1+1+1+1) 4 #[.bool false]
theorem Blk.calm{W:World}{b t l:Nat}{cs:Array Value}{o o':Obj}(h:Blk W b t cs)(hl:W.heap[l]?=some o)(ho:o.isCells=false):Blk (W.putObj l o') b t cs:=by
 have hbl:b≠l:=by
  intro e;subst e;unfold Blk at h;rw [h] at hl;injection hl with hl;subst hl;cases ho
 unfold Blk at h⊢;rw [World.putObj_heap_other hbl];exact h
theorem RgJ.calm(w:World)(g:Nat):DQA w.heap.size (RgJ w g):=by
 intro i W l o o' hB h hl ho;exact ⟨⟨h.ext.os,h.ext.tape,h.ext.output,by simp only [World.putObj_size];exact h.ext.size,fun b hb=>by rw [World.putObj_heap_other Y4];exact h.ext.block b hb⟩,h.res.calm hl ho,h.yr.calm hl ho,h.mo.calm hl ho,h.da.calm hl ho,h.sh.calm hl ho⟩
theorem RgJ.keep{w W W':World}{g i:Nat}(h:RgJ w g i W)(hx:Ext w W')(k:∀ b,b<W.heap.size→b<g+5→W'.heap[b]?=W.heap[b]?)(hs:W.heap.size≤W'.heap.size):RgJ w g i W':=by
 have hk:Kept (fun b=>b<g+5) W W':=⟨hs,fun b hb hl=>k b hl hb⟩;exact ⟨hx,h.res.keep (hk.mono fun b _ e=>Y4),h.yr.keep (hk.mono fun b _ e=>Y4),h.mo.keep (hk.mono fun b _ e=>Y4),h.da.keep (hk.mono fun b _ e=>Y4),h.sh.keep (hk.mono fun b _ e=>Y4)⟩
theorem RgJ.more{w W W':World}{g i:Nat}(h:RgJ w g i W)(hx:Ext W W'):RgJ w g i W':=h.keep (h.ext.trans hx) (fun b hb _=>hx.block b hb) hx.size
theorem Ext.putObj{a b:World}(h:Ext a b){l:Nat}(hl:a.heap.size≤l)(o:Obj):Ext a (b.putObj l o):=⟨h.os,h.tape,h.output,by simp only [World.putObj_size];exact h.size,fun k hk=>by rw [World.putObj_heap_other Y4];exact h.block k hk⟩
theorem Ext.others{W W':World}(h:Ext W W'):KeepsOthers W W':=⟨h.size,fun k _ hk _=>(h.block k (Array.getElem?_eq_some_iff.1 hk).1).trans hk⟩
theorem Blk.off{W:World}{b t g i:Nat}{cs:Array Value}{u:Value}(h:Blk W b t cs)(hne:b≠g):Blk (W.setCell ⟨g,i,none⟩ u) b t cs:=h.keep (Kept.set2 (Kept.refl _ _) (fun e=>hne e.symm))
theorem Rdy.ext{r:Loop}{l D:Nat}{W W':World}(h:Rdy r l D W)(hx:Ext W W'):Rdy r l D W':=by
 have h1:=(Array.getElem?_eq_some_iff.1 h.1).1;have h2:=h.2.2;exact ⟨(hx.block l h1).trans h.1,(hx.block D Y4).trans h.2.1,h2⟩
theorem FHA{w:World}{t b:Nat}{cs:Array Value}(hb:b=w.heap.size):Blk (w.alloc (.cells cs t)) b t cs:=by rw [hb];exact Blk.new _ _ _
end Go.Proofs.YtidacnalcdhckaaGreatDoor
