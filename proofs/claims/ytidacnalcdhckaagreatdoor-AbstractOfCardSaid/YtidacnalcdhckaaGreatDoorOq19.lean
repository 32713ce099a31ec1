/- Lemmas. No conditions. -/
import Derived.Test.YtidacnalcdhckaaGreatDoorOq18
set_option maxRecDepth 100000
set_option maxHeartbeats 2000000
namespace Go.Proofs.YtidacnalcdhckaaGreatDoor
open Go Go.RowKit Tryz
variable {qP:Prop}

theorem Xq(s:BA)(hs:s.size≤4294967296)(w:World):Cl 109 #[.string s] w (Bk w (CT (bs s))):=by
 go_enter func109,ntmps109
 go_wp2
 go_loop [3,4] (fun a i=>∃ k:Nat,k≤s.size∧i=.I k∧a=.I (CT ((bs s).take k))) (fun _ i=>s.size-(intOf i).toNat)
 case atStart=>exact ⟨0,AN,rfl,rfl⟩
 case round =>
  obtain ⟨k,hk,rfl,rfl⟩:=hrel;obtain ⟨z,hz⟩:=eqx (CT ((bs s).take k));rw [←hz];have HZ:=Hd hz;clear hz;by_cases hlt:k<s.size
  ·obtain ⟨n,hn⟩:=eqx (Ev (s[k].toNat:Int));have hn6:n≤6:=(by rw [hn];exact Ir _);have HC:=Hd (show ∀ w',Cl 177 #[.int .u8 (s[k].toNat:Int)] w' (Bk w' (n:Int)) from fun w'=>by rw [hn];exact NR _ w');have HN:=Hd hn;clear hn
   go_wp2_with (go_at_call 177;refine (HC.o _).mono ?_;rintro e w' ⟨rfl,rfl⟩)
   exact S1
  ·exact Tc
theorem Fp(p q:Int)(w:World):Cl 129 #[.I p,.I q] w (SameB w (CM p q)):=by
 go_enter func129,ntmps129
 go_wp2;go_ret;refine ⟨?_,rfl⟩;unfold CM;show Ending.returned (Value.bool _)=Ending.returned (Value.bool _);congr 2
theorem Lb(h:qP:=by
 go_ret;refine ⟨?_,rfl⟩;rw [HT.o];simp [h]):qP:=h
theorem IE(h:qP:=by
 rintro e w' ⟨rfl,rfl⟩
 go_wp2_with fail
 exact Lb):qP:=h
theorem Mm(s:BA)(hs:s.size≤4294967296)(w:World):Cl 128 #[.string s] w (SameB w (Ca s)):=by
 obtain ⟨HB,HA,HT⟩:=Hd3 (El s hs) (fun w=>Fp (CT (bs s)) 110 w) (WN s);obtain ⟨z,hz⟩:=eqx (CM (CT (bs s)) 110);rw [←hz] at HA HT;clear hz;generalize CT (bs s)=x at *;by_cases h:s.size≤200
 ·go_enter func128,ntmps128
  go_wp2_with fail
  refine (HB.o _).mono ?_;rintro e w' ⟨rfl,rfl⟩
  go_wp2_with fail
  refine (HA.o _).mono ?_;exact IE
 ·go_enter func128,ntmps128
  go_wp2;exact Lb
theorem FD(a:Sh)(w:World):Cl 153 #[(Sq a)] w (DG w (BL a)):=by
 go_enter func153,ntmps153
 go_wp2;go_ret;exact ⟨rfl,(Ext.refl _).alloc _⟩
theorem AwA(x y:Int):(if y > x then y else x)=max x y:=by
 split<;>omega
theorem DEA(P:Program)(w:World)(ts:Array TypeId)(t:TypeId)(k k1 k2 k3:IntKind)(x y z u:Int):(Builtin.max_ ts t #[.int k x,.int k1 y,.int k2 z,.int k3 u]).run P w=.ok (.int k (max (max (max x y) z) u)) w:=by
 rw [←AwA x y,←AwA _ z,←AwA _ u];simp [Builtin.max_,Builtin.max2]
theorem TE(h:qP:=by
 go_wp2;go_ret;refine ⟨?_,(Ext.refl _).alloc _⟩;rw [H.o];rw [show max (max (max 0 a.least) (a.b.size:Int)) (a.e.size:Int)=max 0 (max a.least (max (a.b.size:Int) (a.e.size:Int))) by omega];rfl):qP:=h
theorem Df(a:Sh)(w:World):Cl 151 #[(Sq a)] w (DG w (AQ a)):=by
 have H:=Hd (show AQ a=max (max (max 0 a.least) (a.b.size:Int)) (a.e.size:Int) from rfl)
 go_enter func151,ntmps151
 go_wp2;rw [DEA];exact TE
theorem T5(h:qP:=by
 go_wp2;go_ret;refine ⟨?_,(Ext.refl _).alloc _⟩;rw [H.o]
 first | rfl | (simp only [Ending.returned.injEq,Value.int.injEq,true_and];omega)):qP:=h
theorem Ed(a:Sh)(w:World):Cl 152 #[(Sq a)] w (DG w (BE a)):=by
 have H:=Hd (show BE a=min a.most 200 from rfl)
 go_enter func152,ntmps152
 exact T5
theorem WE(a:Sh)(w:World):Cl 114 #[(Sq a)] w (DG w (AQ a)):=by
 have H:=Hd (show AQ a=max (max (max 0 a.least) (a.b.size:Int)) (a.e.size:Int) from rfl)
 go_enter func114,ntmps114
 exact TE
theorem Xw(a:Sh)(w:World):Cl 115 #[(Sq a)] w (DG w (BE a)):=by
 have H:=Hd (show BE a=min a.most 200 from rfl)
 go_enter func115,ntmps115
 exact T5
theorem Yj(c:Int)(w:World):Cl 222 #[.int .u8 c,.I 7] w (SameB w (C4 c)):=by
 have HC:=Hd (NR c);have HT:=Hd (show C4 c=decide (0<Ev c) from by
  unfold C4 Ev;exact MS)
 have hn6:=Ir c;generalize Ev c=n at *;by_cases h:0<n
 ·go_enter func222,ntmps222
  go_wp2_with fail
  refine (HC.o _).mono ?_;rintro e w' ⟨rfl,rfl⟩
  go_wp2_with fail
  have hk:Cl 258 #[.I (n:Int),.I 7] w (SameB w true):=by
   by_cases h7:(n:Int)=7
   ·omega
   ·go_enter func258,ntmps258
    exact Ea
  refine hk.mono ?_;exact IE
 ·go_enter func222,ntmps222
  go_wp2_with fail
  refine (HC.o _).mono ?_;exact IE
theorem FKA(s:BA)(hs:s.size≤4294967296)(w:World):Cl 176 #[.string s,.I 7] w (SameB w ((bs s).all C4)):=by
 go_enter func176,ntmps176
 go_wp2
 go_loop [5] (fun i=>∃ k:Nat,k≤s.size∧i=.I k∧∀ j (h:j<s.size),j<k→C4 (s[j].toNat:Int)=true) (fun i=>s.size-(intOf i).toNat)
 case atStart=>exact ⟨0,AN,rfl,AK⟩
 case round =>
  obtain ⟨k,hk,rfl,hall⟩:=hrel;have HA:=Hd hall;clear hall;by_cases hlt:k<s.size
  ·have HC:=Hd (Yj (s[k].toNat:Int));cases ht:C4 (s[k].toNat:Int)
   ·rw [ht] at HC;have hf:(bs s).all C4=false:=CX (bs s) C4 k (by rw [GY];exact hlt) (by rw [M8 s k hlt];exact ht);have HF:=Hd hf;clear hf ht
    go_wp2_with (go_at_call 222;refine (HC.o _).mono ?_;rintro e w' ⟨rfl,rfl⟩)
    exact FR
   ·rw [ht] at HC;have HT:=Hd ht;clear ht
    go_wp2_with (go_at_call 222;refine (HC.o _).mono ?_;rintro e w' ⟨rfl,rfl⟩)
    go_round
    case rel =>
     refine ⟨k+1,AA,AE,fun j h hj => ?_⟩;by_cases hjk:j=k
     ·subst hjk;exact HT.o
     ·exact HA.o j h AA
    case measure=>simp [intOf];omega
  ·have hf:(bs s).all C4=true:=CH (bs s) C4 (fun j h=>by rw [GY] at h;rw [M8 s j h];exact HA.o j h AA);exact T8
theorem TT(s:BA)(hs:s.size≤4294967296)(w:World):Cl 108 #[.string s] w (SameB w (Ca s)):=by
 have HB:=Hd (FKA s hs);have HT:=Hd (show Ca s=(decide (s.size≤200)&&(bs s).all C4) from rfl);generalize (bs s).all C4=z at *;by_cases h:s.size≤200
 ·go_enter func108,ntmps108
  go_wp2_with fail
  refine (HB.o _).mono ?_;exact IE
 ·go_enter func108,ntmps108
  go_wp2;exact Lb

theorem Fe(s p:BA)(w:World):Cl 131 #[.string s,.string p] w (SameB w (EA p s)) :=
 (Any.strings_HasPrefix Tryz.lt99 s p w).mono fun _ _ h=>⟨h.1,h.2.symm⟩
theorem Fh(s p:BA)(hs:s.size≤4294967296)(w:World):Cl 132 #[.string s,.string p] w (SameB w (EB p s)) :=
 (Any.strings_HasSuffix Tryz.lt100 s p w AA).mono fun _ _ h=>⟨h.1,h.2.symm⟩
def G0(w:World)(a:Sh)(e:Ending)(w':World):Prop:=e=.returned (Sq a)∧Ext w w'
theorem Hf(w:World):Cl 136 #[] w (G0 w H3A):=by
 go_enter func136,ntmps136
 go_wp2;refine bodyPost_ret (v:=(Sq H3A)) (by simp [results,results136,go_sem,H3A]) rfl ⟨rfl,?_⟩;exact (exaa w)
theorem AQA(w:World):Cl 62 #[] w (G0 w Sh.full):=by
 go_enter func62,ntmps62
 go_wp2;refine bodyPost_ret (v:=(Sq Sh.full)) (by simp [results,results62,go_sem,Sh.full]) rfl ⟨rfl,?_⟩;exact (exaa w)
theorem RC(w:World):Cl 73 #[] w (G0 w H3A):=by
 go_enter func73,ntmps73
 go_wp2;refine bodyPost_ret (v:=(Sq H3A)) (by simp [results,results73,go_sem,H3A]) rfl ⟨rfl,?_⟩;exact (exaa w)
def ofT(s:BA):Sh:=⟨s.size,s.size,CT (bs s),s,s⟩
theorem Yt{s:BA}(h:Ca s=true):ofS s=ofT s:=by
 unfold ofS;rw [if_pos h];rfl
theorem EKA{s:BA}(h:Ca s=false):ofS s=H3A:=by
 unfold ofS;rw [if_neg (by rw [h];simp)]
theorem R5(h:qP:=by
 iterate 5 with_reducible refine Ext.set2 ?_ (by omega) _
 with_reducible exact HX.o):qP:=h
theorem DZA(s:BA)(hs:s.size≤4294967296)(w:World):Cl 56 #[.string s] w (G0 w (ofS s)):=by
 have HT:=Hd (Mm s hs);have HB:=Hd (El s hs);obtain ⟨p,hp⟩:=eqx (CT (bs s));rw [←hp] at HB;have HP:=Hd hp;clear hp;cases ht:Ca s
 ·rw [ht] at HT;have HF:=Hd (EKA ht);clear ht
  go_enter func56,ntmps56
  go_wp2_with fail
  refine (HT.o _).mono ?_;rintro e w' ⟨rfl,rfl⟩
  go_wp2_with fail
  refine (Hf _).mono ?_;rintro e1 w1 ⟨rfl,hx1⟩;have hb1:=(Blk.new w 32 #[.I 0,.I 0,.I 0,.string ⟨#[]⟩,.string ⟨#[]⟩]).keep (hx1.kept _);obtain ⟨q0,q1,q2,q3,q4⟩:=hb1.qs5;have qf:=hb1.frozen;have ql:=hb1.lt;have HX:=Hd ((exaa w).trans hx1);clear hx1 hb1
  go_wp2_with fail
  rw [HF.o];refine bodyPost_ret (v:=(Sq H3A)) (by simp [results,results56,go_sem,q0,q1,q2,q3,q4]) rfl ⟨rfl,?_⟩;exact R5
 ·rw [ht] at HT;have HF:=Hd (show ofS s=⟨s.size,s.size,p,s,s⟩ by rw [Yt ht,HP.o];rfl);clear ht
  go_enter func56,ntmps56
  go_wp2_with fail
  refine (HT.o _).mono ?_;rintro e w' ⟨rfl,rfl⟩
  go_wp2_with fail
  refine (HB.o _).mono ?_;rintro e1 w1 ⟨rfl,rfl⟩
  go_wp2_with fail
  rw [HF.o];refine bodyPost_ret (v:=.agg #[.I (s.size:Int),.I (s.size:Int),.I p,.string s,.string s]) (by simp [results,results56,go_sem]) rfl ⟨rfl,?_⟩;exact (Ext.refl w).alloc _
theorem Kh(h:qP:=by
 intro vals γ w9 hR hG;refine Qx ?_;have HXN:=Hd (show Ext w0 w9 from hR.ext0 (fun _ _ _ h=>h.elim));clear hR hG;go_wp2;go_ret;exact ⟨by rw [HF.o];rfl,HX0.o.trans HXN.o⟩):qP:=h
theorem S6(h:qP:=by
 iterate 6 refine Qn ?_
 refine Qp ?_;exact Kh):qP:=h
theorem Se(h:qP:=by
 iterate 5 refine Qn ?_
 iterate 2 refine Qp ?_
 exact S6):qP:=h
theorem QH(h:qP:=by
 iterate 2 refine Qp ?_
 exact Kh):qP:=h
theorem BS(h:qP:=by rw [hw0];exact (Ext.refl w).alloc _):qP:=h
theorem EL(h:qP:=by rw [hw0,hg];exact Blk.new _ _ _):qP:=h
theorem U0(a:Sh)(s:BA)(_ha:a.b.size≤4294967296)(_he:a.e.size≤4294967296)(hs:s.size≤4294967296)(w:World):Cl 52 #[(Sq a),.string s] w (Ae w (Aj a s)):=by
 obtain ⟨p,hp⟩:=eqx (CT (bs s));obtain ⟨b1,hb1⟩:=eqx (CM p a.cls);obtain ⟨b2,hb2⟩:=eqx (EA a.b s);obtain ⟨b3,hb3⟩:=eqx (EB a.e s);obtain ⟨t,ht⟩:=eqx (Ca s);obtain ⟨HT,HP1,HA1,HH,HS,HE⟩:=Hd6 (show ∀ w',Cl 128 #[.string s] w' (SameB w' t) from fun w'=>by rw [ht];exact Mm s hs w') (show ∀ w',Cl 130 #[.string s] w' (Bk w' p) from fun w'=>by rw [hp];exact El s hs w') (show ∀ w',Cl 129 #[.I p,.I a.cls] w' (SameB w' b1) from fun w'=>by rw [hb1];exact Fp p a.cls w') (show ∀ w',Cl 131 #[.string s,.string a.b] w' (SameB w' b2) from fun w'=>by rw [hb2];exact Fe s a.b w') (show ∀ w',Cl 132 #[.string s,.string a.e] w' (SameB w' b3) from fun w'=>by rw [hb3];exact Fh s a.e hs w') (show Aj a s=(t&&decide (a.least≤s.size)&&decide ((s.size:Int)≤a.most)&&b1&&b2&&b3) from by rw [ht,hb1,hb2,hb3,hp];rfl);clear hp hb1 hb2 hb3 ht;obtain ⟨w0,hw0⟩:=eqx (w.alloc (.cells (Sp a) 32));have hx0:Ext w w0:=BS;obtain ⟨g,hg⟩:=eqx w.heap.size;have hbk:Blk w0 g 32 (Sp a):=EL;obtain ⟨k0,k1,k2,k3,k4,HX0,HW0,HG⟩:=Hd8 (hbk.q0) (hbk.q1) (hbk.q2) (hbk.q3) (hbk.q4) hx0 hw0 hg;clear hx0 hbk hw0 hg
 go_enter func52,ntmps52
 go_upto_region 1 with fail
 rw [←HW0.o,←HG.o];cases t
 ·have HF:=Hd (show Aj a s=false by rw [HE.o];rfl);refine Qa (fun _ _=>False) [] ?_;refine Qp ?_;refine Qc (fun w'=>HT.o w') ?_
  iterate 2 refine Qp ?_
  iterate 5 refine Qn ?_
  iterate 2 refine Qp ?_
  exact Se
 by_cases h1:(s.size:Int)<a.least
 ·have HF:=Hd (show Aj a s=false by rw [HE.o,show decide (a.least≤(s.size:Int))=false from decide_eq_false AA];rfl);refine Qa (fun _ _=>False) [] ?_;refine Qp ?_;refine Qc (fun w'=>HT.o w') ?_
  iterate 9 refine Qp ?_
  exact Se
 by_cases h2:a.most<(s.size:Int)
 ·have HF:=Hd (show Aj a s=false by rw [HE.o,show decide ((s.size:Int)≤a.most)=false from decide_eq_false AA,Bool.and_false];rfl);refine Qa (fun _ _=>False) [] ?_;refine Qp ?_;refine Qc (fun w'=>HT.o w') ?_
  iterate 16 refine Qp ?_
  exact S6
 have HE2:=Hd (show Aj a s=(b1&&b2&&b3) by rw [HE.o,show decide (a.least≤(s.size:Int))=true from decide_eq_true AA,show decide ((s.size:Int)≤a.most)=true from decide_eq_true AA];rfl);cases b1
 ·have HF:=Hd (show Aj a s=false by rw [HE2.o];rfl);refine Qa (fun _ _=>False) [] ?_;refine Qp ?_;refine Qc (fun w'=>HT.o w') ?_
  iterate 17 refine Qp ?_
  refine Qc (fun w'=>HP1.o w') ?_
  iterate 2 refine Qp ?_
  refine Qc (fun w'=>HA1.o w') ?_;exact QH
 refine Qa (fun _ _=>False) [] ?_;refine Qp ?_;refine Qc (fun w'=>HT.o w') ?_
 iterate 17 refine Qp ?_
 refine Qc (fun w'=>HP1.o w') ?_
 iterate 2 refine Qp ?_
 refine Qc (fun w'=>HA1.o w') ?_
 iterate 2 refine Qp ?_
 intro vals γ w9 hR hG;refine Qx ?_;have HXN:=Hd (show Ext w0 w9 from hR.ext0 (fun _ _ _ h=>h.elim));clear hR hG;have s0:=HXN.o.cell k0.o;have s1:=HXN.o.cell k1.o;have s2:=HXN.o.cell k2.o;have s3:=HXN.o.cell k3.o;have s4:=HXN.o.cell k4.o;have HX:=Hd (HX0.o.trans HXN.o);clear k0 k1 k2 k3 k4 HX0 HXN;have HF:=Hd (show Aj a s=(b2&&b3) by rw [HE2.o];rfl);cases b2
 ·go_wp2_with (go_at_call 131;refine (HH.o _).mono ?_;rintro e5 w5 ⟨rfl,rfl⟩)
  exact Lv
 ·go_wp2_with first|(go_at_call 131;refine (HH.o _).mono ?_;rintro e5 w5 ⟨rfl,rfl⟩)|(go_at_call 132;refine (HS.o _).mono ?_;rintro e6 w6 ⟨rfl,rfl⟩)
  exact Lv

theorem BI(a:Abs)(A D:OA)(c e k:Nat)(hk:k≤6)(w:World):Cl 84 #[(Aq a A c D e),.I (k:Int)] w (Ae w (bt a.kinds k)):=by
 have HBI:=Hd (fun w'=>At k hk w');have hand:=Mp a.kinds k hk;obtain ⟨w0,hw0⟩:=eqx (w.alloc (.cells (Ap a A c D e) 39));have hx0:Ext w w0:=BS;obtain ⟨g,hg⟩:=eqx w.heap.size;have hbk:Blk w0 g 39 (Ap a A c D e):=EL;obtain ⟨k0,HX0,HW0,HG⟩:=Hd4 (hbk.q0) hx0 hw0 hg;obtain ⟨b,hb⟩:=eqx (bt a.kinds k);rw [←hb] at hand⊢;have HND:=Hd hand;clear hx0 hbk hw0 hg hb hand
 go_enter func84,ntmps84
 go_upto_region 1 with fail
 rw [←HW0.o,←HG.o];refine Qa (fun _ _=>False) [] ?_
 iterate 3 refine Qp ?_
 refine Qc (fun w'=>HBI.o w') ?_
 iterate 3 refine Qp ?_
 intro vals γ w9 hR hG;refine Qx ?_;have HX1:=Hd (show Ext w0 w9 from hR.ext0 (fun _ _ _ h=>h.elim));clear hR hG;go_wp2;go_ret;refine ⟨?_,HX0.o.trans HX1.o⟩;rw [←HND.o];rfl
def DoA(w:World)(a:Abs)(e:Ending)(w':World):Prop:=e=.returned (Aq a none 0 none 0)∧Ext w w'
theorem KE(w:World):Cl 71 #[] w (G0 w H3A):=by
 go_enter func71,ntmps71
 go_wp2;refine bodyPost_ret (v:=(Sq H3A)) (by simp [results,results71,go_sem,H3A]) rfl ⟨rfl,?_⟩;exact (exaa w)
theorem MT(w:World):Cl 72 #[] w (Cd w (1,0)):=by
 go_enter func72,ntmps72
 go_wp2;refine bodyPost_ret (v:=.agg #[.I 1,.I 0]) (by simp [results,results72,go_sem]) rfl ⟨rfl,?_⟩;exact (exaa w)
theorem Ho(w:World):Cl 64 #[] w (Cd w (0,3652058)):=by
 go_enter func64,ntmps64
 go_wp2;refine bodyPost_ret (v:=.agg #[.I 0,.I 3652058]) (by simp [results,results64,go_sem]) rfl ⟨rfl,?_⟩;exact (exaa w)
theorem Ga(w:World):Cl 65 #[] w (Cd w (0,100)):=by
 go_enter func65,ntmps65
 go_wp2;refine bodyPost_ret (v:=.agg #[.I 0,.I 100]) (by simp [results,results65,go_sem]) rfl ⟨rfl,?_⟩;exact (exaa w)
theorem Xo(w:World):Cl 74 #[] w (Cd w (1,0)):=by
 go_enter func74,ntmps74
 go_wp2;refine bodyPost_ret (v:=.agg #[.I 1,.I 0]) (by simp [results,results74,go_sem]) rfl ⟨rfl,?_⟩;exact (exaa w)
theorem D7A(d e:Dep):decide (d=e)=(decide (d.tov=e.tov)&&decide (d.frm=e.frm)):=by
 rw [Bool.eq_iff_iff,Bool.and_eq_true,decide_eq_true_eq,decide_eq_true_eq,decide_eq_true_eq];cases d;cases e;simp only [Dep.mk.injEq];exact and_comm
theorem Kx(h:qP:=by
 go_wp2_with fail
 go_ret;exact ⟨by rw [HF.o];rfl,HX.o.drewN _⟩):qP:=h
theorem Nr(d e:Dep)(A B:OA)(ca cb:Nat)(w:World)(S T:NP)(hA:Strs w S A d.frm)(hB:Strs w T B e.frm) :
  Cl 185 #[.agg #[.slice A d.frm.length ca,.string d.tov],.agg #[.slice B e.frm.length cb,.string e.tov]] w (Ae w (decide (d=e))):=by
 have HD:=Hd (D7A d e);have hx0:Ext w ((w.alloc (.cells #[.slice A d.frm.length ca,.string d.tov] 69)).alloc (.cells #[.slice B e.frm.length cb,.string e.tov] 69)):=(exaa w).alloc _;have HQ:=Hd (M9 A B ca cb d.frm e.frm _ S T (hA.keep (hx0.kept S)) (hB.keep (hx0.kept T)));have HX:=Hd hx0;clear hA hB hx0;by_cases ht:d.tov=e.tov
 ·have h1:(d.tov.toList==e.tov.toList)=true:=(by rw [Bj];simp [ht]);have HF:=Hd (show decide (d=e)=decide (d.frm=e.frm) by rw [HD.o,decide_eq_true ht,Bool.true_and]);clear ht
  go_enter func185,ntmps185
  go_wp2_with fail
  refine HQ.o.mono ?_;rintro e1 w1 ⟨rfl,n,rfl⟩;exact Kx
 ·have h1:(d.tov.toList==e.tov.toList)=false:=(by rw [Bj];simp [ht]);have HF:=Hd (show decide (d=e)=false by rw [HD.o,decide_eq_false ht,Bool.false_and]);clear ht
  go_enter func185,ntmps185
  exact MQ
theorem N5(d e:Dep)(A B:OA)(ca cb:Nat)(w:World)(S T:NP)(hA:Strs w S A d.frm)(hB:Strs w T B e.frm) :
  Cl 61 #[.agg #[.slice A d.frm.length ca,.string d.tov],.agg #[.slice B e.frm.length cb,.string e.tov]] w (Ae w (decide (d=e))):=by
 have HD:=Hd (D7A d e);have hx0:Ext w ((w.alloc (.cells #[.slice A d.frm.length ca,.string d.tov] 69)).alloc (.cells #[.slice B e.frm.length cb,.string e.tov] 69)):=(exaa w).alloc _;have HQ:=Hd (Jq A B ca cb d.frm e.frm _ S T (hA.keep (hx0.kept S)) (hB.keep (hx0.kept T)));have HX:=Hd hx0;have hb1:Blk ((w.alloc (.cells #[.slice A d.frm.length ca,.string d.tov] 69)).alloc (.cells #[.slice B e.frm.length cb,.string e.tov] 69)) w.heap.size 69 #[.slice A d.frm.length ca,.string d.tov]:=(Blk.new _ _ _).keep ((exaa _).kept _);have hb2:=H6A w (.cells #[.slice A d.frm.length ca,.string d.tov] 69) 69 #[.slice B e.frm.length cb,.string e.tov];have HB1:=Hd (hb1.q1);have HB2:=Hd (hb2.q1);have h1:(d.tov.toList==e.tov.toList)=decide (d.tov=e.tov):=(by rw [Bj]);obtain ⟨b2,hb2'⟩:=eqx (decide (d.tov=e.tov));rw [←hb2'] at h1 HD;clear hA hB hx0 hb1 hb2 hb2'
 go_enter func61,ntmps61
 go_wp2_with fail
 refine HQ.o.mono ?_;rintro e1 w1 ⟨rfl,n,rfl⟩;have q0:=((Ext.refl _).drewN n).cell HB1.o;have q1:=((Ext.refl _).drewN n).cell HB2.o;cases hf:decide (d.frm=e.frm)
 ·have HF:=Hd (show decide (d=e)=false by rw [HD.o,hf,Bool.and_false]);exact Kx
 ·have HF:=Hd (show decide (d=e)=b2 by rw [HD.o,hf,Bool.and_true]);exact Kx

theorem UA(h:qP:=by
 show (w.heap.modify g _)[b]?=_;rw [Array.getElem?_modify,if_neg (fun e=>hb e.symm)]):qP:=h
theorem AM{P:Program}{ops:Array Oper}{rest:List Oper}{o:Oper}{a:Act}{w:World}{Q:Exit→Act→World→Prop}(hgd:o.guard=none)(ty:TypeId)(x y:Operand)(ho:o.op=.store ty x y)
  (g:Nat) (cells:Array Value) (hx:a.eval x=.pointer (some ⟨g,0,none⟩)) (hy:a.eval y=.agg cells)
  (t:TypeId) (old:Array Value) (hb:Blk w g t old) (hi:(P.info? ty).map (·.size)=some cells.size)
  (hold:old.size=cells.size) (h1:cells.all (·.oneCell')=true)
  (h:∀ w',Blk w' g t cells→Only g w w'→wpList P ops Q rest (a.put o.dst undef) w'):wpList P ops Q (o::rest) a w:=by
 refine wpList_store_row hgd ty x y ho g cells hx hy t old hb hi hold h1 (h _ ?_ ?_)
 ·exact setRow_heap w g old cells t _ hb
 ·refine ⟨rfl,rfl,rfl,setRow_size _ _ _,fun b hb => ?_⟩;exact UA
theorem Eq{P:Program}{w:World}{g t:Nat}{cs:Array Value}(hb:Blk w g t cs)(hd:(match P.underlying t with|some (.struct _)|some (.array _ _)=>true|_=>false)=true)(hi:(P.info? t).map (·.size)=some cs.size) :
  (loadVar t ⟨g,0,none⟩).run P w=.ok (.agg cs) w:=by
 cases hu:P.underlying t with
 |none=>rw [hu] at hd;cases hd
 |some d =>
  rw [hu] at hd;refine run_loadVar_row w g t t cs (0,0) d hb hu ?_ hi;cases d<;>first|rfl|cases hd
theorem Bv{P:Program}{fn:Func}{tmps:Array Value}{w:World}{i t:Nat}{p:Addr}{v:Value}(hf:fn.results=#[.cell i t])(ht:tmps.getD i undef=.pointer (some p))(hl:(loadVar t p).run P w=.ok v w) :
  (results fn tmps).run P w=.ok v w:=by
 have ht':tmps[i]?.getD undef=.pointer (some p):=(by simpa using ht);unfold results;simp [hf,ht',hl,asAddr]
theorem AS:(match prog.underlying 39 with|some (.struct _)|some (.array _ _)=>true|_=>false)=true:=by kernel_rfl
theorem AH:(prog.info? 39).map (·.size)=some 18:=by kernel_rfl

theorem Hk(w:World):Cl 27 #[] w (DoA w noneA):=by
 have HSH:=Hd (show ∀ w',Cl 71 #[] w' (fun e w''=>e=.returned (.agg #[.I 1,.I 0,.I 0,.string ⟨#[]⟩,.string ⟨#[]⟩])∧Ext w' w'') from KE);have HSP:=Hd (show ∀ w',Cl 72 #[] w' (fun e w''=>e=.returned (.agg #[.I 1,.I 0])∧Ext w' w'') from MT)
 go_enter func27,ntmps27
 go_wp2_with fail
 refine (HSH.o _).mono ?_;rintro e1 w1 ⟨rfl,hx1⟩;have HX1:=Hd ((exaa w).trans hx1);have HB1:=Hd ((Blk.new w 39 Az).keep (hx1.kept _));clear hx1
 go_wp2_with fail
 refine (HSP.o _).mono ?_;rintro e2 w2 ⟨rfl,hx2⟩;have HX2:=Hd (HX1.o.trans hx2);have HB2:=Hd (HB1.o.keep (hx2.kept _));clear hx2
 go_wp2_with fail
 refine (HSP.o _).mono ?_;rintro e3 w3 ⟨rfl,hx3⟩;have HX3:=Hd (HX2.o.trans hx3);have HB3:=Hd (HB2.o.keep (hx3.kept _));clear hx3;rename_i K1 hK1 K2 hK2;refine hK2 _ _ ?_;refine wpList_build rfl 39 _ rfl AD ?_;refine AM rfl 39 _ _ rfl w.heap.size (Ap noneA none 0 none 0) rfl AD 39 _ HB3.o AH rfl AD ?_;intro w4 hb4 ho4;have HX4:=Hd (HX3.o.only ho4 (Al));refine hK1 _ _ ?_;clear hK1 hK2 HB1 HB2 HB3 HX1 HX2 HX3
 go_wp2_with fail
 exact bodyPost_ret (Bv results27 rfl (Eq hb4 AS AH)) rfl ⟨rfl,HX4.o⟩

def Bw(a:Abs)(k:Nat):Bool :=
 match k with
 |1 => !AT a.tx
 |2 => !BF a.nu
 |3=>decide ((Cy a).1≤(Cy a).2)
 |4=>decide (boI a≠0)
 |5=>decide ((DF a).1≤(DF a).2)&&decide ((ddp a.cols).length≤8)&&(ddp a.cols).all Ba
 |_=>false
def Dp(a:Abs)(k:Nat)(r:Abs):Abs :=
 match k with
 |1 => { r with tx:=BW a.tx a.tx }
 |2 => { r with nu:=Cc a.nu a.nu }
 |3 => { r with dl:=(Cy a).1,dh:=(Cy a).2 }
 |4 => { r with bo:=boI a }
 |5 => { r with rl:=(DF a).1,rh:=(DF a).2,cols:=An (ddp a.cols),deps:=ddp a.deps }
 |_=>r
def DL(a:Abs)(k:Nat):Abs where
 kinds:=Ey (decide (1<k)&&pT a) (decide (2<k)&&pN a) (decide (3<k)&&pD a) (decide (4<k)&&pB a) (decide (5<k)&&pR a)
 tx:=if (decide (1<k)&&pT a)=true then BW a.tx a.tx else H3A
 nu:=if (decide (2<k)&&pN a)=true then Cc a.nu a.nu else IBA
 dl:=if (decide (3<k)&&pD a)=true then (Cy a).1 else 1
 dh:=if (decide (3<k)&&pD a)=true then (Cy a).2 else 0
 bo:=if (decide (4<k)&&pB a)=true then boI a else 0
 rl:=if (decide (5<k)&&pR a)=true then (DF a).1 else 1
 rh:=if (decide (5<k)&&pR a)=true then (DF a).2 else 0
 cols:=if (decide (5<k)&&pR a)=true then An (ddp a.cols) else []
 deps:=if (decide (5<k)&&pR a)=true then ddp a.deps else []
 errs:=a.errs
theorem B1A(a:Abs):DL a 6=AX a:=by
 unfold DL AX;simp
theorem YU(a:Abs):DL a 0 = { noneA with errs:=a.errs }:=by
 unfold DL noneA Ey;simp
theorem B6A(a:Abs):DL a 1=DL a 0:=by
 unfold DL;simp
theorem ExA(a:Abs):(bt a.kinds 1&&Bw a 1)=pT a∧(bt a.kinds 2&&Bw a 2)=pN a∧(bt a.kinds 3&&Bw a 3)=pD a∧(bt a.kinds 4&&Bw a 4)=pB a∧(bt a.kinds 5&&Bw a 5)=pR a:=by
 refine ⟨rfl,rfl,rfl,rfl,?_⟩;unfold pR Bw;simp only [Bool.and_assoc]
theorem Zr(h:qP:=by
 rw [e3];cases pD a<;>cases pN a<;>cases pT a<;>simp<;>decide):qP:=h
theorem ZM(h:qP:=by
 rw [e4];cases pB a<;>cases pD a<;>cases pN a<;>cases pT a<;>simp<;>decide):qP:=h
theorem AmA(h:qP:=by
 rw [e5];cases pR a<;>cases pB a<;>cases pD a<;>cases pN a<;>cases pT a<;>simp<;>decide):qP:=h
theorem UE(h:qP:=by
 obtain ⟨e1,e2,e3,e4,e5⟩:=ExA a;have hk:k=1∨k=2∨k=3∨k=4∨k=5:=(by omega);unfold DL Dp
 rcases hk with rfl|rfl|rfl|rfl|rfl
 ·rw [e1];cases pT a<;>simp<;>decide
 ·rw [e2];cases pN a<;>cases pT a<;>simp<;>decide
 ·exact Zr
 ·exact ZM
 ·exact AmA):qP:=h
theorem DlA(a:Abs)(k:Nat)(h1:1≤k)(h5:k≤5):DL a (k+1)=if (bt a.kinds k&&Bw a k)=true then { Dp a k (DL a k) with kinds:=bits .or .i64 (DL a k).kinds ((2^k:Nat):Int) } else DL a k:=by
 exact UE
theorem Hr(a:Abs)(k:Nat)(h1:1≤k)(h5:k≤5):DL a (k+1)=if (bt a.kinds k&&Bw a k)=true then { Dp a k (DL a k) with kinds:=(DL a k).kinds+((2^k:Nat):Int) } else DL a k:=by
 exact UE
theorem IA(a:Abs)(k:Nat):0≤(DL a k).kinds∧(DL a k).kinds≤62:=by
 show 0≤Ey _ _ _ _ _∧Ey _ _ _ _ _≤62;unfold Ey;constructor<;>(repeat' split)<;>omega
theorem GNA(a:Abs){k:Nat}(h:k≤4):(DL a k).bo=0:=by
 unfold DL;simp;omega
theorem Ws(a:Abs){k:Nat}(h:k≤5):(DL a k).cols=[]∧(DL a k).deps=[]:=by
 unfold DL;constructor<;>simp<;>omega

theorem DOA(s:BA)(hs:s.size≤4294967296)(w:World):Cl 39 #[.string s] w (G0 w (ofS s)):=by
 have HT:=Hd (TT s hs);have HB:=Hd (Xq s hs);obtain ⟨p,hp⟩:=eqx (CT (bs s));rw [←hp] at HB;have HP:=Hd hp;clear hp;cases ht:Ca s
 ·rw [ht] at HT;have HF:=Hd (EKA ht);clear ht
  go_enter func39,ntmps39
  go_wp2_with fail
  refine (HT.o _).mono ?_;rintro e w' ⟨rfl,rfl⟩
  go_wp2_with fail
  refine (RC _).mono ?_;rintro e1 w1 ⟨rfl,hx1⟩;have hb1:=(Blk.new w 32 #[.I 0,.I 0,.I 0,.string ⟨#[]⟩,.string ⟨#[]⟩]).keep (hx1.kept _);obtain ⟨q0,q1,q2,q3,q4⟩:=hb1.qs5;have qf:=hb1.frozen;have ql:=hb1.lt;have HX:=Hd ((exaa w).trans hx1);clear hx1 hb1
  go_wp2_with fail
  rw [HF.o];refine bodyPost_ret (v:=(Sq H3A)) (by simp [results,results39,go_sem,q0,q1,q2,q3,q4]) rfl ⟨rfl,?_⟩;exact R5
 ·rw [ht] at HT;have HF:=Hd (show ofS s=⟨s.size,s.size,p,s,s⟩ by rw [Yt ht,HP.o];rfl);clear ht
  go_enter func39,ntmps39
  go_wp2_with fail
  refine (HT.o _).mono ?_;rintro e w' ⟨rfl,rfl⟩
  go_wp2_with fail
  refine (HB.o _).mono ?_;rintro e1 w1 ⟨rfl,rfl⟩
  go_wp2_with fail
  rw [HF.o];refine bodyPost_ret (v:=.agg #[.I (s.size:Int),.I (s.size:Int),.I p,.string s,.string s]) (by simp [results,results39,go_sem]) rfl ⟨rfl,?_⟩;exact (Ext.refl w).alloc _
theorem Xf{p s:BA}(_h:p.size≤s.size):((s.extract 0 p.size).toList==p.toList)=EA p s:=by
 rw [Bj,Bool.eq_iff_iff,decide_eq_true_eq,Fq,List.prefix_iff_eq_take];constructor
 ·intro he;have:=congrArg (fun x:BA=>x.data.toList) he;simp only [ByteArray.data_extract,Array.toList_extract,List.extract_eq_take_drop,List.drop_zero,Nat.sub_zero] at this;exact this.symm
 ·intro he;have:(s.extract 0 p.size).data.toList=p.data.toList:=by
   rw [ByteArray.data_extract,Array.toList_extract,List.extract_eq_take_drop,List.drop_zero,Nat.sub_zero];exact he.symm
  rw [←He (s.extract 0 p.size),this,He]
theorem Xc{p s:BA}(_h:p.size≤s.size):((s.extract (s.size-p.size) s.size).toList==p.toList)=EB p s:=by
 rw [Bj,Bool.eq_iff_iff,decide_eq_true_eq,Fo,List.suffix_iff_eq_drop];have e:(s.extract (s.size-p.size) s.size).data.toList=s.data.toList.drop (s.data.toList.length-p.data.toList.length):=by
  rw [ByteArray.data_extract,Array.toList_extract,List.extract_eq_take_drop,List.take_of_length_le]
  ·rfl
  ·rw [List.length_drop];exact Al
 constructor
 ·intro he;have:=congrArg (fun x:BA=>x.data.toList) he;exact (e.symm.trans this).symm
 ·intro he;rw [←He (s.extract _ _),e,←he,He]
theorem Gl(h:qP:=by
 go_wp2_with (go_at_call 108;refine (HT.o _).mono ?_;rintro e1 w1 ⟨rfl,rfl⟩)
 go_ret;exact ⟨by rw [HF.o];rfl,HXA.o⟩):qP:=h
theorem RG(h:qP:=by
 iterate 11 refine Qn ?_
 exact QH):qP:=h
theorem TG(h:qP:=by
 refine Qa (fun _ _=>False) [] ?_;refine Qp ?_;refine Qc (fun w'=>HP1.o w') ?_
 iterate 4 refine Qp ?_
 refine Qc (fun w'=>HP1.o w') ?_
 iterate 25 refine Qp ?_
 exact Kh):qP:=h
theorem Wt(a:Sh)(s:BA)(_ha:a.b.size≤4294967296)(he:a.e.size≤4294967296)(hs:s.size≤4294967296)(w:World):Cl 66 #[(Sq a),.string s] w (Ae w (Aj a s)):=by
 obtain ⟨p,hp⟩:=eqx (CT (bs s));obtain ⟨t,ht⟩:=eqx (Ca s);obtain ⟨HT,HP1,HE,HPI⟩:=Hd4 (show ∀ w',Cl 108 #[.string s] w' (SameB w' t) from fun w'=>by rw [ht];exact TT s hs w') (show ∀ w',Cl 109 #[.string s] w' (Bk w' p) from fun w'=>by rw [hp];exact Xq s hs w') (show Aj a s=(t&&decide (a.least≤s.size)&&decide ((s.size:Int)≤a.most)&&CM p a.cls&&EA a.b s&&EB a.e s) from by rw [ht,hp];rfl) (show Er p from by rw [hp];exact DgA _);clear hp ht;obtain ⟨w0,hw0⟩:=eqx (w.alloc (.cells (Sp a) 32));have hx0:Ext w w0:=BS;obtain ⟨g,hg⟩:=eqx w.heap.size;have hbk:Blk w0 g 32 (Sp a):=EL;obtain ⟨k0,k1,k2,k3,k4,HX0,HW0,HG⟩:=Hd8 (hbk.q0) (hbk.q1) (hbk.q2) (hbk.q3) (hbk.q4) hx0 hw0 hg;clear hx0 hbk hw0 hg;have HXA:=Hd (show Ext w (w.alloc (.cells (Sp a) 32)) from (Ext.refl w).alloc _);have hand:(bits .and .i64 p a.cls==p)=CM p a.cls:=by
  rw [Bool.eq_iff_iff,beq_iff_eq,Iy];constructor
  ·intro h i _ hi;rw [←h,CN,Bool.and_eq_true] at hi;exact hi.2
  ·intro h;refine DT (CJ _ _ _) HPI.o fun i hi => ?_;rw [CN];cases hb:bt p i
   ·rfl
   ·rw [h i hi hb];rfl
 obtain ⟨b1,hb1⟩:=eqx (CM p a.cls);obtain ⟨b2,hb2⟩:=eqx (EA a.b s);obtain ⟨b3,hb3⟩:=eqx (EB a.e s);rw [←hb1] at hand;have HAND:=Hd hand;rw [←hb1,←hb2,←hb3] at HE;have HB2:=Hd hb2;have HB3:=Hd hb3;clear hand hb1 hb2 hb3
 go_enter func66,ntmps66
 cases t
 ·have HF:=Hd (show Aj a s=false by rw [HE.o];rfl);exact Gl
 by_cases h1:(s.size:Int)<a.least
 ·have HF:=Hd (show Aj a s=false by rw [HE.o,show decide (a.least≤(s.size:Int))=false from decide_eq_false AA];rfl);exact Gl
 by_cases h2:a.most<(s.size:Int)
 ·have HF:=Hd (show Aj a s=false by rw [HE.o,show decide ((s.size:Int)≤a.most)=false from decide_eq_false AA,Bool.and_false];rfl);exact Gl
 have HE2:=Hd (show Aj a s=(b1&&b2&&b3) by rw [HE.o,show decide (a.least≤(s.size:Int))=true from decide_eq_true AA,show decide ((s.size:Int)≤a.most)=true from decide_eq_true AA];rfl);by_cases h3:s.size<a.b.size
 ·have HF:=Hd (show Aj a s=false by
   rw [HE2.o];have:b2=false:=by
    rw [HB2.o,Bool.eq_false_iff];intro h;have h:=(Fq.1 h).length_le
    change a.b.size≤s.size at h
    omega
   rw [this,Bool.and_false];rfl)
  exact Gl
 by_cases h4:s.size<a.e.size
 ·have HF:=Hd (show Aj a s=false by
   rw [HE2.o];have:b3=false:=by
    rw [HB3.o,Bool.eq_false_iff];intro h;have h:=(Fo.1 h).length_le
    change a.e.size≤s.size at h
    omega
   rw [this,Bool.and_false])
  exact Gl
 go_upto_region 3 with (go_at_call 108;refine (HT.o _).mono ?_;rintro e1 w1 ⟨rfl,rfl⟩)
 rw [←HW0.o,←HG.o];have hand:=HAND.o;have hpre:=Xf (p:=a.b) (s:=s) AA;have hsuf:=Xc (p:=a.e) (s:=s) AA;obtain ⟨u,hu⟩:=eqx (s.size-a.e.size);rw [←hu] at hsuf;have hsub:IntKind.i64.wrap ((s.size:Int)-(a.e.size:Int))=(u:Int):=by
  rcases Hc ((s.size:Int)-(a.e.size:Int)) with h|h<;>have:=Hh ((s.size:Int)-(a.e.size:Int))<;>unfold Er at this<;>omega
 have n3:u≤s.size:=AA;have HU:=Hd hu;clear hu;rw [←HB2.o] at hpre;rw [←HB3.o] at hsuf;have n1:a.b.size≤s.size:=AA;have n2:a.e.size≤s.size:=AA;cases b1
 ·have HF:=Hd (show Aj a s=false by rw [HE2.o];rfl);refine Qa (fun _ _=>False) [] ?_;refine Qp ?_;refine Qc (fun w'=>HP1.o w') ?_
  iterate 4 refine Qp ?_
  refine Qc (fun w'=>HP1.o w') ?_
  iterate 2 refine Qp ?_
  iterate 8 refine Qn ?_
  iterate 2 refine Qp ?_
  exact RG
 cases b2
 ·have HF:=Hd (show Aj a s=false by rw [HE2.o];rfl);refine Qa (fun _ _=>False) [] ?_;refine Qp ?_;refine Qc (fun w'=>HP1.o w') ?_
  iterate 4 refine Qp ?_
  refine Qc (fun w'=>HP1.o w') ?_
  iterate 12 refine Qp ?_
  exact RG
 cases b3
 ·have HF:=Hd (show Aj a s=false by rw [HE2.o];rfl);exact TG
 ·have HF:=Hd (show Aj a s=true by rw [HE2.o];rfl);exact TG

theorem Xn{α:Sort _}(p q:Prop) [Decidable p] [Decidable q](x y:α):(if p then (if q then x else y) else y)=if p∧q then x else y:=by
 by_cases h1:p<;>by_cases h2:q<;>simp [h1,h2]
def CoA(lo hi o:Int)(b1 b2:Bool)(nb ne:Nat)(lap:Bool):Bool:=decide (hi<lo)||!b1||!b2||(if o=0 then decide (0<lo) else decide (hi<nb+ne)&&!lap)
theorem Wp{a:Sh}(h:a.least=1∧a.most=0∧a.cls=0∧a.b.toList=[]∧a.e.toList=[]):AT a=true:=by
 obtain ⟨l,m,c,b,e⟩:=a;simp only at h;obtain ⟨rfl,rfl,rfl,h4,h5⟩:=h;rw [WR] at h4 h5;subst h4 h5;exact Mf
theorem CJA{b e:BA}{u v:Nat}(_hv:v≤e.size):((b.extract u b.size).toList==(e.extract 0 v).toList)=decide (b.data.toList.drop u=e.data.toList.take v):=by
 rw [Bj,Bool.eq_iff_iff,decide_eq_true_eq,decide_eq_true_eq];have h1:(b.extract u b.size).data.toList=b.data.toList.drop u:=by
  rw [ByteArray.data_extract,Array.toList_extract,List.extract_eq_take_drop,List.take_of_length_le];rw [List.length_drop];exact Al
 have h2:(e.extract 0 v).data.toList=e.data.toList.take v:=by
  rw [ByteArray.data_extract,Array.toList_extract,List.extract_eq_take_drop,List.drop_zero,Nat.sub_zero]
 constructor
 ·intro h;have:=congrArg (fun x:BA=>x.data.toList) h;exact h1.symm.trans (this.trans h2)
 ·intro h;rw [←He (b.extract u b.size),h1,h,←h2,He]
theorem T9(h:qP:=by
 refine Qr ?_;simp only [Xn];rw [if_neg HP.o];exact ⟨rfl,rfl⟩):qP:=h
theorem Ax(a:Sh)(hb:a.b.size≤4294967296)(he:a.e.size≤4294967296)(w:World):Cl 150 #[(Sq a)] w (Ae w (AT a)):=by
 obtain ⟨lo,hlo⟩:=eqx (AQ a);obtain ⟨hi,hhi⟩:=eqx (BE a);obtain ⟨o,ho⟩:=eqx (BL a);obtain ⟨p,hp⟩:=eqx (CT (bs a.b));obtain ⟨q,hq⟩:=eqx (CT (bs a.e));obtain ⟨b1,hb1⟩:=eqx (CM p o);obtain ⟨b2,hb2⟩:=eqx (CM q o);obtain ⟨HL,HM,HO,HP1,HQ1,HA1,HA2,HN⟩:=Hd8 (show ∀ w',Cl 151 #[(Sq a)] w' (DG w' lo) from fun w'=>by rw [hlo];exact Df a w') (show ∀ w',Cl 152 #[(Sq a)] w' (DG w' hi) from fun w'=>by rw [hhi];exact Ed a w') (show ∀ w',Cl 153 #[(Sq a)] w' (DG w' o) from fun w'=>by rw [ho];exact FD a w') (show ∀ w',Cl 130 #[.string a.b] w' (Bk w' p) from fun w'=>by rw [hp];exact El a.b hb w') (show ∀ w',Cl 130 #[.string a.e] w' (Bk w' q) from fun w'=>by rw [hq];exact El a.e he w') (show ∀ w',Cl 129 #[.I p,.I o] w' (SameB w' b1) from fun w'=>by rw [hb1];exact Fp p o w') (show ∀ w',Cl 129 #[.I q,.I o] w' (SameB w' b2) from fun w'=>by rw [hb2];exact Fp q o w') (show ∀ w',Cl 136 #[] w' (G0 w' H3A) from Hf);have HE:=Hd (show AT a=CoA lo hi o b1 b2 a.b.size a.e.size ((List.range 201).any fun n=>decide (lo≤n∧(n:Int)≤hi)&&XG a n) from by
  rw [hlo,hhi,hb1,hb2,hp,hq,ho];rfl)
 have HLB:=Hd (show (a.b.size:Int)≤lo∧(a.e.size:Int)≤lo∧0≤lo∧hi≤200 from by rw [hlo,hhi];unfold AQ BE;omega);clear hlo hhi ho hp hq hb1 hb2;have HPN:=Hd (Wp (a:=a));obtain ⟨w0,hw0⟩:=eqx (w.alloc (.cells (Sp a) 32));have hx0:Ext w w0:=BS;obtain ⟨g,hg⟩:=eqx w.heap.size;have hbk:Blk w0 g 32 (Sp a):=EL;obtain ⟨k0,k1,k2,k3,k4,HX0,HW0,HG⟩:=Hd8 (hbk.q0) (hbk.q1) (hbk.q2) (hbk.q3) (hbk.q4) hx0 hw0 hg;clear hx0 hbk hw0 hg
 go_enter func150,ntmps150
 go_upto_region 1 with fail
 rw [←HW0.o,←HG.o];refine Qa (fun _ _=>False) [] ?_;refine Qp ?_;refine Qc (fun w'=>HL.o w') ?_;refine Qp ?_;refine Qc (fun w'=>HM.o w') ?_
 iterate 2 refine Qp ?_
 intro vals γ w9 hR hG;refine Qx ?_;have HXN:=Hd (show Ext w0 w9 from hR.ext0 (fun _ _ _ h=>h.elim));clear hR hG;obtain ⟨w1,hw1⟩:=eqx w9;rw [←hw1] at HXN⊢;have HX1:=Hd (HX0.o.trans HXN.o);clear hw1;obtain ⟨p0,p1,p2,p3,p4⟩:=Hd5 (HXN.o.cell k0.o) (HXN.o.cell k1.o) (HXN.o.cell k2.o) (HXN.o.cell k3.o) (HXN.o.cell k4.o);clear k0 k1 k2 k3 k4 HX0 HXN
 go_upto_region 2 with fail
 by_cases hpn:a.least=1∧a.most=0∧a.cls=0∧a.b.toList=[]∧a.e.toList=[]
 ·have HP:=Hd hpn;have HF:=Hd (HPN.o hpn);clear hpn;refine Qa (fun _ _=>False) [] ?_;refine Qp ?_;refine Qc (x:=.agg #[.I 1,.I 0,.I 0,.string ⟨#[]⟩,.string ⟨#[]⟩]) (fun w'=>HN.o w') ?_;refine Qm (fun vals γ w' ρ hR hN hp hρ zs zg=>by
   refine Qr ?_;simp only [Xn];rw [if_pos HP.o];exact ⟨rfl,rfl⟩) ?_
  refine Qp ?_
  iterate 3 refine Qn ?_
  refine Qp ?_;intro vals γ w9 hR hG;refine Qx ?_;have HX2:=Hd (show Ext w1 w9 from hR.ext0 (fun _ _ _ h=>h.elim));clear hR hG;go_wp2;go_ret;exact ⟨BB,HX1.o.trans HX2.o⟩
 have HP:=Hd hpn;clear hpn HPN;by_cases hlt:hi<lo
 ·have HF:=Hd (show AT a=true by rw [HE.o];unfold CoA;rw [decide_eq_true hlt];rfl);refine Qa (fun _ _=>False) [] ?_;refine Qp ?_;refine Qc (x:=.agg #[.I 1,.I 0,.I 0,.string ⟨#[]⟩,.string ⟨#[]⟩]) (fun w'=>HN.o w') ?_;refine Qm (fun vals γ w' ρ hR hN hp hρ zs zg=>by
   exact T9) ?_
  iterate 5 refine Qp ?_
  intro vals γ w9 hR hG;refine Qx ?_;have HX2:=Hd (show Ext w1 w9 from hR.ext0 (fun _ _ _ h=>h.elim));clear hR hG;go_wp2;go_ret;exact ⟨BB,HX1.o.trans HX2.o⟩
 refine Qa (fun _ _=>False) [] ?_;refine Qp ?_;refine Qc (x:=.agg #[.I 1,.I 0,.I 0,.string ⟨#[]⟩,.string ⟨#[]⟩]) (fun w'=>HN.o w') ?_;refine Qm (fun vals γ w' ρ hR hN hp hρ zs zg=>by
  exact T9) ?_
 iterate 5 refine Qp ?_
 intro vals γ w9 hR hG;refine Qx ?_;have HX2:=Hd (show Ext w1 w9 from hR.ext0 (fun _ _ _ h=>h.elim));clear hR hG;obtain ⟨w2,hw2⟩:=eqx w9;rw [←hw2] at HX2⊢;have HX4:=Hd (HX1.o.trans HX2.o);clear hw2;obtain ⟨r0,r1,r2,r3,r4⟩:=Hd5 (HX2.o.cell p0.o) (HX2.o.cell p1.o) (HX2.o.cell p2.o) (HX2.o.cell p3.o) (HX2.o.cell p4.o);clear p0 p1 p2 p3 p4 HX1 HX2
 go_upto_region 4 with fail
 cases b1
 ·have HF:=Hd (show AT a=true by rw [HE.o];unfold CoA;cases decide (hi<lo)<;>rfl);refine Qa (fun _ _=>False) [] ?_
  iterate 2 refine Qp ?_
  refine Qc (fun w'=>HP1.o w') ?_;refine Qp ?_;refine Qc (fun w'=>HO.o w') ?_;refine Qc (fun w'=>HA1.o w') ?_
  iterate 2 refine Qp ?_
  iterate 7 refine Qn ?_
  refine Qp ?_;intro vals γ w9 hR hG;refine Qx ?_;have HX3:=Hd (show Ext w2 w9 from hR.ext0 (fun _ _ _ h=>h.elim));clear hR hG;go_wp2;go_ret;exact ⟨BB,HX4.o.trans HX3.o⟩
 cases b2
 ·have HF:=Hd (show AT a=true by rw [HE.o];unfold CoA;cases decide (hi<lo)<;>rfl);refine Qa (fun _ _=>False) [] ?_
  iterate 2 refine Qp ?_
  refine Qc (fun w'=>HP1.o w') ?_;refine Qp ?_;refine Qc (fun w'=>HO.o w') ?_;refine Qc (fun w'=>HA1.o w') ?_
  iterate 4 refine Qp ?_
  refine Qc (fun w'=>HQ1.o w') ?_;refine Qp ?_;refine Qc (fun w'=>HO.o w') ?_;refine Qc (fun w'=>HA2.o w') ?_
  iterate 2 refine Qp ?_
  intro vals γ w9 hR hG;refine Qx ?_;have HX3:=Hd (show Ext w2 w9 from hR.ext0 (fun _ _ _ h=>h.elim));clear hR hG;go_wp2;go_ret;exact ⟨BB,HX4.o.trans HX3.o⟩
 refine Qa (fun _ _=>False) [] ?_
 iterate 2 refine Qp ?_
 refine Qc (fun w'=>HP1.o w') ?_;refine Qp ?_;refine Qc (fun w'=>HO.o w') ?_;refine Qc (fun w'=>HA1.o w') ?_
 iterate 4 refine Qp ?_
 refine Qc (fun w'=>HQ1.o w') ?_;refine Qp ?_;refine Qc (fun w'=>HO.o w') ?_;refine Qc (fun w'=>HA2.o w') ?_
 iterate 2 refine Qp ?_
 intro vals γ w9 hR hG;refine Qx ?_;have HX3:=Hd (show Ext w2 w9 from hR.ext0 (fun _ _ _ h=>h.elim));clear hR hG;obtain ⟨w3,hw3⟩:=eqx w9;rw [←hw3] at HX3⊢;have HX5:=Hd (HX4.o.trans HX3.o);clear hw3;have s0:=HX3.o.cell r0.o;have s1:=HX3.o.cell r1.o;have s2:=HX3.o.cell r2.o;have s3:=HX3.o.cell r3.o;have s4:=HX3.o.cell r4.o;have HHL:=Hd hlt;clear r0 r1 r2 r3 r4 HX4 HX3 hlt;by_cases ho:o=0
 ·have HF:=Hd (show AT a=decide (0<lo) by rw [HE.o];unfold CoA;rw [if_pos ho,decide_eq_false HHL.o];simp);have hoz:(o==0)=true:=(by rw [beq_iff_eq];exact ho);clear ho HE
  go_wp2_with (go_at_call 153;refine (HO.o _).mono ?_;rintro e4 w4 ⟨rfl,hx4⟩;have HX6:=Hd (HX5.o.trans hx4);clear hx4)
  go_ret;refine ⟨?_,HX6.o⟩;rw [HF.o];rfl
 have HF:=Hd (show AT a=(decide (hi<(a.b.size:Int)+a.e.size)&&!((List.range 201).any fun n=>decide (lo≤n∧(n:Int)≤hi)&&XG a n)) by rw [HE.o];unfold CoA;rw [if_neg ho,decide_eq_false HHL.o];simp);have hoz:(o==0)=false:=(by rw [beq_eq_false_iff_ne];exact ho);clear ho HE
 go_wp2_with (go_at_call 153;refine (HO.o _).mono ?_;rintro e4 w4 ⟨rfl,hx4⟩;have HX6:=Hd (HX5.o.trans hx4);have s0:=hx4.cell s0;have s1:=hx4.cell s1;have s2:=hx4.cell s2;have s3:=hx4.cell s3;have s4:=hx4.cell s4;clear hx4)
 ·go_ret;refine ⟨?_,HX6.o⟩;rw [HF.o,show decide (hi<(a.b.size:Int)+a.e.size)=false from decide_eq_false AA];rfl
 obtain ⟨hlb,hle,hl0,hh⟩:=HLB.o;obtain ⟨L,rfl⟩:∃ L:Nat,lo=(L:Int):=⟨lo.toNat,AA⟩;have hap:hi<(a.b.size:Int)+a.e.size:=AA;obtain ⟨nb,hnb⟩:=eqx a.b.size;obtain ⟨ne,hne⟩:=eqx a.e.size;rw [←hnb] at hb hlb;rw [←hne] at he hle;obtain ⟨wk,hwk⟩:=eqx w4;obtain ⟨HWK,HNB,HNE⟩:=Hd3 hwk hnb hne;rw [←hnb,←hne] at hap;rw [←hnb,←hne];rw [←hwk] at s3 s4⊢;have t3:=Hd s3;have t4:=Hd s4;clear s0 s1 s2 s3 s4 hwk hnb hne HL HM HO HP1 HQ1 HA1 HA2 HN
 go_loopw [6,7] (fun i _u wr=>(∃ k:Nat,i=.I k∧L≤k∧(k:Int)≤hi+1∧∀ m,L≤m→m<k→XG a m=false)∧Ext wk wr) (fun i _ _=>202-(intOf i).toNat)
 case atStart=>exact ⟨⟨L,rfl,Al,by have:=HHL.o;omega,AK⟩,Ext.refl _⟩
 case round =>
  obtain ⟨⟨k,rfl,hk1,hk2,hall⟩,hxr⟩:=hrel;have HXK:=Hd hxr;clear hxr;have HA:=Hd hall;clear hall;by_cases hkh:(k:Int)≤hi
  ·obtain ⟨v,hv⟩:=eqx (nb+ne-k);obtain ⟨u,hu⟩:=eqx (k-ne);have e1:(nb:Int)+ne-(k:Int)=(v:Int):=AA;have e3:u≤nb:=AA;have e4:v≤ne:=AA;have e5:v≤nb:=AA;have hlap:XG a k=((a.b.extract u a.b.size).toList==(a.e.extract 0 v).toList):=by
    rw [CJA (by rw [←HNE.o];exact e4)];unfold XG;rw [show k-a.E.length=u by rw [F1,←HNE.o];exact hu.symm,show a.B.length+a.E.length-k=v by rw [F1,G6,←HNE.o,←HNB.o];exact hv.symm];rfl
   have hsub:IntKind.i64.wrap ((a.b.size:Int)-(v:Int))=(u:Int):=by
    rw [←HNB.o]
    rcases Hc ((nb:Int)-(v:Int)) with h|h<;>have:=Hh ((nb:Int)-(v:Int))<;>unfold Er at this<;>omega
   rw [HNB.o] at e3 e5;rw [HNE.o] at e4;clear hv hu;obtain ⟨HXR,x3,x4⟩:=Hd3 (show Ext w wr from by have:=HX6.o;rw [←HWK.o] at this;exact this.trans HXK.o) (HXK.o.cell t3.o) (HXK.o.cell t4.o)
   go_upto_region 15 with fail
   cases hl:XG a k
   ·rw [hl] at hlap
    replace hlap:=hlap.symm
    have HLP:=Hd hl;clear hl;refine Qa (fun _ _=>False) [] ?_
    iterate 13 refine Qp ?_
    intro vals γ w9 hR hG;refine Qx ?_;have HX9:=Hd (show Ext wr w9 from hR.ext0 (fun _ _ _ h=>h.elim));clear hR hG;go_wp2;go_roundw
    case rel=>exact ⟨⟨k+1,AE,AA,AA,fun m hm1 hm2=>by by_cases hmk:m=k;exact hmk ▸ HLP.o;exact HA.o m hm1 AA⟩,HXK.o.trans HX9.o⟩
    case measure=>simp [intOf];omega
   ·rw [hl] at hlap
    replace hlap:=hlap.symm
    have HLP:=Hd hl;clear hl;have HF2:=Hd (show AT a=false from by
     rw [HF.o,show decide (hi<(a.b.size:Int)+a.e.size)=true from decide_eq_true (by rw [←HNB.o,←HNE.o];exact hap),Bool.true_and,Bool.not_eq_false',List.any_eq_true];exact ⟨k,by rw [List.mem_range];omega,by rw [HLP.o];simp;omega⟩)
    refine Qa (fun _ _=>False) [] ?_
    iterate 13 refine Qp ?_
    intro vals γ w9 hR hG;refine Qx ?_;have HX9:=Hd (show Ext wr w9 from hR.ext0 (fun _ _ _ h=>h.elim));clear hR hG;go_wp2;go_ret;exact ⟨by rw [HF2.o];rfl,HXR.o.trans HX9.o⟩
  ·have HF2:=Hd (show AT a=true from by
    rw [HF.o,show decide (hi<(a.b.size:Int)+a.e.size)=true from decide_eq_true (by rw [←HNB.o,←HNE.o];exact hap),Bool.true_and,Bool.not_eq_true',List.any_eq_false];intro m _ hm;simp only [Bool.and_eq_true,decide_eq_true_eq] at hm;rw [HA.o m AA AA] at hm;cases hm.2)
   go_wp2;go_ret;exact ⟨by rw [HF2.o];rfl,by have:=HX6.o;rw [←HWK.o] at this;exact this.trans HXK.o⟩
end Go.Proofs.YtidacnalcdhckaaGreatDoor
