/- Lemmas. No conditions. -/
import Derived.Test.YtidacnalcdhckaaGreatDoorYq11
import Derived.Sort.Walk0
set_option maxRecDepth 100000
set_option maxHeartbeats 4000000
namespace Go.Proofs.YtidacnalcdhckaaGreatDoor
open Go Go.RowKit Tryz
variable {qP:Prop}

theorem Iz(h:qP:=by
 rw [hn];exact XD):qP:=h
theorem Ps(h:qP:=by
 subst this;clear hn
 go_enter func188,ntmps188
 exact Z49):qP:=h
theorem YL(h:qP:=by
 have:n=0:=by
  exact Iz
 exact Ps):qP:=h
theorem T8(h:qP:=by
 have:n=6:=by
  exact Iz
 exact Ps):qP:=h
theorem Kg(c:Int)(w:World):Cl 188 #[.int .u8 c] w (BK w (DR c:Int)):=by
 obtain ⟨n,hn⟩:=eqx (DR c);rw [←hn]
 rcases (show c<32∨c=32∨(33≤c∧c≤47)∨(48≤c∧c≤57)∨(58≤c∧c≤64)∨(65≤c∧c≤90)∨(91≤c∧c≤96)∨(97≤c∧c≤122)∨(123≤c∧c≤126)∨126<c by omega) with h1|rfl|⟨h1,h2⟩|⟨h1,h2⟩|⟨h1,h2⟩|⟨h1,h2⟩|⟨h1,h2⟩|⟨h1,h2⟩|⟨h1,h2⟩|h1
 ·exact YL
 ·have:n=5:=by
   exact Iz
  exact Ps
 ·exact T8
 ·have:n=1:=by
   exact Iz
  exact Ps
 ·exact T8
 ·have:n=2:=by
   exact Iz
  exact Ps
 ·exact T8
 ·have:n=3:=by
   exact Iz
  exact Ps
 ·exact T8
 ·exact YL
theorem Qh(h:qP:=by
 subst this;clear hn
 go_enter func177,ntmps177
 exact Z49):qP:=h
theorem ZB(h:qP:=by
 have:n=0:=by
  exact Iz
 exact Qh):qP:=h
theorem TD(h:qP:=by
 have:n=6:=by
  exact Iz
 exact Qh):qP:=h
theorem IF(c:Int)(w:World):Cl 177 #[.int .u8 c] w (BK w (DR c:Int)):=by
 obtain ⟨n,hn⟩:=eqx (DR c);rw [←hn]
 rcases (show c<32∨c=32∨(33≤c∧c≤47)∨(48≤c∧c≤57)∨(58≤c∧c≤64)∨(65≤c∧c≤90)∨(91≤c∧c≤96)∨(97≤c∧c≤122)∨(123≤c∧c≤126)∨126<c by omega) with h1|rfl|⟨h1,h2⟩|⟨h1,h2⟩|⟨h1,h2⟩|⟨h1,h2⟩|⟨h1,h2⟩|⟨h1,h2⟩|⟨h1,h2⟩|h1
 ·exact ZB
 ·have:n=5:=by
   exact Iz
  exact Qh
 ·exact TD
 ·have:n=1:=by
   exact Iz
  exact Qh
 ·exact TD
 ·have:n=2:=by
   exact Iz
  exact Qh
 ·exact TD
 ·have:n=3:=by
   exact Iz
  exact Qh
 ·exact TD
 ·exact ZB
theorem O3(s:BA)(k:Nat)(h:k<s.size):Bd ((bs s).take (k+1))=bits .or .i64 (Bd ((bs s).take k)) ((2^DR (s[k].toNat:Int):Nat):Int):=by
 rw [List.take_add_one,List.getElem?_eq_getElem (by rw [Ej];exact h),Hn s k h];unfold Bd;rw [Option.toList_some,List.foldl_append];rfl
theorem OE(k:Nat)(h:k≤6):wrap64 (2^k)=((2^k:Nat):Int):=by
 match k,h with
 |0,_=>unfold wrap64;decide
 |1,_=>unfold wrap64;decide
 |2,_=>unfold wrap64;decide
 |3,_=>unfold wrap64;decide
 |4,_=>unfold wrap64;decide
 |5,_=>unfold wrap64;decide
 |6,_=>unfold wrap64;decide
theorem DWA(h:qP:=by
 refine ⟨k+1,Y4,Y5,?_⟩;rw [O3 s k hlt,←HZ.o,←HN.o];rw [OE n hn6]):qP:=h
theorem Yj(h:qP:=by
 go_round
 case rel =>
  exact DWA
 case measure=>simp [intOf];omega):qP:=h
theorem Xb(h:qP:=by
 go_wp2;go_ret;have hk':k=s.size:=Y4;refine ⟨?_,rfl⟩;rw [HZ.o,List.take_of_length_le (by rw [Ej];omega)];rfl):qP:=h
theorem DL(s:BA)(hs:s.size≤4294967296)(w:World):Cl 130 #[.string s] w (BK w (Bd (bs s))):=by
 go_enter func130,ntmps130
 go_wp2
 go_loop [3,7] (fun a i=>∃ k:Nat,k≤s.size∧i=.I k∧a=.I (Bd ((bs s).take k))) (fun _ i=>s.size-(intOf i).toNat)
 case atStart=>exact ⟨0,AE,rfl,rfl⟩
 case round =>
  obtain ⟨k,hk,rfl,rfl⟩:=hrel;obtain ⟨z,hz⟩:=eqx (Bd ((bs s).take k));rw [←hz];have HZ:=Hd hz;clear hz;by_cases hlt:k<s.size
  ·obtain ⟨n,hn⟩:=eqx (DR (s[k].toNat:Int));have hn6:n≤6:=(by rw [hn];exact FQ _);have HC:=Hd (show ∀ w',Cl 188 #[.int .u8 (s[k].toNat:Int)] w' (BK w' (n:Int)) from fun w'=>by rw [hn];exact Kg _ w');have HN:=Hd hn;clear hn
   go_wp2_with (go_at_call 188;refine (HC.o _).mono ?_;rintro e w' ⟨rfl,rfl⟩)
   exact Yj
  ·exact Xb

theorem QF(k:Nat)(h:k≤6):wrap64 (2^k)=((2^k:Nat):Int):=OE k h
theorem AW(k:Nat)(hk:k≤6)(w:World):Cl 48 #[.I (k:Int)] w (BK w ((2^k:Nat):Int)):=by
 have HW:=Hd (QF k hk)
 go_enter func48,ntmps48
 go_wp2;go_ret;refine ⟨?_,rfl⟩;rw [←HW.o];rfl
theorem Wg(h:qP:=by
 rw [decide_eq_false e,Bool.and_false]):qP:=h
theorem BfA(h:qP:=by
 rw [Ba,Fm _ _ Y4,hb,decide_eq_true rfl] at h1;cases h1):qP:=h
theorem Hk(x:Int)(k:Nat)(h:k≤6):(bits .and .i64 x ((2^k:Nat):Int) != 0)=bt x k:=by
 rw [Bool.eq_iff_iff,bne_iff_ne,ne_eq,G0 (BY _ _ _)];constructor
 ·intro hn;refine Classical.byContradiction fun hb=>hn fun i hi => ?_;rw [Ba,Fm _ _ Y4];by_cases e:i=k
  ·subst e;cases hbt:bt x i
   ·rfl
   ·exact absurd hbt hb
  ·exact Wg
 ·intro hb hn;have h1:=hn k Y4;exact BfA
theorem Qq(x:Int)(k:Nat)(h:k≤6):bt x k=decide ((x / 2^k) % 2=1):=by
 unfold bt;rw [BitVec.getLsbD,BitVec.toNat_ofInt,Nat.testBit_eq_decide_div_mod_eq];rw [Bool.eq_iff_iff,decide_eq_true_eq,decide_eq_true_eq]
 match k,h with
 |0,_=>simp;omega
 |1,_=>simp;omega
 |2,_=>simp;omega
 |3,_=>simp;omega
 |4,_=>simp;omega
 |5,_=>simp;omega
 |6,_=>simp;omega
theorem UR(x:Int)(k:Nat)(h:k≤6):(bits .and .i64 (x / 2^k) 1==1)=bt x k:=by
 have h0:bt (x / 2^k) 0=bt x k:=by
  rw [Qq _ 0 Y4,Qq _ k h];simp
 rw [←h0,Bool.eq_iff_iff,beq_iff_eq];have e1:(1:Int)=((2^0:Nat):Int):=rfl;constructor
 ·intro he;have:bt (bits .and .i64 (x / 2^k) 1) 0=bt 1 0:=(by rw [he]);rw [Ba,e1,Fm _ _ Y4,decide_eq_true rfl,Bool.and_true] at this;exact this
 ·intro hb;refine CT (BY _ _ _) Y56 fun i _ => ?_;rw [Ba,e1,Fm _ _ Y4];by_cases e:i=0
  ·subst e;rw [hb];rfl
  ·exact Wg
theorem FL(a:Abs)(A D:OA)(c e k:Nat)(hk:k≤6)(w:World):Cl 44 #[(Aq a A c D e),.I (k:Int)] w (AO w (bt a.kinds k)):=by
 have HS:=Hd (UR a.kinds k hk)
 go_enter func44,ntmps44
 go_wp2;go_ret;refine ⟨?_,(Ext.refl _).alloc _⟩;rw [←HS.o];rfl
theorem X4(h:qP:=by
 go_enter func94,ntmps94
 go_wp2;go_ret;exact ⟨Y19,(exaa _).alloc _⟩):qP:=h
theorem Fa(l h l' h':Int)(w:World):Cl 94 #[.agg #[.I l,.I h],.agg #[.I l',.I h']] w (AO w (decide (l'≤l)&&decide (h≤h'))):=by
 by_cases h1:l'≤l
 ·have HF:=Hd (show (decide (l'≤l)&&decide (h≤h'))=decide (h≤h') by simp [h1]);exact X4
 ·have HF:=Hd (show (decide (l'≤l)&&decide (h≤h'))=false by simp [h1]);exact X4
theorem Oi(A:OA)(c:Nat)(l:List BA)(v:BA)(w:World)(S:NP)(h:Strs w S A l) :
  Cl 45 #[.slice A l.length c,.string v] w (SameB w (AZ l v)):=by
 have hn:=h.2.1
 go_enter func45,ntmps45
 go_wp2
 go_loop [5] (fun i=>∃ k:Nat,k≤l.length∧i=.I k∧∀ j (h:j<l.length),j<k→l[j]≠v) (fun i=>l.length-(intOf i).toNat)
 case atStart=>exact ⟨0,AE,rfl,Y8⟩
 case round =>
  obtain ⟨k,hk,rfl,hall⟩:=hrel;have HA:=Hd hall;clear hall;by_cases hlt:k<l.length
  ·obtain ⟨b1,o1,rfl,z1,c1⟩:=h.at_ hlt;by_cases hv:l[k]=v
   ·have ht:(l[k].toList==v.toList)=true:=Y22;have HF:=Hd (show AZ l v=true by rw [AV,←hv];exact List.getElem_mem hlt);clear hv;exact Z44
   ·exact AlA
  ·have HF:=Hd (show AZ l v=false by
    rw [Bool.eq_false_iff,ne_eq,AV];intro hm;obtain ⟨i,hi,he⟩:=List.mem_iff_getElem.1 hm;exact HA.o i hi Y4 he)
   exact Z44

theorem OF(s:BA)(hs:s.size≤4294967296)(w:World):Cl 109 #[.string s] w (BK w (Bd (bs s))):=by
 go_enter func109,ntmps109
 go_wp2
 go_loop [3,4] (fun a i=>∃ k:Nat,k≤s.size∧i=.I k∧a=.I (Bd ((bs s).take k))) (fun _ i=>s.size-(intOf i).toNat)
 case atStart=>exact ⟨0,AE,rfl,rfl⟩
 case round =>
  obtain ⟨k,hk,rfl,rfl⟩:=hrel;obtain ⟨z,hz⟩:=eqx (Bd ((bs s).take k));rw [←hz];have HZ:=Hd hz;clear hz;by_cases hlt:k<s.size
  ·obtain ⟨n,hn⟩:=eqx (DR (s[k].toNat:Int));have hn6:n≤6:=(by rw [hn];exact FQ _);have HC:=Hd (show ∀ w',Cl 177 #[.int .u8 (s[k].toNat:Int)] w' (BK w' (n:Int)) from fun w'=>by rw [hn];exact IF _ w');have HN:=Hd hn;clear hn
   go_wp2_with (go_at_call 177;refine (HC.o _).mono ?_;rintro e w' ⟨rfl,rfl⟩)
   exact Yj
  ·exact Xb
theorem Dj(p q:Int)(w:World):Cl 129 #[.I p,.I q] w (SameB w (BZ p q)):=by
 go_enter func129,ntmps129
 go_wp2;go_ret;refine ⟨?_,rfl⟩;unfold BZ;show Ending.returned (Value.bool _)=Ending.returned (Value.bool _);congr 2
theorem Vw(h:qP:=by
 go_ret;refine ⟨?_,rfl⟩;rw [HT.o];simp [h]):qP:=h
theorem Tc(h:qP:=by
 rintro e w' ⟨rfl,rfl⟩
 go_wp2_with fail
 exact Vw):qP:=h
theorem He(s:BA)(hs:s.size≤4294967296)(w:World):Cl 128 #[.string s] w (SameB w (Bi s)):=by
 obtain ⟨HB,HA,HT⟩:=Hd3 (DL s hs) (fun w=>Dj (Bd (bs s)) 110 w) (Lc s);obtain ⟨z,hz⟩:=eqx (BZ (Bd (bs s)) 110);rw [←hz] at HA HT;clear hz;generalize Bd (bs s)=x at *;by_cases h:s.size≤200
 ·go_enter func128,ntmps128
  go_wp2_with fail
  refine (HB.o _).mono ?_;rintro e w' ⟨rfl,rfl⟩
  go_wp2_with fail
  refine (HA.o _).mono ?_;exact Tc
 ·go_enter func128,ntmps128
  go_wp2;exact Vw
theorem DX(a:Sh)(w:World):Cl 153 #[(Sq a)] w (CD w (At a)):=by
 go_enter func153,ntmps153
 go_wp2;go_ret;exact ⟨rfl,(Ext.refl _).alloc _⟩
theorem OY(x y:Int):(if y > x then y else x)=max x y:=by
 split<;>omega
theorem SH(P:Program)(w:World)(ts:Array TypeId)(t:TypeId)(k k1 k2 k3:IntKind)(x y z u:Int):(Builtin.max_ ts t #[.int k x,.int k1 y,.int k2 z,.int k3 u]).run P w=.ok (.int k (max (max (max x y) z) u)) w:=by
 rw [←OY x y,←OY _ z,←OY _ u];simp [Builtin.max_,Builtin.max2]
theorem Xp(h:qP:=by
 go_wp2;go_ret;refine ⟨?_,(Ext.refl _).alloc _⟩;rw [H.o];rw [show max (max (max 0 a.least) (a.b.size:Int)) (a.e.size:Int)=max 0 (max a.least (max (a.b.size:Int) (a.e.size:Int))) by omega];rfl):qP:=h
theorem CU(a:Sh)(w:World):Cl 151 #[(Sq a)] w (CD w (AG a)):=by
 have H:=Hd (show AG a=max (max (max 0 a.least) (a.b.size:Int)) (a.e.size:Int) from rfl)
 go_enter func151,ntmps151
 go_wp2;rw [SH];exact Xp
theorem Zb(h:qP:=by
 go_wp2;go_ret;refine ⟨?_,(Ext.refl _).alloc _⟩;rw [H.o]
 first|rfl|(simp only [Ending.returned.injEq,Value.int.injEq,true_and];omega)):qP:=h
theorem C6(a:Sh)(w:World):Cl 152 #[(Sq a)] w (CD w (Ag a)):=by
 have H:=Hd (show Ag a=min a.most 200 from rfl)
 go_enter func152,ntmps152
 exact Zb
theorem Kx(a:Sh)(w:World):Cl 114 #[(Sq a)] w (CD w (AG a)):=by
 have H:=Hd (show AG a=max (max (max 0 a.least) (a.b.size:Int)) (a.e.size:Int) from rfl)
 go_enter func114,ntmps114
 exact Xp
theorem Mp(a:Sh)(w:World):Cl 115 #[(Sq a)] w (CD w (Ag a)):=by
 have H:=Hd (show Ag a=min a.most 200 from rfl)
 go_enter func115,ntmps115
 exact Zb
theorem Mi(c:Int)(w:World):Cl 222 #[.int .u8 c,.I 7] w (SameB w (B8 c)):=by
 have HC:=Hd (IF c);have HT:=Hd (show B8 c=decide (0<DR c) from by
  unfold B8 DR;exact VI)
 have hn6:=FQ c;generalize DR c=n at *;by_cases h:0<n
 ·go_enter func222,ntmps222
  go_wp2_with fail
  refine (HC.o _).mono ?_;rintro e w' ⟨rfl,rfl⟩
  go_wp2_with fail
  have hk:Cl 258 #[.I (n:Int),.I 7] w (SameB w true):=by
   by_cases h7:(n:Int)=7
   ·omega
   ·go_enter func258,ntmps258
    exact Z49
  refine hk.mono ?_;exact Tc
 ·go_enter func222,ntmps222
  go_wp2_with fail
  refine (HC.o _).mono ?_;exact Tc
theorem TS(s:BA)(hs:s.size≤4294967296)(w:World):Cl 176 #[.string s,.I 7] w (SameB w ((bs s).all B8)):=by
 go_enter func176,ntmps176
 go_wp2
 go_loop [5] (fun i=>∃ k:Nat,k≤s.size∧i=.I k∧∀ j (h:j<s.size),j<k→B8 (s[j].toNat:Int)=true) (fun i=>s.size-(intOf i).toNat)
 case atStart=>exact ⟨0,AE,rfl,Y8⟩
 case round =>
  obtain ⟨k,hk,rfl,hall⟩:=hrel;have HA:=Hd hall;clear hall;by_cases hlt:k<s.size
  ·have HC:=Hd (Mi (s[k].toNat:Int));cases ht:B8 (s[k].toNat:Int)
   ·rw [ht] at HC;have hf:(bs s).all B8=false:=Bg (bs s) B8 k (by rw [Ej];exact hlt) (by rw [Hn s k hlt];exact ht);have HF:=Hd hf;clear hf ht
    go_wp2_with (go_at_call 222;refine (HC.o _).mono ?_;rintro e w' ⟨rfl,rfl⟩)
    exact Z45
   ·rw [ht] at HC;have HT:=Hd ht;clear ht
    go_wp2_with (go_at_call 222;refine (HC.o _).mono ?_;rintro e w' ⟨rfl,rfl⟩)
    go_round
    case rel =>
     refine ⟨k+1,Y4,Y5,fun j h hj => ?_⟩;by_cases hjk:j=k
     ·subst hjk;exact HT.o
     ·exact HA.o j h Y4
    case measure=>simp [intOf];omega
  ·have hf:(bs s).all B8=true:=BX (bs s) B8 (fun j h=>Y20);exact Z54
theorem Jw(s:BA)(hs:s.size≤4294967296)(w:World):Cl 108 #[.string s] w (SameB w (Bi s)):=by
 have HB:=Hd (TS s hs);have HT:=Hd (show Bi s=(decide (s.size≤200)&&(bs s).all B8) from rfl);generalize (bs s).all B8=z at *;by_cases h:s.size≤200
 ·go_enter func108,ntmps108
  go_wp2_with fail
  refine (HB.o _).mono ?_;exact Tc
 ·go_enter func108,ntmps108
  go_wp2;exact Vw

theorem Df(s p:BA)(w:World):Cl 131 #[.string s,.string p] w (SameB w (Cq p s)) :=
 (Any.strings_HasPrefix Tryz.lt99 s p w).mono fun _ _ h=>⟨h.1,h.2.symm⟩
theorem Dg(s p:BA)(hs:s.size≤4294967296)(w:World):Cl 132 #[.string s,.string p] w (SameB w (Cs p s)) :=
 (Any.strings_HasSuffix Tryz.lt100 s p w Y4).mono fun _ _ h=>⟨h.1,h.2.symm⟩
def Eg(w:World)(a:Sh)(e:Ending)(w':World):Prop:=e=.returned (Sq a)∧Ext w w'
theorem Em(w:World):Cl 136 #[] w (Eg w EwA):=by
 go_enter func136,ntmps136
 go_wp2;refine bodyPost_ret (v:=(Sq EwA)) (by simp [results,results136,go_sem,EwA]) rfl ⟨rfl,?_⟩;exact (exaa w)
theorem OR(w:World):Cl 62 #[] w (Eg w Sh.full):=by
 go_enter func62,ntmps62
 go_wp2;refine bodyPost_ret (v:=(Sq Sh.full)) (by simp [results,results62,go_sem,Sh.full]) rfl ⟨rfl,?_⟩;exact (exaa w)
theorem Jd(w:World):Cl 73 #[] w (Eg w EwA):=by
 go_enter func73,ntmps73
 go_wp2;refine bodyPost_ret (v:=(Sq EwA)) (by simp [results,results73,go_sem,EwA]) rfl ⟨rfl,?_⟩;exact (exaa w)
def ofT(s:BA):Sh:=⟨s.size,s.size,Bd (bs s),s,s⟩
theorem N8{s:BA}(h:Bi s=true):ofS s=ofT s:=by
 unfold ofS;rw [if_pos h];rfl
theorem Rh{s:BA}(h:Bi s=false):ofS s=EwA:=by
 unfold ofS;rw [if_neg (by rw [h];simp)]
theorem Xn(h:qP:=by
 iterate 5 with_reducible refine Ext.set2 ?_ Y4 _
 with_reducible exact HX.o):qP:=h
theorem Rc(s:BA)(hs:s.size≤4294967296)(w:World):Cl 56 #[.string s] w (Eg w (ofS s)):=by
 have HT:=Hd (He s hs);have HB:=Hd (DL s hs);obtain ⟨p,hp⟩:=eqx (Bd (bs s));rw [←hp] at HB;have HP:=Hd hp;clear hp;cases ht:Bi s
 ·rw [ht] at HT;have HF:=Hd (Rh ht);clear ht
  go_enter func56,ntmps56
  go_wp2_with fail
  refine (HT.o _).mono ?_;rintro e w' ⟨rfl,rfl⟩
  go_wp2_with fail
  refine (Em _).mono ?_;rintro e1 w1 ⟨rfl,hx1⟩;have hb1:=(Blk.new w 32 #[.I 0,.I 0,.I 0,.string ⟨#[]⟩,.string ⟨#[]⟩]).keep (hx1.kept _);obtain ⟨q0,q1,q2,q3,q4⟩:=hb1.qs5;have qf:=hb1.frozen;have ql:=hb1.lt;have HX:=Hd ((exaa w).trans hx1);clear hx1 hb1
  go_wp2_with fail
  rw [HF.o];refine bodyPost_ret (v:=(Sq EwA)) (by simp [results,results56,go_sem,q0,q1,q2,q3,q4]) rfl ⟨rfl,?_⟩;exact Xn
 ·rw [ht] at HT;have HF:=Hd (show ofS s=⟨s.size,s.size,p,s,s⟩ by rw [N8 ht,HP.o];rfl);clear ht
  go_enter func56,ntmps56
  go_wp2_with fail
  refine (HT.o _).mono ?_;rintro e w' ⟨rfl,rfl⟩
  go_wp2_with fail
  refine (HB.o _).mono ?_;rintro e1 w1 ⟨rfl,rfl⟩
  go_wp2_with fail
  rw [HF.o];refine bodyPost_ret (v:=.agg #[.I (s.size:Int),.I (s.size:Int),.I p,.string s,.string s]) (by simp [results,results56,go_sem]) rfl ⟨rfl,?_⟩;exact (Ext.refl w).alloc _
theorem VW(h:qP:=by
 intro vals γ w9 hR hG;refine Qx ?_;have HXN:=Hd (show Ext w0 w9 from hR.ext0 (fun _ _ _ h=>h.elim));clear hR hG;go_wp2;go_ret;exact ⟨Y19,HX0.o.trans HXN.o⟩):qP:=h
theorem BSA(h:qP:=by
 iterate 6 refine Qn ?_
 refine Qp ?_;exact VW):qP:=h
theorem Yx(h:qP:=by
 iterate 5 refine Qn ?_
 iterate 2 refine Qp ?_
 exact BSA):qP:=h
theorem CIA(h:qP:=by
 iterate 2 refine Qp ?_
 exact VW):qP:=h
theorem Y68(h:qP:=by rw [hw0];exact (Ext.refl w).alloc _):qP:=h
theorem Y69(h:qP:=by rw [hw0,hg];exact Blk.new _ _ _):qP:=h
theorem J7(a:Sh)(s:BA)(ha:a.b.size≤4294967296)(he:a.e.size≤4294967296)(hs:s.size≤4294967296)(w:World):Cl 52 #[(Sq a),.string s] w (AO w (AQ a s)):=by
 obtain ⟨p,hp⟩:=eqx (Bd (bs s));obtain ⟨b1,hb1⟩:=eqx (BZ p a.cls);obtain ⟨b2,hb2⟩:=eqx (Cq a.b s);obtain ⟨b3,hb3⟩:=eqx (Cs a.e s);obtain ⟨t,ht⟩:=eqx (Bi s);obtain ⟨HT,HP1,HA1,HH,HS,HE⟩:=Hd6 (show ∀ w',Cl 128 #[.string s] w' (SameB w' t) from fun w'=>by rw [ht];exact He s hs w') (show ∀ w',Cl 130 #[.string s] w' (BK w' p) from fun w'=>by rw [hp];exact DL s hs w') (show ∀ w',Cl 129 #[.I p,.I a.cls] w' (SameB w' b1) from fun w'=>by rw [hb1];exact Dj p a.cls w') (show ∀ w',Cl 131 #[.string s,.string a.b] w' (SameB w' b2) from fun w'=>by rw [hb2];exact Df s a.b w') (show ∀ w',Cl 132 #[.string s,.string a.e] w' (SameB w' b3) from fun w'=>by rw [hb3];exact Dg s a.e hs w') (show AQ a s=(t&&decide (a.least≤s.size)&&decide ((s.size:Int)≤a.most)&&b1&&b2&&b3) from by rw [ht,hb1,hb2,hb3,hp];rfl);clear hp hb1 hb2 hb3 ht;obtain ⟨w0,hw0⟩:=eqx (w.alloc (.cells (Sp a) 32));have hx0:Ext w w0:=Y68;obtain ⟨g,hg⟩:=eqx w.heap.size;have hbk:Blk w0 g 32 (Sp a):=Y69;obtain ⟨k0,k1,k2,k3,k4,HX0,HW0,HG⟩:=Hd8 (hbk.q0) (hbk.q1) (hbk.q2) (hbk.q3) (hbk.q4) hx0 hw0 hg;clear hx0 hbk hw0 hg
 go_enter func52,ntmps52
 go_upto_region 1 with fail
 rw [←HW0.o,←HG.o];cases t
 ·have HF:=Hd (show AQ a s=false by rw [HE.o];rfl);refine Qa (fun _ _=>False) [] ?_;refine Qp ?_;refine Qc (fun w'=>HT.o w') ?_
  iterate 2 refine Qp ?_
  iterate 5 refine Qn ?_
  iterate 2 refine Qp ?_
  exact Yx
 by_cases h1:(s.size:Int)<a.least
 ·have HF:=Hd (show AQ a s=false by rw [HE.o,show decide (a.least≤(s.size:Int))=false from decide_eq_false Y4];rfl);refine Qa (fun _ _=>False) [] ?_;refine Qp ?_;refine Qc (fun w'=>HT.o w') ?_
  iterate 9 refine Qp ?_
  exact Yx
 by_cases h2:a.most<(s.size:Int)
 ·have HF:=Hd (show AQ a s=false by rw [HE.o,show decide ((s.size:Int)≤a.most)=false from decide_eq_false Y4,Bool.and_false];rfl);refine Qa (fun _ _=>False) [] ?_;refine Qp ?_;refine Qc (fun w'=>HT.o w') ?_
  iterate 16 refine Qp ?_
  exact BSA
 have HE2:=Hd (show AQ a s=(b1&&b2&&b3) by rw [HE.o,show decide (a.least≤(s.size:Int))=true from decide_eq_true Y4,show decide ((s.size:Int)≤a.most)=true from decide_eq_true Y4];rfl);cases b1
 ·have HF:=Hd (show AQ a s=false by rw [HE2.o];rfl);refine Qa (fun _ _=>False) [] ?_;refine Qp ?_;refine Qc (fun w'=>HT.o w') ?_
  iterate 17 refine Qp ?_
  refine Qc (fun w'=>HP1.o w') ?_
  iterate 2 refine Qp ?_
  refine Qc (fun w'=>HA1.o w') ?_;exact CIA
 refine Qa (fun _ _=>False) [] ?_;refine Qp ?_;refine Qc (fun w'=>HT.o w') ?_
 iterate 17 refine Qp ?_
 refine Qc (fun w'=>HP1.o w') ?_
 iterate 2 refine Qp ?_
 refine Qc (fun w'=>HA1.o w') ?_
 iterate 2 refine Qp ?_
 intro vals γ w9 hR hG;refine Qx ?_;have HXN:=Hd (show Ext w0 w9 from hR.ext0 (fun _ _ _ h=>h.elim));clear hR hG;have s0:=HXN.o.cell k0.o;have s1:=HXN.o.cell k1.o;have s2:=HXN.o.cell k2.o;have s3:=HXN.o.cell k3.o;have s4:=HXN.o.cell k4.o;have HX:=Hd (HX0.o.trans HXN.o);clear k0 k1 k2 k3 k4 HX0 HXN;have HF:=Hd (show AQ a s=(b2&&b3) by rw [HE2.o];rfl);cases b2
 ·go_wp2_with (go_at_call 131;refine (HH.o _).mono ?_;rintro e5 w5 ⟨rfl,rfl⟩)
  exact VF
 ·go_wp2_with first|(go_at_call 131;refine (HH.o _).mono ?_;rintro e5 w5 ⟨rfl,rfl⟩)|(go_at_call 132;refine (HS.o _).mono ?_;rintro e6 w6 ⟨rfl,rfl⟩)
  exact VF

theorem Am(a:Abs)(A D:OA)(c e k:Nat)(hk:k≤6)(w:World):Cl 84 #[(Aq a A c D e),.I (k:Int)] w (AO w (bt a.kinds k)):=by
 have HBI:=Hd (fun w'=>AW k hk w');have hand:=Hk a.kinds k hk;obtain ⟨w0,hw0⟩:=eqx (w.alloc (.cells (Ap a A c D e) 39));have hx0:Ext w w0:=Y68;obtain ⟨g,hg⟩:=eqx w.heap.size;have hbk:Blk w0 g 39 (Ap a A c D e):=Y69;obtain ⟨k0,HX0,HW0,HG⟩:=Hd4 (hbk.q0) hx0 hw0 hg;obtain ⟨b,hb⟩:=eqx (bt a.kinds k);rw [←hb] at hand⊢;have HND:=Hd hand;clear hx0 hbk hw0 hg hb hand
 go_enter func84,ntmps84
 go_upto_region 1 with fail
 rw [←HW0.o,←HG.o];refine Qa (fun _ _=>False) [] ?_
 iterate 3 refine Qp ?_
 refine Qc (fun w'=>HBI.o w') ?_
 iterate 3 refine Qp ?_
 intro vals γ w9 hR hG;refine Qx ?_;have HX1:=Hd (show Ext w0 w9 from hR.ext0 (fun _ _ _ h=>h.elim));clear hR hG;go_wp2;go_ret;refine ⟨?_,HX0.o.trans HX1.o⟩;rw [←HND.o];rfl
def Rk(w:World)(a:Abs)(e:Ending)(w':World):Prop:=e=.returned (Aq a none 0 none 0)∧Ext w w'
theorem GI(w:World):Cl 71 #[] w (Eg w EwA):=by
 go_enter func71,ntmps71
 go_wp2;refine bodyPost_ret (v:=(Sq EwA)) (by simp [results,results71,go_sem,EwA]) rfl ⟨rfl,?_⟩;exact (exaa w)
theorem Gi(w:World):Cl 72 #[] w (Bk w (1,0)):=by
 go_enter func72,ntmps72
 go_wp2;refine bodyPost_ret (v:=.agg #[.I 1,.I 0]) (by simp [results,results72,go_sem]) rfl ⟨rfl,?_⟩;exact (exaa w)
theorem FE(w:World):Cl 64 #[] w (Bk w (0,3652058)):=by
 go_enter func64,ntmps64
 go_wp2;refine bodyPost_ret (v:=.agg #[.I 0,.I 3652058]) (by simp [results,results64,go_sem]) rfl ⟨rfl,?_⟩;exact (exaa w)
theorem EZ(w:World):Cl 65 #[] w (Bk w (0,100)):=by
 go_enter func65,ntmps65
 go_wp2;refine bodyPost_ret (v:=.agg #[.I 0,.I 100]) (by simp [results,results65,go_sem]) rfl ⟨rfl,?_⟩;exact (exaa w)
theorem NI(w:World):Cl 74 #[] w (Bk w (1,0)):=by
 go_enter func74,ntmps74
 go_wp2;refine bodyPost_ret (v:=.agg #[.I 1,.I 0]) (by simp [results,results74,go_sem]) rfl ⟨rfl,?_⟩;exact (exaa w)
theorem R6(d e:Dep):decide (d=e)=(decide (d.to=e.to)&&decide (d.frm=e.frm)):=by
 rw [Bool.eq_iff_iff,Bool.and_eq_true,decide_eq_true_eq,decide_eq_true_eq,decide_eq_true_eq];cases d;cases e;simp only [Dep.mk.injEq];exact and_comm
theorem VG(h:qP:=by
 go_wp2_with fail
 go_ret;exact ⟨Y19,HX.o.drewN _⟩):qP:=h
theorem IM(d e:Dep)(A B:OA)(ca cb:Nat)(w:World)(S T:NP)(hA:Strs w S A d.frm)(hB:Strs w T B e.frm) :
  Cl 185 #[.agg #[.slice A d.frm.length ca,.string d.to],.agg #[.slice B e.frm.length cb,.string e.to]] w (AO w (decide (d=e))):=by
 have HD:=Hd (R6 d e);have hx0:Ext w ((w.alloc (.cells #[.slice A d.frm.length ca,.string d.to] 69)).alloc (.cells #[.slice B e.frm.length cb,.string e.to] 69)):=(exaa w).alloc _;have HQ:=Hd (Hg A B ca cb d.frm e.frm _ S T (hA.keep (hx0.kept S)) (hB.keep (hx0.kept T)));have HX:=Hd hx0;clear hA hB hx0;by_cases ht:d.to=e.to
 ·have h1:(d.to.toList==e.to.toList)=true:=(by rw [BH];simp [ht]);have HF:=Hd (show decide (d=e)=decide (d.frm=e.frm) by rw [HD.o,decide_eq_true ht,Bool.true_and]);clear ht
  go_enter func185,ntmps185
  go_wp2_with fail
  refine HQ.o.mono ?_;rintro e1 w1 ⟨rfl,n,rfl⟩;exact VG
 ·have h1:(d.to.toList==e.to.toList)=false:=(by rw [BH];simp [ht]);have HF:=Hd (show decide (d=e)=false by rw [HD.o,decide_eq_false ht,Bool.false_and]);clear ht
  go_enter func185,ntmps185
  exact VX
theorem Iu(d e:Dep)(A B:OA)(ca cb:Nat)(w:World)(S T:NP)(hA:Strs w S A d.frm)(hB:Strs w T B e.frm) :
  Cl 61 #[.agg #[.slice A d.frm.length ca,.string d.to],.agg #[.slice B e.frm.length cb,.string e.to]] w (AO w (decide (d=e))):=by
 have HD:=Hd (R6 d e);have hx0:Ext w ((w.alloc (.cells #[.slice A d.frm.length ca,.string d.to] 69)).alloc (.cells #[.slice B e.frm.length cb,.string e.to] 69)):=(exaa w).alloc _;have HQ:=Hd (Fw A B ca cb d.frm e.frm _ S T (hA.keep (hx0.kept S)) (hB.keep (hx0.kept T)));have HX:=Hd hx0;have hb1:Blk ((w.alloc (.cells #[.slice A d.frm.length ca,.string d.to] 69)).alloc (.cells #[.slice B e.frm.length cb,.string e.to] 69)) w.heap.size 69 #[.slice A d.frm.length ca,.string d.to]:=(Blk.new _ _ _).keep ((exaa _).kept _);have hb2:=EzA w (.cells #[.slice A d.frm.length ca,.string d.to] 69) 69 #[.slice B e.frm.length cb,.string e.to];have HB1:=Hd (hb1.q1);have HB2:=Hd (hb2.q1);have h1:(d.to.toList==e.to.toList)=decide (d.to=e.to):=(by rw [BH]);obtain ⟨b2,hb2'⟩:=eqx (decide (d.to=e.to));rw [←hb2'] at h1 HD;clear hA hB hx0 hb1 hb2 hb2'
 go_enter func61,ntmps61
 go_wp2_with fail
 refine HQ.o.mono ?_;rintro e1 w1 ⟨rfl,n,rfl⟩;have q0:=((Ext.refl _).drewN n).cell HB1.o;have q1:=((Ext.refl _).drewN n).cell HB2.o;cases hf:decide (d.frm=e.frm)
 ·have HF:=Hd (show decide (d=e)=false by rw [HD.o,hf,Bool.and_false]);exact VG
 ·have HF:=Hd (show decide (d=e)=b2 by rw [HD.o,hf,Bool.and_true]);exact VG

theorem Xm(h:qP:=by
 show (w.heap.modify g _)[b]?=_;rw [Array.getElem?_modify,if_neg (fun e=>hb e.symm)]):qP:=h
theorem AD{P:Program}{ops:Array Oper}{rest:List Oper}{o:Oper}{a:Act}{w:World}{Q:Exit→Act→World→Prop}(hgd:o.guard=none)(ty:TypeId)(x y:Operand)(ho:o.op=.store ty x y)
  (g:Nat) (cells:Array Value) (hx:a.eval x=.pointer (some ⟨g,0,none⟩)) (hy:a.eval y=.agg cells)
  (t:TypeId) (old:Array Value) (hb:Blk w g t old) (hi:(P.info? ty).map (·.size)=some cells.size)
  (hold:old.size=cells.size) (h1:cells.all (·.oneCell')=true)
  (h:∀ w',Blk w' g t cells→Only g w w'→wpList P ops Q rest (a.put o.dst undef) w'):wpList P ops Q (o::rest) a w:=by
 refine wpList_store_row hgd ty x y ho g cells hx hy t old hb hi hold h1 (h _ ?_ ?_)
 ·exact setRow_heap w g old cells t _ hb
 ·refine ⟨rfl,rfl,rfl,setRow_size _ _ _,fun b hb => ?_⟩;exact Xm
theorem DM{P:Program}{w:World}{g t:Nat}{cs:Array Value}(hb:Blk w g t cs)(hd:(match P.underlying t with|some (.struct _)|some (.array _ _)=>true|_=>false)=true)(hi:(P.info? t).map (·.size)=some cs.size) :
  (loadVar t ⟨g,0,none⟩).run P w=.ok (.agg cs) w:=by
 cases hu:P.underlying t with
 |none=>rw [hu] at hd;cases hd
 |some d =>
  rw [hu] at hd;refine run_loadVar_row w g t t cs (0,0) d hb hu ?_ hi;cases d<;>first|rfl|cases hd
theorem BR{P:Program}{fn:Func}{tmps:Array Value}{w:World}{i t:Nat}{p:Addr}{v:Value}(hf:fn.results=#[.cell i t])(ht:tmps.getD i undef=.pointer (some p))(hl:(loadVar t p).run P w=.ok v w) :
  (results fn tmps).run P w=.ok v w:=by
 have ht':tmps[i]?.getD undef=.pointer (some p):=(by simpa using ht);unfold results;simp [hf,ht',Sem.run_bind,Sem.run_pure,Result.andThen,hl,asAddr]
theorem AH:(match prog.underlying 39 with|some (.struct _)|some (.array _ _)=>true|_=>false)=true:=by kernel_rfl
theorem AA:(prog.info? 39).map (·.size)=some 18:=by kernel_rfl

theorem Ew(w:World):Cl 27 #[] w (Rk w noneA):=by
 have HSH:=Hd (show ∀ w',Cl 71 #[] w' (fun e w''=>e=.returned (.agg #[.I 1,.I 0,.I 0,.string ⟨#[]⟩,.string ⟨#[]⟩])∧Ext w' w'') from GI);have HSP:=Hd (show ∀ w',Cl 72 #[] w' (fun e w''=>e=.returned (.agg #[.I 1,.I 0])∧Ext w' w'') from Gi)
 go_enter func27,ntmps27
 go_wp2_with fail
 refine (HSH.o _).mono ?_;rintro e1 w1 ⟨rfl,hx1⟩;have HX1:=Hd ((exaa w).trans hx1);have HB1:=Hd ((Blk.new w 39 Az).keep (hx1.kept _));clear hx1
 go_wp2_with fail
 refine (HSP.o _).mono ?_;rintro e2 w2 ⟨rfl,hx2⟩;have HX2:=Hd (HX1.o.trans hx2);have HB2:=Hd (HB1.o.keep (hx2.kept _));clear hx2
 go_wp2_with fail
 refine (HSP.o _).mono ?_;rintro e3 w3 ⟨rfl,hx3⟩;have HX3:=Hd (HX2.o.trans hx3);have HB3:=Hd (HB2.o.keep (hx3.kept _));clear hx3;rename_i K1 hK1 K2 hK2;refine hK2 _ _ ?_;refine wpList_build rfl 39 _ rfl Y11 ?_;refine AD rfl 39 _ _ rfl w.heap.size (Ap noneA none 0 none 0) rfl Y11 39 _ HB3.o AA rfl Y11 ?_;intro w4 hb4 ho4;have HX4:=Hd (HX3.o.only ho4 (AS));refine hK1 _ _ ?_;clear hK1 hK2 HB1 HB2 HB3 HX1 HX2 HX3
 go_wp2_with fail
 exact bodyPost_ret (BR results27 rfl (DM hb4 AH AA)) rfl ⟨rfl,HX4.o⟩

def BQ(a:Abs)(k:Nat):Bool :=
 match k with
 |1 => !AI a.tx
 |2 => !Ah a.nu
 |3=>decide ((B3 a).1≤(B3 a).2)
 |4=>decide (boI a≠0)
 |5=>decide ((CE a).1≤(CE a).2)&&decide ((ddp a.cols).length≤8)&&(ddp a.cols).all BC
 |_=>false
def CY(a:Abs)(k:Nat)(r:Abs):Abs :=
 match k with
 |1 => { r with tx:=Aw a.tx a.tx }
 |2 => { r with nu:=Bm a.nu a.nu }
 |3 => { r with dl:=(B3 a).1,dh:=(B3 a).2 }
 |4 => { r with bo:=boI a }
 |5 => { r with rl:=(CE a).1,rh:=(CE a).2,cols:=AT (ddp a.cols),deps:=ddp a.deps }
 |_=>r
def CL(a:Abs)(k:Nat):Abs where
 kinds:=DZ (decide (1<k)&&pT a) (decide (2<k)&&pN a) (decide (3<k)&&pD a) (decide (4<k)&&pB a) (decide (5<k)&&pR a)
 tx:=if (decide (1<k)&&pT a)=true then Aw a.tx a.tx else EwA
 nu:=if (decide (2<k)&&pN a)=true then Bm a.nu a.nu else E4A
 dl:=if (decide (3<k)&&pD a)=true then (B3 a).1 else 1
 dh:=if (decide (3<k)&&pD a)=true then (B3 a).2 else 0
 bo:=if (decide (4<k)&&pB a)=true then boI a else 0
 rl:=if (decide (5<k)&&pR a)=true then (CE a).1 else 1
 rh:=if (decide (5<k)&&pR a)=true then (CE a).2 else 0
 cols:=if (decide (5<k)&&pR a)=true then AT (ddp a.cols) else []
 deps:=if (decide (5<k)&&pR a)=true then ddp a.deps else []
 errs:=a.errs
theorem PX(a:Abs):CL a 6=AM a:=by
 unfold CL AM;simp
theorem NC(a:Abs):CL a 0 = { noneA with errs:=a.errs }:=by
 unfold CL noneA DZ;simp
theorem PV(a:Abs):CL a 1=CL a 0:=by
 unfold CL;simp
theorem UF(a:Abs):(bt a.kinds 1&&BQ a 1)=pT a∧(bt a.kinds 2&&BQ a 2)=pN a∧(bt a.kinds 3&&BQ a 3)=pD a∧(bt a.kinds 4&&BQ a 4)=pB a∧(bt a.kinds 5&&BQ a 5)=pR a:=by
 refine ⟨rfl,rfl,rfl,rfl,?_⟩;unfold pR BQ;simp only [Bool.and_assoc]
theorem CpA(h:qP:=by
 rw [e3];cases pD a<;>cases pN a<;>cases pT a<;>simp<;>decide):qP:=h
theorem EmA(h:qP:=by
 rw [e4];cases pB a<;>cases pD a<;>cases pN a<;>cases pT a<;>simp<;>decide):qP:=h
theorem EoA(h:qP:=by
 rw [e5];cases pR a<;>cases pB a<;>cases pD a<;>cases pN a<;>cases pT a<;>simp<;>decide):qP:=h
theorem A1A(h:qP:=by
 obtain ⟨e1,e2,e3,e4,e5⟩:=UF a;have hk:k=1∨k=2∨k=3∨k=4∨k=5:=Y4;unfold CL CY
 rcases hk with rfl|rfl|rfl|rfl|rfl
 ·rw [e1];cases pT a<;>simp<;>decide
 ·rw [e2];cases pN a<;>cases pT a<;>simp<;>decide
 ·exact CpA
 ·exact EmA
 ·exact EoA):qP:=h
theorem Sf(a:Abs)(k:Nat)(h1:1≤k)(h5:k≤5):CL a (k+1)=if (bt a.kinds k&&BQ a k)=true then { CY a k (CL a k) with kinds:=bits .or .i64 (CL a k).kinds ((2^k:Nat):Int) } else CL a k:=by
 exact A1A
theorem FG(a:Abs)(k:Nat)(h1:1≤k)(h5:k≤5):CL a (k+1)=if (bt a.kinds k&&BQ a k)=true then { CY a k (CL a k) with kinds:=(CL a k).kinds+((2^k:Nat):Int) } else CL a k:=by
 exact A1A
theorem FF(a:Abs)(k:Nat):0≤(CL a k).kinds∧(CL a k).kinds≤62:=by
 show 0≤DZ _ _ _ _ _∧DZ _ _ _ _ _≤62;unfold DZ;constructor<;>(repeat' split)<;>omega
theorem U7(a:Abs){k:Nat}(h:k≤4):(CL a k).bo=0:=by
 unfold CL;simp;omega
theorem MA(a:Abs){k:Nat}(h:k≤5):(CL a k).cols=[]∧(CL a k).deps=[]:=by
 unfold CL;constructor<;>simp<;>omega

theorem Sc(s:BA)(hs:s.size≤4294967296)(w:World):Cl 39 #[.string s] w (Eg w (ofS s)):=by
 have HT:=Hd (Jw s hs);have HB:=Hd (OF s hs);obtain ⟨p,hp⟩:=eqx (Bd (bs s));rw [←hp] at HB;have HP:=Hd hp;clear hp;cases ht:Bi s
 ·rw [ht] at HT;have HF:=Hd (Rh ht);clear ht
  go_enter func39,ntmps39
  go_wp2_with fail
  refine (HT.o _).mono ?_;rintro e w' ⟨rfl,rfl⟩
  go_wp2_with fail
  refine (Jd _).mono ?_;rintro e1 w1 ⟨rfl,hx1⟩;have hb1:=(Blk.new w 32 #[.I 0,.I 0,.I 0,.string ⟨#[]⟩,.string ⟨#[]⟩]).keep (hx1.kept _);obtain ⟨q0,q1,q2,q3,q4⟩:=hb1.qs5;have qf:=hb1.frozen;have ql:=hb1.lt;have HX:=Hd ((exaa w).trans hx1);clear hx1 hb1
  go_wp2_with fail
  rw [HF.o];refine bodyPost_ret (v:=(Sq EwA)) (by simp [results,results39,go_sem,q0,q1,q2,q3,q4]) rfl ⟨rfl,?_⟩;exact Xn
 ·rw [ht] at HT;have HF:=Hd (show ofS s=⟨s.size,s.size,p,s,s⟩ by rw [N8 ht,HP.o];rfl);clear ht
  go_enter func39,ntmps39
  go_wp2_with fail
  refine (HT.o _).mono ?_;rintro e w' ⟨rfl,rfl⟩
  go_wp2_with fail
  refine (HB.o _).mono ?_;rintro e1 w1 ⟨rfl,rfl⟩
  go_wp2_with fail
  rw [HF.o];refine bodyPost_ret (v:=.agg #[.I (s.size:Int),.I (s.size:Int),.I p,.string s,.string s]) (by simp [results,results39,go_sem]) rfl ⟨rfl,?_⟩;exact (Ext.refl w).alloc _
theorem Md{p s:BA}(h:p.size≤s.size):((s.extract 0 p.size).toList==p.toList)=Cq p s:=by
 rw [BH,Bool.eq_iff_iff,decide_eq_true_eq,Dm,List.prefix_iff_eq_take];constructor
 ·intro he;have:=congrArg (fun x:BA=>x.data.toList) he;simp only [ByteArray.data_extract,Array.toList_extract,List.extract_eq_take_drop,List.drop_zero,Nat.sub_zero] at this;exact this.symm
 ·intro he;have:(s.extract 0 p.size).data.toList=p.data.toList:=by
   rw [ByteArray.data_extract,Array.toList_extract,List.extract_eq_take_drop,List.drop_zero,Nat.sub_zero];exact he.symm
  rw [←Et (s.extract 0 p.size),this,Et]
theorem Nm{p s:BA}(h:p.size≤s.size):((s.extract (s.size-p.size) s.size).toList==p.toList)=Cs p s:=by
 rw [BH,Bool.eq_iff_iff,decide_eq_true_eq,Dl,List.suffix_iff_eq_drop];have e:(s.extract (s.size-p.size) s.size).data.toList=s.data.toList.drop (s.data.toList.length-p.data.toList.length):=by
  rw [ByteArray.data_extract,Array.toList_extract,List.extract_eq_take_drop,List.take_of_length_le]
  ·rfl
  ·rw [List.length_drop];exact AS
 constructor
 ·intro he;have:=congrArg (fun x:BA=>x.data.toList) he;exact (e.symm.trans this).symm
 ·intro he;rw [←Et (s.extract _ _),e,←he,Et]
theorem Sn(h:qP:=by
 go_wp2_with (go_at_call 108;refine (HT.o _).mono ?_;rintro e1 w1 ⟨rfl,rfl⟩)
 go_ret;exact ⟨Y19,HXA.o⟩):qP:=h
theorem BhA(h:qP:=by
 iterate 11 refine Qn ?_
 exact CIA):qP:=h
theorem XZ(h:qP:=by
 refine Qa (fun _ _=>False) [] ?_;refine Qp ?_;refine Qc (fun w'=>HP1.o w') ?_
 iterate 4 refine Qp ?_
 refine Qc (fun w'=>HP1.o w') ?_
 iterate 25 refine Qp ?_
 exact VW):qP:=h
theorem MK(a:Sh)(s:BA)(ha:a.b.size≤4294967296)(he:a.e.size≤4294967296)(hs:s.size≤4294967296)(w:World):Cl 66 #[(Sq a),.string s] w (AO w (AQ a s)):=by
 obtain ⟨p,hp⟩:=eqx (Bd (bs s));obtain ⟨t,ht⟩:=eqx (Bi s);obtain ⟨HT,HP1,HE,HPI⟩:=Hd4 (show ∀ w',Cl 108 #[.string s] w' (SameB w' t) from fun w'=>by rw [ht];exact Jw s hs w') (show ∀ w',Cl 109 #[.string s] w' (BK w' p) from fun w'=>by rw [hp];exact OF s hs w') (show AQ a s=(t&&decide (a.least≤s.size)&&decide ((s.size:Int)≤a.most)&&BZ p a.cls&&Cq a.b s&&Cs a.e s) from by rw [ht,hp];rfl) (show DK p from by rw [hp];exact SV _);clear hp ht;obtain ⟨w0,hw0⟩:=eqx (w.alloc (.cells (Sp a) 32));have hx0:Ext w w0:=Y68;obtain ⟨g,hg⟩:=eqx w.heap.size;have hbk:Blk w0 g 32 (Sp a):=Y69;obtain ⟨k0,k1,k2,k3,k4,HX0,HW0,HG⟩:=Hd8 (hbk.q0) (hbk.q1) (hbk.q2) (hbk.q3) (hbk.q4) hx0 hw0 hg;clear hx0 hbk hw0 hg;have HXA:=Hd (show Ext w (w.alloc (.cells (Sp a) 32)) from (Ext.refl w).alloc _);have hand:(bits .and .i64 p a.cls==p)=BZ p a.cls:=by
  rw [Bool.eq_iff_iff,beq_iff_eq,FI];constructor
  ·intro h i _ hi;rw [←h,Ba,Bool.and_eq_true] at hi;exact hi.2
  ·intro h;refine CT (BY _ _ _) HPI.o fun i hi => ?_;rw [Ba];cases hb:bt p i
   ·rfl
   ·rw [h i hi hb];rfl
 obtain ⟨b1,hb1⟩:=eqx (BZ p a.cls);obtain ⟨b2,hb2⟩:=eqx (Cq a.b s);obtain ⟨b3,hb3⟩:=eqx (Cs a.e s);rw [←hb1] at hand;have HAND:=Hd hand;rw [←hb1,←hb2,←hb3] at HE;have HB2:=Hd hb2;have HB3:=Hd hb3;clear hand hb1 hb2 hb3
 go_enter func66,ntmps66
 cases t
 ·have HF:=Hd (show AQ a s=false by rw [HE.o];rfl);exact Sn
 by_cases h1:(s.size:Int)<a.least
 ·have HF:=Hd (show AQ a s=false by rw [HE.o,show decide (a.least≤(s.size:Int))=false from decide_eq_false Y4];rfl);exact Sn
 by_cases h2:a.most<(s.size:Int)
 ·have HF:=Hd (show AQ a s=false by rw [HE.o,show decide ((s.size:Int)≤a.most)=false from decide_eq_false Y4,Bool.and_false];rfl);exact Sn
 have HE2:=Hd (show AQ a s=(b1&&b2&&b3) by rw [HE.o,show decide (a.least≤(s.size:Int))=true from decide_eq_true Y4,show decide ((s.size:Int)≤a.most)=true from decide_eq_true Y4];rfl);by_cases h3:s.size<a.b.size
 ·have HF:=Hd (show AQ a s=false by
   rw [HE2.o];have:b2=false:=by
    rw [HB2.o,Bool.eq_false_iff];intro h;have h:=(Dm.1 h).length_le
    change a.b.size≤s.size at h
    omega
   rw [this,Bool.and_false];rfl)
  exact Sn
 by_cases h4:s.size<a.e.size
 ·have HF:=Hd (show AQ a s=false by
   rw [HE2.o];have:b3=false:=by
    rw [HB3.o,Bool.eq_false_iff];intro h;have h:=(Dl.1 h).length_le
    change a.e.size≤s.size at h
    omega
   rw [this,Bool.and_false])
  exact Sn
 go_upto_region 3 with (go_at_call 108;refine (HT.o _).mono ?_;rintro e1 w1 ⟨rfl,rfl⟩)
 rw [←HW0.o,←HG.o];have hand:=HAND.o;have hpre:=Md (p:=a.b) (s:=s) Y4;have hsuf:=Nm (p:=a.e) (s:=s) Y4;obtain ⟨u,hu⟩:=eqx (s.size-a.e.size);rw [←hu] at hsuf;have hsub:IntKind.i64.wrap ((s.size:Int)-(a.e.size:Int))=(u:Int):=by
  rcases El ((s.size:Int)-(a.e.size:Int)) with h|h<;>have:=Ep ((s.size:Int)-(a.e.size:Int))<;>unfold DK at this<;>omega
 have n3:u≤s.size:=Y4;have HU:=Hd hu;clear hu;rw [←HB2.o] at hpre;rw [←HB3.o] at hsuf;have n1:a.b.size≤s.size:=Y4;have n2:a.e.size≤s.size:=Y4;cases b1
 ·have HF:=Hd (show AQ a s=false by rw [HE2.o];rfl);refine Qa (fun _ _=>False) [] ?_;refine Qp ?_;refine Qc (fun w'=>HP1.o w') ?_
  iterate 4 refine Qp ?_
  refine Qc (fun w'=>HP1.o w') ?_
  iterate 2 refine Qp ?_
  iterate 8 refine Qn ?_
  iterate 2 refine Qp ?_
  exact BhA
 cases b2
 ·have HF:=Hd (show AQ a s=false by rw [HE2.o];rfl);refine Qa (fun _ _=>False) [] ?_;refine Qp ?_;refine Qc (fun w'=>HP1.o w') ?_
  iterate 4 refine Qp ?_
  refine Qc (fun w'=>HP1.o w') ?_
  iterate 12 refine Qp ?_
  exact BhA
 cases b3
 ·have HF:=Hd (show AQ a s=false by rw [HE2.o];rfl);exact XZ
 ·have HF:=Hd (show AQ a s=true by rw [HE2.o];rfl);exact XZ

theorem N9{α:Sort _}(p q:Prop) [Decidable p] [Decidable q](x y:α):(if p then (if q then x else y) else y)=if p∧q then x else y:=by
 by_cases h1:p<;>by_cases h2:q<;>simp [h1,h2]
def QN(lo hi o:Int)(b1 b2:Bool)(nb ne:Nat)(lap:Bool):Bool:=decide (hi<lo)||!b1||!b2||(if o=0 then decide (0<lo) else decide (hi<nb+ne)&&!lap)
theorem Lu{a:Sh}(h:a.least=1∧a.most=0∧a.cls=0∧a.b.toList=[]∧a.e.toList=[]):AI a=true:=by
 obtain ⟨l,m,c,b,e⟩:=a;simp only at h;obtain ⟨rfl,rfl,rfl,h4,h5⟩:=h;rw [LD] at h4 h5;subst h4 h5;exact Gr
theorem O9{b e:BA}{u v:Nat}(hv:v≤e.size):((b.extract u b.size).toList==(e.extract 0 v).toList)=decide (b.data.toList.drop u=e.data.toList.take v):=by
 rw [BH,Bool.eq_iff_iff,decide_eq_true_eq,decide_eq_true_eq];have h1:(b.extract u b.size).data.toList=b.data.toList.drop u:=by
  rw [ByteArray.data_extract,Array.toList_extract,List.extract_eq_take_drop,List.take_of_length_le];rw [List.length_drop];exact AS
 have h2:(e.extract 0 v).data.toList=e.data.toList.take v:=by
  rw [ByteArray.data_extract,Array.toList_extract,List.extract_eq_take_drop,List.drop_zero,Nat.sub_zero]
 constructor
 ·intro h;have:=congrArg (fun x:BA=>x.data.toList) h;exact h1.symm.trans (this.trans h2)
 ·intro h;rw [←Et (b.extract u b.size),h1,h,←h2,Et]
theorem Zz(h:qP:=by
 refine Qr ?_;simp only [N9];rw [if_neg HP.o];exact ⟨rfl,rfl⟩):qP:=h
theorem BO(a:Sh)(hb:a.b.size≤4294967296)(he:a.e.size≤4294967296)(w:World):Cl 150 #[(Sq a)] w (AO w (AI a)):=by
 obtain ⟨lo,hlo⟩:=eqx (AG a);obtain ⟨hi,hhi⟩:=eqx (Ag a);obtain ⟨o,ho⟩:=eqx (At a);obtain ⟨p,hp⟩:=eqx (Bd (bs a.b));obtain ⟨q,hq⟩:=eqx (Bd (bs a.e));obtain ⟨b1,hb1⟩:=eqx (BZ p o);obtain ⟨b2,hb2⟩:=eqx (BZ q o);obtain ⟨HL,HM,HO,HP1,HQ1,HA1,HA2,HN⟩:=Hd8 (show ∀ w',Cl 151 #[(Sq a)] w' (CD w' lo) from fun w'=>by rw [hlo];exact CU a w') (show ∀ w',Cl 152 #[(Sq a)] w' (CD w' hi) from fun w'=>by rw [hhi];exact C6 a w') (show ∀ w',Cl 153 #[(Sq a)] w' (CD w' o) from fun w'=>by rw [ho];exact DX a w') (show ∀ w',Cl 130 #[.string a.b] w' (BK w' p) from fun w'=>by rw [hp];exact DL a.b hb w') (show ∀ w',Cl 130 #[.string a.e] w' (BK w' q) from fun w'=>by rw [hq];exact DL a.e he w') (show ∀ w',Cl 129 #[.I p,.I o] w' (SameB w' b1) from fun w'=>by rw [hb1];exact Dj p o w') (show ∀ w',Cl 129 #[.I q,.I o] w' (SameB w' b2) from fun w'=>by rw [hb2];exact Dj q o w') (show ∀ w',Cl 136 #[] w' (Eg w' EwA) from Em);have HE:=Hd (show AI a=QN lo hi o b1 b2 a.b.size a.e.size ((List.range 201).any fun n=>decide (lo≤n∧(n:Int)≤hi)&&Lx a n) from by
  rw [hlo,hhi,hb1,hb2,hp,hq,ho];rfl)
 have HLB:=Hd (show (a.b.size:Int)≤lo∧(a.e.size:Int)≤lo∧0≤lo∧hi≤200 from by rw [hlo,hhi];unfold AG Ag;omega);clear hlo hhi ho hp hq hb1 hb2;have HPN:=Hd (Lu (a:=a));obtain ⟨w0,hw0⟩:=eqx (w.alloc (.cells (Sp a) 32));have hx0:Ext w w0:=Y68;obtain ⟨g,hg⟩:=eqx w.heap.size;have hbk:Blk w0 g 32 (Sp a):=Y69;obtain ⟨k0,k1,k2,k3,k4,HX0,HW0,HG⟩:=Hd8 (hbk.q0) (hbk.q1) (hbk.q2) (hbk.q3) (hbk.q4) hx0 hw0 hg;clear hx0 hbk hw0 hg
 go_enter func150,ntmps150
 go_upto_region 1 with fail
 rw [←HW0.o,←HG.o];refine Qa (fun _ _=>False) [] ?_;refine Qp ?_;refine Qc (fun w'=>HL.o w') ?_;refine Qp ?_;refine Qc (fun w'=>HM.o w') ?_
 iterate 2 refine Qp ?_
 intro vals γ w9 hR hG;refine Qx ?_;have HXN:=Hd (show Ext w0 w9 from hR.ext0 (fun _ _ _ h=>h.elim));clear hR hG;obtain ⟨w1,hw1⟩:=eqx w9;rw [←hw1] at HXN⊢;have HX1:=Hd (HX0.o.trans HXN.o);clear hw1;obtain ⟨p0,p1,p2,p3,p4⟩:=Hd5 (HXN.o.cell k0.o) (HXN.o.cell k1.o) (HXN.o.cell k2.o) (HXN.o.cell k3.o) (HXN.o.cell k4.o);clear k0 k1 k2 k3 k4 HX0 HXN
 go_upto_region 2 with fail
 by_cases hpn:a.least=1∧a.most=0∧a.cls=0∧a.b.toList=[]∧a.e.toList=[]
 ·have HP:=Hd hpn;have HF:=Hd (HPN.o hpn);clear hpn;refine Qa (fun _ _=>False) [] ?_;refine Qp ?_;refine Qc (x:=.agg #[.I 1,.I 0,.I 0,.string ⟨#[]⟩,.string ⟨#[]⟩]) (fun w'=>HN.o w') ?_;refine Qm (fun vals γ w' ρ hR hN hp hρ zs zg=>by
   refine Qr ?_;simp only [N9];rw [if_pos HP.o];exact ⟨rfl,rfl⟩) ?_
  refine Qp ?_
  iterate 3 refine Qn ?_
  refine Qp ?_;intro vals γ w9 hR hG;refine Qx ?_;have HX2:=Hd (show Ext w1 w9 from hR.ext0 (fun _ _ _ h=>h.elim));clear hR hG;go_wp2;go_ret;exact ⟨Y19,HX1.o.trans HX2.o⟩
 have HP:=Hd hpn;clear hpn HPN;by_cases hlt:hi<lo
 ·have HF:=Hd (show AI a=true by rw [HE.o];unfold QN;rw [decide_eq_true hlt];rfl);refine Qa (fun _ _=>False) [] ?_;refine Qp ?_;refine Qc (x:=.agg #[.I 1,.I 0,.I 0,.string ⟨#[]⟩,.string ⟨#[]⟩]) (fun w'=>HN.o w') ?_;refine Qm (fun vals γ w' ρ hR hN hp hρ zs zg=>by
   exact Zz) ?_
  iterate 5 refine Qp ?_
  intro vals γ w9 hR hG;refine Qx ?_;have HX2:=Hd (show Ext w1 w9 from hR.ext0 (fun _ _ _ h=>h.elim));clear hR hG;go_wp2;go_ret;exact ⟨Y19,HX1.o.trans HX2.o⟩
 refine Qa (fun _ _=>False) [] ?_;refine Qp ?_;refine Qc (x:=.agg #[.I 1,.I 0,.I 0,.string ⟨#[]⟩,.string ⟨#[]⟩]) (fun w'=>HN.o w') ?_;refine Qm (fun vals γ w' ρ hR hN hp hρ zs zg=>by
  exact Zz) ?_
 iterate 5 refine Qp ?_
 intro vals γ w9 hR hG;refine Qx ?_;have HX2:=Hd (show Ext w1 w9 from hR.ext0 (fun _ _ _ h=>h.elim));clear hR hG;obtain ⟨w2,hw2⟩:=eqx w9;rw [←hw2] at HX2⊢;have HX4:=Hd (HX1.o.trans HX2.o);clear hw2;obtain ⟨r0,r1,r2,r3,r4⟩:=Hd5 (HX2.o.cell p0.o) (HX2.o.cell p1.o) (HX2.o.cell p2.o) (HX2.o.cell p3.o) (HX2.o.cell p4.o);clear p0 p1 p2 p3 p4 HX1 HX2
 go_upto_region 4 with fail
 cases b1
 ·have HF:=Hd (show AI a=true by rw [HE.o];unfold QN;cases decide (hi<lo)<;>rfl);refine Qa (fun _ _=>False) [] ?_
  iterate 2 refine Qp ?_
  refine Qc (fun w'=>HP1.o w') ?_;refine Qp ?_;refine Qc (fun w'=>HO.o w') ?_;refine Qc (fun w'=>HA1.o w') ?_
  iterate 2 refine Qp ?_
  iterate 7 refine Qn ?_
  refine Qp ?_;intro vals γ w9 hR hG;refine Qx ?_;have HX3:=Hd (show Ext w2 w9 from hR.ext0 (fun _ _ _ h=>h.elim));clear hR hG;go_wp2;go_ret;exact ⟨Y19,HX4.o.trans HX3.o⟩
 cases b2
 ·have HF:=Hd (show AI a=true by rw [HE.o];unfold QN;cases decide (hi<lo)<;>rfl);refine Qa (fun _ _=>False) [] ?_
  iterate 2 refine Qp ?_
  refine Qc (fun w'=>HP1.o w') ?_;refine Qp ?_;refine Qc (fun w'=>HO.o w') ?_;refine Qc (fun w'=>HA1.o w') ?_
  iterate 4 refine Qp ?_
  refine Qc (fun w'=>HQ1.o w') ?_;refine Qp ?_;refine Qc (fun w'=>HO.o w') ?_;refine Qc (fun w'=>HA2.o w') ?_
  iterate 2 refine Qp ?_
  intro vals γ w9 hR hG;refine Qx ?_;have HX3:=Hd (show Ext w2 w9 from hR.ext0 (fun _ _ _ h=>h.elim));clear hR hG;go_wp2;go_ret;exact ⟨Y19,HX4.o.trans HX3.o⟩
 refine Qa (fun _ _=>False) [] ?_
 iterate 2 refine Qp ?_
 refine Qc (fun w'=>HP1.o w') ?_;refine Qp ?_;refine Qc (fun w'=>HO.o w') ?_;refine Qc (fun w'=>HA1.o w') ?_
 iterate 4 refine Qp ?_
 refine Qc (fun w'=>HQ1.o w') ?_;refine Qp ?_;refine Qc (fun w'=>HO.o w') ?_;refine Qc (fun w'=>HA2.o w') ?_
 iterate 2 refine Qp ?_
 intro vals γ w9 hR hG;refine Qx ?_;have HX3:=Hd (show Ext w2 w9 from hR.ext0 (fun _ _ _ h=>h.elim));clear hR hG;obtain ⟨w3,hw3⟩:=eqx w9;rw [←hw3] at HX3⊢;have HX5:=Hd (HX4.o.trans HX3.o);clear hw3;have s0:=HX3.o.cell r0.o;have s1:=HX3.o.cell r1.o;have s2:=HX3.o.cell r2.o;have s3:=HX3.o.cell r3.o;have s4:=HX3.o.cell r4.o;have HHL:=Hd hlt;clear r0 r1 r2 r3 r4 HX4 HX3 hlt;by_cases ho:o=0
 ·have HF:=Hd (show AI a=decide (0<lo) by rw [HE.o];unfold QN;rw [if_pos ho,decide_eq_false HHL.o];simp);have hoz:(o==0)=true:=(by rw [beq_iff_eq];exact ho);clear ho HE
  go_wp2_with (go_at_call 153;refine (HO.o _).mono ?_;rintro e4 w4 ⟨rfl,hx4⟩;have HX6:=Hd (HX5.o.trans hx4);clear hx4)
  go_ret;refine ⟨?_,HX6.o⟩;rw [HF.o];rfl
 have HF:=Hd (show AI a=(decide (hi<(a.b.size:Int)+a.e.size)&&!((List.range 201).any fun n=>decide (lo≤n∧(n:Int)≤hi)&&Lx a n)) by rw [HE.o];unfold QN;rw [if_neg ho,decide_eq_false HHL.o];simp);have hoz:(o==0)=false:=(by rw [beq_eq_false_iff_ne];exact ho);clear ho HE
 go_wp2_with (go_at_call 153;refine (HO.o _).mono ?_;rintro e4 w4 ⟨rfl,hx4⟩;have HX6:=Hd (HX5.o.trans hx4);have s0:=hx4.cell s0;have s1:=hx4.cell s1;have s2:=hx4.cell s2;have s3:=hx4.cell s3;have s4:=hx4.cell s4;clear hx4)
 ·go_ret;refine ⟨?_,HX6.o⟩;rw [HF.o,show decide (hi<(a.b.size:Int)+a.e.size)=false from decide_eq_false Y4];rfl
 obtain ⟨hlb,hle,hl0,hh⟩:=HLB.o;obtain ⟨L,rfl⟩:∃ L:Nat,lo=(L:Int):=⟨lo.toNat,Y4⟩;have hap:hi<(a.b.size:Int)+a.e.size:=Y4;obtain ⟨nb,hnb⟩:=eqx a.b.size;obtain ⟨ne,hne⟩:=eqx a.e.size;rw [←hnb] at hb hlb;rw [←hne] at he hle;obtain ⟨wk,hwk⟩:=eqx w4;obtain ⟨HWK,HNB,HNE⟩:=Hd3 hwk hnb hne;rw [←hnb,←hne] at hap;rw [←hnb,←hne];rw [←hwk] at s3 s4⊢;have t3:=Hd s3;have t4:=Hd s4;clear s0 s1 s2 s3 s4 hwk hnb hne HL HM HO HP1 HQ1 HA1 HA2 HN
 go_loopw [6,7] (fun i _u wr=>(∃ k:Nat,i=.I k∧L≤k∧(k:Int)≤hi+1∧∀ m,L≤m→m<k→Lx a m=false)∧Ext wk wr) (fun i _ _=>202-(intOf i).toNat)
 case atStart=>exact ⟨⟨L,rfl,AS,by have:=HHL.o;omega,Y8⟩,Ext.refl _⟩
 case round =>
  obtain ⟨⟨k,rfl,hk1,hk2,hall⟩,hxr⟩:=hrel;have HXK:=Hd hxr;clear hxr;have HA:=Hd hall;clear hall;by_cases hkh:(k:Int)≤hi
  ·obtain ⟨v,hv⟩:=eqx (nb+ne-k);obtain ⟨u,hu⟩:=eqx (k-ne);have e1:(nb:Int)+ne-(k:Int)=(v:Int):=Y4;have e3:u≤nb:=Y4;have e4:v≤ne:=Y4;have e5:v≤nb:=Y4;have hlap:Lx a k=((a.b.extract u a.b.size).toList==(a.e.extract 0 v).toList):=by
    rw [O9 (by rw [←HNE.o];exact e4)];unfold Lx;rw [show k-a.E.length=u by rw [EA,←HNE.o];exact hu.symm,show a.B.length+a.E.length-k=v by rw [EA,Ei,←HNE.o,←HNB.o];exact hv.symm];rfl
   have hsub:IntKind.i64.wrap ((a.b.size:Int)-(v:Int))=(u:Int):=by
    rw [←HNB.o]
    rcases El ((nb:Int)-(v:Int)) with h|h<;>have:=Ep ((nb:Int)-(v:Int))<;>unfold DK at this<;>omega
   rw [HNB.o] at e3 e5;rw [HNE.o] at e4;clear hv hu;obtain ⟨HXR,x3,x4⟩:=Hd3 (show Ext w wr from by have:=HX6.o;rw [←HWK.o] at this;exact this.trans HXK.o) (HXK.o.cell t3.o) (HXK.o.cell t4.o)
   go_upto_region 15 with fail
   cases hl:Lx a k
   ·rw [hl] at hlap
    replace hlap:=hlap.symm
    have HLP:=Hd hl;clear hl;refine Qa (fun _ _=>False) [] ?_
    iterate 13 refine Qp ?_
    intro vals γ w9 hR hG;refine Qx ?_;have HX9:=Hd (show Ext wr w9 from hR.ext0 (fun _ _ _ h=>h.elim));clear hR hG;go_wp2;go_roundw
    case rel=>exact ⟨⟨k+1,Y5,Y4,Y4,fun m hm1 hm2=>by by_cases hmk:m=k;exact hmk ▸ HLP.o;exact HA.o m hm1 Y4⟩,HXK.o.trans HX9.o⟩
    case measure=>simp [intOf];omega
   ·rw [hl] at hlap
    replace hlap:=hlap.symm
    have HLP:=Hd hl;clear hl;have HF2:=Hd (show AI a=false from by
     rw [HF.o,show decide (hi<(a.b.size:Int)+a.e.size)=true from decide_eq_true (by rw [←HNB.o,←HNE.o];exact hap),Bool.true_and,Bool.not_eq_false',List.any_eq_true];exact ⟨k,by rw [List.mem_range];omega,by rw [HLP.o];simp;omega⟩)
    refine Qa (fun _ _=>False) [] ?_
    iterate 13 refine Qp ?_
    intro vals γ w9 hR hG;refine Qx ?_;have HX9:=Hd (show Ext wr w9 from hR.ext0 (fun _ _ _ h=>h.elim));clear hR hG;go_wp2;go_ret;exact ⟨by rw [HF2.o];rfl,HXR.o.trans HX9.o⟩
  ·have HF2:=Hd (show AI a=true from by
    rw [HF.o,show decide (hi<(a.b.size:Int)+a.e.size)=true from decide_eq_true (by rw [←HNB.o,←HNE.o];exact hap),Bool.true_and,Bool.not_eq_true',List.any_eq_false];intro m _ hm;simp only [Bool.and_eq_true,decide_eq_true_eq] at hm;rw [HA.o m Y4 Y4] at hm;cases hm.2)
   go_wp2;go_ret;exact ⟨by rw [HF2.o];rfl,by have:=HX6.o;rw [←HWK.o] at this;exact this.trans HXK.o⟩

theorem EQ:∀ (l m:List UInt8) (n:Nat),n≤l.length→n≤m.length→(∀ j,j<n→l[j]?=m[j]?)→(n=l.length∨n=m.length∨l[n]?≠m[n]?)→Cz l m=l.take n
 |[],m,n,h1,_,_,_=>by simp [Cz]
 |x::l,[],n,_,h2,_,_=>by
  have:n=0:=Y37;subst this;simp [Cz]
 |x::l,y::m,0,_,_,_,h4=>by
  unfold Cz;rw [if_neg]
  ·rfl
  ·rintro rfl;simp at h4
 |x::l,y::m,n+1,h1,h2,h3,h4=>by
  have hxy:x=y:=(by simpa using h3 0 Y4);unfold Cz;rw [if_pos hxy,List.take_succ_cons,EQ l m n (by simpa using h1) Y37 (fun j hj=>by simpa using h3 (j+1) Y4) (by simpa using h4)]
theorem IL{s:BA}{j:Nat}(h:j<s.size):s.data.toList[j]?=some s[j]:=by
 rw [List.getElem?_eq_getElem (show j<s.data.toList.length from h)];rfl
theorem G9(x y:UInt8):((x.toNat:Int)==(y.toNat:Int))=decide (x=y):=by
 rw [Bool.eq_iff_iff,beq_iff_eq,decide_eq_true_eq];constructor
 ·intro h;exact UInt8.toNat_inj.1 Y4
 ·rintro rfl;rfl
theorem EH(s:BA)(n:Nat):s.extract 0 n=bA (s.data.toList.take n):=by
 rw [←Et (s.extract 0 n)];congr 1;rw [ByteArray.data_extract,Array.toList_extract,List.extract_eq_take_drop,List.drop_zero,Nat.sub_zero]
theorem DG(s:BA)(n:Nat):s.extract n s.size=bA (s.data.toList.drop n):=by
 rw [←Et (s.extract n s.size)];congr 1;rw [ByteArray.data_extract,Array.toList_extract,List.extract_eq_take_drop,List.take_of_length_le];rw [List.length_drop];exact AS
def MR(w:World)(s:BA)(e:Ending)(w':World):Prop:=e=.returned (.string s)∧Ext w w'
theorem QO(h:qP:=by
 go_wp2
 go_quiet (fail)
 go_wp2;go_ret;exact ⟨Y33,by rw [HWR.o];exact ((Ext.refl w).drewN _).drewN _⟩):qP:=h
theorem DdA(h:qP:=by
 refine ⟨⟨k+1,Y4,Y4,Y5,fun j hj => ?_⟩,_,by rw [HWR.o];exact World.drewN_drewN _ _ _⟩;by_cases hjk:j=k
 ·subst hjk;exact HE.o
 ·exact HA.o j Y4):qP:=h
theorem Wx(h:qP:=by
 go_wp2
 go_quiet (fail)
 go_wp2;go_roundw
 case rel =>
  exact DdA
 case measure=>simp [intOf];omega):qP:=h
theorem Oz(a b:BA)(ha:a.size≤4294967296)(hb:b.size≤4294967296)(w:World):Cl 116 #[.string a,.string b] w (MR w (bA (Cz a.data.toList b.data.toList))):=by
 go_enter func116,ntmps116
 go_wp2
 go_loopw [5] (fun i wr=>(∃ k:Nat,k≤a.size∧k≤b.size∧i=.I k∧∀ j,j<k→a.data.toList[j]?=b.data.toList[j]?)∧∃ n,wr=w.drewN n) (fun i _=>a.size-(intOf i).toNat)
 case atStart=>exact ⟨⟨0,AE,AE,rfl,Y8⟩,0,rfl⟩
 case round =>
  obtain ⟨⟨k,hka,hkb,rfl,hall⟩,n,rfl⟩:=hrel;have HA:=Hd hall;clear hall;obtain ⟨wr,hwr⟩:=eqx (w.drewN n);rw [←hwr];have HWR:=Hd hwr;clear hwr;by_cases h1:k<a.size
  ·by_cases h2:k<b.size
   ·cases hc:((a[k].toNat:Int)==(b[k].toNat:Int))
    ·have HF:=Hd (show a.extract 0 k=bA (Cz a.data.toList b.data.toList) by
      rw [EH,EQ _ _ k hka hkb HA.o (.inr (.inr (by rw [IL h1,IL h2];intro e;injection e with e;rw [G9,e] at hc;simp at hc)))])
     exact QO
    ·have HE:=Hd (show a.data.toList[k]?=b.data.toList[k]? by rw [IL h1,IL h2];rw [G9,decide_eq_true_eq] at hc;rw [hc]);exact Wx
   ·have HF:=Hd (show a.extract 0 k=bA (Cz a.data.toList b.data.toList) by
     rw [EH,EQ _ _ k hka hkb HA.o (.inr (.inl (by show k=b.size;omega)))])
    exact QO
  ·have HF:=Hd (show a.extract 0 k=bA (Cz a.data.toList b.data.toList) by
    rw [EH,EQ _ _ k hka hkb HA.o (.inl (by show k=a.size;omega))])
   exact QO
theorem GG(l m:List UInt8)(n:Nat)(h1:n≤l.length)(h2:n≤m.length)(h3:∀ j,j<n→l.reverse[j]?=m.reverse[j]?)(h4:n=l.length∨n=m.length∨l.reverse[n]?≠m.reverse[n]?):FD l m=l.drop (l.length-n):=by
 unfold FD;rw [EQ l.reverse m.reverse n (by simpa using h1) Y37 h3 (by simpa using h4),List.take_reverse,List.reverse_reverse]
theorem Jf{s:BA}{j u:Nat}(hu:u+j+1=s.size):s.data.toList.reverse[j]?=some (s[u]'Y4):=by
 have hl:s.data.toList.length=s.size:=rfl;rw [List.getElem?_reverse Y4,hl,show s.size-1-j=u by omega];exact IL Y4
theorem Ow(a b:BA)(ha:a.size≤4294967296)(hb:b.size≤4294967296)(w:World):Cl 117 #[.string a,.string b] w (MR w (bA (FD a.data.toList b.data.toList))):=by
 go_enter func117,ntmps117
 go_wp2
 go_loopw [5] (fun i wr=>(∃ k:Nat,k≤a.size∧k≤b.size∧i=.I k∧∀ j,j<k→a.data.toList.reverse[j]?=b.data.toList.reverse[j]?)∧∃ n,wr=w.drewN n) (fun i _=>a.size-(intOf i).toNat)
 case atStart=>exact ⟨⟨0,AE,AE,rfl,Y8⟩,0,rfl⟩
 case round =>
  obtain ⟨⟨k,hka,hkb,rfl,hall⟩,n,rfl⟩:=hrel;have HA:=Hd hall;clear hall;obtain ⟨wr,hwr⟩:=eqx (w.drewN n);rw [←hwr];have HWR:=Hd hwr;clear hwr;obtain ⟨d,hd⟩:=eqx (a.size-k);have HD:=Hd hd;have hd1:(a.size:Int)-(k:Int)=(d:Int):=Y4;have hd2:d≤a.size:=Y4;clear hd;by_cases h1:k<a.size
  ·by_cases h2:k<b.size
   ·obtain ⟨u,hu⟩:∃ u,u+k+1=a.size:=⟨a.size-k-1,Y4⟩;obtain ⟨v,hv⟩:∃ v,v+k+1=b.size:=⟨b.size-k-1,Y4⟩;have hua:u<a.size:=Y4;have hvb:v<b.size:=Y4;have e1:IntKind.i64.wrap (IntKind.i64.wrap ((a.size:Int)-1)-(k:Int))=(u:Int):=by
     rw [show IntKind.i64.wrap ((a.size:Int)-1)=(a.size:Int)-1 by rcases El ((a.size:Int)-1) with h|h<;>have:=Ep ((a.size:Int)-1)<;>unfold DK at this<;>omega]
     rcases El ((a.size:Int)-1-(k:Int)) with h|h<;>have:=Ep ((a.size:Int)-1-(k:Int))<;>unfold DK at this<;>omega
    have e2:IntKind.i64.wrap (IntKind.i64.wrap ((b.size:Int)-1)-(k:Int))=(v:Int):=by
     rw [show IntKind.i64.wrap ((b.size:Int)-1)=(b.size:Int)-1 by rcases El ((b.size:Int)-1) with h|h<;>have:=Ep ((b.size:Int)-1)<;>unfold DK at this<;>omega]
     rcases El ((b.size:Int)-1-(k:Int)) with h|h<;>have:=Ep ((b.size:Int)-1-(k:Int))<;>unfold DK at this<;>omega
    have HU:=Hd hu;have HV:=Hd hv;clear hu hv;cases hc:((a[u].toNat:Int)==(b[v].toNat:Int))
    ·have HF:=Hd (show a.extract d a.size=bA (FD a.data.toList b.data.toList) by
      rw [DG,GG _ _ k hka hkb HA.o (.inr (.inr (by rw [Jf HU.o,Jf HV.o];intro e;injection e with e;rw [G9,e] at hc;simp at hc))),HD.o];rfl)
     exact QO
    ·have HE:=Hd (show a.data.toList.reverse[k]?=b.data.toList.reverse[k]? by rw [Jf HU.o,Jf HV.o];rw [G9,decide_eq_true_eq] at hc;rw [hc]);exact Wx
   ·have HF:=Hd (show a.extract d a.size=bA (FD a.data.toList b.data.toList) by
     rw [DG,GG _ _ k hka hkb HA.o (.inr (.inl (by show k=b.size;omega))),HD.o];rfl)
    exact QO
  ·have HF:=Hd (show a.extract d a.size=bA (FD a.data.toList b.data.toList) by
    rw [DG,GG _ _ k hka hkb HA.o (.inl (by show k=a.size;omega)),HD.o];rfl)
   exact QO

theorem R8(m:Nat)(h:m≤6):IntKind.i64.wrap (2^m)=((2^m:Nat):Int):=by
 match m,h with
 |0,_=>decide
 |1,_=>decide
 |2,_=>decide
 |3,_=>decide
 |4,_=>decide
 |5,_=>decide
 |6,_=>decide
theorem UG(x:Int)(m:Nat)(h:m≤6):(bits .and .i64 x (IntKind.i64.wrap (2^m)) != 0)=bt x m:=by
 rw [R8 m h,Bool.eq_iff_iff,bne_iff_ne,ne_eq,G0 (BY _ _ _)];constructor
 ·intro hn;refine Classical.byContradiction fun hb=>hn fun i hi => ?_;rw [Ba,Fm _ _ Y4];by_cases e:i=m
  ·subst e;cases hbt:bt x i
   ·rfl
   ·exact absurd hbt hb
  ·exact Wg
 ·intro hb hn;have h1:=hn m Y4;exact BfA
theorem So(l m:List UInt8):bA l++bA m=bA (l++m):=by
 have h:(bA l++bA m).data.toList=l++m:=(by simp [bA]);rw [←Et (bA l++bA m),h]
def UK(f:Int):BA:=bA [UInt8.ofNat f.toNat]
def AfA(w:World)(o:Option (List UInt8))(e:Ending)(w':World):Prop:=e=.returned (.tuple #[.string (bA (o.getD [])),.bool o.isSome])∧Ext w w'
theorem ZH(h:qP:=by
 go_wp2;go_ret2;refine ⟨Y19,(Ext.refl w).alloc _⟩):qP:=h
theorem SG(a:Sh)(n:Nat)(ha:a.b.size≤4294967296)(he:a.e.size≤4294967296)(hn:n≤200)(w:World):Cl 149 #[(Sq a),.I (n:Int)] w (AfA w (Dr a n)):=by
 obtain ⟨w0,hw0⟩:=eqx (w.alloc (.cells (Sp a) 32));have hx0:Ext w w0:=Y68;obtain ⟨g,hg⟩:=eqx w.heap.size;have hbk:Blk w0 g 32 (Sp a):=Y69;obtain ⟨k0,k1,k2,k3,k4⟩:=hbk.qs5;obtain ⟨HX0,HW0,HG⟩:=Hd3 hx0 hw0 hg;clear hx0 hbk hw0 hg
 go_enter func149,ntmps149
 by_cases h1:n<a.b.size
 ·have HF:=Hd (show Dr a n=none by unfold Dr;rw [if_pos (.inl h1)]);exact ZH
 by_cases h2:n<a.e.size
 ·have HF:=Hd (show Dr a n=none by unfold Dr;rw [if_pos (.inr h2)]);exact ZH
 obtain ⟨nb,hnb⟩:=eqx a.b.size;obtain ⟨ne,hne⟩:=eqx a.e.size;have HNB:=Hd hnb;have HNE:=Hd hne;clear hnb hne;go_wp2;rw [←HW0.o,←HG.o]
 go_loopw [6,7] (fun f i wr=>(∃ (k:Nat) (v:Int),k≤95∧i=.I ((k:Int)+31)∧f=.string (UK v)∧E9 a.cls k v=E9 a.cls 95 32)∧Ext w0 wr) (fun _ i _=>(intOf i).toNat)
 case atStart=>exact ⟨⟨95,32,Y4,rfl,rfl,rfl⟩,Ext.refl _⟩
 case round =>
  obtain ⟨⟨k,v,hk,rfl,rfl,hfl⟩,hx⟩:=hrel;obtain ⟨HFL,HX,c0,c1,c2,c3,c4⟩:=Hd7 hfl hx (hx.cell k0) (hx.cell k1) (hx.cell k2) (hx.cell k3) (hx.cell k4);clear hfl hx;by_cases hk0:k=0
  ·subst hk0;have hlt:¬(32:Int)≤((0:Nat):Int)+31:=Y4;have HV:=Hd (show v=E9 a.cls 95 32 from HFL.o);have d0:=c0.o;have d1:=c1.o;have d2:=c2.o;have d3:=c3.o;have d4:=c4.o;have hS:=Hd (show UK v=bA [FZ a] from by rw [HV.o];rfl);have hsv:(UK v).size=1:=rfl;generalize UK v=sv at *;obtain ⟨wz,hwz⟩:=eqx wr;rw [←hwz] at HX d0 d1 d2 d3 d4 c0 c1 c2 c3 c4⊢;have HWZ:=Hd hwz;clear hwz HFL HV;have hle:nb+ne≤9000000000:=(by rw [HNB.o,HNE.o];omega);have HI0:=Hd (show a.b=bA (a.B++List.replicate 0 (FZ a)) by rw [List.replicate_zero,List.append_nil,CGA]);go_wp2
   go_loopw [8] (fun s wr2=>(∃ (j:Nat) (z:BA),s=.string z∧z=bA (a.B++List.replicate j (FZ a))∧j≤n-ne-nb)∧wr2=wz) (fun s _=>n-(match s with|.string z=>z.size|_=>0))
   case atStart=>exact ⟨⟨0,_,rfl,HI0.o,AE⟩,rfl⟩
   case round =>
    obtain ⟨⟨j,z,rfl,hz,hj⟩,rfl⟩:=hrel;have hzs:z.size=nb+j:=by
     rw [hz,Cv,List.length_append,List.length_replicate,Ei,HNB.o]
    have HZ:=Hd hz;clear hz;have hnb1:a.b.size=nb:=HNB.o.symm;have hne1:a.e.size=ne:=HNE.o.symm;by_cases hlt:nb+j+ne<n
    ·have hcond:(z.size:Int)+(a.e.size:Int)<(n:Int):=(by rw [hzs,hne1];omega);have HZN:=Hd (show z++sv=bA (a.B++List.replicate (j+1) (FZ a)) by rw [HZ.o,hS.o,So,List.append_assoc,List.replicate_succ']);have hz9:z.size≤9000000000:=Y4;clear hnb1 hne1;go_wp2;go_roundw
     case rel=>exact ⟨⟨j+1,_,rfl,HZN.o,Y4⟩,trivial⟩
     case measure =>
      show n-(z++sv).size<n-z.size;have:(z++sv).size=z.size+1:=(by rw [HZN.o,Cv,HZ.o,Cv];simp only [List.length_append,List.length_replicate];omega);omega
    ·have hcond:¬(z.size:Int)+(a.e.size:Int)<(n:Int):=(by rw [hzs,hne1];omega);obtain ⟨q,hq⟩:=eqx (nb+j+ne-n);obtain ⟨p,hp⟩:=eqx (n-ne);have hz9:z.size≤9000000000:=Y4;have hq1:(z.size:Int)+(a.e.size:Int)-(n:Int)=(q:Int):=(by rw [hzs,hne1];omega);have hq2:q≤z.size:=Y4;have hq3:q≤a.e.size:=Y4;have hp1:IntKind.i64.wrap ((z.size:Int)-(q:Int))=(p:Int):=by
      rw [hzs]
      rcases El (((nb+j:Nat):Int)-(q:Int)) with h|h<;>have:=Ep (((nb+j:Nat):Int)-(q:Int))<;>unfold DK at this<;>omega
     have hp2:p≤z.size:=Y4;have HZS:=Hd hzs;obtain ⟨tl,htl⟩:=eqx (a.e.extract q a.e.size);have hcmp:((z.extract p z.size).toList==(a.e.extract 0 q).toList)=decide (z.data.toList.drop p=a.E.take q):=O9 hq3;have HSR:=Hd (show Dr a n=if z.data.toList.drop p=a.E.take q then some (z.data.toList++a.E.drop q) else none from by
      unfold Dr;rw [if_neg (by rw [Ei,EA,←HNB.o,←HNE.o];omega)];simp only;have ez:a.B++List.replicate (n-a.E.length-a.B.length) (FZ a)=z.data.toList:=by
       rw [HZ.o];show _=a.B++List.replicate j (FZ a);rw [show n-a.E.length-a.B.length=j by rw [Ei,EA,←HNB.o,←HNE.o];omega]
      have e1:z.data.toList.length=nb+j:=hzs;rw [ez,e1,EA,←HNE.o,←hq,show nb+j-q=p by omega])
     have HTL:=Hd (show z++a.e.extract q a.e.size=bA (z.data.toList++a.E.drop q) from by
      rw [DG,←So,Et];rfl)
     have HJQ:=Hd hq;clear hnb1 hne1 htl hq hp HWZ hzs hlt hsv hle;by_cases heq:z.data.toList.drop p=a.E.take q
     ·rw [decide_eq_true heq] at hcmp;have HF:=Hd (show Dr a n=some (z.data.toList++a.E.drop q) by rw [HSR.o,if_pos heq]);clear heq
      go_upto_region 13 with fail
      refine Qa (fun _ _=>False) [] ?_
      iterate 11 refine Qp ?_
      intro vals γ w9 hR hG;refine Qx ?_;have HX13:=Hd (show Ext wr w9 from hR.ext0 (fun _ _ _ h=>h.elim));clear hR hG;have f3:=HX13.o.cell c3.o;have f4:=HX13.o.cell c4.o;go_wp2;go_ret2;refine ⟨?_,HX0.o.trans (HX.o.trans HX13.o)⟩;rw [HF.o,Option.getD_some,←HTL.o];rfl
     ·rw [decide_eq_false heq] at hcmp;have HF:=Hd (show Dr a n=none by rw [HSR.o,if_neg heq]);clear heq
      go_upto_region 13 with fail
      refine Qa (fun _ _=>False) [] ?_
      iterate 11 refine Qp ?_
      intro vals γ w9 hR hG;refine Qx ?_;have HX13:=Hd (show Ext wr w9 from hR.ext0 (fun _ _ _ h=>h.elim));clear hR hG;go_wp2;go_ret2;refine ⟨Y19,HX0.o.trans (HX.o.trans HX13.o)⟩
  ·obtain ⟨j,rfl⟩:∃ j,k=j+1:=⟨k-1,Y4⟩;clear hk0;obtain ⟨c,hc⟩:∃ c:Int,c=((j+1:Nat):Int)+31:=⟨_,rfl⟩;rw [←hc];have hcr:32≤c∧c≤126:=Y4;obtain ⟨hc1,hc2⟩:=hcr;have HCC:=Hd (show c=((32+j:Nat):Int) by omega);have hw8:IntKind.u8.wrap c=c:=by
    unfold IntKind.wrap;simp only [IntKind.bits,IntKind.signed];simp;omega
   clear hc;obtain ⟨m,hm⟩:=eqx (DR c);have HC:=Hd (show ∀ w',Cl 177 #[.int .u8 c] w' (BK w' (m:Int)) from fun w'=>by rw [hm];exact IF _ w');have hm6:m≤6:=(by rw [hm];exact FQ _);have HM:=Hd hm;clear hm;have hand:=UG a.cls m hm6;cases hb:bt a.cls m
   ·rw [hb] at hand;have HB:=Hd hb;clear hb
    go_upto_region 7 with fail
    refine Qa (fun _ _=>False) [] ?_
    iterate 4 refine Qp ?_
    refine Qc (fun w'=>HC.o w') ?_
    iterate 3 refine Qp ?_
    intro vals γ w9 hR hG;refine Qx ?_;have HX7:=Hd (show Ext wr w9 from hR.ext0 (fun _ _ _ h=>h.elim));clear hR hG;go_wp2;go_roundw
    case rel=>exact ⟨⟨j,v,Y4,by have:=HCC.o;go_num,rfl,by have h:=HFL.o;unfold E9 at h;rw [←HCC.o,←HM.o,HB.o,if_neg Y3] at h;exact h⟩,HX.o.trans HX7.o⟩
    case measure=>simp [intOf];omega
   ·rw [hb] at hand;have HB:=Hd hb;clear hb
    go_upto_region 7 with fail
    refine Qa (fun _ _=>False) [] ?_
    iterate 4 refine Qp ?_
    refine Qc (fun w'=>HC.o w') ?_
    iterate 3 refine Qp ?_
    intro vals γ w9 hR hG;refine Qx ?_;have HX7:=Hd (show Ext wr w9 from hR.ext0 (fun _ _ _ h=>h.elim));clear hR hG;go_wp2;have hcv:=run_convert_bytes_arg (P:=prog) (w9.alloc (.cells #[.int .u8 c] 5)) 85 5 underlying85 underlying5 w9.heap.size 0 1 1 [c] rfl (fun i hi=>by
     have:i=0:=Y4;subst this;exact (Blk.new w9 5 #[.int .u8 c]).cell rfl) 9 underlying9
    rw [hcv];clear hcv;go_wp2;go_roundw
    case rel=>exact ⟨⟨j,c,Y4,by have:=HCC.o;go_num,rfl,by have h:=HFL.o;unfold E9 at h;rw [←HCC.o,←HM.o,HB.o,if_pos rfl] at h;exact h⟩,(HX.o.trans HX7.o).alloc _⟩
    case measure=>simp [intOf];omega
end Go.Proofs.YtidacnalcdhckaaGreatDoor
