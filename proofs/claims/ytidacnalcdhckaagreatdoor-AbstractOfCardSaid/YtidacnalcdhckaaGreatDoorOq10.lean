/- Lemmas. No conditions. -/
import Derived.Test.YtidacnalcdhckaaGreatDoorOq9
import Derived.Sort.Walk0
import Derived.Lib.Bytealg
import Derived.Deep.DeepCutAuto
import Derived.Laws.EntriesVeiled
set_option maxRecDepth 100000
set_option maxHeartbeats 2000000
namespace Go.Proofs.YtidacnalcdhckaaGreatDoor
open Go Go.RowKit Tryz
variable {qP:Prop}

theorem IUA{w:World}{base g e sz n:Nat}{xs:List Value}(h:Blk w g e xs.toArray)(hg:base≤g)(hn:xs.length=n*sz:=by rfl)(hm:n≤maxLen:=by decide):Own w base e sz (some ⟨g,0,none⟩) n n xs :=
 ⟨hn,.inr ⟨g,n,xs.toArray,rfl,hg,h,Al,hm,by simpa using hn,by rw [List.take_of_length_le (by simp [hn])]⟩⟩
theorem CMA(a b:BA)(ha:a.size≤4294967296)(hb:b.size≤4294967296)(hal:AO a<256^60)(hbl:AO b<256^60)(w:World):Cl 251 #[.string a,.string b] w (Ng w (AO a*AO b)):=by
 by_cases h:AO a<256^3∧AO b<256^4
 ·exact Vi a b ha hb h.1 h.2 w
 ·exact Kt a b ha hb hal hbl h w
structure QuoI(u qs rest:List Nat)(V k:Nat):Prop where
 len:qs.length=u.length
 ds:dgs qs
 eq:Av (u.drop k)=Av (qs.drop k)*V+Av rest
 lt:Av rest<V
 zero:∀ t,t<k→qs.getD t 0=0
 dr:dgs rest
 tr:trd rest
theorem QuoI.step{u qs rest r1 r2:List Nat}{V j q:Nat}(h:QuoI u qs rest V (j+1))(hj:j<u.length)(h1:Av r1=u.getD j 0+16777216*Av rest)(hq:q=Av r1 / V)(h2:Av r2=Av r1-q*V)(hd:dgs r2)(ht:trd r2)(hu:dgs u):QuoI u (qs.set j q) r2 V j:=by
 have hV:0<V:=Nat.lt_of_le_of_lt (AN) h.lt;have h3:=Aa hu j;have hqd:=Nat.div_add_mod (Av r1) V;rw [←hq] at hqd;have hm:=Nat.mod_lt (Av r1) hV;have hle:q*V≤Av r1:=(by rw [Nat.mul_comm];omega);have hqb:q<16777216:=by
  rw [hq];refine Nat.div_lt_of_lt_mul ?_;have:=h.lt;rw [h1];have h5:16777216*(Av rest+1)≤16777216*V:=Nat.mul_le_mul_left _ this;rw [Nat.mul_comm V];omega
 refine ⟨DY,XU h.ds _ hqb,?_,by rw [h2];rw [Nat.mul_comm] at hle⊢;omega,fun t ht=>by rw [NW _ _ _ _ AA];exact h.zero t AA,hd,ht⟩;have hl:j<(qs.set j q).length:=(by simp [h.len,hj]);rw [NU hj,NU hl];have e1:(qs.set j q).getD j 0=q:=by
  rw [List.getD_eq_getElem?_getD,List.getElem?_set_self (by rw [h.len];exact hj)];rfl
 have e2:(qs.set j q).drop (j+1)=qs.drop (j+1):=(by rw [List.drop_set_of_lt AA]);rw [e1,e2];simp only [Av];rw [h.eq,Nat.add_mul,h2,h1,Nat.mul_add,Nat.mul_assoc];rw [h1] at hle;omega
theorem QuoI.start(u:List Nat){V:Nat}(hV:0<V):QuoI u (List.replicate u.length 0) [] V u.length:=by
 refine ⟨AC,fun d hd=>by rw [List.eq_of_mem_replicate hd];decide,by simp [Av],by simpa [Av] using hV,fun t _ => ?_,by simp [dgs],by simp [trd]⟩;exact QM
theorem QuoI.fin{u qs rest:List Nat}{V:Nat}(h:QuoI u qs rest V 0):Av qs=Av u / V∧Av rest=Av u % V:=by
 have h1:=h.eq;have h2:=h.lt;simp only [List.drop_zero] at h1;have hV:0<V:=AA;constructor
 ·rw [h1,Nat.mul_comm,Nat.mul_add_div hV,Nat.div_eq_of_lt h2,Nat.add_zero]
 ·rw [h1,Nat.mul_comm,Nat.mul_add_mod,Nat.mod_eq_of_lt h2]

def OwnN(w:World)(base:Nat)(A:OA)(c:Nat)(l:List Nat):Prop:=Own w base 3 1 A l.length c ((Ds l).map (Value.int .i64))
def HgA(w:World)(l:List Nat)(e:Ending)(w':World):Prop:=∃ (A:OA) (c:Nat),e=.returned (.slice A l.length c)∧OwnN w' w.heap.size A c l∧Ext w w'

def CG(a b:Int):Int:=if a<b then -1 else if b<a then 1 else 0
theorem CrA(a:Int)(w:World):Cl 233 #[.I a] w (SameB w false):=by
 have h:(a != a)=false:=AC
 go_enter func233,ntmps233
 go_wp2;go_ret;exact ⟨AC,rfl⟩
theorem LW(h:qP:=by
 go_enter func193,ntmps193
 go_wp2_with (go_at_call 233;refine (CrA _ _).mono ?_;rintro e w' ⟨rfl,rfl⟩)
 exact FR):qP:=h
theorem YQ(a b:Int)(w:World):Cl 193 #[.I a,.I b] w (Bk w (CG a b)):=by
 by_cases h1:a<b
 ·have HF:=Hd (show CG a b=-1 by simp [CG,h1]);exact LW
 by_cases h2:b<a
 ·have HF:=Hd (show CG a b=1 by simp [CG,h1,h2]);exact LW
 ·have HF:=Hd (show CG a b=0 by simp [CG,h1,h2]);exact LW
def orI(a b:Int):Int:=if a≠0 then a else b
theorem Pg(h:qP:=by
 rw [rounds_succ];exact Bf):qP:=h
theorem S2(h:qP:=by
 rw [rounds_succ];go_wp2;exact Pg):qP:=h
theorem FxA(a b:Int)(g c:Nat)(w:World)(h0:w.cell? ⟨g,0,none⟩=some (.I a))(h1:w.cell? ⟨g,1,none⟩=some (.I b)):Cl 192 #[.slice (some ⟨g,0,none⟩) 2 c] w (Bk w (orI a b)):=by
 by_cases ha:a=0
 ·have ha':(a != 0)=false:=(by simp [ha]);by_cases hb:b=0
  ·have hb':(b != 0)=false:=(by simp [hb]);have HF:=Hd (show orI a b=0 by simp [orI,ha,hb]);clear ha hb
   go_enter func192,ntmps192
   go_wp2;refine wp_loop_rounds 3 ?_;rw [rounds_succ];go_wp2;exact S2
  ·have hb':(b != 0)=true:=(by simp [hb]);have HF:=Hd (show orI a b=b by simp [orI,ha]);clear ha hb
   go_enter func192,ntmps192
   go_wp2;refine wp_loop_rounds 2 ?_;exact S2
 ·have ha':(a != 0)=true:=(by simp [ha]);have HF:=Hd (show orI a b=a by simp [orI,ha]);clear ha
  go_enter func192,ntmps192
  go_wp2;refine wp_loop_rounds 1 ?_;exact Pg
theorem GTA(u v:Int):orI (CG (u.tdiv 1000000) (v.tdiv 1000000)) (CG (u.tmod 1000000) (v.tmod 1000000))=CG u v:=by
 obtain ⟨a1,a2,a3,a4,a5⟩:=tdm u 1000000 AB;obtain ⟨b1,b2,b3,b4,b5⟩:=tdm v 1000000 AB;generalize u.tdiv 1000000=x at *;generalize v.tdiv 1000000=y at *;generalize u.tmod 1000000=f at *;generalize v.tmod 1000000=g at *;unfold orI CG;by_cases h1:x<y
 ·rw [if_pos h1,if_pos AB,if_pos AA]
 ·by_cases h2:y<x
  ·rw [if_neg h1,if_pos h2,if_pos AB,if_neg AA,if_pos AA]
  ·rw [if_neg h1,if_neg h2,if_neg AB];by_cases h3:f<g
   ·rw [if_pos h3,if_pos AA]
   ·by_cases h4:g<f
    ·rw [if_neg h3,if_pos h4,if_neg AA,if_pos AA]
    ·rw [if_neg h3,if_neg h4,if_neg AA,if_neg AA]
theorem DS(a b a' b':Int)(w:World)(ht:Tens w):Cl 133 #[.agg #[.I a,.I b],.agg #[.I a',.I b']] w (DG w (CG (mu a b) (mu a' b'))):=by
 have HT:=Hd ht;clear ht
 go_enter func133,ntmps133
 go_wp2_with fail
 refine (KK a b _ (HT.o.ext (exbb w))).mono ?_;rintro e1 w1 ⟨rfl,hx1⟩;have HX1:=Hd ((exbb w).trans hx1);have hb:=(Blk.new (w.alloc (.cells #[.I a,.I b] 25)) 25 #[.I a',.I b']).keep (hx1.kept _);obtain ⟨c0,c1⟩:=hb.qs2;simp at c0 c1;clear hb hx1
 go_wp2_with fail
 refine (KK a' b' _ (HT.o.ext HX1.o)).mono ?_;rintro e1 w2 ⟨rfl,hx2⟩;have HX2:=Hd (HX1.o.trans hx2);have HC:=Hd (GTA (mu a b) (mu a' b'));clear hx2 c0 c1;generalize (mu a b).tdiv 1000000=x at *;generalize (mu a b).tmod 1000000=f at *;generalize (mu a' b').tdiv 1000000=y at *;generalize (mu a' b').tmod 1000000=g at *
 go_wp2_with (first|(go_at_call 193;refine (YQ _ _ _).mono ?_;rintro e w' ⟨rfl,rfl⟩))
 refine (FxA (CG x y) (CG f g) _ _ _ ?_ ?_).mono ?_
 ·simp [go_sem]
 ·simp [go_sem]
 rintro e w' ⟨rfl,rfl⟩;go_wp2;go_ret;exact ⟨by rw [←HC.o];rfl,HX2.o.alloc _⟩


abbrev HmA:Int→Value:=fun n:Int=>Value.int .i64 n

def IsMp(K:Int)(V:Value)(v:Value)(γ:Gh)(w:World):Prop:=∃ (g:Nat) (m:List (Int × Value)),v=.map (some g)∧MapIs w g HmA m∧Dt m K=some V∧Ec γ g
theorem IsMp.stab{K:Int}{V:Value} : ∀ v γ w γ' w',LX (fun _ _=>False) γ w γ' w'→IsMp K V v γ w→IsMp K V v γ' w':=by
 rintro v γ w γ' w' r ⟨g,m,h1,h2,h3,h4⟩;exact ⟨g,m,h1,h2.keep (r.keptS fun b _ e=>⟨by rw [e];exact h4,fun _ h=>h.elim⟩),h3,r.free h2.lt h4⟩

theorem Ns(n s:Int)(w:World):Cl 59 #[.agg #[.I n,.I s]] w (Ae w (Dz n s)):=by
 go_enter func59,ntmps59
 go_wp2
 all_goals
  go_ret;refine ⟨?_,(Ext.refl _).alloc _⟩;simp only [Dz,Fx];simp
  first|done|omega|(rw [Bool.eq_iff_iff];simp;omega)

def XP(l:List BA):Bool:=(List.range l.length).all (Fj l)
theorem WL{l:List BA}{j:Nat}(h:j<l.length)(v:BA):Aw (l.take (j+1)) v=(Aw (l.take j) v||decide (l[j]=v)):=by
 rw [Bool.eq_iff_iff,Bool.or_eq_true,Ao,Ao,List.take_succ_eq_append_getElem h,List.mem_append,decide_eq_true_iff];simp [eq_comm]

theorem WZ(A:OA)(c:Nat)(l:List BA)(w:World)(S:NP)(h:Strs w S A l) :
  Cl 147 #[.slice A l.length c] w (QuietB w (XP l)):=by
 have hn:=h.2.1
 go_enter func147,ntmps147
 go_wp2
 go_loopw [3] (fun i wr=>∃ k:Nat,k≤l.length∧i=.I k∧(∃ n,wr=w.drewN n)∧∀ j (h:j<l.length),j<k→Fj l j=true) (fun i _=>l.length-(intOf i).toNat)
 case atStart=>exact ⟨0,AN,rfl,⟨0,rfl⟩,AK⟩
 case round =>
  obtain ⟨k,hk,rfl,⟨n,rfl⟩,hall⟩:=hrel;have HA:=Hd hall;clear hall;by_cases hlt:k<l.length
  ·obtain ⟨b1,o1,rfl,z1,c1⟩:=h.at_ hlt;have hsz:=h.2.2 l[k] (List.getElem_mem hlt);generalize hf0:Ba l[k]=f0;have HF0:=Hd hf0;clear hf0
   go_wp2_with (go_at_call 79;refine (YP _ hsz _).mono ?_;rintro e w' ⟨rfl,rfl⟩;rw [HF0.o])
   go_loopw [4,5] (fun f i wr=>∃ j:Nat,j≤k∧i=.I j∧f=.bool (f0&&!Aw (l.take j) l[k])∧∃ n,wr=w.drewN n) (fun _ i _=>k-(intOf i).toNat)
   case atStart=>exact ⟨0,AN,rfl,by simp [Aw,Bt],⟨n,rfl⟩⟩
   case round =>
    obtain ⟨j,hj,rfl,rfl,⟨m,rfl⟩⟩:=hrel;generalize hf1:(f0&&!Aw (l.take j) l[k])=f1;have HF1:=Hd hf1;clear hf1;by_cases hjk:j<k
    ·have hjl:j<l.length:=AA;obtain ⟨b2,o2,he2,z2,c2⟩:=h.at_ hjl;injection he2 with he2;injection he2 with he2 he3;subst he2 he3;cases f1
     all_goals
      go_wp2
      go_quiet (fail)
      go_wp2;go_roundw
      case rel =>
       refine ⟨j+1,AA,AE,?_,⟨_,rfl⟩⟩;rw [WL hjl];have:=HF1.o;simp_all [Bj]
      case measure=>simp [intOf];omega
    ·have hjk':j=k:=AA;subst hjk';cases f1
     ·go_wp2;go_ret;refine ⟨?_,m,rfl⟩;have hr:XP l=false:=Hz hlt (by rw [Fj,BM _ _ _ hlt,HF0.o];exact HF1.o);rw [hr];rfl
     ·go_wp2;go_roundw
      case rel =>
       refine ⟨j+1,AA,AE,⟨_,rfl⟩,fun i h hi => ?_⟩;by_cases hij:i=j
       ·subst hij;rw [Fj,BM _ _ _ hlt,HF0.o];exact HF1.o
       ·exact HA.o i h AA
      case measure=>simp [intOf];omega
  ·go_wp2;go_ret;refine ⟨?_,n,rfl⟩;have hr:XP l=true:=WO fun j hj=>HA.o j hj AA;rw [hr];rfl

theorem DAA(n:Nat)(hn:n≤20)(w:World):Cl 252 #[.I (n:Int)] w (Ng w (10^n)):=by
 go_enter func252,ntmps252
 go_wp2_with fail
 refine (Hj 1 AA _).mono ?_;rintro e1 w1 ⟨r1,rfl,g1,g2,g3,g4⟩;have H1:=Hd (show isN r1 (10^0) from ⟨g1,g2,g3⟩);have HX1:=Hd g4;clear g1 g2 g3 g4;go_wp2
 go_loopw [3,4] (fun o i wr=>∃ (k:Nat) (r:BA),k≤n∧isN r (10^k)∧o=.string r∧i=.I (k:Int)∧Ext w wr) (fun _ i _=>n-(intOf i).toNat)
 case atStart=>exact ⟨0,r1,AN,H1.o,rfl,rfl,HX1.o⟩
 case round =>
  obtain ⟨k,r,hk,hr,rfl,rfl,hx⟩:=hrel;have HR:=Hd hr;have HX:=Hd hx;clear hr hx;by_cases hlt:k<n
  ·go_wp2_with fail
   refine (Hj 10 AA _).mono ?_;rintro e2 w2 ⟨t,rfl,g1,g2,g3,g4⟩;have HT:=Hd (show isN t 10 from ⟨g1,g2,g3⟩);have HX2:=Hd (HX.o.trans g4);clear g1 g2 g3 g4
   go_wp2_with fail
   have hp20:AO r<256^60:=by
    rw [HR.o.1];exact Nat.lt_of_le_of_lt (Nat.pow_le_pow_right AB (show k≤20 by omega)) AB
   refine (CMA r t HR.o.2.2 HT.o.2.2 hp20 (by rw [HT.o.1];decide) _).mono ?_;rintro e3 w3 ⟨s,rfl,g1,g2,g3,g4⟩;have HS:=Hd (show isN s (10^(k+1)) from ⟨by rw [g1,HR.o.1,HT.o.1,Nat.pow_succ],g2,g3⟩);have HX3:=Hd (HX2.o.trans g4);clear g1 g2 g3 g4 hp20;go_wp2;go_roundw
   case rel=>exact ⟨k+1,s,AA,HS.o,rfl,AE,HX3.o⟩
   case measure=>simp [intOf];omega
  ·obtain rfl:k=n:=AA;go_wp2;go_ret;exact ⟨r,rfl,HR.o.1,HR.o.2.1,HR.o.2.2,HX.o⟩

def EfA(w:World)(neg:Bool)(n s:Nat)(e:Ending)(w':World):Prop:=∃ r,e=.returned (.agg #[.bool neg,.string r,.I (s:Int)])∧isN r n∧Ext w w'
theorem Lo(h:qP:=by
 have hk:=hR.o.kept0 (S:=fun b=>b=g1) (fun b hb m hm=>hne (hb.symm.trans hm.2));have k1:=HC1.o.keep hk;obtain ⟨k10,k11⟩:=k1.qs2;clear hk k1;exact Qk):qP:=h
theorem Ss(h:qP:=by
 rintro e1 w3 ⟨r,he,h1,h2,h3,hx⟩;exact ⟨_,he,γ,IDA _ γ hx,fun _ _ _ h=>h,r,rfl,h1,h2,h3⟩):qP:=h
theorem Im(h:qP:=by rw [hw0];exact (Blk.new _ _ _).keep (Kept.alloc _ _ _)):qP:=h
theorem Bh(h:qP:=by rw [hw0];exact (exaa w).alloc _):qP:=h
theorem IZ(h:qP:=by rw [hm.2];exact HGW):qP:=h
theorem CQA(n s:Int)(w:World):Cl 174 #[.agg #[.I n,.I s]] w (EfA w (decide ((Bg n s).1<0)) (Bg n s).1.natAbs (Bg n s).2.toNat):=by
 have hvd:=GX n s;obtain ⟨w0,hw0⟩:=eqx ((w.alloc (.cells #[.I n,.I s] 25)).alloc (.cells #[.bool false,.string ⟨#[]⟩,.I 0] 168));have hb1:Blk w0 w.heap.size 25 #[.I n,.I s]:=Im;have hb2:Blk w0 (w.heap.size+1) 168 #[.bool false,.string ⟨#[]⟩,.I 0]:=by
  rw [hw0];have:=Blk.new (w.alloc (.cells #[.I n,.I s] 25)) 168 #[.bool false,.string ⟨#[]⟩,.I 0]
  simpa using this
 have hx0:Ext w w0:=Bh;obtain ⟨g1,hg1⟩:=eqx w.heap.size;obtain ⟨g2,hg2⟩:=eqx (w.heap.size+1);have hne:g1≠g2:=AA;obtain ⟨HW0,HG1,HG2⟩:=Hd3 hw0 hg1 hg2;have HGW:w.heap.size≤g2:=AA;rw [←hg1] at hb1;rw [←hg2] at hb2;obtain ⟨HB1,HB2,HX0,HVD⟩:=Hd4 hb1 hb2 hx0 hvd;clear hb1 hb2 hx0 hw0 hg1 hg2 hvd
 go_enter func174,ntmps174
 go_wp2_with fail
 rw [←HW0.o];refine (Ns n s w0).mono ?_;rintro e1 w1 ⟨rfl,hx1⟩;obtain ⟨HX1,HC1,HC2⟩:=Hd3 (HX0.o.trans hx1) (HB1.o.keep (hx1.kept _)) (HB2.o.keep (hx1.kept _));rw [←HG2.o,←HG1.o];clear hx1 HB1 HB2 HX0 HW0;cases hd:Dz n s
 ·have HF:=Hd (show Bg n s=(0,0) by unfold Bg;rw [hd];rfl);obtain ⟨c0,c1,c2⟩:=HC2.o.qs3;have cf:=HC2.o.frozen;have cl:=HC2.o.lt;have hz:=((HC2.o.set 0 (.bool false)).set 1 (.string ⟨#[]⟩)).set 2 (.I 0);obtain ⟨d0,d1,d2⟩:=hz.qs3;clear hd hz;go_wp2;refine bodyPost_ret (v:=.agg #[.bool false,.string ⟨#[]⟩,.I 0]) (by simp [results,results174,go_sem,d0,d1,d2]) rfl ⟨⟨#[]⟩,BB,by rw [HF.o];exact ⟨rfl,by simp [V7],AB⟩,?_⟩;exact ((HX1.o.set2 HGW _).set2 HGW _).set2 HGW _
 ·have HF:=Hd (show Bg n s=(n,s) by unfold Bg;rw [hd];rfl);have hr:=HVD.o;rw [HF.o] at hr;have hr1:-72057594037927936≤n:=(by have:=hr.2.2.1;simp at this;omega);have hr2:n≤72057594037927936:=(by have:=hr.2.2.2;simp at this;omega);have hs0:0≤s:=hr.1;obtain ⟨lt,hlt⟩:∃ lt:Bool,lt=decide (n<0):=⟨_,rfl⟩;have HLT:=Hd hlt;clear hd hr hlt
  go_upto_region 4 with fail
  refine Qb (fun i=>[i]) (fun m b=>m=1009∧b=g2) [(9,[1009])] ?_;refine Qp ?_;refine Qm (fun vals γ w' ρ hR hN hp hρ zs zg=>by
   exact Lo) ?_
  iterate 2 refine Qp ?_
  refine Qm (fun vals γ w' ρ hR hN hp hρ zs zg=>by
   exact Lo) ?_
  refine Qs (FP fun v γ w'=>∃ r,v=.string r∧isN r n.natAbs) (H1A ?_) ?_ ?_
  ·intro v γ w1 γ' w2 r h;exact h
  ·intro vals γ w' ρ hR hN hp hρ zs zg;have HR:=hR;refine Qr ?_;refine (Nt n hr1 hr2 w').mono ?_;exact Ss
  refine Qp ?_;refine Qm (fun vals γ w' ρ hR hN hp hρ zs zg=>by
   exact Lo) ?_
  refine Qs (FP fun v γ w'=>∃ r,v=.agg #[.bool lt,.string r,.I s]∧isN r n.natAbs) (H1A ?_) ?_ ?_
  ·intro v γ w1 γ' w2 r h;exact h
  ·intro vals γ w' ρ hR hN hp hρ zs zg;obtain ⟨r5,hv5,hn5⟩:=hp.o 5 AB;have e14:=(hρ.o 14).trans hv5;have HN5:=Hd hn5;clear hn5;refine Qr ?_;exact ⟨γ,LX.refl _ _ _,fun _ _ _ h=>h,r5,by rw [HLT.o];rfl,HN5.o⟩
  refine Qs (fun _ γ w'=>∃ r,(Blk w' g2 168 #[.bool lt,.string r,.I s]∧γ 1009=some none∧Ec γ g2)∧isN r n.natAbs) ?_ ?_ ?_
  ·intro l γ w1 γ' w2 rr h;obtain ⟨r,⟨h1,h2,h3⟩,hn8⟩:=h;exact ⟨r,⟨h1.keep (rr.keptS fun b _ e=>⟨by rw [e];exact h3,fun m hm=>by rw [hm.1,h2,rr.done _ h2]⟩),rr.done _ h2,rr.free h1.lt h3⟩,hn8⟩
  ·intro vals γ w' ρ hR hN hp hρ zs zg;obtain ⟨r,hv8,hn8⟩:=hp.o 8 AB;have e17:=(hρ.o 17).trans hv8;have HN8:=Hd hn8;have HR:=hR;have hk0:=hR.o.key0 hN.o (k:=1009) AB AB;have HK:=Hd hk0;have hb0:=HC2.o.keep ((Kept.drew _ _).trans (hR.o.keptS (S:=fun b=>b=g2) fun b _ e=>⟨Nu b,fun m hm=>CF⟩));have HB0:=Hd hb0;obtain ⟨q0,q1,q2⟩:=hb0.qs3;have qf:=hb0.frozen;have ql:=hb0.lt;clear hk0 hb0;refine Qr ?_;refine ⟨γ.put 1009 none,ILA HK.o rfl rfl rfl Y78171d3d0 (fun b hb hm=>(((((Only.refl g2 w').set 0 (.bool lt)).set 1 (.string r)).set 2 (.I s))).block b fun e=>hm ⟨rfl,e⟩),LM.done AB (.inr AB),?_⟩;have hb1:=HB0.o;exact ⟨r,⟨by simpa using (((hb1.set 0 (.bool lt)).set 1 (.string r)).set 2 (.I s)),rfl,fun ⟨k',hk'⟩=>by unfold Gh.put at hk';split at hk';(cases hk');exact absurd (HR.o.old k' _ hk' (by have:=HC2.o.lt;exact this)) (by simp [gh0])⟩,hn8⟩
  intro vals γ w9 hR hG;obtain ⟨q5,v5,-⟩:=hG 5 AB;obtain ⟨q8,v8,-⟩:=hG 8 AB;refine Qx ?_;simp only [v5,v8];clear v5 v8;obtain ⟨r,⟨hb9,-,-⟩,hn9⟩:=hG 9 AB;obtain ⟨c0,c1,c2⟩:=hb9.qs3;have cl:=hb9.lt;have HX9:=Hd (hR.extB HX1.o fun m b hm=>IZ);have HN9:=Hd hn9;clear hb9 hn9 hR hG;go_wp2;refine bodyPost_ret (v:=.agg #[.bool lt,.string r,.I s]) (by simp [results,results174,go_sem,c0,c1,c2]) rfl ⟨r,by rw [HF.o];simp [Int.toNat_of_nonneg hs0,HLT.o],by rw [HF.o];exact HN9.o,HX9.o⟩

theorem LT(h:qP:=by
 have hk:=hR.o.kept0 (S:=fun b=>b=g1) (fun b hb m hm=>hne (hb.symm.trans hm.2));have k1:=HC1.o.keep hk;obtain ⟨k10,k11,k12⟩:=k1.qs3;clear hk k1;exact Qk):qP:=h
theorem Kl(h:qP:=by
 intro l γ w1 γ' w2 rr h;obtain ⟨r,⟨h1,h2,h3⟩,hnr⟩:=h;exact ⟨r,⟨h1.keep (rr.keptS fun b _ e=>⟨by rw [e];exact h3,fun m hm=>by rw [hm.1,h2,rr.done _ h2]⟩),rr.done _ h2,rr.free h1.lt h3⟩,hnr⟩):qP:=h
theorem WM(neg:Bool)(N:BA)(s k:Nat)(h32:N.size≤4294967296)(hN:AO N<256^50)(hsk:s≤k)(hk:k≤6)(w:World) :
  Cl 218 #[.agg #[.bool neg,.string N,.I (s:Int)],.I (k:Int)] w (EfA w neg (AO N*10^(k-s)) k):=by
 obtain ⟨w0,hw0⟩:=eqx ((w.alloc (.cells #[.bool neg,.string N,.I (s:Int)] 168)).alloc (.cells #[.bool false,.string ⟨#[]⟩,.I 0] 168));have hb1:Blk w0 w.heap.size 168 #[.bool neg,.string N,.I (s:Int)]:=Im;have hb2:Blk w0 (w.heap.size+1) 168 #[.bool false,.string ⟨#[]⟩,.I 0]:=by
  rw [hw0];have:=Blk.new (w.alloc (.cells #[.bool neg,.string N,.I (s:Int)] 168)) 168 #[.bool false,.string ⟨#[]⟩,.I 0]
  simpa using this
 have hx0:Ext w w0:=Bh;obtain ⟨g1,hg1⟩:=eqx w.heap.size;obtain ⟨g2,hg2⟩:=eqx (w.heap.size+1);have hne:g1≠g2:=AA;obtain ⟨HW0,HG1,HG2⟩:=Hd3 hw0 hg1 hg2;have HGW:w.heap.size≤g2:=AA;rw [←hg1] at hb1;rw [←hg2] at hb2;obtain ⟨HC1,HC2,HX0⟩:=Hd3 hb1 hb2 hx0;obtain ⟨dd,hdd⟩:=eqx (k-s);have HD:=Hd (show IntKind.i64.wrap ((k:Int)-(s:Int))=(dd:Int) by rw [show (k:Int)-(s:Int)=(dd:Int) by omega];exact IntWalk.i64_in _ AA);have hd6:dd≤6:=AA;rw [←hdd];clear hb1 hb2 hx0 hw0 hg1 hg2 hdd
 go_enter func218,ntmps218
 go_upto_region 1 with fail
 rw [←HW0.o,←HG2.o,←HG1.o];refine Qb (fun i=>[i]) (fun m b=>m=1012∧b=g2) [(12,[1012])] ?_;refine Qp ?_;refine Qm (fun vals γ w' ρ hR hN hp hρ zs zg=>by
  exact LT) ?_
 refine Qp ?_;refine Qm (fun vals γ w' ρ hR hN hp hρ zs zg=>by
  exact LT) ?_
 iterate 2 refine Qp ?_
 refine Qm (fun vals γ w' ρ hR hN hp hρ zs zg=>by
  exact LT) ?_
 refine Qm (fun vals γ w' ρ hR hN hp hρ zs zg=>by
  have hd:=HD.o;exact Qk) ?_
 refine Qs (FP fun v γ w'=>∃ r,v=.string r∧isN r (10^dd)) (H1A ?_) ?_ ?_
 ·intro v γ w1 γ' w2 r h;exact h
 ·intro vals γ w' ρ hR hN hp hρ zs zg;have HR:=hR;refine Qr ?_;refine (DAA dd AA w').mono ?_;exact Ss
 refine Qs (FP fun v γ w'=>∃ r,v=.string r∧isN r (AO N*10^dd)) (H1A ?_) ?_ ?_
 ·intro v γ w1 γ' w2 r h;exact h
 ·intro vals γ w' ρ hR hN hp hρ zs zg;obtain ⟨r8,hv8,hn8⟩:=hp.o 8 AB;have e13:=(hρ.o 13).trans hv8;have HR:=hR;have HN8:=Hd hn8;clear hn8 hN;refine Qr ?_;refine (CMA N r8 h32 HN8.o.2.2 (Nat.lt_trans hN (Nat.pow_lt_pow_right AB AB)) (by rw [HN8.o.1];exact Nat.lt_of_le_of_lt (Nat.pow_le_pow_right AB hd6) AB) w').mono ?_;rintro e1 w3 ⟨r,he,h1,h2,h3,hx⟩;exact ⟨_,he,γ,IDA _ γ hx,fun _ _ _ h=>h,r,rfl,by rw [h1,HN8.o.1],h2,h3⟩
 refine Qp ?_;refine Qs (FP fun v γ w'=>∃ r,v=.agg #[.bool neg,.string r,.I (k:Int)]∧isN r (AO N*10^dd)) (H1A ?_) ?_ ?_
 ·intro v γ w1 γ' w2 r h;exact h
 ·intro vals γ w' ρ hR hN hp hρ zs zg;obtain ⟨r9,hv9,hn9⟩:=hp.o 9 AB;have e14:=(hρ.o 14).trans hv9;have HN9:=Hd hn9;clear hn9;refine Qr ?_;exact ⟨γ,LX.refl _ _ _,fun _ _ _ h=>h,r9,rfl,HN9.o⟩
 refine Qs (fun _ γ w'=>∃ r,(Blk w' g2 168 #[.bool neg,.string r,.I (k:Int)]∧γ 1012=some none∧Ec γ g2)∧isN r (AO N*10^dd)) ?_ ?_ ?_
 ·exact Kl
 ·intro vals γ w' ρ hR hN hp hρ zs zg;obtain ⟨r,hv11,hn11⟩:=hp.o 11 AB;have e16:=(hρ.o 16).trans hv11;have HN11:=Hd hn11;clear hn11;have HR:=hR;have hk0:=hR.o.key0 hN.o (k:=1012) AB AB;have HK:=Hd hk0;have hb0:=HC2.o.keep ((Kept.drew _ _).trans (hR.o.keptS (S:=fun b=>b=g2) fun b _ e=>⟨Nu b,fun m hm=>CF⟩));have HB0:=Hd hb0;obtain ⟨q0,q1,q2⟩:=hb0.qs3;have qf:=hb0.frozen;have ql:=hb0.lt;clear hk0 hb0;refine Qr ?_;refine ⟨γ.put 1012 none,ILA HK.o rfl rfl rfl Y78171d3d0 (fun b hb hm=>(((((Only.refl g2 w').set 0 (.bool neg)).set 1 (.string r)).set 2 (.I (k:Int)))).block b fun e=>hm ⟨rfl,e⟩),LM.done AB (.inr AB),?_⟩;have hb1:=HB0.o;exact ⟨r,⟨by simpa using (((hb1.set 0 (.bool neg)).set 1 (.string r)).set 2 (.I (k:Int))),rfl,fun ⟨k',hk'⟩=>by unfold Gh.put at hk';split at hk';(cases hk');exact absurd (HR.o.old k' _ hk' (by have:=HC2.o.lt;exact this)) (by simp [gh0])⟩,HN11.o⟩
 intro vals γ w9 hR hG;obtain ⟨q8,v8,-⟩:=hG 8 AB;obtain ⟨q9,v9,-⟩:=hG 9 AB;obtain ⟨q11,v11,-⟩:=hG 11 AB;refine Qx ?_;simp only [v8,v9,v11];clear v8 v9 v11;obtain ⟨r,⟨hb9,-,-⟩,hn9⟩:=hG 12 AB;obtain ⟨c0,c1,c2⟩:=hb9.qs3;have cl:=hb9.lt;have HX9:=Hd (hR.extB HX0.o fun m b hm=>IZ);have HN9:=Hd hn9;clear hb9 hn9 hR hG;go_wp2;refine bodyPost_ret (v:=.agg #[.bool neg,.string r,.I (k:Int)]) (by simp [results,results218,go_sem,c0,c1,c2]) rfl ⟨r,rfl,HN9.o,HX9.o⟩
end Go.Proofs.YtidacnalcdhckaaGreatDoor
