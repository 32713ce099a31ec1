/- Lemmas. No conditions. -/
import Derived.Test.YtidacnalcdhckaaGreatDoorOq19
import Derived.Sort.Walk0
import Derived.OwnWalkIn
import Derived.OrdersIn
import Derived.RangeFuncCalls
set_option maxRecDepth 100000
set_option maxHeartbeats 4000000
namespace Go.Proofs.YtidacnalcdhckaaGreatDoor
open Go Go.RowKit Tryz
variable {qP:Prop}

theorem GF:∀ (l m:List UInt8) (n:Nat),n≤l.length→n≤m.length→(∀ j,j<n→l[j]?=m[j]?)→(n=l.length∨n=m.length∨l[n]?≠m[n]?)→ES l m=l.take n
 |[],m,n,h1,_,_,_=>by simp [ES]
 |x::l,[],n,_,h2,_,_=>by
  have:n=0:=Dj;subst this;simp [ES]
 |x::l,y::m,0,_,_,_,h4=>by
  unfold ES;rw [if_neg]
  ·rfl
  ·rintro rfl;simp at h4
 |x::l,y::m,n+1,h1,h2,h3,h4=>by
  have hxy:x=y:=(by simpa using h3 0 AA);unfold ES;rw [if_pos hxy,List.take_succ_cons,GF l m n CE Dj (fun j hj=>by simpa using h3 (j+1) AA) (by simpa using h4)]
theorem Nj{s:BA}{j:Nat}(h:j<s.size):s.data.toList[j]?=some s[j]:=by
 rw [List.getElem?_eq_getElem (show j<s.data.toList.length from h)];rfl
theorem Mt(x y:UInt8):((x.toNat:Int)==(y.toNat:Int))=decide (x=y):=by
 rw [Bool.eq_iff_iff,beq_iff_eq,decide_eq_true_eq];constructor
 ·intro h;exact UInt8.toNat_inj.1 AA
 ·rintro rfl;rfl
theorem F8(s:BA)(n:Nat):s.extract 0 n=bA (s.data.toList.take n):=by
 rw [←He (s.extract 0 n)];congr 1;rw [ByteArray.data_extract,Array.toList_extract,List.extract_eq_take_drop,List.drop_zero,Nat.sub_zero]
theorem Et(s:BA)(n:Nat):s.extract n s.size=bA (s.data.toList.drop n):=by
 rw [←He (s.extract n s.size)];congr 1;rw [ByteArray.data_extract,Array.toList_extract,List.extract_eq_take_drop,List.take_of_length_le];rw [List.length_drop];exact Al
def Wo(w:World)(s:BA)(e:Ending)(w':World):Prop:=e=.returned (.string s)∧Ext w w'
theorem FX(h:qP:=by
 go_wp2
 go_quiet (fail)
 go_wp2;go_ret;exact ⟨by rw [←HF.o];rfl,by rw [HWR.o];exact ((Ext.refl w).drewN _).drewN _⟩):qP:=h
theorem Y7(h:qP:=by
 refine ⟨⟨k+1,by omega,by omega,by go_num,fun j hj => ?_⟩,_,by rw [HWR.o];exact World.drewN_drewN _ _ _⟩;by_cases hjk:j=k
 ·subst hjk;exact HE.o
 ·exact HA.o j (by omega)):qP:=h
theorem Un(h:qP:=by
 go_wp2
 go_quiet (fail)
 go_wp2;go_roundw
 case rel =>
  exact Y7
 case measure=>simp [intOf];omega):qP:=h
theorem Zd(a b:BA)(ha:a.size≤4294967296)(_hb:b.size≤4294967296)(w:World):Cl 116 #[.string a,.string b] w (Wo w (bA (ES a.data.toList b.data.toList))):=by
 go_enter func116,ntmps116
 go_wp2
 go_loopw [5] (fun i wr=>(∃ k:Nat,k≤a.size∧k≤b.size∧i=.I k∧∀ j,j<k→a.data.toList[j]?=b.data.toList[j]?)∧∃ n,wr=w.drewN n) (fun i _=>a.size-(intOf i).toNat)
 case atStart=>exact ⟨⟨0,AN,AN,rfl,AK⟩,0,rfl⟩
 case round =>
  obtain ⟨⟨k,hka,hkb,rfl,hall⟩,n,rfl⟩:=hrel;have HA:=Hd hall;clear hall;obtain ⟨wr,hwr⟩:=eqx (w.drewN n);rw [←hwr];have HWR:=Hd hwr;clear hwr;by_cases h1:k<a.size
  ·by_cases h2:k<b.size
   ·cases hc:((a[k].toNat:Int)==(b[k].toNat:Int))
    ·have HF:=Hd (show a.extract 0 k=bA (ES a.data.toList b.data.toList) by
      rw [F8,GF _ _ k hka hkb HA.o (.inr (.inr (by rw [Nj h1,Nj h2];intro e;injection e with e;rw [Mt,e] at hc;simp at hc)))])
     exact FX
    ·have HE:=Hd (show a.data.toList[k]?=b.data.toList[k]? by rw [Nj h1,Nj h2];rw [Mt,decide_eq_true_eq] at hc;rw [hc]);exact Un
   ·have HF:=Hd (show a.extract 0 k=bA (ES a.data.toList b.data.toList) by
     rw [F8,GF _ _ k hka hkb HA.o (.inr (.inl (by show k=b.size;omega)))])
    exact FX
  ·have HF:=Hd (show a.extract 0 k=bA (ES a.data.toList b.data.toList) by
    rw [F8,GF _ _ k hka hkb HA.o (.inl (by show k=a.size;omega))])
   exact FX
theorem J6(l m:List UInt8)(n:Nat)(h1:n≤l.length)(h2:n≤m.length)(h3:∀ j,j<n→l.reverse[j]?=m.reverse[j]?)(h4:n=l.length∨n=m.length∨l.reverse[n]?≠m.reverse[n]?):Hv l m=l.drop (l.length-n):=by
 unfold Hv;rw [GF l.reverse m.reverse n CE Dj h3 (by simpa using h4),List.take_reverse,List.reverse_reverse]
theorem O7{s:BA}{j u:Nat}(hu:u+j+1=s.size):s.data.toList.reverse[j]?=some (s[u]'AA):=by
 have hl:s.data.toList.length=s.size:=rfl;rw [List.getElem?_reverse AA,hl,show s.size-1-j=u by omega];exact Nj AA
theorem ArA(a b:BA)(ha:a.size≤4294967296)(hb:b.size≤4294967296)(w:World):Cl 117 #[.string a,.string b] w (Wo w (bA (Hv a.data.toList b.data.toList))):=by
 go_enter func117,ntmps117
 go_wp2
 go_loopw [5] (fun i wr=>(∃ k:Nat,k≤a.size∧k≤b.size∧i=.I k∧∀ j,j<k→a.data.toList.reverse[j]?=b.data.toList.reverse[j]?)∧∃ n,wr=w.drewN n) (fun i _=>a.size-(intOf i).toNat)
 case atStart=>exact ⟨⟨0,AN,AN,rfl,AK⟩,0,rfl⟩
 case round =>
  obtain ⟨⟨k,hka,hkb,rfl,hall⟩,n,rfl⟩:=hrel;have HA:=Hd hall;clear hall;obtain ⟨wr,hwr⟩:=eqx (w.drewN n);rw [←hwr];have HWR:=Hd hwr;clear hwr;obtain ⟨d,hd⟩:=eqx (a.size-k);have HD:=Hd hd;have hd1:(a.size:Int)-(k:Int)=(d:Int):=AA;have hd2:d≤a.size:=AA;clear hd;by_cases h1:k<a.size
  ·by_cases h2:k<b.size
   ·obtain ⟨u,hu⟩:∃ u,u+k+1=a.size:=⟨a.size-k-1,AA⟩;obtain ⟨v,hv⟩:∃ v,v+k+1=b.size:=⟨b.size-k-1,AA⟩;have hua:u<a.size:=AA;have hvb:v<b.size:=AA;have e1:IntKind.i64.wrap (IntKind.i64.wrap ((a.size:Int)-1)-(k:Int))=(u:Int):=by
     rw [show IntKind.i64.wrap ((a.size:Int)-1)=(a.size:Int)-1 by rcases Hc ((a.size:Int)-1) with h|h<;>have:=Hh ((a.size:Int)-1)<;>unfold Er at this<;>omega]
     rcases Hc ((a.size:Int)-1-(k:Int)) with h|h<;>have:=Hh ((a.size:Int)-1-(k:Int))<;>unfold Er at this<;>omega
    have e2:IntKind.i64.wrap (IntKind.i64.wrap ((b.size:Int)-1)-(k:Int))=(v:Int):=by
     rw [show IntKind.i64.wrap ((b.size:Int)-1)=(b.size:Int)-1 by rcases Hc ((b.size:Int)-1) with h|h<;>have:=Hh ((b.size:Int)-1)<;>unfold Er at this<;>omega]
     rcases Hc ((b.size:Int)-1-(k:Int)) with h|h<;>have:=Hh ((b.size:Int)-1-(k:Int))<;>unfold Er at this<;>omega
    have HU:=Hd hu;have HV:=Hd hv;clear hu hv;cases hc:((a[u].toNat:Int)==(b[v].toNat:Int))
    ·have HF:=Hd (show a.extract d a.size=bA (Hv a.data.toList b.data.toList) by
      rw [Et,J6 _ _ k hka hkb HA.o (.inr (.inr (by rw [O7 HU.o,O7 HV.o];intro e;injection e with e;rw [Mt,e] at hc;simp at hc))),HD.o];rfl)
     exact FX
    ·have HE:=Hd (show a.data.toList.reverse[k]?=b.data.toList.reverse[k]? by rw [O7 HU.o,O7 HV.o];rw [Mt,decide_eq_true_eq] at hc;rw [hc]);exact Un
   ·have HF:=Hd (show a.extract d a.size=bA (Hv a.data.toList b.data.toList) by
     rw [Et,J6 _ _ k hka hkb HA.o (.inr (.inl (by show k=b.size;omega))),HD.o];rfl)
    exact FX
  ·have HF:=Hd (show a.extract d a.size=bA (Hv a.data.toList b.data.toList) by
    rw [Et,J6 _ _ k hka hkb HA.o (.inl (by show k=a.size;omega)),HD.o];rfl)
   exact FX

theorem DfA(m:Nat)(h:m≤6):IntKind.i64.wrap (2^m)=((2^m:Nat):Int):=by
 match m,h with
 |0,_=>decide
 |1,_=>decide
 |2,_=>decide
 |3,_=>decide
 |4,_=>decide
 |5,_=>decide
 |6,_=>decide
theorem E5A(x:Int)(m:Nat)(h:m≤6):(bits .and .i64 x (IntKind.i64.wrap (2^m)) != 0)=bt x m:=by
 rw [DfA m h,Bool.eq_iff_iff,bne_iff_ne,ne_eq,M0 (CJ _ _ _)];constructor
 ·intro hn;refine Classical.byContradiction fun hb=>hn fun i hi => ?_;rw [CN,Js _ _ AA];by_cases e:i=m
  ·subst e;cases hbt:bt x i
   ·rfl
   ·exact absurd hbt hb
  ·exact MI
 ·intro hb hn;have h1:=hn m AA;exact QG
theorem DNA(l m:List UInt8):bA l++bA m=bA (l++m):=by
 have h:(bA l++bA m).data.toList=l++m:=(by simp [bA]);rw [←He (bA l++bA m),h]
def FAA(f:Int):BA:=bA [UInt8.ofNat f.toNat]
def G5A(w:World)(o:Option (List UInt8))(e:Ending)(w':World):Prop:=e=.returned (.tuple #[.string (bA (o.getD [])),.bool o.isSome])∧Ext w w'
theorem UY(h:qP:=by
 go_wp2;go_ret2;refine ⟨by rw [HF.o];rfl,(Ext.refl w).alloc _⟩):qP:=h
theorem DMA(a:Sh)(n:Nat)(ha:a.b.size≤4294967296)(he:a.e.size≤4294967296)(hn:n≤200)(w:World):Cl 149 #[(Sq a),.I (n:Int)] w (G5A w (Fn a n)):=by
 obtain ⟨w0,hw0⟩:=eqx (w.alloc (.cells (Sp a) 32));have hx0:Ext w w0:=BS;obtain ⟨g,hg⟩:=eqx w.heap.size;have hbk:Blk w0 g 32 (Sp a):=EL;obtain ⟨k0,k1,k2,k3,k4⟩:=hbk.qs5;obtain ⟨HX0,HW0,HG⟩:=Hd3 hx0 hw0 hg;clear hx0 hbk hw0 hg
 go_enter func149,ntmps149
 by_cases h1:n<a.b.size
 ·have HF:=Hd (show Fn a n=none by unfold Fn;rw [if_pos (.inl h1)]);exact UY
 by_cases h2:n<a.e.size
 ·have HF:=Hd (show Fn a n=none by unfold Fn;rw [if_pos (.inr h2)]);exact UY
 obtain ⟨nb,hnb⟩:=eqx a.b.size;obtain ⟨ne,hne⟩:=eqx a.e.size;have HNB:=Hd hnb;have HNE:=Hd hne;clear hnb hne;go_wp2;rw [←HW0.o,←HG.o]
 go_loopw [6,7] (fun f i wr=>(∃ (k:Nat) (v:Int),k≤95∧i=.I ((k:Int)+31)∧f=.string (FAA v)∧Hu a.cls k v=Hu a.cls 95 32)∧Ext w0 wr) (fun _ i _=>(intOf i).toNat)
 case atStart=>exact ⟨⟨95,32,AA,rfl,rfl,rfl⟩,Ext.refl _⟩
 case round =>
  obtain ⟨⟨k,v,hk,rfl,rfl,hfl⟩,hx⟩:=hrel;obtain ⟨HFL,HX,c0,c1,c2,c3,c4⟩:=Hd7 hfl hx (hx.cell k0) (hx.cell k1) (hx.cell k2) (hx.cell k3) (hx.cell k4);clear hfl hx;by_cases hk0:k=0
  ·subst hk0;have hlt:¬(32:Int)≤((0:Nat):Int)+31:=AA;have HV:=Hd (show v=Hu a.cls 95 32 from HFL.o);have d0:=c0.o;have d1:=c1.o;have d2:=c2.o;have d3:=c3.o;have d4:=c4.o;have hS:=Hd (show FAA v=bA [JQ a] from by rw [HV.o];rfl);have hsv:(FAA v).size=1:=rfl;generalize FAA v=sv at *;obtain ⟨wz,hwz⟩:=eqx wr;rw [←hwz] at HX d0 d1 d2 d3 d4 c0 c1 c2 c3 c4⊢;have HWZ:=Hd hwz;clear hwz HFL HV;have hle:nb+ne≤9000000000:=(by rw [HNB.o,HNE.o];omega);have HI0:=Hd (show a.b=bA (a.B++List.replicate 0 (JQ a)) by rw [List.replicate_zero,List.append_nil,GqA]);go_wp2
   go_loopw [8] (fun s wr2=>(∃ (j:Nat) (z:BA),s=.string z∧z=bA (a.B++List.replicate j (JQ a))∧j≤n-ne-nb)∧wr2=wz) (fun s _=>n-(match s with|.string z=>z.size|_=>0))
   case atStart=>exact ⟨⟨0,_,rfl,HI0.o,AN⟩,rfl⟩
   case round =>
    obtain ⟨⟨j,z,rfl,hz,hj⟩,rfl⟩:=hrel;have hzs:z.size=nb+j:=by
     rw [hz,EH,List.length_append,List.length_replicate,G6,HNB.o]
    have HZ:=Hd hz;clear hz;have hnb1:a.b.size=nb:=HNB.o.symm;have hne1:a.e.size=ne:=HNE.o.symm;by_cases hlt:nb+j+ne<n
    ·have hcond:(z.size:Int)+(a.e.size:Int)<(n:Int):=(by rw [hzs,hne1];omega);have HZN:=Hd (show z++sv=bA (a.B++List.replicate (j+1) (JQ a)) by rw [HZ.o,hS.o,DNA,List.append_assoc,List.replicate_succ']);have hz9:z.size≤9000000000:=AA;clear hnb1 hne1;go_wp2;go_roundw
     case rel=>exact ⟨⟨j+1,_,rfl,HZN.o,AA⟩,trivial⟩
     case measure =>
      show n-(z++sv).size<n-z.size;have:(z++sv).size=z.size+1:=(by rw [HZN.o,EH,HZ.o,EH];simp only [List.length_append,List.length_replicate];omega);omega
    ·have hcond:¬(z.size:Int)+(a.e.size:Int)<(n:Int):=(by rw [hzs,hne1];omega);obtain ⟨q,hq⟩:=eqx (nb+j+ne-n);obtain ⟨p,hp⟩:=eqx (n-ne);have hz9:z.size≤9000000000:=AA;have hq1:(z.size:Int)+(a.e.size:Int)-(n:Int)=(q:Int):=(by rw [hzs,hne1];omega);have hq2:q≤z.size:=AA;have hq3:q≤a.e.size:=AA;have hp1:IntKind.i64.wrap ((z.size:Int)-(q:Int))=(p:Int):=by
      rw [hzs]
      rcases Hc (((nb+j:Nat):Int)-(q:Int)) with h|h<;>have:=Hh (((nb+j:Nat):Int)-(q:Int))<;>unfold Er at this<;>omega
     have hp2:p≤z.size:=AA;have HZS:=Hd hzs;obtain ⟨tl,htl⟩:=eqx (a.e.extract q a.e.size);have hcmp:((z.extract p z.size).toList==(a.e.extract 0 q).toList)=decide (z.data.toList.drop p=a.E.take q):=CJA hq3;have HSR:=Hd (show Fn a n=if z.data.toList.drop p=a.E.take q then some (z.data.toList++a.E.drop q) else none from by
      unfold Fn;rw [if_neg (by rw [G6,F1,←HNB.o,←HNE.o];omega)];simp only;have ez:a.B++List.replicate (n-a.E.length-a.B.length) (JQ a)=z.data.toList:=by
       rw [HZ.o];show _=a.B++List.replicate j (JQ a);rw [show n-a.E.length-a.B.length=j by rw [G6,F1,←HNB.o,←HNE.o];omega]
      have e1:z.data.toList.length=nb+j:=hzs;rw [ez,e1,F1,←HNE.o,←hq,show nb+j-q=p by omega])
     have HTL:=Hd (show z++a.e.extract q a.e.size=bA (z.data.toList++a.E.drop q) from by
      rw [Et,←DNA,He];rfl)
     have HJQ:=Hd hq;clear hnb1 hne1 htl hq hp HWZ hzs hlt hsv hle;by_cases heq:z.data.toList.drop p=a.E.take q
     ·rw [decide_eq_true heq] at hcmp;have HF:=Hd (show Fn a n=some (z.data.toList++a.E.drop q) by rw [HSR.o,if_pos heq]);clear heq
      go_upto_region 13 with fail
      refine Qa (fun _ _=>False) [] ?_
      iterate 11 refine Qp ?_
      intro vals γ w9 hR hG;refine Qx ?_;have HX13:=Hd (show Ext wr w9 from hR.ext0 (fun _ _ _ h=>h.elim));clear hR hG;have f3:=HX13.o.cell c3.o;have f4:=HX13.o.cell c4.o;go_wp2;go_ret2;refine ⟨?_,HX0.o.trans (HX.o.trans HX13.o)⟩;rw [HF.o,Option.getD_some,←HTL.o];rfl
     ·rw [decide_eq_false heq] at hcmp;have HF:=Hd (show Fn a n=none by rw [HSR.o,if_neg heq]);clear heq
      go_upto_region 13 with fail
      refine Qa (fun _ _=>False) [] ?_
      iterate 11 refine Qp ?_
      intro vals γ w9 hR hG;refine Qx ?_;have HX13:=Hd (show Ext wr w9 from hR.ext0 (fun _ _ _ h=>h.elim));clear hR hG;go_wp2;go_ret2;refine ⟨BB,HX0.o.trans (HX.o.trans HX13.o)⟩
  ·obtain ⟨j,rfl⟩:∃ j,k=j+1:=⟨k-1,AA⟩;clear hk0;obtain ⟨c,hc⟩:∃ c:Int,c=((j+1:Nat):Int)+31:=⟨_,rfl⟩;rw [←hc];have hcr:32≤c∧c≤126:=AA;obtain ⟨hc1,hc2⟩:=hcr;have HCC:=Hd (show c=((32+j:Nat):Int) by omega);have hw8:IntKind.u8.wrap c=c:=by
    unfold IntKind.wrap;simp only [IntKind.bits,IntKind.signed];simp;omega
   clear hc;obtain ⟨m,hm⟩:=eqx (Ev c);have HC:=Hd (show ∀ w',Cl 177 #[.int .u8 c] w' (Bk w' (m:Int)) from fun w'=>by rw [hm];exact NR _ w');have hm6:m≤6:=(by rw [hm];exact Ir _);have HM:=Hd hm;clear hm;have hand:=E5A a.cls m hm6;cases hb:bt a.cls m
   ·rw [hb] at hand;have HB:=Hd hb;clear hb
    go_upto_region 7 with fail
    refine Qa (fun _ _=>False) [] ?_
    iterate 4 refine Qp ?_
    refine Qc (fun w'=>HC.o w') ?_
    iterate 3 refine Qp ?_
    intro vals γ w9 hR hG;refine Qx ?_;have HX7:=Hd (show Ext wr w9 from hR.ext0 (fun _ _ _ h=>h.elim));clear hR hG;go_wp2;go_roundw
    case rel=>exact ⟨⟨j,v,AA,by have:=HCC.o;go_num,rfl,by have h:=HFL.o;unfold Hu at h;rw [←HCC.o,←HM.o,HB.o,if_neg AC] at h;exact h⟩,HX.o.trans HX7.o⟩
    case measure=>simp [intOf];omega
   ·rw [hb] at hand;have HB:=Hd hb;clear hb
    go_upto_region 7 with fail
    refine Qa (fun _ _=>False) [] ?_
    iterate 4 refine Qp ?_
    refine Qc (fun w'=>HC.o w') ?_
    iterate 3 refine Qp ?_
    intro vals γ w9 hR hG;refine Qx ?_;have HX7:=Hd (show Ext wr w9 from hR.ext0 (fun _ _ _ h=>h.elim));clear hR hG;go_wp2;have hcv:=run_convert_bytes_arg (P:=prog) (w9.alloc (.cells #[.int .u8 c] 5)) 85 5 underlying85 underlying5 w9.heap.size 0 1 1 [c] rfl (fun i hi=>by
     have:i=0:=AA;subst this;exact (Blk.new w9 5 #[.int .u8 c]).cell rfl) 9 underlying9
    rw [hcv];clear hcv;go_wp2;go_roundw
    case rel=>exact ⟨⟨j,c,AA,by have:=HCC.o;go_num,rfl,by have h:=HFL.o;unfold Hu at h;rw [←HCC.o,←HM.o,HB.o,if_pos rfl] at h;exact h⟩,(HX.o.trans HX7.o).alloc _⟩
    case measure=>simp [intOf];omega

theorem FRA(a:Sh):FUA a=min (min a.most 200) (max (max a.least 0) ((a.b.size:Int)+a.e.size+1)):=rfl
theorem CfA{a:Sh}{n:Nat}{s:List UInt8}(h:Fn a n=some s):s.length≤a.b.size+n+a.e.size:=by
 unfold Fn at h;split at h
 ·cases h
 ·simp only at h;split at h
  ·injection h with h;rw [←h];simp only [List.length_append,List.length_replicate,List.length_drop];rw [G6,F1];omega
  ·cases h
theorem U6(h:qP:=by
 have HF:=Hd (show AT a=true from Yc fun n hn1 hn2 s hs=>HA.o n (by rw [HLW.o];exact hn1) (by have:=HTOP.o;omega) s hs)
 go_wp2_with fail
 go_ret;exact ⟨by rw [HF.o];rfl,HX0.o.trans HX.o⟩):qP:=h
theorem Nq(a:Sh)(hb:a.b.size≤1000000000)(he:a.e.size≤1000000000)(w:World):Cl 75 #[(Sq a)] w (Ae w (AT a)):=by
 obtain ⟨w0,hw0⟩:=eqx (w.alloc (.cells (Sp a) 32));have hx0:Ext w w0:=BS;obtain ⟨g,hg⟩:=eqx w.heap.size;have hbk:Blk w0 g 32 (Sp a):=EL;have k0:=hbk.q0;obtain ⟨HK1,HK2,HK3,HK4,HK0,HX0,HW0,HG⟩:=Hd8 (hbk.q1) (hbk.q2) (hbk.q3) (hbk.q4) k0 hx0 hw0 hg;have HTOP:=Hd (FRA a);clear hx0 hbk hw0 hg
 go_enter func75,ntmps75
 go_upto_region 1 with fail
 rw [←HW0.o,←HG.o];obtain ⟨lw,hlw⟩:=eqx (max a.least 0);have hl0:0≤lw:=AA;rw [←hlw] at HTOP;have HLW:=Hd hlw;go_wp2;rw [←hlw];clear hlw k0
 go_loopw [4,5,6] (fun i _s _o wr=>(∃ k:Nat,i=.I k∧lw≤k∧∀ m:Nat,lw≤m→m<k→∀ s,Fn a m=some s→¬InS a s)∧Ext w0 wr) (fun i _ _ _=>202-(intOf i).toNat)
 case atStart=>exact ⟨⟨lw.toNat,by rw [Int.toNat_of_nonneg hl0],AA,AK⟩,Ext.refl _⟩
 case round =>
  obtain ⟨⟨k,rfl,hk1,hall⟩,hx⟩:=hrel;have HA:=Hd hall;have HX:=Hd hx;have c0:=hx.cell HK0.o;have c1:=hx.cell HK1.o;have c2:=hx.cell HK2.o;have c3:=hx.cell HK3.o;have c4:=hx.cell HK4.o;clear hall hx;by_cases h1:(k:Int)≤min a.most 200
  ·by_cases h2:(k:Int)≤max lw ((a.b.size:Int)+a.e.size+1)
   ·have hk2:k≤200:=AA;have HS:=Hd (fun w'=>DMA a k AA AA hk2 w');have HSL:=Hd (fun s (h:Fn a k=some s)=>CfA h);cases ho:Fn a k with
    |none =>
     have HO:=Hd ho;rw [ho] at HS;clear ho
     go_wp2_with fail
     refine (HS.o _).mono ?_;rintro e1 w1 ⟨rfl,hx1⟩;have HX1:=Hd (HX.o.trans hx1);clear hx1 c0 c1 c2 c3 c4
     go_wp2_with fail
     go_roundw
     case rel =>
      refine ⟨⟨k+1,AE,AA,fun m hm1 hm2 s hs => ?_⟩,HX1.o⟩;by_cases hmk:m=k
      ·subst hmk;rw [HO.o] at hs;cases hs
      ·exact HA.o m hm1 AA s hs
     case measure=>simp [intOf];omega
    |some s =>
     have hsl:=HSL.o s ho;have hsz:(bA s).size≤4294967296:=(by rw [EH];omega);have HC:=Hd (fun w'=>Wt a (bA s) AA AA hsz w');have HO:=Hd ho;rw [ho] at HS;have HCI:=Hd (Cf a (bA s));have hrs:Option.getD (some s) []=s:=rfl;generalize Aj a (bA s)=cb at *;obtain ⟨z,hz⟩:=eqx (bA s);have HS2:=Hd (show ∀ w',Cl 149 #[(Sq a),.I (k:Int)] w' (fun e w''=>e=.returned (.tuple #[.string z,.bool true])∧Ext w' w'') from fun w'=>by rw [hz];exact HS.o w');rw [←hz] at HC;have HZ:=Hd hz;clear ho hz hsz hsl HS hrs
     go_wp2_with fail
     refine (HS2.o _).mono ?_;rintro e1 w1 ⟨rfl,hx1⟩;have HX1:=Hd (HX.o.trans hx1);have c0:=hx1.cell c0;have c1:=hx1.cell c1;have c2:=hx1.cell c2;have c3:=hx1.cell c3;have c4:=hx1.cell c4;clear hx1
     go_wp2_with fail
     refine (HC.o _).mono ?_;rintro e2 w2 ⟨rfl,hx2⟩;have HX2:=Hd (HX1.o.trans hx2);clear hx2;cases cb
     ·go_wp2_with fail
      go_roundw
      case rel =>
       refine ⟨⟨k+1,AE,AA,fun m hm1 hm2 s' hs => ?_⟩,HX2.o⟩;by_cases hmk:m=k
       ·subst hmk;rw [HO.o] at hs;injection hs with hs;intro hin;have:=HCI.o.2 (by rw [←hs] at hin;exact hin);cases this
       ·exact HA.o m hm1 AA s' hs
      case measure=>simp [intOf];omega
     ·have HF:=Hd (show AT a=false from Eg (HCI.o.1 rfl))
      go_wp2_with fail
      go_ret;exact ⟨BB,HX0.o.trans HX2.o⟩
   ·exact U6
  ·exact U6

theorem GFA(a b:Sh):bits .and .i64 (bits .or .i64 a.cls b.cls) 110=bits .or .i64 (BL a) (BL b):=by
 refine DT (CJ _ _ _) (CJ _ _ _) fun i _ => ?_;unfold BL;rw [CN,Ux,Ux,CN,CN,Bool.and_or_distrib_right]
theorem Q6(h:qP:=by
 have hb1:=(((((HB0.o.set 0 (.I (min la lb))).set 1 (.I (max ma mb))).set 2 (.I cc)).set 3 (.string sp)).set 4 (.string ss))
 simpa using hb1):qP:=h
theorem Ip(h:qP:=by simp [results,results41,go_sem,r0,r1,r2,r3,r4]):qP:=h
theorem YJ(a b:Sh)(h1:a.b.size≤1000000000)(h2:a.e.size≤1000000000)(h3:b.b.size≤1000000000)(h4:b.e.size≤1000000000)(w:World):Cl 41 #[(Sq a),(Sq b)] w (G0 w (BW a b)):=by
 obtain ⟨w0,hw0⟩:=eqx (((w.alloc (.cells (Sp a) 32)).alloc (.cells (Sp b) 32)).alloc (.cells #[.I 0,.I 0,.I 0,.string ⟨#[]⟩,.string ⟨#[]⟩] 32));have hx0:Ext w w0:=CC;have hb2:Blk w0 w.heap.size 32 (Sp a):=FH;have hb3:Blk w0 (w.heap.size+1) 32 (Sp b):=Fc;have hb4:Blk w0 (w.heap.size+2) 32 #[.I 0,.I 0,.I 0,.string ⟨#[]⟩,.string ⟨#[]⟩]:=GP;obtain ⟨g2,hg2⟩:=eqx w.heap.size;obtain ⟨g3,hg3⟩:=eqx (w.heap.size+1);obtain ⟨g4,hg4⟩:=eqx (w.heap.size+2);rw [←hg2] at hb2;rw [←hg3] at hb3;rw [←hg4] at hb4;have HG4:=Hd (show w.heap.size≤g4 by omega);obtain ⟨la,hla⟩:=eqx (AQ a);obtain ⟨lb,hlb⟩:=eqx (AQ b);obtain ⟨ma,hma⟩:=eqx (BE a);obtain ⟨mb,hmb⟩:=eqx (BE b);obtain ⟨cc,hcc⟩:=eqx (bits .or .i64 (BL a) (BL b));obtain ⟨sp,hsp⟩:=eqx (bA (ES a.B b.B));obtain ⟨ss,hss⟩:=eqx (bA (Hv a.E b.E));obtain ⟨HLA,HLB,HMA,HMB,HSP,HSS,HEA,HEB⟩:=Hd8 (show ∀ w',Cl 114 #[(Sq a)] w' (DG w' la) from fun w'=>by rw [hla];exact WE a w') (show ∀ w',Cl 114 #[(Sq b)] w' (DG w' lb) from fun w'=>by rw [hlb];exact WE b w') (show ∀ w',Cl 115 #[(Sq a)] w' (DG w' ma) from fun w'=>by rw [hma];exact Xw a w') (show ∀ w',Cl 115 #[(Sq b)] w' (DG w' mb) from fun w'=>by rw [hmb];exact Xw b w') (show ∀ w',Cl 116 #[.string a.b,.string b.b] w' (Wo w' sp) from fun w'=>by rw [hsp];exact Zd a.b b.b AA AA w') (show ∀ w',Cl 117 #[.string a.e,.string b.e] w' (Wo w' ss) from fun w'=>by rw [hss];exact ArA a.e b.e AA AA w') (fun w'=>Nq a h1 h2 w') (fun w'=>Nq b h3 h4 w');have HJ:=Hd (show BW a b=if AT a=true then (if AT b=true then H3A else b) else if AT b=true then a else ⟨min la lb,max ma mb,cc,sp,ss⟩ from by rw [hla,hlb,hma,hmb,hcc,hsp,hss];rfl);have hor:bits .and .i64 (bits .or .i64 a.cls b.cls) 110=cc:=(by rw [hcc];exact GFA a b);generalize AT a=b1 at *;generalize AT b=b2 at *;obtain ⟨HX0,HW0,HE2,HE3,HE4⟩:=Hd5 hx0 hw0 hg2 hg3 hg4;obtain ⟨q0,q1,q2,q3,q4⟩:=hb2.qs5;obtain ⟨HB2,HB3,HB4a⟩:=Hd3 hb2 hb3 hb4;clear hx0 hw0 hb2 hb3 hb4 hg2 hg3 hg4 hla hlb hma hmb hcc hsp hss
 go_enter func41,ntmps41
 go_upto_region 1 with fail
 rw [←HW0.o,show w.heap.size+1+1=g4 from HE4.o.symm,←HE3.o,←HE2.o]
 go_wp2_with fail
 refine (HEA.o _).mono ?_;rintro e1 w1 ⟨rfl,hx1⟩;have HX1:=Hd (HX0.o.trans hx1);have hb3:=HB3.o.keep (hx1.kept _);obtain ⟨HB2b,HB4c,HB3b⟩:=Hd3 (HB2.o.keep (hx1.kept _)) (HB4a.o.keep (hx1.kept _)) hb3;obtain ⟨q0,q1,q2,q3,q4⟩:=hb3.qs5;clear hx1 hb3
 go_wp2_with fail
 refine (HEB.o _).mono ?_;rintro e2 w5 ⟨rfl,hx2⟩;have HX5:=Hd (HX1.o.trans hx2);have hb2:=HB2b.o.keep (hx2.kept _);have hb3:=HB3b.o.keep (hx2.kept _);have hb4:=HB4c.o.keep (hx2.kept _);obtain ⟨HB4,k0,k1,k2,k3,k4,k5,k6⟩:=Hd8 hb4 (hb2.q0) (hb2.q1) (hb2.q2) (hb2.q3) (hb2.q4) (hb3.q0) (hb3.q1);obtain ⟨k7,k8,k9⟩:=Hd3 (hb3.q2) (hb3.q3) (hb3.q4);clear hx2 hb2 hb3 hb4 q0 q1 q2 q3 q4;cases b1
 ·cases b2
  case' true =>
   have m0:=k0.o;have m1:=k1.o;have m2:=k2.o;have m3:=k3.o;have m4:=k4.o;obtain ⟨r0,r1,r2,r3,r4⟩:=HB4.o.qs5;have qf:=HB4.o.frozen;have ql:=HB4.o.lt
   go_wp2_with fail
   rw [HJ.o,if_neg AC,if_pos trivial];refine bodyPost_ret (v:=(Sq a)) Ip rfl ⟨rfl,?_⟩
   iterate 5 with_reducible refine Ext.set2 ?_ HG4.o _
   with_reducible exact HX5.o
  go_upto_region 9 with fail
  refine Qa (fun m b=>(m=1027∧b=g4)) (lk 28 [1027]) ?_;refine Qp ?_;refine Qc (fun w'=>HLA.o w') ?_;refine Qp ?_;refine Qc (fun w'=>HLB.o w') ?_
  iterate 2 refine Qp ?_
  refine Qc (fun w'=>HMA.o w') ?_;refine Qp ?_;refine Qc (fun w'=>HMB.o w') ?_
  iterate 11 refine Qp ?_
  refine Qc (fun w'=>HSP.o w') ?_
  iterate 4 refine Qp ?_
  refine Qc (fun w'=>HSS.o w') ?_;refine Qp ?_;refine Qs (fun _ γ w'=>Blk w' g4 32 #[.I (min la lb),.I (max ma mb),.I cc,.string sp,.string ss]∧γ 1027=true) ?_ ?_ ?_
  ·exact FE
  ·intro vals γ w' ρ hR hN hp hρ zs zg;have hk1027:=hN.o.key (k:=1027) AB;have hb0:=HB4.o.keep (hR.o.kept0 (S:=fun b=>b=g4) fun b _ e m hm=>by
    rw [hm.1];exact hk1027)
   have HB0:=Hd hb0;have HK:=Hd hk1027;obtain ⟨q0,q1,q2,q3,q4⟩:=hb0.qs5;have qf:=hb0.frozen;have ql:=hb0.lt;clear hb0 hk1027;refine Qr ?_;refine ⟨γ.put 1027,H2A HK.o rfl rfl rfl Y78171d3d0 (fun b hb hm=>((((((Only.refl g4 w').set 0 (.I (min la lb))).set 1 (.I (max ma mb))).set 2 (.I cc)).set 3 (.string sp)).set 4 (.string ss)).block b fun e=>hm (⟨rfl,e⟩)),LK.done AB,?_,AU⟩;exact Q6
  intro vals γ w9 hR hG;refine Qx ?_;obtain ⟨hb27,-⟩:=hG 27 AB;have HB27N:=Hd hb27;clear hb27;have HXN:=Hd (show Ext w w9 from Au HX5.o (hR.buts (S:=fun b=>b=g4) (fun m b _ hm _=>hm.2)) (fun b hb=>by
   rw [hb];exact HG4.o))
  clear hR hG;obtain ⟨s0,s1,s2,s3,s4⟩:=HB27N.o.qs5;go_wp2;rw [HJ.o,if_neg AC,if_neg AC];exact bodyPost_ret (v:=.agg #[.I (min la lb),.I (max ma mb),.I cc,.string sp,.string ss]) (by simp [results,results41,go_sem,s0,s1,s2,s3,s4]) rfl ⟨rfl,HXN.o⟩
 ·have m0:=k5.o;have m1:=k6.o;have m2:=k7.o;have m3:=k8.o;have m4:=k9.o;obtain ⟨r0,r1,r2,r3,r4⟩:=HB4.o.qs5;have qf:=HB4.o.frozen;have ql:=HB4.o.lt;cases b2
  ·go_wp2_with fail
   rw [HJ.o,if_pos trivial,if_neg AC];refine bodyPost_ret (v:=(Sq b)) Ip rfl ⟨rfl,?_⟩
   iterate 5 with_reducible refine Ext.set2 ?_ HG4.o _
   with_reducible exact HX5.o
  ·go_wp2_with fail
   refine (RC _).mono ?_;rintro e3 w6 ⟨rfl,hx3⟩;have hb4:=HB4.o.keep (hx3.kept _);obtain ⟨r0,r1,r2,r3,r4⟩:=hb4.qs5;have qf:=hb4.frozen;have ql:=hb4.lt;have HX6:=Hd (HX5.o.trans hx3);clear hx3 hb4
   go_wp2_with fail
   rw [HJ.o,if_pos trivial,if_pos trivial];refine bodyPost_ret (v:=(Sq H3A)) Ip rfl ⟨rfl,?_⟩
   iterate 5 with_reducible refine Ext.set2 ?_ HG4.o _
   with_reducible exact HX6.o

def J3(o:Oper):Bool:=match o.op with
 |.defer _=>false
 |_=>true
theorem NJ{ops:Array Oper}(h:ops.all J3=true){i:Nat}{o:Oper}(ho:ops[i]?=some o):∀ c,o.op≠.defer c:=by
 intro c hc;rw [Array.all_eq_true] at h;obtain ⟨hlt,he⟩:=Array.getElem?_eq_some_iff.1 ho;have h1:=h i hlt;rw [he] at h1;unfold J3 at h1;rw [hc] at h1;cases h1
section
variable {P:Program}{ops:Array Oper}{Q:Exit→Act→World→Prop}
end
section
variable {P:Program}{ops:Array Oper}{Q:Exit→Act→World→Prop}
theorem SW(h:qP:=by
 refine wpIn_region_any hm (main ops.size _ a0 w0.drew (fun _=>undef) γ0 ⟨by simp,rfl,rfl,?_,fun _ _=>rfl,hrefl _ _,?_,fun j _ _=>hN j,?_⟩ ?_)
 ·exact R3
 ·exact RE
 ·intro j hj hl;simp [hj] at hl
 ·exact Uh):qP:=h
theorem Oo(h:qP:=by
 intro e w'' ⟨v,he,γ',h1,hn,h2⟩;subst he;exact next v γ' w'' h1 hn h2):qP:=h
theorem Qq(h:qP:=by
 refine ⟨fun h=>(by cases h),callsIn_wide.2 (hS.mono ?_)⟩;exact Oo):qP:=h
theorem PB(h:qP:=by
 rw [if_neg hw] at hS⊢;exact ⟨fun _ _=>trivial,next undef γ w (hrefl _ _) (fun _ _ _ h=>h) hS⟩):qP:=h
theorem Nb{Γ:Type}{n0:Nat}{id:Nat}{a0:Act}{w0:World}(hnf:ops.all J3=true)(hm:P.follows .mixedOrders=true)(D:Nat→List Nat)(hB:R8 ops D a0.tmps.size=true)
  (R:Γ→World→Γ→World→Prop) (hrefl:∀ γ w,R γ w γ w) (htrans:∀ γ w γ' w' γ'' w'',R γ w γ' w'→R γ' w' γ'' w''→R γ w γ'' w'')
  (N:Nat→Γ→Prop) (G:Nat→List Value→Γ→World→Prop) (hst:∀ i l γ w γ' w',R γ w γ' w'→G i l γ w→G i l γ' w') (γ0:Γ) (hN:∀ i,N i γ0)
  (hstep:∀ i o,ops[i]?=some o→LinStep P ops D R N G a0 γ0 w0.drew i o)
  (hfin:∀ vals γ w,R γ0 w0.drew γ w→(∀ i,i<ops.size→G i ((D i).map vals) γ w)→Q .normal (Ah vals ops.toList 0 a0) w) :
  (Code.region id ops true).wpIn Fence.wide n0 P Q a0 w0:=by
 obtain ⟨hsel,hnd,hlt,hacyc,hD,hguard,hlook⟩:=GH hB;have main:∀ (fuel:Nat) (listed:Array Bool) (a:Act) (w:World) (vals:Nat→Value) (γ:Γ),LinInv ops D R N G a0 γ0 w0.drew listed a w vals γ →
   (List.range ops.size).countP (fun i => !listed.getD i true)≤fuel→wpAnyIn Fence.wide n0 P .any ops Q fuel listed a w:=by
  intro fuel;have fin:∀ (listed:Array Bool) (a:Act) (w:World) (vals:Nat→Value) (γ:Γ),LinInv ops D R N G a0 γ0 w0.drew listed a w vals γ→(∀ j,j<ops.size→listed.getD j false=true)→Q .normal a w:=by
   exact MJ
  have ready_nil:∀ (listed:Array Bool),listed.size=ops.size→Region.ready .any ops listed=[]→∀ j,j<ops.size→listed.getD j false=true:=by
   exact Mc
  induction fuel with
  |zero =>
   exact MY
  |succ fuel ih =>
   intro listed a w vals γ I hc;refine ⟨fun hr=>fin listed a w vals γ I (ready_nil listed I.size hr),fun i hi => ?_⟩;obtain ⟨h0,o,ho,hpre⟩:=mem_ready.1 hi;have hil:i<ops.size:=(Array.getElem?_eq_some_iff.1 ho).1;have hisz:i<listed.size:=(by rw [I.size];exact hil);have hun:listed.getD i false=false:=(by rw [←GB hisz];exact h0);have hpl:∀ j,j∈AV o→listed.getD j false=true:=by
    exact LG
   have hslot:∀ t,t∈o.looksAt ops→a.tmps.getD t undef=Fi ops o a0 vals t:=by
    exact Md
   have henv:execOp a.eval o=execOp (Hm ops o a0 vals) o:=by
    exact Lm
   have hwant:Region.wanted o (yielded ops a.tmps)=AY o vals:=by
    exact LF
   have hpf:∀ j,j∈AV o→G j ((D j).map vals) γ w:=fun j hj=>I.facts j (by have:=hacyc i o j ho hj;omega) (hpl j hj);have hS:=hstep i o ho vals γ w I.rel (I.open_ i hil hun) hpf;have next:∀ (v:Value) (γ':Γ) (w':World),R γ w γ' w'→(∀ j,j≠i→j ∉ AV o→N j γ→N j γ')→G i ((D i).map (F3 vals i v)) γ' w'→wpAnyIn Fence.wide n0 P .any ops Q fuel (listed.setIfInBounds i true) (a.put o.dst v) w':=by
    exact MK
   unfold wpOpIn;simp only [ho];rw [hwant];by_cases hw:AY o vals=true
   ·rw [if_pos hw] at hS⊢;refine ⟨fun _ _=>trivial,?_⟩;rw [Oper.semAt_plain _ _ _ (NJ hnf ho),henv];generalize (execOp (Hm ops o a0 vals) o).run P w=r at hS;cases r with
    |ok n w' =>
     cases n<;>simp only [Bu] at hS<;>simp only [Oper.uponIn]
     case value v=>obtain ⟨γ',h1,hn,h2⟩:=hS;exact next v γ' w' h1 hn h2
     case skip=>obtain ⟨γ',h1,hn,h2⟩:=hS;exact next undef γ' w' h1 hn h2
     case enter f args =>
      exact Qq
    |halt x w'=>simp only [Bu] at hS
   ·exact PB
 exact SW
end
theorem Ks{Γ:Type}{P:Program}{n0:Nat}{l:List Oper}{Q:Exit→Act→World→Prop}{id:Nat}{a0:Act}{w0:World}(hnf:l.toArray.all J3=true)(hm:P.follows .mixedOrders=true)(D:Nat→List Nat)(hB:R8 l.toArray D a0.tmps.size=true)
  (R:Γ→World→Γ→World→Prop) (hrefl:∀ γ w,R γ w γ w) (htrans:∀ γ w γ' w' γ'' w'',R γ w γ' w'→R γ' w' γ'' w''→R γ w γ'' w'')
  (N:Nat→Γ→Prop) (γ0:Γ) (hN:∀ i,N i γ0)
  (h:Chain P l.toArray D R N a0 γ0 w0.drew (fun Φs=>∀ vals γ w,R γ0 w0.drew γ w→(∀ i,i<l.length→gOf Φs i ((D i).map vals) γ w)→Q .normal (Ah vals l 0 a0) w) 0 [] l) :
  (Code.region id l.toArray true).wpIn Fence.wide n0 P Q a0 w0:=by
 obtain ⟨Φs,-,h2,h3,h4⟩:=Chain.full (k:=0) (done:=[]) rfl (fun _ h=>Ck) h;obtain ⟨-,-,-,hac,-⟩:=GH hB;refine Nb hnf hm D hB R hrefl htrans N (gOf Φs) (fun i l γ w γ' w' r hg => ?_) γ0 hN (fun i o hi => ?_) (fun vals γ w hr hg=>h3 vals γ w hr fun i hi=>hg i Bp)
 ·exact La
 ·exact Me

end Go.Proofs.YtidacnalcdhckaaGreatDoor
