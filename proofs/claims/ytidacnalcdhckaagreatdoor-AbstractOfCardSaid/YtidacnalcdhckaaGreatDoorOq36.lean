/- Lemmas. No conditions. -/
import Derived.Test.YtidacnalcdhckaaGreatDoorOq17
set_option maxRecDepth 100000
set_option maxHeartbeats 2000000
namespace Go.Proofs.YtidacnalcdhckaaGreatDoor
open Go Go.RowKit Tryz
variable {qP:Prop}

def XC(cols:List BA)(rows:List (List Val))(frm:List BA)(x:BA)(a b:Nat):Prop:=∀ (ha:a<rows.length) (hb:b<rows.length),(∀ f∈frm,Cx (Bt cols f).toNat rows[a] rows[b]=true)→Cx (Bt cols x).toNat rows[a] rows[b]=true
theorem WG(c:Nat)(r o:List Val):Cx c r o=Cx c o r:=by unfold Cx;rw [Bool.eq_iff_iff];simp only [decide_eq_true_eq];exact eq_comm
theorem CbA(c:Nat)(r:List Val):Cx c r r=true:=by simp [Cx]
theorem W5{cols:List BA}{rows:List (List Val)}{frm:List BA}{x:BA}(h1:x∈cols)(h2:EF cols rows=true)(h3:∀ f∈frm,f∈cols)(h4:∀ a b,b<a→XC cols rows frm x a b):BH cols rows frm x=true:=by
 refine EU.2 ⟨h1,h2,h3,fun r hr o ho hf => ?_⟩;obtain ⟨a,ha,rfl⟩:=List.getElem_of_mem hr;obtain ⟨b,hb,rfl⟩:=List.getElem_of_mem ho
 rcases Nat.lt_trichotomy a b with h|h|h
 ·rw [WG];exact h4 b a h hb ha fun f hf'=>by rw [WG];exact hf f hf'
 ·subst h;exact CbA _ _
 ·exact h4 a b h ha hb hf
theorem J9{cols:List BA}{rows:List (List Val)}{frm:List BA}{x:BA}(h:¬(x∈cols∧EF cols rows=true∧(∀ f∈frm,f∈cols)∧∀ a b,b<a→XC cols rows frm x a b)):BH cols rows frm x=false:=by
 rw [Bool.eq_false_iff];intro e;obtain ⟨h1,h2,h3,h4⟩:=EU.1 e;exact h ⟨h1,h2,h3,fun a b _ ha hb hf=>h4 _ (List.getElem_mem ha) _ (List.getElem_mem hb) hf⟩
theorem OR{cols:List BA}{rows:List (List Val)}(h:EF cols rows=true){i:Nat}(hi:i<rows.length):rows[i].length=cols.length:=by
 unfold EF at h;rw [List.all_eq_true] at h
 simpa using h _ (List.getElem_mem hi)
theorem NT{w:World}{T:NP}{q:Nat}{B:OA}{rows:List (List Val)}{i j m:Nat}(h:Rows w T q B rows)(hi:i<rows.length)(hj:j<rows.length)(hmi:m<rows[i].length)(hmj:m<rows[j].length) :
  ∃ bB oB bi oi ei bj oj ej A1 c1 B1 e1 A2 c2 B2 e2,B=some ⟨bB,oB,none⟩∧w.cell? ⟨bB,oB+i,none⟩=some (.slice (some ⟨bi,oi,none⟩) rows[i].length ei)∧(w.cell? ⟨bi,oi+m*7,none⟩=some (.I rows[i][m].kind)∧w.cell? ⟨bi,oi+m*7+1,none⟩=some (.string rows[i][m].s)∧w.cell? ⟨bi,oi+m*7+2,none⟩=some (.I rows[i][m].dn)∧w.cell? ⟨bi,oi+m*7+3,none⟩=some (.I rows[i][m].ds)∧w.cell? ⟨bi,oi+m*7+4,none⟩=some (.I rows[i][m].n)∧w.cell? ⟨bi,oi+m*7+5,none⟩=some (.slice A1 rows[i][m].cols.length c1)∧w.cell? ⟨bi,oi+m*7+6,none⟩=some (.slice B1 rows[i][m].rows.length e1))∧RV w T q rows[i][m] A1 B1 ∧
   w.cell? ⟨bB,oB+j,none⟩=some (.slice (some ⟨bj,oj,none⟩) rows[j].length ej)∧(w.cell? ⟨bj,oj+m*7,none⟩=some (.I rows[j][m].kind)∧w.cell? ⟨bj,oj+m*7+1,none⟩=some (.string rows[j][m].s)∧w.cell? ⟨bj,oj+m*7+2,none⟩=some (.I rows[j][m].dn)∧w.cell? ⟨bj,oj+m*7+3,none⟩=some (.I rows[j][m].ds)∧w.cell? ⟨bj,oj+m*7+4,none⟩=some (.I rows[j][m].n)∧w.cell? ⟨bj,oj+m*7+5,none⟩=some (.slice A2 rows[j][m].cols.length c2)∧w.cell? ⟨bj,oj+m*7+6,none⟩=some (.slice B2 rows[j][m].rows.length e2))∧RV w T q rows[j][m] A2 B2:=by
 obtain ⟨bB,oB,Ci,ei,hB,_,q1,_,r1⟩:=h.at_ hi;obtain ⟨bB',oB',Cj,ej,hB',_,q2,_,r2⟩:=h.at_ hj;obtain ⟨rfl,rfl⟩:bB'=bB∧oB'=oB:=by rw [hB] at hB';injection hB' with hB';injection hB' with h1 h2;exact ⟨h1.symm,h2.symm⟩
 obtain ⟨bi,oi,A1,c1,B1,e1,rfl,_,p1,_,v1⟩:=r1.at_ hmi;obtain ⟨bj,oj,A2,c2,B2,e2,rfl,_,p2,_,v2⟩:=r2.at_ hmj;exact ⟨_,_,bi,oi,ei,bj,oj,ej,A1,c1,B1,e1,A2,c2,B2,e2,hB,q1,p1,v1.up AA,q2,p2,v2.up AA⟩
theorem XF{rows:List (List Val)}{i j m:Nat}(hi:i<rows.length)(hj:j<rows.length)(hmi:m<rows[i].length)(hmj:m<rows[j].length):Cx m rows[i] rows[j]=decide (rows[i][m]=rows[j][m]):=by
 unfold Cx;rw [Bool.eq_iff_iff];simp [hmi,hmj];exact eq_comm
def HfA(bB:Nat)(oB:Nat)(n:Nat)(cb:Nat)(ii:Nat)(jj:Nat)(m:Nat)(li:Nat)(ei:Nat)(lj:Nat)(ej:Nat)(bi:Nat)(oi:Nat)(bj:Nat)(oj:Nat)(x:Val)(y:Val)(A1:OA)(c1:Nat)(B1:OA)(e1:Nat)(A2:OA)(c2:Nat)(B2:OA)(e2:Nat)(z:Bool):Nat→Value
 |0=>.slice (some ⟨bB,oB,none⟩) n cb
 |1=>.I (ii:Int)
 |2=>.pointer (some ⟨bB,oB+ii,none⟩)
 |3=>.slice (some ⟨bi,oi,none⟩) li ei
 |4=>.I (m:Int)
 |5=>.pointer (some ⟨bi,oi+m*7,none⟩)
 |6=>(Vq x A1 c1 B1 e1)
 |7=>.slice (some ⟨bB,oB,none⟩) n cb
 |8=>.I (jj:Int)
 |9=>.pointer (some ⟨bB,oB+jj,none⟩)
 |10=>.slice (some ⟨bj,oj,none⟩) lj ej
 |11=>.I (m:Int)
 |12=>.pointer (some ⟨bj,oj+m*7,none⟩)
 |13=>(Vq y A2 c2 B2 e2)
 |14=>.bool z
 |15=>.bool z
 |_=>undef
def EjA(bB:Nat)(oB:Nat)(n:Nat)(cb:Nat)(ii:Nat)(jj:Nat)(m:Nat)(li:Nat)(ei:Nat)(lj:Nat)(ej:Nat)(bi:Nat)(oi:Nat)(bj:Nat)(oj:Nat)(x:Val)(y:Val)(A1:OA)(c1:Nat)(B1:OA)(e1:Nat)(A2:OA)(c2:Nat)(B2:OA)(e2:Nat)(z:Bool)(i:Nat)(l:List Value)(_γ:Gh)(_w':World):Prop:=match l with
 |[v]=>v=HfA bB oB n cb ii jj m li ei lj ej bi oi bj oj x y A1 c1 B1 e1 A2 c2 B2 e2 z i
 |_=>True
theorem E8A(bB:Nat)(oB:Nat)(n:Nat)(cb:Nat)(ii:Nat)(jj:Nat)(m:Nat)(li:Nat)(ei:Nat)(lj:Nat)(ej:Nat)(bi:Nat)(oi:Nat)(bj:Nat)(oj:Nat)(x:Val)(y:Val)(A1:OA)(c1:Nat)(B1:OA)(e1:Nat)(A2:OA)(c2:Nat)(B2:OA)(e2:Nat)(z:Bool):∀ i l γ w γ' w',LR γ w γ' w'→EjA bB oB n cb ii jj m li ei lj ej bi oi bj oj x y A1 c1 B1 e1 A2 c2 B2 e2 z i l γ w→EjA bB oB n cb ii jj m li ei lj ej bi oi bj oj x y A1 c1 B1 e1 A2 c2 B2 e2 z i l γ' w':=by
 intro i l γ w γ' w' r h
 match l,h with
 |[v],h =>
  unfold EjA at h⊢;exact h
 |[],_=>trivial
 |_::_::_,_=>trivial
def HwA(bB:Nat)(oB:Nat)(n:Nat)(cb:Nat)(ii:Nat)(jj:Nat)(m:Nat)(li:Nat)(ei:Nat)(lj:Nat)(ej:Nat)(bi:Nat)(oi:Nat)(bj:Nat)(oj:Nat)(x:Val)(y:Val)(A1:OA)(c1:Nat)(B1:OA)(e1:Nat)(A2:OA)(c2:Nat)(B2:OA)(e2:Nat)(z:Bool):Nat→Value
 |0=>.slice (some ⟨bB,oB,none⟩) n cb
 |1=>.I (ii:Int)
 |2=>.pointer (some ⟨bB,oB+ii,none⟩)
 |3=>.slice (some ⟨bi,oi,none⟩) li ei
 |4=>.I (m:Int)
 |5=>.pointer (some ⟨bi,oi+m*7,none⟩)
 |6=>(Vq x A1 c1 B1 e1)
 |7=>.slice (some ⟨bB,oB,none⟩) n cb
 |8=>.I (jj:Int)
 |9=>.pointer (some ⟨bB,oB+jj,none⟩)
 |10=>.slice (some ⟨bj,oj,none⟩) lj ej
 |11=>.I (m:Int)
 |12=>.pointer (some ⟨bj,oj+m*7,none⟩)
 |13=>(Vq y A2 c2 B2 e2)
 |14=>.bool z
 |15=>.bool z
 |_=>undef
def DhA(bB:Nat)(oB:Nat)(n:Nat)(cb:Nat)(ii:Nat)(jj:Nat)(m:Nat)(li:Nat)(ei:Nat)(lj:Nat)(ej:Nat)(bi:Nat)(oi:Nat)(bj:Nat)(oj:Nat)(x:Val)(y:Val)(A1:OA)(c1:Nat)(B1:OA)(e1:Nat)(A2:OA)(c2:Nat)(B2:OA)(e2:Nat)(z:Bool)(i:Nat)(l:List Value)(_γ:Gh)(_w':World):Prop:=match l with
 |[v]=>v=HwA bB oB n cb ii jj m li ei lj ej bi oi bj oj x y A1 c1 B1 e1 A2 c2 B2 e2 z i
 |_=>True
theorem CFA(bB:Nat)(oB:Nat)(n:Nat)(cb:Nat)(ii:Nat)(jj:Nat)(m:Nat)(li:Nat)(ei:Nat)(lj:Nat)(ej:Nat)(bi:Nat)(oi:Nat)(bj:Nat)(oj:Nat)(x:Val)(y:Val)(A1:OA)(c1:Nat)(B1:OA)(e1:Nat)(A2:OA)(c2:Nat)(B2:OA)(e2:Nat)(z:Bool):∀ i l γ w γ' w',LR γ w γ' w'→DhA bB oB n cb ii jj m li ei lj ej bi oi bj oj x y A1 c1 B1 e1 A2 c2 B2 e2 z i l γ w→DhA bB oB n cb ii jj m li ei lj ej bi oi bj oj x y A1 c1 B1 e1 A2 c2 B2 e2 z i l γ' w':=by
 intro i l γ w γ' w' r h
 match l,h with
 |[v],h =>
  unfold DhA at h⊢;exact h
 |[],_=>trivial
 |_::_::_,_=>trivial
theorem MW(h:qP:=by
 have i0:(0:Int)≤(i:Int):=(by omega);have i1:(i:Int)<(rows.length:Int):=(by omega);exact Lp):qP:=h
theorem Tz(h:qP:=by
 have hx:=hR.drew_ext;have p1:=hx.cell HQI.o;exact Dl):qP:=h
theorem Ub(h:qP:=by
 refine LinStep.yes fun vals γ w' ρ hR hN hp hρ hc hf hg=>⟨rfl,?_⟩;have e89:ρ (.tmp 89)=.pointer (some ⟨bB,oB+i,none⟩):=(hρ 89).trans (hp 2 (by decide));exact Tz):qP:=h
theorem Lr(h:qP:=by
 have i0:(0:Int)≤(m:Int):=(by omega);have i1:(m:Int)<(rows[i].length:Int):=(by omega);exact Lp):qP:=h
theorem Pk(h:qP:=by
 have hx:=hR.drew_ext;have p0:=hx.cell HPI.o.1;have p1:=hx.cell HPI.o.2.1;have p2:=hx.cell HPI.o.2.2.1;have p3:=hx.cell HPI.o.2.2.2.1;have p4:=hx.cell HPI.o.2.2.2.2.1;have p5:=hx.cell HPI.o.2.2.2.2.2.1;have p6:=hx.cell HPI.o.2.2.2.2.2.2;exact Dl):qP:=h
theorem Sz(h:qP:=by
 refine LinStep.yes fun vals γ w' ρ hR hN hp hρ hc hf hg=>⟨rfl,?_⟩;have e92:ρ (.tmp 92)=.pointer (some ⟨bi,oi+m*7,none⟩):=(hρ 92).trans (hp 5 (by decide));exact Pk):qP:=h
theorem Lj(h:qP:=by
 have i0:(0:Int)≤(j:Int):=(by omega);have i1:(j:Int)<(rows.length:Int):=(by omega);exact Lp):qP:=h
theorem RD(h:qP:=by
 have hx:=hR.drew_ext;have p1:=hx.cell HQJ.o;exact Dl):qP:=h
theorem QJ(h:qP:=by
 refine LinStep.yes fun vals γ w' ρ hR hN hp hρ hc hf hg=>⟨rfl,?_⟩;have e96:ρ (.tmp 96)=.pointer (some ⟨bB,oB+j,none⟩):=(hρ 96).trans (hp 9 (by decide));exact RD):qP:=h
theorem ME(h:qP:=by
 have i0:(0:Int)≤(m:Int):=(by omega);have i1:(m:Int)<(rows[j].length:Int):=(by omega);exact Lp):qP:=h
theorem Pf(h:qP:=by
 have hx:=hR.drew_ext;have p0:=hx.cell HPJ.o.1;have p1:=hx.cell HPJ.o.2.1;have p2:=hx.cell HPJ.o.2.2.1;have p3:=hx.cell HPJ.o.2.2.2.1;have p4:=hx.cell HPJ.o.2.2.2.2.1;have p5:=hx.cell HPJ.o.2.2.2.2.2.1;have p6:=hx.cell HPJ.o.2.2.2.2.2.2;exact Dl):qP:=h
theorem Uv(h:qP:=by
 refine LinStep.yes fun vals γ w' ρ hR hN hp hρ hc hf hg=>⟨rfl,?_⟩;have e99:ρ (.tmp 99)=.pointer (some ⟨bj,oj+m*7,none⟩):=(hρ 99).trans (hp 12 (by decide));exact Pf):qP:=h
theorem Py(h:qP:=by
 have hx:=hR.drew_ext;have HR:=Hd hR;have HN:=Hd hN;clear hR hN hp hρ hx;go_light;go_simp;refine (Dn q x y A1 B1 A2 B2 c1 e1 c2 e2 _ T T (HVI.o.keep (HR.o.drew_ext.kept _)) (HVJ.o.keep (HR.o.drew_ext.kept _))).mono ?_;rintro e' w3 ⟨he,hx⟩;rw [←HZ.o] at he;exact ⟨_,he,γ,IFA γ hx,fun _ _ _ h=>h,rfl⟩):qP:=h
theorem VW(h:qP:=by
 refine LinStep.yes fun vals γ w' ρ hR hN hp hρ hc hf hg=>⟨rfl,?_⟩;have e93:ρ (.tmp 93)=(Vq x A1 c1 B1 e1):=(hρ 93).trans (hp 6 (by decide));have e100:ρ (.tmp 100)=(Vq y A2 c2 B2 e2):=(hρ 100).trans (hp 13 (by decide));exact Py):qP:=h
theorem Z3(h:qP:=by
 subst hbj;intro ha hb2 hf;exact absurd (List.all_eq_true.2 hf) (by rw [HSA.o];simp)):qP:=h
theorem PD(h:qP:=by
 refine ⟨j+1,by omega,by go_num,HE.o.trans HX9.o,fun b hb => ?_⟩;by_cases hbj:b=j
 ·exact Z3
 ·exact HPJ0.o b (by omega)):qP:=h
theorem CS(h:qP:=by rw [OR HREG.o hlti];exact hm0l):qP:=h
theorem Cg(h:qP:=by rw [OR HREG.o hltj'];exact hm0l):qP:=h
theorem Id(h:qP:=by rw [OR HREG.o hlti];exact hm1l):qP:=h
theorem Gf(h:qP:=by rw [OR HREG.o hltj'];exact hm1l):qP:=h
theorem CyA(q:Nat)(cols:List BA)(rows:List (List Val))(frm:List BA)(x0:BA)(A B C:OA)(ca cb cc:Nat)(w:World)(S T U:NP)(hA:Strs w S A cols)(hB:Rows w T q B rows)(hC:Strs w U C frm) :
  Cl 68 #[.slice A cols.length ca,.slice B rows.length cb,.agg #[.slice C frm.length cc,.string x0]] w (Ae w (BH cols rows frm x0)):=by
 have hcl:=hA.2.1;have hrl:=hB.len;have hfl:=hC.2.1;obtain ⟨HA0,HB0,HC0⟩:=Hd3 hA hB hC;clear hA hB hC;have HGB:=Hd (Blk.new w 69 #[.slice C frm.length cc,.string x0]);obtain ⟨w1,hw1⟩:=eqx (w.alloc (.cells #[.slice C frm.length cc,.string x0] 69));have hx1:Ext w w1:=(by rw [hw1];exact (Ext.refl _).alloc _);obtain ⟨HX1,HA,HB,HC⟩:=Hd4 hx1 (HA0.o.keep (hx1.kept _)) (HB0.o.keep (hx1.kept _)) (HC0.o.keep (hx1.kept _));rw [←hw1] at HGB;have HW1:=Hd hw1;clear hx1 hw1 HA0 HB0 HC0
 go_enter func68,ntmps68
 go_wp2_with fail
 rw [←HW1.o];refine (Rs q cols rows A B ca cb _ T hcl HB.o).mono ?_;rintro e1 w1' ⟨rfl,rfl⟩;have g1:=HGB.o.q1
 go_wp2_with fail
 refine (Ei A ca cols x0 _ S HA.o).mono ?_;rintro e2 w2' ⟨rfl,rfl⟩;cases hreg:EF cols rows
 ·go_wp2;go_ret;exact ⟨by rw [J9 (fun h=>by rw [hreg] at h;cases h.2.1)];rfl,HX1.o⟩
 have HREG:=Hd hreg;clear hreg;by_cases hxm:x0∈cols
 case neg =>
  have hi:Bt cols x0=-1:=Nd fun j hj e=>hxm (e ▸ List.getElem_mem hj);rw [hi];have HXM:=Hd hxm;clear hi hxm;go_wp2;go_ret;exact ⟨by rw [J9 (fun h=>HXM.o h.1)];rfl,HX1.o⟩
 obtain ⟨m0,hm0,hm0l,-,-⟩:=J5 ((Fl cols x0).2 hxm);rw [hm0];have HXM:=Hd hxm;have HM0:=Hd hm0;have g0:=HGB.o.q0;clear hxm hm0 g1;have hm00:decide ((m0:Int)<0)=false:=AC;go_wp2;clear hm00
 go_loop [9] (fun i=>∃ k:Nat,k≤frm.length∧i=.I k∧∀ j (h:j<frm.length),j<k→frm[j]∈cols) (fun i=>frm.length-(intOf i).toNat)
 case atStart=>exact ⟨0,AN,rfl,AK⟩
 case round =>
  obtain ⟨k,hk,rfl,hall⟩:=hrel;have HFA:=Hd hall;clear hall;by_cases hlt:k<frm.length
  ·obtain ⟨b1,o1,hC1,z1,q1⟩:=HC.o.at_ hlt;subst hC1;by_cases hfm:frm[k]∈cols
   ·obtain ⟨m1,hm1,-,-,-⟩:=J5 ((Fl cols frm[k]).2 hfm);have HFM:=Hd hfm;have HM1:=Hd hm1;clear hfm hm1
    go_wp2_with fail
    refine (Ei A ca cols frm[k] _ S HA.o).mono ?_;rintro e2 w2' ⟨rfl,rfl⟩;rw [HM1.o];have hm00:decide ((m1:Int)<0)=false:=AC;go_wp2
    go_round
    case rel =>
     refine ⟨k+1,AA,AE,fun j h hj => ?_⟩;by_cases hjk:j=k
     ·subst hjk;exact HFM.o
     ·exact HFA.o j h AA
    case measure=>simp [intOf];omega
   ·have HFM:=Hd hfm;have hi:Bt cols frm[k]=-1:=Nd fun j hj e=>hfm (e ▸ List.getElem_mem hj);have HI:=Hd hi;clear hfm hi
    go_wp2_with fail
    refine (Ei A ca cols frm[k] _ S HA.o).mono ?_;rintro e2 w2' ⟨rfl,rfl⟩;rw [HI.o];go_wp2;go_ret;exact ⟨by rw [J9 (fun h=>HFM.o (h.2.2.1 _ (List.getElem_mem hlt)))];rfl,HX1.o⟩
  ·have hfc:∀ f∈frm,f∈cols:=fun f hf=>by
    obtain ⟨j,hj,rfl⟩:=List.getElem_of_mem hf;exact HFA.o j hj AA
   have HFC:=Hd hfc;clear hfc HFA;go_wp2
   go_loopw [10] (fun v wr=>∃ i:Nat,i≤rows.length∧v=.I i∧Ext w1 wr∧∀ a b,a<i→b<a→XC cols rows frm x0 a b) (fun v _=>rows.length-(intOf v).toNat)
   case atStart=>exact ⟨0,AN,rfl,Ext.refl _,fun a b h=>absurd h AA⟩
   case round =>
    obtain ⟨i,hi,rfl,hext,hpr⟩:=hrel;have HE:=Hd hext;have HPR:=Hd hpr;clear hext hpr;by_cases hlti:i<rows.length
    ·go_wp2
     go_loopw [11] (fun v wr=>∃ j:Nat,j≤i∧v=.I j∧Ext w1 wr∧∀ b,b<j→XC cols rows frm x0 i b) (fun v _=>i-(intOf v).toNat)
     case atStart=>exact ⟨0,AN,rfl,HE.o,fun b h=>absurd h AA⟩
     case round =>
      clear HE;obtain ⟨j,hj,rfl,hext,hpj⟩:=hrel;have HE:=Hd hext;have HPJ:=Hd hpj;clear hext hpj;by_cases hltj:j<i
      ·have hltj':j<rows.length:=AA;go_wp2
       go_loopw [13,12] (fun v u wr=>∃ (k:Nat) (sm:Bool),k≤frm.length∧v=.I k∧u=.bool sm∧sm=(frm.take k).all (fun f=>Cx (Bt cols f).toNat rows[i] rows[j])∧Ext w1 wr) (fun v _ _=>frm.length-(intOf v).toNat)
       case atStart=>exact ⟨0,true,AN,rfl,rfl,rfl,HE.o⟩
       case round =>
        clear HE;obtain ⟨k,sm,hk2,rfl,rfl,hsm,hext⟩:=hrel;have HE:=Hd hext;have HSM:=Hd hsm;clear hext hsm;have g0:=HE.o.cell (HGB.o.q0);by_cases hltk:k<frm.length
        ·cases sm
         ·have hsame:frm.all (fun f=>Cx (Bt cols f).toNat rows[i] rows[j])=false:=by
           rw [←List.take_append_drop k frm,List.all_append,←HSM.o];rfl
          have HSA:=Hd hsame;clear hsame HSM
          go_upto_region 22 with fail
          obtain ⟨bB,oB,bi,oi,ei,bj,oj,ej,A1,c1,B1,e1,A2,c2,B2,e2,hBB,qi,pi,vi,qj,pj,vj⟩:=NT (i:=i) (j:=j) (m:=m0) (HB.o.keep (HE.o.kept _)) hlti hltj' CS Cg;subst hBB;obtain ⟨x,hx⟩:=eqx (rows[i][m0]'CS);obtain ⟨y,hy⟩:=eqx (rows[j][m0]'Cg);rw [←hx] at pi vi;rw [←hy] at pj vj;obtain ⟨z,hz⟩:=eqx (decide (x=y));obtain ⟨HZQ,HQI,HQJ,HPI⟩:=Hd4 (show z=Cx m0 rows[i] rows[j] by rw [XF hlti hltj' CS Cg,←hx,←hy];exact hz) qi qj pi;have HPJ0:=HPJ;obtain ⟨HPJ,HVI,HVJ,HZ⟩:=Hd4 pj vi vj hz;have hli:m0<rows[i].length:=CS;have hlj:m0<rows[j].length:=Cg;clear qi pi vi qj pj vj hx hy hz;obtain ⟨m,rfl⟩:=eqx m0;refine BZ AD (fun i=>[i]) AD LR LR.refl LR.trans (LN (al0)) (DhA bB oB rows.length cb i j m rows[i].length ei rows[j].length ej bi oi bj oj x y A1 c1 B1 e1 A2 c2 B2 e2 z) (CFA _ _ _ _ _ _ _ _ _ _ _ _ _ _ _ _ _ _ _ _ _ _ _ _ _ _) gh0 (LN.zero _) ⟨?_,?_,?_,?_,?_,?_,?_,?_,?_,?_,?_,?_,?_,?_,?_,?_,trivial⟩ ?_
          ·exact Lp
          ·exact Lp
          ·exact MW
          ·exact Ub
          ·exact Lp
          ·exact Lr
          ·exact Sz
          ·exact Lp
          ·exact Lp
          ·exact Lj
          ·exact QJ
          ·exact Lp
          ·exact ME
          ·exact Uv
          ·exact VW
          ·exact Lp
          ·intro vals γ w' hR hG;have h15:vals 15=.bool z:=hG 15 AB;have HX9:=Hd hR.drew_ext;clear hR hG;simp only [Ah,Act.put,List.setIfInBounds_toArray,List.set_cons_succ,List.set_cons_zero,Nat.zero_add,Nat.reduceAdd,h15];clear h15;go_wp2;go_roundw
           case rel =>
            exact PD
           case measure=>simp [intOf];omega
         ·obtain ⟨b1,o1,hC1,z1,q1⟩:=(HC.o.keep (HE.o.kept _)).at_ hltk;subst hC1;obtain ⟨m1,hm1,hm1l,-,-⟩:=J5 ((Fl cols frm[k]).2 (HFC.o _ (List.getElem_mem hltk)));have HM1:=Hd hm1;clear hm1
          go_wp2_with fail
          refine (Ei A ca cols frm[k] _ S (HA.o.keep (HE.o.kept _))).mono ?_;rintro e2 w2' ⟨rfl,rfl⟩;rw [HM1.o]
          go_upto_region 21 with fail
          obtain ⟨bB,oB,bi,oi,ei,bj,oj,ej,A1,c1,B1,e1,A2,c2,B2,e2,hBB,qi,pi,vi,qj,pj,vj⟩:=NT (i:=i) (j:=j) (m:=m1) (HB.o.keep (HE.o.kept _)) hlti hltj' Id Gf;subst hBB;obtain ⟨x,hx⟩:=eqx (rows[i][m1]'Id);obtain ⟨y,hy⟩:=eqx (rows[j][m1]'Gf);rw [←hx] at pi vi;rw [←hy] at pj vj;obtain ⟨z,hz⟩:=eqx (decide (x=y));obtain ⟨HZQ,HQI,HQJ,HPI⟩:=Hd4 (show z=Cx m1 rows[i] rows[j] by rw [XF hlti hltj' Id Gf,←hx,←hy];exact hz) qi qj pi;have HPJ0:=HPJ;obtain ⟨HPJ,HVI,HVJ,HZ⟩:=Hd4 pj vi vj hz;have hli:m1<rows[i].length:=Id;have hlj:m1<rows[j].length:=Gf;clear qi pi vi qj pj vj hx hy hz;obtain ⟨m,rfl⟩:=eqx m1;clear q1 g0;refine BZ AD (fun i=>[i]) AD LR LR.refl LR.trans (LN (al0)) (EjA bB oB rows.length cb i j m rows[i].length ei rows[j].length ej bi oi bj oj x y A1 c1 B1 e1 A2 c2 B2 e2 z) (E8A _ _ _ _ _ _ _ _ _ _ _ _ _ _ _ _ _ _ _ _ _ _ _ _ _ _) gh0 (LN.zero _) ⟨?_,?_,?_,?_,?_,?_,?_,?_,?_,?_,?_,?_,?_,?_,?_,?_,trivial⟩ ?_
          ·exact Lp
          ·exact Lp
          ·exact MW
          ·refine LinStep.yes fun vals γ w' ρ hR hN hp hρ hc hf hg=>⟨rfl,?_⟩;have e74:ρ (.tmp 74)=.pointer (some ⟨bB,oB+i,none⟩):=(hρ 74).trans (hp 2 AB);exact Tz
          ·exact Lp
          ·exact Lr
          ·refine LinStep.yes fun vals γ w' ρ hR hN hp hρ hc hf hg=>⟨rfl,?_⟩;have e77:ρ (.tmp 77)=.pointer (some ⟨bi,oi+m*7,none⟩):=(hρ 77).trans (hp 5 AB);exact Pk
          ·exact Lp
          ·exact Lp
          ·exact Lj
          ·refine LinStep.yes fun vals γ w' ρ hR hN hp hρ hc hf hg=>⟨rfl,?_⟩;have e81:ρ (.tmp 81)=.pointer (some ⟨bB,oB+j,none⟩):=(hρ 81).trans (hp 9 AB);exact RD
          ·exact Lp
          ·exact ME
          ·refine LinStep.yes fun vals γ w' ρ hR hN hp hρ hc hf hg=>⟨rfl,?_⟩;have e84:ρ (.tmp 84)=.pointer (some ⟨bj,oj+m*7,none⟩):=(hρ 84).trans (hp 12 AB);exact Pf
          ·refine LinStep.yes fun vals γ w' ρ hR hN hp hρ hc hf hg=>⟨rfl,?_⟩;have e78:ρ (.tmp 78)=(Vq x A1 c1 B1 e1):=(hρ 78).trans (hp 6 AB);have e85:ρ (.tmp 85)=(Vq y A2 c2 B2 e2):=(hρ 85).trans (hp 13 AB);exact Py
          ·exact Lp
          ·intro vals γ w' hR hG;have h15:vals 15=.bool z:=hG 15 AB;have HX9:=Hd hR.drew_ext;clear hR hG;simp only [Ah,Act.put,List.setIfInBounds_toArray,List.set_cons_succ,List.set_cons_zero,Nat.zero_add,Nat.reduceAdd,h15];clear h15;go_wp2;go_roundw
           case rel =>
            refine ⟨k+1,z,AA,AE,rfl,?_,HE.o.trans HX9.o⟩;rw [List.take_succ_eq_append_getElem hltk,List.all_append,←HSM.o];simp [HM1.o,HZQ.o]
           case measure=>simp [intOf];omega
        ·have hsame:frm.all (fun f=>Cx (Bt cols f).toNat rows[i] rows[j])=sm:=(by rw [HSM.o,List.take_of_length_le AA]);have HSA:=Hd hsame;clear hsame HSM
         go_upto_region 22 with fail
         obtain ⟨bB,oB,bi,oi,ei,bj,oj,ej,A1,c1,B1,e1,A2,c2,B2,e2,hBB,qi,pi,vi,qj,pj,vj⟩:=NT (i:=i) (j:=j) (m:=m0) (HB.o.keep (HE.o.kept _)) hlti hltj' CS Cg;subst hBB;obtain ⟨x,hx⟩:=eqx (rows[i][m0]'CS);obtain ⟨y,hy⟩:=eqx (rows[j][m0]'Cg);rw [←hx] at pi vi;rw [←hy] at pj vj;obtain ⟨z,hz⟩:=eqx (decide (x=y));obtain ⟨HZQ,HQI,HQJ,HPI⟩:=Hd4 (show z=Cx m0 rows[i] rows[j] by rw [XF hlti hltj' CS Cg,←hx,←hy];exact hz) qi qj pi;have HPJ0:=HPJ;obtain ⟨HPJ,HVI,HVJ,HZ⟩:=Hd4 pj vi vj hz;have hli:m0<rows[i].length:=CS;have hlj:m0<rows[j].length:=Cg;clear qi pi vi qj pj vj hx hy hz;obtain ⟨m,rfl⟩:=eqx m0;refine BZ AD (fun i=>[i]) AD LR LR.refl LR.trans (LN (al0)) (DhA bB oB rows.length cb i j m rows[i].length ei rows[j].length ej bi oi bj oj x y A1 c1 B1 e1 A2 c2 B2 e2 z) (CFA _ _ _ _ _ _ _ _ _ _ _ _ _ _ _ _ _ _ _ _ _ _ _ _ _ _) gh0 (LN.zero _) ⟨?_,?_,?_,?_,?_,?_,?_,?_,?_,?_,?_,?_,?_,?_,?_,?_,trivial⟩ ?_
         ·exact Lp
         ·exact Lp
         ·exact MW
         ·exact Ub
         ·exact Lp
         ·exact Lr
         ·exact Sz
         ·exact Lp
         ·exact Lp
         ·exact Lj
         ·exact QJ
         ·exact Lp
         ·exact ME
         ·exact Uv
         ·exact VW
         ·exact Lp
         ·intro vals γ w' hR hG;have h15:vals 15=.bool z:=hG 15 AB;have HX9:=Hd hR.drew_ext;clear hR hG;simp only [Ah,Act.put,List.setIfInBounds_toArray,List.set_cons_succ,List.set_cons_zero,Nat.zero_add,Nat.reduceAdd,h15];clear h15;cases sm
          ·skip
           go_wp2;go_roundw
           case rel =>
            exact PD
           case measure=>simp [intOf];omega
          ·cases z
           ·skip
            go_wp2;go_ret;refine ⟨?_,(HX1.o.trans HE.o).trans HX9.o⟩;have hno:BH cols rows frm x0=false:=J9 fun h=>by
             have hp:=h.2.2.2 i j hltj hlti hltj' (fun f hf=>List.all_eq_true.1 HSA.o f hf);rw [HM0.o,Int.toNat_natCast,←HZQ.o] at hp;cases hp
            rw [hno];rfl
           ·skip
            go_wp2;go_roundw
            case rel =>
             refine ⟨j+1,AA,AE,HE.o.trans HX9.o,fun b hb => ?_⟩;by_cases hbj:b=j
             ·subst hbj;intro ha hb2 hf;rw [HM0.o,Int.toNat_natCast,←HZQ.o]
             ·exact HPJ0.o b AA
            case measure=>simp [intOf];omega
      ·go_wp2;go_roundw
       case rel =>
        refine ⟨i+1,AA,AE,HE.o,fun a b ha hb => ?_⟩;by_cases hai:a=i
        ·subst hai;exact HPJ.o b AA
        ·exact HPR.o a b AA hb
       case measure=>simp [intOf];omega
    ·go_wp2;go_ret;refine ⟨?_,HX1.o.trans HE.o⟩;rw [W5 HXM.o HREG.o HFC.o (fun a b hb ha hb2=>HPR.o a b AA hb ha hb2)];rfl

def Gn(rows:List (List Val))(n i:Nat):Bool:=F9 rows n [i]
def Yu(rows:List (List Val))(n i j:Nat):Bool:=!Gn rows n i&&!Gn rows n j&&F9 rows n [i,j]
def KQ(cols:List BA)(rows:List (List Val))(i:Nat):List Dep:=if Gn rows cols.length i=true then Ch cols [(i:Int)] cols.length else []
def KO(cols:List BA)(rows:List (List Val))(i j:Nat):List Dep:=if Yu rows cols.length i j=true then Ch cols [(i:Int),(j:Int)] cols.length else []
def B7A(cols:List BA)(rows:List (List Val)):List Dep :=
 if !Lw cols||!EF cols rows then [] else if F9 rows cols.length []=true then Ch cols [] cols.length
 else (List.range cols.length).flatMap (KQ cols rows)++(List.range cols.length).flatMap fun i=>(List.range' (i+1) (cols.length-(i+1))).flatMap (KO cols rows i)
theorem CVA(cols:List BA)(rows:List (List Val))(st:List (List Int) × List Dep)(h:[]∈st.1):∀ l:List (List Int),l.foldl (BN cols rows) st=st:=by
 intro l
 induction l with
 |nil=>rfl
 |cons s m ih =>
  rw [List.foldl_cons];have:BN cols rows st s=st:=by
   unfold BN;rw [if_pos];exact List.any_eq_true.2 ⟨[],h,rfl⟩
  rw [this,ih]
theorem OU(j:Nat)(s:List Int):MG [(j:Int)] s=decide ((j:Int)∈s):=by
 unfold MG KC;rw [Bool.eq_iff_iff];simp
theorem DrA(cols:List BA)(rows:List (List Val)):∀ m,((List.range m).map fun i:Nat=>[(i:Int)]).foldl (BN cols rows) ([],[])=(((List.range m).filter (Gn rows cols.length)).map fun i:Nat=>[(i:Int)],(List.range m).flatMap (KQ cols rows)):=by
 intro m
 induction m with
 |zero=>rfl
 |succ m ih =>
  rw [List.range_succ,List.map_append,List.foldl_append,ih,List.filter_append,List.map_append,List.flatMap_append];show BN cols rows _ [(m:Int)]=_;unfold BN;rw [if_neg]
  ·have hs:F9 rows cols.length ([(m:Int)].map Int.toNat)=Gn rows cols.length m:=rfl;rw [hs];cases h:Gn rows cols.length m<;>simp [h,KQ]
  ·intro hh;obtain ⟨k,hk,h2⟩:=List.any_eq_true.1 hh;obtain ⟨i,hi,rfl⟩:=List.mem_map.1 hk;have:=List.mem_range.1 (List.mem_filter.1 hi).1;rw [OU] at h2;simp at h2;omega
def mkP(p:Nat × Nat):List Int:=[(p.1:Int),(p.2:Int)]
theorem DdA(cols:List BA)(rows:List (List Val))(K0:List (List Int))(n:Nat)(hK:K0=((List.range n).filter (Gn rows cols.length)).map fun i:Nat=>[(i:Int)]) :
  ∀ (L D:List (Nat × Nat)),(D++L).Nodup→(∀ p∈D++L,p.1<p.2∧p.2<n)→∀ ds,((L.map mkP).foldl (BN cols rows) (K0++(D.filter fun p=>Yu rows cols.length p.1 p.2).map mkP,ds)).2=ds++L.flatMap fun p=>KO cols rows p.1 p.2:=by
 intro L
 induction L with
 |nil=>intro D _ _ ds;simp
 |cons p L ih =>
  intro D hn hl ds;have hD:p ∉ D:=fun hm=>by
   have:=(List.nodup_append.1 hn).2.2 p hm p AC;exact this rfl
  obtain ⟨hp1,hp2⟩:=hl p AC;have hn':((D++[p])++L).Nodup:=(by simpa using hn);have hl':∀ q∈(D++[p])++L,q.1<q.2∧q.2<n:=GJ;rw [List.map_cons,List.foldl_cons,List.flatMap_cons];have hany:((K0++(D.filter fun p=>Yu rows cols.length p.1 p.2).map mkP).any fun k=>MG k (mkP p))=(Gn rows cols.length p.1||Gn rows cols.length p.2):=by
   rw [Bool.eq_iff_iff,List.any_eq_true,Bool.or_eq_true];constructor
   ·rintro ⟨k,hk,h2⟩
    rcases List.mem_append.1 hk with hk|hk
    ·rw [hK] at hk;obtain ⟨i,hi,rfl⟩:=List.mem_map.1 hk;have hs:=(List.mem_filter.1 hi).2;rw [OU] at h2;have h3:i=p.1∨i=p.2:=by
      have:=of_decide_eq_true h2;simp [mkP] at this;omega
     rcases h3 with rfl|rfl
     ·exact .inl hs
     ·exact .inr hs
    ·exfalso;obtain ⟨q,hq,rfl⟩:=List.mem_map.1 hk;have hqD:=(List.mem_filter.1 hq).1;have hql:=hl q (by simp [hqD]);unfold MG KC mkP at h2;simp at h2;have:q=p:=by
      have h1:q.1=p.1:=AA;have h3:q.2=p.2:=AA;exact Prod.ext h1 h3
     exact hD (this ▸ hqD)
   ·intro h;have hin:∀ i,i<n→Gn rows cols.length i=true→[(i:Int)]∈K0:=fun i hi hs=>by
     rw [hK];exact List.mem_map.2 ⟨i,List.mem_filter.2 ⟨List.mem_range.2 hi,hs⟩,rfl⟩
    rcases h with h|h
    ·exact ⟨[(p.1:Int)],List.mem_append.2 (.inl (hin _ AA h)),by rw [OU];simp [mkP]⟩
    ·exact ⟨[(p.2:Int)],List.mem_append.2 (.inl (hin _ AA h)),by rw [OU];simp [mkP]⟩
  have hst:BN cols rows (K0++(D.filter fun p=>Yu rows cols.length p.1 p.2).map mkP,ds) (mkP p)=(K0++((D++[p]).filter fun p=>Yu rows cols.length p.1 p.2).map mkP,ds++KO cols rows p.1 p.2):=by
   unfold BN;dsimp only;rw [hany];have hk:F9 rows cols.length ((mkP p).map Int.toNat)=F9 rows cols.length [p.1,p.2]:=rfl;rw [hk];have hd:Yu rows cols.length p.1 p.2=(!Gn rows cols.length p.1&&!Gn rows cols.length p.2&&F9 rows cols.length [p.1,p.2]):=rfl;rw [List.filter_append,List.map_append];unfold KO;cases h1:Gn rows cols.length p.1<;>cases h2:Gn rows cols.length p.2<;>cases h3:F9 rows cols.length [p.1,p.2]<;>simp [hd,h1,h2,h3,mkP]
  rw [hst,ih (D++[p]) hn' hl' _,List.append_assoc]
theorem ENA(n:Nat):(List.range n).flatMap (GW n)=(((List.range n).flatMap fun i=>(List.range' (i+1) (n-(i+1))).map fun j=>(i,j))).map mkP:=by
 rw [List.map_flatMap];congr 1
 funext i
 unfold GW;rw [List.map_map];rfl
theorem Xr(n:Nat):((List.range n).flatMap fun i=>(List.range' (i+1) (n-(i+1))).map fun j=>(i,j)).Nodup:=by
 unfold List.Nodup;rw [List.pairwise_flatMap];refine ⟨fun i _ => ?_,?_⟩
 ·rw [List.pairwise_map];refine List.Pairwise.imp ?_ (List.nodup_range' (s:=i+1) (n:=n-(i+1)));intro a b hab he;exact hab (congrArg Prod.snd he)
 ·refine List.Pairwise.imp ?_ (List.nodup_range (n:=n));intro a b hab x hx y hy he;obtain ⟨_,_,rfl⟩:=List.mem_map.1 hx;obtain ⟨_,_,rfl⟩:=List.mem_map.1 hy;exact hab (congrArg Prod.fst he)
theorem EMA(n:Nat):∀ p∈(List.range n).flatMap fun i=>(List.range' (i+1) (n-(i+1))).map fun j=>(i,j),p.1<p.2∧p.2<n:=by
 intro p hp;obtain ⟨i,hi,h2⟩:=List.mem_flatMap.1 hp;obtain ⟨j,hj,rfl⟩:=List.mem_map.1 h2;have:=List.mem_range.1 hi;rw [List.mem_range'_1] at hj;exact ⟨by show i<j;omega,by show j<n;omega⟩
theorem YI(cols:List BA)(rows:List (List Val)):Co cols rows=B7A cols rows:=by
 unfold Co B7A;split
 ·rfl
 ·unfold Fz;rw [List.append_assoc,List.foldl_append];cases h0:F9 rows cols.length []
  ·have h1:[([]:List Int)].foldl (BN cols rows) ([],[])=([],[]):=by
    show BN cols rows ([],[]) []=_;unfold BN;have hk:F9 rows cols.length (([]:List Int).map Int.toNat)=false:=h0;rw [hk];rfl
   rw [h1,if_neg AC,List.foldl_append,DrA,ENA];have h2:=DdA cols rows _ cols.length rfl _ [] (by simpa using Xr cols.length) (by simpa using EMA cols.length) ((List.range cols.length).flatMap (KQ cols rows));rw [show (([]:List (Nat × Nat)).filter fun p=>Yu rows cols.length p.1 p.2).map mkP=[] from rfl,List.append_nil] at h2;rw [h2,List.flatMap_assoc];congr 2
   funext i
   rw [List.flatMap_map]
  ·rw [if_pos rfl];have h1:[([]:List Int)].foldl (BN cols rows) ([],[])=([[]],Ch cols [] cols.length):=by
    show BN cols rows ([],[]) []=_;unfold BN;have hk:F9 rows cols.length (([]:List Int).map Int.toNat)=true:=h0;rw [hk];rfl
   rw [h1,CVA _ _ _ AC]
theorem Nl{cols:List BA}{rows:List (List Val)}(hn:cols.Nodup)(hr:EF cols rows=true)(s:List Nat)(hs:∀ c∈s,c<cols.length) :
  F9 rows cols.length s=cols.all fun x=>BH cols rows (s.map fun c=>cols.getD c ⟨#[]⟩) x:=by
 have hfr:(s.map fun c=>cols.getD c ⟨#[]⟩).all (fun f=>decide (0≤Bt cols f))=true:=by
  rw [List.all_eq_true];intro f hf;obtain ⟨c,hc,rfl⟩:=List.mem_map.1 hf;exact decide_eq_true ((Fl _ _).2 (I2 hn (hs c hc)).1)
 have hfi:(s.map fun c=>cols.getD c ⟨#[]⟩).map (fun f=>(Bt cols f).toNat)=s:=by
  rw [List.map_map];have:s.map ((fun f=>(Bt cols f).toNat) ∘ fun c=>cols.getD c ⟨#[]⟩)=s.map id:=List.map_congr_left fun c hc=>(I2 hn (hs c hc)).2;rw [this,List.map_id]
 have hh:∀ c,c<cols.length→BH cols rows (s.map fun c=>cols.getD c ⟨#[]⟩) (cols.getD c ⟨#[]⟩)=Gk rows s c:=by
  intro c hc;unfold BH;rw [hfr,hfi,hr,(I2 hn hc).2,decide_eq_true ((Fl _ _).2 (I2 hn hc).1)];simp
 unfold F9;rw [Bool.eq_iff_iff,List.all_eq_true,List.all_eq_true];constructor
 ·intro h x hx;obtain ⟨c,hc,rfl⟩:=List.mem_iff_getElem.1 hx;have:=hh c hc;rw [BM _ _ _ hc] at this;rw [this];exact h c (List.mem_range.2 hc)
 ·intro h c hc;have hc:=List.mem_range.1 hc;rw [←hh c hc];exact h _ (by rw [BM _ _ _ hc];exact List.getElem_mem hc)
theorem LH{cols:List BA}(hn:cols.Nodup)(s:List Nat)(hs:∀ c∈s,c<cols.length)(m:Nat)(hm:m≤cols.length) :
  Ch cols (s.map fun c:Nat=>(c:Int)) m=((cols.take m).filter fun x=>decide (Bt (s.map fun c=>cols.getD c ⟨#[]⟩) x<0)).map fun x=>⟨s.map fun c=>cols.getD c ⟨#[]⟩,x⟩:=by
 have hns:Dd cols (s.map fun c:Nat=>(c:Int))=s.map fun c=>cols.getD c ⟨#[]⟩:=by
  unfold Dd;rw [List.map_map];rfl
 induction m with
 |zero=>rfl
 |succ m ih =>
  rw [Jg,ih AA,List.take_succ_eq_append_getElem AA,List.filter_append,List.map_append,hns];congr 1;have he:KC (s.map fun c:Nat=>(c:Int)) (m:Int) = !decide (Bt (s.map fun c=>cols.getD c ⟨#[]⟩) cols[m]<0):=by
   have h1:Bt (s.map fun c=>cols.getD c ⟨#[]⟩) cols[m]<0↔cols[m] ∉ s.map fun c=>cols.getD c ⟨#[]⟩:=by
    rw [←Fl];omega
   have h2:(cols[m]∈s.map fun c=>cols.getD c ⟨#[]⟩)↔m∈s:=by
    constructor
    ·intro h;obtain ⟨c,hc,he⟩:=List.mem_map.1 h;have hcl:=hs c hc;rw [BM _ _ _ hcl] at he;have:=(List.getElem_inj hn).1 he;exact this ▸ hc
    ·intro h;exact List.mem_map.2 ⟨m,h,BM _ _ _ AA⟩
   unfold KC;rw [Bool.eq_iff_iff,List.any_eq_true,Bool.not_eq_true',decide_eq_false_iff_not,h1,Classical.not_not,h2];constructor
   ·rintro ⟨x,hx,hd⟩;obtain ⟨c,hc,rfl⟩:=List.mem_map.1 hx;have:=of_decide_eq_true hd;have:c=m:=AA;exact this ▸ hc
   ·intro h;exact ⟨(m:Int),List.mem_map.2 ⟨m,h,rfl⟩,AC⟩
  rw [he,BM _ _ _ (show m<cols.length by omega)];cases hd:decide (Bt (s.map fun c=>cols.getD c ⟨#[]⟩) cols[m]<0)<;>simp only [List.filter_cons,List.filter_nil,hd]<;>rfl
end Go.Proofs.YtidacnalcdhckaaGreatDoor
