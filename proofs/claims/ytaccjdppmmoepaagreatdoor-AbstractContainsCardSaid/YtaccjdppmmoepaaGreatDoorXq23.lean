/- Lemmas. No conditions. -/
import Derived.Test.YtaccjdppmmoepaaGreatDoorXq16
set_option maxRecDepth 100000
set_option maxHeartbeats 4000000
namespace Go.Proofs.YtaccjdppmmoepaaGreatDoor
open Go Go.RowKit Tryz
variable {qP:Prop}{cols frm:List BA}{i j m:Nat}{rows:List (List Val)}{x:BA}

def XC(cols:List BA)(rows:List (List Val))(frm:List BA)(x:BA)(a b:Nat):Prop:=∀ (ha:a<rows.length) (hb:b<rows.length),(∀ f∈frm,Cx (Bt cols f).toNat rows[a] rows[b]=true)->Cx (Bt cols x).toNat rows[a] rows[b]=true
theorem WG(c:Nat)(r o:List Val):Cx c r o=Cx c o r:=by unfold Cx;rw [Bool.eq_iff_iff];simp only [decide_eq_true_eq];exact eq_comm
theorem CbA(c:Nat)(r:List Val):Cx c r r=true:=by simp [Cx]
theorem W5(h1:x∈cols)(h2:EF cols rows=true)(h3:∀ f∈frm,f∈cols)(h4:∀ a b,b<a->XC cols rows frm x a b):BH cols rows frm x=true:=by
 refine EU.2 ⟨h1,h2,h3,λr hr o ho hf => ?_⟩;obtain ⟨a,ha,rfl⟩:=List.getElem_of_mem hr;obtain ⟨b,hb,rfl⟩:=List.getElem_of_mem ho
 rcases Nat.lt_trichotomy a b with h|h|h
 ·rw [WG];exact h4 b a h hb ha λf hf'=>by rw [WG];exact hf f hf'
 ·subst h;exact CbA _ _
 ·exact h4 a b h ha hb hf
theorem J9(h:¬(x∈cols/\EF cols rows=true/\(∀ f∈frm,f∈cols)/\∀ a b,b<a->XC cols rows frm x a b)):BH cols rows frm x=false:=by
 rw [Bool.eq_false_iff];intro e;obtain ⟨h1,h2,h3,h4⟩:=EU.1 e;exact h ⟨h1,h2,h3,λa b _ ha hb hf=>h4 _ (List.getElem_mem ha) _ (List.getElem_mem hb) hf⟩
theorem OR(h:EF cols rows=true)(hi:i<rows.length):rows[i].length=cols.length:=by
 unfold EF at h;rw [List.all_eq_true] at h
 simpa using h _ (List.getElem_mem hi)
theorem NT{w:World}{T:NP}{q:Nat}{B:OA}(h:Rows w T q B rows)(hi:i<rows.length)(hj:j<rows.length)(hmi:m<rows[i].length)(hmj:m<rows[j].length) :
  ∃ bB oB bi oi ei bj oj ej A1 c1 B1 e1 A2 c2 B2 e2,B=some ⟨bB,oB,none⟩/\w.cell? ⟨bB,oB+i,none⟩=some (.slice (some ⟨bi,oi,none⟩) rows[i].length ei)/\(w.cell? ⟨bi,oi+m*7,none⟩=some (.I rows[i][m].kind)/\w.cell? ⟨bi,oi+m*7+1,none⟩=some (.string rows[i][m].s)/\w.cell? ⟨bi,oi+m*7+2,none⟩=some (.I rows[i][m].dn)/\w.cell? ⟨bi,oi+m*7+3,none⟩=some (.I rows[i][m].ds)/\w.cell? ⟨bi,oi+m*7+4,none⟩=some (.I rows[i][m].n)/\w.cell? ⟨bi,oi+m*7+5,none⟩=some (.slice A1 rows[i][m].cols.length c1)/\w.cell? ⟨bi,oi+m*7+6,none⟩=some (.slice B1 rows[i][m].rows.length e1))/\RV w T q rows[i][m] A1 B1 /\
   w.cell? ⟨bB,oB+j,none⟩=some (.slice (some ⟨bj,oj,none⟩) rows[j].length ej)/\(w.cell? ⟨bj,oj+m*7,none⟩=some (.I rows[j][m].kind)/\w.cell? ⟨bj,oj+m*7+1,none⟩=some (.string rows[j][m].s)/\w.cell? ⟨bj,oj+m*7+2,none⟩=some (.I rows[j][m].dn)/\w.cell? ⟨bj,oj+m*7+3,none⟩=some (.I rows[j][m].ds)/\w.cell? ⟨bj,oj+m*7+4,none⟩=some (.I rows[j][m].n)/\w.cell? ⟨bj,oj+m*7+5,none⟩=some (.slice A2 rows[j][m].cols.length c2)/\w.cell? ⟨bj,oj+m*7+6,none⟩=some (.slice B2 rows[j][m].rows.length e2))/\RV w T q rows[j][m] A2 B2:=by
 obtain ⟨bB,oB,Ci,ei,hB,_,q1,_,r1⟩:=h.at_ hi;obtain ⟨U,Y,Z,ej,O,_,q2,_,r2⟩:=h.at_ hj;obtain ⟨rfl,rfl⟩:U=bB/\Y=oB:=by rw [hB] at O;injection O with O;injection O with h1 h2;exact ⟨h1.symm,h2.symm⟩
 obtain ⟨bi,oi,A1,c1,B1,e1,rfl,_,p1,_,v1⟩:=r1.at_ hmi;obtain ⟨bj,oj,A2,c2,B2,e2,rfl,_,p2,_,v2⟩:=r2.at_ hmj;exact ⟨_,_,bi,oi,ei,bj,oj,ej,A1,c1,B1,e1,A2,c2,B2,e2,hB,q1,p1,v1.up AA,q2,p2,v2.up AA⟩
theorem XF(hi:i<rows.length)(hj:j<rows.length)(hmi:m<rows[i].length)(hmj:m<rows[j].length):Cx m rows[i] rows[j]=decide (rows[i][m]=rows[j][m]):=by
 unfold Cx;rw [Bool.eq_iff_iff];simp [hmi,hmj];exact eq_comm
def HfA(bB:Nat)(oB:Nat)(n:Nat)(cb:Nat)(ii:Nat)(jj:Nat)(m:Nat)(li:Nat)(ei:Nat)(lj:Nat)(ej:Nat)(bi:Nat)(oi:Nat)(bj:Nat)(oj:Nat)(x:Val)(y:Val)(A1:OA)(c1:Nat)(B1:OA)(e1:Nat)(A2:OA)(c2:Nat)(B2:OA)(e2:Nat)(z:Bool):Nat->Value
 |0=>.slice (some ⟨bB,oB,none⟩) n cb
 |1=>.I (ii:Int)
 |2=>.pointer (some ⟨bB,oB+ii,none⟩)
 |3=>.slice (some ⟨bi,oi,none⟩) li ei
 |4=>.I (m:Int)
 |5=>.pointer (some ⟨bi,oi+m*7,none⟩)
 |6=>(Vq x A1 c1 B1 e1)
 |7=>.slice (some ⟨bB,oB,none⟩) n cb
 |8=>.I (jj:Int)
 |9=>.pointer (some ⟨bB,oB+jj,none⟩)
 |10=>.slice (some ⟨bj,oj,none⟩) lj ej
 |11=>.I (m:Int)
 |12=>.pointer (some ⟨bj,oj+m*7,none⟩)
 |13=>(Vq y A2 c2 B2 e2)
 |14=>.bool z
 |15=>.bool z
 |_=>undef
def EjA(bB:Nat)(oB:Nat)(n:Nat)(cb:Nat)(ii:Nat)(jj:Nat)(m:Nat)(li:Nat)(ei:Nat)(lj:Nat)(ej:Nat)(bi:Nat)(oi:Nat)(bj:Nat)(oj:Nat)(x:Val)(y:Val)(A1:OA)(c1:Nat)(B1:OA)(e1:Nat)(A2:OA)(c2:Nat)(B2:OA)(e2:Nat)(z:Bool)(i:Nat)(l:List Value)(_γ:Gh)(_w':World):Prop:=match l with
 |[v]=>v=HfA bB oB n cb ii jj m li ei lj ej bi oi bj oj x y A1 c1 B1 e1 A2 c2 B2 e2 z i
 |_=>True
theorem E8A(bB:Nat)(oB:Nat)(n:Nat)(cb:Nat)(ii:Nat)(jj:Nat)(m:Nat)(li:Nat)(ei:Nat)(lj:Nat)(ej:Nat)(bi:Nat)(oi:Nat)(bj:Nat)(oj:Nat)(x:Val)(y:Val)(A1:OA)(c1:Nat)(B1:OA)(e1:Nat)(A2:OA)(c2:Nat)(B2:OA)(e2:Nat)(z:Bool):∀ i l F w γ' J,LR F w γ' J->EjA bB oB n cb ii jj m li ei lj ej bi oi bj oj x y A1 c1 B1 e1 A2 c2 B2 e2 z i l F w->EjA bB oB n cb ii jj m li ei lj ej bi oi bj oj x y A1 c1 B1 e1 A2 c2 B2 e2 z i l γ' J:=by
 intro i l F w γ' J r h
 match l,h with
 |[v],h =>
  unfold EjA at h|-;exact h
 |[],_=>trivial
 |_::_::_,_=>trivial
def HwA(bB:Nat)(oB:Nat)(n:Nat)(cb:Nat)(ii:Nat)(jj:Nat)(m:Nat)(li:Nat)(ei:Nat)(lj:Nat)(ej:Nat)(bi:Nat)(oi:Nat)(bj:Nat)(oj:Nat)(x:Val)(y:Val)(A1:OA)(c1:Nat)(B1:OA)(e1:Nat)(A2:OA)(c2:Nat)(B2:OA)(e2:Nat)(z:Bool):Nat->Value
 |0=>.slice (some ⟨bB,oB,none⟩) n cb
 |1=>.I (ii:Int)
 |2=>.pointer (some ⟨bB,oB+ii,none⟩)
 |3=>.slice (some ⟨bi,oi,none⟩) li ei
 |4=>.I (m:Int)
 |5=>.pointer (some ⟨bi,oi+m*7,none⟩)
 |6=>(Vq x A1 c1 B1 e1)
 |7=>.slice (some ⟨bB,oB,none⟩) n cb
 |8=>.I (jj:Int)
 |9=>.pointer (some ⟨bB,oB+jj,none⟩)
 |10=>.slice (some ⟨bj,oj,none⟩) lj ej
 |11=>.I (m:Int)
 |12=>.pointer (some ⟨bj,oj+m*7,none⟩)
 |13=>(Vq y A2 c2 B2 e2)
 |14=>.bool z
 |15=>.bool z
 |_=>undef
def DhA(bB:Nat)(oB:Nat)(n:Nat)(cb:Nat)(ii:Nat)(jj:Nat)(m:Nat)(li:Nat)(ei:Nat)(lj:Nat)(ej:Nat)(bi:Nat)(oi:Nat)(bj:Nat)(oj:Nat)(x:Val)(y:Val)(A1:OA)(c1:Nat)(B1:OA)(e1:Nat)(A2:OA)(c2:Nat)(B2:OA)(e2:Nat)(z:Bool)(i:Nat)(l:List Value)(_γ:Gh)(_w':World):Prop:=match l with
 |[v]=>v=HwA bB oB n cb ii jj m li ei lj ej bi oi bj oj x y A1 c1 B1 e1 A2 c2 B2 e2 z i
 |_=>True
theorem CFA(bB:Nat)(oB:Nat)(n:Nat)(cb:Nat)(ii:Nat)(jj:Nat)(m:Nat)(li:Nat)(ei:Nat)(lj:Nat)(ej:Nat)(bi:Nat)(oi:Nat)(bj:Nat)(oj:Nat)(x:Val)(y:Val)(A1:OA)(c1:Nat)(B1:OA)(e1:Nat)(A2:OA)(c2:Nat)(B2:OA)(e2:Nat)(z:Bool):∀ i l F w γ' J,LR F w γ' J->DhA bB oB n cb ii jj m li ei lj ej bi oi bj oj x y A1 c1 B1 e1 A2 c2 B2 e2 z i l F w->DhA bB oB n cb ii jj m li ei lj ej bi oi bj oj x y A1 c1 B1 e1 A2 c2 B2 e2 z i l γ' J:=by
 intro i l F w γ' J r h
 match l,h with
 |[v],h =>
  unfold DhA at h|-;exact h
 |[],_=>trivial
 |_::_::_,_=>trivial
theorem MW(h:qP:=by
 have i0:(0:Int)<=(i:Int):=(by omega);have i1:(i:Int)<(rows.length:Int):=(by omega);exact Lp):qP:=h
theorem Tz(h:qP:=by
 have hx:=hR.drew_ext;have p1:=hx.cell HQI.o;exact Dl):qP:=h
theorem Ub(h:qP:=by
 refine LinStep.yes λV F J L hR hN hp hρ hc hf hg=>⟨rfl,?_⟩;have e89:L (.tmp 89)=.pointer (some ⟨bB,oB+i,none⟩):=(hρ 89).trans (hp 2 (by decide));exact Tz):qP:=h
theorem Lr(h:qP:=by
 have i0:(0:Int)<=(m:Int):=(by omega);have i1:(m:Int)<(rows[i].length:Int):=(by omega);exact Lp):qP:=h
theorem Pk(h:qP:=by
 have hx:=hR.drew_ext;have p0:=hx.cell HPI.o.1;have p1:=hx.cell HPI.o.2.1;have p2:=hx.cell HPI.o.2.2.1;have p3:=hx.cell HPI.o.2.2.2.1;have p4:=hx.cell HPI.o.2.2.2.2.1;have p5:=hx.cell HPI.o.2.2.2.2.2.1;have p6:=hx.cell HPI.o.2.2.2.2.2.2;exact Dl):qP:=h
theorem Sz(h:qP:=by
 refine LinStep.yes λV F J L hR hN hp hρ hc hf hg=>⟨rfl,?_⟩;have e92:L (.tmp 92)=.pointer (some ⟨bi,oi+m*7,none⟩):=(hρ 92).trans (hp 5 (by decide));exact Pk):qP:=h
theorem Lj(h:qP:=by
 have i0:(0:Int)<=(j:Int):=(by omega);have i1:(j:Int)<(rows.length:Int):=(by omega);exact Lp):qP:=h
theorem RD(h:qP:=by
 have hx:=hR.drew_ext;have p1:=hx.cell HQJ.o;exact Dl):qP:=h
theorem QJ(h:qP:=by
 refine LinStep.yes λV F J L hR hN hp hρ hc hf hg=>⟨rfl,?_⟩;have e96:L (.tmp 96)=.pointer (some ⟨bB,oB+j,none⟩):=(hρ 96).trans (hp 9 (by decide));exact RD):qP:=h
theorem ME(h:qP:=by
 have i0:(0:Int)<=(m:Int):=(by omega);have i1:(m:Int)<(rows[j].length:Int):=(by omega);exact Lp):qP:=h
theorem Pf(h:qP:=by
 have hx:=hR.drew_ext;have p0:=hx.cell HPJ.o.1;have p1:=hx.cell HPJ.o.2.1;have p2:=hx.cell HPJ.o.2.2.1;have p3:=hx.cell HPJ.o.2.2.2.1;have p4:=hx.cell HPJ.o.2.2.2.2.1;have p5:=hx.cell HPJ.o.2.2.2.2.2.1;have p6:=hx.cell HPJ.o.2.2.2.2.2.2;exact Dl):qP:=h
theorem Uv(h:qP:=by
 refine LinStep.yes λV F J L hR hN hp hρ hc hf hg=>⟨rfl,?_⟩;have e99:L (.tmp 99)=.pointer (some ⟨bj,oj+m*7,none⟩):=(hρ 99).trans (hp 12 (by decide));exact Pf):qP:=h
theorem Py(h:qP:=by
 have hx:=hR.drew_ext;have HR:=Hd hR;have HN:=Hd hN;clear hR hN hp hρ hx;go_light;go_simp;refine (Dn q x y A1 B1 A2 B2 c1 e1 c2 e2 _ T T (HVI.o.keep (HR.o.drew_ext.kept _)) (HVJ.o.keep (HR.o.drew_ext.kept _))).mono ?_;rintro e' w3 ⟨he,hx⟩;rw [<-HZ.o] at he;exact ⟨_,he,F,IFA F hx,λ_ _ _ h=>h,rfl⟩):qP:=h
theorem VW(h:qP:=by
 refine LinStep.yes λV F J L hR hN hp hρ hc hf hg=>⟨rfl,?_⟩;have e93:L (.tmp 93)=(Vq x A1 c1 B1 e1):=(hρ 93).trans (hp 6 (by decide));have e100:L (.tmp 100)=(Vq y A2 c2 B2 e2):=(hρ 100).trans (hp 13 (by decide));exact Py):qP:=h
theorem Z3(h:qP:=by
 subst hbj;intro ha hb2 hf;exact absurd (List.all_eq_true.2 hf) (by rw [HSA.o];simp)):qP:=h
theorem PD(h:qP:=by
 refine ⟨j+1,by omega,by go_num,HE.o.trans HX9.o,λb hb => ?_⟩;by_cases hbj:b=j
 ·exact Z3
 ·exact HPJ0.o b (by omega)):qP:=h
theorem CS(h:qP:=by rw [OR HREG.o hlti];exact hm0l):qP:=h
theorem Cg(h:qP:=by rw [OR HREG.o hltj'];exact hm0l):qP:=h
theorem Id(h:qP:=by rw [OR HREG.o hlti];exact hm1l):qP:=h
theorem Gf(h:qP:=by rw [OR HREG.o hltj'];exact hm1l):qP:=h
theorem CyA(q:Nat)(cols:List BA)(rows:List (List Val))(frm:List BA)(x0:BA)(A B C:OA)(ca cb cc:Nat)(w:World)(S T U:NP)(hA:Strs w S A cols)(hB:Rows w T q B rows)(hC:Strs w U C frm) :
  Cl 46 #[.slice A cols.length ca,.slice B rows.length cb,.agg #[.slice C frm.length cc,.string x0]] w (Ae w (BH cols rows frm x0)):=by
 have hcl:=hA.2.1;have hrl:=hB.len;have hfl:=hC.2.1;obtain ⟨HA0,HB0,HC0⟩:=Hd3 hA hB hC;clear hA hB hC;have HGB:=Hd (Blk.new w 64 #[.slice C frm.length cc,.string x0]);obtain ⟨w1,hw1⟩:=eqx (w.alloc (.cells #[.slice C frm.length cc,.string x0] 64));have hx1:Ext w w1:=(by rw [hw1];exact (Ext.refl _).alloc _);obtain ⟨HX1,HA,HB,HC⟩:=Hd4 hx1 (HA0.o.keep (hx1.kept _)) (HB0.o.keep (hx1.kept _)) (HC0.o.keep (hx1.kept _));rw [<-hw1] at HGB;have HW1:=Hd hw1;clear hx1 hw1 HA0 HB0 HC0
 go_enter func46,ntmps46
 go_wp2_with fail
 rw [<-HW1.o];refine (Rs q cols rows A B ca cb _ T hcl HB.o).mono ?_;rintro e1 w1' ⟨rfl,rfl⟩;have g1:=HGB.o.q1
 go_wp2_with fail
 refine (Ei A ca cols x0 _ S HA.o).mono ?_;rintro e2 w2' ⟨rfl,rfl⟩;cases hreg:EF cols rows
 ·go_wp2;go_ret;exact ⟨by rw [J9 (λh=>by rw [hreg] at h;cases h.2.1)];rfl,HX1.o⟩
 have HREG:=Hd hreg;clear hreg;by_cases hxm:x0∈cols
 case neg =>
  have hi:Bt cols x0=-1:=Nd λj hj e=>hxm (e ▸ List.getElem_mem hj);rw [hi];have HXM:=Hd hxm;clear hi hxm;go_wp2;go_ret;exact ⟨by rw [J9 (λh=>HXM.o h.1)];rfl,HX1.o⟩
 obtain ⟨m0,hm0,hm0l,-,-⟩:=J5 ((Fl cols x0).2 hxm);rw [hm0];have HXM:=Hd hxm;have HM0:=Hd hm0;have g0:=HGB.o.q0;clear hxm hm0 g1;have hm00:decide ((m0:Int)<0)=false:=AC;go_wp2;clear hm00
 go_loop [9] (λi=>∃ k:Nat,k<=frm.length/\i=.I k/\∀ j (h:j<frm.length),j<k->frm[j]∈cols) (λi=>frm.length-(intOf i).toNat)
 case atStart=>exact ⟨0,AN,rfl,AK⟩
 case round =>
  obtain ⟨k,hk,rfl,hall⟩:=hrel;have HFA:=Hd hall;clear hall;by_cases hlt:k<frm.length
  ·obtain ⟨b1,o1,hC1,z1,q1⟩:=HC.o.at_ hlt;subst hC1;by_cases hfm:frm[k]∈cols
   ·obtain ⟨m1,hm1,-,-,-⟩:=J5 ((Fl cols frm[k]).2 hfm);have HFM:=Hd hfm;have HM1:=Hd hm1;clear hfm hm1
    go_wp2_with fail
    refine (Ei A ca cols frm[k] _ S HA.o).mono ?_;rintro e2 w2' ⟨rfl,rfl⟩;rw [HM1.o];have hm00:decide ((m1:Int)<0)=false:=AC;go_wp2
    go_round
    case rel =>
     refine ⟨k+1,AA,AE,λj h hj => ?_⟩;by_cases hjk:j=k
     ·subst hjk;exact HFM.o
     ·exact HFA.o j h AA
    case measure=>simp [intOf];omega
   ·have HFM:=Hd hfm;have hi:Bt cols frm[k]=-1:=Nd λj hj e=>hfm (e ▸ List.getElem_mem hj);have HI:=Hd hi;clear hfm hi
    go_wp2_with fail
    refine (Ei A ca cols frm[k] _ S HA.o).mono ?_;rintro e2 w2' ⟨rfl,rfl⟩;rw [HI.o];go_wp2;go_ret;exact ⟨by rw [J9 (λh=>HFM.o (h.2.2.1 _ (List.getElem_mem hlt)))];rfl,HX1.o⟩
  ·have hfc:∀ f∈frm,f∈cols:=λf hf=>by
    obtain ⟨j,hj,rfl⟩:=List.getElem_of_mem hf;exact HFA.o j hj AA
   have HFC:=Hd hfc;clear hfc HFA;go_wp2
   go_loopw [10] (λv wr=>∃ i:Nat,i<=rows.length/\v=.I i/\Ext w1 wr/\∀ a b,a<i->b<a->XC cols rows frm x0 a b) (λv _=>rows.length-(intOf v).toNat)
   case atStart=>exact ⟨0,AN,rfl,Ext.refl _,λa b h=>absurd h AA⟩
   case round =>
    obtain ⟨i,hi,rfl,hext,hpr⟩:=hrel;have HE:=Hd hext;have HPR:=Hd hpr;clear hext hpr;by_cases hlti:i<rows.length
    ·go_wp2
     go_loopw [11] (λv wr=>∃ j:Nat,j<=i/\v=.I j/\Ext w1 wr/\∀ b,b<j->XC cols rows frm x0 i b) (λv _=>i-(intOf v).toNat)
     case atStart=>exact ⟨0,AN,rfl,HE.o,λb h=>absurd h AA⟩
     case round =>
      clear HE;obtain ⟨j,hj,rfl,hext,hpj⟩:=hrel;have HE:=Hd hext;have HPJ:=Hd hpj;clear hext hpj;by_cases hltj:j<i
      ·have hltj':j<rows.length:=AA;go_wp2
       go_loopw [13,12] (λv u wr=>∃ (k:Nat) (sm:Bool),k<=frm.length/\v=.I k/\u=.bool sm/\sm=(frm.take k).all (λf=>Cx (Bt cols f).toNat rows[i] rows[j])/\Ext w1 wr) (λv _ _=>frm.length-(intOf v).toNat)
       case atStart=>exact ⟨0,true,AN,rfl,rfl,rfl,HE.o⟩
       case round =>
        clear HE;obtain ⟨k,sm,hk2,rfl,rfl,hsm,hext⟩:=hrel;have HE:=Hd hext;have HSM:=Hd hsm;clear hext hsm;have g0:=HE.o.cell (HGB.o.q0);by_cases hltk:k<frm.length
        ·cases sm
         ·have O:frm.all (λf=>Cx (Bt cols f).toNat rows[i] rows[j])=false:=by
           rw [<-List.take_append_drop k frm,List.all_append,<-HSM.o];rfl
          have HSA:=Hd O;clear O HSM
          go_upto_region 22 with fail
          obtain ⟨bB,oB,bi,oi,ei,bj,oj,ej,A1,c1,B1,e1,A2,c2,B2,e2,hBB,qi,pi,Z,qj,Y,vj⟩:=NT (i:=i) (j:=j) (m:=m0) (HB.o.keep (HE.o.kept _)) hlti hltj' CS Cg;subst hBB;obtain ⟨x,hx⟩:=eqx (rows[i][m0]'CS);obtain ⟨y,hy⟩:=eqx (rows[j][m0]'Cg);rw [<-hx] at pi Z;rw [<-hy] at Y vj;obtain ⟨z,hz⟩:=eqx (decide (x=y));obtain ⟨HZQ,HQI,HQJ,HPI⟩:=Hd4 (show z=Cx m0 rows[i] rows[j] by rw [XF hlti hltj' CS Cg,<-hx,<-hy];exact hz) qi qj pi;have HPJ0:=HPJ;obtain ⟨HPJ,HVI,HVJ,HZ⟩:=Hd4 Y Z vj hz;have hli:m0<rows[i].length:=CS;have hlj:m0<rows[j].length:=Cg;clear qi pi Z qj Y vj hx hy hz;obtain ⟨m,rfl⟩:=eqx m0;refine BZ AD (λi=>[i]) AD LR LR.refl LR.trans (LN (al0)) (DhA bB oB rows.length cb i j m rows[i].length ei rows[j].length ej bi oi bj oj x y A1 c1 B1 e1 A2 c2 B2 e2 z) (CFA _ _ _ _ _ _ _ _ _ _ _ _ _ _ _ _ _ _ _ _ _ _ _ _ _ _) gh0 (LN.zero _) ⟨?_,?_,?_,?_,?_,?_,?_,?_,?_,?_,?_,?_,?_,?_,?_,?_,trivial⟩ ?_
          ·exact Lp
          ·exact Lp
          ·exact MW
          ·exact Ub
          ·exact Lp
          ·exact Lr
          ·exact Sz
          ·exact Lp
          ·exact Lp
          ·exact Lj
          ·exact QJ
          ·exact Lp
          ·exact ME
          ·exact Uv
          ·exact VW
          ·exact Lp
          ·intro V F J hR hG;have h15:V 15=.bool z:=hG 15 AB;have HX9:=Hd hR.drew_ext;clear hR hG;simp only [Ah,Act.put,List.setIfInBounds_toArray,List.set_cons_succ,List.set_cons_zero,Nat.zero_add,Nat.reduceAdd,h15];clear h15;go_wp2;go_roundw
           case rel =>
            exact PD
           case measure=>simp [intOf];omega
         ·obtain ⟨b1,o1,hC1,z1,q1⟩:=(HC.o.keep (HE.o.kept _)).at_ hltk;subst hC1;obtain ⟨m1,hm1,hm1l,-,-⟩:=J5 ((Fl cols frm[k]).2 (HFC.o _ (List.getElem_mem hltk)));have HM1:=Hd hm1;clear hm1
          go_wp2_with fail
          refine (Ei A ca cols frm[k] _ S (HA.o.keep (HE.o.kept _))).mono ?_;rintro e2 w2' ⟨rfl,rfl⟩;rw [HM1.o]
          go_upto_region 21 with fail
          obtain ⟨bB,oB,bi,oi,ei,bj,oj,ej,A1,c1,B1,e1,A2,c2,B2,e2,hBB,qi,pi,Z,qj,Y,vj⟩:=NT (i:=i) (j:=j) (m:=m1) (HB.o.keep (HE.o.kept _)) hlti hltj' Id Gf;subst hBB;obtain ⟨x,hx⟩:=eqx (rows[i][m1]'Id);obtain ⟨y,hy⟩:=eqx (rows[j][m1]'Gf);rw [<-hx] at pi Z;rw [<-hy] at Y vj;obtain ⟨z,hz⟩:=eqx (decide (x=y));obtain ⟨HZQ,HQI,HQJ,HPI⟩:=Hd4 (show z=Cx m1 rows[i] rows[j] by rw [XF hlti hltj' Id Gf,<-hx,<-hy];exact hz) qi qj pi;have HPJ0:=HPJ;obtain ⟨HPJ,HVI,HVJ,HZ⟩:=Hd4 Y Z vj hz;have hli:m1<rows[i].length:=Id;have hlj:m1<rows[j].length:=Gf;clear qi pi Z qj Y vj hx hy hz;obtain ⟨m,rfl⟩:=eqx m1;clear q1 g0;refine BZ AD (λi=>[i]) AD LR LR.refl LR.trans (LN (al0)) (EjA bB oB rows.length cb i j m rows[i].length ei rows[j].length ej bi oi bj oj x y A1 c1 B1 e1 A2 c2 B2 e2 z) (E8A _ _ _ _ _ _ _ _ _ _ _ _ _ _ _ _ _ _ _ _ _ _ _ _ _ _) gh0 (LN.zero _) ⟨?_,?_,?_,?_,?_,?_,?_,?_,?_,?_,?_,?_,?_,?_,?_,?_,trivial⟩ ?_
          ·exact Lp
          ·exact Lp
          ·exact MW
          ·refine LinStep.yes λV F J L hR hN hp hρ hc hf hg=>⟨rfl,?_⟩;have e74:L (.tmp 74)=.pointer (some ⟨bB,oB+i,none⟩):=(hρ 74).trans (hp 2 AB);exact Tz
          ·exact Lp
          ·exact Lr
          ·refine LinStep.yes λV F J L hR hN hp hρ hc hf hg=>⟨rfl,?_⟩;have e77:L (.tmp 77)=.pointer (some ⟨bi,oi+m*7,none⟩):=(hρ 77).trans (hp 5 AB);exact Pk
          ·exact Lp
          ·exact Lp
          ·exact Lj
          ·refine LinStep.yes λV F J L hR hN hp hρ hc hf hg=>⟨rfl,?_⟩;have e81:L (.tmp 81)=.pointer (some ⟨bB,oB+j,none⟩):=(hρ 81).trans (hp 9 AB);exact RD
          ·exact Lp
          ·exact ME
          ·refine LinStep.yes λV F J L hR hN hp hρ hc hf hg=>⟨rfl,?_⟩;have e84:L (.tmp 84)=.pointer (some ⟨bj,oj+m*7,none⟩):=(hρ 84).trans (hp 12 AB);exact Pf
          ·refine LinStep.yes λV F J L hR hN hp hρ hc hf hg=>⟨rfl,?_⟩;have e78:L (.tmp 78)=(Vq x A1 c1 B1 e1):=(hρ 78).trans (hp 6 AB);have e85:L (.tmp 85)=(Vq y A2 c2 B2 e2):=(hρ 85).trans (hp 13 AB);exact Py
          ·exact Lp
          ·intro V F J hR hG;have h15:V 15=.bool z:=hG 15 AB;have HX9:=Hd hR.drew_ext;clear hR hG;simp only [Ah,Act.put,List.setIfInBounds_toArray,List.set_cons_succ,List.set_cons_zero,Nat.zero_add,Nat.reduceAdd,h15];clear h15;go_wp2;go_roundw
           case rel =>
            refine ⟨k+1,z,AA,AE,rfl,?_,HE.o.trans HX9.o⟩;rw [List.take_succ_eq_append_getElem hltk,List.all_append,<-HSM.o];simp [HM1.o,HZQ.o]
           case measure=>simp [intOf];omega
        ·have O:frm.all (λf=>Cx (Bt cols f).toNat rows[i] rows[j])=sm:=(by rw [HSM.o,List.take_of_length_le AA]);have HSA:=Hd O;clear O HSM
         go_upto_region 22 with fail
         obtain ⟨bB,oB,bi,oi,ei,bj,oj,ej,A1,c1,B1,e1,A2,c2,B2,e2,hBB,qi,pi,Z,qj,Y,vj⟩:=NT (i:=i) (j:=j) (m:=m0) (HB.o.keep (HE.o.kept _)) hlti hltj' CS Cg;subst hBB;obtain ⟨x,hx⟩:=eqx (rows[i][m0]'CS);obtain ⟨y,hy⟩:=eqx (rows[j][m0]'Cg);rw [<-hx] at pi Z;rw [<-hy] at Y vj;obtain ⟨z,hz⟩:=eqx (decide (x=y));obtain ⟨HZQ,HQI,HQJ,HPI⟩:=Hd4 (show z=Cx m0 rows[i] rows[j] by rw [XF hlti hltj' CS Cg,<-hx,<-hy];exact hz) qi qj pi;have HPJ0:=HPJ;obtain ⟨HPJ,HVI,HVJ,HZ⟩:=Hd4 Y Z vj hz;have hli:m0<rows[i].length:=CS;have hlj:m0<rows[j].length:=Cg;clear qi pi Z qj Y vj hx hy hz;obtain ⟨m,rfl⟩:=eqx m0;refine BZ AD (λi=>[i]) AD LR LR.refl LR.trans (LN (al0)) (DhA bB oB rows.length cb i j m rows[i].length ei rows[j].length ej bi oi bj oj x y A1 c1 B1 e1 A2 c2 B2 e2 z) (CFA _ _ _ _ _ _ _ _ _ _ _ _ _ _ _ _ _ _ _ _ _ _ _ _ _ _) gh0 (LN.zero _) ⟨?_,?_,?_,?_,?_,?_,?_,?_,?_,?_,?_,?_,?_,?_,?_,?_,trivial⟩ ?_
         ·exact Lp
         ·exact Lp
         ·exact MW
         ·exact Ub
         ·exact Lp
         ·exact Lr
         ·exact Sz
         ·exact Lp
         ·exact Lp
         ·exact Lj
         ·exact QJ
         ·exact Lp
         ·exact ME
         ·exact Uv
         ·exact VW
         ·exact Lp
         ·intro V F J hR hG;have h15:V 15=.bool z:=hG 15 AB;have HX9:=Hd hR.drew_ext;clear hR hG;simp only [Ah,Act.put,List.setIfInBounds_toArray,List.set_cons_succ,List.set_cons_zero,Nat.zero_add,Nat.reduceAdd,h15];clear h15;cases sm
          ·skip
           go_wp2;go_roundw
           case rel =>
            exact PD
           case measure=>simp [intOf];omega
          ·cases z
           ·skip
            go_wp2;go_ret;refine ⟨?_,(HX1.o.trans HE.o).trans HX9.o⟩;have hno:BH cols rows frm x0=false:=J9 λh=>by
             have hp:=h.2.2.2 i j hltj hlti hltj' (λf hf=>List.all_eq_true.1 HSA.o f hf);rw [HM0.o,Int.toNat_natCast,<-HZQ.o] at hp;cases hp
            rw [hno];rfl
           ·skip
            go_wp2;go_roundw
            case rel =>
             refine ⟨j+1,AA,AE,HE.o.trans HX9.o,λb hb => ?_⟩;by_cases hbj:b=j
             ·subst hbj;intro ha hb2 hf;rw [HM0.o,Int.toNat_natCast,<-HZQ.o]
             ·exact HPJ0.o b AA
            case measure=>simp [intOf];omega
      ·go_wp2;go_roundw
       case rel =>
        refine ⟨i+1,AA,AE,HE.o,λa b ha hb => ?_⟩;by_cases hai:a=i
        ·subst hai;exact HPJ.o b AA
        ·exact HPR.o a b AA hb
       case measure=>simp [intOf];omega
    ·go_wp2;go_ret;refine ⟨?_,HX1.o.trans HE.o⟩;rw [W5 HXM.o HREG.o HFC.o (λa b hb ha hb2=>HPR.o a b AA hb ha hb2)];rfl

def Gn(rows:List (List Val))(n i:Nat):Bool:=F9 rows n [i]
def Yu(rows:List (List Val))(n i j:Nat):Bool:=!Gn rows n i&&!Gn rows n j&&F9 rows n [i,j]
def KQ(cols:List BA)(rows:List (List Val))(i:Nat):List Dep:=if Gn rows cols.length i=true then Ch cols [(i:Int)] cols.length else []
def KO(cols:List BA)(rows:List (List Val))(i j:Nat):List Dep:=if Yu rows cols.length i j=true then Ch cols [(i:Int),(j:Int)] cols.length else []
def B7A(cols:List BA)(rows:List (List Val)):List Dep :=
 if !Lw cols||!EF cols rows then [] else if F9 rows cols.length []=true then Ch cols [] cols.length
 else (List.range cols.length).flatMap (KQ cols rows)++(List.range cols.length).flatMap λi=>(List.range' (i+1) (cols.length-(i+1))).flatMap (KO cols rows i)
theorem CVA(cols:List BA)(rows:List (List Val))(st:List (List Int) × List Dep)(h:[]∈st.1):∀ l:List (List Int),l.foldl (BN cols rows) st=st:=by
 intro l
 induction l with
 |nil=>rfl
 |cons s m ih =>
  rw [List.foldl_cons];have:BN cols rows st s=st:=by
   unfold BN;rw [if_pos];exact List.any_eq_true.2 ⟨[],h,rfl⟩
  rw [this,ih]
theorem OU(j:Nat)(s:List Int):MG [(j:Int)] s=decide ((j:Int)∈s):=by
 unfold MG PA;rw [Bool.eq_iff_iff];simp
theorem DrA(cols:List BA)(rows:List (List Val)):∀ m,((List.range m).map λi:Nat=>[(i:Int)]).foldl (BN cols rows) ([],[])=(((List.range m).filter (Gn rows cols.length)).map λi:Nat=>[(i:Int)],(List.range m).flatMap (KQ cols rows)):=by
 intro m
 induction m with
 |zero=>rfl
 |succ m ih =>
  rw [List.range_succ,List.map_append,List.foldl_append,ih,List.filter_append,List.map_append,List.flatMap_append];show BN cols rows _ [(m:Int)]=_;unfold BN;rw [if_neg]
  ·have hs:F9 rows cols.length ([(m:Int)].map Int.toNat)=Gn rows cols.length m:=rfl;rw [hs];cases h:Gn rows cols.length m<;>simp [h,KQ]
  ·intro hh;obtain ⟨k,hk,h2⟩:=List.any_eq_true.1 hh;obtain ⟨i,hi,rfl⟩:=List.mem_map.1 hk;have:=List.mem_range.1 (List.mem_filter.1 hi).1;rw [OU] at h2;simp at h2;omega
def mkP(p:Nat × Nat):List Int:=[(p.1:Int),(p.2:Int)]
theorem DdA(cols:List BA)(rows:List (List Val))(K0:List (List Int))(n:Nat)(hK:K0=((List.range n).filter (Gn rows cols.length)).map λi:Nat=>[(i:Int)]) :
  ∀ (L_ D:List (Nat × Nat)),(D++L_).Nodup->(∀ p∈D++L_,p.1<p.2/\p.2<n)->∀ ds,((L_.map mkP).foldl (BN cols rows) (K0++(D.filter λp=>Yu rows cols.length p.1 p.2).map mkP,ds)).2=ds++L_.flatMap λp=>KO cols rows p.1 p.2:=by
 intro L_
 induction L_ with
 |nil=>intro D _ _ ds;simp
 |cons p L_ ih =>
  intro D hn hl ds;have hD:p ∉ D:=λhm=>by
   have:=(List.nodup_append.1 hn).2.2 p hm p AC;exact this rfl
  obtain ⟨hp1,hp2⟩:=hl p AC;have a8:((D++[p])++L_).Nodup:=(by simpa using hn);have Z:∀ q∈(D++[p])++L_,q.1<q.2/\q.2<n:=GJ;rw [List.map_cons,List.foldl_cons,List.flatMap_cons];have Y:((K0++(D.filter λp=>Yu rows cols.length p.1 p.2).map mkP).any λk=>MG k (mkP p))=(Gn rows cols.length p.1||Gn rows cols.length p.2):=by
   rw [Bool.eq_iff_iff,List.any_eq_true,Bool.or_eq_true];constructor
   ·rintro ⟨k,hk,h2⟩
    rcases List.mem_append.1 hk with hk|hk
    ·rw [hK] at hk;obtain ⟨i,hi,rfl⟩:=List.mem_map.1 hk;have hs:=(List.mem_filter.1 hi).2;rw [OU] at h2;have h3:i=p.1\/i=p.2:=by
      have:=of_decide_eq_true h2;simp [mkP] at this;omega
     rcases h3 with rfl|rfl
     ·exact .inl hs
     ·exact .inr hs
    ·exfalso;obtain ⟨q,hq,rfl⟩:=List.mem_map.1 hk;have U:=(List.mem_filter.1 hq).1;have a9:=hl q (by simp [U]);unfold MG PA mkP at h2;simp at h2;have:q=p:=by
      have h1:q.1=p.1:=AA;have h3:q.2=p.2:=AA;exact Prod.ext h1 h3
     exact hD (this ▸ U)
   ·intro h;have O:∀ i,i<n->Gn rows cols.length i=true->[(i:Int)]∈K0:=λi hi hs=>by
     rw [hK];exact List.mem_map.2 ⟨i,List.mem_filter.2 ⟨List.mem_range.2 hi,hs⟩,rfl⟩
    rcases h with h|h
    ·exact ⟨[(p.1:Int)],List.mem_append.2 (.inl (O _ AA h)),by rw [OU];simp [mkP]⟩
    ·exact ⟨[(p.2:Int)],List.mem_append.2 (.inl (O _ AA h)),by rw [OU];simp [mkP]⟩
  have hst:BN cols rows (K0++(D.filter λp=>Yu rows cols.length p.1 p.2).map mkP,ds) (mkP p)=(K0++((D++[p]).filter λp=>Yu rows cols.length p.1 p.2).map mkP,ds++KO cols rows p.1 p.2):=by
   unfold BN;dsimp only;rw [Y];have hk:F9 rows cols.length ((mkP p).map Int.toNat)=F9 rows cols.length [p.1,p.2]:=rfl;rw [hk];have hd:Yu rows cols.length p.1 p.2=(!Gn rows cols.length p.1&&!Gn rows cols.length p.2&&F9 rows cols.length [p.1,p.2]):=rfl;rw [List.filter_append,List.map_append];unfold KO;cases h1:Gn rows cols.length p.1<;>cases h2:Gn rows cols.length p.2<;>cases h3:F9 rows cols.length [p.1,p.2]<;>simp [hd,h1,h2,h3,mkP]
  rw [hst,ih (D++[p]) a8 Z _,List.append_assoc]
theorem ENA(n:Nat):(List.range n).flatMap (GW n)=(((List.range n).flatMap λi=>(List.range' (i+1) (n-(i+1))).map λj=>(i,j))).map mkP:=by
 rw [List.map_flatMap];congr 1
 funext i
 unfold GW;rw [List.map_map];rfl
theorem Xr(n:Nat):((List.range n).flatMap λi=>(List.range' (i+1) (n-(i+1))).map λj=>(i,j)).Nodup:=by
 unfold List.Nodup;rw [List.pairwise_flatMap];refine ⟨λi _ => ?_,?_⟩
 ·rw [List.pairwise_map];refine List.Pairwise.imp ?_ (List.nodup_range' (s:=i+1) (n:=n-(i+1)));intro a b hab he;exact hab (congrArg Prod.snd he)
 ·refine List.Pairwise.imp ?_ (List.nodup_range (n:=n));intro a b hab x hx y hy he;obtain ⟨_,_,rfl⟩:=List.mem_map.1 hx;obtain ⟨_,_,rfl⟩:=List.mem_map.1 hy;exact hab (congrArg Prod.fst he)
theorem EMA(n:Nat):∀ p∈(List.range n).flatMap λi=>(List.range' (i+1) (n-(i+1))).map λj=>(i,j),p.1<p.2/\p.2<n:=by
 intro p hp;obtain ⟨i,hi,h2⟩:=List.mem_flatMap.1 hp;obtain ⟨j,hj,rfl⟩:=List.mem_map.1 h2;have:=List.mem_range.1 hi;rw [List.mem_range'_1] at hj;exact ⟨by show i<j;omega,by show j<n;omega⟩
theorem YI(cols:List BA)(rows:List (List Val)):Co cols rows=B7A cols rows:=by
 unfold Co B7A;split
 ·rfl
 ·unfold Fz;rw [List.append_assoc,List.foldl_append];cases h0:F9 rows cols.length []
  ·have h1:[([]:List Int)].foldl (BN cols rows) ([],[])=([],[]):=by
    show BN cols rows ([],[]) []=_;unfold BN;have hk:F9 rows cols.length (([]:List Int).map Int.toNat)=false:=h0;rw [hk];rfl
   rw [h1,if_neg AC,List.foldl_append,DrA,ENA];have h2:=DdA cols rows _ cols.length rfl _ [] (by simpa using Xr cols.length) (by simpa using EMA cols.length) ((List.range cols.length).flatMap (KQ cols rows));rw [show (([]:List (Nat × Nat)).filter λp=>Yu rows cols.length p.1 p.2).map mkP=[] from rfl,List.append_nil] at h2;rw [h2,List.flatMap_assoc];congr 2
   funext i
   rw [List.flatMap_map]
  ·rw [if_pos rfl];have h1:[([]:List Int)].foldl (BN cols rows) ([],[])=([[]],Ch cols [] cols.length):=by
    show BN cols rows ([],[]) []=_;unfold BN;have hk:F9 rows cols.length (([]:List Int).map Int.toNat)=true:=h0;rw [hk];rfl
   rw [h1,CVA _ _ _ AC]
theorem Nl(hn:cols.Nodup)(hr:EF cols rows=true)(s:List Nat)(hs:∀ c∈s,c<cols.length) :
  F9 rows cols.length s=cols.all λx=>BH cols rows (s.map λc=>cols.getD c ⟨#[]⟩) x:=by
 have O:(s.map λc=>cols.getD c ⟨#[]⟩).all (λf=>decide (0<=Bt cols f))=true:=by
  rw [List.all_eq_true];intro f hf;obtain ⟨c,hc,rfl⟩:=List.mem_map.1 hf;exact decide_eq_true ((Fl _ _).2 (I2 hn (hs c hc)).1)
 have U:(s.map λc=>cols.getD c ⟨#[]⟩).map (λf=>(Bt cols f).toNat)=s:=by
  rw [List.map_map];have:s.map ((λf=>(Bt cols f).toNat) ∘ λc=>cols.getD c ⟨#[]⟩)=s.map id:=List.map_congr_left λc hc=>(I2 hn (hs c hc)).2;rw [this,List.map_id]
 have hh:∀ c,c<cols.length->BH cols rows (s.map λc=>cols.getD c ⟨#[]⟩) (cols.getD c ⟨#[]⟩)=Gk rows s c:=by
  intro c hc;unfold BH;rw [O,U,hr,(I2 hn hc).2,decide_eq_true ((Fl _ _).2 (I2 hn hc).1)];simp
 unfold F9;rw [Bool.eq_iff_iff,List.all_eq_true,List.all_eq_true];constructor
 ·intro h x hx;obtain ⟨c,hc,rfl⟩:=List.mem_iff_getElem.1 hx;have:=hh c hc;rw [BM _ _ _ hc] at this;rw [this];exact h c (List.mem_range.2 hc)
 ·intro h c hc;have hc:=List.mem_range.1 hc;rw [<-hh c hc];exact h _ (by rw [BM _ _ _ hc];exact List.getElem_mem hc)
theorem LH(hn:cols.Nodup)(s:List Nat)(hs:∀ c∈s,c<cols.length)(m:Nat)(hm:m<=cols.length) :
  Ch cols (s.map λc:Nat=>(c:Int)) m=((cols.take m).filter λx=>decide (Bt (s.map λc=>cols.getD c ⟨#[]⟩) x<0)).map λx=>⟨s.map λc=>cols.getD c ⟨#[]⟩,x⟩:=by
 have U:Dd cols (s.map λc:Nat=>(c:Int))=s.map λc=>cols.getD c ⟨#[]⟩:=by
  unfold Dd;rw [List.map_map];rfl
 induction m with
 |zero=>rfl
 |succ m ih =>
  rw [Jg,ih AA,List.take_succ_eq_append_getElem AA,List.filter_append,List.map_append,U];congr 1;have he:PA (s.map λc:Nat=>(c:Int)) (m:Int) = !decide (Bt (s.map λc=>cols.getD c ⟨#[]⟩) cols[m]<0):=by
   have h1:Bt (s.map λc=>cols.getD c ⟨#[]⟩) cols[m]<0↔cols[m] ∉ s.map λc=>cols.getD c ⟨#[]⟩:=by
    rw [<-Fl];omega
   have h2:(cols[m]∈s.map λc=>cols.getD c ⟨#[]⟩)↔m∈s:=by
    constructor
    ·intro h;obtain ⟨c,hc,he⟩:=List.mem_map.1 h;have O:=hs c hc;rw [BM _ _ _ O] at he;have:=(List.getElem_inj hn).1 he;exact this ▸ hc
    ·intro h;exact List.mem_map.2 ⟨m,h,BM _ _ _ AA⟩
   unfold PA;rw [Bool.eq_iff_iff,List.any_eq_true,Bool.not_eq_true',decide_eq_false_iff_not,h1,Classical.not_not,h2];constructor
   ·rintro ⟨x,hx,hd⟩;obtain ⟨c,hc,rfl⟩:=List.mem_map.1 hx;have:=of_decide_eq_true hd;have:c=m:=AA;exact this ▸ hc
   ·intro h;exact ⟨(m:Int),List.mem_map.2 ⟨m,h,rfl⟩,AC⟩
  rw [he,BM _ _ _ (show m<cols.length by omega)];cases hd:decide (Bt (s.map λc=>cols.getD c ⟨#[]⟩) cols[m]<0)<;>simp only [List.filter_cons,List.filter_nil,hd]<;>rfl

theorem FCA(q:Nat)(cols:List BA)(rows:List (List Val))(fs:List BA)(A B C:OA)(ca cb cc:Nat)(w:World)(S T U:NP)(hA:Strs w S A cols)(hB:Rows w T q B rows)(hC:Strs w U C fs) :
  Cl 150 #[.slice A cols.length ca,.slice B rows.length cb,.slice C fs.length cc] w (Ae w (cols.all (BH cols rows fs))):=by
 have Z:=hA.2.1;have HA:=Hd hA;have HH:=Hd (show ∀ J (x:BA),Ext w J->Cl 46 #[.slice A cols.length ca,.slice B rows.length cb,.agg #[.slice C fs.length cc,.string x]] J (Ae J (BH cols rows fs x)) from λJ x hw'=>CyA q cols rows fs x A B C ca cb cc J _ _ _ (hA.keep (hw'.kept _)) (hB.keep (hw'.kept _)) (hC.keep (hw'.kept _)));clear hA hB hC
 go_enter func150,ntmps150
 go_wp2
 go_loopw [7] (λi wr=>∃ k:Nat,k<=cols.length/\i=.I k/\Ext w wr/\∀ m (h:m<cols.length),m<k->BH cols rows fs cols[m]=true) (λi _=>cols.length-(intOf i).toNat)
 case atStart=>exact ⟨0,AN,rfl,Ext.refl _,AK⟩
 case round =>
  obtain ⟨k,hk,rfl,hext,hall⟩:=hrel;have HE:=Hd hext;have HAL:=Hd hall;clear hall;by_cases hlt:k<cols.length
  ·obtain ⟨b1,o1,rfl,z1,q0⟩:=(HA.o.keep (hext.kept _)).at_ hlt;obtain ⟨x,hx⟩:=eqx (cols[k]);rw [<-hx] at q0;obtain ⟨hb,O⟩:=eqx (BH cols rows fs x);have Y:=Hd (HH.o wr x hext);rw [<-O] at Y;have HX:=Hd hx;have HB:=Hd O;clear hext hx O
   go_wp2_with fail
   refine Y.o.mono ?_;rintro e1 w1 ⟨rfl,hx1⟩;have HX1:=Hd (HE.o.trans hx1);clear hx1;cases hb
   ·go_wp2;go_ret;refine ⟨?_,HX1.o⟩;rw [CX cols (BH cols rows fs) k hlt (by rw [<-HX.o,<-HB.o])];rfl
   ·go_wp2;go_roundw
    case rel =>
     refine ⟨k+1,AA,AE,HX1.o,λm h hm => ?_⟩;by_cases hmk:m=k
     ·subst hmk;rw [<-HX.o,<-HB.o]
     ·exact HAL.o m h AA
    case measure=>simp [intOf];omega
  ·go_wp2;go_ret;refine ⟨?_,HE.o⟩;rw [CH cols (BH cols rows fs) λm h=>HAL.o m h AA];rfl
def HpA(ws:World)(fs:List BA)(F:Gz)(J:World)(v:Value):Prop:=∃ (A4:OA) (c4:Nat),v=.slice A4 fs.length c4/\F 1003=true/\OwnSs J ws.heap.size A4 c4 fs
def HaA(ws:World)(fs:List BA)(xt:BA)(F:Gz)(J:World)(v:Value):Prop:=∃ (A4:OA) (c4:Nat),v=.agg #[.slice A4 fs.length c4,.string xt]/\F 1003=true/\OwnSs J ws.heap.size A4 c4 fs
def HbA(ws:World)(fs:List BA)(xt:BA)(F:Gz)(J:World)(v:Value):Prop:=∃ (g:Nat) (A4:OA) (c4:Nat),v=.slice (some ⟨g,0,none⟩) 1 1/\F 1003=true/\ws.heap.size<=g/\Blk J g 64 #[.slice A4 fs.length c4,.string xt]/\OwnSs J ws.heap.size A4 c4 fs/\ob A4≠some g
def FsA(base:Nat)(l:List Dep)(no:Nat)(F:Gz)(J:World)(v:Value):Prop:=∃ (A5:OA) (c5:Nat),v=.slice A5 (no+1) c5/\F 1003=true/\F 1010=true/\OwnDs J base (λb=>base<=b) A5 c5 l
def Ef(cols fs:List BA):List Dep:=(cols.filter λx=>decide (Bt fs x<0)).map λx=>⟨fs,x⟩
theorem Nc(cols fs:List BA):(Ef cols fs).length<=cols.length:=by
 unfold Ef;rw [List.length_map];exact List.length_filter_le _ _
theorem BhA(cols fs:List BA)(k:Nat)(hk:k<cols.length):Ef (cols.take (k+1)) fs=if Bt fs cols[k]<0 then Ef (cols.take k) fs++[⟨fs,cols[k]⟩] else Ef (cols.take k) fs:=by
 unfold Ef;rw [List.take_succ_eq_append_getElem hk,List.filter_append,List.map_append];by_cases h:Bt fs cols[k]<0
 ·rw [if_pos h,List.filter_cons,if_pos (decide_eq_true h)];rfl
 ·rw [if_neg h,List.filter_cons,if_neg AI];simp
theorem DmA(cols fs:List BA)(A C:OA)(ca cc:Nat)(w:World)(S U:NP)(hA:Strs w S A cols)(hC:Strs w U C fs)(hl:cols.length<=1000000) :
  Cl 151 #[.slice A cols.length ca,.slice C fs.length cc] w (Jt w (λb=>w.heap.size<=b) (Ef cols fs)):=by
 have H:=Hd (hA.mono (T:=λb=>b<w.heap.size) λi hi _=>hi);have HC:=Hd (hC.mono (T:=λb=>b<w.heap.size) λi hi _=>hi);clear hA hC
 go_enter func151,ntmps151
 go_wp2
 go_loopw [6,5] (λi v wr=>∃ (k:Nat) (A':OA) (c':Nat),k<=cols.length/\i=.I k/\v=.slice A' (Ef (cols.take k) fs).length c'/\Ext w wr/\OwnDs wr w.heap.size (λb=>w.heap.size<=b) A' c' (Ef (cols.take k) fs)) (λi _ _=>cols.length-(intOf i).toNat)
 case atStart=>exact ⟨0,none,0,AN,rfl,rfl,Ext.refl _,OwnDs.nil _ _ _⟩
 case round =>
  obtain ⟨k,A',c',hk,rfl,rfl,hext,hown⟩:=hrel;have HE:=Hd hext;have a9:=Hd hown;by_cases hlt:k<cols.length
  ·obtain ⟨b1,o1,rfl,z1,q0⟩:=(H.o.keep (hext.kept _)).at_ hlt;have hb1:b1<w.heap.size:=by
    rcases H.o.1 with h0|⟨b,o,hA,hS,_⟩
    ·rw [List.map_eq_nil_iff] at h0;subst h0;simp at hlt
    ·injection hA with hA;injection hA with hA;rw [hA];exact hS
   obtain ⟨xt,Y⟩:=eqx (cols[k]);have O:=BhA cols fs k hlt;have hln:=Nc (cols.take k) fs;rw [List.length_take] at hln;rw [<-Y] at q0 O;have f3:=Hd (show xt.size<=4294967296 by rw [Y];exact H.o.2.2 _ (List.getElem_mem hlt));obtain ⟨ds,b0⟩:=eqx (Ef (cols.take k) fs);rw [<-b0] at O hln hown|-;have Z:=Hd O;have HO:=Hd hown;have d7:ds.length<=k:=AA;obtain ⟨ws,rfl⟩:=eqx wr;have b6:=Hd (Ei C cc fs xt ws _ (HC.o.keep (hext.kept _)));obtain ⟨ix,b4⟩:=eqx (Bt fs xt);rw [<-b4] at b6 Z;have a8:=hext.size;obtain ⟨HAL,HXS,HWS,b3,HFB,Z0,Q0,d4⟩:=Hd8 (show ∀ b,ob A'=some b->w.heap.size<=b/\b<ws.heap.size from λb hb=>HO.o.blk hb) hext (show w.heap.size<=ws.heap.size from a8) ((HC.o.keep (hext.kept _)).mono (T:=λb=>b<ws.heap.size/\ob A'≠some b) λb hb hh=>⟨hb,λe=>by have:=(HO.o.blk e).1;have f7:b<w.heap.size:=hh;omega⟩) (show fs.length<=4294967296 from HC.o.2.1) (show b1<ws.heap.size/\ob A'≠some b1 from ⟨AA,λe=>by have:=(HO.o.blk e).1;omega⟩) q0 d7;clear hext hown O b0 hln Y b4 a8 hb1 a9
   go_wp2_with fail
   refine b6.o.mono ?_;rintro e1 w1 ⟨rfl,rfl⟩;by_cases hneg:ix<0
   ·have HI:=Hd (Z.o.trans (if_pos hneg));clear q0
    go_upto_region 6 with fail
    refine Qa (λm b=>(m=1003/\ws.heap.size<=b)\/(m=1010/\ob A'=some b)) [(0,[1010]),(1,[1003]),(2,[1003]),(3,[1003,1010]),(9,[1010]),(10,[1010])] ?_;refine Qp ?_;refine Qs (FP λv F J=>∃ g:Nat,v=.slice (some ⟨g,0,none⟩) 0 0/\ws.heap.size<=g/\(F 1003=false->Blk J g 9 #[])) (H1A ?_) ?_ ?_
    ·rintro v F wx γ' wy rr ⟨g,h1,h2,h3⟩;refine ⟨g,h1,h2,λhk => ?_⟩;have hk0:F 1003=false:=by
      cases h6:F 1003 with
      |false=>rfl
      |true=>rw [rr.done _ h6] at hk;cases hk
     exact Q8
    ·exact G7
    refine Qp ?_;refine Chain.step (FP λv F J=>HpA ws fs F J v) AG (H1A ?_) ?_ ?_
    ·exact JC
    ·intro V F J L hR hN hp hρ hc hf hg;refine ⟨rfl,?_⟩;obtain ⟨g,f0,hg,hb⟩:=hp 1 AB;have d9:=(hρ 21).trans f0;have d6:L (.tmp 22)=_:=(hρ 22).trans (hp 2 AB);have hk0:=hN.key (k:=1003) AB;have hbg:=hb hk0;have ho:Own J ws.heap.size 9 1 (some ⟨g,0,none⟩) 0 0 []:=IUA (xs:=[]) hbg hg;have d5:=b3.o.1.keep (hR.kept0 (S:=λb=>b<ws.heap.size/\ob A'≠some b) (λb hbl (hb:b<ws.heap.size/\ob A'≠some b) m hm=>FJ));have hsz:=hR.size;have e0:ws.drew.heap.size=ws.heap.size:=rfl;refine Cw (.tmp 21) (.tmp 22) rfl tiS d9 ho d6 d5 (by rw [List.length_map,Nat.mul_one]) (λu hu=>Es _ u hu) (by have:=HFB.o;omega) AB AA ?_;intro A4 c4 w4 hown4 hg4 hat4;rw [Nat.zero_add] at hown4;refine ⟨F.put 1003,H2A hk0 hg4.os hg4.tape hg4.output hg4.size (λb hb hm=>hg4.block b hb λe=>hm (.inl ⟨rfl,by simp [ob] at e;omega⟩)),LK.done AB,A4,c4,?_,AU,?_,b3.o.2.2⟩
     ·show Value.slice A4 (0+fs.length) c4=.slice A4 fs.length c4;rw [Nat.zero_add]
     ·simpa using hown4
    iterate 3 refine Qp ?_
    refine Qm (λV F J L hR hN hp hρ zs zg=>by
     have hkk:=hR.o.kept0 (S:=λb=>b<ws.heap.size/\ob A'≠some b) (λb hbl (hb:b<ws.heap.size/\ob A'≠some b) m hm=>FJ);have m0:=Kept.cell hkk Z0.o Q0.o;clear hkk;exact Qk) ?_
    refine Qs (FP λv F J=>HaA ws fs xt F J v) (H1A ?_) ?_ ?_
    ·exact JC
    ·intro V F J L hR hN hp hρ zs zg;obtain ⟨A4,c4,hv4,hd4,ho4⟩:=hp.o 3 AB;have f6:=(hρ.o 23).trans hv4;exact Kk
    refine Qs (FP λv F J=>HbA ws fs xt F J v) (H1A ?_) ?_ ?_
    ·exact PU
    ·intro V F J L hR hN hp hρ zs zg;obtain ⟨A4,c4,hv4,hd4,ho4⟩:=hp.o 8 AB;have f5:=(hρ.o 28).trans hv4;have HO:=Hd ho4;have HD:=Hd hd4;have HR:=hR;clear hv4 ho4 hd4;refine Qr ?_;have hx1:=(Ext.refl J).alloc (.cells #[.slice A4 fs.length c4,.string xt] 64);exact R6
    refine Chain.step (FP λv F J=>FsA w.heap.size (ds++[⟨fs,xt⟩]) ds.length F J v) AG (H1A ?_) ?_ ?_
    ·exact Iv
    ·intro V F J L hR hN hp hρ hc hf hg;refine ⟨rfl,?_⟩;have d8:L (.tmp 20)=_:=(hρ 20).trans (hp 0 AB);obtain ⟨g,A4,c4,d3,b8,f4,b9,ho4,hne⟩:=hp 9 AB;have e29:=(hρ 29).trans d3;have hk0:=hN.key (k:=1010) AB;have hod:=HO.o.keep (hR.kept0 (S:=λb=>ob A'=some b\/w.heap.size<=b) λb hbl _ m hm=>by rcases hm with ⟨rfl,h⟩|⟨rfl,h⟩;(have e0:ws.drew.heap.size=ws.heap.size:=rfl;omega);exact hk0);obtain ⟨xs,f1,ho,hv⟩:=hod.add;have hsz:=hR.size;have e0:ws.drew.heap.size=ws.heap.size:=rfl;have hws:=HWS.o;refine Cw (.tmp 20) (.tmp 29) rfl tiD d8 ho e29 (Blk.rd b9) rfl AP (by have:=d4.o;omega) AB AA ?_;intro A5 c5 w5 hown5 hg5 hat5;refine ⟨F.put 1010,H2A hk0 hg5.os hg5.tape hg5.output hg5.size (λb hb hm=>hg5.block b hb λe=>hm (.inr ⟨rfl,e.symm⟩)),LK.done AB,A5,c5,rfl,by simp [Gz.put,b8],AU,?_⟩;refine OwnDs.push (r:=⟨fs,xt⟩) f1 hv hown5 hg5 hat5 (Own.cap ho4.1) f3.o ((ho4.strs HFB.o λb hb=>hb).mono λb _ hb=>⟨λe => ?_,?_⟩)
     ·have h1:=(ho4.1.blk hb).1;have h2:=(HAL.o b e).2;omega
     ·have h1:=(ho4.1.blk hb).1;omega
    refine Qs (FP λv F J=>FsA w.heap.size (ds++[⟨fs,xt⟩]) ds.length F J v) (H1A ?_) ?_ ?_
    ·exact Iv
    ·intro V F J L hR hN hp hρ zs zg;obtain ⟨A5,c5,hv5,h07,h15,hod5⟩:=hp.o 10 AB;have e30:=(hρ.o 30).trans hv5;exact On
    intro V F w9 hR hG;obtain ⟨A5,c5,b5,-,-,hod5⟩:=hG 11 AB;have HXN:=Hd (show Ext w w9 from Au HXS.o (hR.buts (S:=λb=>w.heap.size<=b) (λm b hbl hm _=>by rcases hm with ⟨_,h⟩|⟨_,h⟩;(have:=HWS.o;omega);exact (HAL.o b h).1)) (λb hb=>hb));have b7:=Hd hod5;refine Qx ?_;simp only [b5];clear hR hG b5 hod5;go_wp2;go_roundw
    case rel=>exact ⟨k+1,A5,c5,AA,AE,by rw [HI.o,List.length_append];rfl,HXN.o,by rw [HI.o];exact b7.o⟩
    case measure=>simp [intOf];omega
   ·have HI:=Hd (Z.o.trans (if_neg hneg));go_wp2;go_roundw
    case rel=>exact ⟨k+1,A',c',AA,AE,by rw [HI.o],HXS.o,by rw [HI.o];exact HO.o⟩
    case measure=>simp [intOf];omega
  ·obtain rfl:k=cols.length:=AA;have HT:=Hd (show cols.take cols.length=cols from List.take_length);have ho:=a9.o;rw [HT.o] at ho;have f2:=Hd (show (Ef cols fs).length<=c' by obtain ⟨hs,_,h1,_⟩:=ho.add;exact h1.cap);have HOF:=Hd ho;clear hext hown ho;go_wp2;go_ret;exact ⟨A',c',EM,f2.o,HOF.o,HE.o⟩
