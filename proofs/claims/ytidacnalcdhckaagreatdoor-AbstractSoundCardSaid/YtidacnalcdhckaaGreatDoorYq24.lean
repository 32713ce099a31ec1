/- Lemmas. No conditions. -/
import Derived.Test.YtidacnalcdhckaaGreatDoorYq23
set_option maxRecDepth 100000
set_option maxHeartbeats 4000000
namespace Go.Proofs.YtidacnalcdhckaaGreatDoor
open Go Go.RowKit Tryz
variable {qP:Prop}

def Lw(cols:List BA)(rows:List (List Val))(frm:List BA)(x:BA)(a b:Nat):Prop:=∀ (ha:a<rows.length) (hb:b<rows.length),(∀ f∈frm,Bz (BM cols f).toNat rows[a] rows[b]=true)→Bz (BM cols x).toNat rows[a] rows[b]=true
theorem LF(c:Nat)(r o:List Val):Bz c r o=Bz c o r:=by unfold Bz;rw [Bool.eq_iff_iff];simp only [decide_eq_true_eq];exact eq_comm
theorem QH(c:Nat)(r:List Val):Bz c r r=true:=by simp [Bz]
theorem Ma{cols:List BA}{rows:List (List Val)}{frm:List BA}{x:BA}(h1:x∈cols)(h2:Cu cols rows=true)(h3:∀ f∈frm,f∈cols)(h4:∀ a b,b<a→Lw cols rows frm x a b):Al cols rows frm x=true:=by
 refine Cx.2 ⟨h1,h2,h3,fun r hr o ho hf => ?_⟩;obtain ⟨a,ha,rfl⟩:=List.getElem_of_mem hr;obtain ⟨b,hb,rfl⟩:=List.getElem_of_mem ho
 rcases Nat.lt_trichotomy a b with h|h|h
 ·rw [LF];exact h4 b a h hb ha fun f hf'=>by rw [LF];exact hf f hf'
 ·subst h;exact QH _ _
 ·exact h4 a b h ha hb hf
theorem F9{cols:List BA}{rows:List (List Val)}{frm:List BA}{x:BA}(h:¬(x∈cols∧Cu cols rows=true∧(∀ f∈frm,f∈cols)∧∀ a b,b<a→Lw cols rows frm x a b)):Al cols rows frm x=false:=by
 rw [Bool.eq_false_iff];intro e;obtain ⟨h1,h2,h3,h4⟩:=Cx.1 e;exact h ⟨h1,h2,h3,fun a b _ ha hb hf=>h4 _ (List.getElem_mem ha) _ (List.getElem_mem hb) hf⟩
theorem JH{cols:List BA}{rows:List (List Val)}(h:Cu cols rows=true){i:Nat}(hi:i<rows.length):rows[i].length=cols.length:=by
 unfold Cu at h;rw [List.all_eq_true] at h
 simpa using h _ (List.getElem_mem hi)
theorem II{w:World}{T:NP}{q:Nat}{B:OA}{rows:List (List Val)}{i j m:Nat}(h:Rows w T q B rows)(hi:i<rows.length)(hj:j<rows.length)(hmi:m<rows[i].length)(hmj:m<rows[j].length) :
  ∃ bB oB bi oi ei bj oj ej A1 c1 B1 e1 A2 c2 B2 e2,B=some ⟨bB,oB,none⟩∧w.cell? ⟨bB,oB+i,none⟩=some (.slice (some ⟨bi,oi,none⟩) rows[i].length ei)∧(w.cell? ⟨bi,oi+m*7,none⟩=some (.I rows[i][m].kind)∧w.cell? ⟨bi,oi+m*7+1,none⟩=some (.string rows[i][m].s)∧w.cell? ⟨bi,oi+m*7+2,none⟩=some (.I rows[i][m].dn)∧w.cell? ⟨bi,oi+m*7+3,none⟩=some (.I rows[i][m].ds)∧w.cell? ⟨bi,oi+m*7+4,none⟩=some (.I rows[i][m].n)∧w.cell? ⟨bi,oi+m*7+5,none⟩=some (.slice A1 rows[i][m].cols.length c1)∧w.cell? ⟨bi,oi+m*7+6,none⟩=some (.slice B1 rows[i][m].rows.length e1))∧RV w T q rows[i][m] A1 B1 ∧
   w.cell? ⟨bB,oB+j,none⟩=some (.slice (some ⟨bj,oj,none⟩) rows[j].length ej)∧(w.cell? ⟨bj,oj+m*7,none⟩=some (.I rows[j][m].kind)∧w.cell? ⟨bj,oj+m*7+1,none⟩=some (.string rows[j][m].s)∧w.cell? ⟨bj,oj+m*7+2,none⟩=some (.I rows[j][m].dn)∧w.cell? ⟨bj,oj+m*7+3,none⟩=some (.I rows[j][m].ds)∧w.cell? ⟨bj,oj+m*7+4,none⟩=some (.I rows[j][m].n)∧w.cell? ⟨bj,oj+m*7+5,none⟩=some (.slice A2 rows[j][m].cols.length c2)∧w.cell? ⟨bj,oj+m*7+6,none⟩=some (.slice B2 rows[j][m].rows.length e2))∧RV w T q rows[j][m] A2 B2:=by
 obtain ⟨bB,oB,Ci,ei,hB,_,q1,_,r1⟩:=h.at_ hi;obtain ⟨bB',oB',Cj,ej,hB',_,q2,_,r2⟩:=h.at_ hj;obtain ⟨rfl,rfl⟩:bB'=bB∧oB'=oB:=by rw [hB] at hB';injection hB' with hB';injection hB' with h1 h2;exact ⟨h1.symm,h2.symm⟩
 obtain ⟨bi,oi,A1,c1,B1,e1,rfl,_,p1,_,v1⟩:=r1.at_ hmi;obtain ⟨bj,oj,A2,c2,B2,e2,rfl,_,p2,_,v2⟩:=r2.at_ hmj;exact ⟨_,_,bi,oi,ei,bj,oj,ej,A1,c1,B1,e1,A2,c2,B2,e2,hB,q1,p1,v1.up Y4,q2,p2,v2.up Y4⟩
theorem Ln{rows:List (List Val)}{i j m:Nat}(hi:i<rows.length)(hj:j<rows.length)(hmi:m<rows[i].length)(hmj:m<rows[j].length):Bz m rows[i] rows[j]=decide (rows[i][m]=rows[j][m]):=by
 unfold Bz;rw [Bool.eq_iff_iff];simp [hmi,hmj];exact eq_comm
def DsA(bB:Nat)(oB:Nat)(n:Nat)(cb:Nat)(ii:Nat)(jj:Nat)(m:Nat)(li:Nat)(ei:Nat)(lj:Nat)(ej:Nat)(bi:Nat)(oi:Nat)(bj:Nat)(oj:Nat)(x:Val)(y:Val)(A1:OA)(c1:Nat)(B1:OA)(e1:Nat)(A2:OA)(c2:Nat)(B2:OA)(e2:Nat)(z:Bool):Nat→Value
 |0=>.slice (some ⟨bB,oB,none⟩) n cb
 |1=>.I (ii:Int)
 |2=>.pointer (some ⟨bB,oB+ii,none⟩)
 |3=>.slice (some ⟨bi,oi,none⟩) li ei
 |4=>.I (m:Int)
 |5=>.pointer (some ⟨bi,oi+m*7,none⟩)
 |6=>(Vq x A1 c1 B1 e1)
 |7=>.slice (some ⟨bB,oB,none⟩) n cb
 |8=>.I (jj:Int)
 |9=>.pointer (some ⟨bB,oB+jj,none⟩)
 |10=>.slice (some ⟨bj,oj,none⟩) lj ej
 |11=>.I (m:Int)
 |12=>.pointer (some ⟨bj,oj+m*7,none⟩)
 |13=>(Vq y A2 c2 B2 e2)
 |14=>.bool z
 |15=>.bool z
 |_=>undef
def UD(bB:Nat)(oB:Nat)(n:Nat)(cb:Nat)(ii:Nat)(jj:Nat)(m:Nat)(li:Nat)(ei:Nat)(lj:Nat)(ej:Nat)(bi:Nat)(oi:Nat)(bj:Nat)(oj:Nat)(x:Val)(y:Val)(A1:OA)(c1:Nat)(B1:OA)(e1:Nat)(A2:OA)(c2:Nat)(B2:OA)(e2:Nat)(z:Bool)(i:Nat)(l:List Value)(γ:Gh)(w':World):Prop:=match l with
 |[v]=>v=DsA bB oB n cb ii jj m li ei lj ej bi oi bj oj x y A1 c1 B1 e1 A2 c2 B2 e2 z i
 |_=>True
theorem Ti(bB:Nat)(oB:Nat)(n:Nat)(cb:Nat)(ii:Nat)(jj:Nat)(m:Nat)(li:Nat)(ei:Nat)(lj:Nat)(ej:Nat)(bi:Nat)(oi:Nat)(bj:Nat)(oj:Nat)(x:Val)(y:Val)(A1:OA)(c1:Nat)(B1:OA)(e1:Nat)(A2:OA)(c2:Nat)(B2:OA)(e2:Nat)(z:Bool):∀ i l γ w γ' w',LR γ w γ' w'→UD bB oB n cb ii jj m li ei lj ej bi oi bj oj x y A1 c1 B1 e1 A2 c2 B2 e2 z i l γ w→UD bB oB n cb ii jj m li ei lj ej bi oi bj oj x y A1 c1 B1 e1 A2 c2 B2 e2 z i l γ' w':=by
 intro i l γ w γ' w' r h
 match l,h with
 |[v],h =>
  unfold UD at h⊢;exact h
 |[],_=>trivial
 |_::_::_,_=>trivial
def DbA(bB:Nat)(oB:Nat)(n:Nat)(cb:Nat)(ii:Nat)(jj:Nat)(m:Nat)(li:Nat)(ei:Nat)(lj:Nat)(ej:Nat)(bi:Nat)(oi:Nat)(bj:Nat)(oj:Nat)(x:Val)(y:Val)(A1:OA)(c1:Nat)(B1:OA)(e1:Nat)(A2:OA)(c2:Nat)(B2:OA)(e2:Nat)(z:Bool):Nat→Value
 |0=>.slice (some ⟨bB,oB,none⟩) n cb
 |1=>.I (ii:Int)
 |2=>.pointer (some ⟨bB,oB+ii,none⟩)
 |3=>.slice (some ⟨bi,oi,none⟩) li ei
 |4=>.I (m:Int)
 |5=>.pointer (some ⟨bi,oi+m*7,none⟩)
 |6=>(Vq x A1 c1 B1 e1)
 |7=>.slice (some ⟨bB,oB,none⟩) n cb
 |8=>.I (jj:Int)
 |9=>.pointer (some ⟨bB,oB+jj,none⟩)
 |10=>.slice (some ⟨bj,oj,none⟩) lj ej
 |11=>.I (m:Int)
 |12=>.pointer (some ⟨bj,oj+m*7,none⟩)
 |13=>(Vq y A2 c2 B2 e2)
 |14=>.bool z
 |15=>.bool z
 |_=>undef
def Qu(bB:Nat)(oB:Nat)(n:Nat)(cb:Nat)(ii:Nat)(jj:Nat)(m:Nat)(li:Nat)(ei:Nat)(lj:Nat)(ej:Nat)(bi:Nat)(oi:Nat)(bj:Nat)(oj:Nat)(x:Val)(y:Val)(A1:OA)(c1:Nat)(B1:OA)(e1:Nat)(A2:OA)(c2:Nat)(B2:OA)(e2:Nat)(z:Bool)(i:Nat)(l:List Value)(γ:Gh)(w':World):Prop:=match l with
 |[v]=>v=DbA bB oB n cb ii jj m li ei lj ej bi oi bj oj x y A1 c1 B1 e1 A2 c2 B2 e2 z i
 |_=>True
theorem Pa(bB:Nat)(oB:Nat)(n:Nat)(cb:Nat)(ii:Nat)(jj:Nat)(m:Nat)(li:Nat)(ei:Nat)(lj:Nat)(ej:Nat)(bi:Nat)(oi:Nat)(bj:Nat)(oj:Nat)(x:Val)(y:Val)(A1:OA)(c1:Nat)(B1:OA)(e1:Nat)(A2:OA)(c2:Nat)(B2:OA)(e2:Nat)(z:Bool):∀ i l γ w γ' w',LR γ w γ' w'→Qu bB oB n cb ii jj m li ei lj ej bi oi bj oj x y A1 c1 B1 e1 A2 c2 B2 e2 z i l γ w→Qu bB oB n cb ii jj m li ei lj ej bi oi bj oj x y A1 c1 B1 e1 A2 c2 B2 e2 z i l γ' w':=by
 intro i l γ w γ' w' r h
 match l,h with
 |[v],h =>
  unfold Qu at h⊢;exact h
 |[],_=>trivial
 |_::_::_,_=>trivial
theorem WT(h:qP:=by
 have i0:(0:Int)≤(i:Int):=Y4;have i1:(i:Int)<(rows.length:Int):=Y4;exact Lp):qP:=h
theorem ASA(h:qP:=by
 have hx:=hR.drew_ext;have p1:=hx.cell HQI.o;exact Me):qP:=h
theorem XJ(h:qP:=by
 refine LinStep.yes fun vals γ w' ρ hR hN hp hρ hc hf hg=>⟨rfl,?_⟩;have e89:ρ (.tmp 89)=.pointer (some ⟨bB,oB+i,none⟩):=(hρ 89).trans (hp 2 Y17);exact ASA):qP:=h
theorem V6(h:qP:=by
 have i0:(0:Int)≤(m:Int):=Y4;have i1:(m:Int)<(rows[i].length:Int):=Y4;exact Lp):qP:=h
theorem YH(h:qP:=by
 have hx:=hR.drew_ext;have p0:=hx.cell HPI.o.1;have p1:=hx.cell HPI.o.2.1;have p2:=hx.cell HPI.o.2.2.1;have p3:=hx.cell HPI.o.2.2.2.1;have p4:=hx.cell HPI.o.2.2.2.2.1;have p5:=hx.cell HPI.o.2.2.2.2.2.1;have p6:=hx.cell HPI.o.2.2.2.2.2.2;exact Me):qP:=h
theorem Xi(h:qP:=by
 refine LinStep.yes fun vals γ w' ρ hR hN hp hρ hc hf hg=>⟨rfl,?_⟩;have e92:ρ (.tmp 92)=.pointer (some ⟨bi,oi+m*7,none⟩):=(hρ 92).trans (hp 5 Y17);exact YH):qP:=h
theorem U8(h:qP:=by
 have i0:(0:Int)≤(j:Int):=Y4;have i1:(j:Int)<(rows.length:Int):=Y4;exact Lp):qP:=h
theorem AHA(h:qP:=by
 have hx:=hR.drew_ext;have p1:=hx.cell HQJ.o;exact Me):qP:=h
theorem Wu(h:qP:=by
 refine LinStep.yes fun vals γ w' ρ hR hN hp hρ hc hf hg=>⟨rfl,?_⟩;have e96:ρ (.tmp 96)=.pointer (some ⟨bB,oB+j,none⟩):=(hρ 96).trans (hp 9 Y17);exact AHA):qP:=h
theorem VN(h:qP:=by
 have i0:(0:Int)≤(m:Int):=Y4;have i1:(m:Int)<(rows[j].length:Int):=Y4;exact Lp):qP:=h
theorem X1(h:qP:=by
 have hx:=hR.drew_ext;have p0:=hx.cell HPJ.o.1;have p1:=hx.cell HPJ.o.2.1;have p2:=hx.cell HPJ.o.2.2.1;have p3:=hx.cell HPJ.o.2.2.2.1;have p4:=hx.cell HPJ.o.2.2.2.2.1;have p5:=hx.cell HPJ.o.2.2.2.2.2.1;have p6:=hx.cell HPJ.o.2.2.2.2.2.2;exact Me):qP:=h
theorem AvA(h:qP:=by
 refine LinStep.yes fun vals γ w' ρ hR hN hp hρ hc hf hg=>⟨rfl,?_⟩;have e99:ρ (.tmp 99)=.pointer (some ⟨bj,oj+m*7,none⟩):=(hρ 99).trans (hp 12 Y17);exact X1):qP:=h
theorem X8(h:qP:=by
 have hx:=hR.drew_ext;have HR:=Hd hR;have HN:=Hd hN;clear hR hN hp hρ hx;go_light;go_simp;refine (Ch q x y A1 B1 A2 B2 c1 e1 c2 e2 _ T T (HVI.o.keep (HR.o.drew_ext.kept _)) (HVJ.o.keep (HR.o.drew_ext.kept _))).mono ?_;rintro e' w3 ⟨he,hx⟩;rw [←HZ.o] at he;exact ⟨_,he,γ,E8A γ hx,fun _ _ _ h=>h,rfl⟩):qP:=h
theorem BLA(h:qP:=by
 refine LinStep.yes fun vals γ w' ρ hR hN hp hρ hc hf hg=>⟨rfl,?_⟩;have e93:ρ (.tmp 93)=(Vq x A1 c1 B1 e1):=(hρ 93).trans (hp 6 Y17);have e100:ρ (.tmp 100)=(Vq y A2 c2 B2 e2):=(hρ 100).trans (hp 13 Y17);exact X8):qP:=h
theorem ErA(h:qP:=by
 subst hbj;intro ha hb2 hf;exact absurd (List.all_eq_true.2 hf) (by rw [HSA.o];simp)):qP:=h
theorem AoA(h:qP:=by
 refine ⟨j+1,Y4,Y5,HE.o.trans HX9.o,fun b hb => ?_⟩;by_cases hbj:b=j
 ·exact ErA
 ·exact HPJ0.o b Y4):qP:=h
theorem M3(h:qP:=by rw [JH HREG.o hlti];exact hm0l):qP:=h
theorem Mn(h:qP:=by rw [JH HREG.o hltj'];exact hm0l):qP:=h
theorem TW(h:qP:=by rw [JH HREG.o hlti];exact hm1l):qP:=h
theorem UX(h:qP:=by rw [JH HREG.o hltj'];exact hm1l):qP:=h
theorem P7(q:Nat)(cols:List BA)(rows:List (List Val))(frm:List BA)(x0:BA)(A B C:OA)(ca cb cc:Nat)(w:World)(S T U:NP)(hA:Strs w S A cols)(hB:Rows w T q B rows)(hC:Strs w U C frm) :
  Cl 68 #[.slice A cols.length ca,.slice B rows.length cb,.agg #[.slice C frm.length cc,.string x0]] w (AO w (Al cols rows frm x0)):=by
 have hcl:=hA.2.1;have hrl:=hB.len;have hfl:=hC.2.1;obtain ⟨HA0,HB0,HC0⟩:=Hd3 hA hB hC;clear hA hB hC;have HGB:=Hd (Blk.new w 69 #[.slice C frm.length cc,.string x0]);obtain ⟨w1,hw1⟩:=eqx (w.alloc (.cells #[.slice C frm.length cc,.string x0] 69));have hx1:Ext w w1:=(by rw [hw1];exact (Ext.refl _).alloc _);obtain ⟨HX1,HA,HB,HC⟩:=Hd4 hx1 (HA0.o.keep (hx1.kept _)) (HB0.o.keep (hx1.kept _)) (HC0.o.keep (hx1.kept _));rw [←hw1] at HGB;have HW1:=Hd hw1;clear hx1 hw1 HA0 HB0 HC0
 go_enter func68,ntmps68
 go_wp2_with fail
 rw [←HW1.o];refine (JP q cols rows A B ca cb _ T hcl HB.o).mono ?_;rintro e1 w1' ⟨rfl,rfl⟩;have g1:=HGB.o.q1
 go_wp2_with fail
 refine (DF A ca cols x0 _ S HA.o).mono ?_;rintro e2 w2' ⟨rfl,rfl⟩;cases hreg:Cu cols rows
 ·go_wp2;go_ret;exact ⟨by rw [F9 (fun h=>by rw [hreg] at h;cases h.2.1)];rfl,HX1.o⟩
 have HREG:=Hd hreg;clear hreg;by_cases hxm:x0∈cols
 case neg =>
  have hi:BM cols x0=-1:=IQ fun j hj e=>hxm (e ▸ List.getElem_mem hj);rw [hi];have HXM:=Hd hxm;clear hi hxm;go_wp2;go_ret;exact ⟨by rw [F9 (fun h=>HXM.o h.1)];rfl,HX1.o⟩
 obtain ⟨m0,hm0,hm0l,-,-⟩:=GD ((Dp cols x0).2 hxm);rw [hm0];have HXM:=Hd hxm;have HM0:=Hd hm0;have g0:=HGB.o.q0;clear hxm hm0 g1;have hm00:decide ((m0:Int)<0)=false:=Y3;go_wp2;clear hm00
 go_loop [9] (fun i=>∃ k:Nat,k≤frm.length∧i=.I k∧∀ j (h:j<frm.length),j<k→frm[j]∈cols) (fun i=>frm.length-(intOf i).toNat)
 case atStart=>exact ⟨0,AE,rfl,Y8⟩
 case round =>
  obtain ⟨k,hk,rfl,hall⟩:=hrel;have HFA:=Hd hall;clear hall;by_cases hlt:k<frm.length
  ·obtain ⟨b1,o1,hC1,z1,q1⟩:=HC.o.at_ hlt;subst hC1;by_cases hfm:frm[k]∈cols
   ·obtain ⟨m1,hm1,-,-,-⟩:=GD ((Dp cols frm[k]).2 hfm);have HFM:=Hd hfm;have HM1:=Hd hm1;clear hfm hm1
    go_wp2_with fail
    refine (DF A ca cols frm[k] _ S HA.o).mono ?_;rintro e2 w2' ⟨rfl,rfl⟩;rw [HM1.o];have hm00:decide ((m1:Int)<0)=false:=Y3;go_wp2
    go_round
    case rel =>
     refine ⟨k+1,Y4,Y5,fun j h hj => ?_⟩;by_cases hjk:j=k
     ·subst hjk;exact HFM.o
     ·exact HFA.o j h Y4
    case measure=>simp [intOf];omega
   ·have HFM:=Hd hfm;have hi:BM cols frm[k]=-1:=IQ fun j hj e=>hfm (e ▸ List.getElem_mem hj);have HI:=Hd hi;clear hfm hi
    go_wp2_with fail
    refine (DF A ca cols frm[k] _ S HA.o).mono ?_;rintro e2 w2' ⟨rfl,rfl⟩;rw [HI.o];go_wp2;go_ret;exact ⟨by rw [F9 (fun h=>HFM.o (h.2.2.1 _ (List.getElem_mem hlt)))];rfl,HX1.o⟩
  ·have hfc:∀ f∈frm,f∈cols:=fun f hf=>by
    obtain ⟨j,hj,rfl⟩:=List.getElem_of_mem hf;exact HFA.o j hj Y4
   have HFC:=Hd hfc;clear hfc HFA;go_wp2
   go_loopw [10] (fun v wr=>∃ i:Nat,i≤rows.length∧v=.I i∧Ext w1 wr∧∀ a b,a<i→b<a→Lw cols rows frm x0 a b) (fun v _=>rows.length-(intOf v).toNat)
   case atStart=>exact ⟨0,AE,rfl,Ext.refl _,fun a b h=>absurd h Y4⟩
   case round =>
    obtain ⟨i,hi,rfl,hext,hpr⟩:=hrel;have HE:=Hd hext;have HPR:=Hd hpr;clear hext hpr;by_cases hlti:i<rows.length
    ·go_wp2
     go_loopw [11] (fun v wr=>∃ j:Nat,j≤i∧v=.I j∧Ext w1 wr∧∀ b,b<j→Lw cols rows frm x0 i b) (fun v _=>i-(intOf v).toNat)
     case atStart=>exact ⟨0,AE,rfl,HE.o,fun b h=>absurd h Y4⟩
     case round =>
      clear HE;obtain ⟨j,hj,rfl,hext,hpj⟩:=hrel;have HE:=Hd hext;have HPJ:=Hd hpj;clear hext hpj;by_cases hltj:j<i
      ·have hltj':j<rows.length:=Y4;go_wp2
       go_loopw [13,12] (fun v u wr=>∃ (k:Nat) (sm:Bool),k≤frm.length∧v=.I k∧u=.bool sm∧sm=(frm.take k).all (fun f=>Bz (BM cols f).toNat rows[i] rows[j])∧Ext w1 wr) (fun v _ _=>frm.length-(intOf v).toNat)
       case atStart=>exact ⟨0,true,AE,rfl,rfl,rfl,HE.o⟩
       case round =>
        clear HE;obtain ⟨k,sm,hk2,rfl,rfl,hsm,hext⟩:=hrel;have HE:=Hd hext;have HSM:=Hd hsm;clear hext hsm;have g0:=HE.o.cell (HGB.o.q0);by_cases hltk:k<frm.length
        ·cases sm
         ·have hsame:frm.all (fun f=>Bz (BM cols f).toNat rows[i] rows[j])=false:=by
           rw [←List.take_append_drop k frm,List.all_append,←HSM.o];rfl
          have HSA:=Hd hsame;clear hsame HSM
          go_upto_region 22 with fail
          obtain ⟨bB,oB,bi,oi,ei,bj,oj,ej,A1,c1,B1,e1,A2,c2,B2,e2,hBB,qi,pi,vi,qj,pj,vj⟩:=II (i:=i) (j:=j) (m:=m0) (HB.o.keep (HE.o.kept _)) hlti hltj' M3 Mn;subst hBB;obtain ⟨x,hx⟩:=eqx (rows[i][m0]'M3);obtain ⟨y,hy⟩:=eqx (rows[j][m0]'Mn);rw [←hx] at pi vi;rw [←hy] at pj vj;obtain ⟨z,hz⟩:=eqx (decide (x=y));obtain ⟨HZQ,HQI,HQJ,HPI⟩:=Hd4 (show z=Bz m0 rows[i] rows[j] by rw [Ln hlti hltj' M3 Mn,←hx,←hy];exact hz) qi qj pi;have HPJ0:=HPJ;obtain ⟨HPJ,HVI,HVJ,HZ⟩:=Hd4 pj vi vj hz;have hli:m0<rows[i].length:=M3;have hlj:m0<rows[j].length:=Mn;clear qi pi vi qj pj vj hx hy hz;obtain ⟨m,rfl⟩:=eqx m0;refine BB Y11 (fun i=>[i]) Y11 LR LR.refl LR.trans (LN (al0)) (Qu bB oB rows.length cb i j m rows[i].length ei rows[j].length ej bi oi bj oj x y A1 c1 B1 e1 A2 c2 B2 e2 z) (Pa _ _ _ _ _ _ _ _ _ _ _ _ _ _ _ _ _ _ _ _ _ _ _ _ _ _) gh0 (LN.zero _) ⟨?_,?_,?_,?_,?_,?_,?_,?_,?_,?_,?_,?_,?_,?_,?_,?_,trivial⟩ ?_
          ·exact Lp
          ·exact Lp
          ·exact WT
          ·exact XJ
          ·exact Lp
          ·exact V6
          ·exact Xi
          ·exact Lp
          ·exact Lp
          ·exact U8
          ·exact Wu
          ·exact Lp
          ·exact VN
          ·exact AvA
          ·exact BLA
          ·exact Lp
          ·intro vals γ w' hR hG;have h15:vals 15=.bool z:=hG 15 Y17;have HX9:=Hd hR.drew_ext;clear hR hG;simp only [AR,Act.put,List.setIfInBounds_toArray,List.set_cons_succ,List.set_cons_zero,Nat.zero_add,Nat.reduceAdd,h15];clear h15;go_wp2;go_roundw
           case rel =>
            exact AoA
           case measure=>simp [intOf];omega
         ·obtain ⟨b1,o1,hC1,z1,q1⟩:=(HC.o.keep (HE.o.kept _)).at_ hltk;subst hC1;obtain ⟨m1,hm1,hm1l,-,-⟩:=GD ((Dp cols frm[k]).2 (HFC.o _ (List.getElem_mem hltk)));have HM1:=Hd hm1;clear hm1
          go_wp2_with fail
          refine (DF A ca cols frm[k] _ S (HA.o.keep (HE.o.kept _))).mono ?_;rintro e2 w2' ⟨rfl,rfl⟩;rw [HM1.o]
          go_upto_region 21 with fail
          obtain ⟨bB,oB,bi,oi,ei,bj,oj,ej,A1,c1,B1,e1,A2,c2,B2,e2,hBB,qi,pi,vi,qj,pj,vj⟩:=II (i:=i) (j:=j) (m:=m1) (HB.o.keep (HE.o.kept _)) hlti hltj' TW UX;subst hBB;obtain ⟨x,hx⟩:=eqx (rows[i][m1]'TW);obtain ⟨y,hy⟩:=eqx (rows[j][m1]'UX);rw [←hx] at pi vi;rw [←hy] at pj vj;obtain ⟨z,hz⟩:=eqx (decide (x=y));obtain ⟨HZQ,HQI,HQJ,HPI⟩:=Hd4 (show z=Bz m1 rows[i] rows[j] by rw [Ln hlti hltj' TW UX,←hx,←hy];exact hz) qi qj pi;have HPJ0:=HPJ;obtain ⟨HPJ,HVI,HVJ,HZ⟩:=Hd4 pj vi vj hz;have hli:m1<rows[i].length:=TW;have hlj:m1<rows[j].length:=UX;clear qi pi vi qj pj vj hx hy hz;obtain ⟨m,rfl⟩:=eqx m1;clear q1 g0;refine BB Y11 (fun i=>[i]) Y11 LR LR.refl LR.trans (LN (al0)) (UD bB oB rows.length cb i j m rows[i].length ei rows[j].length ej bi oi bj oj x y A1 c1 B1 e1 A2 c2 B2 e2 z) (Ti _ _ _ _ _ _ _ _ _ _ _ _ _ _ _ _ _ _ _ _ _ _ _ _ _ _) gh0 (LN.zero _) ⟨?_,?_,?_,?_,?_,?_,?_,?_,?_,?_,?_,?_,?_,?_,?_,?_,trivial⟩ ?_
          ·exact Lp
          ·exact Lp
          ·exact WT
          ·refine LinStep.yes fun vals γ w' ρ hR hN hp hρ hc hf hg=>⟨rfl,?_⟩;have e74:ρ (.tmp 74)=.pointer (some ⟨bB,oB+i,none⟩):=(hρ 74).trans (hp 2 Y17);exact ASA
          ·exact Lp
          ·exact V6
          ·refine LinStep.yes fun vals γ w' ρ hR hN hp hρ hc hf hg=>⟨rfl,?_⟩;have e77:ρ (.tmp 77)=.pointer (some ⟨bi,oi+m*7,none⟩):=(hρ 77).trans (hp 5 Y17);exact YH
          ·exact Lp
          ·exact Lp
          ·exact U8
          ·refine LinStep.yes fun vals γ w' ρ hR hN hp hρ hc hf hg=>⟨rfl,?_⟩;have e81:ρ (.tmp 81)=.pointer (some ⟨bB,oB+j,none⟩):=(hρ 81).trans (hp 9 Y17);exact AHA
          ·exact Lp
          ·exact VN
          ·refine LinStep.yes fun vals γ w' ρ hR hN hp hρ hc hf hg=>⟨rfl,?_⟩;have e84:ρ (.tmp 84)=.pointer (some ⟨bj,oj+m*7,none⟩):=(hρ 84).trans (hp 12 Y17);exact X1
          ·refine LinStep.yes fun vals γ w' ρ hR hN hp hρ hc hf hg=>⟨rfl,?_⟩;have e78:ρ (.tmp 78)=(Vq x A1 c1 B1 e1):=(hρ 78).trans (hp 6 Y17);have e85:ρ (.tmp 85)=(Vq y A2 c2 B2 e2):=(hρ 85).trans (hp 13 Y17);exact X8
          ·exact Lp
          ·intro vals γ w' hR hG;have h15:vals 15=.bool z:=hG 15 Y17;have HX9:=Hd hR.drew_ext;clear hR hG;simp only [AR,Act.put,List.setIfInBounds_toArray,List.set_cons_succ,List.set_cons_zero,Nat.zero_add,Nat.reduceAdd,h15];clear h15;go_wp2;go_roundw
           case rel =>
            refine ⟨k+1,z,Y4,Y5,rfl,?_,HE.o.trans HX9.o⟩;rw [List.take_succ_eq_append_getElem hltk,List.all_append,←HSM.o];simp [HM1.o,HZQ.o]
           case measure=>simp [intOf];omega
        ·have hsame:frm.all (fun f=>Bz (BM cols f).toNat rows[i] rows[j])=sm:=(by rw [HSM.o,List.take_of_length_le Y4]);have HSA:=Hd hsame;clear hsame HSM
         go_upto_region 22 with fail
         obtain ⟨bB,oB,bi,oi,ei,bj,oj,ej,A1,c1,B1,e1,A2,c2,B2,e2,hBB,qi,pi,vi,qj,pj,vj⟩:=II (i:=i) (j:=j) (m:=m0) (HB.o.keep (HE.o.kept _)) hlti hltj' M3 Mn;subst hBB;obtain ⟨x,hx⟩:=eqx (rows[i][m0]'M3);obtain ⟨y,hy⟩:=eqx (rows[j][m0]'Mn);rw [←hx] at pi vi;rw [←hy] at pj vj;obtain ⟨z,hz⟩:=eqx (decide (x=y));obtain ⟨HZQ,HQI,HQJ,HPI⟩:=Hd4 (show z=Bz m0 rows[i] rows[j] by rw [Ln hlti hltj' M3 Mn,←hx,←hy];exact hz) qi qj pi;have HPJ0:=HPJ;obtain ⟨HPJ,HVI,HVJ,HZ⟩:=Hd4 pj vi vj hz;have hli:m0<rows[i].length:=M3;have hlj:m0<rows[j].length:=Mn;clear qi pi vi qj pj vj hx hy hz;obtain ⟨m,rfl⟩:=eqx m0;refine BB Y11 (fun i=>[i]) Y11 LR LR.refl LR.trans (LN (al0)) (Qu bB oB rows.length cb i j m rows[i].length ei rows[j].length ej bi oi bj oj x y A1 c1 B1 e1 A2 c2 B2 e2 z) (Pa _ _ _ _ _ _ _ _ _ _ _ _ _ _ _ _ _ _ _ _ _ _ _ _ _ _) gh0 (LN.zero _) ⟨?_,?_,?_,?_,?_,?_,?_,?_,?_,?_,?_,?_,?_,?_,?_,?_,trivial⟩ ?_
         ·exact Lp
         ·exact Lp
         ·exact WT
         ·exact XJ
         ·exact Lp
         ·exact V6
         ·exact Xi
         ·exact Lp
         ·exact Lp
         ·exact U8
         ·exact Wu
         ·exact Lp
         ·exact VN
         ·exact AvA
         ·exact BLA
         ·exact Lp
         ·intro vals γ w' hR hG;have h15:vals 15=.bool z:=hG 15 Y17;have HX9:=Hd hR.drew_ext;clear hR hG;simp only [AR,Act.put,List.setIfInBounds_toArray,List.set_cons_succ,List.set_cons_zero,Nat.zero_add,Nat.reduceAdd,h15];clear h15;cases sm
          ·skip
           go_wp2;go_roundw
           case rel =>
            exact AoA
           case measure=>simp [intOf];omega
          ·cases z
           ·skip
            go_wp2;go_ret;refine ⟨?_,(HX1.o.trans HE.o).trans HX9.o⟩;have hno:Al cols rows frm x0=false:=F9 fun h=>by
             have hp:=h.2.2.2 i j hltj hlti hltj' (fun f hf=>List.all_eq_true.1 HSA.o f hf);rw [HM0.o,Int.toNat_natCast,←HZQ.o] at hp;cases hp
            rw [hno];rfl
           ·skip
            go_wp2;go_roundw
            case rel =>
             refine ⟨j+1,Y4,Y5,HE.o.trans HX9.o,fun b hb => ?_⟩;by_cases hbj:b=j
             ·subst hbj;intro ha hb2 hf;rw [HM0.o,Int.toNat_natCast,←HZQ.o]
             ·exact HPJ0.o b Y4
            case measure=>simp [intOf];omega
      ·go_wp2;go_roundw
       case rel =>
        refine ⟨i+1,Y4,Y5,HE.o,fun a b ha hb => ?_⟩;by_cases hai:a=i
        ·subst hai;exact HPJ.o b Y4
        ·exact HPR.o a b Y4 hb
       case measure=>simp [intOf];omega
    ·go_wp2;go_ret;refine ⟨?_,HX1.o.trans HE.o⟩;rw [Ma HXM.o HREG.o HFC.o (fun a b hb ha hb2=>HPR.o a b Y4 hb ha hb2)];rfl

def Eb(rows:List (List Val))(n i:Nat):Bool:=EF rows n [i]
def Mr(rows:List (List Val))(n i j:Nat):Bool:=!Eb rows n i&&!Eb rows n j&&EF rows n [i,j]
def GR(cols:List BA)(rows:List (List Val))(i:Nat):List Dep:=if Eb rows cols.length i=true then Bo cols [(i:Int)] cols.length else []
def Ga(cols:List BA)(rows:List (List Val))(i j:Nat):List Dep:=if Mr rows cols.length i j=true then Bo cols [(i:Int),(j:Int)] cols.length else []
def PR(cols:List BA)(rows:List (List Val)):List Dep :=
 if !Gs cols||!Cu cols rows then [] else if EF rows cols.length []=true then Bo cols [] cols.length
 else (List.range cols.length).flatMap (GR cols rows)++(List.range cols.length).flatMap fun i=>(List.range' (i+1) (cols.length-(i+1))).flatMap (Ga cols rows i)
theorem Pf(cols:List BA)(rows:List (List Val))(st:List (List Int) × List Dep)(h:[]∈st.1):∀ l:List (List Int),l.foldl (As cols rows) st=st:=by
 intro l
 induction l with
 |nil=>rfl
 |cons s m ih =>
  rw [List.foldl_cons];have:As cols rows st s=st:=by
   unfold As;rw [if_pos];exact List.any_eq_true.2 ⟨[],h,rfl⟩
  rw [this,ih]
theorem JF(j:Nat)(s:List Int):Gd [(j:Int)] s=decide ((j:Int)∈s):=by
 unfold Gd GM;rw [Bool.eq_iff_iff];simp
theorem RR(cols:List BA)(rows:List (List Val)):∀ m,((List.range m).map fun i:Nat=>[(i:Int)]).foldl (As cols rows) ([],[])=(((List.range m).filter (Eb rows cols.length)).map fun i:Nat=>[(i:Int)],(List.range m).flatMap (GR cols rows)):=by
 intro m
 induction m with
 |zero=>rfl
 |succ m ih =>
  rw [List.range_succ,List.map_append,List.foldl_append,ih,List.filter_append,List.map_append,List.flatMap_append];show As cols rows _ [(m:Int)]=_;unfold As;rw [if_neg]
  ·have hs:EF rows cols.length ([(m:Int)].map Int.toNat)=Eb rows cols.length m:=rfl;rw [hs];cases h:Eb rows cols.length m<;>simp [h,GR]
  ·intro hh;obtain ⟨k,hk,h2⟩:=List.any_eq_true.1 hh;obtain ⟨i,hi,rfl⟩:=List.mem_map.1 hk;have:=List.mem_range.1 (List.mem_filter.1 hi).1;rw [JF] at h2;simp at h2;omega
def mkP(p:Nat × Nat):List Int:=[(p.1:Int),(p.2:Int)]
theorem Rm(cols:List BA)(rows:List (List Val))(K0:List (List Int))(n:Nat)(hK:K0=((List.range n).filter (Eb rows cols.length)).map fun i:Nat=>[(i:Int)]) :
  ∀ (L D:List (Nat × Nat)),(D++L).Nodup→(∀ p∈D++L,p.1<p.2∧p.2<n)→∀ ds,((L.map mkP).foldl (As cols rows) (K0++(D.filter fun p=>Mr rows cols.length p.1 p.2).map mkP,ds)).2=ds++L.flatMap fun p=>Ga cols rows p.1 p.2:=by
 intro L
 induction L with
 |nil=>intro D _ _ ds;simp
 |cons p L ih =>
  intro D hn hl ds;have hD:p ∉ D:=fun hm=>by
   have:=(List.nodup_append.1 hn).2.2 p hm p Y3;exact this rfl
  obtain ⟨hp1,hp2⟩:=hl p Y3;have hn':((D++[p])++L).Nodup:=(by simpa using hn);have hl':∀ q∈(D++[p])++L,q.1<q.2∧q.2<n:=Y12;rw [List.map_cons,List.foldl_cons,List.flatMap_cons];have hany:((K0++(D.filter fun p=>Mr rows cols.length p.1 p.2).map mkP).any fun k=>Gd k (mkP p))=(Eb rows cols.length p.1||Eb rows cols.length p.2):=by
   rw [Bool.eq_iff_iff,List.any_eq_true,Bool.or_eq_true];constructor
   ·rintro ⟨k,hk,h2⟩
    rcases List.mem_append.1 hk with hk|hk
    ·rw [hK] at hk;obtain ⟨i,hi,rfl⟩:=List.mem_map.1 hk;have hs:=(List.mem_filter.1 hi).2;rw [JF] at h2;have h3:i=p.1∨i=p.2:=by
      have:=of_decide_eq_true h2;simp [mkP] at this;omega
     rcases h3 with rfl|rfl
     ·exact .inl hs
     ·exact .inr hs
    ·exfalso;obtain ⟨q,hq,rfl⟩:=List.mem_map.1 hk;have hqD:=(List.mem_filter.1 hq).1;have hql:=hl q (by simp [hqD]);unfold Gd GM mkP at h2;simp at h2;have:q=p:=by
      have h1:q.1=p.1:=Y4;have h3:q.2=p.2:=Y4;exact Prod.ext h1 h3
     exact hD (this ▸ hqD)
   ·intro h;have hin:∀ i,i<n→Eb rows cols.length i=true→[(i:Int)]∈K0:=fun i hi hs=>by
     rw [hK];exact List.mem_map.2 ⟨i,List.mem_filter.2 ⟨List.mem_range.2 hi,hs⟩,rfl⟩
    rcases h with h|h
    ·exact ⟨[(p.1:Int)],List.mem_append.2 (.inl (hin _ Y4 h)),by rw [JF];simp [mkP]⟩
    ·exact ⟨[(p.2:Int)],List.mem_append.2 (.inl (hin _ Y4 h)),by rw [JF];simp [mkP]⟩
  have hst:As cols rows (K0++(D.filter fun p=>Mr rows cols.length p.1 p.2).map mkP,ds) (mkP p)=(K0++((D++[p]).filter fun p=>Mr rows cols.length p.1 p.2).map mkP,ds++Ga cols rows p.1 p.2):=by
   unfold As;dsimp only;rw [hany];have hk:EF rows cols.length ((mkP p).map Int.toNat)=EF rows cols.length [p.1,p.2]:=rfl;rw [hk];have hd:Mr rows cols.length p.1 p.2=(!Eb rows cols.length p.1&&!Eb rows cols.length p.2&&EF rows cols.length [p.1,p.2]):=rfl;rw [List.filter_append,List.map_append];unfold Ga;cases h1:Eb rows cols.length p.1<;>cases h2:Eb rows cols.length p.2<;>cases h3:EF rows cols.length [p.1,p.2]<;>simp [hd,h1,h2,h3,mkP]
  rw [hst,ih (D++[p]) hn' hl' _,List.append_assoc]
theorem Q5(n:Nat):(List.range n).flatMap (Ea n)=(((List.range n).flatMap fun i=>(List.range' (i+1) (n-(i+1))).map fun j=>(i,j))).map mkP:=by
 rw [List.map_flatMap];congr 1
 funext i
 unfold Ea;rw [List.map_map];rfl
theorem M8(n:Nat):((List.range n).flatMap fun i=>(List.range' (i+1) (n-(i+1))).map fun j=>(i,j)).Nodup:=by
 unfold List.Nodup;rw [List.pairwise_flatMap];refine ⟨fun i _ => ?_,?_⟩
 ·rw [List.pairwise_map];refine List.Pairwise.imp ?_ (List.nodup_range' (s:=i+1) (n:=n-(i+1)));intro a b hab he;exact hab (congrArg Prod.snd he)
 ·refine List.Pairwise.imp ?_ (List.nodup_range (n:=n));intro a b hab x hx y hy he;obtain ⟨_,_,rfl⟩:=List.mem_map.1 hx;obtain ⟨_,_,rfl⟩:=List.mem_map.1 hy;exact hab (congrArg Prod.fst he)
theorem R5(n:Nat):∀ p∈(List.range n).flatMap fun i=>(List.range' (i+1) (n-(i+1))).map fun j=>(i,j),p.1<p.2∧p.2<n:=by
 intro p hp;obtain ⟨i,hi,h2⟩:=List.mem_flatMap.1 hp;obtain ⟨j,hj,rfl⟩:=List.mem_map.1 h2;have:=List.mem_range.1 hi;rw [List.mem_range'_1] at hj;exact ⟨by show i<j;omega,by show j<n;omega⟩
theorem Mh(cols:List BA)(rows:List (List Val)):Bp cols rows=PR cols rows:=by
 unfold Bp PR;split
 ·rfl
 ·unfold EB;rw [List.append_assoc,List.foldl_append];cases h0:EF rows cols.length []
  ·have h1:[([]:List Int)].foldl (As cols rows) ([],[])=([],[]):=by
    show As cols rows ([],[]) []=_;unfold As;have hk:EF rows cols.length (([]:List Int).map Int.toNat)=false:=h0;rw [hk];rfl
   rw [h1,if_neg Y3,List.foldl_append,RR,Q5];have h2:=Rm cols rows _ cols.length rfl _ [] (by simpa using M8 cols.length) (by simpa using R5 cols.length) ((List.range cols.length).flatMap (GR cols rows));rw [show (([]:List (Nat × Nat)).filter fun p=>Mr rows cols.length p.1 p.2).map mkP=[] from rfl,List.append_nil] at h2;rw [h2,List.flatMap_assoc];congr 2
   funext i
   rw [List.flatMap_map]
  ·rw [if_pos rfl];have h1:[([]:List Int)].foldl (As cols rows) ([],[])=([[]],Bo cols [] cols.length):=by
    show As cols rows ([],[]) []=_;unfold As;have hk:EF rows cols.length (([]:List Int).map Int.toNat)=true:=h0;rw [hk];rfl
   rw [h1,Pf _ _ _ Y3]
theorem IU{cols:List BA}{rows:List (List Val)}(hn:cols.Nodup)(hr:Cu cols rows=true)(s:List Nat)(hs:∀ c∈s,c<cols.length) :
  EF rows cols.length s=cols.all fun x=>Al cols rows (s.map fun c=>cols.getD c ⟨#[]⟩) x:=by
 have hfr:(s.map fun c=>cols.getD c ⟨#[]⟩).all (fun f=>decide (0≤BM cols f))=true:=by
  rw [List.all_eq_true];intro f hf;obtain ⟨c,hc,rfl⟩:=List.mem_map.1 hf;exact decide_eq_true ((Dp _ _).2 (FU hn (hs c hc)).1)
 have hfi:(s.map fun c=>cols.getD c ⟨#[]⟩).map (fun f=>(BM cols f).toNat)=s:=by
  rw [List.map_map];have:s.map ((fun f=>(BM cols f).toNat) ∘ fun c=>cols.getD c ⟨#[]⟩)=s.map id:=List.map_congr_left fun c hc=>(FU hn (hs c hc)).2;rw [this,List.map_id]
 have hh:∀ c,c<cols.length→Al cols rows (s.map fun c=>cols.getD c ⟨#[]⟩) (cols.getD c ⟨#[]⟩)=Ef rows s c:=by
  intro c hc;unfold Al;rw [hfr,hfi,hr,(FU hn hc).2,decide_eq_true ((Dp _ _).2 (FU hn hc).1)];simp
 unfold EF;rw [Bool.eq_iff_iff,List.all_eq_true,List.all_eq_true];constructor
 ·intro h x hx;obtain ⟨c,hc,rfl⟩:=List.mem_iff_getElem.1 hx;have:=hh c hc;rw [Au _ _ _ hc] at this;rw [this];exact h c (List.mem_range.2 hc)
 ·intro h c hc;have hc:=List.mem_range.1 hc;rw [←hh c hc];exact h _ (by rw [Au _ _ _ hc];exact List.getElem_mem hc)
theorem Ge{cols:List BA}(hn:cols.Nodup)(s:List Nat)(hs:∀ c∈s,c<cols.length)(m:Nat)(hm:m≤cols.length) :
  Bo cols (s.map fun c:Nat=>(c:Int)) m=((cols.take m).filter fun x=>decide (BM (s.map fun c=>cols.getD c ⟨#[]⟩) x<0)).map fun x=>⟨s.map fun c=>cols.getD c ⟨#[]⟩,x⟩:=by
 have hns:CP cols (s.map fun c:Nat=>(c:Int))=s.map fun c=>cols.getD c ⟨#[]⟩:=by
  unfold CP;rw [List.map_map];rfl
 induction m with
 |zero=>rfl
 |succ m ih =>
  rw [Fl,ih Y4,List.take_succ_eq_append_getElem Y4,List.filter_append,List.map_append,hns];congr 1;have he:GM (s.map fun c:Nat=>(c:Int)) (m:Int) = !decide (BM (s.map fun c=>cols.getD c ⟨#[]⟩) cols[m]<0):=by
   have h1:BM (s.map fun c=>cols.getD c ⟨#[]⟩) cols[m]<0↔cols[m] ∉ s.map fun c=>cols.getD c ⟨#[]⟩:=by
    rw [←Dp];omega
   have h2:(cols[m]∈s.map fun c=>cols.getD c ⟨#[]⟩)↔m∈s:=by
    constructor
    ·intro h;obtain ⟨c,hc,he⟩:=List.mem_map.1 h;have hcl:=hs c hc;rw [Au _ _ _ hcl] at he;have:=(List.getElem_inj hn).1 he;exact this ▸ hc
    ·intro h;exact List.mem_map.2 ⟨m,h,Au _ _ _ Y4⟩
   unfold GM;rw [Bool.eq_iff_iff,List.any_eq_true,Bool.not_eq_true',decide_eq_false_iff_not,h1,Classical.not_not,h2];constructor
   ·rintro ⟨x,hx,hd⟩;obtain ⟨c,hc,rfl⟩:=List.mem_map.1 hx;have:=of_decide_eq_true hd;have:c=m:=Y4;exact this ▸ hc
   ·intro h;exact ⟨(m:Int),List.mem_map.2 ⟨m,h,rfl⟩,Y3⟩
  rw [he,Au _ _ _ (show m<cols.length by omega)];cases hd:decide (BM (s.map fun c=>cols.getD c ⟨#[]⟩) cols[m]<0)<;>simp only [List.filter_cons,List.filter_nil,hd]<;>rfl

theorem TB(q:Nat)(cols:List BA)(rows:List (List Val))(fs:List BA)(A B C:OA)(ca cb cc:Nat)(w:World)(S T U:NP)(hA:Strs w S A cols)(hB:Rows w T q B rows)(hC:Strs w U C fs) :
  Cl 112 #[.slice A cols.length ca,.slice B rows.length cb,.slice C fs.length cc] w (AO w (cols.all (Al cols rows fs))):=by
 have hcl:=hA.2.1;have HA:=Hd hA;have HH:=Hd (show ∀ w' (x:BA),Ext w w'→Cl 68 #[.slice A cols.length ca,.slice B rows.length cb,.agg #[.slice C fs.length cc,.string x]] w' (AO w' (Al cols rows fs x)) from fun w' x hw'=>P7 q cols rows fs x A B C ca cb cc w' _ _ _ (hA.keep (hw'.kept _)) (hB.keep (hw'.kept _)) (hC.keep (hw'.kept _)));clear hA hB hC
 go_enter func112,ntmps112
 go_wp2
 go_loopw [7] (fun i wr=>∃ k:Nat,k≤cols.length∧i=.I k∧Ext w wr∧∀ m (h:m<cols.length),m<k→Al cols rows fs cols[m]=true) (fun i _=>cols.length-(intOf i).toNat)
 case atStart=>exact ⟨0,AE,rfl,Ext.refl _,Y8⟩
 case round =>
  obtain ⟨k,hk,rfl,hext,hall⟩:=hrel;have HE:=Hd hext;have HAL:=Hd hall;clear hall;by_cases hlt:k<cols.length
  ·obtain ⟨b1,o1,rfl,z1,q0⟩:=(HA.o.keep (hext.kept _)).at_ hlt;obtain ⟨x,hx⟩:=eqx (cols[k]);rw [←hx] at q0;obtain ⟨hb,hhb⟩:=eqx (Al cols rows fs x);have HHX:=Hd (HH.o wr x hext);rw [←hhb] at HHX;have HX:=Hd hx;have HB:=Hd hhb;clear hext hx hhb
   go_wp2_with fail
   refine HHX.o.mono ?_;rintro e1 w1 ⟨rfl,hx1⟩;have HX1:=Hd (HE.o.trans hx1);clear hx1;cases hb
   ·go_wp2;go_ret;refine ⟨?_,HX1.o⟩;rw [Bg cols (Al cols rows fs) k hlt (by rw [←HX.o,←HB.o])];rfl
   ·go_wp2;go_roundw
    case rel =>
     refine ⟨k+1,Y4,Y5,HX1.o,fun m h hm => ?_⟩;by_cases hmk:m=k
     ·subst hmk;rw [←HX.o,←HB.o]
     ·exact HAL.o m h Y4
    case measure=>simp [intOf];omega
  ·go_wp2;go_ret;refine ⟨?_,HE.o⟩;rw [BX cols (Al cols rows fs) fun m h=>HAL.o m h Y4];rfl
def DBA(ws:World)(fs:List BA)(γ:Gz)(w':World)(v:Value):Prop:=∃ (A4:OA) (c4:Nat),v=.slice A4 fs.length c4∧γ 1003=true∧OwnSs w' ws.heap.size A4 c4 fs
def EYA(ws:World)(fs:List BA)(xt:BA)(γ:Gz)(w':World)(v:Value):Prop:=∃ (A4:OA) (c4:Nat),v=.agg #[.slice A4 fs.length c4,.string xt]∧γ 1003=true∧OwnSs w' ws.heap.size A4 c4 fs
def DeA(ws:World)(fs:List BA)(xt:BA)(γ:Gz)(w':World)(v:Value):Prop:=∃ (g:Nat) (A4:OA) (c4:Nat),v=.slice (some ⟨g,0,none⟩) 1 1∧γ 1003=true∧ws.heap.size≤g∧Blk w' g 69 #[.slice A4 fs.length c4,.string xt]∧OwnSs w' ws.heap.size A4 c4 fs∧ob A4≠some g
def Uo(base:Nat)(l:List Dep)(no:Nat)(γ:Gz)(w':World)(v:Value):Prop:=∃ (A5:OA) (c5:Nat),v=.slice A5 (no+1) c5∧γ 1003=true∧γ 1010=true∧OwnDs w' base (fun b=>base≤b) A5 c5 l
def C8(cols fs:List BA):List Dep:=(cols.filter fun x=>decide (BM fs x<0)).map fun x=>⟨fs,x⟩
theorem Ig(cols fs:List BA):(C8 cols fs).length≤cols.length:=by
 unfold C8;rw [List.length_map];exact List.length_filter_le _ _
theorem Oa(cols fs:List BA)(k:Nat)(hk:k<cols.length):C8 (cols.take (k+1)) fs=if BM fs cols[k]<0 then C8 (cols.take k) fs++[⟨fs,cols[k]⟩] else C8 (cols.take k) fs:=by
 unfold C8;rw [List.take_succ_eq_append_getElem hk,List.filter_append,List.map_append];by_cases h:BM fs cols[k]<0
 ·rw [if_pos h,List.filter_cons,if_pos (decide_eq_true h)];rfl
 ·rw [if_neg h,List.filter_cons,if_neg Y16];simp
theorem Ru(cols fs:List BA)(A C:OA)(ca cc:Nat)(w:World)(S U:NP)(hA:Strs w S A cols)(hC:Strs w U C fs)(hl:cols.length≤1000000) :
  Cl 113 #[.slice A cols.length ca,.slice C fs.length cc] w (Fx w (fun b=>w.heap.size≤b) (C8 cols fs)):=by
 have H:=Hd (hA.mono (T:=fun b=>b<w.heap.size) fun i hi _=>hi);have HC:=Hd (hC.mono (T:=fun b=>b<w.heap.size) fun i hi _=>hi);clear hA hC
 go_enter func113,ntmps113
 go_wp2
 go_loopw [6,5] (fun i v wr=>∃ (k:Nat) (A':OA) (c':Nat),k≤cols.length∧i=.I k∧v=.slice A' (C8 (cols.take k) fs).length c'∧Ext w wr∧OwnDs wr w.heap.size (fun b=>w.heap.size≤b) A' c' (C8 (cols.take k) fs)) (fun i _ _=>cols.length-(intOf i).toNat)
 case atStart=>exact ⟨0,none,0,AE,rfl,rfl,Ext.refl _,OwnDs.nil _ _ _⟩
 case round =>
  obtain ⟨k,A',c',hk,rfl,rfl,hext,hown⟩:=hrel;have HE:=Hd hext;have HO0:=Hd hown;by_cases hlt:k<cols.length
  ·obtain ⟨b1,o1,rfl,z1,q0⟩:=(H.o.keep (hext.kept _)).at_ hlt;have hb1:b1<w.heap.size:=by
    rcases H.o.1 with h0|⟨b,o,hA,hS,_⟩
    ·rw [List.map_eq_nil_iff] at h0;subst h0;simp at hlt
    ·injection hA with hA;injection hA with hA;rw [hA];exact hS
   obtain ⟨xt,hxt⟩:=eqx (cols[k]);have hnx:=Oa cols fs k hlt;have hln:=Ig (cols.take k) fs;rw [List.length_take] at hln;rw [←hxt] at q0 hnx;have HTO:=Hd (show xt.size≤4294967296 by rw [hxt];exact H.o.2.2 _ (List.getElem_mem hlt));obtain ⟨ds,hds⟩:=eqx (C8 (cols.take k) fs);rw [←hds] at hnx hln hown⊢;have HNX:=Hd hnx;have HO:=Hd hown;have hdk:ds.length≤k:=Y4;obtain ⟨ws,rfl⟩:=eqx wr;have HIX:=Hd (DF C cc fs xt ws _ (HC.o.keep (hext.kept _)));obtain ⟨ix,hix⟩:=eqx (BM fs xt);rw [←hix] at HIX HNX;have hszr:=hext.size;obtain ⟨HAL,HXS,HWS,HFR,HFB,Z0,Q0,HNB⟩:=Hd8 (show ∀ b,ob A'=some b→w.heap.size≤b∧b<ws.heap.size from fun b hb=>HO.o.blk hb) hext (show w.heap.size≤ws.heap.size from hszr) ((HC.o.keep (hext.kept _)).mono (T:=fun b=>b<ws.heap.size∧ob A'≠some b) fun b hb hh=>⟨hb,fun e=>by have:=(HO.o.blk e).1;have hh':b<w.heap.size:=hh;omega⟩) (show fs.length≤4294967296 from HC.o.2.1) (show b1<ws.heap.size∧ob A'≠some b1 from ⟨Y4,fun e=>by have:=(HO.o.blk e).1;omega⟩) q0 hdk;clear hext hown hnx hds hln hxt hix hszr hb1 HO0
   go_wp2_with fail
   refine HIX.o.mono ?_;rintro e1 w1 ⟨rfl,rfl⟩;by_cases hneg:ix<0
   ·have HI:=Hd (HNX.o.trans (if_pos hneg));clear q0
    go_upto_region 6 with fail
    refine Qa (fun m b=>(m=1003∧ws.heap.size≤b)∨(m=1010∧ob A'=some b)) [(0,[1010]),(1,[1003]),(2,[1003]),(3,[1003,1010]),(9,[1010]),(10,[1010])] ?_;refine Qp ?_;refine Qs (FP fun v γ w'=>∃ g:Nat,v=.slice (some ⟨g,0,none⟩) 0 0∧ws.heap.size≤g∧(γ 1003=false→Blk w' g 9 #[])) (EuA ?_) ?_ ?_
    ·rintro v γ wx γ' wy rr ⟨g,h1,h2,h3⟩;refine ⟨g,h1,h2,fun hk => ?_⟩;have hk0:γ 1003=false:=by
      cases h6:γ 1003 with
      |false=>rfl
      |true=>rw [rr.done _ h6] at hk;cases hk
     exact BzA
    ·exact R3
    refine Qp ?_;refine Chain.step (FP fun v γ w'=>DBA ws fs γ w' v) Y41 (EuA ?_) ?_ ?_
    ·exact Tq
    ·intro vals γ w' ρ hR hN hp hρ hc hf hg;refine ⟨rfl,?_⟩;obtain ⟨g,hv1,hg,hb⟩:=hp 1 Y17;have e21:=(hρ 21).trans hv1;have e22:ρ (.tmp 22)=_:=(hρ 22).trans (hp 2 Y17);have hk0:=hN.key (k:=1003) Y17;have hbg:=hb hk0;have ho:Own w' ws.heap.size 9 1 (some ⟨g,0,none⟩) 0 0 []:=FNA (xs:=[]) hbg hg;have hrd:=HFR.o.1.keep (hR.kept0 (S:=fun b=>b<ws.heap.size∧ob A'≠some b) (fun b hbl (hb:b<ws.heap.size∧ob A'≠some b) m hm=>Y97));have hsz:=hR.size;have e0:ws.drew.heap.size=ws.heap.size:=rfl;refine Bw (.tmp 21) (.tmp 22) rfl tiS e21 ho e22 hrd (by rw [List.length_map,Nat.mul_one]) (fun u hu=>DI _ u hu) (by have:=HFB.o;omega) Y17 Y4 ?_;intro A4 c4 w4 hown4 hg4 hat4;rw [Nat.zero_add] at hown4;refine ⟨γ.put 1003,EvA hk0 hg4.os hg4.tape hg4.output hg4.size (fun b hb hm=>hg4.block b hb fun e=>hm (.inl ⟨rfl,by simp [ob] at e;omega⟩)),LK.done Y17,A4,c4,?_,Y64,?_,HFR.o.2.2⟩
     ·show Value.slice A4 (0+fs.length) c4=.slice A4 fs.length c4;rw [Nat.zero_add]
     ·simpa using hown4
    iterate 3 refine Qp ?_
    refine Qm (fun vals γ w' ρ hR hN hp hρ zs zg=>by
     have hkk:=hR.o.kept0 (S:=fun b=>b<ws.heap.size∧ob A'≠some b) (fun b hbl (hb:b<ws.heap.size∧ob A'≠some b) m hm=>Y97);have m0:=Kept.cell hkk Z0.o Q0.o;clear hkk;exact Qk) ?_
    refine Qs (FP fun v γ w'=>EYA ws fs xt γ w' v) (EuA ?_) ?_ ?_
    ·exact Tq
    ·intro vals γ w' ρ hR hN hp hρ zs zg;obtain ⟨A4,c4,hv4,hd4,ho4⟩:=hp.o 3 Y17;have e23:=(hρ.o 23).trans hv4;exact U4
    refine Qs (FP fun v γ w'=>DeA ws fs xt γ w' v) (EuA ?_) ?_ ?_
    ·exact Ws
    ·intro vals γ w' ρ hR hN hp hρ zs zg;obtain ⟨A4,c4,hv4,hd4,ho4⟩:=hp.o 8 Y17;have e28:=(hρ.o 28).trans hv4;have HO:=Hd ho4;have HD:=Hd hd4;have HR:=hR;clear hv4 ho4 hd4;refine Qr ?_;have hx1:=(Ext.refl w').alloc (.cells #[.slice A4 fs.length c4,.string xt] 69);exact Zc
    refine Chain.step (FP fun v γ w'=>Uo w.heap.size (ds++[⟨fs,xt⟩]) ds.length γ w' v) Y41 (EuA ?_) ?_ ?_
    ·exact S2
    ·intro vals γ w' ρ hR hN hp hρ hc hf hg;refine ⟨rfl,?_⟩;have e20:ρ (.tmp 20)=_:=(hρ 20).trans (hp 0 Y17);obtain ⟨g,A4,c4,hv14,hd14,hg14,hb14,ho4,hne⟩:=hp 9 Y17;have e29:=(hρ 29).trans hv14;have hk0:=hN.key (k:=1010) Y17;have hod:=HO.o.keep (hR.kept0 (S:=fun b=>ob A'=some b∨w.heap.size≤b) fun b hbl _ m hm=>by rcases hm with ⟨rfl,h⟩|⟨rfl,h⟩;(have e0:ws.drew.heap.size=ws.heap.size:=rfl;omega);exact hk0);obtain ⟨xs,hxl,ho,hv⟩:=hod.add;have hsz:=hR.size;have e0:ws.drew.heap.size=ws.heap.size:=rfl;have hws:=HWS.o;refine Bw (.tmp 20) (.tmp 29) rfl tiD e20 ho e29 (Blk.rd hb14) rfl Y18 (by have:=HNB.o;omega) Y17 Y4 ?_;intro A5 c5 w5 hown5 hg5 hat5;refine ⟨γ.put 1010,EvA hk0 hg5.os hg5.tape hg5.output hg5.size (fun b hb hm=>hg5.block b hb fun e=>hm (.inr ⟨rfl,e.symm⟩)),LK.done Y17,A5,c5,rfl,by simp [Gz.put,hd14],Y64,?_⟩;refine OwnDs.push (r:=⟨fs,xt⟩) hxl hv hown5 hg5 hat5 (Own.cap ho4.1) HTO.o ((ho4.strs HFB.o fun b hb=>hb).mono fun b _ hb=>⟨fun e => ?_,?_⟩)
     ·have h1:=(ho4.1.blk hb).1;have h2:=(HAL.o b e).2;omega
     ·have h1:=(ho4.1.blk hb).1;omega
    refine Qs (FP fun v γ w'=>Uo w.heap.size (ds++[⟨fs,xt⟩]) ds.length γ w' v) (EuA ?_) ?_ ?_
    ·exact S2
    ·intro vals γ w' ρ hR hN hp hρ zs zg;obtain ⟨A5,c5,hv5,h07,h15,hod5⟩:=hp.o 10 Y17;have e30:=(hρ.o 30).trans hv5;exact AOA
    intro vals γ w9 hR hG;obtain ⟨A5,c5,v16,-,-,hod5⟩:=hG 11 Y17;have HXN:=Hd (show Ext w w9 from AX HXS.o (hR.buts (S:=fun b=>w.heap.size≤b) (fun m b hbl hm _=>by rcases hm with ⟨_,h⟩|⟨_,h⟩;(have:=HWS.o;omega);exact (HAL.o b h).1)) (fun b hb=>hb));have HOD5:=Hd hod5;refine Qx ?_;simp only [v16];clear hR hG v16 hod5;go_wp2;go_roundw
    case rel=>exact ⟨k+1,A5,c5,Y4,Y5,by rw [HI.o,List.length_append];rfl,HXN.o,by rw [HI.o];exact HOD5.o⟩
    case measure=>simp [intOf];omega
   ·have HI:=Hd (HNX.o.trans (if_neg hneg));go_wp2;go_roundw
    case rel=>exact ⟨k+1,A',c',Y4,Y5,by rw [HI.o],HXS.o,by rw [HI.o];exact HO.o⟩
    case measure=>simp [intOf];omega
  ·obtain rfl:k=cols.length:=Y4;have HT:=Hd (show cols.take cols.length=cols from List.take_length);have ho:=HO0.o;rw [HT.o] at ho;have HC2:=Hd (show (C8 cols fs).length≤c' by obtain ⟨hs,_,h1,_⟩:=ho.add;exact h1.cap);have HOF:=Hd ho;clear hext hown ho;go_wp2;go_ret;exact ⟨A',c',Y77,HC2.o,HOF.o,HE.o⟩
end Go.Proofs.YtidacnalcdhckaaGreatDoor
