/- Lemmas. No conditions. -/
import Derived.Test.YtidacnalcdhckaaGreatDoorOq2
import Derived.MapKept
import Derived.Maps.Keyed
set_option maxRecDepth 100000
set_option maxHeartbeats 1000000
namespace Go.Proofs.YtidacnalcdhckaaGreatDoor
open Go Go.RowKit Tryz
variable {qP:Prop}

def Fj(cols:List BA)(i:Nat):Bool:=Ba (cols.getD i ⟨#[]⟩)&&!Aw (cols.take i) (cols.getD i ⟨#[]⟩)
def DU(x:Val):Bool:=decide (x.kind≠5)&&BG x
def Ew(n:Nat)(r:List Val):Bool:=decide (r.length=n)&&r.all DU
def BK(cols:List BA)(rows:List (List Val)):Bool :=
 decide (cols.length≤8∧rows.length≤100)&&(List.range cols.length).all (Fj cols)&&rows.all (Ew cols.length)
def BC(x:Val):Bool:=if x.kind=5 then BK x.cols x.rows&&Ab { x with cols:=[],rows:=[] } else BG x

theorem Strs.take{w:World}{S:NP}{A:OA}{l:List BA}(h:Strs w S A l)(k:Nat):Strs w S A (l.take k) :=
 ⟨by rw [List.map_take];exact h.1.take k,by rw [List.length_take];have:=h.2.1;omega,fun s hs=>h.2.2 s (List.mem_of_mem_take hs)⟩
theorem BM{α:Type}(l:List α)(i:Nat)(z:α)(h:i<l.length):l.getD i z=l[i]:=by simp [h]

theorem WO{n:Nat}{p:Nat→Bool}(h:∀ j,j<n→p j=true):(List.range n).all p=true:=by
 rw [List.all_eq_true];intro x hx;exact h x (List.mem_range.1 hx)
theorem Hz{n:Nat}{p:Nat→Bool}{j:Nat}(hj:j<n)(h:p j=false):(List.range n).all p=false:=by
 rw [List.all_eq_false];exact ⟨j,List.mem_range.2 hj,by simp [h]⟩

theorem MB(h:qP:=by
 go_ret;exact ⟨by rw [HF.o];rfl,Ext.refl _⟩):qP:=h
theorem Rv(h:qP:=by
 go_enter func127,ntmps127
 go_wp2;exact MB):qP:=h
theorem Pp(h:qP:=by
 unfold BK;rw [CX rows (Ew cols.length) i hlt2 (by unfold Ew;rw [CX rows[i] DU j hlt3 (by simp [DU,hk5])];simp)];simp):qP:=h
theorem Uz(h:qP:=by
 unfold BK;rw [CX rows (Ew cols.length) i hlt2 (by unfold Ew;rw [CX rows[i] DU j hlt3 (by simp [DU,hfl])];simp)];simp):qP:=h
theorem QZ(h:qP:=by
 by_cases hjk:m=j
 ·subst hjk;exact HFL.o
 ·exact HI.o m h (by omega)):qP:=h
theorem AcA(h:qP:=by
 refine ⟨i+1,by omega,by go_num,HE.o.trans HEI.o,fun j h hj => ?_⟩;by_cases hjk:j=i
 ·subst hjk;exact HRO.o
 ·exact HR.o j h (by omega)):qP:=h
theorem U2(h:qP:=by
 go_wp2;go_roundw
 case rel =>
  exact AcA
 case measure=>simp [intOf];omega):qP:=h
theorem Tg(h:qP:=by
 unfold Ew;rw [CH rows[i] DU (fun m h=>HI.o m h (by omega)),HLN.o];simp):qP:=h
theorem A4A(h:qP:=by
 unfold BK;rw [CX rows (Ew cols.length) i hlt2 (by unfold Ew;rw [decide_eq_false hln];rfl)];simp):qP:=h
theorem Pi(h:qP:=by
 go_ret;exact ⟨by rw [HF.o];rfl,HE.o⟩):qP:=h
theorem MD(h:qP:=by
 go_wp2;exact Pi):qP:=h
theorem Sn(h:qP:=by
 have hn1:((rows[i].length:Int) != (cols.length:Int))=true:=(by rw [bne_iff_ne];omega);have HF:=Hd (show BK cols rows=false by
  exact A4A)
 clear hln;exact MD):qP:=h
theorem FC(h:qP:=by
 clear hext;exact MD):qP:=h
theorem BP(h:qP:=by rw [List.length_take];omega):qP:=h
theorem AE(h:qP:=by go_num):qP:=h
theorem No(q:Nat)(cols:List BA)(rows:List (List Val))(A B:OA)(c e:Nat)(w:World)(S T:NP)(hA:Strs w S A cols)(hB:Rows w T q B rows)(hcap:cols.length≤c) :
  Cl 127 #[.slice A cols.length c,.slice B rows.length e] w (Ae w (BK cols rows)):=by
 have hn:=hA.2.1;have hm:=hB.len;by_cases h1:cols.length≤8
 case neg =>
  have HF:=Hd (show BK cols rows=false by unfold BK;rw [decide_eq_false AA];rfl);have h1':(8:Int)<(cols.length:Int):=AA;exact Rv
 by_cases h2:rows.length≤100
 case neg =>
  have HF:=Hd (show BK cols rows=false by unfold BK;rw [decide_eq_false AA];rfl);have h1':¬(8:Int)<(cols.length:Int):=AA;have h2':(100:Int)<(rows.length:Int):=AA;exact Rv
 have h1':¬(8:Int)<(cols.length:Int):=AA;have h2':¬(100:Int)<(rows.length:Int):=AA;have h3':(cols.length:Int)≤8:=AA;have h4':(rows.length:Int)≤100:=AA
 go_enter func127,ntmps127
 go_wp2
 go_loop [21] (fun i=>∃ k:Nat,k≤cols.length∧i=.I k∧∀ j,j<k→Fj cols j=true) (fun i=>cols.length-(intOf i).toNat)
 case atStart=>exact ⟨0,AN,rfl,AK⟩
 case round =>
  obtain ⟨k,hk,rfl,hall⟩:=hrel;have HA:=Hd hall;clear hall;by_cases hlt:k<cols.length
  ·obtain ⟨b1,o1,rfl,z1,c1⟩:=hA.at_ hlt;have hsz:=hA.sz hlt;have HTK:=Hd (hA.take k);have hlk:(cols.take k).length=k:=BP;cases hnm:Ba cols[k]
   ·have HF:=Hd (show BK cols rows=false by unfold BK;rw [Hz hlt (by unfold Fj;rw [BM _ _ _ hlt,hnm];rfl)];simp);have HN:=Hd hnm;clear hnm
    go_wp2_with (go_at_call 187;refine (I6 _ hsz _).mono ?_;rintro e1 w1 ⟨rfl,rfl⟩;rw [HN.o])
    exact MB
   ·have HN:=Hd hnm;have HCON:=Hd (Ai (some ⟨b1,o1,none⟩) c (cols.take k) cols[k] w S HTK.o);rw [hlk] at HCON;cases hmm:Aw (cols.take k) cols[k]
    ·have HM:=Hd hmm;have HC:=Hd (show Fj cols k=true by unfold Fj;rw [BM _ _ _ hlt,hnm,hmm];rfl);clear hnm hmm hlk
     go_wp2_with (first|(go_at_call 187;refine (I6 _ hsz _).mono ?_;rintro e1 w1 ⟨rfl,rfl⟩;rw [HN.o])|(go_at_call 85;refine HCON.o.mono ?_;rintro e1 w1 ⟨rfl,rfl⟩;rw [HM.o]))
     go_round
     case rel =>
      refine ⟨k+1,AA,AE,fun j hj => ?_⟩;by_cases hjk:j=k
      ·subst hjk;exact HC.o
      ·exact HA.o j AA
     case measure=>simp [intOf];omega
    ·have HM:=Hd hmm;have HF:=Hd (show BK cols rows=false by unfold BK;rw [Hz hlt (by unfold Fj;rw [BM _ _ _ hlt,hnm,hmm];rfl)];simp);clear hnm hmm hlk
     go_wp2_with (first|(go_at_call 187;refine (I6 _ hsz _).mono ?_;rintro e1 w1 ⟨rfl,rfl⟩;rw [HN.o])|(go_at_call 85;refine HCON.o.mono ?_;rintro e1 w1 ⟨rfl,rfl⟩;rw [HM.o]))
     exact MB
  ·have HCOL:=Hd (WO (n:=cols.length) (p:=Fj cols) (fun j hj=>HA.o j AA));go_wp2
   go_loopw [39] (fun i wr=>∃ k:Nat,k≤rows.length∧i=.I k∧Ext w wr∧∀ j (h:j<rows.length),j<k→Ew cols.length rows[j]=true) (fun i _=>rows.length-(intOf i).toNat)
   case atStart=>exact ⟨0,AN,rfl,Ext.refl _,AK⟩
   case round =>
    rename_i k0 _ _ _ _;obtain ⟨i,hi,rfl,hext,hall⟩:=hrel;have HR:=Hd hall;have HE:=Hd hext;clear hall;by_cases hlt2:i<rows.length
    ·obtain ⟨b1,o1,A2,c2,rfl,z1,p0,hcr,hrow⟩:=(hB.keep (hext.kept T)).at_ hlt2;have hrl:=hrow.len;have HROW:=Hd hrow;clear hrow hext;by_cases hln:rows[i].length=cols.length
     ·have hn1:((rows[i].length:Int) != (cols.length:Int))=false:=(by simp [hln]);have HLN:=Hd hln;clear hln;go_wp2;obtain ⟨wo,rfl⟩:∃ wo:World,wo=wr:=⟨_,rfl⟩
      go_loopw [50] (fun v wi=>∃ j:Nat,j≤rows[i].length∧v=.I j∧Ext wo wi∧∀ m (h:m<rows[i].length),m<j→DU rows[i][m]=true) (fun v _=>rows[i].length-(intOf v).toNat)
      case atStart=>exact ⟨0,AN,rfl,Ext.refl _,AK⟩
      case round =>
       obtain ⟨j,hj,rfl,hexi,halli⟩:=hrel;have HI:=Hd halli;have HEI:=Hd hexi;clear halli;by_cases hlt3:j<rows[i].length
       ·obtain ⟨b2,o2,A5,c5,B5,e5,rfl,z2,⟨p0,p1,p2,p3,p4,p5,p6⟩,⟨hq,_,_⟩,hv⟩:=(HROW.o.keep (hexi.kept T)).at_ hlt3;have hvs:=hv.size;clear hv hexi;by_cases hk5:rows[i][j].kind=5
        ·have hk5':(rows[i][j].kind==5)=true:=(by simp [hk5]);have HF:=Hd (show BK cols rows=false by
          exact Pp)
         clear hk5;go_wp2;go_ret;exact ⟨BB,HE.o.trans (HEI.o.alloc _)⟩
        ·have hk5':(rows[i][j].kind==5)=false:=(by simp [hk5]);have HK5:=Hd hk5;have HRF:=Hd (Hx rows[i][j] A5 B5 c5 e5 · hk5 hvs);clear hk5
         go_wp2_with fail
         refine (HRF.o _).mono ?_;rintro e1 w1 ⟨rfl,hx1⟩;have HX1:=Hd hx1;clear hx1;cases hfl:BG rows[i][j]
         ·have HF:=Hd (show BK cols rows=false by
           exact Uz)
          clear hfl;go_wp2;go_ret;exact ⟨BB,HE.o.trans ((HEI.o.alloc _).trans HX1.o)⟩
         ·have HFL:=Hd (show DU rows[i][j]=true by simp [DU,hfl,HK5.o]);clear hfl;go_wp2;go_roundw
          case rel =>
           refine ⟨j+1,AA,AE,(HEI.o.alloc _).trans HX1.o,fun m h hm => ?_⟩;exact QZ
          case measure=>simp [intOf];omega
       ·have HRO:=Hd (show Ew cols.length rows[i]=true by
         exact Tg)
        exact U2
     ·exact Sn
    ·have HF:=Hd (show BK cols rows=true by
      unfold BK;rw [HCOL.o,CH rows (Ew cols.length) (fun j h=>HR.o j h AA),decide_eq_true ⟨h1,h2⟩];rfl)
     exact FC

theorem Vl(q:Nat)(x:Val)(A B:OA)(c e:Nat)(w:World)(S:NP)(h:RV w S q x A B)(hcap:x.cols.length≤c)(hk:x.kind=5):Cl 51 #[(Vq x A c B e)] w (Ae w (BC x)):=by
 have hf:BC x=(BK x.cols x.rows&&Ab { x with cols:=[],rows:=[] }):=(by simp [BC,hk]);have HF:=Hd hf;have H:=Hd h;have k0:(x.kind==0)=false:=AF;have k1:(x.kind==1)=false:=AF;have k2:(x.kind==2)=false:=AF;have k3:(x.kind==3)=false:=AF;have k4:(x.kind==4)=false:=AF;have k5:(x.kind==5)=true:=AF;clear hf hk h
 go_enter func51,ntmps51
 go_wp2_with fail
 refine (No q x.cols x.rows A B c e _ S S (H.o.strs.keep ((exbb w).kept _)) (H.o.rows_.keep ((exbb w).kept _)) hcap).mono ?_;rintro e1 w1 ⟨rfl,hx1⟩;obtain ⟨hc1,hf1⟩:=Wm hx1;have hz1:=hx1.size;simp at hc1 hf1 hz1;have hz2:w.heap.size<w1.heap.size:=AA;have hz3:w.heap.size+1<w1.heap.size:=AA;have HX:=Hd hx1;cases ht:BK x.cols x.rows
 ·exact Ko
 ·have HT:=Hd ht;clear ht hx1
  go_wp2_with fail
  refine (G4 { x with cols:=[],rows:=[] } none none 0 0 _).mono ?_;exact SK

theorem Nx(q:Nat)(x:Val)(A B:OA)(c e:Nat)(w:World)(S:NP)(h:RV w S q x A B)(hcap:x.cols.length≤c):Cl 51 #[(Vq x A c B e)] w (Ae w (BC x)):=by
 by_cases hk:x.kind=5
 ·exact Vl q x A B c e w S h hcap hk
 ·have:=Hx x A B c e w hk h.size;rwa [show BG x=BC x by simp [BC,hk]] at this

def Val.zero:Val:=⟨0,⟨#[]⟩,0,0,0,[],[]⟩
structure Look where
 name:BA
 cols:List BA
 rows:List (List Val)
def RL(w:World)(S:NP)(d:Nat)(t:Look)(A B:OA):Prop:=t.name.size≤4294967296∧Strs w S A t.cols∧Rows w S d B t.rows
theorem RL.keep{w w':World}{S:NP}{d:Nat}{t:Look}{A B:OA}(h:RL w S d t A B)(k:Kept S w w'):RL w' S d t A B:=⟨h.1,h.2.1.keep k,h.2.2.keep k⟩
theorem RL.mono{w:World}{S T:NP}{d:Nat}{t:Look}{A B:OA}(h:RL w S d t A B)(k:∀ i,i<w.heap.size→S i→T i):RL w T d t A B:=⟨h.1,h.2.1.mono k,h.2.2.mono k⟩
theorem Rows.nil{w:World}{S:NP}{d:Nat}{B:OA} : Rows w S d B []:=⟨AC,[],Or.inl rfl,AC,AC⟩
theorem RV.zero{w:World}{S:NP}{d:Nat}{A B:OA} : RV w S d Val.zero A B:=RV.mk (AN) Strs.nil Rows.nil
def HQA(cols:List BA)(rows:List (List Val)):Val:=⟨5,⟨#[]⟩,0,0,0,cols,rows⟩
theorem RL.val{w:World}{S:NP}{d:Nat}{t:Look}{A B:OA}(h:RL w S d t A B):RV w S d (HQA t.cols t.rows) A B:=RV.mk (AN) h.2.1 h.2.2


def EF(cols:List BA)(rows:List (List Val)):Bool:=rows.all fun r=>decide (r.length=cols.length)
theorem Fg(q:Nat)(cols:List BA)(rows:List (List Val))(A B:OA)(c e:Nat)(w:World)(S:NP)(_hcl:cols.length≤4294967296)(hB:Rows w S q B rows) :
  Cl 138 #[.slice A cols.length c,.slice B rows.length e] w (SameB w (EF cols rows)):=by
 have hm:=hB.len
 go_enter func138,ntmps138
 go_wp2
 go_loop [9] (fun i=>∃ k:Nat,k≤rows.length∧i=.I k∧∀ j (h:j<rows.length),j<k→rows[j].length=cols.length) (fun i=>rows.length-(intOf i).toNat)
 case atStart=>exact ⟨0,AN,rfl,AK⟩
 case round =>
  obtain ⟨k,hk,rfl,hall⟩:=hrel;have HA:=Hd hall;clear hall;by_cases hlt:k<rows.length
  ·obtain ⟨b1,o1,A2,c2,rfl,z1,p0,hcr,hrow⟩:=hB.at_ hlt;have hrl:=hrow.len;clear hrow;by_cases hln:rows[k].length=cols.length
   ·have hn1:((rows[k].length:Int) != (cols.length:Int))=false:=(by simp [hln]);have HLN:=Hd hln;clear hln;go_wp2
    go_round
    case rel =>
     refine ⟨k+1,AA,AE,fun j h hj => ?_⟩;by_cases hjk:j=k
     ·subst hjk;exact HLN.o
     ·exact HA.o j h AA
    case measure=>simp [intOf];omega
   ·have hn1:((rows[k].length:Int) != (cols.length:Int))=true:=C9;have HF:=Hd (show EF cols rows=false by unfold EF;exact CX rows _ k hlt (by simp [hln]));clear hln;exact Bf
  ·have HF:=Hd (show EF cols rows=true by unfold EF;exact CH rows _ (fun j h=>by simp [HA.o j h AA]));exact Bf

theorem SI(q:Nat)(x y:List Val)(A B:OA)(ca cb k g1 g2:Nat)(w:World)(S T:NP)(hx:Row w S q A x)(hy:Row w T q B y)(hkx:k<x.length)(hky:k<y.length)
  (h1:w.cell? ⟨g1,0,none⟩=some (.I (k:Int))) (h2:w.cell? ⟨g2,0,none⟩=some (.slice B y.length cb)) :
  Cl 197 #[.slice A x.length ca,.pointer (some ⟨g1,0,none⟩),.pointer (some ⟨g2,0,none⟩)] w (Ae w (decide (x.getD k Val.zero=y.getD k Val.zero))):=by
 have hxl:=hx.len;have hyl:=hy.len;obtain ⟨b1,o1,A1,c1,B1,e1,rfl,z1,⟨p0,p1,p2,p3,p4,p5,p6⟩,⟨hq,_,_⟩,hv1⟩:=hx.at_ hkx;obtain ⟨b2,o2,A2,c2,B2,e2,rfl,z2,⟨q0,q1,q2,q3,q4,q5,q6⟩,_,hv2⟩:=hy.at_ hky;obtain ⟨HV1,HV2,G1,G2⟩:=Hd4 hv1 hv2 (BM x k Val.zero hkx) (BM y k Val.zero hky);clear hv1 hv2 hx hy
 go_enter func197,ntmps197
 go_wp2
 go_still_tail 8,AD
 go_wp2_with fail
 refine (YK (q-1) x[k] y[k] A1 B1 A2 B2 c1 e1 c2 e2 _ S T (HV1.o.keep (Kept.drew _ _)) (HV2.o.keep (Kept.drew _ _))).mono ?_;rintro e w1 ⟨rfl,hx1⟩;have HX:=Hd (((Ext.refl w).drew).trans hx1);clear hx1;go_wp2;go_ret;exact ⟨by rw [G1.o,G2.o];rfl,HX.o⟩

def Gv{α:Type}(p:α→Bool)(l:List α):Int:=match l.findIdx? p with|some i=>(i:Int)|none=>-1
theorem EO{α:Type}{p:α→Bool}{l:List α}{k:Nat}(hk:k<l.length)(h:∀ j (hj:j<l.length),j<k→p l[j]=false)(hv:p l[k]=true):Gv p l=k:=by
 unfold Gv;have:l.findIdx? p=some k:=by
  rw [List.findIdx?_eq_some_iff_getElem];exact ⟨hk,hv,fun j hj=>by simp [h j AA hj]⟩
 rw [this]
theorem GG{α:Type}{p:α→Bool}{l:List α}(h:∀ j (hj:j<l.length),p l[j]=false):Gv p l=-1:=by
 unfold Gv;have:l.findIdx? p=none:=by
  rw [List.findIdx?_eq_none_iff];exact VU
 rw [this]
theorem Nm{α:Type}{p:α→Bool}{l:List α}(h:0≤Gv p l):∃ k:Nat,Gv p l=k∧∃ hk:k<l.length,p l[k]=true∧∀ j (hj:j<l.length),j<k→p l[j]=false:=by
 unfold Gv at h⊢;cases hf:l.findIdx? p with
 |none=>rw [hf] at h;simp at h
 |some i =>
  rw [List.findIdx?_eq_some_iff_getElem] at hf;obtain ⟨hi,h1,h2⟩:=hf;exact ⟨i,rfl,hi,h1,fun j hj hji=>by simpa using h2 j hji⟩
theorem G5{α:Type}(p:α→Bool)(l:List α):decide (0≤Gv p l)=l.any p:=by
 rw [Bool.eq_iff_iff,decide_eq_true_iff,List.any_eq_true];constructor
 ·intro h;obtain ⟨k,_,hk,hp,_⟩:=Nm h;exact ⟨_,List.getElem_mem hk,hp⟩
 ·rintro ⟨x,hx,hp⟩;unfold Gv;cases hf:l.findIdx? p with
  |some i=>simp
  |none =>
   rw [List.findIdx?_eq_none_iff] at hf;rw [hf x hx] at hp;cases hp
def Cx(c:Nat)(r o:List Val):Bool:=decide (o.getD c Val.zero=r.getD c Val.zero)

theorem Uj(h:qP:=by
 go_ret;exact ⟨by rw [HF.o];rfl,HX1.o⟩):qP:=h
theorem Lc(h:qP:=by
 clear hq;go_wp2;exact Uj):qP:=h
theorem OG(q:Nat)(rows:List (List Val))(r:List Val)(A B:OA)(ca cb k g1 g2:Nat)(w:World)(S T:NP)(hx:Rows w S q A rows)(hy:Row w T q B r)(hk:∀ j (h:j<rows.length),k<rows[j].length)(hky:k<r.length)
  (h1:w.cell? ⟨g1,0,none⟩=some (.I (k:Int))) (h2:w.cell? ⟨g2,0,none⟩=some (.slice B r.length cb)) :
  Cl 196 #[.slice A rows.length ca,.func (.func 197) #[] #[.pointer (some ⟨g1,0,none⟩),.pointer (some ⟨g2,0,none⟩)]] w (DG w (Gv (Cx k r) rows)):=by
 have hxl:=hx.len;obtain ⟨HX,HY,HK,H1,H2⟩:=Hd5 hx hy hk h1 h2;clear hx hy hk h1 h2
 go_enter func196,ntmps196
 go_wp2
 go_loopw [8] (fun i wr=>∃ m:Nat,m≤rows.length∧i=.I m∧Ext w wr∧∀ j (h:j<rows.length),j<m→Cx k r rows[j]=false) (fun i _=>rows.length-(intOf i).toNat)
 case atStart=>exact ⟨0,AN,rfl,Ext.refl _,AK⟩
 case round =>
  obtain ⟨m,hm,rfl,hext,hall⟩:=hrel;have HA:=Hd hall;have HE:=Hd hext;clear hall;by_cases hlt:m<rows.length
  ·obtain ⟨b1,o1,A2,c2,rfl,z1,p0,hcr,hrow⟩:=(HX.o.keep (hext.kept S)).at_ hlt;have HROW:=Hd hrow;clear hrow hext
   go_wp2_with fail
   refine (SI q rows[m] r A2 B c2 cb k g1 g2 _ S T HROW.o (HY.o.keep (HE.o.kept T)) (HK.o m hlt) hky (HE.o.cell H1.o) (HE.o.cell H2.o)).mono ?_;rintro e w1 ⟨rfl,hx1⟩;have HX1:=Hd (HE.o.trans hx1);clear hx1;have heq:decide (rows[m].getD k Val.zero=r.getD k Val.zero)=Cx k r rows[m]:=rfl;rw [heq];clear heq;cases hq:Cx k r rows[m]
   ·have HQ:=Hd hq;clear hq;go_wp2;go_roundw
    case rel =>
     refine ⟨m+1,AA,AE,HX1.o,fun j h hj => ?_⟩;by_cases hjk:j=m
     ·subst hjk;exact HQ.o
     ·exact HA.o j h AA
    case measure=>simp [intOf];omega
   ·have HF:=Hd (EO hlt HA.o hq);exact Lc
  ·have HF:=Hd (GG (p:=Cx k r) (l:=rows) (fun j h=>HA.o j h AA));exact FC

def Ad(rows:List (List Val))(c:Nat):List Int:=rows.map fun r=>Gv (Cx c r) rows
def FjA(w:World)(l:List Int)(e:Ending)(w':World):Prop:=∃ A c,e=.returned (.slice A l.length c)∧l.length≤c∧Ints w' (BO w) A l∧Ext w w'

theorem Hl(q:Nat)(rows:List (List Val))(A:OA)(ca k:Nat)(w:World)(S:NP)(hx:Rows w S q A rows)(hk:∀ j (h:j<rows.length),k<rows[j].length) :
  Cl 139 #[.slice A rows.length ca,.I (k:Int)] w (FjA w (Ad rows k)):=by
 have hxl:=hx.len;have HX:=Hd hx;have HK:=Hd hk;clear hx hk;obtain ⟨cur,hmk,hcur⟩:=B2A tiI rows.length AA AB;have HCUR:=Hd hcur;clear hcur
 go_enter func139,ntmps139
 go_wp2;clear hmk;have hst:OwnIs ((w.alloc (.cells #[.I (k:Int)] 3)).alloc (.cells cur 3)) (w.heap.size+1) (some ⟨w.heap.size+1,0,none⟩) rows.length ((Ad rows k).take 0):=by
  have:=ITA (w.alloc (.cells #[.I (k:Int)] 3)) 3 1 rows.length cur Bd HCUR.o
  simpa [OwnIs] using this
 have HST:=Hd hst;have HB:=Hd ((Blk.new w 3 #[.I (k:Int)]).keep (Kept.alloc _ _ (.cells cur 3)));clear hst;have hcsl:(Ad rows k).length=rows.length:=(by simp [Ad]);have HCSL:=Hd hcsl;clear hcsl
 go_loopw [13,5] (fun i v wr=>∃ (m:Nat) (A':OA) (c':Nat),m≤rows.length∧i=.I m∧v=.slice A' m c'∧Ext w wr∧w.heap.size+1≤wr.heap.size∧wr.cell? ⟨w.heap.size,0,none⟩=some (.I (k:Int))∧OwnIs wr (w.heap.size+1) A' c' ((Ad rows k).take m)) (fun i _ _=>rows.length-(intOf i).toNat)
 case atStart=>exact ⟨0,_,_,AN,rfl,rfl,(exaa w).alloc _,AC,HB.o.cell rfl,HST.o⟩
 case round =>
  obtain ⟨m,A',c',hm,rfl,rfl,hext,hsz,hbox,hown⟩:=hrel;obtain ⟨HE,HO,HBX⟩:=Hd3 hext hown hbox;clear hown hbox;by_cases hlt:m<rows.length
  ·obtain ⟨b1,o1,A2,c2,rfl,z1,p0,hcr,hrow⟩:=(HX.o.keep (hext.kept S)).at_ hlt;have HROW:=Hd hrow;clear hrow hext
   go_wp2_with fail
   refine (OG q rows rows[m] (some ⟨b1,o1,none⟩) A2 ca c2 k w.heap.size wr.heap.size _ S S ((HX.o.keep (HE.o.kept S)).keep (Kept.alloc _ _ _)) (HROW.o.keep (Kept.alloc _ _ _)) HK.o (HK.o m hlt) ((exaa wr).cell HBX.o) ((Blk.new wr 47 #[.slice A2 rows[m].length c2]).cell rfl)).mono ?_;rintro e w1 ⟨rfl,hx1⟩;have HX1:=Hd ((exaa wr).trans hx1);have hsz1:wr.heap.size<w1.heap.size:=(by have:=hx1.size;simp at this;omega);clear hx1;have hval:(Ad rows k)[m]'(by rw [HCSL.o];exact hlt)=Gv (Cx k rows[m]) rows:=(by simp [Ad]);have HVAL:=Hd hval;clear hval;have hlm:((Ad rows k).take m).length=m:=(by rw [List.length_take,HCSL.o];omega);have hown:=HO.o.ext (HX1.o.alloc (.cells #[.I (Gv (Cx k rows[m]) rows)] 3));unfold OwnIs at hown;rw [hlm] at hown;have HOWN:=Hd hown;clear hown hlm
   go_wp2_with (at_builtin;go_must (refine AL rfl (.tmp 17) (.tmp 21) rfl tiI rfl HOWN.o rfl (Blk.rd (Blk.new _ _ _)) rfl AP AA AB AI ?_);intro A4 c4 w4 hown4 hg4 hat4)
   go_roundw
   case rel =>
    have hnb:∀ b,ob A'=some b→w.heap.size+1≤b:=fun b hb=>(HOWN.o.blk hb).1;refine ⟨m+1,A4,c4,AA,AE,rfl,Ext.grown (HE.o.trans (HX1.o.alloc _)) hg4 (fun b hb=>by have:=hnb b hb;omega),by have:=hg4.size;simp at this;omega,?_,?_⟩
    ·rw [World.cell?_of_block (hg4.block w.heap.size AI (fun e=>by have:=hnb _ e.symm;omega))];exact ((Ext.refl wr).trans (HX1.o.alloc _)).cell HBX.o
    ·rw [List.take_succ_eq_append_getElem (by rw [HCSL.o];exact hlt),HVAL.o];unfold OwnIs;rw [List.length_append,List.length_take,HCSL.o,Nat.min_eq_left hm,List.map_append];exact hown4
   case measure=>simp [intOf];omega
  ·have hme:m=rows.length:=AA;subst hme;clear hext;have ho:=HO.o;rw [List.take_of_length_le (by rw [HCSL.o];exact Al)] at ho;have HO2:=Hd ho;clear ho;go_wp2;go_ret;refine ⟨A',c',by rw [HCSL.o];rfl,Own.cap HO2.o,HO2.o.ints (by rw [HCSL.o];exact hxl) (fun b hb => ?_),HE.o⟩;have:=(Own.blk HO2.o hb).1;unfold BO;omega
end Go.Proofs.YtidacnalcdhckaaGreatDoor
namespace Go.Proofs.YtidacnalcdhckaaGreatDoor
open Go Go.RowKit Go.MapKept Tryz
variable {qP:Prop}

def fnd{K:Type} [DecidableEq K](x:K):List (K × Value)→Nat→Option (Nat × Value)
 |[],_=>none
 |p::l,i=>if p.1=x then some (i,p.2) else fnd x l (i+1)
theorem YV{K:Type} [DecidableEq K]{x:K}{l:List (K × Value)}{j i:Nat}{v:Value}(h:fnd x l j=some (i,v)):j≤i∧l[i-j]?=some (x,v):=by
 induction l generalizing j with
 |nil=>simp [fnd] at h
 |cons p l ih =>
  unfold fnd at h;split at h
  ·rename_i hp;simp at h;obtain ⟨rfl,rfl⟩:=h;exact ⟨Al,by simp [←hp]⟩
  ·obtain ⟨h1,h2⟩:=ih h;refine ⟨AA,?_⟩;rw [show i-j=(i-(j+1))+1 by omega,List.getElem?_cons_succ];exact h2
theorem GKA{K:Type} [DecidableEq K]{x:K}{l:List (K × Value)}{j:Nat}(h:fnd x l j=none):∀ p∈l,p.1≠x:=by
 induction l generalizing j with
 |nil=>simp
 |cons p l ih =>
  unfold fnd at h;split at h
  ·cases h
  ·rename_i hp;intro q hq
   rcases List.mem_cons.1 hq with rfl|hq
   ·exact hp
   ·exact ih h q hq
def Dt{K:Type} [DecidableEq K](m:List (K × Value))(k:K):Option Value:=(fnd k m 0).map (·.2)
def PE{K:Type} [DecidableEq K](m:List (K × Value))(k:K)(v:Value):List (K × Value) :=
 match fnd k m 0 with
 |some (i,_)=>m.set i (k,v)
 |none=>m++[(k,v)]
structure KL(P:Program)(kt:TypeId){K:Type} [DecidableEq K](enc:K→Value):Prop where
 check:∀ (w:World) (em:Bool) (x:K),(Instr.checkKey em 10000 kt (enc x)).run P w=.ok () w
 find:∀ (w:World) (x:K) (l:List (K × Value)) (es:List MapEntry),es.map (fun e=>(e.key,e.val))=l.map (fun p=>(enc p.1,p.2))→(Instr.findKey kt (enc x) es).run P w=.ok (fnd x l 0) w
 stays:∀ (w:World) (x:K),(Instr.keyThatStays (enc x) (enc x)).run P w=.ok (enc x) w
 inj:∀ x y:K,enc x=enc y→x=y
def MapIs{K:Type}(w:World)(b:Nat)(enc:K→Value)(m:List (K × Value)):Prop :=
 ∃ es clock,w.heap[b]?=some (.map es clock)∧es.toList.map (fun e=>(e.key,e.val))=m.map (fun p=>(enc p.1,p.2))∧Stamped es clock
theorem Pe{P:Program}{w:World}{b:Nat}{es:Array MapEntry}{cl:Nat}(h:w.heap[b]?=some (.map es cl)):(getObj b).run P w=.ok (.map es cl) w:=by simp [getObj,Sem.run,h]
theorem CRA{P:Program}{w:World}{b:Nat}{es:Array MapEntry}{cl:Nat}(o:Obj)(h:w.heap[b]?=some (.map es cl)):(setObj b o).run P w=.ok () { w with heap:=w.heap.setIfInBounds b o }:=by simp [setObj,Sem.run,h]
section
variable {P:Program}{K:Type}{enc:K→Value}{w w':World}{b:Nat}{m:List (K × Value)}
theorem Zn(h:qP:=by
 rw [Array.getElem?_eq_none h3] at h1;cases h1):qP:=h
theorem Kr(h:qP:=by
 rcases Nat.lt_or_ge b w.heap.size with h3|h3
 ·exact h3
 ·exact Zn):qP:=h
theorem MapIs.keep(h:MapIs w b enc m)(hk:Kept (fun i=>i=b) w w'):MapIs w' b enc m:=by
 obtain ⟨es,cl,h1,h2,hst⟩:=h;refine ⟨es,cl,?_,h2,hst⟩;have hlt:b<w.heap.size:=by
  exact Kr
 rw [hk.2 b rfl hlt];exact h1
theorem MapIs.lt(h:MapIs w b enc m):b<w.heap.size:=by
 obtain ⟨es,cl,h1,_,_⟩:=h;exact Kr
theorem IHA(w:World)(enc:K→Value):MapIs (w.alloc (.map #[] 0)) w.heap.size enc []:=⟨#[],0,heap_alloc_new w _,rfl,stamped_empty 0⟩
theorem MapIs.len(h:MapIs w b enc m){t kt et:TypeId}(ht:P.underlying t=some (.map kt et))(ty:TypeId):(Builtin.len_ #[t] ty #[.map (some b)]).run P w=.ok (.I (m.length:Int)) w:=by
 obtain ⟨es,cl,h1,h2,hst⟩:=h;have hl:es.size=m.length:=by
  have:=congrArg List.length h2
  simpa using this
 simp [Builtin.len_,run_underlying ht,Pe h1,goInt,hl]
theorem TV(h:qP:=by
 obtain ⟨es,cl,h1,h2,hst⟩:=h;have hf:=kl.find w x m es.toList h2;unfold Dt;cases hq:fnd x m 0 with
 |none=>rw [hq] at hf;simp [Instr.lookup,run_underlying ht,Pe h1,kl.check,hf,hz]
 | some p=>rw [hq] at hf;simp [Instr.lookup,run_underlying ht,Pe h1,kl.check,hf]):qP:=h
theorem MapIs.get [DecidableEq K](h:MapIs w b enc m){t kt et:TypeId}(ht:P.underlying t=some (.map kt et))(kl:KL P kt enc)(z:Value)(hz:∀ w:World,(zeroValue et).run P w=.ok z w)(x:K) :
  (Instr.lookup t (.map (some b)) (enc x) false).run P w=.ok ((Dt m x).getD z) w:=by
 exact TV
theorem MapIs.get2 [DecidableEq K](h:MapIs w b enc m){t kt et:TypeId}(ht:P.underlying t=some (.map kt et))(kl:KL P kt enc)(z:Value)(hz:∀ w:World,(zeroValue et).run P w=.ok z w)(x:K) :
  (Instr.lookup t (.map (some b)) (enc x) true).run P w=.ok (.tuple #[(Dt m x).getD z,.bool (Dt m x).isSome]) w:=by
 exact TV
theorem MapIs.put [DecidableEq K](h:MapIs w b enc m){t kt et:TypeId}(ht:P.underlying t=some (.map kt et))(kl:KL P kt enc)(x:K)(v:Value) :
  ∃ w',(Instr.mapUpdate t (.map (some b)) (enc x) v).run P w=.ok () w'∧MapIs w' b enc (PE m x v)∧w.grownBy w' (some b):=by
 obtain ⟨es,cl,h1,h2,hst⟩:=h;have hf:=kl.find w x m es.toList h2;have hlt:b<w.heap.size:=by
  exact Kr
 have hg:∀ o:Obj,w.grownBy { w with heap:=w.heap.setIfInBounds b o } (some b):=fun o =>
  ⟨rfl,rfl,rfl,AC,fun k _ hk=>by rw [Array.getElem?_setIfInBounds,if_neg (fun e=>hk C7)]⟩
 unfold PE;cases hq:fnd x m 0 with
 |none =>
  rw [hq] at hf;refine ⟨{ w with heap:=w.heap.setIfInBounds b (.map (es.push { key:=enc x,val:=v,born:=cl }) (cl+1)) },by simp [Instr.mapUpdate,run_underlying ht,Pe h1,kl.check,hf,CRA _ h1],⟨es.push { key:=enc x,val:=v,born:=cl },cl+1,by simp [hlt],DZ,stamped_push hst (fun e he hk => ?_)⟩,hg _⟩;have h5:(e.key,e.val)∈es.toList.map (fun e=>(e.key,e.val)):=List.mem_map_of_mem he;rw [h2] at h5;obtain ⟨p,hp,hpe⟩:=List.mem_map.1 h5;injection hpe with hpe _;exact GKA hq p hp (kl.inj _ _ (hpe.trans hk))
 |some p =>
  obtain ⟨i,u⟩:=p;rw [hq] at hf;obtain ⟨_,hi⟩:=YV hq;simp at hi;have hes:(es.toList.map (fun e=>(e.key,e.val)))[i]?=some (enc x,u):=(by rw [h2];simp [hi]);have hil:i<es.size:=by
   have:=(List.getElem?_eq_some_iff.1 hes).1
   simpa using this
  have hek:es[i].key=enc x:=by
   simp [hil] at hes;exact hes.1
  refine ⟨{ w with heap:=w.heap.setIfInBounds b (.map (es.modify i fun e => { e with key:=enc x,val:=v }) cl) },by simp [Instr.mapUpdate,run_underlying ht,Pe h1,kl.check,hf,CRA _ h1,hil,hek,kl.stays],⟨es.modify i fun e => { e with key:=enc x,val:=v },cl,by simp [hlt],?_,stamped_modify hst i _ (fun _ _=>rfl) (fun e _ he=>by
   rw [Array.getElem?_eq_getElem hil] at he;injection he with he;show enc x=e.key;rw [←he,hek])⟩,hg _⟩
  have:(es.modify i fun e => { e with key:=enc x,val:=v }).toList.map (fun e=>(e.key,e.val))=(es.toList.map (fun e=>(e.key,e.val))).set i (enc x,v):=by
   apply List.ext_getElem?;intro j;simp only [List.getElem?_map,Array.getElem?_toList,Array.getElem?_modify,List.getElem?_set,List.length_map,Array.length_toList];by_cases hij:i=j
   ·subst hij;simp [hil]
   ·simp [hij]
  rw [this,h2,List.map_set]
end

theorem AAA(a b:BA):(a==b)=decide (a=b):=by
 cases a with|mk x=>cases b with|mk y =>
 show (x==y)=_;by_cases h:x=y
 ·subst h;simp
 ·simp [h]
theorem Lk(h:qP:=by
 exact ih l (i+1) (by simpa using h3)):qP:=h
theorem FkA{P:Program}{kt:TypeId}(hk:P.underlying kt=some (.int .i64)):KL P kt (fun n:Int=>Value.int .i64 n) where
 check:=fun w em x=>by
  have h:∀ n,(Instr.checkKey em (n+1) kt (Value.int .i64 x)).run P w=.ok () w:=fun n=>by simp [Instr.checkKey,run_underlying hk]
  exact h 9999
 find:=fun w x l es h=>by
  have hn:∀ (es:List MapEntry) (l:List (Int × Value)) (i:Nat),es.map (fun e=>(e.key,e.val))=l.map (fun p=>(Value.int .i64 p.1,p.2))→Instr.findNow (.int .i64) (.I x) es i=some (fnd x l i):=by
   intro es
   induction es with
   |nil=>intro l i h;cases l<;>simp at h;rfl
   |cons e es ih =>
    intro l i h;cases l with
    |nil=>simp at h
    |cons p l =>
     simp at h;obtain ⟨⟨h1,h2⟩,h3⟩:=h;unfold Instr.findNow fnd;rw [h1];by_cases hx:p.1=x
     ·have hs:Instr.sameNow (.int .i64) (.I x) (.I p.1)=some true:=(by simp [Instr.sameNow,hx]);rw [hs,if_pos hx,h2]
     ·have hx':¬x=p.1:=fun e=>hx e.symm;have hs:Instr.sameNow (.int .i64) (.I x) (.I p.1)=some false:=(by simp [Instr.sameNow,hx']);rw [hs,if_neg hx];exact Lk
  simp [Instr.findKey,run_underlying hk,hn es l 0 h]
 stays:=fun w x=>by simp [Instr.keyThatStays,Instr.sameBits]
 inj:=fun x y h=>by injection h
theorem FdA{P:Program}{kt:TypeId}(hk:P.underlying kt=some .string):KL P kt (fun s:BA=>Value.string s) where
 check:=fun w em x=>by
  have h:∀ n,(Instr.checkKey em (n+1) kt (Value.string x)).run P w=.ok () w:=fun n=>by simp [Instr.checkKey,run_underlying hk]
  exact h 9999
 find:=fun w x l es h=>by
  have hn:∀ (es:List MapEntry) (l:List (BA × Value)) (i:Nat),es.map (fun e=>(e.key,e.val))=l.map (fun p=>(Value.string p.1,p.2))→Instr.findNow .string (.string x) es i=some (fnd x l i):=by
   intro es
   induction es with
   |nil=>intro l i h;cases l<;>simp at h;rfl
   |cons e es ih =>
    intro l i h;cases l with
    |nil=>simp at h
    |cons p l =>
     simp at h;obtain ⟨⟨h1,h2⟩,h3⟩:=h;unfold Instr.findNow fnd;rw [h1];by_cases hx:p.1=x
     ·have hs:Instr.sameNow .string (.string x) (.string p.1)=some true:=(by simp [Instr.sameNow,AAA,hx]);rw [hs,if_pos hx,h2]
     ·have hx':¬x=p.1:=fun e=>hx e.symm;have hs:Instr.sameNow .string (.string x) (.string p.1)=some false:=(by simp [Instr.sameNow,AAA,hx']);rw [hs,if_neg hx];exact Lk
  simp [Instr.findKey,run_underlying hk,hn es l 0 h]
 stays:=fun w x=>by simp [Instr.keyThatStays,Instr.sameBits,AAA]
 inj:=fun x y h=>by injection h

theorem BxA{P:Program}{kt it:TypeId}(hk:P.underlying kt=some (.array 2 it))(hi:P.underlying it=some (.int .i64))(hs:∀ w:World,(sizeOf it).run P w=.ok 1 w)(w:World)(a b c d:Int) :
  (Op.equal kt (.agg #[.I a,.I b]) (.agg #[.I c,.I d])).run P w=.ok (decide ((a,b)=(c,d))) w:=by
 have hint:∀ (n:Nat) (x y:Int),(Op.equalIn (n+1) it (.I x) (.I y)).run P w=.ok (x==y) w:=fun n x y=>by simp [Op.equalIn,run_underlying hi]
 have hp:∀ (x y:Int) (i:Nat) (v:Value),(#[Value.int .i64 x,.I y])[i]?=some v→(part it #[.I x,.I y] i).run P w=.ok v w:=fun x y i v hv=>by simp [part,isAgg,run_underlying hi,hv]
 have h:∀ n:Nat,(Op.equalIn (n+2) kt (.agg #[.I a,.I b]) (.agg #[.I c,.I d])).run P w=.ok (decide ((a,b)=(c,d))) w:=by
  intro n;rw [Op.equalIn];simp only [Sem.run_bind,run_underlying hk,Result.andThen_ok,hs,Std.Legacy.Range.forIn_eq_forIn_range',Std.Legacy.Range.size,Nat.sub_zero,Nat.add_sub_cancel,Nat.div_one,List.range'_succ,List.range'_zero,List.forIn_cons,List.forIn_nil];simp only [Nat.zero_mul,Nat.zero_add,Nat.one_mul,hp a b 0 _ rfl,hp c d 0 _ rfl,Result.andThen_ok];by_cases h1:a=c
  ·subst h1;by_cases h2:b=d
   ·subst h2;simp [hint,hp a b 1 _ rfl]
   ·simp [hint,hp a b 1 _ rfl,hp a d 1 _ rfl,h2]
  ·simp [hint,h1]
 exact h 9998
theorem DwA{P:Program}{kt it:TypeId}(hk:P.underlying kt=some (.array 2 it))(hi:P.underlying it=some (.int .i64))(hs:∀ w:World,(sizeOf it).run P w=.ok 1 w) :
  KL P kt (fun p:Int × Int=>Value.agg #[.I p.1,.I p.2]) where
 check:=fun w em x=>by
  have hp:∀ (x y:Int) (i:Nat) (v:Value),(#[Value.int .i64 x,.I y])[i]?=some v→(part it #[.I x,.I y] i).run P w=.ok v w:=fun x y i v hv=>by simp [part,isAgg,run_underlying hi,hv]
  have hc:∀ (n:Nat) (y:Int),(Instr.checkKey em (n+1) it (.I y)).run P w=.ok () w:=fun n y=>by simp [Instr.checkKey,run_underlying hi]
  have h:∀ n,(Instr.checkKey em (n+2) kt (Value.agg #[.I x.1,.I x.2])).run P w=.ok () w:=fun n=>by
   rw [Instr.checkKey];simp only [Sem.run_bind,run_underlying hk,Result.andThen_ok,hs,Std.Legacy.Range.forIn_eq_forIn_range',Std.Legacy.Range.size,Nat.sub_zero,Nat.add_sub_cancel,Nat.div_one,List.range'_succ,List.range'_zero,List.forIn_cons,List.forIn_nil];simp [hs,hp x.1 x.2 0 _ rfl,hp x.1 x.2 1 _ rfl,hc]
  exact h 9998
 find:=fun w x l es h=>by
  have ha:∀ (es:List MapEntry) (l:List ((Int × Int) × Value)) (i:Nat),es.map (fun e=>(e.key,e.val))=l.map (fun p=>(Value.agg #[.I p.1.1,.I p.1.2],p.2))→(Instr.findAsking kt (.agg #[.I x.1,.I x.2]) es i).run P w=.ok (fnd x l i) w:=by
   intro es
   induction es with
   |nil=>intro l i h;cases l<;>simp at h;simp [Instr.findAsking,fnd]
   |cons e es ih =>
    intro l i h;cases l with
    |nil=>simp at h
    |cons p l =>
     simp at h;obtain ⟨⟨h1,h2⟩,h3⟩:=h;unfold Instr.findAsking fnd;rw [h1];simp only [Sem.run_bind,BxA hk hi hs w x.1 x.2 p.1.1 p.1.2,Result.andThen_ok];by_cases hx:p.1=x
     ·rw [if_pos hx,←hx,decide_eq_true rfl];simp [h2]
     ·rw [if_neg hx,decide_eq_false (fun e=>hx e.symm)];simp only [Bool.false_eq_true,if_false];exact Lk
  cases es with
  |nil =>
   cases l<;>simp at h
   simp [Instr.findKey,run_underlying hk,Instr.findNow,fnd]
  |cons e es =>
   have hn:Instr.findNow (.array 2 it) (.agg #[.I x.1,.I x.2]) (e::es) 0=none:=(by simp [Instr.findNow,Instr.sameNow]);simp only [Instr.findKey,Sem.run_bind,run_underlying hk,Result.andThen_ok,hn];exact ha (e::es) l 0 h
 stays:=fun w x=>by
  have h:∀ n,Instr.sameBits (n+1) (.agg #[.I x.1,.I x.2]) (.agg #[.I x.1,.I x.2])=true:=fun n=>by simp [Instr.sameBits]
  unfold Instr.keyThatStays;rw [h 9999];simp
 inj:=fun x y h=>by
  injection h with h;injection h with h;simp at h;exact Prod.ext h.1 h.2

section
variable {K:Type} [DecidableEq K]
theorem ZK{x:K}{l l':List (K × Value)}{j:Nat} : fnd x (l++l') j=match fnd x l j with|some r=>some r|none=>fnd x l' (j+l.length):=by
 induction l generalizing j with
 |nil=>simp [fnd]
 |cons p l ih =>
  show (if p.1=x then some (j,p.2) else fnd x (l++l') (j+1))=match (if p.1=x then some (j,p.2) else fnd x l (j+1)) with|some r=>some r|none=>fnd x l' (j+(l.length+1))
  by_cases hp:p.1=x
  ·simp only [if_pos hp]
  ·simp only [if_neg hp];rw [ih,show j+1+l.length=j+(l.length+1) by omega]
theorem BU(h:qP:=by simpa using h):qP:=h
theorem Jf(m:List (K × Value))(k k':K)(v:Value):Dt (PE m k v) k'=if k=k' then some v else Dt m k':=by
 unfold Dt PE;cases hf:fnd k m 0 with
 |none =>
  rw [ZK];by_cases hk:k=k'
  ·subst hk;rw [hf,if_pos rfl];simp [fnd]
  ·rw [if_neg hk];cases hg:fnd k' m 0 with
   |none=>simp [fnd,hk]
   |some r=>simp
 |some r =>
  obtain ⟨i,u⟩:=r;obtain ⟨_,hi⟩:=YV hf;simp at hi;have hset:∀ (l:List (K × Value)) (i j:Nat) (u:Value),l[i]?=some (k,u)→(∀ a,a<i→∀ p,l[a]?=some p→p.1≠k)→(fnd k' (l.set i (k,v)) j).map (·.2)=if k=k' then some v else (fnd k' l j).map (·.2):=by
   intro l
   induction l with
   |nil=>intro i j u h;simp at h
   |cons p l ih =>
    intro i j u h hb;cases i with
    |zero =>
     simp at h;subst h;simp only [List.set_cons_zero,fnd];by_cases hk:k=k'<;>simp [hk]
    |succ i =>
     simp only [List.set_cons_succ,fnd];have hp:p.1≠k:=hb 0 AA p rfl;by_cases hk:p.1=k'
     ·have:k≠k':=fun e=>hp (by rw [hk,e]);simp [hk,this]
     ·rw [if_neg hk,if_neg hk];exact ih i (j+1) u BU (fun a ha q hq=>hb (a+1) AA q (by simpa using hq))
  refine hset m i 0 u hi ?_;have hfirst:∀ (l:List (K × Value)) (j i:Nat) (u:Value),fnd k l j=some (i,u)→∀ a,a<i-j→∀ p,l[a]?=some p→p.1≠k:=by
   intro l
   induction l with
   |nil=>intro j i u h;simp [fnd] at h
   |cons q l ih =>
    intro j i u h a ha p hp;unfold fnd at h;by_cases hq:q.1=k
    ·rw [if_pos hq] at h;simp at h;omega
    ·rw [if_neg hq] at h;cases a with
     |zero=>simp at hp;subst hp;exact hq
     |succ a=>exact ih (j+1) i u h a AA p (by simpa using hp)
  exact fun a ha p hp=>hfirst m 0 i u hf a AA p hp
end

section
variable {K:Type} [DecidableEq K]
theorem Xk(m:List (K × Value))(k:K)(v:Value):(PE m k v).length=if (Dt m k).isSome then m.length else m.length+1:=by
 unfold PE Dt;cases fnd k m 0 with
 |none=>simp
 |some r=>simp
end

def Fr(gs cs:List Int):Bool:=(List.range gs.length).all fun i=>(List.range i).all fun j=>decide (gs.getD i 0=gs.getD j 0→cs.getD i 0=cs.getD j 0)
theorem YY{gs cs:List Int}{i j:Nat}(hi:i<gs.length)(hj:j<i)(h1:gs.getD i 0=gs.getD j 0)(h2:cs.getD i 0≠cs.getD j 0):Fr gs cs=false:=by
 unfold Fr;refine Hz hi (Hz hj ?_);rw [decide_eq_false_iff_not];exact fun h=>h2 (h h1)
theorem Wb(gs cs:List Int):Fr gs cs=true↔∀ i j,i<gs.length→j<i→gs.getD i 0=gs.getD j 0→cs.getD i 0=cs.getD j 0:=by
 unfold Fr;simp only [List.all_eq_true,List.mem_range,decide_eq_true_eq];constructor
 ·intro h i j hi hj;exact h i hi j hj
 ·intro h i hi j hj;exact h i j hi hj

theorem FrA(w:World):(zeroValue 3).run prog w=.ok (.I 0) w:=by kernel_rfl

theorem GQ(h:qP:=by injection hb with hb;omega):qP:=h
theorem KI(gs cs:List Int)(A B:OA)(ca cb:Nat)(w:World)(S T:NP)(hA:Ints w S A gs)(hB:Ints w T B cs)(hl:cs.length=gs.length) :
  Cl 194 #[.slice A gs.length ca,.slice B cs.length cb] w (Ae w (Fr gs cs)):=by
 have hgl:=hA.2;obtain ⟨HA,HB,HL⟩:=Hd3 hA hB hl;clear hA hB hl;have hmm:=@run_makeMap prog
 go_enter func194,ntmps194
 go_wp2;clear hmm
 go_loopw [13] (fun i wr=>∃ (k:Nat) (m:List (Int × Value)),k≤gs.length∧i=.I k∧Ext w wr∧MapIs wr w.heap.size (fun n:Int=>Value.int .i64 n) m ∧
   (∀ j,j<k→Dt m (gs.getD j 0)=some (.I (cs.getD j 0)))∧(∀ g v,Dt m g=some v→∃ j,j<k∧gs.getD j 0=g)∧(∀ i j,i<k→j<i→gs.getD i 0=gs.getD j 0→cs.getD i 0=cs.getD j 0)) (fun i _=>gs.length-(intOf i).toNat)
 case atStart=>exact ⟨0,[],AN,rfl,(Ext.refl w).alloc _,IHA w _,AK,by intro g v h;simp [Dt,fnd] at h,AK⟩
 case round =>
  obtain ⟨k,m,hk,rfl,hext,hmap,h1,h2,h3⟩:=hrel;obtain ⟨HE,HM,H1,H2,H3⟩:=Hd5 hext hmap h1 h2 h3;clear hmap h1 h2 h3;by_cases hlt:k<gs.length
  ·have hlt2:k<cs.length:=(by rw [HL.o];exact hlt);obtain ⟨b1,o1,rfl,z1,c1⟩:=(HA.o.keep (hext.kept S)).at_ hlt;obtain ⟨b2,o2,rfl,z2,c2⟩:=(HB.o.keep (hext.kept T)).at_ hlt2;have hlk:=HM.o.get2 underlying214 (FkA underlying3) (.I 0) FrA gs[k];have G1:=Hd (BM gs k 0 hlt);have G2:=Hd (BM cs k 0 hlt2);obtain ⟨w',hup,hmap',hg'⟩:=HM.o.put underlying214 (FkA underlying3) gs[k] (.I cs[k]);have HM':=Hd hmap';have HG':=Hd hg';have hh2:(cs.length:Int)=(gs.length:Int):=(by rw [HL.o]);have hlt3:(k:Int)<(cs.length:Int):=AA;clear hmap' hg' hext hh2;have hgood:(∀ v,Dt m gs[k]=some v→v=.I cs[k])→∃ (k':Nat) (m':List (Int × Value)),k'≤gs.length∧(k':Int)=(k:Int)+1∧Ext w w'∧MapIs w' w.heap.size (fun n:Int=>Value.int .i64 n) m' ∧
     (∀ j,j<k'→Dt m' (gs.getD j 0)=some (.I (cs.getD j 0)))∧(∀ g v,Dt m' g=some v→∃ j,j<k'∧gs.getD j 0=g)∧(∀ i j,i<k'→j<i→gs.getD i 0=gs.getD j 0→cs.getD i 0=cs.getD j 0):=by
    intro hv;refine ⟨k+1,_,AA,AA,HE.o.grown HG'.out (fun b hb=>GQ),HM'.out,fun j hj => ?_,fun g v hg => ?_,fun i j hi hj he => ?_⟩
    ·rw [Jf];by_cases hjk:gs[k]=gs.getD j 0
     ·rw [if_pos hjk];by_cases hj2:j=k
      ·subst hj2;rw [G2.o]
      ·have:=H1.o j AA;rw [←hjk] at this;rw [hv _ this] at this;have h5:=H1.o j AA;rw [←hjk,this] at h5;exact h5
     ·rw [if_neg hjk];by_cases hj2:j=k
      ·subst hj2;exact absurd G1.o.symm hjk
      ·exact H1.o j AA
    ·rw [Jf] at hg;by_cases hgk:gs[k]=g
     ·exact ⟨k,AA,by rw [G1.o];exact hgk⟩
     ·rw [if_neg hgk] at hg;obtain ⟨j,hj,hj2⟩:=H2.o g v hg;exact ⟨j,AA,hj2⟩
    ·by_cases hik:i=k
     ·subst hik;have h5:=H1.o j hj;rw [←he,G1.o] at h5;have h6:=hv _ h5;injection h6 with _ h6;rw [G2.o];exact h6.symm
     ·exact H3.o i j AA hj he
   have HGOOD:=Hd hgood;clear hgood;cases hmg:Dt m gs[k] with
   |none =>
    have hlk2:(Instr.lookup 214 (.map (some w.heap.size)) (.I gs[k]) true).run prog wr=.ok (.tuple #[.I 0,.bool false]) wr:=(by rw [hlk,hmg];rfl);have HMG:=Hd hmg;clear hlk hmg;go_wp2;go_roundw
    case rel =>
     obtain ⟨k',m',e1,e2,e3⟩:=HGOOD.o (fun v hv=>by rw [HMG.o] at hv;cases hv);exact ⟨k',m',e1,by rw [e2],e3⟩
    case measure=>simp [intOf];omega
   |some v =>
    have hvv:∃ x:Int,v=.I x:=by
     obtain ⟨j,hj,hj2⟩:=H2.o _ _ hmg;have:=H1.o j hj;rw [hj2,hmg] at this;injection this with this;exact ⟨_,this⟩
    obtain ⟨x,rfl⟩:=hvv;have hlk2:(Instr.lookup 214 (.map (some w.heap.size)) (.I gs[k]) true).run prog wr=.ok (.tuple #[.I x,.bool true]) wr:=(by rw [hlk,hmg];rfl);have HMG:=Hd hmg;clear hlk hmg;by_cases hx:x=cs[k]
    ·have hx':(x != cs[k])=false:=(by simp [hx]);have HXX:=Hd hx;clear hx;go_wp2;go_roundw
     case rel =>
      obtain ⟨k',m',e1,e2,e3⟩:=HGOOD.o (fun v hv=>by rw [HMG.o] at hv;injection hv with hv;rw [←hv,HXX.o]);exact ⟨k',m',e1,by rw [e2],e3⟩
     case measure=>simp [intOf];omega
    ·have hx':(x != cs[k])=true:=(by rw [bne_iff_ne];exact hx);have HF:=Hd (show Fr gs cs=false by
      obtain ⟨j,hj,hj2⟩:=H2.o _ _ HMG.o;have h5:=H1.o j hj;rw [hj2,HMG.o] at h5;injection h5 with h5;injection h5 with _ h5;exact YY hlt hj (by rw [G1.o,hj2]) (by rw [G2.o,←h5];exact fun e=>hx e.symm))
     clear hx;exact MD
  ·have HF:=Hd (show Fr gs cs=true by rw [Wb];exact fun i j hi hj he=>H3.o i j AA hj he);exact FC
end Go.Proofs.YtidacnalcdhckaaGreatDoor
