/- Lemmas. No conditions. -/
import Derived.Test.YtaccjdppmmoepaaGreatDoorXq1
import Derived.MapKept
import Derived.Maps.Keyed
import Derived.BigRegion
set_option maxRecDepth 100000
set_option maxHeartbeats 1000000
namespace Go.Proofs.YtaccjdppmmoepaaGreatDoor
open Go Go.RowKit Tryz
variable {qP:Prop}{A B:OA}{S:NP}{d k n:Nat}{l:List BA}{v:BA}{w:World}

def Bk(w:World)(n:Int)(e:Ending)(J:World):Prop:=e=.returned (.I n)/\w=J
def DG(w:World)(n:Int)(e:Ending)(J:World):Prop:=e=.returned (.I n)/\Ext w J
def Bt(l:List BA)(v:BA):Int:=match l.findIdx? (λs=>decide (s=v)) with|some i=>(i:Int)|none=>-1
theorem QN(hk:k<l.length)(h:∀ j (hj:j<l.length),j<k->l[j]≠v)(hv:l[k]=v):Bt l v=k:=by
 unfold Bt;have:l.findIdx? (λs=>decide (s=v))=some k:=by
  rw [List.findIdx?_eq_some_iff_getElem];exact ⟨hk,by simp [hv],λj hj=>by simp [h j AA hj]⟩
 rw [this]
theorem Nd(h:∀ j (hj:j<l.length),l[j]≠v):Bt l v=-1:=by
 unfold Bt;have:l.findIdx? (λs=>decide (s=v))=none:=by
  rw [List.findIdx?_eq_none_iff];intro x hx;obtain ⟨i,hi,rfl⟩:=List.mem_iff_getElem.1 hx;simp [h i hi]
 rw [this]
theorem Fl(l:List BA)(v:BA):(0<=Bt l v↔v∈l):=by
 unfold Bt;cases h:l.findIdx? (λs=>decide (s=v)) with
 |none =>
  rw [List.findIdx?_eq_none_iff] at h;simp;intro hv;have:=h v hv;simp at this
 |some i =>
  rw [List.findIdx?_eq_some_iff_getElem] at h;obtain ⟨hi,h1,_⟩:=h;simp at h1;simp;rw [<-h1];exact List.getElem_mem hi
theorem CE(h:qP:=by simpa using h1):qP:=h
theorem J5(h:0<=Bt l v):∃ k:Nat,Bt l v=k/\∃ hk:k<l.length,l[k]=v/\∀ j (hj:j<l.length),j<k->l[j]≠v:=by
 unfold Bt at h|-;cases hf:l.findIdx? (λs=>decide (s=v)) with
 |none=>rw [hf] at h;simp at h
 |some i =>
  rw [List.findIdx?_eq_some_iff_getElem] at hf;obtain ⟨hi,h1,h2⟩:=hf;refine ⟨i,rfl,hi,CE,λj hj hji => ?_⟩;have:=h2 j hji
  simpa using this
def Aw(l:List BA)(v:BA):Bool:=decide (0<=Bt l v)
theorem Ao(l:List BA)(v:BA):Aw l v=true↔v∈l:=by simp [Aw,Fl]
theorem WR(s:BA):s.toList=[]↔s=⟨#[]⟩:=by
 rw [ByteArray.toList_eq];constructor
 ·intro h;cases s;simp at h;rw [h]
 ·rintro rfl;rfl

theorem Om(h:qP:=by
 have HV:=Hd hv;clear hv;go_wp2;go_ret;exact ⟨by rw [QN hlt (λj hj h=>HA.o j hj h) HV.o];rfl,rfl⟩):qP:=h
theorem ZC(h:qP:=by
 refine ⟨k+1,by omega,by go_num,λj h hj => ?_⟩;by_cases hjk:j=k
 ·subst hjk;exact HV.o
 ·exact HA.o j h (by omega)):qP:=h
theorem Ot(h:qP:=by
 clear hv;go_wp2
 go_round
 case rel =>
  exact ZC
 case measure=>simp [intOf];omega):qP:=h
theorem Kj(h:qP:=by
 have HV:=Hd hv;exact Ot):qP:=h
theorem Oy(h:qP:=by
 go_wp2;go_ret;exact ⟨by rw [Nd (λj hj=>HA.o j hj (by omega))];rfl,rfl⟩):qP:=h
theorem Dv(A:OA)(c:Nat)(l:List BA)(v:BA)(w:World)(S:NP)(h:Strs w S A l) :
  Cl 144 #[.slice A l.length c,.string v] w (Bk w (Bt l v)):=by
 have hn:=h.2.1
 go_enter func144,ntmps144
 go_wp2
 go_loop [8] (λi=>∃ k:Nat,k<=l.length/\i=.I k/\∀ j (h:j<l.length),j<k->l[j]≠v) (λi=>l.length-(intOf i).toNat)
 case atStart=>exact ⟨0,AN,rfl,AK⟩
 case round =>
  obtain ⟨k,hk,rfl,hall⟩:=hrel;have HA:=Hd hall;clear hall;by_cases hlt:k<l.length
  ·obtain ⟨b1,o1,rfl,z1,c1⟩:=h.at_ hlt;by_cases hv:l[k]=v
   ·have ht:(v.toList==l[k].toList)=true:=(by rw [Bj];simp [hv]);exact Om
   ·have ht:(v.toList==l[k].toList)=false:=(by rw [Bj];simp [Ne.symm hv]);exact Kj
  ·exact Oy

theorem JK(A:OA)(c:Nat)(l:List BA)(v:BA)(w:World)(S:NP)(h:Strs w S A l) :
  Cl 70 #[.slice A l.length c,.string v] w (SameB w (Aw l v)):=by
 have H:=Hd h;clear h
 go_enter func70,ntmps70
 go_wp2_with (go_at_call 144;refine (Dv _ _ _ _ _ S H.o).mono ?_;rintro e J ⟨rfl,rfl⟩)
 go_ret;exact ⟨rfl,rfl⟩

def Fx(n:Int):Bool:=decide (-1000000000000000<=n/\n<=1000000000000000)
def Dz(n s:Int):Bool:=decide (0<=s/\s<=6)&&Fx n&&decide (s=0\/n.tmod 10≠0)
theorem LW(h:qP:=by
 have H:=Hd h;clear h
 go_enter func170,ntmps170
 go_wp2;go_ret;exact ⟨by rw [H.o];rfl,rfl⟩):qP:=h
theorem Pn(n:Int)(w:World):Cl 170 #[.I n] w (SameB w (Fx n)):=by
 by_cases h1:-1000000000000000<=n
 ·by_cases h2:n<=1000000000000000
  ·have h:Fx n=true:=(by simp [Fx,h1,h2]);exact LW
  ·have h:Fx n=false:=(by simp [Fx,h1,h2]);exact LW
 ·have h:Fx n=false:=(by simp [Fx,h1]);exact LW

theorem Ff(n s:Int)(w:World):Cl 95 #[.agg #[.I n,.I s]] w (Ae w (Dz n s)):=by
 cases hu:Fx n
 all_goals
  have O:=Hd hu;clear hu
  go_enter func95,ntmps95
  go_wp2_with (go_at_call 170;refine (Pn _ _).mono ?_;rintro e J ⟨rfl,rfl⟩;rw [O.o])
  all_goals
   go_ret;refine ⟨?_,(Ext.refl _).alloc _⟩;simp only [Dz,O.o];simp
   first|done|omega|(rw [Bool.eq_iff_iff];simp;omega)

def KU(x:Val):Bool:=decide (x.s=⟨#[]⟩/\x.dn=0/\x.ds=0/\x.n=0/\x.cols=[]/\x.rows=[])
theorem G4(x:Val)(A B:OA)(c e:Nat)(w:World):Cl 93 #[(Vq x A c B e)] w (Ae w (KU x)):=by
 go_enter func93,ntmps93
 go_wp2
 all_goals
  go_ret;refine ⟨?_,(Ext.refl _).alloc _⟩;simp_all [KU,<-WR]
  try (rw [Bool.eq_iff_iff];simp [List.length_eq_zero_iff])

def BG(x:Val):Bool :=
 if x.kind=0 then decide (0<=x.n/\x.n<=99)&&KU { x with n:=0 }
 else if x.kind=1 then Ca x.s&&KU { x with s:=⟨#[]⟩ }
 else if x.kind=2 then Dz x.dn x.ds&&KU { x with dn:=0,ds:=0 }
 else if x.kind=3 then decide (0<=x.n/\x.n<=3652058)&&KU { x with n:=0 }
 else if x.kind=4 then decide (x.n=0\/x.n=1)&&KU { x with n:=0 }
 else false

theorem UO(h:qP:=by
 go_enter func38,ntmps38
 go_wp2_with fail
 refine (G4 { x with n:=0 } A B c e _).mono ?_;rintro e1 w1 ⟨rfl,hx1⟩;have HX:=Hd hx1;clear hx1;go_wp2;go_ret;exact ⟨by rw [HF.o];simp [h1,h2],Ext.trans (exbb w) HX.o⟩):qP:=h
theorem IG(h:qP:=by
 go_enter func38,ntmps38
 go_wp2;go_ret;exact ⟨by rw [HF.o,decide_eq_false (by omega),Bool.false_and];rfl,(exaa w).alloc _⟩):qP:=h
theorem FO(h:qP:=by simp [BG,hk]):qP:=h
theorem Vd(x:Val)(A B:OA)(c e:Nat)(w:World)(hk:x.kind=0)(_hs:x.s.size<=4294967296):Cl 38 #[(Vq x A c B e)] w (Ae w (BG x)):=by
 have hf:BG x=(decide (0<=x.n/\x.n<=99)&&KU { x with n:=0 }):=FO;have HF:=Hd hf;have O:(x.kind==0)=true:=AF;have k1:(x.kind==1)=false:=AF;have k2:(x.kind==2)=false:=AF;have k3:(x.kind==3)=false:=AF;have k4:(x.kind==4)=false:=AF;have k5:(x.kind==5)=false:=AF;clear hf hk;by_cases h1:0<=x.n
 ·by_cases h2:x.n<=99
  ·exact UO
  ·exact IG
 ·exact IG

theorem S3(h:qP:=by
 go_wp2;go_ret;exact ⟨by rw [HF.o,HT.o];rfl,Ext.trans (exbb w) HX.o⟩):qP:=h
theorem WC(x:Val)(A B:OA)(c e:Nat)(w:World)(hk:x.kind=1)(hs:x.s.size<=4294967296):Cl 38 #[(Vq x A c B e)] w (Ae w (BG x)):=by
 have hf:BG x=(Ca x.s&&KU { x with s:=⟨#[]⟩ }):=FO;have HF:=Hd hf;have O:(x.kind==0)=false:=AF;have k1:(x.kind==1)=true:=AF;have k2:(x.kind==2)=false:=AF;have k3:(x.kind==3)=false:=AF;have k4:(x.kind==4)=false:=AF;have k5:(x.kind==5)=false:=AF;clear hf hk;cases ht:Ca x.s
 ·have HT:=Hd ht;clear ht
  go_enter func38,ntmps38
  go_wp2_with (go_at_call 94;refine (M1 _ hs _).mono ?_;rintro e J ⟨rfl,rfl⟩;rw [HT.o])
  go_ret;exact ⟨by rw [HF.o,HT.o];rfl,(exaa w).alloc _⟩
 ·have HT:=Hd ht;clear ht
  go_enter func38,ntmps38
  go_wp2_with (go_at_call 94;refine (M1 _ hs _).mono ?_;rintro e J ⟨rfl,rfl⟩;rw [HT.o])
  refine (G4 { x with s:=⟨#[]⟩ } A B c e _).mono ?_;rintro e1 w1 ⟨rfl,hx1⟩;have HX:=Hd hx1;clear hx1;exact S3

theorem Ko(h:qP:=by
 have HT:=Hd ht;clear ht hx1;go_wp2;go_ret;exact ⟨by rw [HF.o,HT.o];rfl,Ext.trans ((exbb w)) HX.o⟩):qP:=h
theorem SK(h:qP:=by
 rintro e1 w2 ⟨rfl,hx2⟩;have HX2:=Hd hx2;clear hx2;go_wp2;go_ret;exact ⟨by rw [HF.o,HT.o];rfl,Ext.trans (exbb w) (Ext.trans HX.o HX2.o)⟩):qP:=h
theorem Vv(x:Val)(A B:OA)(c e:Nat)(w:World)(hk:x.kind=2)(_hs:x.s.size<=4294967296):Cl 38 #[(Vq x A c B e)] w (Ae w (BG x)):=by
 have hf:BG x=(Dz x.dn x.ds&&KU { x with dn:=0,ds:=0 }):=FO;have HF:=Hd hf;have k0:(x.kind==0)=false:=AF;have k1:(x.kind==1)=false:=AF;have k2:(x.kind==2)=true:=AF;have k3:(x.kind==3)=false:=AF;have k4:(x.kind==4)=false:=AF;have k5:(x.kind==5)=false:=AF;clear hf hk
 go_enter func38,ntmps38
 go_wp2_with fail
 refine (Ff x.dn x.ds _).mono ?_;rintro e1 w1 ⟨rfl,hx1⟩;obtain ⟨Y,O⟩:=Wm hx1;have U:=hx1.size;simp at Y O U;have a8:w.heap.size<w1.heap.size:=AA;have Z:w.heap.size+1<w1.heap.size:=AA;have HX:=Hd hx1;cases ht:Dz x.dn x.ds
 ·exact Ko
 ·have HT:=Hd ht;clear ht hx1
  go_wp2_with fail
  refine (G4 { x with dn:=0,ds:=0 } A B c e _).mono ?_;exact SK

theorem Vs(x:Val)(A B:OA)(c e:Nat)(w:World)(hk:x.kind=3)(_hs:x.s.size<=4294967296):Cl 38 #[(Vq x A c B e)] w (Ae w (BG x)):=by
 have hf:BG x=(decide (0<=x.n/\x.n<=3652058)&&KU { x with n:=0 }):=FO;have HF:=Hd hf;have O:(x.kind==0)=false:=AF;have k1:(x.kind==1)=false:=AF;have k2:(x.kind==2)=false:=AF;have k3:(x.kind==3)=true:=AF;have k4:(x.kind==4)=false:=AF;have k5:(x.kind==5)=false:=AF;clear hf hk;by_cases h1:0<=x.n
 ·by_cases h2:x.n<=3652058
  ·exact UO
  ·exact IG
 ·exact IG

theorem Ug(h:qP:=by
 go_enter func38,ntmps38
 go_wp2_with fail
 refine (G4 { x with n:=0 } A B c e _).mono ?_;rintro e1 w1 ⟨rfl,hx1⟩;have HX:=Hd hx1;clear hx1;go_wp2;go_ret;exact ⟨by rw [HF.o];simp [H1.o],Ext.trans (exbb w) HX.o⟩):qP:=h
theorem Vh(x:Val)(A B:OA)(c e:Nat)(w:World)(hk:x.kind=4)(_hs:x.s.size<=4294967296):Cl 38 #[(Vq x A c B e)] w (Ae w (BG x)):=by
 have hf:BG x=(decide (x.n=0\/x.n=1)&&KU { x with n:=0 }):=FO;have HF:=Hd hf;have O:(x.kind==0)=false:=AF;have k1:(x.kind==1)=false:=AF;have k2:(x.kind==2)=false:=AF;have k3:(x.kind==3)=false:=AF;have k4:(x.kind==4)=true:=AF;have k5:(x.kind==5)=false:=AF;clear hf hk;by_cases h1:x.n=0
 ·have h3:(x.n==0)=true:=(by simp [h1]);have H1:=Hd h1;clear h1;exact Ug
 ·have h3:(x.n==0)=false:=(by simp [h1]);by_cases h2:x.n=1
  ·have h4:(x.n==1)=true:=DZ;have H1:=Hd h2;clear h1 h2;exact Ug
  ·have h4:(x.n==1)=false:=DZ
   go_enter func38,ntmps38
   go_wp2;go_ret;exact ⟨by rw [HF.o];simp [h1,h2],(exaa w).alloc _⟩

theorem Vm(x:Val)(A B:OA)(c e:Nat)(w:World)(h0:x.kind≠0)(h1:x.kind≠1)(h2:x.kind≠2)(h3:x.kind≠3)(h4:x.kind≠4)(h5:x.kind≠5):Cl 38 #[(Vq x A c B e)] w (Ae w (BG x)):=by
 have hf:BG x=false:=(by simp [BG,h0,h1,h2,h3,h4]);have HF:=Hd hf;have O:(x.kind==0)=false:=(by simp [h0]);have k1:(x.kind==1)=false:=(by simp [h1]);have k2:(x.kind==2)=false:=DZ;have k3:(x.kind==3)=false:=(by simp [h3]);have k4:(x.kind==4)=false:=(by simp [h4]);have k5:(x.kind==5)=false:=(by simp [h5]);clear hf h0 h1 h2 h3 h4 h5
 go_enter func38,ntmps38
 go_wp2;go_ret;exact ⟨BB,(exaa w).alloc _⟩

theorem Hx(x:Val)(A B:OA)(c e:Nat)(w:World)(h5:x.kind≠5)(hs:x.s.size<=4294967296):Cl 38 #[(Vq x A c B e)] w (Ae w (BG x)):=by
 by_cases h0:x.kind=0
 ·exact Vd x A B c e w h0 hs
 by_cases h1:x.kind=1
 ·exact WC x A B c e w h1 hs
 by_cases h2:x.kind=2
 ·exact Vv x A B c e w h2 hs
 by_cases h3:x.kind=3
 ·exact Vs x A B c e w h3 hs
 by_cases h4:x.kind=4
 ·exact Vh x A B c e w h4 hs
 exact Vm x A B c e w h0 h1 h2 h3 h4 h5

def Fj(cols:List BA)(i:Nat):Bool:=Ba (cols.getD i ⟨#[]⟩)&&!Aw (cols.take i) (cols.getD i ⟨#[]⟩)
def DU(x:Val):Bool:=decide (x.kind≠5)&&BG x
def Ew(n:Nat)(r:List Val):Bool:=decide (r.length=n)&&r.all DU
def BK(cols:List BA)(rows:List (List Val)):Bool :=
 decide (cols.length<=8/\rows.length<=100)&&(List.range cols.length).all (Fj cols)&&rows.all (Ew cols.length)
def BC(x:Val):Bool:=if x.kind=5 then BK x.cols x.rows&&KU { x with cols:=[],rows:=[] } else BG x

theorem Strs.take(h:Strs w S A l)(k:Nat):Strs w S A (l.take k) :=
 ⟨by rw [List.map_take];exact h.1.take k,by rw [List.length_take];have:=h.2.1;omega,λs hs=>h.2.2 s (List.mem_of_mem_take hs)⟩
theorem BM{α:Type}(l:List α)(i:Nat)(z:α)(h:i<l.length):l.getD i z=l[i]:=by simp [h]

theorem WO{p:Nat->Bool}(h:∀ j,j<n->p j=true):(List.range n).all p=true:=by
 rw [List.all_eq_true];intro x hx;exact h x (List.mem_range.1 hx)
theorem Hz{p:Nat->Bool}{j:Nat}(hj:j<n)(h:p j=false):(List.range n).all p=false:=by
 rw [List.all_eq_false];exact ⟨j,List.mem_range.2 hj,by simp [h]⟩

theorem MB(h:qP:=by
 go_ret;exact ⟨by rw [HF.o];rfl,Ext.refl _⟩):qP:=h
theorem Vb(h:qP:=by
 go_enter func96,ntmps96
 go_wp2;exact MB):qP:=h
theorem Pp(h:qP:=by
 unfold BK;rw [CX rows (Ew cols.length) i hlt2 (by unfold Ew;rw [CX rows[i] DU j hlt3 (by simp [DU,hk5])];simp)];simp):qP:=h
theorem Uz(h:qP:=by
 unfold BK;rw [CX rows (Ew cols.length) i hlt2 (by unfold Ew;rw [CX rows[i] DU j hlt3 (by simp [DU,hfl])];simp)];simp):qP:=h
theorem QZ(h:qP:=by
 by_cases hjk:m=j
 ·subst hjk;exact HFL.o
 ·exact HI.o m h (by omega)):qP:=h
theorem AcA(h:qP:=by
 refine ⟨i+1,by omega,by go_num,HE.o.trans HEI.o,λj h hj => ?_⟩;by_cases hjk:j=i
 ·subst hjk;exact HRO.o
 ·exact HR.o j h (by omega)):qP:=h
theorem U2(h:qP:=by
 go_wp2;go_roundw
 case rel =>
  exact AcA
 case measure=>simp [intOf];omega):qP:=h
theorem Tg(h:qP:=by
 unfold Ew;rw [CH rows[i] DU (λm h=>HI.o m h (by omega)),HLN.o];simp):qP:=h
theorem A4A(h:qP:=by
 unfold BK;rw [CX rows (Ew cols.length) i hlt2 (by unfold Ew;rw [decide_eq_false hln];rfl)];simp):qP:=h
theorem Pi(h:qP:=by
 go_ret;exact ⟨by rw [HF.o];rfl,HE.o⟩):qP:=h
theorem MD(h:qP:=by
 go_wp2;exact Pi):qP:=h
theorem Sn(h:qP:=by
 have hn1:((rows[i].length:Int) != (cols.length:Int))=true:=(by rw [bne_iff_ne];omega);have HF:=Hd (show BK cols rows=false by
  exact A4A)
 clear hln;exact MD):qP:=h
theorem FC(h:qP:=by
 clear hext;exact MD):qP:=h
theorem BP(h:qP:=by rw [List.length_take];omega):qP:=h
theorem AE(h:qP:=by go_num):qP:=h
theorem No(q:Nat)(cols:List BA)(rows:List (List Val))(A B:OA)(c e:Nat)(w:World)(S T:NP)(hA:Strs w S A cols)(hB:Rows w T q B rows)(hcap:cols.length<=c) :
  Cl 96 #[.slice A cols.length c,.slice B rows.length e] w (Ae w (BK cols rows)):=by
 have hn:=hA.2.1;have hm:=hB.len;by_cases h1:cols.length<=8
 case neg =>
  have HF:=Hd (show BK cols rows=false by unfold BK;rw [decide_eq_false AA];rfl);have a9:(8:Int)<(cols.length:Int):=AA;exact Vb
 by_cases h2:rows.length<=100
 case neg =>
  have HF:=Hd (show BK cols rows=false by unfold BK;rw [decide_eq_false AA];rfl);have a9:¬(8:Int)<(cols.length:Int):=AA;have h2':(100:Int)<(rows.length:Int):=AA;exact Vb
 have a9:¬(8:Int)<(cols.length:Int):=AA;have h2':¬(100:Int)<(rows.length:Int):=AA;have h3':(cols.length:Int)<=8:=AA;have h4':(rows.length:Int)<=100:=AA
 go_enter func96,ntmps96
 go_wp2
 go_loop [21] (λi=>∃ k:Nat,k<=cols.length/\i=.I k/\∀ j,j<k->Fj cols j=true) (λi=>cols.length-(intOf i).toNat)
 case atStart=>exact ⟨0,AN,rfl,AK⟩
 case round =>
  obtain ⟨k,hk,rfl,hall⟩:=hrel;have HA:=Hd hall;clear hall;by_cases hlt:k<cols.length
  ·obtain ⟨b1,o1,rfl,z1,c1⟩:=hA.at_ hlt;have hsz:=hA.sz hlt;have HTK:=Hd (hA.take k);have a8:(cols.take k).length=k:=BP;cases hnm:Ba cols[k]
   ·have HF:=Hd (show BK cols rows=false by unfold BK;rw [Hz hlt (by unfold Fj;rw [BM _ _ _ hlt,hnm];rfl)];simp);have HN:=Hd hnm;clear hnm
    go_wp2_with (go_at_call 171;refine (I6 _ hsz _).mono ?_;rintro e1 w1 ⟨rfl,rfl⟩;rw [HN.o])
    exact MB
   ·have HN:=Hd hnm;have O:=Hd (JK (some ⟨b1,o1,none⟩) c (cols.take k) cols[k] w S HTK.o);rw [a8] at O;cases hmm:Aw (cols.take k) cols[k]
    ·have HM:=Hd hmm;have HC:=Hd (show Fj cols k=true by unfold Fj;rw [BM _ _ _ hlt,hnm,hmm];rfl);clear hnm hmm a8
     go_wp2_with (first|(go_at_call 171;refine (I6 _ hsz _).mono ?_;rintro e1 w1 ⟨rfl,rfl⟩;rw [HN.o])|(go_at_call 70;refine O.o.mono ?_;rintro e1 w1 ⟨rfl,rfl⟩;rw [HM.o]))
     go_round
     case rel =>
      refine ⟨k+1,AA,AE,λj hj => ?_⟩;by_cases hjk:j=k
      ·subst hjk;exact HC.o
      ·exact HA.o j AA
     case measure=>simp [intOf];omega
    ·have HM:=Hd hmm;have HF:=Hd (show BK cols rows=false by unfold BK;rw [Hz hlt (by unfold Fj;rw [BM _ _ _ hlt,hnm,hmm];rfl)];simp);clear hnm hmm a8
     go_wp2_with (first|(go_at_call 171;refine (I6 _ hsz _).mono ?_;rintro e1 w1 ⟨rfl,rfl⟩;rw [HN.o])|(go_at_call 70;refine O.o.mono ?_;rintro e1 w1 ⟨rfl,rfl⟩;rw [HM.o]))
     exact MB
  ·have b0:=Hd (WO (n:=cols.length) (p:=Fj cols) (λj hj=>HA.o j AA));go_wp2
   go_loopw [39] (λi wr=>∃ k:Nat,k<=rows.length/\i=.I k/\Ext w wr/\∀ j (h:j<rows.length),j<k->Ew cols.length rows[j]=true) (λi _=>rows.length-(intOf i).toNat)
   case atStart=>exact ⟨0,AN,rfl,Ext.refl _,AK⟩
   case round =>
    rename_i k0 _ _ _ _;obtain ⟨i,hi,rfl,hext,hall⟩:=hrel;have HR:=Hd hall;have HE:=Hd hext;clear hall;by_cases hlt2:i<rows.length
    ·obtain ⟨b1,o1,A2,c2,rfl,z1,p0,hcr,Y⟩:=(hB.keep (hext.kept T)).at_ hlt2;have hrl:=Y.len;have b3:=Hd Y;clear Y hext;by_cases hln:rows[i].length=cols.length
     ·have hn1:((rows[i].length:Int) != (cols.length:Int))=false:=(by simp [hln]);have HLN:=Hd hln;clear hln;go_wp2;obtain ⟨wo,rfl⟩:∃ wo:World,wo=wr:=⟨_,rfl⟩
      go_loopw [50] (λv wi=>∃ j:Nat,j<=rows[i].length/\v=.I j/\Ext wo wi/\∀ m (h:m<rows[i].length),m<j->DU rows[i][m]=true) (λv _=>rows[i].length-(intOf v).toNat)
      case atStart=>exact ⟨0,AN,rfl,Ext.refl _,AK⟩
      case round =>
       obtain ⟨j,hj,rfl,U,Z⟩:=hrel;have HI:=Hd Z;have HEI:=Hd U;clear Z;by_cases hlt3:j<rows[i].length
       ·obtain ⟨b2,o2,A5,c5,B5,e5,rfl,z2,⟨p0,p1,p2,p3,p4,p5,p6⟩,⟨hq,_,_⟩,hv⟩:=(b3.o.keep (U.kept T)).at_ hlt3;have hvs:=hv.size;clear hv U;by_cases hk5:rows[i][j].kind=5
        ·have hk5':(rows[i][j].kind==5)=true:=(by simp [hk5]);have HF:=Hd (show BK cols rows=false by
          exact Pp)
         clear hk5;go_wp2;go_ret;exact ⟨BB,HE.o.trans (HEI.o.alloc _)⟩
        ·have hk5':(rows[i][j].kind==5)=false:=(by simp [hk5]);have HK5:=Hd hk5;have HRF:=Hd (Hx rows[i][j] A5 B5 c5 e5 · hk5 hvs);clear hk5
         go_wp2_with fail
         refine (HRF.o _).mono ?_;rintro e1 w1 ⟨rfl,hx1⟩;have HX1:=Hd hx1;clear hx1;cases hfl:BG rows[i][j]
         ·have HF:=Hd (show BK cols rows=false by
           exact Uz)
          clear hfl;go_wp2;go_ret;exact ⟨BB,HE.o.trans ((HEI.o.alloc _).trans HX1.o)⟩
         ·have HFL:=Hd (show DU rows[i][j]=true by simp [DU,hfl,HK5.o]);clear hfl;go_wp2;go_roundw
          case rel =>
           refine ⟨j+1,AA,AE,(HEI.o.alloc _).trans HX1.o,λm h hm => ?_⟩;exact QZ
          case measure=>simp [intOf];omega
       ·have HRO:=Hd (show Ew cols.length rows[i]=true by
         exact Tg)
        exact U2
     ·exact Sn
    ·have HF:=Hd (show BK cols rows=true by
      unfold BK;rw [b0.o,CH rows (Ew cols.length) (λj h=>HR.o j h AA),decide_eq_true ⟨h1,h2⟩];rfl)
     exact FC

theorem Vl(q:Nat)(x:Val)(A B:OA)(c e:Nat)(w:World)(S:NP)(h:RV w S q x A B)(hcap:x.cols.length<=c)(hk:x.kind=5):Cl 38 #[(Vq x A c B e)] w (Ae w (BC x)):=by
 have hf:BC x=(BK x.cols x.rows&&KU { x with cols:=[],rows:=[] }):=(by simp [BC,hk]);have HF:=Hd hf;have H:=Hd h;have k0:(x.kind==0)=false:=AF;have k1:(x.kind==1)=false:=AF;have k2:(x.kind==2)=false:=AF;have k3:(x.kind==3)=false:=AF;have k4:(x.kind==4)=false:=AF;have k5:(x.kind==5)=true:=AF;clear hf hk h
 go_enter func38,ntmps38
 go_wp2_with fail
 refine (No q x.cols x.rows A B c e _ S S (H.o.strs.keep ((exbb w).kept _)) (H.o.rows_.keep ((exbb w).kept _)) hcap).mono ?_;rintro e1 w1 ⟨rfl,hx1⟩;obtain ⟨Y,O⟩:=Wm hx1;have U:=hx1.size;simp at Y O U;have a8:w.heap.size<w1.heap.size:=AA;have Z:w.heap.size+1<w1.heap.size:=AA;have HX:=Hd hx1;cases ht:BK x.cols x.rows
 ·exact Ko
 ·have HT:=Hd ht;clear ht hx1
  go_wp2_with fail
  refine (G4 { x with cols:=[],rows:=[] } none none 0 0 _).mono ?_;exact SK

theorem Nx(q:Nat)(x:Val)(A B:OA)(c e:Nat)(w:World)(S:NP)(h:RV w S q x A B)(hcap:x.cols.length<=c):Cl 38 #[(Vq x A c B e)] w (Ae w (BC x)):=by
 by_cases hk:x.kind=5
 ·exact Vl q x A B c e w S h hcap hk
 ·have:=Hx x A B c e w hk h.size;rwa [show BG x=BC x by simp [BC,hk]] at this

def Val.zero:Val:=⟨0,⟨#[]⟩,0,0,0,[],[]⟩
structure Look where
 name:BA
 cols:List BA
 rows:List (List Val)
def RL(w:World)(S:NP)(d:Nat)(t:Look)(A B:OA):Prop:=t.name.size<=4294967296/\Strs w S A t.cols/\Rows w S d B t.rows
theorem RL.keep{J:World}{t:Look}(h:RL w S d t A B)(k:Kept S w J):RL J S d t A B:=⟨h.1,h.2.1.keep k,h.2.2.keep k⟩
theorem RL.mono{T:NP}{t:Look}(h:RL w S d t A B)(k:∀ i,i<w.heap.size->S i->T i):RL w T d t A B:=⟨h.1,h.2.1.mono k,h.2.2.mono k⟩
theorem Rows.nil : Rows w S d B []:=⟨AC,[],Or.inl rfl,AC,AC⟩
theorem RV.zero : RV w S d Val.zero A B:=RV.mk (AN) Strs.nil Rows.nil
def HQA(cols:List BA)(rows:List (List Val)):Val:=⟨5,⟨#[]⟩,0,0,0,cols,rows⟩
theorem RL.val{t:Look}(h:RL w S d t A B):RV w S d (HQA t.cols t.rows) A B:=RV.mk (AN) h.2.1 h.2.2


def EF(cols:List BA)(rows:List (List Val)):Bool:=rows.all λr=>decide (r.length=cols.length)
theorem Fg(q:Nat)(cols:List BA)(rows:List (List Val))(A B:OA)(c e:Nat)(w:World)(S:NP)(_hcl:cols.length<=4294967296)(hB:Rows w S q B rows) :
  Cl 126 #[.slice A cols.length c,.slice B rows.length e] w (SameB w (EF cols rows)):=by
 have hm:=hB.len
 go_enter func126,ntmps126
 go_wp2
 go_loop [9] (λi=>∃ k:Nat,k<=rows.length/\i=.I k/\∀ j (h:j<rows.length),j<k->rows[j].length=cols.length) (λi=>rows.length-(intOf i).toNat)
 case atStart=>exact ⟨0,AN,rfl,AK⟩
 case round =>
  obtain ⟨k,hk,rfl,hall⟩:=hrel;have HA:=Hd hall;clear hall;by_cases hlt:k<rows.length
  ·obtain ⟨b1,o1,A2,c2,rfl,z1,p0,Y,O⟩:=hB.at_ hlt;have U:=O.len;clear O;by_cases hln:rows[k].length=cols.length
   ·have hn1:((rows[k].length:Int) != (cols.length:Int))=false:=(by simp [hln]);have HLN:=Hd hln;clear hln;go_wp2
    go_round
    case rel =>
     refine ⟨k+1,AA,AE,λj h hj => ?_⟩;by_cases hjk:j=k
     ·subst hjk;exact HLN.o
     ·exact HA.o j h AA
    case measure=>simp [intOf];omega
   ·have hn1:((rows[k].length:Int) != (cols.length:Int))=true:=Ke;have HF:=Hd (show EF cols rows=false by unfold EF;exact CX rows _ k hlt (by simp [hln]));clear hln;exact Bf
  ·have HF:=Hd (show EF cols rows=true by unfold EF;exact CH rows _ (λj h=>by simp [HA.o j h AA]));exact Bf

theorem SI(q:Nat)(x y:List Val)(A B:OA)(ca cb k g1 g2:Nat)(w:World)(S T:NP)(hx:Row w S q A x)(hy:Row w T q B y)(hkx:k<x.length)(hky:k<y.length)
  (h1:w.cell? ⟨g1,0,none⟩=some (.I (k:Int))) (h2:w.cell? ⟨g2,0,none⟩=some (.slice B y.length cb)) :
  Cl 192 #[.slice A x.length ca,.pointer (some ⟨g1,0,none⟩),.pointer (some ⟨g2,0,none⟩)] w (Ae w (decide (x.getD k Val.zero=y.getD k Val.zero))):=by
 have hxl:=hx.len;have hyl:=hy.len;obtain ⟨b1,o1,A1,c1,B1,e1,rfl,z1,⟨p0,p1,p2,p3,p4,p5,p6⟩,⟨hq,_,_⟩,U⟩:=hx.at_ hkx;obtain ⟨b2,o2,A2,c2,B2,e2,rfl,z2,⟨q0,q1,q2,q3,q4,q5,q6⟩,_,O⟩:=hy.at_ hky;obtain ⟨Z,Y,G1,G2⟩:=Hd4 U O (BM x k Val.zero hkx) (BM y k Val.zero hky);clear U O hx hy
 go_enter func192,ntmps192
 go_wp2
 go_still_tail 8,AD
 go_wp2_with fail
 refine (YK (q-1) x[k] y[k] A1 B1 A2 B2 c1 e1 c2 e2 _ S T (Z.o.keep (Kept.drew _ _)) (Y.o.keep (Kept.drew _ _))).mono ?_;rintro e w1 ⟨rfl,hx1⟩;have HX:=Hd (((Ext.refl w).drew).trans hx1);clear hx1;go_wp2;go_ret;exact ⟨by rw [G1.o,G2.o];rfl,HX.o⟩

def Gv{α:Type}(p:α->Bool)(l:List α):Int:=match l.findIdx? p with|some i=>(i:Int)|none=>-1
theorem EO{α:Type}{p:α->Bool}{l:List α}(hk:k<l.length)(h:∀ j (hj:j<l.length),j<k->p l[j]=false)(hv:p l[k]=true):Gv p l=k:=by
 unfold Gv;have:l.findIdx? p=some k:=by
  rw [List.findIdx?_eq_some_iff_getElem];exact ⟨hk,hv,λj hj=>by simp [h j AA hj]⟩
 rw [this]
theorem GG{α:Type}{p:α->Bool}{l:List α}(h:∀ j (hj:j<l.length),p l[j]=false):Gv p l=-1:=by
 unfold Gv;have:l.findIdx? p=none:=by
  rw [List.findIdx?_eq_none_iff];exact VU
 rw [this]
theorem Nm{α:Type}{p:α->Bool}{l:List α}(h:0<=Gv p l):∃ k:Nat,Gv p l=k/\∃ hk:k<l.length,p l[k]=true/\∀ j (hj:j<l.length),j<k->p l[j]=false:=by
 unfold Gv at h|-;cases hf:l.findIdx? p with
 |none=>rw [hf] at h;simp at h
 |some i =>
  rw [List.findIdx?_eq_some_iff_getElem] at hf;obtain ⟨hi,h1,h2⟩:=hf;exact ⟨i,rfl,hi,h1,λj hj hji=>by simpa using h2 j hji⟩
theorem G5{α:Type}(p:α->Bool)(l:List α):decide (0<=Gv p l)=l.any p:=by
 rw [Bool.eq_iff_iff,decide_eq_true_iff,List.any_eq_true];constructor
 ·intro h;obtain ⟨k,_,hk,hp,_⟩:=Nm h;exact ⟨_,List.getElem_mem hk,hp⟩
 ·rintro ⟨x,hx,hp⟩;unfold Gv;cases hf:l.findIdx? p with
  |some i=>simp
  |none =>
   rw [List.findIdx?_eq_none_iff] at hf;rw [hf x hx] at hp;cases hp
def Cx(c:Nat)(r o:List Val):Bool:=decide (o.getD c Val.zero=r.getD c Val.zero)

theorem Uj(h:qP:=by
 go_ret;exact ⟨by rw [HF.o];rfl,HX1.o⟩):qP:=h
theorem Lc(h:qP:=by
 clear hq;go_wp2;exact Uj):qP:=h
theorem OG(q:Nat)(rows:List (List Val))(r:List Val)(A B:OA)(ca cb k g1 g2:Nat)(w:World)(S T:NP)(hx:Rows w S q A rows)(hy:Row w T q B r)(hk:∀ j (h:j<rows.length),k<rows[j].length)(hky:k<r.length)
  (h1:w.cell? ⟨g1,0,none⟩=some (.I (k:Int))) (h2:w.cell? ⟨g2,0,none⟩=some (.slice B r.length cb)) :
  Cl 191 #[.slice A rows.length ca,.func (.func 192) #[] #[.pointer (some ⟨g1,0,none⟩),.pointer (some ⟨g2,0,none⟩)]] w (DG w (Gv (Cx k r) rows)):=by
 have Y:=hx.len;obtain ⟨HX,HY,HK,H1,H2⟩:=Hd5 hx hy hk h1 h2;clear hx hy hk h1 h2
 go_enter func191,ntmps191
 go_wp2
 go_loopw [8] (λi wr=>∃ m:Nat,m<=rows.length/\i=.I m/\Ext w wr/\∀ j (h:j<rows.length),j<m->Cx k r rows[j]=false) (λi _=>rows.length-(intOf i).toNat)
 case atStart=>exact ⟨0,AN,rfl,Ext.refl _,AK⟩
 case round =>
  obtain ⟨m,hm,rfl,hext,hall⟩:=hrel;have HA:=Hd hall;have HE:=Hd hext;clear hall;by_cases hlt:m<rows.length
  ·obtain ⟨b1,o1,A2,c2,rfl,z1,p0,Z,O⟩:=(HX.o.keep (hext.kept S)).at_ hlt;have U:=Hd O;clear O hext
   go_wp2_with fail
   refine (SI q rows[m] r A2 B c2 cb k g1 g2 _ S T U.o (HY.o.keep (HE.o.kept T)) (HK.o m hlt) hky (HE.o.cell H1.o) (HE.o.cell H2.o)).mono ?_;rintro e w1 ⟨rfl,hx1⟩;have HX1:=Hd (HE.o.trans hx1);clear hx1;have heq:decide (rows[m].getD k Val.zero=r.getD k Val.zero)=Cx k r rows[m]:=rfl;rw [heq];clear heq;cases hq:Cx k r rows[m]
   ·have HQ:=Hd hq;clear hq;go_wp2;go_roundw
    case rel =>
     refine ⟨m+1,AA,AE,HX1.o,λj h hj => ?_⟩;by_cases hjk:j=m
     ·subst hjk;exact HQ.o
     ·exact HA.o j h AA
    case measure=>simp [intOf];omega
   ·have HF:=Hd (EO hlt HA.o hq);exact Lc
  ·have HF:=Hd (GG (p:=Cx k r) (l:=rows) (λj h=>HA.o j h AA));exact FC

def Ad(rows:List (List Val))(c:Nat):List Int:=rows.map λr=>Gv (Cx c r) rows
def FjA(w:World)(l:List Int)(e:Ending)(J:World):Prop:=∃ A c,e=.returned (.slice A l.length c)/\l.length<=c/\Ints J (BO w) A l/\Ext w J

theorem Hl(q:Nat)(rows:List (List Val))(A:OA)(ca k:Nat)(w:World)(S:NP)(hx:Rows w S q A rows)(hk:∀ j (h:j<rows.length),k<rows[j].length) :
  Cl 127 #[.slice A rows.length ca,.I (k:Int)] w (FjA w (Ad rows k)):=by
 have d3:=hx.len;have HX:=Hd hx;have HK:=Hd hk;clear hx hk;obtain ⟨cur,b8,Z⟩:=B2A tiI rows.length AA AB;have HCUR:=Hd Z;clear Z
 go_enter func127,ntmps127
 go_wp2;clear b8;have hst:OwnIs ((w.alloc (.cells #[.I (k:Int)] 3)).alloc (.cells cur 3)) (w.heap.size+1) (some ⟨w.heap.size+1,0,none⟩) rows.length ((Ad rows k).take 0):=by
  have:=ITA (w.alloc (.cells #[.I (k:Int)] 3)) 3 1 rows.length cur Bd HCUR.o
  simpa [OwnIs] using this
 have HST:=Hd hst;have HB:=Hd ((Blk.new w 3 #[.I (k:Int)]).keep (Kept.alloc _ _ (.cells cur 3)));clear hst;have U:(Ad rows k).length=rows.length:=(by simp [Ad]);have O:=Hd U;clear U
 go_loopw [13,5] (λi v wr=>∃ (m:Nat) (A':OA) (c':Nat),m<=rows.length/\i=.I m/\v=.slice A' m c'/\Ext w wr/\w.heap.size+1<=wr.heap.size/\wr.cell? ⟨w.heap.size,0,none⟩=some (.I (k:Int))/\OwnIs wr (w.heap.size+1) A' c' ((Ad rows k).take m)) (λi _ _=>rows.length-(intOf i).toNat)
 case atStart=>exact ⟨0,_,_,AN,rfl,rfl,(exaa w).alloc _,AC,HB.o.cell rfl,HST.o⟩
 case round =>
  obtain ⟨m,A',c',hm,rfl,rfl,hext,hsz,Y,hown⟩:=hrel;obtain ⟨HE,HO,b4⟩:=Hd3 hext hown Y;clear hown Y;by_cases hlt:m<rows.length
  ·obtain ⟨b1,o1,A2,c2,rfl,z1,p0,d5,a8⟩:=(HX.o.keep (hext.kept S)).at_ hlt;have b6:=Hd a8;clear a8 hext
   go_wp2_with fail
   refine (OG q rows rows[m] (some ⟨b1,o1,none⟩) A2 ca c2 k w.heap.size wr.heap.size _ S S ((HX.o.keep (HE.o.kept S)).keep (Kept.alloc _ _ _)) (b6.o.keep (Kept.alloc _ _ _)) HK.o (HK.o m hlt) ((exaa wr).cell b4.o) ((Blk.new wr 45 #[.slice A2 rows[m].length c2]).cell rfl)).mono ?_;rintro e w1 ⟨rfl,hx1⟩;have HX1:=Hd ((exaa wr).trans hx1);have d4:wr.heap.size<w1.heap.size:=(by have:=hx1.size;simp at this;omega);clear hx1;have a9:(Ad rows k)[m]'(by rw [O.o];exact hlt)=Gv (Cx k rows[m]) rows:=(by simp [Ad]);have b7:=Hd a9;clear a9;have b5:((Ad rows k).take m).length=m:=(by rw [List.length_take,O.o];omega);have hown:=HO.o.ext (HX1.o.alloc (.cells #[.I (Gv (Cx k rows[m]) rows)] 3));unfold OwnIs at hown;rw [b5] at hown;have HOWN:=Hd hown;clear hown b5
   go_wp2_with (at_builtin;go_must (refine AL rfl (.tmp 17) (.tmp 21) rfl tiI rfl HOWN.o rfl (Blk.rd (Blk.new _ _ _)) rfl AP AA AB AI ?_);intro A4 c4 w4 hown4 hg4 hat4)
   go_roundw
   case rel =>
    have b3:∀ b,ob A'=some b->w.heap.size+1<=b:=λb hb=>(HOWN.o.blk hb).1;refine ⟨m+1,A4,c4,AA,AE,rfl,Ext.grown (HE.o.trans (HX1.o.alloc _)) hg4 (λb hb=>by have:=b3 b hb;omega),by have:=hg4.size;simp at this;omega,?_,?_⟩
    ·rw [World.cell?_of_block (hg4.block w.heap.size AI (λe=>by have:=b3 _ e.symm;omega))];exact ((Ext.refl wr).trans (HX1.o.alloc _)).cell b4.o
    ·rw [List.take_succ_eq_append_getElem (by rw [O.o];exact hlt),b7.o];unfold OwnIs;rw [List.length_append,List.length_take,O.o,Nat.min_eq_left hm,List.map_append];exact hown4
   case measure=>simp [intOf];omega
  ·have b9:m=rows.length:=AA;subst b9;clear hext;have ho:=HO.o;rw [List.take_of_length_le (by rw [O.o];exact Al)] at ho;have b0:=Hd ho;clear ho;go_wp2;go_ret;refine ⟨A',c',by rw [O.o];rfl,Own.cap b0.o,b0.o.ints (by rw [O.o];exact d3) (λb hb => ?_),HE.o⟩;have:=(Own.blk b0.o hb).1;unfold BO;omega
end Go.Proofs.YtaccjdppmmoepaaGreatDoor
namespace Go.Proofs.YtaccjdppmmoepaaGreatDoor
open Go Go.RowKit Go.MapKept Tryz
variable {qP:Prop}

def fnd{K:Type} [DecidableEq K](x:K):List (K × Value)->Nat->Option (Nat × Value)
 |[],_=>none
 |p::l,i=>if p.1=x then some (i,p.2) else fnd x l (i+1)
theorem YV{K:Type} [DecidableEq K]{x:K}{l:List (K × Value)}{j i:Nat}{v:Value}(h:fnd x l j=some (i,v)):j<=i/\l[i-j]?=some (x,v):=by
 induction l generalizing j with
 |nil=>simp [fnd] at h
 |cons p l ih =>
  unfold fnd at h;split at h
  ·rename_i hp;simp at h;obtain ⟨rfl,rfl⟩:=h;exact ⟨Al,by simp [<-hp]⟩
  ·obtain ⟨h1,h2⟩:=ih h;refine ⟨AA,?_⟩;rw [show i-j=(i-(j+1))+1 by omega,List.getElem?_cons_succ];exact h2
theorem GKA{K:Type} [DecidableEq K]{x:K}{l:List (K × Value)}{j:Nat}(h:fnd x l j=none):∀ p∈l,p.1≠x:=by
 induction l generalizing j with
 |nil=>simp
 |cons p l ih =>
  unfold fnd at h;split at h
  ·cases h
  ·rename_i hp;intro q hq
   rcases List.mem_cons.1 hq with rfl|hq
   ·exact hp
   ·exact ih h q hq
def Dt{K:Type} [DecidableEq K](m:List (K × Value))(k:K):Option Value:=(fnd k m 0).map (·.2)
def PE{K:Type} [DecidableEq K](m:List (K × Value))(k:K)(v:Value):List (K × Value) :=
 match fnd k m 0 with
 |some (i,_)=>m.set i (k,v)
 |none=>m++[(k,v)]
structure KL(P:Program)(kt:TypeId){K:Type} [DecidableEq K](enc:K->Value):Prop where
 check:∀ (w:World) (em:Bool) (x:K),(Instr.checkKey em 10000 kt (enc x)).run P w=.ok () w
 find:∀ (w:World) (x:K) (l:List (K × Value)) (es:List MapEntry),es.map (λe=>(e.key,e.val))=l.map (λp=>(enc p.1,p.2))->(Instr.findKey kt (enc x) es).run P w=.ok (fnd x l 0) w
 stays:∀ (w:World) (x:K),(Instr.keyThatStays (enc x) (enc x)).run P w=.ok (enc x) w
 inj:∀ x y:K,enc x=enc y->x=y
def MapIs{K:Type}(w:World)(b:Nat)(enc:K->Value)(m:List (K × Value)):Prop :=
 ∃ es clock,w.heap[b]?=some (.map es clock)/\es.toList.map (λe=>(e.key,e.val))=m.map (λp=>(enc p.1,p.2))/\Stamped es clock
theorem Pe{P:Program}{w:World}{b:Nat}{es:Array MapEntry}{cl:Nat}(h:w.heap[b]?=some (.map es cl)):(getObj b).run P w=.ok (.map es cl) w:=by simp [getObj,Sem.run,h]
theorem CRA{P:Program}{w:World}{b:Nat}{es:Array MapEntry}{cl:Nat}(o:Obj)(h:w.heap[b]?=some (.map es cl)):(setObj b o).run P w=.ok () { w with heap:=w.heap.setIfInBounds b o }:=by simp [setObj,Sem.run,h]
section
variable {P:Program}{K:Type}{enc:K->Value}{w J:World}{b:Nat}{m:List (K × Value)}
theorem Zn(h:qP:=by
 rw [Array.getElem?_eq_none h3] at h1;cases h1):qP:=h
theorem Kr(h:qP:=by
 rcases Nat.lt_or_ge b w.heap.size with h3|h3
 ·exact h3
 ·exact Zn):qP:=h
theorem MapIs.keep(h:MapIs w b enc m)(hk:Kept (λi=>i=b) w J):MapIs J b enc m:=by
 obtain ⟨es,cl,h1,h2,hst⟩:=h;refine ⟨es,cl,?_,h2,hst⟩;have hlt:b<w.heap.size:=by
  exact Kr
 rw [hk.2 b rfl hlt];exact h1
theorem MapIs.lt(h:MapIs w b enc m):b<w.heap.size:=by
 obtain ⟨es,cl,h1,_,_⟩:=h;exact Kr
theorem IHA(w:World)(enc:K->Value):MapIs (w.alloc (.map #[] 0)) w.heap.size enc []:=⟨#[],0,heap_alloc_new w _,rfl,stamped_empty 0⟩
theorem MapIs.len(h:MapIs w b enc m){t kt et:TypeId}(ht:P.underlying t=some (.map kt et))(ty:TypeId):(Builtin.len_ #[t] ty #[.map (some b)]).run P w=.ok (.I (m.length:Int)) w:=by
 obtain ⟨es,cl,h1,h2,hst⟩:=h;have hl:es.size=m.length:=by
  have:=congrArg List.length h2
  simpa using this
 simp [Builtin.len_,run_underlying ht,Pe h1,goInt,hl]
theorem TV(h:qP:=by
 obtain ⟨es,cl,h1,h2,hst⟩:=h;have hf:=kl.find w x m es.toList h2;unfold Dt;cases hq:fnd x m 0 with
 |none=>rw [hq] at hf;simp [Instr.lookup,run_underlying ht,Pe h1,kl.check,hf,hz]
 | some p=>rw [hq] at hf;simp [Instr.lookup,run_underlying ht,Pe h1,kl.check,hf]):qP:=h
theorem MapIs.get [DecidableEq K](h:MapIs w b enc m){t kt et:TypeId}(ht:P.underlying t=some (.map kt et))(kl:KL P kt enc)(z:Value)(hz:∀ w:World,(zeroValue et).run P w=.ok z w)(x:K) :
  (Instr.lookup t (.map (some b)) (enc x) false).run P w=.ok ((Dt m x).getD z) w:=by
 exact TV
theorem MapIs.get2 [DecidableEq K](h:MapIs w b enc m){t kt et:TypeId}(ht:P.underlying t=some (.map kt et))(kl:KL P kt enc)(z:Value)(hz:∀ w:World,(zeroValue et).run P w=.ok z w)(x:K) :
  (Instr.lookup t (.map (some b)) (enc x) true).run P w=.ok (.tuple #[(Dt m x).getD z,.bool (Dt m x).isSome]) w:=by
 exact TV
theorem MapIs.put [DecidableEq K](h:MapIs w b enc m){t kt et:TypeId}(ht:P.underlying t=some (.map kt et))(kl:KL P kt enc)(x:K)(v:Value) :
  ∃ J,(Instr.mapUpdate t (.map (some b)) (enc x) v).run P w=.ok () J/\MapIs J b enc (PE m x v)/\w.grownBy J (some b):=by
 obtain ⟨es,cl,h1,h2,hst⟩:=h;have hf:=kl.find w x m es.toList h2;have hlt:b<w.heap.size:=by
  exact Kr
 have hg:∀ o:Obj,w.grownBy { w with heap:=w.heap.setIfInBounds b o } (some b):=λo =>
  ⟨rfl,rfl,rfl,AC,λk _ hk=>by rw [Array.getElem?_setIfInBounds,if_neg (λe=>hk C7)]⟩
 unfold PE;cases hq:fnd x m 0 with
 |none =>
  rw [hq] at hf;refine ⟨{ w with heap:=w.heap.setIfInBounds b (.map (es.push { key:=enc x,val:=v,born:=cl }) (cl+1)) },by simp [Instr.mapUpdate,run_underlying ht,Pe h1,kl.check,hf,CRA _ h1],⟨es.push { key:=enc x,val:=v,born:=cl },cl+1,by simp [hlt],DZ,stamped_push hst (λe he hk => ?_)⟩,hg _⟩;have h5:(e.key,e.val)∈es.toList.map (λe=>(e.key,e.val)):=List.mem_map_of_mem he;rw [h2] at h5;obtain ⟨p,hp,U⟩:=List.mem_map.1 h5;injection U with U _;exact GKA hq p hp (kl.inj _ _ (U.trans hk))
 |some p =>
  obtain ⟨i,u⟩:=p;rw [hq] at hf;obtain ⟨_,hi⟩:=YV hq;simp at hi;have O:(es.toList.map (λe=>(e.key,e.val)))[i]?=some (enc x,u):=(by rw [h2];simp [hi]);have hil:i<es.size:=by
   have:=(List.getElem?_eq_some_iff.1 O).1
   simpa using this
  have Y:es[i].key=enc x:=by
   simp [hil] at O;exact O.1
  refine ⟨{ w with heap:=w.heap.setIfInBounds b (.map (es.modify i λe => { e with key:=enc x,val:=v }) cl) },by simp [Instr.mapUpdate,run_underlying ht,Pe h1,kl.check,hf,CRA _ h1,hil,Y,kl.stays],⟨es.modify i λe => { e with key:=enc x,val:=v },cl,by simp [hlt],?_,stamped_modify hst i _ (λ_ _=>rfl) (λe _ he=>by
   rw [Array.getElem?_eq_getElem hil] at he;injection he with he;show enc x=e.key;rw [<-he,Y])⟩,hg _⟩
  have:(es.modify i λe => { e with key:=enc x,val:=v }).toList.map (λe=>(e.key,e.val))=(es.toList.map (λe=>(e.key,e.val))).set i (enc x,v):=by
   apply List.ext_getElem?;intro j;simp only [List.getElem?_map,Array.getElem?_toList,Array.getElem?_modify,List.getElem?_set,List.length_map,Array.length_toList];by_cases hij:i=j
   ·subst hij;simp [hil]
   ·simp [hij]
  rw [this,h2,List.map_set]
end

theorem AAA(a b:BA):(a==b)=decide (a=b):=by
 cases a with|mk x=>cases b with|mk y =>
 show (x==y)=_;by_cases h:x=y
 ·subst h;simp
 ·simp [h]
theorem Lk(h:qP:=by
 exact ih l (i+1) (by simpa using h3)):qP:=h
theorem FkA{P:Program}{kt:TypeId}(hk:P.underlying kt=some (.int .i64)):KL P kt (λn:Int=>Value.int .i64 n) where
 check:=λw em x=>by
  have h:∀ n,(Instr.checkKey em (n+1) kt (Value.int .i64 x)).run P w=.ok () w:=λn=>by simp [Instr.checkKey,run_underlying hk]
  exact h 9999
 find:=λw x l es h=>by
  have hn:∀ (es:List MapEntry) (l:List (Int × Value)) (i:Nat),es.map (λe=>(e.key,e.val))=l.map (λp=>(Value.int .i64 p.1,p.2))->Instr.findNow (.int .i64) (.I x) es i=some (fnd x l i):=by
   intro es
   induction es with
   |nil=>intro l i h;cases l<;>simp at h;rfl
   |cons e es ih =>
    intro l i h;cases l with
    |nil=>simp at h
    |cons p l =>
     simp at h;obtain ⟨⟨h1,h2⟩,h3⟩:=h;unfold Instr.findNow fnd;rw [h1];by_cases hx:p.1=x
     ·have hs:Instr.sameNow (.int .i64) (.I x) (.I p.1)=some true:=(by simp [Instr.sameNow,hx]);rw [hs,if_pos hx,h2]
     ·have O:¬x=p.1:=λe=>hx e.symm;have hs:Instr.sameNow (.int .i64) (.I x) (.I p.1)=some false:=(by simp [Instr.sameNow,O]);rw [hs,if_neg hx];exact Lk
  simp [Instr.findKey,run_underlying hk,hn es l 0 h]
 stays:=λw x=>by simp [Instr.keyThatStays,Instr.sameBits]
 inj:=λx y h=>by injection h
theorem FdA{P:Program}{kt:TypeId}(hk:P.underlying kt=some .string):KL P kt (λs:BA=>Value.string s) where
 check:=λw em x=>by
  have h:∀ n,(Instr.checkKey em (n+1) kt (Value.string x)).run P w=.ok () w:=λn=>by simp [Instr.checkKey,run_underlying hk]
  exact h 9999
 find:=λw x l es h=>by
  have hn:∀ (es:List MapEntry) (l:List (BA × Value)) (i:Nat),es.map (λe=>(e.key,e.val))=l.map (λp=>(Value.string p.1,p.2))->Instr.findNow .string (.string x) es i=some (fnd x l i):=by
   intro es
   induction es with
   |nil=>intro l i h;cases l<;>simp at h;rfl
   |cons e es ih =>
    intro l i h;cases l with
    |nil=>simp at h
    |cons p l =>
     simp at h;obtain ⟨⟨h1,h2⟩,h3⟩:=h;unfold Instr.findNow fnd;rw [h1];by_cases hx:p.1=x
     ·have hs:Instr.sameNow .string (.string x) (.string p.1)=some true:=(by simp [Instr.sameNow,AAA,hx]);rw [hs,if_pos hx,h2]
     ·have O:¬x=p.1:=λe=>hx e.symm;have hs:Instr.sameNow .string (.string x) (.string p.1)=some false:=(by simp [Instr.sameNow,AAA,O]);rw [hs,if_neg hx];exact Lk
  simp [Instr.findKey,run_underlying hk,hn es l 0 h]
 stays:=λw x=>by simp [Instr.keyThatStays,Instr.sameBits,AAA]
 inj:=λx y h=>by injection h

theorem BxA{P:Program}{kt it:TypeId}(hk:P.underlying kt=some (.array 2 it))(hi:P.underlying it=some (.int .i64))(hs:∀ w:World,(sizeOf it).run P w=.ok 1 w)(w:World)(a b c d:Int) :
  (Op.equal kt (.agg #[.I a,.I b]) (.agg #[.I c,.I d])).run P w=.ok (decide ((a,b)=(c,d))) w:=by
 have O:∀ (n:Nat) (x y:Int),(Op.equalIn (n+1) it (.I x) (.I y)).run P w=.ok (x==y) w:=λn x y=>by simp [Op.equalIn,run_underlying hi]
 have hp:∀ (x y:Int) (i:Nat) (v:Value),(#[Value.int .i64 x,.I y])[i]?=some v->(part it #[.I x,.I y] i).run P w=.ok v w:=λx y i v hv=>by simp [part,isAgg,run_underlying hi,hv]
 have h:∀ n:Nat,(Op.equalIn (n+2) kt (.agg #[.I a,.I b]) (.agg #[.I c,.I d])).run P w=.ok (decide ((a,b)=(c,d))) w:=by
  intro n;rw [Op.equalIn];simp only [Sem.run_bind,run_underlying hk,Result.andThen_ok,hs,Std.Legacy.Range.forIn_eq_forIn_range',Std.Legacy.Range.size,Nat.sub_zero,Nat.add_sub_cancel,Nat.div_one,List.range'_succ,List.range'_zero,List.forIn_cons,List.forIn_nil];simp only [Nat.zero_mul,Nat.zero_add,Nat.one_mul,hp a b 0 _ rfl,hp c d 0 _ rfl,Result.andThen_ok];by_cases h1:a=c
  ·subst h1;by_cases h2:b=d
   ·subst h2;simp [O,hp a b 1 _ rfl]
   ·simp [O,hp a b 1 _ rfl,hp a d 1 _ rfl,h2]
  ·simp [O,h1]
 exact h 9998
theorem DwA{P:Program}{kt it:TypeId}(hk:P.underlying kt=some (.array 2 it))(hi:P.underlying it=some (.int .i64))(hs:∀ w:World,(sizeOf it).run P w=.ok 1 w) :
  KL P kt (λp:Int × Int=>Value.agg #[.I p.1,.I p.2]) where
 check:=λw em x=>by
  have hp:∀ (x y:Int) (i:Nat) (v:Value),(#[Value.int .i64 x,.I y])[i]?=some v->(part it #[.I x,.I y] i).run P w=.ok v w:=λx y i v hv=>by simp [part,isAgg,run_underlying hi,hv]
  have hc:∀ (n:Nat) (y:Int),(Instr.checkKey em (n+1) it (.I y)).run P w=.ok () w:=λn y=>by simp [Instr.checkKey,run_underlying hi]
  have h:∀ n,(Instr.checkKey em (n+2) kt (Value.agg #[.I x.1,.I x.2])).run P w=.ok () w:=λn=>by
   rw [Instr.checkKey];simp only [Sem.run_bind,run_underlying hk,Result.andThen_ok,hs,Std.Legacy.Range.forIn_eq_forIn_range',Std.Legacy.Range.size,Nat.sub_zero,Nat.add_sub_cancel,Nat.div_one,List.range'_succ,List.range'_zero,List.forIn_cons,List.forIn_nil];simp [hs,hp x.1 x.2 0 _ rfl,hp x.1 x.2 1 _ rfl,hc]
  exact h 9998
 find:=λw x l es h=>by
  have ha:∀ (es:List MapEntry) (l:List ((Int × Int) × Value)) (i:Nat),es.map (λe=>(e.key,e.val))=l.map (λp=>(Value.agg #[.I p.1.1,.I p.1.2],p.2))->(Instr.findAsking kt (.agg #[.I x.1,.I x.2]) es i).run P w=.ok (fnd x l i) w:=by
   intro es
   induction es with
   |nil=>intro l i h;cases l<;>simp at h;simp [Instr.findAsking,fnd]
   |cons e es ih =>
    intro l i h;cases l with
    |nil=>simp at h
    |cons p l =>
     simp at h;obtain ⟨⟨h1,h2⟩,h3⟩:=h;unfold Instr.findAsking fnd;rw [h1];simp only [Sem.run_bind,BxA hk hi hs w x.1 x.2 p.1.1 p.1.2,Result.andThen_ok];by_cases hx:p.1=x
     ·rw [if_pos hx,<-hx,decide_eq_true rfl];simp [h2]
     ·rw [if_neg hx,decide_eq_false (λe=>hx e.symm)];simp only [Bool.false_eq_true,if_false];exact Lk
  cases es with
  |nil =>
   cases l<;>simp at h
   simp [Instr.findKey,run_underlying hk,Instr.findNow,fnd]
  |cons e es =>
   have hn:Instr.findNow (.array 2 it) (.agg #[.I x.1,.I x.2]) (e::es) 0=none:=(by simp [Instr.findNow,Instr.sameNow]);simp only [Instr.findKey,Sem.run_bind,run_underlying hk,Result.andThen_ok,hn];exact ha (e::es) l 0 h
 stays:=λw x=>by
  have h:∀ n,Instr.sameBits (n+1) (.agg #[.I x.1,.I x.2]) (.agg #[.I x.1,.I x.2])=true:=λn=>by simp [Instr.sameBits]
  unfold Instr.keyThatStays;rw [h 9999];simp
 inj:=λx y h=>by
  injection h with h;injection h with h;simp at h;exact Prod.ext h.1 h.2

section
variable {K:Type} [DecidableEq K]
theorem ZK{x:K}{l l':List (K × Value)}{j:Nat} : fnd x (l++l') j=match fnd x l j with|some r=>some r|none=>fnd x l' (j+l.length):=by
 induction l generalizing j with
 |nil=>simp [fnd]
 |cons p l ih =>
  show (if p.1=x then some (j,p.2) else fnd x (l++l') (j+1))=match (if p.1=x then some (j,p.2) else fnd x l (j+1)) with|some r=>some r|none=>fnd x l' (j+(l.length+1))
  by_cases hp:p.1=x
  ·simp only [if_pos hp]
  ·simp only [if_neg hp];rw [ih,show j+1+l.length=j+(l.length+1) by omega]
theorem BU(h:qP:=by simpa using h):qP:=h
theorem Jf(m:List (K × Value))(k k':K)(v:Value):Dt (PE m k v) k'=if k=k' then some v else Dt m k':=by
 unfold Dt PE;cases hf:fnd k m 0 with
 |none =>
  rw [ZK];by_cases hk:k=k'
  ·subst hk;rw [hf,if_pos rfl];simp [fnd]
  ·rw [if_neg hk];cases hg:fnd k' m 0 with
   |none=>simp [fnd,hk]
   |some r=>simp
 |some r =>
  obtain ⟨i,u⟩:=r;obtain ⟨_,hi⟩:=YV hf;simp at hi;have U:∀ (l:List (K × Value)) (i j:Nat) (u:Value),l[i]?=some (k,u)->(∀ a,a<i->∀ p,l[a]?=some p->p.1≠k)->(fnd k' (l.set i (k,v)) j).map (·.2)=if k=k' then some v else (fnd k' l j).map (·.2):=by
   intro l
   induction l with
   |nil=>intro i j u h;simp at h
   |cons p l ih =>
    intro i j u h hb;cases i with
    |zero =>
     simp at h;subst h;simp only [List.set_cons_zero,fnd];by_cases hk:k=k'<;>simp [hk]
    |succ i =>
     simp only [List.set_cons_succ,fnd];have hp:p.1≠k:=hb 0 AA p rfl;by_cases hk:p.1=k'
     ·have:k≠k':=λe=>hp (by rw [hk,e]);simp [hk,this]
     ·rw [if_neg hk,if_neg hk];exact ih i (j+1) u BU (λa ha q hq=>hb (a+1) AA q (by simpa using hq))
  refine U m i 0 u hi ?_;have O:∀ (l:List (K × Value)) (j i:Nat) (u:Value),fnd k l j=some (i,u)->∀ a,a<i-j->∀ p,l[a]?=some p->p.1≠k:=by
   intro l
   induction l with
   |nil=>intro j i u h;simp [fnd] at h
   |cons q l ih =>
    intro j i u h a ha p hp;unfold fnd at h;by_cases hq:q.1=k
    ·rw [if_pos hq] at h;simp at h;omega
    ·rw [if_neg hq] at h;cases a with
     |zero=>simp at hp;subst hp;exact hq
     |succ a=>exact ih (j+1) i u h a AA p (by simpa using hp)
  exact λa ha p hp=>O m 0 i u hf a AA p hp
end

section
variable {K:Type} [DecidableEq K]
theorem Xk(m:List (K × Value))(k:K)(v:Value):(PE m k v).length=if (Dt m k).isSome then m.length else m.length+1:=by
 unfold PE Dt;cases fnd k m 0 with
 |none=>simp
 |some r=>simp
end

def Fr(gs cs:List Int):Bool:=(List.range gs.length).all λi=>(List.range i).all λj=>decide (gs.getD i 0=gs.getD j 0->cs.getD i 0=cs.getD j 0)
theorem YY{gs cs:List Int}{i j:Nat}(hi:i<gs.length)(hj:j<i)(h1:gs.getD i 0=gs.getD j 0)(h2:cs.getD i 0≠cs.getD j 0):Fr gs cs=false:=by
 unfold Fr;refine Hz hi (Hz hj ?_);rw [decide_eq_false_iff_not];exact λh=>h2 (h h1)
theorem Wb(gs cs:List Int):Fr gs cs=true↔∀ i j,i<gs.length->j<i->gs.getD i 0=gs.getD j 0->cs.getD i 0=cs.getD j 0:=by
 unfold Fr;simp only [List.all_eq_true,List.mem_range,decide_eq_true_eq];constructor
 ·intro h i j hi hj;exact h i hi j hj
 ·intro h i hi j hj;exact h i j hi hj

theorem FrA(w:World):(zeroValue 3).run prog w=.ok (.I 0) w:=by kernel_rfl

theorem GQ(h:qP:=by injection hb with hb;omega):qP:=h
theorem KI(gs cs:List Int)(A B:OA)(ca cb:Nat)(w:World)(S T:NP)(hA:Ints w S A gs)(hB:Ints w T B cs)(hl:cs.length=gs.length) :
  Cl 178 #[.slice A gs.length ca,.slice B cs.length cb] w (Ae w (Fr gs cs)):=by
 have hgl:=hA.2;obtain ⟨HA,HB,HL⟩:=Hd3 hA hB hl;clear hA hB hl;have hmm:=@run_makeMap prog
 go_enter func178,ntmps178
 go_wp2;clear hmm
 go_loopw [13] (λi wr=>∃ (k:Nat) (m:List (Int × Value)),k<=gs.length/\i=.I k/\Ext w wr/\MapIs wr w.heap.size (λn:Int=>Value.int .i64 n) m /\
   (∀ j,j<k->Dt m (gs.getD j 0)=some (.I (cs.getD j 0)))/\(∀ g v,Dt m g=some v->∃ j,j<k/\gs.getD j 0=g)/\(∀ i j,i<k->j<i->gs.getD i 0=gs.getD j 0->cs.getD i 0=cs.getD j 0)) (λi _=>gs.length-(intOf i).toNat)
 case atStart=>exact ⟨0,[],AN,rfl,(Ext.refl w).alloc _,IHA w _,AK,by intro g v h;simp [Dt,fnd] at h,AK⟩
 case round =>
  obtain ⟨k,m,hk,rfl,hext,hmap,h1,h2,h3⟩:=hrel;obtain ⟨HE,HM,H1,H2,H3⟩:=Hd5 hext hmap h1 h2 h3;clear hmap h1 h2 h3;by_cases hlt:k<gs.length
  ·have hlt2:k<cs.length:=(by rw [HL.o];exact hlt);obtain ⟨b1,o1,rfl,z1,c1⟩:=(HA.o.keep (hext.kept S)).at_ hlt;obtain ⟨b2,o2,rfl,z2,c2⟩:=(HB.o.keep (hext.kept T)).at_ hlt2;have Z:=HM.o.get2 underlying206 (FkA underlying3) (.I 0) FrA gs[k];have G1:=Hd (BM gs k 0 hlt);have G2:=Hd (BM cs k 0 hlt2);obtain ⟨J,hup,b0,hg'⟩:=HM.o.put underlying206 (FkA underlying3) gs[k] (.I cs[k]);have HM':=Hd b0;have HG':=Hd hg';have hh2:(cs.length:Int)=(gs.length:Int):=(by rw [HL.o]);have hlt3:(k:Int)<(cs.length:Int):=AA;clear b0 hg' hext hh2;have a8:(∀ v,Dt m gs[k]=some v->v=.I cs[k])->∃ (k':Nat) (Y:List (Int × Value)),k'<=gs.length/\(k':Int)=(k:Int)+1/\Ext w J/\MapIs J w.heap.size (λn:Int=>Value.int .i64 n) Y /\
     (∀ j,j<k'->Dt Y (gs.getD j 0)=some (.I (cs.getD j 0)))/\(∀ g v,Dt Y g=some v->∃ j,j<k'/\gs.getD j 0=g)/\(∀ i j,i<k'->j<i->gs.getD i 0=gs.getD j 0->cs.getD i 0=cs.getD j 0):=by
    intro hv;refine ⟨k+1,_,AA,AA,HE.o.grown HG'.out (λb hb=>GQ),HM'.out,λj hj => ?_,λg v hg => ?_,λi j hi hj he => ?_⟩
    ·rw [Jf];by_cases hjk:gs[k]=gs.getD j 0
     ·rw [if_pos hjk];by_cases O:j=k
      ·subst O;rw [G2.o]
      ·have:=H1.o j AA;rw [<-hjk] at this;rw [hv _ this] at this;have h5:=H1.o j AA;rw [<-hjk,this] at h5;exact h5
     ·rw [if_neg hjk];by_cases O:j=k
      ·subst O;exact absurd G1.o.symm hjk
      ·exact H1.o j AA
    ·rw [Jf] at hg;by_cases hgk:gs[k]=g
     ·exact ⟨k,AA,by rw [G1.o];exact hgk⟩
     ·rw [if_neg hgk] at hg;obtain ⟨j,hj,O⟩:=H2.o g v hg;exact ⟨j,AA,O⟩
    ·by_cases hik:i=k
     ·subst hik;have h5:=H1.o j hj;rw [<-he,G1.o] at h5;have h6:=hv _ h5;injection h6 with _ h6;rw [G2.o];exact h6.symm
     ·exact H3.o i j AA hj he
   have a9:=Hd a8;clear a8;cases hmg:Dt m gs[k] with
   |none =>
    have hlk2:(Instr.lookup 206 (.map (some w.heap.size)) (.I gs[k]) true).run prog wr=.ok (.tuple #[.I 0,.bool false]) wr:=(by rw [Z,hmg];rfl);have U:=Hd hmg;clear Z hmg;go_wp2;go_roundw
    case rel =>
     obtain ⟨k',Y,e1,e2,e3⟩:=a9.o (λv hv=>by rw [U.o] at hv;cases hv);exact ⟨k',Y,e1,by rw [e2],e3⟩
    case measure=>simp [intOf];omega
   |some v =>
    have hvv:∃ x:Int,v=.I x:=by
     obtain ⟨j,hj,O⟩:=H2.o _ _ hmg;have:=H1.o j hj;rw [O,hmg] at this;injection this with this;exact ⟨_,this⟩
    obtain ⟨x,rfl⟩:=hvv;have hlk2:(Instr.lookup 206 (.map (some w.heap.size)) (.I gs[k]) true).run prog wr=.ok (.tuple #[.I x,.bool true]) wr:=(by rw [Z,hmg];rfl);have U:=Hd hmg;clear Z hmg;by_cases hx:x=cs[k]
    ·have hx':(x != cs[k])=false:=(by simp [hx]);have HXX:=Hd hx;clear hx;go_wp2;go_roundw
     case rel =>
      obtain ⟨k',Y,e1,e2,e3⟩:=a9.o (λv hv=>by rw [U.o] at hv;injection hv with hv;rw [<-hv,HXX.o]);exact ⟨k',Y,e1,by rw [e2],e3⟩
     case measure=>simp [intOf];omega
    ·have hx':(x != cs[k])=true:=(by rw [bne_iff_ne];exact hx);have HF:=Hd (show Fr gs cs=false by
      obtain ⟨j,hj,O⟩:=H2.o _ _ U.o;have h5:=H1.o j hj;rw [O,U.o] at h5;injection h5 with h5;injection h5 with _ h5;exact YY hlt hj (by rw [G1.o,O]) (by rw [G2.o,<-h5];exact λe=>hx e.symm))
     clear hx;exact MD
  ·have HF:=Hd (show Fr gs cs=true by rw [Wb];exact λi j hi hj he=>H3.o i j AA hj he);exact FC

def RIss(w:World)(S:NP)(A:OA)(l:List (List Int)):Prop :=
 l.length<=4294967296/\∃ hs:List Value,Rd w S A hs/\hs.length=l.length/\∀ (i:Nat) (r:List Int),l[i]?=some r->∃ (B:OA) (e:Nat),hs[i]?=some (.slice B r.length e)/\r.length<=e/\Ints w S B r
theorem UJ(h:qP:=by
 obtain ⟨h0,hs,h1,h2,h3⟩:=h;refine ⟨h0,hs,h1.keep k,h2,λi r hr => ?_⟩;obtain ⟨B,e,g1,g2,g3⟩:=h3 i r hr;exact ⟨B,e,g1,g2,g3.keep k⟩):qP:=h
theorem RIss.keep{w J:World}{S:NP}{A:OA}{l:List (List Int)}(h:RIss w S A l)(k:Kept S w J):RIss J S A l:=by
 exact UJ
theorem VD(h:qP:=by
 obtain ⟨_,hs,h1,h2,h3⟩:=h;obtain ⟨B,e,g1,g2,g3⟩:=h3 k l[k] (List.getElem?_eq_getElem hk);obtain ⟨b,o,hA,hb,hc⟩:=h1.at_ g1;exact ⟨b,o,B,e,hA,hb,hc,g2,g3⟩):qP:=h
theorem RIss.at_{w:World}{S:NP}{A:OA}{l:List (List Int)}(h:RIss w S A l){k:Nat}(hk:k<l.length) :
  ∃ b o B e,A=some ⟨b,o,none⟩/\b<w.heap.size/\w.cell? ⟨b,o+k,none⟩=some (.slice B l[k].length e)/\l[k].length<=e/\Ints w S B l[k]:=by
 exact VD
structure GroupsOf(n:Nat)(ls:List (List Int))(gs:List Int):Prop where
 len:gs.length=n
 same:∀ i j,i<n->j<n->(gs.getD i 0=gs.getD j 0↔∀ l∈ls,l.getD i 0=l.getD j 0)
def HUA(w:World)(n:Nat)(ls:List (List Int))(e:Ending)(J:World):Prop:=∃ gs,GroupsOf n ls gs/\FjA w gs e J
theorem Ro(h:qP:=by
 rw [hz];apply Array.ext
 ·simp [madeCells]
 ·intro i h5 h6;simp [madeCells,Nat.mod_one]):qP:=h
theorem Qe(z:Value)(n:Nat)(hz:z.cells=#[z]):madeCells z.cells n=Array.replicate n z:=by
 exact Ro
theorem EhA(n:Nat)(hn:n<=4294967296):∀ w:World,(Instr.makeSlice 22 (.I (n:Int)) (.I (n:Int))).run prog w=.ok (.slice (some ⟨w.heap.size,0,none⟩) n n) (w.alloc (.cells (Array.replicate n (.I 0)) 3)):=by
 intro w;obtain ⟨i0,h1,h2,h3,h4⟩:=info_parts EXA;have hr:=run_make (P:=prog) w 22 3 i0 (.I 0) underlying22 h1 h2 .i64 .i64 n n AA AA (by rw [h4];omega) AA;rw [h3,Nat.mul_one,Int.toNat_natCast,Qe _ _ rfl] at hr;exact hr
structure GRel(n r:Nat)(gs cls cur:List Int)(m:List ((Int × Int) × Value)):Prop where
 len:cur.length=n
 done:∀ j,j<r->Dt m (gs.getD j 0,cls.getD j 0)=some (.I (cur.getD j 0))
 rest:∀ j,r<=j->j<n->cur.getD j 0=gs.getD j 0
 inj:∀ p q v,Dt m p=some v->Dt m q=some v->p=q
 range:∀ p v,Dt m p=some v->∃ i:Nat,i<m.length/\v=.I (i:Int)

theorem VQ{l:List Int}{r j:Nat}{g:Int} : (l.set r g).getD j 0=if r=j/\j<l.length then g else l.getD j 0:=by
 simp only [List.getD_eq_getElem?_getD,List.getElem?_set];by_cases h:r=j
 ·subst h;by_cases h2:r<l.length
  ·simp [h2]
  ·simp [h2]
 ·simp [h]
theorem Ue(h:qP:=by
 rw [VQ,if_neg (λe=>by omega)];exact h.rest j (by omega) hn):qP:=h
theorem GRel.new{n r:Nat}{gs cls cur:List Int}{m:List ((Int × Int) × Value)}(h:GRel n r gs cls cur m)(hr:r<n)(hm:Dt m (gs.getD r 0,cls.getD r 0)=none):GRel n (r+1) gs cls (cur.set r (m.length:Int)) (PE m (gs.getD r 0,cls.getD r 0) (.I (m.length:Int))):=by
 have hl:=h.len;refine ⟨DX,λj hj => ?_,λj hj hn => ?_,λp q v hp hq => ?_,λp v hp => ?_⟩
 ·rw [Jf,VQ];by_cases hjr:j=r
  ·subst hjr;rw [if_pos rfl,if_pos ⟨rfl,AA⟩]
  ·have hd:=h.done j AA;rw [if_neg (λe=>by rw [<-e,hm] at hd;cases hd),if_neg (λe=>hjr e.1.symm)];exact hd
 ·exact Ue
 ·rw [Jf] at hp hq;by_cases h1:(gs.getD r 0,cls.getD r 0)=p
  ·rw [if_pos h1] at hp;by_cases h2:(gs.getD r 0,cls.getD r 0)=q
   ·rw [<-h1,h2]
   ·rw [if_neg h2,<-hp] at hq;obtain ⟨i,hi,he⟩:=h.range _ _ hq;injection he with _ he;omega
  ·rw [if_neg h1] at hp;by_cases h2:(gs.getD r 0,cls.getD r 0)=q
   ·rw [if_pos h2] at hq;rw [<-hq] at hp;obtain ⟨i,hi,he⟩:=h.range _ _ hp;injection he with _ he;omega
   ·rw [if_neg h2] at hq;exact h.inj _ _ _ hp hq
 ·rw [Jf] at hp;rw [Xk,hm];by_cases h1:(gs.getD r 0,cls.getD r 0)=p
  ·rw [if_pos h1] at hp;injection hp with hp;exact ⟨m.length,AC,hp.symm⟩
  ·rw [if_neg h1] at hp;obtain ⟨i,hi,he⟩:=h.range _ _ hp;exact ⟨i,AI,he⟩
theorem GRel.old{n r i:Nat}{gs cls cur:List Int}{m:List ((Int × Int) × Value)}(h:GRel n r gs cls cur m)(hr:r<n)(hm:Dt m (gs.getD r 0,cls.getD r 0)=some (.I (i:Int))):GRel n (r+1) gs cls (cur.set r (i:Int)) m:=by
 have hl:=h.len;refine ⟨DX,λj hj => ?_,λj hj hn => ?_,h.inj,h.range⟩
 ·rw [VQ];by_cases hjr:j=r
  ·subst hjr;rw [if_pos ⟨rfl,AA⟩];exact hm
  ·rw [if_neg (λe=>hjr e.1.symm)];exact h.done j AA
 ·exact Ue
theorem GRel.fin{n k:Nat}{ls:List (List Int)}{gs cur:List Int}{m:List ((Int × Int) × Value)}(hk:k<ls.length)(h:GRel n n gs ls[k] cur m)(hg:GroupsOf n (ls.take k) gs):GroupsOf n (ls.take (k+1)) cur:=by
 refine ⟨h.len,λi j hi hj => ?_⟩;have d1:=h.done i hi;have d2:=h.done j hj;have e:cur.getD i 0=cur.getD j 0↔(gs.getD i 0=gs.getD j 0/\ls[k].getD i 0=ls[k].getD j 0):=by
  constructor
  ·intro he;rw [he] at d1;have:=h.inj _ _ _ d1 d2;injection this with h1 h2;exact ⟨h1,h2⟩
  ·rintro ⟨h1,h2⟩;rw [h1,h2,d2] at d1;injection d1 with d1;injection d1 with _ d1;exact d1.symm
 rw [e,hg.same i j hi hj,List.take_succ_eq_append_getElem hk];constructor
 ·rintro ⟨h1,h2⟩ l hl
  rcases List.mem_append.1 hl with hl|hl
  ·exact h1 l hl
  ·simp at hl;subst hl;exact h2
 ·intro h1;exact ⟨λl hl=>h1 l (List.mem_append_left _ hl),h1 _ (List.mem_append_right _ (List.mem_singleton.2 rfl))⟩

theorem Si(h:qP:=by
 have:r<cur.length:=(by rw [HCUR.o];exact hlt2);simp [this]):qP:=h
theorem Gp(h:qP:=by injection e with e;omega):qP:=h
theorem FS(h:qP:=by unfold BO;omega):qP:=h
theorem NI(n:Nat)(ls:List (List Int))(A:OA)(ca:Nat)(w:World)(S:NP)(hA:RIss w S A ls)(hl:∀ l∈ls,l.length=n)(hn:n<=4294967296) :
  Cl 179 #[.I (n:Int),.slice A ls.length ca] w (HUA w n ls):=by
 have hal:=hA.1;have HA:=Hd hA;have HL:=Hd hl;clear hA hl;have hmk:=EhA n hn;have hmm:=@run_makeMap prog
 go_enter func179,ntmps179
 go_wp2;clear hmk;have hst:=Blk.new w 3 (Array.replicate n (.I 0));have hst2:((List.replicate n (0:Int)).map (Value.int .i64)).toArray=Array.replicate n (.I 0):=AC;rw [<-hst2] at hst;have HST:=Hd hst;rw [hst2] at HST;clear hst hst2
 go_loopw [17] (λi wr=>∃ (k:Nat) (gs:List Int),k<=ls.length/\i=.I k/\Ext w wr/\Blk wr w.heap.size 3 (gs.map (Value.int .i64)).toArray/\GroupsOf n (ls.take k) gs) (λi _=>ls.length-(intOf i).toNat)
 case atStart=>exact ⟨0,List.replicate n 0,AN,rfl,(Ext.refl w).alloc _,by have h9:=HST.o;simpa using h9,AC,by intro i j hi hj;simp [hi,hj]⟩
 case round =>
  clear HST;obtain ⟨k,gs,hk,rfl,hext,hblk,hgr⟩:=hrel;obtain ⟨HE,HBK,HGR⟩:=Hd3 hext hblk hgr;have hgl:=hgr.len;have hwz:=hblk.lt;clear hblk hgr;by_cases hlt:k<ls.length
  ·obtain ⟨b1,o1,B2,c2,rfl,z0,p0',hcp,hint⟩:=HA.o.at_ hlt;have p0:=hext.cell p0';have z1:b1<wr.heap.size:=AA;have hcl:ls[k].length=n:=HL.o _ (List.getElem_mem hlt);obtain ⟨HINT,b4,HCL⟩:=Hd3 hint hgl hcl;clear hint hext hgl hcl;go_wp2;obtain ⟨Z,rfl⟩:∃ Z:World,Z=wr:=⟨_,rfl⟩;have HMP:=Hd (IHA Z (λp:Int × Int=>Value.agg #[.I p.1,.I p.2]));clear hmm
   go_loopw [24] (λi wi=>∃ (r:Nat) (cur:List Int) (m:List ((Int × Int) × Value)),r<=n/\i=.I r/\Ext w wi/\Z.heap.size<wi.heap.size/\Blk wi w.heap.size 3 (cur.map (Value.int .i64)).toArray/\MapIs wi Z.heap.size (λp:Int × Int=>Value.agg #[.I p.1,.I p.2]) m/\m.length<=r/\GRel n r gs ls[k] cur m) (λi _=>n-(intOf i).toNat)
   case atStart=>exact ⟨0,gs,[],AN,rfl,HE.o.alloc _,AC,HBK.o.keep (Kept.alloc _ _ _),HMP.o,Al,b4.o,AK,λ_ _ _=>rfl,by intro p q v h;simp [Dt,fnd] at h,by intro p v h;simp [Dt,fnd] at h⟩
   case round =>
    clear HMP;obtain ⟨r,cur,m,hr,rfl,b0,hszi,Y,hmpi,hml,hrl⟩:=hrel;obtain ⟨HEI,HBI,HMI,b3⟩:=Hd4 b0 Y hmpi hrl;have hcurl:=hrl.len;have HCUR:=Hd hcurl;clear hcurl hrl;by_cases hlt2:r<n
    ·have hrc:r<ls[k].length:=(by rw [HCL.o];exact hlt2);obtain ⟨b2,o2,rfl,z2,d2⟩:=(HINT.o.keep (b0.kept S)).at_ hrc;have hcell:wr.cell? ⟨w.heap.size,r,none⟩=some (.I (gs.getD r 0)):=by
      rw [<-b3.o.rest r (Al) hlt2];refine Y.cell ?_;exact Si
     have hz5:=Y.lt;obtain ⟨a,ha⟩:=eqx (gs.getD r 0);obtain ⟨b,hb⟩:=eqx (ls[k][r]);have hb2:b=ls[k].getD r 0:=(by rw [hb];exact (BM ls[k] r 0 hrc).symm);rw [<-ha] at hcell;rw [<-hb] at d2;have HAB:=Hd (And.intro ha hb2);have hne:w.heap.size≠wr.heap.size:=AA;have hr1:(r:Int)<(n:Int):=AA;have hr2:(r:Int)<(ls[k].length:Int):=AA;have hr3:(0:Int)<=(r:Int):=AA;clear b0 Y hmpi ha hb hb2;go_wp2
     go_region
     have hkw:∀ X:Nat->Prop,Kept X wr (wr.alloc (.cells #[.I a,.I b] 209)).drew:=λX=>(Kept.alloc _ _ _).trans (Kept.drew _ _);obtain ⟨a9,a8,HBB,HEI2⟩:=Hd4 (HBI.o.keep (hkw _)) (HMI.o.keep (hkw _)) ((Blk.new wr 209 #[.I a,.I b]).keep (Kept.drew _ _)) ((HEI.o.alloc (.cells #[.I a,.I b] 209)).drew);have hsW:(wr.alloc (.cells #[.I a,.I b] 209)).drew.heap.size=wr.heap.size+1:=AC;clear hkw hcell d2;generalize (wr.alloc (.cells #[.I a,.I b] 209)).drew=W at *;have hszW:Z.heap.size<W.heap.size:=AA;have hzW:wr.heap.size<W.heap.size:=AA;clear hsW;have hlk:(Instr.lookup 208 (.map (some Z.heap.size)) (.agg #[.I a,.I b]) true).run prog W=.ok (.tuple #[(Dt m (a,b)).getD (.I 0),.bool (Dt m (a,b)).isSome]) W:=MapIs.get2 a8.o underlying208 (DwA underlying209 underlying3 (λw=>AD)) (.I 0) FrA (a,b);obtain ⟨x0,x1⟩:=HBB.o.qs2;have hgc:W.cell? ⟨w.heap.size,r,none⟩=some (.I (cur.getD r 0)):=by
      refine a9.o.cell ?_;exact Si
     have hgf:=a9.o.frozen r;have hgz:=a9.o.lt;have hfin:∀ (W':World) (m':List ((Int × Int) × Value)) (g:Int),W.grownBy W' (some Z.heap.size)->MapIs W' Z.heap.size (λp:Int × Int=>Value.agg #[.I p.1,.I p.2]) m'->m'.length<=r+1->GRel n (r+1) gs ls[k] (cur.set r g) m' ->
       ∃ (O:List Int) (U:List ((Int × Int) × Value)),Ext w (W'.setCell ⟨w.heap.size,r,none⟩ (.I g))/\Z.heap.size<(W'.setCell ⟨w.heap.size,r,none⟩ (.I g)).heap.size/\Blk (W'.setCell ⟨w.heap.size,r,none⟩ (.I g)) w.heap.size 3 (O.map (Value.int .i64)).toArray/\MapIs (W'.setCell ⟨w.heap.size,r,none⟩ (.I g)) Z.heap.size (λp:Int × Int=>Value.agg #[.I p.1,.I p.2]) U/\U.length<=r+1/\GRel n (r+1) gs ls[k] O U:=by
      intro W' m' g hg hm hl2 hrl2;have hsz':=hg.size;refine ⟨cur.set r g,m',(HEI2.o.grown hg (λb hb=>GQ)).set2 (Al) _,by simp [World.setCell];omega,?_,hm.keep (Kept.set2 (Kept.refl _ _) (by show ¬(_=_);omega)),hl2,hrl2⟩;have:=(a9.o.keep (J:=W') (Kept.of_grown hg (by rintro b rfl _ e;injection e with e;omega))).set r (.I g);have he:(cur.map (Value.int .i64)).toArray.setIfInBounds r (.I g)=((cur.set r g).map (Value.int .i64)).toArray:=(by simp [List.map_set]);rw [he] at this;exact this
     have HFIN:=Hd hfin;clear hfin;cases hmg:Dt m (a,b) with
     |none =>
      rw [hmg] at hlk;obtain ⟨w5,hup,hmap5,hg5⟩:=a8.o.put underlying208 (DwA underlying209 underlying3 (λw=>AD)) (a,b) (.I (m.length:Int));have hlen5:=MapIs.len a8.o (P:=prog) underlying208 3;obtain ⟨HMG,HM5,HG5⟩:=Hd3 hmg hmap5 hg5;have hc5:w5.cell? ⟨w.heap.size,r,none⟩=some (.I (cur.getD r 0)):=(by rw [World.cell?_of_block (hg5.block w.heap.size hgz (λe=>Gp))];exact hgc);have hf5:w5.frozen? ⟨w.heap.size,r,none⟩=false:=(by rw [World.frozen?_of_block (hg5.block w.heap.size hgz (λe=>Gp))];exact hgf);simp only [Option.getD_none,Option.isSome_none] at hlk;simp only at hup;clear hmg hmap5 hg5 hgc hgf;go_wp2;go_roundw
      case rel =>
       have hk5:Dt m (gs.getD r 0,ls[k].getD r 0)=none:=(by rw [<-HAB.o.1,<-HAB.o.2];exact HMG.o);have hm5:=HM5.o;rw [HAB.o.1,HAB.o.2] at hm5;obtain ⟨O,U,e1⟩:=HFIN.o w5 _ (m.length:Int) HG5.o hm5 (by rw [Xk,hk5];simp;omega) (b3.o.new hlt2 hk5);exact ⟨r+1,O,U,AA,AE,e1⟩
      case measure=>simp [intOf];omega
     |some v =>
      obtain ⟨i,hi,rfl⟩:=b3.o.range _ _ hmg;rw [hmg] at hlk;have HMG:=Hd hmg;simp only [Option.getD_some,Option.isSome_some] at hlk;clear hmg;go_wp2;go_roundw
      case rel =>
       have hk5:Dt m (gs.getD r 0,ls[k].getD r 0)=some (.I (i:Int)):=(by rw [<-HAB.o.1,<-HAB.o.2];exact HMG.o);obtain ⟨O,U,e1⟩:=HFIN.o W m (i:Int) (World.grownBy.refl W _) a8.o AA (b3.o.old hlt2 hk5);exact ⟨r+1,O,U,AA,AE,e1⟩
      case measure=>simp [intOf];omega
    ·obtain rfl:r=n:=AA;clear b0 Y hmpi;go_wp2;go_roundw
     case rel=>exact ⟨k+1,cur,AA,AE,HEI.o,HBI.o,GRel.fin hlt b3.o HGR.o⟩
     case measure=>simp [intOf];omega
  ·obtain rfl:k=ls.length:=AA;have hgg:=HGR.o;rw [List.take_of_length_le (Al)] at hgg;have HGG:=Hd hgg;have b4:=Hd hgl;clear hgg hgl hext;go_wp2;go_ret;refine ⟨gs,HGG.o,some ⟨w.heap.size,0,none⟩,n,by rw [b4.o];rfl,by rw [b4.o];exact Al,⟨?_,by rw [b4.o];exact hn⟩,HE.o⟩;have:=HBK.o.rd.mono (T:=BO w) (λi _ hi=>FS)
   simpa using this
