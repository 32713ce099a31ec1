/- Lemmas. No conditions. -/
import Derived.Test.YtidacnalcdhckaaGreatDoorYq1
import Derived.MapKept
import Derived.Maps.Keyed
import Derived.BigRegion
set_option maxRecDepth 100000
set_option maxHeartbeats 1000000
namespace Go.Proofs.YtidacnalcdhckaaGreatDoor
open Go Go.RowKit Tryz
variable {qP:Prop}

def BK(w:World)(n:Int)(e:Ending)(w':World):Prop:=e=.returned (.I n)∧w=w'
def CD(w:World)(n:Int)(e:Ending)(w':World):Prop:=e=.returned (.I n)∧Ext w w'
def BM(l:List BA)(v:BA):Int:=match l.findIdx? (fun s=>decide (s=v)) with|some i=>(i:Int)|none=>-1
theorem J5{l:List BA}{v:BA}{k:Nat}(hk:k<l.length)(h:∀ j (hj:j<l.length),j<k→l[j]≠v)(hv:l[k]=v):BM l v=k:=by
 unfold BM;have:l.findIdx? (fun s=>decide (s=v))=some k:=by
  rw [List.findIdx?_eq_some_iff_getElem];exact ⟨hk,by simp [hv],fun j hj=>by simp [h j Y4 hj]⟩
 rw [this]
theorem IQ{l:List BA}{v:BA}(h:∀ j (hj:j<l.length),l[j]≠v):BM l v=-1:=by
 unfold BM;have:l.findIdx? (fun s=>decide (s=v))=none:=by
  rw [List.findIdx?_eq_none_iff];intro x hx;obtain ⟨i,hi,rfl⟩:=List.mem_iff_getElem.1 hx;simp [h i hi]
 rw [this]
theorem Dp(l:List BA)(v:BA):(0≤BM l v↔v∈l):=by
 unfold BM;cases h:l.findIdx? (fun s=>decide (s=v)) with
 |none =>
  rw [List.findIdx?_eq_none_iff] at h;simp;intro hv;have:=h v hv;simp at this
 |some i =>
  rw [List.findIdx?_eq_some_iff_getElem] at h;obtain ⟨hi,h1,_⟩:=h;simp at h1;simp;rw [←h1];exact List.getElem_mem hi
theorem GD{l:List BA}{v:BA}(h:0≤BM l v):∃ k:Nat,BM l v=k∧∃ hk:k<l.length,l[k]=v∧∀ j (hj:j<l.length),j<k→l[j]≠v:=by
 unfold BM at h⊢;cases hf:l.findIdx? (fun s=>decide (s=v)) with
 |none=>rw [hf] at h;simp at h
 |some i =>
  rw [List.findIdx?_eq_some_iff_getElem] at hf;obtain ⟨hi,h1,h2⟩:=hf;refine ⟨i,rfl,hi,by simpa using h1,fun j hj hji => ?_⟩;have:=h2 j hji
  simpa using this
def AZ(l:List BA)(v:BA):Bool:=decide (0≤BM l v)
theorem AV(l:List BA)(v:BA):AZ l v=true↔v∈l:=by simp [AZ,Dp]
theorem LD(s:BA):s.toList=[]↔s=⟨#[]⟩:=by
 rw [ByteArray.toList_eq];constructor
 ·intro h;cases s;simp at h;rw [h]
 ·rintro rfl;rfl

theorem Z55(h:qP:=by
 have HV:=Hd hv;clear hv;go_wp2;go_ret;exact ⟨by rw [J5 hlt (fun j hj h=>HA.o j hj h) HV.o];rfl,rfl⟩):qP:=h
theorem Z57(h:qP:=by
 refine ⟨k+1,Y4,Y5,fun j h hj => ?_⟩;by_cases hjk:j=k
 ·subst hjk;exact HV.o
 ·exact HA.o j h Y4):qP:=h
theorem Z58(h:qP:=by
 clear hv;go_wp2
 go_round
 case rel =>
  exact Z57
 case measure=>simp [intOf];omega):qP:=h
theorem Z56(h:qP:=by
 have HV:=Hd hv;exact Z58):qP:=h
theorem Z59(h:qP:=by
 go_wp2;go_ret;exact ⟨by rw [IQ (fun j hj=>HA.o j hj Y4)];rfl,rfl⟩):qP:=h
theorem Y22(h:qP:=by rw [BH];simp [hv]):qP:=h
theorem Cd(A:OA)(c:Nat)(l:List BA)(v:BA)(w:World)(S:NP)(h:Strs w S A l) :
  Cl 160 #[.slice A l.length c,.string v] w (BK w (BM l v)):=by
 have hn:=h.2.1
 go_enter func160,ntmps160
 go_wp2
 go_loop [8] (fun i=>∃ k:Nat,k≤l.length∧i=.I k∧∀ j (h:j<l.length),j<k→l[j]≠v) (fun i=>l.length-(intOf i).toNat)
 case atStart=>exact ⟨0,AE,rfl,Y8⟩
 case round =>
  obtain ⟨k,hk,rfl,hall⟩:=hrel;have HA:=Hd hall;clear hall;by_cases hlt:k<l.length
  ·obtain ⟨b1,o1,rfl,z1,c1⟩:=h.at_ hlt;by_cases hv:l[k]=v
   ·have ht:(v.toList==l[k].toList)=true:=Y22;exact Z55
   ·have ht:(v.toList==l[k].toList)=false:=(by rw [BH];simp [Ne.symm hv]);exact Z56
  ·exact Z59

theorem BU(A:OA)(c:Nat)(l:List BA)(v:BA)(w:World)(S:NP)(h:Strs w S A l) :
  Cl 85 #[.slice A l.length c,.string v] w (SameB w (AZ l v)):=by
 have H:=Hd h;clear h
 go_enter func85,ntmps85
 go_wp2_with (go_at_call 160;refine (Cd _ _ _ _ _ S H.o).mono ?_;rintro e w' ⟨rfl,rfl⟩)
 go_ret;exact ⟨rfl,rfl⟩

def Dy(n:Int):Bool:=decide (-1000000000000000≤n∧n≤1000000000000000)
def Cm(n s:Int):Bool:=decide (0≤s∧s≤6)&&Dy n&&decide (s=0∨n.tmod 10≠0)
theorem Z60(h:qP:=by
 have H:=Hd h;clear h
 go_enter func186,ntmps186
 go_wp2;go_ret;exact ⟨by rw [H.o];rfl,rfl⟩):qP:=h
theorem Jz(n:Int)(w:World):Cl 186 #[.I n] w (SameB w (Dy n)):=by
 by_cases h1:-1000000000000000≤n
 ·by_cases h2:n≤1000000000000000
  ·have h:Dy n=true:=(by simp [Dy,h1,h2]);exact Z60
  ·have h:Dy n=false:=(by simp [Dy,h1,h2]);exact Z60
 ·have h:Dy n=false:=(by simp [Dy,h1]);exact Z60

theorem Z61(h:qP:=by
 simp
 first|done|omega|(rw [Bool.eq_iff_iff];simp;omega)):qP:=h
theorem Dh(n s:Int)(w:World):Cl 126 #[.agg #[.I n,.I s]] w (AO w (Cm n s)):=by
 cases hu:Dy n
 all_goals
  have HU:=Hd hu;clear hu
  go_enter func126,ntmps126
  go_wp2_with (go_at_call 186;refine (Jz _ _).mono ?_;rintro e w' ⟨rfl,rfl⟩;rw [HU.o])
  all_goals
   go_ret;refine ⟨?_,(Ext.refl _).alloc _⟩;simp only [Cm,HU.o];exact Z61

def B6(x:Val):Bool:=decide (x.s=⟨#[]⟩∧x.dn=0∧x.ds=0∧x.n=0∧x.cols=[]∧x.rows=[])
theorem ET(x:Val)(A B:OA)(c e:Nat)(w:World):Cl 124 #[(Vq x A c B e)] w (AO w (B6 x)):=by
 go_enter func124,ntmps124
 go_wp2
 all_goals
  go_ret;refine ⟨?_,(Ext.refl _).alloc _⟩;simp_all [B6,←LD]
  try (rw [Bool.eq_iff_iff];simp [List.length_eq_zero_iff])

def Aj(x:Val):Bool :=
 if x.kind=0 then decide (0≤x.n∧x.n≤99)&&B6 { x with n:=0 }
 else if x.kind=1 then Bi x.s&&B6 { x with s:=⟨#[]⟩ }
 else if x.kind=2 then Cm x.dn x.ds&&B6 { x with dn:=0,ds:=0 }
 else if x.kind=3 then decide (0≤x.n∧x.n≤3652058)&&B6 { x with n:=0 }
 else if x.kind=4 then decide (x.n=0∨x.n=1)&&B6 { x with n:=0 }
 else false

theorem Z62(h:qP:=by
 go_enter func51,ntmps51
 go_wp2_with fail
 refine (ET { x with n:=0 } A B c e _).mono ?_;rintro e1 w1 ⟨rfl,hx1⟩;have HX:=Hd hx1;clear hx1;go_wp2;go_ret;exact ⟨by rw [HF.o];simp [h1,h2],Ext.trans (exbb w) HX.o⟩):qP:=h
theorem Z63(h:qP:=by
 go_enter func51,ntmps51
 go_wp2;go_ret;exact ⟨by rw [HF.o,decide_eq_false Y4,Bool.false_and];rfl,(exaa w).alloc _⟩):qP:=h
theorem Y23(h:qP:=by simp [Aj,hk]):qP:=h
theorem KU(x:Val)(A B:OA)(c e:Nat)(w:World)(hk:x.kind=0)(_hs:x.s.size≤4294967296):Cl 51 #[(Vq x A c B e)] w (AO w (Aj x)):=by
 have hf:Aj x=(decide (0≤x.n∧x.n≤99)&&B6 { x with n:=0 }):=Y23;have HF:=Hd hf;have k0:(x.kind==0)=true:=Y2;have k1:(x.kind==1)=false:=Y2;have k2:(x.kind==2)=false:=Y2;have k3:(x.kind==3)=false:=Y2;have k4:(x.kind==4)=false:=Y2;have k5:(x.kind==5)=false:=Y2;clear hf hk;by_cases h1:0≤x.n
 ·by_cases h2:x.n≤99
  ·exact Z62
  ·exact Z63
 ·exact Z63

theorem Y24(h:qP:=by rw [HF.o,HT.o];rfl):qP:=h
theorem Z64(h:qP:=by
 go_wp2;go_ret;exact ⟨Y24,Ext.trans (exbb w) HX.o⟩):qP:=h
theorem Ko(x:Val)(A B:OA)(c e:Nat)(w:World)(hk:x.kind=1)(hs:x.s.size≤4294967296):Cl 51 #[(Vq x A c B e)] w (AO w (Aj x)):=by
 have hf:Aj x=(Bi x.s&&B6 { x with s:=⟨#[]⟩ }):=Y23;have HF:=Hd hf;have k0:(x.kind==0)=false:=Y2;have k1:(x.kind==1)=true:=Y2;have k2:(x.kind==2)=false:=Y2;have k3:(x.kind==3)=false:=Y2;have k4:(x.kind==4)=false:=Y2;have k5:(x.kind==5)=false:=Y2;clear hf hk;cases ht:Bi x.s
 ·have HT:=Hd ht;clear ht
  go_enter func51,ntmps51
  go_wp2_with (go_at_call 125;refine (Hc _ hs _).mono ?_;rintro e w' ⟨rfl,rfl⟩;rw [HT.o])
  go_ret;exact ⟨Y24,(exaa w).alloc _⟩
 ·have HT:=Hd ht;clear ht
  go_enter func51,ntmps51
  go_wp2_with (go_at_call 125;refine (Hc _ hs _).mono ?_;rintro e w' ⟨rfl,rfl⟩;rw [HT.o])
  refine (ET { x with s:=⟨#[]⟩ } A B c e _).mono ?_;rintro e1 w1 ⟨rfl,hx1⟩;have HX:=Hd hx1;clear hx1;exact Z64

theorem Z65(h:qP:=by
 have HT:=Hd ht;clear ht hx1;go_wp2;go_ret;exact ⟨Y24,Ext.trans ((exbb w)) HX.o⟩):qP:=h
theorem Z66(h:qP:=by
 rintro e1 w2 ⟨rfl,hx2⟩;have HX2:=Hd hx2;clear hx2;go_wp2;go_ret;exact ⟨Y24,Ext.trans (exbb w) (Ext.trans HX.o HX2.o)⟩):qP:=h
theorem KI(x:Val)(A B:OA)(c e:Nat)(w:World)(hk:x.kind=2)(_hs:x.s.size≤4294967296):Cl 51 #[(Vq x A c B e)] w (AO w (Aj x)):=by
 have hf:Aj x=(Cm x.dn x.ds&&B6 { x with dn:=0,ds:=0 }):=Y23;have HF:=Hd hf;have k0:(x.kind==0)=false:=Y2;have k1:(x.kind==1)=false:=Y2;have k2:(x.kind==2)=true:=Y2;have k3:(x.kind==3)=false:=Y2;have k4:(x.kind==4)=false:=Y2;have k5:(x.kind==5)=false:=Y2;clear hf hk
 go_enter func51,ntmps51
 go_wp2_with fail
 refine (Dh x.dn x.ds _).mono ?_;rintro e1 w1 ⟨rfl,hx1⟩;obtain ⟨hc1,hf1⟩:=LS hx1;have hz1:=hx1.size;simp at hc1 hf1 hz1;have hz2:w.heap.size<w1.heap.size:=Y4;have hz3:w.heap.size+1<w1.heap.size:=Y4;have HX:=Hd hx1;cases ht:Cm x.dn x.ds
 ·exact Z65
 ·have HT:=Hd ht;clear ht hx1
  go_wp2_with fail
  refine (ET { x with dn:=0,ds:=0 } A B c e _).mono ?_;exact Z66

theorem KZ(x:Val)(A B:OA)(c e:Nat)(w:World)(hk:x.kind=3)(_hs:x.s.size≤4294967296):Cl 51 #[(Vq x A c B e)] w (AO w (Aj x)):=by
 have hf:Aj x=(decide (0≤x.n∧x.n≤3652058)&&B6 { x with n:=0 }):=Y23;have HF:=Hd hf;have k0:(x.kind==0)=false:=Y2;have k1:(x.kind==1)=false:=Y2;have k2:(x.kind==2)=false:=Y2;have k3:(x.kind==3)=true:=Y2;have k4:(x.kind==4)=false:=Y2;have k5:(x.kind==5)=false:=Y2;clear hf hk;by_cases h1:0≤x.n
 ·by_cases h2:x.n≤3652058
  ·exact Z62
  ·exact Z63
 ·exact Z63

theorem Z67(h:qP:=by
 go_enter func51,ntmps51
 go_wp2_with fail
 refine (ET { x with n:=0 } A B c e _).mono ?_;rintro e1 w1 ⟨rfl,hx1⟩;have HX:=Hd hx1;clear hx1;go_wp2;go_ret;exact ⟨by rw [HF.o];simp [H1.o],Ext.trans (exbb w) HX.o⟩):qP:=h
theorem Kd(x:Val)(A B:OA)(c e:Nat)(w:World)(hk:x.kind=4)(_hs:x.s.size≤4294967296):Cl 51 #[(Vq x A c B e)] w (AO w (Aj x)):=by
 have hf:Aj x=(decide (x.n=0∨x.n=1)&&B6 { x with n:=0 }):=Y23;have HF:=Hd hf;have k0:(x.kind==0)=false:=Y2;have k1:(x.kind==1)=false:=Y2;have k2:(x.kind==2)=false:=Y2;have k3:(x.kind==3)=false:=Y2;have k4:(x.kind==4)=true:=Y2;have k5:(x.kind==5)=false:=Y2;clear hf hk;by_cases h1:x.n=0
 ·have h3:(x.n==0)=true:=(by simp [h1]);have H1:=Hd h1;clear h1;exact Z67
 ·have h3:(x.n==0)=false:=(by simp [h1]);by_cases h2:x.n=1
  ·have h4:(x.n==1)=true:=Y21;have H1:=Hd h2;clear h1 h2;exact Z67
  ·have h4:(x.n==1)=false:=Y21
   go_enter func51,ntmps51
   go_wp2;go_ret;exact ⟨by rw [HF.o];simp [h1,h2],(exaa w).alloc _⟩

theorem Y25(h:qP:=by simp [h0]):qP:=h
theorem KF(x:Val)(A B:OA)(c e:Nat)(w:World)(h0:x.kind≠0)(h1:x.kind≠1)(h2:x.kind≠2)(h3:x.kind≠3)(h4:x.kind≠4)(h5:x.kind≠5):Cl 51 #[(Vq x A c B e)] w (AO w (Aj x)):=by
 have hf:Aj x=false:=(by simp [Aj,h0,h1,h2,h3,h4]);have HF:=Hd hf;have k0:(x.kind==0)=false:=Y25;have k1:(x.kind==1)=false:=(by simp [h1]);have k2:(x.kind==2)=false:=Y21;have k3:(x.kind==3)=false:=(by simp [h3]);have k4:(x.kind==4)=false:=(by simp [h4]);have k5:(x.kind==5)=false:=(by simp [h5]);clear hf h0 h1 h2 h3 h4 h5
 go_enter func51,ntmps51
 go_wp2;go_ret;exact ⟨Y19,(exaa w).alloc _⟩

theorem FC(x:Val)(A B:OA)(c e:Nat)(w:World)(h5:x.kind≠5)(hs:x.s.size≤4294967296):Cl 51 #[(Vq x A c B e)] w (AO w (Aj x)):=by
 by_cases h0:x.kind=0
 ·exact KU x A B c e w h0 hs
 by_cases h1:x.kind=1
 ·exact Ko x A B c e w h1 hs
 by_cases h2:x.kind=2
 ·exact KI x A B c e w h2 hs
 by_cases h3:x.kind=3
 ·exact KZ x A B c e w h3 hs
 by_cases h4:x.kind=4
 ·exact Kd x A B c e w h4 hs
 exact KF x A B c e w h0 h1 h2 h3 h4 h5

def Dq(cols:List BA)(i:Nat):Bool:=BC (cols.getD i ⟨#[]⟩)&&!AZ (cols.take i) (cols.getD i ⟨#[]⟩)
def CX(x:Val):Bool:=decide (x.kind≠5)&&Aj x
def DS(n:Nat)(r:List Val):Bool:=decide (r.length=n)&&r.all CX
def Ao(cols:List BA)(rows:List (List Val)):Bool :=
 decide (cols.length≤8∧rows.length≤100)&&(List.range cols.length).all (Dq cols)&&rows.all (DS cols.length)
def Ae(x:Val):Bool:=if x.kind=5 then Ao x.cols x.rows&&B6 { x with cols:=[],rows:=[] } else Aj x

theorem Strs.take{w:World}{S:NP}{A:OA}{l:List BA}(h:Strs w S A l)(k:Nat):Strs w S A (l.take k) :=
 ⟨by rw [List.map_take];exact h.1.take k,by rw [List.length_take];have:=h.2.1;omega,fun s hs=>h.2.2 s (List.mem_of_mem_take hs)⟩
theorem Au{α:Type}(l:List α)(i:Nat)(z:α)(h:i<l.length):l.getD i z=l[i]:=by simp [h]

theorem LU{n:Nat}{p:Nat→Bool}(h:∀ j,j<n→p j=true):(List.range n).all p=true:=by
 rw [List.all_eq_true];intro x hx;exact h x (List.mem_range.1 hx)
theorem E0{n:Nat}{p:Nat→Bool}{j:Nat}(hj:j<n)(h:p j=false):(List.range n).all p=false:=by
 rw [List.all_eq_false];exact ⟨j,List.mem_range.2 hj,by simp [h]⟩

theorem Z69(h:qP:=by
 go_ret;exact ⟨Y19,Ext.refl _⟩):qP:=h
theorem Z68(h:qP:=by
 go_enter func127,ntmps127
 go_wp2;exact Z69):qP:=h
theorem Z70(h:qP:=by
 unfold Ao;rw [Bg rows (DS cols.length) i hlt2 (by unfold DS;rw [Bg rows[i] CX j hlt3 (by simp [CX,hk5])];simp)];simp):qP:=h
theorem Z71(h:qP:=by
 unfold Ao;rw [Bg rows (DS cols.length) i hlt2 (by unfold DS;rw [Bg rows[i] CX j hlt3 (by simp [CX,hfl])];simp)];simp):qP:=h
theorem Z72(h:qP:=by
 by_cases hjk:m=j
 ·subst hjk;exact HFL.o
 ·exact HI.o m h Y4):qP:=h
theorem Z74(h:qP:=by
 refine ⟨i+1,Y4,Y5,HE.o.trans HEI.o,fun j h hj => ?_⟩;by_cases hjk:j=i
 ·subst hjk;exact HRO.o
 ·exact HR.o j h Y4):qP:=h
theorem Z73(h:qP:=by
 go_wp2;go_roundw
 case rel =>
  exact Z74
 case measure=>simp [intOf];omega):qP:=h
theorem Z75(h:qP:=by
 unfold DS;rw [BX rows[i] CX (fun m h=>HI.o m h Y4),HLN.o];simp):qP:=h
theorem Z77(h:qP:=by
 unfold Ao;rw [Bg rows (DS cols.length) i hlt2 (by unfold DS;rw [decide_eq_false hln];rfl)];simp):qP:=h
theorem Z79(h:qP:=by
 go_ret;exact ⟨Y19,HE.o⟩):qP:=h
theorem Z78(h:qP:=by
 go_wp2;exact Z79):qP:=h
theorem Z76(h:qP:=by
 have hn1:((rows[i].length:Int) != (cols.length:Int))=true:=Y9;have HF:=Hd (show Ao cols rows=false by
  exact Z77)
 clear hln;exact Z78):qP:=h
theorem Z80(h:qP:=by
 clear hext;exact Z78):qP:=h
theorem Y26(h:qP:=by rw [List.length_take];omega):qP:=h
theorem IY(q:Nat)(cols:List BA)(rows:List (List Val))(A B:OA)(c e:Nat)(w:World)(S T:NP)(hA:Strs w S A cols)(hB:Rows w T q B rows)(hcap:cols.length≤c) :
  Cl 127 #[.slice A cols.length c,.slice B rows.length e] w (AO w (Ao cols rows)):=by
 have hn:=hA.2.1;have hm:=hB.len;by_cases h1:cols.length≤8
 case neg =>
  have HF:=Hd (show Ao cols rows=false by unfold Ao;rw [decide_eq_false Y4];rfl);have h1':(8:Int)<(cols.length:Int):=Y4;exact Z68
 by_cases h2:rows.length≤100
 case neg =>
  have HF:=Hd (show Ao cols rows=false by unfold Ao;rw [decide_eq_false Y4];rfl);have h1':¬(8:Int)<(cols.length:Int):=Y4;have h2':(100:Int)<(rows.length:Int):=Y4;exact Z68
 have h1':¬(8:Int)<(cols.length:Int):=Y4;have h2':¬(100:Int)<(rows.length:Int):=Y4;have h3':(cols.length:Int)≤8:=Y4;have h4':(rows.length:Int)≤100:=Y4
 go_enter func127,ntmps127
 go_wp2
 go_loop [21] (fun i=>∃ k:Nat,k≤cols.length∧i=.I k∧∀ j,j<k→Dq cols j=true) (fun i=>cols.length-(intOf i).toNat)
 case atStart=>exact ⟨0,AE,rfl,Y8⟩
 case round =>
  obtain ⟨k,hk,rfl,hall⟩:=hrel;have HA:=Hd hall;clear hall;by_cases hlt:k<cols.length
  ·obtain ⟨b1,o1,rfl,z1,c1⟩:=hA.at_ hlt;have hsz:=hA.sz hlt;have HTK:=Hd (hA.take k);have hlk:(cols.take k).length=k:=Y26;cases hnm:BC cols[k]
   ·have HF:=Hd (show Ao cols rows=false by unfold Ao;rw [E0 hlt (by unfold Dq;rw [Au _ _ _ hlt,hnm];rfl)];simp);have HN:=Hd hnm;clear hnm
    go_wp2_with (go_at_call 187;refine (FO _ hsz _).mono ?_;rintro e1 w1 ⟨rfl,rfl⟩;rw [HN.o])
    exact Z69
   ·have HN:=Hd hnm;have HCON:=Hd (BU (some ⟨b1,o1,none⟩) c (cols.take k) cols[k] w S HTK.o);rw [hlk] at HCON;cases hmm:AZ (cols.take k) cols[k]
    ·have HM:=Hd hmm;have HC:=Hd (show Dq cols k=true by unfold Dq;rw [Au _ _ _ hlt,hnm,hmm];rfl);clear hnm hmm hlk
     go_wp2_with (first|(go_at_call 187;refine (FO _ hsz _).mono ?_;rintro e1 w1 ⟨rfl,rfl⟩;rw [HN.o])|(go_at_call 85;refine HCON.o.mono ?_;rintro e1 w1 ⟨rfl,rfl⟩;rw [HM.o]))
     go_round
     case rel =>
      refine ⟨k+1,Y4,Y5,fun j hj => ?_⟩;by_cases hjk:j=k
      ·subst hjk;exact HC.o
      ·exact HA.o j Y4
     case measure=>simp [intOf];omega
    ·have HM:=Hd hmm;have HF:=Hd (show Ao cols rows=false by unfold Ao;rw [E0 hlt (by unfold Dq;rw [Au _ _ _ hlt,hnm,hmm];rfl)];simp);clear hnm hmm hlk
     go_wp2_with (first|(go_at_call 187;refine (FO _ hsz _).mono ?_;rintro e1 w1 ⟨rfl,rfl⟩;rw [HN.o])|(go_at_call 85;refine HCON.o.mono ?_;rintro e1 w1 ⟨rfl,rfl⟩;rw [HM.o]))
     exact Z69
  ·have HCOL:=Hd (LU (n:=cols.length) (p:=Dq cols) (fun j hj=>HA.o j Y4));go_wp2
   go_loopw [39] (fun i wr=>∃ k:Nat,k≤rows.length∧i=.I k∧Ext w wr∧∀ j (h:j<rows.length),j<k→DS cols.length rows[j]=true) (fun i _=>rows.length-(intOf i).toNat)
   case atStart=>exact ⟨0,AE,rfl,Ext.refl _,Y8⟩
   case round =>
    rename_i k0 _ _ _ _;obtain ⟨i,hi,rfl,hext,hall⟩:=hrel;have HR:=Hd hall;have HE:=Hd hext;clear hall;by_cases hlt2:i<rows.length
    ·obtain ⟨b1,o1,A2,c2,rfl,z1,p0,hcr,hrow⟩:=(hB.keep (hext.kept T)).at_ hlt2;have hrl:=hrow.len;have HROW:=Hd hrow;clear hrow hext;by_cases hln:rows[i].length=cols.length
     ·have hn1:((rows[i].length:Int) != (cols.length:Int))=false:=(by simp [hln]);have HLN:=Hd hln;clear hln;go_wp2;obtain ⟨wo,rfl⟩:∃ wo:World,wo=wr:=⟨_,rfl⟩
      go_loopw [50] (fun v wi=>∃ j:Nat,j≤rows[i].length∧v=.I j∧Ext wo wi∧∀ m (h:m<rows[i].length),m<j→CX rows[i][m]=true) (fun v _=>rows[i].length-(intOf v).toNat)
      case atStart=>exact ⟨0,AE,rfl,Ext.refl _,Y8⟩
      case round =>
       obtain ⟨j,hj,rfl,hexi,halli⟩:=hrel;have HI:=Hd halli;have HEI:=Hd hexi;clear halli;by_cases hlt3:j<rows[i].length
       ·obtain ⟨b2,o2,A5,c5,B5,e5,rfl,z2,⟨p0,p1,p2,p3,p4,p5,p6⟩,⟨hq,_,_⟩,hv⟩:=(HROW.o.keep (hexi.kept T)).at_ hlt3;have hvs:=hv.size;clear hv hexi;by_cases hk5:rows[i][j].kind=5
        ·have hk5':(rows[i][j].kind==5)=true:=(by simp [hk5]);have HF:=Hd (show Ao cols rows=false by
          exact Z70)
         clear hk5;go_wp2;go_ret;exact ⟨Y19,HE.o.trans (HEI.o.alloc _)⟩
        ·have hk5':(rows[i][j].kind==5)=false:=(by simp [hk5]);have HK5:=Hd hk5;have HRF:=Hd (FC rows[i][j] A5 B5 c5 e5 · hk5 hvs);clear hk5
         go_wp2_with fail
         refine (HRF.o _).mono ?_;rintro e1 w1 ⟨rfl,hx1⟩;have HX1:=Hd hx1;clear hx1;cases hfl:Aj rows[i][j]
         ·have HF:=Hd (show Ao cols rows=false by
           exact Z71)
          clear hfl;go_wp2;go_ret;exact ⟨Y19,HE.o.trans ((HEI.o.alloc _).trans HX1.o)⟩
         ·have HFL:=Hd (show CX rows[i][j]=true by simp [CX,hfl,HK5.o]);clear hfl;go_wp2;go_roundw
          case rel =>
           refine ⟨j+1,Y4,Y5,(HEI.o.alloc _).trans HX1.o,fun m h hm => ?_⟩;exact Z72
          case measure=>simp [intOf];omega
       ·have HRO:=Hd (show DS cols.length rows[i]=true by
         exact Z75)
        exact Z73
     ·exact Z76
    ·have HF:=Hd (show Ao cols rows=true by
      unfold Ao;rw [HCOL.o,BX rows (DS cols.length) (fun j h=>HR.o j h Y4),decide_eq_true ⟨h1,h2⟩];rfl)
     exact Z80

theorem Kj(q:Nat)(x:Val)(A B:OA)(c e:Nat)(w:World)(S:NP)(h:RV w S q x A B)(hcap:x.cols.length≤c)(hk:x.kind=5):Cl 51 #[(Vq x A c B e)] w (AO w (Ae x)):=by
 have hf:Ae x=(Ao x.cols x.rows&&B6 { x with cols:=[],rows:=[] }):=(by simp [Ae,hk]);have HF:=Hd hf;have H:=Hd h;have k0:(x.kind==0)=false:=Y2;have k1:(x.kind==1)=false:=Y2;have k2:(x.kind==2)=false:=Y2;have k3:(x.kind==3)=false:=Y2;have k4:(x.kind==4)=false:=Y2;have k5:(x.kind==5)=true:=Y2;clear hf hk h
 go_enter func51,ntmps51
 go_wp2_with fail
 refine (IY q x.cols x.rows A B c e _ S S (H.o.strs.keep ((exbb w).kept _)) (H.o.rows_.keep ((exbb w).kept _)) hcap).mono ?_;rintro e1 w1 ⟨rfl,hx1⟩;obtain ⟨hc1,hf1⟩:=LS hx1;have hz1:=hx1.size;simp at hc1 hf1 hz1;have hz2:w.heap.size<w1.heap.size:=Y4;have hz3:w.heap.size+1<w1.heap.size:=Y4;have HX:=Hd hx1;cases ht:Ao x.cols x.rows
 ·exact Z65
 ·have HT:=Hd ht;clear ht hx1
  go_wp2_with fail
  refine (ET { x with cols:=[],rows:=[] } none none 0 0 _).mono ?_;exact Z66

theorem Im(q:Nat)(x:Val)(A B:OA)(c e:Nat)(w:World)(S:NP)(h:RV w S q x A B)(hcap:x.cols.length≤c):Cl 51 #[(Vq x A c B e)] w (AO w (Ae x)):=by
 by_cases hk:x.kind=5
 ·exact Kj q x A B c e w S h hcap hk
 ·have:=FC x A B c e w hk h.size;rwa [show Aj x=Ae x by simp [Ae,hk]] at this

def Val.zero:Val:=⟨0,⟨#[]⟩,0,0,0,[],[]⟩
structure Look where
 name:BA
 cols:List BA
 rows:List (List Val)
def RL(w:World)(S:NP)(d:Nat)(t:Look)(A B:OA):Prop:=t.name.size≤4294967296∧Strs w S A t.cols∧Rows w S d B t.rows
theorem RL.keep{w w':World}{S:NP}{d:Nat}{t:Look}{A B:OA}(h:RL w S d t A B)(k:Kept S w w'):RL w' S d t A B:=⟨h.1,h.2.1.keep k,h.2.2.keep k⟩
theorem RL.mono{w:World}{S T:NP}{d:Nat}{t:Look}{A B:OA}(h:RL w S d t A B)(k:∀ i,i<w.heap.size→S i→T i):RL w T d t A B:=⟨h.1,h.2.1.mono k,h.2.2.mono k⟩
theorem Rows.nil{w:World}{S:NP}{d:Nat}{B:OA} : Rows w S d B []:=⟨Y3,[],Or.inl rfl,Y3,Y3⟩
theorem RV.zero{w:World}{S:NP}{d:Nat}{A B:OA} : RV w S d Val.zero A B:=RV.mk (AE) Strs.nil Rows.nil
def ENA(cols:List BA)(rows:List (List Val)):Val:=⟨5,⟨#[]⟩,0,0,0,cols,rows⟩
theorem RL.val{w:World}{S:NP}{d:Nat}{t:Look}{A B:OA}(h:RL w S d t A B):RV w S d (ENA t.cols t.rows) A B:=RV.mk (AE) h.2.1 h.2.2


def Cu(cols:List BA)(rows:List (List Val)):Bool:=rows.all fun r=>decide (r.length=cols.length)
theorem Di(q:Nat)(cols:List BA)(rows:List (List Val))(A B:OA)(c e:Nat)(w:World)(S:NP)(_hcl:cols.length≤4294967296)(hB:Rows w S q B rows) :
  Cl 138 #[.slice A cols.length c,.slice B rows.length e] w (SameB w (Cu cols rows)):=by
 have hm:=hB.len
 go_enter func138,ntmps138
 go_wp2
 go_loop [9] (fun i=>∃ k:Nat,k≤rows.length∧i=.I k∧∀ j (h:j<rows.length),j<k→rows[j].length=cols.length) (fun i=>rows.length-(intOf i).toNat)
 case atStart=>exact ⟨0,AE,rfl,Y8⟩
 case round =>
  obtain ⟨k,hk,rfl,hall⟩:=hrel;have HA:=Hd hall;clear hall;by_cases hlt:k<rows.length
  ·obtain ⟨b1,o1,A2,c2,rfl,z1,p0,hcr,hrow⟩:=hB.at_ hlt;have hrl:=hrow.len;clear hrow;by_cases hln:rows[k].length=cols.length
   ·have hn1:((rows[k].length:Int) != (cols.length:Int))=false:=(by simp [hln]);have HLN:=Hd hln;clear hln;go_wp2
    go_round
    case rel =>
     refine ⟨k+1,Y4,Y5,fun j h hj => ?_⟩;by_cases hjk:j=k
     ·subst hjk;exact HLN.o
     ·exact HA.o j h Y4
    case measure=>simp [intOf];omega
   ·have hn1:((rows[k].length:Int) != (cols.length:Int))=true:=Y9;have HF:=Hd (show Cu cols rows=false by unfold Cu;exact Bg rows _ k hlt (by simp [hln]));clear hln;exact Z44
  ·have HF:=Hd (show Cu cols rows=true by unfold Cu;exact BX rows _ (fun j h=>by simp [HA.o j h Y4]));exact Z44

theorem Ju(q:Nat)(x y:List Val)(A B:OA)(ca cb k g1 g2:Nat)(w:World)(S T:NP)(hx:Row w S q A x)(hy:Row w T q B y)(hkx:k<x.length)(hky:k<y.length)
  (h1:w.cell? ⟨g1,0,none⟩=some (.I (k:Int))) (h2:w.cell? ⟨g2,0,none⟩=some (.slice B y.length cb)) :
  Cl 197 #[.slice A x.length ca,.pointer (some ⟨g1,0,none⟩),.pointer (some ⟨g2,0,none⟩)] w (AO w (decide (x.getD k Val.zero=y.getD k Val.zero))):=by
 have hxl:=hx.len;have hyl:=hy.len;obtain ⟨b1,o1,A1,c1,B1,e1,rfl,z1,⟨p0,p1,p2,p3,p4,p5,p6⟩,⟨hq,_,_⟩,hv1⟩:=hx.at_ hkx;obtain ⟨b2,o2,A2,c2,B2,e2,rfl,z2,⟨q0,q1,q2,q3,q4,q5,q6⟩,_,hv2⟩:=hy.at_ hky;obtain ⟨HV1,HV2,G1,G2⟩:=Hd4 hv1 hv2 (Au x k Val.zero hkx) (Au y k Val.zero hky);clear hv1 hv2 hx hy
 go_enter func197,ntmps197
 go_wp2
 go_still_tail 8,Y11
 go_wp2_with fail
 refine (Nb (q-1) x[k] y[k] A1 B1 A2 B2 c1 e1 c2 e2 _ S T (HV1.o.keep (Kept.drew _ _)) (HV2.o.keep (Kept.drew _ _))).mono ?_;rintro e w1 ⟨rfl,hx1⟩;have HX:=Hd (((Ext.refl w).drew).trans hx1);clear hx1;go_wp2;go_ret;exact ⟨by rw [G1.o,G2.o];rfl,HX.o⟩

def Ee{α:Type}(p:α→Bool)(l:List α):Int:=match l.findIdx? p with|some i=>(i:Int)|none=>-1
theorem C7{α:Type}{p:α→Bool}{l:List α}{k:Nat}(hk:k<l.length)(h:∀ j (hj:j<l.length),j<k→p l[j]=false)(hv:p l[k]=true):Ee p l=k:=by
 unfold Ee;have:l.findIdx? p=some k:=by
  rw [List.findIdx?_eq_some_iff_getElem];exact ⟨hk,hv,fun j hj=>by simp [h j Y4 hj]⟩
 rw [this]
theorem EN{α:Type}{p:α→Bool}{l:List α}(h:∀ j (hj:j<l.length),p l[j]=false):Ee p l=-1:=by
 unfold Ee;have:l.findIdx? p=none:=by
  rw [List.findIdx?_eq_none_iff];exact Z37
 rw [this]
theorem Ic{α:Type}{p:α→Bool}{l:List α}(h:0≤Ee p l):∃ k:Nat,Ee p l=k∧∃ hk:k<l.length,p l[k]=true∧∀ j (hj:j<l.length),j<k→p l[j]=false:=by
 unfold Ee at h⊢;cases hf:l.findIdx? p with
 |none=>rw [hf] at h;simp at h
 |some i =>
  rw [List.findIdx?_eq_some_iff_getElem] at hf;obtain ⟨hi,h1,h2⟩:=hf;exact ⟨i,rfl,hi,h1,fun j hj hji=>by simpa using h2 j hji⟩
theorem Ec{α:Type}(p:α→Bool)(l:List α):decide (0≤Ee p l)=l.any p:=by
 rw [Bool.eq_iff_iff,decide_eq_true_iff,List.any_eq_true];constructor
 ·intro h;obtain ⟨k,_,hk,hp,_⟩:=Ic h;exact ⟨_,List.getElem_mem hk,hp⟩
 ·rintro ⟨x,hx,hp⟩;unfold Ee;cases hf:l.findIdx? p with
  |some i=>simp
  |none =>
   rw [List.findIdx?_eq_none_iff] at hf;rw [hf x hx] at hp;cases hp
def Bz(c:Nat)(r o:List Val):Bool:=decide (o.getD c Val.zero=r.getD c Val.zero)

theorem Z82(h:qP:=by
 go_ret;exact ⟨Y19,HX1.o⟩):qP:=h
theorem Z81(h:qP:=by
 clear hq;go_wp2;exact Z82):qP:=h
theorem JA(q:Nat)(rows:List (List Val))(r:List Val)(A B:OA)(ca cb k g1 g2:Nat)(w:World)(S T:NP)(hx:Rows w S q A rows)(hy:Row w T q B r)(hk:∀ j (h:j<rows.length),k<rows[j].length)(hky:k<r.length)
  (h1:w.cell? ⟨g1,0,none⟩=some (.I (k:Int))) (h2:w.cell? ⟨g2,0,none⟩=some (.slice B r.length cb)) :
  Cl 196 #[.slice A rows.length ca,.func (.func 197) #[] #[.pointer (some ⟨g1,0,none⟩),.pointer (some ⟨g2,0,none⟩)]] w (CD w (Ee (Bz k r) rows)):=by
 have hxl:=hx.len;obtain ⟨HX,HY,HK,H1,H2⟩:=Hd5 hx hy hk h1 h2;clear hx hy hk h1 h2
 go_enter func196,ntmps196
 go_wp2
 go_loopw [8] (fun i wr=>∃ m:Nat,m≤rows.length∧i=.I m∧Ext w wr∧∀ j (h:j<rows.length),j<m→Bz k r rows[j]=false) (fun i _=>rows.length-(intOf i).toNat)
 case atStart=>exact ⟨0,AE,rfl,Ext.refl _,Y8⟩
 case round =>
  obtain ⟨m,hm,rfl,hext,hall⟩:=hrel;have HA:=Hd hall;have HE:=Hd hext;clear hall;by_cases hlt:m<rows.length
  ·obtain ⟨b1,o1,A2,c2,rfl,z1,p0,hcr,hrow⟩:=(HX.o.keep (hext.kept S)).at_ hlt;have HROW:=Hd hrow;clear hrow hext
   go_wp2_with fail
   refine (Ju q rows[m] r A2 B c2 cb k g1 g2 _ S T HROW.o (HY.o.keep (HE.o.kept T)) (HK.o m hlt) hky (HE.o.cell H1.o) (HE.o.cell H2.o)).mono ?_;rintro e w1 ⟨rfl,hx1⟩;have HX1:=Hd (HE.o.trans hx1);clear hx1;have heq:decide (rows[m].getD k Val.zero=r.getD k Val.zero)=Bz k r rows[m]:=rfl;rw [heq];clear heq;cases hq:Bz k r rows[m]
   ·have HQ:=Hd hq;clear hq;go_wp2;go_roundw
    case rel =>
     refine ⟨m+1,Y4,Y5,HX1.o,fun j h hj => ?_⟩;by_cases hjk:j=m
     ·subst hjk;exact HQ.o
     ·exact HA.o j h Y4
    case measure=>simp [intOf];omega
   ·have HF:=Hd (C7 hlt HA.o hq);exact Z81
  ·have HF:=Hd (EN (p:=Bz k r) (l:=rows) (fun j h=>HA.o j h Y4));exact Z80

def AN(rows:List (List Val))(c:Nat):List Int:=rows.map fun r=>Ee (Bz c r) rows
def Uk(w:World)(l:List Int)(e:Ending)(w':World):Prop:=∃ A c,e=.returned (.slice A l.length c)∧l.length≤c∧Ints w' (Av w) A l∧Ext w w'

theorem Ez(q:Nat)(rows:List (List Val))(A:OA)(ca k:Nat)(w:World)(S:NP)(hx:Rows w S q A rows)(hk:∀ j (h:j<rows.length),k<rows[j].length) :
  Cl 139 #[.slice A rows.length ca,.I (k:Int)] w (Uk w (AN rows k)):=by
 have hxl:=hx.len;have HX:=Hd hx;have HK:=Hd hk;clear hx hk;obtain ⟨cur,hmk,hcur⟩:=PZ tiI rows.length Y4 Y17;have HCUR:=Hd hcur;clear hcur
 go_enter func139,ntmps139
 go_wp2;clear hmk;have hst:OwnIs ((w.alloc (.cells #[.I (k:Int)] 3)).alloc (.cells cur 3)) (w.heap.size+1) (some ⟨w.heap.size+1,0,none⟩) rows.length ((AN rows k).take 0):=by
  have:=FLA (w.alloc (.cells #[.I (k:Int)] 3)) 3 1 rows.length cur Y14 HCUR.o
  simpa [OwnIs] using this
 have HST:=Hd hst;have HB:=Hd ((Blk.new w 3 #[.I (k:Int)]).keep (Kept.alloc _ _ (.cells cur 3)));clear hst;have hcsl:(AN rows k).length=rows.length:=(by simp [AN]);have HCSL:=Hd hcsl;clear hcsl
 go_loopw [13,5] (fun i v wr=>∃ (m:Nat) (A':OA) (c':Nat),m≤rows.length∧i=.I m∧v=.slice A' m c'∧Ext w wr∧w.heap.size+1≤wr.heap.size∧wr.cell? ⟨w.heap.size,0,none⟩=some (.I (k:Int))∧OwnIs wr (w.heap.size+1) A' c' ((AN rows k).take m)) (fun i _ _=>rows.length-(intOf i).toNat)
 case atStart=>exact ⟨0,_,_,AE,rfl,rfl,(exaa w).alloc _,Y3,HB.o.cell rfl,HST.o⟩
 case round =>
  obtain ⟨m,A',c',hm,rfl,rfl,hext,hsz,hbox,hown⟩:=hrel;obtain ⟨HE,HO,HBX⟩:=Hd3 hext hown hbox;clear hown hbox;by_cases hlt:m<rows.length
  ·obtain ⟨b1,o1,A2,c2,rfl,z1,p0,hcr,hrow⟩:=(HX.o.keep (hext.kept S)).at_ hlt;have HROW:=Hd hrow;clear hrow hext
   go_wp2_with fail
   refine (JA q rows rows[m] (some ⟨b1,o1,none⟩) A2 ca c2 k w.heap.size wr.heap.size _ S S ((HX.o.keep (HE.o.kept S)).keep (Kept.alloc _ _ _)) (HROW.o.keep (Kept.alloc _ _ _)) HK.o (HK.o m hlt) ((exaa wr).cell HBX.o) ((Blk.new wr 47 #[.slice A2 rows[m].length c2]).cell rfl)).mono ?_;rintro e w1 ⟨rfl,hx1⟩;have HX1:=Hd ((exaa wr).trans hx1);have hsz1:wr.heap.size<w1.heap.size:=(by have:=hx1.size;simp at this;omega);clear hx1;have hval:(AN rows k)[m]'(by rw [HCSL.o];exact hlt)=Ee (Bz k rows[m]) rows:=(by simp [AN]);have HVAL:=Hd hval;clear hval;have hlm:((AN rows k).take m).length=m:=(by rw [List.length_take,HCSL.o];omega);have hown:=HO.o.ext (HX1.o.alloc (.cells #[.I (Ee (Bz k rows[m]) rows)] 3));unfold OwnIs at hown;rw [hlm] at hown;have HOWN:=Hd hown;clear hown hlm
   go_wp2_with (at_builtin;go_must (refine AC rfl (.tmp 17) (.tmp 21) rfl tiI rfl HOWN.o rfl (Blk.rd (Blk.new _ _ _)) rfl Y18 Y4 Y17 Y16 ?_);intro A4 c4 w4 hown4 hg4 hat4)
   go_roundw
   case rel =>
    have hnb:∀ b,ob A'=some b→w.heap.size+1≤b:=fun b hb=>(HOWN.o.blk hb).1;refine ⟨m+1,A4,c4,Y4,Y5,rfl,Ext.grown (HE.o.trans (HX1.o.alloc _)) hg4 (fun b hb=>by have:=hnb b hb;omega),by have:=hg4.size;simp at this;omega,?_,?_⟩
    ·rw [World.cell?_of_block (hg4.block w.heap.size Y16 (fun e=>by have:=hnb _ e.symm;omega))];exact ((Ext.refl wr).trans (HX1.o.alloc _)).cell HBX.o
    ·rw [List.take_succ_eq_append_getElem (by rw [HCSL.o];exact hlt),HVAL.o];unfold OwnIs;rw [List.length_append,List.length_take,HCSL.o,Nat.min_eq_left hm,List.map_append];exact hown4
   case measure=>simp [intOf];omega
  ·have hme:m=rows.length:=Y4;subst hme;clear hext;have ho:=HO.o;rw [List.take_of_length_le (by rw [HCSL.o];exact AS)] at ho;have HO2:=Hd ho;clear ho;go_wp2;go_ret;refine ⟨A',c',by rw [HCSL.o];rfl,Own.cap HO2.o,HO2.o.ints (by rw [HCSL.o];exact hxl) (fun b hb => ?_),HE.o⟩;have:=(Own.blk HO2.o hb).1;unfold Av;omega
end Go.Proofs.YtidacnalcdhckaaGreatDoor
namespace Go.Proofs.YtidacnalcdhckaaGreatDoor
open Go Go.RowKit Go.MapKept Tryz
variable {qP:Prop}

def fnd{K:Type} [DecidableEq K](x:K):List (K × Value)→Nat→Option (Nat × Value)
 |[],_=>none
 |p::l,i=>if p.1=x then some (i,p.2) else fnd x l (i+1)
theorem Mg{K:Type} [DecidableEq K]{x:K}{l:List (K × Value)}{j i:Nat}{v:Value}(h:fnd x l j=some (i,v)):j≤i∧l[i-j]?=some (x,v):=by
 induction l generalizing j with
 |nil=>simp [fnd] at h
 |cons p l ih =>
  unfold fnd at h;split at h
  ·rename_i hp;simp at h;obtain ⟨rfl,rfl⟩:=h;exact ⟨AS,by simp [←hp]⟩
  ·obtain ⟨h1,h2⟩:=ih h;refine ⟨Y4,?_⟩;rw [show i-j=(i-(j+1))+1 by omega,List.getElem?_cons_succ];exact h2
theorem Vn{K:Type} [DecidableEq K]{x:K}{l:List (K × Value)}{j:Nat}(h:fnd x l j=none):∀ p∈l,p.1≠x:=by
 induction l generalizing j with
 |nil=>simp
 |cons p l ih =>
  unfold fnd at h;split at h
  ·cases h
  ·rename_i hp;intro q hq
   rcases List.mem_cons.1 hq with rfl|hq
   ·exact hp
   ·exact ih h q hq
def Cf{K:Type} [DecidableEq K](m:List (K × Value))(k:K):Option Value:=(fnd k m 0).map (·.2)
def JO{K:Type} [DecidableEq K](m:List (K × Value))(k:K)(v:Value):List (K × Value) :=
 match fnd k m 0 with
 |some (i,_)=>m.set i (k,v)
 |none=>m++[(k,v)]
structure KL(P:Program)(kt:TypeId){K:Type} [DecidableEq K](enc:K→Value):Prop where
 check:∀ (w:World) (em:Bool) (x:K),(Instr.checkKey em 10000 kt (enc x)).run P w=.ok () w
 find:∀ (w:World) (x:K) (l:List (K × Value)) (es:List MapEntry),es.map (fun e=>(e.key,e.val))=l.map (fun p=>(enc p.1,p.2))→(Instr.findKey kt (enc x) es).run P w=.ok (fnd x l 0) w
 stays:∀ (w:World) (x:K),(Instr.keyThatStays (enc x) (enc x)).run P w=.ok (enc x) w
 inj:∀ x y:K,enc x=enc y→x=y
def MapIs{K:Type}(w:World)(b:Nat)(enc:K→Value)(m:List (K × Value)):Prop :=
 ∃ es clock,w.heap[b]?=some (.map es clock)∧es.toList.map (fun e=>(e.key,e.val))=m.map (fun p=>(enc p.1,p.2))∧Stamped es clock
theorem JZ{P:Program}{w:World}{b:Nat}{es:Array MapEntry}{cl:Nat}(h:w.heap[b]?=some (.map es cl)):(getObj b).run P w=.ok (.map es cl) w:=by simp [getObj,Sem.run,h]
theorem PF{P:Program}{w:World}{b:Nat}{es:Array MapEntry}{cl:Nat}(o:Obj)(h:w.heap[b]?=some (.map es cl)):(setObj b o).run P w=.ok () { w with heap:=w.heap.setIfInBounds b o }:=by simp [setObj,Sem.run,h]
section
variable {P:Program}{K:Type}{enc:K→Value}{w w':World}{b:Nat}{m:List (K × Value)}
theorem Z84(h:qP:=by
 rw [Array.getElem?_eq_none h3] at h1;cases h1):qP:=h
theorem Z83(h:qP:=by
 rcases Nat.lt_or_ge b w.heap.size with h3|h3
 ·exact h3
 ·exact Z84):qP:=h
theorem MapIs.keep(h:MapIs w b enc m)(hk:Kept (fun i=>i=b) w w'):MapIs w' b enc m:=by
 obtain ⟨es,cl,h1,h2,hst⟩:=h;refine ⟨es,cl,?_,h2,hst⟩;have hlt:b<w.heap.size:=by
  exact Z83
 rw [hk.2 b rfl hlt];exact h1
theorem MapIs.lt(h:MapIs w b enc m):b<w.heap.size:=by
 obtain ⟨es,cl,h1,_,_⟩:=h;exact Z83
theorem FAA(w:World)(enc:K→Value):MapIs (w.alloc (.map #[] 0)) w.heap.size enc []:=⟨#[],0,heap_alloc_new w _,rfl,stamped_empty 0⟩
theorem MapIs.len(h:MapIs w b enc m){t kt et:TypeId}(ht:P.underlying t=some (.map kt et))(ty:TypeId):(Builtin.len_ #[t] ty #[.map (some b)]).run P w=.ok (.I (m.length:Int)) w:=by
 obtain ⟨es,cl,h1,h2,hst⟩:=h;have hl:es.size=m.length:=by
  have:=congrArg List.length h2
  simpa using this
 simp [Builtin.len_,run_underlying ht,JZ h1,goInt,hl]
theorem Z85(h:qP:=by
 obtain ⟨es,cl,h1,h2,hst⟩:=h;have hf:=kl.find w x m es.toList h2;unfold Cf;cases hq:fnd x m 0 with
 |none=>rw [hq] at hf;simp [Instr.lookup,run_underlying ht,JZ h1,kl.check,hf,hz]
 |some p=>rw [hq] at hf;simp [Instr.lookup,run_underlying ht,JZ h1,kl.check,hf]):qP:=h
theorem MapIs.get [DecidableEq K](h:MapIs w b enc m){t kt et:TypeId}(ht:P.underlying t=some (.map kt et))(kl:KL P kt enc)(z:Value)(hz:∀ w:World,(zeroValue et).run P w=.ok z w)(x:K) :
  (Instr.lookup t (.map (some b)) (enc x) false).run P w=.ok ((Cf m x).getD z) w:=by
 exact Z85
theorem MapIs.get2 [DecidableEq K](h:MapIs w b enc m){t kt et:TypeId}(ht:P.underlying t=some (.map kt et))(kl:KL P kt enc)(z:Value)(hz:∀ w:World,(zeroValue et).run P w=.ok z w)(x:K) :
  (Instr.lookup t (.map (some b)) (enc x) true).run P w=.ok (.tuple #[(Cf m x).getD z,.bool (Cf m x).isSome]) w:=by
 exact Z85
theorem MapIs.put [DecidableEq K](h:MapIs w b enc m){t kt et:TypeId}(ht:P.underlying t=some (.map kt et))(kl:KL P kt enc)(x:K)(v:Value) :
  ∃ w',(Instr.mapUpdate t (.map (some b)) (enc x) v).run P w=.ok () w'∧MapIs w' b enc (JO m x v)∧w.grownBy w' (some b):=by
 obtain ⟨es,cl,h1,h2,hst⟩:=h;have hf:=kl.find w x m es.toList h2;have hlt:b<w.heap.size:=by
  exact Z83
 have hg:∀ o:Obj,w.grownBy { w with heap:=w.heap.setIfInBounds b o } (some b):=fun o =>
  ⟨rfl,rfl,rfl,Y3,fun k _ hk=>by rw [Array.getElem?_setIfInBounds,if_neg (fun e=>hk Y10)]⟩
 unfold JO;cases hq:fnd x m 0 with
 |none =>
  rw [hq] at hf;refine ⟨{ w with heap:=w.heap.setIfInBounds b (.map (es.push { key:=enc x,val:=v,born:=cl }) (cl+1)) },by simp [Instr.mapUpdate,run_underlying ht,JZ h1,kl.check,hf,PF _ h1],⟨es.push { key:=enc x,val:=v,born:=cl },cl+1,by simp [hlt],Y21,stamped_push hst (fun e he hk => ?_)⟩,hg _⟩;have h5:(e.key,e.val)∈es.toList.map (fun e=>(e.key,e.val)):=List.mem_map_of_mem he;rw [h2] at h5;obtain ⟨p,hp,hpe⟩:=List.mem_map.1 h5;injection hpe with hpe _;exact Vn hq p hp (kl.inj _ _ (hpe.trans hk))
 |some p =>
  obtain ⟨i,u⟩:=p;rw [hq] at hf;obtain ⟨_,hi⟩:=Mg hq;simp at hi;have hes:(es.toList.map (fun e=>(e.key,e.val)))[i]?=some (enc x,u):=(by rw [h2];simp [hi]);have hil:i<es.size:=by
   have:=(List.getElem?_eq_some_iff.1 hes).1
   simpa using this
  have hek:es[i].key=enc x:=by
   simp [hil] at hes;exact hes.1
  refine ⟨{ w with heap:=w.heap.setIfInBounds b (.map (es.modify i fun e => { e with key:=enc x,val:=v }) cl) },by simp [Instr.mapUpdate,run_underlying ht,JZ h1,kl.check,hf,PF _ h1,hil,hek,kl.stays],⟨es.modify i fun e => { e with key:=enc x,val:=v },cl,by simp [hlt],?_,stamped_modify hst i _ (fun _ _=>rfl) (fun e _ he=>by
   rw [Array.getElem?_eq_getElem hil] at he;injection he with he;show enc x=e.key;rw [←he,hek])⟩,hg _⟩
  have:(es.modify i fun e => { e with key:=enc x,val:=v }).toList.map (fun e=>(e.key,e.val))=(es.toList.map (fun e=>(e.key,e.val))).set i (enc x,v):=by
   apply List.ext_getElem?;intro j;simp only [List.getElem?_map,Array.getElem?_toList,Array.getElem?_modify,List.getElem?_set,List.length_map,Array.length_toList];by_cases hij:i=j
   ·subst hij;simp [hil]
   ·simp [hij]
  rw [this,h2,List.map_set]
end

theorem OI(a b:BA):(a==b)=decide (a=b):=by
 cases a with|mk x=>cases b with|mk y =>
 show (x==y)=_;by_cases h:x=y
 ·subst h;simp
 ·simp [h]
theorem Z86(h:qP:=by
 exact ih l (i+1) (by simpa using h3)):qP:=h
theorem Uf{P:Program}{kt:TypeId}(hk:P.underlying kt=some (.int .i64)):KL P kt (fun n:Int=>Value.int .i64 n) where
 check:=fun w em x=>by
  have h:∀ n,(Instr.checkKey em (n+1) kt (Value.int .i64 x)).run P w=.ok () w:=fun n=>by simp [Instr.checkKey,run_underlying hk]
  exact h 9999
 find:=fun w x l es h=>by
  have hn:∀ (es:List MapEntry) (l:List (Int × Value)) (i:Nat),es.map (fun e=>(e.key,e.val))=l.map (fun p=>(Value.int .i64 p.1,p.2))→Instr.findNow (.int .i64) (.I x) es i=some (fnd x l i):=by
   intro es
   induction es with
   |nil=>intro l i h;cases l<;>simp at h;rfl
   |cons e es ih =>
    intro l i h;cases l with
    |nil=>simp at h
    |cons p l =>
     simp at h;obtain ⟨⟨h1,h2⟩,h3⟩:=h;unfold Instr.findNow fnd;rw [h1];by_cases hx:p.1=x
     ·have hs:Instr.sameNow (.int .i64) (.I x) (.I p.1)=some true:=(by simp [Instr.sameNow,hx]);rw [hs,if_pos hx,h2]
     ·have hx':¬x=p.1:=fun e=>hx e.symm;have hs:Instr.sameNow (.int .i64) (.I x) (.I p.1)=some false:=(by simp [Instr.sameNow,hx']);rw [hs,if_neg hx];exact Z86
  simp [Instr.findKey,run_underlying hk,hn es l 0 h]
 stays:=fun w x=>by simp [Instr.keyThatStays,Instr.sameBits]
 inj:=fun x y h=>by injection h
theorem Uh{P:Program}{kt:TypeId}(hk:P.underlying kt=some .string):KL P kt (fun s:BA=>Value.string s) where
 check:=fun w em x=>by
  have h:∀ n,(Instr.checkKey em (n+1) kt (Value.string x)).run P w=.ok () w:=fun n=>by simp [Instr.checkKey,run_underlying hk]
  exact h 9999
 find:=fun w x l es h=>by
  have hn:∀ (es:List MapEntry) (l:List (BA × Value)) (i:Nat),es.map (fun e=>(e.key,e.val))=l.map (fun p=>(Value.string p.1,p.2))→Instr.findNow .string (.string x) es i=some (fnd x l i):=by
   intro es
   induction es with
   |nil=>intro l i h;cases l<;>simp at h;rfl
   |cons e es ih =>
    intro l i h;cases l with
    |nil=>simp at h
    |cons p l =>
     simp at h;obtain ⟨⟨h1,h2⟩,h3⟩:=h;unfold Instr.findNow fnd;rw [h1];by_cases hx:p.1=x
     ·have hs:Instr.sameNow .string (.string x) (.string p.1)=some true:=(by simp [Instr.sameNow,OI,hx]);rw [hs,if_pos hx,h2]
     ·have hx':¬x=p.1:=fun e=>hx e.symm;have hs:Instr.sameNow .string (.string x) (.string p.1)=some false:=(by simp [Instr.sameNow,OI,hx']);rw [hs,if_neg hx];exact Z86
  simp [Instr.findKey,run_underlying hk,hn es l 0 h]
 stays:=fun w x=>by simp [Instr.keyThatStays,Instr.sameBits,OI]
 inj:=fun x y h=>by injection h

theorem Ou{P:Program}{kt it:TypeId}(hk:P.underlying kt=some (.array 2 it))(hi:P.underlying it=some (.int .i64))(hs:∀ w:World,(sizeOf it).run P w=.ok 1 w)(w:World)(a b c d:Int) :
  (Op.equal kt (.agg #[.I a,.I b]) (.agg #[.I c,.I d])).run P w=.ok (decide ((a,b)=(c,d))) w:=by
 have hint:∀ (n:Nat) (x y:Int),(Op.equalIn (n+1) it (.I x) (.I y)).run P w=.ok (x==y) w:=fun n x y=>by simp [Op.equalIn,run_underlying hi]
 have hp:∀ (x y:Int) (i:Nat) (v:Value),(#[Value.int .i64 x,.I y])[i]?=some v→(part it #[.I x,.I y] i).run P w=.ok v w:=fun x y i v hv=>by simp [part,isAgg,run_underlying hi,hv]
 have h:∀ n:Nat,(Op.equalIn (n+2) kt (.agg #[.I a,.I b]) (.agg #[.I c,.I d])).run P w=.ok (decide ((a,b)=(c,d))) w:=by
  intro n;rw [Op.equalIn];simp only [Sem.run_bind,run_underlying hk,Result.andThen_ok,hs,Std.Legacy.Range.forIn_eq_forIn_range',Std.Legacy.Range.size,Nat.sub_zero,Nat.add_sub_cancel,Nat.div_one,List.range'_succ,List.range'_zero,List.forIn_cons,List.forIn_nil];simp only [Nat.zero_mul,Nat.zero_add,Nat.one_mul,hp a b 0 _ rfl,hp c d 0 _ rfl,Result.andThen_ok];by_cases h1:a=c
  ·subst h1;by_cases h2:b=d
   ·subst h2;simp [hint,hp a b 1 _ rfl]
   ·simp [hint,hp a b 1 _ rfl,hp a d 1 _ rfl,h2]
  ·simp [hint,h1]
 exact h 9998
theorem ST{P:Program}{kt it:TypeId}(hk:P.underlying kt=some (.array 2 it))(hi:P.underlying it=some (.int .i64))(hs:∀ w:World,(sizeOf it).run P w=.ok 1 w) :
  KL P kt (fun p:Int × Int=>Value.agg #[.I p.1,.I p.2]) where
 check:=fun w em x=>by
  have hp:∀ (x y:Int) (i:Nat) (v:Value),(#[Value.int .i64 x,.I y])[i]?=some v→(part it #[.I x,.I y] i).run P w=.ok v w:=fun x y i v hv=>by simp [part,isAgg,run_underlying hi,hv]
  have hc:∀ (n:Nat) (y:Int),(Instr.checkKey em (n+1) it (.I y)).run P w=.ok () w:=fun n y=>by simp [Instr.checkKey,run_underlying hi]
  have h:∀ n,(Instr.checkKey em (n+2) kt (Value.agg #[.I x.1,.I x.2])).run P w=.ok () w:=fun n=>by
   rw [Instr.checkKey];simp only [Sem.run_bind,run_underlying hk,Result.andThen_ok,hs,Std.Legacy.Range.forIn_eq_forIn_range',Std.Legacy.Range.size,Nat.sub_zero,Nat.add_sub_cancel,Nat.div_one,List.range'_succ,List.range'_zero,List.forIn_cons,List.forIn_nil];simp [hs,hp x.1 x.2 0 _ rfl,hp x.1 x.2 1 _ rfl,hc]
  exact h 9998
 find:=fun w x l es h=>by
  have ha:∀ (es:List MapEntry) (l:List ((Int × Int) × Value)) (i:Nat),es.map (fun e=>(e.key,e.val))=l.map (fun p=>(Value.agg #[.I p.1.1,.I p.1.2],p.2))→(Instr.findAsking kt (.agg #[.I x.1,.I x.2]) es i).run P w=.ok (fnd x l i) w:=by
   intro es
   induction es with
   |nil=>intro l i h;cases l<;>simp at h;simp [Instr.findAsking,fnd]
   |cons e es ih =>
    intro l i h;cases l with
    |nil=>simp at h
    |cons p l =>
     simp at h;obtain ⟨⟨h1,h2⟩,h3⟩:=h;unfold Instr.findAsking fnd;rw [h1];simp only [Sem.run_bind,Ou hk hi hs w x.1 x.2 p.1.1 p.1.2,Result.andThen_ok];by_cases hx:p.1=x
     ·rw [if_pos hx,←hx,decide_eq_true rfl];simp [h2]
     ·rw [if_neg hx,decide_eq_false (fun e=>hx e.symm)];simp only [Bool.false_eq_true,if_false];exact Z86
  cases es with
  |nil =>
   cases l<;>simp at h
   simp [Instr.findKey,run_underlying hk,Instr.findNow,fnd]
  |cons e es =>
   have hn:Instr.findNow (.array 2 it) (.agg #[.I x.1,.I x.2]) (e::es) 0=none:=(by simp [Instr.findNow,Instr.sameNow]);simp only [Instr.findKey,Sem.run_bind,run_underlying hk,Result.andThen_ok,hn];exact ha (e::es) l 0 h
 stays:=fun w x=>by
  have h:∀ n,Instr.sameBits (n+1) (.agg #[.I x.1,.I x.2]) (.agg #[.I x.1,.I x.2])=true:=fun n=>by simp [Instr.sameBits]
  unfold Instr.keyThatStays;rw [h 9999];simp
 inj:=fun x y h=>by
  injection h with h;injection h with h;simp at h;exact Prod.ext h.1 h.2

section
variable {K:Type} [DecidableEq K]
theorem OQ{x:K}{l l':List (K × Value)}{j:Nat} : fnd x (l++l') j=match fnd x l j with|some r=>some r|none=>fnd x l' (j+l.length):=by
 induction l generalizing j with
 |nil=>simp [fnd]
 |cons p l ih =>
  show (if p.1=x then some (j,p.2) else fnd x (l++l') (j+1))=match (if p.1=x then some (j,p.2) else fnd x l (j+1)) with|some r=>some r|none=>fnd x l' (j+(l.length+1))
  by_cases hp:p.1=x
  ·simp only [if_pos hp]
  ·simp only [if_neg hp];rw [ih,show j+1+l.length=j+(l.length+1) by omega]
theorem Y27(h:qP:=by simpa using h):qP:=h
theorem F2(m:List (K × Value))(k k':K)(v:Value):Cf (JO m k v) k'=if k=k' then some v else Cf m k':=by
 unfold Cf JO;cases hf:fnd k m 0 with
 |none =>
  rw [OQ];by_cases hk:k=k'
  ·subst hk;rw [hf,if_pos rfl];simp [fnd]
  ·rw [if_neg hk];cases hg:fnd k' m 0 with
   |none=>simp [fnd,hk]
   |some r=>simp
 |some r =>
  obtain ⟨i,u⟩:=r;obtain ⟨_,hi⟩:=Mg hf;simp at hi;have hset:∀ (l:List (K × Value)) (i j:Nat) (u:Value),l[i]?=some (k,u)→(∀ a,a<i→∀ p,l[a]?=some p→p.1≠k)→(fnd k' (l.set i (k,v)) j).map (·.2)=if k=k' then some v else (fnd k' l j).map (·.2):=by
   intro l
   induction l with
   |nil=>intro i j u h;simp at h
   |cons p l ih =>
    intro i j u h hb;cases i with
    |zero =>
     simp at h;subst h;simp only [List.set_cons_zero,fnd];by_cases hk:k=k'<;>simp [hk]
    |succ i =>
     simp only [List.set_cons_succ,fnd];have hp:p.1≠k:=hb 0 Y4 p rfl;by_cases hk:p.1=k'
     ·have:k≠k':=fun e=>hp (by rw [hk,e]);simp [hk,this]
     ·rw [if_neg hk,if_neg hk];exact ih i (j+1) u Y27 (fun a ha q hq=>hb (a+1) Y4 q (by simpa using hq))
  refine hset m i 0 u hi ?_;have hfirst:∀ (l:List (K × Value)) (j i:Nat) (u:Value),fnd k l j=some (i,u)→∀ a,a<i-j→∀ p,l[a]?=some p→p.1≠k:=by
   intro l
   induction l with
   |nil=>intro j i u h;simp [fnd] at h
   |cons q l ih =>
    intro j i u h a ha p hp;unfold fnd at h;by_cases hq:q.1=k
    ·rw [if_pos hq] at h;simp at h;omega
    ·rw [if_neg hq] at h;cases a with
     |zero=>simp at hp;subst hp;exact hq
     |succ a=>exact ih (j+1) i u h a Y4 p (by simpa using hp)
  exact fun a ha p hp=>hfirst m 0 i u hf a Y4 p hp
end

section
variable {K:Type} [DecidableEq K]
theorem Ns(m:List (K × Value))(k:K)(v:Value):(JO m k v).length=if (Cf m k).isSome then m.length else m.length+1:=by
 unfold JO Cf;cases fnd k m 0 with
 |none=>simp
 |some r=>simp
end

def Dn(gs cs:List Int):Bool:=(List.range gs.length).all fun i=>(List.range i).all fun j=>decide (gs.getD i 0=gs.getD j 0→cs.getD i 0=cs.getD j 0)
theorem Nz{gs cs:List Int}{i j:Nat}(hi:i<gs.length)(hj:j<i)(h1:gs.getD i 0=gs.getD j 0)(h2:cs.getD i 0≠cs.getD j 0):Dn gs cs=false:=by
 unfold Dn;refine E0 hi (E0 hj ?_);rw [decide_eq_false_iff_not];exact fun h=>h2 (h h1)
theorem LW(gs cs:List Int):Dn gs cs=true↔∀ i j,i<gs.length→j<i→gs.getD i 0=gs.getD j 0→cs.getD i 0=cs.getD j 0:=by
 unfold Dn;simp only [List.all_eq_true,List.mem_range,decide_eq_true_eq];constructor
 ·intro h i j hi hj;exact h i hi j hj
 ·intro h i hi j hj;exact h i j hi hj

theorem Ug(w:World):(zeroValue 3).run prog w=.ok (.I 0) w:=by kernel_rfl

theorem Y28(h:qP:=by injection hb with hb;omega):qP:=h
theorem GW(gs cs:List Int)(A B:OA)(ca cb:Nat)(w:World)(S T:NP)(hA:Ints w S A gs)(hB:Ints w T B cs)(hl:cs.length=gs.length) :
  Cl 194 #[.slice A gs.length ca,.slice B cs.length cb] w (AO w (Dn gs cs)):=by
 have hgl:=hA.2;obtain ⟨HA,HB,HL⟩:=Hd3 hA hB hl;clear hA hB hl;have hmm:=@run_makeMap prog
 go_enter func194,ntmps194
 go_wp2;clear hmm
 go_loopw [13] (fun i wr=>∃ (k:Nat) (m:List (Int × Value)),k≤gs.length∧i=.I k∧Ext w wr∧MapIs wr w.heap.size (fun n:Int=>Value.int .i64 n) m ∧
   (∀ j,j<k→Cf m (gs.getD j 0)=some (.I (cs.getD j 0)))∧(∀ g v,Cf m g=some v→∃ j,j<k∧gs.getD j 0=g)∧(∀ i j,i<k→j<i→gs.getD i 0=gs.getD j 0→cs.getD i 0=cs.getD j 0)) (fun i _=>gs.length-(intOf i).toNat)
 case atStart=>exact ⟨0,[],AE,rfl,(Ext.refl w).alloc _,FAA w _,Y8,by intro g v h;simp [Cf,fnd] at h,Y8⟩
 case round =>
  obtain ⟨k,m,hk,rfl,hext,hmap,h1,h2,h3⟩:=hrel;obtain ⟨HE,HM,H1,H2,H3⟩:=Hd5 hext hmap h1 h2 h3;clear hmap h1 h2 h3;by_cases hlt:k<gs.length
  ·have hlt2:k<cs.length:=(by rw [HL.o];exact hlt);obtain ⟨b1,o1,rfl,z1,c1⟩:=(HA.o.keep (hext.kept S)).at_ hlt;obtain ⟨b2,o2,rfl,z2,c2⟩:=(HB.o.keep (hext.kept T)).at_ hlt2;have hlk:=HM.o.get2 underlying214 (Uf underlying3) (.I 0) Ug gs[k];have G1:=Hd (Au gs k 0 hlt);have G2:=Hd (Au cs k 0 hlt2);obtain ⟨w',hup,hmap',hg'⟩:=HM.o.put underlying214 (Uf underlying3) gs[k] (.I cs[k]);have HM':=Hd hmap';have HG':=Hd hg';have hh2:(cs.length:Int)=(gs.length:Int):=(by rw [HL.o]);have hlt3:(k:Int)<(cs.length:Int):=Y4;clear hmap' hg' hext hh2;have hgood:(∀ v,Cf m gs[k]=some v→v=.I cs[k])→∃ (k':Nat) (m':List (Int × Value)),k'≤gs.length∧(k':Int)=(k:Int)+1∧Ext w w'∧MapIs w' w.heap.size (fun n:Int=>Value.int .i64 n) m' ∧
     (∀ j,j<k'→Cf m' (gs.getD j 0)=some (.I (cs.getD j 0)))∧(∀ g v,Cf m' g=some v→∃ j,j<k'∧gs.getD j 0=g)∧(∀ i j,i<k'→j<i→gs.getD i 0=gs.getD j 0→cs.getD i 0=cs.getD j 0):=by
    intro hv;refine ⟨k+1,_,Y4,Y4,HE.o.grown HG'.out (fun b hb=>Y28),HM'.out,fun j hj => ?_,fun g v hg => ?_,fun i j hi hj he => ?_⟩
    ·rw [F2];by_cases hjk:gs[k]=gs.getD j 0
     ·rw [if_pos hjk];by_cases hj2:j=k
      ·subst hj2;rw [G2.o]
      ·have:=H1.o j Y4;rw [←hjk] at this;rw [hv _ this] at this;have h5:=H1.o j Y4;rw [←hjk,this] at h5;exact h5
     ·rw [if_neg hjk];by_cases hj2:j=k
      ·subst hj2;exact absurd G1.o.symm hjk
      ·exact H1.o j Y4
    ·rw [F2] at hg;by_cases hgk:gs[k]=g
     ·exact ⟨k,Y4,by rw [G1.o];exact hgk⟩
     ·rw [if_neg hgk] at hg;obtain ⟨j,hj,hj2⟩:=H2.o g v hg;exact ⟨j,Y4,hj2⟩
    ·by_cases hik:i=k
     ·subst hik;have h5:=H1.o j hj;rw [←he,G1.o] at h5;have h6:=hv _ h5;injection h6 with _ h6;rw [G2.o];exact h6.symm
     ·exact H3.o i j Y4 hj he
   have HGOOD:=Hd hgood;clear hgood;cases hmg:Cf m gs[k] with
   |none =>
    have hlk2:(Instr.lookup 214 (.map (some w.heap.size)) (.I gs[k]) true).run prog wr=.ok (.tuple #[.I 0,.bool false]) wr:=(by rw [hlk,hmg];rfl);have HMG:=Hd hmg;clear hlk hmg;go_wp2;go_roundw
    case rel =>
     obtain ⟨k',m',e1,e2,e3⟩:=HGOOD.o (fun v hv=>by rw [HMG.o] at hv;cases hv);exact ⟨k',m',e1,by rw [e2],e3⟩
    case measure=>simp [intOf];omega
   |some v =>
    have hvv:∃ x:Int,v=.I x:=by
     obtain ⟨j,hj,hj2⟩:=H2.o _ _ hmg;have:=H1.o j hj;rw [hj2,hmg] at this;injection this with this;exact ⟨_,this⟩
    obtain ⟨x,rfl⟩:=hvv;have hlk2:(Instr.lookup 214 (.map (some w.heap.size)) (.I gs[k]) true).run prog wr=.ok (.tuple #[.I x,.bool true]) wr:=(by rw [hlk,hmg];rfl);have HMG:=Hd hmg;clear hlk hmg;by_cases hx:x=cs[k]
    ·have hx':(x != cs[k])=false:=(by simp [hx]);have HXX:=Hd hx;clear hx;go_wp2;go_roundw
     case rel =>
      obtain ⟨k',m',e1,e2,e3⟩:=HGOOD.o (fun v hv=>by rw [HMG.o] at hv;injection hv with hv;rw [←hv,HXX.o]);exact ⟨k',m',e1,by rw [e2],e3⟩
     case measure=>simp [intOf];omega
    ·have hx':(x != cs[k])=true:=(by rw [bne_iff_ne];exact hx);have HF:=Hd (show Dn gs cs=false by
      obtain ⟨j,hj,hj2⟩:=H2.o _ _ HMG.o;have h5:=H1.o j hj;rw [hj2,HMG.o] at h5;injection h5 with h5;injection h5 with _ h5;exact Nz hlt hj (by rw [G1.o,hj2]) (by rw [G2.o,←h5];exact fun e=>hx e.symm))
     clear hx;exact Z78
  ·have HF:=Hd (show Dn gs cs=true by rw [LW];exact fun i j hi hj he=>H3.o i j Y4 hj he);exact Z80

def RIss(w:World)(S:NP)(A:OA)(l:List (List Int)):Prop :=
 l.length≤4294967296∧∃ hs:List Value,Rd w S A hs∧hs.length=l.length∧∀ (i:Nat) (r:List Int),l[i]?=some r→∃ (B:OA) (e:Nat),hs[i]?=some (.slice B r.length e)∧r.length≤e∧Ints w S B r
theorem Z87(h:qP:=by
 obtain ⟨h0,hs,h1,h2,h3⟩:=h;refine ⟨h0,hs,h1.keep k,h2,fun i r hr => ?_⟩;obtain ⟨B,e,g1,g2,g3⟩:=h3 i r hr;exact ⟨B,e,g1,g2,g3.keep k⟩):qP:=h
theorem RIss.keep{w w':World}{S:NP}{A:OA}{l:List (List Int)}(h:RIss w S A l)(k:Kept S w w'):RIss w' S A l:=by
 exact Z87
theorem Z88(h:qP:=by
 obtain ⟨_,hs,h1,h2,h3⟩:=h;obtain ⟨B,e,g1,g2,g3⟩:=h3 k l[k] (List.getElem?_eq_getElem hk);obtain ⟨b,o,hA,hb,hc⟩:=h1.at_ g1;exact ⟨b,o,B,e,hA,hb,hc,g2,g3⟩):qP:=h
theorem RIss.at_{w:World}{S:NP}{A:OA}{l:List (List Int)}(h:RIss w S A l){k:Nat}(hk:k<l.length) :
  ∃ b o B e,A=some ⟨b,o,none⟩∧b<w.heap.size∧w.cell? ⟨b,o+k,none⟩=some (.slice B l[k].length e)∧l[k].length≤e∧Ints w S B l[k]:=by
 exact Z88
structure GroupsOf(n:Nat)(ls:List (List Int))(gs:List Int):Prop where
 len:gs.length=n
 same:∀ i j,i<n→j<n→(gs.getD i 0=gs.getD j 0↔∀ l∈ls,l.getD i 0=l.getD j 0)
def C6A(w:World)(n:Nat)(ls:List (List Int))(e:Ending)(w':World):Prop:=∃ gs,GroupsOf n ls gs∧Uk w gs e w'
theorem Z89(h:qP:=by
 rw [hz];apply Array.ext
 ·simp [madeCells]
 ·intro i h5 h6;simp [madeCells,Nat.mod_one]):qP:=h
theorem Jl(z:Value)(n:Nat)(hz:z.cells=#[z]):madeCells z.cells n=Array.replicate n z:=by
 exact Z89
theorem Td(n:Nat)(hn:n≤4294967296):∀ w:World,(Instr.makeSlice 22 (.I (n:Int)) (.I (n:Int))).run prog w=.ok (.slice (some ⟨w.heap.size,0,none⟩) n n) (w.alloc (.cells (Array.replicate n (.I 0)) 3)):=by
 intro w;obtain ⟨i0,h1,h2,h3,h4⟩:=info_parts RQ;have hr:=run_make (P:=prog) w 22 3 i0 (.I 0) underlying22 h1 h2 .i64 .i64 n n Y4 Y4 (by rw [h4];omega) Y4;rw [h3,Nat.mul_one,Int.toNat_natCast,Jl _ _ rfl] at hr;exact hr
structure GRel(n r:Nat)(gs cls cur:List Int)(m:List ((Int × Int) × Value)):Prop where
 len:cur.length=n
 done:∀ j,j<r→Cf m (gs.getD j 0,cls.getD j 0)=some (.I (cur.getD j 0))
 rest:∀ j,r≤j→j<n→cur.getD j 0=gs.getD j 0
 inj:∀ p q v,Cf m p=some v→Cf m q=some v→p=q
 range:∀ p v,Cf m p=some v→∃ i:Nat,i<m.length∧v=.I (i:Int)

theorem JS{l:List Int}{r j:Nat}{g:Int} : (l.set r g).getD j 0=if r=j∧j<l.length then g else l.getD j 0:=by
 simp only [List.getD_eq_getElem?_getD,List.getElem?_set];by_cases h:r=j
 ·subst h;by_cases h2:r<l.length
  ·simp [h2]
  ·simp [h2]
 ·simp [h]
theorem Z90(h:qP:=by
 rw [JS,if_neg (fun e=>Y4)];exact h.rest j Y4 hn):qP:=h
theorem GRel.new{n r:Nat}{gs cls cur:List Int}{m:List ((Int × Int) × Value)}(h:GRel n r gs cls cur m)(hr:r<n)(hm:Cf m (gs.getD r 0,cls.getD r 0)=none):GRel n (r+1) gs cls (cur.set r (m.length:Int)) (JO m (gs.getD r 0,cls.getD r 0) (.I (m.length:Int))):=by
 have hl:=h.len;refine ⟨Y7,fun j hj => ?_,fun j hj hn => ?_,fun p q v hp hq => ?_,fun p v hp => ?_⟩
 ·rw [F2,JS];by_cases hjr:j=r
  ·subst hjr;rw [if_pos rfl,if_pos ⟨rfl,Y4⟩]
  ·have hd:=h.done j Y4;rw [if_neg (fun e=>by rw [←e,hm] at hd;cases hd),if_neg (fun e=>hjr e.1.symm)];exact hd
 ·exact Z90
 ·rw [F2] at hp hq;by_cases h1:(gs.getD r 0,cls.getD r 0)=p
  ·rw [if_pos h1] at hp;by_cases h2:(gs.getD r 0,cls.getD r 0)=q
   ·rw [←h1,h2]
   ·rw [if_neg h2,←hp] at hq;obtain ⟨i,hi,he⟩:=h.range _ _ hq;injection he with _ he;omega
  ·rw [if_neg h1] at hp;by_cases h2:(gs.getD r 0,cls.getD r 0)=q
   ·rw [if_pos h2] at hq;rw [←hq] at hp;obtain ⟨i,hi,he⟩:=h.range _ _ hp;injection he with _ he;omega
   ·rw [if_neg h2] at hq;exact h.inj _ _ _ hp hq
 ·rw [F2] at hp;rw [Ns,hm];by_cases h1:(gs.getD r 0,cls.getD r 0)=p
  ·rw [if_pos h1] at hp;injection hp with hp;exact ⟨m.length,Y3,hp.symm⟩
  ·rw [if_neg h1] at hp;obtain ⟨i,hi,he⟩:=h.range _ _ hp;exact ⟨i,Y16,he⟩
theorem GRel.old{n r i:Nat}{gs cls cur:List Int}{m:List ((Int × Int) × Value)}(h:GRel n r gs cls cur m)(hr:r<n)(hm:Cf m (gs.getD r 0,cls.getD r 0)=some (.I (i:Int))):GRel n (r+1) gs cls (cur.set r (i:Int)) m:=by
 have hl:=h.len;refine ⟨Y7,fun j hj => ?_,fun j hj hn => ?_,h.inj,h.range⟩
 ·rw [JS];by_cases hjr:j=r
  ·subst hjr;rw [if_pos ⟨rfl,Y4⟩];exact hm
  ·rw [if_neg (fun e=>hjr e.1.symm)];exact h.done j Y4
 ·exact Z90
theorem GRel.fin{n k:Nat}{ls:List (List Int)}{gs cur:List Int}{m:List ((Int × Int) × Value)}(hk:k<ls.length)(h:GRel n n gs ls[k] cur m)(hg:GroupsOf n (ls.take k) gs):GroupsOf n (ls.take (k+1)) cur:=by
 refine ⟨h.len,fun i j hi hj => ?_⟩;have d1:=h.done i hi;have d2:=h.done j hj;have e:cur.getD i 0=cur.getD j 0↔(gs.getD i 0=gs.getD j 0∧ls[k].getD i 0=ls[k].getD j 0):=by
  constructor
  ·intro he;rw [he] at d1;have:=h.inj _ _ _ d1 d2;injection this with h1 h2;exact ⟨h1,h2⟩
  ·rintro ⟨h1,h2⟩;rw [h1,h2,d2] at d1;injection d1 with d1;injection d1 with _ d1;exact d1.symm
 rw [e,hg.same i j hi hj,List.take_succ_eq_append_getElem hk];constructor
 ·rintro ⟨h1,h2⟩ l hl
  rcases List.mem_append.1 hl with hl|hl
  ·exact h1 l hl
  ·simp at hl;subst hl;exact h2
 ·intro h1;exact ⟨fun l hl=>h1 l (List.mem_append_left _ hl),h1 _ (List.mem_append_right _ (List.mem_singleton.2 rfl))⟩

theorem Z91(h:qP:=by
 have:r<cur.length:=(by rw [HCUR.o];exact hlt2);simp [this]):qP:=h
theorem Y29(h:qP:=by injection e with e;omega):qP:=h
theorem Y30(h:qP:=by unfold Av;omega):qP:=h
theorem Hh(n:Nat)(ls:List (List Int))(A:OA)(ca:Nat)(w:World)(S:NP)(hA:RIss w S A ls)(hl:∀ l∈ls,l.length=n)(hn:n≤4294967296) :
  Cl 195 #[.I (n:Int),.slice A ls.length ca] w (C6A w n ls):=by
 have hal:=hA.1;have HA:=Hd hA;have HL:=Hd hl;clear hA hl;have hmk:=Td n hn;have hmm:=@run_makeMap prog
 go_enter func195,ntmps195
 go_wp2;clear hmk;have hst:=Blk.new w 3 (Array.replicate n (.I 0));have hst2:((List.replicate n (0:Int)).map (Value.int .i64)).toArray=Array.replicate n (.I 0):=Y3;rw [←hst2] at hst;have HST:=Hd hst;rw [hst2] at HST;clear hst hst2
 go_loopw [17] (fun i wr=>∃ (k:Nat) (gs:List Int),k≤ls.length∧i=.I k∧Ext w wr∧Blk wr w.heap.size 3 (gs.map (Value.int .i64)).toArray∧GroupsOf n (ls.take k) gs) (fun i _=>ls.length-(intOf i).toNat)
 case atStart=>exact ⟨0,List.replicate n 0,AE,rfl,(Ext.refl w).alloc _,by have h9:=HST.o;simpa using h9,Y3,by intro i j hi hj;simp [hi,hj]⟩
 case round =>
  clear HST;obtain ⟨k,gs,hk,rfl,hext,hblk,hgr⟩:=hrel;obtain ⟨HE,HBK,HGR⟩:=Hd3 hext hblk hgr;have hgl:=hgr.len;have hwz:=hblk.lt;clear hblk hgr;by_cases hlt:k<ls.length
  ·obtain ⟨b1,o1,B2,c2,rfl,z0,p0',hcp,hint⟩:=HA.o.at_ hlt;have p0:=hext.cell p0';have z1:b1<wr.heap.size:=Y4;have hcl:ls[k].length=n:=HL.o _ (List.getElem_mem hlt);obtain ⟨HINT,HGL,HCL⟩:=Hd3 hint hgl hcl;clear hint hext hgl hcl;go_wp2;obtain ⟨wo,rfl⟩:∃ wo:World,wo=wr:=⟨_,rfl⟩;have HMP:=Hd (FAA wo (fun p:Int × Int=>Value.agg #[.I p.1,.I p.2]));clear hmm
   go_loopw [24] (fun i wi=>∃ (r:Nat) (cur:List Int) (m:List ((Int × Int) × Value)),r≤n∧i=.I r∧Ext w wi∧wo.heap.size<wi.heap.size∧Blk wi w.heap.size 3 (cur.map (Value.int .i64)).toArray∧MapIs wi wo.heap.size (fun p:Int × Int=>Value.agg #[.I p.1,.I p.2]) m∧m.length≤r∧GRel n r gs ls[k] cur m) (fun i _=>n-(intOf i).toNat)
   case atStart=>exact ⟨0,gs,[],AE,rfl,HE.o.alloc _,Y3,HBK.o.keep (Kept.alloc _ _ _),HMP.o,AS,HGL.o,Y8,fun _ _ _=>rfl,by intro p q v h;simp [Cf,fnd] at h,by intro p v h;simp [Cf,fnd] at h⟩
   case round =>
    clear HMP;obtain ⟨r,cur,m,hr,rfl,hexi,hszi,hbli,hmpi,hml,hrl⟩:=hrel;obtain ⟨HEI,HBI,HMI,HRI⟩:=Hd4 hexi hbli hmpi hrl;have hcurl:=hrl.len;have HCUR:=Hd hcurl;clear hcurl hrl;by_cases hlt2:r<n
    ·have hrc:r<ls[k].length:=(by rw [HCL.o];exact hlt2);obtain ⟨b2,o2,rfl,z2,d2⟩:=(HINT.o.keep (hexi.kept S)).at_ hrc;have hcell:wr.cell? ⟨w.heap.size,r,none⟩=some (.I (gs.getD r 0)):=by
      rw [←HRI.o.rest r (AS) hlt2];refine hbli.cell ?_;exact Z91
     have hz5:=hbli.lt;obtain ⟨a,ha⟩:=eqx (gs.getD r 0);obtain ⟨b,hb⟩:=eqx (ls[k][r]);have hb2:b=ls[k].getD r 0:=(by rw [hb];exact (Au ls[k] r 0 hrc).symm);rw [←ha] at hcell;rw [←hb] at d2;have HAB:=Hd (And.intro ha hb2);have hne:w.heap.size≠wr.heap.size:=Y4;have hr1:(r:Int)<(n:Int):=Y4;have hr2:(r:Int)<(ls[k].length:Int):=Y4;have hr3:(0:Int)≤(r:Int):=Y4;clear hexi hbli hmpi ha hb hb2;go_wp2
     go_region
     have hkw:∀ X:Nat→Prop,Kept X wr (wr.alloc (.cells #[.I a,.I b] 217)).drew:=fun X=>(Kept.alloc _ _ _).trans (Kept.drew _ _);obtain ⟨HBI2,HMI2,HBB,HEI2⟩:=Hd4 (HBI.o.keep (hkw _)) (HMI.o.keep (hkw _)) ((Blk.new wr 217 #[.I a,.I b]).keep (Kept.drew _ _)) ((HEI.o.alloc (.cells #[.I a,.I b] 217)).drew);have hsW:(wr.alloc (.cells #[.I a,.I b] 217)).drew.heap.size=wr.heap.size+1:=Y3;clear hkw hcell d2;generalize (wr.alloc (.cells #[.I a,.I b] 217)).drew=W at *;have hszW:wo.heap.size<W.heap.size:=Y4;have hzW:wr.heap.size<W.heap.size:=Y4;clear hsW;have hlk:(Instr.lookup 216 (.map (some wo.heap.size)) (.agg #[.I a,.I b]) true).run prog W=.ok (.tuple #[(Cf m (a,b)).getD (.I 0),.bool (Cf m (a,b)).isSome]) W:=MapIs.get2 HMI2.o underlying216 (ST underlying217 underlying3 (fun w=>Y11)) (.I 0) Ug (a,b);obtain ⟨x0,x1⟩:=HBB.o.qs2;have hgc:W.cell? ⟨w.heap.size,r,none⟩=some (.I (cur.getD r 0)):=by
      refine HBI2.o.cell ?_;exact Z91
     have hgf:=HBI2.o.frozen r;have hgz:=HBI2.o.lt;have hfin:∀ (W':World) (m':List ((Int × Int) × Value)) (g:Int),W.grownBy W' (some wo.heap.size)→MapIs W' wo.heap.size (fun p:Int × Int=>Value.agg #[.I p.1,.I p.2]) m'→m'.length≤r+1→GRel n (r+1) gs ls[k] (cur.set r g) m' →
       ∃ (cur':List Int) (m'':List ((Int × Int) × Value)),Ext w (W'.setCell ⟨w.heap.size,r,none⟩ (.I g))∧wo.heap.size<(W'.setCell ⟨w.heap.size,r,none⟩ (.I g)).heap.size∧Blk (W'.setCell ⟨w.heap.size,r,none⟩ (.I g)) w.heap.size 3 (cur'.map (Value.int .i64)).toArray∧MapIs (W'.setCell ⟨w.heap.size,r,none⟩ (.I g)) wo.heap.size (fun p:Int × Int=>Value.agg #[.I p.1,.I p.2]) m''∧m''.length≤r+1∧GRel n (r+1) gs ls[k] cur' m'':=by
      intro W' m' g hg hm hl2 hrl2;have hsz':=hg.size;refine ⟨cur.set r g,m',(HEI2.o.grown hg (fun b hb=>Y28)).set2 (AS) _,by simp [World.setCell];omega,?_,hm.keep (Kept.set2 (Kept.refl _ _) (by show ¬(_=_);omega)),hl2,hrl2⟩;have:=(HBI2.o.keep (w':=W') (Kept.of_grown hg (by rintro b rfl _ e;injection e with e;omega))).set r (.I g);have he:(cur.map (Value.int .i64)).toArray.setIfInBounds r (.I g)=((cur.set r g).map (Value.int .i64)).toArray:=(by simp [List.map_set]);rw [he] at this;exact this
     have HFIN:=Hd hfin;clear hfin;cases hmg:Cf m (a,b) with
     |none =>
      rw [hmg] at hlk;obtain ⟨w5,hup,hmap5,hg5⟩:=HMI2.o.put underlying216 (ST underlying217 underlying3 (fun w=>Y11)) (a,b) (.I (m.length:Int));have hlen5:=MapIs.len HMI2.o (P:=prog) underlying216 3;obtain ⟨HMG,HM5,HG5⟩:=Hd3 hmg hmap5 hg5;have hc5:w5.cell? ⟨w.heap.size,r,none⟩=some (.I (cur.getD r 0)):=(by rw [World.cell?_of_block (hg5.block w.heap.size hgz (fun e=>Y29))];exact hgc);have hf5:w5.frozen? ⟨w.heap.size,r,none⟩=false:=(by rw [World.frozen?_of_block (hg5.block w.heap.size hgz (fun e=>Y29))];exact hgf);simp only [Option.getD_none,Option.isSome_none] at hlk;simp only at hup;clear hmg hmap5 hg5 hgc hgf;go_wp2;go_roundw
      case rel =>
       have hk5:Cf m (gs.getD r 0,ls[k].getD r 0)=none:=(by rw [←HAB.o.1,←HAB.o.2];exact HMG.o);have hm5:=HM5.o;rw [HAB.o.1,HAB.o.2] at hm5;obtain ⟨cur',m'',e1⟩:=HFIN.o w5 _ (m.length:Int) HG5.o hm5 (by rw [Ns,hk5];simp;omega) (HRI.o.new hlt2 hk5);exact ⟨r+1,cur',m'',Y4,Y5,e1⟩
      case measure=>simp [intOf];omega
     |some v =>
      obtain ⟨i,hi,rfl⟩:=HRI.o.range _ _ hmg;rw [hmg] at hlk;have HMG:=Hd hmg;simp only [Option.getD_some,Option.isSome_some] at hlk;clear hmg;go_wp2;go_roundw
      case rel =>
       have hk5:Cf m (gs.getD r 0,ls[k].getD r 0)=some (.I (i:Int)):=(by rw [←HAB.o.1,←HAB.o.2];exact HMG.o);obtain ⟨cur',m'',e1⟩:=HFIN.o W m (i:Int) (World.grownBy.refl W _) HMI2.o Y4 (HRI.o.old hlt2 hk5);exact ⟨r+1,cur',m'',Y4,Y5,e1⟩
      case measure=>simp [intOf];omega
    ·obtain rfl:r=n:=Y4;clear hexi hbli hmpi;go_wp2;go_roundw
     case rel=>exact ⟨k+1,cur,Y4,Y5,HEI.o,HBI.o,GRel.fin hlt HRI.o HGR.o⟩
     case measure=>simp [intOf];omega
  ·obtain rfl:k=ls.length:=Y4;have hgg:=HGR.o;rw [List.take_of_length_le (AS)] at hgg;have HGG:=Hd hgg;have HGL:=Hd hgl;clear hgg hgl hext;go_wp2;go_ret;refine ⟨gs,HGG.o,some ⟨w.heap.size,0,none⟩,n,by rw [HGL.o];rfl,by rw [HGL.o];exact AS,⟨?_,by rw [HGL.o];exact hn⟩,HE.o⟩;have:=HBK.o.rd.mono (T:=Av w) (fun i _ hi=>Y30)
   simpa using this
end Go.Proofs.YtidacnalcdhckaaGreatDoor
