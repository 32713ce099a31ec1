/- Names and texts: value.letter, value.isName, value.isText answer by the bytes alone. No conditions but a bound on the text's size. -/
import Derived.Test.YtomdpipekmcojaaGreatDoorBk1
import Derived.MapKept
import Derived.Maps.Keyed
namespace Go.Proofs.YtomdpipekmcojaaGreatDoor
open Go Go.RowKit

def textC (c:Int):Bool:=decide (32≤c∧c≤126)
def bs (s:ByteArray):List Int:=s.data.toList.map fun c=>(c.toNat:Int)
theorem bs_len (s:ByteArray):(bs s).length=s.size:=by simp [bs]
theorem bs_at (s:ByteArray) (k:Nat) (h:k<s.size):(bs s)[k]'(by rw [bs_len]; exact h)=(s[k].toNat:Int):=by simp [bs]; rfl
def textB (s:ByteArray):Bool:=decide (s.size≤200) && (bs s).all textC
def SameB (w:World) (b:Bool) (e:Ending) (w':World):Prop:=e=.returned (.bool b)∧w=w'
theorem all_take {α:Type} (l:List α) (p:α→Bool):(∀ j (h:j<l.length),p l[j]=true)→l.all p=true:=by
 intro h;rw [List.all_eq_true];intro x hx;obtain ⟨i,hi,rfl⟩:=List.mem_iff_getElem.1 hx;exact h i hi
theorem all_not {α:Type} (l:List α) (p:α→Bool) (j:Nat) (h:j<l.length) (hp:p l[j]=false):l.all p=false:=by
 rw [List.all_eq_false];exact ⟨l[j],List.getElem_mem h,by simp [hp]⟩

set_option maxRecDepth 100000 in
set_option maxHeartbeats 400000 in
theorem value_isText (s:ByteArray) (hs:s.size≤4294967296) (w:World):Calls Tryz.prog 146 #[.string s] w (SameB w (textB s)):=by
 go_enter Tryz.func146,Tryz.ntmps146
 go_wp2
 go_loop [6] (fun i=>∃ k:Nat,k≤s.size∧i=.int .i64 k∧∀ j (h:j<s.size),j<k→textC (s[j].toNat:Int)=true) (fun i=>s.size-(intOf i).toNat)
 case atStart=>exact ⟨0,Nat.zero_le _,rfl,by intros; omega⟩
 case round =>
  obtain ⟨k,hk,rfl,hall⟩:=hrel;have HA:=Hd hall;clear hall;by_cases hlt:k<s.size
  ·by_cases ht:32≤(s[k].toNat:Int)∧(s[k].toNat:Int)≤126
   ·obtain ⟨h1,h2⟩:=ht;go_wp2
    go_round
    case rel =>
     refine ⟨k+1,by omega,by go_num,fun j h hj => ?_⟩;by_cases hjk:j=k
     ·subst hjk;simp [textC];omega
     ·exact HA.o j h (by omega)
    case measure=>simp [intOf]; omega
   ·have hf:textB s=false:=by
     unfold textB;rw [all_not (bs s) textC k (by rw [bs_len]; exact hlt) (by rw [bs_at s k hlt]; simp only [textC,decide_eq_false_iff_not]; exact ht)];simp
    have HF:=Hd hf;clear hf;by_cases h1:32≤(s[k].toNat:Int)
    all_goals
     go_wp2;go_ret;exact ⟨by rw [HF.o]; rfl,rfl⟩
  ·have hf:textB s=decide (s.size≤200):=by
    unfold textB;rw [all_take (bs s) textC (fun j h=>by rw [bs_len] at h; rw [bs_at s j h]; exact HA.o j h (by omega))];simp
   have HF:=Hd hf;clear hf;go_wp2;go_ret;exact ⟨by rw [HF.o]; simp; omega,rfl⟩

/- slices.Index and Contains of texts; which decimals and plain values are right. No conditions but that the arguments read as data. -/

def SameI (w:World) (n:Int) (e:Ending) (w':World):Prop:=e=.returned (.int .i64 n)∧w=w'
def RetI (w:World) (n:Int) (e:Ending) (w':World):Prop:=e=.returned (.int .i64 n)∧Ext w w'
theorem bytes_nil (s:ByteArray):s.toList=[]↔s=⟨#[]⟩:=by
 rw [ByteArray.toList_eq];constructor
 ·intro h;cases s;simp at h;rw [h]
 ·rintro rfl; rfl

def unitsB (n:Int):Bool:=decide (-1000000000000000≤n∧n≤1000000000000000)
def decR (n s:Int):Bool:=decide (0≤s∧s≤6) && unitsB n && decide (s=0∨n.tmod 10≠0)
set_option maxRecDepth 100000 in
set_option maxHeartbeats 400000 in
theorem decimal_within (n:Int) (w:World):Calls Tryz.prog 194 #[.int .i64 n] w (SameB w (unitsB n)):=by
 by_cases h1:-1000000000000000≤n
 ·by_cases h2:n≤1000000000000000
  ·have h:unitsB n=true:=(by simp [unitsB,h1,h2]);have H:=Hd h;clear h
   go_enter Tryz.func194,Tryz.ntmps194
   go_wp2;go_ret;exact ⟨by rw [H.o]; rfl,rfl⟩
  ·have h:unitsB n=false:=(by simp [unitsB,h1,h2]);have H:=Hd h;clear h
   go_enter Tryz.func194,Tryz.ntmps194
   go_wp2;go_ret;exact ⟨by rw [H.o]; rfl,rfl⟩
 ·have h:unitsB n=false:=(by simp [unitsB,h1]);have H:=Hd h;clear h
  go_enter Tryz.func194,Tryz.ntmps194
  go_wp2;go_ret;exact ⟨by rw [H.o]; rfl,rfl⟩

set_option maxRecDepth 100000 in
set_option maxHeartbeats 400000 in
theorem decimal_Right (n s:Int) (w:World):Calls Tryz.prog 147 #[.agg #[.int .i64 n,.int .i64 s]] w (RetB w (decR n s)):=by
 cases hu:unitsB n
 all_goals
  have HU:=Hd hu;clear hu
  go_enter Tryz.func147,Tryz.ntmps147
  go_wp2_with (go_at_call 194; refine (decimal_within _ _).mono ?_; rintro e w' ⟨rfl,rfl⟩; rw [HU.o])
  all_goals
   go_ret;refine ⟨?_,(Ext.refl _).alloc _⟩;simp only [decR,HU.o];simp
   first | done | omega | (rw [Bool.eq_iff_iff]; simp; omega)

def bareB (x:Val):Bool:=decide (x.s=⟨#[]⟩∧x.dn=0∧x.ds=0∧x.n=0∧x.cols=[]∧x.rows=[])
set_option maxRecDepth 100000 in
set_option maxHeartbeats 400000 in
theorem value_bare (x:Val) (A B:Option Addr) (c e:Nat) (w:World):Calls Tryz.prog 145 #[(.agg #[.int .i64 x.kind,.string x.s,.int .i64 x.dn,.int .i64 x.ds,.int .i64 x.n,.slice A x.cols.length c,.slice B x.rows.length e])] w (RetB w (bareB x)):=by
 go_enter Tryz.func145,Tryz.ntmps145
 go_wp2
 all_goals
  go_ret;refine ⟨?_,(Ext.refl _).alloc _⟩;simp_all [bareB,← bytes_nil]
  try (rw [Bool.eq_iff_iff]; simp [List.length_eq_zero_iff])

def flatB (x:Val):Bool :=
 if x.kind=0 then decide (0≤x.n∧x.n≤99) && bareB { x with n:=0 }
 else if x.kind=1 then textB x.s && bareB { x with s:=⟨#[]⟩ }
 else if x.kind=2 then decR x.dn x.ds && bareB { x with dn:=0,ds:=0 }
 else if x.kind=3 then decide (0≤x.n∧x.n≤3652058) && bareB { x with n:=0 }
 else if x.kind=4 then decide (x.n=0∨x.n=1) && bareB { x with n:=0 }
 else false

set_option maxRecDepth 100000 in
set_option maxHeartbeats 400000 in
theorem value_Right_0 (x:Val) (A B:Option Addr) (c e:Nat) (w:World) (hk:x.kind=0) (_hs:x.s.size≤4294967296):Calls Tryz.prog 102 #[(.agg #[.int .i64 x.kind,.string x.s,.int .i64 x.dn,.int .i64 x.ds,.int .i64 x.n,.slice A x.cols.length c,.slice B x.rows.length e])] w (RetB w (flatB x)):=by
 have hf:flatB x=(decide (0≤x.n∧x.n≤99) && bareB { x with n:=0 }):=(by simp [flatB,hk]);have HF:=Hd hf;have k0:(x.kind==0)=true:=(by simp [hk]);have k1:(x.kind==1)=false:=(by simp [hk]);have k2:(x.kind==2)=false:=(by simp [hk]);have k3:(x.kind==3)=false:=(by simp [hk]);have k4:(x.kind==4)=false:=(by simp [hk]);have k5:(x.kind==5)=false:=(by simp [hk]);clear hf hk;by_cases h1:0≤x.n
 ·by_cases h2:x.n≤99
  ·go_enter Tryz.func102,Tryz.ntmps102
   go_wp2_with fail
   refine (value_bare { x with n:=0 } A B c e _).mono ?_;rintro e1 w1 ⟨rfl,hx1⟩;have HX:=Hd hx1;clear hx1;go_wp2;go_ret;exact ⟨by rw [HF.o]; simp [h1,h2],Ext.trans (((Ext.refl w).alloc _).alloc _) HX.o⟩
  ·go_enter Tryz.func102,Tryz.ntmps102
   go_wp2;go_ret;exact ⟨by rw [HF.o,decide_eq_false (by omega),Bool.false_and]; rfl,((Ext.refl w).alloc _).alloc _⟩
 ·go_enter Tryz.func102,Tryz.ntmps102
  go_wp2;go_ret;exact ⟨by rw [HF.o,decide_eq_false (by omega),Bool.false_and]; rfl,((Ext.refl w).alloc _).alloc _⟩

set_option maxRecDepth 100000 in
set_option maxHeartbeats 400000 in
theorem value_Right_1 (x:Val) (A B:Option Addr) (c e:Nat) (w:World) (hk:x.kind=1) (hs:x.s.size≤4294967296):Calls Tryz.prog 102 #[(.agg #[.int .i64 x.kind,.string x.s,.int .i64 x.dn,.int .i64 x.ds,.int .i64 x.n,.slice A x.cols.length c,.slice B x.rows.length e])] w (RetB w (flatB x)):=by
 have hf:flatB x=(textB x.s && bareB { x with s:=⟨#[]⟩ }):=(by simp [flatB,hk]);have HF:=Hd hf;have k0:(x.kind==0)=false:=(by simp [hk]);have k1:(x.kind==1)=true:=(by simp [hk]);have k2:(x.kind==2)=false:=(by simp [hk]);have k3:(x.kind==3)=false:=(by simp [hk]);have k4:(x.kind==4)=false:=(by simp [hk]);have k5:(x.kind==5)=false:=(by simp [hk]);clear hf hk;cases ht:textB x.s
 ·have HT:=Hd ht;clear ht
  go_enter Tryz.func102,Tryz.ntmps102
  go_wp2_with (go_at_call 146; refine (value_isText _ hs _).mono ?_; rintro e w' ⟨rfl,rfl⟩; rw [HT.o])
  go_ret;exact ⟨by rw [HF.o,HT.o]; rfl,((Ext.refl w).alloc _).alloc _⟩
 ·have HT:=Hd ht;clear ht
  go_enter Tryz.func102,Tryz.ntmps102
  go_wp2_with (go_at_call 146; refine (value_isText _ hs _).mono ?_; rintro e w' ⟨rfl,rfl⟩; rw [HT.o])
  refine (value_bare { x with s:=⟨#[]⟩ } A B c e _).mono ?_;rintro e1 w1 ⟨rfl,hx1⟩;have HX:=Hd hx1;clear hx1;go_wp2;go_ret;exact ⟨by rw [HF.o,HT.o]; rfl,Ext.trans (((Ext.refl w).alloc _).alloc _) HX.o⟩

set_option maxRecDepth 100000 in
set_option maxHeartbeats 400000 in
theorem value_Right_2 (x:Val) (A B:Option Addr) (c e:Nat) (w:World) (hk:x.kind=2) (_hs:x.s.size≤4294967296):Calls Tryz.prog 102 #[(.agg #[.int .i64 x.kind,.string x.s,.int .i64 x.dn,.int .i64 x.ds,.int .i64 x.n,.slice A x.cols.length c,.slice B x.rows.length e])] w (RetB w (flatB x)):=by
 have hf:flatB x=(decR x.dn x.ds && bareB { x with dn:=0,ds:=0 }):=(by simp [flatB,hk]);have HF:=Hd hf;have k0:(x.kind==0)=false:=(by simp [hk]);have k1:(x.kind==1)=false:=(by simp [hk]);have k2:(x.kind==2)=true:=(by simp [hk]);have k3:(x.kind==3)=false:=(by simp [hk]);have k4:(x.kind==4)=false:=(by simp [hk]);have k5:(x.kind==5)=false:=(by simp [hk]);clear hf hk
 go_enter Tryz.func102,Tryz.ntmps102
 go_wp2_with fail
 refine (decimal_Right x.dn x.ds _).mono ?_;rintro e1 w1 ⟨rfl,hx1⟩;obtain ⟨hc1,hf1⟩:=bcell hx1;have hz1:=hx1.size;simp at hc1 hf1 hz1;have hz2:w.heap.size<w1.heap.size:=(by omega);have hz3:w.heap.size+1<w1.heap.size:=(by omega);have HX:=Hd hx1;cases ht:decR x.dn x.ds
 ·have HT:=Hd ht;clear ht hx1;go_wp2;go_ret;exact ⟨by rw [HF.o,HT.o]; rfl,Ext.trans ((((Ext.refl w).alloc _).alloc _)) HX.o⟩
 ·have HT:=Hd ht;clear ht hx1
  go_wp2_with fail
  refine (value_bare { x with dn:=0,ds:=0 } A B c e _).mono ?_;rintro e1 w2 ⟨rfl,hx2⟩;have HX2:=Hd hx2;clear hx2;go_wp2;go_ret;exact ⟨by rw [HF.o,HT.o]; rfl,Ext.trans (((Ext.refl w).alloc _).alloc _) (Ext.trans HX.o HX2.o)⟩

set_option maxRecDepth 100000 in
set_option maxHeartbeats 400000 in
theorem value_Right_3 (x:Val) (A B:Option Addr) (c e:Nat) (w:World) (hk:x.kind=3) (_hs:x.s.size≤4294967296):Calls Tryz.prog 102 #[(.agg #[.int .i64 x.kind,.string x.s,.int .i64 x.dn,.int .i64 x.ds,.int .i64 x.n,.slice A x.cols.length c,.slice B x.rows.length e])] w (RetB w (flatB x)):=by
 have hf:flatB x=(decide (0≤x.n∧x.n≤3652058) && bareB { x with n:=0 }):=(by simp [flatB,hk]);have HF:=Hd hf;have k0:(x.kind==0)=false:=(by simp [hk]);have k1:(x.kind==1)=false:=(by simp [hk]);have k2:(x.kind==2)=false:=(by simp [hk]);have k3:(x.kind==3)=true:=(by simp [hk]);have k4:(x.kind==4)=false:=(by simp [hk]);have k5:(x.kind==5)=false:=(by simp [hk]);clear hf hk;by_cases h1:0≤x.n
 ·by_cases h2:x.n≤3652058
  ·go_enter Tryz.func102,Tryz.ntmps102
   go_wp2_with fail
   refine (value_bare { x with n:=0 } A B c e _).mono ?_;rintro e1 w1 ⟨rfl,hx1⟩;have HX:=Hd hx1;clear hx1;go_wp2;go_ret;exact ⟨by rw [HF.o]; simp [h1,h2],Ext.trans (((Ext.refl w).alloc _).alloc _) HX.o⟩
  ·go_enter Tryz.func102,Tryz.ntmps102
   go_wp2;go_ret;exact ⟨by rw [HF.o,decide_eq_false (by omega),Bool.false_and]; rfl,((Ext.refl w).alloc _).alloc _⟩
 ·go_enter Tryz.func102,Tryz.ntmps102
  go_wp2;go_ret;exact ⟨by rw [HF.o,decide_eq_false (by omega),Bool.false_and]; rfl,((Ext.refl w).alloc _).alloc _⟩

set_option maxRecDepth 100000 in
set_option maxHeartbeats 400000 in
theorem value_Right_4 (x:Val) (A B:Option Addr) (c e:Nat) (w:World) (hk:x.kind=4) (_hs:x.s.size≤4294967296):Calls Tryz.prog 102 #[(.agg #[.int .i64 x.kind,.string x.s,.int .i64 x.dn,.int .i64 x.ds,.int .i64 x.n,.slice A x.cols.length c,.slice B x.rows.length e])] w (RetB w (flatB x)):=by
 have hf:flatB x=(decide (x.n=0∨x.n=1) && bareB { x with n:=0 }):=(by simp [flatB,hk]);have HF:=Hd hf;have k0:(x.kind==0)=false:=(by simp [hk]);have k1:(x.kind==1)=false:=(by simp [hk]);have k2:(x.kind==2)=false:=(by simp [hk]);have k3:(x.kind==3)=false:=(by simp [hk]);have k4:(x.kind==4)=true:=(by simp [hk]);have k5:(x.kind==5)=false:=(by simp [hk]);clear hf hk;by_cases h1:x.n=0
 ·have h3:(x.n==0)=true:=(by simp [h1]);have H1:=Hd h1;clear h1
  go_enter Tryz.func102,Tryz.ntmps102
  go_wp2_with fail
  refine (value_bare { x with n:=0 } A B c e _).mono ?_;rintro e1 w1 ⟨rfl,hx1⟩;have HX:=Hd hx1;clear hx1;go_wp2;go_ret;exact ⟨by rw [HF.o]; simp [H1.o],Ext.trans (((Ext.refl w).alloc _).alloc _) HX.o⟩
 ·have h3:(x.n==0)=false:=(by simp [h1]);by_cases h2:x.n=1
  ·have h4:(x.n==1)=true:=(by simp [h2]);have H1:=Hd h2;clear h1 h2
   go_enter Tryz.func102,Tryz.ntmps102
   go_wp2_with fail
   refine (value_bare { x with n:=0 } A B c e _).mono ?_;rintro e1 w1 ⟨rfl,hx1⟩;have HX:=Hd hx1;clear hx1;go_wp2;go_ret;exact ⟨by rw [HF.o]; simp [H1.o],Ext.trans (((Ext.refl w).alloc _).alloc _) HX.o⟩
  ·have h4:(x.n==1)=false:=by simp [h2]
   go_enter Tryz.func102,Tryz.ntmps102
   go_wp2;go_ret;exact ⟨by rw [HF.o]; simp [h1,h2],((Ext.refl w).alloc _).alloc _⟩

set_option maxRecDepth 100000 in
set_option maxHeartbeats 400000 in
theorem value_Right_x (x:Val) (A B:Option Addr) (c e:Nat) (w:World) (h0:x.kind≠0) (h1:x.kind≠1) (h2:x.kind≠2) (h3:x.kind≠3) (h4:x.kind≠4) (h5:x.kind≠5):Calls Tryz.prog 102 #[(.agg #[.int .i64 x.kind,.string x.s,.int .i64 x.dn,.int .i64 x.ds,.int .i64 x.n,.slice A x.cols.length c,.slice B x.rows.length e])] w (RetB w (flatB x)):=by
 have hf:flatB x=false:=(by simp [flatB,h0,h1,h2,h3,h4]);have HF:=Hd hf;have k0:(x.kind==0)=false:=(by simp [h0]);have k1:(x.kind==1)=false:=(by simp [h1]);have k2:(x.kind==2)=false:=(by simp [h2]);have k3:(x.kind==3)=false:=(by simp [h3]);have k4:(x.kind==4)=false:=(by simp [h4]);have k5:(x.kind==5)=false:=(by simp [h5]);clear hf h0 h1 h2 h3 h4 h5
 go_enter Tryz.func102,Tryz.ntmps102
 go_wp2;go_ret;exact ⟨by rw [HF.o]; rfl,((Ext.refl w).alloc _).alloc _⟩

theorem value_Right_flat (x:Val) (A B:Option Addr) (c e:Nat) (w:World) (h5:x.kind≠5) (hs:x.s.size≤4294967296):Calls Tryz.prog 102 #[(.agg #[.int .i64 x.kind,.string x.s,.int .i64 x.dn,.int .i64 x.ds,.int .i64 x.n,.slice A x.cols.length c,.slice B x.rows.length e])] w (RetB w (flatB x)):=by
 by_cases h0:x.kind=0
 ·exact value_Right_0 x A B c e w h0 hs
 by_cases h1:x.kind=1
 ·exact value_Right_1 x A B c e w h1 hs
 by_cases h2:x.kind=2
 ·exact value_Right_2 x A B c e w h2 hs
 by_cases h3:x.kind=3
 ·exact value_Right_3 x A B c e w h3 hs
 by_cases h4:x.kind=4
 ·exact value_Right_4 x A B c e w h4 hs
 exact value_Right_x x A B c e w h0 h1 h2 h3 h4 h5
/- Which tables are right: value.rightTable, value.Right. No conditions but that the arguments read as data. -/

theorem Strs.take {w:World} {S:Nat→Prop} {A:Option Addr} {l:List ByteArray} (h:Strs w S A l) (k:Nat):Strs w S A (l.take k) :=
 ⟨by rw [List.map_take]; exact h.1.take k,by rw [List.length_take]; have:=h.2.1; omega,fun s hs=>h.2.2 s (List.mem_of_mem_take hs)⟩
theorem getD_of {α:Type} (l:List α) (i:Nat) (z:α) (h:i<l.length):l.getD i z=l[i]:=by simp [h]

/- The program's table.isName, is, Right, isTable and Find. No conditions but that the arguments read as data. -/

def Val.zero:Val:=⟨0,⟨#[]⟩,0,0,0,[],[]⟩
structure Look where
 name:ByteArray
 cols:List ByteArray
 rows:List (List Val)
def RL (w:World) (S:Nat→Prop) (d:Nat) (t:Look) (A B:Option Addr):Prop:=t.name.size≤4294967296∧Strs w S A t.cols∧Rows w S d B t.rows
theorem RL.keep {w w':World} {S:Nat→Prop} {d:Nat} {t:Look} {A B:Option Addr} (h:RL w S d t A B) (k:Kept S w w'):RL w' S d t A B:=⟨h.1,h.2.1.keep k,h.2.2.keep k⟩
theorem RL.mono {w:World} {S T:Nat→Prop} {d:Nat} {t:Look} {A B:Option Addr} (h:RL w S d t A B) (k:∀ i,i<w.heap.size→S i→T i):RL w T d t A B:=⟨h.1,h.2.1.mono k,h.2.2.mono k⟩
theorem Rows.nil {w:World} {S:Nat→Prop} {d:Nat} {B:Option Addr} : Rows w S d B []:=⟨by simp,[],Or.inl rfl,by simp,by simp⟩
theorem RV.zero {w:World} {S:Nat→Prop} {d:Nat} {A B:Option Addr} : RV w S d Val.zero A B:=RV.mk (Nat.zero_le _) Strs.nil Rows.nil
def tabV (cols:List ByteArray) (rows:List (List Val)):Val:=⟨5,⟨#[]⟩,0,0,0,cols,rows⟩
theorem RL.val {w:World} {S:Nat→Prop} {d:Nat} {t:Look} {A B:Option Addr} (h:RL w S d t A B):RV w S d (tabV t.cols t.rows) A B:=RV.mk (Nat.zero_le _) h.2.1 h.2.2
/- The program's table.isTable and table.Find. No conditions but that the arguments read as data. -/

end Go.Proofs.YtomdpipekmcojaaGreatDoor
/- Maps as lists of pairs: lookup, update and length, for keys that are ints, texts or pairs of ints. No conditions. -/
namespace Go.Proofs.YtomdpipekmcojaaGreatDoor
open Go Go.RowKit Go.MapKept

def fnd {K:Type} [DecidableEq K] (x:K):List (K × Value)→Nat→Option (Nat × Value)
 | [],_=>none
 | p :: l,i=>if p.1=x then some (i,p.2) else fnd x l (i+1)
theorem fnd_some {K:Type} [DecidableEq K] {x:K} {l:List (K × Value)} {j i:Nat} {v:Value} (h:fnd x l j=some (i,v)):j≤i∧l[i-j]?=some (x,v):=by
 induction l generalizing j with
 | nil=>simp [fnd] at h
 | cons p l ih =>
  unfold fnd at h;split at h
  ·rename_i hp;simp at h;obtain ⟨rfl,rfl⟩:=h;exact ⟨Nat.le_refl _,by simp [← hp]⟩
  ·obtain ⟨h1,h2⟩:=ih h;refine ⟨by omega,?_⟩;rw [show i-j=(i-(j+1))+1 by omega,List.getElem?_cons_succ];exact h2
theorem fnd_no {K:Type} [DecidableEq K] {x:K} {l:List (K × Value)} {j:Nat} (h:fnd x l j=none):∀ p∈l,p.1≠x:=by
 induction l generalizing j with
 | nil=>simp
 | cons p l ih =>
  unfold fnd at h;split at h
  ·cases h
  ·rename_i hp;intro q hq
   rcases List.mem_cons.1 hq with rfl | hq
   ·exact hp
   ·exact ih h q hq
def mget {K:Type} [DecidableEq K] (m:List (K × Value)) (k:K):Option Value:=(fnd k m 0).map (·.2)
def mput {K:Type} [DecidableEq K] (m:List (K × Value)) (k:K) (v:Value):List (K × Value) :=
 match fnd k m 0 with
 | some (i,_)=>m.set i (k,v)
 | none=>m++[(k,v)]
structure KL (P:Program) (kt:TypeId) {K:Type} [DecidableEq K] (enc:K→Value):Prop where
 check:∀ (w:World) (em:Bool) (x:K),(Instr.checkKey em 10000 kt (enc x)).run P w=.ok () w
 find:∀ (w:World) (x:K) (l:List (K × Value)) (es:List MapEntry),es.map (fun e=>(e.key,e.val))=l.map (fun p=>(enc p.1,p.2))→(Instr.findKey kt (enc x) es).run P w=.ok (fnd x l 0) w
 stays:∀ (w:World) (x:K),(Instr.keyThatStays (enc x) (enc x)).run P w=.ok (enc x) w
 inj:∀ x y:K,enc x=enc y→x=y
def MapIs {K:Type} (w:World) (b:Nat) (enc:K→Value) (m:List (K × Value)):Prop :=
 ∃ es clock,w.heap[b]?=some (.map es clock)∧es.toList.map (fun e=>(e.key,e.val))=m.map (fun p=>(enc p.1,p.2))∧Stamped es clock
theorem go_map {P:Program} {w:World} {b:Nat} {es:Array MapEntry} {cl:Nat} (h:w.heap[b]?=some (.map es cl)):(getObj b).run P w=.ok (.map es cl) w:=by simp [getObj,Sem.run,h]
theorem set_map {P:Program} {w:World} {b:Nat} {es:Array MapEntry} {cl:Nat} (o:Obj) (h:w.heap[b]?=some (.map es cl)):(setObj b o).run P w=.ok () { w with heap:=w.heap.setIfInBounds b o }:=by simp [setObj,Sem.run,h]
section
variable {P:Program} {K:Type} {enc:K→Value} {w w':World} {b:Nat} {m:List (K × Value)}
theorem MapIs.keep (h:MapIs w b enc m) (hk:Kept (fun i=>i=b) w w'):MapIs w' b enc m:=by
 obtain ⟨es,cl,h1,h2,hst⟩:=h;refine ⟨es,cl,?_,h2,hst⟩;have hlt:b<w.heap.size:=by
  rcases Nat.lt_or_ge b w.heap.size with h3 | h3
  ·exact h3
  ·rw [Array.getElem?_eq_none h3] at h1; cases h1
 rw [hk.2 b rfl hlt]; exact h1
theorem MapIs.lt (h:MapIs w b enc m):b<w.heap.size:=by
 obtain ⟨es,cl,h1,_,_⟩:=h
 rcases Nat.lt_or_ge b w.heap.size with h3 | h3
 ·exact h3
 ·rw [Array.getElem?_eq_none h3] at h1; cases h1
theorem MapIs.made (w:World) (enc:K→Value):MapIs (w.alloc (.map #[] 0)) w.heap.size enc []:=⟨#[],0,heap_alloc_new w _,rfl,stamped_empty 0⟩
theorem MapIs.len (h:MapIs w b enc m) {t kt et:TypeId} (ht:P.underlying t=some (.map kt et)) (ty:TypeId):(Builtin.len_ #[t] ty #[.map (some b)]).run P w=.ok (.int .i64 (m.length:Int)) w:=by
 obtain ⟨es,cl,h1,h2,hst⟩:=h;have hl:es.size=m.length:=by
  have:=congrArg List.length h2
  simpa using this
 simp [Builtin.len_,run_underlying ht,go_map h1,goInt,hl]
theorem MapIs.get [DecidableEq K] (h:MapIs w b enc m) {t kt et:TypeId} (ht:P.underlying t=some (.map kt et)) (kl:KL P kt enc) (z:Value) (hz:∀ w:World,(zeroValue et).run P w=.ok z w) (x:K) :
  (Instr.lookup t (.map (some b)) (enc x) false).run P w=.ok ((mget m x).getD z) w:=by
 obtain ⟨es,cl,h1,h2,hst⟩:=h;have hf:=kl.find w x m es.toList h2;unfold mget;cases hq:fnd x m 0 with
 | none=>rw [hq] at hf; simp [Instr.lookup,run_underlying ht,go_map h1,kl.check,hf,hz]
 | some p=>rw [hq] at hf; simp [Instr.lookup,run_underlying ht,go_map h1,kl.check,hf]
theorem MapIs.get2 [DecidableEq K] (h:MapIs w b enc m) {t kt et:TypeId} (ht:P.underlying t=some (.map kt et)) (kl:KL P kt enc) (z:Value) (hz:∀ w:World,(zeroValue et).run P w=.ok z w) (x:K) :
  (Instr.lookup t (.map (some b)) (enc x) true).run P w=.ok (.tuple #[(mget m x).getD z,.bool (mget m x).isSome]) w:=by
 obtain ⟨es,cl,h1,h2,hst⟩:=h;have hf:=kl.find w x m es.toList h2;unfold mget;cases hq:fnd x m 0 with
 | none=>rw [hq] at hf; simp [Instr.lookup,run_underlying ht,go_map h1,kl.check,hf,hz]
 | some p=>rw [hq] at hf; simp [Instr.lookup,run_underlying ht,go_map h1,kl.check,hf]
theorem MapIs.put [DecidableEq K] (h:MapIs w b enc m) {t kt et:TypeId} (ht:P.underlying t=some (.map kt et)) (kl:KL P kt enc) (x:K) (v:Value) :
  ∃ w',(Instr.mapUpdate t (.map (some b)) (enc x) v).run P w=.ok () w'∧MapIs w' b enc (mput m x v)∧w.grownBy w' (some b):=by
 obtain ⟨es,cl,h1,h2,hst⟩:=h;have hf:=kl.find w x m es.toList h2;have hlt:b<w.heap.size:=by
  rcases Nat.lt_or_ge b w.heap.size with h3 | h3
  ·exact h3
  ·rw [Array.getElem?_eq_none h3] at h1; cases h1
 have hg:∀ o:Obj,w.grownBy { w with heap:=w.heap.setIfInBounds b o } (some b):=fun o =>
  ⟨rfl,rfl,rfl,by simp,fun k _ hk=>by rw [Array.getElem?_setIfInBounds,if_neg (fun e=>hk (by rw [e]))]⟩
 unfold mput;cases hq:fnd x m 0 with
 | none =>
  rw [hq] at hf;refine ⟨{ w with heap:=w.heap.setIfInBounds b (.map (es.push { key:=enc x,val:=v,born:=cl }) (cl+1)) },by simp [Instr.mapUpdate,run_underlying ht,go_map h1,kl.check,hf,set_map _ h1],⟨es.push { key:=enc x,val:=v,born:=cl },cl+1,by simp [hlt],by simp [h2],stamped_push hst (fun e he hk => ?_)⟩,hg _⟩;have h5:(e.key,e.val)∈es.toList.map (fun e=>(e.key,e.val)):=List.mem_map_of_mem he;rw [h2] at h5;obtain ⟨p,hp,hpe⟩:=List.mem_map.1 h5;injection hpe with hpe _;exact fnd_no hq p hp (kl.inj _ _ (hpe.trans hk))
 | some p =>
  obtain ⟨i,u⟩:=p;rw [hq] at hf;obtain ⟨_,hi⟩:=fnd_some hq;simp at hi;have hes:(es.toList.map (fun e=>(e.key,e.val)))[i]?=some (enc x,u):=(by rw [h2]; simp [hi]);have hil:i<es.size:=by
   have:=(List.getElem?_eq_some_iff.1 hes).1
   simpa using this
  have hek:es[i].key=enc x:=by
   simp [hil] at hes;exact hes.1
  refine ⟨{ w with heap:=w.heap.setIfInBounds b (.map (es.modify i fun e => { e with key:=enc x,val:=v }) cl) },by simp [Instr.mapUpdate,run_underlying ht,go_map h1,kl.check,hf,set_map _ h1,hil,hek,kl.stays],⟨es.modify i fun e => { e with key:=enc x,val:=v },cl,by simp [hlt],?_,stamped_modify hst i _ (fun _ _=>rfl) (fun e _ he=>by
   rw [Array.getElem?_eq_getElem hil] at he;injection he with he;show enc x=e.key;rw [← he,hek])⟩,hg _⟩
  have:(es.modify i fun e => { e with key:=enc x,val:=v }).toList.map (fun e=>(e.key,e.val))=(es.toList.map (fun e=>(e.key,e.val))).set i (enc x,v):=by
   apply List.ext_getElem?;intro j;simp only [List.getElem?_map,Array.getElem?_toList,Array.getElem?_modify,List.getElem?_set,List.length_map,Array.length_toList];by_cases hij:i=j
   ·subst hij; simp [hil]
   ·simp [hij]
  rw [this,h2,List.map_set]
end

theorem klInt {P:Program} {kt:TypeId} (hk:P.underlying kt=some (.int .i64)):KL P kt (fun n:Int=>Value.int .i64 n) where
 check:=fun w em x=>by
  have h:∀ n,(Instr.checkKey em (n+1) kt (Value.int .i64 x)).run P w=.ok () w:=fun n=>by simp [Instr.checkKey,run_underlying hk]
  exact h 9999
 find:=fun w x l es h=>by
  have hn:∀ (es:List MapEntry) (l:List (Int × Value)) (i:Nat),es.map (fun e=>(e.key,e.val))=l.map (fun p=>(Value.int .i64 p.1,p.2))→Instr.findNow (.int .i64) (.int .i64 x) es i=some (fnd x l i):=by
   intro es
   induction es with
   | nil=>intro l i h; cases l <;> simp at h; rfl
   | cons e es ih =>
    intro l i h;cases l with
    | nil=>simp at h
    | cons p l =>
     simp at h;obtain ⟨⟨h1,h2⟩,h3⟩:=h;unfold Instr.findNow fnd;rw [h1];by_cases hx:p.1=x
     ·have hs:Instr.sameNow (.int .i64) (.int .i64 x) (.int .i64 p.1)=some true:=(by simp [Instr.sameNow,hx]);rw [hs,if_pos hx,h2]
     ·have hx':¬ x=p.1:=fun e=>hx e.symm;have hs:Instr.sameNow (.int .i64) (.int .i64 x) (.int .i64 p.1)=some false:=(by simp [Instr.sameNow,hx']);rw [hs,if_neg hx];exact ih l (i+1) (by simpa using h3)
  simp [Instr.findKey,run_underlying hk,hn es l 0 h]
 stays:=fun w x=>by simp [Instr.keyThatStays,Instr.sameBits]
 inj:=fun x y h=>by injection h
/- Maps as lists of pairs: what is found behind a store. No conditions. -/

section
variable {K:Type} [DecidableEq K]
theorem fnd_append {x:K} {l l':List (K × Value)} {j:Nat} : fnd x (l++l') j=match fnd x l j with | some r=>some r | none=>fnd x l' (j+l.length):=by
 induction l generalizing j with
 | nil=>simp [fnd]
 | cons p l ih =>
  show (if p.1=x then some (j,p.2) else fnd x (l++l') (j+1))=match (if p.1=x then some (j,p.2) else fnd x l (j+1)) with | some r=>some r | none=>fnd x l' (j+(l.length+1))
  by_cases hp:p.1=x
  ·simp only [if_pos hp]
  ·simp only [if_neg hp];rw [ih,show j+1+l.length=j+(l.length+1) by omega]
theorem mget_put (m:List (K × Value)) (k k':K) (v:Value):mget (mput m k v) k'=if k=k' then some v else mget m k':=by
 unfold mget mput;cases hf:fnd k m 0 with
 | none =>
  rw [fnd_append];by_cases hk:k=k'
  ·subst hk;rw [hf,if_pos rfl];simp [fnd]
  ·rw [if_neg hk];cases hg:fnd k' m 0 with
   | none=>simp [fnd,hk]
   | some r=>simp
 | some r =>
  obtain ⟨i,u⟩:=r;obtain ⟨_,hi⟩:=fnd_some hf;simp at hi;have hset:∀ (l:List (K × Value)) (i j:Nat) (u:Value),l[i]?=some (k,u)→(∀ a,a<i→∀ p,l[a]?=some p→p.1≠k)→(fnd k' (l.set i (k,v)) j).map (·.2)=if k=k' then some v else (fnd k' l j).map (·.2):=by
   intro l
   induction l with
   | nil=>intro i j u h; simp at h
   | cons p l ih =>
    intro i j u h hb;cases i with
    | zero =>
     simp at h;subst h;simp only [List.set_cons_zero,fnd];by_cases hk:k=k' <;> simp [hk]
    | succ i =>
     simp only [List.set_cons_succ,fnd];have hp:p.1≠k:=hb 0 (by omega) p rfl;by_cases hk:p.1=k'
     ·have:k≠k':=fun e=>hp (by rw [hk,e]);simp [hk,this]
     ·rw [if_neg hk,if_neg hk];exact ih i (j+1) u (by simpa using h) (fun a ha q hq=>hb (a+1) (by omega) q (by simpa using hq))
  refine hset m i 0 u hi ?_;have hfirst:∀ (l:List (K × Value)) (j i:Nat) (u:Value),fnd k l j=some (i,u)→∀ a,a<i-j→∀ p,l[a]?=some p→p.1≠k:=by
   intro l
   induction l with
   | nil=>intro j i u h; simp [fnd] at h
   | cons q l ih =>
    intro j i u h a ha p hp;unfold fnd at h;by_cases hq:q.1=k
    ·rw [if_pos hq] at h;simp at h;omega
    ·rw [if_neg hq] at h;cases a with
     | zero=>simp at hp; subst hp; exact hq
     | succ a=>exact ih (j+1) i u h a (by omega) p (by simpa using hp)
  exact fun a ha p hp=>hfirst m 0 i u hf a (by omega) p hp
end
end Go.Proofs.YtomdpipekmcojaaGreatDoor
