/- Names and texts: value.letter, value.isName, value.isText answer by the bytes alone. No conditions but a bound on the text's size. -/
import Derived.Test.YthmckfloppblcaaGreatDoorBj1
set_option maxRecDepth 100000
set_option maxHeartbeats 1000000
namespace Go.Proofs.YthmckfloppblcaaGreatDoor
open Go Go.RowKit

def letterB (c:Int):Bool:=decide (97≤c∧c≤122∨65≤c∧c≤90)
def nameC (c:Int):Bool:=letterB c || decide (c=95) || decide (48≤c∧c≤57)
def textC (c:Int):Bool:=decide (32≤c∧c≤126)
def bs (s:ByteArray):List Int:=s.data.toList.map fun c=>(c.toNat:Int)
theorem bs_len (s:ByteArray):(bs s).length=s.size:=by simp [bs]
theorem bs_at (s:ByteArray) (k:Nat) (h:k<s.size):(bs s)[k]'(by rw [bs_len]; exact h)=(s[k].toNat:Int):=by simp [bs]; rfl
def nameB (s:ByteArray):Bool:=decide (1≤s.size∧s.size≤20) && ((bs s).head?.any letterB) && (bs s).all nameC
def textB (s:ByteArray):Bool:=decide (s.size≤200) && (bs s).all textC
def SameB (w:World) (b:Bool) (e:Ending) (w':World):Prop:=e=.returned (.bool b)∧w=w'
theorem SameB.ret {w:World} {b:Bool} {e:Ending} {w':World} (h:SameB w b e w'):RetB w b e w':=by
 obtain ⟨he,rfl⟩:=h;exact ⟨he,Ext.refl w⟩

theorem value_letter (c:Int) (w:World):Calls Tryz.prog 138 #[.int .u8 c] w (SameB w (letterB c)):=by
 go_enter Tryz.func138,Tryz.ntmps138
 go_wp2
 all_goals
  go_ret;refine ⟨?_,rfl⟩;simp only [letterB];simp
  first | done | (rw [Bool.eq_iff_iff]; simp; omega) | omega

theorem all_take {α:Type} (l:List α) (p:α→Bool):(∀ j (h:j<l.length),p l[j]=true)→l.all p=true:=by
 intro h;rw [List.all_eq_true];intro x hx;obtain ⟨i,hi,rfl⟩:=List.mem_iff_getElem.1 hx;exact h i hi
theorem all_not {α:Type} (l:List α) (p:α→Bool) (j:Nat) (h:j<l.length) (hp:p l[j]=false):l.all p=false:=by
 rw [List.all_eq_false];exact ⟨l[j],List.getElem_mem h,by simp [hp]⟩

theorem value_isText (s:ByteArray) (hs:s.size≤4294967296) (w:World):Calls Tryz.prog 87 #[.string s] w (SameB w (textB s)):=by
 go_enter Tryz.func87,Tryz.ntmps87
 go_wp2
 go_loop [6] (fun i=>∃ k:Nat,k≤s.size∧i=.int .i64 k∧∀ j (h:j<s.size),j<k→textC (s[j].toNat:Int)=true) (fun i=>s.size-(intOf i).toNat)
 case atStart=>exact ⟨0,Nat.zero_le _,rfl,by intros; omega⟩
 case round =>
  obtain ⟨k,hk,rfl,hall⟩:=hrel;have HA:=Hd hall;clear hall;by_cases hlt:k<s.size
  ·by_cases ht:32≤(s[k].toNat:Int)∧(s[k].toNat:Int)≤126
   ·obtain ⟨h1,h2⟩:=ht;go_wp2
    go_round
    case rel =>
     refine ⟨k+1,by omega,by go_num,fun j h hj => ?_⟩;by_cases hjk:j=k
     ·subst hjk;simp [textC];omega
     ·exact HA.o j h (by omega)
    case measure=>simp [intOf]; omega
   ·have hf:textB s=false:=by
     unfold textB;rw [all_not (bs s) textC k (by rw [bs_len]; exact hlt) (by rw [bs_at s k hlt]; simp only [textC,decide_eq_false_iff_not]; exact ht)];simp
    have HF:=Hd hf;clear hf;by_cases h1:32≤(s[k].toNat:Int)
    all_goals
     go_wp2;go_ret;exact ⟨by rw [HF.o]; rfl,rfl⟩
  ·have hf:textB s=decide (s.size≤200):=by
    unfold textB;rw [all_take (bs s) textC (fun j h=>by rw [bs_len] at h; rw [bs_at s j h]; exact HA.o j h (by omega))];simp
   have HF:=Hd hf;clear hf;go_wp2;go_ret;exact ⟨by rw [HF.o]; simp; omega,rfl⟩

theorem value_isName (s:ByteArray) (hs:s.size≤4294967296) (w:World):Calls Tryz.prog 115 #[.string s] w (SameB w (nameB s)):=by
 by_cases h0:s.size=0
 ·have he:s=⟨#[]⟩:=by
   cases s;simp [ByteArray.size] at h0;rw [h0]
  subst he
  go_enter Tryz.func115,Tryz.ntmps115
  go_wp2;go_ret;exact ⟨rfl,rfl⟩
 have e1:s.toList=[]→False:=fun h=>h0 (by have h2:=congrArg List.length h; rw [ByteArray.toList_eq,Array.length_toList] at h2; exact h2);have e2:(s.toList.isEmpty)=false:=(by simpa using e1);by_cases h20:20<s.size
 ·have hf:nameB s=false:=(by unfold nameB; simp; omega);have HF:=Hd hf;have h20':(20:Int)<(s.size:Int):=(by omega);clear hf
  go_enter Tryz.func115,Tryz.ntmps115
  go_wp2;go_ret;exact ⟨by rw [HF.o]; rfl,rfl⟩
 ·have hp:0<s.size:=(by omega);cases hl:letterB (s[0].toNat:Int)
  ·have hf:nameB s=false:=by
    unfold nameB;have:(bs s).head?=some (s[0].toNat:Int):=(by rw [List.head?_eq_getElem?,List.getElem?_eq_getElem (by rw [bs_len]; exact hp),bs_at s 0 hp]);rw [this];simp [hl]
   have HF:=Hd hf;have HL:=Hd hl;clear hf hl
   go_enter Tryz.func115,Tryz.ntmps115
   go_wp2_with (go_at_call 138; refine (value_letter _ _).mono ?_; rintro e w' ⟨rfl,rfl⟩; rw [HL.o])
   go_ret;exact ⟨by rw [HF.o]; rfl,rfl⟩
  ·have hhd:(bs s).head?.any letterB=true:=by
    have:(bs s).head?=some (s[0].toNat:Int):=(by rw [List.head?_eq_getElem?,List.getElem?_eq_getElem (by rw [bs_len]; exact hp),bs_at s 0 hp]);rw [this];simp [hl]
   have HHD:=Hd hhd;have HL:=Hd hl;clear hhd hl;have h20':(s.size:Int)≤20:=(by omega)
   go_enter Tryz.func115,Tryz.ntmps115
   go_wp2_with (go_at_call 138; refine (value_letter _ _).mono ?_; rintro e w' ⟨rfl,rfl⟩; rw [HL.o])
   go_loop [19] (fun i=>∃ k:Nat,k≤s.size∧i=.int .i64 k∧∀ j (h:j<s.size),j<k→nameC (s[j].toNat:Int)=true) (fun i=>s.size-(intOf i).toNat)
   case atStart=>exact ⟨0,Nat.zero_le _,rfl,by intros; omega⟩
   case round =>
    obtain ⟨k,hk,rfl,hall⟩:=hrel;have HA:=Hd hall;clear hall;by_cases hlt:k<s.size
    ·cases hn:nameC (s[k].toNat:Int)
     ·have hf:nameB s=false:=by
       unfold nameB;rw [all_not (bs s) nameC k (by rw [bs_len]; exact hlt) (by rw [bs_at s k hlt]; exact hn)];simp
      have HF:=Hd hf;have hlk:letterB (s[k].toNat:Int)=false∧¬ ((s[k].toNat:Int)=95)∧¬ (48≤(s[k].toNat:Int)∧(s[k].toNat:Int)≤57):=by
       have h9:=hn;simp [nameC] at h9;exact ⟨h9.1.1,h9.1.2,fun h=>by omega⟩
      obtain ⟨hk1,hk2,hk3⟩:=hlk;have HK1:=Hd hk1;have hk4:((s[k].toNat:Int) != 95)=true:=(by rw [bne_iff_ne]; exact hk2);clear hf hn hk1;by_cases hk5:(s[k].toNat:Int)<48
      all_goals
       go_wp2_with (go_at_call 138; refine (value_letter _ _).mono ?_; rintro e w' ⟨rfl,rfl⟩; rw [HK1.o])
       go_ret;exact ⟨by rw [HF.o]; rfl,rfl⟩
     ·have HN:=Hd hn;have hnn:letterB (s[k].toNat:Int)=true∨letterB (s[k].toNat:Int)=false∧((s[k].toNat:Int)=95∨((s[k].toNat:Int)≠95∧48≤(s[k].toNat:Int)∧(s[k].toNat:Int)≤57)):=by
       cases hq:letterB (s[k].toNat:Int)
       ·right;refine ⟨rfl,?_⟩;simp [nameC,hq] at hn;omega
       ·left; rfl
      clear hn
      rcases hnn with h1 | ⟨h1,h2 | ⟨h2,h3,h4⟩⟩
      ·have HK1:=Hd h1;clear h1
       go_wp2_with (go_at_call 138; refine (value_letter _ _).mono ?_; rintro e w' ⟨rfl,rfl⟩; rw [HK1.o])
       go_round
       case rel =>
        refine ⟨k+1,by omega,by go_num,fun j h hj => ?_⟩;by_cases hjk:j=k
        ·subst hjk; exact HN.o
        ·exact HA.o j h (by omega)
       case measure=>simp [intOf]; omega
      ·have HK1:=Hd h1;have h5:((s[k].toNat:Int) != 95)=false:=(by simp [h2]);clear h1 h2
       go_wp2_with (go_at_call 138; refine (value_letter _ _).mono ?_; rintro e w' ⟨rfl,rfl⟩; rw [HK1.o])
       go_round
       case rel =>
        refine ⟨k+1,by omega,by go_num,fun j h hj => ?_⟩;by_cases hjk:j=k
        ·subst hjk; exact HN.o
        ·exact HA.o j h (by omega)
       case measure=>simp [intOf]; omega
      ·have HK1:=Hd h1;have h5:((s[k].toNat:Int) != 95)=true:=(by rw [bne_iff_ne]; exact h2);clear h1 h2
       go_wp2_with (go_at_call 138; refine (value_letter _ _).mono ?_; rintro e w' ⟨rfl,rfl⟩; rw [HK1.o])
       go_round
       case rel =>
        refine ⟨k+1,by omega,by go_num,fun j h hj => ?_⟩;by_cases hjk:j=k
        ·subst hjk; exact HN.o
        ·exact HA.o j h (by omega)
       case measure=>simp [intOf]; omega
    ·have hf:nameB s=true:=by
      unfold nameB;rw [HHD.o,all_take (bs s) nameC (fun j h=>by rw [bs_len] at h; rw [bs_at s j h]; exact HA.o j h (by omega))];simp;omega
     have HF:=Hd hf;clear hf;go_wp2;go_ret;exact ⟨by rw [HF.o]; rfl,rfl⟩

def SameI (w:World) (n:Int) (e:Ending) (w':World):Prop:=e=.returned (.int .i64 n)∧w=w'
def RetI (w:World) (n:Int) (e:Ending) (w':World):Prop:=e=.returned (.int .i64 n)∧Ext w w'
def idxS (l:List ByteArray) (v:ByteArray):Int:=match l.findIdx? (fun s=>decide (s=v)) with | some i=>(i:Int) | none=>-1
theorem idxS_found {l:List ByteArray} {v:ByteArray} {k:Nat} (hk:k<l.length) (h:∀ j (hj:j<l.length),j<k→l[j]≠v) (hv:l[k]=v):idxS l v=k:=by
 unfold idxS;have:l.findIdx? (fun s=>decide (s=v))=some k:=by
  rw [List.findIdx?_eq_some_iff_getElem];exact ⟨hk,by simp [hv],fun j hj=>by simp [h j (by omega) hj]⟩
 rw [this]
theorem idxS_none {l:List ByteArray} {v:ByteArray} (h:∀ j (hj:j<l.length),l[j]≠v):idxS l v=-1:=by
 unfold idxS;have:l.findIdx? (fun s=>decide (s=v))=none:=by
  rw [List.findIdx?_eq_none_iff];intro x hx;obtain ⟨i,hi,rfl⟩:=List.mem_iff_getElem.1 hx;simp [h i hi]
 rw [this]
theorem idxS_mem (l:List ByteArray) (v:ByteArray):(0≤idxS l v↔v∈l):=by
 unfold idxS;cases h:l.findIdx? (fun s=>decide (s=v)) with
 | none =>
  rw [List.findIdx?_eq_none_iff] at h;simp;intro hv;have:=h v hv;simp at this
 | some i =>
  rw [List.findIdx?_eq_some_iff_getElem] at h;obtain ⟨hi,h1,_⟩:=h;simp at h1;simp;rw [← h1];exact List.getElem_mem hi
theorem idxS_at {l:List ByteArray} {v:ByteArray} (h:0≤idxS l v):∃ k:Nat,idxS l v=k∧∃ hk:k<l.length,l[k]=v∧∀ j (hj:j<l.length),j<k→l[j]≠v:=by
 unfold idxS at h ⊢;cases hf:l.findIdx? (fun s=>decide (s=v)) with
 | none=>rw [hf] at h; simp at h
 | some i =>
  rw [List.findIdx?_eq_some_iff_getElem] at hf;obtain ⟨hi,h1,h2⟩:=hf;refine ⟨i,rfl,hi,by simpa using h1,fun j hj hji => ?_⟩;have:=h2 j hji
  simpa using this
def memS (l:List ByteArray) (v:ByteArray):Bool:=decide (0≤idxS l v)
theorem memS_iff (l:List ByteArray) (v:ByteArray):memS l v=true↔v∈l:=by simp [memS,idxS_mem]
theorem bytes_nil (s:ByteArray):s.toList=[]↔s=⟨#[]⟩:=by
 rw [ByteArray.toList_eq];constructor
 ·intro h;cases s;simp at h;rw [h]
 ·rintro rfl; rfl

theorem slices_Index (A:Option Addr) (c:Nat) (l:List ByteArray) (v:ByteArray) (w:World) (S:Nat→Prop) (h:Strs w S A l) :
  Calls Tryz.prog 32 #[.slice A l.length c,.string v] w (SameI w (idxS l v)):=by
 have hn:=h.2.1
 go_enter Tryz.func32,Tryz.ntmps32
 go_wp2
 go_loop [8] (fun i=>∃ k:Nat,k≤l.length∧i=.int .i64 k∧∀ j (h:j<l.length),j<k→l[j]≠v) (fun i=>l.length-(intOf i).toNat)
 case atStart=>exact ⟨0,Nat.zero_le _,rfl,by intros; omega⟩
 case round =>
  obtain ⟨k,hk,rfl,hall⟩:=hrel;have HA:=Hd hall;clear hall;by_cases hlt:k<l.length
  ·obtain ⟨b1,o1,rfl,z1,c1⟩:=h.at_ hlt;by_cases hv:l[k]=v
   ·have ht:(v.toList==l[k].toList)=true:=(by rw [bytes_beq]; simp [hv]);have HV:=Hd hv;clear hv;go_wp2;go_ret;exact ⟨by rw [idxS_found hlt (fun j hj h=>HA.o j hj h) HV.o]; rfl,rfl⟩
   ·have ht:(v.toList==l[k].toList)=false:=(by rw [bytes_beq]; simp [Ne.symm hv]);have HV:=Hd hv;clear hv;go_wp2
    go_round
    case rel =>
     refine ⟨k+1,by omega,by go_num,fun j h hj => ?_⟩;by_cases hjk:j=k
     ·subst hjk; exact HV.o
     ·exact HA.o j h (by omega)
    case measure=>simp [intOf]; omega
  ·go_wp2;go_ret;exact ⟨by rw [idxS_none (fun j hj=>HA.o j hj (by omega))]; rfl,rfl⟩

theorem slices_Contains (A:Option Addr) (c:Nat) (l:List ByteArray) (v:ByteArray) (w:World) (S:Nat→Prop) (h:Strs w S A l) :
  Calls Tryz.prog 34 #[.slice A l.length c,.string v] w (SameB w (memS l v)):=by
 have H:=Hd h;clear h
 go_enter Tryz.func34,Tryz.ntmps34
 go_wp2_with (go_at_call 32; refine (slices_Index _ _ _ _ _ S H.o).mono ?_; rintro e w' ⟨rfl,rfl⟩)
 go_ret;exact ⟨rfl,rfl⟩

def unitsB (n:Int):Bool:=decide (-1000000000000000≤n∧n≤1000000000000000)
def decR (n s:Int):Bool:=decide (0≤s∧s≤6) && unitsB n && decide (s=0∨n.tmod 10≠0)
theorem decimal_within (n:Int) (w:World):Calls Tryz.prog 113 #[.int .i64 n] w (SameB w (unitsB n)):=by
 by_cases h1:-1000000000000000≤n
 ·by_cases h2:n≤1000000000000000
  ·have h:unitsB n=true:=(by simp [unitsB,h1,h2]);have H:=Hd h;clear h
   go_enter Tryz.func113,Tryz.ntmps113
   go_wp2;go_ret;exact ⟨by rw [H.o]; rfl,rfl⟩
  ·have h:unitsB n=false:=(by simp [unitsB,h1,h2]);have H:=Hd h;clear h
   go_enter Tryz.func113,Tryz.ntmps113
   go_wp2;go_ret;exact ⟨by rw [H.o]; rfl,rfl⟩
 ·have h:unitsB n=false:=(by simp [unitsB,h1]);have H:=Hd h;clear h
  go_enter Tryz.func113,Tryz.ntmps113
  go_wp2;go_ret;exact ⟨by rw [H.o]; rfl,rfl⟩

theorem decimal_Right (n s:Int) (w:World):Calls Tryz.prog 88 #[.agg #[.int .i64 n,.int .i64 s]] w (RetB w (decR n s)):=by
 cases hu:unitsB n
 all_goals
  have HU:=Hd hu;clear hu
  go_enter Tryz.func88,Tryz.ntmps88
  go_wp2_with (go_at_call 113; refine (decimal_within _ _).mono ?_; rintro e w' ⟨rfl,rfl⟩; rw [HU.o])
  all_goals
   go_ret;refine ⟨?_,(Ext.refl _).alloc _⟩;simp only [decR,HU.o];simp
   first | done | omega | (rw [Bool.eq_iff_iff]; simp; omega)

def bareB (x:Val):Bool:=decide (x.s=⟨#[]⟩∧x.dn=0∧x.ds=0∧x.n=0∧x.cols=[]∧x.rows=[])
theorem value_bare (x:Val) (A B:Option Addr) (c e:Nat) (w:World):Calls Tryz.prog 86 #[(.agg #[.int .i64 x.kind,.string x.s,.int .i64 x.dn,.int .i64 x.ds,.int .i64 x.n,.slice A x.cols.length c,.slice B x.rows.length e])] w (RetB w (bareB x)):=by
 go_enter Tryz.func86,Tryz.ntmps86
 go_wp2
 all_goals
  go_ret;refine ⟨?_,(Ext.refl _).alloc _⟩;simp_all [bareB,← bytes_nil]
  try (rw [Bool.eq_iff_iff]; simp [List.length_eq_zero_iff])

def flatB (x:Val):Bool :=
 if x.kind=0 then decide (0≤x.n∧x.n≤99) && bareB { x with n:=0 }
 else if x.kind=1 then textB x.s && bareB { x with s:=⟨#[]⟩ }
 else if x.kind=2 then decR x.dn x.ds && bareB { x with dn:=0,ds:=0 }
 else if x.kind=3 then decide (0≤x.n∧x.n≤3652058) && bareB { x with n:=0 }
 else if x.kind=4 then decide (x.n=0∨x.n=1) && bareB { x with n:=0 }
 else false

theorem value_Right_0 (x:Val) (A B:Option Addr) (c e:Nat) (w:World) (hk:x.kind=0) (_hs:x.s.size≤4294967296):Calls Tryz.prog 63 #[(.agg #[.int .i64 x.kind,.string x.s,.int .i64 x.dn,.int .i64 x.ds,.int .i64 x.n,.slice A x.cols.length c,.slice B x.rows.length e])] w (RetB w (flatB x)):=by
 have hf:flatB x=(decide (0≤x.n∧x.n≤99) && bareB { x with n:=0 }):=(by simp [flatB,hk]);have HF:=Hd hf;have k0:(x.kind==0)=true:=(by simp [hk]);have k1:(x.kind==1)=false:=(by simp [hk]);have k2:(x.kind==2)=false:=(by simp [hk]);have k3:(x.kind==3)=false:=(by simp [hk]);have k4:(x.kind==4)=false:=(by simp [hk]);have k5:(x.kind==5)=false:=(by simp [hk]);clear hf hk;by_cases h1:0≤x.n
 ·by_cases h2:x.n≤99
  ·go_enter Tryz.func63,Tryz.ntmps63
   go_wp2_with fail
   refine (value_bare { x with n:=0 } A B c e _).mono ?_;rintro e1 w1 ⟨rfl,hx1⟩;have HX:=Hd hx1;clear hx1;go_wp2;go_ret;exact ⟨by rw [HF.o]; simp [h1,h2],Ext.trans (((Ext.refl w).alloc _).alloc _) HX.o⟩
  ·go_enter Tryz.func63,Tryz.ntmps63
   go_wp2;go_ret;exact ⟨by rw [HF.o,decide_eq_false (by omega),Bool.false_and]; rfl,((Ext.refl w).alloc _).alloc _⟩
 ·go_enter Tryz.func63,Tryz.ntmps63
  go_wp2;go_ret;exact ⟨by rw [HF.o,decide_eq_false (by omega),Bool.false_and]; rfl,((Ext.refl w).alloc _).alloc _⟩

theorem value_Right_1 (x:Val) (A B:Option Addr) (c e:Nat) (w:World) (hk:x.kind=1) (hs:x.s.size≤4294967296):Calls Tryz.prog 63 #[(.agg #[.int .i64 x.kind,.string x.s,.int .i64 x.dn,.int .i64 x.ds,.int .i64 x.n,.slice A x.cols.length c,.slice B x.rows.length e])] w (RetB w (flatB x)):=by
 have hf:flatB x=(textB x.s && bareB { x with s:=⟨#[]⟩ }):=(by simp [flatB,hk]);have HF:=Hd hf;have k0:(x.kind==0)=false:=(by simp [hk]);have k1:(x.kind==1)=true:=(by simp [hk]);have k2:(x.kind==2)=false:=(by simp [hk]);have k3:(x.kind==3)=false:=(by simp [hk]);have k4:(x.kind==4)=false:=(by simp [hk]);have k5:(x.kind==5)=false:=(by simp [hk]);clear hf hk;cases ht:textB x.s
 ·have HT:=Hd ht;clear ht
  go_enter Tryz.func63,Tryz.ntmps63
  go_wp2_with (go_at_call 87; refine (value_isText _ hs _).mono ?_; rintro e w' ⟨rfl,rfl⟩; rw [HT.o])
  go_ret;exact ⟨by rw [HF.o,HT.o]; rfl,((Ext.refl w).alloc _).alloc _⟩
 ·have HT:=Hd ht;clear ht
  go_enter Tryz.func63,Tryz.ntmps63
  go_wp2_with (go_at_call 87; refine (value_isText _ hs _).mono ?_; rintro e w' ⟨rfl,rfl⟩; rw [HT.o])
  refine (value_bare { x with s:=⟨#[]⟩ } A B c e _).mono ?_;rintro e1 w1 ⟨rfl,hx1⟩;have HX:=Hd hx1;clear hx1;go_wp2;go_ret;exact ⟨by rw [HF.o,HT.o]; rfl,Ext.trans (((Ext.refl w).alloc _).alloc _) HX.o⟩

theorem value_Right_2 (x:Val) (A B:Option Addr) (c e:Nat) (w:World) (hk:x.kind=2) (_hs:x.s.size≤4294967296):Calls Tryz.prog 63 #[(.agg #[.int .i64 x.kind,.string x.s,.int .i64 x.dn,.int .i64 x.ds,.int .i64 x.n,.slice A x.cols.length c,.slice B x.rows.length e])] w (RetB w (flatB x)):=by
 have hf:flatB x=(decR x.dn x.ds && bareB { x with dn:=0,ds:=0 }):=(by simp [flatB,hk]);have HF:=Hd hf;have k0:(x.kind==0)=false:=(by simp [hk]);have k1:(x.kind==1)=false:=(by simp [hk]);have k2:(x.kind==2)=true:=(by simp [hk]);have k3:(x.kind==3)=false:=(by simp [hk]);have k4:(x.kind==4)=false:=(by simp [hk]);have k5:(x.kind==5)=false:=(by simp [hk]);clear hf hk
 go_enter Tryz.func63,Tryz.ntmps63
 go_wp2_with fail
 refine (decimal_Right x.dn x.ds _).mono ?_;rintro e1 w1 ⟨rfl,hx1⟩;obtain ⟨hc1,hf1⟩:=bcell hx1;have hz1:=hx1.size;simp at hc1 hf1 hz1;have hz2:w.heap.size<w1.heap.size:=(by omega);have hz3:w.heap.size+1<w1.heap.size:=(by omega);have HX:=Hd hx1;cases ht:decR x.dn x.ds
 ·have HT:=Hd ht;clear ht hx1;go_wp2;go_ret;exact ⟨by rw [HF.o,HT.o]; rfl,Ext.trans ((((Ext.refl w).alloc _).alloc _)) HX.o⟩
 ·have HT:=Hd ht;clear ht hx1
  go_wp2_with fail
  refine (value_bare { x with dn:=0,ds:=0 } A B c e _).mono ?_;rintro e1 w2 ⟨rfl,hx2⟩;have HX2:=Hd hx2;clear hx2;go_wp2;go_ret;exact ⟨by rw [HF.o,HT.o]; rfl,Ext.trans (((Ext.refl w).alloc _).alloc _) (Ext.trans HX.o HX2.o)⟩

theorem value_Right_3 (x:Val) (A B:Option Addr) (c e:Nat) (w:World) (hk:x.kind=3) (_hs:x.s.size≤4294967296):Calls Tryz.prog 63 #[(.agg #[.int .i64 x.kind,.string x.s,.int .i64 x.dn,.int .i64 x.ds,.int .i64 x.n,.slice A x.cols.length c,.slice B x.rows.length e])] w (RetB w (flatB x)):=by
 have hf:flatB x=(decide (0≤x.n∧x.n≤3652058) && bareB { x with n:=0 }):=(by simp [flatB,hk]);have HF:=Hd hf;have k0:(x.kind==0)=false:=(by simp [hk]);have k1:(x.kind==1)=false:=(by simp [hk]);have k2:(x.kind==2)=false:=(by simp [hk]);have k3:(x.kind==3)=true:=(by simp [hk]);have k4:(x.kind==4)=false:=(by simp [hk]);have k5:(x.kind==5)=false:=(by simp [hk]);clear hf hk;by_cases h1:0≤x.n
 ·by_cases h2:x.n≤3652058
  ·go_enter Tryz.func63,Tryz.ntmps63
   go_wp2_with fail
   refine (value_bare { x with n:=0 } A B c e _).mono ?_;rintro e1 w1 ⟨rfl,hx1⟩;have HX:=Hd hx1;clear hx1;go_wp2;go_ret;exact ⟨by rw [HF.o]; simp [h1,h2],Ext.trans (((Ext.refl w).alloc _).alloc _) HX.o⟩
  ·go_enter Tryz.func63,Tryz.ntmps63
   go_wp2;go_ret;exact ⟨by rw [HF.o,decide_eq_false (by omega),Bool.false_and]; rfl,((Ext.refl w).alloc _).alloc _⟩
 ·go_enter Tryz.func63,Tryz.ntmps63
  go_wp2;go_ret;exact ⟨by rw [HF.o,decide_eq_false (by omega),Bool.false_and]; rfl,((Ext.refl w).alloc _).alloc _⟩

theorem value_Right_4 (x:Val) (A B:Option Addr) (c e:Nat) (w:World) (hk:x.kind=4) (_hs:x.s.size≤4294967296):Calls Tryz.prog 63 #[(.agg #[.int .i64 x.kind,.string x.s,.int .i64 x.dn,.int .i64 x.ds,.int .i64 x.n,.slice A x.cols.length c,.slice B x.rows.length e])] w (RetB w (flatB x)):=by
 have hf:flatB x=(decide (x.n=0∨x.n=1) && bareB { x with n:=0 }):=(by simp [flatB,hk]);have HF:=Hd hf;have k0:(x.kind==0)=false:=(by simp [hk]);have k1:(x.kind==1)=false:=(by simp [hk]);have k2:(x.kind==2)=false:=(by simp [hk]);have k3:(x.kind==3)=false:=(by simp [hk]);have k4:(x.kind==4)=true:=(by simp [hk]);have k5:(x.kind==5)=false:=(by simp [hk]);clear hf hk;by_cases h1:x.n=0
 ·have h3:(x.n==0)=true:=(by simp [h1]);have H1:=Hd h1;clear h1
  go_enter Tryz.func63,Tryz.ntmps63
  go_wp2_with fail
  refine (value_bare { x with n:=0 } A B c e _).mono ?_;rintro e1 w1 ⟨rfl,hx1⟩;have HX:=Hd hx1;clear hx1;go_wp2;go_ret;exact ⟨by rw [HF.o]; simp [H1.o],Ext.trans (((Ext.refl w).alloc _).alloc _) HX.o⟩
 ·have h3:(x.n==0)=false:=(by simp [h1]);by_cases h2:x.n=1
  ·have h4:(x.n==1)=true:=(by simp [h2]);have H1:=Hd h2;clear h1 h2
   go_enter Tryz.func63,Tryz.ntmps63
   go_wp2_with fail
   refine (value_bare { x with n:=0 } A B c e _).mono ?_;rintro e1 w1 ⟨rfl,hx1⟩;have HX:=Hd hx1;clear hx1;go_wp2;go_ret;exact ⟨by rw [HF.o]; simp [H1.o],Ext.trans (((Ext.refl w).alloc _).alloc _) HX.o⟩
  ·have h4:(x.n==1)=false:=by simp [h2]
   go_enter Tryz.func63,Tryz.ntmps63
   go_wp2;go_ret;exact ⟨by rw [HF.o]; simp [h1,h2],((Ext.refl w).alloc _).alloc _⟩

theorem value_Right_x (x:Val) (A B:Option Addr) (c e:Nat) (w:World) (h0:x.kind≠0) (h1:x.kind≠1) (h2:x.kind≠2) (h3:x.kind≠3) (h4:x.kind≠4) (h5:x.kind≠5):Calls Tryz.prog 63 #[(.agg #[.int .i64 x.kind,.string x.s,.int .i64 x.dn,.int .i64 x.ds,.int .i64 x.n,.slice A x.cols.length c,.slice B x.rows.length e])] w (RetB w (flatB x)):=by
 have hf:flatB x=false:=(by simp [flatB,h0,h1,h2,h3,h4]);have HF:=Hd hf;have k0:(x.kind==0)=false:=(by simp [h0]);have k1:(x.kind==1)=false:=(by simp [h1]);have k2:(x.kind==2)=false:=(by simp [h2]);have k3:(x.kind==3)=false:=(by simp [h3]);have k4:(x.kind==4)=false:=(by simp [h4]);have k5:(x.kind==5)=false:=(by simp [h5]);clear hf h0 h1 h2 h3 h4 h5
 go_enter Tryz.func63,Tryz.ntmps63
 go_wp2;go_ret;exact ⟨by rw [HF.o]; rfl,((Ext.refl w).alloc _).alloc _⟩

theorem value_Right_flat (x:Val) (A B:Option Addr) (c e:Nat) (w:World) (h5:x.kind≠5) (hs:x.s.size≤4294967296):Calls Tryz.prog 63 #[(.agg #[.int .i64 x.kind,.string x.s,.int .i64 x.dn,.int .i64 x.ds,.int .i64 x.n,.slice A x.cols.length c,.slice B x.rows.length e])] w (RetB w (flatB x)):=by
 by_cases h0:x.kind=0
 ·exact value_Right_0 x A B c e w h0 hs
 by_cases h1:x.kind=1
 ·exact value_Right_1 x A B c e w h1 hs
 by_cases h2:x.kind=2
 ·exact value_Right_2 x A B c e w h2 hs
 by_cases h3:x.kind=3
 ·exact value_Right_3 x A B c e w h3 hs
 by_cases h4:x.kind=4
 ·exact value_Right_4 x A B c e w h4 hs
 exact value_Right_x x A B c e w h0 h1 h2 h3 h4 h5

def colOK (cols:List ByteArray) (i:Nat):Bool:=nameB (cols.getD i ⟨#[]⟩) && !memS (cols.take i) (cols.getD i ⟨#[]⟩)
def cellOK (x:Val):Bool:=decide (x.kind≠5) && flatB x
def rowOK (n:Nat) (r:List Val):Bool:=decide (r.length=n) && r.all cellOK
def tableR (cols:List ByteArray) (rows:List (List Val)):Bool :=
 decide (cols.length≤8∧rows.length≤100) && (List.range cols.length).all (colOK cols) && rows.all (rowOK cols.length)
def rightB (x:Val):Bool:=if x.kind=5 then tableR x.cols x.rows && bareB { x with cols:=[],rows:=[] } else flatB x

theorem Strs.take {w:World} {S:Nat→Prop} {A:Option Addr} {l:List ByteArray} (h:Strs w S A l) (k:Nat):Strs w S A (l.take k) :=
 ⟨by rw [List.map_take]; exact h.1.take k,by rw [List.length_take]; have:=h.2.1; omega,fun s hs=>h.2.2 s (List.mem_of_mem_take hs)⟩
theorem getD_of {α:Type} (l:List α) (i:Nat) (z:α) (h:i<l.length):l.getD i z=l[i]:=by simp [h]

theorem range_all {n:Nat} {p:Nat→Bool} (h:∀ j,j<n→p j=true):(List.range n).all p=true:=by
 rw [List.all_eq_true];intro x hx;exact h x (List.mem_range.1 hx)
theorem range_not {n:Nat} {p:Nat→Bool} {j:Nat} (hj:j<n) (h:p j=false):(List.range n).all p=false:=by
 rw [List.all_eq_false];exact ⟨j,List.mem_range.2 hj,by simp [h]⟩

theorem value_rightTable (q:Nat) (cols:List ByteArray) (rows:List (List Val)) (A B:Option Addr) (c e:Nat) (w:World) (S T:Nat→Prop) (hA:Strs w S A cols) (hB:Rows w T q B rows) (hcap:cols.length≤c) :
  Calls Tryz.prog 89 #[.slice A cols.length c,.slice B rows.length e] w (RetB w (tableR cols rows)):=by
 have hn:=hA.2.1;have hm:=hB.len;by_cases h1:cols.length≤8
 case neg =>
  have HF:=Hd (show tableR cols rows=false by unfold tableR; rw [decide_eq_false (by omega)]; rfl);have h1':(8:Int)<(cols.length:Int):=(by omega)
  go_enter Tryz.func89,Tryz.ntmps89
  go_wp2;go_ret;exact ⟨by rw [HF.o]; rfl,Ext.refl _⟩
 by_cases h2:rows.length≤100
 case neg =>
  have HF:=Hd (show tableR cols rows=false by unfold tableR; rw [decide_eq_false (by omega)]; rfl);have h1':¬ (8:Int)<(cols.length:Int):=(by omega);have h2':(100:Int)<(rows.length:Int):=(by omega)
  go_enter Tryz.func89,Tryz.ntmps89
  go_wp2;go_ret;exact ⟨by rw [HF.o]; rfl,Ext.refl _⟩
 have h1':¬ (8:Int)<(cols.length:Int):=(by omega);have h2':¬ (100:Int)<(rows.length:Int):=(by omega);have h3':(cols.length:Int)≤8:=(by omega);have h4':(rows.length:Int)≤100:=(by omega)
 go_enter Tryz.func89,Tryz.ntmps89
 go_wp2
 go_loop [21] (fun i=>∃ k:Nat,k≤cols.length∧i=.int .i64 k∧∀ j,j<k→colOK cols j=true) (fun i=>cols.length-(intOf i).toNat)
 case atStart=>exact ⟨0,Nat.zero_le _,rfl,by intros; omega⟩
 case round =>
  obtain ⟨k,hk,rfl,hall⟩:=hrel;have HA:=Hd hall;clear hall;by_cases hlt:k<cols.length
  ·obtain ⟨b1,o1,rfl,z1,c1⟩:=hA.at_ hlt;have hsz:=hA.sz hlt;have HTK:=Hd (hA.take k);have hlk:(cols.take k).length=k:=(by rw [List.length_take]; omega);cases hnm:nameB cols[k]
   ·have HF:=Hd (show tableR cols rows=false by unfold tableR; rw [range_not hlt (by unfold colOK; rw [getD_of _ _ _ hlt,hnm]; rfl)]; simp);have HN:=Hd hnm;clear hnm
    go_wp2_with (go_at_call 115; refine (value_isName _ hsz _).mono ?_; rintro e1 w1 ⟨rfl,rfl⟩; rw [HN.o])
    go_ret;exact ⟨by rw [HF.o]; rfl,Ext.refl _⟩
   ·have HN:=Hd hnm;have HCON:=Hd (slices_Contains (some ⟨b1,o1,none⟩) c (cols.take k) cols[k] w S HTK.o);rw [hlk] at HCON;cases hmm:memS (cols.take k) cols[k]
    ·have HM:=Hd hmm;have HC:=Hd (show colOK cols k=true by unfold colOK; rw [getD_of _ _ _ hlt,hnm,hmm]; rfl);clear hnm hmm hlk
     go_wp2_with (first | (go_at_call 115; refine (value_isName _ hsz _).mono ?_; rintro e1 w1 ⟨rfl,rfl⟩; rw [HN.o]) | (go_at_call 34; refine HCON.o.mono ?_; rintro e1 w1 ⟨rfl,rfl⟩; rw [HM.o]))
     go_round
     case rel =>
      refine ⟨k+1,by omega,by go_num,fun j hj => ?_⟩;by_cases hjk:j=k
      ·subst hjk; exact HC.o
      ·exact HA.o j (by omega)
     case measure=>simp [intOf]; omega
    ·have HM:=Hd hmm;have HF:=Hd (show tableR cols rows=false by unfold tableR; rw [range_not hlt (by unfold colOK; rw [getD_of _ _ _ hlt,hnm,hmm]; rfl)]; simp);clear hnm hmm hlk
     go_wp2_with (first | (go_at_call 115; refine (value_isName _ hsz _).mono ?_; rintro e1 w1 ⟨rfl,rfl⟩; rw [HN.o]) | (go_at_call 34; refine HCON.o.mono ?_; rintro e1 w1 ⟨rfl,rfl⟩; rw [HM.o]))
     go_ret;exact ⟨by rw [HF.o]; rfl,Ext.refl _⟩
  ·have HCOL:=Hd (range_all (n:=cols.length) (p:=colOK cols) (fun j hj=>HA.o j (by omega)));go_wp2
   go_loopw [39] (fun i wr=>∃ k:Nat,k≤rows.length∧i=.int .i64 k∧Ext w wr∧∀ j (h:j<rows.length),j<k→rowOK cols.length rows[j]=true) (fun i _=>rows.length-(intOf i).toNat)
   case atStart=>exact ⟨0,Nat.zero_le _,rfl,Ext.refl _,by intros; omega⟩
   case round =>
    rename_i k0 _ _ _ _;obtain ⟨i,hi,rfl,hext,hall⟩:=hrel;have HR:=Hd hall;have HE:=Hd hext;clear hall;by_cases hlt2:i<rows.length
    ·obtain ⟨b1,o1,A2,c2,rfl,z1,p0,hcr,hrow⟩:=(hB.keep (hext.kept T)).at_ hlt2;have hrl:=hrow.len;have HROW:=Hd hrow;clear hrow hext;by_cases hln:rows[i].length=cols.length
     ·have hn1:((rows[i].length:Int) != (cols.length:Int))=false:=(by simp [hln]);have HLN:=Hd hln;clear hln;go_wp2;obtain ⟨wo,rfl⟩:∃ wo:World,wo=wr:=⟨_,rfl⟩
      go_loopw [50] (fun v wi=>∃ j:Nat,j≤rows[i].length∧v=.int .i64 j∧Ext wo wi∧∀ m (h:m<rows[i].length),m<j→cellOK rows[i][m]=true) (fun v _=>rows[i].length-(intOf v).toNat)
      case atStart=>exact ⟨0,Nat.zero_le _,rfl,Ext.refl _,by intros; omega⟩
      case round =>
       obtain ⟨j,hj,rfl,hexi,halli⟩:=hrel;have HI:=Hd halli;have HEI:=Hd hexi;clear halli;by_cases hlt3:j<rows[i].length
       ·obtain ⟨b2,o2,A5,c5,B5,e5,rfl,z2,⟨p0,p1,p2,p3,p4,p5,p6⟩,⟨hq,_,_⟩,hv⟩:=(HROW.o.keep (hexi.kept T)).at_ hlt3;have hvs:=hv.size;clear hv hexi;by_cases hk5:rows[i][j].kind=5
        ·have hk5':(rows[i][j].kind==5)=true:=(by simp [hk5]);have HF:=Hd (show tableR cols rows=false by
          unfold tableR;rw [all_not rows (rowOK cols.length) i hlt2 (by unfold rowOK; rw [all_not rows[i] cellOK j hlt3 (by simp [cellOK,hk5])]; simp)];simp)
         clear hk5;go_wp2;go_ret;exact ⟨by rw [HF.o]; rfl,HE.o.trans (HEI.o.alloc _)⟩
        ·have hk5':(rows[i][j].kind==5)=false:=(by simp [hk5]);have HK5:=Hd hk5;have HRF:=Hd (value_Right_flat rows[i][j] A5 B5 c5 e5 · hk5 hvs);clear hk5
         go_wp2_with fail
         refine (HRF.o _).mono ?_;rintro e1 w1 ⟨rfl,hx1⟩;have HX1:=Hd hx1;clear hx1;cases hfl:flatB rows[i][j]
         ·have HF:=Hd (show tableR cols rows=false by
           unfold tableR;rw [all_not rows (rowOK cols.length) i hlt2 (by unfold rowOK; rw [all_not rows[i] cellOK j hlt3 (by simp [cellOK,hfl])]; simp)];simp)
          clear hfl;go_wp2;go_ret;exact ⟨by rw [HF.o]; rfl,HE.o.trans ((HEI.o.alloc _).trans HX1.o)⟩
         ·have HFL:=Hd (show cellOK rows[i][j]=true by simp [cellOK,hfl,HK5.o]);clear hfl;go_wp2;go_roundw
          case rel =>
           refine ⟨j+1,by omega,by go_num,(HEI.o.alloc _).trans HX1.o,fun m h hm => ?_⟩;by_cases hjk:m=j
           ·subst hjk; exact HFL.o
           ·exact HI.o m h (by omega)
          case measure=>simp [intOf]; omega
       ·have HRO:=Hd (show rowOK cols.length rows[i]=true by
         unfold rowOK;rw [all_take rows[i] cellOK (fun m h=>HI.o m h (by omega)),HLN.o];simp)
        go_wp2;go_roundw
        case rel =>
         refine ⟨i+1,by omega,by go_num,HE.o.trans HEI.o,fun j h hj => ?_⟩;by_cases hjk:j=i
         ·subst hjk; exact HRO.o
         ·exact HR.o j h (by omega)
        case measure=>simp [intOf]; omega
     ·have hn1:((rows[i].length:Int) != (cols.length:Int))=true:=(by rw [bne_iff_ne]; omega);have HF:=Hd (show tableR cols rows=false by
       unfold tableR;rw [all_not rows (rowOK cols.length) i hlt2 (by unfold rowOK; rw [decide_eq_false hln]; rfl)];simp)
      clear hln;go_wp2;go_ret;exact ⟨by rw [HF.o]; rfl,HE.o⟩
    ·have HF:=Hd (show tableR cols rows=true by
      unfold tableR;rw [HCOL.o,all_take rows (rowOK cols.length) (fun j h=>HR.o j h (by omega)),decide_eq_true ⟨h1,h2⟩];rfl)
     clear hext;go_wp2;go_ret;exact ⟨by rw [HF.o]; rfl,HE.o⟩

theorem value_Right_5 (q:Nat) (x:Val) (A B:Option Addr) (c e:Nat) (w:World) (S:Nat→Prop) (h:RV w S q x A B) (hcap:x.cols.length≤c) (hk:x.kind=5):Calls Tryz.prog 63 #[(.agg #[.int .i64 x.kind,.string x.s,.int .i64 x.dn,.int .i64 x.ds,.int .i64 x.n,.slice A x.cols.length c,.slice B x.rows.length e])] w (RetB w (rightB x)):=by
 have hf:rightB x=(tableR x.cols x.rows && bareB { x with cols:=[],rows:=[] }):=(by simp [rightB,hk]);have HF:=Hd hf;have H:=Hd h;have k0:(x.kind==0)=false:=(by simp [hk]);have k1:(x.kind==1)=false:=(by simp [hk]);have k2:(x.kind==2)=false:=(by simp [hk]);have k3:(x.kind==3)=false:=(by simp [hk]);have k4:(x.kind==4)=false:=(by simp [hk]);have k5:(x.kind==5)=true:=(by simp [hk]);clear hf hk h
 go_enter Tryz.func63,Tryz.ntmps63
 go_wp2_with fail
 refine (value_rightTable q x.cols x.rows A B c e _ S S (H.o.strs.keep ((((Ext.refl w).alloc _).alloc _).kept _)) (H.o.rows_.keep ((((Ext.refl w).alloc _).alloc _).kept _)) hcap).mono ?_;rintro e1 w1 ⟨rfl,hx1⟩;obtain ⟨hc1,hf1⟩:=bcell hx1;have hz1:=hx1.size;simp at hc1 hf1 hz1;have hz2:w.heap.size<w1.heap.size:=(by omega);have hz3:w.heap.size+1<w1.heap.size:=(by omega);have HX:=Hd hx1;cases ht:tableR x.cols x.rows
 ·have HT:=Hd ht;clear ht hx1;go_wp2;go_ret;exact ⟨by rw [HF.o,HT.o]; rfl,Ext.trans ((((Ext.refl w).alloc _).alloc _)) HX.o⟩
 ·have HT:=Hd ht;clear ht hx1
  go_wp2_with fail
  refine (value_bare { x with cols:=[],rows:=[] } none none 0 0 _).mono ?_;rintro e1 w2 ⟨rfl,hx2⟩;have HX2:=Hd hx2;clear hx2;go_wp2;go_ret;exact ⟨by rw [HF.o,HT.o]; rfl,Ext.trans (((Ext.refl w).alloc _).alloc _) (Ext.trans HX.o HX2.o)⟩

theorem value_Right (q:Nat) (x:Val) (A B:Option Addr) (c e:Nat) (w:World) (S:Nat→Prop) (h:RV w S q x A B) (hcap:x.cols.length≤c):Calls Tryz.prog 63 #[(.agg #[.int .i64 x.kind,.string x.s,.int .i64 x.dn,.int .i64 x.ds,.int .i64 x.n,.slice A x.cols.length c,.slice B x.rows.length e])] w (RetB w (rightB x)):=by
 by_cases hk:x.kind=5
 ·exact value_Right_5 q x A B c e w S h hcap hk
 ·have:=value_Right_flat x A B c e w hk h.size;rwa [show flatB x=rightB x by simp [rightB,hk]] at this

def Val.zero:Val:=⟨0,⟨#[]⟩,0,0,0,[],[]⟩
structure Look where
 name:ByteArray
 cols:List ByteArray
 rows:List (List Val)
def RL (w:World) (S:Nat→Prop) (d:Nat) (t:Look) (A B:Option Addr):Prop:=t.name.size≤4294967296∧Strs w S A t.cols∧Rows w S d B t.rows
theorem RL.keep {w w':World} {S:Nat→Prop} {d:Nat} {t:Look} {A B:Option Addr} (h:RL w S d t A B) (k:Kept S w w'):RL w' S d t A B:=⟨h.1,h.2.1.keep k,h.2.2.keep k⟩
theorem RL.mono {w:World} {S T:Nat→Prop} {d:Nat} {t:Look} {A B:Option Addr} (h:RL w S d t A B) (k:∀ i,i<w.heap.size→S i→T i):RL w T d t A B:=⟨h.1,h.2.1.mono k,h.2.2.mono k⟩
theorem Rows.nil {w:World} {S:Nat→Prop} {d:Nat} {B:Option Addr} : Rows w S d B []:=⟨by simp,[],Or.inl rfl,by simp,by simp⟩
theorem RV.zero {w:World} {S:Nat→Prop} {d:Nat} {A B:Option Addr} : RV w S d Val.zero A B:=RV.mk (Nat.zero_le _) Strs.nil Rows.nil
def tabV (cols:List ByteArray) (rows:List (List Val)):Val:=⟨5,⟨#[]⟩,0,0,0,cols,rows⟩
theorem RL.val {w:World} {S:Nat→Prop} {d:Nat} {t:Look} {A B:Option Addr} (h:RL w S d t A B):RV w S d (tabV t.cols t.rows) A B:=RV.mk (Nat.zero_le _) h.2.1 h.2.2
theorem rightB_tab (cols:List ByteArray) (rows:List (List Val)):rightB (tabV cols rows)=tableR cols rows:=by simp [rightB,tabV,bareB]
theorem tableR_one (s:ByteArray):tableR [s] []=nameB s:=by
 simp [tableR,colOK,memS,idxS]

theorem table_isName (s:ByteArray) (hs:s.size≤4294967296) (w:World):Calls Tryz.prog 62 #[.string s] w (RetB w (nameB s)):=by
 go_enter Tryz.func62,Tryz.ntmps62
 go_wp2_with fail
 refine (value_Right 0 (tabV [s] []) (some ⟨w.heap.size,0,none⟩) none 1 0 _ (fun _=>True) (RV.mk (Nat.zero_le _) ⟨?_,(by show (1:Nat)≤_; omega),by simpa [tabV] using hs⟩ Rows.nil) (Nat.le_refl _)).mono ?_
 ·exact (Blk.rd (Blk.new w 9 #[.string s])).mono fun _ _ _=>trivial
 rintro e1 w1 ⟨rfl,hx1⟩;have HX:=Hd hx1;clear hx1;go_wp2;go_ret;exact ⟨by rw [rightB_tab,tableR_one]; rfl,((Ext.refl w).alloc _).trans HX.o⟩

def isB (x v:Val):Bool:=decide (x.kind≠0) && decide (x=v)
theorem table_is (q:Nat) (x y:Val) (A B A' B':Option Addr) (c e c' e':Nat) (w:World) (S T:Nat→Prop) (hx:RV w S q x A B) (hy:RV w T q y A' B') :
  Calls Tryz.prog 42 #[(.agg #[.int .i64 x.kind,.string x.s,.int .i64 x.dn,.int .i64 x.ds,.int .i64 x.n,.slice A x.cols.length c,.slice B x.rows.length e]),(.agg #[.int .i64 y.kind,.string y.s,.int .i64 y.dn,.int .i64 y.ds,.int .i64 y.n,.slice A' y.cols.length c',.slice B' y.rows.length e'])] w (RetB w (isB x y)):=by
 have HX:=Hd hx;have HY:=Hd hy;clear hx hy;by_cases hk:x.kind=0
 ·have k0:(x.kind != 0)=false:=(by simp [hk]);have HF:=Hd (show isB x y=false by simp [isB,hk]);clear hk
  go_enter Tryz.func42,Tryz.ntmps42
  go_wp2;go_ret;exact ⟨by rw [HF.o]; rfl,((Ext.refl w).alloc _).alloc _⟩
 ·have k0:(x.kind != 0)=true:=(by simp [hk]);have HF:=Hd (show isB x y=decide (x=y) by simp [isB,hk]);clear hk
  go_enter Tryz.func42,Tryz.ntmps42
  go_wp2_with fail
  refine (value_Equal q x y A B A' B' c e c' e' _ S T (HX.o.keep ((((Ext.refl w).alloc _).alloc _).kept _)) (HY.o.keep ((((Ext.refl w).alloc _).alloc _).kept _))).mono ?_;rintro e1 w1 ⟨rfl,hx1⟩;have HX1:=Hd hx1;clear hx1;go_wp2;go_ret;exact ⟨by rw [HF.o]; rfl,(((Ext.refl w).alloc _).alloc _).trans HX1.o⟩

def kindsFrom (c:Nat):List (List Val)→Int→Bool
 | [],_=>true
 | r :: rs,kd=>if (r.getD c Val.zero).kind=0 then kindsFrom c rs kd else if kd≠0∧kd≠(r.getD c Val.zero).kind then false else kindsFrom c rs (r.getD c Val.zero).kind
def lookR (t:Look):Bool:=nameB t.name && decide (t.cols≠[]) && tableR t.cols t.rows && (List.range t.cols.length).all (fun c=>kindsFrom c t.rows 0)
theorem tableR_row {cols:List ByteArray} {rows:List (List Val)} (h:tableR cols rows=true) {i:Nat} (hi:i<rows.length):rows[i].length=cols.length:=by
 unfold tableR at h;simp only [Bool.and_eq_true,List.all_eq_true] at h;have:=h.2 rows[i] (List.getElem_mem hi);simp [rowOK] at this;exact this.1

theorem table_Right (d:Nat) (t:Look) (A B:Option Addr) (c e:Nat) (w:World) (S:Nat→Prop) (h:RL w S d t A B) (hcap:t.cols.length≤c) :
  Calls Tryz.prog 26 #[(.agg #[.string t.name,.slice A t.cols.length c,.slice B t.rows.length e])] w (RetB w (lookR t)):=by
 have H:=Hd h;have hns:=h.1;have hcl:=h.2.1.2.1;have hrl:=h.2.2.len;clear h
 go_enter Tryz.func26,Tryz.ntmps26
 go_wp2_with fail
 refine (table_isName t.name hns _).mono ?_;rintro e1 w1 ⟨rfl,hx1⟩;obtain ⟨hc1,hf1⟩:=bcell hx1;have hz1:=hx1.size;simp at hc1 hf1 hz1;have hz2:w.heap.size<w1.heap.size:=(by omega);have HX1:=Hd (((Ext.refl w).alloc _).trans hx1);cases hnm:nameB t.name
 ·have HF:=Hd (show lookR t=false by simp [lookR,hnm]);clear hnm hx1;go_wp2;go_ret;exact ⟨by rw [HF.o]; rfl,HX1.o⟩
 by_cases he:t.cols=[]
 ·have HF:=Hd (show lookR t=false by simp [lookR,he]);have hl0:((t.cols.length:Int)==0)=true:=(by simp [he]);clear hnm hx1 he;go_wp2;go_ret;exact ⟨by rw [HF.o]; rfl,HX1.o⟩
 have hl0:((t.cols.length:Int)==0)=false:=(by simpa using he);have HN:=Hd hnm;have HE:=Hd he;clear hnm he hx1
 go_wp2_with fail
 refine (value_Right d (tabV t.cols t.rows) A B c e _ S ((H.o.keep (HX1.o.kept S)).val) hcap).mono ?_;rintro e1 w2 ⟨rfl,hx2⟩;rw [rightB_tab];obtain ⟨hc2,hf2⟩:=bcell hx2;have hz3:w.heap.size<w2.heap.size:=(by have:=hx2.size; omega);have HX2:=Hd (HX1.o.trans hx2);cases htb:tableR t.cols t.rows
 ·have HF:=Hd (show lookR t=false by simp [lookR,htb]);clear htb hx2;go_wp2;go_ret;exact ⟨by rw [HF.o]; rfl,HX2.o⟩
 have HTB:=Hd htb;have HR:=Hd (H.o.2.2.keep (HX2.o.kept S));have g1:w2.cell? ⟨w.heap.size,1,none⟩=some (.slice A t.cols.length c):=(by rw [hc2 _ _ hz2,hc1 _ _ (by omega)]; simp [go_sem]);have g2:w2.cell? ⟨w.heap.size,2,none⟩=some (.slice B t.rows.length e):=(by rw [hc2 _ _ hz2,hc1 _ _ (by omega)]; simp [go_sem]);clear htb hx2 hc1 hc2 hf1 hf2;go_wp2
 go_loop [27] (fun i=>∃ k:Nat,k≤t.cols.length∧i=.int .i64 k∧∀ j,j<k→kindsFrom j t.rows 0=true) (fun i=>t.cols.length-(intOf i).toNat)
 case atStart=>exact ⟨0,Nat.zero_le _,rfl,by intros; omega⟩
 case round =>
  obtain ⟨k,hk,rfl,hall⟩:=hrel;have HA:=Hd hall;clear hall;by_cases hlt:k<t.cols.length
  ·go_wp2
   go_loop [33,4] (fun i v=>∃ (m:Nat) (kd:Int),m≤t.rows.length∧i=.int .i64 m∧v=.int .i64 kd∧kindsFrom k (t.rows.drop m) kd=kindsFrom k t.rows 0) (fun i _=>t.rows.length-(intOf i).toNat)
   case atStart=>exact ⟨0,0,Nat.zero_le _,rfl,rfl,rfl⟩
   case round =>
    obtain ⟨m,kd,hm,rfl,rfl,hkf⟩:=hrel;have HKF:=Hd hkf;clear hkf;by_cases hlt2:m<t.rows.length
    ·obtain ⟨b1,o1,A2,c2,rfl,z1,p0,hcr,hrow⟩:=HR.o.at_ hlt2;have hll:=tableR_row HTB.o hlt2;have hkr:k<t.rows[m].length:=(by omega);obtain ⟨b2,o2,A5,c5,B5,e5,rfl,z2,⟨q0,q1,q2,q3,q4,q5,q6⟩,_,hv⟩:=hrow.at_ hkr;have hrl2:=hrow.len;have hdr:t.rows.drop m=t.rows[m] :: t.rows.drop (m+1):=List.drop_eq_getElem_cons hlt2;have hgd:(t.rows[m].getD k Val.zero)=t.rows[m][k]:=getD_of _ _ _ hkr;by_cases hk0:t.rows[m][k].kind=0
     ·have HK:=Hd (show kindsFrom k (t.rows.drop (m+1)) kd=kindsFrom k t.rows 0 by rw [← HKF.o,hdr,kindsFrom,hgd,if_pos hk0]);have hk0':(t.rows[m][k].kind==0)=true:=(by simp [hk0]);clear hk0 hdr hgd hrow hv hll;go_wp2
      go_round
      case rel=>exact ⟨m+1,kd,by omega,by go_num,rfl,HK.o⟩
      case measure=>simp [intOf]; omega
     ·have hk0':(t.rows[m][k].kind==0)=false:=(by simp [hk0]);by_cases hd0:kd=0
      ·have hd0':(kd != 0)=false:=(by simp [hd0]);have HK:=Hd (show kindsFrom k (t.rows.drop (m+1)) t.rows[m][k].kind=kindsFrom k t.rows 0 by rw [← HKF.o,hdr,kindsFrom,hgd,if_neg hk0,if_neg (by omega)]);clear hk0 hdr hgd hrow hv hll hd0;go_wp2
       go_round
       case rel=>exact ⟨m+1,_,by omega,by go_num,rfl,HK.o⟩
       case measure=>simp [intOf]; omega
      ·have hd0':(kd != 0)=true:=(by simp [hd0]);by_cases hdk:kd=t.rows[m][k].kind
       ·have hdk':(kd != t.rows[m][k].kind)=false:=(by simp [hdk]);have HK:=Hd (show kindsFrom k (t.rows.drop (m+1)) t.rows[m][k].kind=kindsFrom k t.rows 0 by rw [← HKF.o,hdr,kindsFrom,hgd,if_neg hk0,if_neg (by omega)]);clear hk0 hdr hgd hrow hv hll hd0 hdk;go_wp2
        go_round
        case rel=>exact ⟨m+1,_,by omega,by go_num,rfl,HK.o⟩
        case measure=>simp [intOf]; omega
       ·have hdk':(kd != t.rows[m][k].kind)=true:=(by rw [bne_iff_ne]; exact hdk);have HF:=Hd (show lookR t=false by
         have:kindsFrom k t.rows 0=false:=(by rw [← HKF.o,hdr,kindsFrom,hgd,if_neg hk0,if_pos ⟨hd0,hdk⟩]);unfold lookR;rw [range_not hlt this];simp)
        clear hk0 hdr hgd hrow hv hll hd0 hdk;go_wp2;go_ret;exact ⟨by rw [HF.o]; rfl,HX2.o⟩
    ·have HK:=Hd (show kindsFrom k t.rows 0=true by rw [← HKF.o,List.drop_eq_nil_of_le (by omega)]; rfl);go_wp2
     go_round
     case rel =>
      refine ⟨k+1,by omega,by go_num,fun j hj => ?_⟩;by_cases hjk:j=k
      ·subst hjk; exact HK.o
      ·exact HA.o j (by omega)
     case measure=>simp [intOf]; omega
  ·have HF:=Hd (show lookR t=true by
    unfold lookR;rw [HN.o,HTB.o,range_all (fun j hj=>HA.o j (by omega))];simp [HE.o])
   go_wp2;go_ret;exact ⟨by rw [HF.o]; rfl,HX2.o⟩

theorem quietI {P:Program} {f:FuncId} {args:Array Value} {w:World} {n:Nat} {v:Int} (h:Calls P f args (w.drewN n) (SameI (w.drewN n) v)) :
  Calls P f args (w.drewN n) fun e w''=>e=.returned (.int .i64 v)∧∃ m,w''=w.drewN m:=h.mono fun _ _ ⟨he,hm⟩=>⟨he,n,hm.symm⟩

theorem table_isTable (q:Nat) (x:Val) (A B:Option Addr) (c e:Nat) (w:World) (S:Nat→Prop) (h:RV w S q x A B) (hcap:x.cols.length≤c) :
  Calls Tryz.prog 31 #[(.agg #[.int .i64 x.kind,.string x.s,.int .i64 x.dn,.int .i64 x.ds,.int .i64 x.n,.slice A x.cols.length c,.slice B x.rows.length e])] w (RetB w (decide (x.kind=5) && rightB x)):=by
 have H:=Hd h;clear h;by_cases hk:x.kind=5
 ·have k0:(x.kind==5)=true:=(by simp [hk]);have HF:=Hd (show (decide (x.kind=5) && rightB x)=rightB x by simp [hk]);clear hk
  go_enter Tryz.func31,Tryz.ntmps31
  go_wp2_with fail
  refine (value_Right q x A B c e _ S (H.o.keep (((Ext.refl w).alloc _).kept _)) hcap).mono ?_;rintro e1 w1 ⟨rfl,hx1⟩;have HX1:=Hd hx1;clear hx1;go_wp2;go_ret;exact ⟨by rw [HF.o]; rfl,((Ext.refl w).alloc _).trans HX1.o⟩
 ·have k0:(x.kind==5)=false:=(by simp [hk]);have HF:=Hd (show (decide (x.kind=5) && rightB x)=false by simp [hk]);clear hk
  go_enter Tryz.func31,Tryz.ntmps31
  go_wp2;go_ret;exact ⟨by rw [HF.o]; rfl,(Ext.refl w).alloc _⟩

def findRows (k c:Nat) (v:Val):List (List Val)→Val × Int
 | []=>(Val.zero,18)
 | r :: rs=>if isB (r.getD k Val.zero) v=true then (if (r.getD c Val.zero).kind=0 then (Val.zero,18) else (r.getD c Val.zero,0)) else findRows k c v rs
def findS (t:Look) (key:ByteArray) (v:Val) (col:ByteArray):Val × Int :=
 if lookR t=false then (Val.zero,1)
 else if idxS t.cols key<0∨idxS t.cols col<0 then (Val.zero,13)
 else findRows (idxS t.cols key).toNat (idxS t.cols col).toNat v t.rows
def RetVE (w:World) (S:Nat→Prop) (d:Nat) (r:Val × Int) (e:Ending) (w':World):Prop :=
 ∃ A c B e',e=.returned (.tuple #[(.agg #[.int .i64 r.1.kind,.string r.1.s,.int .i64 r.1.dn,.int .i64 r.1.ds,.int .i64 r.1.n,.slice A r.1.cols.length c,.slice B r.1.rows.length e']),.int .i64 r.2])∧(r.1.cols.length≤c∧r.1.rows.length≤e')∧RV w' S d r.1 A B∧Ext w w'
theorem lookR_tab {t:Look} (h:lookR t=true):tableR t.cols t.rows=true:=by
 simp only [lookR,Bool.and_eq_true] at h;exact h.1.2

theorem table_Find (d:Nat) (t:Look) (key:ByteArray) (v:Val) (col:ByteArray) (A B Av Bv:Option Addr) (c e cv ev:Nat) (w:World) (S T:Nat→Prop) (h:RL w S d t A B) (hcap:t.cols.length≤c) (hv:RV w T d v Av Bv) :
  Calls Tryz.prog 19 #[(.agg #[.string t.name,.slice A t.cols.length c,.slice B t.rows.length e]),.string key,(.agg #[.int .i64 v.kind,.string v.s,.int .i64 v.dn,.int .i64 v.ds,.int .i64 v.n,.slice Av v.cols.length cv,.slice Bv v.rows.length ev]),.string col] w (RetVE w (Fresh w) d (findS t key v col)):=by
 have H:=Hd h;have HV:=Hd hv;have hcl:=h.2.1.2.1;have hrl:=h.2.2.len;clear h hv
 go_enter Tryz.func19,Tryz.ntmps19
 go_wp2_with fail
 refine (table_Right d t A B c e _ S (H.o.keep (((((Ext.refl w).alloc _).alloc _).alloc _).kept _)) hcap).mono ?_;rintro e1 w1 ⟨rfl,hx1⟩;have HX1:=Hd ((((Ext.refl w).alloc _).alloc _).alloc _ |>.trans hx1);have hz0:=hx1.size;simp at hz0;have hz1:w.heap.size<w1.heap.size:=(by omega);have hz2:w.heap.size+1<w1.heap.size:=(by omega);have hz3:w.heap.size+1+1<w1.heap.size:=(by omega);obtain ⟨hc1,hf1⟩:=bcell hx1;simp at hc1 hf1;cases hR:lookR t
 ·have HF:=Hd (show findS t key v col=(Val.zero,1) by simp [findS,hR]);clear hR hx1;go_wp2;rw [HF.o];refine bodyPost_ret (v:=.tuple #[(.agg #[.int .i64 Val.zero.kind,.string Val.zero.s,.int .i64 Val.zero.dn,.int .i64 Val.zero.ds,.int .i64 Val.zero.n,.slice none Val.zero.cols.length 0,.slice none Val.zero.rows.length 0]),.int .i64 1]) (by simp [results,Tryz.results19,go_sem,hc1,Val.zero]) rfl ⟨none,0,none,0,rfl,⟨Nat.le_refl _,Nat.le_refl _⟩,RV.zero,?_⟩
  iterate 7 with_reducible refine Ext.set2 ?_ (by omega) _
  with_reducible exact HX1.o
 have HR:=Hd hR;have g1:w1.cell? ⟨w.heap.size,1,none⟩=some (.slice A t.cols.length c):=(by rw [hc1 _ _ (by omega)]; simp [go_sem]);have g2:w1.cell? ⟨w.heap.size,2,none⟩=some (.slice B t.rows.length e):=(by rw [hc1 _ _ (by omega)]; simp [go_sem]);have bV:Blk w1 (w.heap.size+1) 31 #[.int .i64 v.kind,.string v.s,.int .i64 v.dn,.int .i64 v.ds,.int .i64 v.n,.slice Av v.cols.length cv,.slice Bv v.rows.length ev]:=by
  have:=((Blk.new (w.alloc (.cells #[.string t.name,.slice A t.cols.length c,.slice B t.rows.length e] 36)) 31 #[.int .i64 v.kind,.string v.s,.int .i64 v.dn,.int .i64 v.ds,.int .i64 v.n,.slice Av v.cols.length cv,.slice Bv v.rows.length ev]).keep (Kept.alloc _ _ _)).keep (hx1.kept _)
  simpa using this
 have bR:Blk w1 (w.heap.size+1+1) 31 #[.int .i64 Val.zero.kind,.string Val.zero.s,.int .i64 Val.zero.dn,.int .i64 Val.zero.ds,.int .i64 Val.zero.n,.slice none Val.zero.cols.length 0,.slice none Val.zero.rows.length 0]:=by
  have:=(Blk.new ((w.alloc (.cells #[.string t.name,.slice A t.cols.length c,.slice B t.rows.length e] 36)).alloc (.cells #[.int .i64 v.kind,.string v.s,.int .i64 v.dn,.int .i64 v.ds,.int .i64 v.n,.slice Av v.cols.length cv,.slice Bv v.rows.length ev] 31)) 31 #[.int .i64 Val.zero.kind,.string Val.zero.s,.int .i64 Val.zero.dn,.int .i64 Val.zero.ds,.int .i64 Val.zero.n,.slice none Val.zero.cols.length 0,.slice none Val.zero.rows.length 0]).keep (hx1.kept _)
  simpa using this
 have HBV:=Hd bV;have HBR:=Hd bR;have HL:=Hd (H.o.keep (HX1.o.kept S));clear hx1 hc1 hf1 bV bR hR;go_wp2
 go_quiet ((go_at_call 32; exact quietI (slices_Index _ _ _ _ _ S (HL.o.2.1.keep (Kept.drewN _ _ _)))))
 rename_i nq;have HX2:=Hd (HX1.o.drewN nq);have HBV2:=Hd (HBV.o.keep (Kept.drewN _ _ nq));have HBR2:=Hd (HBR.o.keep (Kept.drewN _ _ nq));have HL2:=Hd (HL.o.keep (Kept.drewN _ _ nq));have HE0:=Hd (show (w1.drewN nq).heap.size=w1.heap.size from rfl);have g3:(w1.drewN nq).cell? ⟨w.heap.size,2,none⟩=some (.slice B t.rows.length e):=g2;clear g1 g2;generalize w1.drewN nq=w2 at *;have hz4:w.heap.size+1+1<w2.heap.size:=(by rw [HE0.o]; exact hz3);by_cases hk:0≤idxS t.cols key
 case neg =>
  have HF:=Hd (show findS t key v col=(Val.zero,13) by
   unfold findS;rw [HR.o,if_neg (by simp),if_pos (Or.inl (by omega))])
  have r0:=HBR2.o.cell (i:=0) rfl;have r1:=HBR2.o.cell (i:=1) rfl;have r2:=HBR2.o.cell (i:=2) rfl;have r3:=HBR2.o.cell (i:=3) rfl;have r4:=HBR2.o.cell (i:=4) rfl;have r5:=HBR2.o.cell (i:=5) rfl;have r6:=HBR2.o.cell (i:=6) rfl;have rf:=HBR2.o.frozen;go_wp2;rw [HF.o];refine bodyPost_ret (v:=.tuple #[(.agg #[.int .i64 Val.zero.kind,.string Val.zero.s,.int .i64 Val.zero.dn,.int .i64 Val.zero.ds,.int .i64 Val.zero.n,.slice none Val.zero.cols.length 0,.slice none Val.zero.rows.length 0]),.int .i64 13]) (by simp [results,Tryz.results19,go_sem,r0,r1,r2,r3,r4,r5,r6,Val.zero]) rfl ⟨none,0,none,0,rfl,⟨Nat.le_refl _,Nat.le_refl _⟩,RV.zero,?_⟩
  iterate 7 with_reducible refine Ext.set2 ?_ (by omega) _
  with_reducible exact HX2.o
 by_cases hc:0≤idxS t.cols col
 case neg =>
  have HF:=Hd (show findS t key v col=(Val.zero,13) by
   unfold findS;rw [HR.o,if_neg (by simp),if_pos (Or.inr (by omega))])
  have r0:=HBR2.o.cell (i:=0) rfl;have r1:=HBR2.o.cell (i:=1) rfl;have r2:=HBR2.o.cell (i:=2) rfl;have r3:=HBR2.o.cell (i:=3) rfl;have r4:=HBR2.o.cell (i:=4) rfl;have r5:=HBR2.o.cell (i:=5) rfl;have r6:=HBR2.o.cell (i:=6) rfl;have rf:=HBR2.o.frozen;go_wp2;rw [HF.o];refine bodyPost_ret (v:=.tuple #[(.agg #[.int .i64 Val.zero.kind,.string Val.zero.s,.int .i64 Val.zero.dn,.int .i64 Val.zero.ds,.int .i64 Val.zero.n,.slice none Val.zero.cols.length 0,.slice none Val.zero.rows.length 0]),.int .i64 13]) (by simp [results,Tryz.results19,go_sem,r0,r1,r2,r3,r4,r5,r6,Val.zero]) rfl ⟨none,0,none,0,rfl,⟨Nat.le_refl _,Nat.le_refl _⟩,RV.zero,?_⟩
  iterate 7 with_reducible refine Ext.set2 ?_ (by omega) _
  with_reducible exact HX2.o
 obtain ⟨k,hk1,hk2,-⟩:=idxS_at hk;obtain ⟨cc,hc1,hc2,-⟩:=idxS_at hc;have HF:=Hd (show findS t key v col=findRows k cc v t.rows by
  unfold findS;rw [HR.o,if_neg (by simp),if_neg (by omega),hk1,hc1];simp)
 rw [hk1,hc1,HF.o];clear hk hc hk1 hc1;go_wp2;have HTB:=Hd (lookR_tab HR.o)
 go_loopw [36] (fun i wr=>∃ m:Nat,m≤t.rows.length∧i=.int .i64 m∧Ext w2 wr∧findRows k cc v (t.rows.drop m)=findRows k cc v t.rows) (fun i _=>t.rows.length-(intOf i).toNat)
 case atStart=>exact ⟨0,Nat.zero_le _,rfl,Ext.refl _,rfl⟩
 case round =>
  obtain ⟨m,hm,rfl,hext,hfr⟩:=hrel;have HFR:=Hd hfr;have HE:=Hd hext;clear hfr g3;by_cases hlt:m<t.rows.length
  ·obtain ⟨b1,o1,A2,c2,rfl,z1,p0,hcr,hrow⟩:=(HL2.o.2.2.keep (hext.kept S)).at_ hlt;have hll:=tableR_row HTB.o hlt;have hkr:k<t.rows[m].length:=(by omega);have hcr2:cc<t.rows[m].length:=(by omega);obtain ⟨b2,o2,A5,c5,B5,e5,rfl,z2,⟨q0,q1,q2,q3,q4,q5,q6⟩,⟨hd,_,_⟩,hv5⟩:=hrow.at_ hkr;have hrl2:=hrow.len;have hdr:t.rows.drop m=t.rows[m] :: t.rows.drop (m+1):=List.drop_eq_getElem_cons hlt;have hgd:(t.rows[m].getD k Val.zero)=t.rows[m][k]:=getD_of _ _ _ hkr;have hgc:(t.rows[m].getD cc Val.zero)=t.rows[m][cc]:=getD_of _ _ _ hcr2;have HV5:=Hd hv5;have HROW:=Hd hrow;have hbv:=HBV2.o.keep (hext.kept _);have v0:=hbv.cell (i:=0) rfl;have v1:=hbv.cell (i:=1) rfl;have v2:=hbv.cell (i:=2) rfl;have v3:=hbv.cell (i:=3) rfl;have v4:=hbv.cell (i:=4) rfl;have v5:=hbv.cell (i:=5) rfl;have v6:=hbv.cell (i:=6) rfl;have HDR:=Hd hdr;have HGD:=Hd hgd;have HGC:=Hd hgc;clear hbv hdr hgd hgc hrow hv5 hext hll;go_wp2
   go_still_tail 5,(by kernel_rfl)
   go_wp2_with fail
   refine (table_is d t.rows[m][k] v A5 B5 Av Bv c5 e5 cv ev _ S T ((HV5.o.up (by omega)).keep (Kept.drew _ _)) ((HV.o.keep ((HX2.o.trans HE.o).kept T)).keep (Kept.drew _ _))).mono ?_;rintro e1 w3 ⟨rfl,hx3⟩;have HX3:=Hd (HE.o.drew.trans hx3);have HX3':=Hd (((Ext.refl wr).drew).trans hx3);clear hx3 v0 v1 v2 v3 v4 v5 v6;cases his:isB t.rows[m][k] v
   ·have HK:=Hd (show findRows k cc v (t.rows.drop (m+1))=findRows k cc v t.rows by rw [← HFR.o,HDR.o,findRows,HGD.o,his]; simp);clear his;go_wp2;go_roundw
    case rel=>exact ⟨m+1,by omega,by go_num,HX3.o,HK.o⟩
    case measure=>simp [intOf]; omega
   ·obtain ⟨b3,o3,A6,c6,B6,e6,hb3,z3,⟨q0',q1',q2',q3',q4',q5',q6'⟩,⟨hd',_,_⟩,hv6⟩:=(HROW.o.keep (HX3'.out.kept S)).at_ hcr2;injection hb3 with hb3;injection hb3 with hb3 hb4;subst hb3;subst hb4;have HV6:=Hd hv6;clear hv6;have hbr:=HBR2.o.keep (HX3.o.kept _);have r0:=hbr.cell (i:=0) rfl;have r1:=hbr.cell (i:=1) rfl;have r2:=hbr.cell (i:=2) rfl;have r3:=hbr.cell (i:=3) rfl;have r4:=hbr.cell (i:=4) rfl;have r5:=hbr.cell (i:=5) rfl;have r6:=hbr.cell (i:=6) rfl;have rf:=hbr.frozen;have hz5:=hbr.lt;have HBR3:=Hd hbr;clear hbr;by_cases hk0:t.rows[m][cc].kind=0
    ·have hk0':(t.rows[m][cc].kind==0)=true:=(by simp [hk0]);have HK:=Hd (show findRows k cc v t.rows=(Val.zero,18) by rw [← HFR.o,HDR.o,findRows,HGD.o,HGC.o,his,if_pos rfl,if_pos hk0]);clear his hk0;go_wp2;rw [HF.o,HK.o];refine bodyPost_ret (v:=.tuple #[(.agg #[.int .i64 Val.zero.kind,.string Val.zero.s,.int .i64 Val.zero.dn,.int .i64 Val.zero.ds,.int .i64 Val.zero.n,.slice none Val.zero.cols.length 0,.slice none Val.zero.rows.length 0]),.int .i64 18]) (by simp [results,Tryz.results19,go_sem,r0,r1,r2,r3,r4,r5,r6,Val.zero]) rfl ⟨none,0,none,0,rfl,⟨Nat.le_refl _,Nat.le_refl _⟩,RV.zero,?_⟩
     iterate 7 with_reducible refine Ext.set2 ?_ (by omega) _
     exact HX2.o.trans HX3.o
    ·have hk0':(t.rows[m][cc].kind==0)=false:=(by simp [hk0]);have HK:=Hd (show findRows k cc v t.rows=(t.rows[m][cc],0) by rw [← HFR.o,HDR.o,findRows,HGD.o,HGC.o,his,if_pos rfl,if_neg hk0]);clear his hk0
     go_wp2_with fail
     refine (value_Copy d t.rows[m][cc] A6 B6 c6 e6 _ S (HV6.o.up (by omega))).mono ?_;rintro e1 w4 ⟨A7,c7,B7,e7,rfl,hcp7,hv7,hx4⟩;have HX4:=Hd hx4;have HV7:=Hd hv7;clear r0 r1 r2 r3 r4 r5 r6 rf hz5 hv7;have hbr:=HBR3.o.keep (hx4.kept _);have r0:=hbr.cell (i:=0) rfl;have r1:=hbr.cell (i:=1) rfl;have r2:=hbr.cell (i:=2) rfl;have r3:=hbr.cell (i:=3) rfl;have r4:=hbr.cell (i:=4) rfl;have r5:=hbr.cell (i:=5) rfl;have r6:=hbr.cell (i:=6) rfl;have rf:=hbr.frozen;have hz5:=hbr.lt;have HBL:=Hd HBR3.o.lt;clear hbr hx4;go_wp2;rw [HF.o,HK.o];refine bodyPost_ret (v:=.tuple #[(.agg #[.int .i64 t.rows[m][cc].kind,.string t.rows[m][cc].s,.int .i64 t.rows[m][cc].dn,.int .i64 t.rows[m][cc].ds,.int .i64 t.rows[m][cc].n,.slice A7 t.rows[m][cc].cols.length c7,.slice B7 t.rows[m][cc].rows.length e7]),.int .i64 0]) (by simp [results,Tryz.results19,go_sem,r0,r1,r2,r3,r4,r5,r6]) rfl ⟨A7,c7,B7,e7,rfl,hcp7,(HV7.o.move (T:=Fresh w) (S:=Fresh w3) ?_ ?_),?_⟩
     ·iterate 7 with_reducible refine Kept.set2 ?_ (by have:=HBL.o; unfold Fresh; omega)
      with_reducible exact Kept.refl _ _
     ·intro i _ hi;have:=(HX2.o.trans HX3.o).size;unfold Fresh at hi ⊢;omega
     ·iterate 7 with_reducible refine Ext.set2 ?_ (by omega) _
      exact HX2.o.trans (HX3.o.trans HX4.o)
  ·have HK:=Hd (show findRows k cc v t.rows=(Val.zero,18) by rw [← HFR.o,List.drop_eq_nil_of_le (by omega)]; rfl);have hbr:=HBR2.o.keep (hext.kept _);have r0:=hbr.cell (i:=0) rfl;have r1:=hbr.cell (i:=1) rfl;have r2:=hbr.cell (i:=2) rfl;have r3:=hbr.cell (i:=3) rfl;have r4:=hbr.cell (i:=4) rfl;have r5:=hbr.cell (i:=5) rfl;have r6:=hbr.cell (i:=6) rfl;have rf:=hbr.frozen;have hz5:=hbr.lt;clear hbr hext;go_wp2;rw [HF.o,HK.o];refine bodyPost_ret (v:=.tuple #[(.agg #[.int .i64 Val.zero.kind,.string Val.zero.s,.int .i64 Val.zero.dn,.int .i64 Val.zero.ds,.int .i64 Val.zero.n,.slice none Val.zero.cols.length 0,.slice none Val.zero.rows.length 0]),.int .i64 18]) (by simp [results,Tryz.results19,go_sem,r0,r1,r2,r3,r4,r5,r6,Val.zero]) rfl ⟨none,0,none,0,rfl,⟨Nat.le_refl _,Nat.le_refl _⟩,RV.zero,?_⟩
   iterate 7 with_reducible refine Ext.set2 ?_ (by omega) _
   exact HX2.o.trans HE.o

def regB (cols:List ByteArray) (rows:List (List Val)):Bool:=rows.all fun r=>decide (r.length=cols.length)
theorem table_regular (q:Nat) (cols:List ByteArray) (rows:List (List Val)) (A B:Option Addr) (c e:Nat) (w:World) (S:Nat→Prop) (_hcl:cols.length≤4294967296) (hB:Rows w S q B rows) :
  Calls Tryz.prog 45 #[.slice A cols.length c,.slice B rows.length e] w (SameB w (regB cols rows)):=by
 have hm:=hB.len
 go_enter Tryz.func45,Tryz.ntmps45
 go_wp2
 go_loop [9] (fun i=>∃ k:Nat,k≤rows.length∧i=.int .i64 k∧∀ j (h:j<rows.length),j<k→rows[j].length=cols.length) (fun i=>rows.length-(intOf i).toNat)
 case atStart=>exact ⟨0,Nat.zero_le _,rfl,by intros; omega⟩
 case round =>
  obtain ⟨k,hk,rfl,hall⟩:=hrel;have HA:=Hd hall;clear hall;by_cases hlt:k<rows.length
  ·obtain ⟨b1,o1,A2,c2,rfl,z1,p0,hcr,hrow⟩:=hB.at_ hlt;have hrl:=hrow.len;clear hrow;by_cases hln:rows[k].length=cols.length
   ·have hn1:((rows[k].length:Int) != (cols.length:Int))=false:=(by simp [hln]);have HLN:=Hd hln;clear hln;go_wp2
    go_round
    case rel =>
     refine ⟨k+1,by omega,by go_num,fun j h hj => ?_⟩;by_cases hjk:j=k
     ·subst hjk; exact HLN.o
     ·exact HA.o j h (by omega)
    case measure=>simp [intOf]; omega
   ·have hn1:((rows[k].length:Int) != (cols.length:Int))=true:=(by rw [bne_iff_ne]; omega);have HF:=Hd (show regB cols rows=false by unfold regB; exact all_not rows _ k hlt (by simp [hln]));clear hln;go_wp2;go_ret;exact ⟨by rw [HF.o]; rfl,rfl⟩
  ·have HF:=Hd (show regB cols rows=true by unfold regB; exact all_take rows _ (fun j h=>by simp [HA.o j h (by omega)]));go_wp2;go_ret;exact ⟨by rw [HF.o]; rfl,rfl⟩

theorem table_classes1 (q:Nat) (x y:List Val) (A B:Option Addr) (ca cb k g1 g2:Nat) (w:World) (S T:Nat→Prop) (hx:Row w S q A x) (hy:Row w T q B y) (hkx:k<x.length) (hky:k<y.length)
  (h1:w.cell? ⟨g1,0,none⟩=some (.int .i64 (k:Int))) (h2:w.cell? ⟨g2,0,none⟩=some (.slice B y.length cb)) :
  Calls Tryz.prog 72 #[.slice A x.length ca,.pointer (some ⟨g1,0,none⟩),.pointer (some ⟨g2,0,none⟩)] w (RetB w (decide (x.getD k Val.zero=y.getD k Val.zero))):=by
 have hxl:=hx.len;have hyl:=hy.len;obtain ⟨b1,o1,A1,c1,B1,e1,rfl,z1,⟨p0,p1,p2,p3,p4,p5,p6⟩,⟨hq,_,_⟩,hv1⟩:=hx.at_ hkx;obtain ⟨b2,o2,A2,c2,B2,e2,rfl,z2,⟨q0,q1,q2,q3,q4,q5,q6⟩,_,hv2⟩:=hy.at_ hky;have HV1:=Hd hv1;have HV2:=Hd hv2;have G1:=Hd (getD_of x k Val.zero hkx);have G2:=Hd (getD_of y k Val.zero hky);clear hv1 hv2 hx hy
 go_enter Tryz.func72,Tryz.ntmps72
 go_wp2
 go_still_tail 8,(by kernel_rfl)
 go_wp2_with fail
 refine (value_Equal (q-1) x[k] y[k] A1 B1 A2 B2 c1 e1 c2 e2 _ S T (HV1.o.keep (Kept.drew _ _)) (HV2.o.keep (Kept.drew _ _))).mono ?_;rintro e w1 ⟨rfl,hx1⟩;have HX:=Hd (((Ext.refl w).drew).trans hx1);clear hx1;go_wp2;go_ret;exact ⟨by rw [G1.o,G2.o]; rfl,HX.o⟩

def idxF {α:Type} (p:α→Bool) (l:List α):Int:=match l.findIdx? p with | some i=>(i:Int) | none=>-1
theorem idxF_found {α:Type} {p:α→Bool} {l:List α} {k:Nat} (hk:k<l.length) (h:∀ j (hj:j<l.length),j<k→p l[j]=false) (hv:p l[k]=true):idxF p l=k:=by
 unfold idxF;have:l.findIdx? p=some k:=by
  rw [List.findIdx?_eq_some_iff_getElem];exact ⟨hk,hv,fun j hj=>by simp [h j (by omega) hj]⟩
 rw [this]
theorem idxF_none {α:Type} {p:α→Bool} {l:List α} (h:∀ j (hj:j<l.length),p l[j]=false):idxF p l=-1:=by
 unfold idxF;have:l.findIdx? p=none:=by
  rw [List.findIdx?_eq_none_iff];intro x hx;obtain ⟨i,hi,rfl⟩:=List.mem_iff_getElem.1 hx;exact h i hi
 rw [this]
theorem idxF_some {α:Type} {p:α→Bool} {l:List α} (h:0≤idxF p l):∃ k:Nat,idxF p l=k∧∃ hk:k<l.length,p l[k]=true∧∀ j (hj:j<l.length),j<k→p l[j]=false:=by
 unfold idxF at h ⊢;cases hf:l.findIdx? p with
 | none=>rw [hf] at h; simp at h
 | some i =>
  rw [List.findIdx?_eq_some_iff_getElem] at hf;obtain ⟨hi,h1,h2⟩:=hf;exact ⟨i,rfl,hi,h1,fun j hj hji=>by simpa using h2 j hji⟩
theorem idxF_any {α:Type} (p:α→Bool) (l:List α):decide (0≤idxF p l)=l.any p:=by
 rw [Bool.eq_iff_iff,decide_eq_true_iff,List.any_eq_true];constructor
 ·intro h;obtain ⟨k,_,hk,hp,_⟩:=idxF_some h;exact ⟨_,List.getElem_mem hk,hp⟩
 ·rintro ⟨x,hx,hp⟩;unfold idxF;cases hf:l.findIdx? p with
  | some i=>simp
  | none =>
   rw [List.findIdx?_eq_none_iff] at hf;rw [hf x hx] at hp;cases hp
def eqAt (c:Nat) (r o:List Val):Bool:=decide (o.getD c Val.zero=r.getD c Val.zero)

theorem table_IndexFunc (q:Nat) (rows:List (List Val)) (r:List Val) (A B:Option Addr) (ca cb k g1 g2:Nat) (w:World) (S T:Nat→Prop) (hx:Rows w S q A rows) (hy:Row w T q B r) (hk:∀ j (h:j<rows.length),k<rows[j].length) (hky:k<r.length)
  (h1:w.cell? ⟨g1,0,none⟩=some (.int .i64 (k:Int))) (h2:w.cell? ⟨g2,0,none⟩=some (.slice B r.length cb)) :
  Calls Tryz.prog 71 #[.slice A rows.length ca,.func (.func 72) #[] #[.pointer (some ⟨g1,0,none⟩),.pointer (some ⟨g2,0,none⟩)]] w (RetI w (idxF (eqAt k r) rows)):=by
 have hxl:=hx.len;have HX:=Hd hx;have HY:=Hd hy;have HK:=Hd hk;have H1:=Hd h1;have H2:=Hd h2;clear hx hy hk h1 h2
 go_enter Tryz.func71,Tryz.ntmps71
 go_wp2
 go_loopw [8] (fun i wr=>∃ m:Nat,m≤rows.length∧i=.int .i64 m∧Ext w wr∧∀ j (h:j<rows.length),j<m→eqAt k r rows[j]=false) (fun i _=>rows.length-(intOf i).toNat)
 case atStart=>exact ⟨0,Nat.zero_le _,rfl,Ext.refl _,by intros; omega⟩
 case round =>
  obtain ⟨m,hm,rfl,hext,hall⟩:=hrel;have HA:=Hd hall;have HE:=Hd hext;clear hall;by_cases hlt:m<rows.length
  ·obtain ⟨b1,o1,A2,c2,rfl,z1,p0,hcr,hrow⟩:=(HX.o.keep (hext.kept S)).at_ hlt;have HROW:=Hd hrow;clear hrow hext
   go_wp2_with fail
   refine (table_classes1 q rows[m] r A2 B c2 cb k g1 g2 _ S T HROW.o (HY.o.keep (HE.o.kept T)) (HK.o m hlt) hky (HE.o.cell H1.o) (HE.o.cell H2.o)).mono ?_;rintro e w1 ⟨rfl,hx1⟩;have HX1:=Hd (HE.o.trans hx1);clear hx1;have heq:decide (rows[m].getD k Val.zero=r.getD k Val.zero)=eqAt k r rows[m]:=rfl;rw [heq];clear heq;cases hq:eqAt k r rows[m]
   ·have HQ:=Hd hq;clear hq;go_wp2;go_roundw
    case rel =>
     refine ⟨m+1,by omega,by go_num,HX1.o,fun j h hj => ?_⟩;by_cases hjk:j=m
     ·subst hjk; exact HQ.o
     ·exact HA.o j h (by omega)
    case measure=>simp [intOf]; omega
   ·have HF:=Hd (idxF_found hlt HA.o hq);clear hq;go_wp2;go_ret;exact ⟨by rw [HF.o]; rfl,HX1.o⟩
  ·have HF:=Hd (idxF_none (p:=eqAt k r) (l:=rows) (fun j h=>HA.o j h (by omega)));clear hext;go_wp2;go_ret;exact ⟨by rw [HF.o]; rfl,HE.o⟩

def classesS (rows:List (List Val)) (c:Nat):List Int:=rows.map fun r=>idxF (eqAt c r) rows
def RetIs (w:World) (l:List Int) (e:Ending) (w':World):Prop:=∃ A c,e=.returned (.slice A l.length c)∧l.length≤c∧Ints w' (Fresh w) A l∧Ext w w'

theorem table_classes (q:Nat) (rows:List (List Val)) (A:Option Addr) (ca k:Nat) (w:World) (S:Nat→Prop) (hx:Rows w S q A rows) (hk:∀ j (h:j<rows.length),k<rows[j].length) :
  Calls Tryz.prog 46 #[.slice A rows.length ca,.int .i64 (k:Int)] w (RetIs w (classesS rows k)):=by
 have hxl:=hx.len;have HX:=Hd hx;have HK:=Hd hk;clear hx hk;obtain ⟨cur,hmk,hcur⟩:=run_mk0 tiI rows.length (by omega) (by decide);have HCUR:=Hd hcur;clear hcur
 go_enter Tryz.func46,Tryz.ntmps46
 go_wp2;clear hmk;have hst:OwnIs ((w.alloc (.cells #[.int .i64 (k:Int)] 3)).alloc (.cells cur 3)) (w.heap.size+1) (some ⟨w.heap.size+1,0,none⟩) rows.length ((classesS rows k).take 0):=by
  have:=Own.made (w.alloc (.cells #[.int .i64 (k:Int)] 3)) 3 1 rows.length cur (by unfold maxLen; omega) HCUR.o
  simpa [OwnIs] using this
 have HST:=Hd hst;have HB:=Hd ((Blk.new w 3 #[.int .i64 (k:Int)]).keep (Kept.alloc _ _ (.cells cur 3)));clear hst;have hcsl:(classesS rows k).length=rows.length:=(by simp [classesS]);have HCSL:=Hd hcsl;clear hcsl
 go_loopw [13,5] (fun i v wr=>∃ (m:Nat) (A':Option Addr) (c':Nat),m≤rows.length∧i=.int .i64 m∧v=.slice A' m c'∧Ext w wr∧w.heap.size+1≤wr.heap.size∧wr.cell? ⟨w.heap.size,0,none⟩=some (.int .i64 (k:Int))∧OwnIs wr (w.heap.size+1) A' c' ((classesS rows k).take m)) (fun i _ _=>rows.length-(intOf i).toNat)
 case atStart=>exact ⟨0,_,_,Nat.zero_le _,rfl,rfl,((Ext.refl w).alloc _).alloc _,by simp,HB.o.cell rfl,HST.o⟩
 case round =>
  obtain ⟨m,A',c',hm,rfl,rfl,hext,hsz,hbox,hown⟩:=hrel;have HE:=Hd hext;have HO:=Hd hown;have HBX:=Hd hbox;clear hown hbox;by_cases hlt:m<rows.length
  ·obtain ⟨b1,o1,A2,c2,rfl,z1,p0,hcr,hrow⟩:=(HX.o.keep (hext.kept S)).at_ hlt;have HROW:=Hd hrow;clear hrow hext
   go_wp2_with fail
   refine (table_IndexFunc q rows rows[m] (some ⟨b1,o1,none⟩) A2 ca c2 k w.heap.size wr.heap.size _ S S ((HX.o.keep (HE.o.kept S)).keep (Kept.alloc _ _ _)) (HROW.o.keep (Kept.alloc _ _ _)) HK.o (HK.o m hlt) (((Ext.refl wr).alloc _).cell HBX.o) ((Blk.new wr 50 #[.slice A2 rows[m].length c2]).cell rfl)).mono ?_;rintro e w1 ⟨rfl,hx1⟩;have HX1:=Hd (((Ext.refl wr).alloc _).trans hx1);have hsz1:wr.heap.size<w1.heap.size:=(by have:=hx1.size; simp at this; omega);clear hx1;have hval:(classesS rows k)[m]'(by rw [HCSL.o]; exact hlt)=idxF (eqAt k rows[m]) rows:=(by simp [classesS]);have HVAL:=Hd hval;clear hval;have hlm:((classesS rows k).take m).length=m:=(by rw [List.length_take,HCSL.o]; omega);have hown:=HO.o.ext (HX1.o.alloc (.cells #[.int .i64 (idxF (eqAt k rows[m]) rows)] 3));unfold OwnIs at hown;rw [hlm] at hown;have HOWN:=Hd hown;clear hown hlm
   go_wp2_with (at_builtin; go_must (refine wpList_app rfl (.tmp 17) (.tmp 21) rfl tiI rfl HOWN.o rfl (Blk.rd (Blk.new _ _ _)) rfl (by simp [Value.oneCell']) (by omega) (by decide) (by simp; omega) ?_); intro A4 c4 w4 hown4 hg4 hat4)
   go_roundw
   case rel =>
    have hnb:∀ b,ob A'=some b→w.heap.size+1≤b:=fun b hb=>(HOWN.o.blk hb).1;refine ⟨m+1,A4,c4,by omega,by go_num,rfl,Ext.grown (HE.o.trans (HX1.o.alloc _)) hg4 (fun b hb=>by have:=hnb b hb; omega),by have:=hg4.size; simp at this; omega,?_,?_⟩
    ·rw [World.cell?_of_block (hg4.block w.heap.size (by simp; omega) (fun e=>by have:=hnb _ e.symm; omega))];exact ((Ext.refl wr).trans (HX1.o.alloc _)).cell HBX.o
    ·rw [List.take_succ_eq_append_getElem (by rw [HCSL.o]; exact hlt),HVAL.o];unfold OwnIs;rw [List.length_append,List.length_take,HCSL.o,Nat.min_eq_left hm,List.map_append];exact hown4
   case measure=>simp [intOf]; omega
  ·have hme:m=rows.length:=(by omega);subst hme;clear hext;have ho:=HO.o;rw [List.take_of_length_le (by rw [HCSL.o]; exact Nat.le_refl _)] at ho;have HO2:=Hd ho;clear ho;go_wp2;go_ret;refine ⟨A',c',by rw [HCSL.o]; rfl,Own.cap HO2.o,HO2.o.ints (by rw [HCSL.o]; exact hxl) (fun b hb => ?_),HE.o⟩;have:=(Own.blk HO2.o hb).1;unfold Fresh;omega
end Go.Proofs.YthmckfloppblcaaGreatDoor
