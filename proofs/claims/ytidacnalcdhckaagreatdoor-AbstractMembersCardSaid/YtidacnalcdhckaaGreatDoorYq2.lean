/- Lemmas. No conditions. -/
import Derived.Test.YtidacnalcdhckaaGreatDoorYq1
import Derived.Laws.MakeOwn
import Derived.WalkSpells
import Derived.MapKept
import Derived.Maps.Keyed
set_option maxRecDepth 100000
set_option maxHeartbeats 1000000
namespace Go.Proofs.YtidacnalcdhckaaGreatDoor
open Go Go.RowKit Tryz
variable {qP:Prop}{A B:OA}{P:Program}{S:NP}{by_ d e k n sz t:Nat}{l:List BA}{v:BA}{w w':World}

theorem GIA(ti:TI P t e sz by_)(n c:Nat)(hnc:n<=c)(hb:by_*c<=281474976710656)(hby:0<by_) :
  ∃ cur:Array Value,(∀ w:World,(Instr.makeSlice t (.I (n:Int)) (.I (c:Int))).run P w=.ok (.slice (some ⟨w.heap.size,0,none⟩) n c) (w.alloc (.cells cur e)))/\cur.size=c*sz:=by
 obtain ⟨ht,i,z,hi,hz,U,O,Y,hsz⟩:=ti;refine ⟨madeCells z.cells (c*i.size),λw => ?_,by simp [madeCells,U]⟩;have hc:c<=281474976710656:=by
  have:1*c<=by_*c:=Nat.mul_le_mul_right _ hby;omega
 have hb':(i.bytes:Int)*(c:Int)<=281474976710656:=by
  rw [O];have h:((by_*c:Nat):Int)<=281474976710656:=AA;rwa [Int.natCast_mul] at h
 have hr:=run_make (P:=P) w t e i z ht hi hz .i64 .i64 n c AA AA hb' AA;simp only [Int.toNat_natCast] at hr;exact hr
theorem B2A(ti:TI P t e sz by_)(c:Nat)(hb:by_*c<=281474976710656)(hby:0<by_) :
  ∃ cur:Array Value,(∀ w:World,(Instr.makeSlice t (.I 0) (.I (c:Int))).run P w=.ok (.slice (some ⟨w.heap.size,0,none⟩) 0 c) (w.alloc (.cells cur e)))/\cur.size=c*sz:=by
 have:=GIA ti 0 c (AN) hb hby
 simpa using this

def BO(w:World):Nat->Prop:=λb=>w.heap.size<=b
def CEA(w:World)(l:List BA)(e:Ending)(w':World):Prop:=∃ A' c',e=.returned (.slice A' l.length c')/\l.length<=c'/\Strs w' (BO w) A' l/\Ext w w'
def HuA(w:World)(S:NP)(d:Nat)(x:Val)(e:Ending)(w':World):Prop:=∃ A c B e',e=.returned (Vq x A c B e')/\(x.cols.length<=c/\x.rows.length<=e')/\RV w' S d x A B/\Ext w w'

theorem UT(h:qP:=by
 rcases h.1 with h0|⟨b,o,h1,_⟩
 ·simpa using h0
 ·cases h1):qP:=h
theorem AP(h:qP:=by simp [Value.oneCell']):qP:=h
theorem Wx(A:OA)(c:Nat)(l:List BA)(w:World)(S:NP)(h:Strs w S A l) :
  Cl 161 #[.slice A l.length c] w (CEA w l):=by
 have hn:=h.2.1
 rcases A with _|a
 ·have hl:l=[]:=by
   exact UT
  subst hl;have O:=λw:World=>Lib.run_eql_slice_nil w 26 9 none 0 c 0 0 underlying26;simp only [List.length_nil] at O|-
  go_enter func161,ntmps161
  go_wp2;go_ret;exact ⟨none,0,rfl,Al,Strs.nil,Ext.refl _⟩
 ·have O:=λw:World=>Lib.run_eql_slice_nil w 26 9 (some a) l.length c 0 0 underlying26
  go_enter func161,ntmps161
  go_wp2_with (at_builtin;refine AL rfl (.tmp 5) (.tmp 6) rfl tiS rfl ((World.ownsRow_made w #[] 0 (Al) Bd rfl)) rfl (h.1.keep (Kept.alloc _ _ _)) AC AP AA AB AC ?_;intro A' c' w1 hown hg hat)
  go_ret;simp only [Nat.zero_add,List.nil_append] at hown;exact ⟨A',c',rfl,hown.cap,⟨Rd.of_own hown,h.2⟩,(exaa w).grown hg (λk hk=>by simp [ob] at hk;omega)⟩

structure CopyRel(w:World)(x:Val)(q:Nat)(B:OA)(e:Nat)(A1:OA)(c1:Nat)(k:Nat)(A:OA)(c:Nat)(H:Nat)(wr:World):Prop where
 ext:Ext w wr
 low:w.heap.size+2<=H
 high:H<=wr.heap.size
 box:Blk wr w.heap.size 29 (Vp x A1 c1 B e)
 res:Blk wr (w.heap.size+1) 29 Vz
 cols:Strs wr (λb=>w.heap.size+2<=b/\b<H/\ob A≠some b) A1 x.cols
 rows:OwnRs wr (w.heap.size+2) (λb=>w.heap.size+2<=b/\b<H) q A c (x.rows.take k)
 own:∀ b,ob A=some b->b<H
theorem CopyRel.below{x:Val}{q:Nat}{A1:OA}{c1:Nat}{c:Nat}{H:Nat}{wr wr':World}
  (h:CopyRel w x q B e A1 c1 k A c H wr) (hb:Below H wr wr'):CopyRel w x q B e A1 c1 k A c H wr':=by
 have hl:=h.low;exact ⟨Below.trans h.ext (hb.mono AA),h.low,Nat.le_trans h.high hb.size,h.box.keep (IEA hb (by intro b e _;omega)),h.res.keep (IEA hb (by intro b e _;omega)),
  h.cols.keep (IEA hb (by intro b e _;omega)),h.rows.keep (IEA hb (by
   rintro b (e|e) _
   ·exact h.own b e
   ·exact e.2)),h.own⟩


def Cq(c:Int):Bool:=decide (97<=c/\c<=122\/65<=c/\c<=90)
def Jp(c:Int):Bool:=Cq c||decide (c=95)||decide (48<=c/\c<=57)
def C4(c:Int):Bool:=decide (32<=c/\c<=126)
def bs(s:BA):List Int:=s.data.toList.map λc=>(c.toNat:Int)
theorem GY(s:BA):(bs s).length=s.size:=by simp [bs]
theorem M8(s:BA)(k:Nat)(h:k<s.size):(bs s)[k]'(by rw [GY];exact h)=(s[k].toNat:Int):=by simp [bs];rfl
def Ba(s:BA):Bool:=decide (1<=s.size/\s.size<=20)&&((bs s).head?.any Cq)&&(bs s).all Jp
def Ca(s:BA):Bool:=decide (s.size<=200)&&(bs s).all C4
def SameB(w:World)(b:Bool)(e:Ending)(w':World):Prop:=e=.returned (.bool b)/\w=w'
theorem SameB.ret{b:Bool}{e:Ending}(h:SameB w b e w'):Ae w b e w':=by
 obtain ⟨he,rfl⟩:=h;exact ⟨he,Ext.refl w⟩

theorem F6(c:Int)(w:World):Cl 232 #[.int .u8 c] w (SameB w (Cq c)):=by
 go_enter func232,ntmps232
 go_wp2
 all_goals
  go_ret;refine ⟨?_,rfl⟩;simp only [Cq];simp
  first|done|(rw [Bool.eq_iff_iff];simp;omega)|omega

theorem VU(h:qP:=by
 intro x hx;obtain ⟨i,hi,rfl⟩:=List.mem_iff_getElem.1 hx;exact h i hi):qP:=h
theorem CH{α:Type}(l:List α)(p:α->Bool):(∀ j (h:j<l.length),p l[j]=true)->l.all p=true:=by
 intro h;rw [List.all_eq_true];exact VU
theorem CX{α:Type}(l:List α)(p:α->Bool)(j:Nat)(h:j<l.length)(hp:p l[j]=false):l.all p=false:=by
 rw [List.all_eq_false];exact ⟨l[j],List.getElem_mem h,by simp [hp]⟩

theorem BGA(h:qP:=by
 refine ⟨k+1,by omega,by go_num,λj h hj => ?_⟩;by_cases hjk:j=k
 ·subst hjk;simp [C4];omega
 ·exact HA.o j h (by omega)):qP:=h
theorem ZP(h:qP:=by
 obtain ⟨h1,h2⟩:=ht;go_wp2
 go_round
 case rel =>
  exact BGA
 case measure=>simp [intOf];omega):qP:=h
theorem BrA(h:qP:=by
 unfold Ca;rw [CX (bs s) C4 k (by rw [GY];exact hlt) (by rw [M8 s k hlt];simp only [C4,decide_eq_false_iff_not];exact ht)];simp):qP:=h
theorem Y6(h:qP:=by
 have hf:Ca s=false:=by
  exact BrA
 have HF:=Hd hf;clear hf;by_cases h1:32<=(s[k].toNat:Int)
 all_goals
  go_wp2;go_ret;exact ⟨by rw [HF.o];rfl,rfl⟩):qP:=h
theorem AkA(h:qP:=by
 by_cases ht:32<=(s[k].toNat:Int)/\(s[k].toNat:Int)<=126
 ·exact ZP
 ·exact Y6):qP:=h
theorem BAA(h:qP:=by
 unfold Ca;rw [CH (bs s) C4 (λj h=>by rw [GY] at h;rw [M8 s j h];exact HA.o j h (by omega))];simp):qP:=h
theorem PS(h:qP:=by
 go_wp2;go_ret;exact ⟨by rw [HF.o];simp;omega,rfl⟩):qP:=h
theorem A0A(h:qP:=by
 have hf:Ca s=decide (s.size<=200):=by
  exact BAA
 have HF:=Hd hf;clear hf;exact PS):qP:=h
theorem Uu(h:qP:=by
 obtain ⟨k,hk,rfl,hall⟩:=hrel;have HA:=Hd hall;clear hall;by_cases hlt:k<s.size
 ·exact AkA
 ·exact A0A):qP:=h
theorem M1(s:BA)(hs:s.size<=4294967296)(w:World):Cl 125 #[.string s] w (SameB w (Ca s)):=by
 go_enter func125,ntmps125
 go_wp2
 go_loop [6] (λi=>∃ k:Nat,k<=s.size/\i=.I k/\∀ j (h:j<s.size),j<k->C4 (s[j].toNat:Int)=true) (λi=>s.size-(intOf i).toNat)
 case atStart=>exact ⟨0,AN,rfl,AK⟩
 case round =>
  exact Uu

theorem Ea(h:qP:=by
 go_wp2;go_ret;exact ⟨rfl,rfl⟩):qP:=h
theorem FR(h:qP:=by
 go_ret;exact ⟨by rw [HF.o];rfl,rfl⟩):qP:=h
theorem Bf(h:qP:=by
 go_wp2;exact FR):qP:=h
theorem VX(h:qP:=by
 have:(bs s).head?=some (s[0].toNat:Int):=(by rw [List.head?_eq_getElem?,List.getElem?_eq_getElem (by rw [GY];exact hp),M8 s 0 hp]);rw [this];simp [hl]):qP:=h
theorem BsA(h:qP:=by
 refine ⟨k+1,by omega,by go_num,λj h hj => ?_⟩;by_cases hjk:j=k
 ·subst hjk;exact HN.o
 ·exact HA.o j h (by omega)):qP:=h
theorem QC(h:qP:=by
 go_wp2_with (go_at_call 232;refine (F6 _ _).mono ?_;rintro e w' ⟨rfl,rfl⟩;rw [HK1.o])
 go_round
 case rel =>
  exact BsA
 case measure=>simp [intOf];omega):qP:=h
theorem RN(h:qP:=by
 clear h1 h2;exact QC):qP:=h
theorem T8(h:qP:=by
 have HF:=Hd hf;clear hf;exact Bf):qP:=h
theorem BB(h:qP:=by rw [HF.o];rfl):qP:=h
theorem DZ(h:qP:=by simp [h2]):qP:=h
theorem I6(s:BA)(hs:s.size<=4294967296)(w:World):Cl 187 #[.string s] w (SameB w (Ba s)):=by
 by_cases h0:s.size=0
 ·have he:s=⟨#[]⟩:=by
   cases s;simp [ByteArray.size] at h0;rw [h0]
  subst he
  go_enter func187,ntmps187
  exact Ea
 have e1:s.toList=[]->False:=λh=>h0 (by have h2:=congrArg List.length h;rw [ByteArray.toList_eq,Array.length_toList] at h2;exact h2);have e2:(s.toList.isEmpty)=false:=(by simpa using e1);by_cases h20:20<s.size
 ·have hf:Ba s=false:=(by unfold Ba;simp;omega);have HF:=Hd hf;have U:(20:Int)<(s.size:Int):=AA;clear hf
  go_enter func187,ntmps187
  exact Bf
 ·have hp:0<s.size:=AA;cases hl:Cq (s[0].toNat:Int)
  ·have hf:Ba s=false:=by
    unfold Ba;exact VX
   have HF:=Hd hf;have HL:=Hd hl;clear hf hl
   go_enter func187,ntmps187
   go_wp2_with (go_at_call 232;refine (F6 _ _).mono ?_;rintro e w' ⟨rfl,rfl⟩;rw [HL.o])
   exact FR
  ·have O:(bs s).head?.any Cq=true:=by
    exact VX
   have a8:=Hd O;have HL:=Hd hl;clear O hl;have U:(s.size:Int)<=20:=AA
   go_enter func187,ntmps187
   go_wp2_with (go_at_call 232;refine (F6 _ _).mono ?_;rintro e w' ⟨rfl,rfl⟩;rw [HL.o])
   go_loop [19] (λi=>∃ k:Nat,k<=s.size/\i=.I k/\∀ j (h:j<s.size),j<k->Jp (s[j].toNat:Int)=true) (λi=>s.size-(intOf i).toNat)
   case atStart=>exact ⟨0,AN,rfl,AK⟩
   case round =>
    obtain ⟨k,hk,rfl,hall⟩:=hrel;have HA:=Hd hall;clear hall;by_cases hlt:k<s.size
    ·cases hn:Jp (s[k].toNat:Int)
     ·have hf:Ba s=false:=by
       unfold Ba;rw [CX (bs s) Jp k (by rw [GY];exact hlt) (by rw [M8 s k hlt];exact hn)];simp
      have HF:=Hd hf;have Z:Cq (s[k].toNat:Int)=false/\¬((s[k].toNat:Int)=95)/\¬(48<=(s[k].toNat:Int)/\(s[k].toNat:Int)<=57):=by
       have h9:=hn;simp [Jp] at h9;exact ⟨h9.1.1,h9.1.2,λh=>AA⟩
      obtain ⟨hk1,hk2,hk3⟩:=Z;have HK1:=Hd hk1;have hk4:((s[k].toNat:Int) != 95)=true:=(by rw [bne_iff_ne];exact hk2);clear hf hn hk1;by_cases hk5:(s[k].toNat:Int)<48
      all_goals
       go_wp2_with (go_at_call 232;refine (F6 _ _).mono ?_;rintro e w' ⟨rfl,rfl⟩;rw [HK1.o])
       go_ret;exact ⟨BB,rfl⟩
     ·have HN:=Hd hn;have Y:Cq (s[k].toNat:Int)=true\/Cq (s[k].toNat:Int)=false/\((s[k].toNat:Int)=95\/((s[k].toNat:Int)≠95/\48<=(s[k].toNat:Int)/\(s[k].toNat:Int)<=57)):=by
       cases hq:Cq (s[k].toNat:Int)
       ·right;refine ⟨rfl,?_⟩;simp [Jp,hq] at hn;omega
       ·left;rfl
      clear hn
      rcases Y with h1|⟨h1,h2|⟨h2,h3,h4⟩⟩
      ·have HK1:=Hd h1;clear h1;exact QC
      ·have HK1:=Hd h1;have h5:((s[k].toNat:Int) != 95)=false:=DZ;exact RN
      ·have HK1:=Hd h1;have h5:((s[k].toNat:Int) != 95)=true:=(by rw [bne_iff_ne];exact h2);exact RN
    ·have hf:Ba s=true:=by
      unfold Ba;rw [a8.o,CH (bs s) Jp (λj h=>by rw [GY] at h;rw [M8 s j h];exact HA.o j h AA)];simp;omega
     exact T8

def Bk(w:World)(n:Int)(e:Ending)(w':World):Prop:=e=.returned (.I n)/\w=w'
def DG(w:World)(n:Int)(e:Ending)(w':World):Prop:=e=.returned (.I n)/\Ext w w'
def Bt(l:List BA)(v:BA):Int:=match l.findIdx? (λs=>decide (s=v)) with|some i=>(i:Int)|none=>-1
theorem QN(hk:k<l.length)(h:∀ j (hj:j<l.length),j<k->l[j]≠v)(hv:l[k]=v):Bt l v=k:=by
 unfold Bt;have:l.findIdx? (λs=>decide (s=v))=some k:=by
  rw [List.findIdx?_eq_some_iff_getElem];exact ⟨hk,by simp [hv],λj hj=>by simp [h j AA hj]⟩
 rw [this]
theorem Nd(h:∀ j (hj:j<l.length),l[j]≠v):Bt l v=-1:=by
 unfold Bt;have:l.findIdx? (λs=>decide (s=v))=none:=by
  rw [List.findIdx?_eq_none_iff];intro x hx;obtain ⟨i,hi,rfl⟩:=List.mem_iff_getElem.1 hx;simp [h i hi]
 rw [this]
theorem Fl(l:List BA)(v:BA):(0<=Bt l v↔v∈l):=by
 unfold Bt;cases h:l.findIdx? (λs=>decide (s=v)) with
 |none =>
  rw [List.findIdx?_eq_none_iff] at h;simp;intro hv;have:=h v hv;simp at this
 |some i =>
  rw [List.findIdx?_eq_some_iff_getElem] at h;obtain ⟨hi,h1,_⟩:=h;simp at h1;simp;rw [<-h1];exact List.getElem_mem hi
theorem J5(h:0<=Bt l v):∃ k:Nat,Bt l v=k/\∃ hk:k<l.length,l[k]=v/\∀ j (hj:j<l.length),j<k->l[j]≠v:=by
 unfold Bt at h|-;cases hf:l.findIdx? (λs=>decide (s=v)) with
 |none=>rw [hf] at h;simp at h
 |some i =>
  rw [List.findIdx?_eq_some_iff_getElem] at hf;obtain ⟨hi,h1,h2⟩:=hf;refine ⟨i,rfl,hi,by simpa using h1,λj hj hji => ?_⟩;have:=h2 j hji
  simpa using this
def Aw(l:List BA)(v:BA):Bool:=decide (0<=Bt l v)
theorem Ao(l:List BA)(v:BA):Aw l v=true↔v∈l:=by simp [Aw,Fl]
theorem WR(s:BA):s.toList=[]↔s=⟨#[]⟩:=by
 rw [ByteArray.toList_eq];constructor
 ·intro h;cases s;simp at h;rw [h]
 ·rintro rfl;rfl

theorem Om(h:qP:=by
 have HV:=Hd hv;clear hv;go_wp2;go_ret;exact ⟨by rw [QN hlt (λj hj h=>HA.o j hj h) HV.o];rfl,rfl⟩):qP:=h
theorem ZC(h:qP:=by
 refine ⟨k+1,by omega,by go_num,λj h hj => ?_⟩;by_cases hjk:j=k
 ·subst hjk;exact HV.o
 ·exact HA.o j h (by omega)):qP:=h
theorem Ot(h:qP:=by
 clear hv;go_wp2
 go_round
 case rel =>
  exact ZC
 case measure=>simp [intOf];omega):qP:=h
theorem Kj(h:qP:=by
 have HV:=Hd hv;exact Ot):qP:=h
theorem Oy(h:qP:=by
 go_wp2;go_ret;exact ⟨by rw [Nd (λj hj=>HA.o j hj (by omega))];rfl,rfl⟩):qP:=h
theorem Dv(A:OA)(c:Nat)(l:List BA)(v:BA)(w:World)(S:NP)(h:Strs w S A l) :
  Cl 160 #[.slice A l.length c,.string v] w (Bk w (Bt l v)):=by
 have hn:=h.2.1
 go_enter func160,ntmps160
 go_wp2
 go_loop [8] (λi=>∃ k:Nat,k<=l.length/\i=.I k/\∀ j (h:j<l.length),j<k->l[j]≠v) (λi=>l.length-(intOf i).toNat)
 case atStart=>exact ⟨0,AN,rfl,AK⟩
 case round =>
  obtain ⟨k,hk,rfl,hall⟩:=hrel;have HA:=Hd hall;clear hall;by_cases hlt:k<l.length
  ·obtain ⟨b1,o1,rfl,z1,c1⟩:=h.at_ hlt;by_cases hv:l[k]=v
   ·have ht:(v.toList==l[k].toList)=true:=(by rw [Bj];simp [hv]);exact Om
   ·have ht:(v.toList==l[k].toList)=false:=(by rw [Bj];simp [Ne.symm hv]);exact Kj
  ·exact Oy

theorem Bu(A:OA)(c:Nat)(l:List BA)(v:BA)(w:World)(S:NP)(h:Strs w S A l) :
  Cl 85 #[.slice A l.length c,.string v] w (SameB w (Aw l v)):=by
 have H:=Hd h;clear h
 go_enter func85,ntmps85
 go_wp2_with (go_at_call 160;refine (Dv _ _ _ _ _ S H.o).mono ?_;rintro e w' ⟨rfl,rfl⟩)
 go_ret;exact ⟨rfl,rfl⟩

def Fx(n:Int):Bool:=decide (-1000000000000000<=n/\n<=1000000000000000)
def Dz(n s:Int):Bool:=decide (0<=s/\s<=6)&&Fx n&&decide (s=0\/n.tmod 10≠0)
theorem LC(h:qP:=by
 have H:=Hd h;clear h
 go_enter func186,ntmps186
 go_wp2;go_ret;exact ⟨by rw [H.o];rfl,rfl⟩):qP:=h
theorem Pn(n:Int)(w:World):Cl 186 #[.I n] w (SameB w (Fx n)):=by
 by_cases h1:-1000000000000000<=n
 ·by_cases h2:n<=1000000000000000
  ·have h:Fx n=true:=(by simp [Fx,h1,h2]);exact LC
  ·have h:Fx n=false:=(by simp [Fx,h1,h2]);exact LC
 ·have h:Fx n=false:=(by simp [Fx,h1]);exact LC

theorem Ff(n s:Int)(w:World):Cl 126 #[.agg #[.I n,.I s]] w (Ae w (Dz n s)):=by
 cases hu:Fx n
 all_goals
  have O:=Hd hu;clear hu
  go_enter func126,ntmps126
  go_wp2_with (go_at_call 186;refine (Pn _ _).mono ?_;rintro e w' ⟨rfl,rfl⟩;rw [O.o])
  all_goals
   go_ret;refine ⟨?_,(Ext.refl _).alloc _⟩;simp only [Dz,O.o];simp
   first|done|omega|(rw [Bool.eq_iff_iff];simp;omega)

def Cz(x:Val):Bool:=decide (x.s=⟨#[]⟩/\x.dn=0/\x.ds=0/\x.n=0/\x.cols=[]/\x.rows=[])
theorem G4(x:Val)(A B:OA)(c e:Nat)(w:World):Cl 124 #[(Vq x A c B e)] w (Ae w (Cz x)):=by
 go_enter func124,ntmps124
 go_wp2
 all_goals
  go_ret;refine ⟨?_,(Ext.refl _).alloc _⟩;simp_all [Cz,<-WR]
  try (rw [Bool.eq_iff_iff];simp [List.length_eq_zero_iff])

def BG(x:Val):Bool :=
 if x.kind=0 then decide (0<=x.n/\x.n<=99)&&Cz { x with n:=0 }
 else if x.kind=1 then Ca x.s&&Cz { x with s:=⟨#[]⟩ }
 else if x.kind=2 then Dz x.dn x.ds&&Cz { x with dn:=0,ds:=0 }
 else if x.kind=3 then decide (0<=x.n/\x.n<=3652058)&&Cz { x with n:=0 }
 else if x.kind=4 then decide (x.n=0\/x.n=1)&&Cz { x with n:=0 }
 else false

theorem Pd(h:qP:=by
 go_enter func51,ntmps51
 go_wp2_with fail
 refine (G4 { x with n:=0 } A B c e _).mono ?_;rintro e1 w1 ⟨rfl,hx1⟩;have HX:=Hd hx1;clear hx1;go_wp2;go_ret;exact ⟨by rw [HF.o];simp [h1,h2],Ext.trans (exbb w) HX.o⟩):qP:=h
theorem JL(h:qP:=by
 go_enter func51,ntmps51
 go_wp2;go_ret;exact ⟨by rw [HF.o,decide_eq_false (by omega),Bool.false_and];rfl,(exaa w).alloc _⟩):qP:=h
theorem FO(h:qP:=by simp [BG,hk]):qP:=h
theorem Vd(x:Val)(A B:OA)(c e:Nat)(w:World)(hk:x.kind=0)(_hs:x.s.size<=4294967296):Cl 51 #[(Vq x A c B e)] w (Ae w (BG x)):=by
 have hf:BG x=(decide (0<=x.n/\x.n<=99)&&Cz { x with n:=0 }):=FO;have HF:=Hd hf;have O:(x.kind==0)=true:=AF;have k1:(x.kind==1)=false:=AF;have k2:(x.kind==2)=false:=AF;have k3:(x.kind==3)=false:=AF;have k4:(x.kind==4)=false:=AF;have k5:(x.kind==5)=false:=AF;clear hf hk;by_cases h1:0<=x.n
 ·by_cases h2:x.n<=99
  ·exact Pd
  ·exact JL
 ·exact JL

theorem S3(h:qP:=by
 go_wp2;go_ret;exact ⟨by rw [HF.o,HT.o];rfl,Ext.trans (exbb w) HX.o⟩):qP:=h
theorem WC(x:Val)(A B:OA)(c e:Nat)(w:World)(hk:x.kind=1)(hs:x.s.size<=4294967296):Cl 51 #[(Vq x A c B e)] w (Ae w (BG x)):=by
 have hf:BG x=(Ca x.s&&Cz { x with s:=⟨#[]⟩ }):=FO;have HF:=Hd hf;have O:(x.kind==0)=false:=AF;have k1:(x.kind==1)=true:=AF;have k2:(x.kind==2)=false:=AF;have k3:(x.kind==3)=false:=AF;have k4:(x.kind==4)=false:=AF;have k5:(x.kind==5)=false:=AF;clear hf hk;cases ht:Ca x.s
 ·have HT:=Hd ht;clear ht
  go_enter func51,ntmps51
  go_wp2_with (go_at_call 125;refine (M1 _ hs _).mono ?_;rintro e w' ⟨rfl,rfl⟩;rw [HT.o])
  go_ret;exact ⟨by rw [HF.o,HT.o];rfl,(exaa w).alloc _⟩
 ·have HT:=Hd ht;clear ht
  go_enter func51,ntmps51
  go_wp2_with (go_at_call 125;refine (M1 _ hs _).mono ?_;rintro e w' ⟨rfl,rfl⟩;rw [HT.o])
  refine (G4 { x with s:=⟨#[]⟩ } A B c e _).mono ?_;rintro e1 w1 ⟨rfl,hx1⟩;have HX:=Hd hx1;clear hx1;exact S3

theorem Ko(h:qP:=by
 have HT:=Hd ht;clear ht hx1;go_wp2;go_ret;exact ⟨by rw [HF.o,HT.o];rfl,Ext.trans ((exbb w)) HX.o⟩):qP:=h
theorem SK(h:qP:=by
 rintro e1 w2 ⟨rfl,hx2⟩;have HX2:=Hd hx2;clear hx2;go_wp2;go_ret;exact ⟨by rw [HF.o,HT.o];rfl,Ext.trans (exbb w) (Ext.trans HX.o HX2.o)⟩):qP:=h
theorem Vv(x:Val)(A B:OA)(c e:Nat)(w:World)(hk:x.kind=2)(_hs:x.s.size<=4294967296):Cl 51 #[(Vq x A c B e)] w (Ae w (BG x)):=by
 have hf:BG x=(Dz x.dn x.ds&&Cz { x with dn:=0,ds:=0 }):=FO;have HF:=Hd hf;have k0:(x.kind==0)=false:=AF;have k1:(x.kind==1)=false:=AF;have k2:(x.kind==2)=true:=AF;have k3:(x.kind==3)=false:=AF;have k4:(x.kind==4)=false:=AF;have k5:(x.kind==5)=false:=AF;clear hf hk
 go_enter func51,ntmps51
 go_wp2_with fail
 refine (Ff x.dn x.ds _).mono ?_;rintro e1 w1 ⟨rfl,hx1⟩;obtain ⟨O,U⟩:=Wm hx1;have Y:=hx1.size;simp at O U Y;have a8:w.heap.size<w1.heap.size:=AA;have Z:w.heap.size+1<w1.heap.size:=AA;have HX:=Hd hx1;cases ht:Dz x.dn x.ds
 ·exact Ko
 ·have HT:=Hd ht;clear ht hx1
  go_wp2_with fail
  refine (G4 { x with dn:=0,ds:=0 } A B c e _).mono ?_;exact SK

theorem Vs(x:Val)(A B:OA)(c e:Nat)(w:World)(hk:x.kind=3)(_hs:x.s.size<=4294967296):Cl 51 #[(Vq x A c B e)] w (Ae w (BG x)):=by
 have hf:BG x=(decide (0<=x.n/\x.n<=3652058)&&Cz { x with n:=0 }):=FO;have HF:=Hd hf;have O:(x.kind==0)=false:=AF;have k1:(x.kind==1)=false:=AF;have k2:(x.kind==2)=false:=AF;have k3:(x.kind==3)=true:=AF;have k4:(x.kind==4)=false:=AF;have k5:(x.kind==5)=false:=AF;clear hf hk;by_cases h1:0<=x.n
 ·by_cases h2:x.n<=3652058
  ·exact Pd
  ·exact JL
 ·exact JL

theorem TS(h:qP:=by
 go_enter func51,ntmps51
 go_wp2_with fail
 refine (G4 { x with n:=0 } A B c e _).mono ?_;rintro e1 w1 ⟨rfl,hx1⟩;have HX:=Hd hx1;clear hx1;go_wp2;go_ret;exact ⟨by rw [HF.o];simp [H1.o],Ext.trans (exbb w) HX.o⟩):qP:=h
theorem Vh(x:Val)(A B:OA)(c e:Nat)(w:World)(hk:x.kind=4)(_hs:x.s.size<=4294967296):Cl 51 #[(Vq x A c B e)] w (Ae w (BG x)):=by
 have hf:BG x=(decide (x.n=0\/x.n=1)&&Cz { x with n:=0 }):=FO;have HF:=Hd hf;have O:(x.kind==0)=false:=AF;have k1:(x.kind==1)=false:=AF;have k2:(x.kind==2)=false:=AF;have k3:(x.kind==3)=false:=AF;have k4:(x.kind==4)=true:=AF;have k5:(x.kind==5)=false:=AF;clear hf hk;by_cases h1:x.n=0
 ·have h3:(x.n==0)=true:=(by simp [h1]);have H1:=Hd h1;clear h1;exact TS
 ·have h3:(x.n==0)=false:=(by simp [h1]);by_cases h2:x.n=1
  ·have h4:(x.n==1)=true:=DZ;have H1:=Hd h2;clear h1 h2;exact TS
  ·have h4:(x.n==1)=false:=DZ
   go_enter func51,ntmps51
   go_wp2;go_ret;exact ⟨by rw [HF.o];simp [h1,h2],(exaa w).alloc _⟩

theorem Ce(h:qP:=by simp [h0]):qP:=h
theorem Vm(x:Val)(A B:OA)(c e:Nat)(w:World)(h0:x.kind≠0)(h1:x.kind≠1)(h2:x.kind≠2)(h3:x.kind≠3)(h4:x.kind≠4)(h5:x.kind≠5):Cl 51 #[(Vq x A c B e)] w (Ae w (BG x)):=by
 have hf:BG x=false:=(by simp [BG,h0,h1,h2,h3,h4]);have HF:=Hd hf;have O:(x.kind==0)=false:=Ce;have k1:(x.kind==1)=false:=(by simp [h1]);have k2:(x.kind==2)=false:=DZ;have k3:(x.kind==3)=false:=(by simp [h3]);have k4:(x.kind==4)=false:=(by simp [h4]);have k5:(x.kind==5)=false:=(by simp [h5]);clear hf h0 h1 h2 h3 h4 h5
 go_enter func51,ntmps51
 go_wp2;go_ret;exact ⟨BB,(exaa w).alloc _⟩

theorem Hx(x:Val)(A B:OA)(c e:Nat)(w:World)(h5:x.kind≠5)(hs:x.s.size<=4294967296):Cl 51 #[(Vq x A c B e)] w (Ae w (BG x)):=by
 by_cases h0:x.kind=0
 ·exact Vd x A B c e w h0 hs
 by_cases h1:x.kind=1
 ·exact WC x A B c e w h1 hs
 by_cases h2:x.kind=2
 ·exact Vv x A B c e w h2 hs
 by_cases h3:x.kind=3
 ·exact Vs x A B c e w h3 hs
 by_cases h4:x.kind=4
 ·exact Vh x A B c e w h4 hs
 exact Vm x A B c e w h0 h1 h2 h3 h4 h5

def Fj(cols:List BA)(i:Nat):Bool:=Ba (cols.getD i ⟨#[]⟩)&&!Aw (cols.take i) (cols.getD i ⟨#[]⟩)
def DU(x:Val):Bool:=decide (x.kind≠5)&&BG x
def Ew(n:Nat)(r:List Val):Bool:=decide (r.length=n)&&r.all DU
def BK(cols:List BA)(rows:List (List Val)):Bool :=
 decide (cols.length<=8/\rows.length<=100)&&(List.range cols.length).all (Fj cols)&&rows.all (Ew cols.length)
def BC(x:Val):Bool:=if x.kind=5 then BK x.cols x.rows&&Cz { x with cols:=[],rows:=[] } else BG x

theorem Strs.take(h:Strs w S A l)(k:Nat):Strs w S A (l.take k) :=
 ⟨by rw [List.map_take];exact h.1.take k,by rw [List.length_take];have:=h.2.1;omega,λs hs=>h.2.2 s (List.mem_of_mem_take hs)⟩
theorem BM{α:Type}(l:List α)(i:Nat)(z:α)(h:i<l.length):l.getD i z=l[i]:=by simp [h]

theorem WO{p:Nat->Bool}(h:∀ j,j<n->p j=true):(List.range n).all p=true:=by
 rw [List.all_eq_true];intro x hx;exact h x (List.mem_range.1 hx)
theorem Hz{p:Nat->Bool}{j:Nat}(hj:j<n)(h:p j=false):(List.range n).all p=false:=by
 rw [List.all_eq_false];exact ⟨j,List.mem_range.2 hj,by simp [h]⟩

theorem MB(h:qP:=by
 go_ret;exact ⟨by rw [HF.o];rfl,Ext.refl _⟩):qP:=h
theorem Rv(h:qP:=by
 go_enter func127,ntmps127
 go_wp2;exact MB):qP:=h
theorem Pp(h:qP:=by
 unfold BK;rw [CX rows (Ew cols.length) i hlt2 (by unfold Ew;rw [CX rows[i] DU j hlt3 (by simp [DU,hk5])];simp)];simp):qP:=h
theorem Uz(h:qP:=by
 unfold BK;rw [CX rows (Ew cols.length) i hlt2 (by unfold Ew;rw [CX rows[i] DU j hlt3 (by simp [DU,hfl])];simp)];simp):qP:=h
theorem QZ(h:qP:=by
 by_cases hjk:m=j
 ·subst hjk;exact HFL.o
 ·exact HI.o m h (by omega)):qP:=h
theorem AcA(h:qP:=by
 refine ⟨i+1,by omega,by go_num,HE.o.trans HEI.o,λj h hj => ?_⟩;by_cases hjk:j=i
 ·subst hjk;exact HRO.o
 ·exact HR.o j h (by omega)):qP:=h
theorem U2(h:qP:=by
 go_wp2;go_roundw
 case rel =>
  exact AcA
 case measure=>simp [intOf];omega):qP:=h
theorem Tg(h:qP:=by
 unfold Ew;rw [CH rows[i] DU (λm h=>HI.o m h (by omega)),HLN.o];simp):qP:=h
theorem A4A(h:qP:=by
 unfold BK;rw [CX rows (Ew cols.length) i hlt2 (by unfold Ew;rw [decide_eq_false hln];rfl)];simp):qP:=h
theorem Pi(h:qP:=by
 go_ret;exact ⟨by rw [HF.o];rfl,HE.o⟩):qP:=h
theorem MD(h:qP:=by
 go_wp2;exact Pi):qP:=h
theorem Sn(h:qP:=by
 have hn1:((rows[i].length:Int) != (cols.length:Int))=true:=(by rw [bne_iff_ne];omega);have HF:=Hd (show BK cols rows=false by
  exact A4A)
 clear hln;exact MD):qP:=h
theorem FC(h:qP:=by
 clear hext;exact MD):qP:=h
theorem C6(h:qP:=by rw [List.length_take];omega):qP:=h
theorem AE(h:qP:=by go_num):qP:=h
theorem No(q:Nat)(cols:List BA)(rows:List (List Val))(A B:OA)(c e:Nat)(w:World)(S T:NP)(hA:Strs w S A cols)(hB:Rows w T q B rows)(hcap:cols.length<=c) :
  Cl 127 #[.slice A cols.length c,.slice B rows.length e] w (Ae w (BK cols rows)):=by
 have hn:=hA.2.1;have hm:=hB.len;by_cases h1:cols.length<=8
 case neg =>
  have HF:=Hd (show BK cols rows=false by unfold BK;rw [decide_eq_false AA];rfl);have a9:(8:Int)<(cols.length:Int):=AA;exact Rv
 by_cases h2:rows.length<=100
 case neg =>
  have HF:=Hd (show BK cols rows=false by unfold BK;rw [decide_eq_false AA];rfl);have a9:¬(8:Int)<(cols.length:Int):=AA;have h2':(100:Int)<(rows.length:Int):=AA;exact Rv
 have a9:¬(8:Int)<(cols.length:Int):=AA;have h2':¬(100:Int)<(rows.length:Int):=AA;have h3':(cols.length:Int)<=8:=AA;have h4':(rows.length:Int)<=100:=AA
 go_enter func127,ntmps127
 go_wp2
 go_loop [21] (λi=>∃ k:Nat,k<=cols.length/\i=.I k/\∀ j,j<k->Fj cols j=true) (λi=>cols.length-(intOf i).toNat)
 case atStart=>exact ⟨0,AN,rfl,AK⟩
 case round =>
  obtain ⟨k,hk,rfl,hall⟩:=hrel;have HA:=Hd hall;clear hall;by_cases hlt:k<cols.length
  ·obtain ⟨b1,o1,rfl,z1,c1⟩:=hA.at_ hlt;have hsz:=hA.sz hlt;have HTK:=Hd (hA.take k);have a8:(cols.take k).length=k:=C6;cases hnm:Ba cols[k]
   ·have HF:=Hd (show BK cols rows=false by unfold BK;rw [Hz hlt (by unfold Fj;rw [BM _ _ _ hlt,hnm];rfl)];simp);have HN:=Hd hnm;clear hnm
    go_wp2_with (go_at_call 187;refine (I6 _ hsz _).mono ?_;rintro e1 w1 ⟨rfl,rfl⟩;rw [HN.o])
    exact MB
   ·have HN:=Hd hnm;have Y:=Hd (Bu (some ⟨b1,o1,none⟩) c (cols.take k) cols[k] w S HTK.o);rw [a8] at Y;cases hmm:Aw (cols.take k) cols[k]
    ·have HM:=Hd hmm;have HC:=Hd (show Fj cols k=true by unfold Fj;rw [BM _ _ _ hlt,hnm,hmm];rfl);clear hnm hmm a8
     go_wp2_with (first|(go_at_call 187;refine (I6 _ hsz _).mono ?_;rintro e1 w1 ⟨rfl,rfl⟩;rw [HN.o])|(go_at_call 85;refine Y.o.mono ?_;rintro e1 w1 ⟨rfl,rfl⟩;rw [HM.o]))
     go_round
     case rel =>
      refine ⟨k+1,AA,AE,λj hj => ?_⟩;by_cases hjk:j=k
      ·subst hjk;exact HC.o
      ·exact HA.o j AA
     case measure=>simp [intOf];omega
    ·have HM:=Hd hmm;have HF:=Hd (show BK cols rows=false by unfold BK;rw [Hz hlt (by unfold Fj;rw [BM _ _ _ hlt,hnm,hmm];rfl)];simp);clear hnm hmm a8
     go_wp2_with (first|(go_at_call 187;refine (I6 _ hsz _).mono ?_;rintro e1 w1 ⟨rfl,rfl⟩;rw [HN.o])|(go_at_call 85;refine Y.o.mono ?_;rintro e1 w1 ⟨rfl,rfl⟩;rw [HM.o]))
     exact MB
  ·have HCOL:=Hd (WO (n:=cols.length) (p:=Fj cols) (λj hj=>HA.o j AA));go_wp2
   go_loopw [39] (λi wr=>∃ k:Nat,k<=rows.length/\i=.I k/\Ext w wr/\∀ j (h:j<rows.length),j<k->Ew cols.length rows[j]=true) (λi _=>rows.length-(intOf i).toNat)
   case atStart=>exact ⟨0,AN,rfl,Ext.refl _,AK⟩
   case round =>
    rename_i k0 _ _ _ _;obtain ⟨i,hi,rfl,hext,hall⟩:=hrel;have HR:=Hd hall;have HE:=Hd hext;clear hall;by_cases hlt2:i<rows.length
    ·obtain ⟨b1,o1,A2,c2,rfl,z1,p0,hcr,O⟩:=(hB.keep (hext.kept T)).at_ hlt2;have hrl:=O.len;have HROW:=Hd O;clear O hext;by_cases hln:rows[i].length=cols.length
     ·have hn1:((rows[i].length:Int) != (cols.length:Int))=false:=(by simp [hln]);have HLN:=Hd hln;clear hln;go_wp2;obtain ⟨wo,rfl⟩:∃ wo:World,wo=wr:=⟨_,rfl⟩
      go_loopw [50] (λv wi=>∃ j:Nat,j<=rows[i].length/\v=.I j/\Ext wo wi/\∀ m (h:m<rows[i].length),m<j->DU rows[i][m]=true) (λv _=>rows[i].length-(intOf v).toNat)
      case atStart=>exact ⟨0,AN,rfl,Ext.refl _,AK⟩
      case round =>
       obtain ⟨j,hj,rfl,U,Z⟩:=hrel;have HI:=Hd Z;have HEI:=Hd U;clear Z;by_cases hlt3:j<rows[i].length
       ·obtain ⟨b2,o2,A5,c5,B5,e5,rfl,z2,⟨p0,p1,p2,p3,p4,p5,p6⟩,⟨hq,_,_⟩,hv⟩:=(HROW.o.keep (U.kept T)).at_ hlt3;have hvs:=hv.size;clear hv U;by_cases hk5:rows[i][j].kind=5
        ·have hk5':(rows[i][j].kind==5)=true:=(by simp [hk5]);have HF:=Hd (show BK cols rows=false by
          exact Pp)
         clear hk5;go_wp2;go_ret;exact ⟨BB,HE.o.trans (HEI.o.alloc _)⟩
        ·have hk5':(rows[i][j].kind==5)=false:=(by simp [hk5]);have HK5:=Hd hk5;have HRF:=Hd (Hx rows[i][j] A5 B5 c5 e5 · hk5 hvs);clear hk5
         go_wp2_with fail
         refine (HRF.o _).mono ?_;rintro e1 w1 ⟨rfl,hx1⟩;have HX1:=Hd hx1;clear hx1;cases hfl:BG rows[i][j]
         ·have HF:=Hd (show BK cols rows=false by
           exact Uz)
          clear hfl;go_wp2;go_ret;exact ⟨BB,HE.o.trans ((HEI.o.alloc _).trans HX1.o)⟩
         ·have HFL:=Hd (show DU rows[i][j]=true by simp [DU,hfl,HK5.o]);clear hfl;go_wp2;go_roundw
          case rel =>
           refine ⟨j+1,AA,AE,(HEI.o.alloc _).trans HX1.o,λm h hm => ?_⟩;exact QZ
          case measure=>simp [intOf];omega
       ·have HRO:=Hd (show Ew cols.length rows[i]=true by
         exact Tg)
        exact U2
     ·exact Sn
    ·have HF:=Hd (show BK cols rows=true by
      unfold BK;rw [HCOL.o,CH rows (Ew cols.length) (λj h=>HR.o j h AA),decide_eq_true ⟨h1,h2⟩];rfl)
     exact FC

theorem Vl(q:Nat)(x:Val)(A B:OA)(c e:Nat)(w:World)(S:NP)(h:RV w S q x A B)(hcap:x.cols.length<=c)(hk:x.kind=5):Cl 51 #[(Vq x A c B e)] w (Ae w (BC x)):=by
 have hf:BC x=(BK x.cols x.rows&&Cz { x with cols:=[],rows:=[] }):=(by simp [BC,hk]);have HF:=Hd hf;have H:=Hd h;have k0:(x.kind==0)=false:=AF;have k1:(x.kind==1)=false:=AF;have k2:(x.kind==2)=false:=AF;have k3:(x.kind==3)=false:=AF;have k4:(x.kind==4)=false:=AF;have k5:(x.kind==5)=true:=AF;clear hf hk h
 go_enter func51,ntmps51
 go_wp2_with fail
 refine (No q x.cols x.rows A B c e _ S S (H.o.strs.keep ((exbb w).kept _)) (H.o.rows_.keep ((exbb w).kept _)) hcap).mono ?_;rintro e1 w1 ⟨rfl,hx1⟩;obtain ⟨O,U⟩:=Wm hx1;have Y:=hx1.size;simp at O U Y;have a8:w.heap.size<w1.heap.size:=AA;have Z:w.heap.size+1<w1.heap.size:=AA;have HX:=Hd hx1;cases ht:BK x.cols x.rows
 ·exact Ko
 ·have HT:=Hd ht;clear ht hx1
  go_wp2_with fail
  refine (G4 { x with cols:=[],rows:=[] } none none 0 0 _).mono ?_;exact SK

theorem Nx(q:Nat)(x:Val)(A B:OA)(c e:Nat)(w:World)(S:NP)(h:RV w S q x A B)(hcap:x.cols.length<=c):Cl 51 #[(Vq x A c B e)] w (Ae w (BC x)):=by
 by_cases hk:x.kind=5
 ·exact Vl q x A B c e w S h hcap hk
 ·have:=Hx x A B c e w hk h.size;rwa [show BG x=BC x by simp [BC,hk]] at this

def Val.zero:Val:=⟨0,⟨#[]⟩,0,0,0,[],[]⟩
structure Look where
 name:BA
 cols:List BA
 rows:List (List Val)
def RL(w:World)(S:NP)(d:Nat)(t:Look)(A B:OA):Prop:=t.name.size<=4294967296/\Strs w S A t.cols/\Rows w S d B t.rows
theorem RL.keep{t:Look}(h:RL w S d t A B)(k:Kept S w w'):RL w' S d t A B:=⟨h.1,h.2.1.keep k,h.2.2.keep k⟩
theorem RL.mono{T:NP}{t:Look}(h:RL w S d t A B)(k:∀ i,i<w.heap.size->S i->T i):RL w T d t A B:=⟨h.1,h.2.1.mono k,h.2.2.mono k⟩
theorem Rows.nil : Rows w S d B []:=⟨AC,[],Or.inl rfl,AC,AC⟩
theorem RV.zero : RV w S d Val.zero A B:=RV.mk (AN) Strs.nil Rows.nil
def HQA(cols:List BA)(rows:List (List Val)):Val:=⟨5,⟨#[]⟩,0,0,0,cols,rows⟩
theorem RL.val{t:Look}(h:RL w S d t A B):RV w S d (HQA t.cols t.rows) A B:=RV.mk (AN) h.2.1 h.2.2


def EF(cols:List BA)(rows:List (List Val)):Bool:=rows.all λr=>decide (r.length=cols.length)
theorem Fg(q:Nat)(cols:List BA)(rows:List (List Val))(A B:OA)(c e:Nat)(w:World)(S:NP)(_hcl:cols.length<=4294967296)(hB:Rows w S q B rows) :
  Cl 138 #[.slice A cols.length c,.slice B rows.length e] w (SameB w (EF cols rows)):=by
 have hm:=hB.len
 go_enter func138,ntmps138
 go_wp2
 go_loop [9] (λi=>∃ k:Nat,k<=rows.length/\i=.I k/\∀ j (h:j<rows.length),j<k->rows[j].length=cols.length) (λi=>rows.length-(intOf i).toNat)
 case atStart=>exact ⟨0,AN,rfl,AK⟩
 case round =>
  obtain ⟨k,hk,rfl,hall⟩:=hrel;have HA:=Hd hall;clear hall;by_cases hlt:k<rows.length
  ·obtain ⟨b1,o1,A2,c2,rfl,z1,p0,U,O⟩:=hB.at_ hlt;have Y:=O.len;clear O;by_cases hln:rows[k].length=cols.length
   ·have hn1:((rows[k].length:Int) != (cols.length:Int))=false:=(by simp [hln]);have HLN:=Hd hln;clear hln;go_wp2
    go_round
    case rel =>
     refine ⟨k+1,AA,AE,λj h hj => ?_⟩;by_cases hjk:j=k
     ·subst hjk;exact HLN.o
     ·exact HA.o j h AA
    case measure=>simp [intOf];omega
   ·have hn1:((rows[k].length:Int) != (cols.length:Int))=true:=JD;have HF:=Hd (show EF cols rows=false by unfold EF;exact CX rows _ k hlt (by simp [hln]));clear hln;exact Bf
  ·have HF:=Hd (show EF cols rows=true by unfold EF;exact CH rows _ (λj h=>by simp [HA.o j h AA]));exact Bf

theorem SI(q:Nat)(x y:List Val)(A B:OA)(ca cb k g1 g2:Nat)(w:World)(S T:NP)(hx:Row w S q A x)(hy:Row w T q B y)(hkx:k<x.length)(hky:k<y.length)
  (h1:w.cell? ⟨g1,0,none⟩=some (.I (k:Int))) (h2:w.cell? ⟨g2,0,none⟩=some (.slice B y.length cb)) :
  Cl 197 #[.slice A x.length ca,.pointer (some ⟨g1,0,none⟩),.pointer (some ⟨g2,0,none⟩)] w (Ae w (decide (x.getD k Val.zero=y.getD k Val.zero))):=by
 have hxl:=hx.len;have hyl:=hy.len;obtain ⟨b1,o1,A1,c1,B1,e1,rfl,z1,⟨p0,p1,p2,p3,p4,p5,p6⟩,⟨hq,_,_⟩,U⟩:=hx.at_ hkx;obtain ⟨b2,o2,A2,c2,B2,e2,rfl,z2,⟨q0,q1,q2,q3,q4,q5,q6⟩,_,O⟩:=hy.at_ hky;obtain ⟨Z,Y,G1,G2⟩:=Hd4 U O (BM x k Val.zero hkx) (BM y k Val.zero hky);clear U O hx hy
 go_enter func197,ntmps197
 go_wp2
 go_still_tail 8,AD
 go_wp2_with fail
 refine (YK (q-1) x[k] y[k] A1 B1 A2 B2 c1 e1 c2 e2 _ S T (Z.o.keep (Kept.drew _ _)) (Y.o.keep (Kept.drew _ _))).mono ?_;rintro e w1 ⟨rfl,hx1⟩;have HX:=Hd (((Ext.refl w).drew).trans hx1);clear hx1;go_wp2;go_ret;exact ⟨by rw [G1.o,G2.o];rfl,HX.o⟩

def Gv{α:Type}(p:α->Bool)(l:List α):Int:=match l.findIdx? p with|some i=>(i:Int)|none=>-1
theorem EO{α:Type}{p:α->Bool}{l:List α}(hk:k<l.length)(h:∀ j (hj:j<l.length),j<k->p l[j]=false)(hv:p l[k]=true):Gv p l=k:=by
 unfold Gv;have:l.findIdx? p=some k:=by
  rw [List.findIdx?_eq_some_iff_getElem];exact ⟨hk,hv,λj hj=>by simp [h j AA hj]⟩
 rw [this]
theorem GG{α:Type}{p:α->Bool}{l:List α}(h:∀ j (hj:j<l.length),p l[j]=false):Gv p l=-1:=by
 unfold Gv;have:l.findIdx? p=none:=by
  rw [List.findIdx?_eq_none_iff];exact VU
 rw [this]
theorem Nm{α:Type}{p:α->Bool}{l:List α}(h:0<=Gv p l):∃ k:Nat,Gv p l=k/\∃ hk:k<l.length,p l[k]=true/\∀ j (hj:j<l.length),j<k->p l[j]=false:=by
 unfold Gv at h|-;cases hf:l.findIdx? p with
 |none=>rw [hf] at h;simp at h
 |some i =>
  rw [List.findIdx?_eq_some_iff_getElem] at hf;obtain ⟨hi,h1,h2⟩:=hf;exact ⟨i,rfl,hi,h1,λj hj hji=>by simpa using h2 j hji⟩
theorem G5{α:Type}(p:α->Bool)(l:List α):decide (0<=Gv p l)=l.any p:=by
 rw [Bool.eq_iff_iff,decide_eq_true_iff,List.any_eq_true];constructor
 ·intro h;obtain ⟨k,_,hk,hp,_⟩:=Nm h;exact ⟨_,List.getElem_mem hk,hp⟩
 ·rintro ⟨x,hx,hp⟩;unfold Gv;cases hf:l.findIdx? p with
  |some i=>simp
  |none =>
   rw [List.findIdx?_eq_none_iff] at hf;rw [hf x hx] at hp;cases hp
def Cx(c:Nat)(r o:List Val):Bool:=decide (o.getD c Val.zero=r.getD c Val.zero)

theorem Uj(h:qP:=by
 go_ret;exact ⟨by rw [HF.o];rfl,HX1.o⟩):qP:=h
theorem Lc(h:qP:=by
 clear hq;go_wp2;exact Uj):qP:=h
theorem OG(q:Nat)(rows:List (List Val))(r:List Val)(A B:OA)(ca cb k g1 g2:Nat)(w:World)(S T:NP)(hx:Rows w S q A rows)(hy:Row w T q B r)(hk:∀ j (h:j<rows.length),k<rows[j].length)(hky:k<r.length)
  (h1:w.cell? ⟨g1,0,none⟩=some (.I (k:Int))) (h2:w.cell? ⟨g2,0,none⟩=some (.slice B r.length cb)) :
  Cl 196 #[.slice A rows.length ca,.func (.func 197) #[] #[.pointer (some ⟨g1,0,none⟩),.pointer (some ⟨g2,0,none⟩)]] w (DG w (Gv (Cx k r) rows)):=by
 have Y:=hx.len;obtain ⟨HX,HY,HK,H1,H2⟩:=Hd5 hx hy hk h1 h2;clear hx hy hk h1 h2
 go_enter func196,ntmps196
 go_wp2
 go_loopw [8] (λi wr=>∃ m:Nat,m<=rows.length/\i=.I m/\Ext w wr/\∀ j (h:j<rows.length),j<m->Cx k r rows[j]=false) (λi _=>rows.length-(intOf i).toNat)
 case atStart=>exact ⟨0,AN,rfl,Ext.refl _,AK⟩
 case round =>
  obtain ⟨m,hm,rfl,hext,hall⟩:=hrel;have HA:=Hd hall;have HE:=Hd hext;clear hall;by_cases hlt:m<rows.length
  ·obtain ⟨b1,o1,A2,c2,rfl,z1,p0,Z,O⟩:=(HX.o.keep (hext.kept S)).at_ hlt;have U:=Hd O;clear O hext
   go_wp2_with fail
   refine (SI q rows[m] r A2 B c2 cb k g1 g2 _ S T U.o (HY.o.keep (HE.o.kept T)) (HK.o m hlt) hky (HE.o.cell H1.o) (HE.o.cell H2.o)).mono ?_;rintro e w1 ⟨rfl,hx1⟩;have HX1:=Hd (HE.o.trans hx1);clear hx1;have heq:decide (rows[m].getD k Val.zero=r.getD k Val.zero)=Cx k r rows[m]:=rfl;rw [heq];clear heq;cases hq:Cx k r rows[m]
   ·have HQ:=Hd hq;clear hq;go_wp2;go_roundw
    case rel =>
     refine ⟨m+1,AA,AE,HX1.o,λj h hj => ?_⟩;by_cases hjk:j=m
     ·subst hjk;exact HQ.o
     ·exact HA.o j h AA
    case measure=>simp [intOf];omega
   ·have HF:=Hd (EO hlt HA.o hq);exact Lc
  ·have HF:=Hd (GG (p:=Cx k r) (l:=rows) (λj h=>HA.o j h AA));exact FC

def Ad(rows:List (List Val))(c:Nat):List Int:=rows.map λr=>Gv (Cx c r) rows
def FjA(w:World)(l:List Int)(e:Ending)(w':World):Prop:=∃ A c,e=.returned (.slice A l.length c)/\l.length<=c/\Ints w' (BO w) A l/\Ext w w'

theorem Hl(q:Nat)(rows:List (List Val))(A:OA)(ca k:Nat)(w:World)(S:NP)(hx:Rows w S q A rows)(hk:∀ j (h:j<rows.length),k<rows[j].length) :
  Cl 139 #[.slice A rows.length ca,.I (k:Int)] w (FjA w (Ad rows k)):=by
 have b8:=hx.len;have HX:=Hd hx;have HK:=Hd hk;clear hx hk;obtain ⟨cur,d3,Y⟩:=B2A tiI rows.length AA AB;have HCUR:=Hd Y;clear Y
 go_enter func139,ntmps139
 go_wp2;clear d3;have hst:OwnIs ((w.alloc (.cells #[.I (k:Int)] 3)).alloc (.cells cur 3)) (w.heap.size+1) (some ⟨w.heap.size+1,0,none⟩) rows.length ((Ad rows k).take 0):=by
  have:=ITA (w.alloc (.cells #[.I (k:Int)] 3)) 3 1 rows.length cur Bd HCUR.o
  simpa [OwnIs] using this
 have HST:=Hd hst;have HB:=Hd ((Blk.new w 3 #[.I (k:Int)]).keep (Kept.alloc _ _ (.cells cur 3)));clear hst;have Z:(Ad rows k).length=rows.length:=(by simp [Ad]);have O:=Hd Z;clear Z
 go_loopw [13,5] (λi v wr=>∃ (m:Nat) (A':OA) (c':Nat),m<=rows.length/\i=.I m/\v=.slice A' m c'/\Ext w wr/\w.heap.size+1<=wr.heap.size/\wr.cell? ⟨w.heap.size,0,none⟩=some (.I (k:Int))/\OwnIs wr (w.heap.size+1) A' c' ((Ad rows k).take m)) (λi _ _=>rows.length-(intOf i).toNat)
 case atStart=>exact ⟨0,_,_,AN,rfl,rfl,(exaa w).alloc _,AC,HB.o.cell rfl,HST.o⟩
 case round =>
  obtain ⟨m,A',c',hm,rfl,rfl,hext,hsz,U,hown⟩:=hrel;obtain ⟨HE,HO,b4⟩:=Hd3 hext hown U;clear hown U;by_cases hlt:m<rows.length
  ·obtain ⟨b1,o1,A2,c2,rfl,z1,p0,d5,a8⟩:=(HX.o.keep (hext.kept S)).at_ hlt;have b7:=Hd a8;clear a8 hext
   go_wp2_with fail
   refine (OG q rows rows[m] (some ⟨b1,o1,none⟩) A2 ca c2 k w.heap.size wr.heap.size _ S S ((HX.o.keep (HE.o.kept S)).keep (Kept.alloc _ _ _)) (b7.o.keep (Kept.alloc _ _ _)) HK.o (HK.o m hlt) ((exaa wr).cell b4.o) ((Blk.new wr 47 #[.slice A2 rows[m].length c2]).cell rfl)).mono ?_;rintro e w1 ⟨rfl,hx1⟩;have HX1:=Hd ((exaa wr).trans hx1);have d4:wr.heap.size<w1.heap.size:=(by have:=hx1.size;simp at this;omega);clear hx1;have a9:(Ad rows k)[m]'(by rw [O.o];exact hlt)=Gv (Cx k rows[m]) rows:=(by simp [Ad]);have b6:=Hd a9;clear a9;have b3:((Ad rows k).take m).length=m:=(by rw [List.length_take,O.o];omega);have hown:=HO.o.ext (HX1.o.alloc (.cells #[.I (Gv (Cx k rows[m]) rows)] 3));unfold OwnIs at hown;rw [b3] at hown;have HOWN:=Hd hown;clear hown b3
   go_wp2_with (at_builtin;go_must (refine AL rfl (.tmp 17) (.tmp 21) rfl tiI rfl HOWN.o rfl (Blk.rd (Blk.new _ _ _)) rfl AP AA AB AI ?_);intro A4 c4 w4 hown4 hg4 hat4)
   go_roundw
   case rel =>
    have b5:∀ b,ob A'=some b->w.heap.size+1<=b:=λb hb=>(HOWN.o.blk hb).1;refine ⟨m+1,A4,c4,AA,AE,rfl,Ext.grown (HE.o.trans (HX1.o.alloc _)) hg4 (λb hb=>by have:=b5 b hb;omega),by have:=hg4.size;simp at this;omega,?_,?_⟩
    ·rw [World.cell?_of_block (hg4.block w.heap.size AI (λe=>by have:=b5 _ e.symm;omega))];exact ((Ext.refl wr).trans (HX1.o.alloc _)).cell b4.o
    ·rw [List.take_succ_eq_append_getElem (by rw [O.o];exact hlt),b6.o];unfold OwnIs;rw [List.length_append,List.length_take,O.o,Nat.min_eq_left hm,List.map_append];exact hown4
   case measure=>simp [intOf];omega
  ·have b9:m=rows.length:=AA;subst b9;clear hext;have ho:=HO.o;rw [List.take_of_length_le (by rw [O.o];exact Al)] at ho;have b0:=Hd ho;clear ho;go_wp2;go_ret;refine ⟨A',c',by rw [O.o];rfl,Own.cap b0.o,b0.o.ints (by rw [O.o];exact b8) (λb hb => ?_),HE.o⟩;have:=(Own.blk b0.o hb).1;unfold BO;omega
end Go.Proofs.YtidacnalcdhckaaGreatDoor
namespace Go.Proofs.YtidacnalcdhckaaGreatDoor
open Go Go.RowKit Go.MapKept Tryz
variable {qP:Prop}

def fnd{K:Type} [DecidableEq K](x:K):List (K × Value)->Nat->Option (Nat × Value)
 |[],_=>none
 |p::l,i=>if p.1=x then some (i,p.2) else fnd x l (i+1)
theorem YV{K:Type} [DecidableEq K]{x:K}{l:List (K × Value)}{j i:Nat}{v:Value}(h:fnd x l j=some (i,v)):j<=i/\l[i-j]?=some (x,v):=by
 induction l generalizing j with
 |nil=>simp [fnd] at h
 |cons p l ih =>
  unfold fnd at h;split at h
  ·rename_i hp;simp at h;obtain ⟨rfl,rfl⟩:=h;exact ⟨Al,by simp [<-hp]⟩
  ·obtain ⟨h1,h2⟩:=ih h;refine ⟨AA,?_⟩;rw [show i-j=(i-(j+1))+1 by omega,List.getElem?_cons_succ];exact h2
theorem GKA{K:Type} [DecidableEq K]{x:K}{l:List (K × Value)}{j:Nat}(h:fnd x l j=none):∀ p∈l,p.1≠x:=by
 induction l generalizing j with
 |nil=>simp
 |cons p l ih =>
  unfold fnd at h;split at h
  ·cases h
  ·rename_i hp;intro q hq
   rcases List.mem_cons.1 hq with rfl|hq
   ·exact hp
   ·exact ih h q hq
def Dt{K:Type} [DecidableEq K](m:List (K × Value))(k:K):Option Value:=(fnd k m 0).map (·.2)
def PE{K:Type} [DecidableEq K](m:List (K × Value))(k:K)(v:Value):List (K × Value) :=
 match fnd k m 0 with
 |some (i,_)=>m.set i (k,v)
 |none=>m++[(k,v)]
structure KL(P:Program)(kt:TypeId){K:Type} [DecidableEq K](enc:K->Value):Prop where
 check:∀ (w:World) (em:Bool) (x:K),(Instr.checkKey em 10000 kt (enc x)).run P w=.ok () w
 find:∀ (w:World) (x:K) (l:List (K × Value)) (es:List MapEntry),es.map (λe=>(e.key,e.val))=l.map (λp=>(enc p.1,p.2))->(Instr.findKey kt (enc x) es).run P w=.ok (fnd x l 0) w
 stays:∀ (w:World) (x:K),(Instr.keyThatStays (enc x) (enc x)).run P w=.ok (enc x) w
 inj:∀ x y:K,enc x=enc y->x=y
def MapIs{K:Type}(w:World)(b:Nat)(enc:K->Value)(m:List (K × Value)):Prop :=
 ∃ es clock,w.heap[b]?=some (.map es clock)/\es.toList.map (λe=>(e.key,e.val))=m.map (λp=>(enc p.1,p.2))/\Stamped es clock
theorem Pe{P:Program}{w:World}{b:Nat}{es:Array MapEntry}{cl:Nat}(h:w.heap[b]?=some (.map es cl)):(getObj b).run P w=.ok (.map es cl) w:=by simp [getObj,Sem.run,h]
theorem CRA{P:Program}{w:World}{b:Nat}{es:Array MapEntry}{cl:Nat}(o:Obj)(h:w.heap[b]?=some (.map es cl)):(setObj b o).run P w=.ok () { w with heap:=w.heap.setIfInBounds b o }:=by simp [setObj,Sem.run,h]
section
variable {P:Program}{K:Type}{enc:K->Value}{w w':World}{b:Nat}{m:List (K × Value)}
theorem Zn(h:qP:=by
 rw [Array.getElem?_eq_none h3] at h1;cases h1):qP:=h
theorem Kr(h:qP:=by
 rcases Nat.lt_or_ge b w.heap.size with h3|h3
 ·exact h3
 ·exact Zn):qP:=h
theorem MapIs.keep(h:MapIs w b enc m)(hk:Kept (λi=>i=b) w w'):MapIs w' b enc m:=by
 obtain ⟨es,cl,h1,h2,hst⟩:=h;refine ⟨es,cl,?_,h2,hst⟩;have hlt:b<w.heap.size:=by
  exact Kr
 rw [hk.2 b rfl hlt];exact h1
theorem MapIs.lt(h:MapIs w b enc m):b<w.heap.size:=by
 obtain ⟨es,cl,h1,_,_⟩:=h;exact Kr
theorem IHA(w:World)(enc:K->Value):MapIs (w.alloc (.map #[] 0)) w.heap.size enc []:=⟨#[],0,heap_alloc_new w _,rfl,stamped_empty 0⟩
theorem MapIs.len(h:MapIs w b enc m){t kt et:TypeId}(ht:P.underlying t=some (.map kt et))(ty:TypeId):(Builtin.len_ #[t] ty #[.map (some b)]).run P w=.ok (.I (m.length:Int)) w:=by
 obtain ⟨es,cl,h1,h2,hst⟩:=h;have hl:es.size=m.length:=by
  have:=congrArg List.length h2
  simpa using this
 simp [Builtin.len_,run_underlying ht,Pe h1,goInt,hl]
theorem TV(h:qP:=by
 obtain ⟨es,cl,h1,h2,hst⟩:=h;have hf:=kl.find w x m es.toList h2;unfold Dt;cases hq:fnd x m 0 with
 |none=>rw [hq] at hf;simp [Instr.lookup,run_underlying ht,Pe h1,kl.check,hf,hz]
 | some p=>rw [hq] at hf;simp [Instr.lookup,run_underlying ht,Pe h1,kl.check,hf]):qP:=h
theorem MapIs.get [DecidableEq K](h:MapIs w b enc m){t kt et:TypeId}(ht:P.underlying t=some (.map kt et))(kl:KL P kt enc)(z:Value)(hz:∀ w:World,(zeroValue et).run P w=.ok z w)(x:K) :
  (Instr.lookup t (.map (some b)) (enc x) false).run P w=.ok ((Dt m x).getD z) w:=by
 exact TV
theorem MapIs.get2 [DecidableEq K](h:MapIs w b enc m){t kt et:TypeId}(ht:P.underlying t=some (.map kt et))(kl:KL P kt enc)(z:Value)(hz:∀ w:World,(zeroValue et).run P w=.ok z w)(x:K) :
  (Instr.lookup t (.map (some b)) (enc x) true).run P w=.ok (.tuple #[(Dt m x).getD z,.bool (Dt m x).isSome]) w:=by
 exact TV
theorem MapIs.put [DecidableEq K](h:MapIs w b enc m){t kt et:TypeId}(ht:P.underlying t=some (.map kt et))(kl:KL P kt enc)(x:K)(v:Value) :
  ∃ w',(Instr.mapUpdate t (.map (some b)) (enc x) v).run P w=.ok () w'/\MapIs w' b enc (PE m x v)/\w.grownBy w' (some b):=by
 obtain ⟨es,cl,h1,h2,hst⟩:=h;have hf:=kl.find w x m es.toList h2;have hlt:b<w.heap.size:=by
  exact Kr
 have hg:∀ o:Obj,w.grownBy { w with heap:=w.heap.setIfInBounds b o } (some b):=λo =>
  ⟨rfl,rfl,rfl,AC,λk _ hk=>by rw [Array.getElem?_setIfInBounds,if_neg (λe=>hk C7)]⟩
 unfold PE;cases hq:fnd x m 0 with
 |none =>
  rw [hq] at hf;refine ⟨{ w with heap:=w.heap.setIfInBounds b (.map (es.push { key:=enc x,val:=v,born:=cl }) (cl+1)) },by simp [Instr.mapUpdate,run_underlying ht,Pe h1,kl.check,hf,CRA _ h1],⟨es.push { key:=enc x,val:=v,born:=cl },cl+1,by simp [hlt],DZ,stamped_push hst (λe he hk => ?_)⟩,hg _⟩;have h5:(e.key,e.val)∈es.toList.map (λe=>(e.key,e.val)):=List.mem_map_of_mem he;rw [h2] at h5;obtain ⟨p,hp,U⟩:=List.mem_map.1 h5;injection U with U _;exact GKA hq p hp (kl.inj _ _ (U.trans hk))
 |some p =>
  obtain ⟨i,u⟩:=p;rw [hq] at hf;obtain ⟨_,hi⟩:=YV hq;simp at hi;have O:(es.toList.map (λe=>(e.key,e.val)))[i]?=some (enc x,u):=(by rw [h2];simp [hi]);have hil:i<es.size:=by
   have:=(List.getElem?_eq_some_iff.1 O).1
   simpa using this
  have Y:es[i].key=enc x:=by
   simp [hil] at O;exact O.1
  refine ⟨{ w with heap:=w.heap.setIfInBounds b (.map (es.modify i λe => { e with key:=enc x,val:=v }) cl) },by simp [Instr.mapUpdate,run_underlying ht,Pe h1,kl.check,hf,CRA _ h1,hil,Y,kl.stays],⟨es.modify i λe => { e with key:=enc x,val:=v },cl,by simp [hlt],?_,stamped_modify hst i _ (λ_ _=>rfl) (λe _ he=>by
   rw [Array.getElem?_eq_getElem hil] at he;injection he with he;show enc x=e.key;rw [<-he,Y])⟩,hg _⟩
  have:(es.modify i λe => { e with key:=enc x,val:=v }).toList.map (λe=>(e.key,e.val))=(es.toList.map (λe=>(e.key,e.val))).set i (enc x,v):=by
   apply List.ext_getElem?;intro j;simp only [List.getElem?_map,Array.getElem?_toList,Array.getElem?_modify,List.getElem?_set,List.length_map,Array.length_toList];by_cases hij:i=j
   ·subst hij;simp [hil]
   ·simp [hij]
  rw [this,h2,List.map_set]
end

theorem AAA(a b:BA):(a==b)=decide (a=b):=by
 cases a with|mk x=>cases b with|mk y =>
 show (x==y)=_;by_cases h:x=y
 ·subst h;simp
 ·simp [h]
theorem Lk(h:qP:=by
 exact ih l (i+1) (by simpa using h3)):qP:=h
theorem FkA{P:Program}{kt:TypeId}(hk:P.underlying kt=some (.int .i64)):KL P kt (λn:Int=>Value.int .i64 n) where
 check:=λw em x=>by
  have h:∀ n,(Instr.checkKey em (n+1) kt (Value.int .i64 x)).run P w=.ok () w:=λn=>by simp [Instr.checkKey,run_underlying hk]
  exact h 9999
 find:=λw x l es h=>by
  have hn:∀ (es:List MapEntry) (l:List (Int × Value)) (i:Nat),es.map (λe=>(e.key,e.val))=l.map (λp=>(Value.int .i64 p.1,p.2))->Instr.findNow (.int .i64) (.I x) es i=some (fnd x l i):=by
   intro es
   induction es with
   |nil=>intro l i h;cases l<;>simp at h;rfl
   |cons e es ih =>
    intro l i h;cases l with
    |nil=>simp at h
    |cons p l =>
     simp at h;obtain ⟨⟨h1,h2⟩,h3⟩:=h;unfold Instr.findNow fnd;rw [h1];by_cases hx:p.1=x
     ·have hs:Instr.sameNow (.int .i64) (.I x) (.I p.1)=some true:=(by simp [Instr.sameNow,hx]);rw [hs,if_pos hx,h2]
     ·have O:¬x=p.1:=λe=>hx e.symm;have hs:Instr.sameNow (.int .i64) (.I x) (.I p.1)=some false:=(by simp [Instr.sameNow,O]);rw [hs,if_neg hx];exact Lk
  simp [Instr.findKey,run_underlying hk,hn es l 0 h]
 stays:=λw x=>by simp [Instr.keyThatStays,Instr.sameBits]
 inj:=λx y h=>by injection h
theorem FdA{P:Program}{kt:TypeId}(hk:P.underlying kt=some .string):KL P kt (λs:BA=>Value.string s) where
 check:=λw em x=>by
  have h:∀ n,(Instr.checkKey em (n+1) kt (Value.string x)).run P w=.ok () w:=λn=>by simp [Instr.checkKey,run_underlying hk]
  exact h 9999
 find:=λw x l es h=>by
  have hn:∀ (es:List MapEntry) (l:List (BA × Value)) (i:Nat),es.map (λe=>(e.key,e.val))=l.map (λp=>(Value.string p.1,p.2))->Instr.findNow .string (.string x) es i=some (fnd x l i):=by
   intro es
   induction es with
   |nil=>intro l i h;cases l<;>simp at h;rfl
   |cons e es ih =>
    intro l i h;cases l with
    |nil=>simp at h
    |cons p l =>
     simp at h;obtain ⟨⟨h1,h2⟩,h3⟩:=h;unfold Instr.findNow fnd;rw [h1];by_cases hx:p.1=x
     ·have hs:Instr.sameNow .string (.string x) (.string p.1)=some true:=(by simp [Instr.sameNow,AAA,hx]);rw [hs,if_pos hx,h2]
     ·have O:¬x=p.1:=λe=>hx e.symm;have hs:Instr.sameNow .string (.string x) (.string p.1)=some false:=(by simp [Instr.sameNow,AAA,O]);rw [hs,if_neg hx];exact Lk
  simp [Instr.findKey,run_underlying hk,hn es l 0 h]
 stays:=λw x=>by simp [Instr.keyThatStays,Instr.sameBits,AAA]
 inj:=λx y h=>by injection h

theorem BxA{P:Program}{kt it:TypeId}(hk:P.underlying kt=some (.array 2 it))(hi:P.underlying it=some (.int .i64))(hs:∀ w:World,(sizeOf it).run P w=.ok 1 w)(w:World)(a b c d:Int) :
  (Op.equal kt (.agg #[.I a,.I b]) (.agg #[.I c,.I d])).run P w=.ok (decide ((a,b)=(c,d))) w:=by
 have O:∀ (n:Nat) (x y:Int),(Op.equalIn (n+1) it (.I x) (.I y)).run P w=.ok (x==y) w:=λn x y=>by simp [Op.equalIn,run_underlying hi]
 have hp:∀ (x y:Int) (i:Nat) (v:Value),(#[Value.int .i64 x,.I y])[i]?=some v->(part it #[.I x,.I y] i).run P w=.ok v w:=λx y i v hv=>by simp [part,isAgg,run_underlying hi,hv]
 have h:∀ n:Nat,(Op.equalIn (n+2) kt (.agg #[.I a,.I b]) (.agg #[.I c,.I d])).run P w=.ok (decide ((a,b)=(c,d))) w:=by
  intro n;rw [Op.equalIn];simp only [Sem.run_bind,run_underlying hk,Result.andThen_ok,hs,Std.Legacy.Range.forIn_eq_forIn_range',Std.Legacy.Range.size,Nat.sub_zero,Nat.add_sub_cancel,Nat.div_one,List.range'_succ,List.range'_zero,List.forIn_cons,List.forIn_nil];simp only [Nat.zero_mul,Nat.zero_add,Nat.one_mul,hp a b 0 _ rfl,hp c d 0 _ rfl,Result.andThen_ok];by_cases h1:a=c
  ·subst h1;by_cases h2:b=d
   ·subst h2;simp [O,hp a b 1 _ rfl]
   ·simp [O,hp a b 1 _ rfl,hp a d 1 _ rfl,h2]
  ·simp [O,h1]
 exact h 9998
theorem DwA{P:Program}{kt it:TypeId}(hk:P.underlying kt=some (.array 2 it))(hi:P.underlying it=some (.int .i64))(hs:∀ w:World,(sizeOf it).run P w=.ok 1 w) :
  KL P kt (λp:Int × Int=>Value.agg #[.I p.1,.I p.2]) where
 check:=λw em x=>by
  have hp:∀ (x y:Int) (i:Nat) (v:Value),(#[Value.int .i64 x,.I y])[i]?=some v->(part it #[.I x,.I y] i).run P w=.ok v w:=λx y i v hv=>by simp [part,isAgg,run_underlying hi,hv]
  have hc:∀ (n:Nat) (y:Int),(Instr.checkKey em (n+1) it (.I y)).run P w=.ok () w:=λn y=>by simp [Instr.checkKey,run_underlying hi]
  have h:∀ n,(Instr.checkKey em (n+2) kt (Value.agg #[.I x.1,.I x.2])).run P w=.ok () w:=λn=>by
   rw [Instr.checkKey];simp only [Sem.run_bind,run_underlying hk,Result.andThen_ok,hs,Std.Legacy.Range.forIn_eq_forIn_range',Std.Legacy.Range.size,Nat.sub_zero,Nat.add_sub_cancel,Nat.div_one,List.range'_succ,List.range'_zero,List.forIn_cons,List.forIn_nil];simp [hs,hp x.1 x.2 0 _ rfl,hp x.1 x.2 1 _ rfl,hc]
  exact h 9998
 find:=λw x l es h=>by
  have ha:∀ (es:List MapEntry) (l:List ((Int × Int) × Value)) (i:Nat),es.map (λe=>(e.key,e.val))=l.map (λp=>(Value.agg #[.I p.1.1,.I p.1.2],p.2))->(Instr.findAsking kt (.agg #[.I x.1,.I x.2]) es i).run P w=.ok (fnd x l i) w:=by
   intro es
   induction es with
   |nil=>intro l i h;cases l<;>simp at h;simp [Instr.findAsking,fnd]
   |cons e es ih =>
    intro l i h;cases l with
    |nil=>simp at h
    |cons p l =>
     simp at h;obtain ⟨⟨h1,h2⟩,h3⟩:=h;unfold Instr.findAsking fnd;rw [h1];simp only [Sem.run_bind,BxA hk hi hs w x.1 x.2 p.1.1 p.1.2,Result.andThen_ok];by_cases hx:p.1=x
     ·rw [if_pos hx,<-hx,decide_eq_true rfl];simp [h2]
     ·rw [if_neg hx,decide_eq_false (λe=>hx e.symm)];simp only [Bool.false_eq_true,if_false];exact Lk
  cases es with
  |nil =>
   cases l<;>simp at h
   simp [Instr.findKey,run_underlying hk,Instr.findNow,fnd]
  |cons e es =>
   have hn:Instr.findNow (.array 2 it) (.agg #[.I x.1,.I x.2]) (e::es) 0=none:=(by simp [Instr.findNow,Instr.sameNow]);simp only [Instr.findKey,Sem.run_bind,run_underlying hk,Result.andThen_ok,hn];exact ha (e::es) l 0 h
 stays:=λw x=>by
  have h:∀ n,Instr.sameBits (n+1) (.agg #[.I x.1,.I x.2]) (.agg #[.I x.1,.I x.2])=true:=λn=>by simp [Instr.sameBits]
  unfold Instr.keyThatStays;rw [h 9999];simp
 inj:=λx y h=>by
  injection h with h;injection h with h;simp at h;exact Prod.ext h.1 h.2

section
variable {K:Type} [DecidableEq K]
theorem ZK{x:K}{l l':List (K × Value)}{j:Nat} : fnd x (l++l') j=match fnd x l j with|some r=>some r|none=>fnd x l' (j+l.length):=by
 induction l generalizing j with
 |nil=>simp [fnd]
 |cons p l ih =>
  show (if p.1=x then some (j,p.2) else fnd x (l++l') (j+1))=match (if p.1=x then some (j,p.2) else fnd x l (j+1)) with|some r=>some r|none=>fnd x l' (j+(l.length+1))
  by_cases hp:p.1=x
  ·simp only [if_pos hp]
  ·simp only [if_neg hp];rw [ih,show j+1+l.length=j+(l.length+1) by omega]
theorem BU(h:qP:=by simpa using h):qP:=h
theorem Jf(m:List (K × Value))(k k':K)(v:Value):Dt (PE m k v) k'=if k=k' then some v else Dt m k':=by
 unfold Dt PE;cases hf:fnd k m 0 with
 |none =>
  rw [ZK];by_cases hk:k=k'
  ·subst hk;rw [hf,if_pos rfl];simp [fnd]
  ·rw [if_neg hk];cases hg:fnd k' m 0 with
   |none=>simp [fnd,hk]
   |some r=>simp
 |some r =>
  obtain ⟨i,u⟩:=r;obtain ⟨_,hi⟩:=YV hf;simp at hi;have U:∀ (l:List (K × Value)) (i j:Nat) (u:Value),l[i]?=some (k,u)->(∀ a,a<i->∀ p,l[a]?=some p->p.1≠k)->(fnd k' (l.set i (k,v)) j).map (·.2)=if k=k' then some v else (fnd k' l j).map (·.2):=by
   intro l
   induction l with
   |nil=>intro i j u h;simp at h
   |cons p l ih =>
    intro i j u h hb;cases i with
    |zero =>
     simp at h;subst h;simp only [List.set_cons_zero,fnd];by_cases hk:k=k'<;>simp [hk]
    |succ i =>
     simp only [List.set_cons_succ,fnd];have hp:p.1≠k:=hb 0 AA p rfl;by_cases hk:p.1=k'
     ·have:k≠k':=λe=>hp (by rw [hk,e]);simp [hk,this]
     ·rw [if_neg hk,if_neg hk];exact ih i (j+1) u BU (λa ha q hq=>hb (a+1) AA q (by simpa using hq))
  refine U m i 0 u hi ?_;have O:∀ (l:List (K × Value)) (j i:Nat) (u:Value),fnd k l j=some (i,u)->∀ a,a<i-j->∀ p,l[a]?=some p->p.1≠k:=by
   intro l
   induction l with
   |nil=>intro j i u h;simp [fnd] at h
   |cons q l ih =>
    intro j i u h a ha p hp;unfold fnd at h;by_cases hq:q.1=k
    ·rw [if_pos hq] at h;simp at h;omega
    ·rw [if_neg hq] at h;cases a with
     |zero=>simp at hp;subst hp;exact hq
     |succ a=>exact ih (j+1) i u h a AA p (by simpa using hp)
  exact λa ha p hp=>O m 0 i u hf a AA p hp
end
