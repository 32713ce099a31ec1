/- The reference's digits: times, cmp, digit. Conditions: the digits read as data. -/
import Derived.Test.YthmckfloppblcaaGreatDoorBj5
import Derived.Deep.Light
import Derived.WalkLawsBesides
import Derived.Sort.Walk0
import Derived.Lib.Bytealg
import Derived.Deep.DeepCutAuto
import Derived.Laws.EntriesVeiled
set_option maxRecDepth 100000
set_option maxHeartbeats 400000
namespace Go.Proofs.YthmckfloppblcaaGreatDoor
open Go Go.RowKit

structure TimI (u:List Nat) (d:Nat) (m:List Nat) (k cy:Nat):Prop where
 len:m.length=k
 eq:dval (u.take k)*d=dval m+cy*16777216 ^ k
 ds:dgs m
 lt:cy<16777216
theorem TimI.step {u m:List Nat} {d k cy:Nat} (h:TimI u d m k cy) (hu:dgs u) (hd:d<16777216) {s:Nat} (hs:s=u.getD k 0*d+cy):s<281474976710656∧TimI u d (m++[s % 16777216]) (k+1) (s / 16777216):=by
 have h1:=dgs_getD hu k;have h2:u.getD k 0*d≤16777215*16777215:=Nat.mul_le_mul (by omega) (by omega);have h3:=h.lt;refine ⟨by omega,by simp [h.len],?_,dgs_snoc h.ds (Nat.mod_lt _ (by decide)),by omega⟩;rw [dval_take,Nat.add_mul,h.eq,dval_snoc,h.len,Nat.pow_succ];have e:s=16777216*(s / 16777216)+s % 16777216:=(Nat.div_add_mod _ _).symm;have e2:16777216 ^ k*s=16777216 ^ k*(u.getD k 0*d)+cy*16777216 ^ k:=(by rw [hs,Nat.mul_add,Nat.mul_comm _ cy]);have e3:16777216 ^ k*s=s / 16777216*(16777216 ^ k*16777216)+16777216 ^ k*(s % 16777216):=by
  rw [Nat.mul_comm (s / 16777216),Nat.mul_assoc,← Nat.mul_add,← e]
 rw [Nat.mul_assoc];omega

theorem drop_getD {u:List Nat} {k:Nat} (hk:k<u.length):u.drop k=u.getD k 0 :: u.drop (k+1):=by
 rw [List.drop_eq_getElem_cons hk];simp [hk]

structure OfI (l:List UInt8) (m:List Nat):Prop where
 eq:dval m+16777216 ^ m.length*nvl (l.take (l.length-3*m.length))=nvl l
 ds:dgs m
theorem pow24 (k:Nat):(16777216:Nat) ^ k=256 ^ (3*k):=by rw [show (16777216:Nat)=256 ^ 3 by decide,← Nat.pow_mul]
theorem OfI.step {l:List UInt8} {m:List Nat} (h:OfI l m) {e:Nat} (he:e+3*m.length=l.length):OfI l (m++[nvl ((l.take e).drop (e-3))]):=by
 have h1:nvl ((l.take e).drop (e-3))<16777216:=by
  have:=nvl_lt ((l.take e).drop (e-3));have h2:(256:Nat) ^ ((l.take e).drop (e-3)).length≤256 ^ 3:=Nat.pow_le_pow_right (by decide) (by simp; omega);omega
 refine ⟨?_,dgs_snoc h.ds h1⟩;have h2:=h.eq;rw [show l.length-3*m.length=e by omega] at h2;rw [dval_snoc,List.length_append,List.length_singleton,show l.length-3*(m.length+1)=e-3 by omega,← h2];have h3:=nvl_app ((l.take e).take (e-3)) ((l.take e).drop (e-3));rw [List.take_append_drop,List.take_take,Nat.min_eq_left (by omega)] at h3;rw [h3,Nat.mul_add,Nat.pow_succ];have h4:((l.take e).drop (e-3)).length=e-(e-3):=(by simp; omega);rw [h4]
 rcases Nat.lt_or_ge e 3 with h5 | h5
 ·rw [show e-3=0 by omega];simp [nvl]
 ·rw [show e-(e-3)=3 by omega,show (256:Nat) ^ 3=16777216 by decide,Nat.mul_comm (nvl _) 16777216,Nat.mul_assoc];omega
theorem OfI.fin {s:ByteArray} {m:List Nat} (h:OfI s.data.toList m) (hc:canB s) (h1:s.size≤3*m.length) (h2:3*m.length≤s.size+2):dval m=nval s∧trd m:=by
 have hl:s.data.toList.length=s.size:=(by simp);have h3:=h.eq;rw [show s.data.toList.length-3*m.length=0 by omega,List.take_zero] at h3;have hv:dval m=nval s:=(by rw [show nval s=nvl s.data.toList from rfl,← h3]; simp [nvl]);refine ⟨hv,?_⟩;intro ht
 rcases List.eq_nil_or_concat m with rfl | ⟨m',d,rfl⟩
 ·simp at ht
 ·rw [List.concat_eq_append] at *;have hd:d=0:=(by simpa using ht);subst hd;rw [dval_snoc0] at hv;have h4:=dval_lt m' fun x hx=>h.ds x (by simp [hx]);rw [hv,pow24] at h4;have h5:=(can_size hc (k:=3*m'.length)).2 h4;simp at h2;omega
section
variable {X:Nat→Nat→Prop} {γ γ':Gh} {w w':World}
def VarX (X:Nat→Nat→Prop) (k t n:Nat) (v:Value) (γ:Gh) (w:World):Prop:=∃ g cs,v=.pointer (some ⟨g,0,none⟩)∧cs.size=n∧Blk w g t cs∧(γ k=some (some g)∨γ k=some none)∧(∀ j,γ j=some (some g)→j=k)∧∀ m,¬ X m g
theorem VarX.stab {k t n:Nat} : ∀ v γ w γ' w',LX X γ w γ' w'→VarX X k t n v γ w→VarX X k t n v γ' w':=by
 rintro v γ w γ' w' r ⟨g,cs,h1,h2,h3,h4,h5,h6⟩;obtain ⟨cs',e,h7⟩:=r.shape g t cs h3 h6;refine ⟨g,cs',h1,e.trans h2,h7,?_,fun j hj=>h5 j (r.old j g hj h3.lt),h6⟩
 rcases h4 with h4 | h4
 ·exact r.on k g h4
 ·exact .inr (r.done k h4)
theorem VarX.new {k t n:Nat} (hf:∀ j b,γ j=some (some b)→b<w.heap.size) {cs:Array Value} (hn:cs.size=n) (hX:∀ m b,X m b→b<w.heap.size):VarX X k t n (.pointer (some ⟨w.heap.size,0,none⟩)) (γ.put k (some w.heap.size)) (w.alloc (.cells cs t)):=by
 refine ⟨_,cs,rfl,hn,Blk.new w t cs,.inl (by simp [Gh.put]),fun j hj => ?_,fun m hm=>by have:=hX m _ hm; omega⟩;unfold Gh.put at hj;split at hj
 ·assumption
 ·have:=hf j _ hj;omega
def VarXI (X:Nat→Nat→Prop) (t:Nat) (v:Value) (cs:Array Value) (γ:Gh) (w:World):Prop:=∃ g,v=.pointer (some ⟨g,0,none⟩)∧Blk w g t cs∧Free γ g∧∀ m,¬ X m g
theorem VarXI.lx {t:Nat} {v:Value} {cs:Array Value} (r:LX X γ w γ' w') (h:VarXI X t v cs γ w):VarXI X t v cs γ' w':=by
 obtain ⟨g,h1,h2,h3,h4⟩:=h;exact ⟨g,h1,h2.keep (r.keptS fun b _ e=>⟨by rw [e]; exact h3,fun m hm=>absurd (e ▸ hm) (h4 m)⟩),r.free h2.lt h3,h4⟩
theorem VarX.stored {l:List (Nat × List Nat)} {s k t n:Nat} {v:Value} (h:VarX X k t n v γ w) (hs:k∈alF l s) (hn:LM l s γ) :
  ∃ g cs,v=.pointer (some ⟨g,0,none⟩)∧cs.size=n∧Blk w g t cs∧γ k=some (some g)∧∀ w' cs',Only g w w'→Blk w' g t cs'→cs'.size=n→LX X γ w (γ.put k none) w'∧VarXI X t v cs' (γ.put k none) w':=by
 obtain ⟨g,cs,h1,h2,h3,h4,h5,h6⟩:=h;have hk:γ k=some (some g):=by
  rcases h4 with h4 | h4
  ·exact h4
  ·exact absurd h4 (hn.1 k hs)
 refine ⟨g,cs,h1,h2,h3,hk,fun w' cs' ho hb he=>⟨LX.store hk h5 ho h3 hb (he.trans h2.symm),g,h1,hb,?_,h6⟩⟩;rintro ⟨j,hj⟩;unfold Gh.put at hj;split at hj
 ·cases hj
 ·rename_i hne;exact hne (h5 j hj)
end

theorem Kept.cell {S:Nat→Prop} {w w':World} (h:Kept S w w') {p:Addr} {u:Value} (hs:S p.block) (hc:w.cell? p=some u):w'.cell? p=some u:=by
 have hp:p.block<w.heap.size:=by
  unfold World.cell? at hc
  rcases Nat.lt_or_ge p.block w.heap.size with h1 | h1
  ·exact h1
  ·rw [Array.getElem?_eq_none h1] at hc; cases hc
 exact (World.cell?_of_block (w:=w) (h.2 p.block hs hp)).trans hc


structure AddI (u v m:List Nat) (k cy:Nat):Prop where
 len:m.length=k
 eq:dval (u.take k)+dval (v.take k)=dval m+cy*16777216 ^ k
 ds:dgs m
 bit:cy≤1
 fin:max u.length v.length<k→cy=0
theorem AddI.step {u v m:List Nat} {k cy:Nat} (h:AddI u v m k cy) (hu:dgs u) (hv:dgs v) {s:Nat} (hs:s=cy+u.getD k 0+v.getD k 0):AddI u v (m++[s % 16777216]) (k+1) (s / 16777216):=by
 have h1:=dgs_getD hu k;have h2:=dgs_getD hv k;have h3:=h.bit;refine ⟨by simp [h.len],?_,dgs_snoc h.ds (Nat.mod_lt _ (by decide)),by omega,fun hk => ?_⟩
 ·rw [dval_take,dval_take,dval_snoc,h.len,Nat.pow_succ];have h4:=h.eq;have e:s=16777216*(s / 16777216)+s % 16777216:=(Nat.div_add_mod _ _).symm;have e2:16777216 ^ k*s=cy*16777216 ^ k+16777216 ^ k*u.getD k 0+16777216 ^ k*v.getD k 0:=(by rw [hs,Nat.mul_add,Nat.mul_add,Nat.mul_comm _ cy]);have e3:16777216 ^ k*s=s / 16777216*(16777216 ^ k*16777216)+16777216 ^ k*(s % 16777216):=by
   rw [Nat.mul_comm (s / 16777216),Nat.mul_assoc,← Nat.mul_add,← e]
  omega
 ·have e1:u.getD k 0=0:=(by rw [List.getD_eq_getElem?_getD,List.getElem?_eq_none (by omega)]; rfl);have e2:v.getD k 0=0:=(by rw [List.getD_eq_getElem?_getD,List.getElem?_eq_none (by omega)]; rfl);rw [e1,e2] at hs;omega

theorem dval_set:∀ (m:List Nat) (t x:Nat),t<m.length→dval (m.set t x)+m.getD t 0*16777216 ^ t=dval m+x*16777216 ^ t
 | [],_,_,h=>by simp at h
 | d :: m,0,x,_=>by simp [dval]; omega
 | d :: m,t+1,x,h=>by
  have ih:=dval_set m t x (by simpa using h);simp only [List.set_cons_succ,dval,List.getD_cons_succ,Nat.pow_succ];have e1:m.getD t 0*(16777216 ^ t*16777216)=16777216*(m.getD t 0*16777216 ^ t):=(by rw [← Nat.mul_assoc,Nat.mul_comm]);have e2:x*(16777216 ^ t*16777216)=16777216*(x*16777216 ^ t):=(by rw [← Nat.mul_assoc,Nat.mul_comm]);rw [e1,e2];omega
theorem dgs_set {m:List Nat} (h:dgs m) (t:Nat) {x:Nat} (hx:x<16777216):dgs (m.set t x):=fun y hy=>by
 rcases List.mem_or_eq_of_mem_set hy with hy | hy
 ·exact h y hy
 ·rw [hy]; exact hx
theorem getD_setN (m:List Nat) (t x k:Nat) (h:t≠k):(m.set t x).getD k 0=m.getD k 0:=by
 rw [List.getD_eq_getElem?_getD,List.getElem?_set_ne h,← List.getD_eq_getElem?_getD]
structure MulO (u v m:List Nat) (i:Nat):Prop where
 len:m.length=u.length+v.length
 ds:dgs m
 eq:dval m=dval (u.take i)*dval v
 zero:∀ t,i+v.length≤t→m.getD t 0=0
structure MulN (u v m:List Nat) (i j cy:Nat):Prop where
 len:m.length=u.length+v.length
 ds:dgs m
 lt:cy<16777216
 eq:dval m+cy*16777216 ^ (i+j)=dval (u.take i)*dval v+u.getD i 0*dval (v.take j)*16777216 ^ i
 zero:∀ t,i+v.length≤t→m.getD t 0=0
theorem MulN.step {u v m:List Nat} {i j cy:Nat} (h:MulN u v m i j cy) (hu:dgs u) (hv:dgs v) (hi:i<u.length) (hj:j<v.length) {s:Nat} (hs:s=m.getD (i+j) 0+u.getD i 0*v.getD j 0+cy) :
  s<281474976710656∧MulN u v (m.set (i+j) (s % 16777216)) i (j+1) (s / 16777216):=by
 have h1:=dgs_getD hu i;have h2:=dgs_getD hv j;have h3:=dgs_getD h.ds (i+j);have h4:=h.lt;have h5:u.getD i 0*v.getD j 0≤16777215*16777215:=Nat.mul_le_mul (by omega) (by omega);have hb:s<281474976710656:=(by omega);refine ⟨hb,by simp [h.len],dgs_set h.ds _ (Nat.mod_lt _ (by decide)),by omega,?_,fun t ht=>by rw [getD_setN _ _ _ _ (by omega)]; exact h.zero t ht⟩;have hset:=dval_set m (i+j) (s % 16777216) (by rw [h.len]; omega);have heq:=h.eq;rw [dval_take,Nat.mul_add,Nat.add_mul,show i+(j+1)=(i+j)+1 by omega,Nat.pow_succ];have e:s=16777216*(s / 16777216)+s % 16777216:=(Nat.div_add_mod _ _).symm;have e1:s*16777216 ^ (i+j)=s / 16777216*(16777216 ^ (i+j)*16777216)+s % 16777216*16777216 ^ (i+j):=by
  rw [Nat.mul_comm (16777216 ^ (i+j)) 16777216,← Nat.mul_assoc,← Nat.add_mul,Nat.mul_comm (s / 16777216),← e]
 have e2:s*16777216 ^ (i+j)=m.getD (i+j) 0*16777216 ^ (i+j)+u.getD i 0*(16777216 ^ j*v.getD j 0)*16777216 ^ i+cy*16777216 ^ (i+j):=by
  rw [hs,Nat.add_mul,Nat.add_mul,Nat.pow_add];congr 2;rw [Nat.mul_comm (16777216 ^ j) (v.getD j 0),Nat.mul_comm (16777216 ^ i) (16777216 ^ j),Nat.mul_assoc,Nat.mul_assoc,Nat.mul_assoc]
 omega
theorem MulN.o {u v m:List Nat} {i cy:Nat} (h:MulN u v m i v.length cy) (hi:i<u.length):MulO u v (m.set (i+v.length) cy) (i+1):=by
 have hset:=dval_set m (i+v.length) cy (by rw [h.len]; omega);rw [h.zero (i+v.length) (Nat.le_refl _),Nat.zero_mul,Nat.add_zero] at hset;have heq:=h.eq;rw [List.take_length] at heq;refine ⟨by simp [h.len],dgs_set h.ds _ h.lt,?_,fun t ht=>by rw [getD_setN _ _ _ _ (by omega)]; exact h.zero t (by omega)⟩;rw [hset,heq,dval_take,Nat.add_mul];congr 1;rw [Nat.mul_right_comm,Nat.mul_comm (u.getD i 0)]
theorem MulO.start (u v:List Nat):MulO u v (List.replicate (u.length+v.length) 0) 0:=by
 have hz:∀ n,dval (List.replicate n 0)=0:=by
  intro n
  induction n with
  | zero=>rfl
  | succ n ih=>simp [List.replicate_succ,dval,ih]
 refine ⟨by simp,fun d hd=>by rw [List.eq_of_mem_replicate hd]; decide,by simp [hz,dval],fun t _ => ?_⟩;rw [List.getD_eq_getElem?_getD,List.getElem?_replicate];split <;> rfl
def dcells (m:List Nat):Array Value:=((nums m).map (Value.int .i64)).toArray
theorem dcells_size (m:List Nat):(dcells m).size=m.length:=by simp [dcells,nums]
theorem Blk.ints {w:World} {g:Nat} {m:List Nat} (h:Blk w g 3 (dcells m)) (hl:m.length≤4294967296):Ints w (fun b=>b=g) (some ⟨g,0,none⟩) (nums m) :=
 ⟨by have:=h.rd; simpa [dcells] using this,by rw [nums_len]; exact hl⟩

structure QuoI (u qs rest:List Nat) (V k:Nat):Prop where
 len:qs.length=u.length
 ds:dgs qs
 eq:dval (u.drop k)=dval (qs.drop k)*V+dval rest
 lt:dval rest<V
 zero:∀ t,t<k→qs.getD t 0=0
 dr:dgs rest
 tr:trd rest
theorem QuoI.step {u qs rest r1 r2:List Nat} {V j q:Nat} (h:QuoI u qs rest V (j+1)) (hj:j<u.length) (h1:dval r1=u.getD j 0+16777216*dval rest) (hq:q=dval r1 / V) (h2:dval r2=dval r1-q*V) (hd:dgs r2) (ht:trd r2) (hu:dgs u):QuoI u (qs.set j q) r2 V j:=by
 have hV:0<V:=Nat.lt_of_le_of_lt (Nat.zero_le _) h.lt;have h3:=dgs_getD hu j;have hqd:=Nat.div_add_mod (dval r1) V;rw [← hq] at hqd;have hm:=Nat.mod_lt (dval r1) hV;have hle:q*V≤dval r1:=(by rw [Nat.mul_comm]; omega);have hqb:q<16777216:=by
  rw [hq];refine Nat.div_lt_of_lt_mul ?_;have:=h.lt;rw [h1];have h5:16777216*(dval rest+1)≤16777216*V:=Nat.mul_le_mul_left _ this;rw [Nat.mul_comm V];omega
 refine ⟨by simp [h.len],dgs_set h.ds _ hqb,?_,by rw [h2]; rw [Nat.mul_comm] at hle ⊢; omega,fun t ht=>by rw [getD_setN _ _ _ _ (by omega)]; exact h.zero t (by omega),hd,ht⟩;have hl:j<(qs.set j q).length:=(by simp [h.len,hj]);rw [drop_getD hj,drop_getD hl];have e1:(qs.set j q).getD j 0=q:=by
  rw [List.getD_eq_getElem?_getD,List.getElem?_set_self (by rw [h.len]; exact hj)]; rfl
 have e2:(qs.set j q).drop (j+1)=qs.drop (j+1):=(by rw [List.drop_set_of_lt (by omega)]);rw [e1,e2];simp only [dval];rw [h.eq,Nat.add_mul,h2,h1,Nat.mul_add,Nat.mul_assoc];rw [h1] at hle;omega
theorem QuoI.start (u:List Nat) {V:Nat} (hV:0<V):QuoI u (List.replicate u.length 0) [] V u.length:=by
 refine ⟨by simp,fun d hd=>by rw [List.eq_of_mem_replicate hd]; decide,by simp [dval],by simpa [dval] using hV,fun t _ => ?_,by simp [dgs],by simp [trd]⟩;rw [List.getD_eq_getElem?_getD,List.getElem?_replicate];split <;> rfl
theorem QuoI.fin {u qs rest:List Nat} {V:Nat} (h:QuoI u qs rest V 0):dval qs=dval u / V∧dval rest=dval u % V:=by
 have h1:=h.eq;have h2:=h.lt;simp only [List.drop_zero] at h1;have hV:0<V:=(by omega);constructor
 ·rw [h1,Nat.mul_comm,Nat.mul_add_div hV,Nat.div_eq_of_lt h2,Nat.add_zero]
 ·rw [h1,Nat.mul_comm,Nat.mul_add_mod,Nat.mod_eq_of_lt h2]

def inpS (l:List (List Val)):Nat:=(l.head?.map List.length).getD 0
def OwnN (w:World) (base:Nat) (A:Option Addr) (c:Nat) (l:List Nat):Prop:=Own w base 3 1 A l.length c ((nums l).map (Value.int .i64))
def RetN (w:World) (l:List Nat) (e:Ending) (w':World):Prop:=∃ (A:Option Addr) (c:Nat),e=.returned (.slice A l.length c)∧OwnN w' w.heap.size A c l∧Ext w w'

def cmpI (a b:Int):Int:=if a<b then -1 else if b<a then 1 else 0
theorem cmp_isNaN (a:Int) (w:World):Calls Tryz.prog 114 #[.int .i64 a] w (SameB w false):=by
 have h:(a != a)=false:=by simp
 go_enter Tryz.func114,Tryz.ntmps114
 go_wp2;go_ret;exact ⟨by simp,rfl⟩
theorem cmp_Compare (a b:Int) (w:World):Calls Tryz.prog 85 #[.int .i64 a,.int .i64 b] w (SameI w (cmpI a b)):=by
 by_cases h1:a<b
 ·have HF:=Hd (show cmpI a b=-1 by simp [cmpI,h1])
  go_enter Tryz.func85,Tryz.ntmps85
  go_wp2_with (go_at_call 114; refine (cmp_isNaN _ _).mono ?_; rintro e w' ⟨rfl,rfl⟩)
  go_ret;exact ⟨by rw [HF.o]; rfl,rfl⟩
 by_cases h2:b<a
 ·have HF:=Hd (show cmpI a b=1 by simp [cmpI,h1,h2])
  go_enter Tryz.func85,Tryz.ntmps85
  go_wp2_with (go_at_call 114; refine (cmp_isNaN _ _).mono ?_; rintro e w' ⟨rfl,rfl⟩)
  go_ret;exact ⟨by rw [HF.o]; rfl,rfl⟩
 ·have HF:=Hd (show cmpI a b=0 by simp [cmpI,h1,h2])
  go_enter Tryz.func85,Tryz.ntmps85
  go_wp2_with (go_at_call 114; refine (cmp_isNaN _ _).mono ?_; rintro e w' ⟨rfl,rfl⟩)
  go_ret;exact ⟨by rw [HF.o]; rfl,rfl⟩
def orI (a b:Int):Int:=if a≠0 then a else b
theorem cmp_Or (a b:Int) (g c:Nat) (w:World) (h0:w.cell? ⟨g,0,none⟩=some (.int .i64 a)) (h1:w.cell? ⟨g,1,none⟩=some (.int .i64 b)):Calls Tryz.prog 84 #[.slice (some ⟨g,0,none⟩) 2 c] w (SameI w (orI a b)):=by
 by_cases ha:a=0
 ·have ha':(a != 0)=false:=(by simp [ha]);by_cases hb:b=0
  ·have hb':(b != 0)=false:=(by simp [hb]);have HF:=Hd (show orI a b=0 by simp [orI,ha,hb]);clear ha hb
   go_enter Tryz.func84,Tryz.ntmps84
   go_wp2;refine wp_loop_rounds 3 ?_;rw [rounds_succ];go_wp2;rw [rounds_succ];go_wp2;rw [rounds_succ];go_wp2;go_ret;exact ⟨by rw [HF.o]; rfl,rfl⟩
  ·have hb':(b != 0)=true:=(by simp [hb]);have HF:=Hd (show orI a b=b by simp [orI,ha]);clear ha hb
   go_enter Tryz.func84,Tryz.ntmps84
   go_wp2;refine wp_loop_rounds 2 ?_;rw [rounds_succ];go_wp2;rw [rounds_succ];go_wp2;go_ret;exact ⟨by rw [HF.o]; rfl,rfl⟩
 ·have ha':(a != 0)=true:=(by simp [ha]);have HF:=Hd (show orI a b=a by simp [orI,ha]);clear ha
  go_enter Tryz.func84,Tryz.ntmps84
  go_wp2;refine wp_loop_rounds 1 ?_;rw [rounds_succ];go_wp2;go_ret;exact ⟨by rw [HF.o]; rfl,rfl⟩
theorem cmp_mu (u v:Int):orI (cmpI (u.tdiv 1000000) (v.tdiv 1000000)) (cmpI (u.tmod 1000000) (v.tmod 1000000))=cmpI u v:=by
 obtain ⟨a1,a2,a3,a4,a5⟩:=tdm u 1000000 (by decide);obtain ⟨b1,b2,b3,b4,b5⟩:=tdm v 1000000 (by decide);generalize u.tdiv 1000000=x at *;generalize v.tdiv 1000000=y at *;generalize u.tmod 1000000=f at *;generalize v.tmod 1000000=g at *;unfold orI cmpI;by_cases h1:x<y
 ·rw [if_pos h1,if_pos (by decide),if_pos (by omega)]
 ·by_cases h2:y<x
  ·rw [if_neg h1,if_pos h2,if_pos (by decide),if_neg (by omega),if_pos (by omega)]
  ·rw [if_neg h1,if_neg h2,if_neg (by decide)];by_cases h3:f<g
   ·rw [if_pos h3,if_pos (by omega)]
   ·by_cases h4:g<f
    ·rw [if_neg h3,if_pos h4,if_neg (by omega),if_pos (by omega)]
    ·rw [if_neg h3,if_neg h4,if_neg (by omega),if_neg (by omega)]
theorem decimal_Cmp (a b a' b':Int) (w:World) (ht:Tens w):Calls Tryz.prog 59 #[.agg #[.int .i64 a,.int .i64 b],.agg #[.int .i64 a',.int .i64 b']] w (RetI w (cmpI (mu a b) (mu a' b'))):=by
 have HT:=Hd ht;clear ht
 go_enter Tryz.func59,Tryz.ntmps59
 go_wp2_with fail
 refine (decimal_split a b _ (HT.o.ext (((Ext.refl w).alloc _).alloc _))).mono ?_;rintro e1 w1 ⟨rfl,hx1⟩;have HX1:=Hd ((((Ext.refl w).alloc _).alloc _).trans hx1);have hb:=(Blk.new (w.alloc (.cells #[.int .i64 a,.int .i64 b] 27)) 27 #[.int .i64 a',.int .i64 b']).keep (hx1.kept _);have c0:=hb.cell (i:=0) rfl;have c1:=hb.cell (i:=1) rfl;simp at c0 c1;clear hb hx1
 go_wp2_with fail
 refine (decimal_split a' b' _ (HT.o.ext HX1.o)).mono ?_;rintro e1 w2 ⟨rfl,hx2⟩;have HX2:=Hd (HX1.o.trans hx2);have HC:=Hd (cmp_mu (mu a b) (mu a' b'));clear hx2 c0 c1;generalize (mu a b).tdiv 1000000=x at *;generalize (mu a b).tmod 1000000=f at *;generalize (mu a' b').tdiv 1000000=y at *;generalize (mu a' b').tmod 1000000=g at *
 go_wp2_with (first | (go_at_call 85; refine (cmp_Compare _ _ _).mono ?_; rintro e w' ⟨rfl,rfl⟩))
 refine (cmp_Or (cmpI x y) (cmpI f g) _ _ _ ?_ ?_).mono ?_
 ·simp [go_sem]
 ·simp [go_sem]
 rintro e w' ⟨rfl,rfl⟩;go_wp2;go_ret;exact ⟨by rw [← HC.o]; rfl,HX2.o.alloc _⟩

def cmpS (x y:ByteArray):Int:=Lib.compareBytes x.data.toList y.data.toList
def lessK (x y:Val):Bool :=
 if x.kind≠y.kind then decide (x.kind<y.kind) else if x.kind=1 then decide (cmpS x.s y.s<0) else if x.kind=2 then decide (cmpI (mu x.dn x.ds) (mu y.dn y.ds)<0) else decide (cmpI x.n y.n<0)
def lessF (x y:Val):Bool:=if (flatB x && flatB y)=true then lessK x y else flatB x

abbrev encN:Int→Value:=fun n:Int=>Value.int .i64 n

def IsMp (K:Int) (V:Value) (v:Value) (γ:Gh) (w:World):Prop:=∃ (g:Nat) (m:List (Int × Value)),v=.map (some g)∧MapIs w g encN m∧mget m K=some V∧Free γ g
theorem IsMp.stab {K:Int} {V:Value} : ∀ v γ w γ' w',LX (fun _ _=>False) γ w γ' w'→IsMp K V v γ w→IsMp K V v γ' w':=by
 rintro v γ w γ' w' r ⟨g,m,h1,h2,h3,h4⟩;exact ⟨g,m,h1,h2.keep (r.keptS fun b _ e=>⟨by rw [e]; exact h4,fun _ h=>h.elim⟩),h3,r.free h2.lt h4⟩
end Go.Proofs.YthmckfloppblcaaGreatDoor
