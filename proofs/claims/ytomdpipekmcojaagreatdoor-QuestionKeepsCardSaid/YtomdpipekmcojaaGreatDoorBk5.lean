/- Variables that a drawn region makes and stores, under the chain rules. No conditions. -/
import Derived.Test.YtomdpipekmcojaaGreatDoorBk4
import Derived.Deep.Light
import Derived.WalkLawsBesides
namespace Go.Proofs.YtomdpipekmcojaaGreatDoor
open Go Go.RowKit
section
variable {X:Nat→Nat→Prop} {γ γ':Gh} {w w':World}
def VarX (X:Nat→Nat→Prop) (k t n:Nat) (v:Value) (γ:Gh) (w:World):Prop:=∃ g cs,v=.pointer (some ⟨g,0,none⟩)∧cs.size=n∧Blk w g t cs∧(γ k=some (some g)∨γ k=some none)∧(∀ j,γ j=some (some g)→j=k)∧∀ m,¬ X m g
theorem VarX.stab {k t n:Nat} : ∀ v γ w γ' w',LX X γ w γ' w'→VarX X k t n v γ w→VarX X k t n v γ' w':=by
 rintro v γ w γ' w' r ⟨g,cs,h1,h2,h3,h4,h5,h6⟩;obtain ⟨cs',e,h7⟩:=r.shape g t cs h3 h6;refine ⟨g,cs',h1,e.trans h2,h7,?_,fun j hj=>h5 j (r.old j g hj h3.lt),h6⟩
 rcases h4 with h4 | h4
 ·exact r.on k g h4
 ·exact .inr (r.done k h4)
theorem VarX.new {k t n:Nat} (hf:∀ j b,γ j=some (some b)→b<w.heap.size) {cs:Array Value} (hn:cs.size=n) (hX:∀ m b,X m b→b<w.heap.size):VarX X k t n (.pointer (some ⟨w.heap.size,0,none⟩)) (γ.put k (some w.heap.size)) (w.alloc (.cells cs t)):=by
 refine ⟨_,cs,rfl,hn,Blk.new w t cs,.inl (by simp [Gh.put]),fun j hj => ?_,fun m hm=>by have:=hX m _ hm; omega⟩;unfold Gh.put at hj;split at hj
 ·assumption
 ·have:=hf j _ hj;omega
def VarXI (X:Nat→Nat→Prop) (t:Nat) (v:Value) (cs:Array Value) (γ:Gh) (w:World):Prop:=∃ g,v=.pointer (some ⟨g,0,none⟩)∧Blk w g t cs∧Free γ g∧∀ m,¬ X m g
theorem VarXI.lx {t:Nat} {v:Value} {cs:Array Value} (r:LX X γ w γ' w') (h:VarXI X t v cs γ w):VarXI X t v cs γ' w':=by
 obtain ⟨g,h1,h2,h3,h4⟩:=h;exact ⟨g,h1,h2.keep (r.keptS fun b _ e=>⟨by rw [e]; exact h3,fun m hm=>absurd (e ▸ hm) (h4 m)⟩),r.free h2.lt h3,h4⟩
theorem VarX.stored {l:List (Nat × List Nat)} {s k t n:Nat} {v:Value} (h:VarX X k t n v γ w) (hs:k∈alF l s) (hn:LM l s γ) :
  ∃ g cs,v=.pointer (some ⟨g,0,none⟩)∧cs.size=n∧Blk w g t cs∧γ k=some (some g)∧∀ w' cs',Only g w w'→Blk w' g t cs'→cs'.size=n→LX X γ w (γ.put k none) w'∧VarXI X t v cs' (γ.put k none) w':=by
 obtain ⟨g,cs,h1,h2,h3,h4,h5,h6⟩:=h;have hk:γ k=some (some g):=by
  rcases h4 with h4 | h4
  ·exact h4
  ·exact absurd h4 (hn.1 k hs)
 refine ⟨g,cs,h1,h2,h3,hk,fun w' cs' ho hb he=>⟨LX.store hk h5 ho h3 hb (he.trans h2.symm),g,h1,hb,?_,h6⟩⟩;rintro ⟨j,hj⟩;unfold Gh.put at hj;split at hj
 ·cases hj
 ·rename_i hne;exact hne (h5 j hj)
end
theorem lin_appC {P:Program} {o:Oper} {ρ:Operand→Value} {K:Value→World→Prop} {w:World} {base e sz n c:Nat} {A:Option Addr} {xs:List Value} (s x:Operand) {t by_:Nat}
  (ho:o.op=.call { callee:=.builtin .append,args:=#[s,x],argTypes:=#[t,t] }) (ti:TI P t e sz by_) (hs:ρ s=.slice A n c) (hown:Own w base e sz A n c xs)
  {S:Nat→Prop} {B:Option Addr} {m c2:Nat} {news:List Value} (hx:ρ x=.slice B m c2) (hr:Rd w S B news) (hl:news.length=m*sz) (h1:∀ u∈news,u.oneCell'=true)
  (h63:(n+m)*by_≤140737488355328) (hby:0<by_) (hbase:base≤w.heap.size)
  (h:∀ A' c' w',Own w' base e sz A' (n+m) c' (xs++news)→w.grownBy w' (ob A)→(ob A'=ob A∨ob A'=some w.heap.size)→K (.slice A' (n+m) c') w') :
  linUpon P K ((execOp ρ o).run P w):=by
 obtain ⟨A',c',w',hrun,h2,h3,h4⟩:=run_app w o.type ti hown (c2:=c2) hr hl h1 h63 hby hbase;unfold execOp;simp only [ho,resolve,invoke,builtin,Sem.run_bind,Sem.run_pure,Result.andThen_ok,List.map_toArray,List.map_cons,List.map_nil,hs,hx,hrun];exact h A' c' w' h2 h3 h4
theorem made_replicateC (z:Value) (n:Nat) (hz:z.cells=#[z]):madeCells z.cells n=Array.replicate n z:=by
 rw [hz];apply Array.ext
 ·simp [madeCells]
 ·intro i h5 h6;simp [madeCells,Nat.mod_one]
theorem run_mkIC (n:Nat) (hn:n≤4294967296):∀ w:World,(Instr.makeSlice 26 (.int .i64 (n:Int)) (.int .i64 (n:Int))).run Tryz.prog w=.ok (.slice (some ⟨w.heap.size,0,none⟩) n n) (w.alloc (.cells (Array.replicate n (.int .i64 0)) 3)):=by
 intro w;obtain ⟨i0,h1,h2,h3,h4⟩:=info_parts infoI;have hr:=run_make (P:=Tryz.prog) w 26 3 i0 (.int .i64 0) Tryz.underlying26 h1 h2 .i64 .i64 n n (by omega) (by omega) (by rw [h4]; omega) (by omega);rw [h3,Nat.mul_one,Int.toNat_natCast,made_replicateC _ _ rfl] at hr;exact hr
/- The reference's bytes of digits: number. Conditions: the digits read as data. -/

theorem Kept.cell {S:Nat→Prop} {w w':World} (h:Kept S w w') {p:Addr} {u:Value} (hs:S p.block) (hc:w.cell? p=some u):w'.cell? p=some u:=by
 have hp:p.block<w.heap.size:=by
  unfold World.cell? at hc
  rcases Nat.lt_or_ge p.block w.heap.size with h1 | h1
  ·exact h1
  ·rw [Array.getElem?_eq_none h1] at hc; cases hc
 exact (World.cell?_of_block (w:=w) (h.2 p.block hs hp)).trans hc
/- The reference's Cmp, Sub and Add of numbers of any size. Conditions: bounds on sizes. -/

/- The reference's Sub and Add of numbers of any size. Conditions: bounds on sizes. -/

structure AddI (u v m:List Nat) (k cy:Nat):Prop where
 len:m.length=k
 eq:dval (u.take k)+dval (v.take k)=dval m+cy*16777216 ^ k
 ds:dgs m
 bit:cy≤1
 fin:max u.length v.length<k→cy=0
theorem AddI.step {u v m:List Nat} {k cy:Nat} (h:AddI u v m k cy) (hu:dgs u) (hv:dgs v) {s:Nat} (hs:s=cy+u.getD k 0+v.getD k 0):AddI u v (m++[s % 16777216]) (k+1) (s / 16777216):=by
 have h1:=dgs_getD hu k;have h2:=dgs_getD hv k;have h3:=h.bit;refine ⟨by simp [h.len],?_,dgs_snoc h.ds (Nat.mod_lt _ (by decide)),by omega,fun hk => ?_⟩
 ·rw [dval_take,dval_take,dval_snoc,h.len,Nat.pow_succ];have h4:=h.eq;have e:s=16777216*(s / 16777216)+s % 16777216:=(Nat.div_add_mod _ _).symm;have e2:16777216 ^ k*s=cy*16777216 ^ k+16777216 ^ k*u.getD k 0+16777216 ^ k*v.getD k 0:=(by rw [hs,Nat.mul_add,Nat.mul_add,Nat.mul_comm _ cy]);have e3:16777216 ^ k*s=s / 16777216*(16777216 ^ k*16777216)+16777216 ^ k*(s % 16777216):=by
   rw [Nat.mul_comm (s / 16777216),Nat.mul_assoc,← Nat.mul_add,← e]
  omega
 ·have e1:u.getD k 0=0:=(by rw [List.getD_eq_getElem?_getD,List.getElem?_eq_none (by omega)]; rfl);have e2:v.getD k 0=0:=(by rw [List.getD_eq_getElem?_getD,List.getElem?_eq_none (by omega)]; rfl);rw [e1,e2] at hs;omega
/- The reference's Mul of numbers of any size. Conditions: bounds on sizes. -/

theorem dval_set:∀ (m:List Nat) (t x:Nat),t<m.length→dval (m.set t x)+m.getD t 0*16777216 ^ t=dval m+x*16777216 ^ t
 | [],_,_,h=>by simp at h
 | d :: m,0,x,_=>by simp [dval]; omega
 | d :: m,t+1,x,h=>by
  have ih:=dval_set m t x (by simpa using h);simp only [List.set_cons_succ,dval,List.getD_cons_succ,Nat.pow_succ];have e1:m.getD t 0*(16777216 ^ t*16777216)=16777216*(m.getD t 0*16777216 ^ t):=(by rw [← Nat.mul_assoc,Nat.mul_comm]);have e2:x*(16777216 ^ t*16777216)=16777216*(x*16777216 ^ t):=(by rw [← Nat.mul_assoc,Nat.mul_comm]);rw [e1,e2];omega
theorem dgs_set {m:List Nat} (h:dgs m) (t:Nat) {x:Nat} (hx:x<16777216):dgs (m.set t x):=fun y hy=>by
 rcases List.mem_or_eq_of_mem_set hy with hy | hy
 ·exact h y hy
 ·rw [hy]; exact hx
theorem getD_setN (m:List Nat) (t x k:Nat) (h:t≠k):(m.set t x).getD k 0=m.getD k 0:=by
 rw [List.getD_eq_getElem?_getD,List.getElem?_set_ne h,← List.getD_eq_getElem?_getD]
structure MulO (u v m:List Nat) (i:Nat):Prop where
 len:m.length=u.length+v.length
 ds:dgs m
 eq:dval m=dval (u.take i)*dval v
 zero:∀ t,i+v.length≤t→m.getD t 0=0
structure MulN (u v m:List Nat) (i j cy:Nat):Prop where
 len:m.length=u.length+v.length
 ds:dgs m
 lt:cy<16777216
 eq:dval m+cy*16777216 ^ (i+j)=dval (u.take i)*dval v+u.getD i 0*dval (v.take j)*16777216 ^ i
 zero:∀ t,i+v.length≤t→m.getD t 0=0
theorem MulN.step {u v m:List Nat} {i j cy:Nat} (h:MulN u v m i j cy) (hu:dgs u) (hv:dgs v) (hi:i<u.length) (hj:j<v.length) {s:Nat} (hs:s=m.getD (i+j) 0+u.getD i 0*v.getD j 0+cy) :
  s<281474976710656∧MulN u v (m.set (i+j) (s % 16777216)) i (j+1) (s / 16777216):=by
 have h1:=dgs_getD hu i;have h2:=dgs_getD hv j;have h3:=dgs_getD h.ds (i+j);have h4:=h.lt;have h5:u.getD i 0*v.getD j 0≤16777215*16777215:=Nat.mul_le_mul (by omega) (by omega);have hb:s<281474976710656:=(by omega);refine ⟨hb,by simp [h.len],dgs_set h.ds _ (Nat.mod_lt _ (by decide)),by omega,?_,fun t ht=>by rw [getD_setN _ _ _ _ (by omega)]; exact h.zero t ht⟩;have hset:=dval_set m (i+j) (s % 16777216) (by rw [h.len]; omega);have heq:=h.eq;rw [dval_take,Nat.mul_add,Nat.add_mul,show i+(j+1)=(i+j)+1 by omega,Nat.pow_succ];have e:s=16777216*(s / 16777216)+s % 16777216:=(Nat.div_add_mod _ _).symm;have e1:s*16777216 ^ (i+j)=s / 16777216*(16777216 ^ (i+j)*16777216)+s % 16777216*16777216 ^ (i+j):=by
  rw [Nat.mul_comm (16777216 ^ (i+j)) 16777216,← Nat.mul_assoc,← Nat.add_mul,Nat.mul_comm (s / 16777216),← e]
 have e2:s*16777216 ^ (i+j)=m.getD (i+j) 0*16777216 ^ (i+j)+u.getD i 0*(16777216 ^ j*v.getD j 0)*16777216 ^ i+cy*16777216 ^ (i+j):=by
  rw [hs,Nat.add_mul,Nat.add_mul,Nat.pow_add];congr 2;rw [Nat.mul_comm (16777216 ^ j) (v.getD j 0),Nat.mul_comm (16777216 ^ i) (16777216 ^ j),Nat.mul_assoc,Nat.mul_assoc,Nat.mul_assoc]
 omega
theorem MulN.o {u v m:List Nat} {i cy:Nat} (h:MulN u v m i v.length cy) (hi:i<u.length):MulO u v (m.set (i+v.length) cy) (i+1):=by
 have hset:=dval_set m (i+v.length) cy (by rw [h.len]; omega);rw [h.zero (i+v.length) (Nat.le_refl _),Nat.zero_mul,Nat.add_zero] at hset;have heq:=h.eq;rw [List.take_length] at heq;refine ⟨by simp [h.len],dgs_set h.ds _ h.lt,?_,fun t ht=>by rw [getD_setN _ _ _ _ (by omega)]; exact h.zero t (by omega)⟩;rw [hset,heq,dval_take,Nat.add_mul];congr 1;rw [Nat.mul_right_comm,Nat.mul_comm (u.getD i 0)]
def dcells (m:List Nat):Array Value:=((nums m).map (Value.int .i64)).toArray
theorem dcells_size (m:List Nat):(dcells m).size=m.length:=by simp [dcells,nums]
theorem dcells_at {m:List Nat} {k:Nat} (h:k<m.length):(dcells m)[k]?=some (.int .i64 ((m.getD k 0:Nat):Int)):=by simp [dcells,nums,h]
theorem dcells_set (m:List Nat) (k x:Nat):(dcells m).setIfInBounds k (.int .i64 (x:Int))=dcells (m.set k x):=by simp [dcells,nums,List.map_set]
theorem Blk.ints {w:World} {g:Nat} {m:List Nat} (h:Blk w g 3 (dcells m)) (hl:m.length≤4294967296):Ints w (fun b=>b=g) (some ⟨g,0,none⟩) (nums m) :=
 ⟨by have:=h.rd; simpa [dcells] using this,by rw [nums_len]; exact hl⟩
/- The reference's Quo of numbers of any size. Conditions: bounds on sizes. -/

theorem Own.lit1 {w:World} {base g e sz n:Nat} {xs:List Value} (h:Blk w g e xs.toArray) (hg:base≤g) (hn:xs.length=n*sz:=by rfl) (hm:n≤maxLen:=by decide):Own w base e sz (some ⟨g,0,none⟩) n n xs :=
 ⟨hn,.inr ⟨g,n,xs.toArray,rfl,hg,h,Nat.le_refl _,hm,by simpa using hn,by rw [List.take_of_length_le (by simp [hn])]⟩⟩
structure QuoI (u qs rest:List Nat) (V k:Nat):Prop where
 len:qs.length=u.length
 ds:dgs qs
 eq:dval (u.drop k)=dval (qs.drop k)*V+dval rest
 lt:dval rest<V
 zero:∀ t,t<k→qs.getD t 0=0
 dr:dgs rest
 tr:trd rest
theorem QuoI.step {u qs rest r1 r2:List Nat} {V j q:Nat} (h:QuoI u qs rest V (j+1)) (hj:j<u.length) (h1:dval r1=u.getD j 0+16777216*dval rest) (hq:q=dval r1 / V) (h2:dval r2=dval r1-q*V) (hd:dgs r2) (ht:trd r2) (hu:dgs u):QuoI u (qs.set j q) r2 V j:=by
 have hV:0<V:=Nat.lt_of_le_of_lt (Nat.zero_le _) h.lt;have h3:=dgs_getD hu j;have hqd:=Nat.div_add_mod (dval r1) V;rw [← hq] at hqd;have hm:=Nat.mod_lt (dval r1) hV;have hle:q*V≤dval r1:=(by rw [Nat.mul_comm]; omega);have hqb:q<16777216:=by
  rw [hq];refine Nat.div_lt_of_lt_mul ?_;have:=h.lt;rw [h1];have h5:16777216*(dval rest+1)≤16777216*V:=Nat.mul_le_mul_left _ this;rw [Nat.mul_comm V];omega
 refine ⟨by simp [h.len],dgs_set h.ds _ hqb,?_,by rw [h2]; rw [Nat.mul_comm] at hle ⊢; omega,fun t ht=>by rw [getD_setN _ _ _ _ (by omega)]; exact h.zero t (by omega),hd,ht⟩;have hl:j<(qs.set j q).length:=(by simp [h.len,hj]);rw [drop_getD hj,drop_getD hl];have e1:(qs.set j q).getD j 0=q:=by
  rw [List.getD_eq_getElem?_getD,List.getElem?_set_self (by rw [h.len]; exact hj)]; rfl
 have e2:(qs.set j q).drop (j+1)=qs.drop (j+1):=(by rw [List.drop_set_of_lt (by omega)]);rw [e1,e2];simp only [dval];rw [h.eq,Nat.add_mul,h2,h1,Nat.mul_add,Nat.mul_assoc];rw [h1] at hle;omega
theorem QuoI.fin {u qs rest:List Nat} {V:Nat} (h:QuoI u qs rest V 0):dval qs=dval u / V∧dval rest=dval u % V:=by
 have h1:=h.eq;have h2:=h.lt;simp only [List.drop_zero] at h1;have hV:0<V:=(by omega);constructor
 ·rw [h1,Nat.mul_comm,Nat.mul_add_div hV,Nat.div_eq_of_lt h2,Nat.add_zero]
 ·rw [h1,Nat.mul_comm,Nat.mul_add_mod,Nat.mod_eq_of_lt h2]
/- Plans of questions: lists of numbers in memory; how many inputs there are; the numbers of all programs; equal lists of ints. Conditions: the arguments read as data. -/

def inpS (l:List (List Val)):Nat:=(l.head?.map List.length).getD 0
def OwnN (w:World) (base:Nat) (A:Option Addr) (c:Nat) (l:List Nat):Prop:=Own w base 3 1 A l.length c ((nums l).map (Value.int .i64))
def RetN (w:World) (l:List Nat) (e:Ending) (w':World):Prop:=∃ (A:Option Addr) (c:Nat),e=.returned (.slice A l.length c)∧OwnN w' w.heap.size A c l∧Ext w w'
theorem question_inputs (d:Nat) (l:List (List Val)) (A:Option Addr) (c:Nat) (w:World) (S:Nat→Prop) (h:Rows w S d A l):Calls Tryz.prog 50 #[.slice A l.length c] w (SameI w (inpS l:Int)):=by
 have H:=Hd h;have hl:=h.len;clear h;cases l with
 | nil =>
  go_enter Tryz.func50,Tryz.ntmps50
  go_wp2;go_ret;exact ⟨rfl,rfl⟩
 | cons r l =>
  obtain ⟨b,o,C,e,hB,hb,hc,hcp,hr⟩:=H.o.at_ (k:=0) (by simp);have hrl:=hr.len;subst hB;have hc0:w.cell? ⟨b,o,none⟩=some (.slice C r.length e):=(by simpa using hc);have hne:(((r :: l).length:Int)==0)=false:=(by simp; omega);have hlt:(0:Int)<((r :: l).length:Int):=(by simp);have HN:=Hd (show inpS (r :: l)=r.length by rfl);have hrl2:r.length≤4294967296:=(by simpa using hrl);clear hc hr hrl hcp;obtain ⟨n,hn⟩:∃ n,n=(r :: l).length:=⟨_,rfl⟩;rw [← hn] at hl hne hlt ⊢;clear hn
  go_enter Tryz.func50,Tryz.ntmps50
  go_wp2;go_ret;exact ⟨by rw [HN.o]; rfl,rfl⟩
set_option maxHeartbeats 1000000 in
theorem r13_Ints (a b:List Int) (A B:Option Addr) (c e:Nat) (w:World) (S T:Nat→Prop) (ha:Ints w S A a) (hb:Ints w T B b):Calls Tryz.prog 22 #[.slice A a.length c,.slice B b.length e] w (RetB w (decide (a=b))):=by
 have HA:=Hd ha;have HB:=Hd hb;have hal:=ha.2;have hbl:=hb.2;clear ha hb;by_cases hl:a.length=b.length
 ·have HL:=Hd hl;have hlb:((a.length:Int) != (b.length:Int))=false:=(by rw [hl]; simp);clear hl
  go_enter Tryz.func22,Tryz.ntmps22
  go_wp2
  go_loopw [5] (fun i wr=>∃ k:Nat,k≤a.length∧a.take k=b.take k∧i=.int .i64 (k:Int)∧Ext w wr) (fun i _=>a.length-(intOf i).toNat)
  case atStart=>exact ⟨0,Nat.zero_le _,by simp,rfl,Ext.refl _⟩
  case round =>
   obtain ⟨k,hk,hpre,rfl,hx⟩:=hrel;have HX:=Hd hx;have HP:=Hd hpre;clear hx hpre;by_cases hlt:k<a.length
   ·have hlt2:k<b.length:=(by rw [← HL.o]; exact hlt);obtain ⟨b1,o1,hA,hb1,hc1⟩:=(HA.o.keep (HX.o.kept _)).at_ hlt;obtain ⟨b2,o2,hB,hb2,hc2⟩:=(HB.o.keep (HX.o.kept _)).at_ hlt2;subst hA hB;obtain ⟨x,hxe⟩:∃ x,x=a[k]:=⟨_,rfl⟩;obtain ⟨y,hye⟩:∃ y,y=b[k]:=⟨_,rfl⟩;rw [← hxe] at hc1;rw [← hye] at hc2;have HXE:=Hd hxe;have HYE:=Hd hye;have i0:(0:Int)≤(k:Int):=(by omega);have i1:(k:Int)<(a.length:Int):=(by omega);have i2:(k:Int)<(b.length:Int):=(by omega);clear hxe hye;by_cases hxy:x=y
    ·have hb0:(x != y)=false:=(by rw [hxy]; simp);have HXY:=Hd hxy;clear hxy
     go_wp2_with fail
     go_quiet (fail)
     go_wp2;go_roundw
     case rel=>exact ⟨k+1,by omega,by rw [List.take_succ_eq_append_getElem hlt,List.take_succ_eq_append_getElem hlt2,HP.o,← HXE.o,← HYE.o,HXY.o],by go_num,HX.o.trans ((Ext.refl _).drewN _)⟩
     case measure=>simp [intOf]; omega
    ·have hb0:(x != y)=true:=(by rw [bne_iff_ne]; exact hxy);have HF:=Hd (show decide (a=b)=false by
      rw [decide_eq_false_iff_not];intro e;apply hxy;rw [HXE.o,HYE.o];subst e;rfl)
     clear hxy
     go_wp2_with fail
     go_quiet (fail)
     go_wp2;go_ret;exact ⟨by rw [HF.o]; rfl,HX.o.trans ((Ext.refl _).drewN _)⟩
   ·have HF:=Hd (show decide (a=b)=true by
     have h:=HP.o;have hL:=HL.o;rw [List.take_of_length_le (by omega),List.take_of_length_le (by omega)] at h;rw [h]; simp)
    go_wp2;go_ret;exact ⟨by rw [HF.o]; rfl,HX.o⟩
 ·have hlb:((a.length:Int) != (b.length:Int))=true:=(by rw [bne_iff_ne]; omega);have HF:=Hd (show decide (a=b)=false by rw [decide_eq_false_iff_not]; intro e; exact hl (by rw [e]));clear hl
  go_enter Tryz.func22,Tryz.ntmps22
  go_wp2;go_ret;exact ⟨by rw [HF.o]; rfl,Ext.refl _⟩
end Go.Proofs.YtomdpipekmcojaaGreatDoor
