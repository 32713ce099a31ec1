/- Variables that a drawn region makes and stores, under the chain rules. No conditions. -/
import Derived.Test.YtomdpipekmcojaaGreatDoorBw4
import Derived.Deep.Light
import Derived.WalkLawsBesides
namespace Go.Proofs.YtomdpipekmcojaaGreatDoor
open Go Go.RowKit
section
variable {X:Nat→Nat→Prop} {γ γ':Gh} {w w':World}
def VarX (X:Nat→Nat→Prop) (k t n:Nat) (v:Value) (γ:Gh) (w:World):Prop:=∃ g cs,v=.pointer (some ⟨g,0,none⟩)∧cs.size=n∧Blk w g t cs∧(γ k=some (some g)∨γ k=some none)∧(∀ j,γ j=some (some g)→j=k)∧∀ m,¬ X m g
theorem VarX.stab {k t n:Nat} : ∀ v γ w γ' w',LX X γ w γ' w'→VarX X k t n v γ w→VarX X k t n v γ' w':=by
 rintro v γ w γ' w' r ⟨g,cs,h1,h2,h3,h4,h5,h6⟩;obtain ⟨cs',e,h7⟩:=r.shape g t cs h3 h6;refine ⟨g,cs',h1,e.trans h2,h7,?_,fun j hj=>h5 j (r.old j g hj h3.lt),h6⟩
 rcases h4 with h4 | h4
 ·exact r.on k g h4
 ·exact .inr (r.done k h4)
theorem VarX.new {k t n:Nat} (hf:∀ j b,γ j=some (some b)→b<w.heap.size) {cs:Array Value} (hn:cs.size=n) (hX:∀ m b,X m b→b<w.heap.size):VarX X k t n (.pointer (some ⟨w.heap.size,0,none⟩)) (γ.put k (some w.heap.size)) (w.alloc (.cells cs t)):=by
 refine ⟨_,cs,rfl,hn,Blk.new w t cs,.inl (by simp [Gh.put]),fun j hj => ?_,fun m hm=>by have:=hX m _ hm; omega⟩;unfold Gh.put at hj;split at hj
 ·assumption
 ·have:=hf j _ hj;omega
def VarXI (X:Nat→Nat→Prop) (t:Nat) (v:Value) (cs:Array Value) (γ:Gh) (w:World):Prop:=∃ g,v=.pointer (some ⟨g,0,none⟩)∧Blk w g t cs∧Free γ g∧∀ m,¬ X m g
theorem VarXI.lx {t:Nat} {v:Value} {cs:Array Value} (r:LX X γ w γ' w') (h:VarXI X t v cs γ w):VarXI X t v cs γ' w':=by
 obtain ⟨g,h1,h2,h3,h4⟩:=h;exact ⟨g,h1,h2.keep (r.keptS fun b _ e=>⟨by rw [e]; exact h3,fun m hm=>absurd (e ▸ hm) (h4 m)⟩),r.free h2.lt h3,h4⟩
theorem VarX.stored {l:List (Nat × List Nat)} {s k t n:Nat} {v:Value} (h:VarX X k t n v γ w) (hs:k∈alF l s) (hn:LM l s γ) :
  ∃ g cs,v=.pointer (some ⟨g,0,none⟩)∧cs.size=n∧Blk w g t cs∧γ k=some (some g)∧∀ w' cs',Only g w w'→Blk w' g t cs'→cs'.size=n→LX X γ w (γ.put k none) w'∧VarXI X t v cs' (γ.put k none) w':=by
 obtain ⟨g,cs,h1,h2,h3,h4,h5,h6⟩:=h;have hk:γ k=some (some g):=by
  rcases h4 with h4 | h4
  ·exact h4
  ·exact absurd h4 (hn.1 k hs)
 refine ⟨g,cs,h1,h2,h3,hk,fun w' cs' ho hb he=>⟨LX.store hk h5 ho h3 hb (he.trans h2.symm),g,h1,hb,?_,h6⟩⟩;rintro ⟨j,hj⟩;unfold Gh.put at hj;split at hj
 ·cases hj
 ·rename_i hne;exact hne (h5 j hj)
end
theorem lin_appC {P:Program} {o:Oper} {ρ:Operand→Value} {K:Value→World→Prop} {w:World} {base e sz n c:Nat} {A:Option Addr} {xs:List Value} (s x:Operand) {t by_:Nat}
  (ho:o.op=.call { callee:=.builtin .append,args:=#[s,x],argTypes:=#[t,t] }) (ti:TI P t e sz by_) (hs:ρ s=.slice A n c) (hown:Own w base e sz A n c xs)
  {S:Nat→Prop} {B:Option Addr} {m c2:Nat} {news:List Value} (hx:ρ x=.slice B m c2) (hr:Rd w S B news) (hl:news.length=m*sz) (h1:∀ u∈news,u.oneCell'=true)
  (h63:(n+m)*by_≤140737488355328) (hby:0<by_) (hbase:base≤w.heap.size)
  (h:∀ A' c' w',Own w' base e sz A' (n+m) c' (xs++news)→w.grownBy w' (ob A)→(ob A'=ob A∨ob A'=some w.heap.size)→K (.slice A' (n+m) c') w') :
  linUpon P K ((execOp ρ o).run P w):=by
 obtain ⟨A',c',w',hrun,h2,h3,h4⟩:=run_app w o.type ti hown (c2:=c2) hr hl h1 h63 hby hbase;unfold execOp;simp only [ho,resolve,invoke,builtin,Sem.run_bind,Sem.run_pure,Result.andThen_ok,List.map_toArray,List.map_cons,List.map_nil,hs,hx,hrun];exact h A' c' w' h2 h3 h4
theorem made_replicateC (z:Value) (n:Nat) (hz:z.cells=#[z]):madeCells z.cells n=Array.replicate n z:=by
 rw [hz];apply Array.ext
 ·simp [madeCells]
 ·intro i h5 h6;simp [madeCells,Nat.mod_one]
theorem run_mkIC (n:Nat) (hn:n≤4294967296):∀ w:World,(Instr.makeSlice 26 (.int .i64 (n:Int)) (.int .i64 (n:Int))).run Tryz.prog w=.ok (.slice (some ⟨w.heap.size,0,none⟩) n n) (w.alloc (.cells (Array.replicate n (.int .i64 0)) 3)):=by
 intro w;obtain ⟨i0,h1,h2,h3,h4⟩:=info_parts infoI;have hr:=run_make (P:=Tryz.prog) w 26 3 i0 (.int .i64 0) Tryz.underlying26 h1 h2 .i64 .i64 n n (by omega) (by omega) (by rw [h4]; omega) (by omega);rw [h3,Nat.mul_one,Int.toNat_natCast,made_replicateC _ _ rfl] at hr;exact hr
/- The reference's bytes of digits: number. Conditions: the digits read as data. -/

theorem Kept.cell {S:Nat→Prop} {w w':World} (h:Kept S w w') {p:Addr} {u:Value} (hs:S p.block) (hc:w.cell? p=some u):w'.cell? p=some u:=by
 have hp:p.block<w.heap.size:=by
  unfold World.cell? at hc
  rcases Nat.lt_or_ge p.block w.heap.size with h1 | h1
  ·exact h1
  ·rw [Array.getElem?_eq_none h1] at hc; cases hc
 exact (World.cell?_of_block (w:=w) (h.2 p.block hs hp)).trans hc
def by3 (d:Nat):List Value:=[.int .u8 (IntKind.u8.wrap ((d:Int) / 65536)),.int .u8 (IntKind.u8.wrap ((d:Int) / 256)),.int .u8 (IntKind.u8.wrap (d:Int))]
theorem wrap_u8 (n:Int):IntKind.u8.wrap n=n % 256:=by simp [IntKind.wrap,IntKind.signed,IntKind.bits]
def numB:List Nat→List Int
 | []=>[]
 | d :: l=>numB l++[IntKind.u8.wrap ((d:Int) / 65536),IntKind.u8.wrap ((d:Int) / 256),IntKind.u8.wrap (d:Int)]
theorem numB_len:∀ l:List Nat,(numB l).length=3*l.length
 | []=>rfl
 | d :: l=>by simp [numB,numB_len l]; omega
theorem nval_numB:∀ l:List Nat,dgs l→nval (strOfNums (numB l))=dval l
 | [],_=>by simp [nval,strOfNums,numB,nvl,dval]
 | d :: l,h=>by
  have ih:=nval_numB l fun x hx=>h x (List.mem_cons_of_mem _ hx);have hd:=h d List.mem_cons_self;unfold nval at ih ⊢;rw [strOfNums_data] at ih ⊢;simp only [numB,List.map_append,List.map_cons,List.map_nil];rw [nvl_app,ih];have h1:∀ n:Nat,n<256→(UInt8.ofNat (n:Int).toNat).toNat=n:=fun n hn=>by rw [Int.toNat_natCast,UInt8.toNat_ofNat']; omega
  have e1:((d:Int) / 65536 % 256)=((d / 65536 % 256:Nat):Int):=(by simp);have e2:((d:Int) / 256 % 256)=((d / 256 % 256:Nat):Int):=(by simp);have e3:((d:Int) % 256)=((d % 256:Nat):Int):=(by simp);rw [wrap_u8,wrap_u8,wrap_u8,e1,e2,e3];simp only [nvl,List.foldl_cons,List.foldl_nil,List.length_cons,List.length_nil,dval];rw [h1 _ (by omega),h1 _ (by omega),h1 _ (by omega)];omega
set_option maxRecDepth 100000 in
set_option maxHeartbeats 4000000 in
theorem r01_number (l:List Nat) (A:Option Addr) (c:Nat) (w:World) (S:Nat→Prop) (hl:Ints w S A (nums l)) (hd:dgs l) (hlen:l.length≤1000000) :
  Calls Tryz.prog 292 #[.slice A l.length c] w (RetT w (dval l)):=by
 have HL:=Hd (hl.mono (T:=fun b=>b<w.heap.size) fun b hb _=>hb);have HD:=Hd hd;clear hl hd
 go_enter Tryz.func292,Tryz.ntmps292
 go_wp2
 go_loopw [3,4] (fun o i wr=>∃ (j:Nat) (A':Option Addr) (c' n:Nat),j≤l.length∧n=3*(l.length-j)∧o=.slice A' n c'∧i=.int .i64 ((j:Int)-1)∧Ext w wr∧Own wr w.heap.size 5 1 A' n c' ((numB (l.drop j)).map (Value.int .u8))) (fun _ i _=>(intOf i+1).toNat)
 case atStart=>exact ⟨l.length,none,0,0,Nat.le_refl _,by omega,rfl,rfl,Ext.refl _,by rw [List.drop_length]; exact Own.nil _ _ _ _⟩
 case round =>
  obtain ⟨j,A',c',n,hj,hn,rfl,rfl,hx,ho⟩:=hrel;have HX:=Hd hx;have HO:=Hd ho;have hsz:=hx.size;have HN:=Hd hn;have hn3:n≤3000000:=(by omega);clear hx ho hn;cases j with
  | zero =>
   obtain ⟨L,hL⟩:∃ L,L=numB l:=⟨_,rfl⟩;have hLn:L.length=n:=(by rw [hL,numB_len,HN.o]; omega);have ho:=HO.o;rw [List.drop_zero,← hL] at ho;have HV:=Hd (show nval (strOfNums L)=dval l by rw [hL]; exact nval_numB l HD.o)
   rcases ho.2 with ⟨hv,h0⟩ | ⟨g,cap,cur,hv,hb,hh,hnc,hcm,hcs,ht⟩
   ·obtain ⟨rfl,rfl⟩:A'=none∧c'=0:=by injection hv with h1 _ h2; exact ⟨h1,h2⟩
    subst h0;have hL0:L=[]:=List.eq_nil_of_length_eq_zero hLn;have hcv:=run_convert_bytes_nil (P:=Tryz.prog) wr 211 5 Tryz.underlying211 Tryz.underlying5 0 0 248 Tryz.underlying248;have HV2:=Hd (show nval ByteArray.empty=dval l by rw [← HV.o,hL0]; rfl);clear ho hv hL hLn hL0
    go_wp2_with fail
    refine (r01_Canon ByteArray.empty (by simp) _).mono ?_;rintro e1 w1 ⟨r,⟨rfl,rfl⟩,hv,hc,hsz⟩;have HR:=Hd (hv.trans HV2.o);have HC:=Hd hc;have HS:=Hd (show r.size≤4294967296 by have:ByteArray.empty.size=0:=rfl; omega);clear hv hc hsz;go_wp2;go_ret;exact ⟨r,rfl,HR.o,HC.o,HS.o,HX.o⟩
   obtain ⟨rfl,rfl⟩:A'=some ⟨g,0,none⟩∧c'=cap:=by injection hv with h1 _ h2; exact ⟨h1,h2⟩
   have hcv:=run_convert_bytes_arg (P:=Tryz.prog) wr 211 5 Tryz.underlying211 Tryz.underlying5 g 0 n c' L hLn (fun i hi=>by
    obtain ⟨b,o,hA,-,hc⟩:=(Own.rd ho).at_ (k:=i) (u:=.int .u8 (L.getD i 0)) (by
     rw [List.getElem?_map,List.getElem?_eq_getElem (by rw [hLn]; exact hi)];simp [List.getD,List.getElem?_eq_getElem (show i<L.length by rw [hLn]; exact hi)])
    injection hA with hA;injection hA with h1 h2;subst h1 h2;exact hc) 248 Tryz.underlying248
   clear ho hv hb hh hnc hcm hcs ht hL
   go_wp2_with fail
   refine (r01_Canon (strOfNums L) (by rw [strOfNums_size,hLn]; omega) _).mono ?_;rintro e1 w1 ⟨r,⟨rfl,rfl⟩,hv,hc,hsz⟩;rw [strOfNums_size,hLn] at hsz;have HR:=Hd (hv.trans HV.o);have HC:=Hd hc;clear hv hc hLn;go_wp2;go_ret;exact ⟨r,rfl,HR.o,HC.o,by omega,HX.o⟩
  | succ j =>
   obtain ⟨b1,o1,hA,hb1,hc1⟩:=ints_cell (HL.o.keep (HX.o.kept _)) (k:=j) (by omega);subst hA;have hbw:b1<w.heap.size:=by
    obtain ⟨b,o,h1,h2,-⟩:=(ints_cell HL.o (k:=j) (by omega));injection h1 with h1; injection h1 with h1; omega
   obtain ⟨d,hdd⟩:∃ d,d=l.getD j 0:=⟨_,rfl⟩;have hd24:d<16777216:=(by rw [hdd]; exact dgs_getD HD.o j);rw [← hdd] at hc1;have HC1:=Hd hc1;have HDD:=Hd hdd;have hj1:((j+1:Nat):Int)-1=(j:Int):=(by omega);rw [hj1];have i0:(0:Int)≤(j:Int):=(by omega);have i1:(j:Int)<(l.length:Int):=(by omega);have HB:=Hd (show ∀ m b,(m=1019∧ob A'=some b)→w.heap.size≤b from fun m b h=>(HO.o.blk h.2).1);clear hj1 hc1 hdd
   go_upto_region 5 with fail
   refine wp_region_chain (by kernel_rfl) (fun i=>[i]) (by kernel_rfl) (LX (fun m b=>m=1019∧ob A'=some b)) (LX.refl _) (LX.trans _) (LM [(19,[1019])]) gh0 (LM.zero _) ?_;apply Chain.pure (LX.refl _) (by rfl)
   ·intro vals γ w' ρ hR hN hp hρ hc hf hg;refine ⟨rfl,?_⟩;have e3:=hρ 3;(conv at e3=>rhs; whnf);clear hR hN hp hρ;go_light;go_simp;exact ⟨rfl,rfl⟩
   ·rfl
   apply Chain.pure (LX.refl _) (by rfl)
   ·intro vals γ w' ρ hR hN hp hρ hc hf hg;refine ⟨rfl,?_⟩;have e0:=hρ 0;(conv at e0=>rhs; whnf);clear hR hN hp hρ;go_light;go_simp;exact ⟨rfl,rfl⟩
   ·rfl
   apply Chain.pure (LX.refl _) (by rfl)
   ·intro vals γ w' ρ hR hN hp hρ hc hf hg;refine ⟨rfl,?_⟩;have e4:=hρ 4;(conv at e4=>rhs; whnf);clear hR hN hp hρ;go_light;go_simp;exact ⟨rfl,rfl⟩
   ·rfl
   apply Chain.pure (LX.refl _) (by rfl)
   ·intro vals γ w' ρ hR hN hp hρ hc hf hg;refine ⟨rfl,?_⟩;have e13:ρ (.tmp 13)=_:=(hρ 13).trans (hp 1 (by decide));have e14:ρ (.tmp 14)=_:=(hρ 14).trans (hp 2 (by decide));clear hR hN hp hρ;go_light;go_simp;exact ⟨rfl,rfl⟩
   ·rfl
   apply Chain.pure (LX.refl _) (by rfl)
   ·intro vals γ w' ρ hR hN hp hρ hc hf hg;refine ⟨rfl,?_⟩;have e15:ρ (.tmp 15)=_:=(hρ 15).trans (hp 3 (by decide));have c1:=(hR.kept0 (S:=fun b=>b<w.heap.size) (fun b hb m hm=>by have:=HB.o m b hm; omega)).cell (p:=⟨b1,o1+j,none⟩) hbw HC1.o;clear hR hN hp hρ;go_light;go_simp;exact ⟨rfl,rfl⟩
   ·rfl
   apply Chain.pure (LX.refl _) (by rfl)
   ·intro vals γ w' ρ hR hN hp hρ hc hf hg;refine ⟨rfl,?_⟩;have e16:ρ (.tmp 16)=_:=(hρ 16).trans (hp 4 (by decide));clear hR hN hp hρ;go_light;go_simp;exact ⟨rfl,rfl⟩
   ·rfl
   apply Chain.pure (LX.refl _) (by rfl)
   ·intro vals γ w' ρ hR hN hp hρ hc hf hg;refine ⟨rfl,?_⟩;have e17:ρ (.tmp 17)=_:=(hρ 17).trans (hp 5 (by decide));clear hR hN hp hρ;go_light;go_simp;exact ⟨rfl,rfl⟩
   ·rfl
   apply Chain.pure (LX.refl _) (by rfl)
   ·intro vals γ w' ρ hR hN hp hρ hc hf hg;refine ⟨rfl,?_⟩;have e0:=hρ 0;(conv at e0=>rhs; whnf);clear hR hN hp hρ;go_light;go_simp;exact ⟨rfl,rfl⟩
   ·rfl
   apply Chain.pure (LX.refl _) (by rfl)
   ·intro vals γ w' ρ hR hN hp hρ hc hf hg;refine ⟨rfl,?_⟩;have e4:=hρ 4;(conv at e4=>rhs; whnf);clear hR hN hp hρ;go_light;go_simp;exact ⟨rfl,rfl⟩
   ·rfl
   apply Chain.pure (LX.refl _) (by rfl)
   ·intro vals γ w' ρ hR hN hp hρ hc hf hg;refine ⟨rfl,?_⟩;have e19:ρ (.tmp 19)=_:=(hρ 19).trans (hp 7 (by decide));have e20:ρ (.tmp 20)=_:=(hρ 20).trans (hp 8 (by decide));clear hR hN hp hρ;go_light;go_simp;exact ⟨rfl,rfl⟩
   ·rfl
   apply Chain.pure (LX.refl _) (by rfl)
   ·intro vals γ w' ρ hR hN hp hρ hc hf hg;refine ⟨rfl,?_⟩;have e21:ρ (.tmp 21)=_:=(hρ 21).trans (hp 9 (by decide));have c1:=(hR.kept0 (S:=fun b=>b<w.heap.size) (fun b hb m hm=>by have:=HB.o m b hm; omega)).cell (p:=⟨b1,o1+j,none⟩) hbw HC1.o;clear hR hN hp hρ;go_light;go_simp;exact ⟨rfl,rfl⟩
   ·rfl
   apply Chain.pure (LX.refl _) (by rfl)
   ·intro vals γ w' ρ hR hN hp hρ hc hf hg;refine ⟨rfl,?_⟩;have e22:ρ (.tmp 22)=_:=(hρ 22).trans (hp 10 (by decide));clear hR hN hp hρ;go_light;go_simp;exact ⟨rfl,rfl⟩
   ·rfl
   apply Chain.pure (LX.refl _) (by rfl)
   ·intro vals γ w' ρ hR hN hp hρ hc hf hg;refine ⟨rfl,?_⟩;have e23:ρ (.tmp 23)=_:=(hρ 23).trans (hp 11 (by decide));clear hR hN hp hρ;go_light;go_simp;exact ⟨rfl,rfl⟩
   ·rfl
   apply Chain.pure (LX.refl _) (by rfl)
   ·intro vals γ w' ρ hR hN hp hρ hc hf hg;refine ⟨rfl,?_⟩;have e0:=hρ 0;(conv at e0=>rhs; whnf);clear hR hN hp hρ;go_light;go_simp;exact ⟨rfl,rfl⟩
   ·rfl
   apply Chain.pure (LX.refl _) (by rfl)
   ·intro vals γ w' ρ hR hN hp hρ hc hf hg;refine ⟨rfl,?_⟩;have e4:=hρ 4;(conv at e4=>rhs; whnf);clear hR hN hp hρ;go_light;go_simp;exact ⟨rfl,rfl⟩
   ·rfl
   apply Chain.pure (LX.refl _) (by rfl)
   ·intro vals γ w' ρ hR hN hp hρ hc hf hg;refine ⟨rfl,?_⟩;have e25:ρ (.tmp 25)=_:=(hρ 25).trans (hp 13 (by decide));have e26:ρ (.tmp 26)=_:=(hρ 26).trans (hp 14 (by decide));clear hR hN hp hρ;go_light;go_simp;exact ⟨rfl,rfl⟩
   ·rfl
   apply Chain.pure (LX.refl _) (by rfl)
   ·intro vals γ w' ρ hR hN hp hρ hc hf hg;refine ⟨rfl,?_⟩;have e27:ρ (.tmp 27)=_:=(hρ 27).trans (hp 15 (by decide));have c1:=(hR.kept0 (S:=fun b=>b<w.heap.size) (fun b hb m hm=>by have:=HB.o m b hm; omega)).cell (p:=⟨b1,o1+j,none⟩) hbw HC1.o;clear hR hN hp hρ;go_light;go_simp;exact ⟨rfl,rfl⟩
   ·rfl
   apply Chain.pure (LX.refl _) (by rfl)
   ·intro vals γ w' ρ hR hN hp hρ hc hf hg;refine ⟨rfl,?_⟩;have e28:ρ (.tmp 28)=_:=(hρ 28).trans (hp 16 (by decide));clear hR hN hp hρ;go_light;go_simp;exact ⟨rfl,rfl⟩
   ·rfl
   refine Chain.step (FP fun v γ w'=>∃ g:Nat,v=.slice (some ⟨g,0,none⟩) 3 3∧Blk w' g 5 (by3 d).toArray∧Free γ g∧wr.heap.size≤g) (by rfl) (FP.stab ?_) ?_ ?_
   ·rintro v γ w1 γ' w2 r ⟨g,h1,h2,h3,h4⟩;exact ⟨g,h1,h2.keep (r.keptS fun b _ e=>⟨e ▸ h3,fun m hm=>by have:=HO.o.blk hm.2; omega⟩),r.free h2.lt h3,h4⟩
   ·intro vals γ w' ρ hR hN hp hρ hc hf hg;refine ⟨rfl,?_⟩;have e18:ρ (.tmp 18)=_:=(hρ 18).trans (hp 6 (by decide));have e24:ρ (.tmp 24)=_:=(hρ 24).trans (hp 12 (by decide));have e29:ρ (.tmp 29)=_:=(hρ 29).trans (hp 17 (by decide));have HR:=Hd hR;clear hR hN hp hρ;go_light;go_simp;exact ⟨γ,LX.of_ext _ γ ((Ext.refl _).alloc _),fun _ _ _ h=>h,_,rfl,Blk.new _ _ _,fun ⟨k',hk'⟩=>by have:=HR.o.inb0 k' _ hk'; omega,HR.o.size⟩
   refine Chain.step (FP fun v γ w'=>∃ (A4:Option Addr) (c4:Nat),v=.slice A4 (n+3) c4∧Own w' w.heap.size 5 1 A4 (n+3) c4 ((numB (l.drop (j+1))).map (Value.int .u8)++by3 d)∧γ 1019=some none∧∀ b,ob A4=some b→Free γ b) (by rfl) (FP.stab ?_) ?_ ?_
   ·rintro v γ w1 γ' w2 r ⟨A4,c4,h1,h2,h3,h4⟩;exact ⟨A4,c4,h1,h2.keep (r.keptS fun b _ e=>⟨h4 b e,fun m hm=>by rw [hm.1,h3,r.done _ h3]⟩),r.done _ h3,fun b hb=>r.free (h2.blk hb).2 (h4 b hb)⟩
   ·intro vals γ w' ρ hR hN hp hρ hc hf hg;refine ⟨rfl,?_⟩;have e12:ρ (.tmp 12)=_:=(hρ 12).trans (hp 0 (by decide));obtain ⟨g,hv,hb,hf,hg⟩:=hp 18 (by decide);have e30:=(hρ 30).trans hv;have hk0:=hR.key0 hN (k:=1019) (by decide) (by decide);have ho:=HO.o.keep ((Kept.drew _ wr).trans (hR.keptS (S:=fun b=>ob A'=some b) fun b _ hb=>⟨free0 b,fun m hm=>by rw [hm.1]; exact hk0⟩));refine lin_appC (.tmp 12) (.tmp 30) rfl tiU8 e12 ho e30 (Blk.rd hb) rfl (by simp [by3,Value.oneCell']) (by omega) (by decide) (by have:=hR.size; have e:wr.drew.heap.size=wr.heap.size:=rfl; omega) ?_;intro A4 c4 w4 hown4 hg4 hat4;refine ⟨γ.put 1019 none,LX.write hk0 hg4.os hg4.tape hg4.output hg4.size (fun b hb hm=>hg4.block b hb fun e=>hm ⟨rfl,e.symm⟩),LM.done (by decide) (.inr (by decide)),A4,c4,rfl,hown4,rfl,fun b hb => ?_⟩;rintro ⟨k',hk'⟩;have hk2:γ k'=some (some b):=(by unfold Gh.put at hk'; split at hk'; (cases hk'); exact hk');have hl:=hR.inb0 k' b hk2
    rcases hat4 with e | e
    ·have:=hR.old k' b hk2 (by have:=(HO.o.blk (e ▸ hb)).2; exact this); cases this
    ·rw [hb] at e; injection e with e; omega
   refine Chain.step (FP fun v γ w'=>∃ (A4:Option Addr) (c4:Nat),v=.slice A4 (n+3) c4∧Own w' w.heap.size 5 1 A4 (n+3) c4 ((numB (l.drop (j+1))).map (Value.int .u8)++by3 d)∧γ 1019=some none∧∀ b,ob A4=some b→Free γ b) (by rfl) (FP.stab ?_) ?_ ?_
   ·rintro v γ w1 γ' w2 r ⟨A4,c4,h1,h2,h3,h4⟩;exact ⟨A4,c4,h1,h2.keep (r.keptS fun b _ e=>⟨h4 b e,fun m hm=>by rw [hm.1,h3,r.done _ h3]⟩),r.done _ h3,fun b hb=>r.free (h2.blk hb).2 (h4 b hb)⟩
   ·intro vals γ w' ρ hR hN hp hρ hc hf hg;refine ⟨rfl,?_⟩;have hg:=hp 19 (by decide);have e31:=hρ 31;(conv at e31=>rhs; whnf);have HG:=Hd hg;clear hR hN hp hρ hg;go_light;go_simp;exact ⟨γ,LX.refl _ _ _,fun _ _ _ h=>h,HG.o⟩
   intro vals γ w9 hR hG;have v0:vals 0=_:=hG 0 (by decide);have v1:vals 1=_:=hG 1 (by decide);have v2:vals 2=_:=hG 2 (by decide);have v3:vals 3=_:=hG 3 (by decide);have v4:vals 4=_:=hG 4 (by decide);have v5:vals 5=_:=hG 5 (by decide);have v6:vals 6=_:=hG 6 (by decide);have v7:vals 7=_:=hG 7 (by decide);have v8:vals 8=_:=hG 8 (by decide);have v9:vals 9=_:=hG 9 (by decide);have v10:vals 10=_:=hG 10 (by decide);have v11:vals 11=_:=hG 11 (by decide);have v12:vals 12=_:=hG 12 (by decide);have v13:vals 13=_:=hG 13 (by decide);have v14:vals 14=_:=hG 14 (by decide);have v15:vals 15=_:=hG 15 (by decide);have v16:vals 16=_:=hG 16 (by decide);have v17:vals 17=_:=hG 17 (by decide);obtain ⟨g18,v18,-⟩:=hG 18 (by decide);obtain ⟨A19,c19,v19,-⟩:=hG 19 (by decide);obtain ⟨A4,c4,v20,hown4,-⟩:=hG 20 (by decide);simp only [lexFrame,Act.put,List.setIfInBounds_toArray,List.set_cons_succ,List.set_cons_zero,Nat.zero_add,Nat.reduceAdd,v0,v1,v2,v3,v4,v5,v6,v7,v8,v9,v10,v11,v12,v13,v14,v15,v16,v17,v18,v19,v20];clear v0 v1 v2 v3 v4 v5 v6 v7 v8 v9 v10 v11 v12 v13 v14 v15 v16 v17 v18 v19 v20;have HX9:=Hd (hR.extB HX.o HB.o);clear hR hG;go_wp2;go_roundw
   case rel =>
    refine ⟨j,A4,c4,n+3,by omega,by have:=HN.o; omega,rfl,by go_num,HX9.o,?_⟩;rw [drop_getD (u:=l) (k:=j) (by omega),← HDD.o]
    simpa [numB,by3] using hown4
   case measure=>simp [intOf]
/- The reference's Cmp, Sub and Add of numbers of any size. Conditions: bounds on sizes. -/

theorem less_nvl:∀ l m:List UInt8,l.length=m.length→(Op.bytesLess l m=decide (nvl l<nvl m))
 | [],[],_=>by simp [Op.bytesLess]
 | a :: l,b :: m,h=>by
  have hl:l.length=m.length:=(by simpa using h);have ih:=less_nvl l m hl;have h1:=nvl_lt l;have h2:=nvl_lt m;rw [hl] at h1;simp only [Op.bytesLess,ih,nvl_cons,hl];generalize 256 ^ m.length=q at *;rw [Bool.eq_iff_iff];simp only [Bool.or_eq_true,Bool.and_eq_true,decide_eq_true_eq,beq_iff_eq];constructor
  ·rintro (hab | ⟨rfl,hlm⟩)
   ·have hab:a.toNat+1≤b.toNat:=UInt8.lt_iff_toNat_lt.1 hab;have:=Nat.mul_le_mul_right q hab;rw [Nat.add_mul] at this;omega
   ·omega
  ·intro hlt
   rcases Nat.lt_trichotomy a.toNat b.toNat with hab | hab | hab
   ·exact .inl (UInt8.lt_iff_toNat_lt.2 hab)
   ·refine .inr ⟨UInt8.toNat_inj.1 hab,?_⟩;rw [hab] at hlt;omega
   ·exfalso;have:=Nat.mul_le_mul_right q (show b.toNat+1≤a.toNat from hab);rw [Nat.add_mul] at this;omega
def cmpN (x y:Nat):Int:=if x<y then -1 else if y<x then 1 else 0
theorem nval_eq_of {s t:ByteArray} (h:s.size=t.size):∀ (_:nval s=nval t),(s.toList==t.toList)=true:=by
 intro hv;have key:∀ l m:List UInt8,l.length=m.length→nvl l=nvl m→l=m:=by
  intro l
  induction l with
  | nil=>intro m hl _; cases m with | nil=>rfl | cons=>simp at hl
  | cons a l ih =>
   intro m hl hv;cases m with
   | nil=>simp at hl
   | cons b m =>
    have hl2:l.length=m.length:=(by simpa using hl);have h1:=nvl_lt l;have h2:=nvl_lt m;rw [nvl_cons,nvl_cons,hl2] at hv;rw [hl2] at h1;generalize 256 ^ m.length=q at *;have hab:a.toNat=b.toNat:=by
     rcases Nat.lt_trichotomy a.toNat b.toNat with hab | hab | hab
     ·have:=Nat.mul_le_mul_right q (show a.toNat+1≤b.toNat from hab);rw [Nat.add_mul] at this;omega
     ·exact hab
     ·have:=Nat.mul_le_mul_right q (show b.toNat+1≤a.toNat from hab);rw [Nat.add_mul] at this;omega
    rw [hab] at hv;rw [UInt8.toNat_inj.1 hab,ih m hl2 (by omega)]
 have e1:s.toList=s.data.toList:=(by rw [ByteArray.toList_eq]);have e2:t.toList=t.data.toList:=(by rw [ByteArray.toList_eq]);rw [e1,e2];have:=key s.data.toList t.data.toList (by simpa using h) hv;simp [this]

set_option maxRecDepth 100000 in
set_option maxHeartbeats 1000000 in
theorem r01_Cmp (a b:ByteArray) (ha:a.size≤4294967296) (hb:b.size≤4294967296) (w:World):Calls Tryz.prog 263 #[.string a,.string b] w (fun e w'=>e=.returned (.int .i64 (cmpN (nval a) (nval b)))∧w=w'):=by
 go_enter Tryz.func263,Tryz.ntmps263
 go_wp2_with fail
 refine (r01_Canon a ha _).mono ?_;rintro e1 w1 ⟨r,⟨rfl,rfl⟩,hv,hc,hsz⟩;have HV:=Hd hv;have HC:=Hd hc;have hr:r.size≤4294967296:=(by omega);clear hv hc hsz
 go_wp2_with fail
 refine (r01_Canon b hb _).mono ?_;rintro e2 w2 ⟨s,⟨rfl,rfl⟩,hv2,hc2,hsz2⟩;have HV2:=Hd hv2;have HC2:=Hd hc2;have hs:s.size≤4294967296:=(by omega);clear hv2 hc2 hsz2
 rcases Nat.lt_trichotomy r.size s.size with hlt | heq | hgt
 ·have HF:=Hd (show cmpN (nval a) (nval b)=-1 by
   rw [← HV.o,← HV2.o];unfold cmpN;rw [if_pos];have h1:=(can_size HC.o (k:=r.size)).1 (Nat.le_refl _);have h2:=(can_size HC2.o (k:=r.size));omega)
  have hne:((r.size:Int) != (s.size:Int))=true:=(by rw [bne_iff_ne]; omega);go_wp2;go_ret;exact ⟨by rw [HF.o]; rfl,rfl⟩
 ·have hne:((r.size:Int) != (s.size:Int))=false:=(by rw [bne_eq_false_iff_eq]; omega);have HEQ:=Hd heq;have hl:=less_nvl r.toList s.toList (by rw [ByteArray.toList_eq,ByteArray.toList_eq]; simpa using heq);rw [ByteArray.toList_eq,ByteArray.toList_eq] at hl;have hl2:Op.bytesLess r.toList s.toList=decide (nval r<nval s):=(by rw [ByteArray.toList_eq,ByteArray.toList_eq]; exact hl);by_cases h1:nval r<nval s
  ·have HF:=Hd (show cmpN (nval a) (nval b)=-1 by rw [← HV.o,← HV2.o]; unfold cmpN; rw [if_pos h1]);have hb1:Op.bytesLess r.toList s.toList=true:=(by rw [hl2]; simpa using h1);clear hl hl2 heq h1;go_wp2;go_ret;exact ⟨by rw [HF.o]; rfl,rfl⟩
  ·have hb1:Op.bytesLess r.toList s.toList=false:=(by rw [hl2]; simpa using h1);by_cases h2:nval s<nval r
   ·have HF:=Hd (show cmpN (nval a) (nval b)=1 by rw [← HV.o,← HV2.o]; unfold cmpN; rw [if_neg h1,if_pos h2]);have hb2:(r.toList==s.toList)=false:=by
     rw [beq_eq_false_iff_ne];intro e;have:nval r=nval s:=(by unfold nval; rw [← ByteArray.toList_eq,← ByteArray.toList_eq,e]);omega
    clear hl hl2 heq h1 h2;go_wp2;go_ret;exact ⟨by rw [HF.o]; rfl,rfl⟩
   ·have HF:=Hd (show cmpN (nval a) (nval b)=0 by rw [← HV.o,← HV2.o]; unfold cmpN; rw [if_neg h1,if_neg h2]);have hb2:=nval_eq_of heq (by omega);clear hl hl2 heq h1 h2;go_wp2;go_ret;exact ⟨by rw [HF.o]; rfl,rfl⟩
 ·have HF:=Hd (show cmpN (nval a) (nval b)=1 by
   rw [← HV.o,← HV2.o];unfold cmpN;have h1:=(can_size HC2.o (k:=s.size)).1 (Nat.le_refl _);have h2:=(can_size HC.o (k:=s.size));rw [if_neg (by omega),if_pos (by omega)])
  have hne:((r.size:Int) != (s.size:Int))=true:=(by rw [bne_iff_ne]; omega);go_wp2;go_ret;exact ⟨by rw [HF.o]; rfl,rfl⟩
/- The reference's Sub and Add of numbers of any size. Conditions: bounds on sizes. -/

theorem dig_len {l:List Nat} (h:trd l) (hv:dval l<256 ^ 60):l.length≤20:=by
 rcases Nat.lt_or_ge 20 l.length with h1 | h1
 ·have h2:=dval_ge h (by intro e; rw [e] at h1; simp at h1);have h3:16777216 ^ 20≤16777216 ^ (l.length-1):=Nat.pow_le_pow_right (by decide) (by omega);have h4:(16777216:Nat) ^ 20=256 ^ 60:=(by rw [pow24]);omega
 ·exact h1
def RetS (w:World) (n:Nat) (e:Ending) (w':World):Prop:=∃ r,e=.returned (.tuple #[.string r,.bool true])∧isN r n∧Ext w w'
set_option maxRecDepth 100000 in
set_option maxHeartbeats 1000000 in
theorem r01_Sub (a b:ByteArray) (ha:a.size≤4294967296) (hb:b.size≤4294967296) (hle:nval b≤nval a) (hlt:nval a<256 ^ 60) (w:World):Calls Tryz.prog 264 #[.string a,.string b] w (RetS w (nval a-nval b)):=by
 have hcm:¬ cmpN (nval a) (nval b)<0:=(by unfold cmpN; split; omega; split <;> omega);have HLE:=Hd hle;have HLT:=Hd hlt;clear hle hlt
 go_enter Tryz.func264,Tryz.ntmps264
 go_wp2_with fail
 refine (r01_Cmp a b ha hb _).mono ?_;rintro e1 w1 ⟨rfl,rfl⟩
 go_wp2_with fail
 refine (r01_of a ha _).mono ?_;rintro e1 w1 ⟨A1,c1,l1,rfl,hv1,hd1,ht1,hc1,hi1,hx1⟩;have HI1:=Hd hi1;have HV1:=Hd hv1;have HD1:=Hd hd1;have HT1:=Hd ht1;have HX1:=Hd hx1;clear hi1 hv1 hd1 ht1 hx1
 go_wp2_with fail
 refine (r01_of b hb _).mono ?_;rintro e2 w2 ⟨A2,c2,l2,rfl,hv2,hd2,ht2,hc2,hi2,hx2⟩;have HI2:=Hd hi2;have HV2:=Hd hv2;have HD2:=Hd hd2;have HT2:=Hd ht2;have HX2:=Hd (HX1.o.trans hx2);have HI1b:=Hd (HI1.o.keep (hx2.kept _));clear hi2 hv2 hd2 ht2 hx2
 go_wp2_with fail
 refine (r01_minus l1 l2 A1 A2 c1 c2 _ _ _ HI1b.o HI2.o HD1.o HD2.o HT2.o (by rw [HV1.o,HV2.o]; exact HLE.o)).mono ?_;rintro e3 w3 ⟨A3,c3,l3,rfl,hv3,hd3,ht3,hc3,hi3,hx3⟩;have HI3:=Hd hi3;have HV3:=Hd (show dval l3=nval a-nval b by rw [hv3,HV1.o,HV2.o]);have HD3:=Hd hd3;have HX3:=Hd (HX2.o.trans hx3);have hl3:=dig_len ht3 (by rw [HV3.o]; exact Nat.lt_of_le_of_lt (Nat.sub_le _ _) HLT.o);clear hi3 hv3 hd3 ht3 hx3
 go_wp2_with fail
 refine (r01_number l3 A3 c3 _ _ HI3.o HD3.o (by omega)).mono ?_;rintro e4 w4 ⟨r,rfl,h1,h2,h3,hx4⟩;have H1:=Hd (show isN r (nval a-nval b) from ⟨h1.trans HV3.o,h2,h3⟩);have HX4:=Hd (HX3.o.trans hx4);clear h1 h2 h3 hx4;go_wp2;refine bodyPost_ret (v:=.tuple #[.string r,.bool true]) (by simp [results,Tryz.results264,go_sem]) rfl ⟨r,rfl,H1.o,HX4.o⟩

structure AddI (u v m:List Nat) (k cy:Nat):Prop where
 len:m.length=k
 eq:dval (u.take k)+dval (v.take k)=dval m+cy*16777216 ^ k
 ds:dgs m
 bit:cy≤1
 fin:max u.length v.length<k→cy=0
theorem AddI.step {u v m:List Nat} {k cy:Nat} (h:AddI u v m k cy) (hu:dgs u) (hv:dgs v) {s:Nat} (hs:s=cy+u.getD k 0+v.getD k 0):AddI u v (m++[s % 16777216]) (k+1) (s / 16777216):=by
 have h1:=dgs_getD hu k;have h2:=dgs_getD hv k;have h3:=h.bit;refine ⟨by simp [h.len],?_,dgs_snoc h.ds (Nat.mod_lt _ (by decide)),by omega,fun hk => ?_⟩
 ·rw [dval_take,dval_take,dval_snoc,h.len,Nat.pow_succ];have h4:=h.eq;have e:s=16777216*(s / 16777216)+s % 16777216:=(Nat.div_add_mod _ _).symm;have e2:16777216 ^ k*s=cy*16777216 ^ k+16777216 ^ k*u.getD k 0+16777216 ^ k*v.getD k 0:=(by rw [hs,Nat.mul_add,Nat.mul_add,Nat.mul_comm _ cy]);have e3:16777216 ^ k*s=s / 16777216*(16777216 ^ k*16777216)+16777216 ^ k*(s % 16777216):=by
   rw [Nat.mul_comm (s / 16777216),Nat.mul_assoc,← Nat.mul_add,← e]
  omega
 ·have e1:u.getD k 0=0:=(by rw [List.getD_eq_getElem?_getD,List.getElem?_eq_none (by omega)]; rfl);have e2:v.getD k 0=0:=(by rw [List.getD_eq_getElem?_getD,List.getElem?_eq_none (by omega)]; rfl);rw [e1,e2] at hs;omega
set_option maxRecDepth 100000 in
set_option maxHeartbeats 4000000 in
theorem r01_Add_big (a b:ByteArray) (ha:a.size≤4294967296) (hb:b.size≤4294967296) (hal:nval a<256 ^ 59) (hbl:nval b<256 ^ 59) (hbig:¬ (nval a<256 ^ 7∧nval b<256 ^ 7)) (w:World):Calls Tryz.prog 262 #[.string a,.string b] w (RetT w (nval a+nval b)):=by
 have HBIG:=Hd hbig;obtain ⟨x1,p1,hs1⟩:∃ (x1:Int) (p1:Bool),smallR a 7=.returned (.tuple #[.int .i64 x1,.bool p1])∧p1=decide (nval a<256 ^ 7):=⟨_,_,rfl,rfl⟩;obtain ⟨x2,p2,hs2⟩:∃ (x2:Int) (p2:Bool),smallR b 7=.returned (.tuple #[.int .i64 x2,.bool p2])∧p2=decide (nval b<256 ^ 7):=⟨_,_,rfl,rfl⟩;have HS1:=Hd hs1.1;have HS2:=Hd hs2.1;have hpp:p1=false∨(p1=true∧p2=false):=by
  cases h1:p1
  ·exact .inl rfl
  ·cases h2:p2
   ·exact .inr ⟨rfl,rfl⟩
   ·exact absurd ⟨of_decide_eq_true (hs1.2.symm.trans h1),of_decide_eq_true (hs2.2.symm.trans h2)⟩ hbig
 have HAL:=Hd hal;have HBL:=Hd hbl;clear hbig hs1 hs2 hal hbl;have main:∀ (pp1 pp2:Bool),p1=pp1→p2=pp2→(pp1=false∨(pp1=true∧pp2=false))→Calls Tryz.prog 262 #[.string a,.string b] w (RetT w (nval a+nval b)):=by
  intro pp1 pp2 e1 e2 hpp;rw [e1] at HS1;rw [e2] at HS2;clear e1 e2
  go_enter Tryz.func262,Tryz.ntmps262
  go_wp2_with fail
  refine (r01_small a ha 7 (by omega) _).mono ?_;rintro e1 w1 ⟨he,rfl⟩;rw [HS1.o] at he;subst he
  go_wp2_with fail
  refine (r01_small b hb 7 (by omega) _).mono ?_;rintro e1 w1 ⟨he,rfl⟩;rw [HS2.o] at he;subst he;have hif:∃ z:Bool,z=false∧(pp1 && pp2)=z:=by
   rcases hpp with rfl | ⟨rfl,rfl⟩ <;> exact ⟨false,rfl,rfl⟩
  rcases hpp with rfl | ⟨rfl,rfl⟩
  all_goals
   clear hif
   go_wp2_with fail
   refine (r01_of a ha _).mono ?_;rintro e1 w1 ⟨A1,c1,u,rfl,hv1,hd1,ht1,hc1,hi1,hx1⟩;have hul:=dig_len ht1 (by rw [hv1]; exact Nat.lt_trans HAL.o (Nat.pow_lt_pow_right (by decide) (by decide)));have HU:=Hd hi1;have HV1:=Hd hv1;have HDU:=Hd hd1;have HX1:=Hd hx1;clear hi1 hv1 hd1 ht1 hx1
   go_wp2_with fail
   refine (r01_of b hb _).mono ?_;rintro e2 w2 ⟨A2,c2,v,rfl,hv2,hd2,ht2,hc2,hi2,hx2⟩;have hvl:=dig_len ht2 (by rw [hv2]; exact Nat.lt_trans HBL.o (Nat.pow_lt_pow_right (by decide) (by decide)));have HV:=Hd hi2;have HV2:=Hd hv2;have HDV:=Hd hd2;have HX2:=Hd (HX1.o.trans hx2);have HUb:=Hd (HU.o.keep (hx2.kept _));clear hi2 hv2 hd2 ht2 hx2 HU HX1;go_wp2
   go_loopw [11,12,13] (fun o c i wr=>∃ (k:Nat) (A':Option Addr) (c' cy:Nat) (m:List Nat),k≤max u.length v.length+1∧AddI u v m k cy∧o=.slice A' k c'∧c=.int .i64 (cy:Int)∧i=.int .i64 (k:Int)∧Ext w2 wr∧Own wr w2.heap.size 3 1 A' k c' ((nums m).map (Value.int .i64))) (fun _ _ i _=>max u.length v.length+1-(intOf i).toNat)
   case atStart=>exact ⟨0,none,0,0,[],Nat.zero_le _,⟨rfl,by simp [dval],by simp [dgs],by omega,fun _=>rfl⟩,rfl,rfl,rfl,Ext.refl _,Own.nil _ _ _ _⟩
   case round =>
    obtain ⟨k,A',c',cy,m,hk,hmi,rfl,rfl,rfl,hx,ho⟩:=hrel;have HX:=Hd hx;have HO:=Hd ho;have HM:=Hd hmi;have hcy:=hmi.bit;have hfin:=hmi.fin;have hsz:=hx.size;have hkk:k≤21:=(by omega);obtain ⟨d1,hd1⟩:∃ d1,d1=u.getD k 0:=⟨_,rfl⟩;obtain ⟨d2,hd2⟩:∃ d2,d2=v.getD k 0:=⟨_,rfl⟩;have hl1:d1<16777216:=(by rw [hd1]; exact dgs_getD HDU.o k);have hl2:d2<16777216:=(by rw [hd2]; exact dgs_getD HDV.o k);have HD1:=Hd hd1;have HD2:=Hd hd2;clear hx ho hmi;by_cases hku:k<u.length
    ·obtain ⟨b1,o1,hA,hb1,hc1⟩:=ints_cell (HUb.o.keep (HX.o.kept _)) hku;subst hA;rw [← hd1] at hc1;by_cases hkv:k<v.length
     ·obtain ⟨b2,o2,hB,hb2,hc2⟩:=ints_cell (HV.o.keep (HX.o.kept _)) hkv;subst hB;rw [← hd2] at hc2;clear hd1 hd2;have HST:=Hd (HM.o.step HDU.o HDV.o (s:=cy+d1+d2) (by have e1:=HD1.o; have e2:=HD2.o; omega))
      go_wp2_with (at_builtin; go_must (refine wpList_app rfl (.tmp 74) (.tmp 77) rfl tiI rfl (HO.o.ext ((Ext.refl wr).alloc _)) rfl (Blk.rd (Blk.new _ _ _)) rfl (by simp [Value.oneCell']) (by omega) (by decide) (by simp; omega) ?_); intro A4 c4 w4 hown4 hg4 hat4)
      go_roundw
      case rel =>
       refine ⟨k+1,A4,c4,_,_,by omega,HST.o,rfl,by go_num,by go_num,(HX.o.alloc _).grown hg4 fun b hb=>(HO.o.blk hb).1,?_⟩;rw [nums_snoc]
       simpa using hown4
      case measure=>simp [intOf]; omega
     ·have h20:d2=0:=(by rw [hd2,List.getD_eq_getElem?_getD,List.getElem?_eq_none (by omega)]; rfl);subst h20;clear hd1 hd2;have HST:=Hd (HM.o.step HDU.o HDV.o (s:=cy+d1+0) (by have e1:=HD1.o; have e2:=HD2.o; omega))
      go_wp2_with (at_builtin; go_must (refine wpList_app rfl (.tmp 74) (.tmp 77) rfl tiI rfl (HO.o.ext ((Ext.refl wr).alloc _)) rfl (Blk.rd (Blk.new _ _ _)) rfl (by simp [Value.oneCell']) (by omega) (by decide) (by simp; omega) ?_); intro A4 c4 w4 hown4 hg4 hat4)
      go_roundw
      case rel =>
       refine ⟨k+1,A4,c4,_,_,by omega,HST.o,rfl,by go_num,by go_num,(HX.o.alloc _).grown hg4 fun b hb=>(HO.o.blk hb).1,?_⟩;rw [nums_snoc]
       simpa using hown4
      case measure=>simp [intOf]; omega
    ·have h10:d1=0:=(by rw [hd1,List.getD_eq_getElem?_getD,List.getElem?_eq_none (by omega)]; rfl);subst h10;by_cases hkv:k<v.length
     ·obtain ⟨b2,o2,hB,hb2,hc2⟩:=ints_cell (HV.o.keep (HX.o.kept _)) hkv;subst hB;rw [← hd2] at hc2;clear hd1 hd2;have HST:=Hd (HM.o.step HDU.o HDV.o (s:=cy+0+d2) (by have e1:=HD1.o; have e2:=HD2.o; omega))
      go_wp2_with (at_builtin; go_must (refine wpList_app rfl (.tmp 74) (.tmp 77) rfl tiI rfl (HO.o.ext ((Ext.refl wr).alloc _)) rfl (Blk.rd (Blk.new _ _ _)) rfl (by simp [Value.oneCell']) (by omega) (by decide) (by simp; omega) ?_); intro A4 c4 w4 hown4 hg4 hat4)
      go_roundw
      case rel =>
       refine ⟨k+1,A4,c4,_,_,by omega,HST.o,rfl,by go_num,by go_num,(HX.o.alloc _).grown hg4 fun b hb=>(HO.o.blk hb).1,?_⟩;rw [nums_snoc]
       simpa using hown4
      case measure=>simp [intOf]; omega
     ·have h20:d2=0:=(by rw [hd2,List.getD_eq_getElem?_getD,List.getElem?_eq_none (by omega)]; rfl);subst h20;clear hd1 hd2;by_cases hc0:0<cy
      ·have hkm:k<max u.length v.length+1:=(by omega);clear hfin;have HST:=Hd (HM.o.step HDU.o HDV.o (s:=cy+0+0) (by have e1:=HD1.o; have e2:=HD2.o; omega))
       go_wp2_with (at_builtin; go_must (refine wpList_app rfl (.tmp 74) (.tmp 77) rfl tiI rfl (HO.o.ext ((Ext.refl wr).alloc _)) rfl (Blk.rd (Blk.new _ _ _)) rfl (by simp [Value.oneCell']) (by omega) (by decide) (by simp; omega) ?_); intro A4 c4 w4 hown4 hg4 hat4)
       go_roundw
       case rel =>
        refine ⟨k+1,A4,c4,_,_,by omega,HST.o,rfl,by go_num,by go_num,(HX.o.alloc _).grown hg4 fun b hb=>(HO.o.blk hb).1,?_⟩;rw [nums_snoc]
        simpa using hown4
       case measure=>simp [intOf]; omega
      ·obtain rfl:cy=0:=by omega
       have hv:dval m=nval a+nval b:=by
        have:=HM.o.eq;rw [List.take_of_length_le (by omega),List.take_of_length_le (by omega),HV1.o,HV2.o] at this;omega
       have hml:=HM.o.len;have HR:=Hd (OwnIs.read (l:=m) (by rw [hml]; exact HO.o) (by omega) (T:=fun b=>w2.heap.size≤b) fun _ h=>h);have HF:=Hd hv;have HD:=Hd HM.o.ds;have HE:=Hd (HX2.o.trans HX.o);have hku2:¬ (k:Int)<(u.length:Int):=(by omega);have hkv2:¬ (k:Int)<(v.length:Int):=(by omega);obtain rfl:=hml;clear hv hfin
       go_wp2_with fail
       refine (r01_number m A' c' _ _ HR.o HD.o (by omega)).mono ?_;rintro e4 w4 ⟨r,rfl,h1,h2,h3,hx4⟩;have H1:=Hd (h1.trans HF.o);have H2:=Hd h2;have HX4:=Hd (HE.o.trans hx4);clear h1 h2 hx4;go_wp2;go_ret;exact ⟨r,rfl,H1.o,H2.o,h3,HX4.o⟩
 exact main p1 p2 rfl rfl hpp
/- The reference's Mul of numbers of any size. Conditions: bounds on sizes. -/

theorem r01_Add (a b:ByteArray) (ha:a.size≤4294967296) (hb:b.size≤4294967296) (hal:nval a<256 ^ 59) (hbl:nval b<256 ^ 59) (w:World):Calls Tryz.prog 262 #[.string a,.string b] w (RetT w (nval a+nval b)):=by
 by_cases h:nval a<256 ^ 7∧nval b<256 ^ 7
 ·exact r01_Add_small a b ha hb h.1 h.2 w
 ·exact r01_Add_big a b ha hb hal hbl h w
theorem dval_set:∀ (m:List Nat) (t x:Nat),t<m.length→dval (m.set t x)+m.getD t 0*16777216 ^ t=dval m+x*16777216 ^ t
 | [],_,_,h=>by simp at h
 | d :: m,0,x,_=>by simp [dval]; omega
 | d :: m,t+1,x,h=>by
  have ih:=dval_set m t x (by simpa using h);simp only [List.set_cons_succ,dval,List.getD_cons_succ,Nat.pow_succ];have e1:m.getD t 0*(16777216 ^ t*16777216)=16777216*(m.getD t 0*16777216 ^ t):=(by rw [← Nat.mul_assoc,Nat.mul_comm]);have e2:x*(16777216 ^ t*16777216)=16777216*(x*16777216 ^ t):=(by rw [← Nat.mul_assoc,Nat.mul_comm]);rw [e1,e2];omega
theorem dgs_set {m:List Nat} (h:dgs m) (t:Nat) {x:Nat} (hx:x<16777216):dgs (m.set t x):=fun y hy=>by
 rcases List.mem_or_eq_of_mem_set hy with hy | hy
 ·exact h y hy
 ·rw [hy]; exact hx
theorem getD_setN (m:List Nat) (t x k:Nat) (h:t≠k):(m.set t x).getD k 0=m.getD k 0:=by
 rw [List.getD_eq_getElem?_getD,List.getElem?_set_ne h,← List.getD_eq_getElem?_getD]
structure MulO (u v m:List Nat) (i:Nat):Prop where
 len:m.length=u.length+v.length
 ds:dgs m
 eq:dval m=dval (u.take i)*dval v
 zero:∀ t,i+v.length≤t→m.getD t 0=0
structure MulN (u v m:List Nat) (i j cy:Nat):Prop where
 len:m.length=u.length+v.length
 ds:dgs m
 lt:cy<16777216
 eq:dval m+cy*16777216 ^ (i+j)=dval (u.take i)*dval v+u.getD i 0*dval (v.take j)*16777216 ^ i
 zero:∀ t,i+v.length≤t→m.getD t 0=0
theorem MulO.inner {u v m:List Nat} {i:Nat} (h:MulO u v m i):MulN u v m i 0 0:=⟨h.len,h.ds,by omega,by simp [dval,h.eq],h.zero⟩
theorem MulN.step {u v m:List Nat} {i j cy:Nat} (h:MulN u v m i j cy) (hu:dgs u) (hv:dgs v) (hi:i<u.length) (hj:j<v.length) {s:Nat} (hs:s=m.getD (i+j) 0+u.getD i 0*v.getD j 0+cy) :
  s<281474976710656∧MulN u v (m.set (i+j) (s % 16777216)) i (j+1) (s / 16777216):=by
 have h1:=dgs_getD hu i;have h2:=dgs_getD hv j;have h3:=dgs_getD h.ds (i+j);have h4:=h.lt;have h5:u.getD i 0*v.getD j 0≤16777215*16777215:=Nat.mul_le_mul (by omega) (by omega);have hb:s<281474976710656:=(by omega);refine ⟨hb,by simp [h.len],dgs_set h.ds _ (Nat.mod_lt _ (by decide)),by omega,?_,fun t ht=>by rw [getD_setN _ _ _ _ (by omega)]; exact h.zero t ht⟩;have hset:=dval_set m (i+j) (s % 16777216) (by rw [h.len]; omega);have heq:=h.eq;rw [dval_take,Nat.mul_add,Nat.add_mul,show i+(j+1)=(i+j)+1 by omega,Nat.pow_succ];have e:s=16777216*(s / 16777216)+s % 16777216:=(Nat.div_add_mod _ _).symm;have e1:s*16777216 ^ (i+j)=s / 16777216*(16777216 ^ (i+j)*16777216)+s % 16777216*16777216 ^ (i+j):=by
  rw [Nat.mul_comm (16777216 ^ (i+j)) 16777216,← Nat.mul_assoc,← Nat.add_mul,Nat.mul_comm (s / 16777216),← e]
 have e2:s*16777216 ^ (i+j)=m.getD (i+j) 0*16777216 ^ (i+j)+u.getD i 0*(16777216 ^ j*v.getD j 0)*16777216 ^ i+cy*16777216 ^ (i+j):=by
  rw [hs,Nat.add_mul,Nat.add_mul,Nat.pow_add];congr 2;rw [Nat.mul_comm (16777216 ^ j) (v.getD j 0),Nat.mul_comm (16777216 ^ i) (16777216 ^ j),Nat.mul_assoc,Nat.mul_assoc,Nat.mul_assoc]
 omega
theorem MulN.o {u v m:List Nat} {i cy:Nat} (h:MulN u v m i v.length cy) (hi:i<u.length):MulO u v (m.set (i+v.length) cy) (i+1):=by
 have hset:=dval_set m (i+v.length) cy (by rw [h.len]; omega);rw [h.zero (i+v.length) (Nat.le_refl _),Nat.zero_mul,Nat.add_zero] at hset;have heq:=h.eq;rw [List.take_length] at heq;refine ⟨by simp [h.len],dgs_set h.ds _ h.lt,?_,fun t ht=>by rw [getD_setN _ _ _ _ (by omega)]; exact h.zero t (by omega)⟩;rw [hset,heq,dval_take,Nat.add_mul];congr 1;rw [Nat.mul_right_comm,Nat.mul_comm (u.getD i 0)]
theorem MulO.start (u v:List Nat):MulO u v (List.replicate (u.length+v.length) 0) 0:=by
 have hz:∀ n,dval (List.replicate n 0)=0:=by
  intro n
  induction n with
  | zero=>rfl
  | succ n ih=>simp [List.replicate_succ,dval,ih]
 refine ⟨by simp,fun d hd=>by rw [List.eq_of_mem_replicate hd]; decide,by simp [hz,dval],fun t _ => ?_⟩;rw [List.getD_eq_getElem?_getD,List.getElem?_replicate];split <;> rfl
def dcells (m:List Nat):Array Value:=((nums m).map (Value.int .i64)).toArray
theorem dcells_size (m:List Nat):(dcells m).size=m.length:=by simp [dcells,nums]
theorem dcells_at {m:List Nat} {k:Nat} (h:k<m.length):(dcells m)[k]?=some (.int .i64 ((m.getD k 0:Nat):Int)):=by simp [dcells,nums,h]
theorem dcells_set (m:List Nat) (k x:Nat):(dcells m).setIfInBounds k (.int .i64 (x:Int))=dcells (m.set k x):=by simp [dcells,nums,List.map_set]
theorem Blk.ints {w:World} {g:Nat} {m:List Nat} (h:Blk w g 3 (dcells m)) (hl:m.length≤4294967296):Ints w (fun b=>b=g) (some ⟨g,0,none⟩) (nums m) :=
 ⟨by have:=h.rd; simpa [dcells] using this,by rw [nums_len]; exact hl⟩
set_option maxRecDepth 100000 in
set_option maxHeartbeats 1000000 in
theorem r01_Mul_small (a b:ByteArray) (ha:a.size≤4294967296) (hb:b.size≤4294967296) (ha3:nval a<256 ^ 3) (hb4:nval b<256 ^ 4) (w:World):Calls Tryz.prog 288 #[.string a,.string b] w (RetT w (nval a*nval b)):=by
 have HA:=Hd (small_yes ha3);have HB:=Hd (small_yes hb4);rw [show (256:Nat) ^ 3=16777216 by decide] at ha3;rw [show (256:Nat) ^ 4=4294967296 by decide] at hb4;obtain ⟨p,hp⟩:∃ p,p=nval a*nval b:=⟨_,rfl⟩;have hpl:p≤16777215*4294967295:=(by rw [hp]; exact Nat.mul_le_mul (by omega) (by omega));have hw1:wrap64 ((nval a:Int)*(nval b:Int))=(p:Int):=(by rw [hp,← Int.natCast_mul]; exact IntWalk.wrap64_in _ (by rw [← hp]; omega));rw [← hp];clear hp
 go_enter Tryz.func288,Tryz.ntmps288
 go_wp2_with fail
 refine (r01_small a ha 3 (by omega) _).mono ?_;rintro e1 w1 ⟨he,rfl⟩;rw [HA.o] at he;subst he
 go_wp2_with fail
 refine (r01_small b hb 4 (by omega) _).mono ?_;rintro e1 w1 ⟨he,rfl⟩;rw [HB.o] at he;subst he
 go_wp2_with fail
 refine (r01_Of p (by omega) _).mono ?_;rintro e1 w1 ⟨r,rfl,h1,h2,h3,h4⟩;have H1:=Hd h1;have H2:=Hd h2;have H4:=Hd h4;clear h1 h2 h4 hw1;go_wp2;go_ret;exact ⟨r,rfl,H1.o,H2.o,h3,H4.o⟩
set_option maxRecDepth 100000 in
set_option maxHeartbeats 4000000 in
theorem r01_Mul_big (a b:ByteArray) (ha:a.size≤4294967296) (hb:b.size≤4294967296) (hal:nval a<256 ^ 60) (hbl:nval b<256 ^ 60) (hbig:¬ (nval a<256 ^ 3∧nval b<256 ^ 4)) (w:World):Calls Tryz.prog 288 #[.string a,.string b] w (RetT w (nval a*nval b)):=by
 obtain ⟨x1,p1,hs1⟩:∃ (x1:Int) (p1:Bool),smallR a 3=.returned (.tuple #[.int .i64 x1,.bool p1])∧p1=decide (nval a<256 ^ 3):=⟨_,_,rfl,rfl⟩;obtain ⟨x2,p2,hs2⟩:∃ (x2:Int) (p2:Bool),smallR b 4=.returned (.tuple #[.int .i64 x2,.bool p2])∧p2=decide (nval b<256 ^ 4):=⟨_,_,rfl,rfl⟩;have HS1:=Hd hs1.1;have HS2:=Hd hs2.1;have hpp:p1=false∨(p1=true∧p2=false):=by
  cases h1:p1
  ·exact .inl rfl
  ·cases h2:p2
   ·exact .inr ⟨rfl,rfl⟩
   ·exact absurd ⟨of_decide_eq_true (hs1.2.symm.trans h1),of_decide_eq_true (hs2.2.symm.trans h2)⟩ hbig
 have HAL:=Hd hal;have HBL:=Hd hbl;clear hbig hs1 hs2 hal hbl
 go_enter Tryz.func288,Tryz.ntmps288
 go_wp2_with fail
 refine (r01_small a ha 3 (by omega) _).mono ?_;rintro e1 w1 ⟨he,rfl⟩;rw [HS1.o] at he;subst he
 go_wp2_with fail
 refine (r01_small b hb 4 (by omega) _).mono ?_;rintro e1 w1 ⟨he,rfl⟩;rw [HS2.o] at he;subst he
 rcases hpp with rfl | ⟨rfl,rfl⟩
 all_goals
  go_wp2_with fail
  refine (r01_of a ha _).mono ?_;rintro e1 w1 ⟨A1,c1,u,rfl,hv1,hd1,ht1,hc1,hi1,hx1⟩;have hul:=dig_len ht1 (by rw [hv1]; exact HAL.o);have HU:=Hd hi1;have HV1:=Hd hv1;have HDU:=Hd hd1;have HX1:=Hd hx1;clear hi1 hv1 hd1 ht1 hx1
  go_wp2_with fail
  refine (r01_of b hb _).mono ?_;rintro e2 w2 ⟨A2,c2,v,rfl,hv2,hd2,ht2,hc2,hi2,hx2⟩;have hvl:=dig_len ht2 (by rw [hv2]; exact HBL.o);have HV:=Hd hi2;have HV2:=Hd hv2;have HDV:=Hd hd2;have HX2:=Hd (HX1.o.trans hx2);have HUb:=Hd (HU.o.keep (hx2.kept _));clear hi2 hv2 hd2 ht2 hx2 HU HX1;obtain ⟨n,hn⟩:∃ n,n=u.length+v.length:=⟨_,rfl⟩;have hn2:(u.length:Int)+(v.length:Int)=(n:Int):=(by omega);have hmk:=run_mkIC n (by omega);have HN:=Hd hn;have hn40:n≤40:=(by omega);clear hn
  go_wp2_with fail
  have HN2:=Hd hn2;obtain ⟨w3,hw3⟩:∃ w3,w3=w2.alloc (.cells (Array.replicate n (.int .i64 0)) 3):=⟨_,rfl⟩;have hb3:Blk w3 w2.heap.size 3 (dcells (List.replicate n 0)):=by
   rw [hw3,show dcells (List.replicate n 0)=Array.replicate n (.int .i64 0) by simp [dcells,nums]];exact Blk.new _ _ _
  have hx3:Ext w2 w3:=(by rw [hw3]; exact (Ext.refl _).alloc _);obtain ⟨g,hg⟩:∃ g,g=w2.heap.size:=⟨_,rfl⟩;rw [← hw3,← hg];rw [← hg] at hb3;have HB3:=Hd hb3;have HX3:=Hd hx3;have HG:=Hd hg;clear hmk hn2 hw3 hb3 hx3 hg;go_wp2
  go_loopw [12] (fun i wr=>∃ (i':Nat) (m:List Nat),i'≤u.length∧i=.int .i64 (i':Int)∧MulO u v m i'∧Ext w2 wr∧Blk wr g 3 (dcells m)) (fun i _=>u.length-(intOf i).toNat)
  case atStart=>exact ⟨0,List.replicate n 0,Nat.zero_le _,rfl,by rw [HN.o]; exact MulO.start u v,HX3.o,HB3.o⟩
  case round =>
   obtain ⟨i,m0,hi,rfl,hmo,hx,hb⟩:=hrel;have HMO:=Hd hmo;have HX:=Hd hx;have HB:=Hd hb;clear hmo hx hb;by_cases hiu:i<u.length
   ·go_wp2
    go_loopw [13,14] (fun c j wr'=>∃ (j' cy:Nat) (m:List Nat),j'≤v.length∧j=.int .i64 (j':Int)∧c=.int .i64 (cy:Int)∧MulN u v m i j' cy∧Ext w2 wr'∧Blk wr' g 3 (dcells m)) (fun _ j _=>v.length-(intOf j).toNat)
    case atStart=>exact ⟨0,0,m0,Nat.zero_le _,rfl,rfl,HMO.o.inner,HX.o,HB.o⟩
    case round =>
     obtain ⟨j,cy,m,hj,rfl,rfl,hmn,hx2,hb2⟩:=hrel;have HMN:=Hd hmn;have HX2:=Hd hx2;have HB2:=Hd hb2;have hcy:=hmn.lt;have hml:=hmn.len;have HML:=Hd hml;have HNI:=Hd HN2.o;have hnn:=HN.o;clear hmn hx2 hb2;by_cases hjv:j<v.length
     ·obtain ⟨b1,o1,hA,hb1,hc1⟩:=ints_cell (HUb.o.keep (HX2.o.kept _)) hiu;subst hA;obtain ⟨b2,o2,hB,hb2,hc2⟩:=ints_cell (HV.o.keep (HX2.o.kept _)) hjv;subst hB;have hc3:=HB2.o.cell (dcells_at (m:=m) (k:=i+j) (by omega));have hf3:=HB2.o.frozen (i+j);have hlt3:=HB2.o.lt;obtain ⟨d1,hd1⟩:∃ d1,d1=u.getD i 0:=⟨_,rfl⟩;obtain ⟨d2,hd2⟩:∃ d2,d2=v.getD j 0:=⟨_,rfl⟩;obtain ⟨d3,hd3⟩:∃ d3,d3=m.getD (i+j) 0:=⟨_,rfl⟩;have hl1:d1<16777216:=(by rw [hd1]; exact dgs_getD HDU.o i);have hl2:d2<16777216:=(by rw [hd2]; exact dgs_getD HDV.o j);have hl3:d3<16777216:=(by rw [hd3]; exact dgs_getD HMN.o.ds (i+j));rw [← hd1] at hc1;rw [← hd2] at hc2;rw [← hd3] at hc3;obtain ⟨p,hp⟩:∃ p,p=d1*d2:=⟨_,rfl⟩;have hst:=HMN.o.step HDU.o HDV.o hiu hjv (s:=d3+p+cy) (by rw [hp,hd1,hd2,hd3]);have hsb:=hst.1;have HST:=Hd hst.2;have i1:(i:Int)<(u.length:Int):=(by omega);have i2:(j:Int)<(v.length:Int):=(by omega);have i3:(i:Int)+(j:Int)<(n:Int):=(by omega);have i4:(0:Int)≤(i:Int)+(j:Int):=(by omega);have i5:((i:Int)+(j:Int)).toNat=i+j:=(by omega);have i0:(0:Int)≤(i:Int):=(by omega);have i00:(0:Int)≤(j:Int):=(by omega);have H5:=Hd i5;have E1:=Hd (show IntKind.i64.wrap ((i:Int)+j)=(i:Int)+j from IntWalk.i64_in _ (by omega));have E3:=Hd (show IntKind.i64.wrap ((d3:Int)+p)=(d3:Int)+p from IntWalk.i64_in _ (by omega));have E4:=Hd (show IntKind.i64.wrap ((d3:Int)+p+cy)=(d3:Int)+p+cy from IntWalk.i64_in _ (by omega));have E2:=Hd (show IntKind.i64.wrap ((d1:Int)*d2)=(p:Int) by rw [← Int.natCast_mul,← hp]; exact IntWalk.i64_in _ (by omega));clear hst hd1 hd2 hd3 hp hnn hml;have C1:=Hd hc1;have C2:=Hd hc2;have C3:=Hd hc3;clear i5 hc1 hc2 hc3
      go_upto_region 15 with fail
      refine wp_region_chain (by kernel_rfl) (fun i=>[i]) (by kernel_rfl) (LX (fun _ _=>False)) (LX.refl _) (LX.trans _) (LM []) gh0 (LM.zero _) ?_;apply Chain.pure (LX.refl _) (by rfl)
      ·intro vals γ w' ρ hR hN hp hρ hc hf hg;refine ⟨rfl,?_⟩;have e11:=hρ 11;(conv at e11=>rhs; whnf);clear hR hN hp hρ;go_light;go_simp;exact ⟨rfl,rfl⟩
      ·rfl
      apply Chain.pure (LX.refl _) (by rfl)
      ·intro vals γ w' ρ hR hN hp hρ hc hf hg;refine ⟨rfl,?_⟩;have e12:=hρ 12;(conv at e12=>rhs; whnf);clear hR hN hp hρ;go_light;go_simp;exact ⟨rfl,rfl⟩
      ·rfl
      apply Chain.pure (LX.refl _) (by rfl)
      ·intro vals γ w' ρ hR hN hp hρ hc hf hg;refine ⟨rfl,?_⟩;have e14:=hρ 14;(conv at e14=>rhs; whnf);clear hR hN hp hρ;go_light;go_simp;exact ⟨rfl,rfl⟩
      ·rfl
      apply Chain.pure (LX.refl _) (by rfl)
      ·intro vals γ w' ρ hR hN hp hρ hc hf hg;refine ⟨rfl,?_⟩;have e57:ρ (.tmp 57)=_:=(hρ 57).trans (hp 1 (by decide));have e58:ρ (.tmp 58)=_:=(hρ 58).trans (hp 2 (by decide));have e1:=E1.o;clear hR hN hp hρ;go_light;go_simp;exact ⟨rfl,rfl⟩
      ·rfl
      apply Chain.pure (LX.refl _) (by rfl)
      ·intro vals γ w' ρ hR hN hp hρ hc hf hg;refine ⟨rfl,?_⟩;have e56:ρ (.tmp 56)=_:=(hρ 56).trans (hp 0 (by decide));have e59:ρ (.tmp 59)=_:=(hρ 59).trans (hp 3 (by decide));have i5:=H5.o;clear hR hN hp hρ;go_light;go_simp;exact ⟨rfl,rfl⟩
      ·rfl
      apply Chain.pure (LX.refl _) (by rfl)
      ·intro vals γ w' ρ hR hN hp hρ hc hf hg;refine ⟨rfl,?_⟩;have e60:ρ (.tmp 60)=_:=(hρ 60).trans (hp 4 (by decide));have hxx:=hR.ext0 (fun _ _ h=>h.elim);have c1:=hxx.cell C1.o;have c2:=hxx.cell C2.o;have c3:=hxx.cell C3.o;clear hR hN hp hρ;go_light;go_simp;exact ⟨rfl,rfl⟩
      ·rfl
      apply Chain.pure (LX.refl _) (by rfl)
      ·intro vals γ w' ρ hR hN hp hρ hc hf hg;refine ⟨rfl,?_⟩;have e9:=hρ 9;(conv at e9=>rhs; whnf);clear hR hN hp hρ;go_light;go_simp;exact ⟨rfl,rfl⟩
      ·rfl
      apply Chain.pure (LX.refl _) (by rfl)
      ·intro vals γ w' ρ hR hN hp hρ hc hf hg;refine ⟨rfl,?_⟩;have e12:=hρ 12;(conv at e12=>rhs; whnf);clear hR hN hp hρ;go_light;go_simp;exact ⟨rfl,rfl⟩
      ·rfl
      apply Chain.pure (LX.refl _) (by rfl)
      ·intro vals γ w' ρ hR hN hp hρ hc hf hg;refine ⟨rfl,?_⟩;have e62:ρ (.tmp 62)=_:=(hρ 62).trans (hp 6 (by decide));have e63:ρ (.tmp 63)=_:=(hρ 63).trans (hp 7 (by decide));clear hR hN hp hρ;go_light;go_simp;exact ⟨rfl,rfl⟩
      ·rfl
      apply Chain.pure (LX.refl _) (by rfl)
      ·intro vals γ w' ρ hR hN hp hρ hc hf hg;refine ⟨rfl,?_⟩;have e64:ρ (.tmp 64)=_:=(hρ 64).trans (hp 8 (by decide));have hxx:=hR.ext0 (fun _ _ h=>h.elim);have c1:=hxx.cell C1.o;have c2:=hxx.cell C2.o;have c3:=hxx.cell C3.o;clear hR hN hp hρ;go_light;go_simp;exact ⟨rfl,rfl⟩
      ·rfl
      apply Chain.pure (LX.refl _) (by rfl)
      ·intro vals γ w' ρ hR hN hp hρ hc hf hg;refine ⟨rfl,?_⟩;have e10:=hρ 10;(conv at e10=>rhs; whnf);clear hR hN hp hρ;go_light;go_simp;exact ⟨rfl,rfl⟩
      ·rfl
      apply Chain.pure (LX.refl _) (by rfl)
      ·intro vals γ w' ρ hR hN hp hρ hc hf hg;refine ⟨rfl,?_⟩;have e14:=hρ 14;(conv at e14=>rhs; whnf);clear hR hN hp hρ;go_light;go_simp;exact ⟨rfl,rfl⟩
      ·rfl
      apply Chain.pure (LX.refl _) (by rfl)
      ·intro vals γ w' ρ hR hN hp hρ hc hf hg;refine ⟨rfl,?_⟩;have e66:ρ (.tmp 66)=_:=(hρ 66).trans (hp 10 (by decide));have e67:ρ (.tmp 67)=_:=(hρ 67).trans (hp 11 (by decide));clear hR hN hp hρ;go_light;go_simp;exact ⟨rfl,rfl⟩
      ·rfl
      apply Chain.pure (LX.refl _) (by rfl)
      ·intro vals γ w' ρ hR hN hp hρ hc hf hg;refine ⟨rfl,?_⟩;have e68:ρ (.tmp 68)=_:=(hρ 68).trans (hp 12 (by decide));have hxx:=hR.ext0 (fun _ _ h=>h.elim);have c1:=hxx.cell C1.o;have c2:=hxx.cell C2.o;have c3:=hxx.cell C3.o;clear hR hN hp hρ;go_light;go_simp;exact ⟨rfl,rfl⟩
      ·rfl
      apply Chain.pure (LX.refl _) (by rfl)
      ·intro vals γ w' ρ hR hN hp hρ hc hf hg;refine ⟨rfl,?_⟩;have e65:ρ (.tmp 65)=_:=(hρ 65).trans (hp 9 (by decide));have e69:ρ (.tmp 69)=_:=(hρ 69).trans (hp 13 (by decide));have e1:=E2.o;clear hR hN hp hρ;go_light;go_simp;exact ⟨rfl,rfl⟩
      ·rfl
      apply Chain.pure (LX.refl _) (by rfl)
      ·intro vals γ w' ρ hR hN hp hρ hc hf hg;refine ⟨rfl,?_⟩;have e61:ρ (.tmp 61)=_:=(hρ 61).trans (hp 5 (by decide));have e70:ρ (.tmp 70)=_:=(hρ 70).trans (hp 14 (by decide));have e1:=E3.o;clear hR hN hp hρ;go_light;go_simp;exact ⟨rfl,rfl⟩
      ·rfl
      apply Chain.pure (LX.refl _) (by rfl)
      ·intro vals γ w' ρ hR hN hp hρ hc hf hg;refine ⟨rfl,?_⟩;have e13:=hρ 13;(conv at e13=>rhs; whnf);clear hR hN hp hρ;go_light;go_simp;exact ⟨rfl,rfl⟩
      ·rfl
      apply Chain.pure (LX.refl _) (by rfl)
      ·intro vals γ w' ρ hR hN hp hρ hc hf hg;refine ⟨rfl,?_⟩;have e71:ρ (.tmp 71)=_:=(hρ 71).trans (hp 15 (by decide));have e72:ρ (.tmp 72)=_:=(hρ 72).trans (hp 16 (by decide));have e1:=E4.o;clear hR hN hp hρ;go_light;go_simp;exact ⟨rfl,rfl⟩
      ·rfl
      apply Chain.pure (LX.refl _) (by rfl)
      ·intro vals γ w' ρ hR hN hp hρ hc hf hg;refine ⟨rfl,?_⟩;have e73:ρ (.tmp 73)=_:=(hρ 73).trans (hp 17 (by decide));clear hR hN hp hρ;go_light;go_simp;exact ⟨rfl,rfl⟩
      ·rfl
      intro vals γ w9 hR hG;have v0:vals 0=_:=hG 0 (by decide);have v1:vals 1=_:=hG 1 (by decide);have v2:vals 2=_:=hG 2 (by decide);have v3:vals 3=_:=hG 3 (by decide);have v4:vals 4=_:=hG 4 (by decide);have v5:vals 5=_:=hG 5 (by decide);have v6:vals 6=_:=hG 6 (by decide);have v7:vals 7=_:=hG 7 (by decide);have v8:vals 8=_:=hG 8 (by decide);have v9:vals 9=_:=hG 9 (by decide);have v10:vals 10=_:=hG 10 (by decide);have v11:vals 11=_:=hG 11 (by decide);have v12:vals 12=_:=hG 12 (by decide);have v13:vals 13=_:=hG 13 (by decide);have v14:vals 14=_:=hG 14 (by decide);have v15:vals 15=_:=hG 15 (by decide);have v16:vals 16=_:=hG 16 (by decide);have v17:vals 17=_:=hG 17 (by decide);have v18:vals 18=_:=hG 18 (by decide);simp only [lexFrame,Act.put,List.setIfInBounds_toArray,List.set_cons_succ,List.set_cons_zero,Nat.zero_add,Nat.reduceAdd,v0,v1,v2,v3,v4,v5,v6,v7,v8,v9,v10,v11,v12,v13,v14,v15,v16,v17,v18];clear v0 v1 v2 v3 v4 v5 v6 v7 v8 v9 v10 v11 v12 v13 v14 v15 v16 v17 v18;have HX9:=Hd (HX2.o.trans (hR.ext0 (fun _ _ h=>h.elim)));have HB9:=Hd (HB2.o.keep ((hR.ext0 (fun _ _ h=>h.elim)).kept _));clear hR hG;have c9:=HB9.o.cell (dcells_at (m:=m) (k:=i+j) (by have:=HML.o; have:=HN.o; omega));have f9:=HB9.o.frozen (i+j);have l9:=HB9.o.lt;have i5:=H5.o;go_wp2;go_roundw
      case rel =>
       refine ⟨j+1,_,m.set (i+j) ((d3+p+cy) % 16777216),by omega,by go_num,by go_num,HST.o,HX9.o.set2 (by rw [HG.o]; exact Nat.le_refl _) _,?_⟩;rw [← dcells_set];have:=HB9.o.set (i+j) (.int .i64 (((d3+p+cy) % 16777216:Nat):Int))
       simpa using this
      case measure=>simp [intOf]; omega
     ·have hjv2:j=v.length:=(by omega);have HMN2:=Hd (show MulN u v m i v.length cy by rw [← hjv2]; exact HMN.o);have c9:=HB2.o.cell (dcells_at (m:=m) (k:=i+v.length) (by omega));have f9:=HB2.o.frozen (i+v.length);have l9:=HB2.o.lt;have i3:(i:Int)+(v.length:Int)<(n:Int):=(by omega);have i4:(0:Int)≤(i:Int)+(v.length:Int):=(by omega);have i5:((i:Int)+(v.length:Int)).toNat=i+v.length:=(by omega);have hj0:¬ (j:Int)<(v.length:Int):=(by omega);have hnv:v.length≤40:=(by omega);clear hnn hml hjv2;go_wp2;go_roundw
      case rel =>
       refine ⟨i+1,m.set (i+v.length) cy,by omega,by go_num,HMN2.o.o hiu,HX2.o.set2 (by rw [HG.o]; exact Nat.le_refl _) _,?_⟩;rw [← dcells_set];exact HB2.o.set (i+v.length) (.int .i64 (cy:Int))
      case measure=>simp [intOf]; omega
   ·have hiu2:i=u.length:=(by omega);have hv:dval m0=nval a*nval b:=by
     have h:=HMO.o.eq;rw [hiu2,List.take_length,HV1.o,HV2.o] at h;exact h
    have hml:=HMO.o.len;have hnl:n=m0.length:=(by rw [hml,HN.o]);have HF:=Hd hv;have HD:=Hd HMO.o.ds;have HR:=Hd (HB.o.ints (by omega));have HE:=Hd (HX2.o.trans HX.o);have hi0:¬ (i:Int)<(u.length:Int):=(by omega);rw [hnl];clear hv hml hiu2 HN HN2;subst hnl
    go_wp2_with fail
    refine (r01_number m0 (some ⟨g,0,none⟩) m0.length _ _ HR.o HD.o (by omega)).mono ?_;rintro e4 w4 ⟨r,rfl,h1,h2,h3,hx4⟩;have H1:=Hd (h1.trans HF.o);have H2:=Hd h2;have HX4:=Hd (HE.o.trans hx4);clear h1 h2 hx4;go_wp2;go_ret;exact ⟨r,rfl,H1.o,H2.o,h3,HX4.o⟩
/- The reference's Quo of numbers of any size. Conditions: bounds on sizes. -/

theorem Own.lit1 {w:World} {base g e sz n:Nat} {xs:List Value} (h:Blk w g e xs.toArray) (hg:base≤g) (hn:xs.length=n*sz:=by rfl) (hm:n≤maxLen:=by decide):Own w base e sz (some ⟨g,0,none⟩) n n xs :=
 ⟨hn,.inr ⟨g,n,xs.toArray,rfl,hg,h,Nat.le_refl _,hm,by simpa using hn,by rw [List.take_of_length_le (by simp [hn])]⟩⟩
theorem r01_Mul (a b:ByteArray) (ha:a.size≤4294967296) (hb:b.size≤4294967296) (hal:nval a<256 ^ 60) (hbl:nval b<256 ^ 60) (w:World):Calls Tryz.prog 288 #[.string a,.string b] w (RetT w (nval a*nval b)):=by
 by_cases h:nval a<256 ^ 3∧nval b<256 ^ 4
 ·exact r01_Mul_small a b ha hb h.1 h.2 w
 ·exact r01_Mul_big a b ha hb hal hbl h w
structure QuoI (u qs rest:List Nat) (V k:Nat):Prop where
 len:qs.length=u.length
 ds:dgs qs
 eq:dval (u.drop k)=dval (qs.drop k)*V+dval rest
 lt:dval rest<V
 zero:∀ t,t<k→qs.getD t 0=0
 dr:dgs rest
 tr:trd rest
theorem QuoI.step {u qs rest r1 r2:List Nat} {V j q:Nat} (h:QuoI u qs rest V (j+1)) (hj:j<u.length) (h1:dval r1=u.getD j 0+16777216*dval rest) (hq:q=dval r1 / V) (h2:dval r2=dval r1-q*V) (hd:dgs r2) (ht:trd r2) (hu:dgs u):QuoI u (qs.set j q) r2 V j:=by
 have hV:0<V:=Nat.lt_of_le_of_lt (Nat.zero_le _) h.lt;have h3:=dgs_getD hu j;have hqd:=Nat.div_add_mod (dval r1) V;rw [← hq] at hqd;have hm:=Nat.mod_lt (dval r1) hV;have hle:q*V≤dval r1:=(by rw [Nat.mul_comm]; omega);have hqb:q<16777216:=by
  rw [hq];refine Nat.div_lt_of_lt_mul ?_;have:=h.lt;rw [h1];have h5:16777216*(dval rest+1)≤16777216*V:=Nat.mul_le_mul_left _ this;rw [Nat.mul_comm V];omega
 refine ⟨by simp [h.len],dgs_set h.ds _ hqb,?_,by rw [h2]; rw [Nat.mul_comm] at hle ⊢; omega,fun t ht=>by rw [getD_setN _ _ _ _ (by omega)]; exact h.zero t (by omega),hd,ht⟩;have hl:j<(qs.set j q).length:=(by simp [h.len,hj]);rw [drop_getD hj,drop_getD hl];have e1:(qs.set j q).getD j 0=q:=by
  rw [List.getD_eq_getElem?_getD,List.getElem?_set_self (by rw [h.len]; exact hj)]; rfl
 have e2:(qs.set j q).drop (j+1)=qs.drop (j+1):=(by rw [List.drop_set_of_lt (by omega)]);rw [e1,e2];simp only [dval];rw [h.eq,Nat.add_mul,h2,h1,Nat.mul_add,Nat.mul_assoc];rw [h1] at hle;omega
theorem QuoI.start (u:List Nat) {V:Nat} (hV:0<V):QuoI u (List.replicate u.length 0) [] V u.length:=by
 refine ⟨by simp,fun d hd=>by rw [List.eq_of_mem_replicate hd]; decide,by simp [dval],by simpa [dval] using hV,fun t _ => ?_,by simp [dgs],by simp [trd]⟩;rw [List.getD_eq_getElem?_getD,List.getElem?_replicate];split <;> rfl
theorem QuoI.fin {u qs rest:List Nat} {V:Nat} (h:QuoI u qs rest V 0):dval qs=dval u / V∧dval rest=dval u % V:=by
 have h1:=h.eq;have h2:=h.lt;simp only [List.drop_zero] at h1;have hV:0<V:=(by omega);constructor
 ·rw [h1,Nat.mul_comm,Nat.mul_add_div hV,Nat.div_eq_of_lt h2,Nat.add_zero]
 ·rw [h1,Nat.mul_comm,Nat.mul_add_mod,Nat.mod_eq_of_lt h2]
/- Plans of questions: lists of numbers in memory; how many inputs there are; the numbers of all programs; equal lists of ints. Conditions: the arguments read as data. -/

def inpS (l:List (List Val)):Nat:=(l.head?.map List.length).getD 0
def OwnN (w:World) (base:Nat) (A:Option Addr) (c:Nat) (l:List Nat):Prop:=Own w base 3 1 A l.length c ((nums l).map (Value.int .i64))
def RetN (w:World) (l:List Nat) (e:Ending) (w':World):Prop:=∃ (A:Option Addr) (c:Nat),e=.returned (.slice A l.length c)∧OwnN w' w.heap.size A c l∧Ext w w'
theorem question_inputs (d:Nat) (l:List (List Val)) (A:Option Addr) (c:Nat) (w:World) (S:Nat→Prop) (h:Rows w S d A l):Calls Tryz.prog 50 #[.slice A l.length c] w (SameI w (inpS l:Int)):=by
 have H:=Hd h;have hl:=h.len;clear h;cases l with
 | nil =>
  go_enter Tryz.func50,Tryz.ntmps50
  go_wp2;go_ret;exact ⟨rfl,rfl⟩
 | cons r l =>
  obtain ⟨b,o,C,e,hB,hb,hc,hcp,hr⟩:=H.o.at_ (k:=0) (by simp);have hrl:=hr.len;subst hB;have hc0:w.cell? ⟨b,o,none⟩=some (.slice C r.length e):=(by simpa using hc);have hne:(((r :: l).length:Int)==0)=false:=(by simp; omega);have hlt:(0:Int)<((r :: l).length:Int):=(by simp);have HN:=Hd (show inpS (r :: l)=r.length by rfl);have hrl2:r.length≤4294967296:=(by simpa using hrl);clear hc hr hrl hcp;obtain ⟨n,hn⟩:∃ n,n=(r :: l).length:=⟨_,rfl⟩;rw [← hn] at hl hne hlt ⊢;clear hn
  go_enter Tryz.func50,Tryz.ntmps50
  go_wp2;go_ret;exact ⟨by rw [HN.o]; rfl,rfl⟩
theorem r25_Inputs (d:Nat) (l:List (List Val)) (A:Option Addr) (c:Nat) (w:World) (S:Nat→Prop) (h:Rows w S d A l):Calls Tryz.prog 18 #[.slice A l.length c] w (SameI w (inpS l:Int)):=by
 have H:=Hd h;have hl:=h.len;clear h;cases l with
 | nil =>
  go_enter Tryz.func18,Tryz.ntmps18
  go_wp2;go_ret;exact ⟨rfl,rfl⟩
 | cons r l =>
  obtain ⟨b,o,C,e,hB,hb,hc,hcp,hr⟩:=H.o.at_ (k:=0) (by simp);have hrl:=hr.len;subst hB;have hc0:w.cell? ⟨b,o,none⟩=some (.slice C r.length e):=(by simpa using hc);have hne:(((r :: l).length:Int)==0)=false:=(by simp; omega);have hlt:(0:Int)<((r :: l).length:Int):=(by simp);have HN:=Hd (show inpS (r :: l)=r.length by rfl);have hrl2:r.length≤4294967296:=(by simpa using hrl);clear hc hr hrl hcp;obtain ⟨n,hn⟩:∃ n,n=(r :: l).length:=⟨_,rfl⟩;rw [← hn] at hl hne hlt ⊢;clear hn
  go_enter Tryz.func18,Tryz.ntmps18
  go_wp2;go_ret;exact ⟨by rw [HN.o]; rfl,rfl⟩
set_option maxHeartbeats 1000000 in
theorem r25_All (n:Nat) (hn:n≤4294967295) (w:World):Calls Tryz.prog 30 #[.int .i64 (n:Int)] w (RetN w (List.range n)):=by
 go_enter Tryz.func30,Tryz.ntmps30
 go_wp2
 go_loopw [3,4] (fun o i wr=>∃ (k:Nat) (A':Option Addr) (c':Nat),k≤n∧i=.int .i64 (k:Int)∧o=.slice A' k c'∧Ext w wr∧Own wr w.heap.size 3 1 A' k c' ((nums (List.range k)).map (Value.int .i64))) (fun _ i _=>n-(intOf i).toNat)
 case atStart=>exact ⟨0,none,0,Nat.zero_le _,rfl,rfl,Ext.refl _,Own.nil _ _ _ _⟩
 case round =>
  obtain ⟨k,A',c',hk,rfl,rfl,hx,ho⟩:=hrel;have HX:=Hd hx;have HO:=Hd ho;have hsz:=hx.size;clear hx ho;by_cases hlt:k<n
  ·go_wp2_with (at_builtin; go_must (refine wpList_app rfl (.tmp 10) (.tmp 12) rfl tiI rfl (HO.o.ext ((Ext.refl wr).alloc _)) rfl (Blk.rd (Blk.new _ _ _)) rfl (by simp [Value.oneCell']) (by omega) (by decide) (by simp; omega) ?_); intro A4 c4 w4 hown4 hg4 hat4)
   go_roundw
   case rel =>
    refine ⟨k+1,A4,c4,by omega,by go_num,rfl,(HX.o.alloc _).grown hg4 fun b hb=>(HO.o.blk hb).1,?_⟩;rw [List.range_succ,nums_snoc]
    simpa using hown4
   case measure=>simp [intOf]; omega
  ·obtain rfl:k=n:=by omega
   go_wp2;go_ret;exact ⟨A',c',by rw [List.length_range]; rfl,by unfold OwnN; rw [List.length_range]; exact HO.o,HX.o⟩
set_option maxHeartbeats 1000000 in
theorem r13_Ints (a b:List Int) (A B:Option Addr) (c e:Nat) (w:World) (S T:Nat→Prop) (ha:Ints w S A a) (hb:Ints w T B b):Calls Tryz.prog 22 #[.slice A a.length c,.slice B b.length e] w (RetB w (decide (a=b))):=by
 have HA:=Hd ha;have HB:=Hd hb;have hal:=ha.2;have hbl:=hb.2;clear ha hb;by_cases hl:a.length=b.length
 ·have HL:=Hd hl;have hlb:((a.length:Int) != (b.length:Int))=false:=(by rw [hl]; simp);clear hl
  go_enter Tryz.func22,Tryz.ntmps22
  go_wp2
  go_loopw [5] (fun i wr=>∃ k:Nat,k≤a.length∧a.take k=b.take k∧i=.int .i64 (k:Int)∧Ext w wr) (fun i _=>a.length-(intOf i).toNat)
  case atStart=>exact ⟨0,Nat.zero_le _,by simp,rfl,Ext.refl _⟩
  case round =>
   obtain ⟨k,hk,hpre,rfl,hx⟩:=hrel;have HX:=Hd hx;have HP:=Hd hpre;clear hx hpre;by_cases hlt:k<a.length
   ·have hlt2:k<b.length:=(by rw [← HL.o]; exact hlt);obtain ⟨b1,o1,hA,hb1,hc1⟩:=(HA.o.keep (HX.o.kept _)).at_ hlt;obtain ⟨b2,o2,hB,hb2,hc2⟩:=(HB.o.keep (HX.o.kept _)).at_ hlt2;subst hA hB;obtain ⟨x,hxe⟩:∃ x,x=a[k]:=⟨_,rfl⟩;obtain ⟨y,hye⟩:∃ y,y=b[k]:=⟨_,rfl⟩;rw [← hxe] at hc1;rw [← hye] at hc2;have HXE:=Hd hxe;have HYE:=Hd hye;have i0:(0:Int)≤(k:Int):=(by omega);have i1:(k:Int)<(a.length:Int):=(by omega);have i2:(k:Int)<(b.length:Int):=(by omega);clear hxe hye;by_cases hxy:x=y
    ·have hb0:(x != y)=false:=(by rw [hxy]; simp);have HXY:=Hd hxy;clear hxy
     go_wp2_with fail
     go_quiet (fail)
     go_wp2;go_roundw
     case rel=>exact ⟨k+1,by omega,by rw [List.take_succ_eq_append_getElem hlt,List.take_succ_eq_append_getElem hlt2,HP.o,← HXE.o,← HYE.o,HXY.o],by go_num,HX.o.trans ((Ext.refl _).drewN _)⟩
     case measure=>simp [intOf]; omega
    ·have hb0:(x != y)=true:=(by rw [bne_iff_ne]; exact hxy);have HF:=Hd (show decide (a=b)=false by
      rw [decide_eq_false_iff_not];intro e;apply hxy;rw [HXE.o,HYE.o];subst e;rfl)
     clear hxy
     go_wp2_with fail
     go_quiet (fail)
     go_wp2;go_ret;exact ⟨by rw [HF.o]; rfl,HX.o.trans ((Ext.refl _).drewN _)⟩
   ·have HF:=Hd (show decide (a=b)=true by
     have h:=HP.o;have hL:=HL.o;rw [List.take_of_length_le (by omega),List.take_of_length_le (by omega)] at h;rw [h]; simp)
    go_wp2;go_ret;exact ⟨by rw [HF.o]; rfl,HX.o⟩
 ·have hlb:((a.length:Int) != (b.length:Int))=true:=(by rw [bne_iff_ne]; omega);have HF:=Hd (show decide (a=b)=false by rw [decide_eq_false_iff_not]; intro e; exact hl (by rw [e]));clear hl
  go_enter Tryz.func22,Tryz.ntmps22
  go_wp2;go_ret;exact ⟨by rw [HF.o]; rfl,Ext.refl _⟩
end Go.Proofs.YtomdpipekmcojaaGreatDoor
