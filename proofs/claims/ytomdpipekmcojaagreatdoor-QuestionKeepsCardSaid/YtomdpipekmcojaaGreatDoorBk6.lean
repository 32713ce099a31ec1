/- cmp.Compare, cmp.Or and the program's decimal.Cmp: the order of the numbers of millionths. Conditions: the variable tens holds the powers of ten. -/
import Derived.Test.YtomdpipekmcojaaGreatDoorBk5
import Derived.Sort.Walk0
import Derived.Lib.Bytealg
import Derived.Deep.DeepCutAuto
import Derived.Laws.EntriesVeiled
namespace Go.Proofs.YtomdpipekmcojaaGreatDoor
open Go Go.RowKit

def cmpI (a b:Int):Int:=if a<b then -1 else if b<a then 1 else 0
set_option maxRecDepth 100000 in
set_option maxHeartbeats 400000 in
theorem cmp_isNaN (a:Int) (w:World):Calls Tryz.prog 201 #[.int .i64 a] w (SameB w false):=by
 have h:(a != a)=false:=by simp
 go_enter Tryz.func201,Tryz.ntmps201
 go_wp2;go_ret;exact ⟨by simp,rfl⟩
set_option maxRecDepth 100000 in
set_option maxHeartbeats 400000 in
theorem cmp_Compare (a b:Int) (w:World):Calls Tryz.prog 182 #[.int .i64 a,.int .i64 b] w (SameI w (cmpI a b)):=by
 by_cases h1:a<b
 ·have HF:=Hd (show cmpI a b=-1 by simp [cmpI,h1])
  go_enter Tryz.func182,Tryz.ntmps182
  go_wp2_with (go_at_call 201; refine (cmp_isNaN _ _).mono ?_; rintro e w' ⟨rfl,rfl⟩)
  go_ret;exact ⟨by rw [HF.o]; rfl,rfl⟩
 by_cases h2:b<a
 ·have HF:=Hd (show cmpI a b=1 by simp [cmpI,h1,h2])
  go_enter Tryz.func182,Tryz.ntmps182
  go_wp2_with (go_at_call 201; refine (cmp_isNaN _ _).mono ?_; rintro e w' ⟨rfl,rfl⟩)
  go_ret;exact ⟨by rw [HF.o]; rfl,rfl⟩
 ·have HF:=Hd (show cmpI a b=0 by simp [cmpI,h1,h2])
  go_enter Tryz.func182,Tryz.ntmps182
  go_wp2_with (go_at_call 201; refine (cmp_isNaN _ _).mono ?_; rintro e w' ⟨rfl,rfl⟩)
  go_ret;exact ⟨by rw [HF.o]; rfl,rfl⟩
def orI (a b:Int):Int:=if a≠0 then a else b
set_option maxRecDepth 100000 in
set_option maxHeartbeats 400000 in
theorem cmp_Or (a b:Int) (g c:Nat) (w:World) (h0:w.cell? ⟨g,0,none⟩=some (.int .i64 a)) (h1:w.cell? ⟨g,1,none⟩=some (.int .i64 b)):Calls Tryz.prog 181 #[.slice (some ⟨g,0,none⟩) 2 c] w (SameI w (orI a b)):=by
 by_cases ha:a=0
 ·have ha':(a != 0)=false:=(by simp [ha]);by_cases hb:b=0
  ·have hb':(b != 0)=false:=(by simp [hb]);have HF:=Hd (show orI a b=0 by simp [orI,ha,hb]);clear ha hb
   go_enter Tryz.func181,Tryz.ntmps181
   go_wp2;refine wp_loop_rounds 3 ?_;rw [rounds_succ];go_wp2;rw [rounds_succ];go_wp2;rw [rounds_succ];go_wp2;go_ret;exact ⟨by rw [HF.o]; rfl,rfl⟩
  ·have hb':(b != 0)=true:=(by simp [hb]);have HF:=Hd (show orI a b=b by simp [orI,ha]);clear ha hb
   go_enter Tryz.func181,Tryz.ntmps181
   go_wp2;refine wp_loop_rounds 2 ?_;rw [rounds_succ];go_wp2;rw [rounds_succ];go_wp2;go_ret;exact ⟨by rw [HF.o]; rfl,rfl⟩
 ·have ha':(a != 0)=true:=(by simp [ha]);have HF:=Hd (show orI a b=a by simp [orI,ha]);clear ha
  go_enter Tryz.func181,Tryz.ntmps181
  go_wp2;refine wp_loop_rounds 1 ?_;rw [rounds_succ];go_wp2;go_ret;exact ⟨by rw [HF.o]; rfl,rfl⟩
theorem cmp_mu (u v:Int):orI (cmpI (u.tdiv 1000000) (v.tdiv 1000000)) (cmpI (u.tmod 1000000) (v.tmod 1000000))=cmpI u v:=by
 obtain ⟨a1,a2,a3,a4,a5⟩:=tdm u 1000000 (by decide);obtain ⟨b1,b2,b3,b4,b5⟩:=tdm v 1000000 (by decide);generalize u.tdiv 1000000=x at *;generalize v.tdiv 1000000=y at *;generalize u.tmod 1000000=f at *;generalize v.tmod 1000000=g at *;unfold orI cmpI;by_cases h1:x<y
 ·rw [if_pos h1,if_pos (by decide),if_pos (by omega)]
 ·by_cases h2:y<x
  ·rw [if_neg h1,if_pos h2,if_pos (by decide),if_neg (by omega),if_pos (by omega)]
  ·rw [if_neg h1,if_neg h2,if_neg (by decide)];by_cases h3:f<g
   ·rw [if_pos h3,if_pos (by omega)]
   ·by_cases h4:g<f
    ·rw [if_neg h3,if_pos h4,if_neg (by omega),if_pos (by omega)]
    ·rw [if_neg h3,if_neg h4,if_neg (by omega),if_neg (by omega)]
set_option maxRecDepth 100000 in
set_option maxHeartbeats 400000 in
theorem decimal_Cmp (a b a' b':Int) (w:World) (ht:Tens w):Calls Tryz.prog 138 #[.agg #[.int .i64 a,.int .i64 b],.agg #[.int .i64 a',.int .i64 b']] w (RetI w (cmpI (mu a b) (mu a' b'))):=by
 have HT:=Hd ht;clear ht
 go_enter Tryz.func138,Tryz.ntmps138
 go_wp2_with fail
 refine (decimal_split a b _ (HT.o.ext (((Ext.refl w).alloc _).alloc _))).mono ?_;rintro e1 w1 ⟨rfl,hx1⟩;have HX1:=Hd ((((Ext.refl w).alloc _).alloc _).trans hx1);have hb:=(Blk.new (w.alloc (.cells #[.int .i64 a,.int .i64 b] 44)) 44 #[.int .i64 a',.int .i64 b']).keep (hx1.kept _);have c0:=hb.cell (i:=0) rfl;have c1:=hb.cell (i:=1) rfl;simp at c0 c1;clear hb hx1
 go_wp2_with fail
 refine (decimal_split a' b' _ (HT.o.ext HX1.o)).mono ?_;rintro e1 w2 ⟨rfl,hx2⟩;have HX2:=Hd (HX1.o.trans hx2);have HC:=Hd (cmp_mu (mu a b) (mu a' b'));clear hx2 c0 c1;generalize (mu a b).tdiv 1000000=x at *;generalize (mu a b).tmod 1000000=f at *;generalize (mu a' b').tdiv 1000000=y at *;generalize (mu a' b').tmod 1000000=g at *
 go_wp2_with (first | (go_at_call 182; refine (cmp_Compare _ _ _).mono ?_; rintro e w' ⟨rfl,rfl⟩))
 refine (cmp_Or (cmpI x y) (cmpI f g) _ _ _ ?_ ?_).mono ?_
 ·simp [go_sem]
 ·simp [go_sem]
 rintro e w' ⟨rfl,rfl⟩;go_wp2;go_ret;exact ⟨by rw [← HC.o]; rfl,HX2.o.alloc _⟩
/- The order of flat values: how the program compares two values of one kind. Conditions: the table of tens is there for decimals. -/

def cmpS (x y:ByteArray):Int:=Lib.compareBytes x.data.toList y.data.toList
def lessK (x y:Val):Bool :=
 if x.kind≠y.kind then decide (x.kind<y.kind) else if x.kind=1 then decide (cmpS x.s y.s<0) else if x.kind=2 then decide (cmpI (mu x.dn x.ds) (mu y.dn y.ds)<0) else decide (cmpI x.n y.n<0)
def lessF (x y:Val):Bool:=if (flatB x && flatB y)=true then lessK x y else flatB x
set_option maxRecDepth 100000 in
theorem cmpstringQ (a b:ByteArray) (w:World):Calls Tryz.prog 233 #[.string a,.string b] w fun e w'=>e=.returned (.int .i64 (cmpS a b))∧w'=w:=by
 go_enter Tryz.func233,Tryz.ntmps233
 go_wp2;rw [run_callFunc_extern Tryz.func260 (by kernel_rfl) (by kernel_rfl) (by kernel_rfl) (e:=Extern.BytealgCompare.compare) (by kernel_rfl),Lib.run_compareString];simp only [Result.andThen];rw [Oper.upon_value];go_wp2;go_ret;exact ⟨rfl,rfl⟩
set_option maxRecDepth 100000 in
theorem strings_CompareQ (a b:ByteArray) (w:World):Calls Tryz.prog 206 #[.string a,.string b] w fun e w'=>e=.returned (.int .i64 (cmpS a b))∧w'=w:=by
 go_enter Tryz.func206,Tryz.ntmps206
 go_wp2_with fail
 refine (cmpstringQ a b w).mono ?_;rintro e1 w1 ⟨rfl,rfl⟩;go_wp2;go_ret;exact ⟨rfl,rfl⟩
set_option maxRecDepth 100000 in
theorem orders_1 (x y:Val) (A B A' B':Option Addr) (c e c' e':Nat) (w:World):Calls Tryz.prog 204 #[(.agg #[.int .i64 x.kind,.string x.s,.int .i64 x.dn,.int .i64 x.ds,.int .i64 x.n,.slice A x.cols.length c,.slice B x.rows.length e]),(.agg #[.int .i64 y.kind,.string y.s,.int .i64 y.dn,.int .i64 y.ds,.int .i64 y.n,.slice A' y.cols.length c',.slice B' y.rows.length e'])] w (RetI w (cmpI x.n y.n)):=by
 go_enter Tryz.func204,Tryz.ntmps204
 go_wp2_with fail
 refine (cmp_Compare x.n y.n _).mono ?_;rintro e1 w1 ⟨rfl,rfl⟩;go_wp2;go_ret;exact ⟨rfl,((Ext.refl _).alloc _).alloc _⟩
set_option maxRecDepth 100000 in
theorem orders_2 (x y:Val) (A B A' B':Option Addr) (c e c' e':Nat) (w:World):Calls Tryz.prog 205 #[(.agg #[.int .i64 x.kind,.string x.s,.int .i64 x.dn,.int .i64 x.ds,.int .i64 x.n,.slice A x.cols.length c,.slice B x.rows.length e]),(.agg #[.int .i64 y.kind,.string y.s,.int .i64 y.dn,.int .i64 y.ds,.int .i64 y.n,.slice A' y.cols.length c',.slice B' y.rows.length e'])] w (RetI w (cmpS x.s y.s)):=by
 go_enter Tryz.func205,Tryz.ntmps205
 go_wp2_with fail
 refine (strings_CompareQ x.s y.s _).mono ?_;rintro e1 w1 ⟨rfl,rfl⟩;go_wp2;go_ret;exact ⟨rfl,((Ext.refl _).alloc _).alloc _⟩
set_option maxRecDepth 100000 in
theorem orders_3 (x y:Val) (A B A' B':Option Addr) (c e c' e':Nat) (w:World) (ht:Tens w):Calls Tryz.prog 207 #[(.agg #[.int .i64 x.kind,.string x.s,.int .i64 x.dn,.int .i64 x.ds,.int .i64 x.n,.slice A x.cols.length c,.slice B x.rows.length e]),(.agg #[.int .i64 y.kind,.string y.s,.int .i64 y.dn,.int .i64 y.ds,.int .i64 y.n,.slice A' y.cols.length c',.slice B' y.rows.length e'])] w (RetI w (cmpI (mu x.dn x.ds) (mu y.dn y.ds))):=by
 have HT:=Hd (ht.ext (((Ext.refl w).alloc (.cells #[.int .i64 x.kind,.string x.s,.int .i64 x.dn,.int .i64 x.ds,.int .i64 x.n,.slice A x.cols.length c,.slice B x.rows.length e] 47)).alloc (.cells #[.int .i64 y.kind,.string y.s,.int .i64 y.dn,.int .i64 y.ds,.int .i64 y.n,.slice A' y.cols.length c',.slice B' y.rows.length e'] 47)));clear ht
 go_enter Tryz.func207,Tryz.ntmps207
 go_wp2_with fail
 refine (decimal_Cmp x.dn x.ds y.dn y.ds _ HT.o).mono ?_;rintro e1 w1 ⟨rfl,hx1⟩;have HX:=Hd ((((Ext.refl w).alloc (.cells #[.int .i64 x.kind,.string x.s,.int .i64 x.dn,.int .i64 x.ds,.int .i64 x.n,.slice A x.cols.length c,.slice B x.rows.length e] 47)).alloc (.cells #[.int .i64 y.kind,.string y.s,.int .i64 y.dn,.int .i64 y.ds,.int .i64 y.n,.slice A' y.cols.length c',.slice B' y.rows.length e'] 47)).trans hx1);clear hx1;go_wp2;go_ret;exact ⟨rfl,HX.o⟩
/- The program's table of orders. No conditions. -/

abbrev fnV (f:Nat):Value:=.func (.func f) #[] #[]
abbrev encN:Int→Value:=fun n:Int=>Value.int .i64 n
def RetO (w:World) (e:Ending) (w':World):Prop:=∃ (g:Nat) (m:List (Int × Value)),e=.returned (.map (some g))∧MapIs w' g encN m∧w.heap.size≤g∧Ext w w' ∧
 mget m 0=some (.agg #[fnV 204])∧mget m 1=some (.agg #[fnV 205])∧mget m 2=some (.agg #[fnV 207])∧mget m 3=some (.agg #[fnV 204])∧mget m 4=some (.agg #[fnV 204])
set_option maxRecDepth 100000 in
set_option maxHeartbeats 2000000 in
theorem value_orders (w:World):Calls Tryz.prog 163 #[] w (RetO w):=by
 have hmm:=@run_makeMap Tryz.prog;obtain ⟨w1,hw1⟩:∃ w1,w1=w.alloc (.cells #[fnV 204] 190):=⟨_,rfl⟩;have hb1:Blk w1 w.heap.size 190 #[fnV 204]:=(by rw [hw1]; exact Blk.new _ _ _);obtain ⟨w2,hw2⟩:∃ w2,w2=w1.alloc (.map #[] 0):=⟨_,rfl⟩;obtain ⟨g,hg⟩:∃ g,g=w1.heap.size:=⟨_,rfl⟩;have hb2:Blk w2 w.heap.size 190 #[fnV 204]:=hb1.keep (by rw [hw2]; exact Kept.alloc _ _ _);have hm2:MapIs w2 g encN []:=(by rw [hw2,hg]; exact MapIs.made _ _);have hx2:Ext w w2:=(by rw [hw2,hw1]; exact ((Ext.refl _).alloc _).alloc _);have hgw:w.heap.size<g:=(by rw [hg,hw1]; simp);obtain ⟨w3,hu3,hm3,hg3⟩:=hm2.put Tryz.underlying191 (klInt Tryz.underlying3) 0 (.agg #[fnV 204]);obtain ⟨w4,hu4,hm4,hg4⟩:=hm3.put Tryz.underlying191 (klInt Tryz.underlying3) 1 (.agg #[fnV 205]);obtain ⟨w5,hu5,hm5,hg5⟩:=hm4.put Tryz.underlying191 (klInt Tryz.underlying3) 2 (.agg #[fnV 207]);have hk:∀ {a b:World},a.grownBy b (some g)→Kept (fun x=>x=w.heap.size) a b:=fun h=>Kept.of_grown h fun x e _ he=>by rw [e] at he; injection he with he; omega
 have hb5:Blk w5 w.heap.size 190 #[fnV 204]:=((hb2.keep (hk hg3)).keep (hk hg4)).keep (hk hg5);obtain ⟨w6,hu6,hm6,hg6⟩:=hm5.put Tryz.underlying191 (klInt Tryz.underlying3) 3 (.agg #[fnV 204]);have hb6:=hb5.keep (hk hg6);obtain ⟨w7,hu7,hm7,hg7⟩:=hm6.put Tryz.underlying191 (klInt Tryz.underlying3) 4 (.agg #[fnV 204]);have hx7:Ext w w7:=by
  have st:∀ {a b:World},Ext w a→a.grownBy b (some g)→Ext w b:=fun h k=>h.grown k fun x hx=>by injection hx with hx; omega
  exact st (st (st (st (st hx2 hg3) hg4) hg5) hg6) hg7
 have hgl:g<w7.heap.size:=hm7.lt;have HX7:=Hd hx7;have HM7:=Hd hm7;have q1:=hb1.cell (i:=0) rfl;have l1:=hb1.lt;rw [hw2] at hu3;have q5:=hb5.cell (i:=0) rfl;have q6:=hb6.cell (i:=0) rfl;have l5:=hb5.lt;have l6:=hb6.lt;have HW1:=Hd hw1;have HW2:=Hd hw2;have HG:=Hd hg;clear hx7 hm7 hm6 hm5 hm4 hm3 hm2 hg3 hg4 hg5 hg6 hg7 hb1 hb2 hb5 hb6 hx2 hk hw1 hw2 hg
 go_enter Tryz.func163,Tryz.ntmps163
 go_upto_region 2 with fail
 rw [← HW1.o];rw [HG.o] at hu3 hu4 hu5 hu6 hu7
 go_upto_region 3 with fail
 clear hu3 hu4 hu5 hu6 hu7 q1 q5 q6 l1 l5 l6 hmm;rw [← HG.o]
 go_upto_region 5 with fail
 obtain ⟨w8,hw8⟩:∃ w8,w8=w7.alloc (.cells #[.map (some g)] 191):=⟨_,rfl⟩;have hb8:Blk w8 w7.heap.size 191 #[.map (some g)]:=(by rw [hw8]; exact Blk.new _ _ _);rw [← hw8];obtain ⟨w10,hw10⟩:∃ w10,w10=(w8.alloc (.cells #[.func (.func 208) #[] #[.pointer (some ⟨w7.heap.size,0,none⟩)]] 188)).alloc (.cells #[.func (.func 209) #[] #[.pointer (some ⟨w7.heap.size+1,0,none⟩)]] 230):=⟨_,rfl⟩;rw [← hw10];have hx10:Ext w8 w10:=(by rw [hw10]; exact ((Ext.refl _).alloc _).alloc _);have hx78:Ext w7 w8:=(by rw [hw8]; exact (Ext.refl _).alloc _);have hb10:=hb8.keep (hx10.kept _);have hm10:=HM7.o.keep ((hx78.trans hx10).kept _);obtain ⟨w11,hu11,hm11,hg11⟩:=hm10.put Tryz.underlying191 (klInt Tryz.underlying3) 5 (.agg #[.func (.func 211) #[] #[.pointer (some ⟨w7.heap.size+1+1,0,none⟩)]]);have hb11:=hb10.keep (Kept.of_grown hg11 (S:=fun b=>b=w7.heap.size) fun x e _ he=>by rw [e] at he; injection he with he; omega);have HX11:=Hd ((HX7.o.trans (hx78.trans hx10)).grown hg11 fun x hx=>by injection hx with hx; omega);have HM11:=Hd hm11;have q10:=hb10.cell (i:=0) rfl;have l10:=hb10.lt;have q11:=hb11.cell (i:=0) rfl;have l11:=hb11.lt;have hsz:w10.heap.size=w7.heap.size+1+1+1:=(by rw [hw10,hw8]; simp);clear hw8 hw10 hx10 hx78 hb8 hb10 hb11 hm10 hm11 hg11 hsz;go_wp2;go_ret;exact ⟨g,_,rfl,HM11.o,by omega,HX11.o,rfl,rfl,rfl,rfl,rfl⟩
/- The program's Less of values that are no tables. Conditions: the table of tens is there. -/

def IsMp (K:Int) (V:Value) (v:Value) (γ:Gh) (w:World):Prop:=∃ (g:Nat) (m:List (Int × Value)),v=.map (some g)∧MapIs w g encN m∧mget m K=some V∧Free γ g
theorem IsMp.stab {K:Int} {V:Value} : ∀ v γ w γ' w',LX (fun _ _=>False) γ w γ' w'→IsMp K V v γ w→IsMp K V v γ' w':=by
 rintro v γ w γ' w' r ⟨g,m,h1,h2,h3,h4⟩;exact ⟨g,m,h1,h2.keep (r.keptS fun b _ e=>⟨by rw [e]; exact h4,fun _ h=>h.elim⟩),h3,r.free h2.lt h4⟩
theorem zeroOrd (w:World):(zeroValue 190).run Tryz.prog w=.ok (.agg #[.nilFunc]) w:=by kernel_rfl
theorem flatB_kind {x:Val} (h:flatB x=true):x.kind=0∨x.kind=1∨x.kind=2∨x.kind=3∨x.kind=4:=by
 unfold flatB at h;by_cases h0:x.kind=0
 ·exact .inl h0
 by_cases h1:x.kind=1
 ·exact .inr (.inl h1)
 by_cases h2:x.kind=2
 ·exact .inr (.inr (.inl h2))
 by_cases h3:x.kind=3
 ·exact .inr (.inr (.inr (.inl h3)))
 by_cases h4:x.kind=4
 ·exact .inr (.inr (.inr (.inr h4)))
 ·rw [if_neg h0,if_neg h1,if_neg h2,if_neg h3,if_neg h4] at h; cases h
set_option maxRecDepth 100000 in
set_option maxHeartbeats 4000000 in
theorem value_Less (x y:Val) (A B A' B':Option Addr) (c e c' e':Nat) (w:World) (hx5:x.kind≠5) (hy5:y.kind≠5) (hsx:x.s.size≤4294967296) (hsy:y.s.size≤4294967296) (ht:Tens w) :
  Calls Tryz.prog 117 #[(.agg #[.int .i64 x.kind,.string x.s,.int .i64 x.dn,.int .i64 x.ds,.int .i64 x.n,.slice A x.cols.length c,.slice B x.rows.length e]),(.agg #[.int .i64 y.kind,.string y.s,.int .i64 y.dn,.int .i64 y.ds,.int .i64 y.n,.slice A' y.cols.length c',.slice B' y.rows.length e'])] w (RetB w (lessF x y)):=by
 obtain ⟨w0,hw0⟩:∃ w0,w0=(w.alloc (.cells #[.int .i64 x.kind,.string x.s,.int .i64 x.dn,.int .i64 x.ds,.int .i64 x.n,.slice A x.cols.length c,.slice B x.rows.length e] 47)).alloc (.cells #[.int .i64 y.kind,.string y.s,.int .i64 y.dn,.int .i64 y.ds,.int .i64 y.n,.slice A' y.cols.length c',.slice B' y.rows.length e'] 47):=⟨_,rfl⟩;obtain ⟨g1,hg1⟩:∃ g1,g1=w.heap.size:=⟨_,rfl⟩;obtain ⟨g2,hg2⟩:∃ g2,g2=w.heap.size+1:=⟨_,rfl⟩;have HW0:=Hd hw0;have HG1:=Hd hg1;have HG2:=Hd hg2;have HB1:=Hd (show Blk w0 g1 47 #[.int .i64 x.kind,.string x.s,.int .i64 x.dn,.int .i64 x.ds,.int .i64 x.n,.slice A x.cols.length c,.slice B x.rows.length e] by rw [hw0,hg1]; exact (Blk.new _ _ _).keep (Kept.alloc _ _ _));have HB2:=Hd (show Blk w0 g2 47 #[.int .i64 y.kind,.string y.s,.int .i64 y.dn,.int .i64 y.ds,.int .i64 y.n,.slice A' y.cols.length c',.slice B' y.rows.length e'] by
  rw [hw0,hg2];have:=Blk.new (w.alloc (.cells #[.int .i64 x.kind,.string x.s,.int .i64 x.dn,.int .i64 x.ds,.int .i64 x.n,.slice A x.cols.length c,.slice B x.rows.length e] 47)) 47 #[.int .i64 y.kind,.string y.s,.int .i64 y.dn,.int .i64 y.ds,.int .i64 y.n,.slice A' y.cols.length c',.slice B' y.rows.length e']
  simpa using this)
 have HX0:=Hd (show Ext w w0 by rw [hw0]; exact ((Ext.refl w).alloc _).alloc _);have HT:=Hd ht;clear hw0 hg1 hg2 ht
 go_enter Tryz.func117,Tryz.ntmps117
 go_wp2_with fail
 rw [← HW0.o];refine (value_Right_flat x A B c e w0 hx5 hsx).mono ?_;rintro e1 w1 ⟨rfl,hx1⟩;have HX1:=Hd (HX0.o.trans hx1);have HB1a:=Hd (HB1.o.keep (hx1.kept _));have HB2a:=Hd (HB2.o.keep (hx1.kept _));rw [← HG2.o,← HG1.o];have p0:=HB1a.o.cell (i:=0) rfl;have p1:=HB1a.o.cell (i:=1) rfl;have p2:=HB1a.o.cell (i:=2) rfl;have p3:=HB1a.o.cell (i:=3) rfl;have p4:=HB1a.o.cell (i:=4) rfl;have p5:=HB1a.o.cell (i:=5) rfl;have p6:=HB1a.o.cell (i:=6) rfl;have pz:=HB1a.o.lt;have q0:=HB2a.o.cell (i:=0) rfl;have q1:=HB2a.o.cell (i:=1) rfl;have q2:=HB2a.o.cell (i:=2) rfl;have q3:=HB2a.o.cell (i:=3) rfl;have q4:=HB2a.o.cell (i:=4) rfl;have q5:=HB2a.o.cell (i:=5) rfl;have q6:=HB2a.o.cell (i:=6) rfl;have qz:=HB2a.o.lt;clear hx1 HB1 HB2 HX0 HW0;cases hfx:flatB x
 ·have HF:=Hd (show lessF x y=false by simp [lessF,hfx]);have HFX:=Hd hfx;clear hfx
  go_wp2_with fail
  refine (value_Right_flat x A B c e w1 hx5 hsx).mono ?_;rintro e2 w2 ⟨rfl,hx2⟩;rw [HFX.o];have HX2:=Hd (HX1.o.trans hx2);clear hx2;go_wp2;go_ret;exact ⟨by rw [HF.o]; rfl,HX2.o⟩
 ·have HFX:=Hd hfx;clear hfx
  go_wp2_with fail
  refine (value_Right_flat y A' B' c' e' w1 hy5 hsy).mono ?_;rintro e2 w2 ⟨rfl,hx2⟩;have HX2:=Hd (HX1.o.trans hx2);have HB1b:=Hd (HB1a.o.keep (hx2.kept _));have HB2b:=Hd (HB2a.o.keep (hx2.kept _));clear hx2 HB1a HB2a HX1 p0 p1 p2 p3 p4 p5 p6 pz q0 q1 q2 q3 q4 q5 q6 qz;have r0:=HB1b.o.cell (i:=0) rfl;have r1:=HB1b.o.cell (i:=1) rfl;have r2:=HB1b.o.cell (i:=2) rfl;have r3:=HB1b.o.cell (i:=3) rfl;have r4:=HB1b.o.cell (i:=4) rfl;have r5:=HB1b.o.cell (i:=5) rfl;have r6:=HB1b.o.cell (i:=6) rfl;have rz:=HB1b.o.lt;have s0:=HB2b.o.cell (i:=0) rfl;have s1:=HB2b.o.cell (i:=1) rfl;have s2:=HB2b.o.cell (i:=2) rfl;have s3:=HB2b.o.cell (i:=3) rfl;have s4:=HB2b.o.cell (i:=4) rfl;have s5:=HB2b.o.cell (i:=5) rfl;have s6:=HB2b.o.cell (i:=6) rfl;have sz:=HB2b.o.lt;cases hfy:flatB y
  ·have HF:=Hd (show lessF x y=true by simp [lessF,hfy,HFX.o]);clear hfy
   go_wp2_with fail
   refine (value_Right_flat x A B c e w2 hx5 hsx).mono ?_;rintro e3 w3 ⟨rfl,hx3⟩;rw [HFX.o];have HX3:=Hd (HX2.o.trans hx3);clear hx3;go_wp2;go_ret;exact ⟨by rw [HF.o]; rfl,HX3.o⟩
  ·have HF:=Hd (show lessF x y=lessK x y by simp [lessF,hfy,HFX.o]);clear hfy;by_cases hk:x.kind=y.kind
   ·have hkb:(x.kind != y.kind)=false:=(by rw [hk]; simp);have hkk:x.kind=1∨x.kind=2∨(x.kind≠1∧x.kind≠2∧(x.kind=0∨x.kind=3∨x.kind=4)):=(by have:=flatB_kind HFX.o; omega);have HK:=Hd hk;clear hk
    rcases hkk with h1 | h1 | ⟨h1,h2,h3⟩
    ·have HF2:=Hd (show lessK x y=decide (cmpS x.s y.s<0) by unfold lessK; rw [if_neg (by rw [HK.o]; simp)]; rw [if_pos h1]);have H1:=Hd h1;clear h1
     go_upto_region 5 with fail
     clear r0 r1 r2 r3 r4 r5 r6 rz s0 s1 s2 s3 s4 s5 s6 sz hkb;refine wp_region_chain (by kernel_rfl) (fun i=>[i]) (by kernel_rfl) (LX (fun _ _=>False)) (LX.refl _) (LX.trans _) (LM []) gh0 (LM.zero _) ?_;refine Chain.step (FP fun v γ w'=>IsMp x.kind (.agg #[fnV 205]) v γ w') (by rfl) (FP.stab ?_) ?_ ?_
     ·exact IsMp.stab
     ·intro vals γ w' ρ hR hN hp hρ hc hf hg;refine ⟨rfl,?_⟩;have HR:=Hd hR;clear hR hN hp hρ;go_light;go_simp;refine (value_orders w').mono ?_;rintro e1 w3 ⟨g,m,he,hm,hgw,hx,o0,o1,o2,o3,o4⟩;exact ⟨_,he,γ,LX.of_ext _ γ hx,fun _ _ _ h=>h,⟨g,m,rfl,hm,by rw [H1.o]; exact o1,fun ⟨k',hk'⟩=>by have:=HR.o.inb0 k' _ hk'; omega⟩⟩
     apply Chain.pure (LX.refl _) (by rfl)
     ·intro vals γ w' ρ hR hN hp hρ hc hf hg;refine ⟨rfl,?_⟩;have e2:=hρ 2;(conv at e2=>rhs; whnf);clear hR hN hp hρ;go_light;go_simp;exact ⟨rfl,rfl⟩
     ·rfl
     apply Chain.pure (LX.refl _) (by rfl)
     ·intro vals γ w' ρ hR hN hp hρ hc hf hg;refine ⟨rfl,?_⟩;have e26:ρ (.tmp 26)=_:=(hρ 26).trans (hp 1 (by decide));have hk:=hR.kept0 (S:=fun b=>b=g1∨b=g2) (fun _ _ _ h=>h);have kx:=HB1b.o.keep (hk.mono fun b _ e=>.inl e);have ky:=HB2b.o.keep (hk.mono fun b _ e=>.inr e);have kx0:=kx.cell (i:=0) rfl;have kx1:=kx.cell (i:=1) rfl;have kx2:=kx.cell (i:=2) rfl;have kx3:=kx.cell (i:=3) rfl;have kx4:=kx.cell (i:=4) rfl;have kx5:=kx.cell (i:=5) rfl;have kx6:=kx.cell (i:=6) rfl;have ky0:=ky.cell (i:=0) rfl;have ky1:=ky.cell (i:=1) rfl;have ky2:=ky.cell (i:=2) rfl;have ky3:=ky.cell (i:=3) rfl;have ky4:=ky.cell (i:=4) rfl;have ky5:=ky.cell (i:=5) rfl;have ky6:=ky.cell (i:=6) rfl;clear hk kx ky hR hN hp hρ;go_light;go_simp;exact ⟨rfl,rfl⟩
     ·rfl
     apply Chain.pure (LX.refl _) (by rfl)
     ·intro vals γ w' ρ hR hN hp hρ hc hf hg;refine ⟨rfl,?_⟩;obtain ⟨gm,m,hv0,hm0,hk0,-⟩:=hp 0 (by decide);have e25:=(hρ 25).trans hv0;have hlk:=hm0.get Tryz.underlying191 (klInt Tryz.underlying3) (.agg #[.nilFunc]) zeroOrd x.kind;rw [hk0] at hlk;clear hv0 hm0 hk0;have e27:ρ (.tmp 27)=_:=(hρ 27).trans (hp 2 (by decide));clear hR hN hp hρ;go_light;go_simp;exact ⟨rfl,rfl⟩
     ·rfl
     apply Chain.pure (LX.refl _) (by rfl)
     ·intro vals γ w' ρ hR hN hp hρ hc hf hg;refine ⟨rfl,?_⟩;have e28:ρ (.tmp 28)=_:=(hρ 28).trans (hp 3 (by decide));clear hR hN hp hρ;go_light;go_simp;exact ⟨rfl,rfl⟩
     ·rfl
     apply Chain.pure (LX.refl _) (by rfl)
     ·intro vals γ w' ρ hR hN hp hρ hc hf hg;refine ⟨rfl,?_⟩;have e2:=hρ 2;(conv at e2=>rhs; whnf);have hk:=hR.kept0 (S:=fun b=>b=g1∨b=g2) (fun _ _ _ h=>h);have kx:=HB1b.o.keep (hk.mono fun b _ e=>.inl e);have ky:=HB2b.o.keep (hk.mono fun b _ e=>.inr e);have kx0:=kx.cell (i:=0) rfl;have kx1:=kx.cell (i:=1) rfl;have kx2:=kx.cell (i:=2) rfl;have kx3:=kx.cell (i:=3) rfl;have kx4:=kx.cell (i:=4) rfl;have kx5:=kx.cell (i:=5) rfl;have kx6:=kx.cell (i:=6) rfl;have ky0:=ky.cell (i:=0) rfl;have ky1:=ky.cell (i:=1) rfl;have ky2:=ky.cell (i:=2) rfl;have ky3:=ky.cell (i:=3) rfl;have ky4:=ky.cell (i:=4) rfl;have ky5:=ky.cell (i:=5) rfl;have ky6:=ky.cell (i:=6) rfl;clear hk kx ky hR hN hp hρ;go_light;go_simp;exact ⟨rfl,rfl⟩
     ·rfl
     apply Chain.pure (LX.refl _) (by rfl)
     ·intro vals γ w' ρ hR hN hp hρ hc hf hg;refine ⟨rfl,?_⟩;have e3:=hρ 3;(conv at e3=>rhs; whnf);have hk:=hR.kept0 (S:=fun b=>b=g1∨b=g2) (fun _ _ _ h=>h);have kx:=HB1b.o.keep (hk.mono fun b _ e=>.inl e);have ky:=HB2b.o.keep (hk.mono fun b _ e=>.inr e);have kx0:=kx.cell (i:=0) rfl;have kx1:=kx.cell (i:=1) rfl;have kx2:=kx.cell (i:=2) rfl;have kx3:=kx.cell (i:=3) rfl;have kx4:=kx.cell (i:=4) rfl;have kx5:=kx.cell (i:=5) rfl;have kx6:=kx.cell (i:=6) rfl;have ky0:=ky.cell (i:=0) rfl;have ky1:=ky.cell (i:=1) rfl;have ky2:=ky.cell (i:=2) rfl;have ky3:=ky.cell (i:=3) rfl;have ky4:=ky.cell (i:=4) rfl;have ky5:=ky.cell (i:=5) rfl;have ky6:=ky.cell (i:=6) rfl;clear hk kx ky hR hN hp hρ;go_light;go_simp;exact ⟨rfl,rfl⟩
     ·rfl
     refine Chain.step (FP fun v γ w'=>v=.int .i64 (cmpS x.s y.s)) (by rfl) (FP.stab ?_) ?_ ?_
     ·intro v γ w1 γ' w2 r h;exact h
     ·intro vals γ w' ρ hR hN hp hρ hc hf hg;refine ⟨rfl,?_⟩;have e29:ρ (.tmp 29)=_:=(hρ 29).trans (hp 4 (by decide));have e30:ρ (.tmp 30)=_:=(hρ 30).trans (hp 5 (by decide));have e31:ρ (.tmp 31)=_:=(hρ 31).trans (hp 6 (by decide));have HR:=Hd hR;have hxt:=Ext.trans HX2.o (hR.ext0 fun _ _ h=>h.elim);have HTW:=Hd (HT.o.ext hxt);clear hxt hR hN hp hρ;go_light;go_simp;refine (orders_2 x y A B A' B' c e c' e' w').mono ?_;rintro e1 w3 ⟨he,hx⟩;exact ⟨_,he,γ,LX.of_ext _ γ hx,fun _ _ _ h=>h,rfl⟩
     apply Chain.pure (LX.refl _) (by rfl)
     ·intro vals γ w' ρ hR hN hp hρ hc hf hg;refine ⟨rfl,?_⟩;have e32:ρ (.tmp 32)=_:=(hρ 32).trans (hp 7 (by decide));clear hR hN hp hρ;go_light;go_simp;exact ⟨rfl,rfl⟩
     ·rfl
     apply Chain.pure (LX.refl _) (by rfl)
     ·intro vals γ w' ρ hR hN hp hρ hc hf hg;refine ⟨rfl,?_⟩;have e33:ρ (.tmp 33)=_:=(hρ 33).trans (hp 8 (by decide));clear hR hN hp hρ;go_light;go_simp;exact ⟨rfl,rfl⟩
     ·rfl
     intro vals γ w9 hR hG;obtain ⟨q10,q11,v0,-⟩:=hG 0 (by decide);have v1:vals 1=_:=hG 1 (by decide);have v2:vals 2=_:=hG 2 (by decide);have v3:vals 3=_:=hG 3 (by decide);have v4:vals 4=_:=hG 4 (by decide);have v5:vals 5=_:=hG 5 (by decide);have v6:vals 6=_:=hG 6 (by decide);have v7:vals 7=_:=hG 7 (by decide);have v8:vals 8=_:=hG 8 (by decide);have v9:vals 9=_:=hG 9 (by decide);simp only [lexFrame,Act.put,List.setIfInBounds_toArray,List.set_cons_succ,List.set_cons_zero,Nat.zero_add,Nat.reduceAdd,v0,v1,v2,v3,v4,v5,v6,v7,v8,v9];clear v0 v1 v2 v3 v4 v5 v6 v7 v8 v9;have HX9:=Hd (HX2.o.trans (hR.ext0 fun _ _ h=>h.elim));clear hR hG;go_wp2;go_ret;exact ⟨by rw [HF.o,HF2.o]; rfl,HX9.o⟩
    ·have HF2:=Hd (show lessK x y=decide (cmpI (mu x.dn x.ds) (mu y.dn y.ds)<0) by unfold lessK; rw [if_neg (by rw [HK.o]; simp)]; rw [if_neg (by omega),if_pos h1]);have H1:=Hd h1;clear h1
     go_upto_region 5 with fail
     clear r0 r1 r2 r3 r4 r5 r6 rz s0 s1 s2 s3 s4 s5 s6 sz hkb;refine wp_region_chain (by kernel_rfl) (fun i=>[i]) (by kernel_rfl) (LX (fun _ _=>False)) (LX.refl _) (LX.trans _) (LM []) gh0 (LM.zero _) ?_;refine Chain.step (FP fun v γ w'=>IsMp x.kind (.agg #[fnV 207]) v γ w') (by rfl) (FP.stab ?_) ?_ ?_
     ·exact IsMp.stab
     ·intro vals γ w' ρ hR hN hp hρ hc hf hg;refine ⟨rfl,?_⟩;have HR:=Hd hR;clear hR hN hp hρ;go_light;go_simp;refine (value_orders w').mono ?_;rintro e1 w3 ⟨g,m,he,hm,hgw,hx,o0,o1,o2,o3,o4⟩;exact ⟨_,he,γ,LX.of_ext _ γ hx,fun _ _ _ h=>h,⟨g,m,rfl,hm,by rw [H1.o]; exact o2,fun ⟨k',hk'⟩=>by have:=HR.o.inb0 k' _ hk'; omega⟩⟩
     apply Chain.pure (LX.refl _) (by rfl)
     ·intro vals γ w' ρ hR hN hp hρ hc hf hg;refine ⟨rfl,?_⟩;have e2:=hρ 2;(conv at e2=>rhs; whnf);clear hR hN hp hρ;go_light;go_simp;exact ⟨rfl,rfl⟩
     ·rfl
     apply Chain.pure (LX.refl _) (by rfl)
     ·intro vals γ w' ρ hR hN hp hρ hc hf hg;refine ⟨rfl,?_⟩;have e26:ρ (.tmp 26)=_:=(hρ 26).trans (hp 1 (by decide));have hk:=hR.kept0 (S:=fun b=>b=g1∨b=g2) (fun _ _ _ h=>h);have kx:=HB1b.o.keep (hk.mono fun b _ e=>.inl e);have ky:=HB2b.o.keep (hk.mono fun b _ e=>.inr e);have kx0:=kx.cell (i:=0) rfl;have kx1:=kx.cell (i:=1) rfl;have kx2:=kx.cell (i:=2) rfl;have kx3:=kx.cell (i:=3) rfl;have kx4:=kx.cell (i:=4) rfl;have kx5:=kx.cell (i:=5) rfl;have kx6:=kx.cell (i:=6) rfl;have ky0:=ky.cell (i:=0) rfl;have ky1:=ky.cell (i:=1) rfl;have ky2:=ky.cell (i:=2) rfl;have ky3:=ky.cell (i:=3) rfl;have ky4:=ky.cell (i:=4) rfl;have ky5:=ky.cell (i:=5) rfl;have ky6:=ky.cell (i:=6) rfl;clear hk kx ky hR hN hp hρ;go_light;go_simp;exact ⟨rfl,rfl⟩
     ·rfl
     apply Chain.pure (LX.refl _) (by rfl)
     ·intro vals γ w' ρ hR hN hp hρ hc hf hg;refine ⟨rfl,?_⟩;obtain ⟨gm,m,hv0,hm0,hk0,-⟩:=hp 0 (by decide);have e25:=(hρ 25).trans hv0;have hlk:=hm0.get Tryz.underlying191 (klInt Tryz.underlying3) (.agg #[.nilFunc]) zeroOrd x.kind;rw [hk0] at hlk;clear hv0 hm0 hk0;have e27:ρ (.tmp 27)=_:=(hρ 27).trans (hp 2 (by decide));clear hR hN hp hρ;go_light;go_simp;exact ⟨rfl,rfl⟩
     ·rfl
     apply Chain.pure (LX.refl _) (by rfl)
     ·intro vals γ w' ρ hR hN hp hρ hc hf hg;refine ⟨rfl,?_⟩;have e28:ρ (.tmp 28)=_:=(hρ 28).trans (hp 3 (by decide));clear hR hN hp hρ;go_light;go_simp;exact ⟨rfl,rfl⟩
     ·rfl
     apply Chain.pure (LX.refl _) (by rfl)
     ·intro vals γ w' ρ hR hN hp hρ hc hf hg;refine ⟨rfl,?_⟩;have e2:=hρ 2;(conv at e2=>rhs; whnf);have hk:=hR.kept0 (S:=fun b=>b=g1∨b=g2) (fun _ _ _ h=>h);have kx:=HB1b.o.keep (hk.mono fun b _ e=>.inl e);have ky:=HB2b.o.keep (hk.mono fun b _ e=>.inr e);have kx0:=kx.cell (i:=0) rfl;have kx1:=kx.cell (i:=1) rfl;have kx2:=kx.cell (i:=2) rfl;have kx3:=kx.cell (i:=3) rfl;have kx4:=kx.cell (i:=4) rfl;have kx5:=kx.cell (i:=5) rfl;have kx6:=kx.cell (i:=6) rfl;have ky0:=ky.cell (i:=0) rfl;have ky1:=ky.cell (i:=1) rfl;have ky2:=ky.cell (i:=2) rfl;have ky3:=ky.cell (i:=3) rfl;have ky4:=ky.cell (i:=4) rfl;have ky5:=ky.cell (i:=5) rfl;have ky6:=ky.cell (i:=6) rfl;clear hk kx ky hR hN hp hρ;go_light;go_simp;exact ⟨rfl,rfl⟩
     ·rfl
     apply Chain.pure (LX.refl _) (by rfl)
     ·intro vals γ w' ρ hR hN hp hρ hc hf hg;refine ⟨rfl,?_⟩;have e3:=hρ 3;(conv at e3=>rhs; whnf);have hk:=hR.kept0 (S:=fun b=>b=g1∨b=g2) (fun _ _ _ h=>h);have kx:=HB1b.o.keep (hk.mono fun b _ e=>.inl e);have ky:=HB2b.o.keep (hk.mono fun b _ e=>.inr e);have kx0:=kx.cell (i:=0) rfl;have kx1:=kx.cell (i:=1) rfl;have kx2:=kx.cell (i:=2) rfl;have kx3:=kx.cell (i:=3) rfl;have kx4:=kx.cell (i:=4) rfl;have kx5:=kx.cell (i:=5) rfl;have kx6:=kx.cell (i:=6) rfl;have ky0:=ky.cell (i:=0) rfl;have ky1:=ky.cell (i:=1) rfl;have ky2:=ky.cell (i:=2) rfl;have ky3:=ky.cell (i:=3) rfl;have ky4:=ky.cell (i:=4) rfl;have ky5:=ky.cell (i:=5) rfl;have ky6:=ky.cell (i:=6) rfl;clear hk kx ky hR hN hp hρ;go_light;go_simp;exact ⟨rfl,rfl⟩
     ·rfl
     refine Chain.step (FP fun v γ w'=>v=.int .i64 (cmpI (mu x.dn x.ds) (mu y.dn y.ds))) (by rfl) (FP.stab ?_) ?_ ?_
     ·intro v γ w1 γ' w2 r h;exact h
     ·intro vals γ w' ρ hR hN hp hρ hc hf hg;refine ⟨rfl,?_⟩;have e29:ρ (.tmp 29)=_:=(hρ 29).trans (hp 4 (by decide));have e30:ρ (.tmp 30)=_:=(hρ 30).trans (hp 5 (by decide));have e31:ρ (.tmp 31)=_:=(hρ 31).trans (hp 6 (by decide));have HR:=Hd hR;have hxt:=Ext.trans HX2.o (hR.ext0 fun _ _ h=>h.elim);have HTW:=Hd (HT.o.ext hxt);clear hxt hR hN hp hρ;go_light;go_simp;refine (orders_3 x y A B A' B' c e c' e' w' HTW.o).mono ?_;rintro e1 w3 ⟨he,hx⟩;exact ⟨_,he,γ,LX.of_ext _ γ hx,fun _ _ _ h=>h,rfl⟩
     apply Chain.pure (LX.refl _) (by rfl)
     ·intro vals γ w' ρ hR hN hp hρ hc hf hg;refine ⟨rfl,?_⟩;have e32:ρ (.tmp 32)=_:=(hρ 32).trans (hp 7 (by decide));clear hR hN hp hρ;go_light;go_simp;exact ⟨rfl,rfl⟩
     ·rfl
     apply Chain.pure (LX.refl _) (by rfl)
     ·intro vals γ w' ρ hR hN hp hρ hc hf hg;refine ⟨rfl,?_⟩;have e33:ρ (.tmp 33)=_:=(hρ 33).trans (hp 8 (by decide));clear hR hN hp hρ;go_light;go_simp;exact ⟨rfl,rfl⟩
     ·rfl
     intro vals γ w9 hR hG;obtain ⟨q10,q11,v0,-⟩:=hG 0 (by decide);have v1:vals 1=_:=hG 1 (by decide);have v2:vals 2=_:=hG 2 (by decide);have v3:vals 3=_:=hG 3 (by decide);have v4:vals 4=_:=hG 4 (by decide);have v5:vals 5=_:=hG 5 (by decide);have v6:vals 6=_:=hG 6 (by decide);have v7:vals 7=_:=hG 7 (by decide);have v8:vals 8=_:=hG 8 (by decide);have v9:vals 9=_:=hG 9 (by decide);simp only [lexFrame,Act.put,List.setIfInBounds_toArray,List.set_cons_succ,List.set_cons_zero,Nat.zero_add,Nat.reduceAdd,v0,v1,v2,v3,v4,v5,v6,v7,v8,v9];clear v0 v1 v2 v3 v4 v5 v6 v7 v8 v9;have HX9:=Hd (HX2.o.trans (hR.ext0 fun _ _ h=>h.elim));clear hR hG;go_wp2;go_ret;exact ⟨by rw [HF.o,HF2.o]; rfl,HX9.o⟩
    ·have HF2:=Hd (show lessK x y=decide (cmpI x.n y.n<0) by unfold lessK; rw [if_neg (by rw [HK.o]; simp)]; rw [if_neg h1,if_neg h2]);have H1:=Hd h1;have H2:=Hd h2;have H3:=Hd h3;clear h2 h3 h1
     go_upto_region 5 with fail
     clear r0 r1 r2 r3 r4 r5 r6 rz s0 s1 s2 s3 s4 s5 s6 sz hkb;refine wp_region_chain (by kernel_rfl) (fun i=>[i]) (by kernel_rfl) (LX (fun _ _=>False)) (LX.refl _) (LX.trans _) (LM []) gh0 (LM.zero _) ?_;refine Chain.step (FP fun v γ w'=>IsMp x.kind (.agg #[fnV 204]) v γ w') (by rfl) (FP.stab ?_) ?_ ?_
     ·exact IsMp.stab
     ·intro vals γ w' ρ hR hN hp hρ hc hf hg;refine ⟨rfl,?_⟩;have HR:=Hd hR;clear hR hN hp hρ;go_light;go_simp;refine (value_orders w').mono ?_;rintro e1 w3 ⟨g,m,he,hm,hgw,hx,o0,o1,o2,o3,o4⟩;exact ⟨_,he,γ,LX.of_ext _ γ hx,fun _ _ _ h=>h,⟨g,m,rfl,hm,by rcases H3.o with e | e | e <;> rw [e] <;> assumption,fun ⟨k',hk'⟩=>by have:=HR.o.inb0 k' _ hk'; omega⟩⟩
     apply Chain.pure (LX.refl _) (by rfl)
     ·intro vals γ w' ρ hR hN hp hρ hc hf hg;refine ⟨rfl,?_⟩;have e2:=hρ 2;(conv at e2=>rhs; whnf);clear hR hN hp hρ;go_light;go_simp;exact ⟨rfl,rfl⟩
     ·rfl
     apply Chain.pure (LX.refl _) (by rfl)
     ·intro vals γ w' ρ hR hN hp hρ hc hf hg;refine ⟨rfl,?_⟩;have e26:ρ (.tmp 26)=_:=(hρ 26).trans (hp 1 (by decide));have hk:=hR.kept0 (S:=fun b=>b=g1∨b=g2) (fun _ _ _ h=>h);have kx:=HB1b.o.keep (hk.mono fun b _ e=>.inl e);have ky:=HB2b.o.keep (hk.mono fun b _ e=>.inr e);have kx0:=kx.cell (i:=0) rfl;have kx1:=kx.cell (i:=1) rfl;have kx2:=kx.cell (i:=2) rfl;have kx3:=kx.cell (i:=3) rfl;have kx4:=kx.cell (i:=4) rfl;have kx5:=kx.cell (i:=5) rfl;have kx6:=kx.cell (i:=6) rfl;have ky0:=ky.cell (i:=0) rfl;have ky1:=ky.cell (i:=1) rfl;have ky2:=ky.cell (i:=2) rfl;have ky3:=ky.cell (i:=3) rfl;have ky4:=ky.cell (i:=4) rfl;have ky5:=ky.cell (i:=5) rfl;have ky6:=ky.cell (i:=6) rfl;clear hk kx ky hR hN hp hρ;go_light;go_simp;exact ⟨rfl,rfl⟩
     ·rfl
     apply Chain.pure (LX.refl _) (by rfl)
     ·intro vals γ w' ρ hR hN hp hρ hc hf hg;refine ⟨rfl,?_⟩;obtain ⟨gm,m,hv0,hm0,hk0,-⟩:=hp 0 (by decide);have e25:=(hρ 25).trans hv0;have hlk:=hm0.get Tryz.underlying191 (klInt Tryz.underlying3) (.agg #[.nilFunc]) zeroOrd x.kind;rw [hk0] at hlk;clear hv0 hm0 hk0;have e27:ρ (.tmp 27)=_:=(hρ 27).trans (hp 2 (by decide));clear hR hN hp hρ;go_light;go_simp;exact ⟨rfl,rfl⟩
     ·rfl
     apply Chain.pure (LX.refl _) (by rfl)
     ·intro vals γ w' ρ hR hN hp hρ hc hf hg;refine ⟨rfl,?_⟩;have e28:ρ (.tmp 28)=_:=(hρ 28).trans (hp 3 (by decide));clear hR hN hp hρ;go_light;go_simp;exact ⟨rfl,rfl⟩
     ·rfl
     apply Chain.pure (LX.refl _) (by rfl)
     ·intro vals γ w' ρ hR hN hp hρ hc hf hg;refine ⟨rfl,?_⟩;have e2:=hρ 2;(conv at e2=>rhs; whnf);have hk:=hR.kept0 (S:=fun b=>b=g1∨b=g2) (fun _ _ _ h=>h);have kx:=HB1b.o.keep (hk.mono fun b _ e=>.inl e);have ky:=HB2b.o.keep (hk.mono fun b _ e=>.inr e);have kx0:=kx.cell (i:=0) rfl;have kx1:=kx.cell (i:=1) rfl;have kx2:=kx.cell (i:=2) rfl;have kx3:=kx.cell (i:=3) rfl;have kx4:=kx.cell (i:=4) rfl;have kx5:=kx.cell (i:=5) rfl;have kx6:=kx.cell (i:=6) rfl;have ky0:=ky.cell (i:=0) rfl;have ky1:=ky.cell (i:=1) rfl;have ky2:=ky.cell (i:=2) rfl;have ky3:=ky.cell (i:=3) rfl;have ky4:=ky.cell (i:=4) rfl;have ky5:=ky.cell (i:=5) rfl;have ky6:=ky.cell (i:=6) rfl;clear hk kx ky hR hN hp hρ;go_light;go_simp;exact ⟨rfl,rfl⟩
     ·rfl
     apply Chain.pure (LX.refl _) (by rfl)
     ·intro vals γ w' ρ hR hN hp hρ hc hf hg;refine ⟨rfl,?_⟩;have e3:=hρ 3;(conv at e3=>rhs; whnf);have hk:=hR.kept0 (S:=fun b=>b=g1∨b=g2) (fun _ _ _ h=>h);have kx:=HB1b.o.keep (hk.mono fun b _ e=>.inl e);have ky:=HB2b.o.keep (hk.mono fun b _ e=>.inr e);have kx0:=kx.cell (i:=0) rfl;have kx1:=kx.cell (i:=1) rfl;have kx2:=kx.cell (i:=2) rfl;have kx3:=kx.cell (i:=3) rfl;have kx4:=kx.cell (i:=4) rfl;have kx5:=kx.cell (i:=5) rfl;have kx6:=kx.cell (i:=6) rfl;have ky0:=ky.cell (i:=0) rfl;have ky1:=ky.cell (i:=1) rfl;have ky2:=ky.cell (i:=2) rfl;have ky3:=ky.cell (i:=3) rfl;have ky4:=ky.cell (i:=4) rfl;have ky5:=ky.cell (i:=5) rfl;have ky6:=ky.cell (i:=6) rfl;clear hk kx ky hR hN hp hρ;go_light;go_simp;exact ⟨rfl,rfl⟩
     ·rfl
     refine Chain.step (FP fun v γ w'=>v=.int .i64 (cmpI x.n y.n)) (by rfl) (FP.stab ?_) ?_ ?_
     ·intro v γ w1 γ' w2 r h;exact h
     ·intro vals γ w' ρ hR hN hp hρ hc hf hg;refine ⟨rfl,?_⟩;have e29:ρ (.tmp 29)=_:=(hρ 29).trans (hp 4 (by decide));have e30:ρ (.tmp 30)=_:=(hρ 30).trans (hp 5 (by decide));have e31:ρ (.tmp 31)=_:=(hρ 31).trans (hp 6 (by decide));have HR:=Hd hR;have hxt:=Ext.trans HX2.o (hR.ext0 fun _ _ h=>h.elim);have HTW:=Hd (HT.o.ext hxt);clear hxt hR hN hp hρ;go_light;go_simp;refine (orders_1 x y A B A' B' c e c' e' w').mono ?_;rintro e1 w3 ⟨he,hx⟩;exact ⟨_,he,γ,LX.of_ext _ γ hx,fun _ _ _ h=>h,rfl⟩
     apply Chain.pure (LX.refl _) (by rfl)
     ·intro vals γ w' ρ hR hN hp hρ hc hf hg;refine ⟨rfl,?_⟩;have e32:ρ (.tmp 32)=_:=(hρ 32).trans (hp 7 (by decide));clear hR hN hp hρ;go_light;go_simp;exact ⟨rfl,rfl⟩
     ·rfl
     apply Chain.pure (LX.refl _) (by rfl)
     ·intro vals γ w' ρ hR hN hp hρ hc hf hg;refine ⟨rfl,?_⟩;have e33:ρ (.tmp 33)=_:=(hρ 33).trans (hp 8 (by decide));clear hR hN hp hρ;go_light;go_simp;exact ⟨rfl,rfl⟩
     ·rfl
     intro vals γ w9 hR hG;obtain ⟨q10,q11,v0,-⟩:=hG 0 (by decide);have v1:vals 1=_:=hG 1 (by decide);have v2:vals 2=_:=hG 2 (by decide);have v3:vals 3=_:=hG 3 (by decide);have v4:vals 4=_:=hG 4 (by decide);have v5:vals 5=_:=hG 5 (by decide);have v6:vals 6=_:=hG 6 (by decide);have v7:vals 7=_:=hG 7 (by decide);have v8:vals 8=_:=hG 8 (by decide);have v9:vals 9=_:=hG 9 (by decide);simp only [lexFrame,Act.put,List.setIfInBounds_toArray,List.set_cons_succ,List.set_cons_zero,Nat.zero_add,Nat.reduceAdd,v0,v1,v2,v3,v4,v5,v6,v7,v8,v9];clear v0 v1 v2 v3 v4 v5 v6 v7 v8 v9;have HX9:=Hd (HX2.o.trans (hR.ext0 fun _ _ h=>h.elim));clear hR hG;go_wp2;go_ret;exact ⟨by rw [HF.o,HF2.o]; rfl,HX9.o⟩
   ·have hkb:(x.kind != y.kind)=true:=(by rw [bne_iff_ne]; exact hk);have HF2:=Hd (show lessK x y=decide (x.kind<y.kind) by unfold lessK; rw [if_pos hk]);clear hk;go_wp2;go_ret;exact ⟨by rw [HF.o,HF2.o]; rfl,HX2.o⟩
/- The reference's right decimals and lists of names: concordref04.Right, concordref06.Names. Conditions: the list reads as data. -/

/- The reference's power, big, wider: decimals as numbers of any size. Conditions: bounds on sizes. -/

/- The reference's wider and plus: decimals as numbers of any size. Conditions: bounds on sizes. -/

end Go.Proofs.YtomdpipekmcojaaGreatDoor
