/- Lemmas. No conditions. -/
import Derived.Test.YtidacnalcdhckaaGreatDoorYq3
import Derived.IntWalk
import Derived.Ground.NamesProg
import Derived.Shelf.Strings.OnBuilder
import Derived.Shelf.Strings.Prefix
import Derived.Shelf.Strings.Repeat
import Derived.Shelf.Strings.BuilderK
import Derived.Shelf.Strconv.Itoa3
import Derived.Test.YtidacnalcdhckaaGreatDoorProg
import Derived.Deep.Light
import Derived.Laws.BytesArg
import Derived.WalkSpells
set_option maxRecDepth 100000
set_option maxHeartbeats 1000000
namespace Go.Proofs.YtidacnalcdhckaaGreatDoor
open Go Go.RowKit Tryz
variable {qP:Prop}

def IntsL(w:World)(S:NP)(A:OA)(l:List Int):Prop:=Rd w S A (l.map (Value.int .i64))∧l.length≤9223372036854775807
theorem IntsL.keep{w w':World}{S:NP}{A:OA}{l:List Int}(h:IntsL w S A l)(k:Kept S w w'):IntsL w' S A l:=⟨h.1.keep k,h.2⟩
theorem IntsL.mono{w:World}{S T:NP}{A:OA}{l:List Int}(h:IntsL w S A l)(k:∀ i,i<w.heap.size→S i→T i):IntsL w T A l:=⟨h.1.mono k,h.2⟩
theorem IntsL.at_{w:World}{S:NP}{A:OA}{l:List Int}(h:IntsL w S A l){k:Nat}(hk:k<l.length):∃ b o,A=some ⟨b,o,none⟩∧b<w.heap.size∧w.cell? ⟨b,o+k,none⟩=some (.I l[k]) :=
 h.1.at_ Y2
def RIssL(w:World)(S:NP)(A:OA)(l:List (List Int)):Prop :=
 l.length≤9223372036854775807∧∃ hs:List Value,Rd w S A hs∧hs.length=l.length∧∀ (i:Nat) (r:List Int),l[i]?=some r→∃ (B:OA) (e:Nat),hs[i]?=some (.slice B r.length e)∧r.length≤e∧IntsL w S B r
theorem RIssL.keep{w w':World}{S:NP}{A:OA}{l:List (List Int)}(h:RIssL w S A l)(k:Kept S w w'):RIssL w' S A l:=by
 exact Z87
theorem RIssL.at_{w:World}{S:NP}{A:OA}{l:List (List Int)}(h:RIssL w S A l){k:Nat}(hk:k<l.length) :
  ∃ b o B e,A=some ⟨b,o,none⟩∧b<w.heap.size∧w.cell? ⟨b,o+k,none⟩=some (.slice B l[k].length e)∧l[k].length≤e∧IntsL w S B l[k]:=by
 exact Z88
def NumIs(w:World)(g:Nat)(A:OA)(n c K:Nat):Prop:=Blk w g 65 #[.slice A n c,.I (K:Int)]∧K≤n
theorem NumIs.keep{w w':World}{g:Nat}{A:OA}{n c K:Nat}(h:NumIs w g A n c K)(k:Kept (fun b=>b=g) w w'):NumIs w' g A n c K:=⟨h.1.keep k,h.2⟩
theorem PE(a n:Int)(hn:1≤n):-n<a.tmod n∧a.tmod n<n:=by
 have h1:=Int.tmod_lt_of_pos a (b:=n) Y4;have h2:=Int.tmod_lt_of_pos (-a) (b:=n) Y4;rw [Int.neg_tmod] at h2;omega
theorem VE(a n:Int)(hn:1≤n):0≤(a.tmod n+n).tmod n∧(a.tmod n+n).tmod n<n:=by
 obtain ⟨h1,h2⟩:=PE a n hn;rw [Int.tmod_eq_emod_of_nonneg Y4];exact ⟨Int.emod_nonneg _ Y4,Int.emod_lt_of_pos _ Y4⟩

def Tens(w:World):Prop:=w.cell? ⟨0,0,none⟩=some (.I 1)∧w.cell? ⟨0,1,none⟩=some (.I 10)∧w.cell? ⟨0,2,none⟩=some (.I 100)∧w.cell? ⟨0,3,none⟩=some (.I 1000) ∧
 w.cell? ⟨0,4,none⟩=some (.I 10000)∧w.cell? ⟨0,5,none⟩=some (.I 100000)∧w.cell? ⟨0,6,none⟩=some (.I 1000000)
theorem Tens.ext{w w':World}(h:Tens w)(hx:Ext w w'):Tens w':=⟨hx.cell h.1,hx.cell h.2.1,hx.cell h.2.2.1,hx.cell h.2.2.2.1,hx.cell h.2.2.2.2.1,hx.cell h.2.2.2.2.2.1,hx.cell h.2.2.2.2.2.2⟩
theorem Tens.pos{w:World}(h:Tens w):0<w.heap.size:=by
 rcases Nat.lt_or_ge 0 w.heap.size with h1|h1
 ·exact h1
 ·have:=h.1;simp [World.cell?,Array.getElem?_eq_none h1] at this

def BG(n s:Int):Int × Int:=if Cm n s=true then (n,s) else (0,0)
def DXA(w:World)(r:Int × Int)(e:Ending)(w':World):Prop:=e=.returned (.agg #[.I r.1,.I r.2])∧Ext w w'
theorem GL(h:qP:=by
 iterate 2 with_reducible refine Ext.set2 ?_ Y4 _
 with_reducible exact HX.o):qP:=h
theorem GN(n s:Int)(w:World):Cl 210 #[.agg #[.I n,.I s]] w (DXA w (BG n s)):=by
 go_enter func210,ntmps210
 go_wp2_with fail
 refine (Dh n s _).mono ?_;rintro e1 w1 ⟨rfl,hx1⟩;obtain ⟨hc1,hf1⟩:=LS hx1;have hz1:=hx1.size;simp at hc1 hf1 hz1;have hz2:w.heap.size<w1.heap.size:=Y4;have hz3:w.heap.size+1<w1.heap.size:=Y4;have HX:=Hd ((exbb w).trans hx1);cases hd:Cm n s
 ·have HF:=Hd (show BG n s=(0,0) by simp [BG,hd]);clear hd hx1;go_wp2;rw [HF.o];refine bodyPost_ret (v:=.agg #[.I 0,.I 0]) (by simp [results,results210,go_sem,hc1]) rfl ⟨rfl,?_⟩;exact GL
 ·have HF:=Hd (show BG n s=(n,s) by simp [BG,hd]);clear hd hx1;go_wp2;rw [HF.o];refine bodyPost_ret (v:=.agg #[.I n,.I s]) (by simp [results,results210,go_sem,hc1]) rfl ⟨rfl,?_⟩;exact GL

def pw(s:Int):Int:=if s=0 then 1 else if s=1 then 10 else if s=2 then 100 else if s=3 then 1000 else if s=4 then 10000 else if s=5 then 100000 else 1000000
def mu(n s:Int):Int:=(BG n s).1*pw (6-(BG n s).2)
def CsA(w:World)(a b:Int)(e:Ending)(w':World):Prop:=e=.returned (.tuple #[.I a,.I b])∧Ext w w'
theorem Ek(n s:Int):0≤(BG n s).2∧(BG n s).2≤6∧-1000000000000000≤(BG n s).1∧(BG n s).1≤1000000000000000:=by
 unfold BG;split
 ·rename_i h;simp [Cm,Dy] at h;exact ⟨h.1.1.1,h.1.1.2,h.1.2.1,h.1.2.2⟩
 ·simp
theorem TM(a d m:Int)(hm:0<m)(h:d*m=1000000):(a*m).tdiv 1000000=a.tdiv d∧(a*m).tmod 1000000=a.tmod d*m:=by
 rw [←h,Int.mul_comm a m,Int.mul_comm d m];exact ⟨Int.mul_tdiv_mul_of_pos _ _ hm,by rw [Int.mul_tmod_mul_of_pos _ _ hm,Int.mul_comm]⟩
theorem PJ(a d m:Int)(hm:0<m)(hd:0<d)(h:d*m=1000000):-1000000<a.tmod d*m∧a.tmod d*m<1000000:=by
 have h1:=Int.tmod_lt_of_pos a hd;have h2:-d<a.tmod d:=by
  have:=Int.lt_tmod_of_pos a hd;omega
 constructor
 ·have:-d*m<a.tmod d*m:=Int.mul_lt_mul_of_pos_right h2 hm;rw [Int.neg_mul,h] at this;exact this
 ·have:a.tmod d*m<d*m:=Int.mul_lt_mul_of_pos_right h1 hm;rw [h] at this;exact this
theorem E8(m a d k:Int)(hm:m=a*k)(hk:0<k)(hd:0<d)(h:d*k=1000000) :
  Ending.returned (.tuple #[.I (a.tdiv d),.I (wrap64 (a.tmod d*k))])=.returned (.tuple #[.I (m.tdiv 1000000),.I (m.tmod 1000000)]):=by
 obtain ⟨h1,h2⟩:=TM a d k hk h;obtain ⟨b1,b2⟩:=PJ a d k hk hd h;rw [hm,h1,h2,IntWalk.wrap64_in _ ⟨Y4,Y4⟩]
theorem GU(n s:Int)(w:World)(ht:Tens w):Cl 191 #[.agg #[.I n,.I s]] w (CsA w ((mu n s).tdiv 1000000) ((mu n s).tmod 1000000)):=by
 have HT:=Hd ht;clear ht
 go_enter func191,ntmps191
 go_wp2_with fail
 refine (GN n s _).mono ?_;rintro e1 w1 ⟨rfl,hx1⟩;obtain ⟨hc1,hf1⟩:=LS hx1;have hz1:=hx1.size;simp at hc1 hf1 hz1;have hz2:w.heap.size<w1.heap.size:=Y4;have HX:=Hd ((exaa w).trans hx1);have hr:=Ek n s;have HM:=Hd (show mu n s=(BG n s).1*pw (6-(BG n s).2) from rfl);clear hx1;generalize BG n s=p at *;obtain ⟨a,b⟩:=p;simp only at hr HM⊢;obtain ⟨hr1,hr2,hr3,hr4⟩:=hr;have hb:b=0∨b=1∨b=2∨b=3∨b=4∨b=5∨b=6:=Y4;obtain ⟨t0,t1,t2,t3,t4,t5,t6⟩:=HT.o.ext HX.o;have hp:=HT.o.pos;have hne:0≠w.heap.size:=Y4;have hne2:w.heap.size≠0:=Y4;have b0:w1.cell? ⟨w.heap.size,0,none⟩=some (.I n):=(by rw [hc1 _ _ Y4];simp [go_sem]);have b1:w1.cell? ⟨w.heap.size,1,none⟩=some (.I s):=(by rw [hc1 _ _ Y4];simp [go_sem]);have f0:w1.frozen? ⟨w.heap.size,0,none⟩=false:=(by rw [hf1 _ _ Y4];simp [go_sem]);have f1:w1.frozen? ⟨w.heap.size,1,none⟩=false:=(by rw [hf1 _ _ Y4];simp [go_sem]);clear hc1 hf1
 rcases hb with rfl|rfl|rfl|rfl|rfl|rfl|rfl
 all_goals
  go_wp2
  go_quiet (fail)
  go_wp2;go_ret2;refine ⟨?_,?_⟩
  rotate_left
  ·with_reducible refine Ext.drewN ?_ _
   exact GL
  have hm:=HM.o;simp [pw] at hm
 ·rw [hm];simp [Int.mul_tdiv_cancel]
 ·exact E8 _ a 10 100000 hm Y17 Y17 Y17
 ·exact E8 _ a 100 10000 hm Y17 Y17 Y17
 ·exact E8 _ a 1000 1000 hm Y17 Y17 Y17
 ·exact E8 _ a 10000 100 hm Y17 Y17 Y17
 ·exact E8 _ a 100000 10 hm Y17 Y17 Y17
 ·rw [hm];have hb:=PJ a 1000000 1 Y17 Y17 Y17;rw [Int.mul_one] at hb;show Ending.returned (.tuple #[.I (a.tdiv 1000000),.I (wrap64 (a.tmod 1000000))])=_;rw [IntWalk.wrap64_in _ ⟨Y4,Y4⟩]

theorem tdm(b m:Int)(hm:0<m):m*b.tdiv m+b.tmod m=b∧-m<b.tmod m∧b.tmod m<m∧(0≤b→0≤b.tmod m)∧(b≤0→b.tmod m≤0):=by
 refine ⟨Int.mul_tdiv_add_tmod b m,?_,Int.tmod_lt_of_pos b hm,fun h=>Int.tmod_nonneg m h,fun h => ?_⟩
 ·have:=Int.lt_tmod_of_pos b hm;omega
 ·have:=Int.tmod_nonneg m (show 0≤-b by omega);rw [Int.neg_tmod] at this;omega
def Ul(w:World)(r:(Int × Int) × Bool)(e:Ending)(w':World):Prop:=e=.returned (.tuple #[.agg #[.I r.1.1,.I r.1.2],.bool r.2])∧Ext w w'
end Go.Proofs.YtidacnalcdhckaaGreatDoor
namespace Go.Proofs.YtidacnalcdhckaaGreatDoor
end Go.Proofs.YtidacnalcdhckaaGreatDoor
namespace Go.Proofs
open Go Go.RowKit Go.Shelf Tryz
variable {qP:Prop}
def Tryz.lt156_ren:Go.Shelf.Ren:=⟨fun|156=>100|165=>168|166=>169|169=>170|240=>214|241=>215|276=>246|277=>247|n=>n,fun|31=>26|9=>9|3=>3|4=>4|0=>0|20=>20|72=>157|76=>161|70=>155|37=>85|75=>160|127=>197|164=>230|5=>5|80=>108|n=>n,fun|n=>n⟩
theorem Tryz.lt156:Go.Proofs.Lays.n156 Tryz.prog Tryz.lt156_ren:={
 mixed:=by kernel_rfl
 f156:=Tryz.func100.trans (congrArg some Y11)
 f165:=Tryz.func168.trans (congrArg some Y11)
 f166:=Tryz.func169.trans (congrArg some Y11)
 f169:=Tryz.func170.trans (congrArg some Y11)
 f240:=Tryz.func214.trans (congrArg some Y11)
 f241:=Tryz.func215.trans (congrArg some Y11)
 f276:=Tryz.func246.trans (congrArg some Y11)
 f277:=Tryz.func247.trans (congrArg some Y11)
 t0:=Tryz.underlying0
 a0:=Tryz.isAgg0
 z0:=Tryz.sizeOf0
 v0:=Tryz.zeroValue0
 t3:=Tryz.underlying3
 a3:=Tryz.isAgg3
 z3:=Tryz.sizeOf3
 v3:=Tryz.zeroValue3
 t4:=Tryz.underlying4
 a4:=Tryz.isAgg4
 z4:=Tryz.sizeOf4
 v4:=Tryz.zeroValue4
 t9:=Tryz.underlying9
 a9:=Tryz.isAgg9
 z9:=Tryz.sizeOf9
 v9:=Tryz.zeroValue9
 t20:=Tryz.underlying20
 a20:=Tryz.isAgg20
 z20:=Tryz.sizeOf20
 v20:=Tryz.zeroValue20
 t31:=Tryz.underlying26
 a31:=Tryz.isAgg26
 z31:=Tryz.sizeOf26
 v31:=Tryz.zeroValue26
 t37:=Tryz.underlying85
 a37:=Tryz.isAgg85
 z37:=Tryz.sizeOf85
 v37:=Tryz.zeroValue85
 t70:=Tryz.underlying155
 a70:=Tryz.isAgg155
 z70:=Tryz.sizeOf155
 v70:=Tryz.zeroValue155
 t72:=Tryz.underlying157
 a72:=Tryz.isAgg157
 z72:=Tryz.sizeOf157
 v72:=Tryz.zeroValue157
 t75:=Tryz.underlying160
 a75:=Tryz.isAgg160
 z75:=Tryz.sizeOf160
 v75:=Tryz.zeroValue160
 t76:=Tryz.underlying161
 a76:=Tryz.isAgg161
 z76:=Tryz.sizeOf161
 v76:=Tryz.zeroValue161
 t127:=Tryz.underlying197
 a127:=Tryz.isAgg197
 z127:=Tryz.sizeOf197
 v127:=Tryz.zeroValue197
 t164:=Tryz.underlying230
 a164:=Tryz.isAgg230
 z164:=Tryz.sizeOf230
 v164:=Tryz.zeroValue230 }
def Tryz.lt171_ren:Go.Shelf.Ren:=⟨fun|171=>99|243=>167|246=>213|283=>242|284=>243|285=>244|286=>245|129=>270|317=>275|318=>276|319=>277|320=>278|337=>290|338=>291|n=>n,fun|3=>3|9=>9|2=>2|4=>4|171=>225|0=>0|53=>194|37=>85|5=>5|173=>228|212=>254|51=>250|20=>20|213=>255|46=>79|232=>268|233=>269|n=>n,fun|17=>1|18=>3|19=>4|n=>n⟩
theorem Tryz.lt171:Go.Proofs.LaysM.n171 Tryz.prog Tryz.lt171_ren:={
 mixed:=by kernel_rfl
 f129:=Tryz.func270.trans (congrArg some Y11)
 f171:=Tryz.func99.trans (congrArg some Y11)
 f243:=Tryz.func167.trans (congrArg some Y11)
 f246:=Tryz.func213.trans (congrArg some Y11)
 f283:=Tryz.func242.trans (congrArg some Y11)
 f284:=Tryz.func243.trans (congrArg some Y11)
 f285:=Tryz.func244.trans (congrArg some Y11)
 f286:=Tryz.func245.trans (congrArg some Y11)
 f317:=Tryz.func275.trans (congrArg some Y11)
 f318:=Tryz.func276.trans (congrArg some Y11)
 f319:=Tryz.func277.trans (congrArg some Y11)
 f320:=Tryz.func278.trans (congrArg some Y11)
 f337:=Tryz.func290.trans (congrArg some Y11)
 f338:=Tryz.func291.trans (congrArg some Y11)
 t0:=Tryz.underlying0
 a0:=Tryz.isAgg0
 z0:=Tryz.sizeOf0
 v0:=Tryz.zeroValue0
 t2:=Tryz.underlying2
 a2:=Tryz.isAgg2
 z2:=Tryz.sizeOf2
 v2:=Tryz.zeroValue2
 t3:=Tryz.underlying3
 a3:=Tryz.isAgg3
 z3:=Tryz.sizeOf3
 v3:=Tryz.zeroValue3
 t4:=Tryz.underlying4
 a4:=Tryz.isAgg4
 z4:=Tryz.sizeOf4
 v4:=Tryz.zeroValue4
 t5:=Tryz.underlying5
 a5:=Tryz.isAgg5
 z5:=Tryz.sizeOf5
 v5:=Tryz.zeroValue5
 t9:=Tryz.underlying9
 a9:=Tryz.isAgg9
 z9:=Tryz.sizeOf9
 v9:=Tryz.zeroValue9
 t20:=Tryz.underlying20
 a20:=Tryz.isAgg20
 z20:=Tryz.sizeOf20
 v20:=Tryz.zeroValue20
 t37:=Tryz.underlying85
 a37:=Tryz.isAgg85
 z37:=Tryz.sizeOf85
 v37:=Tryz.zeroValue85
 t46:=Tryz.underlying79
 a46:=Tryz.isAgg79
 z46:=Tryz.sizeOf79
 v46:=Tryz.zeroValue79
 t51:=Tryz.underlying250
 a51:=Tryz.isAgg250
 z51:=Tryz.sizeOf250
 v51:=Tryz.zeroValue250
 t53:=Tryz.underlying194
 a53:=Tryz.isAgg194
 z53:=Tryz.sizeOf194
 v53:=Tryz.zeroValue194
 t171:=Tryz.underlying225
 a171:=Tryz.isAgg225
 z171:=Tryz.sizeOf225
 v171:=Tryz.zeroValue225
 t173:=Tryz.underlying228
 a173:=Tryz.isAgg228
 z173:=Tryz.sizeOf228
 v173:=Tryz.zeroValue228
 t212:=Tryz.underlying254
 a212:=Tryz.isAgg254
 z212:=Tryz.sizeOf254
 v212:=Tryz.zeroValue254
 t213:=Tryz.underlying255
 a213:=Tryz.isAgg255
 z213:=Tryz.sizeOf255
 t232:=Tryz.underlying268
 a232:=Tryz.isAgg268
 z232:=Tryz.sizeOf268
 v232:=Tryz.zeroValue268
 t233:=Tryz.underlying269
 a233:=Tryz.isAgg269
 z233:=Tryz.sizeOf269
 v233:=Tryz.zeroValue269
 g17:=by kernel_rfl
 g18:=by kernel_rfl
 g19:=by kernel_rfl
 i0:=by kernel_rfl
 i2:=by kernel_rfl
 i3:=by kernel_rfl
 i4:=by kernel_rfl
 i5:=by kernel_rfl
 i9:=by kernel_rfl
 i20:=by kernel_rfl
 i37:=by kernel_rfl
 i46:=by kernel_rfl
 i51:=by kernel_rfl
 i53:=by kernel_rfl
 i171:=by kernel_rfl
 i173:=by kernel_rfl
 i212:=by kernel_rfl
 i232:=by kernel_rfl
 i233:=by kernel_rfl
 m17:=by kernel_rfl
 m18:=by kernel_rfl
 m19:=Y11}
def Tryz.lt283_ren:Go.Shelf.Ren:=⟨fun|283=>242|n=>n,fun|3=>3|9=>9|4=>4|n=>n,fun|n=>n⟩
theorem Tryz.lt283:Go.Proofs.Lays.n283 Tryz.prog Tryz.lt283_ren:={
 mixed:=by kernel_rfl
 f283:=Tryz.func242.trans (congrArg some Y11)
 t3:=Tryz.underlying3
 a3:=Tryz.isAgg3
 z3:=Tryz.sizeOf3
 v3:=Tryz.zeroValue3
 t4:=Tryz.underlying4
 a4:=Tryz.isAgg4
 z4:=Tryz.sizeOf4
 v4:=Tryz.zeroValue4
 t9:=Tryz.underlying9
 a9:=Tryz.isAgg9
 z9:=Tryz.sizeOf9
 v9:=Tryz.zeroValue9 }
def Tryz.lt285_ren:Go.Shelf.Ren:=⟨fun|285=>244|n=>n,fun|37=>85|53=>194|3=>3|4=>4|51=>250|9=>9|5=>5|0=>0|n=>n,fun|n=>n⟩
theorem Tryz.lt285:Go.Proofs.Lays.n285 Tryz.prog Tryz.lt285_ren:={
 mixed:=by kernel_rfl
 f285:=Tryz.func244.trans (congrArg some Y11)
 t0:=Tryz.underlying0
 a0:=Tryz.isAgg0
 z0:=Tryz.sizeOf0
 v0:=Tryz.zeroValue0
 t3:=Tryz.underlying3
 a3:=Tryz.isAgg3
 z3:=Tryz.sizeOf3
 v3:=Tryz.zeroValue3
 t4:=Tryz.underlying4
 a4:=Tryz.isAgg4
 z4:=Tryz.sizeOf4
 v4:=Tryz.zeroValue4
 t5:=Tryz.underlying5
 a5:=Tryz.isAgg5
 z5:=Tryz.sizeOf5
 v5:=Tryz.zeroValue5
 t9:=Tryz.underlying9
 a9:=Tryz.isAgg9
 z9:=Tryz.sizeOf9
 v9:=Tryz.zeroValue9
 t37:=Tryz.underlying85
 a37:=Tryz.isAgg85
 z37:=Tryz.sizeOf85
 v37:=Tryz.zeroValue85
 t51:=Tryz.underlying250
 a51:=Tryz.isAgg250
 z51:=Tryz.sizeOf250
 v51:=Tryz.zeroValue250
 t53:=Tryz.underlying194
 a53:=Tryz.isAgg194
 z53:=Tryz.sizeOf194
 v53:=Tryz.zeroValue194 }
def Tryz.lt99_ren:Go.Shelf.Ren:=⟨fun|99=>131|206=>189|n=>n,fun|9=>9|4=>4|3=>3|n=>n,fun|n=>n⟩
theorem Tryz.lt99:Go.Proofs.Lays.n99 Tryz.prog Tryz.lt99_ren:={
 mixed:=by kernel_rfl
 f99:=Tryz.func131.trans (congrArg some Y11)
 f206:=Tryz.func189.trans (congrArg some Y11)
 t3:=Tryz.underlying3
 a3:=Tryz.isAgg3
 z3:=Tryz.sizeOf3
 v3:=Tryz.zeroValue3
 t4:=Tryz.underlying4
 a4:=Tryz.isAgg4
 z4:=Tryz.sizeOf4
 v4:=Tryz.zeroValue4
 t9:=Tryz.underlying9
 a9:=Tryz.isAgg9
 z9:=Tryz.sizeOf9
 v9:=Tryz.zeroValue9 }
def Tryz.lt100_ren:Go.Shelf.Ren:=⟨fun|100=>132|207=>190|n=>n,fun|9=>9|4=>4|3=>3|n=>n,fun|n=>n⟩
theorem Tryz.lt100:Go.Proofs.Lays.n100 Tryz.prog Tryz.lt100_ren:={
 mixed:=by kernel_rfl
 f100:=Tryz.func132.trans (congrArg some Y11)
 f207:=Tryz.func190.trans (congrArg some Y11)
 t3:=Tryz.underlying3
 a3:=Tryz.isAgg3
 z3:=Tryz.sizeOf3
 v3:=Tryz.zeroValue3
 t4:=Tryz.underlying4
 a4:=Tryz.isAgg4
 z4:=Tryz.sizeOf4
 v4:=Tryz.zeroValue4
 t9:=Tryz.underlying9
 a9:=Tryz.isAgg9
 z9:=Tryz.sizeOf9
 v9:=Tryz.zeroValue9 }
theorem Tryz.xt156:Builder.Extra Tryz.prog Tryz.lt156_ren:={
 sizeBuilder:=by kernel_rfl
 liesBuilder:=by kernel_rfl
 t5:=by kernel_rfl
 a5:=by intro w;kernel_rfl
 z5:=by intro w;kernel_rfl
 v5:=by intro w;kernel_rfl
 infoByte:=by kernel_rfl
 cellsByte:=by kernel_rfl
 sizeByte:=by kernel_rfl
 neB5:=Y17}
end Go.Proofs
namespace Go.Proofs.YtidacnalcdhckaaGreatDoor
open Go Go.RowKit Tryz
variable {qP:Prop}

abbrev Ft(Γ:Type):=List Value→Γ→World→Prop
def gOf{Γ:Type}(Φs:List (Ft Γ))(i:Nat)(vl:List Value)(γ:Γ)(w:World):Prop:=(Φs.getD i fun _ _ _=>True) vl γ w
def Jt{Γ:Type}(R:Γ→World→Γ→World→Prop)(Φ:Ft Γ):Prop:=∀ l γ w γ' w',R γ w γ' w'→Φ l γ w→Φ l γ' w'
def Chain{Γ:Type}(P:Program)(ops:Array Oper)(D:Nat→List Nat)(R:Γ→World→Γ→World→Prop)(N:Nat→Γ→Prop)(a0:Act)(γ0:Γ)(w0:World)(Qf:List (Ft Γ)→Prop):Nat→List (Ft Γ)→List Oper→Prop
 |_,done,[]=>Qf done.reverse
 |k,done,o::rest=>∃ Φ:Ft Γ,Jt R Φ∧LinStep P ops D R N (gOf (Φ::done).reverse) a0 γ0 w0 k o∧Chain P ops D R N a0 γ0 w0 Qf (k+1) (Φ::done) rest
section
variable {Γ:Type}{P:Program}{ops:Array Oper}{D:Nat→List Nat}{R:Γ→World→Γ→World→Prop}{N:Nat→Γ→Prop}{a0:Act}{γ0:Γ}{w0:World}{Qf:List (Ft Γ)→Prop}
theorem RG{Φs:List (Ft Γ)}{i k:Nat}(h:i<k):gOf (Φs.take k) i=gOf Φs i:=by
 funext vl γ w
 unfold gOf;rw [List.getD_eq_getElem?_getD,List.getD_eq_getElem?_getD,List.getElem?_take,if_pos h]
theorem EtA(h:qP:=by
 have:=congrArg (List.take k) e1;rw [List.take_take,Nat.min_eq_left Y4,List.reverse_cons] at this;rw [this,List.take_append_of_le_length Y2,←hk,←List.length_reverse];exact List.take_length):qP:=h
theorem EHA(h:qP:=by
 cases i with
 |zero =>
  simp at hi;subst hi;rw [Nat.add_zero,e1];exact h2
 |succ i =>
  have:=e4 i o' Y34;rwa [show k+1+i=k+(i+1) by omega] at this):qP:=h
theorem XY(h:qP:=by
 refine ⟨Φs,?_,e2,e3,fun i o' hi => ?_⟩
 ·exact EtA
 ·exact EHA):qP:=h
theorem Xq(h:qP:=by
 rcases List.mem_cons.1 hΨ with rfl|hΨ
 ·exact h1
 ·exact hd Ψ hΨ):qP:=h
theorem Chain.full:∀ {rest:List Oper} {k:Nat} {done:List (Ft Γ)},done.length=k→(∀ Φ∈done,Jt R Φ)→Chain P ops D R N a0 γ0 w0 Qf k done rest →
  ∃ Φs:List (Ft Γ),Φs.take k=done.reverse∧(∀ Φ∈Φs,Jt R Φ)∧Qf Φs∧∀ i o,rest[i]?=some o→LinStep P ops D R N (gOf (Φs.take (k+i+1))) a0 γ0 w0 (k+i) o
 |[],k,done,hk,hd,h=>⟨done.reverse,by rw [←hk,←List.length_reverse];exact List.take_length,fun Φ hΦ=>hd Φ (by simpa using hΦ),h,Y3⟩
 |o::rest,k,done,hk,hd,h=>by
  obtain ⟨Φ,h1,h2,h3⟩:=h;obtain ⟨Φs,e1,e2,e3,e4⟩:=Chain.full (rest:=rest) (k:=k+1) (done:=Φ::done) Y2 (fun Ψ hΨ=>by
   exact Xq) h3
  exact XY
theorem AaA(h:qP:=by
 intro vals γ w hR hN hpp;have:=h vals γ w hR hN (fun j hj=>by rw [hp j hj];exact hpp j hj);rw [hi] at this;exact this):qP:=h
theorem LinStep.congr{G G':Nat→List Value→Γ→World→Prop}{i:Nat}{o:Oper}(hp:∀ j∈AJ o,G j=G' j)(hi:G i=G' i)(h:LinStep P ops D R N G a0 γ0 w0 i o):LinStep P ops D R N G' a0 γ0 w0 i o:=by
 exact AaA
end
theorem DKA(h:qP:=by
 rw [hf] at hg;exact h2 Φ (List.mem_of_getElem? hf) l γ w γ' w' r hg):qP:=h
theorem WR(h:qP:=by
 unfold gOf at hg⊢;rw [List.getD_eq_getElem?_getD] at hg⊢;cases hf:Φs[i]? with
 |none=>trivial
 |some Φ =>
  exact DKA):qP:=h
theorem U6(h:qP:=by
 have:=h4 i o Y34;simp only [Nat.zero_add] at this;exact this.congr (fun j hj=>RG (by have:=hac i o j hi hj;omega)) (RG Y4)):qP:=h
theorem BT{Γ:Type}{P:Program}{l:List Oper}{Q:Exit→Act→World→Prop}{id:Nat}{a0:Act}{w0:World}(hm:P.follows .mixedOrders=true)(D:Nat→List Nat)(hB:KB l.toArray D a0.tmps.size=true)
  (R:Γ→World→Γ→World→Prop) (hrefl:∀ γ w,R γ w γ w) (htrans:∀ γ w γ' w' γ'' w'',R γ w γ' w'→R γ' w' γ'' w''→R γ w γ'' w'')
  (N:Nat→Γ→Prop) (γ0:Γ) (hN:∀ i,N i γ0)
  (h:Chain P l.toArray D R N a0 γ0 w0.drew (fun Φs=>∀ vals γ w,R γ0 w0.drew γ w→(∀ i,i<l.length→gOf Φs i ((D i).map vals) γ w)→Q .normal (AR vals l 0 a0) w) 0 [] l) :
  (Code.region id l.toArray true).wp P Q a0 w0:=by
 obtain ⟨Φs,-,h2,h3,h4⟩:=Chain.full (k:=0) (done:=[]) rfl (fun _ h=>Y36) h;obtain ⟨-,-,-,hac,-⟩:=EM hB;refine GQ hm D hB R hrefl htrans N (gOf Φs) (fun i l γ w γ' w' r hg => ?_) γ0 hN (fun i o hi => ?_) (fun vals γ w hr hg=>h3 vals γ w hr fun i hi=>hg i Y34)
 ·exact WR
 ·exact U6

def FV{Γ:Type}(x:Value):Ft Γ:=fun vl _ _=>match vl with|[v]=>v=x|_=>True
def FP{Γ:Type}(Φ:Value→Γ→World→Prop):Ft Γ:=fun vl γ w=>match vl with|[v]=>Φ v γ w|_=>True
theorem FIA{Γ:Type}{R:Γ→World→Γ→World→Prop}(x:Value):Jt R (FV x):=fun _ _ _ _ _ _ h=>h
theorem EuA{Γ:Type}{R:Γ→World→Γ→World→Prop}{Φ:Value→Γ→World→Prop}(h:∀ v γ w γ' w',R γ w γ' w'→Φ v γ w→Φ v γ' w'):Jt R (FP Φ):=fun l γ w γ' w' r hf=>by
 unfold FP at hf⊢
 match l,hf with
 |[],_=>trivial
 |[v],hf=>exact h v γ w γ' w' r hf
 |_::_::_,_=>trivial

section
variable {Γ:Type}{P:Program}{ops:Array Oper}{D:Nat→List Nat}{R:Γ→World→Γ→World→Prop}{N:Nat→Γ→Prop}{a0:Act}{γ0:Γ}{w0:World}{Qf:List (Ft Γ)→Prop}{done:List (Ft Γ)}{o:Oper}{rest:List Oper}
theorem Mk{Φ:Ft Γ}{j:Nat}{vl:List Value}{γ:Γ}{w:World}(h:gOf (Φ::done).reverse j vl γ w):gOf done.reverse j vl γ w:=by
 unfold gOf at h⊢;rw [List.getD_eq_getElem?_getD,List.reverse_cons] at h;rw [List.getD_eq_getElem?_getD]
 rcases Nat.lt_or_ge j done.reverse.length with hj|hj
 ·rwa [List.getElem?_append_left hj] at h
 ·rw [List.getElem?_eq_none hj];trivial
theorem Mx{Φ:Ft Γ} : gOf (Φ::done).reverse done.length=Φ:=by
 funext vl γ w
 unfold gOf;rw [List.getD_eq_getElem?_getD,List.reverse_cons,List.getElem?_append_right Y3];simp
def M9(ops:Array Oper)(D:Nat→List Nat)(R:Γ→World→Γ→World→Prop)(N:Nat→Γ→Prop)(a0:Act)(γ0:Γ)(w0:World)(k:Nat)(done:List (Ft Γ))(o:Oper)(vals:Nat→Value)(γ:Γ)(w:World)(ρ:Operand→Value)(C:Prop):Prop :=
 R γ0 w0 γ w→N k γ→(∀ j,j∈AJ o→gOf done.reverse j ((D j).map vals) γ w)→(∀ t,ρ (.tmp t)=De ops o a0 vals t)→(∀ v,ρ (.const v)=v)→(∀ f,ρ (.func f)=.func (.func f) #[] #[])→(∀ g,ρ (.global g)=.pointer (some ⟨g,0,none⟩))→C
theorem YG(h:qP:=by
 refine ⟨Φ,hst,fun vals γ w hR hN hp => ?_,next⟩;obtain ⟨h1,h2⟩:=h vals γ w (Ey ops o a0 vals) hR hN (fun j hj=>Mk (hp j hj)) (fun _=>rfl) (fun _=>rfl) (fun _=>rfl) (fun _=>rfl);rw [if_pos h1];have e:gOf (Φ::done).reverse k=Φ:=(by rw [←hk];exact Mx);rw [e];exact h2):qP:=h
theorem Chain.step{k:Nat}(Φ:Ft Γ)(hk:done.length=k)(hst:Jt R Φ)
  (h:∀ vals γ w ρ,M9 ops D R N a0 γ0 w0 k done o vals γ w ρ (Ad o vals=true∧BN P (fun v w'=>∃ γ',R γ w γ' w'∧(∀ j,j≠k→j ∉ AJ o→N j γ→N j γ')∧Φ ((D k).map (EE vals k v)) γ' w') ((execOp ρ o).run P w)))
  (next:Chain P ops D R N a0 γ0 w0 Qf (k+1) (Φ::done) rest):Chain P ops D R N a0 γ0 w0 Qf k done (o::rest):=by
 exact YG
theorem A8A(h:qP:=by
 rintro v w' ⟨rfl,rfl⟩;refine ⟨γ,hrefl _ _,fun _ _ _ h=>h,?_⟩;rw [hD];simp [FV,EE]):qP:=h
theorem E2A{k:Nat}{x:Value}(hrefl:∀ γ w,R γ w γ w)(hk:done.length=k)
  (h:∀ vals γ w ρ,M9 ops D R N a0 γ0 w0 k done o vals γ w ρ (Ad o vals=true∧BN P (fun v w'=>v=x∧w'=w) ((execOp ρ o).run P w)))
  (hD:D k=[k]) (next:Chain P ops D R N a0 γ0 w0 Qf (k+1) (FV x::done) rest):Chain P ops D R N a0 γ0 w0 Qf k done (o::rest):=by
 refine Chain.step (FV x) hk (FIA x) (fun vals γ w ρ hR hN hp h1 h2 h3 h4 => ?_) next;obtain ⟨g1,g2⟩:=h vals γ w ρ hR hN hp h1 h2 h3 h4;refine ⟨g1,?_⟩;have key:∀ v w',v=x∧w'=w→∃ γ',R γ w γ' w'∧(∀ j,j≠k→j ∉ AJ o→N j γ→N j γ')∧FV x ((D k).map (EE vals k v)) γ' w':=by
  exact A8A
 revert g2
 cases (execOp ρ o).run P w with
 |ok n w' =>
  cases n with
  |value v=>exact key v w'
  |skip=>exact key undef w'
  |enter f args=>exact fun g2=>g2.mono fun e w'' ⟨v,e1,e2⟩=>⟨v,e1,key v w'' e2⟩
  |_=>exact id
 |_=>exact id
theorem Chain.no{k:Nat}(hk:done.length=k)(hD:D k=[k])(h:∀ vals γ w,(∀ j,j∈AJ o→gOf done.reverse j ((D j).map vals) γ w)→Ad o vals=false)
  (next:Chain P ops D R N a0 γ0 w0 Qf (k+1) (FV undef::done) rest):Chain P ops D R N a0 γ0 w0 Qf k done (o::rest):=by
 refine ⟨FV undef,FIA _,fun vals γ w hR hN hp => ?_,next⟩;have h1:=h vals γ w fun j hj=>Mk (hp j hj);rw [if_neg (by rw [h1];simp)];have e:gOf ((FV undef:Ft Γ)::done).reverse k=FV undef:=(by rw [←hk];exact Mx);rw [e,hD];simp [FV,EE]
end

structure LX(X:Nat→Nat→Prop)(γ:Gh)(w:World)(γ':Gh)(w':World):Prop where
 os:w'.os=w.os
 tape:w'.tape=w.tape
 output:w'.output=w.output
 size:w.heap.size≤w'.heap.size
 kept:∀ b,b<w.heap.size→C4 γ b→(∀ m,X m b→γ' m=γ m)→w'.heap[b]?=w.heap[b]?
 shape:∀ b t cs,Blk w b t cs→(∀ m,¬X m b)→∃ cs',cs'.size=cs.size∧Blk w' b t cs'
 old:∀ k b,γ' k=some (some b)→b<w.heap.size→γ k=some (some b)
 on:∀ k b,γ k=some (some b)→γ' k=some (some b)∨γ' k=some none
 done:∀ k,γ k=some none→γ' k=some none
 big:∀ k b,1000≤k→γ' k=some (some b)→γ k=some (some b)
 inb:(∀ k b,γ k=some (some b)→b<w.heap.size)→∀ k b,γ' k=some (some b)→b<w'.heap.size
section
variable {X:Nat→Nat→Prop}{γ γ' γ'':Gh}{w w' w'':World}
theorem LX.refl(X:Nat→Nat→Prop)(γ:Gh)(w:World):LX X γ w γ w:=⟨rfl,rfl,rfl,AS,fun _ _ _ _=>rfl,fun _ _ cs h _=>⟨cs,rfl,h⟩,fun _ _ h _=>h,fun _ _ h=>.inl h,fun _ h=>h,fun _ _ _ h=>h,fun h=>h⟩
theorem LX.free(h:LX X γ w γ' w'){b:Nat}(hb:b<w.heap.size)(hf:C4 γ b):C4 γ' b:=fun ⟨k,hk⟩=>hf ⟨k,h.old k b hk hb⟩
theorem LX.mid(h:LX X γ w γ' w')(k:LX X γ' w' γ'' w''){m:Nat}(e:γ'' m=γ m):γ' m=γ m∧γ'' m=γ' m:=by
 cases h0:γ m with
 |none =>
  rw [h0] at e;cases h1:γ' m with
  |none=>exact ⟨rfl,e⟩
  |some x =>
   cases x with
   |none=>rw [k.done m h1] at e;cases e
   |some b=>rcases k.on m b h1 with h2|h2<;>(rw [h2] at e;cases e)
 |some x =>
  cases x with
  |none =>
   have h1:=h.done m h0;exact ⟨h1,(k.done m h1).trans h1.symm⟩
  |some b =>
   rw [h0] at e
   rcases h.on m b h0 with h1|h1
   ·exact ⟨h1,e.trans h1.symm⟩
   ·rw [k.done m h1] at e;cases e
theorem LX.trans(X:Nat→Nat→Prop)(γ:Gh)(w:World)(γ':Gh)(w':World)(γ'':Gh)(w'':World)(h:LX X γ w γ' w')(k:LX X γ' w' γ'' w''):LX X γ w γ'' w'' where
 os:=k.os.trans h.os
 tape:=k.tape.trans h.tape
 output:=k.output.trans h.output
 size:=Nat.le_trans h.size k.size
 kept b hb hf hm:=(k.kept b (Nat.lt_of_lt_of_le hb h.size) (h.free hb hf) (fun m hX=>(h.mid k (hm m hX)).2)).trans (h.kept b hb hf fun m hX=>(h.mid k (hm m hX)).1)
 shape b t cs hc hX:=by
  obtain ⟨c1,e1,h1⟩:=h.shape b t cs hc hX;obtain ⟨c2,e2,h2⟩:=k.shape b t c1 h1 hX;exact ⟨c2,e2.trans e1,h2⟩
 old i b hi hb:=h.old i b (k.old i b hi (Nat.lt_of_lt_of_le hb h.size)) hb
 on i b hi:=by
  exact AMA
 done i hi:=k.done i (h.done i hi)
 big i b hi hb:=h.big i b hi (k.big i b hi hb)
 inb hi:=k.inb (h.inb hi)
theorem E6A(X:Nat→Nat→Prop)(γ:Gh)(h:Ext w w'):LX X γ w γ w' :=
 ⟨h.os,h.tape,h.output,h.size,fun b hb _ _=>h.block b hb,fun _b _t cs hc _=>⟨cs,rfl,hc.keep (h.kept _)⟩,fun _ _ h _=>h,fun _ _ h=>.inl h,fun _ h=>h,fun _ _ _ h=>h,fun hi i b hb=>Nat.lt_of_lt_of_le (hi i b hb) h.size⟩
theorem LX.new{k:Nat}(hl:k<1000)(hk:γ k=none)(w:World)(o:Obj):LX X γ w (γ.put k (some w.heap.size)) (w.alloc o):=by
 have h:=(Ext.refl w).alloc o;refine ⟨h.os,h.tape,h.output,h.size,fun b hb _ _=>h.block b hb,fun b t cs hc _=>⟨cs,rfl,hc.keep (h.kept _)⟩,?_,?_,?_,?_,?_⟩
 ·exact Zd
 ·exact ALA
 ·exact Xd
 ·intro j b hj hb;unfold Gh.put at hb;split at hb
  ·omega
  ·exact hb
 ·exact ZN
theorem LX.inb0(h:LX X gh0 w γ' w'):∀ k b,γ' k=some (some b)→b<w'.heap.size:=h.inb fun k b hk=>by cases hk
theorem LX.keptS(h:LX X γ w γ' w'){S:NP}(hS:∀ b,b<w.heap.size→S b→C4 γ b∧∀ m,X m b→γ' m=γ m):Kept S w w':=⟨h.size,fun b hs hb=>h.kept b hb (hS b hb hs).1 (hS b hb hs).2⟩
theorem Is(b:Nat):C4 gh0 b:=fun ⟨_,hk⟩=>by cases hk
theorem LX.kept0(h:LX X gh0 w.drew γ' w'){S:NP}(hS:∀ b,S b→∀ m,¬X m b):Kept S w w':=(Kept.drew S w).trans (h.keptS fun b _ hb=>⟨Is b,fun m hX=>absurd hX (hS b hb m)⟩)
theorem LX.ext0(h:LX X gh0 w.drew γ' w')(hX:∀ m b,X m b→γ' m=none):Ext w w':=(Ext.refl w).drew.trans ⟨h.os,h.tape,h.output,h.size,fun b hb=>h.kept b hb (Is b) fun m hm=>hX m b hm⟩
theorem ZG(h:qP:=by
 intro j b _ hj;exact Xx):qP:=h
theorem LX.store{k g t:Nat}{cs cs':Array Value}(hk:γ k=some (some g))(hu:∀ j,γ j=some (some g)→j=k)(ho:Only g w w')(hb:Blk w g t cs)(hb':Blk w' g t cs')(hs:cs'.size=cs.size) :
  LX X γ w (γ.put k none) w':=by
 refine ⟨ho.os,ho.tape,ho.output,Nat.le_of_eq ho.size.symm,fun b _ hf _=>ho.block b (fun e=>hf ⟨k,by rw [hk,e]⟩),?_,?_,?_,?_,?_,?_⟩
 ·intro b t' c hc _;exact Yl
 ·exact WA
 ·exact V7
 ·exact Uu
 ·exact ZG
 ·exact ZX
theorem FCA{m:Nat}(hm:γ m=none)(hos:w'.os=w.os)(ht:w'.tape=w.tape)(hou:w'.output=w.output)(hz:w.heap.size≤w'.heap.size)(hb:∀ b,b<w.heap.size→¬X m b→w'.heap[b]?=w.heap[b]?):LX X γ w (γ.put m none) w':=by
 refine ⟨hos,ht,hou,hz,fun b hl _ hX=>hb b hl fun h => ?_,fun b t cs hc hX=>⟨cs,rfl,(hb b hc.lt (hX m)).trans hc⟩,?_,?_,?_,?_,?_⟩
 ·have:=hX m h;rw [hm] at this;simp [Gh.put] at this
 ·exact WA
 ·exact V7
 ·exact Uu
 ·exact ZG
 ·intro hi j b hj;unfold Gh.put at hj;split at hj
  ·cases hj
  ·exact Nat.lt_of_lt_of_le (hi j b hj) hz
end
def lk(n:Nat)(K:List Nat):List (Nat × List Nat):=(List.range n).map fun i=>(i,K)
def alF(l:List (Nat × List Nat)):Nat→List Nat:=fun j=>(l.lookup j).getD []
def LM(l:List (Nat × List Nat))(i:Nat)(γ:Gh):Prop:=(∀ k∈alF l i,γ k≠some none)∧(i<1000→(∃ s,i∈alF l s)→γ i=none)
theorem LM.zero(l:List (Nat × List Nat))(i:Nat):LM l i gh0:=⟨fun _ _ h=>Y36,fun _ _=>rfl⟩
theorem Vb{l:List (Nat × List Nat)}{k s:Nat}{p:List Nat}(h:(l.all fun q => !(q.2.contains k)||decide (q.1=s)||p.contains q.1)=true):∀ j,k∈alF l j→j=s∨j∈p:=by
 intro j hj;unfold alF at hj;cases hl:l.lookup j with
 |none=>rw [hl] at hj;simp at hj
 |some x =>
  rw [hl] at hj;have hm:(j,x)∈l:=by
   clear h hj
   induction l with
   |nil=>simp at hl
   |cons q l ih =>
    rw [List.lookup_cons] at hl;split at hl
    ·rename_i he;obtain rfl:=Option.some.inj hl;have:j=q.1:=(by simpa using he);rw [this];exact List.mem_cons_self
    ·exact List.mem_cons_of_mem _ (ih hl)
  have:=List.all_eq_true.1 h (j,x) hm;simp only [Bool.or_eq_true,Bool.not_eq_true',decide_eq_true_eq,List.contains_iff_mem] at this;have hk:k∈x:=Y15
  rcases this with (h1|h1)|h1
  ·rw [←Bool.not_eq_true,List.contains_iff_mem] at h1;exact absurd hk h1
  ·exact .inl h1
  ·exact .inr h1
theorem FGA{l:List (Nat × List Nat)}{γ:Gh}{i x:Nat}{p:List Nat} : ∀ j,j≠i→j ∉ p→LM l j γ→LM l j (γ.put i (some x)):=by
 rintro j hj-⟨h1,h2⟩;refine ⟨fun k hk => ?_,fun hl hs => ?_⟩
 ·unfold Gh.put;split
  ·simp
  ·exact h1 k hk
 ·unfold Gh.put;rw [if_neg hj];exact h2 hl hs
theorem CeA(h:qP:=by
 subst e
 rcases Vb h j hk' with h3|h3
 ·exact hj h3
 ·exact hp h3):qP:=h
theorem CRA(h:qP:=by
 rw [if_neg (fun e=>by
  exact CeA)]
 exact h1 k' hk'):qP:=h
theorem LM.done{l:List (Nat × List Nat)}{γ:Gh}{s k:Nat}{p:List Nat}(h:(l.all fun q => !(q.2.contains k)||decide (q.1=s)||p.contains q.1)=true)(hk:(∃ g,γ k=some (some g))∨1000≤k):∀ j,j≠s→j ∉ p→LM l j γ→LM l j (γ.put k none):=by
 rintro j hj hp ⟨h1,h2⟩;refine ⟨fun k' hk' => ?_,fun hl hs' => ?_⟩
 ·unfold Gh.put;exact CRA
 ·unfold Gh.put;rw [if_neg (fun e=>by
   subst e
   rcases hk with ⟨g,hk⟩|hk
   ·rw [h2 hl hs'] at hk;cases hk
   ·omega)]
  exact h2 hl hs'
section
variable {X:Nat→Nat→Prop}{γ γ':Gh}{w w':World}
theorem LX.key0(h:LX X gh0 w γ w'){l:List (Nat × List Nat)}{i k:Nat}(hN:LM l i γ)(hk:k∈alF l i)(h1:1000≤k):γ k=none:=by
 cases hg:γ k with
 |none=>rfl
 |some x =>
  cases x with
  |none=>exact absurd hg (hN.1 k hk)
  |some b=>have:=h.big k b h1 hg;cases this
theorem LX.extB(h:LX X gh0 w.drew γ' w'){w00:World}(hx:Ext w00 w)(hX:∀ m b,X m b→w00.heap.size≤b):Ext w00 w' :=
 ⟨h.os.trans hx.os,h.tape.trans hx.tape,h.output.trans hx.output,Nat.le_trans hx.size h.size,fun b hb=>(h.kept b (Nat.lt_of_lt_of_le hb hx.size) (Is b) fun m hm=>by have:=hX m b hm;omega).trans (hx.block b hb)⟩
end
section
variable {X:Nat→Nat→Prop}{γ γ':Gh}{w w':World}
def VarX(X:Nat→Nat→Prop)(k t n:Nat)(v:Value)(γ:Gh)(w:World):Prop:=∃ g cs,v=.pointer (some ⟨g,0,none⟩)∧cs.size=n∧Blk w g t cs∧(γ k=some (some g)∨γ k=some none)∧(∀ j,γ j=some (some g)→j=k)∧∀ m,¬X m g
theorem E3A{k t n:Nat} : ∀ v γ w γ' w',LX X γ w γ' w'→VarX X k t n v γ w→VarX X k t n v γ' w':=by
 rintro v γ w γ' w' r ⟨g,cs,h1,h2,h3,h4,h5,h6⟩;obtain ⟨cs',e,h7⟩:=r.shape g t cs h3 h6;refine ⟨g,cs',h1,e.trans h2,h7,?_,fun j hj=>h5 j (r.old j g hj h3.lt),h6⟩
 rcases h4 with h4|h4
 ·exact r.on k g h4
 ·exact .inr (r.done k h4)
theorem VarX.new{k t n:Nat}(hf:∀ j b,γ j=some (some b)→b<w.heap.size){cs:Array Value}(hn:cs.size=n)(hX:∀ m b,X m b→b<w.heap.size):VarX X k t n (.pointer (some ⟨w.heap.size,0,none⟩)) (γ.put k (some w.heap.size)) (w.alloc (.cells cs t)):=by
 refine ⟨_,cs,rfl,hn,Blk.new w t cs,.inl (by simp [Gh.put]),fun j hj => ?_,fun m hm=>by have:=hX m _ hm;omega⟩;exact BXA
def VarXI(X:Nat→Nat→Prop)(t:Nat)(v:Value)(cs:Array Value)(γ:Gh)(w:World):Prop:=∃ g,v=.pointer (some ⟨g,0,none⟩)∧Blk w g t cs∧C4 γ g∧∀ m,¬X m g
theorem FJA{t:Nat}{v:Value}{cs:Array Value}(r:LX X γ w γ' w')(h:VarXI X t v cs γ w):VarXI X t v cs γ' w':=by
 obtain ⟨g,h1,h2,h3,h4⟩:=h;exact ⟨g,h1,h2.keep (r.keptS fun b _ e=>⟨by rw [e];exact h3,fun m hm=>absurd (e ▸ hm) (h4 m)⟩),r.free h2.lt h3,h4⟩
theorem E1A{l:List (Nat × List Nat)}{s k t n:Nat}{v:Value}(h:VarX X k t n v γ w)(hs:k∈alF l s)(hn:LM l s γ) :
  ∃ g cs,v=.pointer (some ⟨g,0,none⟩)∧cs.size=n∧Blk w g t cs∧γ k=some (some g)∧∀ w' cs',Only g w w'→Blk w' g t cs'→cs'.size=n→LX X γ w (γ.put k none) w'∧VarXI X t v cs' (γ.put k none) w':=by
 obtain ⟨g,cs,h1,h2,h3,h4,h5,h6⟩:=h;have hk:γ k=some (some g):=by
  exact BtA
 refine ⟨g,cs,h1,h2,h3,hk,fun w' cs' ho hb he=>⟨LX.store hk h5 ho h3 hb (he.trans h2.symm),g,h1,hb,?_,h6⟩⟩;exact BOA
end
theorem Bw{P:Program}{o:Oper}{ρ:Operand→Value}{K:Value→World→Prop}{w:World}{base e sz n c:Nat}{A:OA}{xs:List Value}(s x:Operand){t by_:Nat}
  (ho:o.op=.call { callee:=.builtin .append,args:=#[s,x],argTypes:=#[t,t] }) (ti:TI P t e sz by_) (hs:ρ s=.slice A n c) (hown:Own w base e sz A n c xs)
  {S:NP} {B:OA} {m c2:Nat} {news:List Value} (hx:ρ x=.slice B m c2) (hr:Rd w S B news) (hl:news.length=m*sz) (h1:∀ u∈news,u.oneCell'=true)
  (h63:(n+m)*by_≤140737488355328) (hby:0<by_) (hbase:base≤w.heap.size)
  (h:∀ A' c' w',Own w' base e sz A' (n+m) c' (xs++news)→w.grownBy w' (ob A)→(ob A'=ob A∨ob A'=some w.heap.size)→K (.slice A' (n+m) c') w') :
  BN P K ((execOp ρ o).run P w):=by
 exact YY
theorem I3(z:Value)(n:Nat)(hz:z.cells=#[z]):madeCells z.cells n=Array.replicate n z:=by
 exact Z89
theorem SO(n:Nat)(hn:n≤4294967296):∀ w:World,(Instr.makeSlice 22 (.I (n:Int)) (.I (n:Int))).run prog w=.ok (.slice (some ⟨w.heap.size,0,none⟩) n n) (w.alloc (.cells (Array.replicate n (.I 0)) 3)):=by
 intro w;obtain ⟨i0,h1,h2,h3,h4⟩:=info_parts RQ;have hr:=run_make (P:=prog) w 22 3 i0 (.I 0) underlying22 h1 h2 .i64 .i64 n n Y4 Y4 (by rw [h4];omega) Y4;rw [h3,Nat.mul_one,Int.toNat_natCast,I3 _ _ rfl] at hr;exact hr

structure But(g:Nat)(w w':World):Prop where
 os:w'.os=w.os
 tape:w'.tape=w.tape
 output:w'.output=w.output
 size:w.heap.size≤w'.heap.size
 block:∀ b,b<w.heap.size→b≠g→w'.heap[b]?=w.heap[b]?
section
variable {g:Nat}{w w' w'':World}
theorem But.refl(g:Nat)(w:World):But g w w:=⟨rfl,rfl,rfl,AS,fun _ _ _=>rfl⟩
theorem But.trans(h:But g w w')(k:But g w' w''):But g w w'':=⟨k.os.trans h.os,k.tape.trans h.tape,k.output.trans h.output,Nat.le_trans h.size k.size,fun b hb hg=>(k.block b (Nat.lt_of_lt_of_le hb h.size) hg).trans (h.block b hb hg)⟩
theorem E0A(h:Ext w w'):But g w w':=⟨h.os,h.tape,h.output,h.size,fun b hb _=>h.block b hb⟩
theorem But.of_only(h:Only g w w'):But g w w':=⟨h.os,h.tape,h.output,Nat.le_of_eq h.size.symm,fun b _ hg=>h.block b hg⟩
theorem But.kept(h:But g w w'){S:NP}(hS:∀ b,b<w.heap.size→S b→b≠g):Kept S w w':=⟨h.size,fun b hb hl=>h.block b hl (hS b hl hb)⟩
theorem But.ext(h:But g w w')(hg:w.heap.size≤g):Ext w w':=⟨h.os,h.tape,h.output,h.size,fun b hb=>h.block b hb Y4⟩
theorem But.exts{a:World}(h:Ext a w)(k:But g w w')(hg:a.heap.size≤g):Ext a w':=⟨k.os.trans h.os,k.tape.trans h.tape,k.output.trans h.output,Nat.le_trans h.size k.size,fun b hb=>(k.block b (Nat.lt_of_lt_of_le hb h.size) Y4).trans (h.block b hb)⟩
theorem But.own{base e sz n c:Nat}{A:OA}{xs:List Value}(h:But g w w')(ho:Own w base e sz A n c xs)(hb:g<base):Own w' base e sz A n c xs:=ho.keep (h.kept fun b _ hb'=>by have:=(ho.blk hb').1;omega)
theorem But.blk{b t:Nat}{cs:Array Value}(h:But g w w')(hb:Blk w b t cs)(hg:b≠g):Blk w' b t cs:=hb.keep (h.kept fun x _ e=>Y4)
theorem But.grown{row:Option Nat}(h:But g w w')(hg:w'.grownBy w'' row)(hr:∀ k,row=some k→w.heap.size≤k):But g w w'':=⟨hg.os.trans h.os,hg.tape.trans h.tape,hg.output.trans h.output,Nat.le_trans h.size hg.size,fun b hb hx=>(hg.block b (Nat.lt_of_lt_of_le hb h.size) fun e=>by have:=hr b e.symm;omega).trans (h.block b hb hx)⟩
theorem But.set{b i:Nat}{u:Value}(h:But g w w')(hb:w.heap.size≤b):But g w (w'.setCell ⟨b,i,none⟩ u):=⟨h.os,h.tape,h.output,by simpa [World.setCell] using h.size,fun x hx hg=>(Below.heap_setCell _ _ _ _ (by show x≠b;omega)).trans (h.block x hx hg)⟩
end

def DU(j:Nat)(c:Int):Bool:=Bs c||(decide (j≠0)&&(decide (c=95)||decide (48≤c∧c≤57)))
theorem PC{s:BA}(hp:0<s.size):(bs s).head?=some (s[0].toNat:Int):=by
  rw [List.head?_eq_getElem?,List.getElem?_eq_getElem (by rw [Ej];exact hp),Hn s 0 hp]
theorem Ku{s:BA}(h:∀ j (h:j<s.size),DU j (s[j].toNat:Int)=true):BC s=decide (1≤s.size∧s.size≤20):=by
  unfold BC
  by_cases h0:s.size=0
  · simp [h0]
  have hp:0<s.size:=Y4
  have h1:Bs (s[0].toNat:Int)=true:=by simpa [DU] using h 0 hp
  rw [PC hp,BX (bs s) Fh (fun j hj=>by
    rw [Ej] at hj;rw [Hn s j hj]
    have:=h j hj
    simp only [DU,Bool.or_eq_true,Bool.and_eq_true] at this
    simp only [Fh,Bool.or_eq_true]
    rcases this with h|⟨_,h|h⟩
    · exact .inl (.inl h)
    · exact .inl (.inr h)
    · exact .inr h)]
  simp [h1]
theorem Y37(h:qP:=by simpa using h2):qP:=h
theorem SI{s:BA}{k:Nat}(hk:k<s.size)(h:DU k (s[k].toNat:Int)=false):BC s=false:=by
  unfold BC
  by_cases h0:k=0
  · subst h0
    have h1:Bs (s[0].toNat:Int)=false:=by simpa [DU] using h
    rw [PC hk]
    simp [h1]
  · rw [Bg (bs s) Fh k (by rw [Ej];exact hk) (by
      rw [Hn s k hk]
      simp only [DU,Bool.or_eq_false_iff,Bool.and_eq_false_iff,decide_eq_false_iff_not] at h
      obtain ⟨h1,h2|⟨h2,h3⟩⟩:=h
      · exact absurd h0 Y37
      · simp only [Fh,h1,Bool.false_or,Bool.or_eq_false_iff,decide_eq_false_iff_not]
        exact ⟨h2,h3⟩)]
    simp

theorem Ks(s:BA)(hs:s.size≤4294967296)(w:World):Cl 58 #[.string s] w (SameB w (Bi s)):=by
  go_enter func58,ntmps58
  go_wp2
  go_loop [3] (fun i=>∃ k:Nat,k≤s.size∧i=.I k∧∀ j (h:j<s.size),j<k→B8 (s[j].toNat:Int)=true) (fun i=>s.size-(intOf i).toNat)
  case atStart=>exact ⟨0,AE,rfl,Y8⟩
  case round =>
    exact Z38

theorem W4(h:qP:=by
  have HF:=Hd (SI hlt hn)
  first
  |(exfalso;simp only [DU,Bs,Bool.or_eq_false_iff,Bool.and_eq_false_iff,decide_eq_false_iff_not] at hn;omega)
  |(clear hn
     go_wp2
     all_goals first|(go_ret;exact ⟨Y19,rfl⟩)|(rename_i hx;exfalso;simp at hx;omega))):qP:=h
theorem C1A(h:qP:=by
  refine ⟨0+1,Y4,Y5,fun j h hj => ?_⟩
  by_cases hjk:j=0
  · subst hjk
    exact HN.o
  · exact HA.o j h Y4):qP:=h
theorem EWA(h:qP:=by
  have HN:=Hd hn
  first
  |(exfalso;simp only [DU,Bs,Bool.or_eq_true,Bool.and_eq_true,decide_eq_true_iff] at hn;omega)
  |(clear hn
     go_wp2
     go_round
     case rel =>
       exact C1A
     case measure=>simp [intOf];omega)):qP:=h
theorem D8A(h:qP:=by
  first|have a1:97≤(s[0].toNat:Int):=by omega|have a1:¬97≤(s[0].toNat:Int):=by omega
  first|have a2:(s[0].toNat:Int)≤122:=by omega|have a2:¬(s[0].toNat:Int)≤122:=by omega
  first|have a3:65≤(s[0].toNat:Int):=by omega|have a3:¬65≤(s[0].toNat:Int):=by omega
  first|have a4:(s[0].toNat:Int)≤90:=by omega|have a4:¬(s[0].toNat:Int)≤90:=by omega
  first|have a5:(s[0].toNat:Int)=95:=by omega|have a5:¬(s[0].toNat:Int)=95:=by omega
  first|have a6:(s[0].toNat:Int)<48:=by omega|have a6:¬(s[0].toNat:Int)<48:=by omega
  first|have a7:57<(s[0].toNat:Int):=by omega|have a7:¬57<(s[0].toNat:Int):=by omega
  cases hn:DU 0 (s[0].toNat:Int)
  · exact W4
  · exact EWA):qP:=h
theorem DfA(h:qP:=by
  subst hz
  rcases hc with h1|⟨h1,h2⟩|⟨h1,h2⟩|⟨h1,h2⟩|⟨h1,h2⟩|h1|h1|⟨h1,h2⟩|h1
  all_goals
    exact D8A):qP:=h
theorem ClA(h:qP:=by
  refine ⟨k+1,Y4,Y5,fun j h hj => ?_⟩
  by_cases hjk:j=k
  · subst hjk
    exact HN.o
  · exact HA.o j h Y4):qP:=h
theorem CtA(h:qP:=by
  have HN:=Hd hn
  first
  |(exfalso;simp only [DU,Bs,Bool.or_eq_true,Bool.and_eq_true,decide_eq_true_iff] at hn;omega)
  |(clear hn
     go_wp2
     go_round
     case rel =>
       exact ClA
     case measure=>simp [intOf];omega)):qP:=h
theorem CoA(h:qP:=by
  first|have a1:97≤(s[k].toNat:Int):=by omega|have a1:¬97≤(s[k].toNat:Int):=by omega
  first|have a2:(s[k].toNat:Int)≤122:=by omega|have a2:¬(s[k].toNat:Int)≤122:=by omega
  first|have a3:65≤(s[k].toNat:Int):=by omega|have a3:¬65≤(s[k].toNat:Int):=by omega
  first|have a4:(s[k].toNat:Int)≤90:=by omega|have a4:¬(s[k].toNat:Int)≤90:=by omega
  first|have a5:(s[k].toNat:Int)=95:=by omega|have a5:¬(s[k].toNat:Int)=95:=by omega
  first|have a6:(s[k].toNat:Int)<48:=by omega|have a6:¬(s[k].toNat:Int)<48:=by omega
  first|have a7:57<(s[k].toNat:Int):=by omega|have a7:¬57<(s[k].toNat:Int):=by omega
  cases hn:DU k (s[k].toNat:Int)
  · exact W4
  · exact CtA):qP:=h
theorem C5A(h:qP:=by
  rcases hc with h1|⟨h1,h2⟩|⟨h1,h2⟩|⟨h1,h2⟩|⟨h1,h2⟩|h1|h1|⟨h1,h2⟩|h1
  all_goals
    exact CoA):qP:=h
theorem Yh(h:qP:=by
  have hc:(s[k].toNat:Int)<48∨(48≤(s[k].toNat:Int)∧(s[k].toNat:Int)≤57)∨(57<(s[k].toNat:Int)∧(s[k].toNat:Int)<65)∨(65≤(s[k].toNat:Int)∧(s[k].toNat:Int)≤90)∨(90<(s[k].toNat:Int)∧(s[k].toNat:Int)<95)∨(s[k].toNat:Int)=95∨(s[k].toNat:Int)=96∨(97≤(s[k].toNat:Int)∧(s[k].toNat:Int)≤122)∨122<(s[k].toNat:Int):=Y4
  by_cases hz:k=0
  · exact DfA
  · exact C5A):qP:=h
theorem OB(s:BA)(hs:s.size≤4294967296)(w:World):Cl 79 #[.string s] w (SameB w (BC s)):=by
  go_enter func79,ntmps79
  go_wp2
  go_loop [3] (fun i=>∃ k:Nat,k≤s.size∧i=.I k∧∀ j (h:j<s.size),j<k→DU j (s[j].toNat:Int)=true) (fun i=>s.size-(intOf i).toNat)
  case atStart=>exact ⟨0,AE,rfl,Y8⟩
  case round =>
    obtain ⟨k,hk,rfl,hall⟩:=hrel
    have HA:=Hd hall
    clear hall
    by_cases hlt:k<s.size
    · exact Yh
    · have HF:=Hd (Ku (s:=s) (fun j h=>HA.o j h Y4))
      by_cases h0:s.size=0
      · have h0':¬1≤(s.size:Int):=Y4
        exact Z48
      · have h0':1≤(s.size:Int):=Y4
        go_wp2
        go_ret
        refine ⟨?_,rfl⟩
        rw [HF.o,show decide (1≤s.size∧s.size≤20)=decide ((s.size:Int)≤20) from by rw [decide_eq_decide];omega]
        rfl

def nvl(l:List UInt8):Nat:=l.foldl (fun a b=>a*256+b.toNat) 0
def AF(s:BA):Nat:=nvl s.data.toList
def KH(s:BA):Prop:=s.data.toList.head?≠some 0
theorem Hs(l:List UInt8)(b:UInt8):nvl (l++[b])=nvl l*256+b.toNat:=by simp [nvl,List.foldl_append]
theorem Mc(l:List UInt8)(a:Nat):l.foldl (fun a b=>a*256+b.toNat) a=a*256^l.length+nvl l:=by
 induction l generalizing a with
 |nil=>simp [nvl]
 |cons b l ih =>
  simp only [List.foldl_cons,nvl,List.length_cons];rw [ih,ih (0*256+b.toNat)];rw [Nat.pow_succ,Nat.zero_mul,Nat.zero_add];have:(a*256+b.toNat)*256^l.length=a*(256^l.length*256)+b.toNat*256^l.length:=by
   rw [Nat.add_mul,Nat.mul_assoc,Nat.mul_comm 256]
  omega
theorem Ed(b:UInt8)(l:List UInt8):nvl (b::l)=b.toNat*256^l.length+nvl l:=by
 have:=Mc l (0*256+b.toNat)
 simpa [nvl] using this
theorem FT:∀ l:List UInt8,nvl l<256^l.length
 |[]=>by simp [nvl]
 |b::l=>by
  rw [Ed,List.length_cons,Nat.pow_succ];have h1:=FT l;have h2:b.toNat<256:=b.toNat_lt;have h3:b.toNat*256^l.length≤255*256^l.length:=Nat.mul_le_mul_right _ Y4;omega
theorem LT:∀ (k:Nat) (l:List UInt8),(∀ j (h:j<l.length),j<k→l[j]=0)→nvl l=nvl (l.drop k)
 |0,l,_=>rfl
 |k+1,[],_=>by simp
 |k+1,b::l,h=>by
  have h0:b=0:=h 0 Y3 Y4;subst h0;rw [Ed,List.drop_succ_cons];have:=LT k l fun j hj hk=>h (j+1) Y15 Y4;rw [←this];simp
theorem TG(b:UInt8)(l:List UInt8)(h:b≠0):256^l.length≤nvl (b::l):=by
 rw [Ed];have h1:1≤b.toNat:=by
  rcases Nat.eq_zero_or_pos b.toNat with h0|h0
  ·exact absurd (UInt8.toNat_inj.1 (by simpa using h0)) h
  ·exact h0
 have:=Nat.mul_le_mul_right (256^l.length) h1;omega
theorem DH{s:BA}(h:KH s){k:Nat} : s.size≤k↔AF s<256^k:=by
 have hsz:s.size=s.data.toList.length:=Y3;unfold KH at h;unfold AF;rw [hsz];generalize s.data.toList=l at *;constructor
 ·intro hk;exact Nat.lt_of_lt_of_le (FT l) (Nat.pow_le_pow_right Y4 hk)
 ·intro hk;cases l with
  |nil=>simp
  |cons b l =>
   have h0:b≠0:=Y27;have h1:=TG b l h0;have h2:256^l.length<256^k:=Nat.lt_of_le_of_lt h1 hk;have:=(Nat.pow_lt_pow_iff_right (a:=256) Y4).1 h2;simp;omega
theorem FS{s:BA}(h:KH s):s.size=0↔AF s=0:=by
 have:=DH h (k:=0);rw [Nat.pow_zero] at this;omega
theorem DN(s:BA)(k:Nat)(h:k<s.size):s.data.toList[k]'(by simpa using h)=s[k]:=by simp;rfl

def ABA(w:World)(s:BA)(e:Ending)(w':World):Prop:=e=.returned (.string s)∧w=w'
def Uq(s:BA)(k:Nat):Prop:=∀ j (h:j<s.size),j<k→s[j]=0
theorem NV{s:BA}{k:Nat}(_hk:k≤s.size)(hz:Uq s k)(hn:∀ h:k<s.size,s[k]≠0):AF (s.extract k s.size)=AF s∧KH (s.extract k s.size)∧(s.extract k s.size).size≤s.size:=by
 have he:(s.extract k s.size).data.toList=s.data.toList.drop k:=by
  simp [ByteArray.data_extract];exact List.take_of_length_le Y3
 refine ⟨?_,?_,Y3⟩
 ·unfold AF;rw [he];exact (LT k _ fun j h hj=>by rw [DN s j Y27];exact hz j Y27 hj).symm
 ·unfold KH;rw [he,List.head?_drop]
  rcases Nat.lt_or_ge k s.size with h|h
  ·rw [List.getElem?_eq_getElem Y27,DN s k h];intro hh;exact hn h (Option.some.inj hh)
  ·rw [List.getElem?_eq_none Y27];simp

theorem CG(s:BA)(hs:s.size≤4294967296)(w:World):Cl 256 #[.string s] w (fun e w'=>∃ r,ABA w r e w'∧AF r=AF s∧KH r∧r.size≤s.size):=by
 go_enter func256,ntmps256
 go_wp2
 go_loop [3] (fun i=>∃ k:Nat,k≤s.size∧i=.I k∧Uq s k) (fun i=>s.size-(intOf i).toNat)
 case atStart=>exact ⟨0,AE,rfl,fun _ _ h=>Y4⟩
 case round =>
  obtain ⟨k,hk,rfl,hz⟩:=hrel;have HZ:=Hd hz;clear hz;by_cases hlt:k<s.size
  ·by_cases h0:s[k]=0
   ·have h0':((s[k].toNat:Int)==0)=true:=Y25;have H0:=Hd h0;clear h0;go_wp2
    go_round
    case rel =>
     refine ⟨k+1,Y4,Y5,fun j h hj => ?_⟩;by_cases hjk:j=k
     ·subst hjk;exact H0.o
     ·exact HZ.o j h Y4
    case measure=>simp [intOf];omega
   ·have h0':((s[k].toNat:Int)==0)=false:=by
     have:s[k].toNat≠0:=fun e=>h0 (UInt8.toNat_inj.1 (by simpa using e));simp;omega
    have H0:=Hd (NV hk HZ.o fun _=>h0);clear h0;go_wp2;go_ret;exact ⟨_,⟨rfl,rfl⟩,H0.o⟩
  ·have H0:=Hd (NV hk HZ.o fun h=>absurd h hlt);go_wp2;go_ret;exact ⟨_,⟨rfl,rfl⟩,H0.o⟩

theorem MZ(l m:List UInt8):nvl (l++m)=nvl l*256^m.length+nvl m:=by
 have:=Mc m (nvl l);rw [←this];simp [nvl,List.foldl_append]
theorem Mw(l:List UInt8)(k:Nat):nvl (l.take k)≤nvl l:=by
 have h:=MZ (l.take k) (l.drop k);rw [List.take_append_drop] at h;have:1≤256^(l.drop k).length:=Nat.one_le_pow _ _ Y4;have:=Nat.mul_le_mul_left (nvl (l.take k)) this;omega
theorem Kc(s:BA)(k:Nat)(h:k<s.size):nvl (s.data.toList.take (k+1))=nvl (s.data.toList.take k)*256+s[k].toNat:=by
 rw [List.take_succ_eq_append_getElem Y27,Hs,DN s k h]
theorem Ld{s:BA}(h:s.size=8):AF s<9223372036854775808↔s[0].toNat≤127:=by
 have h0:s.data.toList.head?=some s[0]:=(by rw [List.head?_eq_getElem?,List.getElem?_eq_getElem Y16,DN s 0 Y4]);have hl:s.data.toList.length=8:=Y27;unfold AF;generalize s.data.toList=l at *;cases l with
 |nil=>simp at hl
 |cons b l =>
  have hb:b=s[0]:=(by simpa using h0);rw [←hb,Ed];have hl7:l.length=7:=Y12;have:=FT l;rw [hl7] at *;omega
def Ff(s:BA):Ending:=.returned (.tuple #[.I (if AF s<9223372036854775808 then (AF s:Int) else 0),.bool (decide (AF s<9223372036854775808))])

theorem EnA(h:qP:=by
 have h1:=HGO.o k hlt;have h2:=Kc r k hlt;have HS:=Hd h2;obtain ⟨n,hn⟩:=eqx (nvl (r.data.toList.take k));rw [←hn] at HS h2⊢;rw [h2] at h1;clear h2;go_wp2
 go_round
 case rel=>exact ⟨k+1,Y4,Y5,by rw [HS.o];go_num⟩
 case measure=>simp [intOf];omega):qP:=h
theorem C4A(h:qP:=by
 have hf:nvl (r.data.toList.take k)=AF r:=(by rw [List.take_of_length_le Y16];rfl);rw [hf];go_wp2;refine bodyPost_ret (v:=.tuple #[.I (AF r:Int),.bool true]) (by simp [results,results250,go_sem]) rfl ⟨HB.o.symm,rfl⟩):qP:=h
theorem ECA(h:qP:=by
 obtain ⟨k,hk,rfl,rfl⟩:=hrel;by_cases hlt:k<r.size
 ·exact EnA
 ·exact C4A):qP:=h
theorem Yw(h:qP:=by
 go_wp2
 go_loop [4,5] (fun n i=>∃ k:Nat,k≤r.size∧i=.I k∧n=.I (nvl (r.data.toList.take k):Int)) (fun n i=>r.size-(intOf i).toNat)
 case atStart=>exact ⟨0,AE,rfl,rfl⟩
 case round =>
  exact ECA):qP:=h
theorem AnA(h:qP:=by
 clear h8 hb;go_wp2;refine bodyPost_ret (v:=.tuple #[.I 0,.bool false]) (by simp [results,results250,go_sem]) rfl ⟨HB.o.symm,rfl⟩):qP:=h
theorem Y38(h:qP:=by simp [he]):qP:=h
theorem MY(s:BA)(hs:s.size≤4294967296)(w:World):Cl 250 #[.string s] w (fun e w'=>e=Ff s∧w=w'):=by
 go_enter func250,ntmps250
 go_wp2_with fail
 refine (CG s hs _).mono ?_;rintro e1 w1 ⟨r,⟨rfl,rfl⟩,hv,hc,hsz⟩;have HR:=Hd (show Ff r=Ff s by unfold Ff;rw [hv]);have h8:=DH hc (k:=8);rw [show (256:Nat)^8=18446744073709551616 by decide] at h8;have hr:r.size≤4294967296:=Y4;have HC:=Hd hc;clear hv hsz hc;by_cases hb:AF r<9223372036854775808
 ·have HB:=Hd (show Ff s=.returned (.tuple #[.I (AF r:Int),.bool true]) by rw [←HR.o];simp [Ff,hb]);have hb8:r.size≤8:=h8.2 Y4;have n8:¬(8:Int)<(r.size:Int):=Y4;have HN:=Hd hb;have hgo:∀ k,k<r.size→nvl (r.data.toList.take (k+1))<9223372036854775808:=fun k _=>Nat.lt_of_le_of_lt (Mw _ _) hb;have HGO:=Hd hgo;by_cases he:r.size=8
  ·have e8:((r.size:Int)==8)=true:=Y38;have h0:=(Ld he).1 hb;have p0:0<r.size:=Y4;have n127:¬(127:Int)<(r[0].toNat:Int):=Y4;clear h8 hb hgo h0;exact Yw
  ·have e8:((r.size:Int)==8)=false:=Y16;clear h8 hb hgo;exact Yw
 ·have HB:=Hd (show Ff s=.returned (.tuple #[.I 0,.bool false]) by rw [←HR.o];simp [Ff,hb]);by_cases h9:8<r.size
  ·have n8:(8:Int)<(r.size:Int):=Y4;exact AnA
  ·have n8:¬(8:Int)<(r.size:Int):=Y4;have he:r.size=8:=by
    rcases Nat.lt_or_ge r.size 8 with h|h
    ·have:=(DH HC.o (k:=7)).1 Y4;rw [show (256:Nat)^7=72057594037927936 by decide] at this;omega
    ·omega
   have e8:((r.size:Int)==8)=true:=Y38;have p0:0<r.size:=Y4;have n127:(127:Int)<(r[0].toNat:Int):=by
    have:=Ld he;omega
   exact AnA

def EU(s:BA)(k:Nat):Ending:=.returned (.tuple #[.I (if AF s<256^k then (AF s:Int) else 0),.bool (decide (AF s<256^k))])
theorem CI(s:BA)(hs:s.size≤4294967296)(k:Nat)(hk:k≤7)(w:World):Cl 253 #[.string s,.I (k:Int)] w (fun e w'=>e=EU s k∧w=w'):=by
 go_enter func253,ntmps253
 go_wp2_with fail
 refine (CG s hs _).mono ?_;rintro e1 w1 ⟨r,⟨rfl,rfl⟩,hv,hc,hsz⟩;have hk8:=DH hc (k:=k);rw [hv] at hk8;by_cases hb:r.size≤k
 ·have n8:¬(k:Int)<(r.size:Int):=Y4;have hb2:=hk8.1 hb;have h63:AF s<9223372036854775808:=by
   refine Nat.lt_of_lt_of_le hb2 (Nat.le_trans (Nat.pow_le_pow_right Y4 hk) ?_)
   decide
  have HB:=Hd (show EU s k=Ff s by simp [EU,Ff,hb2,h63]);have HI:=Hd (show Ff s=.returned (.tuple #[.I (AF s:Int),.bool true]) by simp [Ff,h63]);clear hk8 hb2 h63 hv hc
  go_wp2_with fail
  refine (MY s hs _).mono ?_;rintro e1 w1 ⟨he,rfl⟩;rw [HI.o] at he;subst he;go_wp2;refine bodyPost_ret (v:=.tuple #[.I (AF s:Int),.bool true]) (by simp [results,results253,go_sem]) rfl ⟨by rw [HB.o,HI.o],rfl⟩
 ·have n8:(k:Int)<(r.size:Int):=Y4;have HB:=Hd (show EU s k=.returned (.tuple #[.I 0,.bool false]) by
   have:¬AF s<256^k:=fun h=>hb (hk8.2 h);simp [EU,this])
  clear hk8 hv hc;go_wp2;refine bodyPost_ret (v:=.tuple #[.I 0,.bool false]) (by simp [results,results253,go_sem]) rfl ⟨HB.o.symm,rfl⟩

theorem U0:(prog.info? 5).map (fun i=>(i.zero,i.size,i.bytes))=some (some (.int .u8 0),1,1):=by kernel_rfl
theorem VR:TI prog 85 5 1 1:=FEA underlying85 U0 rfl Y17
def ofL(n j:Nat):List Int:=(List.range j).map fun i=>((n / 2^(56-8*i) % 256:Nat):Int)
theorem Hr(n j:Nat):(ofL n j).length=j:=by simp [ofL]
theorem M6(n j:Nat):ofL n (j+1)=ofL n j++[((n / 2^(56-8*j) % 256:Nat):Int)]:=by simp [ofL,List.range_succ]
theorem Lb(n:Nat):∀ j,j≤8→AF (strOfNums (ofL n j))=n / 2^(64-8*j) % 256^j
 |0,_=>by simp [AF,strOfNums,ofL,nvl,Nat.mod_one]
 |j+1,h=>by
  have ih:=Lb n j Y4;unfold AF at ih⊢;rw [strOfNums_data] at ih⊢;rw [M6,List.map_append,List.map_cons,List.map_nil,Hs,ih];have h1:(UInt8.ofNat ((n / 2^(56-8*j) % 256:Nat):Int).toNat).toNat=n / 2^(56-8*j) % 256:=by
   rw [Int.toNat_natCast,UInt8.toNat_ofNat'];omega
  rw [h1,show 64-8*(j+1)=56-8*j by omega];have h2:2^(64-8*j)=2^(56-8*j)*256:=by
   rw [show 64-8*j=(56-8*j)+8 by omega,Nat.pow_add]
  rw [h2,←Nat.div_div_eq_div_mul,Nat.pow_succ];generalize n / 2^(56-8*j)=m;rw [Nat.mul_comm (256^j) 256,Nat.mod_mul];omega
theorem Ts(n:Nat)(h:n<18446744073709551616):AF (strOfNums (ofL n 8))=n:=by
 rw [Lb n 8 Y4];simp;omega
def Ie(w:World)(n:Nat)(e:Ending)(w':World):Prop:=∃ r,e=.returned (.string r)∧AF r=n∧KH r∧r.size≤4294967296∧Ext w w'

theorem WG(h:qP:=by
 injection hA with hA;injection hA with h1 h2;subst h1 h2;exact hc):qP:=h
theorem Y39(h:qP:=by injection hv with h1 _ h2;exact ⟨h1,h2⟩):qP:=h
theorem Og(n:Nat)(h0:0<n)(hn:n≤9223372036854775807)(w:World):Cl 249 #[.I (n:Int)] w (Ie w n):=by
 have hp:(0:Int)<(n:Int):=Y4
 go_enter func249,ntmps249
 go_wp2
 go_loopw [3,4] (fun b i wr=>∃ (j:Nat) (A:OA) (c:Nat),j≤8∧i=.I (56-8*(j:Int))∧b=.slice A j c∧Ext w wr∧Own wr w.heap.size 5 1 A j c ((ofL n j).map (Value.int .u8))) (fun _ i _=>(intOf i+8).toNat)
 case atStart=>exact ⟨0,none,0,Y4,rfl,rfl,Ext.refl _,Own.nil _ _ _ _⟩
 case round =>
  obtain ⟨j,A,c,hj,rfl,rfl,hext,hown⟩:=hrel;have HE:=Hd hext;have HOWN:=Hd hown;by_cases hlt:j<8
  ·obtain ⟨m,hm⟩:∃ m:Nat,m=56-8*j:=⟨_,rfl⟩;have hm2:56-8*(j:Int)=(m:Int):=Y4;have hm3:(m:Int)≤64:=Y4;have hm4:(0:Int)≤(m:Int):=Y4;rw [hm2];have hby:(n:Int) / 2^m % 256=((n / 2^(56-8*j) % 256:Nat):Int):=(by rw [←hm];simp);have HBY:=Hd hby;have HM:=Hd hm;have hown2:=hown.ext ((Ext.refl wr).alloc (.cells #[.int .u8 ((n:Int) / 2^m % 256)] 5));have HO2:=Hd hown2;have hsz:=hext.size;clear hext hown hown2 hby hm hm2
   go_wp2_with (at_builtin;go_must (refine AC rfl (.tmp 13) (.tmp 18) rfl VR rfl HO2.o rfl (Blk.rd (Blk.new _ _ _)) rfl Y18 Y4 Y17 Y16 ?_);intro A4 c4 w4 hown4 hg4 hat4)
   go_roundw
   case rel =>
    refine ⟨j+1,A4,c4,Y4,by have:=HM.o;go_num,rfl,?_,?_⟩
    ·exact (HE.o.alloc _).grown hg4 fun k hk=>(HO2.o.blk hk).1
    ·rw [M6,List.map_append,←HBY.o];exact hown4
   case measure=>have:=HM.o;simp [intOf];omega
  ·obtain rfl:j=8:=Y4
   rcases hown.2 with ⟨hv,hn0⟩|⟨g,cap,cur,hv,hb,hh,hnc,hcm,hcs,ht⟩
   ·omega
   obtain ⟨rfl,rfl⟩:A=some ⟨g,0,none⟩∧c=cap:=Y39;have hcv:=run_convert_bytes_arg (P:=prog) wr 85 5 underlying85 underlying5 g 0 8 c (ofL n 8) (Hr _ _) (fun i hi=>by
    obtain ⟨b,o,hA,-,hc⟩:=(Own.rd hown).at_ (k:=i) (u:=.int .u8 ((ofL n 8).getD i 0)) (by
     rw [List.getElem?_map,List.getElem?_eq_getElem (by rw [Hr];exact hi)];simp [List.getD,List.getElem?_eq_getElem (show i<(ofL n 8).length by rw [Hr];exact hi)])
    exact WG) 166 underlying166
   have hneg:(56-8*((8:Nat):Int))=-8:=Y4;rw [hneg];clear hown hext hv hb hh hnc hcm hcs ht hneg
   go_wp2_with fail
   refine (CG (strOfNums (ofL n 8)) (by rw [strOfNums_size,Hr];omega) _).mono ?_;rintro e1 w1 ⟨r,⟨rfl,rfl⟩,hv,hc,hsz⟩;have HV:=Hd (hv.trans (Ts n Y4));have HC:=Hd hc;rw [strOfNums_size,Hr] at hsz;clear hv hc;go_wp2;go_ret;exact ⟨r,rfl,HV.o,HC.o,Y4,HE.o⟩
theorem NS(w:World):Cl 249 #[.I 0] w (Ie w 0):=by
 have hcv:=run_convert_bytes_nil (P:=prog) w 85 5 underlying85 underlying5 0 0 166 underlying166
 go_enter func249,ntmps249
 go_wp2
 go_loop [3,4] (fun b i=>b=.slice none 0 0∧i=.I 56) (fun _ _=>0)
 case atStart=>exact ⟨rfl,rfl⟩
 case round =>
  obtain ⟨rfl,rfl⟩:=hrel
  go_wp2_with fail
  refine (CG ByteArray.empty Y3 _).mono ?_;rintro e1 w1 ⟨r,⟨rfl,rfl⟩,hv,hc,hsz⟩;go_wp2;go_ret;exact ⟨r,rfl,hv,hc,by have:ByteArray.empty.size=0:=rfl;omega,Ext.refl _⟩
theorem Ex(n:Nat)(hn:n≤9223372036854775807)(w:World):Cl 249 #[.I (n:Int)] w (Ie w n):=by
 rcases Nat.eq_zero_or_pos n with h|h
 ·subst h;exact NS w
 ·exact Og n h hn w

theorem EO{s:BA}{k:Nat}(h:AF s<256^k):EU s k=.returned (.tuple #[.I (AF s:Int),.bool true]):=by simp [EU,h]
theorem GX(a b:BA)(ha:a.size≤4294967296)(hb:b.size≤4294967296)(ha7:AF a<256^7)(hb7:AF b<256^7)(w:World):Cl 219 #[.string a,.string b] w (Ie w (AF a+AF b)):=by
 have e7:(256:Nat)^7=72057594037927936:=Y17;have HA:=Hd (EO ha7);have HB:=Hd (EO hb7);rw [e7] at ha7 hb7;clear e7
 go_enter func219,ntmps219
 go_wp2_with fail
 refine (CI a ha 7 Y4 _).mono ?_;rintro e1 w1 ⟨he,rfl⟩;rw [HA.o] at he;subst he
 go_wp2_with fail
 refine (CI b hb 7 Y4 _).mono ?_;rintro e1 w1 ⟨he,rfl⟩;rw [HB.o] at he;subst he
 go_wp2_with fail
 have:=Ex (AF a+AF b) Y4 w;rw [Int.natCast_add] at this;refine this.mono ?_;rintro e1 w1 ⟨r,rfl,h1,h2,h3,h4⟩;obtain ⟨H1,H2,H4⟩:=Hd3 h1 h2 h4;clear h1 h2 h4 this;go_wp2;go_ret;exact ⟨r,rfl,H1.o,H2.o,h3,H4.o⟩
theorem It(n:Int)(h1:-72057594037927936≤n)(h2:n≤72057594037927936)(w:World):Cl 217 #[.I n] w (Ie w n.natAbs):=by
 by_cases h0:0≤n
 ·obtain ⟨m,rfl⟩:∃ m:Nat,n=(m:Int):=⟨n.toNat,Y4⟩
  go_enter func217,ntmps217
  go_wp2_with fail
  refine (Ex m Y4 _).mono ?_;rintro e1 w1 ⟨r,rfl,g1,g2,g3,g4⟩;obtain ⟨H1,H2,H4⟩:=Hd3 g1 g2 g4;clear g1 g2 g4;go_wp2;go_ret;exact ⟨r,rfl,by rw [H1.o];simp,H2.o,g3,H4.o⟩
 ·obtain ⟨m,hm⟩:∃ m:Nat,-(n+1)=(m:Int):=⟨(-(n+1)).toNat,Y4⟩;have HM:=Hd (show m+1=n.natAbs by omega);have hneg:¬(0:Int)≤n:=h0
  go_enter func217,ntmps217
  go_wp2_with fail
  refine (Ex m Y4 _).mono ?_;rintro e1 w1 ⟨r,rfl,g1,g2,g3,g4⟩;have H1:=Hd g1;have H4:=Hd g4;clear g1 g2 g4
  go_wp2_with fail
  refine (Ex 1 Y4 _).mono ?_;rintro e1 w2 ⟨r2,rfl,g1,g2,g3',g4⟩;have H1':=Hd g1;have H4':=Hd g4;clear g1 g2 g4
  go_wp2_with fail
  have e7:(256:Nat)^7=72057594037927936:=Y17;refine (GX r r2 g3 g3' (by rw [H1.o,e7];omega) (by rw [H1'.out,e7];omega) _).mono ?_;rintro e1 w3 ⟨r3,rfl,k1,k2,k3,k4⟩;obtain ⟨K1,K2,K4⟩:=Hd3 k1 k2 k4;clear k1 k2 k4;go_wp2;go_ret;exact ⟨r3,rfl,by rw [K1.o,H1.o,H1'.out];exact HM.o,K2.o,k3,H4.o.trans (H4'.out.trans K4.o)⟩
end Go.Proofs.YtidacnalcdhckaaGreatDoor
