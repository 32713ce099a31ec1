/- Lemmas. No conditions. -/
import Derived.Test.YtidacnalcdhckaaGreatDoorOq5
import Derived.Ground.NamesProg
import Derived.Shelf.Strings.OnBuilder
import Derived.Shelf.Strings.Prefix
import Derived.Shelf.Strings.Repeat
import Derived.Shelf.Strings.BuilderK
import Derived.Shelf.Strconv.Itoa3
import Derived.Test.YtidacnalcdhckaaGreatDoorProg
import Derived.Deep.Light
set_option maxRecDepth 100000
set_option maxHeartbeats 1000000
namespace Go.Proofs.YtidacnalcdhckaaGreatDoor
open Go Go.RowKit Tryz
variable {qP:Prop}

def Tens(w:World):Prop:=w.cell? ⟨0,0,none⟩=some (.I 1)∧w.cell? ⟨0,1,none⟩=some (.I 10)∧w.cell? ⟨0,2,none⟩=some (.I 100)∧w.cell? ⟨0,3,none⟩=some (.I 1000) ∧
 w.cell? ⟨0,4,none⟩=some (.I 10000)∧w.cell? ⟨0,5,none⟩=some (.I 100000)∧w.cell? ⟨0,6,none⟩=some (.I 1000000)
theorem Tens.ext{w w':World}(h:Tens w)(hx:Ext w w'):Tens w':=⟨hx.cell h.1,hx.cell h.2.1,hx.cell h.2.2.1,hx.cell h.2.2.2.1,hx.cell h.2.2.2.2.1,hx.cell h.2.2.2.2.2.1,hx.cell h.2.2.2.2.2.2⟩
theorem Tens.pos{w:World}(h:Tens w):0<w.heap.size:=by
 rcases Nat.lt_or_ge 0 w.heap.size with h1|h1
 ·exact h1
 ·have:=h.1;simp [World.cell?,Array.getElem?_eq_none h1] at this

def Bg(n s:Int):Int × Int:=if Dz n s=true then (n,s) else (0,0)
def HvA(w:World)(r:Int × Int)(e:Ending)(w':World):Prop:=e=.returned (.agg #[.I r.1,.I r.2])∧Ext w w'
theorem BT(h:qP:=by
 iterate 2 with_reducible refine Ext.set2 ?_ (by omega) _
 with_reducible exact HX.o):qP:=h
theorem KN(n s:Int)(w:World):Cl 210 #[.agg #[.I n,.I s]] w (HvA w (Bg n s)):=by
 go_enter func210,ntmps210
 go_wp2_with fail
 refine (Ff n s _).mono ?_;rintro e1 w1 ⟨rfl,hx1⟩;obtain ⟨hc1,hf1⟩:=Wm hx1;have hz1:=hx1.size;simp at hc1 hf1 hz1;have hz2:w.heap.size<w1.heap.size:=AA;have hz3:w.heap.size+1<w1.heap.size:=AA;have HX:=Hd ((exbb w).trans hx1);cases hd:Dz n s
 ·have HF:=Hd (show Bg n s=(0,0) by simp [Bg,hd]);clear hd hx1;go_wp2;rw [HF.o];refine bodyPost_ret (v:=.agg #[.I 0,.I 0]) (by simp [results,results210,go_sem,hc1]) rfl ⟨rfl,?_⟩;exact BT
 ·have HF:=Hd (show Bg n s=(n,s) by simp [Bg,hd]);clear hd hx1;go_wp2;rw [HF.o];refine bodyPost_ret (v:=.agg #[.I n,.I s]) (by simp [results,results210,go_sem,hc1]) rfl ⟨rfl,?_⟩;exact BT

def pw(s:Int):Int:=if s=0 then 1 else if s=1 then 10 else if s=2 then 100 else if s=3 then 1000 else if s=4 then 10000 else if s=5 then 100000 else 1000000
def mu(n s:Int):Int:=(Bg n s).1*pw (6-(Bg n s).2)
def H0A(w:World)(a b:Int)(e:Ending)(w':World):Prop:=e=.returned (.tuple #[.I a,.I b])∧Ext w w'
theorem GX(n s:Int):0≤(Bg n s).2∧(Bg n s).2≤6∧-1000000000000000≤(Bg n s).1∧(Bg n s).1≤1000000000000000:=by
 unfold Bg;split
 ·rename_i h;simp [Dz,Fx] at h;exact ⟨h.1.1.1,h.1.1.2,h.1.2.1,h.1.2.2⟩
 ·simp
theorem FJA(a d m:Int)(hm:0<m)(h:d*m=1000000):(a*m).tdiv 1000000=a.tdiv d∧(a*m).tmod 1000000=a.tmod d*m:=by
 rw [←h,Int.mul_comm a m,Int.mul_comm d m];exact ⟨Int.mul_tdiv_mul_of_pos _ _ hm,by rw [Int.mul_tmod_mul_of_pos _ _ hm,Int.mul_comm]⟩
theorem B8A(a d m:Int)(hm:0<m)(hd:0<d)(h:d*m=1000000):-1000000<a.tmod d*m∧a.tmod d*m<1000000:=by
 have h1:=Int.tmod_lt_of_pos a hd;have h2:-d<a.tmod d:=by
  have:=Int.lt_tmod_of_pos a hd;omega
 constructor
 ·have:-d*m<a.tmod d*m:=Int.mul_lt_mul_of_pos_right h2 hm;rw [Int.neg_mul,h] at this;exact this
 ·have:a.tmod d*m<d*m:=Int.mul_lt_mul_of_pos_right h1 hm;rw [h] at this;exact this
theorem Hp(m a d k:Int)(hm:m=a*k)(hk:0<k)(hd:0<d)(h:d*k=1000000) :
  Ending.returned (.tuple #[.I (a.tdiv d),.I (wrap64 (a.tmod d*k))])=.returned (.tuple #[.I (m.tdiv 1000000),.I (m.tmod 1000000)]):=by
 obtain ⟨h1,h2⟩:=FJA a d k hk h;obtain ⟨b1,b2⟩:=B8A a d k hk hd h;rw [hm,h1,h2,IntWalk.wrap64_in _ ⟨AA,AA⟩]
theorem KK(n s:Int)(w:World)(ht:Tens w):Cl 191 #[.agg #[.I n,.I s]] w (H0A w ((mu n s).tdiv 1000000) ((mu n s).tmod 1000000)):=by
 have HT:=Hd ht;clear ht
 go_enter func191,ntmps191
 go_wp2_with fail
 refine (KN n s _).mono ?_;rintro e1 w1 ⟨rfl,hx1⟩;obtain ⟨hc1,hf1⟩:=Wm hx1;have hz1:=hx1.size;simp at hc1 hf1 hz1;have hz2:w.heap.size<w1.heap.size:=AA;have HX:=Hd ((exaa w).trans hx1);have hr:=GX n s;have HM:=Hd (show mu n s=(Bg n s).1*pw (6-(Bg n s).2) from rfl);clear hx1;generalize Bg n s=p at *;obtain ⟨a,b⟩:=p;simp only at hr HM⊢;obtain ⟨hr1,hr2,hr3,hr4⟩:=hr;have hb:b=0∨b=1∨b=2∨b=3∨b=4∨b=5∨b=6:=AA;obtain ⟨t0,t1,t2,t3,t4,t5,t6⟩:=HT.o.ext HX.o;have hp:=HT.o.pos;have hne:0≠w.heap.size:=AA;have hne2:w.heap.size≠0:=AA;have b0:w1.cell? ⟨w.heap.size,0,none⟩=some (.I n):=(by rw [hc1 _ _ AA];simp [go_sem]);have b1:w1.cell? ⟨w.heap.size,1,none⟩=some (.I s):=(by rw [hc1 _ _ AA];simp [go_sem]);have f0:w1.frozen? ⟨w.heap.size,0,none⟩=false:=(by rw [hf1 _ _ AA];simp [go_sem]);have f1:w1.frozen? ⟨w.heap.size,1,none⟩=false:=(by rw [hf1 _ _ AA];simp [go_sem]);clear hc1 hf1
 rcases hb with rfl|rfl|rfl|rfl|rfl|rfl|rfl
 all_goals
  go_wp2
  go_quiet (fail)
  go_wp2;go_ret2;refine ⟨?_,?_⟩
  rotate_left
  ·with_reducible refine Ext.drewN ?_ _
   exact BT
  have hm:=HM.o;simp [pw] at hm
 ·rw [hm];simp [Int.mul_tdiv_cancel]
 ·exact Hp _ a 10 100000 hm AB AB AB
 ·exact Hp _ a 100 10000 hm AB AB AB
 ·exact Hp _ a 1000 1000 hm AB AB AB
 ·exact Hp _ a 10000 100 hm AB AB AB
 ·exact Hp _ a 100000 10 hm AB AB AB
 ·rw [hm];have hb:=B8A a 1000000 1 AB AB AB;rw [Int.mul_one] at hb;show Ending.returned (.tuple #[.I (a.tdiv 1000000),.I (wrap64 (a.tmod 1000000))])=_;rw [IntWalk.wrap64_in _ ⟨AA,AA⟩]

theorem tdm(b m:Int)(hm:0<m):m*b.tdiv m+b.tmod m=b∧-m<b.tmod m∧b.tmod m<m∧(0≤b→0≤b.tmod m)∧(b≤0→b.tmod m≤0):=by
 refine ⟨Int.mul_tdiv_add_tmod b m,?_,Int.tmod_lt_of_pos b hm,fun h=>Int.tmod_nonneg m h,fun h => ?_⟩
 ·have:=Int.lt_tmod_of_pos b hm;omega
 ·have:=Int.tmod_nonneg m (show 0≤-b by omega);rw [Int.neg_tmod] at this;omega
def FnA(w:World)(r:(Int × Int) × Bool)(e:Ending)(w':World):Prop:=e=.returned (.tuple #[.agg #[.I r.1.1,.I r.1.2],.bool r.2])∧Ext w w'
end Go.Proofs.YtidacnalcdhckaaGreatDoor
namespace Go.Proofs.YtidacnalcdhckaaGreatDoor
end Go.Proofs.YtidacnalcdhckaaGreatDoor
namespace Go.Proofs
open Go Go.RowKit Go.Shelf Tryz
variable {qP:Prop}
def Tryz.lt156_ren:Go.Shelf.Ren:=⟨fun|156=>100|165=>168|166=>169|169=>170|240=>214|241=>215|276=>246|277=>247|n=>n,fun|31=>26|9=>9|3=>3|4=>4|0=>0|20=>20|72=>157|76=>161|70=>155|37=>85|75=>160|127=>197|164=>230|5=>5|80=>108|n=>n,fun|n=>n⟩
theorem Tryz.lt156:Go.Proofs.Lays.n156 Tryz.prog Tryz.lt156_ren:={
 mixed:=by kernel_rfl
 f156:=Tryz.func100.trans (congrArg some (by kernel_rfl))
 f165:=Tryz.func168.trans (congrArg some (by kernel_rfl))
 f166:=Tryz.func169.trans (congrArg some (by kernel_rfl))
 f169:=Tryz.func170.trans (congrArg some (by kernel_rfl))
 f240:=Tryz.func214.trans (congrArg some (by kernel_rfl))
 f241:=Tryz.func215.trans (congrArg some (by kernel_rfl))
 f276:=Tryz.func246.trans (congrArg some (by kernel_rfl))
 f277:=Tryz.func247.trans (congrArg some (by kernel_rfl))
 t0:=Tryz.underlying0
 a0:=Tryz.isAgg0
 z0:=Tryz.sizeOf0
 v0:=Tryz.zeroValue0
 t3:=Tryz.underlying3
 a3:=Tryz.isAgg3
 z3:=Tryz.sizeOf3
 v3:=Tryz.zeroValue3
 t4:=Tryz.underlying4
 a4:=Tryz.isAgg4
 z4:=Tryz.sizeOf4
 v4:=Tryz.zeroValue4
 t9:=Tryz.underlying9
 a9:=Tryz.isAgg9
 z9:=Tryz.sizeOf9
 v9:=Tryz.zeroValue9
 t20:=Tryz.underlying20
 a20:=Tryz.isAgg20
 z20:=Tryz.sizeOf20
 v20:=Tryz.zeroValue20
 t31:=Tryz.underlying26
 a31:=Tryz.isAgg26
 z31:=Tryz.sizeOf26
 v31:=Tryz.zeroValue26
 t37:=Tryz.underlying85
 a37:=Tryz.isAgg85
 z37:=Tryz.sizeOf85
 v37:=Tryz.zeroValue85
 t70:=Tryz.underlying155
 a70:=Tryz.isAgg155
 z70:=Tryz.sizeOf155
 v70:=Tryz.zeroValue155
 t72:=Tryz.underlying157
 a72:=Tryz.isAgg157
 z72:=Tryz.sizeOf157
 v72:=Tryz.zeroValue157
 t75:=Tryz.underlying160
 a75:=Tryz.isAgg160
 z75:=Tryz.sizeOf160
 v75:=Tryz.zeroValue160
 t76:=Tryz.underlying161
 a76:=Tryz.isAgg161
 z76:=Tryz.sizeOf161
 v76:=Tryz.zeroValue161
 t127:=Tryz.underlying197
 a127:=Tryz.isAgg197
 z127:=Tryz.sizeOf197
 v127:=Tryz.zeroValue197
 t164:=Tryz.underlying230
 a164:=Tryz.isAgg230
 z164:=Tryz.sizeOf230
 v164:=Tryz.zeroValue230 }
def Tryz.lt171_ren:Go.Shelf.Ren:=⟨fun|171=>99|243=>167|246=>213|283=>242|284=>243|285=>244|286=>245|129=>270|317=>275|318=>276|319=>277|320=>278|337=>290|338=>291|n=>n,fun|3=>3|9=>9|2=>2|4=>4|171=>225|0=>0|53=>194|37=>85|5=>5|173=>228|212=>254|51=>250|20=>20|213=>255|46=>79|232=>268|233=>269|n=>n,fun|17=>1|18=>3|19=>4|n=>n⟩
theorem Tryz.lt171:Go.Proofs.LaysM.n171 Tryz.prog Tryz.lt171_ren:={
 mixed:=by kernel_rfl
 f129:=Tryz.func270.trans (congrArg some (by kernel_rfl))
 f171:=Tryz.func99.trans (congrArg some (by kernel_rfl))
 f243:=Tryz.func167.trans (congrArg some (by kernel_rfl))
 f246:=Tryz.func213.trans (congrArg some (by kernel_rfl))
 f283:=Tryz.func242.trans (congrArg some (by kernel_rfl))
 f284:=Tryz.func243.trans (congrArg some (by kernel_rfl))
 f285:=Tryz.func244.trans (congrArg some (by kernel_rfl))
 f286:=Tryz.func245.trans (congrArg some (by kernel_rfl))
 f317:=Tryz.func275.trans (congrArg some (by kernel_rfl))
 f318:=Tryz.func276.trans (congrArg some (by kernel_rfl))
 f319:=Tryz.func277.trans (congrArg some (by kernel_rfl))
 f320:=Tryz.func278.trans (congrArg some (by kernel_rfl))
 f337:=Tryz.func290.trans (congrArg some (by kernel_rfl))
 f338:=Tryz.func291.trans (congrArg some (by kernel_rfl))
 t0:=Tryz.underlying0
 a0:=Tryz.isAgg0
 z0:=Tryz.sizeOf0
 v0:=Tryz.zeroValue0
 t2:=Tryz.underlying2
 a2:=Tryz.isAgg2
 z2:=Tryz.sizeOf2
 v2:=Tryz.zeroValue2
 t3:=Tryz.underlying3
 a3:=Tryz.isAgg3
 z3:=Tryz.sizeOf3
 v3:=Tryz.zeroValue3
 t4:=Tryz.underlying4
 a4:=Tryz.isAgg4
 z4:=Tryz.sizeOf4
 v4:=Tryz.zeroValue4
 t5:=Tryz.underlying5
 a5:=Tryz.isAgg5
 z5:=Tryz.sizeOf5
 v5:=Tryz.zeroValue5
 t9:=Tryz.underlying9
 a9:=Tryz.isAgg9
 z9:=Tryz.sizeOf9
 v9:=Tryz.zeroValue9
 t20:=Tryz.underlying20
 a20:=Tryz.isAgg20
 z20:=Tryz.sizeOf20
 v20:=Tryz.zeroValue20
 t37:=Tryz.underlying85
 a37:=Tryz.isAgg85
 z37:=Tryz.sizeOf85
 v37:=Tryz.zeroValue85
 t46:=Tryz.underlying79
 a46:=Tryz.isAgg79
 z46:=Tryz.sizeOf79
 v46:=Tryz.zeroValue79
 t51:=Tryz.underlying250
 a51:=Tryz.isAgg250
 z51:=Tryz.sizeOf250
 v51:=Tryz.zeroValue250
 t53:=Tryz.underlying194
 a53:=Tryz.isAgg194
 z53:=Tryz.sizeOf194
 v53:=Tryz.zeroValue194
 t171:=Tryz.underlying225
 a171:=Tryz.isAgg225
 z171:=Tryz.sizeOf225
 v171:=Tryz.zeroValue225
 t173:=Tryz.underlying228
 a173:=Tryz.isAgg228
 z173:=Tryz.sizeOf228
 v173:=Tryz.zeroValue228
 t212:=Tryz.underlying254
 a212:=Tryz.isAgg254
 z212:=Tryz.sizeOf254
 v212:=Tryz.zeroValue254
 t213:=Tryz.underlying255
 a213:=Tryz.isAgg255
 z213:=Tryz.sizeOf255
 t232:=Tryz.underlying268
 a232:=Tryz.isAgg268
 z232:=Tryz.sizeOf268
 v232:=Tryz.zeroValue268
 t233:=Tryz.underlying269
 a233:=Tryz.isAgg269
 z233:=Tryz.sizeOf269
 v233:=Tryz.zeroValue269
 g17:=by kernel_rfl
 g18:=by kernel_rfl
 g19:=by kernel_rfl
 i0:=by kernel_rfl
 i2:=by kernel_rfl
 i3:=by kernel_rfl
 i4:=by kernel_rfl
 i5:=by kernel_rfl
 i9:=by kernel_rfl
 i20:=by kernel_rfl
 i37:=by kernel_rfl
 i46:=by kernel_rfl
 i51:=by kernel_rfl
 i53:=by kernel_rfl
 i171:=by kernel_rfl
 i173:=by kernel_rfl
 i212:=by kernel_rfl
 i232:=by kernel_rfl
 i233:=by kernel_rfl
 m17:=by kernel_rfl
 m18:=by kernel_rfl
 m19:=by kernel_rfl }
def Tryz.lt283_ren:Go.Shelf.Ren:=⟨fun|283=>242|n=>n,fun|3=>3|9=>9|4=>4|n=>n,fun|n=>n⟩
theorem Tryz.lt283:Go.Proofs.Lays.n283 Tryz.prog Tryz.lt283_ren:={
 mixed:=by kernel_rfl
 f283:=Tryz.func242.trans (congrArg some (by kernel_rfl))
 t3:=Tryz.underlying3
 a3:=Tryz.isAgg3
 z3:=Tryz.sizeOf3
 v3:=Tryz.zeroValue3
 t4:=Tryz.underlying4
 a4:=Tryz.isAgg4
 z4:=Tryz.sizeOf4
 v4:=Tryz.zeroValue4
 t9:=Tryz.underlying9
 a9:=Tryz.isAgg9
 z9:=Tryz.sizeOf9
 v9:=Tryz.zeroValue9 }
def Tryz.lt285_ren:Go.Shelf.Ren:=⟨fun|285=>244|n=>n,fun|37=>85|53=>194|3=>3|4=>4|51=>250|9=>9|5=>5|0=>0|n=>n,fun|n=>n⟩
theorem Tryz.lt285:Go.Proofs.Lays.n285 Tryz.prog Tryz.lt285_ren:={
 mixed:=by kernel_rfl
 f285:=Tryz.func244.trans (congrArg some (by kernel_rfl))
 t0:=Tryz.underlying0
 a0:=Tryz.isAgg0
 z0:=Tryz.sizeOf0
 v0:=Tryz.zeroValue0
 t3:=Tryz.underlying3
 a3:=Tryz.isAgg3
 z3:=Tryz.sizeOf3
 v3:=Tryz.zeroValue3
 t4:=Tryz.underlying4
 a4:=Tryz.isAgg4
 z4:=Tryz.sizeOf4
 v4:=Tryz.zeroValue4
 t5:=Tryz.underlying5
 a5:=Tryz.isAgg5
 z5:=Tryz.sizeOf5
 v5:=Tryz.zeroValue5
 t9:=Tryz.underlying9
 a9:=Tryz.isAgg9
 z9:=Tryz.sizeOf9
 v9:=Tryz.zeroValue9
 t37:=Tryz.underlying85
 a37:=Tryz.isAgg85
 z37:=Tryz.sizeOf85
 v37:=Tryz.zeroValue85
 t51:=Tryz.underlying250
 a51:=Tryz.isAgg250
 z51:=Tryz.sizeOf250
 v51:=Tryz.zeroValue250
 t53:=Tryz.underlying194
 a53:=Tryz.isAgg194
 z53:=Tryz.sizeOf194
 v53:=Tryz.zeroValue194 }
def Tryz.lt99_ren:Go.Shelf.Ren:=⟨fun|99=>131|206=>189|n=>n,fun|9=>9|4=>4|3=>3|n=>n,fun|n=>n⟩
theorem Tryz.lt99:Go.Proofs.Lays.n99 Tryz.prog Tryz.lt99_ren:={
 mixed:=by kernel_rfl
 f99:=Tryz.func131.trans (congrArg some (by kernel_rfl))
 f206:=Tryz.func189.trans (congrArg some (by kernel_rfl))
 t3:=Tryz.underlying3
 a3:=Tryz.isAgg3
 z3:=Tryz.sizeOf3
 v3:=Tryz.zeroValue3
 t4:=Tryz.underlying4
 a4:=Tryz.isAgg4
 z4:=Tryz.sizeOf4
 v4:=Tryz.zeroValue4
 t9:=Tryz.underlying9
 a9:=Tryz.isAgg9
 z9:=Tryz.sizeOf9
 v9:=Tryz.zeroValue9 }
def Tryz.lt100_ren:Go.Shelf.Ren:=⟨fun|100=>132|207=>190|n=>n,fun|9=>9|4=>4|3=>3|n=>n,fun|n=>n⟩
theorem Tryz.lt100:Go.Proofs.Lays.n100 Tryz.prog Tryz.lt100_ren:={
 mixed:=by kernel_rfl
 f100:=Tryz.func132.trans (congrArg some (by kernel_rfl))
 f207:=Tryz.func190.trans (congrArg some (by kernel_rfl))
 t3:=Tryz.underlying3
 a3:=Tryz.isAgg3
 z3:=Tryz.sizeOf3
 v3:=Tryz.zeroValue3
 t4:=Tryz.underlying4
 a4:=Tryz.isAgg4
 z4:=Tryz.sizeOf4
 v4:=Tryz.zeroValue4
 t9:=Tryz.underlying9
 a9:=Tryz.isAgg9
 z9:=Tryz.sizeOf9
 v9:=Tryz.zeroValue9 }
theorem Tryz.xt156:Builder.Extra Tryz.prog Tryz.lt156_ren:={
 sizeBuilder:=by kernel_rfl
 liesBuilder:=by kernel_rfl
 t5:=by kernel_rfl
 a5:=by intro w;kernel_rfl
 z5:=by intro w;kernel_rfl
 v5:=by intro w;kernel_rfl
 infoByte:=by kernel_rfl
 cellsByte:=by kernel_rfl
 sizeByte:=by kernel_rfl
 neB5:=by decide }
end Go.Proofs
namespace Go.Proofs.YtidacnalcdhckaaGreatDoor
open Go Go.RowKit Tryz
variable {qP:Prop}

abbrev Ft(Γ:Type):=List Value→Γ→World→Prop
def gOf{Γ:Type}(Φs:List (Ft Γ))(i:Nat)(vl:List Value)(γ:Γ)(w:World):Prop:=(Φs.getD i fun _ _ _=>True) vl γ w
def O8{Γ:Type}(R:Γ→World→Γ→World→Prop)(Φ:Ft Γ):Prop:=∀ l γ w γ' w',R γ w γ' w'→Φ l γ w→Φ l γ' w'
def Chain{Γ:Type}(P:Program)(ops:Array Oper)(D:Nat→List Nat)(R:Γ→World→Γ→World→Prop)(N:Nat→Γ→Prop)(a0:Act)(γ0:Γ)(w0:World)(Qf:List (Ft Γ)→Prop):Nat→List (Ft Γ)→List Oper→Prop
 |_,done,[]=>Qf done.reverse
 |k,done,o::rest=>∃ Φ:Ft Γ,O8 R Φ∧LinStep P ops D R N (gOf (Φ::done).reverse) a0 γ0 w0 k o∧Chain P ops D R N a0 γ0 w0 Qf (k+1) (Φ::done) rest
section
variable {Γ:Type}{P:Program}{ops:Array Oper}{D:Nat→List Nat}{R:Γ→World→Γ→World→Prop}{N:Nat→Γ→Prop}{a0:Act}{γ0:Γ}{w0:World}{Qf:List (Ft Γ)→Prop}
theorem ETA{Φs:List (Ft Γ)}{i k:Nat}(h:i<k):gOf (Φs.take k) i=gOf Φs i:=by
 funext vl γ w
 unfold gOf;rw [List.getD_eq_getElem?_getD,List.getD_eq_getElem?_getD,List.getElem?_take,if_pos h]
theorem ByA(h:qP:=by
 have:=congrArg (List.take k) e1;rw [List.take_take,Nat.min_eq_left (by omega),List.reverse_cons] at this;rw [this,List.take_append_of_le_length (by simp [hk]),←hk,←List.length_reverse];exact List.take_length):qP:=h
theorem BlA(h:qP:=by
 cases i with
 |zero =>
  simp at hi;subst hi;rw [Nat.add_zero,e1];exact h2
 |succ i =>
  have:=e4 i o' (by simpa using hi);rwa [show k+1+i=k+(i+1) by omega] at this):qP:=h
theorem VF(h:qP:=by
 refine ⟨Φs,?_,e2,e3,fun i o' hi => ?_⟩
 ·exact ByA
 ·exact BlA):qP:=h
theorem UR(h:qP:=by
 rcases List.mem_cons.1 hΨ with rfl|hΨ
 ·exact h1
 ·exact hd Ψ hΨ):qP:=h
theorem Chain.full:∀ {rest:List Oper} {k:Nat} {done:List (Ft Γ)},done.length=k→(∀ Φ∈done,O8 R Φ)→Chain P ops D R N a0 γ0 w0 Qf k done rest →
  ∃ Φs:List (Ft Γ),Φs.take k=done.reverse∧(∀ Φ∈Φs,O8 R Φ)∧Qf Φs∧∀ i o,rest[i]?=some o→LinStep P ops D R N (gOf (Φs.take (k+i+1))) a0 γ0 w0 (k+i) o
 |[],k,done,hk,hd,h=>⟨done.reverse,by rw [←hk,←List.length_reverse];exact List.take_length,fun Φ hΦ=>hd Φ (by simpa using hΦ),h,AC⟩
 |o::rest,k,done,hk,hd,h=>by
  obtain ⟨Φ,h1,h2,h3⟩:=h;obtain ⟨Φs,e1,e2,e3,e4⟩:=Chain.full (rest:=rest) (k:=k+1) (done:=Φ::done) AF (fun Ψ hΨ=>by
   exact UR) h3
  exact VF
theorem SQ(h:qP:=by
 intro vals γ w hR hN hpp;have:=h vals γ w hR hN (fun j hj=>by rw [hp j hj];exact hpp j hj);rw [hi] at this;exact this):qP:=h
theorem LinStep.congr{G G':Nat→List Value→Γ→World→Prop}{i:Nat}{o:Oper}(hp:∀ j∈AV o,G j=G' j)(hi:G i=G' i)(h:LinStep P ops D R N G a0 γ0 w0 i o):LinStep P ops D R N G' a0 γ0 w0 i o:=by
 exact SQ
end
theorem BNA(h:qP:=by
 rw [hf] at hg;exact h2 Φ (List.mem_of_getElem? hf) l γ w γ' w' r hg):qP:=h
theorem La(h:qP:=by
 unfold gOf at hg⊢;rw [List.getD_eq_getElem?_getD] at hg⊢;cases hf:Φs[i]? with
 |none=>trivial
 |some Φ =>
  exact BNA):qP:=h
theorem Me(h:qP:=by
 have:=h4 i o (by simpa using hi);simp only [Nat.zero_add] at this;exact this.congr (fun j hj=>ETA (by have:=hac i o j hi hj;omega)) (ETA (by omega))):qP:=h
theorem B6{Γ:Type}{P:Program}{l:List Oper}{Q:Exit→Act→World→Prop}{id:Nat}{a0:Act}{w0:World}(hm:P.follows .mixedOrders=true)(D:Nat→List Nat)(hB:R8 l.toArray D a0.tmps.size=true)
  (R:Γ→World→Γ→World→Prop) (hrefl:∀ γ w,R γ w γ w) (htrans:∀ γ w γ' w' γ'' w'',R γ w γ' w'→R γ' w' γ'' w''→R γ w γ'' w'')
  (N:Nat→Γ→Prop) (γ0:Γ) (hN:∀ i,N i γ0)
  (h:Chain P l.toArray D R N a0 γ0 w0.drew (fun Φs=>∀ vals γ w,R γ0 w0.drew γ w→(∀ i,i<l.length→gOf Φs i ((D i).map vals) γ w)→Q .normal (Ah vals l 0 a0) w) 0 [] l) :
  (Code.region id l.toArray true).wp P Q a0 w0:=by
 obtain ⟨Φs,-,h2,h3,h4⟩:=Chain.full (k:=0) (done:=[]) rfl (fun _ h=>Ck) h;obtain ⟨-,-,-,hac,-⟩:=GH hB;refine KM hm D hB R hrefl htrans N (gOf Φs) (fun i l γ w γ' w' r hg => ?_) γ0 hN (fun i o hi => ?_) (fun vals γ w hr hg=>h3 vals γ w hr fun i hi=>hg i Bp)
 ·exact La
 ·exact Me

def FV{Γ:Type}(x:Value):Ft Γ:=fun vl _ _=>match vl with|[v]=>v=x|_=>True
def FP{Γ:Type}(Φ:Value→Γ→World→Prop):Ft Γ:=fun vl γ w=>match vl with|[v]=>Φ v γ w|_=>True
theorem IPA{Γ:Type}{R:Γ→World→Γ→World→Prop}(x:Value):O8 R (FV x):=fun _ _ _ _ _ _ h=>h
theorem H1A{Γ:Type}{R:Γ→World→Γ→World→Prop}{Φ:Value→Γ→World→Prop}(h:∀ v γ w γ' w',R γ w γ' w'→Φ v γ w→Φ v γ' w'):O8 R (FP Φ):=fun l γ w γ' w' r hf=>by
 unfold FP at hf⊢
 match l,hf with
 |[],_=>trivial
 |[v],hf=>exact h v γ w γ' w' r hf
 |_::_::_,_=>trivial

section
variable {Γ:Type}{P:Program}{ops:Array Oper}{D:Nat→List Nat}{R:Γ→World→Γ→World→Prop}{N:Nat→Γ→Prop}{a0:Act}{γ0:Γ}{w0:World}{Qf:List (Ft Γ)→Prop}{done:List (Ft Γ)}{o:Oper}{rest:List Oper}
theorem X6{Φ:Ft Γ}{j:Nat}{vl:List Value}{γ:Γ}{w:World}(h:gOf (Φ::done).reverse j vl γ w):gOf done.reverse j vl γ w:=by
 unfold gOf at h⊢;rw [List.getD_eq_getElem?_getD,List.reverse_cons] at h;rw [List.getD_eq_getElem?_getD]
 rcases Nat.lt_or_ge j done.reverse.length with hj|hj
 ·rwa [List.getElem?_append_left hj] at h
 ·rw [List.getElem?_eq_none hj];trivial
theorem Yi{Φ:Ft Γ} : gOf (Φ::done).reverse done.length=Φ:=by
 funext vl γ w
 unfold gOf;rw [List.getD_eq_getElem?_getD,List.reverse_cons,List.getElem?_append_right AC];simp
def Xy(ops:Array Oper)(D:Nat→List Nat)(R:Γ→World→Γ→World→Prop)(N:Nat→Γ→Prop)(a0:Act)(γ0:Γ)(w0:World)(k:Nat)(done:List (Ft Γ))(o:Oper)(vals:Nat→Value)(γ:Γ)(w:World)(ρ:Operand→Value)(C:Prop):Prop :=
 R γ0 w0 γ w→N k γ→(∀ j,j∈AV o→gOf done.reverse j ((D j).map vals) γ w)→(∀ t,ρ (.tmp t)=Fi ops o a0 vals t)→(∀ v,ρ (.const v)=v)→(∀ f,ρ (.func f)=.func (.func f) #[] #[])→(∀ g,ρ (.global g)=.pointer (some ⟨g,0,none⟩))→C
theorem Rb(h:qP:=by
 refine ⟨Φ,hst,fun vals γ w hR hN hp => ?_,next⟩;obtain ⟨h1,h2⟩:=h vals γ w (Hm ops o a0 vals) hR hN (fun j hj=>X6 (hp j hj)) (fun _=>rfl) (fun _=>rfl) (fun _=>rfl) (fun _=>rfl);rw [if_pos h1];have e:gOf (Φ::done).reverse k=Φ:=(by rw [←hk];exact Yi);rw [e];exact h2):qP:=h
theorem Chain.step{k:Nat}(Φ:Ft Γ)(hk:done.length=k)(hst:O8 R Φ)
  (h:∀ vals γ w ρ,Xy ops D R N a0 γ0 w0 k done o vals γ w ρ (AY o vals=true∧Bu P (fun v w'=>∃ γ',R γ w γ' w'∧(∀ j,j≠k→j ∉ AV o→N j γ→N j γ')∧Φ ((D k).map (F3 vals k v)) γ' w') ((execOp ρ o).run P w)))
  (next:Chain P ops D R N a0 γ0 w0 Qf (k+1) (Φ::done) rest):Chain P ops D R N a0 γ0 w0 Qf k done (o::rest):=by
 exact Rb
theorem QB(h:qP:=by
 rintro v w' ⟨rfl,rfl⟩;refine ⟨γ,hrefl _ _,fun _ _ _ h=>h,?_⟩;rw [hD];simp [FV,F3]):qP:=h
theorem H9A{k:Nat}{x:Value}(hrefl:∀ γ w,R γ w γ w)(hk:done.length=k)
  (h:∀ vals γ w ρ,Xy ops D R N a0 γ0 w0 k done o vals γ w ρ (AY o vals=true∧Bu P (fun v w'=>v=x∧w'=w) ((execOp ρ o).run P w)))
  (hD:D k=[k]) (next:Chain P ops D R N a0 γ0 w0 Qf (k+1) (FV x::done) rest):Chain P ops D R N a0 γ0 w0 Qf k done (o::rest):=by
 refine Chain.step (FV x) hk (IPA x) (fun vals γ w ρ hR hN hp h1 h2 h3 h4 => ?_) next;obtain ⟨g1,g2⟩:=h vals γ w ρ hR hN hp h1 h2 h3 h4;refine ⟨g1,?_⟩;have key:∀ v w',v=x∧w'=w→∃ γ',R γ w γ' w'∧(∀ j,j≠k→j ∉ AV o→N j γ→N j γ')∧FV x ((D k).map (F3 vals k v)) γ' w':=by
  exact QB
 revert g2
 cases (execOp ρ o).run P w with
 |ok n w' =>
  cases n with
  |value v=>exact key v w'
  |skip=>exact key undef w'
  |enter f args=>exact fun g2=>g2.mono fun e w'' ⟨v,e1,e2⟩=>⟨v,e1,key v w'' e2⟩
  |_=>exact id
 |_=>exact id
theorem Chain.no{k:Nat}(hk:done.length=k)(hD:D k=[k])(h:∀ vals γ w,(∀ j,j∈AV o→gOf done.reverse j ((D j).map vals) γ w)→AY o vals=false)
  (next:Chain P ops D R N a0 γ0 w0 Qf (k+1) (FV undef::done) rest):Chain P ops D R N a0 γ0 w0 Qf k done (o::rest):=by
 refine ⟨FV undef,IPA _,fun vals γ w hR hN hp => ?_,next⟩;have h1:=h vals γ w fun j hj=>X6 (hp j hj);rw [if_neg (by rw [h1];simp)];have e:gOf ((FV undef:Ft Γ)::done).reverse k=FV undef:=(by rw [←hk];exact Yi);rw [e,hD];simp [FV,F3]
end

structure LX(X:Nat→Nat→Prop)(γ:Gh)(w:World)(γ':Gh)(w':World):Prop where
 os:w'.os=w.os
 tape:w'.tape=w.tape
 output:w'.output=w.output
 size:w.heap.size≤w'.heap.size
 kept:∀ b,b<w.heap.size→Ec γ b→(∀ m,X m b→γ' m=γ m)→w'.heap[b]?=w.heap[b]?
 shape:∀ b t cs,Blk w b t cs→(∀ m,¬X m b)→∃ cs',cs'.size=cs.size∧Blk w' b t cs'
 old:∀ k b,γ' k=some (some b)→b<w.heap.size→γ k=some (some b)
 on:∀ k b,γ k=some (some b)→γ' k=some (some b)∨γ' k=some none
 done:∀ k,γ k=some none→γ' k=some none
 big:∀ k b,1000≤k→γ' k=some (some b)→γ k=some (some b)
 inb:(∀ k b,γ k=some (some b)→b<w.heap.size)→∀ k b,γ' k=some (some b)→b<w'.heap.size
section
variable {X:Nat→Nat→Prop}{γ γ' γ'':Gh}{w w' w'':World}
theorem LX.refl(X:Nat→Nat→Prop)(γ:Gh)(w:World):LX X γ w γ w:=⟨rfl,rfl,rfl,Al,fun _ _ _ _=>rfl,fun _ _ cs h _=>⟨cs,rfl,h⟩,fun _ _ h _=>h,fun _ _ h=>.inl h,fun _ h=>h,fun _ _ _ h=>h,fun h=>h⟩
theorem LX.free(h:LX X γ w γ' w'){b:Nat}(hb:b<w.heap.size)(hf:Ec γ b):Ec γ' b:=fun ⟨k,hk⟩=>hf ⟨k,h.old k b hk hb⟩
theorem LX.mid(h:LX X γ w γ' w')(k:LX X γ' w' γ'' w''){m:Nat}(e:γ'' m=γ m):γ' m=γ m∧γ'' m=γ' m:=by
 cases h0:γ m with
 |none =>
  rw [h0] at e;cases h1:γ' m with
  |none=>exact ⟨rfl,e⟩
  |some x =>
   cases x with
   |none=>rw [k.done m h1] at e;cases e
   |some b=>rcases k.on m b h1 with h2|h2<;>(rw [h2] at e;cases e)
 |some x =>
  cases x with
  |none =>
   have h1:=h.done m h0;exact ⟨h1,(k.done m h1).trans h1.symm⟩
  |some b =>
   rw [h0] at e
   rcases h.on m b h0 with h1|h1
   ·exact ⟨h1,e.trans h1.symm⟩
   ·rw [k.done m h1] at e;cases e
theorem LX.trans(X:Nat→Nat→Prop)(γ:Gh)(w:World)(γ':Gh)(w':World)(γ'':Gh)(w'':World)(h:LX X γ w γ' w')(k:LX X γ' w' γ'' w''):LX X γ w γ'' w'' where
 os:=k.os.trans h.os
 tape:=k.tape.trans h.tape
 output:=k.output.trans h.output
 size:=Nat.le_trans h.size k.size
 kept b hb hf hm:=(k.kept b (Nat.lt_of_lt_of_le hb h.size) (h.free hb hf) (fun m hX=>(h.mid k (hm m hX)).2)).trans (h.kept b hb hf fun m hX=>(h.mid k (hm m hX)).1)
 shape b t cs hc hX:=by
  obtain ⟨c1,e1,h1⟩:=h.shape b t cs hc hX;obtain ⟨c2,e2,h2⟩:=k.shape b t c1 h1 hX;exact ⟨c2,e2.trans e1,h2⟩
 old i b hi hb:=h.old i b (k.old i b hi (Nat.lt_of_lt_of_le hb h.size)) hb
 on i b hi:=by
  exact PC
 done i hi:=k.done i (h.done i hi)
 big i b hi hb:=h.big i b hi (k.big i b hi hb)
 inb hi:=k.inb (h.inb hi)
theorem IDA(X:Nat→Nat→Prop)(γ:Gh)(h:Ext w w'):LX X γ w γ w' :=
 ⟨h.os,h.tape,h.output,h.size,fun b hb _ _=>h.block b hb,fun _b _t cs hc _=>⟨cs,rfl,hc.keep (h.kept _)⟩,fun _ _ h _=>h,fun _ _ h=>.inl h,fun _ h=>h,fun _ _ _ h=>h,fun hi i b hb=>Nat.lt_of_lt_of_le (hi i b hb) h.size⟩
theorem LX.new{k:Nat}(hl:k<1000)(hk:γ k=none)(w:World)(o:Obj):LX X γ w (γ.put k (some w.heap.size)) (w.alloc o):=by
 have h:=(Ext.refl w).alloc o;refine ⟨h.os,h.tape,h.output,h.size,fun b hb _ _=>h.block b hb,fun b t cs hc _=>⟨cs,rfl,hc.keep (h.kept _)⟩,?_,?_,?_,?_,?_⟩
 ·exact Sc
 ·exact SE
 ·exact Tr
 ·intro j b hj hb;unfold Gh.put at hb;split at hb
  ·omega
  ·exact hb
 ·exact Rl
theorem LX.inb0(h:LX X gh0 w γ' w'):∀ k b,γ' k=some (some b)→b<w'.heap.size:=h.inb fun k b hk=>by cases hk
theorem LX.keptS(h:LX X γ w γ' w'){S:NP}(hS:∀ b,b<w.heap.size→S b→Ec γ b∧∀ m,X m b→γ' m=γ m):Kept S w w':=⟨h.size,fun b hs hb=>h.kept b hb (hS b hb hs).1 (hS b hb hs).2⟩
theorem Nu(b:Nat):Ec gh0 b:=fun ⟨_,hk⟩=>by cases hk
theorem LX.kept0(h:LX X gh0 w.drew γ' w'){S:NP}(hS:∀ b,S b→∀ m,¬X m b):Kept S w w':=(Kept.drew S w).trans (h.keptS fun b _ hb=>⟨Nu b,fun m hX=>absurd hX (hS b hb m)⟩)
theorem LX.ext0(h:LX X gh0 w.drew γ' w')(hX:∀ m b,X m b→γ' m=none):Ext w w':=(Ext.refl w).drew.trans ⟨h.os,h.tape,h.output,h.size,fun b hb=>h.kept b hb (Nu b) fun m hm=>hX m b hm⟩
theorem Uc(h:qP:=by
 intro j b _ hj;exact Oh):qP:=h
theorem LX.store{k g t:Nat}{cs cs':Array Value}(hk:γ k=some (some g))(hu:∀ j,γ j=some (some g)→j=k)(ho:Only g w w')(hb:Blk w g t cs)(hb':Blk w' g t cs')(hs:cs'.size=cs.size) :
  LX X γ w (γ.put k none) w':=by
 refine ⟨ho.os,ho.tape,ho.output,Nat.le_of_eq ho.size.symm,fun b _ hf _=>ho.block b (fun e=>hf ⟨k,by rw [hk,e]⟩),?_,?_,?_,?_,?_,?_⟩
 ·intro b t' c hc _;exact RW
 ·exact Lz
 ·exact KW
 ·exact KY
 ·exact Uc
 ·exact TM
theorem ILA{m:Nat}(hm:γ m=none)(hos:w'.os=w.os)(ht:w'.tape=w.tape)(hou:w'.output=w.output)(hz:w.heap.size≤w'.heap.size)(hb:∀ b,b<w.heap.size→¬X m b→w'.heap[b]?=w.heap[b]?):LX X γ w (γ.put m none) w':=by
 refine ⟨hos,ht,hou,hz,fun b hl _ hX=>hb b hl fun h => ?_,fun b t cs hc hX=>⟨cs,rfl,(hb b hc.lt (hX m)).trans hc⟩,?_,?_,?_,?_,?_⟩
 ·have:=hX m h;rw [hm] at this;simp [Gh.put] at this
 ·exact Lz
 ·exact KW
 ·exact KY
 ·exact Uc
 ·intro hi j b hj;unfold Gh.put at hj;split at hj
  ·cases hj
  ·exact Nat.lt_of_lt_of_le (hi j b hj) hz
end
def lk(n:Nat)(K:List Nat):List (Nat × List Nat):=(List.range n).map fun i=>(i,K)
def alF(l:List (Nat × List Nat)):Nat→List Nat:=fun j=>(l.lookup j).getD []
def LM(l:List (Nat × List Nat))(i:Nat)(γ:Gh):Prop:=(∀ k∈alF l i,γ k≠some none)∧(i<1000→(∃ s,i∈alF l s)→γ i=none)
theorem LM.zero(l:List (Nat × List Nat))(i:Nat):LM l i gh0:=⟨fun _ _ h=>Ck,fun _ _=>rfl⟩
theorem F9A{l:List (Nat × List Nat)}{k s:Nat}{p:List Nat}(h:(l.all fun q => !(q.2.contains k)||decide (q.1=s)||p.contains q.1)=true):∀ j,k∈alF l j→j=s∨j∈p:=by
 intro j hj;unfold alF at hj;cases hl:l.lookup j with
 |none=>rw [hl] at hj;simp at hj
 |some x =>
  rw [hl] at hj;have hm:(j,x)∈l:=by
   clear h hj
   induction l with
   |nil=>simp at hl
   |cons q l ih =>
    rw [List.lookup_cons] at hl;split at hl
    ·rename_i he;obtain rfl:=Option.some.inj hl;have:j=q.1:=(by simpa using he);rw [this];exact List.mem_cons_self
    ·exact List.mem_cons_of_mem _ (ih hl)
  have:=List.all_eq_true.1 h (j,x) hm;simp only [Bool.or_eq_true,Bool.not_eq_true',decide_eq_true_eq,List.contains_iff_mem] at this;have hk:k∈x:=ET
  rcases this with (h1|h1)|h1
  ·rw [←Bool.not_eq_true,List.contains_iff_mem] at h1;exact absurd hk h1
  ·exact .inl h1
  ·exact .inr h1
theorem INA{l:List (Nat × List Nat)}{γ:Gh}{i x:Nat}{p:List Nat} : ∀ j,j≠i→j ∉ p→LM l j γ→LM l j (γ.put i (some x)):=by
 rintro j hj-⟨h1,h2⟩;refine ⟨fun k hk => ?_,fun hl hs => ?_⟩
 ·unfold Gh.put;split
  ·simp
  ·exact h1 k hk
 ·unfold Gh.put;rw [if_neg hj];exact h2 hl hs
theorem Z5(h:qP:=by
 subst e
 rcases F9A h j hk' with h3|h3
 ·exact hj h3
 ·exact hp h3):qP:=h
theorem RB(h:qP:=by
 rw [if_neg (fun e=>by
  exact Z5)]
 exact h1 k' hk'):qP:=h
theorem LM.done{l:List (Nat × List Nat)}{γ:Gh}{s k:Nat}{p:List Nat}(h:(l.all fun q => !(q.2.contains k)||decide (q.1=s)||p.contains q.1)=true)(hk:(∃ g,γ k=some (some g))∨1000≤k):∀ j,j≠s→j ∉ p→LM l j γ→LM l j (γ.put k none):=by
 rintro j hj hp ⟨h1,h2⟩;refine ⟨fun k' hk' => ?_,fun hl hs' => ?_⟩
 ·unfold Gh.put;exact RB
 ·unfold Gh.put;rw [if_neg (fun e=>by
   subst e
   rcases hk with ⟨g,hk⟩|hk
   ·rw [h2 hl hs'] at hk;cases hk
   ·omega)]
  exact h2 hl hs'
section
variable {X:Nat→Nat→Prop}{γ γ':Gh}{w w':World}
theorem LX.key0(h:LX X gh0 w γ w'){l:List (Nat × List Nat)}{i k:Nat}(hN:LM l i γ)(hk:k∈alF l i)(h1:1000≤k):γ k=none:=by
 cases hg:γ k with
 |none=>rfl
 |some x =>
  cases x with
  |none=>exact absurd hg (hN.1 k hk)
  |some b=>have:=h.big k b h1 hg;cases this
theorem LX.extB(h:LX X gh0 w.drew γ' w'){w00:World}(hx:Ext w00 w)(hX:∀ m b,X m b→w00.heap.size≤b):Ext w00 w' :=
 ⟨h.os.trans hx.os,h.tape.trans hx.tape,h.output.trans hx.output,Nat.le_trans hx.size h.size,fun b hb=>(h.kept b (Nat.lt_of_lt_of_le hb hx.size) (Nu b) fun m hm=>by have:=hX m b hm;omega).trans (hx.block b hb)⟩
end
section
variable {X:Nat→Nat→Prop}{γ γ':Gh}{w w':World}
def VarX(X:Nat→Nat→Prop)(k t n:Nat)(v:Value)(γ:Gh)(w:World):Prop:=∃ g cs,v=.pointer (some ⟨g,0,none⟩)∧cs.size=n∧Blk w g t cs∧(γ k=some (some g)∨γ k=some none)∧(∀ j,γ j=some (some g)→j=k)∧∀ m,¬X m g
theorem IAA{k t n:Nat} : ∀ v γ w γ' w',LX X γ w γ' w'→VarX X k t n v γ w→VarX X k t n v γ' w':=by
 rintro v γ w γ' w' r ⟨g,cs,h1,h2,h3,h4,h5,h6⟩;obtain ⟨cs',e,h7⟩:=r.shape g t cs h3 h6;refine ⟨g,cs',h1,e.trans h2,h7,?_,fun j hj=>h5 j (r.old j g hj h3.lt),h6⟩
 rcases h4 with h4|h4
 ·exact r.on k g h4
 ·exact .inr (r.done k h4)
theorem VarX.new{k t n:Nat}(hf:∀ j b,γ j=some (some b)→b<w.heap.size){cs:Array Value}(hn:cs.size=n)(hX:∀ m b,X m b→b<w.heap.size):VarX X k t n (.pointer (some ⟨w.heap.size,0,none⟩)) (γ.put k (some w.heap.size)) (w.alloc (.cells cs t)):=by
 refine ⟨_,cs,rfl,hn,Blk.new w t cs,.inl (by simp [Gh.put]),fun j hj => ?_,fun m hm=>by have:=hX m _ hm;omega⟩;exact VT
def VarXI(X:Nat→Nat→Prop)(t:Nat)(v:Value)(cs:Array Value)(γ:Gh)(w:World):Prop:=∃ g,v=.pointer (some ⟨g,0,none⟩)∧Blk w g t cs∧Ec γ g∧∀ m,¬X m g
theorem IQA{t:Nat}{v:Value}{cs:Array Value}(r:LX X γ w γ' w')(h:VarXI X t v cs γ w):VarXI X t v cs γ' w':=by
 obtain ⟨g,h1,h2,h3,h4⟩:=h;exact ⟨g,h1,h2.keep (r.keptS fun b _ e=>⟨by rw [e];exact h3,fun m hm=>absurd (e ▸ hm) (h4 m)⟩),r.free h2.lt h3,h4⟩
theorem VarX.stored{l:List (Nat × List Nat)}{s k t n:Nat}{v:Value}(h:VarX X k t n v γ w)(hs:k∈alF l s)(hn:LM l s γ) :
  ∃ g cs,v=.pointer (some ⟨g,0,none⟩)∧cs.size=n∧Blk w g t cs∧γ k=some (some g)∧∀ w' cs',Only g w w'→Blk w' g t cs'→cs'.size=n→LX X γ w (γ.put k none) w'∧VarXI X t v cs' (γ.put k none) w':=by
 obtain ⟨g,cs,h1,h2,h3,h4,h5,h6⟩:=h;have hk:γ k=some (some g):=by
  exact TC
 refine ⟨g,cs,h1,h2,h3,hk,fun w' cs' ho hb he=>⟨LX.store hk h5 ho h3 hb (he.trans h2.symm),g,h1,hb,?_,h6⟩⟩;exact Pa
end
theorem Cw{P:Program}{o:Oper}{ρ:Operand→Value}{K:Value→World→Prop}{w:World}{base e sz n c:Nat}{A:OA}{xs:List Value}(s x:Operand){t by_:Nat}
  (ho:o.op=.call { callee:=.builtin .append,args:=#[s,x],argTypes:=#[t,t] }) (ti:TI P t e sz by_) (hs:ρ s=.slice A n c) (hown:Own w base e sz A n c xs)
  {S:NP} {B:OA} {m c2:Nat} {news:List Value} (hx:ρ x=.slice B m c2) (hr:Rd w S B news) (hl:news.length=m*sz) (h1:∀ u∈news,u.oneCell'=true)
  (h63:(n+m)*by_≤140737488355328) (hby:0<by_) (hbase:base≤w.heap.size)
  (h:∀ A' c' w',Own w' base e sz A' (n+m) c' (xs++news)→w.grownBy w' (ob A)→(ob A'=ob A∨ob A'=some w.heap.size)→K (.slice A' (n+m) c') w') :
  Bu P K ((execOp ρ o).run P w):=by
 exact VN
theorem OD(z:Value)(n:Nat)(hz:z.cells=#[z]):madeCells z.cells n=Array.replicate n z:=by
 exact Ro
theorem EQA(n:Nat)(hn:n≤4294967296):∀ w:World,(Instr.makeSlice 22 (.I (n:Int)) (.I (n:Int))).run prog w=.ok (.slice (some ⟨w.heap.size,0,none⟩) n n) (w.alloc (.cells (Array.replicate n (.I 0)) 3)):=by
 intro w;obtain ⟨i0,h1,h2,h3,h4⟩:=info_parts EXA;have hr:=run_make (P:=prog) w 22 3 i0 (.I 0) underlying22 h1 h2 .i64 .i64 n n AA AA (by rw [h4];omega) AA;rw [h3,Nat.mul_one,Int.toNat_natCast,OD _ _ rfl] at hr;exact hr

structure But(g:Nat)(w w':World):Prop where
 os:w'.os=w.os
 tape:w'.tape=w.tape
 output:w'.output=w.output
 size:w.heap.size≤w'.heap.size
 block:∀ b,b<w.heap.size→b≠g→w'.heap[b]?=w.heap[b]?
section
variable {g:Nat}{w w' w'':World}
theorem But.refl(g:Nat)(w:World):But g w w:=⟨rfl,rfl,rfl,Al,fun _ _ _=>rfl⟩
theorem But.trans(h:But g w w')(k:But g w' w''):But g w w'':=⟨k.os.trans h.os,k.tape.trans h.tape,k.output.trans h.output,Nat.le_trans h.size k.size,fun b hb hg=>(k.block b (Nat.lt_of_lt_of_le hb h.size) hg).trans (h.block b hb hg)⟩
theorem H7A(h:Ext w w'):But g w w':=⟨h.os,h.tape,h.output,h.size,fun b hb _=>h.block b hb⟩
theorem But.of_only(h:Only g w w'):But g w w':=⟨h.os,h.tape,h.output,Nat.le_of_eq h.size.symm,fun b _ hg=>h.block b hg⟩
theorem But.kept(h:But g w w'){S:NP}(hS:∀ b,b<w.heap.size→S b→b≠g):Kept S w w':=⟨h.size,fun b hb hl=>h.block b hl (hS b hl hb)⟩
theorem But.ext(h:But g w w')(hg:w.heap.size≤g):Ext w w':=⟨h.os,h.tape,h.output,h.size,fun b hb=>h.block b hb AA⟩
theorem But.exts{a:World}(h:Ext a w)(k:But g w w')(hg:a.heap.size≤g):Ext a w':=⟨k.os.trans h.os,k.tape.trans h.tape,k.output.trans h.output,Nat.le_trans h.size k.size,fun b hb=>(k.block b (Nat.lt_of_lt_of_le hb h.size) AA).trans (h.block b hb)⟩
theorem But.own{base e sz n c:Nat}{A:OA}{xs:List Value}(h:But g w w')(ho:Own w base e sz A n c xs)(hb:g<base):Own w' base e sz A n c xs:=ho.keep (h.kept fun b _ hb'=>by have:=(ho.blk hb').1;omega)
theorem But.blk{b t:Nat}{cs:Array Value}(h:But g w w')(hb:Blk w b t cs)(hg:b≠g):Blk w' b t cs:=hb.keep (h.kept fun x _ e=>AA)
theorem But.grown{row:Option Nat}(h:But g w w')(hg:w'.grownBy w'' row)(hr:∀ k,row=some k→w.heap.size≤k):But g w w'':=⟨hg.os.trans h.os,hg.tape.trans h.tape,hg.output.trans h.output,Nat.le_trans h.size hg.size,fun b hb hx=>(hg.block b (Nat.lt_of_lt_of_le hb h.size) fun e=>by have:=hr b e.symm;omega).trans (h.block b hb hx)⟩
theorem But.set{b i:Nat}{u:Value}(h:But g w w')(hb:w.heap.size≤b):But g w (w'.setCell ⟨b,i,none⟩ u):=⟨h.os,h.tape,h.output,by simpa [World.setCell] using h.size,fun x hx hg=>(Below.heap_setCell _ _ _ _ (by show x≠b;omega)).trans (h.block x hx hg)⟩
end

def Fa(j:Nat)(c:Int):Bool:=Cq c||(decide (j≠0)&&(decide (c=95)||decide (48≤c∧c≤57)))
theorem CSA{s:BA}(hp:0<s.size):(bs s).head?=some (s[0].toNat:Int):=by
  rw [List.head?_eq_getElem?,List.getElem?_eq_getElem (by rw [GY];exact hp),M8 s 0 hp]
theorem WQ{s:BA}(h:∀ j (h:j<s.size),Fa j (s[j].toNat:Int)=true):Ba s=decide (1≤s.size∧s.size≤20):=by
  unfold Ba
  by_cases h0:s.size=0
  · simp [h0]
  have hp:0<s.size:=AA
  have h1:Cq (s[0].toNat:Int)=true:=by simpa [Fa] using h 0 hp
  rw [CSA hp,CH (bs s) Jp (fun j hj=>by
    rw [GY] at hj;rw [M8 s j hj]
    have:=h j hj
    simp only [Fa,Bool.or_eq_true,Bool.and_eq_true] at this
    simp only [Jp,Bool.or_eq_true]
    rcases this with h|⟨_,h|h⟩
    · exact .inl (.inl h)
    · exact .inl (.inr h)
    · exact .inr h)]
  simp [h1]
theorem Dj(h:qP:=by simpa using h2):qP:=h
theorem EIA{s:BA}{k:Nat}(hk:k<s.size)(h:Fa k (s[k].toNat:Int)=false):Ba s=false:=by
  unfold Ba
  by_cases h0:k=0
  · subst h0
    have h1:Cq (s[0].toNat:Int)=false:=by simpa [Fa] using h
    rw [CSA hk]
    simp [h1]
  · rw [CX (bs s) Jp k (by rw [GY];exact hk) (by
      rw [M8 s k hk]
      simp only [Fa,Bool.or_eq_false_iff,Bool.and_eq_false_iff,decide_eq_false_iff_not] at h
      obtain ⟨h1,h2|⟨h2,h3⟩⟩:=h
      · exact absurd h0 Dj
      · simp only [Jp,h1,Bool.false_or,Bool.or_eq_false_iff,decide_eq_false_iff_not]
        exact ⟨h2,h3⟩)]
    simp

theorem Wi(s:BA)(hs:s.size≤4294967296)(w:World):Cl 58 #[.string s] w (SameB w (Ca s)):=by
  go_enter func58,ntmps58
  go_wp2
  go_loop [3] (fun i=>∃ k:Nat,k≤s.size∧i=.I k∧∀ j (h:j<s.size),j<k→C4 (s[j].toNat:Int)=true) (fun i=>s.size-(intOf i).toNat)
  case atStart=>exact ⟨0,AN,rfl,AK⟩
  case round =>
    exact Uu

theorem Po(h:qP:=by
  have HF:=Hd (EIA hlt hn)
  first
  |(exfalso;simp only [Fa,Cq,Bool.or_eq_false_iff,Bool.and_eq_false_iff,decide_eq_false_iff_not] at hn;omega)
  | (clear hn
     go_wp2
     all_goals first | (go_ret;exact ⟨by rw [HF.o];rfl,rfl⟩) | (rename_i hx;exfalso;simp at hx;omega))):qP:=h
theorem AOA(h:qP:=by
  refine ⟨0+1,by omega,by go_num,fun j h hj => ?_⟩
  by_cases hjk:j=0
  · subst hjk
    exact HN.o
  · exact HA.o j h (by omega)):qP:=h
theorem ZZ(h:qP:=by
  have HN:=Hd hn
  first
  |(exfalso;simp only [Fa,Cq,Bool.or_eq_true,Bool.and_eq_true,decide_eq_true_iff] at hn;omega)
  | (clear hn
     go_wp2
     go_round
     case rel =>
       exact AOA
     case measure=>simp [intOf];omega)):qP:=h
theorem ANA(h:qP:=by
  subst hz
  rcases hc with h1|⟨h1,h2⟩|⟨h1,h2⟩|⟨h1,h2⟩|⟨h1,h2⟩|h1|h1|⟨h1,h2⟩|h1
  all_goals
    first|have a1:97≤(s[0].toNat:Int):=by omega|have a1:¬97≤(s[0].toNat:Int):=by omega
    first|have a2:(s[0].toNat:Int)≤122:=by omega|have a2:¬(s[0].toNat:Int)≤122:=by omega
    first|have a3:65≤(s[0].toNat:Int):=by omega|have a3:¬65≤(s[0].toNat:Int):=by omega
    first|have a4:(s[0].toNat:Int)≤90:=by omega|have a4:¬(s[0].toNat:Int)≤90:=by omega
    first|have a5:(s[0].toNat:Int)=95:=by omega|have a5:¬(s[0].toNat:Int)=95:=by omega
    first|have a6:(s[0].toNat:Int)<48:=by omega|have a6:¬(s[0].toNat:Int)<48:=by omega
    first|have a7:57<(s[0].toNat:Int):=by omega|have a7:¬57<(s[0].toNat:Int):=by omega
    cases hn:Fa 0 (s[0].toNat:Int)
    · exact Po
    · exact ZZ):qP:=h
theorem A2A(h:qP:=by
  refine ⟨k+1,by omega,by go_num,fun j h hj => ?_⟩
  by_cases hjk:j=k
  · subst hjk
    exact HN.o
  · exact HA.o j h (by omega)):qP:=h
theorem ABA(h:qP:=by
  have HN:=Hd hn
  first
  |(exfalso;simp only [Fa,Cq,Bool.or_eq_true,Bool.and_eq_true,decide_eq_true_iff] at hn;omega)
  | (clear hn
     go_wp2
     go_round
     case rel =>
       exact A2A
     case measure=>simp [intOf];omega)):qP:=h
theorem BLA(h:qP:=by
  rcases hc with h1|⟨h1,h2⟩|⟨h1,h2⟩|⟨h1,h2⟩|⟨h1,h2⟩|h1|h1|⟨h1,h2⟩|h1
  all_goals
    first|have a1:97≤(s[k].toNat:Int):=by omega|have a1:¬97≤(s[k].toNat:Int):=by omega
    first|have a2:(s[k].toNat:Int)≤122:=by omega|have a2:¬(s[k].toNat:Int)≤122:=by omega
    first|have a3:65≤(s[k].toNat:Int):=by omega|have a3:¬65≤(s[k].toNat:Int):=by omega
    first|have a4:(s[k].toNat:Int)≤90:=by omega|have a4:¬(s[k].toNat:Int)≤90:=by omega
    first|have a5:(s[k].toNat:Int)=95:=by omega|have a5:¬(s[k].toNat:Int)=95:=by omega
    first|have a6:(s[k].toNat:Int)<48:=by omega|have a6:¬(s[k].toNat:Int)<48:=by omega
    first|have a7:57<(s[k].toNat:Int):=by omega|have a7:¬57<(s[k].toNat:Int):=by omega
    cases hn:Fa k (s[k].toNat:Int)
    · exact Po
    · exact ABA):qP:=h
theorem Pj(h:qP:=by
  have hc:(s[k].toNat:Int)<48∨(48≤(s[k].toNat:Int)∧(s[k].toNat:Int)≤57)∨(57<(s[k].toNat:Int)∧(s[k].toNat:Int)<65)∨(65≤(s[k].toNat:Int)∧(s[k].toNat:Int)≤90)∨(90<(s[k].toNat:Int)∧(s[k].toNat:Int)<95)∨(s[k].toNat:Int)=95∨(s[k].toNat:Int)=96∨(97≤(s[k].toNat:Int)∧(s[k].toNat:Int)≤122)∨122<(s[k].toNat:Int):=by omega
  by_cases hz:k=0
  · exact ANA
  · exact BLA):qP:=h
theorem YP(s:BA)(hs:s.size≤4294967296)(w:World):Cl 79 #[.string s] w (SameB w (Ba s)):=by
  go_enter func79,ntmps79
  go_wp2
  go_loop [3] (fun i=>∃ k:Nat,k≤s.size∧i=.I k∧∀ j (h:j<s.size),j<k→Fa j (s[j].toNat:Int)=true) (fun i=>s.size-(intOf i).toNat)
  case atStart=>exact ⟨0,AN,rfl,AK⟩
  case round =>
    obtain ⟨k,hk,rfl,hall⟩:=hrel
    have HA:=Hd hall
    clear hall
    by_cases hlt:k<s.size
    · exact Pj
    · have HF:=Hd (WQ (s:=s) (fun j h=>HA.o j h AA))
      by_cases h0:s.size=0
      · have h0':¬1≤(s.size:Int):=AA
        exact PS
      · have h0':1≤(s.size:Int):=AA
        go_wp2
        go_ret
        refine ⟨?_,rfl⟩
        rw [HF.o,show decide (1≤s.size∧s.size≤20)=decide ((s.size:Int)≤20) from by rw [decide_eq_decide];omega]
        rfl
end Go.Proofs.YtidacnalcdhckaaGreatDoor
