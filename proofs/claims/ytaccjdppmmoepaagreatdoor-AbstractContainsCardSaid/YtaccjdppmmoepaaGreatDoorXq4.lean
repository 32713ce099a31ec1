/- Lemmas. No conditions. -/
import Derived.Test.YtaccjdppmmoepaaGreatDoorXq3
import Derived.Ground.NamesProg
import Derived.Shelf.Strings.OnBuilder
import Derived.Shelf.Strings.Prefix
import Derived.Shelf.Strings.Repeat
import Derived.Shelf.Strings.BuilderK
import Derived.Shelf.Strconv.Itoa3
import Derived.Test.YtaccjdppmmoepaaGreatDoorProg
import Derived.Deep.Light
import Derived.Laws.BytesArg
import Derived.WalkSpells
import Derived.IntWalk
set_option maxRecDepth 100000
set_option maxHeartbeats 1000000
namespace Go.Proofs.YtaccjdppmmoepaaGreatDoor
open Go Go.RowKit Tryz
variable {qP:Prop}{w:World}

def Tens(w:World):Prop:=w.cell? ⟨0,0,none⟩=some (.I 1)/\w.cell? ⟨0,1,none⟩=some (.I 10)/\w.cell? ⟨0,2,none⟩=some (.I 100)/\w.cell? ⟨0,3,none⟩=some (.I 1000) /\
 w.cell? ⟨0,4,none⟩=some (.I 10000)/\w.cell? ⟨0,5,none⟩=some (.I 100000)/\w.cell? ⟨0,6,none⟩=some (.I 1000000)
theorem Tens.ext{J:World}(h:Tens w)(hx:Ext w J):Tens J:=⟨hx.cell h.1,hx.cell h.2.1,hx.cell h.2.2.1,hx.cell h.2.2.2.1,hx.cell h.2.2.2.2.1,hx.cell h.2.2.2.2.2.1,hx.cell h.2.2.2.2.2.2⟩
theorem Tens.pos(h:Tens w):0<w.heap.size:=by
 rcases Nat.lt_or_ge 0 w.heap.size with h1|h1
 ·exact h1
 ·have:=h.1;simp [World.cell?,Array.getElem?_eq_none h1] at this

def Bg(n s:Int):Int × Int:=if Dz n s=true then (n,s) else (0,0)
def HvA(w:World)(r:Int × Int)(e:Ending)(J:World):Prop:=e=.returned (.agg #[.I r.1,.I r.2])/\Ext w J
theorem BT(h:qP:=by
 iterate 2 with_reducible refine Ext.set2 ?_ (by omega) _
 with_reducible exact HX.o):qP:=h
theorem KN(n s:Int)(w:World):Cl 185 #[.agg #[.I n,.I s]] w (HvA w (Bg n s)):=by
 go_enter func185,ntmps185
 go_wp2_with fail
 refine (Ff n s _).mono ?_;rintro e1 w1 ⟨rfl,hx1⟩;obtain ⟨O,U⟩:=Wm hx1;have Y:=hx1.size;simp at O U Y;have a8:w.heap.size<w1.heap.size:=AA;have Z:w.heap.size+1<w1.heap.size:=AA;have HX:=Hd ((exbb w).trans hx1);cases hd:Dz n s
 ·have HF:=Hd (show Bg n s=(0,0) by simp [Bg,hd]);clear hd hx1;go_wp2;rw [HF.o];refine bodyPost_ret (v:=.agg #[.I 0,.I 0]) (by simp [results,results185,go_sem,O]) rfl ⟨rfl,?_⟩;exact BT
 ·have HF:=Hd (show Bg n s=(n,s) by simp [Bg,hd]);clear hd hx1;go_wp2;rw [HF.o];refine bodyPost_ret (v:=.agg #[.I n,.I s]) (by simp [results,results185,go_sem,O]) rfl ⟨rfl,?_⟩;exact BT

def pw(s:Int):Int:=if s=0 then 1 else if s=1 then 10 else if s=2 then 100 else if s=3 then 1000 else if s=4 then 10000 else if s=5 then 100000 else 1000000
def mu(n s:Int):Int:=(Bg n s).1*pw (6-(Bg n s).2)
def H0A(w:World)(a b:Int)(e:Ending)(J:World):Prop:=e=.returned (.tuple #[.I a,.I b])/\Ext w J
theorem GX(n s:Int):0<=(Bg n s).2/\(Bg n s).2<=6/\-1000000000000000<=(Bg n s).1/\(Bg n s).1<=1000000000000000:=by
 unfold Bg;split
 ·rename_i h;simp [Dz,Fx] at h;exact ⟨h.1.1.1,h.1.1.2,h.1.2.1,h.1.2.2⟩
 ·simp
theorem FJA(a d m:Int)(hm:0<m)(h:d*m=1000000):(a*m).tdiv 1000000=a.tdiv d/\(a*m).tmod 1000000=a.tmod d*m:=by
 rw [<-h,Int.mul_comm a m,Int.mul_comm d m];exact ⟨Int.mul_tdiv_mul_of_pos _ _ hm,by rw [Int.mul_tmod_mul_of_pos _ _ hm,Int.mul_comm]⟩
theorem B8A(a d m:Int)(hm:0<m)(hd:0<d)(h:d*m=1000000):-1000000<a.tmod d*m/\a.tmod d*m<1000000:=by
 have h1:=Int.tmod_lt_of_pos a hd;have h2:-d<a.tmod d:=by
  have:=Int.lt_tmod_of_pos a hd;omega
 constructor
 ·have:-d*m<a.tmod d*m:=Int.mul_lt_mul_of_pos_right h2 hm;rw [Int.neg_mul,h] at this;exact this
 ·have:a.tmod d*m<d*m:=Int.mul_lt_mul_of_pos_right h1 hm;rw [h] at this;exact this
theorem Hp(m a d k:Int)(hm:m=a*k)(hk:0<k)(hd:0<d)(h:d*k=1000000) :
  Ending.returned (.tuple #[.I (a.tdiv d),.I (wrap64 (a.tmod d*k))])=.returned (.tuple #[.I (m.tdiv 1000000),.I (m.tmod 1000000)]):=by
 obtain ⟨h1,h2⟩:=FJA a d k hk h;obtain ⟨b1,b2⟩:=B8A a d k hk hd h;rw [hm,h1,h2,IntWalk.wrap64_in _ ⟨AA,AA⟩]
theorem KK(n s:Int)(w:World)(ht:Tens w):Cl 175 #[.agg #[.I n,.I s]] w (H0A w ((mu n s).tdiv 1000000) ((mu n s).tmod 1000000)):=by
 have HT:=Hd ht;clear ht
 go_enter func175,ntmps175
 go_wp2_with fail
 refine (KN n s _).mono ?_;rintro e1 w1 ⟨rfl,hx1⟩;obtain ⟨O,U⟩:=Wm hx1;have Y:=hx1.size;simp at O U Y;have b4:w.heap.size<w1.heap.size:=AA;have HX:=Hd ((exaa w).trans hx1);have hr:=GX n s;have HM:=Hd (show mu n s=(Bg n s).1*pw (6-(Bg n s).2) from rfl);clear hx1;generalize Bg n s=p at *;obtain ⟨a,b⟩:=p;simp only at hr HM|-;obtain ⟨b5,b3,a9,a8⟩:=hr;have hb:b=0\/b=1\/b=2\/b=3\/b=4\/b=5\/b=6:=AA;obtain ⟨t0,t1,t2,t3,t4,t5,t6⟩:=HT.o.ext HX.o;have hp:=HT.o.pos;have hne:0≠w.heap.size:=AA;have Z:w.heap.size≠0:=AA;have b0:w1.cell? ⟨w.heap.size,0,none⟩=some (.I n):=(by rw [O _ _ AA];simp [go_sem]);have b1:w1.cell? ⟨w.heap.size,1,none⟩=some (.I s):=(by rw [O _ _ AA];simp [go_sem]);have f0:w1.frozen? ⟨w.heap.size,0,none⟩=false:=(by rw [U _ _ AA];simp [go_sem]);have f1:w1.frozen? ⟨w.heap.size,1,none⟩=false:=(by rw [U _ _ AA];simp [go_sem]);clear O U
 rcases hb with rfl|rfl|rfl|rfl|rfl|rfl|rfl
 all_goals
  go_wp2
  go_quiet (fail)
  go_wp2;go_ret2;refine ⟨?_,?_⟩
  rotate_left
  ·with_reducible refine Ext.drewN ?_ _
   exact BT
  have hm:=HM.o;simp [pw] at hm
 ·rw [hm];simp [Int.mul_tdiv_cancel]
 ·exact Hp _ a 10 100000 hm AB AB AB
 ·exact Hp _ a 100 10000 hm AB AB AB
 ·exact Hp _ a 1000 1000 hm AB AB AB
 ·exact Hp _ a 10000 100 hm AB AB AB
 ·exact Hp _ a 100000 10 hm AB AB AB
 ·rw [hm];have hb:=B8A a 1000000 1 AB AB AB;rw [Int.mul_one] at hb;show Ending.returned (.tuple #[.I (a.tdiv 1000000),.I (wrap64 (a.tmod 1000000))])=_;rw [IntWalk.wrap64_in _ ⟨AA,AA⟩]

theorem tdm(b m:Int)(hm:0<m):m*b.tdiv m+b.tmod m=b/\-m<b.tmod m/\b.tmod m<m/\(0<=b->0<=b.tmod m)/\(b<=0->b.tmod m<=0):=by
 refine ⟨Int.mul_tdiv_add_tmod b m,?_,Int.tmod_lt_of_pos b hm,λh=>Int.tmod_nonneg m h,λh => ?_⟩
 ·have:=Int.lt_tmod_of_pos b hm;omega
 ·have:=Int.tmod_nonneg m (show 0<=-b by omega);rw [Int.neg_tmod] at this;omega
def FnA(w:World)(r:(Int × Int) × Bool)(e:Ending)(J:World):Prop:=e=.returned (.tuple #[.agg #[.I r.1.1,.I r.1.2],.bool r.2])/\Ext w J
end Go.Proofs.YtaccjdppmmoepaaGreatDoor
namespace Go.Proofs.YtaccjdppmmoepaaGreatDoor
end Go.Proofs.YtaccjdppmmoepaaGreatDoor
namespace Go.Proofs
open Go Go.RowKit Go.Shelf Tryz
variable {qP:Prop}
def Tryz.lt156_ren:Go.Shelf.Ren:=⟨fun|156=>64|165=>121|166=>122|169=>123|240=>189|241=>190|276=>227|277=>228|n=>n,fun|31=>33|9=>9|3=>3|4=>4|0=>0|20=>20|72=>123|76=>127|70=>121|37=>68|75=>126|127=>181|164=>216|5=>5|80=>102|n=>n,fun|n=>n⟩
theorem Tryz.lt156:Go.Proofs.Lays.n156 Tryz.prog Tryz.lt156_ren:={
 mixed:=by kernel_rfl
 f156:=Tryz.func64.trans (congrArg some (by kernel_rfl))
 f165:=Tryz.func121.trans (congrArg some (by kernel_rfl))
 f166:=Tryz.func122.trans (congrArg some (by kernel_rfl))
 f169:=Tryz.func123.trans (congrArg some (by kernel_rfl))
 f240:=Tryz.func189.trans (congrArg some (by kernel_rfl))
 f241:=Tryz.func190.trans (congrArg some (by kernel_rfl))
 f276:=Tryz.func227.trans (congrArg some (by kernel_rfl))
 f277:=Tryz.func228.trans (congrArg some (by kernel_rfl))
 t0:=Tryz.underlying0
 a0:=Tryz.isAgg0
 z0:=Tryz.sizeOf0
 v0:=Tryz.zeroValue0
 t3:=Tryz.underlying3
 a3:=Tryz.isAgg3
 z3:=Tryz.sizeOf3
 v3:=Tryz.zeroValue3
 t4:=Tryz.underlying4
 a4:=Tryz.isAgg4
 z4:=Tryz.sizeOf4
 v4:=Tryz.zeroValue4
 t9:=Tryz.underlying9
 a9:=Tryz.isAgg9
 z9:=Tryz.sizeOf9
 v9:=Tryz.zeroValue9
 t20:=Tryz.underlying20
 a20:=Tryz.isAgg20
 z20:=Tryz.sizeOf20
 v20:=Tryz.zeroValue20
 t31:=Tryz.underlying33
 a31:=Tryz.isAgg33
 z31:=Tryz.sizeOf33
 v31:=Tryz.zeroValue33
 t37:=Tryz.underlying68
 a37:=Tryz.isAgg68
 z37:=Tryz.sizeOf68
 v37:=Tryz.zeroValue68
 t70:=Tryz.underlying121
 a70:=Tryz.isAgg121
 z70:=Tryz.sizeOf121
 v70:=Tryz.zeroValue121
 t72:=Tryz.underlying123
 a72:=Tryz.isAgg123
 z72:=Tryz.sizeOf123
 v72:=Tryz.zeroValue123
 t75:=Tryz.underlying126
 a75:=Tryz.isAgg126
 z75:=Tryz.sizeOf126
 v75:=Tryz.zeroValue126
 t76:=Tryz.underlying127
 a76:=Tryz.isAgg127
 z76:=Tryz.sizeOf127
 v76:=Tryz.zeroValue127
 t127:=Tryz.underlying181
 a127:=Tryz.isAgg181
 z127:=Tryz.sizeOf181
 v127:=Tryz.zeroValue181
 t164:=Tryz.underlying216
 a164:=Tryz.isAgg216
 z164:=Tryz.sizeOf216
 v164:=Tryz.zeroValue216 }
def Tryz.lt171_ren:Go.Shelf.Ren:=⟨fun|171=>63|243=>120|246=>188|283=>223|284=>224|285=>225|286=>226|129=>258|317=>261|318=>262|319=>263|320=>264|337=>278|338=>279|n=>n,fun|3=>3|9=>9|2=>2|4=>4|171=>211|0=>0|53=>178|37=>68|5=>5|173=>214|212=>247|51=>244|20=>20|213=>248|46=>94|232=>262|233=>263|n=>n,fun|17=>1|18=>3|19=>4|n=>n⟩
theorem Tryz.lt171:Go.Proofs.LaysM.n171 Tryz.prog Tryz.lt171_ren:={
 mixed:=by kernel_rfl
 f129:=Tryz.func258.trans (congrArg some (by kernel_rfl))
 f171:=Tryz.func63.trans (congrArg some (by kernel_rfl))
 f243:=Tryz.func120.trans (congrArg some (by kernel_rfl))
 f246:=Tryz.func188.trans (congrArg some (by kernel_rfl))
 f283:=Tryz.func223.trans (congrArg some (by kernel_rfl))
 f284:=Tryz.func224.trans (congrArg some (by kernel_rfl))
 f285:=Tryz.func225.trans (congrArg some (by kernel_rfl))
 f286:=Tryz.func226.trans (congrArg some (by kernel_rfl))
 f317:=Tryz.func261.trans (congrArg some (by kernel_rfl))
 f318:=Tryz.func262.trans (congrArg some (by kernel_rfl))
 f319:=Tryz.func263.trans (congrArg some (by kernel_rfl))
 f320:=Tryz.func264.trans (congrArg some (by kernel_rfl))
 f337:=Tryz.func278.trans (congrArg some (by kernel_rfl))
 f338:=Tryz.func279.trans (congrArg some (by kernel_rfl))
 t0:=Tryz.underlying0
 a0:=Tryz.isAgg0
 z0:=Tryz.sizeOf0
 v0:=Tryz.zeroValue0
 t2:=Tryz.underlying2
 a2:=Tryz.isAgg2
 z2:=Tryz.sizeOf2
 v2:=Tryz.zeroValue2
 t3:=Tryz.underlying3
 a3:=Tryz.isAgg3
 z3:=Tryz.sizeOf3
 v3:=Tryz.zeroValue3
 t4:=Tryz.underlying4
 a4:=Tryz.isAgg4
 z4:=Tryz.sizeOf4
 v4:=Tryz.zeroValue4
 t5:=Tryz.underlying5
 a5:=Tryz.isAgg5
 z5:=Tryz.sizeOf5
 v5:=Tryz.zeroValue5
 t9:=Tryz.underlying9
 a9:=Tryz.isAgg9
 z9:=Tryz.sizeOf9
 v9:=Tryz.zeroValue9
 t20:=Tryz.underlying20
 a20:=Tryz.isAgg20
 z20:=Tryz.sizeOf20
 v20:=Tryz.zeroValue20
 t37:=Tryz.underlying68
 a37:=Tryz.isAgg68
 z37:=Tryz.sizeOf68
 v37:=Tryz.zeroValue68
 t46:=Tryz.underlying94
 a46:=Tryz.isAgg94
 z46:=Tryz.sizeOf94
 v46:=Tryz.zeroValue94
 t51:=Tryz.underlying244
 a51:=Tryz.isAgg244
 z51:=Tryz.sizeOf244
 v51:=Tryz.zeroValue244
 t53:=Tryz.underlying178
 a53:=Tryz.isAgg178
 z53:=Tryz.sizeOf178
 v53:=Tryz.zeroValue178
 t171:=Tryz.underlying211
 a171:=Tryz.isAgg211
 z171:=Tryz.sizeOf211
 v171:=Tryz.zeroValue211
 t173:=Tryz.underlying214
 a173:=Tryz.isAgg214
 z173:=Tryz.sizeOf214
 v173:=Tryz.zeroValue214
 t212:=Tryz.underlying247
 a212:=Tryz.isAgg247
 z212:=Tryz.sizeOf247
 v212:=Tryz.zeroValue247
 t213:=Tryz.underlying248
 a213:=Tryz.isAgg248
 z213:=Tryz.sizeOf248
 t232:=Tryz.underlying262
 a232:=Tryz.isAgg262
 z232:=Tryz.sizeOf262
 v232:=Tryz.zeroValue262
 t233:=Tryz.underlying263
 a233:=Tryz.isAgg263
 z233:=Tryz.sizeOf263
 v233:=Tryz.zeroValue263
 g17:=by kernel_rfl
 g18:=by kernel_rfl
 g19:=by kernel_rfl
 i0:=by kernel_rfl
 i2:=by kernel_rfl
 i3:=by kernel_rfl
 i4:=by kernel_rfl
 i5:=by kernel_rfl
 i9:=by kernel_rfl
 i20:=by kernel_rfl
 i37:=by kernel_rfl
 i46:=by kernel_rfl
 i51:=by kernel_rfl
 i53:=by kernel_rfl
 i171:=by kernel_rfl
 i173:=by kernel_rfl
 i212:=by kernel_rfl
 i232:=by kernel_rfl
 i233:=by kernel_rfl
 m17:=by kernel_rfl
 m18:=by kernel_rfl
 m19:=by kernel_rfl }
def Tryz.lt283_ren:Go.Shelf.Ren:=⟨fun|283=>223|n=>n,fun|3=>3|9=>9|4=>4|n=>n,fun|n=>n⟩
theorem Tryz.lt283:Go.Proofs.Lays.n283 Tryz.prog Tryz.lt283_ren:={
 mixed:=by kernel_rfl
 f283:=Tryz.func223.trans (congrArg some (by kernel_rfl))
 t3:=Tryz.underlying3
 a3:=Tryz.isAgg3
 z3:=Tryz.sizeOf3
 v3:=Tryz.zeroValue3
 t4:=Tryz.underlying4
 a4:=Tryz.isAgg4
 z4:=Tryz.sizeOf4
 v4:=Tryz.zeroValue4
 t9:=Tryz.underlying9
 a9:=Tryz.isAgg9
 z9:=Tryz.sizeOf9
 v9:=Tryz.zeroValue9 }
def Tryz.lt285_ren:Go.Shelf.Ren:=⟨fun|285=>225|n=>n,fun|37=>68|53=>178|3=>3|4=>4|51=>244|9=>9|5=>5|0=>0|n=>n,fun|n=>n⟩
theorem Tryz.lt285:Go.Proofs.Lays.n285 Tryz.prog Tryz.lt285_ren:={
 mixed:=by kernel_rfl
 f285:=Tryz.func225.trans (congrArg some (by kernel_rfl))
 t0:=Tryz.underlying0
 a0:=Tryz.isAgg0
 z0:=Tryz.sizeOf0
 v0:=Tryz.zeroValue0
 t3:=Tryz.underlying3
 a3:=Tryz.isAgg3
 z3:=Tryz.sizeOf3
 v3:=Tryz.zeroValue3
 t4:=Tryz.underlying4
 a4:=Tryz.isAgg4
 z4:=Tryz.sizeOf4
 v4:=Tryz.zeroValue4
 t5:=Tryz.underlying5
 a5:=Tryz.isAgg5
 z5:=Tryz.sizeOf5
 v5:=Tryz.zeroValue5
 t9:=Tryz.underlying9
 a9:=Tryz.isAgg9
 z9:=Tryz.sizeOf9
 v9:=Tryz.zeroValue9
 t37:=Tryz.underlying68
 a37:=Tryz.isAgg68
 z37:=Tryz.sizeOf68
 v37:=Tryz.zeroValue68
 t51:=Tryz.underlying244
 a51:=Tryz.isAgg244
 z51:=Tryz.sizeOf244
 v51:=Tryz.zeroValue244
 t53:=Tryz.underlying178
 a53:=Tryz.isAgg178
 z53:=Tryz.sizeOf178
 v53:=Tryz.zeroValue178 }
def Tryz.lt99_ren:Go.Shelf.Ren:=⟨fun|99=>100|206=>173|n=>n,fun|9=>9|4=>4|3=>3|n=>n,fun|n=>n⟩
theorem Tryz.lt99:Go.Proofs.Lays.n99 Tryz.prog Tryz.lt99_ren:={
 mixed:=by kernel_rfl
 f99:=Tryz.func100.trans (congrArg some (by kernel_rfl))
 f206:=Tryz.func173.trans (congrArg some (by kernel_rfl))
 t3:=Tryz.underlying3
 a3:=Tryz.isAgg3
 z3:=Tryz.sizeOf3
 v3:=Tryz.zeroValue3
 t4:=Tryz.underlying4
 a4:=Tryz.isAgg4
 z4:=Tryz.sizeOf4
 v4:=Tryz.zeroValue4
 t9:=Tryz.underlying9
 a9:=Tryz.isAgg9
 z9:=Tryz.sizeOf9
 v9:=Tryz.zeroValue9 }
def Tryz.lt100_ren:Go.Shelf.Ren:=⟨fun|100=>101|207=>174|n=>n,fun|9=>9|4=>4|3=>3|n=>n,fun|n=>n⟩
theorem Tryz.lt100:Go.Proofs.Lays.n100 Tryz.prog Tryz.lt100_ren:={
 mixed:=by kernel_rfl
 f100:=Tryz.func101.trans (congrArg some (by kernel_rfl))
 f207:=Tryz.func174.trans (congrArg some (by kernel_rfl))
 t3:=Tryz.underlying3
 a3:=Tryz.isAgg3
 z3:=Tryz.sizeOf3
 v3:=Tryz.zeroValue3
 t4:=Tryz.underlying4
 a4:=Tryz.isAgg4
 z4:=Tryz.sizeOf4
 v4:=Tryz.zeroValue4
 t9:=Tryz.underlying9
 a9:=Tryz.isAgg9
 z9:=Tryz.sizeOf9
 v9:=Tryz.zeroValue9 }
theorem Tryz.xt156:Builder.Extra Tryz.prog Tryz.lt156_ren:={
 sizeBuilder:=by kernel_rfl
 liesBuilder:=by kernel_rfl
 t5:=by kernel_rfl
 a5:=by intro w;kernel_rfl
 z5:=by intro w;kernel_rfl
 v5:=by intro w;kernel_rfl
 infoByte:=by kernel_rfl
 cellsByte:=by kernel_rfl
 sizeByte:=by kernel_rfl
 neB5:=by decide }
end Go.Proofs
namespace Go.Proofs.YtaccjdppmmoepaaGreatDoor
open Go Go.RowKit Tryz
variable {qP:Prop}

abbrev Ft(Γ:Type):=List Value->Γ->World->Prop
def gOf{Γ:Type}(Φs:List (Ft Γ))(i:Nat)(vl:List Value)(F:Γ)(w:World):Prop:=(Φs.getD i λ_ _ _=>True) vl F w
def O8{Γ:Type}(R:Γ->World->Γ->World->Prop)(Φ:Ft Γ):Prop:=∀ l F w γ' J,R F w γ' J->Φ l F w->Φ l γ' J
def Chain{Γ:Type}(P:Program)(ops:Array Oper)(D:Nat->List Nat)(R:Γ->World->Γ->World->Prop)(N:Nat->Γ->Prop)(a0:Act)(γ0:Γ)(w0:World)(Qf:List (Ft Γ)->Prop):Nat->List (Ft Γ)->List Oper->Prop
 |_,done,[]=>Qf done.reverse
 |k,done,o::rest=>∃ Φ:Ft Γ,O8 R Φ/\LinStep P ops D R N (gOf (Φ::done).reverse) a0 γ0 w0 k o/\Chain P ops D R N a0 γ0 w0 Qf (k+1) (Φ::done) rest
section
variable {Γ:Type}{P:Program}{ops:Array Oper}{D:Nat->List Nat}{R:Γ->World->Γ->World->Prop}{N:Nat->Γ->Prop}{a0:Act}{γ0:Γ}{w0:World}{Qf:List (Ft Γ)->Prop}
theorem ETA{Φs:List (Ft Γ)}{i k:Nat}(h:i<k):gOf (Φs.take k) i=gOf Φs i:=by
 funext vl F w
 unfold gOf;rw [List.getD_eq_getElem?_getD,List.getD_eq_getElem?_getD,List.getElem?_take,if_pos h]
theorem ByA(h:qP:=by
 have:=congrArg (List.take k) e1;rw [List.take_take,Nat.min_eq_left (by omega),List.reverse_cons] at this;rw [this,List.take_append_of_le_length (by simp [hk]),<-hk,<-List.length_reverse];exact List.take_length):qP:=h
theorem BlA(h:qP:=by
 cases i with
 |zero =>
  simp at hi;subst hi;rw [Nat.add_zero,e1];exact h2
 |succ i =>
  have:=e4 i o' (by simpa using hi);rwa [show k+1+i=k+(i+1) by omega] at this):qP:=h
theorem VF(h:qP:=by
 refine ⟨Φs,?_,e2,e3,λi o' hi => ?_⟩
 ·exact ByA
 ·exact BlA):qP:=h
theorem UR(h:qP:=by
 rcases List.mem_cons.1 hΨ with rfl|hΨ
 ·exact h1
 ·exact hd Ψ hΨ):qP:=h
theorem Chain.full:∀ {rest:List Oper} {k:Nat} {done:List (Ft Γ)},done.length=k->(∀ Φ∈done,O8 R Φ)->Chain P ops D R N a0 γ0 w0 Qf k done rest ->
  ∃ Φs:List (Ft Γ),Φs.take k=done.reverse/\(∀ Φ∈Φs,O8 R Φ)/\Qf Φs/\∀ i o,rest[i]?=some o->LinStep P ops D R N (gOf (Φs.take (k+i+1))) a0 γ0 w0 (k+i) o
 |[],k,done,hk,hd,h=>⟨done.reverse,by rw [<-hk,<-List.length_reverse];exact List.take_length,λΦ hΦ=>hd Φ (by simpa using hΦ),h,AC⟩
 |o::rest,k,done,hk,hd,h=>by
  obtain ⟨Φ,h1,h2,h3⟩:=h;obtain ⟨Φs,e1,e2,e3,e4⟩:=Chain.full (rest:=rest) (k:=k+1) (done:=Φ::done) AF (λΨ hΨ=>by
   exact UR) h3
  exact VF
theorem SQ(h:qP:=by
 intro V F w hR hN hpp;have:=h V F w hR hN (λj hj=>by rw [hp j hj];exact hpp j hj);rw [hi] at this;exact this):qP:=h
theorem LinStep.congr{G G':Nat->List Value->Γ->World->Prop}{i:Nat}{o:Oper}(hp:∀ j∈AV o,G j=G' j)(hi:G i=G' i)(h:LinStep P ops D R N G a0 γ0 w0 i o):LinStep P ops D R N G' a0 γ0 w0 i o:=by
 exact SQ
end
theorem BNA(h:qP:=by
 rw [hf] at hg;exact h2 Φ (List.mem_of_getElem? hf) l F w γ' J r hg):qP:=h
theorem La(h:qP:=by
 unfold gOf at hg|-;rw [List.getD_eq_getElem?_getD] at hg|-;cases hf:Φs[i]? with
 |none=>trivial
 |some Φ =>
  exact BNA):qP:=h
theorem Me(h:qP:=by
 have:=h4 i o (by simpa using hi);simp only [Nat.zero_add] at this;exact this.congr (λj hj=>ETA (by have:=hac i o j hi hj;omega)) (ETA (by omega))):qP:=h
theorem B6{Γ:Type}{P:Program}{l:List Oper}{Q:Exit->Act->World->Prop}{id:Nat}{a0:Act}{w0:World}(hm:P.follows .mixedOrders=true)(D:Nat->List Nat)(hB:R8 l.toArray D a0.tmps.size=true)
  (R:Γ->World->Γ->World->Prop) (hrefl:∀ F w,R F w F w) (htrans:∀ F w γ' J γ'' w'',R F w γ' J->R γ' J γ'' w''->R F w γ'' w'')
  (N:Nat->Γ->Prop) (γ0:Γ) (hN:∀ i,N i γ0)
  (h:Chain P l.toArray D R N a0 γ0 w0.drew (λΦs=>∀ V F w,R γ0 w0.drew F w->(∀ i,i<l.length->gOf Φs i ((D i).map V) F w)->Q .normal (Ah V l 0 a0) w) 0 [] l) :
  (Code.region id l.toArray true).wp P Q a0 w0:=by
 obtain ⟨Φs,-,h2,h3,h4⟩:=Chain.full (k:=0) (done:=[]) rfl (λ_ h=>Ck) h;obtain ⟨-,-,-,hac,-⟩:=GH hB;refine KM hm D hB R hrefl htrans N (gOf Φs) (λi l F w γ' J r hg => ?_) γ0 hN (λi o hi => ?_) (λV F w hr hg=>h3 V F w hr λi hi=>hg i Bp)
 ·exact La
 ·exact Me

def FV{Γ:Type}(x:Value):Ft Γ:=λvl _ _=>match vl with|[v]=>v=x|_=>True
def FP{Γ:Type}(Φ:Value->Γ->World->Prop):Ft Γ:=λvl F w=>match vl with|[v]=>Φ v F w|_=>True
theorem IPA{Γ:Type}{R:Γ->World->Γ->World->Prop}(x:Value):O8 R (FV x):=λ_ _ _ _ _ _ h=>h
theorem H1A{Γ:Type}{R:Γ->World->Γ->World->Prop}{Φ:Value->Γ->World->Prop}(h:∀ v F w γ' J,R F w γ' J->Φ v F w->Φ v γ' J):O8 R (FP Φ):=λl F w γ' J r hf=>by
 unfold FP at hf|-
 match l,hf with
 |[],_=>trivial
 |[v],hf=>exact h v F w γ' J r hf
 |_::_::_,_=>trivial

section
variable {Γ:Type}{P:Program}{ops:Array Oper}{D:Nat->List Nat}{R:Γ->World->Γ->World->Prop}{N:Nat->Γ->Prop}{a0:Act}{γ0:Γ}{w0:World}{Qf:List (Ft Γ)->Prop}{done:List (Ft Γ)}{o:Oper}{rest:List Oper}
theorem X6{Φ:Ft Γ}{j:Nat}{vl:List Value}{F:Γ}{w:World}(h:gOf (Φ::done).reverse j vl F w):gOf done.reverse j vl F w:=by
 unfold gOf at h|-;rw [List.getD_eq_getElem?_getD,List.reverse_cons] at h;rw [List.getD_eq_getElem?_getD]
 rcases Nat.lt_or_ge j done.reverse.length with hj|hj
 ·rwa [List.getElem?_append_left hj] at h
 ·rw [List.getElem?_eq_none hj];trivial
theorem Yi{Φ:Ft Γ} : gOf (Φ::done).reverse done.length=Φ:=by
 funext vl F w
 unfold gOf;rw [List.getD_eq_getElem?_getD,List.reverse_cons,List.getElem?_append_right AC];simp
def Xy(ops:Array Oper)(D:Nat->List Nat)(R:Γ->World->Γ->World->Prop)(N:Nat->Γ->Prop)(a0:Act)(γ0:Γ)(w0:World)(k:Nat)(done:List (Ft Γ))(o:Oper)(V:Nat->Value)(F:Γ)(w:World)(L:Operand->Value)(C:Prop):Prop :=
 R γ0 w0 F w->N k F->(∀ j,j∈AV o->gOf done.reverse j ((D j).map V) F w)->(∀ t,L (.tmp t)=Fi ops o a0 V t)->(∀ v,L (.const v)=v)->(∀ f,L (.func f)=.func (.func f) #[] #[])->(∀ g,L (.global g)=.pointer (some ⟨g,0,none⟩))->C
theorem Rb(h:qP:=by
 refine ⟨Φ,hst,λV F w hR hN hp => ?_,next⟩;obtain ⟨h1,h2⟩:=h V F w (Hm ops o a0 V) hR hN (λj hj=>X6 (hp j hj)) (λ_=>rfl) (λ_=>rfl) (λ_=>rfl) (λ_=>rfl);rw [if_pos h1];have e:gOf (Φ::done).reverse k=Φ:=(by rw [<-hk];exact Yi);rw [e];exact h2):qP:=h
theorem Chain.step{k:Nat}(Φ:Ft Γ)(hk:done.length=k)(hst:O8 R Φ)
  (h:∀ V F w L,Xy ops D R N a0 γ0 w0 k done o V F w L (AY o V=true/\Bu P (λv J=>∃ γ',R F w γ' J/\(∀ j,j≠k->j ∉ AV o->N j F->N j γ')/\Φ ((D k).map (F3 V k v)) γ' J) ((execOp L o).run P w)))
  (next:Chain P ops D R N a0 γ0 w0 Qf (k+1) (Φ::done) rest):Chain P ops D R N a0 γ0 w0 Qf k done (o::rest):=by
 exact Rb
theorem QB(h:qP:=by
 rintro v J ⟨rfl,rfl⟩;refine ⟨F,hrefl _ _,λ_ _ _ h=>h,?_⟩;rw [hD];simp [FV,F3]):qP:=h
theorem H9A{k:Nat}{x:Value}(hrefl:∀ F w,R F w F w)(hk:done.length=k)
  (h:∀ V F w L,Xy ops D R N a0 γ0 w0 k done o V F w L (AY o V=true/\Bu P (λv J=>v=x/\J=w) ((execOp L o).run P w)))
  (hD:D k=[k]) (next:Chain P ops D R N a0 γ0 w0 Qf (k+1) (FV x::done) rest):Chain P ops D R N a0 γ0 w0 Qf k done (o::rest):=by
 refine Chain.step (FV x) hk (IPA x) (λV F w L hR hN hp h1 h2 h3 h4 => ?_) next;obtain ⟨g1,g2⟩:=h V F w L hR hN hp h1 h2 h3 h4;refine ⟨g1,?_⟩;have key:∀ v J,v=x/\J=w->∃ γ',R F w γ' J/\(∀ j,j≠k->j ∉ AV o->N j F->N j γ')/\FV x ((D k).map (F3 V k v)) γ' J:=by
  exact QB
 revert g2
 cases (execOp L o).run P w with
 |ok n J =>
  cases n with
  |value v=>exact key v J
  |skip=>exact key undef J
  |enter f args=>exact λg2=>g2.mono λe w'' ⟨v,e1,e2⟩=>⟨v,e1,key v w'' e2⟩
  |_=>exact id
 |_=>exact id
theorem Chain.no{k:Nat}(hk:done.length=k)(hD:D k=[k])(h:∀ V F w,(∀ j,j∈AV o->gOf done.reverse j ((D j).map V) F w)->AY o V=false)
  (next:Chain P ops D R N a0 γ0 w0 Qf (k+1) (FV undef::done) rest):Chain P ops D R N a0 γ0 w0 Qf k done (o::rest):=by
 refine ⟨FV undef,IPA _,λV F w hR hN hp => ?_,next⟩;have h1:=h V F w λj hj=>X6 (hp j hj);rw [if_neg (by rw [h1];simp)];have e:gOf ((FV undef:Ft Γ)::done).reverse k=FV undef:=(by rw [<-hk];exact Yi);rw [e,hD];simp [FV,F3]
end

structure LX(X:Nat->Nat->Prop)(F:Gh)(w:World)(γ':Gh)(J:World):Prop where
 os:J.os=w.os
 tape:J.tape=w.tape
 output:J.output=w.output
 size:w.heap.size<=J.heap.size
 kept:∀ b,b<w.heap.size->Ec F b->(∀ m,X m b->γ' m=F m)->J.heap[b]?=w.heap[b]?
 shape:∀ b t cs,Blk w b t cs->(∀ m,¬X m b)->∃ cs',cs'.size=cs.size/\Blk J b t cs'
 old:∀ k b,γ' k=some (some b)->b<w.heap.size->F k=some (some b)
 on:∀ k b,F k=some (some b)->γ' k=some (some b)\/γ' k=some none
 done:∀ k,F k=some none->γ' k=some none
 big:∀ k b,1000<=k->γ' k=some (some b)->F k=some (some b)
 inb:(∀ k b,F k=some (some b)->b<w.heap.size)->∀ k b,γ' k=some (some b)->b<J.heap.size
section
variable {X:Nat->Nat->Prop}{F γ' γ'':Gh}{w J w'':World}
theorem LX.refl(X:Nat->Nat->Prop)(F:Gh)(w:World):LX X F w F w:=⟨rfl,rfl,rfl,Al,λ_ _ _ _=>rfl,λ_ _ cs h _=>⟨cs,rfl,h⟩,λ_ _ h _=>h,λ_ _ h=>.inl h,λ_ h=>h,λ_ _ _ h=>h,λh=>h⟩
theorem LX.free(h:LX X F w γ' J){b:Nat}(hb:b<w.heap.size)(hf:Ec F b):Ec γ' b:=λ⟨k,hk⟩=>hf ⟨k,h.old k b hk hb⟩
theorem LX.mid(h:LX X F w γ' J)(k:LX X γ' J γ'' w''){m:Nat}(e:γ'' m=F m):γ' m=F m/\γ'' m=γ' m:=by
 cases h0:F m with
 |none =>
  rw [h0] at e;cases h1:γ' m with
  |none=>exact ⟨rfl,e⟩
  |some x =>
   cases x with
   |none=>rw [k.done m h1] at e;cases e
   |some b=>rcases k.on m b h1 with h2|h2<;>(rw [h2] at e;cases e)
 |some x =>
  cases x with
  |none =>
   have h1:=h.done m h0;exact ⟨h1,(k.done m h1).trans h1.symm⟩
  |some b =>
   rw [h0] at e
   rcases h.on m b h0 with h1|h1
   ·exact ⟨h1,e.trans h1.symm⟩
   ·rw [k.done m h1] at e;cases e
theorem LX.trans(X:Nat->Nat->Prop)(F:Gh)(w:World)(γ':Gh)(J:World)(γ'':Gh)(w'':World)(h:LX X F w γ' J)(k:LX X γ' J γ'' w''):LX X F w γ'' w'' where
 os:=k.os.trans h.os
 tape:=k.tape.trans h.tape
 output:=k.output.trans h.output
 size:=Nat.le_trans h.size k.size
 kept b hb hf hm:=(k.kept b (Nat.lt_of_lt_of_le hb h.size) (h.free hb hf) (λm hX=>(h.mid k (hm m hX)).2)).trans (h.kept b hb hf λm hX=>(h.mid k (hm m hX)).1)
 shape b t cs hc hX:=by
  obtain ⟨c1,e1,h1⟩:=h.shape b t cs hc hX;obtain ⟨c2,e2,h2⟩:=k.shape b t c1 h1 hX;exact ⟨c2,e2.trans e1,h2⟩
 old i b hi hb:=h.old i b (k.old i b hi (Nat.lt_of_lt_of_le hb h.size)) hb
 on i b hi:=by
  exact PC
 done i hi:=k.done i (h.done i hi)
 big i b hi hb:=h.big i b hi (k.big i b hi hb)
 inb hi:=k.inb (h.inb hi)
theorem IDA(X:Nat->Nat->Prop)(F:Gh)(h:Ext w J):LX X F w F J :=
 ⟨h.os,h.tape,h.output,h.size,λb hb _ _=>h.block b hb,λ_b _t cs hc _=>⟨cs,rfl,hc.keep (h.kept _)⟩,λ_ _ h _=>h,λ_ _ h=>.inl h,λ_ h=>h,λ_ _ _ h=>h,λhi i b hb=>Nat.lt_of_lt_of_le (hi i b hb) h.size⟩
theorem LX.new{k:Nat}(hl:k<1000)(hk:F k=none)(w:World)(o:Obj):LX X F w (F.put k (some w.heap.size)) (w.alloc o):=by
 have h:=(Ext.refl w).alloc o;refine ⟨h.os,h.tape,h.output,h.size,λb hb _ _=>h.block b hb,λb t cs hc _=>⟨cs,rfl,hc.keep (h.kept _)⟩,?_,?_,?_,?_,?_⟩
 ·exact Sc
 ·exact SE
 ·exact Tr
 ·intro j b hj hb;unfold Gh.put at hb;split at hb
  ·omega
  ·exact hb
 ·exact Rl
theorem LX.inb0(h:LX X gh0 w γ' J):∀ k b,γ' k=some (some b)->b<J.heap.size:=h.inb λk b hk=>by cases hk
theorem LX.keptS(h:LX X F w γ' J){S:NP}(hS:∀ b,b<w.heap.size->S b->Ec F b/\∀ m,X m b->γ' m=F m):Kept S w J:=⟨h.size,λb hs hb=>h.kept b hb (hS b hb hs).1 (hS b hb hs).2⟩
theorem Nu(b:Nat):Ec gh0 b:=λ⟨_,hk⟩=>by cases hk
theorem LX.kept0(h:LX X gh0 w.drew γ' J){S:NP}(hS:∀ b,S b->∀ m,¬X m b):Kept S w J:=(Kept.drew S w).trans (h.keptS λb _ hb=>⟨Nu b,λm hX=>absurd hX (hS b hb m)⟩)
theorem LX.ext0(h:LX X gh0 w.drew γ' J)(hX:∀ m b,X m b->γ' m=none):Ext w J:=(Ext.refl w).drew.trans ⟨h.os,h.tape,h.output,h.size,λb hb=>h.kept b hb (Nu b) λm hm=>hX m b hm⟩
theorem Uc(h:qP:=by
 intro j b _ hj;exact Oh):qP:=h
theorem LX.store{k g t:Nat}{cs cs':Array Value}(hk:F k=some (some g))(hu:∀ j,F j=some (some g)->j=k)(ho:Only g w J)(hb:Blk w g t cs)(hb':Blk J g t cs')(hs:cs'.size=cs.size) :
  LX X F w (F.put k none) J:=by
 refine ⟨ho.os,ho.tape,ho.output,Nat.le_of_eq ho.size.symm,λb _ hf _=>ho.block b (λe=>hf ⟨k,by rw [hk,e]⟩),?_,?_,?_,?_,?_,?_⟩
 ·intro b O c hc _;exact RW
 ·exact Lz
 ·exact KW
 ·exact KY
 ·exact Uc
 ·exact TM
theorem ILA{m:Nat}(hm:F m=none)(hos:J.os=w.os)(ht:J.tape=w.tape)(hou:J.output=w.output)(hz:w.heap.size<=J.heap.size)(hb:∀ b,b<w.heap.size->¬X m b->J.heap[b]?=w.heap[b]?):LX X F w (F.put m none) J:=by
 refine ⟨hos,ht,hou,hz,λb hl _ hX=>hb b hl λh => ?_,λb t cs hc hX=>⟨cs,rfl,(hb b hc.lt (hX m)).trans hc⟩,?_,?_,?_,?_,?_⟩
 ·have:=hX m h;rw [hm] at this;simp [Gh.put] at this
 ·exact Lz
 ·exact KW
 ·exact KY
 ·exact Uc
 ·intro hi j b hj;unfold Gh.put at hj;split at hj
  ·cases hj
  ·exact Nat.lt_of_lt_of_le (hi j b hj) hz
end
def lk(n:Nat)(K:List Nat):List (Nat × List Nat):=(List.range n).map λi=>(i,K)
def alF(l:List (Nat × List Nat)):Nat->List Nat:=λj=>(l.lookup j).getD []
def LM(l:List (Nat × List Nat))(i:Nat)(F:Gh):Prop:=(∀ k∈alF l i,F k≠some none)/\(i<1000->(∃ s,i∈alF l s)->F i=none)
theorem LM.zero(l:List (Nat × List Nat))(i:Nat):LM l i gh0:=⟨λ_ _ h=>Ck,λ_ _=>rfl⟩
theorem F9A{l:List (Nat × List Nat)}{k s:Nat}{p:List Nat}(h:(l.all λq => !(q.2.contains k)||decide (q.1=s)||p.contains q.1)=true):∀ j,k∈alF l j->j=s\/j∈p:=by
 intro j hj;unfold alF at hj;cases hl:l.lookup j with
 |none=>rw [hl] at hj;simp at hj
 |some x =>
  rw [hl] at hj;have hm:(j,x)∈l:=by
   clear h hj
   induction l with
   |nil=>simp at hl
   |cons q l ih =>
    rw [List.lookup_cons] at hl;split at hl
    ·rename_i he;obtain rfl:=Option.some.inj hl;have:j=q.1:=(by simpa using he);rw [this];exact List.mem_cons_self
    ·exact List.mem_cons_of_mem _ (ih hl)
  have:=List.all_eq_true.1 h (j,x) hm;simp only [Bool.or_eq_true,Bool.not_eq_true',decide_eq_true_eq,List.contains_iff_mem] at this;have hk:k∈x:=ET
  rcases this with (h1|h1)|h1
  ·rw [<-Bool.not_eq_true,List.contains_iff_mem] at h1;exact absurd hk h1
  ·exact .inl h1
  ·exact .inr h1
theorem INA{l:List (Nat × List Nat)}{F:Gh}{i x:Nat}{p:List Nat} : ∀ j,j≠i->j ∉ p->LM l j F->LM l j (F.put i (some x)):=by
 rintro j hj-⟨h1,h2⟩;refine ⟨λk hk => ?_,λhl hs => ?_⟩
 ·unfold Gh.put;split
  ·simp
  ·exact h1 k hk
 ·unfold Gh.put;rw [if_neg hj];exact h2 hl hs
theorem Z5(h:qP:=by
 subst e
 rcases F9A h j hk' with h3|h3
 ·exact hj h3
 ·exact hp h3):qP:=h
theorem RB(h:qP:=by
 rw [if_neg (λe=>by
  exact Z5)]
 exact h1 k' hk'):qP:=h
theorem LM.done{l:List (Nat × List Nat)}{F:Gh}{s k:Nat}{p:List Nat}(h:(l.all λq => !(q.2.contains k)||decide (q.1=s)||p.contains q.1)=true)(hk:(∃ g,F k=some (some g))\/1000<=k):∀ j,j≠s->j ∉ p->LM l j F->LM l j (F.put k none):=by
 rintro j hj hp ⟨h1,h2⟩;refine ⟨λk' hk' => ?_,λhl hs' => ?_⟩
 ·unfold Gh.put;exact RB
 ·unfold Gh.put;rw [if_neg (λe=>by
   subst e
   rcases hk with ⟨g,hk⟩|hk
   ·rw [h2 hl hs'] at hk;cases hk
   ·omega)]
  exact h2 hl hs'
section
variable {X:Nat->Nat->Prop}{F γ':Gh}{w J:World}
theorem LX.key0(h:LX X gh0 w F J){l:List (Nat × List Nat)}{i k:Nat}(hN:LM l i F)(hk:k∈alF l i)(h1:1000<=k):F k=none:=by
 cases hg:F k with
 |none=>rfl
 |some x =>
  cases x with
  |none=>exact absurd hg (hN.1 k hk)
  |some b=>have:=h.big k b h1 hg;cases this
theorem LX.extB(h:LX X gh0 w.drew γ' J){w00:World}(hx:Ext w00 w)(hX:∀ m b,X m b->w00.heap.size<=b):Ext w00 J :=
 ⟨h.os.trans hx.os,h.tape.trans hx.tape,h.output.trans hx.output,Nat.le_trans hx.size h.size,λb hb=>(h.kept b (Nat.lt_of_lt_of_le hb hx.size) (Nu b) λm hm=>by have:=hX m b hm;omega).trans (hx.block b hb)⟩
end
section
variable {X:Nat->Nat->Prop}{F γ':Gh}{w J:World}
def VarX(X:Nat->Nat->Prop)(k t n:Nat)(v:Value)(F:Gh)(w:World):Prop:=∃ g cs,v=.pointer (some ⟨g,0,none⟩)/\cs.size=n/\Blk w g t cs/\(F k=some (some g)\/F k=some none)/\(∀ j,F j=some (some g)->j=k)/\∀ m,¬X m g
theorem IAA{k t n:Nat} : ∀ v F w γ' J,LX X F w γ' J->VarX X k t n v F w->VarX X k t n v γ' J:=by
 rintro v F w γ' J r ⟨g,cs,h1,h2,h3,h4,h5,h6⟩;obtain ⟨cs',e,h7⟩:=r.shape g t cs h3 h6;refine ⟨g,cs',h1,e.trans h2,h7,?_,λj hj=>h5 j (r.old j g hj h3.lt),h6⟩
 rcases h4 with h4|h4
 ·exact r.on k g h4
 ·exact .inr (r.done k h4)
theorem VarX.new{k t n:Nat}(hf:∀ j b,F j=some (some b)->b<w.heap.size){cs:Array Value}(hn:cs.size=n)(hX:∀ m b,X m b->b<w.heap.size):VarX X k t n (.pointer (some ⟨w.heap.size,0,none⟩)) (F.put k (some w.heap.size)) (w.alloc (.cells cs t)):=by
 refine ⟨_,cs,rfl,hn,Blk.new w t cs,.inl (by simp [Gh.put]),λj hj => ?_,λm hm=>by have:=hX m _ hm;omega⟩;exact VT
def VarXI(X:Nat->Nat->Prop)(t:Nat)(v:Value)(cs:Array Value)(F:Gh)(w:World):Prop:=∃ g,v=.pointer (some ⟨g,0,none⟩)/\Blk w g t cs/\Ec F g/\∀ m,¬X m g
theorem IQA{t:Nat}{v:Value}{cs:Array Value}(r:LX X F w γ' J)(h:VarXI X t v cs F w):VarXI X t v cs γ' J:=by
 obtain ⟨g,h1,h2,h3,h4⟩:=h;exact ⟨g,h1,h2.keep (r.keptS λb _ e=>⟨by rw [e];exact h3,λm hm=>absurd (e ▸ hm) (h4 m)⟩),r.free h2.lt h3,h4⟩
theorem VarX.stored{l:List (Nat × List Nat)}{s k t n:Nat}{v:Value}(h:VarX X k t n v F w)(hs:k∈alF l s)(hn:LM l s F) :
  ∃ g cs,v=.pointer (some ⟨g,0,none⟩)/\cs.size=n/\Blk w g t cs/\F k=some (some g)/\∀ J cs',Only g w J->Blk J g t cs'->cs'.size=n->LX X F w (F.put k none) J/\VarXI X t v cs' (F.put k none) J:=by
 obtain ⟨g,cs,h1,h2,h3,h4,h5,h6⟩:=h;have hk:F k=some (some g):=by
  exact TC
 refine ⟨g,cs,h1,h2,h3,hk,λJ cs' ho hb he=>⟨LX.store hk h5 ho h3 hb (he.trans h2.symm),g,h1,hb,?_,h6⟩⟩;exact Pa
end
theorem Cw{P:Program}{o:Oper}{L:Operand->Value}{K:Value->World->Prop}{w:World}{base e sz n c:Nat}{A:OA}{xs:List Value}(s x:Operand){t by_:Nat}
  (ho:o.op=.call { callee:=.builtin .append,args:=#[s,x],argTypes:=#[t,t] }) (ti:TI P t e sz by_) (hs:L s=.slice A n c) (hown:Own w base e sz A n c xs)
  {S:NP} {B:OA} {m c2:Nat} {news:List Value} (hx:L x=.slice B m c2) (hr:Rd w S B news) (hl:news.length=m*sz) (h1:∀ u∈news,u.oneCell'=true)
  (h63:(n+m)*by_<=140737488355328) (hby:0<by_) (hbase:base<=w.heap.size)
  (h:∀ A' c' J,Own J base e sz A' (n+m) c' (xs++news)->w.grownBy J (ob A)->(ob A'=ob A\/ob A'=some w.heap.size)->K (.slice A' (n+m) c') J) :
  Bu P K ((execOp L o).run P w):=by
 exact VN
theorem OD(z:Value)(n:Nat)(hz:z.cells=#[z]):madeCells z.cells n=Array.replicate n z:=by
 exact Ro
theorem EQA(n:Nat)(hn:n<=4294967296):∀ w:World,(Instr.makeSlice 22 (.I (n:Int)) (.I (n:Int))).run prog w=.ok (.slice (some ⟨w.heap.size,0,none⟩) n n) (w.alloc (.cells (Array.replicate n (.I 0)) 3)):=by
 intro w;obtain ⟨i0,h1,h2,h3,h4⟩:=info_parts EXA;have hr:=run_make (P:=prog) w 22 3 i0 (.I 0) underlying22 h1 h2 .i64 .i64 n n AA AA (by rw [h4];omega) AA;rw [h3,Nat.mul_one,Int.toNat_natCast,OD _ _ rfl] at hr;exact hr

structure But(g:Nat)(w J:World):Prop where
 os:J.os=w.os
 tape:J.tape=w.tape
 output:J.output=w.output
 size:w.heap.size<=J.heap.size
 block:∀ b,b<w.heap.size->b≠g->J.heap[b]?=w.heap[b]?
section
variable {g:Nat}{w J w'':World}
theorem But.refl(g:Nat)(w:World):But g w w:=⟨rfl,rfl,rfl,Al,λ_ _ _=>rfl⟩
theorem But.trans(h:But g w J)(k:But g J w''):But g w w'':=⟨k.os.trans h.os,k.tape.trans h.tape,k.output.trans h.output,Nat.le_trans h.size k.size,λb hb hg=>(k.block b (Nat.lt_of_lt_of_le hb h.size) hg).trans (h.block b hb hg)⟩
theorem H7A(h:Ext w J):But g w J:=⟨h.os,h.tape,h.output,h.size,λb hb _=>h.block b hb⟩
theorem But.of_only(h:Only g w J):But g w J:=⟨h.os,h.tape,h.output,Nat.le_of_eq h.size.symm,λb _ hg=>h.block b hg⟩
theorem But.kept(h:But g w J){S:NP}(hS:∀ b,b<w.heap.size->S b->b≠g):Kept S w J:=⟨h.size,λb hb hl=>h.block b hl (hS b hl hb)⟩
theorem But.ext(h:But g w J)(hg:w.heap.size<=g):Ext w J:=⟨h.os,h.tape,h.output,h.size,λb hb=>h.block b hb AA⟩
theorem But.exts{a:World}(h:Ext a w)(k:But g w J)(hg:a.heap.size<=g):Ext a J:=⟨k.os.trans h.os,k.tape.trans h.tape,k.output.trans h.output,Nat.le_trans h.size k.size,λb hb=>(k.block b (Nat.lt_of_lt_of_le hb h.size) AA).trans (h.block b hb)⟩
theorem But.own{base e sz n c:Nat}{A:OA}{xs:List Value}(h:But g w J)(ho:Own w base e sz A n c xs)(hb:g<base):Own J base e sz A n c xs:=ho.keep (h.kept λb _ hb'=>by have:=(ho.blk hb').1;omega)
theorem But.blk{b t:Nat}{cs:Array Value}(h:But g w J)(hb:Blk w b t cs)(hg:b≠g):Blk J b t cs:=hb.keep (h.kept λx _ e=>AA)
theorem But.grown{row:Option Nat}(h:But g w J)(hg:J.grownBy w'' row)(hr:∀ k,row=some k->w.heap.size<=k):But g w w'':=⟨hg.os.trans h.os,hg.tape.trans h.tape,hg.output.trans h.output,Nat.le_trans h.size hg.size,λb hb hx=>(hg.block b (Nat.lt_of_lt_of_le hb h.size) λe=>by have:=hr b e.symm;omega).trans (h.block b hb hx)⟩
theorem But.set{b i:Nat}{u:Value}(h:But g w J)(hb:w.heap.size<=b):But g w (J.setCell ⟨b,i,none⟩ u):=⟨h.os,h.tape,h.output,by simpa [World.setCell] using h.size,λx hx hg=>(Below.heap_setCell _ _ _ _ (by show x≠b;omega)).trans (h.block x hx hg)⟩
end

def Fa(j:Nat)(c:Int):Bool:=Cq c||(decide (j≠0)&&(decide (c=95)||decide (48<=c/\c<=57)))
theorem CSA{s:BA}(hp:0<s.size):(bs s).head?=some (s[0].toNat:Int):=by
  rw [List.head?_eq_getElem?,List.getElem?_eq_getElem (by rw [GY];exact hp),M8 s 0 hp]
theorem WQ{s:BA}(h:∀ j (h:j<s.size),Fa j (s[j].toNat:Int)=true):Ba s=decide (1<=s.size/\s.size<=20):=by
  unfold Ba
  by_cases h0:s.size=0
  · simp [h0]
  have hp:0<s.size:=AA
  have h1:Cq (s[0].toNat:Int)=true:=by simpa [Fa] using h 0 hp
  rw [CSA hp,CH (bs s) Jp (λj hj=>by
    rw [GY] at hj;rw [M8 s j hj]
    have:=h j hj
    simp only [Fa,Bool.or_eq_true,Bool.and_eq_true] at this
    simp only [Jp,Bool.or_eq_true]
    rcases this with h|⟨_,h|h⟩
    · exact .inl (.inl h)
    · exact .inl (.inr h)
    · exact .inr h)]
  simp [h1]
theorem Dj(h:qP:=by simpa using h2):qP:=h
theorem EIA{s:BA}{k:Nat}(hk:k<s.size)(h:Fa k (s[k].toNat:Int)=false):Ba s=false:=by
  unfold Ba
  by_cases h0:k=0
  · subst h0
    have h1:Cq (s[0].toNat:Int)=false:=by simpa [Fa] using h
    rw [CSA hk]
    simp [h1]
  · rw [CX (bs s) Jp k (by rw [GY];exact hk) (by
      rw [M8 s k hk]
      simp only [Fa,Bool.or_eq_false_iff,Bool.and_eq_false_iff,decide_eq_false_iff_not] at h
      obtain ⟨h1,h2|⟨h2,h3⟩⟩:=h
      · exact absurd h0 Dj
      · simp only [Jp,h1,Bool.false_or,Bool.or_eq_false_iff,decide_eq_false_iff_not]
        exact ⟨h2,h3⟩)]
    simp

theorem Wi(s:BA)(hs:s.size<=4294967296)(w:World):Cl 47 #[.string s] w (SameB w (Ca s)):=by
  go_enter func47,ntmps47
  go_wp2
  go_loop [3] (λi=>∃ k:Nat,k<=s.size/\i=.I k/\∀ j (h:j<s.size),j<k->C4 (s[j].toNat:Int)=true) (λi=>s.size-(intOf i).toNat)
  case atStart=>exact ⟨0,AN,rfl,AK⟩
  case round =>
    exact Uu

theorem Po(h:qP:=by
  have HF:=Hd (EIA hlt hn)
  first
  |(exfalso;simp only [Fa,Cq,Bool.or_eq_false_iff,Bool.and_eq_false_iff,decide_eq_false_iff_not] at hn;omega)
  | (clear hn
     go_wp2
     all_goals first | (go_ret;exact ⟨by rw [HF.o];rfl,rfl⟩) | (rename_i hx;exfalso;simp at hx;omega))):qP:=h
theorem AOA(h:qP:=by
  refine ⟨0+1,by omega,by go_num,λj h hj => ?_⟩
  by_cases hjk:j=0
  · subst hjk
    exact HN.o
  · exact HA.o j h (by omega)):qP:=h
theorem ZZ(h:qP:=by
  have HN:=Hd hn
  first
  |(exfalso;simp only [Fa,Cq,Bool.or_eq_true,Bool.and_eq_true,decide_eq_true_iff] at hn;omega)
  | (clear hn
     go_wp2
     go_round
     case rel =>
       exact AOA
     case measure=>simp [intOf];omega)):qP:=h
theorem ANA(h:qP:=by
  subst hz
  rcases hc with h1|⟨h1,h2⟩|⟨h1,h2⟩|⟨h1,h2⟩|⟨h1,h2⟩|h1|h1|⟨h1,h2⟩|h1
  all_goals
    first|have a1:97<=(s[0].toNat:Int):=by omega|have a1:¬97<=(s[0].toNat:Int):=by omega
    first|have a2:(s[0].toNat:Int)<=122:=by omega|have a2:¬(s[0].toNat:Int)<=122:=by omega
    first|have a3:65<=(s[0].toNat:Int):=by omega|have a3:¬65<=(s[0].toNat:Int):=by omega
    first|have a4:(s[0].toNat:Int)<=90:=by omega|have a4:¬(s[0].toNat:Int)<=90:=by omega
    first|have a5:(s[0].toNat:Int)=95:=by omega|have a5:¬(s[0].toNat:Int)=95:=by omega
    first|have a6:(s[0].toNat:Int)<48:=by omega|have a6:¬(s[0].toNat:Int)<48:=by omega
    first|have a7:57<(s[0].toNat:Int):=by omega|have a7:¬57<(s[0].toNat:Int):=by omega
    cases hn:Fa 0 (s[0].toNat:Int)
    · exact Po
    · exact ZZ):qP:=h
theorem A2A(h:qP:=by
  refine ⟨k+1,by omega,by go_num,λj h hj => ?_⟩
  by_cases hjk:j=k
  · subst hjk
    exact HN.o
  · exact HA.o j h (by omega)):qP:=h
theorem ABA(h:qP:=by
  have HN:=Hd hn
  first
  |(exfalso;simp only [Fa,Cq,Bool.or_eq_true,Bool.and_eq_true,decide_eq_true_iff] at hn;omega)
  | (clear hn
     go_wp2
     go_round
     case rel =>
       exact A2A
     case measure=>simp [intOf];omega)):qP:=h
theorem BLA(h:qP:=by
  rcases hc with h1|⟨h1,h2⟩|⟨h1,h2⟩|⟨h1,h2⟩|⟨h1,h2⟩|h1|h1|⟨h1,h2⟩|h1
  all_goals
    first|have a1:97<=(s[k].toNat:Int):=by omega|have a1:¬97<=(s[k].toNat:Int):=by omega
    first|have a2:(s[k].toNat:Int)<=122:=by omega|have a2:¬(s[k].toNat:Int)<=122:=by omega
    first|have a3:65<=(s[k].toNat:Int):=by omega|have a3:¬65<=(s[k].toNat:Int):=by omega
    first|have a4:(s[k].toNat:Int)<=90:=by omega|have a4:¬(s[k].toNat:Int)<=90:=by omega
    first|have a5:(s[k].toNat:Int)=95:=by omega|have a5:¬(s[k].toNat:Int)=95:=by omega
    first|have a6:(s[k].toNat:Int)<48:=by omega|have a6:¬(s[k].toNat:Int)<48:=by omega
    first|have a7:57<(s[k].toNat:Int):=by omega|have a7:¬57<(s[k].toNat:Int):=by omega
    cases hn:Fa k (s[k].toNat:Int)
    · exact Po
    · exact ABA):qP:=h
theorem Pj(h:qP:=by
  have hc:(s[k].toNat:Int)<48\/(48<=(s[k].toNat:Int)/\(s[k].toNat:Int)<=57)\/(57<(s[k].toNat:Int)/\(s[k].toNat:Int)<65)\/(65<=(s[k].toNat:Int)/\(s[k].toNat:Int)<=90)\/(90<(s[k].toNat:Int)/\(s[k].toNat:Int)<95)\/(s[k].toNat:Int)=95\/(s[k].toNat:Int)=96\/(97<=(s[k].toNat:Int)/\(s[k].toNat:Int)<=122)\/122<(s[k].toNat:Int):=by omega
  by_cases hz:k=0
  · exact ANA
  · exact BLA):qP:=h
theorem YP(s:BA)(hs:s.size<=4294967296)(w:World):Cl 113 #[.string s] w (SameB w (Ba s)):=by
  go_enter func113,ntmps113
  go_wp2
  go_loop [3] (λi=>∃ k:Nat,k<=s.size/\i=.I k/\∀ j (h:j<s.size),j<k->Fa j (s[j].toNat:Int)=true) (λi=>s.size-(intOf i).toNat)
  case atStart=>exact ⟨0,AN,rfl,AK⟩
  case round =>
    obtain ⟨k,hk,rfl,hall⟩:=hrel
    have HA:=Hd hall
    clear hall
    by_cases hlt:k<s.size
    · exact Pj
    · have HF:=Hd (WQ (s:=s) (λj h=>HA.o j h AA))
      by_cases h0:s.size=0
      · have O:¬1<=(s.size:Int):=AA
        exact PS
      · have O:1<=(s.size:Int):=AA
        go_wp2
        go_ret
        refine ⟨?_,rfl⟩
        rw [HF.o,show decide (1<=s.size/\s.size<=20)=decide ((s.size:Int)<=20) from by rw [decide_eq_decide];omega]
        rfl

def nvl(l:List UInt8):Nat:=l.foldl (λa b=>a*256+b.toNat) 0
def AO(s:BA):Nat:=nvl s.data.toList
def V7(s:BA):Prop:=s.data.toList.head?≠some 0
theorem Mk(l:List UInt8)(b:UInt8):nvl (l++[b])=nvl l*256+b.toNat:=by simp [nvl,List.foldl_append]
theorem YS(l:List UInt8)(a:Nat):l.foldl (λa b=>a*256+b.toNat) a=a*256^l.length+nvl l:=by
 induction l generalizing a with
 |nil=>simp [nvl]
 |cons b l ih =>
  simp only [List.foldl_cons,nvl,List.length_cons];rw [ih,ih (0*256+b.toNat)];rw [Nat.pow_succ,Nat.zero_mul,Nat.zero_add];have:(a*256+b.toNat)*256^l.length=a*(256^l.length*256)+b.toNat*256^l.length:=by
   rw [Nat.add_mul,Nat.mul_assoc,Nat.mul_comm 256]
  omega
theorem GR(b:UInt8)(l:List UInt8):nvl (b::l)=b.toNat*256^l.length+nvl l:=by
 have:=YS l (0*256+b.toNat)
 simpa [nvl] using this
theorem Io:∀ l:List UInt8,nvl l<256^l.length
 |[]=>by simp [nvl]
 |b::l=>by
  rw [GR,List.length_cons,Nat.pow_succ];have h1:=Io l;have h2:b.toNat<256:=b.toNat_lt;have h3:b.toNat*256^l.length<=255*256^l.length:=Nat.mul_le_mul_right _ AA;omega
theorem Wh:∀ (k:Nat) (l:List UInt8),(∀ j (h:j<l.length),j<k->l[j]=0)->nvl l=nvl (l.drop k)
 |0,l,_=>rfl
 |k+1,[],_=>by simp
 |k+1,b::l,h=>by
  have h0:b=0:=h 0 AC AA;subst h0;rw [GR,List.drop_succ_cons];have:=Wh k l λj hj hk=>h (j+1) ET AA;rw [<-this];simp
theorem E1A(b:UInt8)(l:List UInt8)(h:b≠0):256^l.length<=nvl (b::l):=by
 rw [GR];have h1:1<=b.toNat:=by
  rcases Nat.eq_zero_or_pos b.toNat with h0|h0
  ·exact absurd (UInt8.toNat_inj.1 (by simpa using h0)) h
  ·exact h0
 have:=Nat.mul_le_mul_right (256^l.length) h1;omega
theorem Ep{s:BA}(h:V7 s){k:Nat} : s.size<=k↔AO s<256^k:=by
 have hsz:s.size=s.data.toList.length:=AC;unfold V7 at h;unfold AO;rw [hsz];generalize s.data.toList=l at *;constructor
 ·intro hk;exact Nat.lt_of_lt_of_le (Io l) (Nat.pow_le_pow_right AA hk)
 ·intro hk;cases l with
  |nil=>simp
  |cons b l =>
   have h0:b≠0:=BU;have h1:=E1A b l h0;have h2:256^l.length<256^k:=Nat.lt_of_le_of_lt h1 hk;have:=(Nat.pow_lt_pow_iff_right (a:=256) AA).1 h2;simp;omega
theorem If{s:BA}(h:V7 s):s.size=0↔AO s=0:=by
 have:=Ep h (k:=0);rw [Nat.pow_zero] at this;omega
theorem Eo(s:BA)(k:Nat)(h:k<s.size):s.data.toList[k]'(by simpa using h)=s[k]:=by simp;rfl

def GwA(w:World)(s:BA)(e:Ending)(J:World):Prop:=e=.returned (.string s)/\w=J
def FoA(s:BA)(k:Nat):Prop:=∀ j (h:j<s.size),j<k->s[j]=0
theorem Yp{s:BA}{k:Nat}(_hk:k<=s.size)(hz:FoA s k)(hn:∀ h:k<s.size,s[k]≠0):AO (s.extract k s.size)=AO s/\V7 (s.extract k s.size)/\(s.extract k s.size).size<=s.size:=by
 have he:(s.extract k s.size).data.toList=s.data.toList.drop k:=by
  simp [ByteArray.data_extract];exact List.take_of_length_le AC
 refine ⟨?_,?_,AC⟩
 ·unfold AO;rw [he];exact (Wh k _ λj h hj=>by rw [Eo s j BU];exact hz j BU hj).symm
 ·unfold V7;rw [he,List.head?_drop]
  rcases Nat.lt_or_ge k s.size with h|h
  ·rw [List.getElem?_eq_getElem BU,Eo s k h];intro hh;exact hn h (Option.some.inj hh)
  ·rw [List.getElem?_eq_none BU];simp

theorem DJ(s:BA)(hs:s.size<=4294967296)(w:World):Cl 245 #[.string s] w (λe J=>∃ r,GwA w r e J/\AO r=AO s/\V7 r/\r.size<=s.size):=by
 go_enter func245,ntmps245
 go_wp2
 go_loop [3] (λi=>∃ k:Nat,k<=s.size/\i=.I k/\FoA s k) (λi=>s.size-(intOf i).toNat)
 case atStart=>exact ⟨0,AN,rfl,λ_ _ h=>AA⟩
 case round =>
  obtain ⟨k,hk,rfl,hz⟩:=hrel;have HZ:=Hd hz;clear hz;by_cases hlt:k<s.size
  ·by_cases h0:s[k]=0
   ·have U:((s[k].toNat:Int)==0)=true:=(by simp [h0]);have O:=Hd h0;clear h0;go_wp2
    go_round
    case rel =>
     refine ⟨k+1,AA,AE,λj h hj => ?_⟩;by_cases hjk:j=k
     ·subst hjk;exact O.o
     ·exact HZ.o j h AA
    case measure=>simp [intOf];omega
   ·have U:((s[k].toNat:Int)==0)=false:=by
     have:s[k].toNat≠0:=λe=>h0 (UInt8.toNat_inj.1 (by simpa using e));simp;omega
    have O:=Hd (Yp hk HZ.o λ_=>h0);clear h0;go_wp2;go_ret;exact ⟨_,⟨rfl,rfl⟩,O.o⟩
  ·have O:=Hd (Yp hk HZ.o λh=>absurd h hlt);go_wp2;go_ret;exact ⟨_,⟨rfl,rfl⟩,O.o⟩

theorem Xb(l m:List UInt8):nvl (l++m)=nvl l*256^m.length+nvl m:=by
 have:=YS m (nvl l);rw [<-this];simp [nvl,List.foldl_append]
theorem YF(l:List UInt8)(k:Nat):nvl (l.take k)<=nvl l:=by
 have h:=Xb (l.take k) (l.drop k);rw [List.take_append_drop] at h;have:1<=256^(l.drop k).length:=Nat.one_le_pow _ _ AA;have:=Nat.mul_le_mul_left (nvl (l.take k)) this;omega
theorem Vj(s:BA)(k:Nat)(h:k<s.size):nvl (s.data.toList.take (k+1))=nvl (s.data.toList.take k)*256+s[k].toNat:=by
 rw [List.take_succ_eq_append_getElem BU,Mk,Eo s k h]
theorem Wd{s:BA}(h:s.size=8):AO s<9223372036854775808↔s[0].toNat<=127:=by
 have h0:s.data.toList.head?=some s[0]:=(by rw [List.head?_eq_getElem?,List.getElem?_eq_getElem AI,Eo s 0 AA]);have hl:s.data.toList.length=8:=BU;unfold AO;generalize s.data.toList=l at *;cases l with
 |nil=>simp at hl
 |cons b l =>
  have hb:b=s[0]:=(by simpa using h0);rw [<-hb,GR];have O:l.length=7:=GJ;have:=Io l;rw [O] at *;omega
def JY(s:BA):Ending:=.returned (.tuple #[.I (if AO s<9223372036854775808 then (AO s:Int) else 0),.bool (decide (AO s<9223372036854775808))])

theorem AMA(h:qP:=by
 have h1:=HGO.o k hlt;have h2:=Vj r k hlt;have HS:=Hd h2;obtain ⟨n,hn⟩:=eqx (nvl (r.data.toList.take k));rw [<-hn] at HS h2|-;rw [h2] at h1;clear h2;go_wp2
 go_round
 case rel=>exact ⟨k+1,by omega,by go_num,by rw [HS.o];go_num⟩
 case measure=>simp [intOf];omega):qP:=h
theorem BRA(h:qP:=by
 have hf:nvl (r.data.toList.take k)=AO r:=(by rw [List.take_of_length_le (by simp;omega)];rfl);rw [hf];go_wp2;refine bodyPost_ret (v:=.tuple #[.I (AO r:Int),.bool true]) (by simp [results,results239,go_sem]) rfl ⟨HB.o.symm,rfl⟩):qP:=h
theorem AbA(h:qP:=by
 obtain ⟨k,hk,rfl,rfl⟩:=hrel;by_cases hlt:k<r.size
 ·exact AMA
 ·exact BRA):qP:=h
theorem PY(h:qP:=by
 go_wp2
 go_loop [4,5] (λn i=>∃ k:Nat,k<=r.size/\i=.I k/\n=.I (nvl (r.data.toList.take k):Int)) (λn i=>r.size-(intOf i).toNat)
 case atStart=>exact ⟨0,AN,rfl,rfl⟩
 case round =>
  exact AbA):qP:=h
theorem TU(h:qP:=by
 clear h8 hb;go_wp2;refine bodyPost_ret (v:=.tuple #[.I 0,.bool false]) (by simp [results,results239,go_sem]) rfl ⟨HB.o.symm,rfl⟩):qP:=h
theorem De(h:qP:=by simp [he]):qP:=h
theorem XS(s:BA)(hs:s.size<=4294967296)(w:World):Cl 239 #[.string s] w (λe J=>e=JY s/\w=J):=by
 go_enter func239,ntmps239
 go_wp2_with fail
 refine (DJ s hs _).mono ?_;rintro e1 w1 ⟨r,⟨rfl,rfl⟩,hv,hc,hsz⟩;have HR:=Hd (show JY r=JY s by unfold JY;rw [hv]);have h8:=Ep hc (k:=8);rw [show (256:Nat)^8=18446744073709551616 by decide] at h8;have hr:r.size<=4294967296:=AA;have HC:=Hd hc;clear hv hsz hc;by_cases hb:AO r<9223372036854775808
 ·have HB:=Hd (show JY s=.returned (.tuple #[.I (AO r:Int),.bool true]) by rw [<-HR.o];simp [JY,hb]);have Z:r.size<=8:=h8.2 AA;have Y:¬(8:Int)<(r.size:Int):=AA;have HN:=Hd hb;have O:∀ k,k<r.size->nvl (r.data.toList.take (k+1))<9223372036854775808:=λk _=>Nat.lt_of_le_of_lt (YF _ _) hb;have HGO:=Hd O;by_cases he:r.size=8
  ·have e8:((r.size:Int)==8)=true:=De;have h0:=(Wd he).1 hb;have p0:0<r.size:=AA;have U:¬(127:Int)<(r[0].toNat:Int):=AA;clear h8 hb O h0;exact PY
  ·have e8:((r.size:Int)==8)=false:=AI;clear h8 hb O;exact PY
 ·have HB:=Hd (show JY s=.returned (.tuple #[.I 0,.bool false]) by rw [<-HR.o];simp [JY,hb]);by_cases h9:8<r.size
  ·have Y:(8:Int)<(r.size:Int):=AA;exact TU
  ·have Y:¬(8:Int)<(r.size:Int):=AA;have he:r.size=8:=by
    rcases Nat.lt_or_ge r.size 8 with h|h
    ·have:=(Ep HC.o (k:=7)).1 AA;rw [show (256:Nat)^7=72057594037927936 by decide] at this;omega
    ·omega
   have e8:((r.size:Int)==8)=true:=De;have p0:0<r.size:=AA;have U:(127:Int)<(r[0].toNat:Int):=by
    have:=Wd he;omega
   exact TU

def Gb(s:BA)(k:Nat):Ending:=.returned (.tuple #[.I (if AO s<256^k then (AO s:Int) else 0),.bool (decide (AO s<256^k))])
theorem DH(s:BA)(hs:s.size<=4294967296)(k:Nat)(hk:k<=7)(w:World):Cl 242 #[.string s,.I (k:Int)] w (λe J=>e=Gb s k/\w=J):=by
 go_enter func242,ntmps242
 go_wp2_with fail
 refine (DJ s hs _).mono ?_;rintro e1 w1 ⟨r,⟨rfl,rfl⟩,hv,hc,hsz⟩;have hk8:=Ep hc (k:=k);rw [hv] at hk8;by_cases hb:r.size<=k
 ·have O:¬(k:Int)<(r.size:Int):=AA;have hb2:=hk8.1 hb;have h63:AO s<9223372036854775808:=by
   refine Nat.lt_of_lt_of_le hb2 (Nat.le_trans (Nat.pow_le_pow_right AA hk) ?_)
   decide
  have HB:=Hd (show Gb s k=JY s by simp [Gb,JY,hb2,h63]);have HI:=Hd (show JY s=.returned (.tuple #[.I (AO s:Int),.bool true]) by simp [JY,h63]);clear hk8 hb2 h63 hv hc
  go_wp2_with fail
  refine (XS s hs _).mono ?_;rintro e1 w1 ⟨he,rfl⟩;rw [HI.o] at he;subst he;go_wp2;refine bodyPost_ret (v:=.tuple #[.I (AO s:Int),.bool true]) (by simp [results,results242,go_sem]) rfl ⟨by rw [HB.o,HI.o],rfl⟩
 ·have O:(k:Int)<(r.size:Int):=AA;have HB:=Hd (show Gb s k=.returned (.tuple #[.I 0,.bool false]) by
   have:¬AO s<256^k:=λh=>hb (hk8.2 h);simp [Gb,this])
  clear hk8 hv hc;go_wp2;refine bodyPost_ret (v:=.tuple #[.I 0,.bool false]) (by simp [results,results242,go_sem]) rfl ⟨HB.o.symm,rfl⟩

theorem GDA:(prog.info? 5).map (λi=>(i.zero,i.size,i.bytes))=some (some (.int .u8 0),1,1):=by kernel_rfl
theorem GUA:TI prog 68 5 1 1:=IKA underlying68 GDA rfl AB
def ofL(n j:Nat):List Int:=(List.range j).map λi=>((n / 2^(56-8*i) % 256:Nat):Int)
theorem Mz(n j:Nat):(ofL n j).length=j:=by simp [ofL]
theorem Ys(n j:Nat):ofL n (j+1)=ofL n j++[((n / 2^(56-8*j) % 256:Nat):Int)]:=by simp [ofL,List.range_succ]
theorem WX(n:Nat):∀ j,j<=8->AO (strOfNums (ofL n j))=n / 2^(64-8*j) % 256^j
 |0,_=>by simp [AO,strOfNums,ofL,nvl,Nat.mod_one]
 |j+1,h=>by
  have ih:=WX n j AA;unfold AO at ih|-;rw [strOfNums_data] at ih|-;rw [Ys,List.map_append,List.map_cons,List.map_nil,Mk,ih];have h1:(UInt8.ofNat ((n / 2^(56-8*j) % 256:Nat):Int).toNat).toNat=n / 2^(56-8*j) % 256:=by
   rw [Int.toNat_natCast,UInt8.toNat_ofNat'];omega
  rw [h1,show 64-8*(j+1)=56-8*j by omega];have h2:2^(64-8*j)=2^(56-8*j)*256:=by
   rw [show 64-8*j=(56-8*j)+8 by omega,Nat.pow_add]
  rw [h2,<-Nat.div_div_eq_div_mul,Nat.pow_succ];generalize n / 2^(56-8*j)=m;rw [Nat.mul_comm (256^j) 256,Nat.mod_mul];omega
theorem FOA(n:Nat)(h:n<18446744073709551616):AO (strOfNums (ofL n 8))=n:=by
 rw [WX n 8 AA];simp;omega
def Ng(w:World)(n:Nat)(e:Ending)(J:World):Prop:=∃ r,e=.returned (.string r)/\AO r=n/\V7 r/\r.size<=4294967296/\Ext w J

theorem Ly(h:qP:=by
 injection hA with hA;injection hA with h1 h2;subst h1 h2;exact hc):qP:=h
theorem GU(h:qP:=by injection hv with h1 _ h2;exact ⟨h1,h2⟩):qP:=h
theorem Zy(n:Nat)(h0:0<n)(hn:n<=9223372036854775807)(w:World):Cl 238 #[.I (n:Int)] w (Ng w n):=by
 have hp:(0:Int)<(n:Int):=AA
 go_enter func238,ntmps238
 go_wp2
 go_loopw [3,4] (λb i wr=>∃ (j:Nat) (A:OA) (c:Nat),j<=8/\i=.I (56-8*(j:Int))/\b=.slice A j c/\Ext w wr/\Own wr w.heap.size 5 1 A j c ((ofL n j).map (Value.int .u8))) (λ_ i _=>(intOf i+8).toNat)
 case atStart=>exact ⟨0,none,0,AA,rfl,rfl,Ext.refl _,Own.nil _ _ _ _⟩
 case round =>
  obtain ⟨j,A,c,hj,rfl,rfl,hext,hown⟩:=hrel;have HE:=Hd hext;have HOWN:=Hd hown;by_cases hlt:j<8
  ·obtain ⟨m,hm⟩:∃ m:Nat,m=56-8*j:=⟨_,rfl⟩;have Z:56-8*(j:Int)=(m:Int):=AA;have b0:(m:Int)<=64:=AA;have b3:(0:Int)<=(m:Int):=AA;rw [Z];have hby:(n:Int) / 2^m % 256=((n / 2^(56-8*j) % 256:Nat):Int):=(by rw [<-hm];simp);have HBY:=Hd hby;have HM:=Hd hm;have O:=hown.ext ((Ext.refl wr).alloc (.cells #[.int .u8 ((n:Int) / 2^m % 256)] 5));have Y:=Hd O;have hsz:=hext.size;clear hext hown O hby hm Z
   go_wp2_with (at_builtin;go_must (refine AL rfl (.tmp 13) (.tmp 18) rfl GUA rfl Y.o rfl (Blk.rd (Blk.new _ _ _)) rfl AP AA AB AI ?_);intro A4 c4 w4 hown4 hg4 hat4)
   go_roundw
   case rel =>
    refine ⟨j+1,A4,c4,AA,by have:=HM.o;go_num,rfl,?_,?_⟩
    ·exact (HE.o.alloc _).grown hg4 λk hk=>(Y.o.blk hk).1
    ·rw [Ys,List.map_append,<-HBY.o];exact hown4
   case measure=>have:=HM.o;simp [intOf];omega
  ·obtain rfl:j=8:=AA
   rcases hown.2 with ⟨hv,b4⟩|⟨g,cap,cur,hv,hb,hh,a9,a8,hcs,ht⟩
   ·omega
   obtain ⟨rfl,rfl⟩:A=some ⟨g,0,none⟩/\c=cap:=GU;have b5:=run_convert_bytes_arg (P:=prog) wr 68 5 underlying68 underlying5 g 0 8 c (ofL n 8) (Mz _ _) (λi hi=>by
    obtain ⟨b,o,hA,-,hc⟩:=(Own.rd hown).at_ (k:=i) (u:=.int .u8 ((ofL n 8).getD i 0)) (by
     rw [List.getElem?_map,List.getElem?_eq_getElem (by rw [Mz];exact hi)];simp [List.getD,List.getElem?_eq_getElem (show i<(ofL n 8).length by rw [Mz];exact hi)])
    exact Ly) 157 underlying157
   have U:(56-8*((8:Nat):Int))=-8:=AA;rw [U];clear hown hext hv hb hh a9 a8 hcs ht U
   go_wp2_with fail
   refine (DJ (strOfNums (ofL n 8)) (by rw [strOfNums_size,Mz];omega) _).mono ?_;rintro e1 w1 ⟨r,⟨rfl,rfl⟩,hv,hc,hsz⟩;have HV:=Hd (hv.trans (FOA n AA));have HC:=Hd hc;rw [strOfNums_size,Mz] at hsz;clear hv hc;go_wp2;go_ret;exact ⟨r,rfl,HV.o,HC.o,AA,HE.o⟩
theorem X3(w:World):Cl 238 #[.I 0] w (Ng w 0):=by
 have O:=run_convert_bytes_nil (P:=prog) w 68 5 underlying68 underlying5 0 0 157 underlying157
 go_enter func238,ntmps238
 go_wp2
 go_loop [3,4] (λb i=>b=.slice none 0 0/\i=.I 56) (λ_ _=>0)
 case atStart=>exact ⟨rfl,rfl⟩
 case round =>
  obtain ⟨rfl,rfl⟩:=hrel
  go_wp2_with fail
  refine (DJ ByteArray.empty AC _).mono ?_;rintro e1 w1 ⟨r,⟨rfl,rfl⟩,hv,hc,hsz⟩;go_wp2;go_ret;exact ⟨r,rfl,hv,hc,by have:ByteArray.empty.size=0:=rfl;omega,Ext.refl _⟩
theorem Hj(n:Nat)(hn:n<=9223372036854775807)(w:World):Cl 238 #[.I (n:Int)] w (Ng w n):=by
 rcases Nat.eq_zero_or_pos n with h|h
 ·subst h;exact X3 w
 ·exact Zy n h hn w

theorem GD{s:BA}{k:Nat}(h:AO s<256^k):Gb s k=.returned (.tuple #[.I (AO s:Int),.bool true]):=by simp [Gb,h]
theorem KJ(a b:BA)(ha:a.size<=4294967296)(hb:b.size<=4294967296)(ha7:AO a<256^7)(hb7:AO b<256^7)(w:World):Cl 208 #[.string a,.string b] w (Ng w (AO a+AO b)):=by
 have e7:(256:Nat)^7=72057594037927936:=AB;have HA:=Hd (GD ha7);have HB:=Hd (GD hb7);rw [e7] at ha7 hb7;clear e7
 go_enter func208,ntmps208
 go_wp2_with fail
 refine (DH a ha 7 AA _).mono ?_;rintro e1 w1 ⟨he,rfl⟩;rw [HA.o] at he;subst he
 go_wp2_with fail
 refine (DH b hb 7 AA _).mono ?_;rintro e1 w1 ⟨he,rfl⟩;rw [HB.o] at he;subst he
 go_wp2_with fail
 have:=Hj (AO a+AO b) AA w;rw [Int.natCast_add] at this;refine this.mono ?_;rintro e1 w1 ⟨r,rfl,h1,h2,h3,h4⟩;obtain ⟨H1,H2,O⟩:=Hd3 h1 h2 h4;clear h1 h2 h4 this;go_wp2;go_ret;exact ⟨r,rfl,H1.o,H2.o,h3,O.o⟩
theorem Nt(n:Int)(h1:-72057594037927936<=n)(h2:n<=72057594037927936)(w:World):Cl 206 #[.I n] w (Ng w n.natAbs):=by
 by_cases h0:0<=n
 ·obtain ⟨m,rfl⟩:∃ m:Nat,n=(m:Int):=⟨n.toNat,AA⟩
  go_enter func206,ntmps206
  go_wp2_with fail
  refine (Hj m AA _).mono ?_;rintro e1 w1 ⟨r,rfl,g1,g2,g3,O⟩;obtain ⟨H1,H2,Y⟩:=Hd3 g1 g2 O;clear g1 g2 O;go_wp2;go_ret;exact ⟨r,rfl,by rw [H1.o];simp,H2.o,g3,Y.o⟩
 ·obtain ⟨m,hm⟩:∃ m:Nat,-(n+1)=(m:Int):=⟨(-(n+1)).toNat,AA⟩;have HM:=Hd (show m+1=n.natAbs by omega);have hneg:¬(0:Int)<=n:=h0
  go_enter func206,ntmps206
  go_wp2_with fail
  refine (Hj m AA _).mono ?_;rintro e1 w1 ⟨r,rfl,g1,g2,g3,O⟩;have H1:=Hd g1;have Y:=Hd O;clear g1 g2 O
  go_wp2_with fail
  refine (Hj 1 AA _).mono ?_;rintro e1 w2 ⟨r2,rfl,g1,g2,Z,O⟩;have U:=Hd g1;have a8:=Hd O;clear g1 g2 O
  go_wp2_with fail
  have e7:(256:Nat)^7=72057594037927936:=AB;refine (KJ r r2 g3 Z (by rw [H1.o,e7];omega) (by rw [U.out,e7];omega) _).mono ?_;rintro e1 w3 ⟨r3,rfl,k1,k2,k3,k4⟩;obtain ⟨K1,K2,K4⟩:=Hd3 k1 k2 k4;clear k1 k2 k4;go_wp2;go_ret;exact ⟨r3,rfl,by rw [K1.o,H1.o,U.out];exact HM.o,K2.o,k3,Y.o.trans (a8.out.trans K4.o)⟩
