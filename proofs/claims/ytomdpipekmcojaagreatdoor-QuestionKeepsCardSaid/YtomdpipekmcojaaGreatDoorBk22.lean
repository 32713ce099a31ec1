/- The reference's Make. Conditions: the answers read as data, and hold no tables. -/
import Derived.Test.YtomdpipekmcojaaGreatDoorBk21
import Derived.Laws.EntriesVeiled
namespace Go.Proofs.YtomdpipekmcojaaGreatDoor
open Go Go.RowKit

/- The law QuestionMakes: plans are those of the reference, and are accepted. Conditions: the numbers read as data. -/

theorem makeF_low {l:List (List Val)} {h:Int} : (makeF l h).2.2≤(makeF l h).2.1:=by
 unfold makeF;split
 ·exact low_le l
 ·exact Nat.le_refl _
/- A copy of questions, the lists of one of them apart. No conditions. -/

theorem RV.flatS {w:World} {S T:Nat→Prop} {x:Val} {A B:Option Addr} : ∀ {d:Nat},RV w S d x A B→x.cols=[]→x.rows=[]→RV w T d x A B
 | 0,h,h1,h2=>by
  refine ⟨h.1,?_,?_⟩
  ·rw [h1]; exact ⟨Rd.nil,by simp,by simp⟩
  ·rw [h2]; exact ⟨by simp,[],Rd.nil,rfl,by simp⟩
 | d+1,h,h1,h2=>by
  refine ⟨h.1,?_,?_⟩
  ·rw [h1]; exact ⟨Rd.nil,by simp,by simp⟩
  ·rw [h2]; exact ⟨by simp,[],Rd.nil,rfl,by simp⟩
def Plain (l:List Val):Prop:=∀ y∈l,y.cols=[]∧y.rows=[]
theorem OwnVs.flatF {w:World} {base d c:Nat} {X:Nat→Prop} {A:Option Addr} {l:List Val} (h:OwnVs w base X d A c l) (hp:Plain l):OwnVs w base FF d A c l:=by
 obtain ⟨xs,h1,h2⟩:=h;refine ⟨xs,h1,h2.1,fun j y hj => ?_⟩;obtain ⟨A',c',B',e',g1,g2,g3⟩:=h2.2 j y hj;have:=hp y (List.mem_of_getElem? hj);exact ⟨A',c',B',e',g1,g2,g3.flatS this.1 this.2⟩
def set7 (w:World) (g j:Nat) (x:Val) (A1:Option Addr) (c1:Nat) (B1:Option Addr) (e1:Nat):World :=
 ((((((w.setCell ⟨g,j*7,none⟩ (.int .i64 x.kind)).setCell ⟨g,j*7+1,none⟩ (.string x.s)).setCell ⟨g,j*7+2,none⟩ (.int .i64 x.dn)).setCell ⟨g,j*7+3,none⟩ (.int .i64 x.ds)).setCell ⟨g,j*7+4,none⟩ (.int .i64 x.n)).setCell ⟨g,j*7+5,none⟩ (.slice A1 x.cols.length c1)).setCell ⟨g,j*7+6,none⟩ (.slice B1 x.rows.length e1)
structure CpK (w:World) (base d k:Nat) (Y:List AskD) (A:Option Addr) (c:Nat) (B:Option Addr) (e:Nat) (C:Option Addr) (f:Nat) (xs:List Value):Prop where
 own:Own w base 59 3 A Y.length c xs
 oth:∀ j t,j≠k→Y[j]?=some t→CA w (fun b=>base≤b∧ob A≠some b∧ob B≠some b∧ob C≠some b) d t ((xs.drop (j*3)).take 3)
 one:∀ t,Y[k]?=some t→(xs.drop (k*3)).take 3=acells t B e C f∧OwnVs w base FF d B e t.2.1∧OwnIs w base C f t.2.2
 no:Y.length≤k→B=none∧C=none
 nb:∀ b,ob B=some b→base≤b∧b<w.heap.size∧ob A≠some b∧ob C≠some b
 nc:∀ b,ob C=some b→base≤b∧b<w.heap.size∧ob A≠some b
section
variable {w w':World} {base d k:Nat} {Y:List AskD} {A:Option Addr} {c:Nat} {B:Option Addr} {e:Nat} {C:Option Addr} {f:Nat} {xs:List Value}
theorem CpK.nil (w:World) (base d k:Nat):CpK w base d k [] none 0 none 0 none 0 [] :=
 ⟨Own.nil _ _ _ _,by simp,by simp,fun _=>⟨rfl,rfl⟩,fun b h=>by simp [ob] at h,fun b h=>by simp [ob] at h⟩
theorem CpK.keep (h:CpK w base d k Y A c B e C f xs) (hk:Kept (fun b=>base≤b) w w'):CpK w' base d k Y A c B e C f xs:=by
 refine ⟨h.own.keep (hk.mono fun b _ e=>(h.own.blk e).1),fun j t hj ht=>(h.oth j t hj ht).keep (hk.mono fun b _ e=>e.1),fun t ht => ?_,h.no,fun b hb => ?_,fun b hb => ?_⟩
 ·obtain ⟨h1,h2,h3⟩:=h.one t ht;exact ⟨h1,h2.fkeep (hk.mono fun b _ e=>(h2.blk e).1),Own.keep h3 (hk.mono fun b _ e=>(Own.blk h3 e).1)⟩
 ·have:=h.nb b hb; exact ⟨this.1,Nat.lt_of_lt_of_le this.2.1 hk.1,this.2.2⟩
 ·have:=h.nc b hb; exact ⟨this.1,Nat.lt_of_lt_of_le this.2.1 hk.1,this.2.2⟩
theorem CpK.ext (h:CpK w base d k Y A c B e C f xs) (hx:Ext w w'):CpK w' base d k Y A c B e C f xs:=h.keep (hx.kept _)
theorem CpK.len (h:CpK w base d k Y A c B e C f xs):xs.length=Y.length*3:=h.own.1
theorem CpK.push {w9:World} {A':Option Addr} {c':Nat} {t:AskD} {B' C':Option Addr} {e' f':Nat} (h:CpK w base d k Y A c B e C f xs) (hw:Kept (fun b=>base≤b∧ob A≠some b) w w9) (hlo:base≤w.heap.size)
  (hB:OwnVs w9 w.heap.size FF d B' e' t.2.1) (hC:OwnIs w9 w.heap.size C' f' t.2.2) (hl1:t.2.1.length≤4294967296) (hl2:t.2.2.length≤4294967296)
  (hBC:∀ b,ob B'=some b→ob C'≠some b) (hown:Own w9 base 59 3 A' (Y.length+1) c' (xs++acells t B' e' C' f'))
  (hat:∀ b,ob A'=some b→(ob A=some b∨w.heap.size≤b)∧ob B'≠some b∧ob C'≠some b):∃ B2 e2 C2 f2,CpK w9 base d k (Y++[t]) A' c' B2 e2 C2 f2 (xs++acells t B' e' C' f'):=by
 have hxl:=h.len;have hs:=hw.1;have ha:∀ b,ob A=some b→b<w.heap.size:=fun b e=>(h.own.blk e).2;have hb':∀ b,ob B'=some b→w.heap.size≤b∧b<w9.heap.size:=fun b e=>hB.blk e;have hc':∀ b,ob C'=some b→w.heap.size≤b∧b<w9.heap.size:=fun b e=>Own.blk hC e;have hA':∀ b,b<w.heap.size→ob A≠some b→ob A'≠some b:=fun b hb hn e2=>by
  rcases (hat b e2).1 with e3 | e3
  ·exact hn e3
  ·omega
 have old:∀ (j:Nat) (t':AskD),j<Y.length→(Y++[t])[j]?=some t'→Y[j]?=some t'∧(((xs++acells t B' e' C' f').drop (j*3)).take 3=(xs.drop (j*3)).take 3):=by
  intro j t' hj ht;rw [List.getElem?_append_left hj] at ht;exact ⟨ht,by rw [List.drop_append_of_le_length (by omega),List.take_append_of_le_length (by simp; omega)]⟩
 have new:((xs++acells t B' e' C' f').drop (Y.length*3)).take 3=acells t B' e' C' f':=by
  rw [← hxl,List.drop_left]; rfl
 have hlast:∀ (j:Nat) (t':AskD),¬ j<Y.length→(Y++[t])[j]?=some t'→j=Y.length∧t'=t:=by
  intro j t' hj ht;have hjl:=(List.getElem?_eq_some_iff.1 ht).1;simp at hjl;have hje:j=Y.length:=(by omega);subst hje;simp at ht;exact ⟨rfl,ht.symm⟩
 by_cases hk:k=Y.length
 ·subst hk;obtain ⟨rfl,rfl⟩:=h.no (Nat.le_refl _);refine ⟨B',e',C',f',by rw [List.length_append]; exact hown,fun j t' hj ht => ?_,fun t' ht => ?_,fun hl => ?_,fun b hb => ?_,fun b hb => ?_⟩
  ·by_cases hjl:j<Y.length
   ·obtain ⟨h1,h2⟩:=old j t' hjl ht;rw [h2];refine (((h.oth j t' hj h1).mono (T:=fun b=>(base≤b∧ob A≠some b)∧b<w.heap.size) fun b hb e=>⟨⟨e.1,e.2.1⟩,hb⟩).keep (hw.mono fun b _ e=>e.1)).mono fun b _ e=>⟨e.1.1,hA' b e.2 e.1.2,fun e2 => ?_,fun e2 => ?_⟩
    ·have:=hb' b e2; omega
    ·have:=hc' b e2; omega
   ·exact absurd (hlast j t' hjl ht).1 hj
  ·obtain ⟨-,rfl⟩:=hlast _ _ (Nat.lt_irrefl _) ht;exact ⟨new,hB.lower hlo,Own.lower hC hlo⟩
  ·simp at hl; omega
  ·exact ⟨by have:=(hb' b hb).1; omega,(hb' b hb).2,fun e=>(hat b e).2.1 hb,hBC b hb⟩
  ·exact ⟨by have:=(hc' b hb).1; omega,(hc' b hb).2,fun e=>(hat b e).2.2 hb⟩
 ·refine ⟨B,e,C,f,by rw [List.length_append]; exact hown,fun j t' hj ht => ?_,fun t' ht => ?_,fun hl=>h.no (by simp at hl; omega),fun b hb => ?_,fun b hb => ?_⟩
  ·by_cases hjl:j<Y.length
   ·obtain ⟨h1,h2⟩:=old j t' hjl ht;rw [h2];exact (((h.oth j t' hj h1).mono (T:=fun b=>(base≤b∧ob A≠some b∧ob B≠some b∧ob C≠some b)∧b<w.heap.size) fun b hb e=>⟨e,hb⟩).keep (hw.mono fun b _ e=>⟨e.1.1,e.1.2.1⟩)).mono fun b _ e=>⟨e.1.1,hA' b e.2 e.1.2.1,e.1.2.2⟩
   ·obtain ⟨rfl,rfl⟩:=hlast j t' hjl ht;rw [new];refine ⟨B',e',C',f',rfl,⟨by obtain ⟨_,h1,_⟩:=hB; exact Own.cap h1,by simpa using Own.cap hC⟩,hB.row hl1 (fun b hb=>⟨?_,fun e=>(hat b e).2.1 hb,fun e => ?_,fun e => ?_⟩) fun b hb=>hb.elim,OwnIs.ints hC hl2 fun b hb=>⟨?_,fun e=>(hat b e).2.2 hb,fun e => ?_,fun e => ?_⟩⟩
    ·have:=(hb' b hb).1; omega
    ·have:=(hb' b hb).1; have:=(h.nb b e).2.1; omega
    ·have:=(hb' b hb).1; have:=(h.nc b e).2.1; omega
    ·have:=(hc' b hb).1; omega
    ·have:=(hc' b hb).1; have:=(h.nb b e).2.1; omega
    ·have:=(hc' b hb).1; have:=(h.nc b e).2.1; omega
  ·by_cases hkl:k<Y.length
   ·obtain ⟨h1,h2⟩:=old k t' hkl ht;obtain ⟨g1,g2,g3⟩:=h.one t' h1;exact ⟨by rw [h2]; exact g1,g2.fkeep (hw.mono fun b _ e=>⟨(h.nb b e).1,(h.nb b e).2.2.1⟩),Own.keep g3 (hw.mono fun b _ e=>⟨(h.nc b e).1,(h.nc b e).2.2⟩)⟩
   ·exact absurd (hlast k t' hkl ht).1 hk
  ·obtain ⟨h1,h2,h3,h4⟩:=h.nb b hb;exact ⟨h1,by omega,hA' b h2 h3,h4⟩
  ·obtain ⟨h1,h2,h3⟩:=h.nc b hb;exact ⟨h1,by omega,hA' b h2 h3⟩
theorem CpK.as_ (h:CpK w base d k Y A c B e C f xs) (hl:Y.length≤4294967296) (hl2:∀ t∈Y,t.2.1.length≤4294967296∧t.2.2.length≤4294967296):AS w (fun b=>base≤b) d A Y:=by
 refine ⟨hl,xs,h.own.rd.mono fun b _ e=>(h.own.blk e).1,h.len,fun j t ht => ?_⟩;by_cases hj:j=k
 ·subst hj;obtain ⟨h1,h2,h3⟩:=h.one t ht;have hb:=hl2 t (List.mem_of_getElem? ht);rw [h1];exact ⟨B,e,C,f,rfl,⟨by obtain ⟨_,h1,_⟩:=h2; exact Own.cap h1,by simpa using Own.cap h3⟩,h2.row hb.1 (fun b e=>(h2.blk e).1) fun b e=>e.elim,OwnIs.ints h3 hb.2 fun b e=>(Own.blk h3 e).1⟩
 ·exact (h.oth j t hj ht).mono fun b _ e=>e.1
theorem CpK.lower {base':Nat} (h:CpK w base d k Y A c B e C f xs) (hb:base'≤base):CpK w base' d k Y A c B e C f xs:=by
 refine ⟨h.own.lower hb,fun j t hj ht=>(h.oth j t hj ht).mono fun b _ e=>⟨by omega,e.2⟩,fun t ht => ?_,h.no,fun b e=>⟨by have:=(h.nb b e).1; omega,(h.nb b e).2⟩,fun b e=>⟨by have:=(h.nc b e).1; omega,(h.nc b e).2⟩⟩;obtain ⟨h1,h2,h3⟩:=h.one t ht;exact ⟨h1,h2.lower hb,Own.lower h3 hb⟩
theorem aseg_ne (xs:List Value) (v:Value) {i j t:Nat} (h:i≠j) (ht:t<3):((xs.set (j*3+t) v).drop (i*3)).take 3=(xs.drop (i*3)).take 3:=by
 rw [List.drop_set];split
 ·rfl
 ·rw [List.take_set,List.set_eq_of_length_le (by simp; omega)]
theorem aseg_eq (xs:List Value) (v:Value) (j t:Nat):((xs.set (j*3+t) v).drop (j*3)).take 3=((xs.drop (j*3)).take 3).set t v:=by
 rw [List.drop_set,if_neg (by omega),List.take_set,Nat.add_sub_cancel_left]
theorem CpK.cell {g i:Nat} {u:Value} {t t':AskD} (h:CpK w base d k Y (some ⟨g,0,none⟩) c B e C f xs) (ht:Y[k]?=some t) (hi:i<3) (hl:Y.length≤4294967296) (hl2:∀ t∈Y,t.2.1.length≤4294967296∧t.2.2.length≤4294967296)
  (hc:∃ (B':Option Addr) (e':Nat),(acells t B e C f).set i u=acells t' B' e' C f∧(t'.2.1.length≤e'∧t'.2.2.length≤f)∧Row w (fun b=>base≤b∧b≠g) d B' t'.2.1∧t'.2.2=t.2.2) :
  AS (w.setCell ⟨g,k*3+i,none⟩ u) (fun b=>base≤b) d (some ⟨g,0,none⟩) (Y.set k t'):=by
 have hkl:=(List.getElem?_eq_some_iff.1 ht).1;have ho:=h.own.put (i:=k*3+i) u;have hk:Kept (fun b=>base≤b∧b≠g) w (w.setCell ⟨g,k*3+i,none⟩ u):=Kept.of_set fun e=>e.2 rfl;obtain ⟨B',e',hc1,hc2,hc3,hc4⟩:=hc;refine ⟨by rw [List.length_set]; exact hl,_,ho.rd.mono fun b _ e=>(ho.blk e).1,by simp [h.len],fun j s hs => ?_⟩;by_cases hj:k=j
 ·subst hj;rw [List.getElem?_set_self hkl] at hs;obtain rfl:=Option.some.inj hs;obtain ⟨h1,h2,h3⟩:=h.one t ht;rw [aseg_eq,h1,hc1];have hb:=hl2 t (List.mem_of_getElem? ht);exact ⟨B',e',C,f,rfl,hc2,Row.mono (Row.keep hc3 hk) (fun b _ e=>e.1),by
   rw [hc4];exact (Ints.keep (OwnIs.ints (T:=fun b=>base≤b∧b≠g) h3 hb.2 fun b e=>⟨(Own.blk h3 e).1,fun e2=>by
    subst e2;exact (h.nc b e).2.2 rfl⟩) hk).mono fun b _ e=>e.1⟩
 ·rw [List.getElem?_set_ne hj] at hs;rw [aseg_ne _ _ (Ne.symm hj) hi];exact (((h.oth j s (Ne.symm hj) hs).mono (T:=fun b=>base≤b∧b≠g) fun b _ e=>⟨e.1,fun e2=>e.2.1 (by rw [e2]; rfl)⟩).keep hk).mono fun b _ e=>e.1
end
/- The reference's copy of a plan: its questions are the caller's own. Conditions: the plan reads as data; its values are plain. -/

def CaF2 (W d na nn:Nat) (al:List Val) (nl:List Int) (p v:Value) (γ:Gz) (w':World):Prop :=
 ∃ (Ac:Option Addr) (cc:Nat) (A4:Option Addr) (c4:Nat),p=.slice Ac na cc∧v=.slice A4 nn c4∧γ 1022=true∧OwnVs w' W FF d Ac cc al∧OwnIs w' W A4 c4 nl∧∀ b,ob Ac=some b→ob A4≠some b
def CaF3 (W d na nn:Nat) (ip:Int) (al:List Val) (nl:List Int) (v:Value) (γ:Gz) (w':World):Prop :=
 ∃ (Ac:Option Addr) (cc:Nat) (A4:Option Addr) (c4:Nat),v=.agg #[.int .i64 ip,.slice Ac na cc,.slice A4 nn c4]∧γ 1022=true∧OwnVs w' W FF d Ac cc al∧OwnIs w' W A4 c4 nl∧∀ b,ob Ac=some b→ob A4≠some b
def CaF4 (W d na nn:Nat) (ip:Int) (al:List Val) (nl:List Int) (v:Value) (γ:Gz) (w':World):Prop :=
 ∃ (g:Nat) (Ac:Option Addr) (cc:Nat) (A4:Option Addr) (c4:Nat),v=.slice (some ⟨g,0,none⟩) 1 1∧γ 1022=true∧W≤g∧Blk w' g 59 #[.int .i64 ip,.slice Ac na cc,.slice A4 nn c4]∧OwnVs w' W FF d Ac cc al∧OwnIs w' W A4 c4 nl∧∀ b,ob Ac=some b→ob A4≠some b
def CaF5 (W base d i na nn:Nat) (ip:Int) (al:List Val) (nl:List Int) (A':Option Addr) (xs:List Value) (A5:Option Addr) (c5:Nat) (γ:Gz) (w':World):Prop :=
 ∃ (Ac:Option Addr) (cc:Nat) (A4:Option Addr) (c4:Nat),γ 1022=true∧γ 1025=true∧Own w' base 59 3 A5 (i+1) c5 (xs++[.int .i64 ip,.slice Ac na cc,.slice A4 nn c4])∧OwnVs w' W FF d Ac cc al∧OwnIs w' W A4 c4 nl∧(∀ b,ob Ac=some b→ob A4≠some b)∧∀ b,ob A5=some b→(ob A'=some b∨W≤b)∧ob Ac≠some b∧ob A4≠some b
def CaF7 (W base d i na nn b3:Nat) (ip dp lo:Int) (al:List Val) (nl:List Int) (A':Option Addr) (xs:List Value) (γ:Gz) (w':World):Prop :=
 ∃ (A5:Option Addr) (c5:Nat),γ 1027=true∧CaF5 W base d i na nn ip al nl A' xs A5 c5 γ w'∧Blk w' b3 29 #[.slice A5 (i+1) c5,.int .i64 dp,.int .i64 lo]
theorem Own.type {w:World} {base e sz n c g t:Nat} {xs:List Value} {cs:Array Value} (h:Own w base e sz (some ⟨g,0,none⟩) n c xs) (hb:Blk w g t cs) (ht:e≠t):False:=by
 rcases h.2 with ⟨hv,_⟩ | ⟨g',cap,cur,hv,_,hh,_⟩
 ·cases hv
 ·injection hv with hv1;injection hv1 with hv1;injection hv1 with hv1;subst hv1;unfold Blk at hb;rw [hb] at hh;injection hh with hh;injection hh with _ h2;exact ht h2.symm
theorem ob_some {A:Option Addr} {w:World} {base e sz n c b:Nat} {xs:List Value} (h:Own w base e sz A n c xs) (hb:ob A=some b):A=some ⟨b,0,none⟩:=by
 rcases h.2 with ⟨hv,_⟩ | ⟨g',cap,cur,hv,_⟩
 ·injection hv with hv; rw [hv] at hb; cases hb
 ·injection hv with hv;rw [hv] at hb ⊢;injection hb with hb;rw [show g'=b from hb]
def RetCa (w:World) (d k:Nat) (Y:List AskD) (dp lo:Int) (e:Ending) (w':World):Prop :=
 ∃ (A:Option Addr) (c:Nat) (B:Option Addr) (eB:Nat) (C:Option Addr) (fC:Nat) (xs:List Value),e=.returned (.agg #[.slice A Y.length c,.int .i64 dp,.int .i64 lo])∧CpK w' w.heap.size d k Y A c B eB C fC xs∧Ext w w'
set_option maxRecDepth 100000 in
set_option maxHeartbeats 4000000 in
theorem r25_Copy (d kk:Nat) (Y:List AskD) (A:Option Addr) (c:Nat) (dp lo:Int) (w:World) (S:Nat→Prop) (hY:AS w S d A Y) (hP:∀ t∈Y,Plain t.2.1) :
  Calls Tryz.prog 33 #[.agg #[.slice A Y.length c,.int .i64 dp,.int .i64 lo]] w (RetCa w d kk Y dp lo):=by
 obtain ⟨n,en⟩:∃ n,n=Y.length:=⟨_,rfl⟩;have hYl:=hY.1;obtain ⟨w0,hw0⟩:∃ w0,w0=((w.alloc (.cells #[.slice A n c,.int .i64 dp,.int .i64 lo] 29)).alloc (.cells #[.slice none 0 0,.int .i64 0,.int .i64 0] 29)).alloc (.cells #[.slice none 0 0,.int .i64 dp,.int .i64 lo] 29):=⟨_,rfl⟩;obtain ⟨b1,hb1⟩:∃ b,b=w.heap.size:=⟨_,rfl⟩;obtain ⟨b2,hb2⟩:∃ b,b=w.heap.size+1:=⟨_,rfl⟩;obtain ⟨b3,hb3⟩:∃ b,b=w.heap.size+1+1:=⟨_,rfl⟩;have hx0:Ext w w0:=(by rw [hw0]; exact (((Ext.refl w).alloc _).alloc _).alloc _);have hs0:w0.heap.size=w.heap.size+3:=(by rw [hw0]; simp);have hk1:Blk w0 b1 29 #[.slice A n c,.int .i64 dp,.int .i64 lo]:=(by rw [hw0,hb1]; exact ((Blk.new _ _ _).keep (Kept.alloc _ _ _)).keep (Kept.alloc _ _ _));have hk2:Blk w0 b2 29 #[.slice none 0 0,.int .i64 0,.int .i64 0]:=by
  rw [hw0,hb2];have:=(Blk.new (w.alloc (.cells #[.slice A n c,.int .i64 dp,.int .i64 lo] 29)) 29 #[.slice none 0 0,.int .i64 0,.int .i64 0]).keep (Kept.alloc _ _ (.cells #[.slice none 0 0,.int .i64 dp,.int .i64 lo] 29))
  simpa using this
 have hk3:Blk w0 b3 29 #[.slice none 0 0,.int .i64 dp,.int .i64 lo]:=by
  rw [hw0,hb3];have:=Blk.new ((w.alloc (.cells #[.slice A n c,.int .i64 dp,.int .i64 lo] 29)).alloc (.cells #[.slice none 0 0,.int .i64 0,.int .i64 0] 29)) 29 #[.slice none 0 0,.int .i64 dp,.int .i64 lo]
  simpa using this
 have HY:=Hd hY;have HPL:=Hd hP;have HEN:=Hd en;have HX0:=Hd hx0;have HK1:=Hd hk1;have HK2:=Hd hk2;have HK3:=Hd hk3;have HS0:=Hd hs0;have HB1:=Hd hb1;have HB2:=Hd hb2;have HB3:=Hd hb3;have HW0:=Hd hw0;rw [← en] at hYl ⊢;clear hY hP hx0 hk1 hk2 hk3 hs0 hw0 hb1 hb2 hb3 en
 go_enter Tryz.func33,Tryz.ntmps33
 go_upto_region 2 with fail
 rw [← HW0.o,← HB3.o,← HB2.o,← HB1.o];go_wp2
 go_loopw [4] (fun iv wr=>∃ (i:Nat) (A':Option Addr) (c':Nat) (B:Option Addr) (eB:Nat) (C:Option Addr) (fC:Nat) (xs:List Value),i≤n∧iv=.int .i64 (i:Int)∧Blk wr b3 29 #[.slice A' i c',.int .i64 dp,.int .i64 lo]∧CpK wr w0.heap.size d kk (Y.take i) A' c' B eB C fC xs∧Blk wr b1 29 #[.slice A n c,.int .i64 dp,.int .i64 lo]∧Blk wr b2 29 #[.slice none 0 0,.int .i64 0,.int .i64 0]∧Ext w wr) (fun iv _=>n-(intOf iv).toNat)
 case atStart=>exact ⟨0,none,0,none,0,none,0,[],Nat.zero_le _,rfl,HK3.o,by rw [List.take_zero]; exact CpK.nil _ _ _ _,HK1.o,HK2.o,HX0.o⟩
 case round =>
  obtain ⟨i,A',c',B,eB,C,fC,xs,hi,rfl,hb3,hcp,hb1,hb2,hx⟩:=hrel;obtain ⟨ws,rfl⟩:∃ ws:World,ws=wr:=⟨_,rfl⟩;have HBK:=Hd hb3;have HCP:=Hd hcp;have HBP:=Hd hb1;have HBZ2:=Hd hb2;have HX:=Hd hx;have b1e:=HB1.o;have b2e:=HB2.o;have b3e:=HB3.o;have s0e:=HS0.o;have hLT:=hb3.lt;have qp:=hb1.cell (i:=0) rfl;have zp:=hb1.lt;by_cases hlt:i<n
  ·have his:i<Y.length:=(by rw [← HEN.o]; exact hlt);obtain ⟨bA,oA,Ac0,cc0,Ar,cr,hA,zA,⟨a0,a1,a2⟩,hcaps,hrow,hints⟩:=HY.o.at_ his;subst hA;obtain ⟨tq,etq⟩:∃ tq,tq=Y[i]:=⟨_,rfl⟩;have HTQ:=Hd (show Y.take (i+1)=Y.take i++[tq] by rw [List.take_succ_eq_append_getElem his,← etq]);have hpl:=HPL.o tq (by rw [etq]; exact List.getElem_mem his);rw [← etq] at a0 a1 a2 hrow hints;obtain ⟨ip,eip⟩:∃ x,x=tq.1:=⟨_,rfl⟩;obtain ⟨al,eal⟩:∃ x,x=tq.2.1:=⟨_,rfl⟩;obtain ⟨nl,enl⟩:∃ x,x=tq.2.2:=⟨_,rfl⟩;have HTE:=Hd (show tq=(ip,al,nl) by rw [eip,eal,enl]);rw [← eip] at a0;rw [← eal] at a1 hrow hpl;rw [← enl] at a2 hints;have hal:=Row.len hrow;have hnl:=hints.2;obtain ⟨na,ena⟩:∃ x,x=al.length:=⟨_,rfl⟩;obtain ⟨nn,enn⟩:∃ x,x=nl.length:=⟨_,rfl⟩;have HNA:=Hd ena;have HNN:=Hd enn;rw [← ena] at a1 hal;rw [← enn] at a2 hnl;have HPP:=Hd hpl;have HROW:=Hd (hrow.mono (T:=fun b=>S b∧b<w.heap.size) fun b hb hs=>⟨hs,hb⟩);have HINT:=Hd (Ints.mono hints (T:=fun b=>S b∧b<w.heap.size) fun b hb hs=>⟨hs,hb⟩);have Q0:=Hd (HX.o.cell a0);have Q1:=Hd (HX.o.cell a1);have Q2:=Hd (HX.o.cell a2);have QP:=Hd (hb1.cell (i:=0) rfl);have ZA:=Hd zA;have hown:=hcp.own;rw [List.length_take,Nat.min_eq_left (by omega)] at hown;have HOWN:=Hd hown;have HAL:=Hd (show ∀ b,ob A'=some b→w0.heap.size≤b∧b<ws.heap.size from fun b e=>hown.blk e);have HSZ:=Hd hx.size;have HW0S:=Hd (show w0.heap.size≤ws.heap.size by omega);have HB3L:=Hd (show b3<w0.heap.size by omega);have HB1L:=Hd (show w.heap.size≤b1∧b1<b3 by omega);have HB3W:=Hd (show w.heap.size≤b3 by omega);have i0:(0:Int)≤(i:Int):=(by omega);have i1:(i:Int)<(n:Int):=(by omega);clear his etq hpl eip eal enl ena enn hrow hints hcaps a0 a1 a2 hown b1e b2e b3e s0e hcp
   go_upto_region 5 with fail
   clear qp zp;refine wp_region_chain (by kernel_rfl) (fun | 22=>[14,22] | i=>[i]) (by kernel_rfl) (LZ (fun m b=>(m=1022∧ws.heap.size≤b)∨(m=1025∧ob A'=some b)∨(m=1027∧b=b3))) (LZ.refl _) (LZ.trans _) (LK [(1,[1027]),(22,[1022]),(25,[1025]),(27,[1027])]) gz0 (LK.zero _) ?_;apply Chain.pure (LZ.refl _) (by rfl)
   ·intro vals γ w' ρ hR hN hp hρ hc hf hg;refine ⟨rfl,?_⟩;have e3:=hρ 3;(conv at e3=>rhs; whnf);clear hR hN hp hρ;go_light;go_simp;exact ⟨rfl,rfl⟩
   ·rfl
   apply Chain.pure (LZ.refl _) (by rfl)
   ·intro vals γ w' ρ hR hN hp hρ hc hf hg;refine ⟨rfl,?_⟩;have e17:ρ (.tmp 17)=_:=(hρ 17).trans (hp 0 (by decide));have hkk:=hR.kept0 (S:=fun b=>b<w.heap.size) (fun b _ (hb:b<w.heap.size) m hm=>by rcases hm with ⟨_,h⟩ | ⟨_,h⟩ | ⟨_,h⟩; (have:=HSZ.o; omega); (have:=(HAL.o b h).1; have:=HS0.o; omega); (have:=HB3W.o; omega));have k1:=hkk.cell2 Q0.o ZA.o;have k2:=hkk.cell2 Q1.o ZA.o;have k3:=hkk.cell2 Q2.o ZA.o;have k4:=(hR.kept0 (S:=fun b=>b=b1) (fun b _ hb m hm=>by have h1:=HB1L.o; have h2:=HB3L.o; have h3:=HW0S.o; rcases hm with ⟨_,h⟩ | ⟨_,h⟩ | ⟨_,h⟩; omega; (have:=(HAL.o b h).1; omega); omega)).cell2 QP.o rfl;clear hkk;have hk27:=hN.key (k:=1027) (by decide);have hb0:=HBK.o.keep (hR.kept0 (S:=fun b=>b=b3) (fun b _ e m hm=>by have h2:=HB3L.o; have h3:=HW0S.o; rcases hm with ⟨rfl,h⟩ | ⟨rfl,h⟩ | ⟨rfl,h⟩; omega; (have:=(HAL.o b h).1; omega); exact hk27));have k0:=hb0.cell (i:=0) rfl;have k0l:=hb0.lt;clear hk27 hb0 hR hN hp hρ;go_light;go_simp;exact ⟨rfl,rfl⟩
   ·rfl
   apply Chain.pure (LZ.refl _) (by rfl)
   ·intro vals γ w' ρ hR hN hp hρ hc hf hg;refine ⟨rfl,?_⟩;have e1:=hρ 1;(conv at e1=>rhs; whnf);clear hR hN hp hρ;go_light;go_simp;exact ⟨rfl,rfl⟩
   ·rfl
   apply Chain.pure (LZ.refl _) (by rfl)
   ·intro vals γ w' ρ hR hN hp hρ hc hf hg;refine ⟨rfl,?_⟩;have e19:ρ (.tmp 19)=_:=(hρ 19).trans (hp 2 (by decide));have hkk:=hR.kept0 (S:=fun b=>b<w.heap.size) (fun b _ (hb:b<w.heap.size) m hm=>by rcases hm with ⟨_,h⟩ | ⟨_,h⟩ | ⟨_,h⟩; (have:=HSZ.o; omega); (have:=(HAL.o b h).1; have:=HS0.o; omega); (have:=HB3W.o; omega));have k1:=hkk.cell2 Q0.o ZA.o;have k2:=hkk.cell2 Q1.o ZA.o;have k3:=hkk.cell2 Q2.o ZA.o;have k4:=(hR.kept0 (S:=fun b=>b=b1) (fun b _ hb m hm=>by have h1:=HB1L.o; have h2:=HB3L.o; have h3:=HW0S.o; rcases hm with ⟨_,h⟩ | ⟨_,h⟩ | ⟨_,h⟩; omega; (have:=(HAL.o b h).1; omega); omega)).cell2 QP.o rfl;clear hkk hR hN hp hρ;go_light;go_simp;exact ⟨rfl,rfl⟩
   ·rfl
   apply Chain.pure (LZ.refl _) (by rfl)
   ·intro vals γ w' ρ hR hN hp hρ hc hf hg;refine ⟨rfl,?_⟩;have e4:=hρ 4;(conv at e4=>rhs; whnf);clear hR hN hp hρ;go_light;go_simp;exact ⟨rfl,rfl⟩
   ·rfl
   apply Chain.pure (LZ.refl _) (by rfl)
   ·intro vals γ w' ρ hR hN hp hρ hc hf hg;refine ⟨rfl,?_⟩;have e20:ρ (.tmp 20)=_:=(hρ 20).trans (hp 3 (by decide));have e21:ρ (.tmp 21)=_:=(hρ 21).trans (hp 4 (by decide));clear hR hN hp hρ;go_light;go_simp;exact ⟨rfl,rfl⟩
   ·rfl
   apply Chain.pure (LZ.refl _) (by rfl)
   ·intro vals γ w' ρ hR hN hp hρ hc hf hg;refine ⟨rfl,?_⟩;have e22:ρ (.tmp 22)=_:=(hρ 22).trans (hp 5 (by decide));clear hR hN hp hρ;go_light;go_simp;exact ⟨rfl,rfl⟩
   ·rfl
   apply Chain.pure (LZ.refl _) (by rfl)
   ·intro vals γ w' ρ hR hN hp hρ hc hf hg;refine ⟨rfl,?_⟩;have e23:ρ (.tmp 23)=_:=(hρ 23).trans (hp 6 (by decide));have hkk:=hR.kept0 (S:=fun b=>b<w.heap.size) (fun b _ (hb:b<w.heap.size) m hm=>by rcases hm with ⟨_,h⟩ | ⟨_,h⟩ | ⟨_,h⟩; (have:=HSZ.o; omega); (have:=(HAL.o b h).1; have:=HS0.o; omega); (have:=HB3W.o; omega));have k1:=hkk.cell2 Q0.o ZA.o;have k2:=hkk.cell2 Q1.o ZA.o;have k3:=hkk.cell2 Q2.o ZA.o;have k4:=(hR.kept0 (S:=fun b=>b=b1) (fun b _ hb m hm=>by have h1:=HB1L.o; have h2:=HB3L.o; have h3:=HW0S.o; rcases hm with ⟨_,h⟩ | ⟨_,h⟩ | ⟨_,h⟩; omega; (have:=(HAL.o b h).1; omega); omega)).cell2 QP.o rfl;clear hkk hR hN hp hρ;go_light;go_simp;exact ⟨rfl,rfl⟩
   ·rfl
   apply Chain.pure (LZ.refl _) (by rfl)
   ·intro vals γ w' ρ hR hN hp hρ hc hf hg;refine ⟨rfl,?_⟩;have e1:=hρ 1;(conv at e1=>rhs; whnf);clear hR hN hp hρ;go_light;go_simp;exact ⟨rfl,rfl⟩
   ·rfl
   apply Chain.pure (LZ.refl _) (by rfl)
   ·intro vals γ w' ρ hR hN hp hρ hc hf hg;refine ⟨rfl,?_⟩;have e25:ρ (.tmp 25)=_:=(hρ 25).trans (hp 8 (by decide));have hkk:=hR.kept0 (S:=fun b=>b<w.heap.size) (fun b _ (hb:b<w.heap.size) m hm=>by rcases hm with ⟨_,h⟩ | ⟨_,h⟩ | ⟨_,h⟩; (have:=HSZ.o; omega); (have:=(HAL.o b h).1; have:=HS0.o; omega); (have:=HB3W.o; omega));have k1:=hkk.cell2 Q0.o ZA.o;have k2:=hkk.cell2 Q1.o ZA.o;have k3:=hkk.cell2 Q2.o ZA.o;have k4:=(hR.kept0 (S:=fun b=>b=b1) (fun b _ hb m hm=>by have h1:=HB1L.o; have h2:=HB3L.o; have h3:=HW0S.o; rcases hm with ⟨_,h⟩ | ⟨_,h⟩ | ⟨_,h⟩; omega; (have:=(HAL.o b h).1; omega); omega)).cell2 QP.o rfl;clear hkk hR hN hp hρ;go_light;go_simp;exact ⟨rfl,rfl⟩
   ·rfl
   apply Chain.pure (LZ.refl _) (by rfl)
   ·intro vals γ w' ρ hR hN hp hρ hc hf hg;refine ⟨rfl,?_⟩;have e4:=hρ 4;(conv at e4=>rhs; whnf);clear hR hN hp hρ;go_light;go_simp;exact ⟨rfl,rfl⟩
   ·rfl
   apply Chain.pure (LZ.refl _) (by rfl)
   ·intro vals γ w' ρ hR hN hp hρ hc hf hg;refine ⟨rfl,?_⟩;have e26:ρ (.tmp 26)=_:=(hρ 26).trans (hp 9 (by decide));have e27:ρ (.tmp 27)=_:=(hρ 27).trans (hp 10 (by decide));clear hR hN hp hρ;go_light;go_simp;exact ⟨rfl,rfl⟩
   ·rfl
   apply Chain.pure (LZ.refl _) (by rfl)
   ·intro vals γ w' ρ hR hN hp hρ hc hf hg;refine ⟨rfl,?_⟩;have e28:ρ (.tmp 28)=_:=(hρ 28).trans (hp 11 (by decide));clear hR hN hp hρ;go_light;go_simp;exact ⟨rfl,rfl⟩
   ·rfl
   apply Chain.pure (LZ.refl _) (by rfl)
   ·intro vals γ w' ρ hR hN hp hρ hc hf hg;refine ⟨rfl,?_⟩;have e29:ρ (.tmp 29)=_:=(hρ 29).trans (hp 12 (by decide));have hkk:=hR.kept0 (S:=fun b=>b<w.heap.size) (fun b _ (hb:b<w.heap.size) m hm=>by rcases hm with ⟨_,h⟩ | ⟨_,h⟩ | ⟨_,h⟩; (have:=HSZ.o; omega); (have:=(HAL.o b h).1; have:=HS0.o; omega); (have:=HB3W.o; omega));have k1:=hkk.cell2 Q0.o ZA.o;have k2:=hkk.cell2 Q1.o ZA.o;have k3:=hkk.cell2 Q2.o ZA.o;have k4:=(hR.kept0 (S:=fun b=>b=b1) (fun b _ hb m hm=>by have h1:=HB1L.o; have h2:=HB3L.o; have h3:=HW0S.o; rcases hm with ⟨_,h⟩ | ⟨_,h⟩ | ⟨_,h⟩; omega; (have:=(HAL.o b h).1; omega); omega)).cell2 QP.o rfl;clear hkk hR hN hp hρ;go_light;go_simp;exact ⟨rfl,rfl⟩
   ·rfl
   refine Chain.step (FP fun v γ w'=>∃ (Ac:Option Addr) (cc:Nat),v=.slice Ac na cc∧(γ 1022=false→OwnVs w' ws.heap.size FF d Ac cc al)) (by rfl) (FP.stab ?_) ?_ ?_
   ·rintro v γ w1 γ' w2 rr ⟨Ac,cc,h1,h2⟩;refine ⟨Ac,cc,h1,fun hk => ?_⟩;have hk0:γ 1022=false:=by
     cases h6:γ 1022 with
     | false=>rfl
     | true=>rw [rr.done _ h6] at hk; cases hk
    exact (h2 hk0).fkeep (rr.keptS (S:=fun b=>ob Ac=some b) fun b _ e m hm=>by have hlo:=((h2 hk0).blk e).1; rcases hm with ⟨rfl,h⟩ | ⟨rfl,h⟩ | ⟨rfl,h⟩; (rw [hk,hk0]); (have:=(HAL.o b h).2; omega); (have:=HB3L.o; have:=HW0S.o; omega))
   ·intro vals γ w' ρ hR hN hp hρ hc hf hg;refine ⟨rfl,?_⟩;have e30:ρ (.tmp 30)=_:=(hρ 30).trans (hp 13 (by decide));have HR:=Hd hR;have hrw:=(Row.keep HROW.o (HX.o.kept _)) |> fun h=>Row.keep h (hR.kept0 (S:=fun b=>S b∧b<w.heap.size) (fun b _ hb m hm=>by rcases hm with ⟨_,h⟩ | ⟨_,h⟩ | ⟨_,h⟩; (have:=HSZ.o; have:=hb.2; omega); (have:=(HAL.o b h).1; have:=HS0.o; have:=hb.2; omega); (have:=HB3W.o; have:=hb.2; omega)));have hcr:=r06_CopyRow d (fun _=>r06_CopyV (d-1)) al Ac0 cc0 w' (fun b=>S b∧b<w.heap.size) hrw;rw [← HNA.o] at hcr;have HCR:=Hd hcr;clear hrw hcr hR hN hp hρ;go_light;go_simp;refine (HCR.o).mono ?_;rintro e1 w3 ⟨Ac,cc,he,hov,hx⟩;exact ⟨_,he,γ,LZ.of_ext _ γ hx,fun _ _ _ h=>h,Ac,cc,by show Value.slice Ac al.length cc=.slice Ac na cc; rw [HNA.o],fun _=>OwnVs.lower (hov.flatF HPP.o) HR.o.size⟩
   refine Chain.step (FP fun v γ w'=>∃ g:Nat,v=.slice (some ⟨g,0,none⟩) 0 0∧ws.heap.size≤g∧(γ 1022=false→Blk w' g 3 #[])) (by rfl) (FP.stab ?_) ?_ ?_
   ·rintro v γ w1 γ' w2 rr ⟨g,h1,h2,h3⟩;refine ⟨g,h1,h2,fun hk => ?_⟩;have hk0:γ 1022=false:=by
     cases h6:γ 1022 with
     | false=>rfl
     | true=>rw [rr.done _ h6] at hk; cases hk
    refine (h3 hk0).keep (rr.keptS (S:=fun b=>b=g) fun b _ e m hm => ?_);have hlo:ws.heap.size≤b:=(by rw [e]; exact h2)
    rcases hm with ⟨rfl,h⟩ | ⟨rfl,h⟩ | ⟨rfl,h⟩; (rw [hk,hk0]); (have:=(HAL.o b h).2; omega); (have:=HB3L.o; have:=HW0S.o; omega)
   ·intro vals γ w' ρ hR hN hp hρ hc hf hg;refine ⟨rfl,?_⟩;have HR:=Hd hR;clear hR hN hp hρ;go_light;go_simp;exact ⟨γ,LZ.of_ext _ γ ((Ext.refl _).alloc _),fun _ _ _ h=>h,_,rfl,HR.o.size,fun _=>Blk.new _ _ _⟩
   apply Chain.pure (LZ.refl _) (by rfl)
   ·intro vals γ w' ρ hR hN hp hρ hc hf hg;refine ⟨rfl,?_⟩;have e1:=hρ 1;(conv at e1=>rhs; whnf);clear hR hN hp hρ;go_light;go_simp;exact ⟨rfl,rfl⟩
   ·rfl
   apply Chain.pure (LZ.refl _) (by rfl)
   ·intro vals γ w' ρ hR hN hp hρ hc hf hg;refine ⟨rfl,?_⟩;have e33:ρ (.tmp 33)=_:=(hρ 33).trans (hp 16 (by decide));have hkk:=hR.kept0 (S:=fun b=>b<w.heap.size) (fun b _ (hb:b<w.heap.size) m hm=>by rcases hm with ⟨_,h⟩ | ⟨_,h⟩ | ⟨_,h⟩; (have:=HSZ.o; omega); (have:=(HAL.o b h).1; have:=HS0.o; omega); (have:=HB3W.o; omega));have k1:=hkk.cell2 Q0.o ZA.o;have k2:=hkk.cell2 Q1.o ZA.o;have k3:=hkk.cell2 Q2.o ZA.o;have k4:=(hR.kept0 (S:=fun b=>b=b1) (fun b _ hb m hm=>by have h1:=HB1L.o; have h2:=HB3L.o; have h3:=HW0S.o; rcases hm with ⟨_,h⟩ | ⟨_,h⟩ | ⟨_,h⟩; omega; (have:=(HAL.o b h).1; omega); omega)).cell2 QP.o rfl;clear hkk hR hN hp hρ;go_light;go_simp;exact ⟨rfl,rfl⟩
   ·rfl
   apply Chain.pure (LZ.refl _) (by rfl)
   ·intro vals γ w' ρ hR hN hp hρ hc hf hg;refine ⟨rfl,?_⟩;have e4:=hρ 4;(conv at e4=>rhs; whnf);clear hR hN hp hρ;go_light;go_simp;exact ⟨rfl,rfl⟩
   ·rfl
   apply Chain.pure (LZ.refl _) (by rfl)
   ·intro vals γ w' ρ hR hN hp hρ hc hf hg;refine ⟨rfl,?_⟩;have e34:ρ (.tmp 34)=_:=(hρ 34).trans (hp 17 (by decide));have e35:ρ (.tmp 35)=_:=(hρ 35).trans (hp 18 (by decide));clear hR hN hp hρ;go_light;go_simp;exact ⟨rfl,rfl⟩
   ·rfl
   apply Chain.pure (LZ.refl _) (by rfl)
   ·intro vals γ w' ρ hR hN hp hρ hc hf hg;refine ⟨rfl,?_⟩;have e36:ρ (.tmp 36)=_:=(hρ 36).trans (hp 19 (by decide));clear hR hN hp hρ;go_light;go_simp;exact ⟨rfl,rfl⟩
   ·rfl
   apply Chain.pure (LZ.refl _) (by rfl)
   ·intro vals γ w' ρ hR hN hp hρ hc hf hg;refine ⟨rfl,?_⟩;have e37:ρ (.tmp 37)=_:=(hρ 37).trans (hp 20 (by decide));have hkk:=hR.kept0 (S:=fun b=>b<w.heap.size) (fun b _ (hb:b<w.heap.size) m hm=>by rcases hm with ⟨_,h⟩ | ⟨_,h⟩ | ⟨_,h⟩; (have:=HSZ.o; omega); (have:=(HAL.o b h).1; have:=HS0.o; omega); (have:=HB3W.o; omega));have k1:=hkk.cell2 Q0.o ZA.o;have k2:=hkk.cell2 Q1.o ZA.o;have k3:=hkk.cell2 Q2.o ZA.o;have k4:=(hR.kept0 (S:=fun b=>b=b1) (fun b _ hb m hm=>by have h1:=HB1L.o; have h2:=HB3L.o; have h3:=HW0S.o; rcases hm with ⟨_,h⟩ | ⟨_,h⟩ | ⟨_,h⟩; omega; (have:=(HAL.o b h).1; omega); omega)).cell2 QP.o rfl;clear hkk hR hN hp hρ;go_light;go_simp;exact ⟨rfl,rfl⟩
   ·rfl
   refine Chain.step (fun vl γ w'=>match vl with | [p,v]=>CaF2 ws.heap.size d na nn al nl p v γ w' | _=>True) (by rfl) ?_ ?_ ?_
   ·intro l γ w1 γ' w2 rr h
    match l,h with
    | [],_=>trivial
    | [_],_=>trivial
    | [p,q],h=>exact (by
     obtain ⟨Ac,cc,A4,c4,h1,h2,h22,hov,hoi,hne⟩:=h;have kn:=(rr.keptS (S:=fun b=>ws.heap.size≤b) fun b _ (e:ws.heap.size≤b) m hm=>by rcases hm with ⟨rfl,h⟩ | ⟨rfl,h⟩ | ⟨rfl,h⟩; (rw [h22,rr.done _ h22]); (have:=(HAL.o b h).2; omega); (have:=HB3L.o; have:=HW0S.o; omega));exact ⟨Ac,cc,A4,c4,h1,h2,rr.done _ h22,hov.fkeep (kn.mono fun b _ e=>(hov.blk e).1),Own.keep hoi (kn.mono fun b _ e=>(Own.blk hoi e).1),hne⟩)
    | _ :: _ :: _ :: _,_=>trivial
   ·intro vals γ w' ρ hR hN hp hρ hc hf hg;refine ⟨rfl,?_⟩;obtain ⟨g,hv15,hg,hb⟩:=hp 15 (by decide);obtain ⟨Ac,cc,hv14,hov⟩:=hp 14 (by decide);have e32:=(hρ 32).trans hv15;have e38:ρ (.tmp 38)=_:=(hρ 38).trans (hp 21 (by decide));have hk0:=hN.key (k:=1022) (by decide);have hbg:=hb hk0;have hovk:=hov hk0;have ho:Own w' ws.heap.size 3 1 (some ⟨g,0,none⟩) 0 0 []:=Own.lit1 (xs:=[]) hbg hg;have hints:=HINT.o.keep (HX.o.kept _) |>.keep (hR.kept0 (S:=fun b=>S b∧b<w.heap.size) (fun b _ hb m hm=>by rcases hm with ⟨_,h⟩ | ⟨_,h⟩ | ⟨_,h⟩; (have:=HSZ.o; have:=hb.2; omega); (have:=(HAL.o b h).1; have:=HS0.o; have:=hb.2; omega); (have:=HB3W.o; have:=hb.2; omega)));have hsz:=hR.size;have e0:ws.drew.heap.size=ws.heap.size:=rfl;refine lin_appC (.tmp 32) (.tmp 38) rfl tiI e32 ho e38 hints.1 (by rw [List.length_map,← HNN.o]; omega) (fun u hu=>by obtain ⟨z,-,rfl⟩:=List.mem_map.1 hu; rfl) (by omega) (by decide) (by omega) ?_;intro A4 c4 w4 hown4 hg4 hat4;rw [Nat.zero_add] at hown4;refine ⟨γ.put 1022,LZ.write hk0 hg4.os hg4.tape hg4.output hg4.size (fun b hb hm=>hg4.block b hb fun e=>hm (.inl ⟨rfl,by simp [ob] at e; omega⟩)),LK.done (by decide),Ac,cc,A4,c4,hv14,by show Value.slice A4 (0+nn) c4=.slice A4 nn c4; rw [Nat.zero_add],by simp [Gz.put],hovk.fkeep (Kept.of_grown hg4 fun b e _ f => ?_),?_,fun b e f => ?_⟩
    ·have h1:g=b:=(show b=g by simpa [ob] using f).symm;obtain ⟨xs2,hx1,_⟩:=hovk;rw [ob_some hx1 e] at hx1;exact Own.type hx1 (h1 ▸ hbg) (by decide)
    ·unfold OwnIs;rw [← HNN.o]
     simpa using hown4
    ·rcases hat4 with h | h
     ·rw [f] at h;have h1:b=g:=(by simpa [ob] using h);obtain ⟨xs2,hx1,_⟩:=hovk;rw [ob_some hx1 e] at hx1;exact Own.type hx1 (h1 ▸ hbg) (by decide)
     ·rw [f] at h;injection h with h;have:=(hovk.blk e).2;omega
   refine Chain.step (FP fun v γ w'=>CaF3 ws.heap.size d na nn ip al nl v γ w') (by rfl) (FP.stab ?_) ?_ ?_
   ·rintro v γ w1 γ' w2 rr ⟨Ac,cc,A4,c4,h1,h22,hov,hoi,hne⟩;have kn:=(rr.keptS (S:=fun b=>ws.heap.size≤b) fun b _ (e:ws.heap.size≤b) m hm=>by rcases hm with ⟨rfl,h⟩ | ⟨rfl,h⟩ | ⟨rfl,h⟩; (rw [h22,rr.done _ h22]); (have:=(HAL.o b h).2; omega); (have:=HB3L.o; have:=HW0S.o; omega));exact ⟨Ac,cc,A4,c4,h1,rr.done _ h22,hov.fkeep (kn.mono fun b _ e=>(hov.blk e).1),Own.keep hoi (kn.mono fun b _ e=>(Own.blk hoi e).1),hne⟩
   ·intro vals γ w' ρ hR hN hp hρ hc hf hg;refine ⟨rfl,?_⟩;have e24:ρ (.tmp 24)=_:=(hρ 24).trans (hp 7 (by decide));obtain ⟨Ac,cc,A4,c4,hv14,hv22,hd22,hov,hoi,hne⟩:=hp 22 (by decide);have e31:=(hρ 31).trans hv14;have e39:=(hρ 39).trans hv22;have HR:=Hd hR;have HD:=Hd hd22;have HOV:=Hd hov;have HOI:=Hd hoi;have HNE:=Hd hne;clear hR hN hp hρ hv14 hv22 hd22 hov hoi hne;go_light;go_simp;exact ⟨γ,LZ.refl _ _ _,fun _ _ _ h=>h,Ac,cc,A4,c4,rfl,HD.o,HOV.o,HOI.o,HNE.o⟩
   refine Chain.step (FP fun v γ w'=>CaF4 ws.heap.size d na nn ip al nl v γ w') (by rfl) (FP.stab ?_) ?_ ?_
   ·rintro v γ w1 γ' w2 rr ⟨g,Ac,cc,A4,c4,h1,h22,hg,hb,hov,hoi,hne⟩;have kn:=(rr.keptS (S:=fun b=>ws.heap.size≤b) fun b _ (e:ws.heap.size≤b) m hm=>by rcases hm with ⟨rfl,h⟩ | ⟨rfl,h⟩ | ⟨rfl,h⟩; (rw [h22,rr.done _ h22]); (have:=(HAL.o b h).2; omega); (have:=HB3L.o; have:=HW0S.o; omega));exact ⟨g,Ac,cc,A4,c4,h1,rr.done _ h22,hg,hb.keep (kn.mono fun b _ e=>by rw [e]; exact hg),hov.fkeep (kn.mono fun b _ e=>(hov.blk e).1),Own.keep hoi (kn.mono fun b _ e=>(Own.blk hoi e).1),hne⟩
   ·intro vals γ w' ρ hR hN hp hρ hc hf hg;refine ⟨rfl,?_⟩;obtain ⟨Ac,cc,A4,c4,hv,hd22,hov,hoi,hne⟩:=hp 23 (by decide);have e40:=(hρ 40).trans hv;have HR:=Hd hR;have HD:=Hd hd22;have HOV:=Hd hov;have HOI:=Hd hoi;have HNE:=Hd hne;clear hR hN hp hρ hv hd22 hov hoi hne;go_light;go_simp;exact ⟨γ,LZ.of_ext _ γ ((Ext.refl _).alloc _),fun _ _ _ h=>h,_,Ac,cc,A4,c4,rfl,HD.o,HR.o.size,Blk.new _ _ _,HOV.o.ext ((Ext.refl _).alloc _),Own.ext HOI.o ((Ext.refl _).alloc _),HNE.o⟩
   refine Chain.step (FP fun v γ w'=>∃ (A5:Option Addr) (c5:Nat),v=.slice A5 (i+1) c5∧CaF5 ws.heap.size w0.heap.size d i na nn ip al nl A' xs A5 c5 γ w') (by rfl) (FP.stab ?_) ?_ ?_
   ·rintro v γ w1 γ' w2 rr ⟨A5,c5,h1,Ac,cc,A4,c4,h22,h25,hown,hov,hoi,hne,hat⟩;have kn:=(rr.keptS (S:=fun b=>ws.heap.size≤b) fun b _ (e:ws.heap.size≤b) m hm=>by rcases hm with ⟨rfl,h⟩ | ⟨rfl,h⟩ | ⟨rfl,h⟩; (rw [h22,rr.done _ h22]); (have:=(HAL.o b h).2; omega); (have:=HB3L.o; have:=HW0S.o; omega));refine ⟨A5,c5,h1,Ac,cc,A4,c4,rr.done _ h22,rr.done _ h25,Own.keep hown (rr.keptS fun b _ e m hm => ?_),hov.fkeep (kn.mono fun b _ e=>(hov.blk e).1),Own.keep hoi (kn.mono fun b _ e=>(Own.blk hoi e).1),hne,hat⟩
    rcases hm with ⟨rfl,h⟩ | ⟨rfl,h⟩ | ⟨rfl,h⟩; (rw [h22,rr.done _ h22]); (rw [h25,rr.done _ h25]); (have h2:=HB3L.o; have h3:=HW0S.o; rcases (hat b e).1 with f | f; (have:=(HAL.o b f).1; omega); omega)
   ·intro vals γ w' ρ hR hN hp hρ hc hf hg;refine ⟨rfl,?_⟩;have e18:ρ (.tmp 18)=_:=(hρ 18).trans (hp 1 (by decide));obtain ⟨g,Ac,cc,A4,c4,hv,hd22,hg,hb,hov,hoi,hne⟩:=hp 24 (by decide);have e41:=(hρ 41).trans hv;have hk0:=hN.key (k:=1025) (by decide);have ho:=Own.keep HOWN.o (hR.kept0 (S:=fun b=>ob A'=some b) fun b _ e m hm=>by rcases hm with ⟨rfl,h⟩ | ⟨rfl,h⟩ | ⟨rfl,h⟩; (have:=(HAL.o b e).2; omega); exact hk0; (have:=(HAL.o b e).1; have:=HB3L.o; omega));have hsz:=hR.size;have e0:ws.drew.heap.size=ws.heap.size:=rfl;have hs2:=HW0S.o;refine lin_appC (.tmp 18) (.tmp 41) rfl tiAk e18 ho e41 (Blk.rd hb) rfl (by simp [Value.oneCell']) (by omega) (by decide) (by omega) ?_;intro A5 c5 w4 hown4 hg4 hat4;have hvn:∀ b,ob Ac=some b→ob A'≠some b:=fun b e f=>by have:=(hov.blk e).1; have:=(HAL.o b f).2; omega
    have hin:∀ b,ob A4=some b→ob A'≠some b:=fun b e f=>by have:=(Own.blk hoi e).1; have:=(HAL.o b f).2; omega
    refine ⟨γ.put 1025,LZ.write hk0 hg4.os hg4.tape hg4.output hg4.size (fun b hb hm=>hg4.block b hb fun e=>hm (.inr (.inl ⟨rfl,e.symm⟩))),LK.done (by decide),A5,c5,rfl,Ac,cc,A4,c4,by simp [Gz.put,hd22],by simp [Gz.put],hown4,hov.fkeep (Kept.of_grown hg4 fun b e _ f=>hvn b e f.symm),Own.keep hoi (Kept.of_grown hg4 fun b e _ f=>hin b e f.symm),hne,fun b e => ?_⟩
    rcases hat4 with h | h
    ·exact ⟨.inl (by rw [← h]; exact e),fun f=>hvn b f (by rw [← h]; exact e),fun f=>hin b f (by rw [← h]; exact e)⟩
    ·rw [e] at h;injection h with h;exact ⟨.inr (by omega),fun f=>by (have:=(hov.blk f).2; omega),fun f=>by (have:=(Own.blk hoi f).2; omega)⟩
   apply Chain.pure (LZ.refl _) (by rfl)
   ·intro vals γ w' ρ hR hN hp hρ hc hf hg;refine ⟨rfl,?_⟩;have e3:=hρ 3;(conv at e3=>rhs; whnf);clear hR hN hp hρ;go_light;go_simp;exact ⟨rfl,rfl⟩
   ·rfl
   refine Chain.step (fun _ γ w'=>CaF7 ws.heap.size w0.heap.size d i na nn b3 ip dp lo al nl A' xs γ w') (by rfl) ?_ ?_ ?_
   ·rintro l γ w1 γ' w2 rr ⟨A5,c5,h27,⟨Ac,cc,A4,c4,h22,h25,hown,hov,hoi,hne,hat⟩,hb3⟩;have ka:∀ S:Nat→Prop,Kept S w1 w2:=fun S=>rr.keptS fun b _ _ m hm=>by rcases hm with ⟨rfl,h⟩ | ⟨rfl,h⟩ | ⟨rfl,h⟩ <;> first | rw [h22,rr.done _ h22] | rw [h25,rr.done _ h25] | rw [h27,rr.done _ h27]
    exact ⟨A5,c5,rr.done _ h27,⟨Ac,cc,A4,c4,rr.done _ h22,rr.done _ h25,Own.keep hown (ka _),hov.fkeep (ka _),Own.keep hoi (ka _),hne,hat⟩,hb3.keep (ka _)⟩
   ·intro vals γ w' ρ hR hN hp hρ hc hf hg;refine ⟨rfl,?_⟩;obtain ⟨A5,c5,hv,hf5⟩:=hp 25 (by decide);have e42:=(hρ 42).trans hv;have e43:ρ (.tmp 43)=_:=(hρ 43).trans (hp 26 (by decide));have hk27:=hN.key (k:=1027) (by decide);have hb0:=HBK.o.keep (hR.kept0 (S:=fun b=>b=b3) (fun b _ e m hm=>by have h2:=HB3L.o; have h3:=HW0S.o; rcases hm with ⟨rfl,h⟩ | ⟨rfl,h⟩ | ⟨rfl,h⟩; omega; (have:=(HAL.o b h).1; omega); exact hk27));have HK:=Hd hk27;have HB0:=Hd hb0;have qc:=hb0.cell (i:=0) rfl;have qf:=hb0.frozen 0;have ql:=hb0.lt;obtain ⟨Ac,cc,A4,c4,h22,h25,hown,hov,hoi,hne,hat⟩:=hf5;have H22:=Hd h22;have H25:=Hd h25;have HOWN5:=Hd hown;have HOV:=Hd hov;have HOI:=Hd hoi;have HNE:=Hd hne;have HAT:=Hd hat;clear hR hN hp hρ hv hk27 hb0 h22 h25 hown hov hoi hne hat;go_light;go_simp;have hb3n:∀ b,w0.heap.size≤b→b≠b3:=fun b hb e=>by have:=HB3L.o; omega
    have hS:∀ S:Nat→Prop,(∀ b,S b→w0.heap.size≤b)→Kept S w' (w'.setCell ⟨b3,0,none⟩ (.slice A5 (i+1) c5)):=fun S hS=>Kept.of_set fun e=>hb3n b3 (hS b3 e) rfl;have hw:=HW0S.o;refine ⟨γ.put 1027,LZ.write HK.o rfl rfl rfl (by simp [World.setCell]) (fun b hb hm=>Below.heap_setCell _ _ _ _ (by show b≠b3; exact fun e=>hm (.inr (.inr ⟨rfl,e⟩)))),LK.done (by decide),A5,c5,by simp [Gz.put],⟨Ac,cc,A4,c4,by simp [Gz.put,H22.o],by simp [Gz.put,H25.o],Own.keep HOWN5.o (hS _ fun b e=>(Own.blk HOWN5.o e).1),HOV.o.fkeep (hS _ fun b e=>by have:=(HOV.o.blk e).1; omega),Own.keep HOI.o (hS _ fun b e=>by have:=(Own.blk HOI.o e).1; omega),HNE.o,HAT.o⟩,by simpa using HB0.o.set 0 (.slice A5 (i+1) c5)⟩
   intro vals γ w9 hR hG;have v0:vals 0=_:=hG 0 (by decide);have v1:vals 1=_:=hG 1 (by decide);have v2:vals 2=_:=hG 2 (by decide);have v3:vals 3=_:=hG 3 (by decide);have v4:vals 4=_:=hG 4 (by decide);have v5:vals 5=_:=hG 5 (by decide);have v6:vals 6=_:=hG 6 (by decide);have v7:vals 7=_:=hG 7 (by decide);have v8:vals 8=_:=hG 8 (by decide);have v9:vals 9=_:=hG 9 (by decide);have v10:vals 10=_:=hG 10 (by decide);have v11:vals 11=_:=hG 11 (by decide);have v12:vals 12=_:=hG 12 (by decide);have v13:vals 13=_:=hG 13 (by decide);obtain ⟨A14,c14,v14,-⟩:=hG 14 (by decide);obtain ⟨g15,v15,-⟩:=hG 15 (by decide);have v16:vals 16=_:=hG 16 (by decide);have v17:vals 17=_:=hG 17 (by decide);have v18:vals 18=_:=hG 18 (by decide);have v19:vals 19=_:=hG 19 (by decide);have v20:vals 20=_:=hG 20 (by decide);have v21:vals 21=_:=hG 21 (by decide);obtain ⟨A22,c22,B22,d22,-,v22,-⟩:=hG 22 (by decide);obtain ⟨A23,c23,B23,d23,v23,-⟩:=hG 23 (by decide);obtain ⟨g24,A24,c24,B24,d24,v24,-⟩:=hG 24 (by decide);obtain ⟨A25,c25,v25,-⟩:=hG 25 (by decide);have v26:vals 26=_:=hG 26 (by decide);simp only [lexFrame,Act.put,List.setIfInBounds_toArray,List.set_cons_succ,List.set_cons_zero,Nat.zero_add,Nat.reduceAdd,v0,v1,v2,v3,v4,v5,v6,v7,v8,v9,v10,v11,v12,v13,v14,v15,v16,v17,v18,v19,v20,v21,v22,v23,v24,v25,v26];clear v0 v1 v2 v3 v4 v5 v6 v7 v8 v9 v10 v11 v12 v13 v14 v15 v16 v17 v18 v19 v20 v21 v22 v23 v24 v25 v26;obtain ⟨A5,c5,-,hf5,hbk5⟩:=hG 27 (by decide);have HB9:=Hd (hR.buts (S:=fun b=>ob A'=some b∨b=b3) (fun m b hb hm _=>by rcases hm with ⟨_,h⟩ | ⟨_,h⟩ | ⟨_,h⟩; (have e0:ws.drew.heap.size=ws.heap.size:=rfl; omega); exact .inl h; exact .inr h));have HF5:=Hd hf5;have HBK5:=Hd hbk5;clear hR hG hf5 hbk5;obtain ⟨Ac,cc,A4,c4,-,-,hown5,hov5,hoi5,hne5,hat5⟩:=HF5.o;have hcp2:=HCP.o.push (t:=(ip,al,nl)) (B':=Ac) (e':=cc) (C':=A4) (f':=c4) (A':=A5) (c':=c5) (w9:=w9) (HB9.o.kept fun b _ e f=>by
    rcases f with f | f
    ·exact e.2 f
    ·have:=HB3L.o; omega) HW0S.o hov5 hoi5 (by show al.length≤_; rw [← HNA.o]; exact hal) (by show nl.length≤_; rw [← HNN.o]; exact hnl) hne5 (by
     rw [List.length_take,← HEN.o,Nat.min_eq_left (by omega)];unfold acells;rw [show ((ip,al,nl):AskD).2.1.length=na from HNA.o.symm,show ((ip,al,nl):AskD).2.2.length=nn from HNN.o.symm];exact hown5) hat5
   obtain ⟨B2,e2,C2,f2,hcp3⟩:=hcp2;have HCP3:=Hd hcp3;have HX9:=Hd (ButS.exts HX.o HB9.o fun b e=>by
    rcases e with e | e
    ·have:=(HAL.o b e).1; have:=HS0.o; omega
    ·have:=HB3W.o; omega)
   have HB19:=Hd (HBP.o.keep (HB9.o.kept fun b _ e f=>by
    have h1:=HB1L.o
    rcases f with f | f
    ·have:=(HAL.o b f).1; have:=HB3L.o; omega
    ·omega))
   have HB29:=Hd (HBZ2.o.keep (HB9.o.kept fun b _ e f=>by
    have h1:=HB2.o;have h2:=HB3.o
    rcases f with f | f
    ·have:=(HAL.o b f).1; have:=HB3L.o; omega
    ·omega))
   clear hown5 hov5 hoi5 hne5 hat5 hcp3;go_wp2;go_roundw
   case rel=>exact ⟨i+1,A5,c5,B2,e2,C2,f2,_,by omega,by go_num,HBK5.o,by rw [HTQ.o,HTE.o]; exact HCP3.o,HB19.o,HB29.o,HX9.o⟩
   case measure=>simp [intOf]; omega
  ·obtain rfl:i=n:=by omega
   have hcp2:=hcp;rw [List.take_of_length_le (by rw [← HEN.o]; exact Nat.le_refl _)] at hcp2;have HC2:=Hd hcp2;have r0:=hb2.cell (i:=0) rfl;have r1:=hb2.cell (i:=1) rfl;have r2:=hb2.cell (i:=2) rfl;have f0:=hb2.frozen 0;have f1:=hb2.frozen 1;have f2:=hb2.frozen 2;have z1:=hb2.lt;have o0:=hb3.cell (i:=0) rfl;have o1:=hb3.cell (i:=1) rfl;have o2:=hb3.cell (i:=2) rfl;have HB2W:=Hd (show w.heap.size≤b2 by omega);have HB20:=Hd (show b2<w0.heap.size by omega);clear hcp hcp2 b1e b2e b3e s0e;go_wp2;refine bodyPost_ret (v:=.agg #[.slice A' i c',.int .i64 dp,.int .i64 lo]) (by simp [results,Tryz.results33,go_sem,r0,r1,r2]) rfl ⟨A',c',B,eB,C,fC,xs,by rw [← HEN.o],?_,((HX.o.set2 HB2W.o _).set2 HB2W.o _).set2 HB2W.o _⟩;have hne:¬ (w0.heap.size≤b2):=(by have:=HB20.o; omega);exact (((HC2.o.keep (Kept.of_set hne)).keep (Kept.of_set hne)).keep (Kept.of_set hne)).lower (by have:=HS0.o; omega)
/- The reference's remainder. No conditions but a positive divisor. -/

section
variable {w w':World} {base d k:Nat} {Y:List AskD} {A:Option Addr} {c:Nat} {B:Option Addr} {e:Nat} {C:Option Addr} {f:Nat} {xs:List Value}
end
theorem valS_plain:∀ m:Nat,m<6→(valS m).cols=[]∧(valS m).rows=[]∧(valS m).s.size≤4294967296:=by
 intro m hm
 match m,hm with
 | 0,_=>exact ⟨rfl,rfl,by decide⟩
 | 1,_=>exact ⟨rfl,rfl,by decide⟩
 | 2,_=>exact ⟨rfl,rfl,by decide⟩
 | 3,_=>exact ⟨rfl,rfl,by decide⟩
 | 4,_=>exact ⟨rfl,rfl,by decide⟩
 | 5,_=>exact ⟨rfl,rfl,by decide⟩
 | n+6,h=>exact absurd h (by omega)
theorem ButS.set7 {w w':World} {S:Nat→Prop} (h:ButS S w w') {g j:Nat} (hb:S g) (x:Val) (A1:Option Addr) (c1:Nat) (B1:Option Addr) (e1:Nat):ButS S w (Go.Proofs.YtomdpipekmcojaaGreatDoor.set7 w' g j x A1 c1 B1 e1) :=
 ((((((h.set (.inl hb)).set (.inl hb)).set (.inl hb)).set (.inl hb)).set (.inl hb)).set (.inl hb)).set (.inl hb)
end Go.Proofs.YtomdpipekmcojaaGreatDoor
