/- The reference's copy of a plan: its questions are the caller's own. Conditions: the plan reads as data; its values are plain. -/
import Derived.Test.YtomdpipekmcojaaGreatDoorBw23
import Derived.Laws.EntriesVeiled
import Derived.Lib.AppendZerosOnto
namespace Go.Proofs.YtomdpipekmcojaaGreatDoor
open Go Go.RowKit

theorem Own.type {w:World} {base e sz n c g t:Nat} {xs:List Value} {cs:Array Value} (h:Own w base e sz (some ⟨g,0,none⟩) n c xs) (hb:Blk w g t cs) (ht:e≠t):False:=by
 rcases h.2 with ⟨hv,_⟩ | ⟨g',cap,cur,hv,_,hh,_⟩
 ·cases hv
 ·injection hv with hv1;injection hv1 with hv1;injection hv1 with hv1;subst hv1;unfold Blk at hb;rw [hb] at hh;injection hh with hh;injection hh with _ h2;exact ht h2.symm
/- The reference's remainder. No conditions but a positive divisor. -/

section
variable {w w':World} {base d k:Nat} {Y:List AskD} {A:Option Addr} {c:Nat} {B:Option Addr} {e:Nat} {C:Option Addr} {f:Nat} {xs:List Value}
end
theorem set7_only (w:World) (g j:Nat) (x:Val) (A1:Option Addr) (c1:Nat) (B1:Option Addr) (e1:Nat):Only g w (set7 w g j x A1 c1 B1 e1) :=
 (((((((Only.refl g w).set (j*7) _).set (j*7+1) _).set (j*7+2) _).set (j*7+3) _).set (j*7+4) _).set (j*7+5) _).set (j*7+6) _
theorem ButS.set7 {w w':World} {S:Nat→Prop} (h:ButS S w w') {g j:Nat} (hb:S g) (x:Val) (A1:Option Addr) (c1:Nat) (B1:Option Addr) (e1:Nat):ButS S w (Go.Proofs.YtomdpipekmcojaaGreatDoor.set7 w' g j x A1 c1 B1 e1) :=
 ((((((h.set (.inl hb)).set (.inl hb)).set (.inl hb)).set (.inl hb)).set (.inl hb)).set (.inl hb)).set (.inl hb)
/- A store of one of a row's values, for rows with a footprint. -/
theorem OwnVs.put7X {w:World} {base q:Nat} {X:Nat→Prop} {r:List Val} {g e:Nat} (h:OwnVs w base X q (some ⟨g,0,none⟩) e r) {j:Nat} (hj:j<r.length) {x:Val} {A1 B1:Option Addr} {c1 e1:Nat} (hq:0<q∧x.cols.length≤c1∧x.rows.length≤e1) (hs:x.s.size≤4294967296) (hp:x.cols=[]∧x.rows=[]) :
  OwnVs (set7 w g j x A1 c1 B1 e1) base X q (some ⟨g,0,none⟩) e (r.set j x):=by
 obtain ⟨xs,h1,h2⟩:=h;have hlen:xs.length=r.length*7:=h2.1;have ho:=((((((h1.put (i:=j*7) (.int .i64 x.kind)).put (i:=j*7+1) (.string x.s)).put (i:=j*7+2) (.int .i64 x.dn)).put (i:=j*7+3) (.int .i64 x.ds)).put (i:=j*7+4) (.int .i64 x.n)).put (i:=j*7+5) (.slice A1 x.cols.length c1)).put (i:=j*7+6) (.slice B1 x.rows.length e1);have hk:Kept (fun b=>ob (some (⟨g,0,none⟩:Addr))≠some b∧X b) w (set7 w g j x A1 c1 B1 e1):=by
  unfold set7
  iterate 7 refine Kept.set2 ?_ (fun h=>h.1 rfl)
  exact Kept.refl _ _
 refine ⟨_,by rw [List.length_set]; exact ho,by simp [hlen],fun i y hi => ?_⟩;by_cases hij:j=i
 ·subst hij;rw [List.getElem?_set_self hj] at hi;injection hi with hi;subst hi;have h7:((xs.drop (j*7)).take 7).length=7:=(by simp; omega);have e0:=cseg_eq xs (.int .i64 x.kind) j 0;rw [Nat.add_zero] at e0;rw [cseg_eq,cseg_eq,cseg_eq,cseg_eq,cseg_eq,cseg_eq,e0,clist7 h7];refine ⟨A1,c1,B1,e1,rfl,hq,?_⟩;cases hd:q-1 with
  | zero=>exact ⟨hs,by rw [hp.1]; exact ⟨Rd.nil,by simp,by simp⟩,by rw [hp.2]; exact ⟨by simp,[],Rd.nil,rfl,by simp⟩⟩
  | succ n=>exact ⟨hs,by rw [hp.1]; exact ⟨Rd.nil,by simp,by simp⟩,by rw [hp.2]; exact ⟨by simp,[],Rd.nil,rfl,by simp⟩⟩
 ·rw [List.getElem?_set_ne hij] at hi;have e0:=cseg_ne xs (.int .i64 x.kind) (i:=i) (j:=j) (t:=0) (by omega) (by omega);rw [Nat.add_zero] at e0;rw [cseg_ne _ _ (by omega) (by omega),cseg_ne _ _ (by omega) (by omega),cseg_ne _ _ (by omega) (by omega),cseg_ne _ _ (by omega) (by omega),cseg_ne _ _ (by omega) (by omega),cseg_ne _ _ (by omega) (by omega),e0];exact (h2.2 i y hi).keep hk
theorem OwnRR.store0 {w:World} {base:Nat} {A:Option Addr} {c:Nat} {r:List Val} {L:List (List Val)} (h:OwnRR w base (fun _=>False) 1 A c (r :: L)) (h0:0<r.length) :
  ∃ (gA g e:Nat) (xs:List Value),A=some ⟨gA,0,none⟩∧gA≠g∧base≤g∧w.cell? ⟨gA,0,none⟩=some (.slice (some ⟨g,0,none⟩) r.length e)∧Own w base 42 1 (some ⟨gA,0,none⟩) (L.length+1) c (.slice (some ⟨g,0,none⟩) r.length e :: xs)∧(∃ ys,Own w base 47 7 (some ⟨g,0,none⟩) r.length e ys) ∧
   ∀ x:Val,x.s.size≤4294967296→x.cols=[]∧x.rows=[]→OwnRR (set7 w g 0 x none 0 none 0) base (fun _=>False) 1 (some ⟨gA,0,none⟩) c (r.set 0 x :: L):=by
 obtain ⟨hs,cut,ho,hmon,hbase,htop,h5⟩:=h;obtain ⟨gA,rfl⟩:=ho.some_ (by simp);obtain ⟨B,e,hh0,hv0,hB0⟩:=h5 0 r rfl;obtain ⟨g,rfl⟩:∃ g,B=some ⟨g,0,none⟩:=by
  obtain ⟨ys,hy,_⟩:=hv0;exact hy.some_ h0
 obtain ⟨hg1,hg2,-⟩:=hB0 g rfl;have hg0:cut 0≤g:=by
  obtain ⟨ys,hy,_⟩:=hv0;exact (hy.blk rfl).1
 have hne:gA≠g:=fun e=>hg2 (by rw [e]; rfl);cases hs with
 | nil=>simp at hh0
 | cons hd xs =>
  simp at hh0;subst hh0;refine ⟨gA,g,e,xs,rfl,hne,Nat.le_trans hbase hg0,ho.cell_ (j:=0) rfl,by simpa using ho,?_,fun x hxs hxp => ?_⟩
  ·obtain ⟨ys,hy,_⟩:=hv0;exact ⟨ys,hy.lower hbase⟩
  ·have hon:=set7_only w g 0 x none 0 none 0;have hk:Own (set7 w g 0 x none 0 none 0) base 42 1 (some ⟨gA,0,none⟩) (L.length+1) c (.slice (some ⟨g,0,none⟩) r.length e :: xs):=by
    refine Own.keep (by simpa using ho) (hon.kept fun b _ hb e2 => ?_);rw [e2] at hb;exact hg2 hb
   refine ⟨_,cut,by simpa using hk,hmon,hbase,by simpa using Nat.le_trans htop (Nat.le_of_eq hon.size.symm),fun i r' hi => ?_⟩
   ·cases i with
    | zero =>
     simp at hi;subst hi;exact ⟨some ⟨g,0,none⟩,e,by simp,hv0.put7X h0 ⟨by decide,by simp [hxp.1],by simp [hxp.2]⟩ hxs hxp,hB0⟩
    | succ i =>
     obtain ⟨B',e',k1,k2,k3⟩:=h5 (i+1) r' (by simpa using hi);refine ⟨B',e',k1,k2.keep (hon.kept fun b _ hb => ?_),k3⟩;have hm1:=hmon 1 (i+1) (by omega)
     rcases hb with hb | hb
     ·obtain ⟨ys,hy,_⟩:=k2;have:=(hy.blk hb).1;simp at hg1;omega
     ·simp at hg1;omega
/- Rows of the caller's own, to each of which a loop appends the same values: what holds while it runs. No conditions. -/
def WkR (base top:Nat) (cut:Nat→Nat) (L:List (List Val)) (t:List Val) (A:Option Addr) (c k:Nat) (w:World):Prop :=
 ∃ hs:List Value,Own w base 42 1 A L.length c hs∧top≤w.heap.size ∧
  (∀ i r,L[i]?=some r→k≤i→∃ (B:Option Addr) (e:Nat),hs[i]?=some (Value.slice B r.length e)∧OwnVs w (cut i) (fun b=>cut i≤b∧b<cut (i+1)∧ob A≠some b) 1 B e r∧∀ b,ob B=some b→b<cut (i+1)∧ob A≠some b) ∧
  ∀ i r,L[i]?=some r→i<k→∃ (B:Option Addr) (e:Nat),hs[i]?=some (Value.slice B (r.length+t.length) e)∧r.length+t.length≤e∧Row w (fun b=>base≤b∧ob A≠some b∧¬ (cut k≤b∧b<top)) 1 B (r++t)
theorem OwnRR.wk {w:World} {base:Nat} {A:Option Addr} {c:Nat} {L:List (List Val)} (h:OwnRR w base (fun _=>False) 1 A c L) (t:List Val) :
  ∃ cut:Nat→Nat,(∀ i j,i≤j→cut i≤cut j)∧base≤cut 0∧cut L.length≤w.heap.size∧WkR base w.heap.size cut L t A c 0 w:=by
 obtain ⟨hs,cut,ho,hmon,hbase,htop,h5⟩:=h;refine ⟨cut,hmon,hbase,htop,hs,ho,Nat.le_refl _,fun i r hr _ => ?_,fun i r _ hi=>absurd hi (by omega)⟩;obtain ⟨B,e,g1,g2,g3⟩:=h5 i r hr;exact ⟨B,e,g1,g2.mono fun b _ hb=>⟨hb.1,hb.2.1,hb.2.2.1⟩,fun b hb=>⟨(g3 b hb).1,(g3 b hb).2.1⟩⟩
theorem WkR.blk {base top:Nat} {cut:Nat→Nat} {L:List (List Val)} {t:List Val} {A:Option Addr} {c k:Nat} {w:World} (h:WkR base top cut L t A c k w) {b:Nat} (hb:ob A=some b):base≤b:=by
 obtain ⟨hs,ho,_⟩:=h;exact (ho.blk hb).1
theorem WkR.step {base top:Nat} {cut:Nat→Nat} {L:List (List Val)} {t:List Val} {gA c k:Nat} {w:World} (h:WkR base top cut L t (some ⟨gA,0,none⟩) c k w) (hmon:∀ i j,i≤j→cut i≤cut j) (hbase:base≤cut 0) (htop:cut L.length≤top) (hk:k<L.length) {ts:List Value} (ht:∀ (w:World) (S:Nat→Prop),VL (CV w S 1) ts t) {tl:Nat} (htl:t.length=tl) (hlen:L[k].length+tl≤4294967296) :
  ∃ (B:Option Addr) (e:Nat) (ys:List Value),w.cell? ⟨gA,k,none⟩=some (.slice B L[k].length e)∧base≤gA∧gA<w.heap.size∧(∀ i,w.frozen? ⟨gA,i,none⟩=false)∧Own w (cut k) 47 7 B L[k].length e ys∧base≤cut k∧cut k≤w.heap.size ∧
   ∀ (wa wb:World) (B':Option Addr) (e':Nat),Ext w wa→Own wb (cut k) 47 7 B' (L[k].length+tl) e' (ys++ts)→wa.grownBy wb (ob B)→(ob B'=ob B∨ob B'=some wa.heap.size) →
    (wb.cell? ⟨gA,k,none⟩=some (.slice B L[k].length e)∧gA<wb.heap.size∧∀ i,wb.frozen? ⟨gA,i,none⟩=false)∧WkR base top cut L t (some ⟨gA,0,none⟩) c (k+1) (wb.setCell ⟨gA,k,none⟩ (.slice B' (L[k].length+tl) e')):=by
 subst htl;obtain ⟨hs,ho,htw,hhi,hlo⟩:=h;obtain ⟨B,e,g1,⟨ys,g2,g2v⟩,g3⟩:=hhi k L[k] (List.getElem?_eq_getElem hk) (Nat.le_refl _);have hbk:base≤cut k:=Nat.le_trans hbase (hmon 0 k (Nat.zero_le _));have hkt:cut (k+1)≤top:=Nat.le_trans (hmon (k+1) L.length (by omega)) htop;have hkk:cut k≤cut (k+1):=hmon k (k+1) (by omega);refine ⟨B,e,ys,ho.cell_ g1,(ho.blk rfl).1,ho.lt_,ho.frozen_,g2,hbk,by omega,fun wa wb B' e' hxa hown hg hat => ?_⟩;have hBA:ob (some (⟨gA,0,none⟩:Addr))≠ob B:=by
  intro h;exact (g3 gA (h ▸ rfl)).2 rfl
 have hob:=(ho.ext hxa).kept hg (.inr hBA);have hsz:wa.heap.size≤wb.heap.size:=hg.size;have hszw:=hxa.size;refine ⟨⟨hob.cell_ g1,hob.lt_,hob.frozen_⟩,hs.set k (.slice B' (L[k].length+t.length) e'),hob.put _,by simp; omega,fun i r hi hki => ?_,fun i r hi hki => ?_⟩
 ·obtain ⟨B2,e2,k1,k2,k3⟩:=hhi i r hi (by omega);refine ⟨B2,e2,by rw [List.getElem?_set_ne (by omega)]; exact k1,?_,k3⟩;have hci:cut (k+1)≤cut i:=hmon _ _ (by omega);refine ((k2.ext hxa).keep (Kept.of_grown hg fun b hb _ eb => ?_)).keep (Kept.of_set (p:=⟨gA,k,none⟩) fun hb => ?_)
  ·have h1:=(g3 b eb.symm).1
   rcases hb with hb | hb
   ·have:=(k2.blk hb).1; omega
   ·omega
  ·rcases hb with hb | hb
   ·exact (k3 gA hb).2 rfl
   ·exact hb.2.2 rfl
 ·rcases Nat.lt_or_ge i k with hik | hik
  ·obtain ⟨B2,e2,k1,k2,k3⟩:=hlo i r hi hik;refine ⟨B2,e2,by rw [List.getElem?_set_ne (by omega)]; exact k1,k2,?_⟩;refine (((Row.keep k3 (hxa.kept _)).keep (Kept.of_grown hg fun b hb _ eb => ?_)).keep (Kept.of_set (p:=⟨gA,k,none⟩) fun hb=>hb.2.1 rfl)).mono fun b _ hb=>⟨hb.1,hb.2.1,fun h=>hb.2.2 ⟨by omega,h.2⟩⟩;have h1:=(g3 b eb.symm).1;have h2:=(g2.blk eb.symm).1;exact hb.2.2 ⟨h2,by omega⟩
  ·obtain rfl:i=k:=by omega
   have hlk:i<hs.length:=(by have:=ho.len; omega);rw [List.getElem?_eq_getElem hk] at hi;injection hi with hi;subst hi;refine ⟨B',e',by rw [List.getElem?_set_self hlk],hown.cap,?_⟩;have hV:OwnVs wb (cut i) (fun b=>cut i≤b∧b<cut (i+1)∧ob (some (⟨gA,0,none⟩:Addr))≠some b) 1 B' e' (L[i]++t):=by
    refine ⟨ys++ts,by rw [List.length_append]; exact hown,(g2v.imp fun _ _ hh => ?_).append (ht wb _)⟩;refine ((hh.keep (hxa.kept _)).keep (Kept.of_grown hg fun b hb _ eb=>hb.1 eb.symm)).mono fun b hbl hb => ?_;refine ⟨?_,hb.2⟩
    rcases hat with h | h
    ·rw [h]; exact hb.1
    ·rw [h];intro h2;injection h2 with h2;omega
   have hBn:∀ b,ob B'=some b→base≤b∧ob (some (⟨gA,0,none⟩:Addr))≠some b∧¬ (cut (i+1)≤b∧b<top):=by
    intro b hb;have h0:=(hown.blk hb).1
    rcases hat with h | h
    ·rw [h] at hb;have h1:=g3 b hb;exact ⟨by omega,h1.2,by omega⟩
    ·rw [h] at hb;injection hb with hb;refine ⟨by omega,fun h2 => ?_,by omega⟩;injection h2 with h2;have:=ho.lt_;simp at h2;omega
   refine Row.keep (hV.row (by rw [List.length_append]; exact hlen) hBn fun b hb=>⟨by omega,hb.2.2,by omega⟩) (Kept.of_set (p:=⟨gA,i,none⟩) fun hb=>hb.2.1 rfl)
theorem WkR.fin {base top:Nat} {cut:Nat→Nat} {L:List (List Val)} {t:List Val} {A:Option Addr} {c:Nat} {w:World} (h:WkR base top cut L t A c L.length w) (hl:L.length≤4294967296):Rows w (fun b=>base≤b) 1 A (L.map (· ++ t))∧L.length≤c:=by
 obtain ⟨hs,ho,htw,hhi,hlo⟩:=h;refine ⟨⟨by simpa using hl,hs,ho.rd.mono fun i _ hi=>(ho.blk hi).1,by simpa using ho.len,fun i r' hi => ?_⟩,ho.cap⟩;rw [List.getElem?_map] at hi;cases hr:L[i]? with
 | none=>rw [hr] at hi; cases hi
 | some r =>
  rw [hr] at hi;injection hi with hi;subst hi;obtain ⟨B,e,k1,k2,k3⟩:=hlo i r hr (List.getElem?_eq_some_iff.1 hr).1;exact ⟨B,e,by rw [List.length_append]; exact k1,by rw [List.length_append]; exact k2,Row.mono k3 fun b _ hb=>hb.1⟩
theorem zeros_vl (n:Nat) (w:World) (S:Nat→Prop):VL (CV w S 1) (zeroRow n).toList (List.replicate n Val.zero):=by
 rw [zeroRow_toList];exact VL.flat (by decide) _ fun y hy=>by rw [List.mem_replicate] at hy; rw [hy.2]; exact ⟨rfl,rfl,Nat.zero_le _⟩
/- append of a number of zero values to a slice of values of the call's own. No conditions but bounds on the sizes. -/
theorem zeroCells_row (m:Nat):Builtin.zeroCells (Value.agg #[.int .i64 0,.string ⟨#[]⟩,.int .i64 0,.int .i64 0,.int .i64 0,.slice none 0 0,.slice none 0 0]).cells m=zeroRow m:=rfl
theorem zeroRow_one (m:Nat):∀ u∈(zeroRow m).toList,u.oneCell'=true:=by
 rw [zeroRow_toList];intro u hu;obtain ⟨y,hy,hu⟩:=List.mem_flatMap.1 hu;exact vcells_one u hu
theorem zeroRow_len (m:Nat):(zeroRow m).toList.length=m*7:=by simp [zeroRow,madeCells]
theorem run_appZ (w:World) (ty:TypeId) {base n c:Nat} {A:Option Addr} {xs:List Value} (hown:Own w base 47 7 A n c xs) (m:Nat) (hm:0<m) (hb:n+m≤1000000) (hbase:base≤w.heap.size) :
  ∃ A' c' w',(Builtin.append_ #[42,3] ty #[.slice A n c,.int .i64 m]).run Tryz.prog w=.ok (.slice A' (n+m) c') w'∧Own w' base 47 7 A' (n+m) c' (xs++(zeroRow m).toList)∧w.grownBy w' (ob A)∧(ob A'=ob A∨ob A'=some w.heap.size):=by
 obtain ⟨i,hi,hz,hs,hy⟩:=info_parts infoV;have ht:=Tryz.underlying42;have htn:Tryz.prog.underlying 3=some (.int .i64):=Tryz.underlying3;have hml:n+m≤maxLen:=(by unfold maxLen; omega);have hlen:(xs++(zeroRow m).toList).length=(n+m)*7:=(by rw [List.length_append,hown.1,zeroRow_len,Nat.add_mul]);have grown:∀ (old:Nat),old<n+m→∀ (row:Option Nat),
   (w.drew.alloc (.cells (xs.toArray++zeroRow m++zeroRow (grownCap w (n+m) old 47-(n+m))) 47)).ownsRow base 47 7
    (.slice (some ⟨w.heap.size,0,none⟩) (n+m) (grownCap w (n+m) old 47)) (n+m) (xs++(zeroRow m).toList) ∧
   w.grownBy (w.drew.alloc (.cells (xs.toArray++zeroRow m++zeroRow (grownCap w (n+m) old 47-(n+m))) 47)) row:=by
  intro old ho row;have hge:=grownCap_ge w (n+m) old 47;have hcm:grownCap w (n+m) old 47≤maxLen:=grownCap_le_maxLen w (n+m) old 47 hml;refine ⟨⟨hlen,.inr ⟨w.heap.size,_,_,rfl,hbase,heap_alloc_new w.drew _,hge,hcm,?_,?_⟩⟩,⟨rfl,rfl,rfl,by simp,fun k hk _=>heap_alloc_old w.drew _ hk⟩⟩
  ·have h1:=zeroRow_len m;have h2:=zeroRow_len (grownCap w (n+m) old 47-(n+m));rw [Array.length_toList] at h1 h2;rw [Array.size_append,Array.size_append,h1,h2,List.size_toArray,hown.1];omega
  ·rw [Array.toList_append,Array.toList_append,← hlen];exact List.take_left
 have key:∀ {A':Option Addr} {c':Nat} {w':World},w'.ownsRow base 47 7 (.slice A' (n+m) c') (n+m) (xs++(zeroRow m).toList)→Own w' base 47 7 A' (n+m) c' (xs++(zeroRow m).toList):=fun h=>h
 rcases hown.2 with ⟨hv,h0⟩ | ⟨g,cap,cur,hv,hbg,hg,hnc,hcm,hcs,htake⟩
 ·injection hv with h1 _ h2;subst h1 h2 h0;have hx:xs=[]:=List.eq_nil_of_length_eq_zero (by simpa using hown.1);subst hx;have hr:=Lib.run_append_nil_zeros w 42 3 ty 47 i _ .i64 .i64 ht htn hi hz m hm (by omega) (by omega) (by rw [hy]; omega);have hgr:=grown 0 (by omega) (ob none);simp only [Nat.zero_add,List.nil_append] at hgr ⊢;rw [show (#[]:Array Value)++zeroRow m=zeroRow m by simp] at hgr;exact ⟨_,_,_,hr,hgr.1,hgr.2,.inr rfl⟩
 ·injection hv with h1 _ h2;subst h1 h2;by_cases hroom:n+m≤c
  ·have hfit:n*7+(zeroRow m).toList.length≤cur.size:=(by rw [zeroRow_len,hcs,← Nat.add_mul]; exact Nat.mul_le_mul_right _ hroom);have hst:=run_storeCells_at Tryz.prog g (n*7) 47 (zeroRow m).toList 0 cur w hg (by simpa using hfit) (zeroRow_one m);simp only [Nat.add_zero] at hst;have hr:(Builtin.append_ #[42,3] ty #[.slice (some ⟨g,0,none⟩) n c,.int .i64 m]).run Tryz.prog w=.ok (.slice (some ⟨g,0,none⟩) (n+m) c) (w.setRow g (cur.toList.take (n*7)++(zeroRow m).toList++cur.toList.drop (n*7+(zeroRow m).toList.length)).toArray):=by
    have hw:IntKind.i64.wrap (m:Int)=m:=(by rw [IntKind.wrap_i64]; omega);have h48i:¬ (281474976710656<(m:Int)*(i.bytes:Int)):=(by rw [hy]; omega);have hneg:¬ ((m:Int)<0):=(by omega);have hns:¬ (m*7=0):=(by omega);rw [← zeroCells_row] at hst ⊢;simp [Builtin.append_,run_underlying ht,run_underlying htn,sizeOf,typeInfo,zeroValue,hi,hz,hs,asInt,asIntOf,hw,hneg,hns,h48i,hroom,Addr.add_lit,hst]
   refine ⟨_,_,_,hr,key ⟨hlen,.inr ⟨g,c,_,rfl,hbg,setRow_heap w g cur _ 47 _ hg,hroom,hcm,?_,?_⟩⟩,⟨rfl,rfl,rfl,by simp,fun k _ hk=>setRow_other w g k _ (fun e=>hk (by simp [ob,e]))⟩,.inl rfl⟩
   ·simp only [List.size_toArray,List.length_append,List.length_take,List.length_drop,Array.length_toList] at hfit ⊢;omega
   ·rw [htake,← hlen];exact List.take_left
  ·have holds:∀ j u,xs[j]?=some u→w.cell? ((⟨g,0,none⟩:Addr).add j)=some u:=World.ownsRow.cells (v:=.slice (some ⟨g,0,none⟩) n c) hown (g:=g) rfl;have hf:(Builtin.firstCells i.size n (.slice (some ⟨g,0,none⟩) n c)).run Tryz.prog w.drew=.ok xs.toArray w.drew :=
    run_firstCells_some (P:=Tryz.prog) w.drew i.size n ⟨g,0,none⟩ n c xs (by rw [hs]; exact hown.1) (fun j u hj=>by have:=holds j u hj; exact this)
   have hr:=Lib.run_append_grow_zeros w 42 3 ty 47 i _ .i64 .i64 ht htn hi hz (some ⟨g,0,none⟩) n c xs hf m hm (by omega) (by omega) (by omega) (by rw [hy]; omega) (growslice_fits (by omega) (by rw [hy]; omega));have hgr:=grown c (by omega) (ob (some ⟨g,0,none⟩));exact ⟨_,_,_,hr,hgr.1,hgr.2,.inr rfl⟩
theorem wpList_appZ {ops:Array Oper} {rest:List Oper} {o:Oper} {a:Act} {w:World} {Q:Exit→Act→World→Prop} {base n c:Nat} {A:Option Addr} {xs:List Value} (hgd:o.guard=none) (s x:Operand)
  (ho:o.op=.call { callee:=.builtin .append,args:=#[s,x],argTypes:=#[42,3] }) (hs:a.eval s=.slice A n c) (hown:Own w base 47 7 A n c xs) {m:Nat} (hx:a.eval x=.int .i64 (m:Int)) (hm:0<m) (hb:n+m≤1000000) (hbase:base≤w.heap.size)
  (h:∀ A' c' w',Own w' base 47 7 A' (n+m) c' (xs++(zeroRow m).toList)→w.grownBy w' (ob A)→(ob A'=ob A∨ob A'=some w.heap.size)→wpList Tryz.prog ops Q rest (a.put o.dst (.slice A' (n+m) c')) w') :
  wpList Tryz.prog ops Q (o :: rest) a w:=by
 obtain ⟨A',c',w',hrun,h2,h3,h4⟩:=run_appZ w o.type hown m hm hb hbase;exact Lib.wpList_append_run w hgd s x _ _ ho _ _ hs hx _ _ hrun (h A' c' w' h2 h3 h4)
/- The reference's All, Groups and Useful. Conditions: the answers read as data, and hold no tables. -/

set_option maxRecDepth 100000 in
set_option maxHeartbeats 2000000 in
theorem r25_Groups (d:Nat) (l:List (List Val)) (A:Option Addr) (c:Nat) (al:List Int) (B:Option Addr) (eB:Nat) (inp:Int) (w:World) (S T:Nat→Prop) (hr:Rows w S d A l) (hk:NoT l) (hl:l.length<20) (ha:Ints w T B al) (hal:al.length≤1000) :
  Calls Tryz.prog 21 #[.slice A l.length c,.slice B al.length eB,.int .i64 inp] w (RetNN w (groupsR l al inp)):=by
 obtain ⟨n,en⟩:∃ n,n=l.length:=⟨_,rfl⟩;have HNE:=Hd en;have hll:=hr.len;have HR0:=Hd hr;have HK:=Hd hk;have HL:=Hd hl;have HAL:=Hd ha;have HRI:=Hd (r25_Right d l A c w S hr hk);obtain ⟨na,ena⟩:∃ na,na=al.length:=⟨_,rfl⟩;have HNA:=Hd ena;rw [← en] at HRI hll ⊢;rw [← ena] at hal ⊢;have hn20:n<20:=(by omega);clear hr hk hl ha en ena
 go_enter Tryz.func21,Tryz.ntmps21
 go_wp2_with fail
 refine HRI.o.mono ?_;rintro e1 w1 ⟨rfl,hx1⟩;have HX1:=Hd hx1;clear hx1;cases hra:rightA l
 ·have HE:=Hd (show groupsR l al inp=[] by unfold groupsR; rw [if_pos (.inl hra)]);rw [HE.o];clear hra;go_wp2;go_ret;rw [HE.o];exact RetNN.nil HX1.o
 ·have HRA:=Hd hra;clear hra;by_cases hi0:inp<0
  ·have HE:=Hd (show groupsR l al inp=[] by unfold groupsR; rw [if_pos (.inr (.inl hi0))]);go_wp2;go_ret;rw [HE.o];exact RetNN.nil HX1.o
  ·have HW:=Hd (rightA_wide HRA.o);have HIN:=Hd (r25_Inputs d l A c w1 S (HR0.o.keep (HX1.o.kept S)));rw [← HNE.o] at HIN;obtain ⟨N,eN⟩:∃ N,N=inpS l:=⟨_,rfl⟩;rw [← eN] at HIN;have HEN:=Hd eN;clear eN HRI
   go_wp2_with fail
   refine HIN.o.mono ?_;rintro e2 w2 ⟨rfl,rfl⟩;by_cases hiN:(N:Int)≤inp
   ·have HE:=Hd (show groupsR l al inp=[] by unfold groupsR; rw [if_pos (.inr (.inr (by rw [← HEN.o]; exact hiN)))]);go_wp2;go_ret;rw [HE.o];exact RetNN.nil HX1.o
   ·obtain ⟨m,rfl⟩:∃ m:Nat,inp=(m:Int):=⟨inp.toNat,by omega⟩;have hmN:m<N:=(by omega);have HE:=Hd (show groupsR l al (m:Int)=splR l m (aliveS l.length al) by
     unfold groupsR;rw [if_neg (by
      rintro (h | h | h)
      ·rw [HRA.o] at h; cases h
      ·omega
      ·rw [← HEN.o] at h; omega),Int.toNat_natCast])
    clear HIN;go_wp2
    go_loopw [8,9,10] (fun v i _u wr=>∃ (k:Nat) (L:List Nat) (A':Option Addr) (c':Nat),k≤n∧v=.slice A' L.length c'∧i=.int .i64 (k:Int)∧L=(List.range k).filter (fun p:Nat=>decide ((p:Int)∈al))∧L.length≤k∧Ext w wr∧OwnN wr w.heap.size A' c' L) (fun _ i _ _=>n-(intOf i).toNat)
    case atStart=>exact ⟨0,[],none,0,Nat.zero_le _,rfl,rfl,rfl,Nat.zero_le _,HX1.o,Own.nil _ _ _ _⟩
    case round =>
     obtain ⟨k,L,A',c',hk,rfl,rfl,hL,hLk,hx,hown⟩:=hrel;obtain ⟨wo,rfl⟩:∃ wo:World,wo=wr:=⟨_,rfl⟩;have HX:=Hd hx;have HO:=Hd hown;have HLE:=Hd hL;have HSUC:=Hd (show (List.range (k+1)).filter (fun p:Nat=>decide ((p:Int)∈al))=L++if (k:Int)∈al then [k] else [] by
      rw [List.range_succ,List.filter_append,← hL];congr 1;by_cases h:(k:Int)∈al
      ·rw [if_pos h]; simp [h]
      ·rw [if_neg h]; simp [h])
     have hsz:=hx.size;obtain ⟨nL,enL⟩:∃ nL,nL=L.length:=⟨_,rfl⟩;have HNL:=Hd enL;rw [← enL] at hLk ⊢;unfold OwnN at hown;rw [← enL] at hown;have HOW:=Hd hown;clear hx hown hL enL;by_cases hlt:k<n
     ·go_wp2
      go_loopw [8,10] (fun v i wi=>∃ p:Nat,p≤na∧v=.slice A' nL c'∧i=.int .i64 (p:Int)∧(k:Int) ∉ al.take p∧wi=wo) (fun _ i _=>na-(intOf i).toNat)
      case atStart=>exact ⟨0,Nat.zero_le _,rfl,rfl,by simp,rfl⟩
      case round =>
       obtain ⟨p,hp,rfl,rfl,hno,rfl⟩:=hrel;have HNO:=Hd hno;clear hno;by_cases hpn:p<na
       ·have hks:p<al.length:=(by rw [← HNA.o]; exact hpn);obtain ⟨bB,oB,hB,_,hc⟩:=(HAL.o.keep (HX.o.kept _)).at_ hks;subst hB;obtain ⟨a,ea⟩:∃ a,a=al[p]:=⟨_,rfl⟩;rw [← ea] at hc;have HTK:=Hd (show al.take (p+1)=al.take p++[a] by rw [List.take_succ_eq_append_getElem hks,← ea]);have HAM:=Hd (show a∈al by rw [ea]; exact List.getElem_mem hks);have i0:(0:Int)≤(p:Int):=(by omega);have i1:(p:Int)<(na:Int):=(by omega);clear ea hks;by_cases hak:a=(k:Int)
        ·subst hak
         go_wp2_with (at_builtin; go_must (refine wpList_app rfl (.tmp 43) (.tmp 45) rfl tiI rfl (HOW.o.ext ((Ext.refl _).alloc _)) rfl (Blk.rd (Blk.new _ _ _)) rfl (by simp [Value.oneCell']) (by omega) (by decide) (by simp; omega) ?_); intro A5 c5 w5 hown5 hg5 hat5)
         go_roundw
         case rel =>
          refine ⟨k+1,by omega,L++[k],A5,c5,⟨rfl,by rw [List.length_append,← HNL.o]; rfl,rfl⟩,by omega,by rw [HSUC.o,if_pos HAM.o],by rw [List.length_append,← HNL.o]; simp; omega,(HX.o.alloc _).grown hg5 (fun b hb=>(Own.blk HOW.o hb).1),?_⟩;unfold OwnN;rw [List.length_append,← HNL.o]
          simpa [nums] using hown5
         case measure=>simp [intOf]; omega
        ·have HAK:=Hd hak;go_wp2;go_roundw
         case rel =>
          refine ⟨p+1,by omega,rfl,by go_num,?_,trivial⟩;rw [HTK.o,List.mem_append,List.mem_singleton];rintro (h | h)
          ·exact HNO.o h
          ·exact HAK.o h.symm
         case measure=>simp [intOf]; omega
       ·have HNA2:=Hd (show (k:Int) ∉ al by
         have h1:=HNO.o;rwa [List.take_of_length_le (by rw [← HNA.o]; omega)] at h1)
        go_wp2;go_roundw
        case rel =>
         exact ⟨k+1,L,A',c',by omega,by rw [← HNL.o],by go_num,by rw [HSUC.o,if_neg HNA2.o,List.append_nil],by rw [← HNL.o]; omega,HX.o,HO.o⟩
        case measure=>simp [intOf]; omega
     ·obtain rfl:k=n:=by omega
      have HAE:=Hd (show L=aliveS l.length al by rw [HLE.o,← HNE.o]; rfl);have hsp:=r25_Split d l A c L A' c' m wo S (fun b=>ob A'=some b) (HR0.o.keep (HX.o.kept S)) HK.o (fun r hr=>by rw [HW.o r hr,← HEN.o]; exact hmN) (OwnN.nums HO.o (by rw [← HNL.o]; omega)) (by rw [HAE.o]; exact alive_lt) (by rw [← HNL.o]; omega);have HSP:=Hd hsp;rw [← HNE.o,← HNL.o] at HSP;clear hsp
      go_wp2_with fail
      refine HSP.o.mono ?_;rintro e3 w3 ⟨A3,c3,rfl,ho3,hx3⟩;have HO3:=Hd ho3;have HX3:=Hd hx3;have HEQ:=Hd (show groupsR l al (m:Int)=splR l m L by rw [HE.o,HAE.o]);clear ho3 hx3;go_wp2;go_ret;rw [HEQ.o];exact ⟨A3,c3,rfl,HO3.o.lower HX.o.size,HX.o.trans HX3.o⟩
set_option maxRecDepth 100000 in
set_option maxHeartbeats 2000000 in
theorem r25_Useful (d:Nat) (l:List (List Val)) (A:Option Addr) (c:Nat) (w:World) (S:Nat→Prop) (hr:Rows w S d A l) (hk:NoT l) (hl:l.length<20) (hN:inpS l≤1000) :
  Calls Tryz.prog 24 #[.slice A l.length c] w (RetN w (usefulR l)):=by
 obtain ⟨n,en⟩:∃ n,n=l.length:=⟨_,rfl⟩;have HNE:=Hd en;have hll:=hr.len;have HR0:=Hd hr;have HK:=Hd hk;have HL:=Hd hl;obtain ⟨N,eN⟩:∃ N,N=inpS l:=⟨_,rfl⟩;have HEN:=Hd eN;rw [← eN] at hN;rw [← en] at hll ⊢;have hn20:n<20:=(by omega);clear hr hk hl en eN
 go_enter Tryz.func24,Tryz.ntmps24
 go_wp2
 go_loopw [3,4] (fun v i wr=>∃ (k:Nat) (L:List Nat) (A':Option Addr) (c':Nat),k≤N∧v=.slice A' L.length c'∧i=.int .i64 (k:Int)∧L=(List.range k).filter (fun m:Nat=>decide (1<(groupsR l (nums (List.range l.length)) (m:Int)).length))∧L.length≤k∧Ext w wr∧OwnN wr w.heap.size A' c' L) (fun _ i _=>N-(intOf i).toNat)
 case atStart=>exact ⟨0,[],none,0,Nat.zero_le _,rfl,rfl,rfl,Nat.zero_le _,Ext.refl _,Own.nil _ _ _ _⟩
 case round =>
  obtain ⟨k,L,A',c',hk,rfl,rfl,hL,hLk,hx,hown⟩:=hrel;have HX:=Hd hx;have HO:=Hd hown;have HLE:=Hd hL;have HSUC:=Hd (show (List.range (k+1)).filter (fun m:Nat=>decide (1<(groupsR l (nums (List.range l.length)) (m:Int)).length))=L++if 1<(groupsR l (nums (List.range l.length)) (k:Int)).length then [k] else [] by
   rw [List.range_succ,List.filter_append,← hL];congr 1;by_cases h:1<(groupsR l (nums (List.range l.length)) (k:Int)).length
   ·rw [if_pos h]; simp [h]
   ·rw [if_neg h]; simp at h ⊢; omega)
  have hsz:=hx.size;obtain ⟨nL,enL⟩:∃ nL,nL=L.length:=⟨_,rfl⟩;have HNL:=Hd enL;rw [← enL] at hLk ⊢;unfold OwnN at hown;rw [← enL] at hown;have HOW:=Hd hown;have HIN:=Hd (r25_Inputs d l A c wr S (HR0.o.keep (HX.o.kept S)));rw [← HNE.o,← HEN.o] at HIN;clear hx hown hL enL;by_cases hlt:k<N
  ·go_wp2_with fail
   refine HIN.o.mono ?_;rintro e2 w2 ⟨rfl,rfl⟩;clear HIN
   go_wp2_with fail
   refine (r25_All n (by omega) _).mono ?_;rintro e3 w3 ⟨A3,c3,rfl,ho3,hx3⟩;have HX3:=Hd hx3;have hz3:=hx3.size;have hin:=OwnIs.ints (T:=fun b=>ob A3=some b) (l:=nums (List.range n)) (by unfold OwnN at ho3; unfold OwnIs; simpa [nums] using ho3) (by simp [nums]; omega) (fun b h=>h);have HGR:=Hd (r25_Groups d l A c (nums (List.range n)) A3 c3 (k:Int) w3 S _ (HR0.o.keep ((HX.o.trans HX3.o).kept S)) HK.o HL.o hin (by simp [nums]; omega));rw [← HNE.o,show (nums (List.range n)).length=n by simp [nums]] at HGR;rw [List.length_range];clear hin ho3 hx3
   go_wp2_with fail
   refine HGR.o.mono ?_;rintro e4 w4 ⟨A4,c4,rfl,ho4,hx4⟩;have HX4:=Hd (HX3.o.trans hx4);have hz4:=HX4.o.size;obtain ⟨ng,eng⟩:∃ ng,ng=(groupsR l (nums (List.range n)) (k:Int)).length:=⟨_,rfl⟩;rw [← HNE.o,← eng] at HSUC;rw [← eng];clear eng ho4 hx4 HGR;by_cases hg:1<ng
   ·have HG:=Hd hg
    go_wp2_with (at_builtin; go_must (refine wpList_app rfl (.tmp 19) (.tmp 21) rfl tiI rfl (HOW.o.ext (HX4.o.alloc _)) rfl (Blk.rd (Blk.new _ _ _)) rfl (by simp [Value.oneCell']) (by omega) (by decide) (by simp; omega) ?_); intro A5 c5 w5 hown5 hg5 hat5)
    go_roundw
    case rel =>
     refine ⟨k+1,L++[k],A5,c5,by omega,by rw [List.length_append,← HNL.o]; rfl,by go_num,by rw [← HNE.o,HSUC.o,if_pos HG.o],by rw [List.length_append,← HNL.o]; simp; omega,((HX.o.trans HX4.o).alloc _).grown hg5 (fun b hb=>(Own.blk HOW.o hb).1),?_⟩;unfold OwnN;rw [List.length_append,← HNL.o]
     simpa [nums] using hown5
    case measure=>simp [intOf]; omega
   ·have HG:=Hd hg;go_wp2;go_roundw
    case rel=>exact ⟨k+1,L,A',c',by omega,by rw [← HNL.o],by go_num,by rw [← HNE.o,HSUC.o,if_neg HG.o,List.append_nil],by rw [← HNL.o]; omega,HX.o.trans HX4.o,Own.ext HO.o HX4.o⟩
    case measure=>simp [intOf]; omega
  ·obtain rfl:k=N:=by omega
   have HFI:=Hd (show L=usefulR l by rw [HLE.o,HEN.o]; rfl)
   go_wp2_with fail
   refine HIN.o.mono ?_;rintro e2 w2 ⟨rfl,rfl⟩;clear HIN;go_wp2;go_ret;exact ⟨A',c',by rw [← HFI.o,← HNL.o]; rfl,by rw [← HFI.o]; exact HO.o,HX.o⟩
/- The law QuestionGroups: groups and useful inputs are those of the reference. Conditions: the numbers read as data. -/

theorem groupsR_small (l:List (List Val)) (al:List Int) (i:Int):(groupsR l al i).length≤l.length∧∀ g∈groupsR l al i,g.length≤l.length:=by
 unfold groupsR;split
 ·exact ⟨Nat.zero_le _,by simp⟩
 ·have h:=splitR_all (eqA l i.toNat) (ltA l i.toNat) l.length (aliveS l.length al) alive_lt;have h2:=alive_len l.length al;exact ⟨Nat.le_trans h.1 h2,fun g hg=>Nat.le_trans (h.2 g hg).2.1 h2⟩
end Go.Proofs.YtomdpipekmcojaaGreatDoor
