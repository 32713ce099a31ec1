/- Parts of programs by their places: plain facts. No conditions. -/
import Derived.Test.YtomdpipekmcojaaGreatDoorBk9
namespace Go.Proofs.YtomdpipekmcojaaGreatDoor
open Go Go.RowKit

def newG (P:List Nat) (k:Nat):Option Nat→Bool
 | none=>true
 | some q=>decide (P.getD q 0≠P.getD k 0)
def gstep (P:List Nat) (gs:List (List Nat)) (k:Nat) (prev:Option Nat):List (List Nat):=if newG P k prev=true then gs++[[k]] else gs.set (gs.length-1) (gs.getD (gs.length-1) []++[k])
def grp (P:List Nat):List (List Nat)→Option Nat→List Nat→List (List Nat)
 | gs,_,[]=>gs
 | gs,prev,k :: l=>grp P (gstep P gs k prev) (some k) l
def splitS (L P:List Nat):List (List Nat):=grp P [] none (sortG (ltN P) L)
def IsSplit (p:Nat→Nat) (L:List Nat) (gs:List (List Nat)):Prop :=
 ∃ hs:List Nat,hs.Pairwise (· < ·)∧(∀ v,v∈hs↔∃ x∈L,p x=v)∧gs=hs.map fun v=>L.filter fun x=>p x==v
theorem sorted_ext:∀ {a b:List Nat},a.Pairwise (· < ·)→b.Pairwise (· < ·)→(∀ v,v∈a↔v∈b)→a=b
 | [],[],_,_,_=>rfl
 | [],y :: b,_,_,h=>by have:=(h y).2 List.mem_cons_self; cases this
 | x :: a,[],_,_,h=>by have:=(h x).1 List.mem_cons_self; cases this
 | x :: a,y :: b,ha,hb,h=>by
  have ha':=List.pairwise_cons.1 ha;have hb':=List.pairwise_cons.1 hb;have hxy:x=y:=by
   have h1:=(h x).1 List.mem_cons_self;have h2:=(h y).2 List.mem_cons_self
   rcases List.mem_cons.1 h1 with e | e
   ·exact e
   ·rcases List.mem_cons.1 h2 with e2 | e2
    ·exact e2.symm
    ·have:=ha'.1 y e2; have:=hb'.1 x e; omega
  subst hxy;rw [sorted_ext ha'.2 hb'.2 fun v => ?_];have:=h v;rw [List.mem_cons,List.mem_cons] at this;constructor
  ·intro hv
   rcases this.1 (.inr hv) with e | e
   ·have:=ha'.1 v hv; omega
   ·exact e
  ·intro hv
   rcases this.2 (.inr hv) with e | e
   ·have:=hb'.1 v hv; omega
   ·exact e
theorem sorted_cut:∀ {hs:List Nat} (m:Nat),hs.Pairwise (· < ·)→∃ h1 h2,(∀ v∈h1,v<m)∧(∀ v∈h2,m<v)∧(hs=h1++h2∨hs=h1++m :: h2)
 | [],m,_=>⟨[],[],by simp,by simp,.inl rfl⟩
 | x :: hs,m,h=>by
  have h':=List.pairwise_cons.1 h
  rcases Nat.lt_trichotomy x m with hlt | heq | hgt
  ·obtain ⟨a,b,k1,k2,k3⟩:=sorted_cut m h'.2;refine ⟨x :: a,b,?_,k2,?_⟩
   ·intro v hv
    rcases List.mem_cons.1 hv with rfl | hv
    ·exact hlt
    ·exact k1 v hv
   ·rcases k3 with rfl | rfl
    ·exact .inl rfl
    ·exact .inr rfl
  ·subst heq;exact ⟨[],hs,by simp,h'.1,.inr rfl⟩
  ·refine ⟨[],x :: hs,by simp,?_,.inl rfl⟩;intro v hv
   rcases List.mem_cons.1 hv with rfl | hv
   ·exact hgt
   ·have:=h'.1 v hv; omega
theorem IsSplit.add {p:Nat→Nat} {L:List Nat} {hs h1 h2:List Nat} {k:Nat} (hs1:hs.Pairwise (· < ·)) (hs2:∀ v,v∈hs↔∃ x∈L,p x=v) (a1:∀ v∈h1,v<p k) (a2:∀ v∈h2,p k<v) (e:hs=h1++h2∨hs=h1++p k :: h2) :
  IsSplit p (L++[k]) ((h1.map fun v=>L.filter fun x=>p x==v)++(L.filter (fun x=>p x==p k)++[k]) :: h2.map fun v=>L.filter fun x=>p x==v):=by
 have hp:(h1++p k :: h2).Pairwise (· < ·):=by
  rcases e with rfl | rfl
  ·have h:=List.pairwise_append.1 hs1;refine List.pairwise_append.2 ⟨h.1,List.pairwise_cons.2 ⟨a2,h.2.1⟩,fun x hx y hy => ?_⟩
   rcases List.mem_cons.1 hy with rfl | hy
   ·exact a1 x hx
   ·exact h.2.2 x hx y hy
  ·exact hs1
 refine ⟨h1++p k :: h2,hp,fun v => ?_,?_⟩
 ·have h:=hs2 v;have hm:v∈h1++p k :: h2↔v∈hs∨p k=v:=by
   rcases e with rfl | rfl
   ·simp only [List.mem_append,List.mem_cons];constructor
    ·rintro (h | h | h)
     ·exact .inl (.inl h)
     ·exact .inr h.symm
     ·exact .inl (.inr h)
    ·rintro ((h | h) | h)
     ·exact .inl h
     ·exact .inr (.inr h)
     ·exact .inr (.inl h.symm)
   ·simp only [List.mem_append,List.mem_cons];constructor
    ·exact .inl
    ·rintro (h | h)
     ·exact h
     ·exact .inr (.inl h.symm)
  rw [hm,h];simp only [List.mem_append,List.mem_singleton];constructor
  ·rintro (⟨x,hx,hv⟩ | hv)
   ·exact ⟨x,.inl hx,hv⟩
   ·exact ⟨k,.inr rfl,hv⟩
  ·rintro ⟨x,hx | rfl,hv⟩
   ·exact .inl ⟨x,hx,hv⟩
   ·exact .inr hv
 ·rw [List.map_append,List.map_cons];have ne:∀ v,p k≠v→((L++[k]).filter fun x=>p x==v)=L.filter fun x=>p x==v:=by
   intro v hv;rw [List.filter_append];simp [hv]
  congr 1
  ·refine List.map_congr_left fun v hv => ?_;have:=a1 v hv;rw [ne v (by omega)]
  ·congr 1
   ·rw [List.filter_append]; simp
   ·refine List.map_congr_left fun v hv => ?_;have:=a2 v hv;rw [ne v (by omega)]
theorem filter_one {P:List Nat} (k v:Nat):([k].filter fun x=>P.getD x 0==v)=if P.getD k 0=v then [k] else []:=by
 by_cases h:P.getD k 0=v
 ·rw [if_pos h,List.filter_cons_of_pos (by rw [h]; simp)]; rfl
 ·rw [if_neg h,List.filter_cons_of_neg (by rw [beq_iff_eq]; exact h)]; rfl
theorem insG_filter {P:List Nat} {k:Nat} : ∀ {s:List Nat},SrtG (ltN P) s→∀ v,((insG (ltN P) k s).filter fun x=>P.getD x 0==v)=(s.filter fun x=>P.getD x 0==v)++(if P.getD k 0=v then [k] else [])
 | [],_,v=>by
  exact filter_one k v
 | y :: s,h,v=>by
  have h':=List.pairwise_cons.1 h;unfold insG;by_cases hlt:ltN P k y=true
  ·rw [if_pos hlt];by_cases hv:P.getD k 0=v
   ·have hz:((y :: s).filter fun x=>P.getD x 0==v)=[]:=by
     rw [List.filter_eq_nil_iff];intro x hx;have h1:P.getD k 0<P.getD y 0:=(by simpa [ltN] using hlt);have h2:P.getD y 0≤P.getD x 0:=by
      rcases List.mem_cons.1 hx with rfl | hx
      ·exact Nat.le_refl _
      ·have:=h'.1 x hx;simp [ltN] at this
       simpa using this
     have:P.getD x 0≠v:=by omega
     simpa using this
    rw [if_pos hv,List.filter_cons_of_pos (by simpa using hv),hz];rfl
   ·rw [if_neg hv,List.filter_cons_of_neg (by simpa using hv),List.append_nil]
  ·rw [if_neg hlt];have ih:=insG_filter (k:=k) h'.2 v;by_cases hy:P.getD y 0=v
   ·rw [List.filter_cons_of_pos (by simpa using hy),List.filter_cons_of_pos (by simpa using hy),ih];rfl
   ·rw [List.filter_cons_of_neg (by simpa using hy),List.filter_cons_of_neg (by simpa using hy),ih]
theorem sortG_filter (P L:List Nat) (v:Nat):((sortG (ltN P) L).filter fun x=>P.getD x 0==v)=L.filter fun x=>P.getD x 0==v:=by
 refine snoc_indG (P:=fun L=>((sortG (ltN P) L).filter fun x=>P.getD x 0==v)=L.filter fun x=>P.getD x 0==v) rfl (fun l x ih => ?_) L;rw [sortG_snoc,insG_filter (SrtG.sort (wkN P) l),ih,List.filter_append];rw [filter_one]
theorem grp_split (P:List Nat):∀ (q p:List Nat) (gs:List (List Nat)),SrtG (ltN P) (p++q)→IsSplit (fun x=>P.getD x 0) p gs→IsSplit (fun x=>P.getD x 0) (p++q) (grp P gs p.getLast? q)
 | [],p,gs,_,h=>by rw [List.append_nil]; exact h
 | k :: q,p,gs,hs,h=>by
  have e1:p++k :: q=(p++[k])++q:=(by simp);have e2:some k=(p++[k]).getLast?:=(by simp);unfold grp;rw [e1] at hs ⊢;rw [e2];refine grp_split P q (p++[k]) _ hs ?_;obtain ⟨hs0,k1,k2,rfl⟩:=h;have hle:∀ x∈p,P.getD x 0≤P.getD k 0:=by
   intro x hx;have:=(List.pairwise_append.1 (List.pairwise_append.1 hs).1).2.2 x hx k (by simp);simp [ltN] at this
   simpa using this
  have hall:∀ v∈hs0,v≤P.getD k 0:=by
   intro v hv;obtain ⟨x,hx,rfl⟩:=(k2 v).1 hv;exact hle x hx
  obtain ⟨h1,h2,a1,a2,e⟩:=sorted_cut (P.getD k 0) k1;have hnil:h2=[]:=by
   match h2,a2,e with
   | [],_,_=>rfl
   | z :: h2,a2,e =>
    have h3:=a2 z List.mem_cons_self;have h4:=hall z (by rcases e with rfl | rfl <;> simp);omega
  subst hnil;have key:=IsSplit.add k1 k2 a1 a2 e;rw [List.map_nil] at key;have hg:gstep P (hs0.map fun v=>p.filter fun x=>P.getD x 0==v) k p.getLast?=(h1.map fun v=>p.filter fun x=>P.getD x 0==v)++[p.filter (fun x=>P.getD x 0==P.getD k 0)++[k]]:=by
   rcases e with e | e
   ·have hno:∀ x∈p,P.getD x 0≠P.getD k 0:=by
     intro x hx hxe;have h5:P.getD k 0∈hs0:=(k2 _).2 ⟨x,hx,hxe⟩;rw [e,List.append_nil] at h5;have:=a1 _ h5;omega
    have hf:p.filter (fun x=>P.getD x 0==P.getD k 0)=[]:=by
     rw [List.filter_eq_nil_iff];intro x hx
     simpa using hno x hx
    have hn:newG P k p.getLast?=true:=by
     cases hl:p.getLast? with
     | none=>rfl
     | some z=>simpa [newG] using hno z (List.mem_of_getLast? hl)
    unfold gstep;rw [if_pos hn,hf,e];simp
   ·have hm:P.getD k 0∈hs0:=(by rw [e]; simp);obtain ⟨x,hx,hxe⟩:∃ x∈p,P.getD x 0=P.getD k 0:=(k2 _).1 hm;obtain ⟨z,hz⟩:∃ z,p.getLast?=some z:=by
     cases hl:p.getLast? with
     | none=>rw [List.getLast?_eq_none_iff] at hl; rw [hl] at hx; cases hx
     | some z=>exact ⟨z,rfl⟩
    have hpz:∃ p0,p=p0++[z]:=by
     obtain ⟨ys,hy⟩:=List.getLast?_eq_some_iff.1 hz;exact ⟨ys,hy⟩
    obtain ⟨p0,hp0⟩:=hpz;have hzk:P.getD z 0=P.getD k 0:=by
     have h6:=hle z (by rw [hp0]; simp);rw [hp0] at hx
     rcases List.mem_append.1 hx with hx | hx
     ·have h7:=(List.pairwise_append.1 (List.pairwise_append.1 hs).1).1;rw [hp0] at h7;have h8:=(List.pairwise_append.1 h7).2.2 x hx z (by simp);have h9:¬ P.getD z 0<P.getD x 0:=(by simpa [ltN] using h8);have h10:=hle z (by rw [hp0]; simp);omega
     ·rw [List.mem_singleton.1 hx] at hxe;exact hxe
    unfold gstep;rw [hz,if_neg (by rw [show newG P k (some z)=decide (P.getD z 0≠P.getD k 0) from rfl,hzk]; simp)];rw [e];simp
  rw [hg];exact key
theorem splitS_is (L P:List Nat):IsSplit (fun x=>P.getD x 0) L (splitS L P):=by
 have h:=grp_split P (sortG (ltN P) L) [] [] (by simpa using SrtG.sort (wkN P) L) ⟨[],by simp,by simp,by simp⟩;obtain ⟨hs,h1,h2,h3⟩:=h;refine ⟨hs,h1,fun v => ?_,?_⟩
 ·rw [h2];simp [mem_sortG]
 ·unfold splitS;rw [show ([]:List Nat).getLast?=none from rfl] at h3;rw [h3];refine List.map_congr_left fun v _ => ?_
  simpa using sortG_filter P L v
/- Lists of lists of numbers in memory: to be read, and of the call's own. No conditions. -/

def Nums (w:World) (S:Nat→Prop) (A:Option Addr) (l:List Nat):Prop:=Rd w S A ((nums l).map (Value.int .i64))∧l.length≤4294967296
def NN (w:World) (S:Nat→Prop) (A:Option Addr) (gs:List (List Nat)):Prop :=
 gs.length≤4294967296∧∃ hs:List Value,Rd w S A hs∧hs.length=gs.length∧∀ (i:Nat) (g:List Nat),gs[i]?=some g→∃ (B:Option Addr) (e:Nat),hs[i]?=some (Value.slice B g.length e)∧g.length≤e∧Nums w S B g
section
variable {w w':World} {S T:Nat→Prop} {A:Option Addr} {l:List Nat} {gs:List (List Nat)}
theorem nums_at {l:List Nat} {k:Nat} (h:k<l.length):((nums l).map (Value.int .i64))[k]?=some (.int .i64 ((l[k]:Nat):Int)):=by simp [nums,h]
theorem Nums.keep (h:Nums w S A l) (k:Kept S w w'):Nums w' S A l:=⟨h.1.keep k,h.2⟩
theorem Nums.mono (h:Nums w S A l) (k:∀ i,i<w.heap.size→S i→T i):Nums w T A l:=⟨h.1.mono k,h.2⟩
theorem Nums.at_ (h:Nums w S A l) {k:Nat} (hk:k<l.length):∃ b o,A=some ⟨b,o,none⟩∧b<w.heap.size∧w.cell? ⟨b,o+k,none⟩=some (.int .i64 ((l[k]:Nat):Int)):=h.1.at_ (nums_at hk)
theorem Nums.take (h:Nums w S A l) (k:Nat):Nums w S A (l.take k):=⟨by have:=h.1.take k; simpa [nums,List.map_take] using this,by have:=h.2; rw [List.length_take]; omega⟩
theorem NN.keep (h:NN w S A gs) (k:Kept S w w'):NN w' S A gs:=by
 obtain ⟨h0,hs,h1,h2,h3⟩:=h;refine ⟨h0,hs,h1.keep k,h2,fun i g hg => ?_⟩;obtain ⟨B,e,h4,h5,h6⟩:=h3 i g hg;exact ⟨B,e,h4,h5,h6.keep k⟩
theorem NN.mono (h:NN w S A gs) (k:∀ i,i<w.heap.size→S i→T i):NN w T A gs:=by
 obtain ⟨h0,hs,h1,h2,h3⟩:=h;refine ⟨h0,hs,h1.mono k,h2,fun i g hg => ?_⟩;obtain ⟨B,e,h4,h5,h6⟩:=h3 i g hg;exact ⟨B,e,h4,h5,h6.mono k⟩
theorem NN.at_ (h:NN w S A gs) {k:Nat} (hk:k<gs.length):∃ b o B e,A=some ⟨b,o,none⟩∧b<w.heap.size∧w.cell? ⟨b,o+k,none⟩=some (.slice B gs[k].length e)∧gs[k].length≤e∧Nums w S B gs[k]:=by
 obtain ⟨h0,hs,h1,h2,h3⟩:=h;obtain ⟨B,e,h4,h5,h6⟩:=h3 k gs[k] (List.getElem?_eq_getElem hk);obtain ⟨b,o,e1,e2,e3⟩:=h1.at_ h4;exact ⟨b,o,B,e,e1,e2,e3,h5,h6⟩
theorem NN.nil:NN w S A []:=⟨by simp,[],.inl rfl,rfl,by simp⟩
theorem OwnN.nums {base c:Nat} (h:OwnN w base A c l) (hl:l.length≤4294967296):Nums w (fun b=>ob A=some b) A l:=⟨Own.rd h,hl⟩
theorem Own.put {base e sz n c g i:Nat} {xs:List Value} (h:Own w base e sz (some ⟨g,0,none⟩) n c xs) (u:Value):Own (w.setCell ⟨g,i,none⟩ u) base e sz (some ⟨g,0,none⟩) n c (xs.set i u):=by
 refine ⟨by rw [List.length_set]; exact h.1,?_⟩
 rcases h.2 with ⟨hv,h0⟩ | ⟨g',cap,cur,hv,hb,hh,hnc,hcm,hcs,ht⟩
 ·cases hv
 ·injection hv with hv1 hv2 hv3;injection hv1 with hv1;injection hv1 with hv1;subst hv1 hv3;refine .inr ⟨g,c,cur.setIfInBounds i u,rfl,hb,Blk.set hh i u,hnc,hcm,by simpa using hcs,?_⟩;rw [Array.toList_setIfInBounds,List.take_set,ht]
end

def hdr (bs:List (Nat × Nat)) (gs:List (List Nat)):List Value:=List.zipWith (fun b g=>Value.slice (some ⟨b.1,0,none⟩) g.length b.2) bs gs
structure Parts (w:World) (base:Nat) (bs:List (Nat × Nat)) (gs:List (List Nat)):Prop where
 len:bs.length=gs.length
 own:∀ (i:Nat) (b:Nat × Nat) (g:List Nat),bs[i]?=some b→gs[i]?=some g→OwnN w base (some ⟨b.1,0,none⟩) b.2 g
 nd:(bs.map (·.1)).Nodup
def OwnNN (w:World) (base:Nat) (A:Option Addr) (c:Nat) (gs:List (List Nat)):Prop :=
 ∃ bs,Parts w base bs gs∧Own w base 26 1 A gs.length c (hdr bs gs)∧∀ b∈bs,ob A≠some b.1
section
variable {w w':World} {base c:Nat} {A:Option Addr} {bs:List (Nat × Nat)} {gs:List (List Nat)}
theorem Parts.keep (h:Parts w base bs gs) (hk:Kept (fun b=>b∈bs.map (·.1)) w w'):Parts w' base bs gs :=
 ⟨h.len,fun i b g hb hg=>Own.keep (h.own i b g hb hg) (hk.mono fun x _ hx=>by
  have:x=b.1:=(by simp [ob] at hx; exact hx.symm);rw [this];exact List.mem_map.2 ⟨b,List.mem_of_getElem? hb,rfl⟩),h.nd⟩
theorem Parts.nil:Parts w base [] []:=⟨rfl,by simp,by simp⟩
theorem hdr_len (h:bs.length=gs.length):(hdr bs gs).length=gs.length:=by simp [hdr,h]
theorem hdr_at {i:Nat} {b:Nat × Nat} {g:List Nat} (hb:bs[i]?=some b) (hg:gs[i]?=some g):(hdr bs gs)[i]?=some (.slice (some ⟨b.1,0,none⟩) g.length b.2):=by
 simp [hdr,List.getElem?_zipWith,hb,hg]
theorem hdr_set (i:Nat) (b:Nat × Nat) (g:List Nat):(hdr bs gs).set i (.slice (some ⟨b.1,0,none⟩) g.length b.2)=hdr (bs.set i b) (gs.set i g):=by
 apply List.ext_getElem?;intro j;by_cases hj:i=j
 ·subst hj;simp only [hdr,List.getElem?_zipWith,List.getElem?_set_self'];cases h1:bs[i]? <;> cases h2:gs[i]? <;> simp
 ·simp only [hdr,List.getElem?_zipWith,List.getElem?_set_ne hj]
theorem hdr_app {bs2:List (Nat × Nat)} {gs2:List (List Nat)} (h:bs.length=gs.length):hdr (bs++bs2) (gs++gs2)=hdr bs gs++hdr bs2 gs2:=by
 simp [hdr,List.zipWith_append h]
theorem Parts.lt (h:Parts w base bs gs):∀ b∈bs,base≤b.1∧b.1<w.heap.size:=by
 intro b hb;obtain ⟨i,hi,rfl⟩:=List.mem_iff_getElem.1 hb;have:=h.own i bs[i] (gs[i]'(by rw [← h.len]; exact hi)) (List.getElem?_eq_getElem hi) (List.getElem?_eq_getElem (by rw [← h.len]; exact hi));exact Own.blk this rfl
theorem OwnNN.ext (h:OwnNN w base A c gs) (hx:Ext w w'):OwnNN w' base A c gs:=by
 obtain ⟨bs,h1,h2,h3⟩:=h;exact ⟨bs,h1.keep (hx.kept _),Own.ext h2 hx,h3⟩
theorem OwnNN.nil (w:World) (base:Nat):OwnNN w base none 0 []:=⟨[],Parts.nil,Own.nil _ _ _ _,by simp⟩
theorem OwnNN.blk (h:OwnNN w base A c gs) {k:Nat} (hk:ob A=some k):base≤k∧k<w.heap.size:=by
 obtain ⟨bs,h1,h2,h3⟩:=h;exact Own.blk h2 hk
theorem OwnNN.nn (h:OwnNN w base A c gs) (hl:gs.length≤4294967296) (hg:∀ g∈gs,g.length≤4294967296):NN w (fun b=>base≤b) A gs:=by
 obtain ⟨bs,h1,h2,h3⟩:=h;refine ⟨hl,hdr bs gs,h2.rd.mono fun b _ hb=>(Own.blk h2 hb).1,hdr_len h1.len,fun i g hi => ?_⟩;have hib:i<bs.length:=by
  rw [h1.len]
  rcases Nat.lt_or_ge i gs.length with h | h
  ·exact h
  ·rw [List.getElem?_eq_none h] at hi; cases hi
 have ho:=h1.own i bs[i] g (List.getElem?_eq_getElem hib) hi;refine ⟨_,_,hdr_at (List.getElem?_eq_getElem hib) hi,Own.cap ho,(OwnN.nums ho (hg g (List.mem_of_getElem? hi))).mono fun b _ hb=>(Own.blk ho hb).1⟩
theorem Own.some_ {e sz n:Nat} {xs:List Value} (h:Own w base e sz A n c xs) (hn:0<n):∃ g,A=some ⟨g,0,none⟩:=by
 rcases h.2 with ⟨hv,h0⟩ | ⟨g',cap,cur,hv,_⟩
 ·omega
 ·injection hv with hv1;exact ⟨g',hv1⟩
theorem OwnNN.grow {gA i:Nat} {b:Nat × Nat} {g g2:List Nat} {A2:Option Addr} {c2:Nat} {w1 w2:World} (h1:Parts w base bs gs) (h2:Own w base 26 1 (some ⟨gA,0,none⟩) gs.length c (hdr bs gs)) (h3:∀ b∈bs,gA≠b.1)
  (hb:bs[i]?=some b) (_hg:gs[i]?=some g) (hx:Ext w w1) (ho:OwnN w2 base A2 c2 g2) (hgr:w1.grownBy w2 (some b.1)) (hat:ob A2=some b.1∨ob A2=some w1.heap.size) (hne:0<g2.length) :
  OwnNN (w2.setCell ⟨gA,i,none⟩ (.slice A2 g2.length c2)) base (some ⟨gA,0,none⟩) c (gs.set i g2):=by
 obtain ⟨x,rfl⟩:=Own.some_ ho hne;have hx':x=b.1∨x=w1.heap.size:=(by simpa [ob] using hat);have hbm:b∈bs:=List.mem_of_getElem? hb;have hblt:=h1.lt b hbm;have hgA:=Own.blk h2 (k:=gA) rfl;have hgb:=h3 b hbm;have hxz:=hx.size;have hxA:gA≠x:=(by rcases hx' with rfl | rfl <;> omega);have hk1:∀ S:Nat→Prop,(∀ y,S y→y<w.heap.size→y≠b.1)→Kept S w w2:=fun S hS=>(hx.kept S).trans (Kept.of_grown hgr fun y hy _ hyb=>by
  have hyb':y=b.1:=Option.some.inj hyb;exact hS y hy (by omega) hyb')
 have hi:i<bs.length:=by
  rcases Nat.lt_or_ge i bs.length with h | h
  ·exact h
  ·rw [List.getElem?_eq_none h] at hb; cases hb
 have hbi:bs[i]=b:=(by rw [List.getElem?_eq_getElem hi] at hb; exact Option.some.inj hb);have hne2:∀ (j:Nat) (d:Nat × Nat),bs[j]?=some d→j≠i→d.1≠b.1:=by
  intro j d hd hji e;have hj:j<bs.length:=by
   rcases Nat.lt_or_ge j bs.length with h | h
   ·exact h
   ·rw [List.getElem?_eq_none h] at hd; cases hd
  have hdj:bs[j]=d:=(by rw [List.getElem?_eq_getElem hj] at hd; exact Option.some.inj hd);have:=(List.getElem_inj (xs:=bs.map (·.1)) (i:=j) (j:=i) (h₀:=by simpa using hj) (h₁:=by simpa using hi) h1.nd).1 (by simp [hdj,hbi,e]);exact hji this
 refine ⟨bs.set i (x,c2),⟨by simp [h1.len],fun j d g' hd hg' => ?_,?_⟩,?_,?_⟩
 ·by_cases hji:j=i
  ·subst hji;rw [List.getElem?_set_self hi] at hd;rw [List.getElem?_set_self (by rw [← h1.len]; exact hi)] at hg';obtain rfl:=Option.some.inj hd;obtain rfl:=Option.some.inj hg';exact Own.set ho (by simp [ob]; omega) _
  ·rw [List.getElem?_set_ne (fun e=>hji e.symm)] at hd hg';have hd':=h1.own j d g' hd hg';have hdA:gA≠d.1:=h3 d (List.mem_of_getElem? hd);refine Own.set (Own.keep hd' (hk1 _ fun y hy _ => ?_)) (by simp [ob]; omega) _;simp [ob] at hy;rw [← hy];exact hne2 j d hd hji
 ·rw [List.map_set];rw [List.nodup_iff_pairwise_ne,List.pairwise_iff_getElem];intro p q hp hq hpq;simp only [List.length_set,List.length_map] at hp hq;have hlt:∀ (j:Nat) (hj:j<bs.length),j≠i→bs[j].1≠x:=by
   intro j hj hji;have:=hne2 j bs[j] (List.getElem?_eq_getElem hj) hji;have:=(h1.lt bs[j] (List.getElem_mem hj)).2
   rcases hx' with rfl | rfl <;> omega
  rw [List.getElem_set,List.getElem_set];split
  ·subst_vars
   rw [if_neg (by omega),List.getElem_map];exact fun e=>hlt q (by simpa using hq) (by omega) e.symm
  ·split
   ·subst_vars
    rw [List.getElem_map];exact fun e=>hlt p (by simpa using hp) (by omega) e
   ·rw [List.getElem_map,List.getElem_map];intro e;have:=(List.getElem_inj (xs:=bs.map (·.1)) (i:=p) (j:=q) (h₀:=by simpa using hp) (h₁:=by simpa using hq) h1.nd).1 (by simpa using e);omega
 ·have h4:=Own.put (i:=i) (Own.keep h2 (hk1 _ fun y hy _=>by simp [ob] at hy; omega)) (.slice (some ⟨x,0,none⟩) g2.length c2);rw [hdr_set i (x,c2) g2] at h4
  simpa using h4
 ·intro d hd
  rcases List.mem_or_eq_of_mem_set hd with hd | rfl
  ·have:=h3 d hd
   simpa [ob] using this
  ·simpa [ob] using hxA
theorem OwnNN.push {gA:Nat} {g2:List Nat} {A2:Option Addr} {c2:Nat} {w1 w2:World} (h1:Parts w base bs gs) (h2:Own w base 26 1 (some ⟨gA,0,none⟩) (gs.length+1) c (hdr bs gs++[.slice none 0 0])) (h3:∀ b∈bs,gA≠b.1)
  (hx:Ext w w1) (ho:OwnN w2 base A2 c2 g2) (hgr:w1.grownBy w2 none) (hat:ob A2=none∨ob A2=some w1.heap.size) (hne:0<g2.length) :
  OwnNN (w2.setCell ⟨gA,gs.length,none⟩ (.slice A2 g2.length c2)) base (some ⟨gA,0,none⟩) c (gs++[g2]):=by
 obtain ⟨x,rfl⟩:=Own.some_ ho hne;have hx':x=w1.heap.size:=(by simpa [ob] using hat);have hgA:=Own.blk h2 (k:=gA) rfl;have hxz:=hx.size;have hk1:∀ S:Nat→Prop,Kept S w w2:=fun S=>(hx.kept S).trans (Kept.of_grown hgr fun y hy _ hyb=>by cases hyb);refine ⟨bs++[(x,c2)],⟨by simp [h1.len],fun j d g' hd hg' => ?_,?_⟩,?_,?_⟩
 ·rcases Nat.lt_or_ge j bs.length with hj | hj
  ·rw [List.getElem?_append_left hj] at hd;rw [List.getElem?_append_left (by rw [← h1.len]; exact hj)] at hg';have hd':=h1.own j d g' hd hg';have hdA:gA≠d.1:=h3 d (List.mem_of_getElem? hd);exact Own.set (Own.keep hd' (hk1 _)) (by simp [ob]; omega) _
  ·rw [List.getElem?_append_right hj] at hd;rw [List.getElem?_append_right (by rw [← h1.len]; exact hj),← h1.len] at hg';have hj0:j-bs.length=0:=by
    rcases Nat.eq_zero_or_pos (j-bs.length) with h0 | h0
    ·exact h0
    ·rw [List.getElem?_eq_none (by simp; omega)] at hd; cases hd
   rw [hj0] at hd hg';obtain rfl:=Option.some.inj hd;obtain rfl:=Option.some.inj hg';exact Own.set ho (by simp [ob]; omega) _
 ·rw [List.map_append,List.nodup_append];refine ⟨h1.nd,by simp,fun a ha b hb => ?_⟩;simp at hb;obtain ⟨d,hd,rfl⟩:=List.mem_map.1 ha;have:=(h1.lt d hd).2;omega
 ·have h4:=Own.put (i:=gs.length) (Own.keep h2 (hk1 _)) (.slice (some ⟨x,0,none⟩) g2.length c2);have e:(hdr bs gs++[Value.slice none 0 0]).set gs.length (.slice (some ⟨x,0,none⟩) g2.length c2)=hdr (bs++[(x,c2)]) (gs++[g2]):=by
   rw [hdr_app h1.len,List.set_append_right _ _ (by rw [hdr_len h1.len]; exact Nat.le_refl _),hdr_len h1.len,Nat.sub_self];rfl
  rw [e] at h4
  simpa using h4
 ·intro d hd
  rcases List.mem_append.1 hd with hd | hd
  ·have:=h3 d hd
   simpa [ob] using this
  ·simp at hd;subst hd;simp [ob];omega
end
section
variable {w:World} {base e sz n c g:Nat} {xs:List Value}
theorem Own.cell_ (h:Own w base e sz (some ⟨g,0,none⟩) n c xs) {j:Nat} {u:Value} (hj:xs[j]?=some u):w.cell? ⟨g,j,none⟩=some u:=by
 obtain ⟨b,o,e1,_,e3⟩:=h.rd.at_ hj;injection e1 with e1;injection e1 with e1 e2;subst e1 e2;rwa [Nat.zero_add] at e3
theorem Own.lt_ (h:Own w base e sz (some ⟨g,0,none⟩) n c xs):g<w.heap.size:=(Own.blk h rfl).2
theorem Own.frozen_ (h:Own w base e sz (some ⟨g,0,none⟩) n c xs) (i:Nat):w.frozen? ⟨g,i,none⟩=false:=by
 rcases h.2 with ⟨hv,_⟩ | ⟨g',cap,cur,hv,_,hh,_⟩
 ·cases hv
 ·injection hv with hv1;injection hv1 with hv1;injection hv1 with hv1;subst hv1;exact Blk.frozen hh i
end
theorem OwnNN.lower {w:World} {base base' c:Nat} {A:Option Addr} {gs:List (List Nat)} (h:OwnNN w base A c gs) (hb:base'≤base):OwnNN w base' A c gs:=by
 obtain ⟨bs,h1,h2,h3⟩:=h;exact ⟨bs,⟨h1.len,fun i b g hi hg=>Own.lower (h1.own i b g hi hg) hb,h1.nd⟩,Own.lower h2 hb,h3⟩
theorem infoN:(Tryz.prog.info? 26).map (fun i=>(i.zero,i.size,i.bytes))=some (some (.slice none 0 0),1,24):=by kernel_rfl
theorem tiN:TI Tryz.prog 22 26 1 24:=TI.mk_ Tryz.underlying22 infoN rfl (by decide)
/- Memory of which some blocks may change. No conditions. -/

structure ButS (S:Nat→Prop) (w w':World):Prop where
 os:w'.os=w.os
 tape:w'.tape=w.tape
 output:w'.output=w.output
 size:w.heap.size≤w'.heap.size
 block:∀ b,b<w.heap.size→¬ S b→w'.heap[b]?=w.heap[b]?
section
variable {S T:Nat→Prop} {w w' w'':World}
theorem ButS.refl (S:Nat→Prop) (w:World):ButS S w w:=⟨rfl,rfl,rfl,Nat.le_refl _,fun _ _ _=>rfl⟩
theorem ButS.trans2 (h:ButS S w w') (k:ButS T w' w'') (hT:∀ b,b<w.heap.size→T b→S b):ButS S w w'' :=
 ⟨k.os.trans h.os,k.tape.trans h.tape,k.output.trans h.output,Nat.le_trans h.size k.size,fun b hb hg=>(k.block b (Nat.lt_of_lt_of_le hb h.size) fun e=>hg (hT b hb e)).trans (h.block b hb hg)⟩
theorem ButS.trans (h:ButS S w w') (k:ButS S w' w''):ButS S w w'':=h.trans2 k fun _ _ e=>e
theorem ButS.mono (h:ButS S w w') (hT:∀ b,b<w.heap.size→S b→T b):ButS T w w':=⟨h.os,h.tape,h.output,h.size,fun b hb hg=>h.block b hb fun e=>hg (hT b hb e)⟩
theorem ButS.of_ext (h:Ext w w'):ButS S w w':=⟨h.os,h.tape,h.output,h.size,fun b hb _=>h.block b hb⟩
theorem ButS.but {g:Nat} (h:ButS S w w') (hg:∀ b,b<w.heap.size→S b→b=g):But g w w':=⟨h.os,h.tape,h.output,h.size,fun b hb hn=>h.block b hb fun e=>hn (hg b hb e)⟩
theorem ButS.kept (h:ButS S w w') (hS:∀ b,b<w.heap.size→T b→¬ S b):Kept T w w':=⟨h.size,fun b hb hl=>h.block b hl (hS b hl hb)⟩
theorem ButS.ext (h:ButS S w w') (hg:∀ b,S b→w.heap.size≤b):Ext w w':=⟨h.os,h.tape,h.output,h.size,fun b hb=>h.block b hb fun e=>by have:=hg b e; omega⟩
theorem ButS.exts {a:World} (h:Ext a w) (k:ButS S w w') (hg:∀ b,S b→a.heap.size≤b):Ext a w':=⟨k.os.trans h.os,k.tape.trans h.tape,k.output.trans h.output,Nat.le_trans h.size k.size,fun b hb=>(k.block b (Nat.lt_of_lt_of_le hb h.size) fun e=>by have:=hg b e; omega).trans (h.block b hb)⟩
theorem ButS.grown {row:Option Nat} (h:ButS S w w') (hg:w'.grownBy w'' row) (hr:∀ k,row=some k→S k∨w.heap.size≤k):ButS S w w'':=⟨hg.os.trans h.os,hg.tape.trans h.tape,hg.output.trans h.output,Nat.le_trans h.size hg.size,fun b hb hx=>(hg.block b (Nat.lt_of_lt_of_le hb h.size) fun e=>by
 rcases hr b e.symm with h1 | h1
 ·exact hx h1
 ·omega).trans (h.block b hb hx)⟩
theorem ButS.set {b i:Nat} {u:Value} (h:ButS S w w') (hb:S b∨w.heap.size≤b):ButS S w (w'.setCell ⟨b,i,none⟩ u):=⟨h.os,h.tape,h.output,by simpa [World.setCell] using h.size,fun x hx hg=>(Below.heap_setCell _ _ _ _ (by
 show x≠b;rintro rfl
 rcases hb with h1 | h1
 ·exact hg h1
 ·omega)).trans (h.block x hx hg)⟩
theorem ButS.alloc (h:ButS S w w') (o:Obj):ButS S w (w'.alloc o):=h.trans (ButS.of_ext ((Ext.refl _).alloc o))
theorem ButS.drew (h:ButS S w w'):ButS S w w'.drew:=h.trans (ButS.of_ext ((Ext.refl _).drew))
theorem ButS.drewN (h:ButS S w w') (n:Nat):ButS S w (w'.drewN n):=h.trans (ButS.of_ext ((Ext.refl _).drewN n))
theorem ButS.cell (h:ButS S w w') {p:Addr} {u:Value} (hp:¬ S p.block) (hc:w.cell? p=some u):w'.cell? p=some u:=by
 have hl:p.block<w.heap.size:=by
  unfold World.cell? at hc
  rcases Nat.lt_or_ge p.block w.heap.size with h1 | h1
  ·exact h1
  ·rw [Array.getElem?_eq_none h1] at hc; cases hc
 rw [World.cell?_of_block (w:=w) (h.block _ hl hp)]; exact hc
theorem ButS.blk {b t:Nat} {cs:Array Value} (h:ButS S w w') (hb:Blk w b t cs) (hg:¬ S b):Blk w' b t cs:=hb.keep (h.kept fun x _ e=>by rw [e]; exact hg)
end
/- question.split: the parts of programs by their places. Conditions: the arguments read as data; the places of the programs are there. -/

def RetNN (w:World) (gs:List (List Nat)) (e:Ending) (w':World):Prop:=∃ (A:Option Addr) (c:Nat),e=.returned (.slice A gs.length c)∧OwnNN w' w.heap.size A c gs∧Ext w w'
theorem OwnN.blk {w:World} {base c:Nat} {A:Option Addr} {l:List Nat} (h:OwnN w base A c l) (hl:l≠[]):∃ g tl,A=some ⟨g,0,none⟩∧base≤g∧Blk w g 3 (dcells l++tl):=by
 rcases h.2 with ⟨_,h0⟩ | ⟨g,cap,cur,hv,hb,hh,_,_,_,ht⟩
 ·exact absurd (List.eq_nil_of_length_eq_zero h0) hl
 ·injection hv with hv1;refine ⟨g,(cur.toList.drop l.length).toArray,hv1,hb,?_⟩;have e:cur=dcells l++(cur.toList.drop l.length).toArray:=by
   apply Array.toList_inj.1;rw [Array.toList_append,List.toList_toArray];have h2:(dcells l).toList=cur.toList.take l.length:=(by rw [Nat.mul_one] at ht; rw [ht]; simp [dcells]);rw [h2,List.take_append_drop]
  unfold Blk;rw [hh];exact congrArg (fun c=>some (Obj.cells c 3 (0,0))) e
set_option maxRecDepth 100000 in
theorem slices_CloneI (b:Addr) (c:Nat) (l:List Nat) (w:World) (S:Nat→Prop) (h:Nums w S (some b) l) :
  Calls Tryz.prog 113 #[.slice (some b) l.length c] w (RetN w l):=by
 have hn:=h.2;have hnil:=fun w:World=>Lib.run_eql_slice_nil w 26 3 (some b) l.length c 0 0 Tryz.underlying26;have HH:=Hd h;clear h
 go_enter Tryz.func113,Tryz.ntmps113
 go_wp2_with (at_builtin; refine wpList_app rfl (.tmp 5) (.tmp 6) rfl tiI rfl ((World.ownsRow_made w #[] 0 (Nat.le_refl _) (by unfold maxLen; omega) rfl)) rfl (HH.o.1.keep (Kept.alloc _ _ _)) (by simp [nums]) (by simp [Value.oneCell']) (by omega) (by decide) (by simp) ?_; intro A' c' w1 hown hg hat)
 go_ret;simp only [Nat.zero_add,List.nil_append] at hown;exact ⟨A',c',rfl,hown,((Ext.refl w).alloc _).grown hg (fun k hk=>by simp [ob] at hk; omega)⟩
theorem mem_last {P:List Nat} {gs:List (List Nat)} {k:Nat} {p:Option Nat} (h:newG P k p=false):gstep P gs k p=gs.set (gs.length-1) (gs.getD (gs.length-1) []++[k]):=by unfold gstep; rw [if_neg (by rw [h]; simp)]
set_option maxRecDepth 100000 in
set_option maxHeartbeats 4000000 in
theorem question_split (b:Addr) (c:Nat) (l:List Nat) (B:Option Addr) (pc:Nat) (P:List Nat) (w:World) (S:Nat→Prop) (h:Nums w S (some b) l) (hp:Nums w S B P) (hne:l≠[]) (hl:l.length<20) (hm:∀ x∈l,x<P.length) (hP:∀ x∈P,x≤4294967296) :
  Calls Tryz.prog 63 #[.slice (some b) l.length c,.slice B P.length pc] w (RetNN w (splitS l P)):=by
 obtain ⟨n,en⟩:∃ n,n=l.length:=⟨_,rfl⟩;obtain ⟨np,enp⟩:∃ np,np=P.length:=⟨_,rfl⟩;have HN:=Hd en;have HNP:=Hd enp;have hpl:=hp.2;obtain ⟨w0,hw0⟩:∃ w0,w0=w.alloc (.cells #[.slice B np pc] 26):=⟨_,rfl⟩;obtain ⟨bP,hbP⟩:∃ b,b=w.heap.size:=⟨_,rfl⟩;have HW0:=Hd hw0;have HBP:=Hd hbP;have HX0:=Hd (show Ext w w0 by rw [hw0]; exact (Ext.refl w).alloc _);have HB1:=Hd (show Blk w0 bP 26 #[.slice B np pc] by rw [hw0,hbP]; exact Blk.new _ _ _);have H:=Hd (h.keep (HX0.o.kept S));obtain ⟨pb,po,hPB,hpb,hPc⟩:∃ pb po,B=some ⟨pb,po,none⟩∧pb<w.heap.size∧∀ x,∀ hx:x<P.length,w.cell? ⟨pb,po+x,none⟩=some (.int .i64 ((P[x]:Nat):Int)):=by
  match l,hne,hm with
  | x :: l,_,hm =>
   have hx:=hm x (by simp)
   rcases hp.1.some_ (by intro e; have:=congrArg List.length e; simp [nums] at this; rw [this] at hx; simp at hx) with ⟨pb,po,e1,_,e3,e4⟩
   exact ⟨pb,po,e1,e3,fun x hx=>e4 x _ (nums_at hx)⟩
 subst hPB;have HPC:=Hd hPc;have HPB:=Hd hpb;have HM:=Hd hm;have HPS:=Hd hP;have HNE:=Hd hne;rw [← en] at hl;rw [← enp] at hpl;rw [← en,← enp];clear h hp hm hP hw0 hbP en enp hPc hpb hne
 go_enter Tryz.func63,Tryz.ntmps63
 go_wp2_with fail
 rw [← HW0.o];rw [← HBP.o];rw [HN.o];refine (slices_CloneI b c l w0 S H.o).mono ?_;rintro e1 w1 ⟨A1,c1,rfl,ho1,hx1⟩;rw [← HN.o];obtain ⟨g,tl,rfl,hg,hb1⟩:=OwnN.blk ho1 HNE.o;have HX1:=Hd (HX0.o.trans hx1);have HXa:=Hd hx1;have HG:=Hd hg;have HB:=Hd hb1;clear hg hb1 hx1 ho1
 go_wp2_with fail
 refine (SortStable_Q g c1 bP tl l (ltN P) (wkN P) n HN.o hl w1 HB.o (fun w' hbut x hx y hy => ?_)).mono ?_
 ·have hx':=HM.o x hx;have hy':=HM.o y hy;have hg0:=HG.o;have z1:=HB1.o.lt;have hxp:=HX0.o.size;have hpb:=HPB.o;have hk0:Kept (fun b=>b<w0.heap.size) w1 w':=hbut.kept (fun b _ hb=>by omega);have hkk:Kept (fun b=>b<w0.heap.size) w0 w':=(HXa.o.kept _).trans hk0;refine split_1 P pb po pc x y bP w' ?_ ?_ ?_ hx' hy' (by rw [← HNP.o]; exact hpl) HPS.o
  ·rw [← HNP.o]; exact (HB1.o.keep (hkk.mono fun b _ e=>by rw [e]; exact z1)).cell (i:=0) rfl
  ·rw [getD_of _ _ _ hx'];exact hkk.cell (p:=⟨pb,po+x,none⟩) (by show pb<_; omega) (HX0.o.cell (HPC.o x hx'))
  ·rw [getD_of _ _ _ hy'];exact hkk.cell (p:=⟨pb,po+y,none⟩) (by show pb<_; omega) (HX0.o.cell (HPC.o y hy'))
 rintro e2 w2 ⟨rfl,hbut,hb2⟩;obtain ⟨s,hs⟩:∃ s,s=sortG (ltN P) l:=⟨_,rfl⟩;rw [← hs] at hb2;have HSE:=Hd (show splitS l P=grp P [] none s by rw [hs]; rfl);have HSL:=Hd (show s.length=n by rw [hs,len_sortG,HN.o]);have HSM:=Hd (show ∀ x∈s,x<np by intro x hx; rw [hs,mem_sortG] at hx; rw [HNP.o]; exact HM.o x hx);have hzz:w0.heap.size≤g:=HG.o;have hz0:=HX0.o.size;have z1:=HB1.o.lt;have hpb:=HPB.o;have hkk:Kept (fun b=>b<w0.heap.size) w0 w2:=(HXa.o.kept _).trans (hbut.kept fun b _ hb=>by omega);have HX2:=Hd (But.exts HX1.o hbut (by omega));have C2:=Hd (show w2.cell? ⟨bP,0,none⟩=some (.slice (some ⟨pb,po,none⟩) np pc) from (HB1.o.keep (hkk.mono fun b _ e=>by rw [e]; exact z1)).cell (i:=0) rfl);have P2:=Hd (show ∀ x,∀ hx:x<P.length,w2.cell? ⟨pb,po+x,none⟩=some (.int .i64 ((P[x]:Nat):Int)) from fun x hx=>hkk.cell (p:=⟨pb,po+x,none⟩) (by show pb<_; omega) (HX0.o.cell (HPC.o x hx)));have HS2:=Hd hb2;clear hbut hb2 hs hzz hz0 z1 hpb hkk HB HXa H HB1 HPC HPB HX1 HG HM HX0 HW0 HBP;go_wp2
 go_loopw [6,17] (fun t i wr=>∃ (k:Nat) (gs:List (List Nat)) (A:Option Addr) (c:Nat),k≤n∧gs.length≤k∧(0<k→0<gs.length)∧(∀ g∈gs,g.length≤k)∧t=.slice A gs.length c∧i=.int .i64 (k:Int)∧Ext w2 wr∧OwnNN wr w2.heap.size A c gs∧grp P gs (if k=0 then none else some (s.getD (k-1) 0)) (s.drop k)=splitS l P) (fun _ i _=>n-(intOf i).toNat)
 case atStart=>exact ⟨0,[],none,0,Nat.zero_le _,Nat.zero_le _,by simp,by simp,rfl,rfl,Ext.refl _,OwnNN.nil _ _,by rw [if_pos rfl,List.drop_zero]; exact HSE.o.symm⟩
 case round =>
  obtain ⟨k,gs,A,c,hk,hgl,hgp,hgk,rfl,rfl,hx,hown,hgr⟩:=hrel;have HGK:=Hd hgk;have HX:=Hd hx;have HO:=Hd hown;have HGR:=Hd hgr;have HGP:=Hd hgp;clear hx hown hgr hgp hgk;by_cases hlt:k<n
  ·have hks:k<s.length:=(by rw [HSL.o]; exact hlt);obtain ⟨x,ex⟩:∃ x,x=s[k]:=⟨_,rfl⟩;have hxn:x<np:=(by rw [ex]; exact HSM.o _ (List.getElem_mem hks));have HE:=Hd ex;have HD:=Hd (show s.drop k=x :: s.drop (k+1) by rw [ex]; exact List.drop_eq_getElem_cons hks);have s0:=(HS2.o.keep (HX.o.kept _)).cell (i:=k) (u:=.int .i64 (x:Int)) (by rw [dcellsA_at hks,getD_of _ _ _ hks,← ex]);have i0:(0:Int)≤(k:Int):=(by omega);have i1:(k:Int)<(n:Int):=(by omega);have i2:(0:Int)≤(x:Int):=(by omega);have i3:(x:Int)<(np:Int):=(by omega);clear ex;by_cases hk0:k=0
   ·have HK0:=Hd hk0;clear hk0
    go_upto_region 7 with fail
    refine wp_region_chain (by kernel_rfl) (fun i=>[i]) (by kernel_rfl) (LX (fun _ _=>False)) (LX.refl _) (LX.trans _) (LM []) gh0 (LM.zero _) ?_;apply Chain.pure (LX.refl _) (by rfl)
    ·intro vals γ w' ρ hR hN hp hρ hc hf hg;refine ⟨rfl,?_⟩;have e7:=hρ 7;(conv at e7=>rhs; whnf);clear hR hN hp hρ;go_light;go_simp;exact ⟨rfl,rfl⟩
    ·rfl
    apply Chain.pure (LX.refl _) (by rfl)
    ·intro vals γ w' ρ hR hN hp hρ hc hf hg;refine ⟨rfl,?_⟩;have e22:ρ (.tmp 22)=_:=(hρ 22).trans (hp 0 (by decide));have z0:=HK0.o;clear hR hN hp hρ;go_light;go_simp;exact ⟨rfl,rfl⟩
    ·rfl
    apply Chain.pure (LX.refl _) (by rfl)
    ·intro vals γ w' ρ hR hN hp hρ hc hf hg;refine ⟨rfl,?_⟩;have e23:ρ (.tmp 23)=_:=(hρ 23).trans (hp 1 (by decide));clear hR hN hp hρ;go_light;go_simp;exact ⟨rfl,rfl⟩
    ·rfl
    refine Chain.no (by rfl) (by rfl) ?_ ?_
    ·intro vals γ w' hp;show (boolOf (vals 2)==some false)=false;rw [show vals 2=.bool true from hp 2 (by decide)]; rfl
    refine Chain.no (by rfl) (by rfl) ?_ ?_
    ·intro vals γ w' hp;show (boolOf (vals 2)==some false)=false;rw [show vals 2=.bool true from hp 2 (by decide)]; rfl
    refine Chain.no (by rfl) (by rfl) ?_ ?_
    ·intro vals γ w' hp;show (boolOf (vals 2)==some false)=false;rw [show vals 2=.bool true from hp 2 (by decide)]; rfl
    refine Chain.no (by rfl) (by rfl) ?_ ?_
    ·intro vals γ w' hp;show (boolOf (vals 2)==some false)=false;rw [show vals 2=.bool true from hp 2 (by decide)]; rfl
    refine Chain.no (by rfl) (by rfl) ?_ ?_
    ·intro vals γ w' hp;show (boolOf (vals 2)==some false)=false;rw [show vals 2=.bool true from hp 2 (by decide)]; rfl
    refine Chain.no (by rfl) (by rfl) ?_ ?_
    ·intro vals γ w' hp;show (boolOf (vals 2)==some false)=false;rw [show vals 2=.bool true from hp 2 (by decide)]; rfl
    refine Chain.no (by rfl) (by rfl) ?_ ?_
    ·intro vals γ w' hp;show (boolOf (vals 2)==some false)=false;rw [show vals 2=.bool true from hp 2 (by decide)]; rfl
    refine Chain.no (by rfl) (by rfl) ?_ ?_
    ·intro vals γ w' hp;show (boolOf (vals 2)==some false)=false;rw [show vals 2=.bool true from hp 2 (by decide)]; rfl
    refine Chain.no (by rfl) (by rfl) ?_ ?_
    ·intro vals γ w' hp;show (boolOf (vals 2)==some false)=false;rw [show vals 2=.bool true from hp 2 (by decide)]; rfl
    refine Chain.no (by rfl) (by rfl) ?_ ?_
    ·intro vals γ w' hp;show (boolOf (vals 2)==some false)=false;rw [show vals 2=.bool true from hp 2 (by decide)]; rfl
    refine Chain.no (by rfl) (by rfl) ?_ ?_
    ·intro vals γ w' hp;show (boolOf (vals 2)==some false)=false;rw [show vals 2=.bool true from hp 2 (by decide)]; rfl
    refine Chain.no (by rfl) (by rfl) ?_ ?_
    ·intro vals γ w' hp;show (boolOf (vals 2)==some false)=false;rw [show vals 2=.bool true from hp 2 (by decide)]; rfl
    refine Chain.no (by rfl) (by rfl) ?_ ?_
    ·intro vals γ w' hp;show (boolOf (vals 2)==some false)=false;rw [show vals 2=.bool true from hp 2 (by decide)]; rfl
    apply Chain.pure (LX.refl _) (by rfl)
    ·intro vals γ w' ρ hR hN hp hρ hc hf hg;refine ⟨rfl,?_⟩;have e24:ρ (.tmp 24)=_:=(hρ 24).trans (hp 2 (by decide));have e37:ρ (.tmp 37)=_:=(hρ 37).trans (hp 15 (by decide));clear hR hN hp hρ;go_light;go_simp;exact ⟨rfl,rfl⟩
    ·rfl
    intro vals γ w9 hR hG;have v0:vals 0=_:=hG 0 (by decide);have v1:vals 1=_:=hG 1 (by decide);have v2:vals 2=_:=hG 2 (by decide);have v3:vals 3=_:=hG 3 (by decide);have v4:vals 4=_:=hG 4 (by decide);have v5:vals 5=_:=hG 5 (by decide);have v6:vals 6=_:=hG 6 (by decide);have v7:vals 7=_:=hG 7 (by decide);have v8:vals 8=_:=hG 8 (by decide);have v9:vals 9=_:=hG 9 (by decide);have v10:vals 10=_:=hG 10 (by decide);have v11:vals 11=_:=hG 11 (by decide);have v12:vals 12=_:=hG 12 (by decide);have v13:vals 13=_:=hG 13 (by decide);have v14:vals 14=_:=hG 14 (by decide);have v15:vals 15=_:=hG 15 (by decide);have v16:vals 16=_:=hG 16 (by decide);simp only [lexFrame,Act.put,List.setIfInBounds_toArray,List.set_cons_succ,List.set_cons_zero,Nat.zero_add,Nat.reduceAdd,v0,v1,v2,v3,v4,v5,v6,v7,v8,v9,v10,v11,v12,v13,v14,v15,v16];clear v0 v1 v2 v3 v4 v5 v6 v7 v8 v9 v10 v11 v12 v13 v14 v15 v16;have hx6:Ext wr w9:=hR.ext0 (fun _ _ h=>h.elim);clear hR hG;have HX9:=Hd (HX.o.trans hx6);obtain ⟨bs,hp1,hp2,hp3⟩:=HO.o.ext hx6;have HP1:=Hd hp1;have HP2:=Hd hp2;have HP3:=Hd hp3;have hz9:=HX9.o.size;obtain ⟨m,em⟩:∃ m,m=gs.length:=⟨_,rfl⟩;have HEM:=Hd em;have HMW:=Hd (show IntKind.i64.wrap (m:Int)=(m:Int) from IntWalk.i64_in _ (by omega));rw [← em] at hgl;clear hx6 hp1 hp2 hp3 em;rw [← HEM.o] at HP2 ⊢
    go_wp2_with (at_builtin; first
     | (refine wpList_app rfl (.tmp 39) (.tmp 40) rfl tiN rfl (HP2.o.ext ((Ext.refl w9).alloc _)) rfl (Blk.rd (Blk.new _ _ _)) rfl (by simp [Value.oneCell']) (by omega) (by decide) (by simp; omega) ?_; intro A4 c4 w4 hown4 hg4 hat4; obtain ⟨gA,rfl⟩:=Own.some_ hown4 (by omega); have HOWN4:=Hd hown4; have HG4:=Hd hg4; have HAT4:=Hd hat4; have q0:=Own.cell_ hown4 (j:=m) (by rw [List.getElem?_append_right (by rw [hdr_len HP1.o.len,← HEM.o]; exact Nat.le_refl _),hdr_len HP1.o.len,← HEM.o,Nat.sub_self]; rfl); have hz4:=hg4.size; have zA:=hown4.lt_; clear hown4 hg4 hat4)
     | (refine wpList_app rfl (.tmp 50) (.tmp 52) rfl tiI rfl (Own.nil _ w2.heap.size _ _) rfl (Blk.rd (Blk.new _ _ _)) rfl (by simp [Value.oneCell']) (by omega) (by decide) (by simp at hz4 ⊢; omega) ?_; intro A5 c5 w5 hown5 hg5 hat5; have HOWN5:=Hd hown5; have HG5:=Hd hg5; have HAT5:=Hd hat5; have HOA:=Hd ((HOWN4.o.ext ((Ext.refl w4).alloc (.cells #[.int .i64 (x:Int)] 3))).kept hg5 (.inr (by simp [ob]))); have qf:=HOA.o.frozen_ m; have ql:=HOA.o.lt_; have q5:=HOA.o.cell_ (j:=m) (by rw [List.getElem?_append_right (by rw [hdr_len HP1.o.len,← HEM.o]; exact Nat.le_refl _),hdr_len HP1.o.len,← HEM.o,Nat.sub_self]; rfl); clear hown5 hg5 hat5))
    go_roundw
    case rel =>
     have hnn:OwnNN (w5.setCell ⟨gA,gs.length,none⟩ (.slice A5 1 c5)) w2.heap.size (some ⟨gA,0,none⟩) c4 (gs++[[x]]):=by
      have ho5:=HOWN5.o;have hg4:=HG4.o;have hkp:Kept (fun b=>b∈bs.map (·.1)) w9 w4:=(Kept.alloc _ _ _).trans (Kept.of_grown hg4 fun y hy _ e=>by
       obtain ⟨d,hd,rfl⟩:=List.mem_map.1 hy;exact HP3.o d hd e.symm)
      refine OwnNN.push (g2:=[x]) (HP1.o.keep hkp) (by rw [← HEM.o]; exact HOWN4.o) (fun d hd => ?_) ((Ext.refl w4).alloc _) (by unfold OwnN; simpa [nums] using ho5) HG5.o (by have:=HAT5.o; simpa [ob] using this) (by simp);have hlt:=(HP1.o.lt d hd).2;have:=HP3.o d hd
      rcases HAT4.o with e | e
      ·intro e2;exact this (by rw [← e,← e2]; rfl)
      ·simp [ob] at e;omega
     have hxx:Ext w2 (w5.setCell ⟨gA,gs.length,none⟩ (.slice A5 1 c5)):=by
      have zA:=(Own.blk HOWN4.o (k:=gA) rfl).1;exact ((((HX9.o.alloc _).grown HG4.o fun b hb=>(Own.blk HP2.o hb).1).alloc _).grown HG5.o fun b hb=>by simp [ob] at hb).set2 zA _
     refine ⟨k+1,gs++[[x]],some ⟨gA,0,none⟩,c4,by omega,by have:=HEM.o; rw [List.length_append]; simp; omega,by simp,?_,by rw [HEM.o]; simp,by go_num,by rw [HEM.o]; exact hxx,by rw [HEM.o]; exact hnn,?_⟩
     ·intro g' hg'
      rcases List.mem_append.1 hg' with h | h
      ·have:=HGK.o g' h; omega
      ·rw [List.mem_singleton.1 h]; simp
     have h1:=HGR.o;rw [HD.o,if_pos HK0.o] at h1;rw [if_neg (by omega),Nat.add_sub_cancel,getD_of _ _ _ hks,← HE.o,← h1];show _=grp P (gstep P gs x _) (some x) _;unfold gstep;rw [if_pos (show newG P x none=true from rfl)]
    case measure=>simp [intOf]; omega
   ·obtain ⟨k1,hk1⟩:∃ k1,k=k1+1:=⟨k-1,by omega⟩;have hk1s:k1<s.length:=(by omega);obtain ⟨p,ep⟩:∃ p,p=s[k1]:=⟨_,rfl⟩;have hpn:p<np:=(by rw [ep]; exact HSM.o _ (List.getElem_mem hk1s));have HEP:=Hd ep;have G1:=Hd ((HS2.o.keep (HX.o.kept _)).cell (i:=k1) (u:=.int .i64 (p:Int)) (by rw [dcellsA_at hk1s,getD_of _ _ _ hk1s,← ep]));have C0:=Hd (HX.o.cell C2.o);obtain ⟨vp,evp⟩:∃ v,v=P[p]'(by rw [← HNP.o]; exact hpn):=⟨_,rfl⟩;obtain ⟨vx,evx⟩:∃ v,v=P[x]'(by rw [← HNP.o]; exact hxn):=⟨_,rfl⟩;have P0:=Hd (show wr.cell? ⟨pb,po+p,none⟩=some (.int .i64 (vp:Int)) by rw [evp]; exact HX.o.cell (P2.o p (by rw [← HNP.o]; exact hpn)));have Q0:=Hd (show wr.cell? ⟨pb,po+x,none⟩=some (.int .i64 (vx:Int)) by rw [evx]; exact HX.o.cell (P2.o x (by rw [← HNP.o]; exact hxn)));have HNG:=Hd (show newG P x (some p)=decide (vp≠vx) by show decide (P.getD p 0≠P.getD x 0)=_; rw [getD_of P p 0 (by rw [← HNP.o]; exact hpn),getD_of P x 0 (by rw [← HNP.o]; exact hxn),evp,evx]);have i5:(0:Int)≤(p:Int):=(by omega);have i6:(p:Int)<(np:Int):=(by omega);have i10:(0:Int)≤(k1:Int):=(by omega);have i12:0<k:=(by omega);have i13:k1<n:=(by omega);have i11:(k1:Int)<(n:Int):=(by omega);have i9:(0:Int)<(k:Int):=(by omega);have HJW:=Hd (show (k:Int)-1=(k1:Int) by omega);have HJ2:=Hd (show IntKind.i64.wrap (k1:Int)=(k1:Int) from IntWalk.i64_in _ (by omega));have HP0:=Hd (show s.getD (k-1) 0=p by rw [hk1,Nat.add_sub_cancel,getD_of _ _ _ hk1s,← HEP.o]);have HKN:=Hd hk0;have HKB:=Hd (show ((k:Int)==0)=false by rw [beq_eq_false_iff_ne]; omega);obtain ⟨b0,hbe⟩:∃ b0,b0=((vp:Int) != (vx:Int)):=⟨_,rfl⟩;have HBE:=Hd hbe.symm;clear HEP hbe hk0 hk1 hk1s ep evp evx
    go_upto_region 7 with fail
    refine wp_region_chain (by kernel_rfl) (fun i=>[i]) (by kernel_rfl) (LX (fun _ _=>False)) (LX.refl _) (LX.trans _) (LM []) gh0 (LM.zero _) ?_;apply Chain.pure (LX.refl _) (by rfl)
    ·intro vals γ w' ρ hR hN hp hρ hc hf hg;refine ⟨rfl,?_⟩;have e7:=hρ 7;(conv at e7=>rhs; whnf);clear hR hN hp hρ;go_light;go_simp;exact ⟨rfl,rfl⟩
    ·rfl
    apply Chain.pure (LX.refl _) (by rfl)
    ·intro vals γ w' ρ hR hN hp hρ hc hf hg;refine ⟨rfl,?_⟩;have e22:ρ (.tmp 22)=_:=(hρ 22).trans (hp 0 (by decide));have z0:=HKB.o;clear hR hN hp hρ;go_light;go_simp;exact ⟨rfl,rfl⟩
    ·rfl
    apply Chain.pure (LX.refl _) (by rfl)
    ·intro vals γ w' ρ hR hN hp hρ hc hf hg;refine ⟨rfl,?_⟩;have e23:ρ (.tmp 23)=_:=(hρ 23).trans (hp 1 (by decide));clear hR hN hp hρ;go_light;go_simp;exact ⟨rfl,rfl⟩
    ·rfl
    apply Chain.pure (LX.refl _) (by rfl)
    ·intro vals γ w' ρ hR hN hp hρ hc hf hg;refine ⟨by show (boolOf (vals 2)==some false)=true; rw [show vals 2=.bool false from hp 2 (by decide)]; rfl,?_⟩;have e3:=hρ 3;(conv at e3=>rhs; whnf);have hxx:=hR.ext0 (fun _ _ h=>h.elim);have k0:=hxx.cell C0.o;have k1:=hxx.cell G1.o;have k2:=hxx.cell P0.o;have k3:=hxx.cell Q0.o;clear hxx hR hN hp hρ;go_light;go_simp;exact ⟨rfl,rfl⟩
    ·rfl
    apply Chain.pure (LX.refl _) (by rfl)
    ·intro vals γ w' ρ hR hN hp hρ hc hf hg;refine ⟨by show (boolOf (vals 2)==some false)=true; rw [show vals 2=.bool false from hp 2 (by decide)]; rfl,?_⟩;have e5:=hρ 5;(conv at e5=>rhs; whnf);clear hR hN hp hρ;go_light;go_simp;exact ⟨rfl,rfl⟩
    ·rfl
    apply Chain.pure (LX.refl _) (by rfl)
    ·intro vals γ w' ρ hR hN hp hρ hc hf hg;refine ⟨by show (boolOf (vals 2)==some false)=true; rw [show vals 2=.bool false from hp 2 (by decide)]; rfl,?_⟩;have e7:=hρ 7;(conv at e7=>rhs; whnf);clear hR hN hp hρ;go_light;go_simp;exact ⟨rfl,rfl⟩
    ·rfl
    apply Chain.pure (LX.refl _) (by rfl)
    ·intro vals γ w' ρ hR hN hp hρ hc hf hg;refine ⟨by show (boolOf (vals 2)==some false)=true; rw [show vals 2=.bool false from hp 2 (by decide)]; rfl,?_⟩;have e27:ρ (.tmp 27)=_:=(hρ 27).trans (hp 5 (by decide));have z1:=HJW.o;have z2:=HJ2.o;clear hR hN hp hρ;go_light;go_simp;exact ⟨rfl,rfl⟩
    ·rfl
    apply Chain.pure (LX.refl _) (by rfl)
    ·intro vals γ w' ρ hR hN hp hρ hc hf hg;refine ⟨by show (boolOf (vals 2)==some false)=true; rw [show vals 2=.bool false from hp 2 (by decide)]; rfl,?_⟩;have e26:ρ (.tmp 26)=_:=(hρ 26).trans (hp 4 (by decide));have e28:ρ (.tmp 28)=_:=(hρ 28).trans (hp 6 (by decide));clear hR hN hp hρ;go_light;go_simp;exact ⟨rfl,rfl⟩
    ·rfl
    apply Chain.pure (LX.refl _) (by rfl)
    ·intro vals γ w' ρ hR hN hp hρ hc hf hg;refine ⟨by show (boolOf (vals 2)==some false)=true; rw [show vals 2=.bool false from hp 2 (by decide)]; rfl,?_⟩;have e29:ρ (.tmp 29)=_:=(hρ 29).trans (hp 7 (by decide));have hxx:=hR.ext0 (fun _ _ h=>h.elim);have k0:=hxx.cell C0.o;have k1:=hxx.cell G1.o;have k2:=hxx.cell P0.o;have k3:=hxx.cell Q0.o;clear hxx hR hN hp hρ;go_light;go_simp;exact ⟨rfl,rfl⟩
    ·rfl
    apply Chain.pure (LX.refl _) (by rfl)
    ·intro vals γ w' ρ hR hN hp hρ hc hf hg;refine ⟨by show (boolOf (vals 2)==some false)=true; rw [show vals 2=.bool false from hp 2 (by decide)]; rfl,?_⟩;have e25:ρ (.tmp 25)=_:=(hρ 25).trans (hp 3 (by decide));have e30:ρ (.tmp 30)=_:=(hρ 30).trans (hp 8 (by decide));clear hR hN hp hρ;go_light;go_simp;exact ⟨rfl,rfl⟩
    ·rfl
    apply Chain.pure (LX.refl _) (by rfl)
    ·intro vals γ w' ρ hR hN hp hρ hc hf hg;refine ⟨by show (boolOf (vals 2)==some false)=true; rw [show vals 2=.bool false from hp 2 (by decide)]; rfl,?_⟩;have e31:ρ (.tmp 31)=_:=(hρ 31).trans (hp 9 (by decide));have hxx:=hR.ext0 (fun _ _ h=>h.elim);have k0:=hxx.cell C0.o;have k1:=hxx.cell G1.o;have k2:=hxx.cell P0.o;have k3:=hxx.cell Q0.o;clear hxx hR hN hp hρ;go_light;go_simp;exact ⟨rfl,rfl⟩
    ·rfl
    apply Chain.pure (LX.refl _) (by rfl)
    ·intro vals γ w' ρ hR hN hp hρ hc hf hg;refine ⟨by show (boolOf (vals 2)==some false)=true; rw [show vals 2=.bool false from hp 2 (by decide)]; rfl,?_⟩;have e3:=hρ 3;(conv at e3=>rhs; whnf);have hxx:=hR.ext0 (fun _ _ h=>h.elim);have k0:=hxx.cell C0.o;have k1:=hxx.cell G1.o;have k2:=hxx.cell P0.o;have k3:=hxx.cell Q0.o;clear hxx hR hN hp hρ;go_light;go_simp;exact ⟨rfl,rfl⟩
    ·rfl
    apply Chain.pure (LX.refl _) (by rfl)
    ·intro vals γ w' ρ hR hN hp hρ hc hf hg;refine ⟨by show (boolOf (vals 2)==some false)=true; rw [show vals 2=.bool false from hp 2 (by decide)]; rfl,?_⟩;have e8:=hρ 8;(conv at e8=>rhs; whnf);clear hR hN hp hρ;go_light;go_simp;exact ⟨rfl,rfl⟩
    ·rfl
    apply Chain.pure (LX.refl _) (by rfl)
    ·intro vals γ w' ρ hR hN hp hρ hc hf hg;refine ⟨by show (boolOf (vals 2)==some false)=true; rw [show vals 2=.bool false from hp 2 (by decide)]; rfl,?_⟩;have e33:ρ (.tmp 33)=_:=(hρ 33).trans (hp 11 (by decide));have e34:ρ (.tmp 34)=_:=(hρ 34).trans (hp 12 (by decide));clear hR hN hp hρ;go_light;go_simp;exact ⟨rfl,rfl⟩
    ·rfl
    apply Chain.pure (LX.refl _) (by rfl)
    ·intro vals γ w' ρ hR hN hp hρ hc hf hg;refine ⟨by show (boolOf (vals 2)==some false)=true; rw [show vals 2=.bool false from hp 2 (by decide)]; rfl,?_⟩;have e35:ρ (.tmp 35)=_:=(hρ 35).trans (hp 13 (by decide));have hxx:=hR.ext0 (fun _ _ h=>h.elim);have k0:=hxx.cell C0.o;have k1:=hxx.cell G1.o;have k2:=hxx.cell P0.o;have k3:=hxx.cell Q0.o;clear hxx hR hN hp hρ;go_light;go_simp;exact ⟨rfl,rfl⟩
    ·rfl
    apply Chain.pure (LX.refl _) (by rfl)
    ·intro vals γ w' ρ hR hN hp hρ hc hf hg;refine ⟨by show (boolOf (vals 2)==some false)=true; rw [show vals 2=.bool false from hp 2 (by decide)]; rfl,?_⟩;have e32:ρ (.tmp 32)=_:=(hρ 32).trans (hp 10 (by decide));have e36:ρ (.tmp 36)=_:=(hρ 36).trans (hp 14 (by decide));have z3:=HBE.o;clear hR hN hp hρ;go_light;go_simp;exact ⟨rfl,rfl⟩
    ·rfl
    apply Chain.pure (LX.refl _) (by rfl)
    ·intro vals γ w' ρ hR hN hp hρ hc hf hg;refine ⟨rfl,?_⟩;have e24:ρ (.tmp 24)=_:=(hρ 24).trans (hp 2 (by decide));have e37:ρ (.tmp 37)=_:=(hρ 37).trans (hp 15 (by decide));clear hR hN hp hρ;go_light;go_simp;exact ⟨rfl,rfl⟩
    ·rfl
    intro vals γ w9 hR hG;have v0:vals 0=_:=hG 0 (by decide);have v1:vals 1=_:=hG 1 (by decide);have v2:vals 2=_:=hG 2 (by decide);have v3:vals 3=_:=hG 3 (by decide);have v4:vals 4=_:=hG 4 (by decide);have v5:vals 5=_:=hG 5 (by decide);have v6:vals 6=_:=hG 6 (by decide);have v7:vals 7=_:=hG 7 (by decide);have v8:vals 8=_:=hG 8 (by decide);have v9:vals 9=_:=hG 9 (by decide);have v10:vals 10=_:=hG 10 (by decide);have v11:vals 11=_:=hG 11 (by decide);have v12:vals 12=_:=hG 12 (by decide);have v13:vals 13=_:=hG 13 (by decide);have v14:vals 14=_:=hG 14 (by decide);have v15:vals 15=_:=hG 15 (by decide);have v16:vals 16=_:=hG 16 (by decide);simp only [lexFrame,Act.put,List.setIfInBounds_toArray,List.set_cons_succ,List.set_cons_zero,Nat.zero_add,Nat.reduceAdd,v0,v1,v2,v3,v4,v5,v6,v7,v8,v9,v10,v11,v12,v13,v14,v15,v16];clear v0 v1 v2 v3 v4 v5 v6 v7 v8 v9 v10 v11 v12 v13 v14 v15 v16;have hx6:Ext wr w9:=hR.ext0 (fun _ _ h=>h.elim);clear hR hG;cases b0
    ·have HVV:=Hd (show vp=vx from Int.ofNat.inj (show (vp:Int)=(vx:Int) by simpa using HBE.o));have HX9:=Hd (HX.o.trans hx6);obtain ⟨bs,hp1,hp2,hp3⟩:=HO.o.ext hx6;have hg0:=HGP.o (by omega);obtain ⟨gA,rfl⟩:=Own.some_ hp2 hg0;obtain ⟨m,em⟩:∃ m,gs.length=m+1:=⟨gs.length-1,by omega⟩;have hmb:m<bs.length:=(by rw [hp1.len]; omega);have hmg:m<gs.length:=(by omega);obtain ⟨d,ed⟩:∃ d,d=bs[m]:=⟨_,rfl⟩;obtain ⟨gl,egl⟩:∃ gl,gl=gs[m]:=⟨_,rfl⟩;have hbd:bs[m]?=some d:=(by rw [ed]; exact List.getElem?_eq_getElem hmb);have hgd:gs[m]?=some gl:=(by rw [egl]; exact List.getElem?_eq_getElem hmg);have hgll:gl.length≤k:=HGK.o _ (List.mem_of_getElem? hgd);obtain ⟨ng,eng⟩:∃ ng,ng=gl.length:=⟨_,rfl⟩;obtain ⟨bd,ebd⟩:∃ bd,bd=d.1:=⟨_,rfl⟩;obtain ⟨cd,ecd⟩:∃ cd,cd=d.2:=⟨_,rfl⟩;have q0:=Own.cell_ hp2 (hdr_at hbd hgd);have HDO:=Hd (hp1.own m d gl hbd hgd);have HBD:=Hd hbd;have HGD:=Hd hgd;have HP1:=Hd hp1;have HP2:=Hd hp2;have HP3:=Hd hp3;have HNE2:=Hd (show gA≠bd by rw [ebd]; intro e; exact hp3 d (List.mem_of_getElem? hbd) (by rw [e]; rfl));have hz9:=HX9.o.size;have HEM:=Hd em;have HENG:=Hd eng;have HEBD:=Hd ebd;have HECD:=Hd ecd;have HMW:=Hd (show IntKind.i64.wrap (m:Int)=(m:Int) from IntWalk.i64_in _ (by omega));have i20:(m:Int)<((m:Int)+1):=(by omega);have i21:(0:Int)≤(m:Int):=(by omega);rw [← eng,← ebd,← ecd] at q0;rw [← eng] at hgll;have HDO2:=Hd (show Own w9 w2.heap.size 3 1 (some ⟨bd,0,none⟩) ng cd ((nums gl).map (Value.int .i64)) by have:=HDO.o; unfold OwnN at this; rw [← eng,← ebd,← ecd] at this; exact this);clear hx6 hp1 hp2 hp3 hbd hgd ed egl hmb eng ebd ecd;rw [em] at HP2 hgl ⊢;clear em
     go_wp2_with (at_builtin; first
      | (refine wpList_app rfl (.tmp 50) (.tmp 52) rfl tiI rfl (HDO2.o.ext ((Ext.refl w9).alloc _)) rfl (Blk.rd (Blk.new _ _ _)) rfl (by simp [Value.oneCell']) (by omega) (by decide) (by simp at hz9 ⊢; omega) ?_; intro A5 c5 w5 hown5 hg5 hat5; have HOWN5:=Hd hown5; have HG5:=Hd hg5; have HAT5:=Hd hat5; have HOA:=Hd ((HP2.o.ext ((Ext.refl w9).alloc (.cells #[.int .i64 (x:Int)] 3))).kept hg5 (.inr (by have:=HNE2.o; simpa [ob] using this))); have qf:=HOA.o.frozen_ m; have ql:=HOA.o.lt_; have q5:=HOA.o.cell_ (hdr_at HBD.o HGD.o); clear hown5 hg5 hat5))
     go_roundw
     case rel =>
      have hnn:OwnNN (w5.setCell ⟨gA,m,none⟩ (.slice A5 (ng+1) c5)) w2.heap.size (some ⟨gA,0,none⟩) c (gs.set m (gl++[x])):=by
       have h1:=OwnNN.grow (g2:=gl++[x]) (A2:=A5) (c2:=c5) (w2:=w5) HP1.o (by rw [HEM.o]; exact HP2.o) (fun d hd e=>HP3.o d hd (by rw [e]; rfl)) HBD.o HGD.o ((Ext.refl w9).alloc (.cells #[.int .i64 (x:Int)] 3)) (by
        have h1:=HOWN5.o;unfold OwnN;rw [List.length_append,← HENG.o]
        simpa [nums] using h1) (by rw [← HEBD.o]; exact HG5.o) (by have:=HAT5.o; rw [← HEBD.o]; simpa [ob] using this) (by simp)
       rw [List.length_append,← HENG.o] at h1;exact h1
      have hxx:Ext w2 (w5.setCell ⟨gA,m,none⟩ (.slice A5 (ng+1) c5)):=by
       have zA:=(Own.blk HP2.o (k:=gA) rfl).1;exact ((HX9.o.alloc _).grown HG5.o fun b hb=>(Own.blk HDO2.o hb).1).set2 zA _
      refine ⟨k+1,gs.set m (gl++[x]),some ⟨gA,0,none⟩,c,by omega,by have:=HEM.o; rw [List.length_set]; omega,by have:=HEM.o; rw [List.length_set]; omega,?_,by rw [List.length_set,HEM.o],by go_num,hxx,hnn,?_⟩
      ·intro g' hg'
       rcases List.mem_or_eq_of_mem_set hg' with h | rfl
       ·have:=HGK.o g' h; omega
       ·have:=HENG.o; rw [List.length_append]; simp; omega
      have h1:=HGR.o;rw [HD.o,if_neg HKN.o,HP0.o] at h1;rw [if_neg (by omega),Nat.add_sub_cancel,getD_of _ _ _ hks,← HE.o,← h1];show _=grp P (gstep P gs x _) (some x) _;rw [mem_last (by rw [HNG.o,HVV.o]; simp),HEM.o,Nat.add_sub_cancel,List.getD_eq_getElem?_getD,HGD.o];rfl
     case measure=>simp [intOf]; omega
    ·have HVV:=Hd (show vp≠vx from fun e=>(show ¬ (vp:Int)=(vx:Int) by simpa using HBE.o) (by rw [e]));have HX9:=Hd (HX.o.trans hx6);obtain ⟨bs,hp1,hp2,hp3⟩:=HO.o.ext hx6;have HP1:=Hd hp1;have HP2:=Hd hp2;have HP3:=Hd hp3;have hz9:=HX9.o.size;obtain ⟨m,em⟩:∃ m,m=gs.length:=⟨_,rfl⟩;have HEM:=Hd em;have HMW:=Hd (show IntKind.i64.wrap (m:Int)=(m:Int) from IntWalk.i64_in _ (by omega));rw [← em] at hgl;clear hx6 hp1 hp2 hp3 em;rw [← HEM.o] at HP2 ⊢
     go_wp2_with (at_builtin; first
      | (refine wpList_app rfl (.tmp 39) (.tmp 40) rfl tiN rfl (HP2.o.ext ((Ext.refl w9).alloc _)) rfl (Blk.rd (Blk.new _ _ _)) rfl (by simp [Value.oneCell']) (by omega) (by decide) (by simp; omega) ?_; intro A4 c4 w4 hown4 hg4 hat4; obtain ⟨gA,rfl⟩:=Own.some_ hown4 (by omega); have HOWN4:=Hd hown4; have HG4:=Hd hg4; have HAT4:=Hd hat4; have q0:=Own.cell_ hown4 (j:=m) (by rw [List.getElem?_append_right (by rw [hdr_len HP1.o.len,← HEM.o]; exact Nat.le_refl _),hdr_len HP1.o.len,← HEM.o,Nat.sub_self]; rfl); have hz4:=hg4.size; have zA:=hown4.lt_; clear hown4 hg4 hat4)
      | (refine wpList_app rfl (.tmp 50) (.tmp 52) rfl tiI rfl (Own.nil _ w2.heap.size _ _) rfl (Blk.rd (Blk.new _ _ _)) rfl (by simp [Value.oneCell']) (by omega) (by decide) (by simp at hz4 ⊢; omega) ?_; intro A5 c5 w5 hown5 hg5 hat5; have HOWN5:=Hd hown5; have HG5:=Hd hg5; have HAT5:=Hd hat5; have HOA:=Hd ((HOWN4.o.ext ((Ext.refl w4).alloc (.cells #[.int .i64 (x:Int)] 3))).kept hg5 (.inr (by simp [ob]))); have qf:=HOA.o.frozen_ m; have ql:=HOA.o.lt_; have q5:=HOA.o.cell_ (j:=m) (by rw [List.getElem?_append_right (by rw [hdr_len HP1.o.len,← HEM.o]; exact Nat.le_refl _),hdr_len HP1.o.len,← HEM.o,Nat.sub_self]; rfl); clear hown5 hg5 hat5))
     go_roundw
     case rel =>
      have hnn:OwnNN (w5.setCell ⟨gA,gs.length,none⟩ (.slice A5 1 c5)) w2.heap.size (some ⟨gA,0,none⟩) c4 (gs++[[x]]):=by
       have ho5:=HOWN5.o;have hg4:=HG4.o;have hkp:Kept (fun b=>b∈bs.map (·.1)) w9 w4:=(Kept.alloc _ _ _).trans (Kept.of_grown hg4 fun y hy _ e=>by
        obtain ⟨d,hd,rfl⟩:=List.mem_map.1 hy;exact HP3.o d hd e.symm)
       refine OwnNN.push (g2:=[x]) (HP1.o.keep hkp) (by rw [← HEM.o]; exact HOWN4.o) (fun d hd => ?_) ((Ext.refl w4).alloc _) (by unfold OwnN; simpa [nums] using ho5) HG5.o (by have:=HAT5.o; simpa [ob] using this) (by simp);have hlt:=(HP1.o.lt d hd).2;have:=HP3.o d hd
       rcases HAT4.o with e | e
       ·intro e2;exact this (by rw [← e,← e2]; rfl)
       ·simp [ob] at e;omega
      have hxx:Ext w2 (w5.setCell ⟨gA,gs.length,none⟩ (.slice A5 1 c5)):=by
       have zA:=(Own.blk HOWN4.o (k:=gA) rfl).1;exact ((((HX9.o.alloc _).grown HG4.o fun b hb=>(Own.blk HP2.o hb).1).alloc _).grown HG5.o fun b hb=>by simp [ob] at hb).set2 zA _
      refine ⟨k+1,gs++[[x]],some ⟨gA,0,none⟩,c4,by omega,by have:=HEM.o; rw [List.length_append]; simp; omega,by simp,?_,by rw [HEM.o]; simp,by go_num,by rw [HEM.o]; exact hxx,by rw [HEM.o]; exact hnn,?_⟩
      ·intro g' hg'
       rcases List.mem_append.1 hg' with h | h
       ·have:=HGK.o g' h; omega
       ·rw [List.mem_singleton.1 h]; simp
      have h1:=HGR.o;rw [HD.o,if_neg HKN.o,HP0.o] at h1;rw [if_neg (by omega),Nat.add_sub_cancel,getD_of _ _ _ hks,← HE.o,← h1];show _=grp P (gstep P gs x _) (some x) _;unfold gstep;rw [if_pos (by rw [HNG.o]; simpa using HVV.o)]
     case measure=>simp [intOf]; omega
  ·have hfin:gs=splitS l P:=by
    have h1:=HGR.o;rw [List.drop_eq_nil_of_le (by rw [HSL.o]; omega)] at h1;exact h1
   have HFIN:=Hd hfin;have hsz:=HX2.o.size;have HSZ:=Hd hsz;clear hfin hsz;go_wp2;go_ret;exact ⟨A,c,by rw [← HFIN.o]; rfl,by rw [← HFIN.o]; exact HO.o.lower HSZ.o,HX2.o.trans HX.o⟩
/- The places' numbers are of the order of the answers; parts by answers and parts by places are the same. No conditions. -/

def Tri (l:List (List Val)):Prop:=∀ r∈l,∀ x∈r,∀ r'∈l,∀ y∈r',lessF x y=false→lessF y x=false→x=y
def Wide (l:List (List Val)) (N:Nat):Prop:=∀ r∈l,r.length=N
def rk (l:List (List Val)) (m x:Nat):Nat:=(placesS l m).getD x 0
def spl (l:List (List Val)) (m:Nat) (L:List Nat):List (List Nat):=splitS L (placesS l m)
theorem spl_is (l:List (List Val)) (m:Nat) (L:List Nat):IsSplit (rk l m) L (spl l m L):=splitS_is L (placesS l m)
section
variable {p:Nat→Nat} {L:List Nat} {gs:List (List Nat)}
theorem IsSplit.sub (h:IsSplit p L gs):∀ g∈gs,g≠[]∧g.Sublist L:=by
 obtain ⟨hs,h1,h2,rfl⟩:=h;intro g hg;obtain ⟨v,hv,rfl⟩:=List.mem_map.1 hg;refine ⟨fun h0 => ?_,List.filter_sublist⟩;obtain ⟨x,hx,hxv⟩:=(h2 v).1 hv;rw [List.filter_eq_nil_iff] at h0;exact h0 x hx (by simpa using hxv)
theorem IsSplit.small (h:IsSplit p L gs) (h2:2≤gs.length):∀ g∈gs,g.length<L.length:=by
 obtain ⟨hs,h1,hm,rfl⟩:=h;intro g hg;obtain ⟨v,hv,rfl⟩:=List.mem_map.1 hg;have:∃ v'∈hs,v'≠v:=by
  match hs,h1,h2,hv with
  | a :: b :: hs,h1,_,hv =>
   have hab:=(List.pairwise_cons.1 h1).1 b (by simp);by_cases ha:a=v
   ·exact ⟨b,by simp,by omega⟩
   ·exact ⟨a,by simp,ha⟩
 obtain ⟨v',hv',hne⟩:=this;obtain ⟨x,hx,hxv⟩:=(hm v').1 hv';rw [List.length_filter_lt_length_iff_exists];exact ⟨x,hx,by simp [hxv,hne]⟩
theorem IsSplit.one (h:IsSplit p L gs):gs.length<2↔∀ x∈L,∀ y∈L,p x=p y:=by
 obtain ⟨hs,h1,hm,rfl⟩:=h;rw [List.length_map];constructor
 ·intro h x hx y hy;have a:=(hm _).2 ⟨x,hx,rfl⟩;have b:=(hm _).2 ⟨y,hy,rfl⟩
  match hs,h with
  | [],_=>cases a
  | [v],_=>rw [List.mem_singleton] at a b; omega
 ·intro h
  match hs,h1,hm with
  | [],_,_=>simp
  | [v],_,_=>simp
  | a :: b :: hs,h1,hm =>
   obtain ⟨x,hx,hxv⟩:=(hm a).1 (by simp);obtain ⟨y,hy,hyv⟩:=(hm b).1 (by simp);have hab:=(List.pairwise_cons.1 h1).1 b (by simp);have:=h x hx y hy;omega
theorem IsSplit.cov (h:IsSplit p L gs):∀ x∈L,∃ g∈gs,x∈g∧g=L.filter (fun y=>p y==p x):=by
 obtain ⟨hs,h1,hm,rfl⟩:=h;intro x hx;refine ⟨_,List.mem_map.2 ⟨p x,(hm _).2 ⟨x,hx,rfl⟩,rfl⟩,?_,rfl⟩;simp [hx]
theorem IsSplit.same (h:IsSplit p L gs):∀ g∈gs,∀ x∈g,g=L.filter (fun y=>p y==p x):=by
 obtain ⟨hs,h1,hm,rfl⟩:=h;intro g hg x hx;obtain ⟨v,hv,rfl⟩:=List.mem_map.1 hg;have:=(List.mem_filter.1 hx).2;have e:p x=v:=(by simpa using this);rw [e]
end
end Go.Proofs.YtomdpipekmcojaaGreatDoor
