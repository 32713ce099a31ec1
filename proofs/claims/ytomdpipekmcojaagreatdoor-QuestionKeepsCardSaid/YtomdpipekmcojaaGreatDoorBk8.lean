/- Plans of questions: right answers, of the program and of the reference. Conditions: the answers read as data, and hold no tables. -/
import Derived.Test.YtomdpipekmcojaaGreatDoorBk7
import Derived.IntWalk
namespace Go.Proofs.YtomdpipekmcojaaGreatDoor
open Go Go.RowKit

def NoT (l:List (List Val)):Prop:=∀ r∈l,∀ y∈r,y.kind≠5
def rightA (l:List (List Val)):Bool:=l.all fun r=>decide (r.length=inpS l) && r.all flatB
set_option maxRecDepth 100000 in
theorem question_right1 (x:Val) (A B:Option Addr) (c e:Nat) (w:World) (h5:x.kind≠5) (hs:x.s.size≤4294967296):Calls Tryz.prog 101 #[(.agg #[.int .i64 x.kind,.string x.s,.int .i64 x.dn,.int .i64 x.ds,.int .i64 x.n,.slice A x.cols.length c,.slice B x.rows.length e])] w (RetB w (!flatB x)):=by
 go_enter Tryz.func101,Tryz.ntmps101
 go_wp2_with fail
 refine (value_Right_flat x A B c e _ h5 hs).mono ?_;rintro e1 w1 ⟨rfl,hx1⟩;have HX:=Hd (((Ext.refl w).alloc (.cells #[.int .i64 x.kind,.string x.s,.int .i64 x.dn,.int .i64 x.ds,.int .i64 x.n,.slice A x.cols.length c,.slice B x.rows.length e] 47)).trans hx1);clear hx1;cases hf:flatB x
 all_goals
  have HF:=Hd hf;clear hf;go_wp2;go_ret;exact ⟨by rw [HF.o]; rfl,HX.o⟩
def RetPos (w:World) (b:Bool) (e:Ending) (w':World):Prop:=∃ n:Int,e=.returned (.int .i64 n)∧decide (0≤n)=b∧Ext w w'
set_option maxRecDepth 100000 in
set_option maxHeartbeats 1000000 in
theorem IndexFunc_right (d:Nat) (l:List Val) (A:Option Addr) (c:Nat) (w:World) (S:Nat→Prop) (h:Row w S d A l) (hk:∀ y∈l,y.kind≠5):Calls Tryz.prog 71 #[.slice A l.length c,.func (.func 101) #[] #[]] w (RetPos w (l.any fun y => !flatB y)):=by
 have H:=Hd h;have hl:=h.len;have HK:=Hd hk;clear h hk
 go_enter Tryz.func71,Tryz.ntmps71
 go_wp2
 go_loopw [8] (fun i wr=>∃ k:Nat,k≤l.length∧((l.take k).any fun y => !flatB y)=false∧i=.int .i64 (k:Int)∧Ext w wr) (fun i _=>l.length-(intOf i).toNat)
 case atStart=>exact ⟨0,Nat.zero_le _,by simp,rfl,Ext.refl _⟩
 case round =>
  obtain ⟨k,hk,hpre,rfl,hx⟩:=hrel;have HX:=Hd hx;have HP:=Hd hpre;clear hx hpre;by_cases hlt:k<l.length
  ·obtain ⟨b,o,A2,c2,C2,e2,hA,hb,⟨c0,c1,c2',c3,c4,c5,c6⟩,-,hrv⟩:=(H.o.keep (HX.o.kept _)).at_ hlt;subst hA;obtain ⟨y,hy⟩:∃ y,y=l[k]:=⟨_,rfl⟩;have hy5:y.kind≠5:=(by rw [hy]; exact HK.o _ (List.getElem_mem hlt));have hys:y.s.size≤4294967296:=(by rw [hy]; exact hrv.size);rw [← hy] at c0 c1 c2' c3 c4 c5 c6;have HY:=Hd hy;have i0:(0:Int)≤(k:Int):=(by omega);have i1:(k:Int)<(l.length:Int):=(by omega);clear hy hrv
   go_wp2_with fail
   refine (question_right1 y A2 C2 c2 e2 _ hy5 hys).mono ?_;rintro e1 w1 ⟨rfl,hx1⟩;have HX1:=Hd (HX.o.trans hx1);have HT:=Hd (show l.take (k+1)=l.take k++[y] by rw [List.take_succ_eq_append_getElem hlt,← HY.o]);have HL:=Hd (show y∈l by rw [HY.o]; exact List.getElem_mem hlt);clear hx1 c0 c1 c2' c3 c4 c5 c6;cases hf:flatB y
   ·have HF:=Hd (show (l.any fun y => !flatB y)=true from List.any_eq_true.2 ⟨y,HL.o,by simp [hf]⟩);clear hf;go_wp2;go_ret;exact ⟨(k:Int),rfl,by rw [HF.o]; simp,HX1.o⟩
   ·have HF:=Hd hf;clear hf;go_wp2;go_roundw
    case rel=>exact ⟨k+1,by omega,by rw [HT.o,List.any_append,HP.o]; simp [HF.o],by go_num,HX1.o⟩
    case measure=>simp [intOf]; omega
  ·have HF:=Hd (show (l.any fun y => !flatB y)=false by have h:=HP.o; rwa [List.take_of_length_le (by omega)] at h);go_wp2;go_ret;exact ⟨-1,rfl,by rw [HF.o]; rfl,HX.o⟩
set_option maxRecDepth 100000 in
theorem ContainsFunc_right (d:Nat) (l:List Val) (A:Option Addr) (c:Nat) (w:World) (S:Nat→Prop) (h:Row w S d A l) (hk:∀ y∈l,y.kind≠5):Calls Tryz.prog 100 #[.slice A l.length c,.func (.func 101) #[] #[]] w (RetB w (l.any fun y => !flatB y)):=by
 go_enter Tryz.func100,Tryz.ntmps100
 go_wp2_with fail
 refine (IndexFunc_right d l A c _ S h hk).mono ?_;rintro e1 w1 ⟨n,rfl,hn,hx⟩;have HN:=Hd hn;have HX:=Hd hx;clear hn hx h hk;go_wp2;go_ret;exact ⟨by rw [← HN.o]; rfl,HX.o⟩
set_option maxRecDepth 100000 in
set_option maxHeartbeats 2000000 in
theorem question_right (d:Nat) (l:List (List Val)) (A:Option Addr) (c:Nat) (w:World) (S:Nat→Prop) (h:Rows w S d A l) (hk:NoT l):Calls Tryz.prog 49 #[.slice A l.length c] w (RetB w (rightA l)):=by
 have H:=Hd h;have hl:=h.len;have HK:=Hd hk;clear h hk
 go_enter Tryz.func49,Tryz.ntmps49
 go_wp2
 go_loopw [7] (fun i wr=>∃ k:Nat,k≤l.length∧((l.take k).all fun r=>decide (r.length=inpS l) && r.all flatB)=true∧i=.int .i64 (k:Int)∧Ext w wr) (fun i _=>l.length-(intOf i).toNat)
 case atStart=>exact ⟨0,Nat.zero_le _,by simp,rfl,Ext.refl _⟩
 case round =>
  obtain ⟨k,hk,hpre,rfl,hx⟩:=hrel;have HX:=Hd hx;have HP:=Hd hpre;clear hx hpre;by_cases hlt:k<l.length
  ·obtain ⟨b,o,C,e,hA,hb,hc,hcp,hrow⟩:=(H.o.keep (HX.o.kept _)).at_ hlt;obtain ⟨b0,o0,C0,e0,hA0,hb0,hc0,-,hrow0⟩:=(H.o.keep (HX.o.kept _)).at_ (k:=0) (by omega);subst hA;obtain ⟨rfl,rfl⟩:b=b0∧o=o0:=by injection hA0 with h1; injection h1 with h1 h2; exact ⟨h1,h2⟩
   obtain ⟨r,hr⟩:∃ r,r=l[k]:=⟨_,rfl⟩;rw [← hr] at hc hcp hrow;have hrl:=hrow.len;have hz:l[0].length=inpS l:=(by cases l with | nil=>simp at hlt | cons x l=>rfl);have hrl0:=hrow0.len;rw [hz] at hc0 hrl0;have hc00:wr.cell? ⟨b,o,none⟩=some (.slice C0 (inpS l) e0):=(by simpa using hc0);have HR:=Hd hr;have HRW:=Hd hrow;have HRK:=Hd (show ∀ y∈r,y.kind≠5 by rw [hr]; exact HK.o _ (List.getElem_mem hlt));have HT:=Hd (show l.take (k+1)=l.take k++[r] by rw [List.take_succ_eq_append_getElem hlt,← hr]);have HM:=Hd (show r∈l by rw [hr]; exact List.getElem_mem hlt);obtain ⟨n,hn⟩:∃ n,n=inpS l:=⟨_,rfl⟩;rw [← hn] at hc00 hrl0;have HN:=Hd hn;have i0:(0:Int)≤(k:Int):=(by omega);have i1:(k:Int)<(l.length:Int):=(by omega);have i2:(0:Int)<(l.length:Int):=(by omega);clear hr hrow hrow0 hc0 hn hz hA0;by_cases hq:r.length=n
   ·have hqb:((r.length:Int) != (n:Int))=false:=(by rw [hq]; simp);have HQ:=Hd hq;clear hq
    go_wp2_with fail
    refine (ContainsFunc_right d r C e _ _ HRW.o HRK.o).mono ?_;rintro e1 w1 ⟨rfl,hx1⟩;have HX1:=Hd (HX.o.trans hx1);clear hx1 hc hc00;cases hf:(r.any fun y => !flatB y)
    ·have HF:=Hd (show r.all flatB=true by
      rw [List.all_eq_true];intro y hy;rw [List.any_eq_false] at hf
      simpa using hf y hy)
     clear hf;go_wp2;go_roundw
     case rel=>exact ⟨k+1,by omega,by rw [HT.o,List.all_append,HP.o]; simp [HF.o,HQ.o,HN.o],by go_num,HX1.o⟩
     case measure=>simp [intOf]; omega
    ·have HF:=Hd (show rightA l=false by
      unfold rightA;rw [List.all_eq_false];refine ⟨r,HM.o,?_⟩;obtain ⟨y,hy,hy2⟩:=List.any_eq_true.1 hf;simp only [Bool.and_eq_true,List.all_eq_true,not_and];intro _ hall;rw [hall y hy] at hy2;cases hy2)
     clear hf;go_wp2;go_ret;exact ⟨by rw [HF.o]; rfl,HX1.o⟩
   ·have hqb:((r.length:Int) != (n:Int))=true:=(by rw [bne_iff_ne]; omega);have HF:=Hd (show rightA l=false by
     unfold rightA;rw [List.all_eq_false];refine ⟨r,HM.o,?_⟩;rw [← HN.o,decide_eq_false hq];simp)
    clear hq;go_wp2;go_ret;exact ⟨by rw [HF.o]; rfl,HX.o⟩
  ·have HF:=Hd (show rightA l=true by have h:=HP.o; rwa [List.take_of_length_le (by omega)] at h);go_wp2;go_ret;exact ⟨by rw [HF.o]; rfl,HX.o⟩
/- Plans of questions: right answers of the reference. Conditions: the answers read as data, and hold no tables. -/

/- Plans of questions: the numbers of all programs. Conditions: bounds on sizes. -/

theorem range_set (n k:Nat) (hk:k<n):(List.range k++List.replicate (n-k) 0).set k k=List.range (k+1)++List.replicate (n-(k+1)) 0:=by
 have h1:List.replicate (n-k) 0=0 :: List.replicate (n-(k+1)) 0:=by
  rw [show n-k=(n-(k+1))+1 by omega,List.replicate_succ]
 rw [h1,List.set_append,if_neg (by simp)];simp [List.range_succ]
def RetNB (w:World) (l:List Nat) (e:Ending) (w':World):Prop:=∃ g,e=.returned (.slice (some ⟨g,0,none⟩) l.length l.length)∧w.heap.size≤g∧Blk w' g 3 (dcells l)∧Ext w w'
set_option maxRecDepth 100000 in
set_option maxHeartbeats 1000000 in
theorem question_programs (n:Nat) (hn:n≤4294967295) (A:Option Addr) (c:Nat) (w:World):Calls Tryz.prog 52 #[.slice A n c] w (RetNB w (List.range n)):=by
 have hmk:=run_mkIC n (by omega);obtain ⟨w1,hw1⟩:∃ w1,w1=w.alloc (.cells (Array.replicate n (.int .i64 0)) 3):=⟨_,rfl⟩;have hb1:Blk w1 w.heap.size 3 (dcells (List.replicate n 0)):=by
  rw [hw1,show dcells (List.replicate n 0)=Array.replicate n (.int .i64 0) by simp [dcells,nums]];exact Blk.new _ _ _
 have hx1:Ext w w1:=(by rw [hw1]; exact (Ext.refl _).alloc _);have HB1:=Hd hb1;have HX1:=Hd hx1;have HW1:=Hd hw1;obtain ⟨g,hg⟩:∃ g,g=w.heap.size:=⟨_,rfl⟩;have HG:=Hd hg;clear hb1 hx1 hw1
 go_enter Tryz.func52,Tryz.ntmps52
 go_wp2;rw [← HW1.o,← hg];rw [← hg] at HB1;clear hg hmk
 go_loopw [10] (fun i wr=>∃ k:Nat,k≤n∧i=.int .i64 (k:Int)∧Ext w wr∧Blk wr g 3 (dcells (List.range k++List.replicate (n-k) 0))) (fun i _=>n-(intOf i).toNat)
 case atStart=>exact ⟨0,Nat.zero_le _,rfl,HX1.o,by simpa using HB1.o⟩
 case round =>
  obtain ⟨k,hk,rfl,hx,hb⟩:=hrel;have HX:=Hd hx;have HB:=Hd hb;clear hx hb;by_cases hlt:k<n
  ·have c0:=HB.o.cell (dcells_at (m:=List.range k++List.replicate (n-k) 0) (k:=k) (by simp; omega));have f0:=HB.o.frozen k;have l0:=HB.o.lt;have i0:(0:Int)≤(k:Int):=(by omega);have i1:(k:Int)<(n:Int):=(by omega);go_wp2;go_roundw
   case rel =>
    refine ⟨k+1,by omega,by go_num,HX.o.set2 (by rw [HG.o]; exact Nat.le_refl _) _,?_⟩;rw [← range_set n k hlt,← dcells_set];exact HB.o.set k (.int .i64 (k:Int))
   case measure=>simp [intOf]; omega
  ·obtain rfl:k=n:=by omega
   have HB2:=Hd (show Blk wr g 3 (dcells (List.range k)) by have:=HB.o; simpa using this);go_wp2;go_ret;exact ⟨g,by rw [List.length_range]; rfl,by rw [HG.o]; exact Nat.le_refl _,HB2.o,HX.o⟩
/- Insertion sort of numbers by an order with ties: plain facts. No conditions. -/

theorem dcellsA_at {tl:Array Value} {m:List Nat} {k:Nat} (h:k<m.length):(dcells m++tl)[k]?=some (.int .i64 ((m.getD k 0:Nat):Int)):=by
 rw [Array.getElem?_append_left (by rw [dcells_size]; exact h)]; exact dcells_at h
theorem dcellsA_set (m:List Nat) (tl:Array Value) (k x:Nat) (h:k<m.length):(dcells m++tl).setIfInBounds k (.int .i64 (x:Int))=dcells (m.set k x)++tl:=by
 rw [← dcells_set,Array.setIfInBounds_append_left (by rw [dcells_size]; exact h)]
structure Wk (lt:Nat→Nat→Bool):Prop where
 asy:∀ x y,lt x y=true→lt y x=false
 neg:∀ x y z,lt x y=false→lt y z=false→lt x z=false
def insG (lt:Nat→Nat→Bool) (x:Nat):List Nat→List Nat
 | []=>[x]
 | y :: l=>if lt x y=true then x :: y :: l else y :: insG lt x l
def sortG (lt:Nat→Nat→Bool) (l:List Nat):List Nat:=l.foldl (fun acc x=>insG lt x acc) []
def SrtG (lt:Nat→Nat→Bool) (l:List Nat):Prop:=l.Pairwise fun x y=>lt y x=false
section
variable {lt:Nat→Nat→Bool}
theorem mem_insG {x y:Nat} : ∀ {l:List Nat},y∈insG lt x l↔y=x∨y∈l
 | []=>by simp [insG]
 | z :: l=>by
  unfold insG;split
  ·simp
  ·rw [List.mem_cons,mem_insG,List.mem_cons];constructor
   ·rintro (h | h | h)
    ·exact .inr (.inl h)
    ·exact .inl h
    ·exact .inr (.inr h)
   ·rintro (h | h | h)
    ·exact .inr (.inl h)
    ·exact .inl h
    ·exact .inr (.inr h)
theorem SrtG.ins (o:Wk lt) {l:List Nat} (h:SrtG lt l) (x:Nat):SrtG lt (insG lt x l):=by
 induction l with
 | nil=>simp [SrtG,insG]
 | cons y l ih =>
  have h1:=List.pairwise_cons.1 h;unfold insG;split
  ·rename_i hlt;refine List.pairwise_cons.2 ⟨fun z hz => ?_,h⟩
   rcases List.mem_cons.1 hz with rfl | hz
   ·exact o.asy _ _ hlt
   ·exact o.neg z y x (h1.1 z hz) (o.asy _ _ hlt)
  ·rename_i hlt;refine List.pairwise_cons.2 ⟨fun z hz => ?_,ih h1.2⟩
   rcases mem_insG.1 hz with rfl | hz
   ·simpa using hlt
   ·exact h1.1 z hz
theorem snoc_indG {P:List Nat→Prop} (h0:P []) (h1:∀ l x,P l→P (l++[x])) (l:List Nat):P l:=by
 have:∀ m:List Nat,P m.reverse:=by
  intro m
  induction m with
  | nil=>exact h0
  | cons x m ih=>rw [List.reverse_cons]; exact h1 _ _ ih
 have h:=this l.reverse;rwa [List.reverse_reverse] at h
theorem sortG_snoc (l:List Nat) (x:Nat):sortG lt (l++[x])=insG lt x (sortG lt l):=by simp [sortG,List.foldl_append]
theorem SrtG.sort (o:Wk lt) (l:List Nat):SrtG lt (sortG lt l):=by
 refine snoc_indG (P:=fun l=>SrtG lt (sortG lt l)) (by simp [SrtG,sortG]) (fun l x ih => ?_) l;rw [sortG_snoc]; exact ih.ins o x
theorem len_insG (x:Nat):∀ l:List Nat,(insG lt x l).length=l.length+1
 | []=>rfl
 | y :: l=>by
  unfold insG;split
  ·simp
  ·simp [len_insG x l]
theorem len_sortG (l:List Nat):(sortG lt l).length=l.length:=by
 refine snoc_indG (P:=fun l=>(sortG lt l).length=l.length) rfl (fun l x ih => ?_) l;rw [sortG_snoc,len_insG,ih]; simp
theorem mem_sortG {l:List Nat} {y:Nat} : y∈sortG lt l↔y∈l:=by
 refine snoc_indG (P:=fun l=>y∈sortG lt l↔y∈l) (by simp [sortG]) (fun l x ih => ?_) l;rw [sortG_snoc,mem_insG,ih]; simp [or_comm]
theorem insG_at {x:Nat} : ∀ {p q:List Nat},(∀ y∈p,lt x y=false)→(∀ y,q.head?=some y→lt x y=true)→insG lt x (p++q)=p++x :: q
 | [],[],_,_=>rfl
 | [],y :: q,_,h=>by simp [insG,h y rfl]
 | y :: p,q,h,k=>by
  have h1:=h y List.mem_cons_self;rw [List.cons_append];unfold insG;rw [if_neg (by rw [h1]; simp),insG_at (fun z hz=>h z (List.mem_cons_of_mem _ hz)) k];rfl
theorem SrtG.le_last (o:Wk lt) {p:List Nat} {y x:Nat} (h:SrtG lt (p++[y])) (hx:lt x y=false):∀ z∈p++[y],lt x z=false:=by
 intro z hz
 rcases List.mem_append.1 hz with hz | hz
 ·have:=(List.pairwise_append.1 h).2.2 z hz y (by simp);exact o.neg x y z hx this
 ·rw [List.mem_singleton.1 hz]; exact hx
end
/- The order of places by the answers at one input. Conditions: the answers read as data, and hold no tables; the table of tens is there. -/

def ans (l:List (List Val)) (m p:Nat):Val:=(l.getD p []).getD m Val.zero
theorem ans_of {l:List (List Val)} {m p:Nat} (hp:p<l.length) (hm:m<l[p].length):ans l m p=l[p][m]:=by
 unfold ans;simp [List.getD_eq_getElem?_getD,List.getElem?_eq_getElem hp,List.getElem?_eq_getElem hm]
def RetC (w:World) (b:Bool) (e:Ending) (w':World):Prop:=∃ r:Int,e=.returned (.int .i64 r)∧(r<0↔b=true)∧Ext w w'
set_option maxRecDepth 100000 in
set_option maxHeartbeats 4000000 in
theorem places_1 (d:Nat) (l:List (List Val)) (A:Option Addr) (c m p q bA bM:Nat) (w:World) (S:Nat→Prop) (h:Rows w S d A l) (hk:NoT l) (h1:w.cell? ⟨bA,0,none⟩=some (.slice A l.length c)) (h2:w.cell? ⟨bM,0,none⟩=some (.int .i64 (m:Int)))
  (hp:p<l.length) (hq:q<l.length) (hmp:m<l[p].length) (hmq:m<l[q].length) (ht:Tens w) :
  Calls Tryz.prog 116 #[.int .i64 (p:Int),.int .i64 (q:Int),.pointer (some ⟨bA,0,none⟩),.pointer (some ⟨bM,0,none⟩)] w (RetC w (lessF (ans l m p) (ans l m q))):=by
 rw [ans_of hp hmp,ans_of hq hmq];have hl:=h.len;obtain ⟨b,o,C,e,hB,hb,hc,-,hr⟩:=h.at_ hp;obtain ⟨b',o',C',e',hB',hb',hc',-,hr'⟩:=h.at_ hq;subst hB;injection hB' with hB';injection hB' with hB1 hB2;subst hB1 hB2;obtain ⟨g1,o1,A1,c1,B1,e1,rfl,z1,⟨x0,x1,x2,x3,x4,x5,x6⟩,-,hrv⟩:=hr.at_ hmp;obtain ⟨g2,o2,A2,c2,B2,e2,rfl,z2,⟨y0,y1,y2,y3,y4,y5,y6⟩,-,hrv'⟩:=hr'.at_ hmq;have hn1:=hr.len;have hn2:=hr'.len;obtain ⟨n1,hn1'⟩:∃ n1,n1=l[p].length:=⟨_,rfl⟩;obtain ⟨n2,hn2'⟩:∃ n2,n2=l[q].length:=⟨_,rfl⟩;obtain ⟨n,hn⟩:∃ n,n=l.length:=⟨_,rfl⟩;obtain ⟨x,hx⟩:∃ x,x=l[p][m]:=⟨_,rfl⟩;obtain ⟨y,hy⟩:∃ y,y=l[q][m]:=⟨_,rfl⟩;have hx5:x.kind≠5:=(by rw [hx]; exact hk _ (List.getElem_mem hp) _ (List.getElem_mem hmp));have hy5:y.kind≠5:=(by rw [hy]; exact hk _ (List.getElem_mem hq) _ (List.getElem_mem hmq));have hxs:x.s.size≤4294967296:=(by rw [hx]; exact hrv.size);have hys:y.s.size≤4294967296:=(by rw [hy]; exact hrv'.size);have i1:(p:Int)<(n:Int):=(by omega);have i2:(q:Int)<(n:Int):=(by omega);have i3:(m:Int)<(n1:Int):=(by omega);have i4:(m:Int)<(n2:Int):=(by omega);have j1:(0:Int)≤(p:Int):=(by omega);have j2:(0:Int)≤(q:Int):=(by omega);have j3:(0:Int)≤(m:Int):=(by omega);rw [← hx] at x0 x1 x2 x3 x4 x5 x6;rw [← hy] at y0 y1 y2 y3 y4 y5 y6;rw [← hn1'] at hc;rw [← hn2'] at hc';rw [← hn] at h1;rw [← hx,← hy];have H1:=Hd h1;have H2:=Hd h2;have P0:=Hd hc;have Q0:=Hd hc';have X0:=Hd x0;have X1:=Hd x1;have X2:=Hd x2;have X3:=Hd x3;have X4:=Hd x4;have X5:=Hd x5;have X6:=Hd x6;have Y0:=Hd y0;have Y1:=Hd y1;have Y2:=Hd y2;have Y3:=Hd y3;have Y4:=Hd y4;have Y5:=Hd y5;have Y6:=Hd y6;have HT:=Hd ht;clear h1 h2 hc hc' ht h hk hr hr' hrv hrv' hx hy hn hn1' hn2' hn1 hn2 hp hq hmp hmq hl x0 x1 x2 x3 x4 x5 x6 y0 y1 y2 y3 y4 y5 y6
 go_enter Tryz.func116,Tryz.ntmps116
 go_upto_region 1 with fail
 refine wp_region_chain (by kernel_rfl) (fun | 16=>[14,16] | 17=>[15,17] | i=>[i]) (by kernel_rfl) (LX (fun _ _=>False)) (LX.refl _) (LX.trans _) (LM [(16,[14]),(17,[15])]) gh0 (LM.zero _) ?_;apply Chain.pure (LX.refl _) (by rfl)
 ·intro vals γ w' ρ hR hN hp hρ hc hf hg;refine ⟨rfl,?_⟩;have e2:=hρ 2;(conv at e2=>rhs; whnf);have hxx:=hR.ext0 (fun _ _ h=>h.elim);have k0:=hxx.cell H1.o;have k1:=hxx.cell H2.o;have k2:=hxx.cell P0.o;have k3:=hxx.cell Q0.o;have k4:=hxx.cell X0.o;have k5:=hxx.cell X1.o;have k6:=hxx.cell X2.o;have k7:=hxx.cell X3.o;have k8:=hxx.cell X4.o;have k9:=hxx.cell X5.o;have k10:=hxx.cell X6.o;have k11:=hxx.cell Y0.o;have k12:=hxx.cell Y1.o;have k13:=hxx.cell Y2.o;have k14:=hxx.cell Y3.o;have k15:=hxx.cell Y4.o;have k16:=hxx.cell Y5.o;have k17:=hxx.cell Y6.o;clear hxx hR hN hp hρ;go_light;go_simp;exact ⟨rfl,rfl⟩
 ·rfl
 apply Chain.pure (LX.refl _) (by rfl)
 ·intro vals γ w' ρ hR hN hp hρ hc hf hg;refine ⟨rfl,?_⟩;have e0:=hρ 0;(conv at e0=>rhs; whnf);clear hR hN hp hρ;go_light;go_simp;exact ⟨rfl,rfl⟩
 ·rfl
 apply Chain.pure (LX.refl _) (by rfl)
 ·intro vals γ w' ρ hR hN hp hρ hc hf hg;refine ⟨rfl,?_⟩;have e9:ρ (.tmp 9)=_:=(hρ 9).trans (hp 0 (by decide));have e10:ρ (.tmp 10)=_:=(hρ 10).trans (hp 1 (by decide));clear hR hN hp hρ;go_light;go_simp;exact ⟨rfl,rfl⟩
 ·rfl
 apply Chain.pure (LX.refl _) (by rfl)
 ·intro vals γ w' ρ hR hN hp hρ hc hf hg;refine ⟨rfl,?_⟩;have e11:ρ (.tmp 11)=_:=(hρ 11).trans (hp 2 (by decide));have hxx:=hR.ext0 (fun _ _ h=>h.elim);have k0:=hxx.cell H1.o;have k1:=hxx.cell H2.o;have k2:=hxx.cell P0.o;have k3:=hxx.cell Q0.o;have k4:=hxx.cell X0.o;have k5:=hxx.cell X1.o;have k6:=hxx.cell X2.o;have k7:=hxx.cell X3.o;have k8:=hxx.cell X4.o;have k9:=hxx.cell X5.o;have k10:=hxx.cell X6.o;have k11:=hxx.cell Y0.o;have k12:=hxx.cell Y1.o;have k13:=hxx.cell Y2.o;have k14:=hxx.cell Y3.o;have k15:=hxx.cell Y4.o;have k16:=hxx.cell Y5.o;have k17:=hxx.cell Y6.o;clear hxx hR hN hp hρ;go_light;go_simp;exact ⟨rfl,rfl⟩
 ·rfl
 apply Chain.pure (LX.refl _) (by rfl)
 ·intro vals γ w' ρ hR hN hp hρ hc hf hg;refine ⟨rfl,?_⟩;have e3:=hρ 3;(conv at e3=>rhs; whnf);have hxx:=hR.ext0 (fun _ _ h=>h.elim);have k0:=hxx.cell H1.o;have k1:=hxx.cell H2.o;have k2:=hxx.cell P0.o;have k3:=hxx.cell Q0.o;have k4:=hxx.cell X0.o;have k5:=hxx.cell X1.o;have k6:=hxx.cell X2.o;have k7:=hxx.cell X3.o;have k8:=hxx.cell X4.o;have k9:=hxx.cell X5.o;have k10:=hxx.cell X6.o;have k11:=hxx.cell Y0.o;have k12:=hxx.cell Y1.o;have k13:=hxx.cell Y2.o;have k14:=hxx.cell Y3.o;have k15:=hxx.cell Y4.o;have k16:=hxx.cell Y5.o;have k17:=hxx.cell Y6.o;clear hxx hR hN hp hρ;go_light;go_simp;exact ⟨rfl,rfl⟩
 ·rfl
 apply Chain.pure (LX.refl _) (by rfl)
 ·intro vals γ w' ρ hR hN hp hρ hc hf hg;refine ⟨rfl,?_⟩;have e12:ρ (.tmp 12)=_:=(hρ 12).trans (hp 3 (by decide));have e13:ρ (.tmp 13)=_:=(hρ 13).trans (hp 4 (by decide));clear hR hN hp hρ;go_light;go_simp;exact ⟨rfl,rfl⟩
 ·rfl
 apply Chain.pure (LX.refl _) (by rfl)
 ·intro vals γ w' ρ hR hN hp hρ hc hf hg;refine ⟨rfl,?_⟩;have e14:ρ (.tmp 14)=_:=(hρ 14).trans (hp 5 (by decide));have hxx:=hR.ext0 (fun _ _ h=>h.elim);have k0:=hxx.cell H1.o;have k1:=hxx.cell H2.o;have k2:=hxx.cell P0.o;have k3:=hxx.cell Q0.o;have k4:=hxx.cell X0.o;have k5:=hxx.cell X1.o;have k6:=hxx.cell X2.o;have k7:=hxx.cell X3.o;have k8:=hxx.cell X4.o;have k9:=hxx.cell X5.o;have k10:=hxx.cell X6.o;have k11:=hxx.cell Y0.o;have k12:=hxx.cell Y1.o;have k13:=hxx.cell Y2.o;have k14:=hxx.cell Y3.o;have k15:=hxx.cell Y4.o;have k16:=hxx.cell Y5.o;have k17:=hxx.cell Y6.o;clear hxx hR hN hp hρ;go_light;go_simp;exact ⟨rfl,rfl⟩
 ·rfl
 apply Chain.pure (LX.refl _) (by rfl)
 ·intro vals γ w' ρ hR hN hp hρ hc hf hg;refine ⟨rfl,?_⟩;have e2:=hρ 2;(conv at e2=>rhs; whnf);have hxx:=hR.ext0 (fun _ _ h=>h.elim);have k0:=hxx.cell H1.o;have k1:=hxx.cell H2.o;have k2:=hxx.cell P0.o;have k3:=hxx.cell Q0.o;have k4:=hxx.cell X0.o;have k5:=hxx.cell X1.o;have k6:=hxx.cell X2.o;have k7:=hxx.cell X3.o;have k8:=hxx.cell X4.o;have k9:=hxx.cell X5.o;have k10:=hxx.cell X6.o;have k11:=hxx.cell Y0.o;have k12:=hxx.cell Y1.o;have k13:=hxx.cell Y2.o;have k14:=hxx.cell Y3.o;have k15:=hxx.cell Y4.o;have k16:=hxx.cell Y5.o;have k17:=hxx.cell Y6.o;clear hxx hR hN hp hρ;go_light;go_simp;exact ⟨rfl,rfl⟩
 ·rfl
 apply Chain.pure (LX.refl _) (by rfl)
 ·intro vals γ w' ρ hR hN hp hρ hc hf hg;refine ⟨rfl,?_⟩;have e1:=hρ 1;(conv at e1=>rhs; whnf);clear hR hN hp hρ;go_light;go_simp;exact ⟨rfl,rfl⟩
 ·rfl
 apply Chain.pure (LX.refl _) (by rfl)
 ·intro vals γ w' ρ hR hN hp hρ hc hf hg;refine ⟨rfl,?_⟩;have e16:ρ (.tmp 16)=_:=(hρ 16).trans (hp 7 (by decide));have e17:ρ (.tmp 17)=_:=(hρ 17).trans (hp 8 (by decide));clear hR hN hp hρ;go_light;go_simp;exact ⟨rfl,rfl⟩
 ·rfl
 apply Chain.pure (LX.refl _) (by rfl)
 ·intro vals γ w' ρ hR hN hp hρ hc hf hg;refine ⟨rfl,?_⟩;have e18:ρ (.tmp 18)=_:=(hρ 18).trans (hp 9 (by decide));have hxx:=hR.ext0 (fun _ _ h=>h.elim);have k0:=hxx.cell H1.o;have k1:=hxx.cell H2.o;have k2:=hxx.cell P0.o;have k3:=hxx.cell Q0.o;have k4:=hxx.cell X0.o;have k5:=hxx.cell X1.o;have k6:=hxx.cell X2.o;have k7:=hxx.cell X3.o;have k8:=hxx.cell X4.o;have k9:=hxx.cell X5.o;have k10:=hxx.cell X6.o;have k11:=hxx.cell Y0.o;have k12:=hxx.cell Y1.o;have k13:=hxx.cell Y2.o;have k14:=hxx.cell Y3.o;have k15:=hxx.cell Y4.o;have k16:=hxx.cell Y5.o;have k17:=hxx.cell Y6.o;clear hxx hR hN hp hρ;go_light;go_simp;exact ⟨rfl,rfl⟩
 ·rfl
 apply Chain.pure (LX.refl _) (by rfl)
 ·intro vals γ w' ρ hR hN hp hρ hc hf hg;refine ⟨rfl,?_⟩;have e3:=hρ 3;(conv at e3=>rhs; whnf);have hxx:=hR.ext0 (fun _ _ h=>h.elim);have k0:=hxx.cell H1.o;have k1:=hxx.cell H2.o;have k2:=hxx.cell P0.o;have k3:=hxx.cell Q0.o;have k4:=hxx.cell X0.o;have k5:=hxx.cell X1.o;have k6:=hxx.cell X2.o;have k7:=hxx.cell X3.o;have k8:=hxx.cell X4.o;have k9:=hxx.cell X5.o;have k10:=hxx.cell X6.o;have k11:=hxx.cell Y0.o;have k12:=hxx.cell Y1.o;have k13:=hxx.cell Y2.o;have k14:=hxx.cell Y3.o;have k15:=hxx.cell Y4.o;have k16:=hxx.cell Y5.o;have k17:=hxx.cell Y6.o;clear hxx hR hN hp hρ;go_light;go_simp;exact ⟨rfl,rfl⟩
 ·rfl
 apply Chain.pure (LX.refl _) (by rfl)
 ·intro vals γ w' ρ hR hN hp hρ hc hf hg;refine ⟨rfl,?_⟩;have e19:ρ (.tmp 19)=_:=(hρ 19).trans (hp 10 (by decide));have e20:ρ (.tmp 20)=_:=(hρ 20).trans (hp 11 (by decide));clear hR hN hp hρ;go_light;go_simp;exact ⟨rfl,rfl⟩
 ·rfl
 apply Chain.pure (LX.refl _) (by rfl)
 ·intro vals γ w' ρ hR hN hp hρ hc hf hg;refine ⟨rfl,?_⟩;have e21:ρ (.tmp 21)=_:=(hρ 21).trans (hp 12 (by decide));have hxx:=hR.ext0 (fun _ _ h=>h.elim);have k0:=hxx.cell H1.o;have k1:=hxx.cell H2.o;have k2:=hxx.cell P0.o;have k3:=hxx.cell Q0.o;have k4:=hxx.cell X0.o;have k5:=hxx.cell X1.o;have k6:=hxx.cell X2.o;have k7:=hxx.cell X3.o;have k8:=hxx.cell X4.o;have k9:=hxx.cell X5.o;have k10:=hxx.cell X6.o;have k11:=hxx.cell Y0.o;have k12:=hxx.cell Y1.o;have k13:=hxx.cell Y2.o;have k14:=hxx.cell Y3.o;have k15:=hxx.cell Y4.o;have k16:=hxx.cell Y5.o;have k17:=hxx.cell Y6.o;clear hxx hR hN hp hρ;go_light;go_simp;exact ⟨rfl,rfl⟩
 ·rfl
 refine Chain.step (FP (VarX (fun _ _=>False) 14 47 7)) (by rfl) (FP.stab VarX.stab) ?_ ?_
 ·intro vals γ w' ρ hR hN hp hρ hc hf hg;refine ⟨rfl,?_⟩;have HR:=Hd hR;have HN:=Hd hN;clear hR hN hp hρ;go_light;go_simp;exact ⟨γ.put 14 (some w'.heap.size),LX.new (by decide) (HN.o.2 (by decide) ⟨16,by decide⟩) _ _,LM.made,VarX.new HR.o.inb0 rfl (fun _ _ h=>h.elim)⟩
 refine Chain.step (FP (VarX (fun _ _=>False) 15 47 7)) (by rfl) (FP.stab VarX.stab) ?_ ?_
 ·intro vals γ w' ρ hR hN hp hρ hc hf hg;refine ⟨rfl,?_⟩;have HR:=Hd hR;have HN:=Hd hN;clear hR hN hp hρ;go_light;go_simp;exact ⟨γ.put 15 (some w'.heap.size),LX.new (by decide) (HN.o.2 (by decide) ⟨17,by decide⟩) _ _,LM.made,VarX.new HR.o.inb0 rfl (fun _ _ h=>h.elim)⟩
 refine Chain.step (fun vl γ w'=>match vl with | [p,_]=>VarXI (fun _ _=>False) 47 p #[.int .i64 x.kind,.string x.s,.int .i64 x.dn,.int .i64 x.ds,.int .i64 x.n,.slice A1 x.cols.length c1,.slice B1 x.rows.length e1] γ w' | _=>True) (by rfl) ?_ ?_ ?_
 ·intro l γ w1 γ' w2 rr h
  match l,h with
  | [],_=>trivial
  | [_],_=>trivial
  | [p,q],h=>exact VarXI.lx rr h
  | _ :: _ :: _ :: _,_=>trivial
 ·intro vals γ w' ρ hR hN hp hρ hc hf hg;refine ⟨rfl,?_⟩;have e15:ρ (.tmp 15)=_:=(hρ 15).trans (hp 6 (by decide));obtain ⟨g,⟨cl⟩,hv,hcs,hb,hk,hst⟩:=VarX.stored (hp 14 (by decide)) (s:=16) (l:=[(16,[14]),(17,[15])]) (by decide) hN;have e7:=(hρ 7).trans hv
  match cl,hcs with
  | [x0,x1,x2,x3,x4,x5,x6],_ =>
   have HST:=Hd hst;have HK:=Hd hk;have HB:=Hd hb;have q0:=hb.cell (i:=0) rfl;have q1:=hb.cell (i:=1) rfl;have q2:=hb.cell (i:=2) rfl;have q3:=hb.cell (i:=3) rfl;have q4:=hb.cell (i:=4) rfl;have q5:=hb.cell (i:=5) rfl;have q6:=hb.cell (i:=6) rfl;have qf:=hb.frozen;have ql:=hb.lt;clear hR hN hp hρ hst hk hb hv;go_light;go_simp;obtain ⟨g1,g2⟩:=HST.o _ #[.int .i64 x.kind,.string x.s,.int .i64 x.dn,.int .i64 x.ds,.int .i64 x.n,.slice A1 x.cols.length c1,.slice B1 x.rows.length e1] ((((((((Only.refl g w').set 0 (.int .i64 x.kind)).set 1 (.string x.s)).set 2 (.int .i64 x.dn)).set 3 (.int .i64 x.ds)).set 4 (.int .i64 x.n)).set 5 (.slice A1 x.cols.length c1)).set 6 (.slice B1 x.rows.length e1)) (((((((HB.o.set 0 (.int .i64 x.kind)).set 1 (.string x.s)).set 2 (.int .i64 x.dn)).set 3 (.int .i64 x.ds)).set 4 (.int .i64 x.n)).set 5 (.slice A1 x.cols.length c1)).set 6 (.slice B1 x.rows.length e1)) rfl;exact ⟨γ.put 14 none,g1,LM.done (by decide) (.inl ⟨g,HK.o⟩),g2⟩
 refine Chain.step (fun vl γ w'=>match vl with | [p,_]=>VarXI (fun _ _=>False) 47 p #[.int .i64 y.kind,.string y.s,.int .i64 y.dn,.int .i64 y.ds,.int .i64 y.n,.slice A2 y.cols.length c2,.slice B2 y.rows.length e2] γ w' | _=>True) (by rfl) ?_ ?_ ?_
 ·intro l γ w1 γ' w2 rr h
  match l,h with
  | [],_=>trivial
  | [_],_=>trivial
  | [p,q],h=>exact VarXI.lx rr h
  | _ :: _ :: _ :: _,_=>trivial
 ·intro vals γ w' ρ hR hN hp hρ hc hf hg;refine ⟨rfl,?_⟩;have e22:ρ (.tmp 22)=_:=(hρ 22).trans (hp 13 (by decide));obtain ⟨g,⟨cl⟩,hv,hcs,hb,hk,hst⟩:=VarX.stored (hp 15 (by decide)) (s:=17) (l:=[(16,[14]),(17,[15])]) (by decide) hN;have e8:=(hρ 8).trans hv
  match cl,hcs with
  | [x0,x1,x2,x3,x4,x5,x6],_ =>
   have HST:=Hd hst;have HK:=Hd hk;have HB:=Hd hb;have q0:=hb.cell (i:=0) rfl;have q1:=hb.cell (i:=1) rfl;have q2:=hb.cell (i:=2) rfl;have q3:=hb.cell (i:=3) rfl;have q4:=hb.cell (i:=4) rfl;have q5:=hb.cell (i:=5) rfl;have q6:=hb.cell (i:=6) rfl;have qf:=hb.frozen;have ql:=hb.lt;clear hR hN hp hρ hst hk hb hv;go_light;go_simp;obtain ⟨g1,g2⟩:=HST.o _ #[.int .i64 y.kind,.string y.s,.int .i64 y.dn,.int .i64 y.ds,.int .i64 y.n,.slice A2 y.cols.length c2,.slice B2 y.rows.length e2] ((((((((Only.refl g w').set 0 (.int .i64 y.kind)).set 1 (.string y.s)).set 2 (.int .i64 y.dn)).set 3 (.int .i64 y.ds)).set 4 (.int .i64 y.n)).set 5 (.slice A2 y.cols.length c2)).set 6 (.slice B2 y.rows.length e2)) (((((((HB.o.set 0 (.int .i64 y.kind)).set 1 (.string y.s)).set 2 (.int .i64 y.dn)).set 3 (.int .i64 y.ds)).set 4 (.int .i64 y.n)).set 5 (.slice A2 y.cols.length c2)).set 6 (.slice B2 y.rows.length e2)) rfl;exact ⟨γ.put 15 none,g1,LM.done (by decide) (.inl ⟨g,HK.o⟩),g2⟩
 intro vals γ w9 hR hG;have v0:vals 0=_:=hG 0 (by decide);have v1:vals 1=_:=hG 1 (by decide);have v2:vals 2=_:=hG 2 (by decide);have v3:vals 3=_:=hG 3 (by decide);have v4:vals 4=_:=hG 4 (by decide);have v5:vals 5=_:=hG 5 (by decide);have v6:vals 6=_:=hG 6 (by decide);have v7:vals 7=_:=hG 7 (by decide);have v8:vals 8=_:=hG 8 (by decide);have v9:vals 9=_:=hG 9 (by decide);have v10:vals 10=_:=hG 10 (by decide);have v11:vals 11=_:=hG 11 (by decide);have v12:vals 12=_:=hG 12 (by decide);have v13:vals 13=_:=hG 13 (by decide);obtain ⟨gx,v14,hbx,-,-⟩:=hG 16 (by decide);obtain ⟨gy,v15,hby,-,-⟩:=hG 17 (by decide);simp only [lexFrame,Act.put,List.setIfInBounds_toArray,List.set_cons_succ,List.set_cons_zero,Nat.zero_add,Nat.reduceAdd,v0,v1,v2,v3,v4,v5,v6,v7,v8,v9,v10,v11,v12,v13,v14,v15];clear v0 v1 v2 v3 v4 v5 v6 v7 v8 v9 v10 v11 v12 v13 v14 v15;have hx9:Ext w w9:=hR.ext0 (fun _ _ h=>h.elim);have HX9:=Hd hx9;have HBX:=Hd hbx;have HBY:=Hd hby;have x0:=HBX.o.cell (i:=0) rfl;have x1:=HBX.o.cell (i:=1) rfl;have x2:=HBX.o.cell (i:=2) rfl;have x3:=HBX.o.cell (i:=3) rfl;have x4:=HBX.o.cell (i:=4) rfl;have x5:=HBX.o.cell (i:=5) rfl;have x6:=HBX.o.cell (i:=6) rfl;have y0:=HBY.o.cell (i:=0) rfl;have y1:=HBY.o.cell (i:=1) rfl;have y2:=HBY.o.cell (i:=2) rfl;have y3:=HBY.o.cell (i:=3) rfl;have y4:=HBY.o.cell (i:=4) rfl;have y5:=HBY.o.cell (i:=5) rfl;have y6:=HBY.o.cell (i:=6) rfl;have xl:=HBX.o.lt;have yl:=HBY.o.lt;have HT9:=Hd (HT.o.ext hx9);clear hx9 hbx hby hR hG
 go_wp2_with fail
 refine (value_Less x y A1 B1 A2 B2 c1 e1 c2 e2 w9 hx5 hy5 hxs hys HT9.o).mono ?_;rintro e3 w3 ⟨rfl,hx3⟩;have HX3:=Hd hx3;have HBX3:=Hd (HBX.o.keep (hx3.kept _));have HBY3:=Hd (HBY.o.keep (hx3.kept _));have HT3:=Hd (HT9.o.ext hx3);clear hx3 x0 x1 x2 x3 x4 x5 x6 xl y0 y1 y2 y3 y4 y5 y6 yl;cases hf:lessF x y
 ·have HF:=Hd hf;clear hf;have x0:=HBX3.o.cell (i:=0) rfl;have x1:=HBX3.o.cell (i:=1) rfl;have x2:=HBX3.o.cell (i:=2) rfl;have x3:=HBX3.o.cell (i:=3) rfl;have x4:=HBX3.o.cell (i:=4) rfl;have x5:=HBX3.o.cell (i:=5) rfl;have x6:=HBX3.o.cell (i:=6) rfl;have y0:=HBY3.o.cell (i:=0) rfl;have y1:=HBY3.o.cell (i:=1) rfl;have y2:=HBY3.o.cell (i:=2) rfl;have y3:=HBY3.o.cell (i:=3) rfl;have y4:=HBY3.o.cell (i:=4) rfl;have y5:=HBY3.o.cell (i:=5) rfl;have y6:=HBY3.o.cell (i:=6) rfl;have xl:=HBX3.o.lt;have yl:=HBY3.o.lt
  go_wp2_with fail
  refine (value_Less y x A2 B2 A1 B1 c2 e2 c1 e1 w3 hy5 hx5 hys hxs HT3.o).mono ?_;rintro e4 w4 ⟨rfl,hx4⟩;have HX4:=Hd ((HX9.o.trans HX3.o).trans hx4);clear hx4;cases hg:lessF y x
  all_goals
   clear hg;go_wp2;go_ret;exact ⟨_,rfl,by simp [HF.o],HX4.o⟩
 ·have HF:=Hd hf;clear hf;go_wp2;go_ret;exact ⟨_,rfl,by simp [HF.o],HX9.o.trans HX3.o⟩
/- Memory of which one block may change. No conditions. -/

structure But (g:Nat) (w w':World):Prop where
 os:w'.os=w.os
 tape:w'.tape=w.tape
 output:w'.output=w.output
 size:w.heap.size≤w'.heap.size
 block:∀ b,b<w.heap.size→b≠g→w'.heap[b]?=w.heap[b]?
section
variable {g:Nat} {w w' w'':World}
theorem But.refl (g:Nat) (w:World):But g w w:=⟨rfl,rfl,rfl,Nat.le_refl _,fun _ _ _=>rfl⟩
theorem But.trans (h:But g w w') (k:But g w' w''):But g w w'':=⟨k.os.trans h.os,k.tape.trans h.tape,k.output.trans h.output,Nat.le_trans h.size k.size,fun b hb hg=>(k.block b (Nat.lt_of_lt_of_le hb h.size) hg).trans (h.block b hb hg)⟩
theorem But.of_ext (h:Ext w w'):But g w w':=⟨h.os,h.tape,h.output,h.size,fun b hb _=>h.block b hb⟩
theorem But.of_only (h:Only g w w'):But g w w':=⟨h.os,h.tape,h.output,Nat.le_of_eq h.size.symm,fun b _ hg=>h.block b hg⟩
theorem But.kept (h:But g w w') {S:Nat→Prop} (hS:∀ b,b<w.heap.size→S b→b≠g):Kept S w w':=⟨h.size,fun b hb hl=>h.block b hl (hS b hl hb)⟩
theorem But.ext (h:But g w w') (hg:w.heap.size≤g):Ext w w':=⟨h.os,h.tape,h.output,h.size,fun b hb=>h.block b hb (by omega)⟩
theorem But.exts {a:World} (h:Ext a w) (k:But g w w') (hg:a.heap.size≤g):Ext a w':=⟨k.os.trans h.os,k.tape.trans h.tape,k.output.trans h.output,Nat.le_trans h.size k.size,fun b hb=>(k.block b (Nat.lt_of_lt_of_le hb h.size) (by omega)).trans (h.block b hb)⟩
theorem But.own {base e sz n c:Nat} {A:Option Addr} {xs:List Value} (h:But g w w') (ho:Own w base e sz A n c xs) (hb:g<base):Own w' base e sz A n c xs:=ho.keep (h.kept fun b _ hb'=>by have:=(ho.blk hb').1; omega)
theorem But.blk {b t:Nat} {cs:Array Value} (h:But g w w') (hb:Blk w b t cs) (hg:b≠g):Blk w' b t cs:=hb.keep (h.kept fun x _ e=>by omega)
theorem But.grown {row:Option Nat} (h:But g w w') (hg:w'.grownBy w'' row) (hr:∀ k,row=some k→w.heap.size≤k):But g w w'':=⟨hg.os.trans h.os,hg.tape.trans h.tape,hg.output.trans h.output,Nat.le_trans h.size hg.size,fun b hb hx=>(hg.block b (Nat.lt_of_lt_of_le hb h.size) fun e=>by have:=hr b e.symm; omega).trans (h.block b hb hx)⟩
theorem But.set {b i:Nat} {u:Value} (h:But g w w') (hb:w.heap.size≤b):But g w (w'.setCell ⟨b,i,none⟩ u):=⟨h.os,h.tape,h.output,by simpa [World.setCell] using h.size,fun x hx hg=>(Below.heap_setCell _ _ _ _ (by show x≠b; omega)).trans (h.block x hx hg)⟩
end
/- The library's stable sort of at most 20 numbers: places by their answers. Conditions: the comparison answers at each memory. -/

def RetSoP (w:World) (g:Nat) (tl:Array Value) (l:List Nat) (e:Ending) (w':World):Prop:=e=.returned (.tuple #[])∧But g w w'∧Blk w' g 3 (dcells l++tl)
set_option maxRecDepth 100000 in
set_option maxHeartbeats 4000000 in
theorem insertion_P (g c:Nat) (bA bM:Nat) (tl:Array Value) (es:List Nat) (lt:Nat→Nat→Bool) (hw:Wk lt) (n:Nat) (hn:n=es.length) (hn1:n≤1000) (w:World) (h:Blk w g 3 (dcells es++tl)) (hc:∀ w',But g w w'→∀ x∈es,∀ y∈es,Calls Tryz.prog 116 #[.int .i64 (x:Int),.int .i64 (y:Int),.pointer (some ⟨bA,0,none⟩),.pointer (some ⟨bM,0,none⟩)] w' (RetC w' (lt x y))) :
  Calls Tryz.prog 202 #[.slice (some ⟨g,0,none⟩) n c,.int .i64 0,.int .i64 (n:Int),.func (.func 116) #[] #[.pointer (some ⟨bA,0,none⟩),.pointer (some ⟨bM,0,none⟩)]] w (RetSoP w g tl (sortG lt es)):=by
 have H:=Hd h;have HN:=Hd hn;have HC:=Hd hc;have HW:=Hd hw;clear h hn hc hw
 go_enter Tryz.func202,Tryz.ntmps202
 go_wp2
 go_loopw [8] (fun i wr=>∃ (k:Nat),1≤k∧(k≤n∨k=1)∧i=.int .i64 k∧But g w wr∧Blk wr g 3 (dcells (sortG lt (es.take k)++es.drop k)++tl)) (fun i _=>n+1-(intOf i).toNat)
 case atStart =>
  refine ⟨1,Nat.le_refl _,.inr rfl,rfl,But.refl _ _,?_⟩;have h1:sortG lt (es.take 1)=es.take 1:=by
   match es with
   | []=>rfl
   | x :: _=>rfl
  rw [h1,List.take_append_drop];exact H.o
 case round =>
  obtain ⟨k,hk1,hkn,rfl,hbut,hsrt⟩:=hrel;have HB:=Hd hbut;have HS:=Hd hsrt;clear hbut hsrt;by_cases hlt:k<n
  ·have hke:k<es.length:=(by rw [← HN.o]; exact hlt);obtain ⟨x,hx⟩:∃ x,x=es[k]:=⟨_,rfl⟩;obtain ⟨p,hp⟩:∃ p,p=sortG lt (es.take k):=⟨_,rfl⟩;obtain ⟨q,hq⟩:∃ q,q=es.drop (k+1):=⟨_,rfl⟩;have hpl:p.length=k:=(by rw [hp,len_sortG,List.length_take]; omega);have hql:q.length+k+1=n:=(by rw [hq,List.length_drop,HN.o]; omega);have HP:=Hd hp;have HQ:=Hd hq;have HX:=Hd hx;have HPL:=Hd hpl;have HQL:=Hd hql;have HXM:=Hd (show x∈es by rw [hx]; exact List.getElem_mem hke);have HPM:=Hd (show ∀ y∈p,y∈es by intro y hy; rw [hp,mem_sortG] at hy; exact List.mem_of_mem_take hy);have HPS:=Hd (show SrtG lt p by rw [hp]; exact SrtG.sort HW.o _);have HS0:=Hd (show Blk wr g 3 (dcells (p++x :: q)++tl) by have h1:=HS.o; rw [List.drop_eq_getElem_cons hke,← hp,← hq,← hx] at h1; exact h1);clear hx hp hq hpl hql HS;go_wp2;obtain ⟨wo,rfl⟩:∃ wo:World,wo=wr:=⟨_,rfl⟩
   go_loopw [9] (fun v wr=>∃ (j:Nat) (p1 p2:List Nat),j≤k∧v=.int .i64 j∧p=p1++p2∧p1.length=j∧(∀ y∈p2,lt x y=true)∧But g w wr∧Blk wr g 3 (dcells (p1++x :: p2++q)++tl)) (fun v _=>(intOf v).toNat)
   case atStart=>exact ⟨k,p,[],Nat.le_refl _,rfl,by simp,HPL.o,by simp,HB.o,by simpa using HS0.o⟩
   case round =>
    clear HS0 HB;obtain ⟨j,p1,p2,hjk,rfl,hpp,hp1,hall,hbut,hsrt⟩:=hrel;have HB:=Hd hbut;have HS:=Hd hsrt;have HPP:=Hd hpp;have HP1:=Hd hp1;have HALL:=Hd hall;clear hbut hsrt hpp hp1 hall;by_cases hj0:j=0
    ·have HDONE:=Hd (show insG lt x p=p1++x :: p2 from by
      rw [HPP.o];refine insG_at (fun z hz => ?_) (fun z hz=>HALL.o z (List.mem_of_mem_head? hz));have:p1=[]:=List.eq_nil_of_length_eq_zero (by rw [HP1.o]; exact hj0);rw [this] at hz;cases hz)
     go_upto_region 4 with fail
     refine wp_region_chain (by kernel_rfl) (fun i=>[i]) (by kernel_rfl) (LX (fun _ _=>False)) (LX.refl _) (LX.trans _) (LM []) gh0 (LM.zero _) ?_;apply Chain.pure (LX.refl _) (by rfl)
     ·intro vals γ w' ρ hR hN hp hρ hc hf hg;refine ⟨rfl,?_⟩;have e9:=hρ 9;(conv at e9=>rhs; whnf);clear hR hN hp hρ;go_light;go_simp;exact ⟨rfl,rfl⟩
     ·rfl
     apply Chain.pure (LX.refl _) (by rfl)
     ·intro vals γ w' ρ hR hN hp hρ hc hf hg;refine ⟨rfl,?_⟩;have e1:=hρ 1;(conv at e1=>rhs; whnf);clear hR hN hp hρ;go_light;go_simp;exact ⟨rfl,rfl⟩
     ·rfl
     apply Chain.pure (LX.refl _) (by rfl)
     ·intro vals γ w' ρ hR hN hp hρ hc hf hg;refine ⟨rfl,?_⟩;have e18:ρ (.tmp 18)=_:=(hρ 18).trans (hp 0 (by decide));have e19:ρ (.tmp 19)=_:=(hρ 19).trans (hp 1 (by decide));clear hR hN hp hρ;go_light;go_simp;exact ⟨rfl,rfl⟩
     ·rfl
     apply Chain.pure (LX.refl _) (by rfl)
     ·intro vals γ w' ρ hR hN hp hρ hc hf hg;refine ⟨rfl,?_⟩;have e20:ρ (.tmp 20)=_:=(hρ 20).trans (hp 2 (by decide));clear hR hN hp hρ;go_light;go_simp;exact ⟨rfl,rfl⟩
     ·rfl
     refine Chain.no (by rfl) (by rfl) ?_ ?_
     ·intro vals γ w' hp;show (boolOf (vals 3)==some true)=false;rw [show vals 3=.bool false from hp 3 (by decide)]; rfl
     refine Chain.no (by rfl) (by rfl) ?_ ?_
     ·intro vals γ w' hp;show (boolOf (vals 3)==some true)=false;rw [show vals 3=.bool false from hp 3 (by decide)]; rfl
     refine Chain.no (by rfl) (by rfl) ?_ ?_
     ·intro vals γ w' hp;show (boolOf (vals 3)==some true)=false;rw [show vals 3=.bool false from hp 3 (by decide)]; rfl
     refine Chain.no (by rfl) (by rfl) ?_ ?_
     ·intro vals γ w' hp;show (boolOf (vals 3)==some true)=false;rw [show vals 3=.bool false from hp 3 (by decide)]; rfl
     refine Chain.no (by rfl) (by rfl) ?_ ?_
     ·intro vals γ w' hp;show (boolOf (vals 3)==some true)=false;rw [show vals 3=.bool false from hp 3 (by decide)]; rfl
     refine Chain.no (by rfl) (by rfl) ?_ ?_
     ·intro vals γ w' hp;show (boolOf (vals 3)==some true)=false;rw [show vals 3=.bool false from hp 3 (by decide)]; rfl
     refine Chain.no (by rfl) (by rfl) ?_ ?_
     ·intro vals γ w' hp;show (boolOf (vals 3)==some true)=false;rw [show vals 3=.bool false from hp 3 (by decide)]; rfl
     refine Chain.no (by rfl) (by rfl) ?_ ?_
     ·intro vals γ w' hp;show (boolOf (vals 3)==some true)=false;rw [show vals 3=.bool false from hp 3 (by decide)]; rfl
     refine Chain.no (by rfl) (by rfl) ?_ ?_
     ·intro vals γ w' hp;show (boolOf (vals 3)==some true)=false;rw [show vals 3=.bool false from hp 3 (by decide)]; rfl
     refine Chain.no (by rfl) (by rfl) ?_ ?_
     ·intro vals γ w' hp;show (boolOf (vals 3)==some true)=false;rw [show vals 3=.bool false from hp 3 (by decide)]; rfl
     refine Chain.no (by rfl) (by rfl) ?_ ?_
     ·intro vals γ w' hp;show (boolOf (vals 3)==some true)=false;rw [show vals 3=.bool false from hp 3 (by decide)]; rfl
     refine Chain.no (by rfl) (by rfl) ?_ ?_
     ·intro vals γ w' hp;show (boolOf (vals 3)==some true)=false;rw [show vals 3=.bool false from hp 3 (by decide)]; rfl
     apply Chain.pure (LX.refl _) (by rfl)
     ·intro vals γ w' ρ hR hN hp hρ hc hf hg;refine ⟨rfl,?_⟩;have e21:ρ (.tmp 21)=_:=(hρ 21).trans (hp 3 (by decide));have e33:ρ (.tmp 33)=_:=(hρ 33).trans (hp 15 (by decide));clear hR hN hp hρ;go_light;go_simp;exact ⟨rfl,rfl⟩
     ·rfl
     intro vals γ w9 hR hG;have v0:vals 0=_:=hG 0 (by decide);have v1:vals 1=_:=hG 1 (by decide);have v2:vals 2=_:=hG 2 (by decide);have v3:vals 3=_:=hG 3 (by decide);have v4:vals 4=_:=hG 4 (by decide);have v5:vals 5=_:=hG 5 (by decide);have v6:vals 6=_:=hG 6 (by decide);have v7:vals 7=_:=hG 7 (by decide);have v8:vals 8=_:=hG 8 (by decide);have v9:vals 9=_:=hG 9 (by decide);have v10:vals 10=_:=hG 10 (by decide);have v11:vals 11=_:=hG 11 (by decide);have v12:vals 12=_:=hG 12 (by decide);have v13:vals 13=_:=hG 13 (by decide);have v14:vals 14=_:=hG 14 (by decide);have v15:vals 15=_:=hG 15 (by decide);have v16:vals 16=_:=hG 16 (by decide);simp only [lexFrame,Act.put,List.setIfInBounds_toArray,List.set_cons_succ,List.set_cons_zero,Nat.zero_add,Nat.reduceAdd,v0,v1,v2,v3,v4,v5,v6,v7,v8,v9,v10,v11,v12,v13,v14,v15,v16];clear v0 v1 v2 v3 v4 v5 v6 v7 v8 v9 v10 v11 v12 v13 v14 v15 v16;have hx6:Ext wr w9:=hR.ext0 (fun _ _ h=>h.elim);clear hR hG;have HB6:=Hd (HB.o.trans (But.of_ext hx6));have HS6:=Hd (HS.o.keep (hx6.kept _));clear hx6;go_wp2;go_roundw
     case rel=>exact ⟨k+1,by omega,by omega,by go_num,HB6.o,by rw [List.take_succ_eq_append_getElem hke,sortG_snoc,← HP.o,← HX.o,HDONE.o,← HQ.o]; exact HS6.o⟩
     case measure=>simp [intOf]; omega
    ·obtain ⟨j1,hj1⟩:∃ j1,j=j1+1:=⟨j-1,by omega⟩;have hne:p1≠[]:=fun e=>by have:=HP1.o; rw [e] at this; simp at this; omega
     obtain ⟨p',hp'⟩:∃ p',p'=p1.dropLast:=⟨_,rfl⟩;obtain ⟨y,hy⟩:∃ y,y=p1.getLast hne:=⟨_,rfl⟩;have hsplit:p1=p'++[y]:=(by rw [hp',hy,List.dropLast_concat_getLast]);have hpl':p'.length=j1:=(by have:=HP1.o; rw [hsplit] at this; simp at this; omega);have HSP:=Hd hsplit;have HPL':=Hd hpl';have HYM:=Hd (show y∈es from HPM.o y (by rw [HPP.o,hsplit]; simp));obtain ⟨es',hes'⟩:∃ es',es'=p'++y :: x :: (p2++q):=⟨_,rfl⟩;have hsy:Blk wr g 3 (dcells es'++tl):=(by have h1:=HS.o; rw [hsplit] at h1; rw [hes']; simpa using h1);have hlen:es'.length=n:=(by have h1:=HQL.o; have h2:=HPL.o; have h3:=HPP.o; rw [h3,hsplit] at h2; rw [hes']; simp at h2 ⊢; omega);have hy1:es'[j1]?=some y:=(by rw [hes',List.getElem?_append_right (by omega),hpl',Nat.sub_self]; rfl);have hx1:es'[j]?=some x:=(by rw [hes',List.getElem?_append_right (by omega),hpl',hj1,Nat.add_sub_cancel_left]; rfl);have CY:=Hd (show (dcells es'++tl)[j1]?=some (.int .i64 (y:Int)) by rw [dcellsA_at (by omega),getD_of _ _ _ (by omega)]; rw [List.getElem?_eq_getElem (by omega)] at hy1; injection hy1 with e; rw [e]);have CX:=Hd (show (dcells es'++tl)[j]?=some (.int .i64 (x:Int)) by rw [dcellsA_at (by omega),getD_of _ _ _ (by omega)]; rw [List.getElem?_eq_getElem (by omega)] at hx1; injection hx1 with e; rw [e]);have hsw:(es'.set j y).set j1 x=p'++x :: y :: (p2++q):=(by rw [hes',hj1,← hpl']; simp);have HSW:=Hd hsw;have X0:=Hd (hsy.cell CX.o);have Y0:=Hd (hsy.cell CY.o);obtain ⟨b,hb⟩:∃ b,b=lt x y:=⟨_,rfl⟩;have HBE:=Hd hb;have HSY:=Hd hsy;have HJW:=Hd (show (j:Int)-1=(j1:Int) by omega);have HJ1:=Hd hj1;have HJ2:=Hd (show IntKind.i64.wrap (j1:Int)=(j1:Int) from IntWalk.i64_in _ (by omega));have hj1j:j1<j:=(by omega);have hjn:j<n:=(by omega);have hj1n:j1<n:=(by omega);have hjp:0<j:=(by omega);have i0:(0:Int)≤(j:Int):=(by omega);have i1:(j:Int)<(n:Int):=(by omega);have i2:(0:Int)≤(j1:Int):=(by omega);have i3:(j1:Int)<(n:Int):=(by omega);have i4:(0:Int)<(j:Int):=(by omega);clear hj1 hne hp' hy hsplit hpl' hsy hb hes' hsw hy1 hx1;have HLEN:=Hd hlen;clear hlen
     go_upto_region 4 with fail
     refine wp_region_chain (by kernel_rfl) (fun i=>[i]) (by kernel_rfl) (LX (fun _ _=>False)) (LX.refl _) (LX.trans _) (LM []) gh0 (LM.zero _) ?_;apply Chain.pure (LX.refl _) (by rfl)
     ·intro vals γ w' ρ hR hN hp hρ hc hf hg;refine ⟨rfl,?_⟩;have e9:=hρ 9;(conv at e9=>rhs; whnf);clear hR hN hp hρ;go_light;go_simp;exact ⟨rfl,rfl⟩
     ·rfl
     apply Chain.pure (LX.refl _) (by rfl)
     ·intro vals γ w' ρ hR hN hp hρ hc hf hg;refine ⟨rfl,?_⟩;have e1:=hρ 1;(conv at e1=>rhs; whnf);clear hR hN hp hρ;go_light;go_simp;exact ⟨rfl,rfl⟩
     ·rfl
     apply Chain.pure (LX.refl _) (by rfl)
     ·intro vals γ w' ρ hR hN hp hρ hc hf hg;refine ⟨rfl,?_⟩;have e18:ρ (.tmp 18)=_:=(hρ 18).trans (hp 0 (by decide));have e19:ρ (.tmp 19)=_:=(hρ 19).trans (hp 1 (by decide));clear hR hN hp hρ;go_light;go_simp;exact ⟨rfl,rfl⟩
     ·rfl
     apply Chain.pure (LX.refl _) (by rfl)
     ·intro vals γ w' ρ hR hN hp hρ hc hf hg;refine ⟨rfl,?_⟩;have e20:ρ (.tmp 20)=_:=(hρ 20).trans (hp 2 (by decide));clear hR hN hp hρ;go_light;go_simp;exact ⟨rfl,rfl⟩
     ·rfl
     apply Chain.pure (LX.refl _) (by rfl)
     ·intro vals γ w' ρ hR hN hp hρ hc hf hg;refine ⟨by show (boolOf (vals 3)==some true)=true; rw [show vals 3=.bool true from hp 3 (by decide)]; rfl,?_⟩;have e3:=hρ 3;(conv at e3=>rhs; whnf);clear hR hN hp hρ;go_light;go_simp;exact ⟨rfl,rfl⟩
     ·rfl
     apply Chain.pure (LX.refl _) (by rfl)
     ·intro vals γ w' ρ hR hN hp hρ hc hf hg;refine ⟨by show (boolOf (vals 3)==some true)=true; rw [show vals 3=.bool true from hp 3 (by decide)]; rfl,?_⟩;have e0:=hρ 0;(conv at e0=>rhs; whnf);clear hR hN hp hρ;go_light;go_simp;exact ⟨rfl,rfl⟩
     ·rfl
     apply Chain.pure (LX.refl _) (by rfl)
     ·intro vals γ w' ρ hR hN hp hρ hc hf hg;refine ⟨by show (boolOf (vals 3)==some true)=true; rw [show vals 3=.bool true from hp 3 (by decide)]; rfl,?_⟩;have e9:=hρ 9;(conv at e9=>rhs; whnf);clear hR hN hp hρ;go_light;go_simp;exact ⟨rfl,rfl⟩
     ·rfl
     apply Chain.pure (LX.refl _) (by rfl)
     ·intro vals γ w' ρ hR hN hp hρ hc hf hg;refine ⟨by show (boolOf (vals 3)==some true)=true; rw [show vals 3=.bool true from hp 3 (by decide)]; rfl,?_⟩;have e23:ρ (.tmp 23)=_:=(hρ 23).trans (hp 5 (by decide));have e24:ρ (.tmp 24)=_:=(hρ 24).trans (hp 6 (by decide));clear hR hN hp hρ;go_light;go_simp;exact ⟨rfl,rfl⟩
     ·rfl
     apply Chain.pure (LX.refl _) (by rfl)
     ·intro vals γ w' ρ hR hN hp hρ hc hf hg;refine ⟨by show (boolOf (vals 3)==some true)=true; rw [show vals 3=.bool true from hp 3 (by decide)]; rfl,?_⟩;have e25:ρ (.tmp 25)=_:=(hρ 25).trans (hp 7 (by decide));have hxx:=hR.ext0 (fun _ _ h=>h.elim);have k0:=hxx.cell X0.o;have k1:=hxx.cell Y0.o;clear hxx hR hN hp hρ;go_light;go_simp;exact ⟨rfl,rfl⟩
     ·rfl
     apply Chain.pure (LX.refl _) (by rfl)
     ·intro vals γ w' ρ hR hN hp hρ hc hf hg;refine ⟨by show (boolOf (vals 3)==some true)=true; rw [show vals 3=.bool true from hp 3 (by decide)]; rfl,?_⟩;have e0:=hρ 0;(conv at e0=>rhs; whnf);clear hR hN hp hρ;go_light;go_simp;exact ⟨rfl,rfl⟩
     ·rfl
     apply Chain.pure (LX.refl _) (by rfl)
     ·intro vals γ w' ρ hR hN hp hρ hc hf hg;refine ⟨by show (boolOf (vals 3)==some true)=true; rw [show vals 3=.bool true from hp 3 (by decide)]; rfl,?_⟩;have e9:=hρ 9;(conv at e9=>rhs; whnf);clear hR hN hp hρ;go_light;go_simp;exact ⟨rfl,rfl⟩
     ·rfl
     apply Chain.pure (LX.refl _) (by rfl)
     ·intro vals γ w' ρ hR hN hp hρ hc hf hg;refine ⟨by show (boolOf (vals 3)==some true)=true; rw [show vals 3=.bool true from hp 3 (by decide)]; rfl,?_⟩;have e28:ρ (.tmp 28)=_:=(hρ 28).trans (hp 10 (by decide));have z1:=HJW.o;have z2:=HJ2.o;clear hR hN hp hρ;go_light;go_simp;exact ⟨rfl,rfl⟩
     ·rfl
     apply Chain.pure (LX.refl _) (by rfl)
     ·intro vals γ w' ρ hR hN hp hρ hc hf hg;refine ⟨by show (boolOf (vals 3)==some true)=true; rw [show vals 3=.bool true from hp 3 (by decide)]; rfl,?_⟩;have e27:ρ (.tmp 27)=_:=(hρ 27).trans (hp 9 (by decide));have e29:ρ (.tmp 29)=_:=(hρ 29).trans (hp 11 (by decide));clear hR hN hp hρ;go_light;go_simp;exact ⟨rfl,rfl⟩
     ·rfl
     apply Chain.pure (LX.refl _) (by rfl)
     ·intro vals γ w' ρ hR hN hp hρ hc hf hg;refine ⟨by show (boolOf (vals 3)==some true)=true; rw [show vals 3=.bool true from hp 3 (by decide)]; rfl,?_⟩;have e30:ρ (.tmp 30)=_:=(hρ 30).trans (hp 12 (by decide));have hxx:=hR.ext0 (fun _ _ h=>h.elim);have k0:=hxx.cell X0.o;have k1:=hxx.cell Y0.o;clear hxx hR hN hp hρ;go_light;go_simp;exact ⟨rfl,rfl⟩
     ·rfl
     refine Chain.step (FP fun v γ w'=>∃ r:Int,v=.int .i64 r∧(r<0↔b=true)) (by rfl) (FP.stab ?_) ?_ ?_
     ·intro v γ w1 γ' w2 r h;exact h
     ·intro vals γ w' ρ hR hN hp hρ hc hf hg;refine ⟨by show (boolOf (vals 3)==some true)=true; rw [show vals 3=.bool true from hp 3 (by decide)]; rfl,?_⟩;have e22:ρ (.tmp 22)=_:=(hρ 22).trans (hp 4 (by decide));have e26:ρ (.tmp 26)=_:=(hρ 26).trans (hp 8 (by decide));have e31:ρ (.tmp 31)=_:=(hρ 31).trans (hp 13 (by decide));have HR:=Hd hR;have HBW:=Hd (HB.o.trans (But.of_ext (hR.ext0 fun _ _ h=>h.elim)));clear hR hN hp hρ;go_light;go_simp;refine (HC.o w' HBW.o x HXM.o y HYM.o).mono ?_;rintro e1 w3 ⟨r,he,hr,hx⟩;exact ⟨_,he,γ,LX.of_ext _ γ hx,fun _ _ _ h=>h,r,rfl,by rw [HBE.o]; exact hr⟩
     refine Chain.step (FP fun v γ w'=>v=.bool b) (by rfl) (FP.stab ?_) ?_ ?_
     ·intro v γ w1 γ' w2 r h;exact h
     ·intro vals γ w' ρ hR hN hp hρ hc hf hg;refine ⟨by show (boolOf (vals 3)==some true)=true; rw [show vals 3=.bool true from hp 3 (by decide)]; rfl,?_⟩;obtain ⟨r,hr0,hr1⟩:=hp 14 (by decide);have e32:=(hρ 32).trans hr0;have HR1:=Hd hr1;clear hr0 hr1 hR hN hp hρ;go_light;go_simp;refine ⟨γ,LX.refl _ _ _,fun _ _ _ h=>h,?_⟩;show Value.bool (decide (r<0))=Value.bool b;rw [show decide (r<0)=b by cases b <;> simp [HR1.o]]
     apply Chain.pure (LX.refl _) (by rfl)
     ·intro vals γ w' ρ hR hN hp hρ hc hf hg;refine ⟨rfl,?_⟩;have e21:ρ (.tmp 21)=_:=(hρ 21).trans (hp 3 (by decide));have e33:ρ (.tmp 33)=_:=(hρ 33).trans (hp 15 (by decide));clear hR hN hp hρ;go_light;go_simp;exact ⟨rfl,rfl⟩
     ·rfl
     intro vals γ w9 hR hG;have v0:vals 0=_:=hG 0 (by decide);have v1:vals 1=_:=hG 1 (by decide);have v2:vals 2=_:=hG 2 (by decide);have v3:vals 3=_:=hG 3 (by decide);have v4:vals 4=_:=hG 4 (by decide);have v5:vals 5=_:=hG 5 (by decide);have v6:vals 6=_:=hG 6 (by decide);have v7:vals 7=_:=hG 7 (by decide);have v8:vals 8=_:=hG 8 (by decide);have v9:vals 9=_:=hG 9 (by decide);have v10:vals 10=_:=hG 10 (by decide);have v11:vals 11=_:=hG 11 (by decide);have v12:vals 12=_:=hG 12 (by decide);have v13:vals 13=_:=hG 13 (by decide);have v16:vals 16=_:=hG 16 (by decide);simp only [lexFrame,Act.put,List.setIfInBounds_toArray,List.set_cons_succ,List.set_cons_zero,Nat.zero_add,Nat.reduceAdd,v0,v1,v2,v3,v4,v5,v6,v7,v8,v9,v10,v11,v12,v13,v16];clear v0 v1 v2 v3 v4 v5 v6 v7 v8 v9 v10 v11 v12 v13 v16;have hx6:Ext wr w9:=hR.ext0 (fun _ _ h=>h.elim);clear hR hG;have HB6:=Hd (HB.o.trans (But.of_ext hx6));have HSY6:=Hd (HSY.o.keep (hx6.kept _));have HS6:=Hd (HS.o.keep (hx6.kept _));clear hx6 X0 Y0;cases b
     ·have HDONE:=Hd (show insG lt x p=p1++x :: p2 from by
       have hbf:lt x y=false:=HBE.o.symm;rw [HPP.o];refine insG_at (fun z hz => ?_) (fun z hz=>HALL.o z (List.mem_of_mem_head? hz));have hsort:=HPS.o;rw [HPP.o,HSP.o] at hsort;rw [HSP.o] at hz;exact SrtG.le_last HW.o (List.pairwise_append.1 hsort).1 hbf z hz)
      go_wp2;go_roundw
      case rel=>exact ⟨k+1,by omega,by omega,by go_num,HB6.o,by rw [List.take_succ_eq_append_getElem hke,sortG_snoc,← HP.o,← HX.o,HDONE.o,← HQ.o]; exact HS6.o⟩
      case measure=>simp [intOf]; omega
     ·obtain ⟨w6,hw6⟩:∃ w6,w6=w9:=⟨_,rfl⟩;rw [← hw6] at HB6 HSY6 ⊢;clear hw6;have HBK:=Hd HSY6.o
      go_upto_region 6 with fail
      refine wp_region_chain (by kernel_rfl) (fun i=>[i]) (by kernel_rfl) (LX (fun m b=>(m=1000∨m=1001)∧b=g)) (LX.refl _) (LX.trans _) (LM [(9,[1000,1001]),(13,[1000,1001]),(15,[1000,1001]),(17,[1001])]) gh0 (LM.zero _) ?_;apply Chain.pure (LX.refl _) (by rfl)
      ·intro vals γ w' ρ hR hN hp hρ hc hf hg;refine ⟨rfl,?_⟩;have e0:=hρ 0;(conv at e0=>rhs; whnf);clear hR hN hp hρ;go_light;go_simp;exact ⟨rfl,rfl⟩
      ·rfl
      apply Chain.pure (LX.refl _) (by rfl)
      ·intro vals γ w' ρ hR hN hp hρ hc hf hg;refine ⟨rfl,?_⟩;have e9:=hρ 9;(conv at e9=>rhs; whnf);clear hR hN hp hρ;go_light;go_simp;exact ⟨rfl,rfl⟩
      ·rfl
      apply Chain.pure (LX.refl _) (by rfl)
      ·intro vals γ w' ρ hR hN hp hρ hc hf hg;refine ⟨rfl,?_⟩;have e0:=hρ 0;(conv at e0=>rhs; whnf);clear hR hN hp hρ;go_light;go_simp;exact ⟨rfl,rfl⟩
      ·rfl
      apply Chain.pure (LX.refl _) (by rfl)
      ·intro vals γ w' ρ hR hN hp hρ hc hf hg;refine ⟨rfl,?_⟩;have e9:=hρ 9;(conv at e9=>rhs; whnf);clear hR hN hp hρ;go_light;go_simp;exact ⟨rfl,rfl⟩
      ·rfl
      apply Chain.pure (LX.refl _) (by rfl)
      ·intro vals γ w' ρ hR hN hp hρ hc hf hg;refine ⟨rfl,?_⟩;have e40:ρ (.tmp 40)=_:=(hρ 40).trans (hp 3 (by decide));have z1:=HJW.o;have z2:=HJ2.o;clear hR hN hp hρ;go_light;go_simp;exact ⟨rfl,rfl⟩
      ·rfl
      apply Chain.pure (LX.refl _) (by rfl)
      ·intro vals γ w' ρ hR hN hp hρ hc hf hg;refine ⟨rfl,?_⟩;have e0:=hρ 0;(conv at e0=>rhs; whnf);clear hR hN hp hρ;go_light;go_simp;exact ⟨rfl,rfl⟩
      ·rfl
      apply Chain.pure (LX.refl _) (by rfl)
      ·intro vals γ w' ρ hR hN hp hρ hc hf hg;refine ⟨rfl,?_⟩;have e9:=hρ 9;(conv at e9=>rhs; whnf);clear hR hN hp hρ;go_light;go_simp;exact ⟨rfl,rfl⟩
      ·rfl
      apply Chain.pure (LX.refl _) (by rfl)
      ·intro vals γ w' ρ hR hN hp hρ hc hf hg;refine ⟨rfl,?_⟩;have e43:ρ (.tmp 43)=_:=(hρ 43).trans (hp 6 (by decide));have z1:=HJW.o;have z2:=HJ2.o;clear hR hN hp hρ;go_light;go_simp;exact ⟨rfl,rfl⟩
      ·rfl
      apply Chain.pure (LX.refl _) (by rfl)
      ·intro vals γ w' ρ hR hN hp hρ hc hf hg;refine ⟨rfl,?_⟩;have e42:ρ (.tmp 42)=_:=(hρ 42).trans (hp 5 (by decide));have e44:ρ (.tmp 44)=_:=(hρ 44).trans (hp 7 (by decide));clear hR hN hp hρ;go_light;go_simp;exact ⟨rfl,rfl⟩
      ·rfl
      apply Chain.pure (LX.refl _) (by rfl)
      ·intro vals γ w' ρ hR hN hp hρ hc hf hg;refine ⟨rfl,?_⟩;have e45:ρ (.tmp 45)=_:=(hρ 45).trans (hp 8 (by decide));have hk1000:=hR.key0 hN (k:=1000) (by decide) (by decide);have hk1001:=hR.key0 hN (k:=1001) (by decide) (by decide);have hb0:=HBK.o.keep ((Kept.drew _ _).trans (hR.keptS (S:=fun b=>b=g) fun b _ e=>⟨free0 b,fun m hm=>by rcases hm.1 with rfl | rfl <;> assumption⟩));have qy:=hb0.cell (CY.o);clear hk1000 hk1001 hb0 hR hN hp hρ;go_light;go_simp;exact ⟨rfl,rfl⟩
      ·rfl
      apply Chain.pure (LX.refl _) (by rfl)
      ·intro vals γ w' ρ hR hN hp hρ hc hf hg;refine ⟨rfl,?_⟩;have e0:=hρ 0;(conv at e0=>rhs; whnf);clear hR hN hp hρ;go_light;go_simp;exact ⟨rfl,rfl⟩
      ·rfl
      apply Chain.pure (LX.refl _) (by rfl)
      ·intro vals γ w' ρ hR hN hp hρ hc hf hg;refine ⟨rfl,?_⟩;have e9:=hρ 9;(conv at e9=>rhs; whnf);clear hR hN hp hρ;go_light;go_simp;exact ⟨rfl,rfl⟩
      ·rfl
      apply Chain.pure (LX.refl _) (by rfl)
      ·intro vals γ w' ρ hR hN hp hρ hc hf hg;refine ⟨rfl,?_⟩;have e47:ρ (.tmp 47)=_:=(hρ 47).trans (hp 10 (by decide));have e48:ρ (.tmp 48)=_:=(hρ 48).trans (hp 11 (by decide));clear hR hN hp hρ;go_light;go_simp;exact ⟨rfl,rfl⟩
      ·rfl
      apply Chain.pure (LX.refl _) (by rfl)
      ·intro vals γ w' ρ hR hN hp hρ hc hf hg;refine ⟨rfl,?_⟩;have e49:ρ (.tmp 49)=_:=(hρ 49).trans (hp 12 (by decide));have hk1000:=hR.key0 hN (k:=1000) (by decide) (by decide);have hk1001:=hR.key0 hN (k:=1001) (by decide) (by decide);have hb0:=HBK.o.keep ((Kept.drew _ _).trans (hR.keptS (S:=fun b=>b=g) fun b _ e=>⟨free0 b,fun m hm=>by rcases hm.1 with rfl | rfl <;> assumption⟩));have qx:=hb0.cell (CX.o);clear hk1000 hk1001 hb0 hR hN hp hρ;go_light;go_simp;exact ⟨rfl,rfl⟩
      ·rfl
      apply Chain.pure (LX.refl _) (by rfl)
      ·intro vals γ w' ρ hR hN hp hρ hc hf hg;refine ⟨rfl,?_⟩;have e37:ρ (.tmp 37)=_:=(hρ 37).trans (hp 0 (by decide));have e38:ρ (.tmp 38)=_:=(hρ 38).trans (hp 1 (by decide));clear hR hN hp hρ;go_light;go_simp;exact ⟨rfl,rfl⟩
      ·rfl
      refine Chain.step (fun _ γ w'=>g<w'.heap.size∧γ 1000=some none∧Free γ g∧(γ 1001=none→Blk w' g 3 (dcells (es'.set j y)++tl))) (by rfl) ?_ ?_ ?_
      ·rintro l γ w1 γ' w2 rr ⟨h0,h1,h2,h3⟩;refine ⟨Nat.lt_of_lt_of_le h0 rr.size,rr.done _ h1,fun ⟨k',hk'⟩=>h2 ⟨k',rr.old k' _ hk' h0⟩,fun h4 => ?_⟩
       ·have h5:γ 1001=none:=by
         cases h6:γ 1001 with
         | none=>rfl
         | some z =>
          cases z with
          | none=>rw [rr.done _ h6] at h4; cases h4
          | some z=>rcases rr.on _ _ h6 with h7 | h7 <;> (rw [h7] at h4; cases h4)
        exact (h3 h5).keep (rr.keptS fun b _ e=>⟨by rw [e]; exact h2,fun m hm=>by rcases hm.1 with rfl | rfl <;> first | rw [h1,rr.done _ h1] | rw [h4,h5]⟩)
      ·intro vals γ w' ρ hR hN hp hρ hc hf hg;refine ⟨rfl,?_⟩;have e46:ρ (.tmp 46)=_:=(hρ 46).trans (hp 9 (by decide));have e51:ρ (.tmp 51)=_:=(hρ 51).trans (hp 14 (by decide));have HR:=Hd hR;have hk1000:=hR.key0 hN (k:=1000) (by decide) (by decide);have hk1001:=hR.key0 hN (k:=1001) (by decide) (by decide);have hb0:=HBK.o.keep ((Kept.drew _ _).trans (hR.keptS (S:=fun b=>b=g) fun b _ e=>⟨free0 b,fun m hm=>by rcases hm.1 with rfl | rfl <;> assumption⟩));have HB0:=Hd hb0;have qf:=hb0.frozen;have ql:=hb0.lt;have qc:=hb0.cell (dcellsA_at (tl:=tl) (m:=es') (k:=j) (by simp only [HLEN.o]; omega));have HK:=Hd hk1000;clear hR hN hp hρ hb0 hk1000 hk1001;go_light;go_simp;refine ⟨γ.put 1000 none,LX.write HK.o rfl rfl rfl (by simp [World.setCell]) (fun b hb hm=>((Only.refl g w').set j (.int .i64 (y:Int))).block b fun e=>hm ⟨by simp,e⟩),LM.done (by decide) (.inr (by decide)),?_⟩;have hb1:=HB0.o.set j (.int .i64 (y:Int));rw [dcellsA_set _ _ _ _ (by simp only [HLEN.o]; omega)] at hb1;exact ⟨by simpa [World.setCell] using HB0.o.lt,rfl,fun ⟨k',hk'⟩=>by unfold Gh.put at hk'; split at hk'; (cases hk'); exact absurd (HR.o.old k' _ hk' HBK.o.lt) (by simp [gh0]),fun _=>hb1⟩
      apply Chain.pure (LX.refl _) (by rfl)
      ·intro vals γ w' ρ hR hN hp hρ hc hf hg;refine ⟨rfl,?_⟩;have e39:ρ (.tmp 39)=_:=(hρ 39).trans (hp 2 (by decide));have e41:ρ (.tmp 41)=_:=(hρ 41).trans (hp 4 (by decide));clear hR hN hp hρ;go_light;go_simp;exact ⟨rfl,rfl⟩
      ·rfl
      refine Chain.step (fun _ γ w'=>g<w'.heap.size∧γ 1000=some none∧γ 1001=some none∧Free γ g∧Blk w' g 3 (dcells ((es'.set j y).set j1 x)++tl)) (by rfl) ?_ ?_ ?_
      ·rintro l γ w1 γ' w2 rr ⟨h0,h1,h2,h3,h4⟩;exact ⟨Nat.lt_of_lt_of_le h0 rr.size,rr.done _ h1,rr.done _ h2,fun ⟨k',hk'⟩=>h3 ⟨k',rr.old k' _ hk' h0⟩,h4.keep (rr.keptS fun b _ e=>⟨by rw [e]; exact h3,fun m hm=>by rcases hm.1 with rfl | rfl <;> first | rw [h1,rr.done _ h1] | rw [h2,rr.done _ h2]⟩)⟩
      ·intro vals γ w' ρ hR hN hp hρ hc hf hg;refine ⟨rfl,?_⟩;have e50:ρ (.tmp 50)=_:=(hρ 50).trans (hp 13 (by decide));have e52:ρ (.tmp 52)=_:=(hρ 52).trans (hp 16 (by decide));have HR:=Hd hR;have hq:=hp 15 (by decide);have hk1001:=hR.key0 hN (k:=1001) (by decide) (by decide);obtain ⟨-,hd1,hd2,hd3⟩:=hq;have hb0:=hd3 hk1001;have HD1:=Hd hd1;clear hd1 hd2 hd3;have HB0:=Hd hb0;have qf:=hb0.frozen;have ql:=hb0.lt;have qc:=hb0.cell (dcellsA_at (tl:=tl) (m:=(es'.set j y)) (k:=j1) (by simp only [List.length_set,HLEN.o]; omega));have HK:=Hd hk1001;clear hR hN hp hρ hb0 hk1001;go_light;go_simp;refine ⟨γ.put 1001 none,LX.write HK.o rfl rfl rfl (by simp [World.setCell]) (fun b hb hm=>((Only.refl g w').set j1 (.int .i64 (x:Int))).block b fun e=>hm ⟨by simp,e⟩),LM.done (by decide) (.inr (by decide)),?_⟩;have hb1:=HB0.o.set j1 (.int .i64 (x:Int));rw [dcellsA_set _ _ _ _ (by simp only [List.length_set,HLEN.o]; omega)] at hb1;exact ⟨by simpa [World.setCell] using HB0.o.lt,by simpa [Gh.put] using HD1.o,rfl,fun ⟨k',hk'⟩=>by unfold Gh.put at hk'; split at hk'; (cases hk'); exact absurd (HR.o.old k' _ hk' HBK.o.lt) (by simp [gh0]),hb1⟩
      intro vals γ w9 hR hG;have v0:vals 0=_:=hG 0 (by decide);have v1:vals 1=_:=hG 1 (by decide);have v2:vals 2=_:=hG 2 (by decide);have v3:vals 3=_:=hG 3 (by decide);have v4:vals 4=_:=hG 4 (by decide);have v5:vals 5=_:=hG 5 (by decide);have v6:vals 6=_:=hG 6 (by decide);have v7:vals 7=_:=hG 7 (by decide);have v8:vals 8=_:=hG 8 (by decide);have v9:vals 9=_:=hG 9 (by decide);have v10:vals 10=_:=hG 10 (by decide);have v11:vals 11=_:=hG 11 (by decide);have v12:vals 12=_:=hG 12 (by decide);have v13:vals 13=_:=hG 13 (by decide);have v14:vals 14=_:=hG 14 (by decide);have v16:vals 16=_:=hG 16 (by decide);simp only [lexFrame,Act.put,List.setIfInBounds_toArray,List.set_cons_succ,List.set_cons_zero,Nat.zero_add,Nat.reduceAdd,v0,v1,v2,v3,v4,v5,v6,v7,v8,v9,v10,v11,v12,v13,v14,v16];clear v0 v1 v2 v3 v4 v5 v6 v7 v8 v9 v10 v11 v12 v13 v14 v16;obtain ⟨-,-,-,-,hbf⟩:=hG 17 (by decide);have HBF:=Hd hbf;have HB7:=Hd (show But g w w9 from HB6.o.trans ((But.of_ext ((Ext.refl w6).drew)).trans ⟨hR.os,hR.tape,hR.output,hR.size,fun b hb hg=>hR.kept b hb (free0 b) fun m hm=>absurd hm.2 hg⟩));clear hR hG hbf;have HJW1:=HJW.o;have HJW2:=HJ2.o;go_wp2;go_roundw
      case rel =>
       refine ⟨j1,p',y :: p2,by omega,rfl,by rw [HPP.o,HSP.o]; simp,HPL'.out,fun z hz => ?_,HB7.o,by have:=HBF.o; rw [HSW.o] at this; simpa using this⟩
       rcases List.mem_cons.1 hz with rfl | hz
       ·exact HBE.o.symm
       ·exact HALL.o z hz
      case measure=>have:=HJ1.o; simp [intOf]; omega
  ·go_wp2
   go_end0
   refine ⟨rfl,HB.o,?_⟩;have h1:=HS.o;have h2:es.length≤k:=(by rw [← HN.o]; omega);rw [List.take_of_length_le h2,List.drop_of_length_le h2,List.append_nil] at h1;exact h1
set_option maxRecDepth 100000 in
set_option maxHeartbeats 1000000 in
theorem stable_P (g c:Nat) (bA bM:Nat) (tl:Array Value) (es:List Nat) (lt:Nat→Nat→Bool) (hw:Wk lt) (n:Nat) (hn:n=es.length) (hn1:n<20) (w:World) (h:Blk w g 3 (dcells es++tl)) (hc:∀ w',But g w w'→∀ x∈es,∀ y∈es,Calls Tryz.prog 116 #[.int .i64 (x:Int),.int .i64 (y:Int),.pointer (some ⟨bA,0,none⟩),.pointer (some ⟨bM,0,none⟩)] w' (RetC w' (lt x y))) :
  Calls Tryz.prog 162 #[.slice (some ⟨g,0,none⟩) n c,.int .i64 (n:Int),.func (.func 116) #[] #[.pointer (some ⟨bA,0,none⟩),.pointer (some ⟨bM,0,none⟩)]] w (RetSoP w g tl (sortG lt es)):=by
 have H:=Hd h;have HN:=Hd hn;have HC:=Hd hc;have HW:=Hd hw;clear h hn hc hw
 go_enter Tryz.func162,Tryz.ntmps162
 go_wp2
 go_loop [7,8] (fun a b=>a=.int .i64 0∧b=.int .i64 20) (fun _ _=>0)
 case atStart=>exact ⟨rfl,rfl⟩
 case round =>
  obtain ⟨rfl,rfl⟩:=hrel;have i1:¬ (20:Int)≤(n:Int):=(by omega);have i2:¬ (20:Int)<(n:Int):=(by omega)
  go_wp2_with fail
  refine (insertion_P g c bA bM tl es lt HW.o n HN.o (by omega) w H.o HC.o).mono ?_;rintro e1 w1 ⟨rfl,hb,hs⟩;have HB:=Hd hb;have HS:=Hd hs;clear hb hs;go_wp2
  go_loop [6] (fun a=>a=.int .i64 20) (fun _=>0)
  case atStart=>rfl
  case round =>
   subst hrel;go_wp2
   go_end0
   exact ⟨rfl,HB.o,HS.o⟩
set_option maxRecDepth 100000 in
theorem SortStable_P (g c:Nat) (bA bM:Nat) (tl:Array Value) (es:List Nat) (lt:Nat→Nat→Bool) (hw:Wk lt) (n:Nat) (hn:n=es.length) (hn1:n<20) (w:World) (h:Blk w g 3 (dcells es++tl)) (hc:∀ w',But g w w'→∀ x∈es,∀ y∈es,Calls Tryz.prog 116 #[.int .i64 (x:Int),.int .i64 (y:Int),.pointer (some ⟨bA,0,none⟩),.pointer (some ⟨bM,0,none⟩)] w' (RetC w' (lt x y))) :
  Calls Tryz.prog 114 #[.slice (some ⟨g,0,none⟩) n c,.func (.func 116) #[] #[.pointer (some ⟨bA,0,none⟩),.pointer (some ⟨bM,0,none⟩)]] w (RetSoP w g tl (sortG lt es)):=by
 have H:=Hd h;have HN:=Hd hn;have HC:=Hd hc;have HW:=Hd hw;clear h hn hc hw
 go_enter Tryz.func114,Tryz.ntmps114
 go_wp2_with fail
 refine (stable_P g c bA bM tl es lt HW.o n HN.o hn1 w H.o HC.o).mono ?_;rintro e1 w1 ⟨rfl,hb,hs⟩;have HB:=Hd hb;have HS:=Hd hs;clear hb hs;go_wp2
 go_end0
 exact ⟨rfl,HB.o,HS.o⟩
/- The order of split: by the places' numbers. Conditions: the numbers lie in memory. -/

def ltN (P:List Nat) (p q:Nat):Bool:=decide (P.getD p 0<P.getD q 0)
theorem wkN (P:List Nat):Wk (ltN P):=⟨fun x y h=>by simp [ltN] at h ⊢; omega,fun x y z h k=>by simp [ltN] at h k ⊢; omega⟩
set_option maxRecDepth 100000 in
set_option maxHeartbeats 1000000 in
theorem split_1 (P:List Nat) (b o c p q bP:Nat) (w:World) (h1:w.cell? ⟨bP,0,none⟩=some (.slice (some ⟨b,o,none⟩) P.length c)) (h2:w.cell? ⟨b,o+p,none⟩=some (.int .i64 ((P.getD p 0:Nat):Int))) (h3:w.cell? ⟨b,o+q,none⟩=some (.int .i64 ((P.getD q 0:Nat):Int)))
  (hp:p<P.length) (hq:q<P.length) (hl:P.length≤4294967296) (hx:∀ x∈P,x≤4294967296) :
  Calls Tryz.prog 115 #[.int .i64 (p:Int),.int .i64 (q:Int),.pointer (some ⟨bP,0,none⟩)] w (RetC w (ltN P p q)):=by
 have hmx:P.getD p 0≤4294967296:=(by rw [getD_of _ _ _ hp]; exact hx _ (List.getElem_mem hp));have hmy:P.getD q 0≤4294967296:=(by rw [getD_of _ _ _ hq]; exact hx _ (List.getElem_mem hq));obtain ⟨x,ex⟩:∃ x,x=P.getD p 0:=⟨_,rfl⟩;obtain ⟨y,ey⟩:∃ y,y=P.getD q 0:=⟨_,rfl⟩;obtain ⟨n,en⟩:∃ n,n=P.length:=⟨_,rfl⟩;have HLT:=Hd (show ltN P p q=decide (x<y) by rw [ex,ey]; rfl);rw [← ex] at h2 hmx;rw [← ey] at h3 hmy;rw [← en] at h1 hp hq hl;have H1:=Hd h1;have P0:=Hd h2;have Q0:=Hd h3;obtain ⟨z,ez⟩:∃ z:Int,z=(x:Int)-(y:Int):=⟨_,rfl⟩;have HW1:=Hd ez.symm;have HW2:=Hd (show IntKind.i64.wrap z=z from IntWalk.i64_in _ (by omega));have HZ:=Hd (show z<0↔x<y by omega);have i1:(p:Int)<(n:Int):=(by omega);have i2:(q:Int)<(n:Int):=(by omega);have j1:(0:Int)≤(p:Int):=(by omega);have j2:(0:Int)≤(q:Int):=(by omega);rw [HLT.o];clear ex ey en ez h1 h2 h3 hx hmx hmy
 go_enter Tryz.func115,Tryz.ntmps115
 go_upto_region 1 with fail
 refine wp_region_chain (by kernel_rfl) (fun i=>[i]) (by kernel_rfl) (LX (fun _ _=>False)) (LX.refl _) (LX.trans _) (LM []) gh0 (LM.zero _) ?_;apply Chain.pure (LX.refl _) (by rfl)
 ·intro vals γ w' ρ hR hN hp hρ hc hf hg;refine ⟨rfl,?_⟩;have e2:=hρ 2;(conv at e2=>rhs; whnf);have hxx:=hR.ext0 (fun _ _ h=>h.elim);have k0:=hxx.cell H1.o;have k1:=hxx.cell P0.o;have k2:=hxx.cell Q0.o;clear hxx hR hN hp hρ;go_light;go_simp;exact ⟨rfl,rfl⟩
 ·rfl
 apply Chain.pure (LX.refl _) (by rfl)
 ·intro vals γ w' ρ hR hN hp hρ hc hf hg;refine ⟨rfl,?_⟩;have e0:=hρ 0;(conv at e0=>rhs; whnf);clear hR hN hp hρ;go_light;go_simp;exact ⟨rfl,rfl⟩
 ·rfl
 apply Chain.pure (LX.refl _) (by rfl)
 ·intro vals γ w' ρ hR hN hp hρ hc hf hg;refine ⟨rfl,?_⟩;have e6:ρ (.tmp 6)=_:=(hρ 6).trans (hp 0 (by decide));have e7:ρ (.tmp 7)=_:=(hρ 7).trans (hp 1 (by decide));clear hR hN hp hρ;go_light;go_simp;exact ⟨rfl,rfl⟩
 ·rfl
 apply Chain.pure (LX.refl _) (by rfl)
 ·intro vals γ w' ρ hR hN hp hρ hc hf hg;refine ⟨rfl,?_⟩;have e8:ρ (.tmp 8)=_:=(hρ 8).trans (hp 2 (by decide));have hxx:=hR.ext0 (fun _ _ h=>h.elim);have k0:=hxx.cell H1.o;have k1:=hxx.cell P0.o;have k2:=hxx.cell Q0.o;clear hxx hR hN hp hρ;go_light;go_simp;exact ⟨rfl,rfl⟩
 ·rfl
 apply Chain.pure (LX.refl _) (by rfl)
 ·intro vals γ w' ρ hR hN hp hρ hc hf hg;refine ⟨rfl,?_⟩;have e2:=hρ 2;(conv at e2=>rhs; whnf);have hxx:=hR.ext0 (fun _ _ h=>h.elim);have k0:=hxx.cell H1.o;have k1:=hxx.cell P0.o;have k2:=hxx.cell Q0.o;clear hxx hR hN hp hρ;go_light;go_simp;exact ⟨rfl,rfl⟩
 ·rfl
 apply Chain.pure (LX.refl _) (by rfl)
 ·intro vals γ w' ρ hR hN hp hρ hc hf hg;refine ⟨rfl,?_⟩;have e1:=hρ 1;(conv at e1=>rhs; whnf);clear hR hN hp hρ;go_light;go_simp;exact ⟨rfl,rfl⟩
 ·rfl
 apply Chain.pure (LX.refl _) (by rfl)
 ·intro vals γ w' ρ hR hN hp hρ hc hf hg;refine ⟨rfl,?_⟩;have e10:ρ (.tmp 10)=_:=(hρ 10).trans (hp 4 (by decide));have e11:ρ (.tmp 11)=_:=(hρ 11).trans (hp 5 (by decide));clear hR hN hp hρ;go_light;go_simp;exact ⟨rfl,rfl⟩
 ·rfl
 apply Chain.pure (LX.refl _) (by rfl)
 ·intro vals γ w' ρ hR hN hp hρ hc hf hg;refine ⟨rfl,?_⟩;have e12:ρ (.tmp 12)=_:=(hρ 12).trans (hp 6 (by decide));have hxx:=hR.ext0 (fun _ _ h=>h.elim);have k0:=hxx.cell H1.o;have k1:=hxx.cell P0.o;have k2:=hxx.cell Q0.o;clear hxx hR hN hp hρ;go_light;go_simp;exact ⟨rfl,rfl⟩
 ·rfl
 apply Chain.pure (LX.refl _) (by rfl)
 ·intro vals γ w' ρ hR hN hp hρ hc hf hg;refine ⟨rfl,?_⟩;have e9:ρ (.tmp 9)=_:=(hρ 9).trans (hp 3 (by decide));have e13:ρ (.tmp 13)=_:=(hρ 13).trans (hp 7 (by decide));have z1:=HW1.o;have z2:=HW2.o;clear hR hN hp hρ;go_light;go_simp;exact ⟨rfl,rfl⟩
 ·rfl
 apply Chain.pure (LX.refl _) (by rfl)
 ·intro vals γ w' ρ hR hN hp hρ hc hf hg;refine ⟨rfl,?_⟩;have e14:ρ (.tmp 14)=_:=(hρ 14).trans (hp 8 (by decide));clear hR hN hp hρ;go_light;go_simp;exact ⟨rfl,rfl⟩
 ·rfl
 intro vals γ w9 hR hG;have v0:vals 0=_:=hG 0 (by decide);have v1:vals 1=_:=hG 1 (by decide);have v2:vals 2=_:=hG 2 (by decide);have v3:vals 3=_:=hG 3 (by decide);have v4:vals 4=_:=hG 4 (by decide);have v5:vals 5=_:=hG 5 (by decide);have v6:vals 6=_:=hG 6 (by decide);have v7:vals 7=_:=hG 7 (by decide);have v8:vals 8=_:=hG 8 (by decide);have v9:vals 9=_:=hG 9 (by decide);simp only [lexFrame,Act.put,List.setIfInBounds_toArray,List.set_cons_succ,List.set_cons_zero,Nat.zero_add,Nat.reduceAdd,v0,v1,v2,v3,v4,v5,v6,v7,v8,v9];clear v0 v1 v2 v3 v4 v5 v6 v7 v8 v9;have hx9:Ext w w9:=hR.ext0 (fun _ _ h=>h.elim);clear hR hG;go_wp2;go_ret;exact ⟨z,rfl,by rw [HZ.o]; simp,hx9⟩
end Go.Proofs.YtomdpipekmcojaaGreatDoor
