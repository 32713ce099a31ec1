/- question.split: the parts of programs by their places. Conditions: the arguments read as data; the places of the programs are there. -/
import Derived.Test.YthmckfloppblcaaGreatDoorBj7
import Derived.Sort.Walk0
import Derived.Laws.BitsLemmas
set_option maxRecDepth 100000
set_option maxHeartbeats 1000000
namespace Go.Proofs.YthmckfloppblcaaGreatDoor
open Go Go.RowKit

def RetNN (w:World) (gs:List (List Nat)) (e:Ending) (w':World):Prop:=∃ (A:Option Addr) (c:Nat),e=.returned (.slice A gs.length c)∧OwnNN w' w.heap.size A c gs∧Ext w w'
theorem OwnN.blk {w:World} {base c:Nat} {A:Option Addr} {l:List Nat} (h:OwnN w base A c l) (hl:l≠[]):∃ g tl,A=some ⟨g,0,none⟩∧base≤g∧Blk w g 3 (dcells l++tl):=by
 rcases h.2 with ⟨_,h0⟩ | ⟨g,cap,cur,hv,hb,hh,_,_,_,ht⟩
 ·exact absurd (List.eq_nil_of_length_eq_zero h0) hl
 ·injection hv with hv1;refine ⟨g,(cur.toList.drop l.length).toArray,hv1,hb,?_⟩;have e:cur=dcells l++(cur.toList.drop l.length).toArray:=by
   apply Array.toList_inj.1;rw [Array.toList_append,List.toList_toArray];have h2:(dcells l).toList=cur.toList.take l.length:=(by rw [Nat.mul_one] at ht; rw [ht]; simp [dcells]);rw [h2,List.take_append_drop]
  unfold Blk;rw [hh];exact congrArg (fun c=>some (Obj.cells c 3 (0,0))) e

def rk (l:List (List Val)) (m x:Nat):Nat:=(placesS l m).getD x 0
def spl (l:List (List Val)) (m:Nat) (L:List Nat):List (List Nat):=splitS L (placesS l m)
theorem spl_is (l:List (List Val)) (m:Nat) (L:List Nat):IsSplit (rk l m) L (spl l m L):=splitS_is L (placesS l m)
section
variable {p:Nat→Nat} {L:List Nat} {gs:List (List Nat)}
theorem IsSplit.sub (h:IsSplit p L gs):∀ g∈gs,g≠[]∧g.Sublist L:=by
 obtain ⟨hs,h1,h2,rfl⟩:=h;intro g hg;obtain ⟨v,hv,rfl⟩:=List.mem_map.1 hg;refine ⟨fun h0 => ?_,List.filter_sublist⟩;obtain ⟨x,hx,hxv⟩:=(h2 v).1 hv;rw [List.filter_eq_nil_iff] at h0;exact h0 x hx (by simpa using hxv)
theorem IsSplit.small (h:IsSplit p L gs) (h2:2≤gs.length):∀ g∈gs,g.length<L.length:=by
 obtain ⟨hs,h1,hm,rfl⟩:=h;intro g hg;obtain ⟨v,hv,rfl⟩:=List.mem_map.1 hg;have:∃ v'∈hs,v'≠v:=by
  match hs,h1,h2,hv with
  | a :: b :: hs,h1,_,hv =>
   have hab:=(List.pairwise_cons.1 h1).1 b (by simp);by_cases ha:a=v
   ·exact ⟨b,by simp,by omega⟩
   ·exact ⟨a,by simp,ha⟩
 obtain ⟨v',hv',hne⟩:=this;obtain ⟨x,hx,hxv⟩:=(hm v').1 hv';rw [List.length_filter_lt_length_iff_exists];exact ⟨x,hx,by simp [hxv,hne]⟩
theorem IsSplit.one (h:IsSplit p L gs):gs.length<2↔∀ x∈L,∀ y∈L,p x=p y:=by
 obtain ⟨hs,h1,hm,rfl⟩:=h;rw [List.length_map];constructor
 ·intro h x hx y hy;have a:=(hm _).2 ⟨x,hx,rfl⟩;have b:=(hm _).2 ⟨y,hy,rfl⟩
  match hs,h with
  | [],_=>cases a
  | [v],_=>rw [List.mem_singleton] at a b; omega
 ·intro h
  match hs,h1,hm with
  | [],_,_=>simp
  | [v],_,_=>simp
  | a :: b :: hs,h1,hm =>
   obtain ⟨x,hx,hxv⟩:=(hm a).1 (by simp);obtain ⟨y,hy,hyv⟩:=(hm b).1 (by simp);have hab:=(List.pairwise_cons.1 h1).1 b (by simp);have:=h x hx y hy;omega
theorem IsSplit.same (h:IsSplit p L gs):∀ g∈gs,∀ x∈g,g=L.filter (fun y=>p y==p x):=by
 obtain ⟨hs,h1,hm,rfl⟩:=h;intro g hg x hx;obtain ⟨v,hv,rfl⟩:=List.mem_map.1 hg;have:=(List.mem_filter.1 hx).2;have e:p x=v:=(by simpa using this);rw [e]
end

def dW (sp:Nat→List Nat→List (List Nat)) (dep:List Nat→Nat) (m:Nat) (L:List Nat):Nat:=if (sp m L).length<2 then 0 else 1+(sp m L).foldl (fun a g=>max a (dep g)) 0
def lst (a d:Nat):Nat:=if 0<d∧(a=0∨d<a) then d else a
def dF (sp:Nat→List Nat→List (List Nat)) (N:Nat):Nat→List Nat→Nat
 | 0,_=>0
 | f+1,L=>(List.range N).foldl (fun a m=>lst a (dW sp (dF sp N f) m L)) 0
def dep (sp:Nat→List Nat→List (List Nat)) (N:Nat) (L:List Nat):Nat:=dF sp N L.length L
def Small (sp:Nat→List Nat→List (List Nat)):Prop:=∀ m L,2≤(sp m L).length→∀ g∈sp m L,0<g.length∧g.length<L.length
section
variable {sp:Nat→List Nat→List (List Nat)}
end

abbrev AskD:=Int × List Val × List Int
def planG (sub:List Nat→Nat→List AskD):List (List Nat)→Nat→List AskD × List Int
 | [],_=>([],[])
 | g :: gs,t=>((sub g t)++(planG sub gs (t+(sub g t).length)).1,(if (sub g t).length=0 then -1 else (t:Int)) :: (planG sub gs (t+(sub g t).length)).2)
def inpF (sp:Nat→List Nat→List (List Nat)) (N:Nat) (L:List Nat):Nat:=((List.range N).find? fun m=>decide (dW sp (dep sp N) m L=dep sp N L)).getD 0
def planF (sp:Nat→List Nat→List (List Nat)) (N:Nat) (v:Nat→Nat→Val):Nat→List Nat→Nat→List AskD
 | 0,_,_=>[]
 | f+1,L,t=>if dep sp N L=0 then [] else
  (((inpF sp N L:Nat):Int),(sp (inpF sp N L) L).map (fun g=>v (inpF sp N L) (g.headD 0)),(planG (planF sp N v f) (sp (inpF sp N L) L) (t+1)).2) :: (planG (planF sp N v f) (sp (inpF sp N L) L) (t+1)).1
def plan (sp:Nat→List Nat→List (List Nat)) (N:Nat) (v:Nat→Nat→Val) (L:List Nat) (t:Nat):List AskD:=planF sp N v L.length L t
section
variable {sp:Nat→List Nat→List (List Nat)} {v:Nat→Nat→Val}
end

def bitsN (L:List Nat):Nat:=L.foldl (fun s k=>s ||| 2 ^ k) 0
theorem bitsN_snoc (L:List Nat) (k:Nat):bitsN (L++[k])=bitsN L ||| 2 ^ k:=by simp [bitsN,List.foldl_append]
theorem bitsN_bit (L:List Nat) (j:Nat):(bitsN L).testBit j=decide (j∈L):=by
 refine snoc_indG (P:=fun L=>(bitsN L).testBit j=decide (j∈L)) (by simp [bitsN]) (fun l x ih => ?_) L;rw [bitsN_snoc,Nat.testBit_or,ih,Nat.testBit_two_pow];by_cases h1:j∈l <;> by_cases h2:x=j <;> simp [h1,h2]
 intro e; exact absurd e.symm h2
def Inc (n:Nat) (L:List Nat):Prop:=L.Pairwise (· < ·)∧∀ x∈L,x<n
theorem bitsN_inj {n n':Nat} {L L':List Nat} (h:Inc n L) (h':Inc n' L') (e:bitsN L=bitsN L'):L=L':=by
 refine sorted_ext h.1 h'.1 fun v => ?_;have h1:=bitsN_bit L v;rw [e,bitsN_bit L' v] at h1;have:=decide_eq_decide.1 h1;exact this.symm
theorem Inc.len {n:Nat} : ∀ {L:List Nat},Inc n L→L.length≤n:=by
 intro L h;have key:∀ (L:List Nat) (a:Nat),a≤n→L.Pairwise (· < ·)→(∀ x∈L,a≤x∧x<n)→L.length+a≤n:=by
  intro L
  induction L with
  | nil=>intro a ha _ _; simpa using ha
  | cons x L ih =>
   intro a _ h1 h2;have h3:=List.pairwise_cons.1 h1;have h4:=h2 x (by simp);have:=ih (x+1) (by omega) h3.2 fun y hy=>⟨by have:=h3.1 y hy; omega,(h2 y (by simp [hy])).2⟩;rw [List.length_cons];omega
 simpa using key L 0 (Nat.zero_le _) h.1 fun x hx=>⟨Nat.zero_le _,h.2 x hx⟩
theorem Inc.sub {n:Nat} {L L':List Nat} (h:Inc n L) (k:L'.Sublist L):Inc n L':=⟨h.1.sublist k,fun x hx=>h.2 x (k.subset hx)⟩
theorem Inc.range (n:Nat):Inc n (List.range n):=⟨List.pairwise_lt_range,fun _ hx=>List.mem_range.1 hx⟩
def Cons (sp:Nat→List Nat→List (List Nat)) (N n:Nat) (M:List (Int × Value)):Prop:=∀ L,Inc n L→∀ v,mget M (bitsN L:Int)=some v→v=.int .i64 (dep sp N L:Nat)
theorem Cons.nil (sp:Nat→List Nat→List (List Nat)) (N n:Nat):Cons sp N n []:=fun _ _ v h=>by simp [mget,fnd] at h
theorem Cons.put {sp:Nat→List Nat→List (List Nat)} {N n:Nat} {M:List (Int × Value)} (h:Cons sp N n M) {L:List Nat} (hL:Inc n L):Cons sp N n (mput M (bitsN L:Int) (.int .i64 (dep sp N L:Nat))):=by
 intro L' hL' v hv;rw [mget_put] at hv;by_cases e:((bitsN L:Nat):Int)=((bitsN L':Nat):Int)
 ·rw [if_pos e] at hv;have:L=L':=bitsN_inj hL hL' (by omega);rw [← this];exact (Option.some.inj hv).symm
 ·rw [if_neg e] at hv;exact h L' hL' v hv
structure PD (w:World) (bP bm:Nat) (l:List (List Val)):Prop where
 pl:∃ (PA:Option Addr) (pc:Nat),w.cell? ⟨bP,1,none⟩=some (.slice PA (inpS l) pc)∧NN w (fun b=>b≠bm) PA ((List.range (inpS l)).map (placesS l))
 dm:w.cell? ⟨bP,2,none⟩=some (.map (some bm))
 ne:bP≠bm
 lt:bP<w.heap.size
 map:∃ M,MapIs w bm encN M∧Cons (spl l) (inpS l) l.length M
theorem PD.but {w w':World} {bP bm:Nat} {l:List (List Val)} (h:PD w bP bm l) (k:ButS (fun b=>b=bm) w w') (hm:∃ M,MapIs w' bm encN M∧Cons (spl l) (inpS l) l.length M):PD w' bP bm l:=by
 obtain ⟨PA,pc,h1,h2⟩:=h.pl;exact ⟨⟨PA,pc,k.cell h.ne h1,h2.keep (k.kept fun b _ e=>e)⟩,k.cell h.ne h.dm,h.ne,Nat.lt_of_lt_of_le h.lt k.size,hm⟩
theorem PD.ext {w w':World} {bP bm:Nat} {l:List (List Val)} (h:PD w bP bm l) (k:Ext w w'):PD w' bP bm l:=by
 obtain ⟨M,hm,hc⟩:=h.map;exact h.but (ButS.of_ext k) ⟨M,hm.keep (k.kept _),hc⟩

theorem gstep_len (P:List Nat) (gs:List (List Nat)) (k:Nat) (p:Option Nat):(gstep P gs k p).length≤gs.length+1:=by
 unfold gstep;split <;> simp
theorem grp_len (P:List Nat):∀ (s:List Nat) (gs:List (List Nat)) (p:Option Nat),(grp P gs p s).length≤gs.length+s.length
 | [],gs,p=>Nat.le_refl _
 | k :: s,gs,p=>by
  have h1:=grp_len P s (gstep P gs k p) (some k);have h2:=gstep_len P gs k p;show (grp P (gstep P gs k p) (some k) s).length≤_;rw [List.length_cons];omega
theorem spl_len (l:List (List Val)) (m:Nat) (L:List Nat):(spl l m L).length≤L.length:=by
 have h:=grp_len (placesS l m) (sortG (ltN (placesS l m)) L) [] none;rw [len_sortG,List.length_nil,Nat.zero_add] at h;exact h
theorem OwnNN.spl {w:World} {base c:Nat} {A:Option Addr} {l:List (List Val)} {m:Nat} {L:List Nat} (h:OwnNN w base A c (spl l m L)) (hL:L.length≤4294967296):NN w (fun b=>base≤b) A (spl l m L) :=
 h.nn (Nat.le_trans (spl_len l m L) hL) fun g hg=>Nat.le_trans ((spl_is l m L).sub g hg).2.length_le hL


def flatV (y:Val):Prop:=y.cols=[]∧y.rows=[]∧y.s.size≤4294967296
theorem CV.flat {w:World} {S:Nat→Prop} {d:Nat} {y:Val} (hy:flatV y) (hd:0<d):CV w S d y (vcells y none 0 none 0):=by
 obtain ⟨h1,h2,h3⟩:=hy;refine ⟨none,0,none,0,rfl,⟨hd,by rw [h1]; exact Nat.le_refl _,by rw [h2]; exact Nat.le_refl _⟩,RV.mk h3 (by rw [h1]; exact Strs.nil) (by rw [h2]; exact Rows.nil)⟩
theorem VL.flat {w:World} {S:Nat→Prop} {d:Nat} (hd:0<d):∀ (ys:List Val),(∀ y∈ys,flatV y)→VL (CV w S d) (ys.flatMap fun y=>vcells y none 0 none 0) ys
 | [],_=>VL.nil _
 | y :: ys,h=>by
  have h1:=VL.snoc (VL.nil (CV w S d)) (cs:=vcells y none 0 none 0) (y:=y) (CV.flat (w:=w) (S:=S) (h y List.mem_cons_self) hd).one.1 (CV.flat (h y List.mem_cons_self) hd);have h2:=VL.flat (w:=w) (S:=S) hd ys fun z hz=>h z (List.mem_cons_of_mem _ hz)
  simpa using h1.append h2
theorem Row.flat {w:World} {g t d:Nat} {cs:Array Value} {ys:List Val} (h:Blk w g t cs) (hc:cs.toList=ys.flatMap fun y=>vcells y none 0 none 0) (hy:∀ y∈ys,flatV y) (hd:0<d) (hl:ys.length≤4294967296):Row w (fun b=>b=g) d (some ⟨g,0,none⟩) ys:=by
 have h1:=h.rd;rw [hc] at h1;exact RVs.iff.2 ⟨hl,_,h1,VL.flat hd ys hy⟩
theorem Rows.build {w:World} {S:Nat→Prop} {g t d:Nat} {cs:Array Value} {rs:List (List Val)} (h:Blk w g t cs) (hs:cs.size=rs.length) (hg:S g) (hl:rs.length≤4294967296)
  (hr:∀ (i:Nat) (r:List Val),rs[i]?=some r→∃ B e,cs[i]?=some (Value.slice B r.length e)∧r.length≤e∧Row w S d B r):Rows w S d (some ⟨g,0,none⟩) rs:=by
 refine ⟨hl,cs.toList,h.rd.mono (fun i _ hi=>hi ▸ hg),by simpa using hs,fun i r hi => ?_⟩;obtain ⟨B,e,h1,h2,h3⟩:=hr i r hi;exact ⟨B,e,by simpa using h1,h2,h3⟩
theorem Strs.of_blk {w:World} {g t:Nat} {cs:Array Value} {l:List ByteArray} (h:Blk w g t cs) (hc:cs.toList=l.map Value.string) (hl:l.length≤4294967296) (hs:∀ s∈l,s.size≤4294967296):Strs w (fun b=>b=g) (some ⟨g,0,none⟩) l:=by
 have h1:=h.rd;rw [hc] at h1;exact ⟨h1,hl,hs⟩
def RetL (w:World) (t:Look) (e:Ending) (w':World):Prop:=∃ A c B e',e=.returned (.agg #[.string t.name,.slice A t.cols.length c,.slice B t.rows.length e'])∧(t.cols.length≤c∧t.rows.length≤e')∧RL w' (Fresh w) 1 t A B∧Ext w w'

def RetRow (w:World) (q:Nat) (l:List Val) (e:Ending) (w':World):Prop:=∃ (A:Option Addr) (c:Nat),e=.returned (.slice A l.length c)∧OwnVs w' w.heap.size (fun b=>w.heap.size≤b) q A c l∧Ext w w'
def PC6 (d:Nat):Prop:=∀ (x:Val) (A B:Option Addr) (c e:Nat) (w:World) (S:Nat→Prop),RV w S d x A B→Calls Tryz.prog 64 #[(.agg #[.int .i64 x.kind,.string x.s,.int .i64 x.dn,.int .i64 x.ds,.int .i64 x.n,.slice A x.cols.length c,.slice B x.rows.length e])] w (RetV w (Fresh w) d x)
theorem r06_CopyRow (q:Nat) (ih:0<q→PC6 (q-1)) (l:List Val) (A:Option Addr) (c:Nat) (w:World) (S:Nat→Prop) (h:Row w S q A l):Calls Tryz.prog 90 #[.slice A l.length c] w (RetRow w q l):=by
 have hlen:=h.len;have HROW:=Hd h;have IH:=Hd ih;clear h ih
 go_enter Tryz.func90,Tryz.ntmps90
 go_wp2
 go_loopw [3,4] (fun v i wi=>∃ (j:Nat) (A':Option Addr) (c':Nat),j≤l.length∧i=.int .i64 j∧v=.slice A' j c'∧Ext w wi∧OwnVs wi w.heap.size (fun b=>w.heap.size≤b) q A' c' (l.take j)) (fun _ i _=>l.length-(intOf i).toNat)
 case atStart=>exact ⟨0,none,0,Nat.zero_le _,rfl,rfl,Ext.refl _,OwnVs.nil _ _ _ _⟩
 case round =>
  obtain ⟨j,A',c',hj,rfl,rfl,hbi,hoi⟩:=hrel;have HBI:=Hd hbi;have HOI:=Hd hoi;by_cases hlt2:j<l.length
  ·obtain ⟨b2,o2,A5,c5,B5,e5,rfl,z2,⟨p0,p1,p2,p3,p4,p5,p6⟩,⟨hq,_,_⟩,hv⟩:=(HROW.o.keep (hbi.kept _)).at_ hlt2;have HV:=Hd hv;have hszi:=hbi.size;clear hv hbi hoi
   go_wp2_with fail
   refine (IH.o hq _ _ _ _ _ _ S HV.o).mono ?_;rintro e3 w3 ⟨A3,c3,B3,e3,rfl,hcc3,hv3,hx3⟩;have HX3:=Hd hx3;have hz3:=hx3.size;have hv3':=hv3.mono (T:=fun b=>wr.heap.size≤b) (fun i _ hi=>hi);obtain ⟨xs,hown,hvl⟩:=HOI.o.ext (HX3.o.alloc (.cells (vcells l[j] A3 c3 B3 e3).toArray 31));have hlj:(l.take j).length=j:=(by rw [List.length_take]; omega);have HVL:=Hd hvl;rw [hlj] at hown;have HOWN:=Hd hown;have HLJ:=Hd hlj;have HV3:=Hd hv3';clear hvl hown hv3 hv3' hx3 hlj
   go_wp2_with (at_builtin; go_must (refine wpList_app rfl (.tmp 11) (.tmp 17) rfl tiV rfl HOWN.o rfl (Blk.rd (Blk.new _ _ _)) rfl vcells_one (by omega) (by decide) (by simp; omega) ?_); intro A4 c4 w4 hown4 hg4 hat4)
   go_roundw
   case rel =>
    refine ⟨j+1,A4,c4,by omega,by go_num,rfl,?_,?_⟩
    ·exact ((HBI.o.trans HX3.o).alloc _).grown hg4 (fun k hk=>(HOWN.o.blk hk).1)
    ·rw [List.take_succ_eq_append_getElem hlt2];refine OwnVs.push HVL.o (by rw [HLJ.o]; exact hown4) hg4 hat4 ⟨hq,hcc3⟩ ((HV3.o.keep (Kept.alloc _ _ _)).mono fun i _ hi=>⟨fun h0 => ?_,by omega⟩);have:=(HOI.o.blk h0).2;omega
   case measure=>simp [intOf]; omega
  ·have hjr:j=l.length:=(by omega);subst hjr;have HR:=Hd (show OwnVs wr w.heap.size (fun b=>w.heap.size≤b) q A' c' l by have:=HOI.o; rwa [List.take_of_length_le (Nat.le_refl _)] at this);go_wp2;go_ret;exact ⟨A',c',rfl,HR.o,HBI.o⟩

def OwnRR (w:World) (base:Nat) (av:Nat→Prop) (q:Nat) (A:Option Addr) (c:Nat) (l:List (List Val)):Prop :=
 ∃ (hs:List Value) (cut:Nat→Nat),Own w base 50 1 A l.length c hs∧(∀ i j,i≤j→cut i≤cut j)∧base≤cut 0∧cut l.length≤w.heap.size ∧
  ∀ (i:Nat) (r:List Val),l[i]?=some r→∃ (B:Option Addr) (e:Nat),hs[i]?=some (Value.slice B r.length e)∧OwnVs w (cut i) (fun b=>cut i≤b∧b<cut (i+1)∧ob A≠some b∧¬ av b) q B e r∧∀ b,ob B=some b→b<cut (i+1)∧ob A≠some b∧¬ av b
section
variable {w w':World} {base q c c':Nat} {av:Nat→Prop} {A A':Option Addr} {l:List (List Val)}
theorem OwnVs.shift {base1 base2 d:Nat} {X1 X2:Nat→Prop} {B:Option Addr} {e:Nat} {r:List Val} (h:OwnVs w base1 X1 d B e r) (hb:∀ b,ob B=some b→base2≤b) (hX:∀ b,b<w.heap.size→X1 b→X2 b):OwnVs w base2 X2 d B e r:=by
 obtain ⟨xs,h1,h2⟩:=h;refine ⟨xs,⟨h1.1,?_⟩,h2.imp fun _ _ hh=>hh.mono fun i hi hh=>⟨hh.1,hX i hi hh.2⟩⟩
 rcases h1.2 with h3 | ⟨g,cap,cur,hv,_,rest⟩
 ·exact .inl h3
 ·exact .inr ⟨g,cap,cur,hv,hb g (by injection hv with hA; rw [hA]; rfl),rest⟩
theorem OwnRR.nil (w:World) (base:Nat) (av:Nat→Prop) (q:Nat) (hb:base≤w.heap.size):OwnRR w base av q none 0 []:=⟨[],fun _=>base,Own.nil _ _ _ _,fun _ _ _=>Nat.le_refl _,Nat.le_refl _,hb,by simp⟩
theorem OwnRR.ext (h:OwnRR w base av q A c l) (hx:Ext w w'):OwnRR w' base av q A c l:=by
 obtain ⟨hs,cut,h1,h2,h3,h4,h5⟩:=h;refine ⟨hs,cut,h1.ext hx,h2,h3,Nat.le_trans h4 hx.size,fun i r hr => ?_⟩;obtain ⟨B,e,g1,g2,g3⟩:=h5 i r hr;exact ⟨B,e,g1,g2.ext hx,g3⟩
theorem OwnRR.keep (h:OwnRR w base av q A c l) (hk:Kept (fun b=>base≤b∧¬ av b) w w') (ha:∀ b,ob A=some b→¬ av b):OwnRR w' base av q A c l:=by
 obtain ⟨hs,cut,h1,h2,h3,h4,h5⟩:=h;refine ⟨hs,cut,h1.keep (hk.mono fun b _ hb=>⟨(h1.blk hb).1,ha b hb⟩),h2,h3,Nat.le_trans h4 hk.1,fun i r hr => ?_⟩;obtain ⟨B,e,g1,g2,g3⟩:=h5 i r hr;have hc:=h2 0 i (Nat.zero_le _);refine ⟨B,e,g1,g2.keep (hk.mono fun b _ hb => ?_),g3⟩
 rcases hb with hb | hb
 ·exact ⟨by have:=(g2.blk hb).1; omega,(g3 b hb).2.2⟩
 ·exact ⟨by omega,hb.2.2.2⟩
theorem OwnRR.blk (h:OwnRR w base av q A c l) {k:Nat} (hk:ob A=some k):base≤k∧k<w.heap.size:=by
 obtain ⟨xs,_,ho,_⟩:=h;exact ho.blk hk
theorem OwnRR.cap (h:OwnRR w base av q A c l):l.length≤c:=by
 obtain ⟨xs,_,ho,_⟩:=h;exact ho.cap
theorem OwnRR.rows (h:OwnRR w base av q A c l) (hl:l.length≤4294967296) (hr:∀ r∈l,r.length≤4294967296):Rows w (fun b=>base≤b) q A l:=by
 obtain ⟨hs,cut,h1,h2,h3,h4,h5⟩:=h;refine ⟨hl,hs,h1.rd.mono fun i _ hi=>(h1.blk hi).1,by simpa using h1.len,fun i r hi => ?_⟩;obtain ⟨B,e,g1,g2,g3⟩:=h5 i r hi;have hc:=h2 0 i (Nat.zero_le _);have hcap:r.length≤e:=(by obtain ⟨xs,ho,_⟩:=g2; exact ho.cap);exact ⟨B,e,g1,hcap,g2.row (hr r (List.mem_of_getElem? hi)) (fun b hb=>by have:=(g2.blk hb).1; omega) (fun b hb=>by omega)⟩
theorem OwnRR.push {r:List Val} {B:Option Addr} {e lo:Nat} {hs:List Value} {cut:Nat→Nat} (hlo:cut l.length≤lo) (hlw:lo≤w.heap.size) (h2:∀ i j,i≤j→cut i≤cut j) (h3:base≤cut 0) (hh:hs.length=l.length) (hA:∀ b,ob A=some b→base≤b∧b<lo) (hav:∀ b,av b→b<lo)
  (h5:∀ (i:Nat) (r:List Val),l[i]?=some r→∃ (B:Option Addr) (e:Nat),hs[i]?=some (Value.slice B r.length e)∧OwnVs w (cut i) (fun b=>cut i≤b∧b<cut (i+1)∧ob A≠some b∧¬ av b) q B e r∧∀ b,ob B=some b→b<cut (i+1)∧ob A≠some b∧¬ av b)
  (hr:OwnVs w lo (fun b=>lo≤b) q B e r) (hown:Own w' base 50 1 A' (l.length+1) c' (hs++[Value.slice B r.length e])) (hg:w.grownBy w' (ob A)) (hat:ob A'=ob A∨ob A'=some w.heap.size):OwnRR w' base av q A' c' (l++[r]):=by
 have hne:∀ b,b<w.heap.size→ob A≠some b→ob A'≠some b:=by
  intro b hb h1 h2
  rcases hat with e | e <;> rw [e] at h2
  ·exact h1 h2
  ·injection h2 with h2; omega
 have hk:Kept (fun b=>ob A≠some b) w w':=Kept.of_grown hg fun b hb _ e=>hb e.symm;refine ⟨_,fun i=>if i≤l.length then cut i else w.heap.size,by simpa using hown,?_,?_,?_,?_⟩
 ·intro i j hij;dsimp only;have hll:=h2 i l.length;split <;> split
  ·exact h2 i j hij
  ·have:=h2 i l.length (by omega); omega
  ·omega
  ·exact Nat.le_refl _
 ·simpa using h3
 ·simp only [List.length_append,List.length_cons,List.length_nil];rw [if_neg (by omega)];exact hg.size
 ·intro i r' hi
  rcases Nat.lt_or_ge i l.length with hlt | hge
  ·rw [List.getElem?_append_left hlt] at hi;obtain ⟨B',e',g1,g2,g3⟩:=h5 i r' hi;have hc:=h2 (i+1) l.length (by omega);refine ⟨B',e',by rw [List.getElem?_append_left (by omega)]; exact g1,?_,?_⟩
   ·simp only [if_pos (show i≤l.length by omega),if_pos (show i+1≤l.length by omega)];refine (g2.keep (hk.mono fun b hb h => ?_)).shift (fun b hb=>(g2.blk hb).1) ?_
    ·rcases h with h | h
     ·exact (g3 b h).2.1
     ·exact h.2.2.1
    ·intro b _ hb;exact ⟨hb.1,hb.2.1,hne b (by omega) hb.2.2.1,hb.2.2.2⟩
   ·intro b hb;have:=g3 b hb;simp only [if_pos (show i+1≤l.length by omega)];exact ⟨this.1,hne b (by omega) this.2.1,this.2.2⟩
  ·rw [List.getElem?_append_right hge] at hi;have hj0:i-l.length=0:=by
    rcases Nat.eq_zero_or_pos (i-l.length) with h0 | h0
    ·exact h0
    ·rw [List.getElem?_eq_none (by simp; omega)] at hi;cases hi
   rw [hj0] at hi;simp at hi;subst hi;obtain rfl:i=l.length:=by omega
   have hAlo:∀ b,lo≤b→ob A≠some b:=fun b hb e=>by have:=hA b e; omega
   refine ⟨B,e,by rw [List.getElem?_append_right (by omega),hh]; simp,?_,?_⟩
   ·simp only [Nat.le_refl,if_true,if_neg (show ¬ l.length+1≤l.length by omega)];have h9:=(hr.shift (base2:=cut l.length) (X2:=fun b=>(cut l.length≤b∧b<w.heap.size∧ob A'≠some b∧¬ av b)∧ob A≠some b) (fun b hb=>by have:=(hr.blk hb).1; omega) fun b hbw hb=>⟨⟨by omega,hbw,hne b hbw (hAlo b hb),fun h=>by have:=hav b h; omega⟩,hAlo b hb⟩).keep (hk.mono fun b hb h => ?_)
    ·exact h9.shift (fun b hb=>(h9.blk hb).1) fun b _ hb=>hb.1
    ·rcases h with h | h
     ·exact hAlo b (hr.blk h).1
     ·exact h.2
   ·intro b hb;have:=hr.blk hb;simp only [if_neg (show ¬ l.length+1≤l.length by omega)];exact ⟨this.2,hne b this.2 (hAlo b this.1),fun h=>by have:=hav b h; omega⟩
end
structure CR (w:World) (x:Val) (q:Nat) (A B:Option Addr) (c e:Nat) (Ac:Option Addr) (cc:Nat) (k:Nat) (Ar:Option Addr) (cr:Nat) (wr:World):Prop where
 ext:Ext w wr
 box:Blk wr w.heap.size 31 #[.int .i64 x.kind,.string x.s,.int .i64 x.dn,.int .i64 x.ds,.int .i64 x.n,.slice A x.cols.length c,.slice B x.rows.length e]
 res:Blk wr (w.heap.size+1) 31 #[.int .i64 0,.string ⟨#[]⟩,.int .i64 0,.int .i64 0,.int .i64 0,.slice none 0 0,.slice none 0 0]
 gout:Blk wr (w.heap.size+1+1) 31 #[.int .i64 x.kind,.string x.s,.int .i64 x.dn,.int .i64 x.ds,.int .i64 x.n,.slice Ac x.cols.length cc,.slice Ar k cr]
 cols:OwnSs wr (w.heap.size+3) Ac cc x.cols
 rows:OwnRR wr (w.heap.size+3) (fun b=>ob Ac=some b) q Ar cr (x.rows.take k)
 sep:∀ b,ob Ac=some b→ob Ar≠some b
theorem CR.more {w:World} {x:Val} {q:Nat} {A B:Option Addr} {c e:Nat} {Ac:Option Addr} {cc:Nat} {k:Nat} {Ar:Option Addr} {cr:Nat} {wr wr':World} (h:CR w x q A B c e Ac cc k Ar cr wr) (hx:Ext wr wr'):CR w x q A B c e Ac cc k Ar cr wr' :=
 ⟨h.ext.trans hx,h.box.keep (hx.kept _),h.res.keep (hx.kept _),h.gout.keep (hx.kept _),h.cols.ext hx,h.rows.ext hx,h.sep⟩
structure CRA (w:World) (x:Val) (q:Nat) (A B:Option Addr) (c e:Nat) (Ac:Option Addr) (cc:Nat) (k:Nat) (Ar:Option Addr) (cr:Nat) (wr:World):Prop where
 ext:Ext w wr
 box:Blk wr w.heap.size 31 #[.int .i64 x.kind,.string x.s,.int .i64 x.dn,.int .i64 x.ds,.int .i64 x.n,.slice A x.cols.length c,.slice B x.rows.length e]
 res:Blk wr (w.heap.size+1) 31 #[.int .i64 0,.string ⟨#[]⟩,.int .i64 0,.int .i64 0,.int .i64 0,.slice none 0 0,.slice none 0 0]
 gout:∃ y,Blk wr (w.heap.size+1+1) 31 #[.int .i64 x.kind,.string x.s,.int .i64 x.dn,.int .i64 x.ds,.int .i64 x.n,.slice Ac x.cols.length cc,y]
 cols:OwnSs wr (w.heap.size+3) Ac cc x.cols
 rows:OwnRR wr (w.heap.size+3) (fun b=>ob Ac=some b) q Ar cr (x.rows.take k)
 sep:∀ b,ob Ac=some b→ob Ar≠some b
theorem CR.app {w:World} {x:Val} {q:Nat} {A B:Option Addr} {c e:Nat} {Ac:Option Addr} {cc:Nat} {k:Nat} {Ar:Option Addr} {cr:Nat} {wr wr':World} (h:CR w x q A B c e Ac cc k Ar cr wr) {hs:List Value} {cut:Nat→Nat} {lo:Nat} {A3 A4:Option Addr} {c3 c4:Nat} (hk:k<x.rows.length)
  (ho:Own wr (w.heap.size+3) 50 1 Ar (x.rows.take k).length cr hs) (h2:∀ i j,i≤j→cut i≤cut j) (h3:w.heap.size+3≤cut 0) (h4:cut (x.rows.take k).length≤lo) (hlw:lo≤wr.heap.size) (hAlo:∀ b,ob Ar=some b→b<lo) (hClo:∀ b,ob Ac=some b→b<lo)
  (h5:∀ (i:Nat) (r:List Val),(x.rows.take k)[i]?=some r→∃ (B:Option Addr) (e:Nat),hs[i]?=some (Value.slice B r.length e)∧OwnVs wr (cut i) (fun b=>cut i≤b∧b<cut (i+1)∧ob Ar≠some b∧¬ ob Ac=some b) q B e r∧∀ b,ob B=some b→b<cut (i+1)∧ob Ar≠some b∧¬ ob Ac=some b)
  (hr:OwnVs wr lo (fun b=>lo≤b) q A3 c3 x.rows[k]) (hg:wr.grownBy wr' (ob Ar)) (ho4:Own wr' (w.heap.size+3) 50 1 A4 (k+1) c4 (hs++[Value.slice A3 x.rows[k].length c3])) (hat:ob A4=ob Ar∨ob A4=some wr.heap.size):CRA w x q A B c e Ac cc (k+1) A4 c4 wr':=by
 have hlk:(x.rows.take k).length=k:=(by rw [List.length_take]; omega);have hkb:∀ g,g<w.heap.size+3→Kept (fun b=>b=g) wr wr':=fun g hg'=>Kept.of_grown hg fun b hb _ e=>by
  subst hb;have:=(ho.blk e.symm).1;omega
 refine ⟨Ext.grown h.ext hg fun b hb=>by have:=(ho.blk hb).1; omega,h.box.keep (hkb _ (by omega)),h.res.keep (hkb _ (by omega)),⟨_,h.gout.keep (hkb _ (by omega))⟩,⟨h.cols.1.keep (Kept.of_grown hg fun b hb _ e=>h.sep b hb e.symm),h.cols.2⟩,?_,?_⟩
 ·rw [List.take_succ_eq_append_getElem hk];exact OwnRR.push h4 hlw h2 h3 (by simpa using ho.len) (fun b hb=>⟨(ho.blk hb).1,hAlo b hb⟩) hClo h5 hr (by rw [hlk]; exact ho4) hg hat
 ·intro b hb hb'
  rcases hat with e | e
  ·rw [e] at hb'; exact h.sep b hb hb'
  ·rw [e] at hb';have:=(h.cols.1.blk hb).2;injection hb' with hb';omega
theorem CRA.store {w:World} {x:Val} {q:Nat} {A B:Option Addr} {c e:Nat} {Ac:Option Addr} {cc:Nat} {k:Nat} {Ar:Option Addr} {cr:Nat} {wr:World} (h:CRA w x q A B c e Ac cc k Ar cr wr):CR w x q A B c e Ac cc k Ar cr (wr.setCell ⟨w.heap.size+1+1,6,none⟩ (.slice Ar k cr)):=by
 obtain ⟨y,hy⟩:=h.gout;have ho:=(Only.refl (w.heap.size+1+1) wr).set 6 (.slice Ar k cr);refine ⟨h.ext.only ho (by omega),h.box.keep (ho.kept fun b _ e=>by omega),h.res.keep (ho.kept fun b _ e=>by omega),hy.set 6 _,⟨ho.own h.cols.1 (by omega),h.cols.2⟩,h.rows.keep (ho.kept fun b _ hb=>by omega) (fun b hb hb'=>h.sep b hb' hb),h.sep⟩

def RA (w:World) (S:Nat→Prop) (d:Nat) (t:AskD) (A B:Option Addr):Prop:=Row w S d A t.2.1∧Ints w S B t.2.2
theorem RA.keep {w w':World} {S:Nat→Prop} {d:Nat} {t:AskD} {A B:Option Addr} (h:RA w S d t A B) (k:Kept S w w'):RA w' S d t A B:=⟨Row.keep h.1 k,h.2.keep k⟩
theorem RA.mono {w:World} {S T:Nat→Prop} {d:Nat} {t:AskD} {A B:Option Addr} (h:RA w S d t A B) (k:∀ i,i<w.heap.size→S i→T i):RA w T d t A B:=⟨Row.mono h.1 k,h.2.mono k⟩
def acells (t:AskD) (A:Option Addr) (c:Nat) (B:Option Addr) (e:Nat):List Value:=[.int .i64 t.1,.slice A t.2.1.length c,.slice B t.2.2.length e]
def CA (w:World) (S:Nat→Prop) (d:Nat) (t:AskD) (cs:List Value):Prop:=∃ A c B e,cs=acells t A c B e∧(t.2.1.length≤c∧t.2.2.length≤e)∧RA w S d t A B
theorem RA.move {w w':World} {S T:Nat→Prop} {d:Nat} {t:AskD} {A B:Option Addr} (h:RA w S d t A B) (k:Kept S w w') (m:∀ i,i<w.heap.size→S i→T i):RA w' T d t A B :=
 ((h.mono (T:=fun b=>S b∧T b) fun i hi hs=>⟨hs,m i hi hs⟩).keep (k.mono fun _ _ hh=>hh.1)).mono fun _ _ hh=>hh.2
theorem CA.keep {w w':World} {S:Nat→Prop} {d:Nat} {t:AskD} {cs:List Value} (h:CA w S d t cs) (k:Kept S w w'):CA w' S d t cs:=by
 obtain ⟨A,c,B,e,h1,h2,h3⟩:=h;exact ⟨A,c,B,e,h1,h2,h3.keep k⟩
theorem CA.mono {w:World} {S T:Nat→Prop} {d:Nat} {t:AskD} {cs:List Value} (h:CA w S d t cs) (k:∀ i,i<w.heap.size→S i→T i):CA w T d t cs:=by
 obtain ⟨A,c,B,e,h1,h2,h3⟩:=h;exact ⟨A,c,B,e,h1,h2,h3.mono k⟩
theorem CA.move {w w':World} {S T:Nat→Prop} {d:Nat} {t:AskD} {cs:List Value} (h:CA w S d t cs) (k:Kept S w w') (m:∀ i,i<w.heap.size→S i→T i):CA w' T d t cs:=by
 obtain ⟨A,c,B,e,h1,h2,h3⟩:=h;exact ⟨A,c,B,e,h1,h2,h3.move k m⟩
theorem acells_one {t:AskD} {A B:Option Addr} {c e:Nat} : ∀ u∈acells t A c B e,u.oneCell'=true:=by
 intro u hu;simp [acells] at hu
 rcases hu with rfl | rfl | rfl <;> rfl
def AL (R:AskD→List Value→Prop) (xs:List Value) (l:List AskD):Prop:=xs.length=l.length*3∧∀ (j:Nat) (y:AskD),l[j]?=some y→R y ((xs.drop (j*3)).take 3)
theorem AL.nil (R:AskD→List Value→Prop):AL R [] []:=⟨rfl,by simp⟩
theorem AL.imp {R R':AskD→List Value→Prop} {xs:List Value} {l:List AskD} (h:AL R xs l) (f:∀ y cs,R y cs→R' y cs):AL R' xs l:=⟨h.1,fun j y hj=>f _ _ (h.2 j y hj)⟩
theorem AL.append {R:AskD→List Value→Prop} {xs ys:List Value} {l m:List AskD} (h:AL R xs l) (k:AL R ys m):AL R (xs++ys) (l++m):=by
 refine ⟨by simp [h.1,k.1]; omega,fun j z hj => ?_⟩
 rcases Nat.lt_or_ge j l.length with hlt | hge
 ·rw [List.getElem?_append_left hlt] at hj;have hz:=h.2 j z hj;have hx:=h.1;rw [List.drop_append_of_le_length (by omega),List.take_append_of_le_length (by simp; omega)];exact hz
 ·rw [List.getElem?_append_right hge] at hj;have hz:=k.2 _ z hj;have hx:=h.1;rw [show j*3=xs.length+(j-l.length)*3 by omega,← List.drop_drop,List.drop_left];exact hz
theorem AL.one {R:AskD→List Value→Prop} {cs:List Value} {y:AskD} (hc:cs.length=3) (hy:R y cs):AL R cs [y]:=by
 refine ⟨by simpa using hc,fun j z hj => ?_⟩
 match j,hj with
 | 0,hj =>
  simp at hj;subst hj;rw [Nat.zero_mul,List.drop_zero,List.take_of_length_le (by omega)];exact hy
 | j+1,hj=>simp at hj
theorem AL.cells {w:World} {S:Nat→Prop} {d:Nat} {xs:List Value} {l:List AskD} (h:AL (CA w S d) xs l):∀ u∈xs,u.oneCell'=true:=by
 intro u hu;obtain ⟨i,hi,rfl⟩:=List.mem_iff_getElem.1 hu;have hx:=h.1;have hj:i / 3<l.length:=(by omega);obtain ⟨A,c,B,e,h1,_⟩:=h.2 (i / 3) _ (List.getElem?_eq_getElem hj);refine acells_one (t:=l[i / 3]) (A:=A) (c:=c) (B:=B) (e:=e) _ ?_;rw [← h1];refine List.mem_iff_getElem.2 ⟨i % 3,by simp; omega,?_⟩;rw [List.getElem_take,List.getElem_drop];congr 1;omega
theorem AL.take {R:AskD→List Value→Prop} {xs:List Value} {l:List AskD} (h:AL R xs l) (k:Nat):AL R (xs.take (k*3)) (l.take k):=by
 have hx:=h.1;refine ⟨by rw [List.length_take,List.length_take,hx]; omega,fun j z hj => ?_⟩;rw [List.getElem?_take] at hj;split at hj
 ·have:=h.2 j z hj;rw [List.drop_take,List.take_take,Nat.min_eq_left (by omega)];exact this
 ·cases hj
theorem AL.drop {R:AskD→List Value→Prop} {xs:List Value} {l:List AskD} (h:AL R xs l) (k:Nat):AL R (xs.drop (k*3)) (l.drop k):=by
 have hx:=h.1;refine ⟨by rw [List.length_drop,List.length_drop,hx]; omega,fun j z hj => ?_⟩;rw [List.getElem?_drop] at hj;have:=h.2 _ z hj;rw [List.drop_drop,show k*3+j*3=(k+j)*3 by omega];exact this
def AS (w:World) (S:Nat→Prop) (d:Nat) (A:Option Addr) (l:List AskD):Prop:=l.length≤4294967296∧∃ xs:List Value,Rd w S A xs∧AL (CA w S d) xs l
section
variable {w w':World} {base c c' d:Nat} {X T S:Nat→Prop} {A A':Option Addr} {l:List AskD}
theorem AS.keep (h:AS w S d A l) (k:Kept S w w'):AS w' S d A l:=by
 obtain ⟨h0,xs,h1,h2⟩:=h;exact ⟨h0,xs,h1.keep k,h2.imp fun _ _ hh=>hh.keep k⟩
theorem AS.mono (h:AS w S d A l) (k:∀ i,i<w.heap.size→S i→T i):AS w T d A l:=by
 obtain ⟨h0,xs,h1,h2⟩:=h;exact ⟨h0,xs,h1.mono k,h2.imp fun _ _ hh=>hh.mono k⟩
theorem AS.nil:AS w S d A []:=⟨by simp,[],Or.inl rfl,AL.nil _⟩
theorem AS.at_ (h:AS w S d A l) {k:Nat} (hk:k<l.length):∃ b o Ac cc Ar cr,A=some ⟨b,o,none⟩∧b<w.heap.size∧(w.cell? ⟨b,o+k*3,none⟩=some (.int .i64 l[k].1)∧w.cell? ⟨b,o+k*3+1,none⟩=some (.slice Ac l[k].2.1.length cc)∧w.cell? ⟨b,o+k*3+2,none⟩=some (.slice Ar l[k].2.2.length cr))∧(l[k].2.1.length≤cc∧l[k].2.2.length≤cr)∧RA w S d l[k] Ac Ar:=by
 obtain ⟨_,xs,h1,h2,h3⟩:=h;obtain ⟨Ac,cc,Ar,cr,h4,h5,h6⟩:=h3 k l[k] (List.getElem?_eq_getElem hk);have hx:∀ i u,(acells l[k] Ac cc Ar cr)[i]?=some u→xs[k*3+i]?=some u:=by
  intro i u hi;have hlt:i<3:=by
   have:=(List.getElem?_eq_some_iff.1 hi).1
   simpa [acells] using this
  rw [← h4,List.getElem?_take,if_pos hlt,List.getElem?_drop] at hi;exact hi
 have hne:xs≠[]:=by
  intro h0;have:=hx 0 _ rfl;simp [h0] at this
 obtain ⟨b,o,hB,_,hb,hc⟩:=h1.some_ hne;have hh:∀ i u,(acells l[k] Ac cc Ar cr)[i]?=some u→w.cell? ⟨b,o+k*3+i,none⟩=some u:=fun i u hi=>by
  have:=hc _ u (hx i u hi);rwa [← Nat.add_assoc] at this
 exact ⟨b,o,Ac,cc,Ar,cr,hB,hb,⟨hh 0 _ rfl,hh 1 _ rfl,hh 2 _ rfl⟩,h5,h6⟩
end

def UfR (w:World) (S:Nat→Prop) (r:List Val) (cs:List Value):Prop:=r=[]∨∃ (b n c:Nat),cs[1]?=some (Value.slice (some ⟨b,0,none⟩) n c)∧S b∧b<w.heap.size∧∀ i,w.frozen? ⟨b,i,none⟩=false
theorem UfR.move {w w':World} {S T:Nat→Prop} {r:List Val} {cs:List Value} (h:UfR w S r cs) (k:Kept S w w') (m:∀ i,i<w.heap.size→S i→T i):UfR w' T r cs:=by
 rcases h with h | ⟨b,n,c,h1,h2,h3,h4⟩
 ·exact .inl h
 ·refine .inr ⟨b,n,c,h1,m b h3 h2,Nat.lt_of_lt_of_le h3 k.1,fun i => ?_⟩;have:=h4 i;unfold World.frozen? at this ⊢;rw [k.2 b h2 h3];exact this
def CAU (w:World) (S:Nat→Prop) (d:Nat) (t:AskD) (cs:List Value):Prop:=CA w S d t cs∧UfR w S t.2.1 cs
theorem CAU.keep {w w':World} {S:Nat→Prop} {d:Nat} {t:AskD} {cs:List Value} (h:CAU w S d t cs) (k:Kept S w w'):CAU w' S d t cs:=⟨h.1.keep k,h.2.move k fun _ _ h=>h⟩
theorem CAU.mono {w:World} {S T:Nat→Prop} {d:Nat} {t:AskD} {cs:List Value} (h:CAU w S d t cs) (k:∀ i,i<w.heap.size→S i→T i):CAU w T d t cs:=⟨h.1.mono k,h.2.move (Kept.refl _ _) k⟩
theorem CAU.move {w w':World} {S T:Nat→Prop} {d:Nat} {t:AskD} {cs:List Value} (h:CAU w S d t cs) (k:Kept S w w') (m:∀ i,i<w.heap.size→S i→T i):CAU w' T d t cs:=⟨h.1.move k m,h.2.move k m⟩
section
variable {w w':World} {base c c' d:Nat} {X T S:Nat→Prop} {A A':Option Addr} {l:List AskD}
end

abbrev Gz:=Nat→Bool
def gz0:Gz:=fun _=>false
def Gz.put (γ:Gz) (k:Nat):Gz:=fun j=>if j=k then true else γ j
structure LZ (X:Nat→Nat→Prop) (γ:Gz) (w:World) (γ':Gz) (w':World):Prop where
 os:w'.os=w.os
 tape:w'.tape=w.tape
 output:w'.output=w.output
 size:w.heap.size≤w'.heap.size
 kept:∀ b,b<w.heap.size→(∀ m,X m b→γ' m=γ m)→w'.heap[b]?=w.heap[b]?
 done:∀ k,γ k=true→γ' k=true
section
variable {X:Nat→Nat→Prop} {γ γ' γ'':Gz} {w w' w'':World}
theorem LZ.refl (X:Nat→Nat→Prop) (γ:Gz) (w:World):LZ X γ w γ w:=⟨rfl,rfl,rfl,Nat.le_refl _,fun _ _ _=>rfl,fun _ h=>h⟩
theorem LZ.mid (h:LZ X γ w γ' w') (k:LZ X γ' w' γ'' w'') {m:Nat} (e:γ'' m=γ m):γ' m=γ m∧γ'' m=γ' m:=by
 cases h0:γ m with
 | true=>have h1:=h.done m h0; exact ⟨h1,(k.done m h1).trans h1.symm⟩
 | false =>
  rw [h0] at e;cases h1:γ' m with
  | false=>exact ⟨rfl,e⟩
  | true=>rw [k.done m h1] at e; cases e
theorem LZ.trans (X:Nat→Nat→Prop) (γ:Gz) (w:World) (γ':Gz) (w':World) (γ'':Gz) (w'':World) (h:LZ X γ w γ' w') (k:LZ X γ' w' γ'' w''):LZ X γ w γ'' w'' :=
 ⟨k.os.trans h.os,k.tape.trans h.tape,k.output.trans h.output,Nat.le_trans h.size k.size,fun b hb hm=>(k.kept b (Nat.lt_of_lt_of_le hb h.size) fun m hX=>(h.mid k (hm m hX)).2).trans (h.kept b hb fun m hX=>(h.mid k (hm m hX)).1),fun i hi=>k.done i (h.done i hi)⟩
theorem LZ.of_ext (X:Nat→Nat→Prop) (γ:Gz) (h:Ext w w'):LZ X γ w γ w':=⟨h.os,h.tape,h.output,h.size,fun b hb _=>h.block b hb,fun _ h=>h⟩
theorem LZ.keptS (h:LZ X γ w γ' w') {S:Nat→Prop} (hS:∀ b,b<w.heap.size→S b→∀ m,X m b→γ' m=γ m):Kept S w w':=⟨h.size,fun b hs hb=>h.kept b hb (hS b hb hs)⟩
theorem LZ.kept0 (h:LZ X gz0 w.drew γ' w') {S:Nat→Prop} (hS:∀ b,b<w.heap.size→S b→∀ m,X m b→γ' m=false):Kept S w w':=(Kept.drew S w).trans (h.keptS hS)
theorem LZ.buts (h:LZ X gz0 w.drew γ' w') {S:Nat→Prop} (hS:∀ m b,b<w.heap.size→X m b→γ' m=true→S b):ButS S w w':=⟨h.os,h.tape,h.output,h.size,fun b hb hn=>h.kept b hb fun m hm=>by
 cases e:γ' m with
 | false=>rfl
 | true=>exact absurd (hS m b hb hm e) hn⟩
theorem LZ.ext0 (h:LZ X gz0 w.drew γ' w') (hX:∀ m b,b<w.heap.size→X m b→γ' m=false):Ext w w':=⟨h.os,h.tape,h.output,h.size,fun b hb=>h.kept b hb fun m hm=>hX m b hb hm⟩
theorem LZ.write {m:Nat} (hm:γ m=false) (hos:w'.os=w.os) (ht:w'.tape=w.tape) (hou:w'.output=w.output) (hz:w.heap.size≤w'.heap.size) (hb:∀ b,b<w.heap.size→¬ X m b→w'.heap[b]?=w.heap[b]?):LZ X γ w (γ.put m) w':=by
 refine ⟨hos,ht,hou,hz,fun b hl hX=>hb b hl fun h => ?_,fun k hk => ?_⟩
 ·have:=hX m h;simp [Gz.put,hm] at this
 ·unfold Gz.put;split
  ·rfl
  ·exact hk
end
def LK (l:List (Nat × List Nat)) (i:Nat) (γ:Gz):Prop:=∀ k∈alF l i,γ k=false
theorem LK.zero (l:List (Nat × List Nat)) (i:Nat):LK l i gz0:=fun _ _=>rfl
theorem LK.done {l:List (Nat × List Nat)} {γ:Gz} {s k:Nat} {p:List Nat} (h:(l.all fun q => !(q.2.contains k) || decide (q.1=s) || p.contains q.1)=true):∀ j,j≠s→j ∉ p→LK l j γ→LK l j (γ.put k):=by
 intro j hj hp h1 k' hk';unfold Gz.put;rw [if_neg (fun e=>by
  subst e
  rcases alF_ok h j hk' with h3 | h3
  ·exact hj h3
  ·exact hp h3)]
 exact h1 k' hk'
theorem LK.key {l:List (Nat × List Nat)} {γ:Gz} {i k:Nat} (h:LK l i γ) (hk:(alF l i).contains k=true):γ k=false:=h k (by simpa using hk)

theorem sum_filter {p:Nat→Nat} : ∀ (hs:List Nat),hs.Nodup→∀ L:List Nat,(∀ x∈L,p x∈hs)→((hs.map fun v=>L.filter fun x=>p x==v).map List.length).sum=L.length
 | [],_,L,h=>by
  match L,h with
  | [],_=>rfl
  | x :: _,h=>have:=h x (by simp); cases this
 | v :: hs,hn,L,h=>by
  have hn':=List.nodup_cons.1 hn;have ih:=sum_filter hs hn'.2 (L.filter fun x=>p x != v) fun x hx=>by
   have h1:=List.mem_filter.1 hx
   rcases List.mem_cons.1 (h x h1.1) with e | e
   ·exact absurd e (by simpa using h1.2)
   ·exact e
  rw [List.map_cons,List.map_cons,List.sum_cons];have e:(hs.map fun v=>L.filter fun x=>p x==v)=hs.map fun v'=>(L.filter fun x=>p x != v).filter fun x=>p x==v':=by
   refine List.map_congr_left fun v' hv' => ?_;rw [List.filter_filter];refine List.filter_congr fun x _ => ?_;by_cases hx:p x=v'
   ·have:p x≠v:=fun e=>hn'.1 (by rw [← e,hx]; exact hv');simp [hx];rw [← hx]; exact this
   ·simp [hx]
  rw [e,ih];have h2:∀ M:List Nat,(M.filter fun x=>p x==v).length+(M.filter fun x=>p x != v).length=M.length:=by
   intro M
   induction M with
   | nil=>rfl
   | cons x M ih =>
    by_cases hx:p x=v
    ·rw [List.filter_cons_of_pos (by simpa using hx),List.filter_cons_of_neg (by simpa using hx)];simp only [List.length_cons];omega
    ·rw [List.filter_cons_of_neg (by simpa using hx),List.filter_cons_of_pos (by simpa using hx)];simp only [List.length_cons];omega
  exact h2 L
theorem IsSplit.sum {p:Nat→Nat} {L:List Nat} {gs:List (List Nat)} (h:IsSplit p L gs):(gs.map List.length).sum=L.length:=by
 obtain ⟨hs,h1,h2,rfl⟩:=h;exact sum_filter hs (h1.imp fun h=>by omega) L fun x hx=>(h2 _).2 ⟨x,hx,rfl⟩
section
variable {w w':World} {bP bm base d c:Nat} {l:List (List Val)} {A:Option Addr} {X:List AskD} {Xs Xs2:Nat→Prop}
end
theorem AL.set {R:AskD→List Value→Prop} {xs:List Value} {l:List AskD} {p:Nat} {y:AskD} {c0 c1 c2:Value} (h:AL R xs l) (hp:p<l.length) (h0:xs[p*3]?=some c0) (hy:R y [c0,c1,c2]):AL R ((xs.set (p*3+1) c1).set (p*3+2) c2) (l.set p y):=by
 refine ⟨by simp [h.1],fun j z hj => ?_⟩;have hx:=h.1;by_cases e:p=j
 ·subst e;rw [List.getElem?_set_self hp] at hj;obtain rfl:=Option.some.inj hj;have:((((xs.set (p*3+1) c1).set (p*3+2) c2).drop (p*3)).take 3)=[c0,c1,c2]:=by
   apply List.ext_getElem?;intro i;rw [List.getElem?_take,List.getElem?_drop]
   match i with
   | 0=>rw [if_pos (by omega),List.getElem?_set_ne (by omega),List.getElem?_set_ne (by omega)]; exact h0
   | 1=>rw [if_pos (by omega),List.getElem?_set_ne (by omega),List.getElem?_set_self (by omega)]; rfl
   | 2=>rw [if_pos (by omega),List.getElem?_set_self (by simp; omega)]; rfl
   | i+3=>rw [if_neg (by omega)]; rfl
  rw [this];exact hy
 ·rw [List.getElem?_set_ne e] at hj;have hz:=h.2 j z hj;have:((((xs.set (p*3+1) c1).set (p*3+2) c2).drop (j*3)).take 3)=(xs.drop (j*3)).take 3:=by
   apply List.ext_getElem?;intro i;rw [List.getElem?_take,List.getElem?_drop,List.getElem?_take,List.getElem?_drop];split
   ·rw [List.getElem?_set_ne (by omega),List.getElem?_set_ne (by omega)]
   ·rfl
  rw [this];exact hz

theorem Kept.cell2 {S:Nat→Prop} {w w':World} (h:Kept S w w') {p:Addr} {u:Value} (hc:w.cell? p=some u) (hs:S p.block):w'.cell? p=some u:=h.cell hs hc
theorem Rows.blkS {w:World} {S:Nat→Prop} {d:Nat} {l:List (List Val)} {b o:Nat} (h:Rows w S d (some ⟨b,o,none⟩) l) (hl:l≠[]):S b:=by
 obtain ⟨_,hs,h1,h2,_⟩:=h;obtain ⟨b',o',e,hS,_⟩:=h1.some_ (by intro e; apply hl; exact List.eq_nil_of_length_eq_zero (by rw [← h2,e]; rfl));injection e with e;injection e with e;rw [e]; exact hS
theorem Row.blkS {w:World} {S:Nat→Prop} {d:Nat} {l:List Val} {b o:Nat} (h:Row w S d (some ⟨b,o,none⟩) l) (hl:l≠[]):S b:=by
 obtain ⟨_,hs,h1,h2,_⟩:=h;obtain ⟨b',o',e,hS,_⟩:=h1.some_ (by intro e; apply hl; refine List.eq_nil_of_length_eq_zero ?_; rw [e] at h2; simp at h2; omega);injection e with e;injection e with e;rw [e]; exact hS
theorem NN.blkS {w:World} {S:Nat→Prop} {l:List (List Nat)} {b o:Nat} (h:NN w S (some ⟨b,o,none⟩) l) (hl:l≠[]):S b:=by
 obtain ⟨_,hs,h1,h2,_⟩:=h;obtain ⟨b',o',e,hS,_⟩:=h1.some_ (by intro e; apply hl; exact List.eq_nil_of_length_eq_zero (by rw [← h2,e]; rfl));injection e with e;injection e with e;rw [e]; exact hS
theorem Nums.blkS {w:World} {S:Nat→Prop} {l:List Nat} {b o:Nat} (h:Nums w S (some ⟨b,o,none⟩) l) (hl:l≠[]):S b:=by
 obtain ⟨b',o',e,hS,_⟩:=h.1.some_ (by intro e; apply hl; simpa [nums] using e);injection e with e;injection e with e;rw [e]; exact hS
section
variable {w wq wr w9:World} {bP bm:Nat} {l:List (List Val)} {base:Nat} {Xs:Nat→Prop} {d:Nat} {A0:Option Addr} {X:List AskD} {gs:List (List Nat)} {m k:Nat} {A8:Option Addr} {c8:Nat} {A9:Option Addr} {c9:Nat} {A:Option Addr} {c:Nat} {G:Option Addr} {A84:Option Addr}
end
end Go.Proofs.YthmckfloppblcaaGreatDoor
