/- The reference's Made: answers of the six values. Conditions: the numbers read as data. -/
import Derived.Test.YtomdpipekmcojaaGreatDoorBk14
namespace Go.Proofs.YtomdpipekmcojaaGreatDoor
open Go Go.RowKit

def II (w:World) (S:Nat→Prop) (A:Option Addr) (l:List (List Int)):Prop :=
 l.length≤9223372036854775807∧∃ hs:List Value,Rd w S A hs∧hs.length=l.length∧∀ (i:Nat) (g:List Int),l[i]?=some g→∃ (B:Option Addr) (e:Nat),hs[i]?=some (Value.slice B g.length e)∧Rd w S B (g.map (Value.int .i64))∧g.length≤9223372036854775807
theorem II.keep {w w':World} {S:Nat→Prop} {A:Option Addr} {l:List (List Int)} (h:II w S A l) (k:Kept S w w'):II w' S A l:=by
 obtain ⟨h0,hs,h1,h2,h3⟩:=h;refine ⟨h0,hs,h1.keep k,h2,fun i g hg => ?_⟩;obtain ⟨B,e,h4,h5,h6⟩:=h3 i g hg;exact ⟨B,e,h4,h5.keep k,h6⟩
theorem II.at_ {w:World} {S:Nat→Prop} {A:Option Addr} {l:List (List Int)} (h:II w S A l) {k:Nat} (hk:k<l.length):∃ b o B e,A=some ⟨b,o,none⟩∧b<w.heap.size∧w.cell? ⟨b,o+k,none⟩=some (.slice B l[k].length e)∧Rd w S B (l[k].map (Value.int .i64))∧l[k].length≤9223372036854775807:=by
 obtain ⟨h0,hs,h1,h2,h3⟩:=h;obtain ⟨B,e,h4,h5,h6⟩:=h3 k l[k] (List.getElem?_eq_getElem hk);obtain ⟨b,o,e1,e2,e3⟩:=h1.at_ h4;exact ⟨b,o,B,e,e1,e2,e3,h5,h6⟩
def IsV (x:Val):Prop:=∃ m:Nat,m<6∧x=valS m
theorem IsV.size {x:Val} (h:IsV x):x.s.size≤4294967296:=by
 obtain ⟨m,hm,rfl⟩:=h
 match m,hm with
 | 0,_=>decide
 | 1,_=>decide
 | 2,_=>decide
 | 3,_=>decide
 | 4,_=>decide
 | 5,_=>decide
theorem flat_rv (w:World) (S:Nat→Prop) (q:Nat) (k:Int) (s:ByteArray) (a b n:Int) (hs:s.size≤4294967296) (A B:Option Addr):RV w S q ⟨k,s,a,b,n,[],[]⟩ A B :=
 RV.mk hs ⟨.inl rfl,by show (0:Nat)≤_; omega,by intro s hs; cases hs⟩ ⟨by show (0:Nat)≤_; omega,[],.inl rfl,rfl,by intro i r hi; simp at hi⟩
def hdI (l:List (List Int)):Nat:=(l.head?.map List.length).getD 0
theorem hdI_at {l:List (List Int)} (h:0<l.length):l[0].length=hdI l:=by
 cases l with
 | nil=>simp at h
 | cons a l=>rfl
/- The reference's permitted. Conditions: the answers read as data, and hold no tables. -/

/- What is made is right; Make's error on it; the depth is below the number of programs. No conditions. -/

theorem valS_all:((List.range 6).all fun (m:Nat)=>flatB (valS m))=true:=by kernel_rfl
theorem IsV.flat {x:Val} (h:IsV x):flatB x=true:=by
 obtain ⟨m,hm,rfl⟩:=h;exact List.all_eq_true.1 valS_all m (by simpa using hm)
section
variable {L:List (List Val)} {N:Nat}
theorem made_inp (hw:Wide L N):inpS L≤N:=by
 cases L with
 | nil=>exact Nat.zero_le _
 | cons r l=>exact Nat.le_of_eq (hw r (by simp))
theorem made_inp1 (hw:Wide L N) {r:List Val} (hr:r∈L):r.length=inpS L:=by
 cases L with
 | nil=>cases hr
 | cons a l=>rw [hw r hr]; exact (hw a (by simp)).symm
theorem made_right (hv:∀ r∈L,∀ x∈r,IsV x) (hw:Wide L N):rightA L=true:=by
 unfold rightA;rw [List.all_eq_true];intro r hr;rw [Bool.and_eq_true,List.all_eq_true];exact ⟨by simpa using made_inp1 hw hr,fun x hx=>(hv r hr x hx).flat⟩
theorem made_cells (hv:∀ r∈L,∀ x∈r,IsV x):VCells L:=hv
end
/- The lower bound is at most the depth. No conditions. -/

theorem len_cut (q:Nat→Bool):∀ R:List Nat,R.length=(R.filter q).length+(R.filter fun x => !q x).length
 | []=>rfl
 | x :: R=>by
  have:=len_cut q R;cases h:q x <;> simp [h] <;> omega
theorem count_le (p:Nat→Nat) (B:Nat):∀ (W:Nat) (R:List Nat),(∀ x∈R,p x<W)→(∀ v,(R.filter fun x=>p x==v).length≤B)→R.length≤W*B
 | 0,R,h,_=>by
  cases R with
  | nil=>simp
  | cons x R=>have:=h x (by simp); omega
 | W+1,R,h,hB=>by
  have h1:=len_cut (fun x=>p x==W) R;have h2:=hB W;have h3:=count_le p B W (R.filter fun x => !(p x==W)) (fun x hx=>by
   have hm:=List.mem_filter.1 hx;have:=h x hm.1;have h4:p x≠W:=(by simpa using hm.2);omega) (fun v=>Nat.le_trans ((List.filter_sublist).filter _).length_le (hB v))
  rw [Nat.succ_mul];omega
def Apart (l:List (List Val)) (R:List Nat):Prop:=R.Pairwise fun a b=>alikeB l a b=false
theorem alike_of {l:List (List Val)} {a b:Nat} (h:∀ m,m<inpS l→rk l m a=rk l m b):alikeB l a b=true:=by
 unfold alikeB;rw [Bool.not_eq_true',List.any_eq_false];intro P hP;obtain ⟨m,hm,rfl⟩:=List.mem_map.1 hP;have:=h m (List.mem_range.1 hm);unfold rk at this;simp [diffB];exact this
theorem rk_lt {l:List (List Val)} {m x:Nat} (hm:m<inpS l) (hx:x<l.length):rk l m x<widest l:=by
 have h3:=(foldl_max_ge (f:=fun m=>maxN (placesS l m)+1) (List.range (inpS l)) 0).2 m (List.mem_range.2 hm);have hl:=placesS_len l m;have a0:(placesS l m).getD x 0≤maxN (placesS l m):=(by rw [getD_of _ _ _ (by omega)]; exact maxN_ge _ (List.getElem_mem _));show (placesS l m).getD x 0<widest l;unfold widest;omega
theorem apart_le (l:List (List Val)) (hW:1≤widest l):∀ (d:Nat) (L R:List Nat),dep (spl l) (inpS l) L≤d→(∀ x∈L,x<l.length)→(∀ x∈R,x∈L)→Apart l R→R.length≤widest l ^ d:=by
 intro d
 induction d with
 | zero =>
  intro L R hd hL hR ha;have h0:=(dep_zero (spl_small l) (inpS l) L).1 (by omega)
  match R,hR,ha with
  | [],_,_=>simp
  | [x],_,_=>simp
  | x :: y :: R,hR,ha =>
   have h1:alikeB l x y=false:=(List.pairwise_cons.1 ha).1 y (by simp);rw [alike_of fun m hm=>(spl_is l m L).one.1 (h0 m hm) x (hR x (by simp)) y (hR y (by simp))] at h1;cases h1
 | succ d ih =>
  intro L R hd hL hR ha;by_cases hz:dep (spl l) (inpS l) L=0
  ·have h1:=ih L R (by omega) hL hR ha;rw [Nat.pow_succ];exact Nat.le_trans h1 (Nat.le_mul_of_pos_right _ hW)
  ·obtain ⟨m,hm,he⟩:=dep_at (spl_small l) (inpS l) L hz;have h2:¬ (spl l m L).length<2:=by
    intro h;unfold dW at he;rw [if_pos h] at he;omega
   have hg:∀ g∈spl l m L,dep (spl l) (inpS l) g≤d:=by
    intro g hg;unfold dW at he;rw [if_neg h2] at he;have:=(foldl_max_ge (f:=fun g=>dep (spl l) (inpS l) g) (spl l m L) 0).2 g hg;omega
   have hc:=count_le (rk l m) (widest l ^ d) (widest l) R (fun x hx=>rk_lt hm (hL x (hR x hx))) (fun v=>by
    by_cases hv:(R.filter fun x=>rk l m x==v)=[]
    ·rw [hv]; simp
    ·obtain ⟨x,hx⟩:=List.exists_mem_of_ne_nil _ hv;have hxm:=List.mem_filter.1 hx;obtain ⟨g,hgm,hxg,hge⟩:=(spl_is l m L).cov x (hR x hxm.1);have hxv:rk l m x=v:=(by simpa using hxm.2);have hin:∀ y∈g,y∈L:=fun y hy=>by rw [hge] at hy; exact (List.mem_filter.1 hy).1
     refine ih g _ (hg g hgm) (fun y hy=>hL y (hin y hy)) (fun y hy => ?_) (List.Pairwise.sublist List.filter_sublist ha);have hym:=List.mem_filter.1 hy;rw [hge];exact List.mem_filter.2 ⟨hR y hym.1,by rw [hxv]; exact hym.2⟩)
   rw [Nat.pow_succ,Nat.mul_comm];exact hc
theorem diffs_list (l:List (List Val)):∀ k,∃ R:List Nat,R.length=diffs l k∧(∀ x∈R,x<k)∧Apart l R
 | 0=>⟨[],by simp [diffs],by simp,List.Pairwise.nil⟩
 | k+1=>by
  obtain ⟨R,h1,h2,h3⟩:=diffs_list l k;rw [diffs_succ];by_cases ha:((List.range k).any fun o=>alikeB l o k)=true
  ·rw [if_pos ha];exact ⟨R,h1,fun x hx=>by have:=h2 x hx; omega,h3⟩
  ·rw [if_neg ha];refine ⟨R++[k],by simp [h1],fun x hx => ?_,List.pairwise_append.2 ⟨h3,by simp,fun x hx y hy => ?_⟩⟩
   ·rcases List.mem_append.1 hx with hx | hx
    ·have:=h2 x hx; omega
    ·simp at hx; omega
   ·simp at hy;subst hy;cases e:alikeB l x y with
    | false=>rfl
    | true=>exact absurd (List.any_eq_true.2 ⟨x,List.mem_range.2 (h2 x hx),e⟩) ha
theorem lowG_le (wd df:Nat):∀ (f p n e:Nat),df≤p*wd ^ e→lowG wd df f p n≤n+e
 | 0,_,_,_,_=>by simp [lowG]
 | f+1,p,n,e,h=>by
  unfold lowG;split
  ·rename_i hlt;cases e with
   | zero=>rw [Nat.pow_zero,Nat.mul_one] at h; omega
   | succ e =>
    have:=lowG_le wd df f (p*wd) (n+1) e (by rw [Nat.pow_succ,Nat.mul_comm (wd ^ e),← Nat.mul_assoc] at h; exact h);omega
  ·omega
theorem low_le (l:List (List Val)):lowF l≤depA l:=by
 obtain ⟨R,h1,h2,h3⟩:=diffs_list l l.length;unfold lowF;by_cases hW:1≤widest l
 ·have h4:=apart_le l hW (depA l) (allP l) R (Nat.le_refl _) (fun x hx=>by simpa [allP] using hx) (fun x hx=>by simpa [allP] using h2 x hx) h3;have:=lowG_le (widest l) (diffs l l.length) (diffs l l.length) 1 0 (depA l) (by omega);omega
 ·have h5:diffs l l.length≤1:=by
   rcases Nat.lt_or_ge (diffs l l.length) 2 with h | h
   ·omega
   ·have:=diffs_two l l.length (Nat.le_refl _) h; omega
  have:=lowG_le (widest l) (diffs l l.length) (diffs l l.length) 1 0 0 (by rw [Nat.pow_zero]; omega);omega
/- The law's follows. Conditions: the plan and the replies read as data. -/

theorem numV_rv (w:World) (S:Nat→Prop) (q:Nat) (n:Int) (A B:Option Addr):RV w S q (numV n) A B:=RV.mk (by show (0:Nat)≤_; omega) ⟨.inl rfl,by show (0:Nat)≤_; omega,by intro s hs; cases hs⟩ ⟨by show (0:Nat)≤_; omega,[],.inl rfl,rfl,by intro i r hi; simp [numV] at hi⟩
theorem Row.of_own {w:World} {base d c:Nat} {X:Nat→Prop} {A:Option Addr} {l:List Val} (h:OwnVs w base X d A c l) (hl:l.length≤4294967296):Row w (fun _=>True) d A l:=h.row hl (fun _ _=>trivial) fun _ _=>trivial
set_option maxRecDepth 100000 in
set_option maxHeartbeats 1000000 in
theorem l25_follows (d:Nat) (hd:0<d) (Y:List AskD) (A:Option Addr) (c:Nat) (dp lo:Int) (at_:Int) (ok:Bool) (rs:List Int) (B:Option Addr) (e:Nat) (w:World) (S T:Nat→Prop) (hY:AS w S d A Y) (hr:Ints w T B rs) (hrl:rs.length≤1000) :
  Calls Tryz.prog 48 #[.agg #[.slice A Y.length c,.int .i64 dp,.int .i64 lo],.int .i64 at_,.bool ok,.slice B rs.length e] w (RetB w (decide ((followS Y (rs.map numV)).1=at_) && decide ((followS Y (rs.map numV)).2=ok))):=by
 obtain ⟨n,en⟩:∃ n,n=Y.length:=⟨_,rfl⟩;obtain ⟨m,em⟩:∃ m,m=rs.length:=⟨_,rfl⟩;obtain ⟨w0,hw0⟩:∃ w0,w0=w.alloc (.cells #[.slice A n c,.int .i64 dp,.int .i64 lo] 29):=⟨_,rfl⟩;obtain ⟨b4,hb4⟩:∃ b4,b4=w.heap.size:=⟨_,rfl⟩;have hx0:Ext w w0:=(by rw [hw0]; exact (Ext.refl w).alloc _);have hbk:Blk w0 b4 29 #[.slice A n c,.int .i64 dp,.int .i64 lo]:=(by rw [hw0,hb4]; exact Blk.new _ _ _);have HYM:=Hd (hY.keep (hx0.kept S));have HRM:=Hd (hr.keep (hx0.kept T));have HEN:=Hd en;have HEM:=Hd em;have HX0:=Hd hx0;have HBK:=Hd hbk;have HW0:=Hd hw0;have HB4:=Hd hb4;have HDD:=Hd hd;rw [← en,← em];rw [← em] at hrl;clear hY hr hx0 hbk hw0 hb4 en em hd
 go_enter Tryz.func48,Tryz.ntmps48
 go_upto_region 2 with fail
 rw [← HW0.o,← HB4.o];go_wp2
 go_loopw [9,16] (fun v i wr=>∃ (k:Nat) (A':Option Addr) (c':Nat),k≤m∧v=.slice A' k c'∧i=.int .i64 (k:Int)∧Ext w0 wr∧OwnVs wr w0.heap.size (fun b=>w0.heap.size≤b) d A' c' ((rs.take k).map numV)) (fun _ i _=>m-(intOf i).toNat)
 case atStart=>exact ⟨0,none,0,Nat.zero_le _,rfl,rfl,Ext.refl _,OwnVs.nil _ _ _ _⟩
 case round =>
  obtain ⟨k,A',c',hk,rfl,rfl,hx,hown⟩:=hrel;have HX:=Hd hx;have HO:=Hd hown;clear hx hown;by_cases hlt:k<m
  ·have hks:k<rs.length:=(by rw [← HEM.o]; exact hlt);obtain ⟨bB,oB,hB,_,hc⟩:=(HRM.o.keep (HX.o.kept _)).at_ hks;subst hB;obtain ⟨x,ex⟩:∃ x,x=rs[k]:=⟨_,rfl⟩;rw [← ex] at hc;have HTK:=Hd (show (rs.take (k+1)).map numV=(rs.take k).map numV++[numV x] by rw [List.take_succ_eq_append_getElem hks,List.map_append,← ex]; rfl);have hlk:((rs.take k).map numV).length=k:=(by rw [List.length_map,List.length_take]; omega);have HLK:=Hd hlk;have i0:(0:Int)≤(k:Int):=(by omega);have i1:(k:Int)<(m:Int):=(by omega);clear ex hks hlk
   go_wp2_with fail
   refine (l25_number x wr).mono ?_;rintro e1 w1 ⟨rfl,hx1⟩;have HX1:=Hd hx1;obtain ⟨xs,ho1,hv1⟩:=HO.o.ext hx1;rw [HLK.o] at ho1;have HO1:=Hd ho1;have HV1:=Hd hv1;have hsz:=HX.o.size;have hsz1:=hx1.size;clear hx1 ho1 hv1
   go_wp2_with (at_builtin; go_must (refine wpList_app rfl (.tmp 20) (.tmp 23) rfl tiV rfl (HO1.o.ext ((Ext.refl _).alloc _)) rfl (Blk.rd (Blk.new _ _ _)) rfl (by simp [Value.oneCell']) (by omega) (by decide) (by simp; omega) ?_); intro A5 c5 w5 hown5 hg5 hat5)
   go_roundw
   case rel =>
    refine ⟨k+1,A5,c5,by omega,rfl,by go_num,((HX.o.trans HX1.o).alloc _).grown hg5 (fun b hb=>(Own.blk HO1.o hb).1),?_⟩;rw [HTK.o];exact OwnVs.push (A1:=none) (c1:=0) (B1:=none) (e1:=0) (HV1.o.imp fun _ _ hh=>hh.keep (Kept.alloc _ _ _)) (by rw [HLK.o]; exact hown5) hg5 hat5 ⟨HDD.o,by simp [numV],by simp [numV]⟩ (numV_rv _ _ _ _ _ _)
   case measure=>simp [intOf]; omega
  ·have hfin:(rs.take k).map numV=rs.map numV:=(by rw [List.take_of_length_le (by rw [← HEM.o]; omega)]);have hkm:k=m:=(by omega);subst hkm;have hrow:=Row.of_own HO.o (by rw [hfin,List.length_map,← HEM.o]; omega);rw [hfin] at hrow;have HFO:=Hd (question_Follow d Y A c dp lo (rs.map numV) A' c' wr S (fun _=>True) (HYM.o.keep (HX.o.kept S)) hrow);rw [← HEN.o,List.length_map,← HEM.o] at HFO;have hb:=HBK.o.keep (HX.o.kept _);have q0:=hb.cell (i:=0) rfl;have q1:=hb.cell (i:=1) rfl;have q2:=hb.cell (i:=2) rfl;obtain ⟨fr,hfr⟩:∃ fr,fr=followS Y (rs.map numV):=⟨_,rfl⟩;have HFR:=Hd hfr;rw [← hfr] at HFO;clear hfin hrow hb hfr
   go_wp2_with fail
   refine HFO.o.mono ?_;rintro e9 w9 ⟨rfl,hx9⟩;have HX9:=Hd ((HX0.o.trans HX.o).trans hx9);clear hx9 q0 q1 q2 HFO;obtain ⟨f1,f2⟩:=fr;by_cases h1:f1=at_
   ·subst h1;go_wp2;go_ret;refine ⟨?_,HX9.o⟩;rw [← HFR.o];cases f2 <;> cases ok <;> simp <;> rfl
   ·have j0:(f1==at_)=false:=(by rw [beq_eq_false_iff_ne]; exact h1);have HN:=Hd h1;clear h1;go_wp2;go_ret;refine ⟨?_,HX9.o⟩;rw [← HFR.o];simp [HN.o]
/- The document's examples, evaluated. No conditions. -/

def san0:List (List Val):=[[numV 1,numV 2],[numV 1,numV 3],[numV 2,numV 2]]
def sanP:List AskD:=[(0,[numV 1,numV 2],[1,-1]),(1,[numV 2,numV 3],[-1,-1])]
theorem san_err2:errM san0 2=0:=by kernel_rfl
theorem san_err1:errM san0 1=16:=by kernel_rfl
theorem san_make:makeF san0 2=(sanP,2,2):=by kernel_rfl
theorem san_groups:groupsS san0 [0,1,2] 0=[[0,1],[2]]:=by kernel_rfl
theorem san_f1:followS sanP [numV 2]=(-1,true):=by kernel_rfl
theorem san_f2:followS sanP [numV 1]=(1,true):=by kernel_rfl
theorem san_f3:followS sanP [numV 1,numV 3]=(-1,true):=by kernel_rfl
theorem san_f4:followS sanP [numV 5]=(-1,false):=by kernel_rfl
theorem san_useful:usefulS (san0.map fun r=>r++[numV 7])=[0,1]:=by kernel_rfl
/- A row of the call's own rows is replaced. No conditions. -/

theorem OwnRs.put {w:World} {base c d g e i:Nat} {X:Nat→Prop} {l:List (List Val)} {r:List Val} {B:Option Addr} (h:OwnRs w base X d (some ⟨g,0,none⟩) c l) (hre:r.length≤e) (hr:Row w (fun b=>b≠g∧X b) d B r) :
  OwnRs (w.setCell ⟨g,i,none⟩ (.slice B r.length e)) base X d (some ⟨g,0,none⟩) c (l.set i r):=by
 obtain ⟨hs,h1,h2⟩:=h;have hk:Kept (fun b=>b≠g∧X b) w (w.setCell ⟨g,i,none⟩ (.slice B r.length e)):=((Only.refl g w).set i _).kept fun b _ hb=>hb.1;have hm:∀ b,b<(w.setCell ⟨g,i,none⟩ (.slice B r.length e)).heap.size→(b≠g∧X b)→(ob (some (⟨g,0,none⟩:Addr))≠some b∧X b):=fun b _ hb=>⟨fun e=>hb.1 (by injection e with e; exact e.symm),hb.2⟩;refine ⟨hs.set i (.slice B r.length e),by rw [List.length_set]; exact h1.put _,fun j r' hj => ?_⟩;have hlen:hs.length=l.length:=(by simpa using h1.len);by_cases hij:i=j
 ·subst hij
  rcases Nat.lt_or_ge i l.length with hlt | hge
  ·rw [List.getElem?_set_self (by simpa using hlt)] at hj;injection hj with hj;subst hj;exact ⟨B,e,List.getElem?_set_self (by omega),hre,(Row.keep hr hk).mono hm⟩
  ·rw [List.getElem?_eq_none (by simpa using hge)] at hj;cases hj
 ·rw [List.getElem?_set_ne hij] at hj;obtain ⟨B',e',h3,h4,h5⟩:=h2 j r' hj;refine ⟨B',e',by rw [List.getElem?_set_ne hij]; exact h3,h4,?_⟩;have h6:Row w (fun b=>b≠g∧X b) d B' r':=h5.mono fun b _ hb=>⟨fun e=>hb.1 (by rw [e]; rfl),hb.2⟩;exact (Row.keep h6 hk).mono hm
def row2C (a b:Int):Array Value:=#[.int .i64 2,.string ⟨#[]⟩,.int .i64 a,.int .i64 0,.int .i64 0,.slice none 0 0,.slice none 0 0,.int .i64 2,.string ⟨#[]⟩,.int .i64 b,.int .i64 0,.int .i64 0,.slice none 0 0,.slice none 0 0]
theorem row2_row {v:World} {g:Nat} {S:Nat→Prop} {a b:Int} (h:Blk v g 47 (row2C a b)) (hg:S g):Row v S 1 (some ⟨g,0,none⟩) [numV a,numV b]:=by
 have h1:Own v 0 47 7 (some ⟨g,0,none⟩) 2 2 (row2C a b).toList:=Own.lit1 (xs:=(row2C a b).toList) h (Nat.zero_le _);refine ⟨by show (2:Nat)≤_; omega,_,h1.rd.mono fun i _ hi => ?_,rfl,fun j y hj => ?_⟩
 ·injection hi with hi;exact hi ▸ hg
 ·match j,hj with
  | 0,hj=>cases hj; exact ⟨none,0,none,0,rfl,⟨by decide,Nat.zero_le _,Nat.zero_le _⟩,numV_rv _ _ _ _ _ _⟩
  | 1,hj=>cases hj; exact ⟨none,0,none,0,rfl,⟨by decide,Nat.zero_le _,Nat.zero_le _⟩,numV_rv _ _ _ _ _ _⟩
  | j+2,hj=>simp at hj
theorem san_own {v:World} {g0 g1 g2 g base:Nat} (B0:Blk v g0 47 (row2C 1 2)) (B1:Blk v g1 47 (row2C 1 3)) (B2:Blk v g2 47 (row2C 2 2)) (D:Blk v g 42 #[.slice (some ⟨g0,0,none⟩) 2 2,.slice (some ⟨g1,0,none⟩) 2 2,.slice (some ⟨g2,0,none⟩) 2 2])
  (h0:base≤g0) (h1:base≤g1) (h2:base≤g2) (k0:g0<g) (k1:g1<g) (k2:g2<g):OwnRs v base (fun b=>base≤b) 1 (some ⟨g,0,none⟩) 3 san0:=by
 refine ⟨[.slice (some ⟨g0,0,none⟩) 2 2,.slice (some ⟨g1,0,none⟩) 2 2,.slice (some ⟨g2,0,none⟩) 2 2],Own.lit1 D (by omega),fun i r hi => ?_⟩;have hne:∀ b,b<g→base≤b→ob (some (⟨g,0,none⟩:Addr))≠some b∧base≤b:=fun b hb hh=>⟨fun e=>by injection e with e; simp at e; omega,hh⟩
 match i,hi with
 | 0,hi=>cases hi; exact ⟨_,2,rfl,Nat.le_refl _,row2_row B0 (hne _ k0 h0)⟩
 | 1,hi=>cases hi; exact ⟨_,2,rfl,Nat.le_refl _,row2_row B1 (hne _ k1 h1)⟩
 | 2,hi=>cases hi; exact ⟨_,2,rfl,Nat.le_refl _,row2_row B2 (hne _ k2 h2)⟩
 | n+3,hi=>simp [san0] at hi
/- A part is put between parts, in memory; the reference's way to find its place. No conditions. -/

section
variable {w w':World} {base c:Nat} {A:Option Addr} {bs:List (Nat × Nat)} {gs:List (List Nat)}
theorem Parts.iff:Parts w base bs gs↔bs.length=gs.length∧(∀ p∈bs.zip gs,OwnN w base (some ⟨p.1.1,0,none⟩) p.1.2 p.2)∧(bs.map (·.1)).Nodup:=by
 constructor
 ·rintro ⟨h1,h2,h3⟩;refine ⟨h1,fun p hp => ?_,h3⟩;obtain ⟨i,hi⟩:=List.mem_iff_getElem?.1 hp;rw [List.getElem?_zip_eq_some] at hi;exact h2 i _ _ hi.1 hi.2
 ·rintro ⟨h1,h2,h3⟩;refine ⟨h1,fun i b g hb hg=>h2 (b,g) (List.mem_iff_getElem?.2 ⟨i,?_⟩),h3⟩;rw [List.getElem?_zip_eq_some];exact ⟨hb,hg⟩
end
/- Rows of plain values, each in a block of its own, below a list of their headers. No conditions. -/

def FF:Nat→Prop:=fun _=>False
def hdrV (bs:List (Nat × Nat)) (l:List (List Val)):List Value:=List.zipWith (fun b r=>Value.slice (some ⟨b.1,0,none⟩) r.length b.2) bs l
structure SV (v:World) (base pg:Nat) (bs:List (Nat × Nat)) (l:List (List Val)):Prop where
 len:bs.length=l.length
 own:∀ (i:Nat) (b:Nat × Nat) (r:List Val),bs[i]?=some b→l[i]?=some r→OwnVs v base FF 1 (some ⟨b.1,0,none⟩) b.2 r
 nd:(bs.map (·.1)).Nodup
 hd:Own v base 42 1 (some ⟨pg,0,none⟩) l.length l.length (hdrV bs l)
 ne:∀ b∈bs,pg≠b.1
section
variable {v w9:World} {base pg:Nat} {bs:List (Nat × Nat)} {l:List (List Val)}
theorem hdrV_at {i:Nat} {b:Nat × Nat} {r:List Val} (hb:bs[i]?=some b) (hg:l[i]?=some r):(hdrV bs l)[i]?=some (.slice (some ⟨b.1,0,none⟩) r.length b.2):=by
 simp [hdrV,List.getElem?_zipWith,hb,hg]
theorem hdrV_set (i:Nat) (b:Nat × Nat) (r:List Val):(hdrV bs l).set i (.slice (some ⟨b.1,0,none⟩) r.length b.2)=hdrV (bs.set i b) (l.set i r):=by
 apply List.ext_getElem?;intro j;by_cases hj:i=j
 ·subst hj;simp only [hdrV,List.getElem?_zipWith,List.getElem?_set_self'];cases h1:bs[i]? <;> cases h2:l[i]? <;> simp
 ·simp only [hdrV,List.getElem?_zipWith,List.getElem?_set_ne hj]
theorem OwnVs.fkeep {w w':World} {d c:Nat} {A:Option Addr} {r:List Val} (h:OwnVs w base FF d A c r) (hk:Kept (fun b=>ob A=some b) w w'):OwnVs w' base FF d A c r:=h.keep (hk.mono fun _ _ hh=>hh.elim id fun f=>f.elim)
theorem SV.ext (h:SV v base pg bs l) (hx:Ext v w9):SV w9 base pg bs l :=
 ⟨h.len,fun i b r hb hr=>(h.own i b r hb hr).ext hx,h.nd,h.hd.ext hx,h.ne⟩
theorem SV.lt (h:SV v base pg bs l):∀ b∈bs,base≤b.1∧b.1<v.heap.size:=by
 intro b hb;obtain ⟨i,hi,rfl⟩:=List.mem_iff_getElem.1 hb;exact (h.own i bs[i] (l[i]'(by rw [← h.len]; exact hi)) (List.getElem?_eq_getElem hi) (List.getElem?_eq_getElem (by rw [← h.len]; exact hi))).blk rfl
theorem SV.at_ (h:SV v base pg bs l) {i:Nat} (hi:i<l.length):∃ b,bs[i]?=some b∧OwnVs v base FF 1 (some ⟨b.1,0,none⟩) b.2 l[i]∧b∈bs:=by
 have hi':i<bs.length:=(by rw [h.len]; exact hi);exact ⟨bs[i],List.getElem?_eq_getElem hi',h.own i _ _ (List.getElem?_eq_getElem hi') (List.getElem?_eq_getElem hi),List.getElem_mem hi'⟩
theorem SV.rows (h:SV v base pg bs l) (hl:l.length≤4294967296) (hr:∀ r∈l,r.length≤4294967296):Rows v (fun b=>base≤b) 1 (some ⟨pg,0,none⟩) l:=by
 refine ⟨hl,hdrV bs l,h.hd.rd.mono fun b _ hb=>(Own.blk h.hd hb).1,by simp [hdrV,h.len],fun i r hi => ?_⟩;have hil:i<l.length:=(List.getElem?_eq_some_iff.1 hi).1;obtain ⟨b,hb,ho,_⟩:=h.at_ hil;have hri:l[i]=r:=(List.getElem?_eq_some_iff.1 hi).2;rw [hri] at ho;have hcap:r.length≤b.2:=(by obtain ⟨xs,h1,_⟩:=ho; exact Own.cap h1);exact ⟨_,_,hdrV_at hb hi,hcap,ho.row (hr r (List.mem_of_getElem? hi)) (fun x hx=>(ho.blk hx).1) (fun _ f=>f.elim)⟩
theorem SV.grow {i:Nat} {b:Nat × Nat} {r2:List Val} {A2:Option Addr} {c2:Nat} (h:SV v base pg bs l) (hA:Own w9 base 42 1 (some ⟨pg,0,none⟩) l.length l.length ((hdrV bs l).set i (.slice A2 r2.length c2)))
  (hb:bs[i]?=some b) (hk:Kept (fun y=>y∈bs.map (·.1)∧y≠b.1) v w9) (ho:OwnVs w9 base FF 1 A2 c2 r2) (hat:∀ x,ob A2=some x→x=b.1∨v.heap.size≤x) (hne:0<r2.length) :
  ∃ bs',SV w9 base pg bs' (l.set i r2):=by
 obtain ⟨x,rfl⟩:∃ x,A2=some ⟨x,0,none⟩:=by obtain ⟨xs,h1,_⟩:=ho; exact Own.some_ h1 hne
 have hx':x=b.1∨v.heap.size≤x:=hat x rfl;have hbm:b∈bs:=List.mem_of_getElem? hb;have hblt:=h.lt b hbm;have hgb:=h.ne b hbm;have hgA:pg<v.heap.size:=(Own.blk h.hd rfl).2;have hxA:pg≠x:=(by rcases hx' with rfl | h <;> omega);have hi:i<bs.length:=by
  rcases Nat.lt_or_ge i bs.length with h | h
  ·exact h
  ·rw [List.getElem?_eq_none h] at hb; cases hb
 have hbi:bs[i]=b:=(by rw [List.getElem?_eq_getElem hi] at hb; exact Option.some.inj hb);have hne2:∀ (j:Nat) (d:Nat × Nat),bs[j]?=some d→j≠i→d.1≠b.1:=by
  intro j d hd hji e;have hj:j<bs.length:=by
   rcases Nat.lt_or_ge j bs.length with h | h
   ·exact h
   ·rw [List.getElem?_eq_none h] at hd; cases hd
  have hdj:bs[j]=d:=(by rw [List.getElem?_eq_getElem hj] at hd; exact Option.some.inj hd);have:=(List.getElem_inj (xs:=bs.map (·.1)) (i:=j) (j:=i) (h₀:=by simpa using hj) (h₁:=by simpa using hi) h.nd).1 (by simp [hdj,hbi,e]);exact hji this
 refine ⟨bs.set i (x,c2),⟨by simp [h.len],fun j d g' hd hg' => ?_,?_,?_,?_⟩⟩
 ·by_cases hji:j=i
  ·subst hji;rw [List.getElem?_set_self hi] at hd;rw [List.getElem?_set_self (by rw [← h.len]; exact hi)] at hg';obtain rfl:=Option.some.inj hd;obtain rfl:=Option.some.inj hg';exact ho
  ·rw [List.getElem?_set_ne (fun e=>hji e.symm)] at hd hg';refine (h.own j d g' hd hg').fkeep (hk.mono fun y _ hy => ?_);have hyd:y=d.1:=(by simp [ob] at hy; exact hy.symm);rw [hyd];exact ⟨List.mem_map.2 ⟨d,List.mem_of_getElem? hd,rfl⟩,hne2 j d hd hji⟩
 ·rw [List.map_set];rw [List.nodup_iff_pairwise_ne,List.pairwise_iff_getElem];intro p q hp hq hpq;simp only [List.length_set,List.length_map] at hp hq;have hlt:∀ (j:Nat) (hj:j<bs.length),j≠i→bs[j].1≠x:=by
   intro j hj hji;have:=hne2 j bs[j] (List.getElem?_eq_getElem hj) hji;have:=(h.lt bs[j] (List.getElem_mem hj)).2
   rcases hx' with rfl | h <;> omega
  rw [List.getElem_set,List.getElem_set];split
  ·subst_vars
   rw [if_neg (by omega),List.getElem_map];exact fun e=>hlt q (by simpa using hq) (by omega) e.symm
  ·split
   ·subst_vars
    rw [List.getElem_map];exact fun e=>hlt p (by simpa using hp) (by omega) e
   ·rw [List.getElem_map,List.getElem_map];intro e;have:=(List.getElem_inj (xs:=bs.map (·.1)) (i:=p) (j:=q) (h₀:=by simpa using hp) (h₁:=by simpa using hq) h.nd).1 (by simpa using e);omega
 ·rw [hdrV_set i (x,c2) r2] at hA
  simpa using hA
 ·intro d hd
  rcases List.mem_or_eq_of_mem_set hd with hd | rfl
  ·exact h.ne d hd
  ·simpa [ob] using hxA
end
theorem row2_own {v:World} {g base:Nat} {a b:Int} (h:Blk v g 47 (row2C a b)) (hg:base≤g):OwnVs v base FF 1 (some ⟨g,0,none⟩) 2 [numV a,numV b]:=by
 refine ⟨(row2C a b).toList,Own.lit1 (xs:=(row2C a b).toList) h hg (hn:=rfl) (hm:=by show 2≤maxLen; decide),rfl,fun j y hj => ?_⟩
 match j,hj with
 | 0,hj=>cases hj; exact ⟨none,0,none,0,rfl,⟨by decide,Nat.zero_le _,Nat.zero_le _⟩,numV_rv _ _ _ _ _ _⟩
 | 1,hj=>cases hj; exact ⟨none,0,none,0,rfl,⟨by decide,Nat.zero_le _,Nat.zero_le _⟩,numV_rv _ _ _ _ _ _⟩
 | j+2,hj=>simp at hj
theorem san_sv {v:World} {g0 g1 g2 g base:Nat} (B0:Blk v g0 47 (row2C 1 2)) (B1:Blk v g1 47 (row2C 1 3)) (B2:Blk v g2 47 (row2C 2 2)) (D:Blk v g 42 #[.slice (some ⟨g0,0,none⟩) 2 2,.slice (some ⟨g1,0,none⟩) 2 2,.slice (some ⟨g2,0,none⟩) 2 2])
  (h0:base≤g0) (h1:base≤g1) (h2:base≤g2) (k0:g0<g) (k1:g1<g) (k2:g2<g) (n0:g0<g1) (n1:g1<g2):SV v base g [(g0,2),(g1,2),(g2,2)] san0:=by
 refine ⟨rfl,fun i b r hb hr => ?_,by simp; omega,Own.lit1 D (by omega),by simp; omega⟩
 match i,hb,hr with
 | 0,hb,hr=>cases hb; cases hr; exact row2_own B0 h0
 | 1,hb,hr=>cases hb; cases hr; exact row2_own B1 h1
 | 2,hb,hr=>cases hb; cases hr; exact row2_own B2 h2
 | n+3,hb,hr=>simp at hb
def sanK (q:Nat):List (List Val):=(san0.take q).map (fun r=>r++[numV 7])++san0.drop q
def SyR (w:World) (pg:Nat) (i:Value) (wr:World):Prop:=∃ (q:Nat) (bs:List (Nat × Nat)),q≤3∧i=.int .i64 (q:Int)∧Ext w wr∧SV wr w.heap.size pg bs (sanK q)
theorem sanK_len {q:Nat} (hq:q≤3):(sanK q).length=3:=by
 match q,hq with
 | 0,_=>rfl
 | 1,_=>rfl
 | 2,_=>rfl
 | 3,_=>rfl
theorem sanK_at {q:Nat} (hq:q<3):∃ r,(sanK q)[q]?=some r∧r.length=2∧sanK (q+1)=(sanK q).set q (r++[numV 7]):=by
 match q,hq with
 | 0,_=>exact ⟨_,rfl,rfl,rfl⟩
 | 1,_=>exact ⟨_,rfl,rfl,rfl⟩
 | 2,_=>exact ⟨_,rfl,rfl,rfl⟩
theorem sanK_all:sanK 3=san0.map fun r=>r++[numV 7]:=rfl
end Go.Proofs.YtomdpipekmcojaaGreatDoor
