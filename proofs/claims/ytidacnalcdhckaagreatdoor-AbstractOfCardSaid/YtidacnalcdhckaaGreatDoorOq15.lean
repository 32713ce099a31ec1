/- Lemmas. No conditions. -/
import Derived.Test.YtidacnalcdhckaaGreatDoorOq14
set_option maxRecDepth 100000
set_option maxHeartbeats 400000
namespace Go.Proofs.YtidacnalcdhckaaGreatDoor
open Go Go.RowKit Tryz
variable {qP:Prop}

theorem VK{k k':List BA}(h:k.Perm k'):An k=An k':=by
 unfold An;rw [Wf (h.map _)]
theorem IsClosure.mem{l:List Dep}{frm ks ks':List BA}(h:IsClosure l frm ks)(h':IsClosure l frm ks')(x:BA):x∈ks↔x∈ks' :=
 ⟨fun hx=>h.least (·∈ks') h'.base h'.closed x hx,fun hx=>h'.least (·∈ks) h.base h.closed x hx⟩
theorem IsClosure.one{l:List Dep}{frm ks ks':List BA}(h:IsClosure l frm ks)(h':IsClosure l frm ks'):An ks=An ks' :=
 VK ((List.perm_ext_iff_of_nodup h.nodup h'.nodup).2 (h.mem h'))

def ERA:BA:=⟨#[115,105,110,99,101]⟩
def sX:BA:=⟨#[120]⟩
def EOA:Array Value:=#[.string FeA,.string G1A,.string Yw,.string ERA,.string sX]
structure DC(w:World)(A:OA)(n c:Nat)(s:BA)(A':OA)(c':Nat)(fs:List BA)(wr:World):Prop where
 ext:Ext w wr
 gr:Blk wr w.heap.size 69 #[.slice none 0 0,.string ⟨#[]⟩]
 num:∃ K,NumIs wr (w.heap.size+1) A n c K
 gn:Blk wr (w.heap.size+1+1) 9 EOA
 gd:Blk wr (w.heap.size+3) 69 #[.slice A' fs.length c',.string s]
 own:OwnSs wr (w.heap.size+4) A' c' fs
theorem DC.more{w wr wr':World}{A A':OA}{n c c':Nat}{s:BA}{fs:List BA}(h:DC w A n c s A' c' fs wr)(hx:Ext wr wr'):DC w A n c s A' c' fs wr':=by
 obtain ⟨K,hK⟩:=h.num;exact ⟨h.ext.trans hx,h.gr.keep (hx.kept _),⟨K,hK.keep (hx.kept _)⟩,h.gn.keep (hx.kept _),h.gd.keep (hx.kept _),h.own.ext hx⟩
theorem DC.next{w wr wr':World}{A A':OA}{n c c':Nat}{s:BA}{fs:List BA}(h:DC w A n c s A' c' fs wr)(ho:Only (w.heap.size+1) wr wr'){K:Nat}(hK:NumIs wr' (w.heap.size+1) A n c K):DC w A n c s A' c' fs wr' :=
 ⟨h.ext.only ho AA,h.gr.keep (ho.kept fun b _ e=>AA),⟨K,hK⟩,h.gn.keep (ho.kept fun b _ e=>AA),h.gd.keep (ho.kept fun b _ e=>AA),ho.own h.own.1 AA,h.own.2⟩
structure DA(w:World)(A:OA)(n c:Nat)(s:BA)(A':OA)(c':Nat)(fs:List BA)(wr:World):Prop where
 ext:Ext w wr
 gr:Blk wr w.heap.size 69 #[.slice none 0 0,.string ⟨#[]⟩]
 num:∃ K,NumIs wr (w.heap.size+1) A n c K
 gn:Blk wr (w.heap.size+1+1) 9 EOA
 gd:∃ x,Blk wr (w.heap.size+3) 69 #[x,.string s]
 own:OwnSs wr (w.heap.size+4) A' c' fs
theorem DC.app{w wr wr':World}{A A' A4:OA}{n c c' c4:Nat}{s t:BA}{fs:List BA}(h:DC w A n c s A' c' fs wr)(hg:wr.grownBy wr' (ob A'))(ho:Own wr' (w.heap.size+4) 9 1 A4 (fs.length+1) c4 (fs.map Value.string++[.string t]))(ht:t.size≤4294967296):DA w A n c s A4 c4 (fs++[t]) wr':=by
 obtain ⟨K,hK⟩:=h.num;have hk:∀ g,g<w.heap.size+4→Kept (fun b=>b=g) wr wr':=fun g hg'=>Kept.of_grown hg fun b hb _ e=>by
  subst hb;have:=(h.own.1.blk e.symm).1;omega
 refine ⟨Ext.grown h.ext hg fun b hb=>by have:=(h.own.1.blk hb).1;omega,h.gr.keep (hk _ AA),⟨K,hK.keep (hk _ AA)⟩,h.gn.keep (hk _ AA),⟨_,h.gd.keep (hk _ AA)⟩,?_,?_⟩
 ·simpa using ho
 ·intro x hx
  rcases List.mem_append.1 hx with hx|hx
  ·exact h.own.2 x hx
  ·simp at hx;subst hx;exact ht
theorem DA.store{w wr:World}{A A':OA}{n c c':Nat}{s:BA}{fs:List BA}(h:DA w A n c s A' c' fs wr):DC w A n c s A' c' fs (wr.setCell ⟨w.heap.size+3,0,none⟩ (.slice A' fs.length c')):=by
 obtain ⟨K,hK⟩:=h.num;obtain ⟨x,hx⟩:=h.gd;have ho:=(Only.refl (w.heap.size+3) wr).set 0 (.slice A' fs.length c');exact ⟨h.ext.only ho AA,h.gr.keep (ho.kept fun b _ e=>AA),⟨K,hK.keep (ho.kept fun b _ e=>AA)⟩,h.gn.keep (ho.kept fun b _ e=>AA),hx.set 0 _,ho.own h.own.1 AA,h.own.2⟩

def GhA:BA:=⟨#[82,111,109,101]⟩
def F0A:BA:=⟨#[79,115,108,111]⟩
def FHA:BA:=⟨#[66,101,114,103,101,110]⟩
def sIt:BA:=⟨#[105,116]⟩
def GlA(n:Int):Val:=⟨3,⟨#[]⟩,0,0,n,[],[]⟩
def G9A(kind:Int)(n:Nat):Val :=
 if n=4 then Val.zero
 else if kind=2 then (if n=0 then E0A 1 0 else if n=1 then E0A (-25) 1 else if n=2 then E0A 3 0 else E0A 1000000000000000 0)
 else if kind=3 then GlA (738000+n)
 else G2A (if n=0 then GhA else if n=1 then F0A else if n=2 then FHA else sIt)

def names4:List BA:=[FeA,G1A,Yw,ERA]
section
variable {w wr wr':World}{name:BA}{A Ac Ak:OA}{n c cc ck:Nat}{cols:List BA}{ks:List Int}
end
def HKA(ks:List Int)(r:List Val):Prop:=r.length=ks.length∧∀ (j:Nat) (h:j<r.length) (h':j<ks.length),∃ m:Nat,m<5∧r[j]=G9A ks[j] m
def MadeT(name:BA)(t:Look):Prop:=t.name=name∧∃ ks:List Int,1≤ks.length∧ks.length≤4∧t.cols=names4.take ks.length∧ks.head?=some 1∧(∀ x∈ks,x=1∨x=2∨x=3)∧t.rows.length≤6∧∀ r∈t.rows,HKA ks r
def ErA(w:World)(name:BA)(e:Ending)(w':World):Prop:=∃ t,MadeT name t∧HkA w t e w'
def StrsF(w:World)(S:NP)(A:OA)(l:List BA):Prop:=Strs w S A l∧∀ g,ob A=some g→S g∧∃ cs,Blk w g 9 cs
theorem StrsF.keep{w w':World}{S:NP}{A:OA}{l:List BA}(h:StrsF w S A l)(k:Kept S w w'):StrsF w' S A l :=
 ⟨h.1.keep k,fun g hg=>by
  obtain ⟨h1,cs,h2⟩:=h.2 g hg;exact ⟨h1,cs,h2.keep (k.mono fun b _ e=>by rw [e];exact h1)⟩⟩
theorem StrsF.mono{w:World}{S T:NP}{A:OA}{l:List BA}(h:StrsF w S A l)(k:∀ i,i<w.heap.size→S i→T i):StrsF w T A l :=
 ⟨h.1.mono k,fun g hg=>by
  obtain ⟨h1,cs,h2⟩:=h.2 g hg;exact ⟨k g h2.lt h1,cs,h2⟩⟩
def RetMadeF(w:World)(name:BA)(e:Ending)(w':World):Prop:=∃ (t:Look) (H:Nat) (A:OA) (c:Nat) (B:OA) (e':Nat),MadeT name t∧e=.returned (.agg #[.string t.name,.slice A t.cols.length c,.slice B t.rows.length e'])∧(t.cols.length≤c∧t.rows.length≤e')∧w.heap.size≤H∧t.name.size≤4294967296∧StrsF w' (fun b=>w.heap.size≤b∧b<H) A t.cols∧Rows w' (fun b=>H≤b) 1 B t.rows∧Ext w w'
theorem RetMadeF.made{w w':World}{name:BA}{e:Ending}(h:RetMadeF w name e w'):ErA w name e w':=by
 obtain ⟨t,H,A,c,B,e',h1,h2,h3,h4,h5,h6,h7,h8⟩:=h;exact ⟨t,h1,A,c,B,e',h2,h3,⟨h5,h6.1.mono fun b _ hb=>hb.1,h7.mono fun b _ hb=>Nat.le_trans h4 hb⟩,h8⟩
section
variable {w wr wr':World}{name:BA}{A Ac Ak Ar:OA}{n c H T cc cr:Nat}{cols:List BA}{ks:List Int}{rows:List (List Val)}
end

theorem EPA{l:List BA}{v:BA} : decide (0≤Bt l v)=true↔v∈l:=by rw [decide_eq_true_iff];exact Fl l v
theorem EU{cols:List BA}{rows:List (List Val)}{frm:List BA}{x:BA} : BH cols rows frm x=true ↔
  x∈cols∧EF cols rows=true∧(∀ f∈frm,f∈cols)∧∀ r∈rows,∀ o∈rows,(∀ f∈frm,Cx (Bt cols f).toNat r o=true)→Cx (Bt cols x).toNat r o=true:=by
 unfold BH;simp only [Bool.and_eq_true,EPA,List.all_eq_true,and_assoc];refine and_congr Iff.rfl (and_congr Iff.rfl (and_congr Iff.rfl ?_));unfold Gk;simp only [List.all_eq_true,Bool.or_eq_true,Bool.not_eq_true'];constructor
 ·intro h r hr o ho hf
  rcases h r hr o ho with h1|h1
  ·exfalso;have:((frm.map fun f=>(Bt cols f).toNat).all fun f=>Cx f r o)=true:=by
    rw [List.all_eq_true];intro x hx;obtain ⟨f,hf',rfl⟩:=List.mem_map.1 hx;exact hf f hf'
   rw [this] at h1;cases h1
  ·exact h1
 ·intro h r hr o ho;by_cases hf:((frm.map fun f=>(Bt cols f).toNat).all fun f=>Cx f r o)=true
  ·right;refine h r hr o ho fun f hf' => ?_;rw [List.all_eq_true] at hf;exact hf _ (List.mem_map_of_mem hf')
  ·left
   simpa using hf
theorem Ek{l:List BA}{x:BA} : x∈An l↔x∈l:=by
 unfold An;simp only [List.mem_map,List.mem_mergeSort];constructor
 ·rintro ⟨a,⟨y,hy,rfl⟩,rfl⟩;exact hy
 ·intro h;exact ⟨x.data.toList,⟨x,h,rfl⟩,rfl⟩
theorem WV(l:List BA):(An l).length=l.length:=by simp [An]
theorem IsClosure.again{l:List Dep}{frm ks ks':List BA}(h:IsClosure l frm ks)(h':IsClosure l (An ks) ks'):An ks'=An ks:=by
 refine h'.one ⟨h.nodup,fun x hx=>Ek.1 hx,h.closed,fun T h1 _ x hx=>h1 x (Ek.2 hx)⟩
theorem IsClosure.grow{l m:List Dep}{frm ks ks':List BA}(h:IsClosure l frm ks)(h':IsClosure m frm ks')(hs:∀ d∈l,d∈m):∀ x∈ks,x∈ks' :=
 h.least (·∈ks') h'.base fun d hd hf=>h'.closed d (hs d hd) hf
theorem IsClosure.len{l:List Dep}{frm ks:List BA}(h:IsClosure l frm ks):ks.length≤frm.length+l.length:=Part.len ⟨h.nodup,h.base,h.least⟩
theorem MadeT.cols{name:BA}{t:Look}(h:MadeT name t):1≤t.cols.length∧t.cols.length≤4∧t.rows.length≤6:=by
 obtain ⟨_,ks,h1,h2,h3,_,_,h6,_⟩:=h;have hl:names4.length=4:=rfl;refine ⟨?_,?_,h6⟩<;>simp [h3]<;>omega

instance:DecidableEq Dep:=fun a b=>decidable_of_iff (a.frm=b.frm∧a.tov=b.tov) (by cases a;cases b;simp)
structure Abs where
 kinds:Int
 tx:Sh
 nu:Rg
 dl:Int
 dh:Int
 bo:Int
 rl:Int
 rh:Int
 cols:List BA
 deps:List Dep
 errs:Bool
abbrev Ap(x:Abs)(A:Option Addr)(c:Nat)(D:Option Addr)(e:Nat):Array Value:=List.toArray [.int .i64 x.kinds,.int .i64 x.tx.least,.int .i64 x.tx.most,.int .i64 x.tx.cls,.string x.tx.b,.string x.tx.e,.int .i64 x.nu.ln,.int .i64 x.nu.ls,.int .i64 x.nu.hn,.int .i64 x.nu.hs,.int .i64 x.dl,.int .i64 x.dh,.int .i64 x.bo,.int .i64 x.rl,.int .i64 x.rh,.slice A x.cols.length c,.slice D x.deps.length e,.bool x.errs]
abbrev Aq(x:Abs)(A:Option Addr)(c:Nat)(D:Option Addr)(e:Nat):Value:=.agg (Ap x A c D e)
def ddp{α:Type} [DecidableEq α](l:List α):List α:=l.foldl (fun r x=>if x∈r then r else r++[x]) []
theorem Jl{α:Type} [DecidableEq α](l:List α)(x:α):ddp (l++[x])=if x∈ddp l then ddp l else ddp l++[x]:=by
 unfold ddp;rw [List.foldl_append];rfl
theorem Hb{α:Type}{P:List α→Prop}(h0:P [])(h1:∀ l x,P l→P (l++[x]))(l:List α):P l:=by
 rw [←List.reverse_reverse l]
 induction l.reverse with
 |nil=>exact h0
 |cons x m ih =>
  rw [List.reverse_cons];exact h1 _ _ ih
theorem IT{α:Type} [DecidableEq α](l:List α):∀ y,y∈ddp l↔y∈l:=by
 refine Hb (P:=fun l=>∀ y,y∈ddp l↔y∈l) ?_ ?_ l
 ·intro y;simp [ddp]
 ·intro l x ih y;rw [Jl];by_cases h:x∈ddp l
  ·rw [if_pos h,ih,List.mem_append,List.mem_singleton];constructor
   ·intro hy;exact Or.inl hy
   ·rintro (hy|rfl)
    ·exact hy
    ·exact (ih _).1 h
  ·rw [if_neg h,List.mem_append,List.mem_append,ih]
theorem KB{α:Type} [DecidableEq α](l:List α):(ddp l).Nodup:=by
 refine Hb (P:=fun l=>(ddp l).Nodup) ?_ ?_ l
 ·simp [ddp]
 ·intro l x ih;rw [Jl];by_cases h:x∈ddp l
  ·rw [if_pos h];exact ih
  ·rw [if_neg h,List.nodup_append];exact ⟨ih,AC,fun a ha b hb=>by
    rw [List.mem_singleton] at hb;subst hb;rintro rfl;exact h ha⟩
theorem WK{α:Type} [DecidableEq α](l:List α):l.Nodup→ddp l=l:=by
 refine Hb (P:=fun l=>l.Nodup→ddp l=l) ?_ ?_ l
 ·intro _;rfl
 ·intro l x ih h;rw [List.nodup_append] at h;obtain ⟨h1,_,h2⟩:=h;rw [Jl,ih h1,if_neg (fun hx=>h2 x hx x AC rfl)]
def Ey(p1 p2 p3 p4 p5:Bool):Int:=(if p1=true then 2 else 0)+(if p2=true then 4 else 0)+(if p3=true then 8 else 0)+(if p4=true then 16 else 0)+(if p5=true then 32 else 0)
theorem Ok(h:qP:=by
 cases p1<;>cases p2<;>cases p3<;>cases p4<;>cases p5<;>decide):qP:=h
theorem D1A(p1 p2 p3 p4 p5:Bool):bt (Ey p1 p2 p3 p4 p5) 1=p1∧bt (Ey p1 p2 p3 p4 p5) 2=p2∧bt (Ey p1 p2 p3 p4 p5) 3=p3∧bt (Ey p1 p2 p3 p4 p5) 4=p4∧bt (Ey p1 p2 p3 p4 p5) 5=p5:=by
 exact Ok
def Cy(a:Abs):Int × Int:=CZ (a.dl,a.dh) (0,3652058)
def DF(a:Abs):Int × Int:=CZ (a.rl,a.rh) (0,100)
def boI(a:Abs):Int:=bits .and .i64 a.bo 3
def pT(a:Abs):Bool:=bt a.kinds 1&&!AT a.tx
def pN(a:Abs):Bool:=bt a.kinds 2&&!BF a.nu
def pD(a:Abs):Bool:=bt a.kinds 3&&decide ((Cy a).1≤(Cy a).2)
def pB(a:Abs):Bool:=bt a.kinds 4&&decide (boI a≠0)
def pR(a:Abs):Bool:=bt a.kinds 5&&decide ((DF a).1≤(DF a).2)&&decide ((ddp a.cols).length≤8)&&(ddp a.cols).all Ba
def AX(a:Abs):Abs where
 kinds:=Ey (pT a) (pN a) (pD a) (pB a) (pR a)
 tx:=if pT a=true then BW a.tx a.tx else H3A
 nu:=if pN a=true then Cc a.nu a.nu else IBA
 dl:=if pD a=true then (Cy a).1 else 1
 dh:=if pD a=true then (Cy a).2 else 0
 bo:=if pB a=true then boI a else 0
 rl:=if pR a=true then (DF a).1 else 1
 rh:=if pR a=true then (DF a).2 else 0
 cols:=if pR a=true then An (ddp a.cols) else []
 deps:=if pR a=true then ddp a.deps else []
 errs:=a.errs
def Lq(a:Abs):Bool:=decide ((AX a).kinds=0)&&!a.errs
def ED(a:Abs)(v:Val):Bool:=decide (a.rl≤v.rows.length)&&decide ((v.rows.length:Int)≤a.rh)&&a.cols.all (Aw v.cols)&&a.deps.all fun d=>BH v.cols v.rows d.frm d.tov
def Ha(a:Abs)(v:Val):Bool :=
 if v.kind=1 then bt a.kinds 1&&Aj a.tx v.s
 else if v.kind=2 then bt a.kinds 2&&BD a.nu v.dn v.ds
 else if v.kind=3 then bt a.kinds 3&&decide (a.dl≤v.n∧v.n≤a.dh)
 else if v.kind=4 then bt a.kinds 4&&bt a.bo v.n.toNat
 else bt a.kinds 5&&ED a v
def AW(a:Abs)(v:Val):Bool:=BC v&&if v.kind=0 then a.errs else Ha a v
theorem Ty{a:Sh}(h:AT a=false)(l:List UInt8):InS (BW a a) l↔InS a l:=by
 constructor
 ·unfold BW;rw [h];simp only [Bool.false_eq_true,if_false];rintro ⟨h1,h2,h3,h4,h5⟩;have hL:AQ (Sh.mk (min (AQ a) (AQ a)) (max (BE a) (BE a)) (bits .or .i64 (BL a) (BL a)) (bA (ES a.B a.B)) (bA (Hv a.E a.E)))=AQ a:=by
   rw [Hw,NQ];show max (max (max 0 (min (AQ a) (AQ a))) ((bA a.B).size:Int)) ((bA a.E).size:Int)=AQ a;rw [EH,EH,G6,F1];unfold AQ;omega
  have hM:BE (Sh.mk (min (AQ a) (AQ a)) (max (BE a) (BE a)) (bits .or .i64 (BL a) (BL a)) (bA (ES a.B a.B)) (bA (Hv a.E a.E)))=BE a:=by
   show min (max (BE a) (BE a)) 200=BE a;unfold BE;omega
  rw [hL] at h1;rw [hM] at h2;refine ⟨h1,h2,fun c hc => ?_,?_,?_⟩
  ·rcases (Pt (a:=a) (b:=a) rfl c).1 (h3 c hc) with h|h<;>exact h
  ·have:ES a.B a.B <+: l:=h4;rw [Hw] at this;exact this
  ·have:Hv a.E a.E <:+ l:=h5;rw [NQ] at this;exact this
 ·exact Wj
theorem Kc{a:Sh}(h:AT a=false)(s:BA):Aj (BW a a) s=Aj a s:=by
 rw [Bool.eq_iff_iff,Cf,Cf,Ty h]
theorem OK{a:Sh}(h:AT a=true)(s:BA):Aj a s=false:=by
 rw [Bool.eq_false_iff];intro hc;exact (Bs a).1 h _ ((Cf a s).1 hc)
theorem AzA{a:Rg}(h:BF a=false)(n s:Int):BD (Cc a a) n s=BD a n s:=by
 unfold Cc;rw [Fd,h];simp only [Bool.false_eq_true,if_false];rw [Bool.eq_iff_iff,Ce,Ce,(Ww _ _).1,(Ww _ _).2,(G9 h).1,(G9 h).2];constructor
 ·rintro ⟨h1,h2,h3⟩;exact ⟨h1,AA,AA⟩
 ·rintro ⟨h1,h2,h3⟩;exact ⟨h1,AA,AA⟩
theorem GmA(i:Nat):bt 3 i=decide (i<2):=by
 rw [show (3:Int)=((3:Nat):Int) from rfl,DVA _ _ AB];rw [show 3=2^2-1 from rfl,Nat.testBit_two_pow_sub_one]
theorem Wc(a:Abs)(i:Nat):bt (boI a) i=(bt a.bo i&&decide (i<2)):=by
 unfold boI;rw [CN,GmA]
theorem CCA(a:Abs):boI a=0↔bt a.bo 0=false∧bt a.bo 1=false:=by
 rw [M0 (show Er (boI a) from CJ _ _ _)];constructor
 ·intro h;have h0:=h 0 AA;have h1:=h 1 AA
  change bt (boI a) 0=false at h0
  change bt (boI a) 1=false at h1
  rw [Wc] at h0 h1;simp at h0 h1;exact ⟨h0,h1⟩
 ·rintro ⟨h0,h1⟩ i _;show bt (boI a) i=false;rw [Wc]
  match i with
  |0=>simp [h0]
  |1=>simp [h1]
  |k+2=>simp
theorem OC{cols:List BA}{rows:List (List Val)}(h:BK cols rows=true):cols.length≤8∧rows.length≤100∧cols.Nodup∧(∀ c∈cols,Ba c=true)∧∀ r∈rows,Ew cols.length r=true:=by
 unfold BK at h;rw [Bool.and_eq_true,Bool.and_eq_true,decide_eq_true_eq] at h;obtain ⟨⟨⟨h1,h2⟩,h3⟩,h4⟩:=h;rw [List.all_eq_true] at h3 h4;have h5:∀ i,i<cols.length→Fj cols i=true:=fun i hi=>h3 i Bp;refine ⟨h1,h2,?_,?_,h4⟩
 ·rw [List.nodup_iff_pairwise_ne,List.pairwise_iff_getElem];intro i j hi hj hij he;have h6:=h5 j hj;unfold Fj at h6;rw [BM _ _ _ hj,Bool.and_eq_true,Bool.not_eq_true'] at h6;have h7:Aw (cols.take j) cols[j]=true:=by
   rw [Ao,List.mem_take_iff_getElem];exact ⟨i,AA,he⟩
  rw [h7] at h6;cases h6.2
 ·intro c hc;obtain ⟨i,hi,rfl⟩:=List.mem_iff_getElem.1 hc;have h6:=h5 i hi;unfold Fj at h6;rw [BM _ _ _ hi,Bool.and_eq_true] at h6;exact h6.1
theorem N9{v:Val}(h:BC v=true)(hk:v.kind=5):BK v.cols v.rows=true:=by
 unfold BC at h;rw [if_pos hk,Bool.and_eq_true] at h;exact h.1
theorem Dh{v:Val}(h:BC v=true):v.kind=0∨v.kind=1∨v.kind=2∨v.kind=3∨v.kind=4∨v.kind=5:=by
 unfold BC at h;split at h
 ·omega
 ·unfold BG at h
  repeat' split at h
  all_goals first|omega|cases h
theorem BUA{v:Val}(h:BC v=true)(hk:v.kind=3):0≤v.n∧v.n≤3652058:=by
 unfold BC at h;rw [if_neg AA] at h;unfold BG at h;rw [if_neg AA,if_neg AA,if_neg AA,if_pos hk] at h;simp at h;omega
theorem Gx{v:Val}(h:BC v=true)(hk:v.kind=4):v.n=0∨v.n=1:=by
 unfold BC at h;rw [if_neg AA] at h;unfold BG at h;rw [if_neg AA,if_neg AA,if_neg AA,if_neg AA,if_pos hk] at h;simp at h;omega
theorem Zb(a:Abs):bt (AX a).kinds 1=pT a∧bt (AX a).kinds 2=pN a∧bt (AX a).kinds 3=pD a∧bt (AX a).kinds 4=pB a∧bt (AX a).kinds 5=pR a:=D1A _ _ _ _ _
theorem CL(a:Abs)(v:Val):AW (AX a) v=AW a v:=by
 unfold AW;cases hr:BC v
 ·rfl
 ·rw [Bool.true_and,Bool.true_and];by_cases h0:v.kind=0
  ·rw [if_pos h0,if_pos h0];rfl
  ·rw [if_neg h0,if_neg h0];obtain ⟨b1,b2,b3,b4,b5⟩:=Zb a;unfold Ha;rw [b1,b2,b3,b4,b5]
   rcases Dh hr with hk|hk|hk|hk|hk|hk
   ·omega
   ·rw [if_pos hk,if_pos hk];show (pT a&&Aj (if pT a=true then BW a.tx a.tx else H3A) v.s)=_;cases hp:pT a
    ·rw [Bool.false_and];unfold pT at hp;cases hb:bt a.kinds 1
     ·rfl
     ·rw [hb,Bool.true_and,Bool.not_eq_false'] at hp;rw [Bool.true_and,OK hp]
    ·rw [if_pos rfl,Bool.true_and];unfold pT at hp;rw [Bool.and_eq_true,Bool.not_eq_true'] at hp;rw [hp.1,Bool.true_and,Kc hp.2]
   ·rw [if_neg AA,if_pos hk,if_neg AA,if_pos hk];show (pN a&&BD (if pN a=true then Cc a.nu a.nu else IBA) v.dn v.ds)=_;cases hp:pN a
    ·rw [Bool.false_and];unfold pN at hp;cases hb:bt a.kinds 2
     ·rfl
     ·rw [hb,Bool.true_and,Bool.not_eq_false'] at hp;rw [Bool.true_and,Dw hp]
    ·rw [if_pos rfl,Bool.true_and];unfold pN at hp;rw [Bool.and_eq_true,Bool.not_eq_true'] at hp;rw [hp.1,Bool.true_and,AzA hp.2]
   ·rw [if_neg AA,if_neg AA,if_pos hk,if_neg AA,if_neg AA,if_pos hk];show (pD a&&decide ((if pD a=true then (Cy a).1 else 1)≤v.n∧v.n≤(if pD a=true then (Cy a).2 else 0)))=_;have hd:=BUA hr hk;have hm:=M2 (a.dl,a.dh) (0,3652058) v.n
    change inP (Cy a) v.n↔_ at hm
    unfold inP at hm;simp only at hm;cases hp:pD a
    ·rw [Bool.false_and];unfold pD at hp;cases hb:bt a.kinds 3
     ·rfl
     ·rw [hb,Bool.true_and,decide_eq_false_iff_not] at hp;rw [Bool.true_and,eq_comm,decide_eq_false_iff_not];omega
    ·rw [if_pos rfl,if_pos rfl,Bool.true_and];unfold pD at hp;rw [Bool.and_eq_true] at hp;rw [hp.1,Bool.true_and];rw [Bool.eq_iff_iff,decide_eq_true_eq,decide_eq_true_eq,hm];omega
   ·rw [if_neg AA,if_neg AA,if_neg AA,if_pos hk,if_neg AA,if_neg AA,if_neg AA,if_pos hk];show (pB a&&bt (if pB a=true then boI a else 0) v.n.toNat)=_;have hd:=Gx hr hk;have hn:v.n.toNat<2:=AA;cases hp:pB a
    ·rw [Bool.false_and];unfold pB at hp;cases hb:bt a.kinds 4
     ·rfl
     ·rw [hb,Bool.true_and,decide_eq_false_iff_not,ne_eq,Classical.not_not,CCA] at hp;rw [Bool.true_and]
      rcases hd with hd|hd<;>rw [hd]
      ·exact hp.1.symm
      ·exact hp.2.symm
    ·rw [if_pos rfl,Bool.true_and];unfold pB at hp;rw [Bool.and_eq_true] at hp;rw [hp.1,Bool.true_and,Wc,decide_eq_true hn,Bool.and_true]
   ·rw [if_neg AA,if_neg AA,if_neg AA,if_neg AA,if_neg AA,if_neg AA,if_neg AA,if_neg AA];obtain ⟨t1,t2,t3,t4,_⟩:=OC (N9 hr hk);have hm:=M2 (a.rl,a.rh) (0,100) v.rows.length
    change inP (DF a) v.rows.length↔_ at hm
    unfold inP at hm;simp only at hm;cases hp:pR a
    ·rw [Bool.false_and,eq_comm];unfold pR at hp;cases hb:bt a.kinds 5
     ·rfl
     ·rw [Bool.true_and];rw [hb,Bool.true_and] at hp;cases ht:ED a v
      ·rfl
      ·exfalso;unfold ED at ht;simp only [Bool.and_eq_true,decide_eq_true_eq,List.all_eq_true] at ht;obtain ⟨⟨⟨h1,h2⟩,h3⟩,_⟩:=ht;have hsub:∀ x∈ddp a.cols,x∈v.cols:=fun x hx=>(Ao _ _).1 (h3 x ((IT _ _).1 hx));have hlen:=J2 (KB a.cols) hsub;have hall:(ddp a.cols).all Ba=true:=by
        rw [List.all_eq_true];exact fun x hx=>t4 x (hsub x hx)
       rw [hall,Bool.and_true,decide_eq_true (by omega:(ddp a.cols).length≤8),Bool.and_true,decide_eq_false_iff_not] at hp;omega
    ·rw [Bool.true_and];have hp':=hp;unfold pR at hp;simp only [Bool.and_eq_true,decide_eq_true_eq] at hp;rw [hp.1.1.1,Bool.true_and];unfold ED AX;simp only [hp',if_true];rw [Bool.eq_iff_iff];simp only [Bool.and_eq_true,decide_eq_true_eq,List.all_eq_true];constructor
     ·rintro ⟨⟨⟨h1,h2⟩,h3⟩,h4⟩;have h5:=hm.1 ⟨h1,h2⟩;exact ⟨⟨⟨h5.1.1,h5.1.2⟩,fun x hx=>h3 x (Ek.2 ((IT _ _).2 hx))⟩,fun d hd=>h4 d ((IT _ _).2 hd)⟩
     ·rintro ⟨⟨⟨h1,h2⟩,h3⟩,h4⟩;have h5:=hm.2 ⟨⟨h1,h2⟩,AA,AA⟩;exact ⟨⟨⟨h5.1,h5.2⟩,fun x hx=>h3 x ((IT _ _).1 (Ek.1 hx))⟩,fun d hd=>h4 d ((IT _ _).1 hd)⟩

theorem Ei(A:OA)(c:Nat)(l:List BA)(v:BA)(w:World)(S:NP)(h:Strs w S A l) :
  Cl 111 #[.slice A l.length c,.string v] w (Bk w (Bt l v)):=by
 have hn:=h.2.1
 go_enter func111,ntmps111
 go_wp2
 go_loop [5] (fun i=>∃ k:Nat,k≤l.length∧i=.I k∧∀ j (h:j<l.length),j<k→l[j]≠v) (fun i=>l.length-(intOf i).toNat)
 case atStart=>exact ⟨0,AN,rfl,AK⟩
 case round =>
  obtain ⟨k,hk,rfl,hall⟩:=hrel;have HA:=Hd hall;clear hall;by_cases hlt:k<l.length
  ·obtain ⟨b1,o1,rfl,z1,c1⟩:=h.at_ hlt;by_cases hv:l[k]=v
   ·have ht:(l[k].toList==v.toList)=true:=(by rw [Bj];simp [hv]);exact Om
   ·have ht:(l[k].toList==v.toList)=false:=(by rw [Bj];simp [hv]);exact Kj
  ·exact Oy

theorem Rs(q:Nat)(cols:List BA)(rows:List (List Val))(A B:OA)(c e:Nat)(w:World)(S:NP)(_hcl:cols.length≤4294967296)(hB:Rows w S q B rows) :
  Cl 110 #[.slice A cols.length c,.slice B rows.length e] w (SameB w (EF cols rows)):=by
 have hn:=hB.len;have HB:=Hd hB;clear hB
 go_enter func110,ntmps110
 go_wp2
 go_loop [5] (fun i=>∃ k:Nat,k≤rows.length∧i=.I k∧∀ j (h:j<rows.length),j<k→rows[j].length=cols.length) (fun i=>rows.length-(intOf i).toNat)
 case atStart=>exact ⟨0,AN,rfl,AK⟩
 case round =>
  obtain ⟨k,hk,rfl,hall⟩:=hrel;have HA:=Hd hall;clear hall;by_cases hlt:k<rows.length
  ·obtain ⟨b1,o1,C1,e1,rfl,z1,c1,hce,hrow⟩:=HB.o.at_ hlt;have hrl:=hrow.len;clear hrow;by_cases hv:rows[k].length=cols.length
   ·have ht:(((rows[k].length:Nat):Int) != ((cols.length:Nat):Int))=false:=(by simp [hv]);exact Kj
   ·have ht:(((rows[k].length:Nat):Int) != ((cols.length:Nat):Int))=true:=AI;have HV:=Hd hv;clear hv;go_wp2;go_ret;refine ⟨?_,rfl⟩;have hr:EF cols rows=false:=CX _ _ k hlt (by simp [HV.o]);rw [hr];rfl
  ·go_wp2;go_ret;refine ⟨?_,rfl⟩;have hr:EF cols rows=true:=CH _ _ fun j hj=>by simp [HA.o j hj AA]
   rw [hr];rfl
end Go.Proofs.YtidacnalcdhckaaGreatDoor
