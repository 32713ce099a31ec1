/- The reference's Cell: one of four values of a kind, or the empty one. No conditions. -/
import Derived.Test.YthmckfloppblcaaGreatDoorBj14
set_option maxRecDepth 100000
set_option maxHeartbeats 2000000
namespace Go.Proofs.YthmckfloppblcaaGreatDoor
open Go Go.RowKit

def sRome:ByteArray:=⟨#[82,111,109,101]⟩
def sOslo2:ByteArray:=⟨#[79,115,108,111]⟩
def sBergen:ByteArray:=⟨#[66,101,114,103,101,110]⟩
def sIt:ByteArray:=⟨#[105,116]⟩
def dateV (n:Int):Val:=⟨3,⟨#[]⟩,0,0,n,[],[]⟩
def cellS (kind:Int) (n:Nat):Val :=
 if n=4 then Val.zero
 else if kind=2 then (if n=0 then numW 1 0 else if n=1 then numW (-25) 1 else if n=2 then numW 3 0 else numW 1000000000000000 0)
 else if kind=3 then dateV (738000+n)
 else textV (if n=0 then sRome else if n=1 then sOslo2 else if n=2 then sBergen else sIt)
theorem tmod5 (a:Int) (h:0≤a):a.tmod 5=a % 5:=Int.tmod_eq_emod_of_nonneg h
theorem cell_number_0 (n:Int) (w:World) (hme:(n.tmod 5+5) % 5=0)  : Calls Tryz.prog 14 #[.int .i64 2,.int .i64 n] w (RetV0 w (cellS 2 0)):=by
 obtain ⟨b1,b2⟩:=next_bd n 5 (by omega)
 go_enter Tryz.func14,Tryz.ntmps14
 go_wp2;refine bodyPost_ret (v:=.agg #[.int .i64 2,.string ⟨#[]⟩,.int .i64 (1),.int .i64 0,.int .i64 0,.slice none 0 0,.slice none 0 0]) (by simp [results,Tryz.results14,go_sem]) rfl ⟨by simp [cellS,numW],?_⟩;exact ((Ext.refl w).alloc _).alloc _
theorem cell_number_1 (n:Int) (w:World) (hme:(n.tmod 5+5) % 5=1)  : Calls Tryz.prog 14 #[.int .i64 2,.int .i64 n] w (RetV0 w (cellS 2 1)):=by
 obtain ⟨b1,b2⟩:=next_bd n 5 (by omega)
 go_enter Tryz.func14,Tryz.ntmps14
 go_wp2;refine bodyPost_ret (v:=.agg #[.int .i64 2,.string ⟨#[]⟩,.int .i64 (-25),.int .i64 1,.int .i64 0,.slice none 0 0,.slice none 0 0]) (by simp [results,Tryz.results14,go_sem]) rfl ⟨by simp [cellS,numW],?_⟩;exact ((Ext.refl w).alloc _).alloc _
theorem cell_number_2 (n:Int) (w:World) (hme:(n.tmod 5+5) % 5=2)  : Calls Tryz.prog 14 #[.int .i64 2,.int .i64 n] w (RetV0 w (cellS 2 2)):=by
 obtain ⟨b1,b2⟩:=next_bd n 5 (by omega)
 go_enter Tryz.func14,Tryz.ntmps14
 go_wp2;refine bodyPost_ret (v:=.agg #[.int .i64 2,.string ⟨#[]⟩,.int .i64 (3),.int .i64 0,.int .i64 0,.slice none 0 0,.slice none 0 0]) (by simp [results,Tryz.results14,go_sem]) rfl ⟨by simp [cellS,numW],?_⟩;exact ((Ext.refl w).alloc _).alloc _
theorem cell_number_3 (n:Int) (w:World) (hme:(n.tmod 5+5) % 5=3)  : Calls Tryz.prog 14 #[.int .i64 2,.int .i64 n] w (RetV0 w (cellS 2 3)):=by
 obtain ⟨b1,b2⟩:=next_bd n 5 (by omega)
 go_enter Tryz.func14,Tryz.ntmps14
 go_wp2;refine bodyPost_ret (v:=.agg #[.int .i64 2,.string ⟨#[]⟩,.int .i64 (1000000000000000),.int .i64 0,.int .i64 0,.slice none 0 0,.slice none 0 0]) (by simp [results,Tryz.results14,go_sem]) rfl ⟨by simp [cellS,numW],?_⟩;exact ((Ext.refl w).alloc _).alloc _
theorem cell_number (n:Int) (w:World) (m:Nat) (hm:m<4) (hme:(n.tmod 5+5) % 5=(m:Int))  : Calls Tryz.prog 14 #[.int .i64 2,.int .i64 n] w (RetV0 w (cellS 2 m)):=by
 match m,hm,hme with
 | 0,_,h=>exact cell_number_0 n w h
 | 1,_,h=>exact cell_number_1 n w h
 | 2,_,h=>exact cell_number_2 n w h
 | 3,_,h=>exact cell_number_3 n w h
theorem cell_date_0 (n:Int) (w:World) (hme:(n.tmod 5+5) % 5=0)  : Calls Tryz.prog 14 #[.int .i64 3,.int .i64 n] w (RetV0 w (cellS 3 0)):=by
 obtain ⟨b1,b2⟩:=next_bd n 5 (by omega)
 go_enter Tryz.func14,Tryz.ntmps14
 go_wp2;refine bodyPost_ret (v:=.agg #[.int .i64 3,.string ⟨#[]⟩,.int .i64 0,.int .i64 0,.int .i64 738000,.slice none 0 0,.slice none 0 0]) (by simp [results,Tryz.results14,go_sem]) rfl ⟨by simp [cellS,dateV],?_⟩;exact (Ext.refl w).alloc _
theorem cell_date_1 (n:Int) (w:World) (hme:(n.tmod 5+5) % 5=1)  : Calls Tryz.prog 14 #[.int .i64 3,.int .i64 n] w (RetV0 w (cellS 3 1)):=by
 obtain ⟨b1,b2⟩:=next_bd n 5 (by omega)
 go_enter Tryz.func14,Tryz.ntmps14
 go_wp2;refine bodyPost_ret (v:=.agg #[.int .i64 3,.string ⟨#[]⟩,.int .i64 0,.int .i64 0,.int .i64 738001,.slice none 0 0,.slice none 0 0]) (by simp [results,Tryz.results14,go_sem]) rfl ⟨by simp [cellS,dateV],?_⟩;exact (Ext.refl w).alloc _
theorem cell_date_2 (n:Int) (w:World) (hme:(n.tmod 5+5) % 5=2)  : Calls Tryz.prog 14 #[.int .i64 3,.int .i64 n] w (RetV0 w (cellS 3 2)):=by
 obtain ⟨b1,b2⟩:=next_bd n 5 (by omega)
 go_enter Tryz.func14,Tryz.ntmps14
 go_wp2;refine bodyPost_ret (v:=.agg #[.int .i64 3,.string ⟨#[]⟩,.int .i64 0,.int .i64 0,.int .i64 738002,.slice none 0 0,.slice none 0 0]) (by simp [results,Tryz.results14,go_sem]) rfl ⟨by simp [cellS,dateV],?_⟩;exact (Ext.refl w).alloc _
theorem cell_date_3 (n:Int) (w:World) (hme:(n.tmod 5+5) % 5=3)  : Calls Tryz.prog 14 #[.int .i64 3,.int .i64 n] w (RetV0 w (cellS 3 3)):=by
 obtain ⟨b1,b2⟩:=next_bd n 5 (by omega)
 go_enter Tryz.func14,Tryz.ntmps14
 go_wp2;refine bodyPost_ret (v:=.agg #[.int .i64 3,.string ⟨#[]⟩,.int .i64 0,.int .i64 0,.int .i64 738003,.slice none 0 0,.slice none 0 0]) (by simp [results,Tryz.results14,go_sem]) rfl ⟨by simp [cellS,dateV],?_⟩;exact (Ext.refl w).alloc _
theorem cell_date (n:Int) (w:World) (m:Nat) (hm:m<4) (hme:(n.tmod 5+5) % 5=(m:Int))  : Calls Tryz.prog 14 #[.int .i64 3,.int .i64 n] w (RetV0 w (cellS 3 m)):=by
 match m,hm,hme with
 | 0,_,h=>exact cell_date_0 n w h
 | 1,_,h=>exact cell_date_1 n w h
 | 2,_,h=>exact cell_date_2 n w h
 | 3,_,h=>exact cell_date_3 n w h
theorem cell_text_0 (kind:Int) (n:Int) (w:World) (hme:(n.tmod 5+5) % 5=0) (hk2:(kind==2)=false) (hk3:(kind==3)=false):Calls Tryz.prog 14 #[.int .i64 kind,.int .i64 n] w (RetV0 w (cellS kind 0)):=by
 obtain ⟨b1,b2⟩:=next_bd n 5 (by omega);have HK2:=Hd (show kind≠2 by simpa using hk2);have HK3:=Hd (show kind≠3 by simpa using hk3)
 go_enter Tryz.func14,Tryz.ntmps14
 go_wp2;refine bodyPost_ret (v:=.agg #[.int .i64 1,.string sRome,.int .i64 0,.int .i64 0,.int .i64 0,.slice none 0 0,.slice none 0 0]) (by simp [results,Tryz.results14,go_sem,sRome]) rfl ⟨by simp [cellS,textV,HK2.o,HK3.o],?_⟩;exact ((Ext.refl w).alloc _).alloc _
theorem cell_text_1 (kind:Int) (n:Int) (w:World) (hme:(n.tmod 5+5) % 5=1) (hk2:(kind==2)=false) (hk3:(kind==3)=false):Calls Tryz.prog 14 #[.int .i64 kind,.int .i64 n] w (RetV0 w (cellS kind 1)):=by
 obtain ⟨b1,b2⟩:=next_bd n 5 (by omega);have HK2:=Hd (show kind≠2 by simpa using hk2);have HK3:=Hd (show kind≠3 by simpa using hk3)
 go_enter Tryz.func14,Tryz.ntmps14
 go_wp2;refine bodyPost_ret (v:=.agg #[.int .i64 1,.string sOslo2,.int .i64 0,.int .i64 0,.int .i64 0,.slice none 0 0,.slice none 0 0]) (by simp [results,Tryz.results14,go_sem,sOslo2]) rfl ⟨by simp [cellS,textV,HK2.o,HK3.o],?_⟩;exact ((Ext.refl w).alloc _).alloc _
theorem cell_text_2 (kind:Int) (n:Int) (w:World) (hme:(n.tmod 5+5) % 5=2) (hk2:(kind==2)=false) (hk3:(kind==3)=false):Calls Tryz.prog 14 #[.int .i64 kind,.int .i64 n] w (RetV0 w (cellS kind 2)):=by
 obtain ⟨b1,b2⟩:=next_bd n 5 (by omega);have HK2:=Hd (show kind≠2 by simpa using hk2);have HK3:=Hd (show kind≠3 by simpa using hk3)
 go_enter Tryz.func14,Tryz.ntmps14
 go_wp2;refine bodyPost_ret (v:=.agg #[.int .i64 1,.string sBergen,.int .i64 0,.int .i64 0,.int .i64 0,.slice none 0 0,.slice none 0 0]) (by simp [results,Tryz.results14,go_sem,sBergen]) rfl ⟨by simp [cellS,textV,HK2.o,HK3.o],?_⟩;exact ((Ext.refl w).alloc _).alloc _
theorem cell_text_3 (kind:Int) (n:Int) (w:World) (hme:(n.tmod 5+5) % 5=3) (hk2:(kind==2)=false) (hk3:(kind==3)=false):Calls Tryz.prog 14 #[.int .i64 kind,.int .i64 n] w (RetV0 w (cellS kind 3)):=by
 obtain ⟨b1,b2⟩:=next_bd n 5 (by omega);have HK2:=Hd (show kind≠2 by simpa using hk2);have HK3:=Hd (show kind≠3 by simpa using hk3)
 go_enter Tryz.func14,Tryz.ntmps14
 go_wp2;refine bodyPost_ret (v:=.agg #[.int .i64 1,.string sIt,.int .i64 0,.int .i64 0,.int .i64 0,.slice none 0 0,.slice none 0 0]) (by simp [results,Tryz.results14,go_sem,sIt]) rfl ⟨by simp [cellS,textV,HK2.o,HK3.o],?_⟩;exact ((Ext.refl w).alloc _).alloc _
theorem cell_text (kind:Int) (n:Int) (w:World) (m:Nat) (hm:m<4) (hme:(n.tmod 5+5) % 5=(m:Int)) (hk2:(kind==2)=false) (hk3:(kind==3)=false):Calls Tryz.prog 14 #[.int .i64 kind,.int .i64 n] w (RetV0 w (cellS kind m)):=by
 match m,hm,hme with
 | 0,_,h=>exact cell_text_0 kind n w h hk2 hk3
 | 1,_,h=>exact cell_text_1 kind n w h hk2 hk3
 | 2,_,h=>exact cell_text_2 kind n w h hk2 hk3
 | 3,_,h=>exact cell_text_3 kind n w h hk2 hk3
theorem cell_none (kind n:Int) (w:World) (hme:(n.tmod 5+5) % 5=4):Calls Tryz.prog 14 #[.int .i64 kind,.int .i64 n] w (RetV0 w (cellS kind 4)):=by
 obtain ⟨b1,b2⟩:=next_bd n 5 (by omega)
 go_enter Tryz.func14,Tryz.ntmps14
 go_wp2;refine bodyPost_ret (v:=.agg #[.int .i64 0,.string ⟨#[]⟩,.int .i64 0,.int .i64 0,.int .i64 0,.slice none 0 0,.slice none 0 0]) (by simp [results,Tryz.results14,go_sem]) rfl ⟨by simp [cellS,Val.zero],?_⟩;exact (Ext.refl w).alloc _
theorem r09_Cell (kind n:Int) (w:World) (m:Nat) (hm:(n.tmod 5+5).tmod 5=(m:Int)):Calls Tryz.prog 14 #[.int .i64 kind,.int .i64 n] w (RetV0 w (cellS kind m)):=by
 obtain ⟨b1,b2⟩:=next_bd n 5 (by omega);have hm5:m<5:=(by have:=(next_r n 5 (by omega)).2; omega);rw [tmod5 _ (by omega)] at hm;by_cases h4:m=4
 ·subst h4;exact cell_none kind n w hm
 ·by_cases h2:kind=2
  ·subst h2; exact cell_number n w m (by omega) hm
  ·by_cases h3:kind=3
   ·subst h3; exact cell_date n w m (by omega) hm
   ·exact cell_text kind n w m (by omega) hm (by simpa using h2) (by simpa using h3)

def names4:List ByteArray:=[sCity,sZip,sCountry,sSince]
def names4A:Array Value:=#[.string sCity,.string sZip,.string sCountry,.string sSince]
theorem names4_at (k:Nat) (hk:k<4):∃ h:k<names4.length,names4A[k]?=some (.string names4[k])∧names4[k].size≤20:=by
 match k,hk with
 | 0,_=>exact ⟨by decide,rfl,by decide⟩
 | 1,_=>exact ⟨by decide,rfl,by decide⟩
 | 2,_=>exact ⟨by decide,rfl,by decide⟩
 | 3,_=>exact ⟨by decide,rfl,by decide⟩
 | n+4,h=>omega
structure M1 (w:World) (name:ByteArray) (A:Option Addr) (n c:Nat) (Ac:Option Addr) (cc:Nat) (cols:List ByteArray) (Ak:Option Addr) (ck:Nat) (ks:List Int) (wr:World):Prop where
 ext:Ext w wr
 gr:Blk wr w.heap.size 36 #[.string ⟨#[]⟩,.slice none 0 0,.slice none 0 0]
 num:∃ K,NumIs wr (w.heap.size+1) A n c K
 gt:Blk wr (w.heap.size+1+1) 36 #[.string name,.slice Ac cols.length cc,.slice none 0 0]
 ownC:OwnSs wr (w.heap.size+3) Ac cc cols
 ownK:OwnIs wr (w.heap.size+3) Ak ck ks
 sep:∀ b,ob Ac=some b→ob Ak≠some b
section
variable {w wr wr':World} {name:ByteArray} {A Ac Ak:Option Addr} {n c cc ck:Nat} {cols:List ByteArray} {ks:List Int}
theorem M1.more (h:M1 w name A n c Ac cc cols Ak ck ks wr) (hx:Ext wr wr'):M1 w name A n c Ac cc cols Ak ck ks wr':=by
 obtain ⟨K,hK⟩:=h.num;exact ⟨h.ext.trans hx,h.gr.keep (hx.kept _),⟨K,hK.keep (hx.kept _)⟩,h.gt.keep (hx.kept _),h.ownC.ext hx,h.ownK.ext hx,h.sep⟩
theorem M1.next (h:M1 w name A n c Ac cc cols Ak ck ks wr) (ho:Only (w.heap.size+1) wr wr') {K:Nat} (hK:NumIs wr' (w.heap.size+1) A n c K):M1 w name A n c Ac cc cols Ak ck ks wr' :=
 ⟨h.ext.only ho (by omega),h.gr.keep (ho.kept fun b _ e=>by omega),⟨K,hK⟩,h.gt.keep (ho.kept fun b _ e=>by omega),⟨ho.own h.ownC.1 (by omega),h.ownC.2⟩,ho.own (Own.lower h.ownK (Nat.le_refl _)) (by omega),h.sep⟩
structure M1A (w:World) (name:ByteArray) (A:Option Addr) (n c:Nat) (Ac:Option Addr) (cc:Nat) (cols:List ByteArray) (Ak:Option Addr) (ck:Nat) (ks:List Int) (wr:World):Prop where
 ext:Ext w wr
 gr:Blk wr w.heap.size 36 #[.string ⟨#[]⟩,.slice none 0 0,.slice none 0 0]
 num:∃ K,NumIs wr (w.heap.size+1) A n c K
 gt:∃ x,Blk wr (w.heap.size+1+1) 36 #[.string name,x,.slice none 0 0]
 ownC:OwnSs wr (w.heap.size+3) Ac cc cols
 ownK:OwnIs wr (w.heap.size+3) Ak ck ks
 sep:∀ b,ob Ac=some b→ob Ak≠some b
theorem M1.app {A4:Option Addr} {c4:Nat} {t:ByteArray} (h:M1 w name A n c Ac cc cols Ak ck ks wr) (hg:wr.grownBy wr' (ob Ac)) (ho:Own wr' (w.heap.size+3) 9 1 A4 (cols.length+1) c4 (cols.map Value.string++[.string t]))
  (hat:ob A4=ob Ac∨ob A4=some wr.heap.size) (ht:t.size≤4294967296):M1A w name A n c A4 c4 (cols++[t]) Ak ck ks wr':=by
 obtain ⟨K,hK⟩:=h.num;have hk:∀ g,g<w.heap.size+3→Kept (fun b=>b=g) wr wr':=fun g hg'=>Kept.of_grown hg fun b hb _ e=>by
  subst hb;have:=(h.ownC.1.blk e.symm).1;omega
 refine ⟨Ext.grown h.ext hg fun b hb=>by have:=(h.ownC.1.blk hb).1; omega,h.gr.keep (hk _ (by omega)),⟨K,hK.keep (hk _ (by omega))⟩,⟨_,h.gt.keep (hk _ (by omega))⟩,⟨?_,?_⟩,?_,?_⟩
 ·simpa using ho
 ·intro x hx
  rcases List.mem_append.1 hx with hx | hx
  ·exact h.ownC.2 x hx
  ·simp at hx; subst hx; exact ht
 ·exact Own.keep h.ownK (Kept.of_grown hg fun b hb _ e=>h.sep b e.symm hb)
 ·intro b hb hb'
  rcases hat with e | e
  ·rw [e] at hb; exact h.sep b hb hb'
  ·rw [e] at hb;have:=(Own.blk h.ownK hb').2;injection hb with hb;omega
theorem M1A.store (h:M1A w name A n c Ac cc cols Ak ck ks wr):M1 w name A n c Ac cc cols Ak ck ks (wr.setCell ⟨w.heap.size+1+1,1,none⟩ (.slice Ac cols.length cc)):=by
 obtain ⟨K,hK⟩:=h.num;obtain ⟨x,hx⟩:=h.gt;have ho:=(Only.refl (w.heap.size+1+1) wr).set 1 (.slice Ac cols.length cc);exact ⟨h.ext.only ho (by omega),h.gr.keep (ho.kept fun b _ e=>by omega),⟨K,hK.keep (ho.kept fun b _ e=>by omega)⟩,hx.set 1 _,⟨ho.own h.ownC.1 (by omega),h.ownC.2⟩,ho.own (Own.lower h.ownK (Nat.le_refl _)) (by omega),h.sep⟩
theorem M1.appK {A4:Option Addr} {c4:Nat} {x:Int} (h:M1 w name A n c Ac cc cols Ak ck ks wr) (hg:wr.grownBy wr' (ob Ak)) (ho:Own wr' (w.heap.size+3) 3 1 A4 (ks.length+1) c4 (ks.map (Value.int .i64)++[.int .i64 x]))
  (hat:ob A4=ob Ak∨ob A4=some wr.heap.size):M1 w name A n c Ac cc cols A4 c4 (ks++[x]) wr':=by
 obtain ⟨K,hK⟩:=h.num;have hk:∀ g,g<w.heap.size+3→Kept (fun b=>b=g) wr wr':=fun g hg'=>Kept.of_grown hg fun b hb _ e=>by
  subst hb;have:=(Own.blk h.ownK e.symm).1;omega
 refine ⟨Ext.grown h.ext hg fun b hb=>by have:=(Own.blk h.ownK hb).1; omega,h.gr.keep (hk _ (by omega)),⟨K,hK.keep (hk _ (by omega))⟩,h.gt.keep (hk _ (by omega)),⟨?_,h.ownC.2⟩,?_,?_⟩
 ·exact h.ownC.1.keep (Kept.of_grown hg fun b hb _ e=>h.sep b hb e.symm)
 ·unfold OwnIs
  simpa using ho
 ·intro b hb hb'
  rcases hat with e | e
  ·rw [e] at hb'; exact h.sep b hb hb'
  ·rw [e] at hb';have:=(h.ownC.1.blk hb).2;injection hb' with hb';omega
end
theorem IntsSet {w:World} {S:Nat→Prop} {b o:Nat} {l:List Int} (h:Ints w S (some ⟨b,o,none⟩) l) (i:Nat) (x:Int):Ints (w.setCell ⟨b,o+i,none⟩ (.int .i64 x)) S (some ⟨b,o,none⟩) (l.set i x):=by
 refine ⟨?_,by simpa using h.2⟩
 rcases h.1 with h0 | ⟨b',o',hA,hS,hlt,hc⟩
 ·rw [List.map_eq_nil_iff] at h0;subst h0;exact Or.inl rfl
 ·injection hA with hA;injection hA with hb ho;subst hb;subst ho;refine Or.inr ⟨b,o,rfl,hS,by simpa [World.setCell] using hlt,fun j u hj => ?_⟩;rw [List.getElem?_map,List.getElem?_set] at hj;by_cases hij:i=j
  ·subst hij;rw [if_pos rfl] at hj;by_cases hl:i<l.length
   ·rw [if_pos hl] at hj;simp at hj;subst hj;have:=hc i _ (by rw [List.getElem?_map,List.getElem?_eq_getElem hl]; rfl);exact World.cell?_setCell_same _ _ _ this
   ·rw [if_neg hl] at hj; simp at hj
  ·rw [if_neg hij] at hj;have:=hc j u (by rw [List.getElem?_map]; exact hj);rw [World.cell?_setCell_other _ _ _ _ (by intro e; injection e with _ e; omega)];exact this
def rowK (ks:List Int) (r:List Val):Prop:=r.length=ks.length∧∀ (j:Nat) (h:j<r.length) (h':j<ks.length),∃ m:Nat,m<5∧r[j]=cellS ks[j] m
def MadeT (name:ByteArray) (t:Look):Prop:=t.name=name∧∃ ks:List Int,1≤ks.length∧ks.length≤4∧t.cols=names4.take ks.length∧ks.head?=some 1∧(∀ x∈ks,x=1∨x=2∨x=3)∧t.rows.length≤6∧∀ r∈t.rows,rowK ks r
def RetMade (w:World) (name:ByteArray) (e:Ending) (w':World):Prop:=∃ t,MadeT name t∧RetL w t e w'
def StrsF (w:World) (S:Nat→Prop) (A:Option Addr) (l:List ByteArray):Prop:=Strs w S A l∧∀ g,ob A=some g→S g∧∃ cs,Blk w g 9 cs
theorem StrsF.keep {w w':World} {S:Nat→Prop} {A:Option Addr} {l:List ByteArray} (h:StrsF w S A l) (k:Kept S w w'):StrsF w' S A l :=
 ⟨h.1.keep k,fun g hg=>by
  obtain ⟨h1,cs,h2⟩:=h.2 g hg;exact ⟨h1,cs,h2.keep (k.mono fun b _ e=>by rw [e]; exact h1)⟩⟩
theorem StrsF.mono {w:World} {S T:Nat→Prop} {A:Option Addr} {l:List ByteArray} (h:StrsF w S A l) (k:∀ i,i<w.heap.size→S i→T i):StrsF w T A l :=
 ⟨h.1.mono k,fun g hg=>by
  obtain ⟨h1,cs,h2⟩:=h.2 g hg;exact ⟨k g h2.lt h1,cs,h2⟩⟩
theorem Own.blkS {w:World} {base e sz n c g:Nat} {A:Option Addr} {xs:List Value} (h:Own w base e sz A n c xs) (hA:ob A=some g):∃ cur,Blk w g e cur:=by
 rcases h.2 with ⟨hv,_⟩ | ⟨g',cap,cur,hv,hb,hh,_⟩
 ·injection hv with hv;subst hv;cases hA
 ·injection hv with hv;subst hv;injection hA with hA;subst hA;exact ⟨cur,hh⟩
def RetMadeF (w:World) (name:ByteArray) (e:Ending) (w':World):Prop:=∃ (t:Look) (H:Nat) (A:Option Addr) (c:Nat) (B:Option Addr) (e':Nat),MadeT name t∧e=.returned (.agg #[.string t.name,.slice A t.cols.length c,.slice B t.rows.length e'])∧(t.cols.length≤c∧t.rows.length≤e')∧w.heap.size≤H∧t.name.size≤4294967296∧StrsF w' (fun b=>w.heap.size≤b∧b<H) A t.cols∧Rows w' (fun b=>H≤b) 1 B t.rows∧Ext w w'
theorem RetMadeF.made {w w':World} {name:ByteArray} {e:Ending} (h:RetMadeF w name e w'):RetMade w name e w':=by
 obtain ⟨t,H,A,c,B,e',h1,h2,h3,h4,h5,h6,h7,h8⟩:=h;exact ⟨t,h1,A,c,B,e',h2,h3,⟨h5,h6.1.mono fun b _ hb=>hb.1,h7.mono fun b _ hb=>Nat.le_trans h4 hb⟩,h8⟩
structure M2 (w:World) (name:ByteArray) (A:Option Addr) (n c H:Nat) (Ac:Option Addr) (cc:Nat) (cols:List ByteArray) (Ak:Option Addr) (ks:List Int) (Ar:Option Addr) (cr:Nat) (rows:List (List Val)) (T:Nat) (wr:World):Prop where
 ext:Ext w wr
 gr:Blk wr w.heap.size 36 #[.string ⟨#[]⟩,.slice none 0 0,.slice none 0 0]
 num:∃ K,NumIs wr (w.heap.size+1) A n c K
 gt:Blk wr (w.heap.size+1+1) 36 #[.string name,.slice Ac cols.length cc,.slice Ar rows.length cr]
 capC:cols.length≤cc
 cols:StrsF wr (fun b=>w.heap.size+3≤b∧b<H) Ac cols
 ks:Ints wr (fun b=>w.heap.size+3≤b∧b<H) Ak ks
 low:w.heap.size+3≤H
 mid:H≤T
 high:T≤wr.heap.size
 own:OwnRs wr H (fun b=>H≤b∧b<T) 1 Ar cr rows
 top:∀ b,ob Ar=some b→b<T
section
variable {w wr wr':World} {name:ByteArray} {A Ac Ak Ar:Option Addr} {n c H T cc cr:Nat} {cols:List ByteArray} {ks:List Int} {rows:List (List Val)}
theorem M2.of (h:M2 w name A n c H Ac cc cols Ak ks Ar cr rows T wr) (hx:Below w.heap.size wr wr') (hk:Kept (fun b=>b<T∧b≠w.heap.size+1) wr wr') {K:Nat} (hK:NumIs wr' (w.heap.size+1) A n c K):M2 w name A n c H Ac cc cols Ak ks Ar cr rows T wr':=by
 have h1:=h.low;have h2:=h.mid;have h3:=h.high;refine ⟨Below.trans h.ext hx,h.gr.keep (hk.mono fun b hb e=>by omega),⟨K,hK⟩,h.gt.keep (hk.mono fun b hb e=>by omega),h.capC,h.cols.keep (hk.mono fun b hb e=>by omega),h.ks.keep (hk.mono fun b hb e=>by omega),h1,h2,Nat.le_trans h3 hx.size,h.own.keep (hk.mono fun b hb e => ?_),h.top⟩
 rcases e with e | e
 ·have:=h.top b e; have:=(h.own.blk e).1; omega
 ·omega
theorem M2.more (h:M2 w name A n c H Ac cc cols Ak ks Ar cr rows T wr) (hx:Ext wr wr'):M2 w name A n c H Ac cc cols Ak ks Ar cr rows T wr':=by
 obtain ⟨K,hK⟩:=h.num;exact h.of (hx.mono h.ext.size) (hx.kept _) (hK.keep (hx.kept _))
theorem M2.next (h:M2 w name A n c H Ac cc cols Ak ks Ar cr rows T wr) (ho:Only (w.heap.size+1) wr wr') {K:Nat} (hK:NumIs wr' (w.heap.size+1) A n c K):M2 w name A n c H Ac cc cols Ak ks Ar cr rows T wr' :=
 h.of (ho.below (by omega)) (ho.kept fun b _ hb=>hb.2) hK
theorem M2.grown (h:M2 w name A n c H Ac cc cols Ak ks Ar cr rows T wr) {row:Option Nat} (hg:wr.grownBy wr' row) (hr:∀ b,row=some b→T≤b):M2 w name A n c H Ac cc cols Ak ks Ar cr rows T wr':=by
 obtain ⟨K,hK⟩:=h.num;have h1:=h.low;have h2:=h.mid;have hk:Kept (fun b=>b<T) wr wr':=Kept.of_grown hg fun b hb _ e=>by have:=hr b e.symm; omega
 exact h.of (Below.grown (Below.refl _ _) hg h.ext.size fun b hb=>by have:=hr b hb; omega) (hk.mono fun b _ hb=>hb.1) (hK.keep (hk.mono fun b _ hb=>by omega))
theorem M1.start {g ck:Nat} (h:M1 w name A n c Ac cc cols (some ⟨g,0,none⟩) ck ks wr) (hl:ks.length≤100) (hcl:cols.length≤100):M2 w name A n c wr.heap.size Ac cc cols (some ⟨g,0,none⟩) (ks.set 0 1) none 0 [] wr.heap.size (wr.setCell ⟨g,0,none⟩ (.int .i64 1)):=by
 obtain ⟨K,hK⟩:=h.num;have hg:=Own.blk h.ownK (k:=g) rfl;have ho:=(Only.refl g wr).set 0 (.int .i64 1);have hc:StrsF wr (fun b=>w.heap.size+3≤b∧b<wr.heap.size∧ob Ac=some b) Ac cols:=⟨h.ownC.strs (by omega) fun b hb=>⟨(h.ownC.1.blk hb).1,(h.ownC.1.blk hb).2,hb⟩,fun b hb=>⟨⟨(h.ownC.1.blk hb).1,(h.ownC.1.blk hb).2,hb⟩,h.ownC.1.blkS hb⟩⟩;have hk:Ints wr (fun b=>w.heap.size+3≤b∧b<wr.heap.size) (some ⟨g,0,none⟩) ks:=OwnIs.ints h.ownK (by omega) fun b hb=>Own.blk h.ownK hb;refine ⟨h.ext.only ho (by omega),h.gr.keep (ho.kept fun b _ e=>by omega),⟨K,hK.keep (ho.kept fun b _ e=>by omega)⟩,h.gt.keep (ho.kept fun b _ e=>by omega),h.ownC.1.cap,(hc.keep (ho.kept fun b _ e => ?_)).mono fun b _ hb=>⟨hb.1,hb.2.1⟩,IntsSet hk 0 1,by have:=h.gt.lt; omega,Nat.le_refl _,by simp [World.setCell],OwnRs.nil _ _ _ _,fun b hb=>by cases hb⟩;rintro rfl;exact h.sep b e.2.2 rfl
theorem M2.push {row:List Val} {A' A4:Option Addr} {c' c4:Nat} {hs:List Value} {w4:World} (h:M2 w name A n c H Ac cc cols Ak ks Ar cr rows T wr) (ho:hs.length=rows.length)
  (hv:∀ (i:Nat) (r:List Val),rows[i]?=some r→∃ (B:Option Addr) (e:Nat),hs[i]?=some (Value.slice B r.length e)∧r.length≤e∧Row wr (fun b=>ob Ar≠some b∧(H≤b∧b<T)) 1 B r)
  (hown:Own wr H 50 1 Ar rows.length cr hs) (hown4:Own w4 H 50 1 A4 (rows.length+1) c4 (hs++[Value.slice A' row.length c'])) (hg:wr.grownBy w4 (ob Ar)) (hat:ob A4=ob Ar∨ob A4=some wr.heap.size)
  (hcap:row.length≤c') (hrow:Row wr (fun b=>T≤b) 1 A' row) :
  M2 w name A n c H Ac cc cols Ak ks A4 c4 (rows++[row]) w4.heap.size (w4.setCell ⟨w.heap.size+1+1,2,none⟩ (.slice A4 (rows++[row]).length c4)):=by
 obtain ⟨K,hK⟩:=h.num;have h1:=h.low;have h2:=h.mid;have h3:=h.high;have hsz:=hg.size;have hkg:Kept (fun b=>b<H) wr w4:=Kept.of_grown hg fun b hb _ e=>by have:=(hown.blk e.symm).1; omega
 have hx4:Ext w w4:=Ext.grown h.ext hg fun b hb=>by have:=(hown.blk hb).1; omega
 have hst:=(Only.refl (w.heap.size+1+1) w4).set 2 (.slice A4 (rows++[row]).length c4);have hmono:∀ b,b<wr.heap.size→(ob Ar≠some b∧H≤b∧b<T)→ob Ar≠some b∧(H≤b∧b<w4.heap.size):=fun b hb hh=>⟨hh.1,hh.2.1,by omega⟩;have hpush:OwnRs w4 H (fun b=>H≤b∧b<w4.heap.size) 1 A4 c4 (rows++[row]):=by
  refine OwnRs.push (w:=wr) ho (fun i r hr => ?_) hown4 hg hat hcap (hrow.mono fun b hb hh=>⟨fun e => ?_,?_,by omega⟩)
  ·obtain ⟨B,e,g1,g2,g3⟩:=hv i r hr;exact ⟨B,e,g1,g2,g3.mono hmono⟩
  ·have:=h.top b e; omega
  ·omega
 refine ⟨hx4.only hst (by omega),(h.gr.keep (hkg.mono fun b _ e=>by omega)).keep (hst.kept fun b _ e=>by omega),⟨K,(hK.keep (hkg.mono fun b _ e=>by omega)).keep (hst.kept fun b _ e=>by omega)⟩,(h.gt.keep (hkg.mono fun b _ e=>by omega)).set 2 _,h.capC,
  (h.cols.keep (hkg.mono fun b _ e=>by omega)).keep (hst.kept fun b _ e=>by omega),(h.ks.keep (hkg.mono fun b _ e=>by omega)).keep (hst.kept fun b _ e=>by omega),h1,by omega,by simp [World.setCell],hpush.keep (hst.kept fun b _ e => ?_),fun b hb=>(hpush.blk hb).2⟩
 rcases e with e | e
 ·have:=(hpush.blk e).1; omega
 ·omega
theorem M2.raise (h:M2 w name A n c H Ac cc cols Ak ks Ar cr rows T wr) {T':Nat} (h1:T≤T') (h2:T'≤wr.heap.size):M2 w name A n c H Ac cc cols Ak ks Ar cr rows T' wr :=
 ⟨h.ext,h.gr,h.num,h.gt,h.capC,h.cols,h.ks,h.low,Nat.le_trans h.mid h1,h2,h.own.mono fun b _ hb=>⟨hb.1,by omega⟩,fun b hb=>by have:=h.top b hb; omega⟩
end

def cInv (w:World) (name:ByteArray) (A:Option Addr) (n c:Nat) (Ac:Option Addr) (cc:Nat) (cols:List ByteArray) (Ak:Option Addr) (ck:Nat) (ks:List Int) (_t:ByteArray) (_k:Nat) (γ:Nat) (w':World):Prop:=γ≤4∧(γ≤2→M1 w name A n c Ac cc cols Ak ck ks w')
def gCol (w:World) (name:ByteArray) (A:Option Addr) (n c:Nat) (Ac:Option Addr) (cc:Nat) (cols:List ByteArray) (Ak:Option Addr) (ck:Nat) (ks:List Int) (t:ByteArray) (k:Nat):Nat→List Value→Nat→World→Prop
 | 0,[v],_,_=>v=.pointer (some ⟨w.heap.size+1+1,1,none⟩)
 | 1,[v],_,_=>v=.slice Ac cols.length cc
 | 2,[v],γ,w'=>∃ g:Nat,v=.slice (some ⟨g,0,none⟩) 4 4∧1≤γ∧(γ=1→Blk w' g 9 names4A)
 | 3,[v],_,_=>v=.int .i64 (k:Int)
 | 4,[v],γ,w'=>∃ g:Nat,v=.pointer (some ⟨g,k,none⟩)∧1≤γ∧(γ=1→Blk w' g 9 names4A)
 | 5,[v],γ,_=>v=.string t∧1≤γ
 | 6,[v],γ,w'=>∃ g:Nat,v=.slice (some ⟨g,0,none⟩) 1 1∧2≤γ∧(γ=2→Blk w' g 9 #[.string t])
 | 7,[v],γ,w'=>∃ (A4:Option Addr) (c4:Nat),v=.slice A4 (cols.length+1) c4∧3≤γ∧(γ=3→M1A w name A n c A4 c4 (cols++[t]) Ak ck ks w')
 | 8,[v],_,_=>v=.pointer (some ⟨w.heap.size+1+1,1,none⟩)
 | 9,[_],γ,w'=>4≤γ∧(γ=4→∃ (A4:Option Addr) (c4:Nat),M1 w name A n c A4 c4 (cols++[t]) Ak ck ks w')
 | _,_,_,_=>True
theorem gCol_st (w:World) (name:ByteArray) (A:Option Addr) (n c:Nat) (Ac:Option Addr) (cc:Nat) (cols:List ByteArray) (Ak:Option Addr) (ck:Nat) (ks:List Int) (t:ByteArray) (k:Nat):∀ i l γ v γ' v',SR (cInv w name A n c Ac cc cols Ak ck ks t k) γ v γ' v'→gCol w name A n c Ac cc cols Ak ck ks t k i l γ v→gCol w name A n c Ac cc cols Ak ck ks t k i l γ' v':=by
 intro i l γ v γ' v' r h;have hle:=r.le;unfold gCol at h ⊢;split at h
 all_goals first
  | exact h
  | (obtain ⟨h1,h2⟩:=h; exact ⟨h1,by omega⟩)
  | (obtain ⟨x,h1,h3,h4⟩:=h; exact ⟨x,h1,by omega,fun e=>by rw [r.eq (by omega)]; exact h4 (by omega)⟩)
  | (obtain ⟨x,y,h1,h3,h4⟩:=h; exact ⟨x,y,h1,by omega,fun e=>by rw [r.eq (by omega)]; exact h4 (by omega)⟩)
  | (obtain ⟨h3,h4⟩:=h; exact ⟨by omega,fun e=>by rw [r.eq (by omega)]; exact h4 (by omega)⟩)
def dCol:Nat→List Nat:=fun i=>[i]
def stCol:List Nat:=[100,3,1,100,100,2,2,3,100,4]
def rInv (w:World) (name:ByteArray) (A:Option Addr) (n c H:Nat) (Ac:Option Addr) (cc:Nat) (cols:List ByteArray) (b _ck:Nat) (ks:List Int) (Ar:Option Addr) (cr:Nat) (rows:List (List Val)) (T:Nat) (A':Option Addr) (c':Nat) (row:List Val) (_j:Nat) (_x:Int) (γ:Nat) (w':World):Prop:=γ≤4∧(γ≤3→M2 w name A n c H Ac cc cols (some ⟨b,0,none⟩) ks Ar cr rows T w'∧OwnVs w' T (fun b=>T≤b) 1 A' c' row)
def gRow (w:World) (name:ByteArray) (A:Option Addr) (n c H:Nat) (Ac:Option Addr) (cc:Nat) (cols:List ByteArray) (b ck:Nat) (ks:List Int) (Ar:Option Addr) (cr:Nat) (rows:List (List Val)) (T:Nat) (A':Option Addr) (c':Nat) (row:List Val) (j:Nat) (x:Int):Nat→List Value→Nat→World→Prop
 | 0,[v],_,_=>v=.slice A' row.length c'
 | 1,[v],_,_=>v=.slice (some ⟨b,0,none⟩) ks.length ck
 | 2,[v],_,_=>v=.int .i64 (j:Int)
 | 3,[v],_,_=>v=.pointer (some ⟨b,j,none⟩)
 | 4,[v],_,_=>v=.int .i64 x
 | 5,[v],_,_=>v=.pointer (some ⟨w.heap.size+1,0,none⟩)
 | 6,[v],γ,_=>∃ r:Nat,v=.int .i64 (r:Int)∧r<5∧1≤γ
 | 7,[v],γ,_=>∃ (m:Nat) (y:Val),y=cellS x m∧v=(.agg #[.int .i64 y.kind,.string y.s,.int .i64 y.dn,.int .i64 y.ds,.int .i64 y.n,.slice none y.cols.length 0,.slice none y.rows.length 0])∧m<5∧2≤γ
 | 8,[v],γ,w'=>∃ (m g:Nat),v=.slice (some ⟨g,0,none⟩) 1 1∧m<5∧3≤γ∧(γ=3→Blk w' g 31 (vcells (cellS x m) none 0 none 0).toArray)
 | 9,[v],γ,w'=>∃ (A4:Option Addr) (c4 m:Nat),v=.slice A4 (row.length+1) c4∧m<5∧4≤γ∧(γ=4→M2 w name A n c H Ac cc cols (some ⟨b,0,none⟩) ks Ar cr rows T w'∧OwnVs w' T (fun b=>T≤b) 1 A4 c4 (row++[cellS x m]))
 | 10,[v],γ,w'=>∃ (A4:Option Addr) (c4 m:Nat),v=.slice A4 (row.length+1) c4∧m<5∧4≤γ∧(γ=4→M2 w name A n c H Ac cc cols (some ⟨b,0,none⟩) ks Ar cr rows T w'∧OwnVs w' T (fun b=>T≤b) 1 A4 c4 (row++[cellS x m]))
 | _,_,_,_=>True
theorem gRow_st (w:World) (name:ByteArray) (A:Option Addr) (n c H:Nat) (Ac:Option Addr) (cc:Nat) (cols:List ByteArray) (b ck:Nat) (ks:List Int) (Ar:Option Addr) (cr:Nat) (rows:List (List Val)) (T:Nat) (A':Option Addr) (c':Nat) (row:List Val) (j:Nat) (x:Int):∀ i l γ v γ' v',SR (rInv w name A n c H Ac cc cols b ck ks Ar cr rows T A' c' row j x) γ v γ' v'→gRow w name A n c H Ac cc cols b ck ks Ar cr rows T A' c' row j x i l γ v→gRow w name A n c H Ac cc cols b ck ks Ar cr rows T A' c' row j x i l γ' v':=by
 intro i l γ v γ' v' r h;have hle:=r.le;unfold gRow at h ⊢;split at h
 all_goals first
  | exact h
  | (obtain ⟨x,h1,h2,h3⟩:=h; exact ⟨x,h1,h2,by omega⟩)
  | (obtain ⟨x,y,h1,h2,h3,h4⟩:=h; exact ⟨x,y,h1,h2,h3,by omega⟩)
  | (obtain ⟨x,y,h1,h2,h3,h4⟩:=h; exact ⟨x,y,h1,h2,by omega,fun e=>by rw [r.eq (by omega)]; exact h4 (by omega)⟩)
  | (obtain ⟨x,y,z,h1,h2,h3,h4⟩:=h; exact ⟨x,y,z,h1,h2,by omega,fun e=>by rw [r.eq (by omega)]; exact h4 (by omega)⟩)
def dRow:Nat→List Nat:=fun i=>[i]
def stRow:List Nat:=[100,100,100,100,2,100,1,2,3,4,100]
theorem cellS_flat (x:Int) (m:Nat):flatV (cellS x m):=by
 unfold cellS
 repeat' split
 all_goals first | exact ⟨rfl,rfl,Nat.zero_le _⟩ | exact ⟨rfl,rfl,by decide⟩
def kindsA:Array Value:=#[.int .i64 1,.int .i64 2,.int .i64 1,.int .i64 3]
theorem kinds_at (k:Nat) (hk:k<4):∃ x:Int,kindsA[k]?=some (.int .i64 x)∧(x=1∨x=2∨x=3):=by
 match k,hk with
 | 0,_=>exact ⟨1,rfl,by omega⟩
 | 1,_=>exact ⟨2,rfl,by omega⟩
 | 2,_=>exact ⟨1,rfl,by omega⟩
 | 3,_=>exact ⟨3,rfl,by omega⟩
 | n+4,h=>omega
theorem r09_MadeF (name:ByteArray) (l:List Int) (A:Option Addr) (c:Nat) (w:World) (S:Nat→Prop) (hl:IntsL w S A l) (hname:name.size≤4294967296) :
  Calls Tryz.prog 9 #[.string name,.slice A l.length c] w (RetMadeF w name):=by
 have HL:=Hd (hl.mono (T:=fun b=>b<w.heap.size) fun i hi _=>hi);clear hl
 go_enter Tryz.func9,Tryz.ntmps9
 go_wp2_with fail
 have hm0:M1 w name A l.length c none 0 [] none 0 [] (((w.alloc (.cells #[.string ⟨#[]⟩,.slice none 0 0,.slice none 0 0] 36)).alloc (.cells #[.slice A l.length c,.int .i64 0] 70)).alloc (.cells #[.string name,.slice none 0 0,.slice none 0 0] 36)) :=
  ⟨(((Ext.refl w).alloc _).alloc _).alloc _,((Blk.new w 36 #[.string ⟨#[]⟩,.slice none 0 0,.slice none 0 0]).keep (Kept.alloc _ _ _)).keep (Kept.alloc _ _ _),⟨0,(blkAt _ _ _ (by simp)).keep (Kept.alloc _ _ _),Nat.zero_le _⟩,blkAt _ _ _ (by simp),OwnSs.nil _ _,OwnIs.nil _ _,fun b hb=>by cases hb⟩
 have HM0:=Hd hm0;clear hm0;obtain ⟨K0,hK0⟩:=HM0.o.num;refine (Num_Next 4 (w.heap.size+1) A l c K0 _ (fun b=>b<w.heap.size) (by omega) (by omega) hK0 (HL.o.keep (HM0.o.ext.kept _)) (by omega)).mono ?_;rintro e1 w1 ⟨r,K1,rfl,hr0,hr4,hK1,ho1⟩;obtain ⟨r,rfl⟩:∃ n:Nat,r=(n:Int):=⟨r.toNat,by omega⟩;have HM1:=Hd (HM0.o.next ho1 hK1);clear hK0 hK1 ho1 HM0;go_wp2
 go_loopw [9,8] (fun i v wr=>∃ (k:Nat) (Ac:Option Addr) (cc:Nat) (Ak:Option Addr) (ck:Nat) (ks:List Int),k≤1+r∧i=.int .i64 k∧ks.length=k∧v=.slice Ak k ck∧(∀ x∈ks,x=1∨x=2∨x=3)∧M1 w name A l.length c Ac cc (names4.take k) Ak ck ks wr) (fun i _ _=>1+r-(intOf i).toNat)
 case atStart=>exact ⟨0,none,0,none,0,[],Nat.zero_le _,rfl,rfl,rfl,by simp,HM1.o⟩
 case round =>
  clear HM1;obtain ⟨k,Ac,cc,Ak,ck,ks,hk,rfl,hkl,rfl,hks,hm⟩:=hrel;obtain ⟨cols,hcols⟩:∃ cols,cols=names4.take k:=⟨_,rfl⟩;rw [← hcols] at hm;have HM:=Hd hm;have HKL:=Hd hkl;have HKS:=Hd hks;have HCO:=Hd hcols;clear hm hkl hks hcols;by_cases hlt:k<1+r
  ·obtain ⟨hk4,ht,htz⟩:=names4_at k (by omega);obtain ⟨t,htt⟩:∃ t,t=names4[k]:=⟨_,rfl⟩;rw [← htt] at ht htz;have HT:=Hd ht;have HTZ:=Hd htz;have HTT:=Hd htt;have HCL:=Hd (show cols.length=k by rw [HCO.o,List.length_take]; have:names4.length=4:=rfl; omega);clear ht htz htt
   go_upto_region 8 with fail
   refine wp_region_lin_lit (by kernel_rfl) dCol (by kernel_rfl) (SR (cInv w name A l.length c Ac cc cols Ak ck ks t k)) (SR.refl _) (SR.trans _) (SN stCol) (gCol w name A l.length c Ac cc cols Ak ck ks t k) (gCol_st _ _ _ _ _ _ _ _ _ _ _ _ _) 0 (SN.zero (by decide)) ⟨?_,?_,?_,?_,?_,?_,?_,?_,?_,?_,trivial⟩ ?_
   ·refine LinStep.yes fun vals γ w' ρ hR hN hp hρ hc hf hg=>⟨rfl,?_⟩;have hi:=hR.inv ⟨by omega,fun _=>HM.o.more (Ext.refl _).drew⟩;have e6:ρ (.tmp 6)=.pointer (some ⟨w.heap.size+1+1,0,none⟩):=hρ 6;clear hR hN hp hρ hi;go_light;go_simp;exact ⟨γ,SR.refl _ _ _,fun _ _ _ h=>h,rfl⟩
   ·refine LinStep.yes fun vals γ w' ρ hR hN hp hρ hc hf hg=>⟨rfl,?_⟩;have hi:=hR.inv ⟨by omega,fun _=>HM.o.more (Ext.refl _).drew⟩;have e27:ρ (.tmp 27)=_:=(hρ 27).trans (hp 0 (by decide));have hb:=(hi.2 (by have h:γ<3:=hN; omega)).gt;have k1:=hb.cell (i:=1) rfl;clear hR hN hp hρ hi hb;go_light;go_simp;exact ⟨γ,SR.refl _ _ _,fun _ _ _ h=>h,rfl⟩
   ·refine LinStep.yes fun vals γ w' ρ hR hN hp hρ hc hf hg=>⟨rfl,?_⟩;have hi:=hR.inv ⟨by omega,fun _=>HM.o.more (Ext.refl _).drew⟩;have h0:γ=0:=(by have h:γ<1:=hN; omega);subst h0;have HI:=Hd (hi.2 (by omega));clear hR hN hp hρ hi;go_light;go_simp;exact ⟨1,SR.up (by omega) ⟨by omega,fun _=>HI.o.more ((Ext.refl _).alloc _)⟩,SN.up (by omega) (by decide) rfl,_,rfl,by omega,fun _=>Blk.new _ _ _⟩
   ·refine LinStep.yes fun vals γ w' ρ hR hN hp hρ hc hf hg=>⟨rfl,?_⟩;have hi:=hR.inv ⟨by omega,fun _=>HM.o.more (Ext.refl _).drew⟩;have e9:ρ (.tmp 9)=.int .i64 (k:Int):=hρ 9;clear hR hN hp hρ hi;go_light;go_simp;exact ⟨γ,SR.refl _ _ _,fun _ _ _ h=>h,rfl⟩
   ·refine LinStep.yes fun vals γ w' ρ hR hN hp hρ hc hf hg=>⟨rfl,?_⟩;have hi:=hR.inv ⟨by omega,fun _=>HM.o.more (Ext.refl _).drew⟩;obtain ⟨g,g2,hr1,hbk⟩:=hp 2 (by decide);have e29:ρ (.tmp 29)=_:=(hρ 29).trans g2;have e30:ρ (.tmp 30)=_:=(hρ 30).trans (hp 3 (by decide));have i0:(0:Int)≤(k:Int):=(by omega);have i1:(k:Int)<4:=(by omega);have HBK:=Hd hbk;clear hR hN hp hρ hi g2 hbk;go_light;go_simp;exact ⟨γ,SR.refl _ _ _,fun _ _ _ h=>h,g,rfl,hr1,HBK.o⟩
   ·refine LinStep.yes fun vals γ w' ρ hR hN hp hρ hc hf hg=>⟨rfl,?_⟩;have hi:=hR.inv ⟨by omega,fun _=>HM.o.more (Ext.refl _).drew⟩;obtain ⟨g,g4,hr1,hbk⟩:=hp 4 (by decide);have e31:ρ (.tmp 31)=_:=(hρ 31).trans g4;have q:=(hbk (by have h:γ<2:=hN; omega)).cell HT.o;clear hR hN hp hρ hi g4 hbk;go_light;go_simp;exact ⟨γ,SR.refl _ _ _,fun _ _ _ h=>h,rfl,hr1⟩
   ·refine LinStep.yes fun vals γ w' ρ hR hN hp hρ hc hf hg=>⟨rfl,?_⟩;have hi:=hR.inv ⟨by omega,fun _=>HM.o.more (Ext.refl _).drew⟩;obtain ⟨g5,hr1⟩:=hp 5 (by decide);have h0:γ=1:=(by have h:γ<2:=hN; omega);subst h0;have e32:ρ (.tmp 32)=_:=(hρ 32).trans g5;have HI:=Hd (hi.2 (by omega));clear hR hN hp hρ hi g5;go_light;go_simp;exact ⟨2,SR.up (by omega) ⟨by omega,fun _=>HI.o.more ((Ext.refl _).alloc _)⟩,SN.up (by omega) (by decide) rfl,_,rfl,by omega,fun _=>Blk.new _ _ _⟩
   ·refine LinStep.yes fun vals γ w' ρ hR hN hp hρ hc hf hg=>⟨rfl,?_⟩;have hi:=hR.inv ⟨by omega,fun _=>HM.o.more (Ext.refl _).drew⟩;obtain ⟨g,g6,hr1,hbk⟩:=hp 6 (by decide);have h0:γ=2:=(by have h:γ<3:=hN; omega);subst h0;have e28:ρ (.tmp 28)=_:=(hρ 28).trans (hp 1 (by decide));have e33:ρ (.tmp 33)=_:=(hρ 33).trans g6;have hd:=hi.2 (by omega);refine lin_app (.tmp 28) (.tmp 33) rfl tiS e28 hd.ownC.1 e33 (hbk rfl).rd rfl (by simp [Value.oneCell']) (by have:=HCL.o; omega) (by decide) (by have h1:=hd.gt.lt; omega) ?_;intro A4 c4 w4 hown4 hg4 hat4;exact ⟨3,SR.up (by omega) ⟨by omega,fun h=>absurd h (by omega)⟩,SN.up (by omega) (by decide) rfl,A4,c4,rfl,by omega,fun _=>hd.app hg4 hown4 hat4 (by have:=HTZ.o; omega)⟩
   ·refine LinStep.yes fun vals γ w' ρ hR hN hp hρ hc hf hg=>⟨rfl,?_⟩;have hi:=hR.inv ⟨by omega,fun _=>HM.o.more (Ext.refl _).drew⟩;have e6:ρ (.tmp 6)=.pointer (some ⟨w.heap.size+1+1,0,none⟩):=hρ 6;clear hR hN hp hρ hi;go_light;go_simp;exact ⟨γ,SR.refl _ _ _,fun _ _ _ h=>h,rfl⟩
   ·refine LinStep.yes fun vals γ w' ρ hR hN hp hρ hc hf hg=>⟨rfl,?_⟩;have hi:=hR.inv ⟨by omega,fun _=>HM.o.more (Ext.refl _).drew⟩;obtain ⟨A4,c4,g7,hr3,hda⟩:=hp 7 (by decide);have h0:γ=3:=(by have h:γ<4:=hN; omega);subst h0;have e34:ρ (.tmp 34)=_:=(hρ 34).trans g7;have e35:ρ (.tmp 35)=_:=(hρ 35).trans (hp 8 (by decide));have HA:=Hd (hda rfl);obtain ⟨x,hx⟩:=(hda rfl).gt;have k0:=hx.cell (i:=1) rfl;have kf:=hx.frozen;have kz:=hx.lt;clear hR hN hp hρ hi g7 hda hx;go_light;go_simp;refine ⟨4,SR.up (by omega) ⟨by omega,fun h=>absurd h (by omega)⟩,SN.up (by omega) (by decide) rfl,by omega,fun _=>⟨A4,c4,?_⟩⟩;have:=HA.o.store
    simpa using this
   ·intro vals γ w' hR hG;have hi:=hR.inv ⟨by omega,fun _=>HM.o.more (Ext.refl _).drew⟩;obtain ⟨h4,h5⟩:=hG 9 (by decide);obtain ⟨A4,c4,hm1⟩:=h5 (by have:=hi.1; omega);have HM1:=Hd hm1;clear hR hG hi h4 h5 hm1;simp only [lexFrame,Act.put,List.setIfInBounds_toArray,List.set_cons_succ,List.set_cons_zero,Nat.zero_add,Nat.reduceAdd];generalize vals 0=u0,vals 1=u1,vals 2=u2,vals 3=u3,vals 4=u4,vals 5=u5,vals 6=u6,vals 7=u7,vals 8=u8,vals 9=u9
    go_wp2_with fail
    have HM2:=Hd (HM1.o.more ((Ext.refl _).alloc (.cells kindsA 3)));obtain ⟨K2,hK2⟩:=HM2.o.num;refine (Num_Next 2 (w.heap.size+1) A l c K2 _ (fun b=>b<w.heap.size) (by omega) (by omega) hK2 (HL.o.keep (HM2.o.ext.kept _)) (by omega)).mono ?_;rintro e3 w3 ⟨r3,K3,rfl,hr30,hr32,hK3,ho3⟩;obtain ⟨r3,rfl⟩:∃ n:Nat,r3=(n:Int):=⟨r3.toNat,by omega⟩;have HM3:=Hd (HM2.o.next ho3 hK3);obtain ⟨x,hx,hx3⟩:=kinds_at ((k+r3*2) % 4) (by omega);have hbk:Blk w3 w'.heap.size 3 kindsA:=(Blk.new w' 3 kindsA).keep (ho3.kept fun b _ e=>by have:=HM1.o.gt.lt; omega);have q:=hbk.cell hx;have hmd:((k:Int)+(r3:Int)*2) % 4=(((k+r3*2) % 4:Nat):Int):=(by omega);obtain ⟨m,hmm⟩:∃ m,m=(k+r3*2) % 4:=⟨_,rfl⟩;rw [← hmm] at q hmd;have hm4:m<4:=(by omega);have HX3:=Hd hx3;have hok:=Own.ext HM3.o.ownK ((Ext.refl w3).alloc (.cells #[.int .i64 x] 3));rw [HKL.o] at hok;have HOK:=Hd hok;have hsz3:w.heap.size+3≤w3.heap.size:=(by have:=HM3.o.gt.lt; omega);clear hK2 hK3 ho3 hbk hx hx3 hmm hok HM HM1 HM2
    go_wp2_with (at_builtin; go_must (refine wpList_app rfl (.tmp 36) (.tmp 46) rfl tiI rfl HOK.o rfl (Blk.rd (Blk.new _ _ _)) rfl (by simp [Value.oneCell']) (by omega) (by decide) (by simp; omega) ?_); intro A5 c5 w5 hown5 hg5 hat5)
    go_roundw
    case rel =>
     refine ⟨k+1,A4,c4,A5,c5,ks++[x],by omega,by go_num,by simp [HKL.o],rfl,?_,?_⟩
     ·intro y hy
      rcases List.mem_append.1 hy with hy | hy
      ·exact HKS.o y hy
      ·simp at hy; subst hy; exact HX3.o
     ·have h1:=(HM3.o.more ((Ext.refl w3).alloc (.cells #[.int .i64 x] 3))).appK hg5 (by rw [HKL.o]; exact hown5) hat5;rw [List.take_succ_eq_append_getElem hk4,← HCO.o,← HTT.o];exact h1
    case measure=>simp [intOf]; omega
  ·obtain rfl:k=1+r:=by omega
   have h1:=HM.o.ownK;have hkl:=HKL.o
   rcases h1.2 with ⟨hv,hn⟩ | ⟨g,cap,cur,hv,hb,hh,hnc,hcm,hcs,ht⟩
   ·exact absurd hn (by omega)
   ·obtain ⟨rfl,rfl⟩:Ak=some ⟨g,0,none⟩∧ck=cap:=by injection hv with h1 _ h2; exact ⟨h1,h2⟩
    have hbk:Blk wr g 3 cur:=hh;obtain ⟨b,o,hA,-,-,hc⟩:=(Own.rd h1).some_ (by intro e; rw [List.map_eq_nil_iff] at e; rw [e] at hkl; simp at hkl; omega);obtain ⟨rfl,rfl⟩:b=g∧o=0:=by injection hA with hA; injection hA with h1 h2; exact ⟨h1.symm,h2.symm⟩
    obtain ⟨x0,q0⟩:∃ x0,wr.cell? ⟨b,0,none⟩=some x0:=⟨_,hc 0 (.int .i64 (ks[0]'(by omega))) (by simp)⟩;have qf:=hbk.frozen;have qz:=hbk.lt;have HS:=Hd (HM.o.start (by omega) (by rw [HCO.o,List.length_take]; omega));clear h1 hkl hv hb hh hnc hcm hcs ht hbk hA hc
    go_wp2_with fail
    obtain ⟨K2,hK2⟩:=HS.o.num;refine (Num_Next 7 (w.heap.size+1) A l c K2 _ (fun b=>b<w.heap.size) (by omega) (by omega) hK2 (HL.o.keep (HS.o.ext.kept _)) (by omega)).mono ?_;rintro e3 w3 ⟨R,K3,rfl,hR0,hR7,hK3,ho3⟩;obtain ⟨R,rfl⟩:∃ n:Nat,R=(n:Int):=⟨R.toNat,by omega⟩;have HM3:=Hd (HS.o.next ho3 hK3);obtain ⟨ks2,hks2⟩:∃ ks2,ks2=ks.set 0 1:=⟨_,rfl⟩;rw [← hks2] at HM3;have HK2:=Hd hks2;have HKL2:=Hd (show ks2.length=1+r by rw [hks2,List.length_set]; exact HKL.o);obtain ⟨H,hH⟩:∃ H,H=wr.heap.size:=⟨_,rfl⟩;rw [← hH] at HM3;clear hK2 hK3 ho3 HS hks2 hH;go_wp2
    go_loopw [11] (fun i wr=>∃ (k:Nat) (Ar:Option Addr) (cr:Nat) (rows:List (List Val)) (T:Nat),k≤R∧i=.int .i64 k∧rows.length=k∧(∀ x∈rows,rowK ks2 x)∧M2 w name A l.length c H Ac cc cols (some ⟨b,0,none⟩) ks2 Ar cr rows T wr) (fun i _=>R-(intOf i).toNat)
    case atStart=>exact ⟨0,none,0,[],H,Nat.zero_le _,rfl,rfl,by simp,HM3.o⟩
    case round =>
     clear HM3;obtain ⟨k,Ar,cr,rows,T,hk,rfl,hrl,hrk,hm⟩:=hrel;have HM:=Hd hm;have HRL:=Hd hrl;have HRK:=Hd hrk;clear hm hrl hrk;by_cases hlt:k<R
     ·go_wp2;obtain ⟨wo,rfl⟩:∃ wo:World,wo=wr:=⟨_,rfl⟩;have HMO:=Hd (HM.o.raise HM.o.high (Nat.le_refl _));clear HM
      go_loopw [13,12] (fun i v wi=>∃ (j:Nat) (A':Option Addr) (c':Nat) (row:List Val),j≤1+r∧i=.int .i64 j∧row.length=j∧v=.slice A' j c'∧(∀ (q:Nat) (h:q<row.length) (h':q<ks2.length),∃ m:Nat,m<5∧row[q]=cellS ks2[q] m)∧M2 w name A l.length c H Ac cc cols (some ⟨b,0,none⟩) ks2 Ar cr rows wo.heap.size wi∧OwnVs wi wo.heap.size (fun b=>wo.heap.size≤b) 1 A' c' row) (fun i _ _=>1+r-(intOf i).toNat)
      case atStart=>exact ⟨0,none,0,[],Nat.zero_le _,rfl,rfl,rfl,fun q h=>absurd h (by simp),HMO.o,OwnVs.nil _ _ _ _⟩
      case round =>
       clear HMO;obtain ⟨j,A',c',row,hj,rfl,hrl,rfl,hrk,hm2,hov⟩:=hrel;have HM2:=Hd hm2;have HROW:=Hd hrl;have HRK2:=Hd hrk;have HOV:=Hd hov;clear hm2 hrl hrk hov;by_cases hltj:j<1+r
       ·have hjk:j<ks2.length:=(by have:=HKL2.o; omega);obtain ⟨x,hx⟩:∃ x,x=ks2[j]:=⟨_,rfl⟩;have HX:=Hd hx;obtain ⟨T0,hT0⟩:∃ T0,T0=wo.heap.size:=⟨_,rfl⟩;rw [← hT0] at HM2 HOV;have HT0:=Hd hT0;clear hx hT0
        go_upto_region 19 with fail
        refine wp_region_lin_lit (by kernel_rfl) dRow (by kernel_rfl) (SR (rInv w name A l.length c H Ac cc cols b ck ks2 Ar cr rows T0 A' c' row j x)) (SR.refl _) (SR.trans _) (SN stRow) (gRow w name A l.length c H Ac cc cols b ck ks2 Ar cr rows T0 A' c' row j x) (gRow_st _ _ _ _ _ _ _ _ _ _ _ _ _ _ _ _ _ _ _ _ _) 0 (SN.zero (by decide)) ⟨?_,?_,?_,?_,?_,?_,?_,?_,?_,?_,?_,trivial⟩ ?_
        ·refine LinStep.yes fun vals γ w' ρ hR hN hp hρ hc hf hg=>⟨rfl,?_⟩;have hi:=hR.inv ⟨by omega,fun _=>⟨HM2.o.more (Ext.refl _).drew,HOV.o.ext (Ext.refl _).drew⟩⟩;have e12:ρ (.tmp 12)=.slice A' row.length c':=(by rw [HROW.o]; exact hρ 12);clear hR hN hp hρ hi;go_light;go_simp;exact ⟨γ,SR.refl _ _ _,fun _ _ _ h=>h,rfl⟩
        ·refine LinStep.yes fun vals γ w' ρ hR hN hp hρ hc hf hg=>⟨rfl,?_⟩;have hi:=hR.inv ⟨by omega,fun _=>⟨HM2.o.more (Ext.refl _).drew,HOV.o.ext (Ext.refl _).drew⟩⟩;have e8:ρ (.tmp 8)=.slice (some ⟨b,0,none⟩) ks2.length ck:=(by rw [HKL2.o]; exact hρ 8);clear hR hN hp hρ hi;go_light;go_simp;exact ⟨γ,SR.refl _ _ _,fun _ _ _ h=>h,rfl⟩
        ·refine LinStep.yes fun vals γ w' ρ hR hN hp hρ hc hf hg=>⟨rfl,?_⟩;have hi:=hR.inv ⟨by omega,fun _=>⟨HM2.o.more (Ext.refl _).drew,HOV.o.ext (Ext.refl _).drew⟩⟩;have e13:ρ (.tmp 13)=.int .i64 (j:Int):=hρ 13;clear hR hN hp hρ hi;go_light;go_simp;exact ⟨γ,SR.refl _ _ _,fun _ _ _ h=>h,rfl⟩
        ·refine LinStep.yes fun vals γ w' ρ hR hN hp hρ hc hf hg=>⟨rfl,?_⟩;have hi:=hR.inv ⟨by omega,fun _=>⟨HM2.o.more (Ext.refl _).drew,HOV.o.ext (Ext.refl _).drew⟩⟩;have e63:ρ (.tmp 63)=_:=(hρ 63).trans (hp 1 (by decide));have e64:ρ (.tmp 64)=_:=(hρ 64).trans (hp 2 (by decide));have i0:(0:Int)≤(j:Int):=(by omega);have i1:(j:Int)<(ks2.length:Int):=(by omega);clear hR hN hp hρ hi;go_light;go_simp;exact ⟨γ,SR.refl _ _ _,fun _ _ _ h=>h,by simp [gRow,dRow,setV]⟩
        ·refine LinStep.yes fun vals γ w' ρ hR hN hp hρ hc hf hg=>⟨rfl,?_⟩;have hi:=hR.inv ⟨by omega,fun _=>⟨HM2.o.more (Ext.refl _).drew,HOV.o.ext (Ext.refl _).drew⟩⟩;have e65:ρ (.tmp 65)=_:=(hρ 65).trans (hp 3 (by decide));obtain ⟨b',o',hA,-,q⟩:=(hi.2 (by have h:γ<2:=hN; omega)).1.ks.at_ hjk;obtain ⟨rfl,rfl⟩:b'=b∧o'=0:=by injection hA with hA; injection hA with h1 h2; exact ⟨h1.symm,h2.symm⟩
         rw [Nat.zero_add,← HX.o] at q;clear hR hN hp hρ hi hA;go_light;go_simp;exact ⟨γ,SR.refl _ _ _,fun _ _ _ h=>h,rfl⟩
        ·refine LinStep.yes fun vals γ w' ρ hR hN hp hρ hc hf hg=>⟨rfl,?_⟩;have hi:=hR.inv ⟨by omega,fun _=>⟨HM2.o.more (Ext.refl _).drew,HOV.o.ext (Ext.refl _).drew⟩⟩;have e5:ρ (.tmp 5)=.pointer (some ⟨w.heap.size+1,0,none⟩):=hρ 5;clear hR hN hp hρ hi;go_light;go_simp;exact ⟨γ,SR.refl _ _ _,fun _ _ _ h=>h,rfl⟩
        ·refine LinStep.yes fun vals γ w' ρ hR hN hp hρ hc hf hg=>⟨rfl,?_⟩;have hi:=hR.inv ⟨by omega,fun _=>⟨HM2.o.more (Ext.refl _).drew,HOV.o.ext (Ext.refl _).drew⟩⟩;have h0:γ=0:=(by have h:γ<1:=hN; omega);subst h0;have e67:ρ (.tmp 67)=_:=(hρ 67).trans (hp 5 (by decide));have HI:=Hd (hi.2 (by omega));clear hR hN hp hρ hi;go_light;go_simp;obtain ⟨K1,hK1⟩:=HI.o.1.num;refine (Num_Next 5 (w.heap.size+1) A l c K1 _ (fun b=>b<w.heap.size) (by omega) (by omega) hK1 (HL.o.keep (HI.o.1.ext.kept _)) (by omega)).mono ?_;rintro e2 w2 ⟨r5,K2,rfl,hm0,hm4,hK2,ho2⟩;obtain ⟨r5,rfl⟩:∃ n:Nat,r5=(n:Int):=⟨r5.toNat,by omega⟩;have hlow:=HI.o.1.low;have hmid:=HI.o.1.mid;exact ⟨_,rfl,1,SR.up (by omega) ⟨by omega,fun _=>⟨HI.o.1.next ho2 hK2,HI.o.2.keep (ho2.kept fun b _ hb=>hb.elim (fun hb=>by have:=(HI.o.2.blk hb).1; omega) (fun hb=>by omega))⟩⟩,SN.up (by omega) (by decide) rfl,r5,rfl,by omega,by omega⟩
        ·refine LinStep.yes fun vals γ w' ρ hR hN hp hρ hc hf hg=>⟨rfl,?_⟩;have hi:=hR.inv ⟨by omega,fun _=>⟨HM2.o.more (Ext.refl _).drew,HOV.o.ext (Ext.refl _).drew⟩⟩;obtain ⟨r5,g6,hr5,hr1⟩:=hp 6 (by decide);have h0:γ=1:=(by have h:γ<2:=hN; omega);subst h0;have e66:ρ (.tmp 66)=_:=(hρ 66).trans (hp 4 (by decide));have e68:ρ (.tmp 68)=_:=(hρ 68).trans g6;have HI:=Hd (hi.2 (by omega));have HR5:=Hd (show ((r5:Int).tmod 5+5).tmod 5=(r5:Int) by rw [show (r5:Int).tmod 5=(r5:Int) % 5 from Int.tmod_eq_emod_of_nonneg (by omega),Int.tmod_eq_emod_of_nonneg (by omega)]; omega);clear hR hN hp hρ hi g6;go_light;go_simp;exact (r09_Cell x (r5:Int) _ r5 HR5.o).mono fun e' w3 ⟨he,hx3⟩=>⟨_,he,2,SR.up (by omega) ⟨by omega,fun _=>⟨HI.o.1.more hx3,HI.o.2.ext hx3⟩⟩,SN.up (by omega) (by decide) rfl,r5,_,rfl,rfl,hr5,by omega⟩
        ·refine LinStep.yes fun vals γ w' ρ hR hN hp hρ hc hf hg=>⟨rfl,?_⟩;have hi:=hR.inv ⟨by omega,fun _=>⟨HM2.o.more (Ext.refl _).drew,HOV.o.ext (Ext.refl _).drew⟩⟩;obtain ⟨m,y,hy,g7,hm5,hr1⟩:=hp 7 (by decide);have h0:γ=2:=(by have h:γ<3:=hN; omega);subst h0;have e69:ρ (.tmp 69)=_:=(hρ 69).trans g7;have HI:=Hd (hi.2 (by omega));have HY:=Hd hy;clear hR hN hp hρ hi g7 hy;go_light;go_simp;refine ⟨3,SR.up (by omega) ⟨by omega,fun _=>⟨HI.o.1.more ((Ext.refl _).alloc _),HI.o.2.ext ((Ext.refl _).alloc _)⟩⟩,SN.up (by omega) (by decide) rfl,m,_,rfl,hm5,by omega,fun _ => ?_⟩;rw [← HY.o];exact Blk.new _ _ _
        ·refine LinStep.yes fun vals γ w' ρ hR hN hp hρ hc hf hg=>⟨rfl,?_⟩;have hi:=hR.inv ⟨by omega,fun _=>⟨HM2.o.more (Ext.refl _).drew,HOV.o.ext (Ext.refl _).drew⟩⟩;obtain ⟨m,g,g8,hm5,hr1,hbk⟩:=hp 8 (by decide);have h0:γ=3:=(by have h:γ<4:=hN; omega);subst h0;have e62:ρ (.tmp 62)=_:=(hρ 62).trans (hp 0 (by decide));have e70:ρ (.tmp 70)=_:=(hρ 70).trans g8;have hd:=hi.2 (by omega);obtain ⟨xs,hown,hvl⟩:=hd.2;have hfl:=cellS_flat x m;have hhi:=hd.1.high;refine lin_app (.tmp 62) (.tmp 70) rfl tiV e62 hown e70 (hbk rfl).rd rfl vcells_one (by have:=HROW.o; omega) (by decide) hhi ?_;intro A4 c4 w4 hown4 hg4 hat4;exact ⟨4,SR.up (by omega) ⟨by omega,fun h=>absurd h (by omega)⟩,SN.up (by omega) (by decide) rfl,A4,c4,m,rfl,hm5,by omega,fun _=>⟨hd.1.grown hg4 fun b hb=>(hown.blk hb).1,OwnVs.push hvl hown4 hg4 hat4 ⟨by omega,by rw [hfl.1]; exact Nat.zero_le _,by rw [hfl.2.1]; exact Nat.zero_le _⟩ (RV.mk hfl.2.2 (by rw [hfl.1]; exact Strs.nil) (by rw [hfl.2.1]; exact Rows.nil))⟩⟩
        ·refine LinStep.yes fun vals γ w' ρ hR hN hp hρ hc hf hg=>⟨rfl,?_⟩;have hi:=hR.inv ⟨by omega,fun _=>⟨HM2.o.more (Ext.refl _).drew,HOV.o.ext (Ext.refl _).drew⟩⟩;obtain ⟨A4,c4,m,g9,hm5,hr1,hbk⟩:=hp 9 (by decide);have e71:ρ (.tmp 71)=_:=(hρ 71).trans g9;have HBK:=Hd hbk;clear hR hN hp hρ hi g9 hbk;go_light;go_simp;exact ⟨γ,SR.refl _ _ _,fun _ _ _ h=>h,A4,c4,m,rfl,hm5,hr1,HBK.o⟩
        ·intro vals γ w' hR hG;have hi:=hR.inv ⟨by omega,fun _=>⟨HM2.o.more (Ext.refl _).drew,HOV.o.ext (Ext.refl _).drew⟩⟩;obtain ⟨A4,c4,m,h10,hm5,h4,h5⟩:=hG 10 (by decide);rw [HROW.o] at h10;have HE:=Hd (h5 (by have:=hi.1; omega));clear hR hG hi h4 h5;simp only [lexFrame,Act.put,List.setIfInBounds_toArray,List.set_cons_succ,List.set_cons_zero,Nat.zero_add,Nat.reduceAdd,h10];generalize vals 0=u0,vals 1=u1,vals 2=u2,vals 3=u3,vals 4=u4,vals 5=u5,vals 6=u6,vals 7=u7,vals 8=u8,vals 9=u9;clear h10;go_wp2;go_roundw
         case rel =>
          rw [HT0.o] at HE;refine ⟨j+1,A4,c4,row++[cellS x m],by omega,by go_num,by simp [HROW.o],rfl,?_,HE.o.1,HE.o.2⟩;intro q h h'
          rcases Nat.lt_or_ge q row.length with hq | hq
          ·rw [List.getElem_append_left hq];exact HRK2.o q hq h'
          ·have hqj:q=j:=(by simp at h; have:=HROW.o; omega);subst hqj;refine ⟨m,hm5,?_⟩;rw [List.getElem_append_right hq];simp [HX.o]
         case measure=>simp [intOf]; omega
       ·have hje:j=1+r:=(by omega);have hrow3:Row wr (fun b=>wo.heap.size≤b) 1 A' row:=HOV.o.row (by have:=HROW.o; omega) (fun b hb=>(HOV.o.blk hb).1) (fun b hb=>hb);have HCAP:=Hd (show row.length≤c' by obtain ⟨xs0,ho0,_⟩:=HOV.o; exact ho0.cap);have hm4:=HM2.o.more ((Ext.refl wr).alloc (.cells #[.slice A' j c'] 50));have HM4:=Hd hm4;have HROW3:=Hd (hrow3.keep (Kept.alloc _ wr (.cells #[.slice A' j c'] 50)));obtain ⟨hs,hown,hvl⟩:=hm4.own;have HV:=Hd hvl;have HHS:=Hd (show hs.length=rows.length by simpa using hown.len);have HO1:=Hd hown;rw [HRL.o] at hown;have HOWN:=Hd hown;have k2:=HM2.o.gt.cell (i:=2) rfl;rw [show (#[Value.string name,.slice Ac cols.length cc,.slice Ar rows.length cr]:Array Value)[2]=.slice Ar k cr by rw [← HRL.o]; rfl] at k2;have hhw:H≤wr.heap.size:=Nat.le_trans HM2.o.mid HM2.o.high;have HJE:=Hd hje;clear hrow3 hm4 hown hvl HM2 HOV hje;have hst4:∀ (A4:Option Addr) (w4:World),(wr.alloc (.cells #[.slice A' j c'] 50)).grownBy w4 (ob Ar)→Blk w4 (w.heap.size+1+1) 36 #[.string name,.slice Ac cols.length cc,.slice Ar rows.length cr]:=fun A4 w4 hg4=>HM4.o.gt.keep (Kept.of_grown hg4 fun b hb _ e=>by
         have h1:=(HOWN.o.blk e.symm).1;have h2:=HM4.o.low;omega)
        have HST:=Hd hst4;clear hst4
        go_wp2_with (at_builtin; go_must (refine wpList_app rfl (.tmp 73) (.tmp 75) rfl tiR rfl HOWN.o rfl (Blk.rd (Blk.new _ _ _)) rfl (by simp [Value.oneCell']) (by omega) (by decide) (by simp; omega) ?_); intro A4 c4 w4 hown4 hg4 hat4; have hb4:=HST.o A4 w4 hg4; have k3:=hb4.cell (i:=2) rfl; have kf:=hb4.frozen; have kz:=hb4.lt; clear hb4)
        go_roundw
        case rel =>
         have hfin:=HM4.o.push (row:=row) (A':=A') (c':=c') HHS.o HV.o HO1.o (by rw [HRL.o,HROW.o]; exact hown4) hg4 hat4 HCAP.o HROW3.o;have hlen:(rows++[row]).length=k+1:=(by simp [HRL.o]);refine ⟨k+1,A4,c4,rows++[row],w4.heap.size,by omega,by go_num,hlen,?_,?_⟩
         ·intro y hy
          rcases List.mem_append.1 hy with hy | hy
          ·exact HRK.o y hy
          ·simp at hy;subst hy;exact ⟨by rw [HROW.o,HKL2.o]; exact HJE.o,HRK2.o⟩
         ·rw [hlen] at hfin;exact hfin
        case measure=>simp [intOf]; omega
     ·have HD:=HM;have hdc:=HM.o;have g0:=hdc.gt.cell (i:=0) rfl;have g1:=hdc.gt.cell (i:=1) rfl;have g2:=hdc.gt.cell (i:=2) rfl;have z1:=hdc.gt.lt;have r0:=hdc.gr.cell (i:=0) rfl;have r1:=hdc.gr.cell (i:=1) rfl;have r2:=hdc.gr.cell (i:=2) rfl;have rf:=hdc.gr.frozen;have rz:=hdc.gr.lt;clear hdc;go_wp2;refine bodyPost_ret (v:=.agg #[.string name,.slice Ac cols.length cc,.slice Ar rows.length cr]) (by simp [results,Tryz.results9,go_sem,r0,r1,r2]) rfl ⟨⟨name,cols,rows⟩,H,Ac,cc,Ar,cr,⟨rfl,ks2,?_,?_,?_,?_,?_,?_,HRK.o⟩,rfl,⟨HD.o.capC,?_⟩,by have:=HD.o.low; omega,hname,?_,?_,?_⟩
      ·have:=HKL2.o; omega
      ·have:=HKL2.o; omega
      ·rw [HKL2.o]; exact HCO.o
      ·rw [HK2.o];have:=HKL.o
       match ks,this with
       | [],h=>simp at h; omega
       | a :: l,_=>rfl
      ·intro x hx;rw [HK2.o] at hx
       rcases List.mem_or_eq_of_mem_set hx with h | h
       ·exact HKS.o x h
       ·exact Or.inl h
      ·have:=HRL.o; show rows.length≤6; omega
      ·obtain ⟨hs,h1,_⟩:=HD.o.own; exact h1.cap
      ·have hlo:=HD.o.low;refine (HD.o.cols.keep ?_).mono fun b _ hb=>⟨by omega,hb.2⟩
       iterate 3 with_reducible refine Kept.set2 ?_ (fun h=>by have h:=h.1; omega)
       exact Kept.refl _ _
      ·have hlo:=HD.o.low;refine (HD.o.own.rows (T:=fun b=>H≤b) (by have:=HRL.o; omega) (fun b hb=>(HD.o.own.blk hb).1) (fun b hb=>hb.1)).keep ?_
       iterate 3 with_reducible refine Kept.set2 ?_ (by show ¬ (_≤_); omega)
       exact Kept.refl _ _
      ·iterate 3 with_reducible refine Ext.set2 ?_ (by omega) _
       exact HD.o.ext
theorem r09_Made (name:ByteArray) (l:List Int) (A:Option Addr) (c:Nat) (w:World) (S:Nat→Prop) (hl:IntsL w S A l) (hname:name.size≤4294967296) :
  Calls Tryz.prog 9 #[.string name,.slice A l.length c] w (RetMade w name):=(r09_MadeF name l A c w S hl hname).mono fun _ _ h=>h.made

theorem r09_Value (t:Look) (x:Val) (hx:x=tabV t.cols t.rows) (A B:Option Addr) (c e:Nat) (w:World):Calls Tryz.prog 7 #[(.agg #[.string t.name,.slice A t.cols.length c,.slice B t.rows.length e])] w (fun r w'=>r=.returned (.agg #[.int .i64 x.kind,.string x.s,.int .i64 x.dn,.int .i64 x.ds,.int .i64 x.n,.slice A x.cols.length c,.slice B x.rows.length e])∧Ext w w'):=by
 subst hx;simp only [tabV]
 go_enter Tryz.func7,Tryz.ntmps7
 go_wp2;refine bodyPost_ret (v:=.agg #[.int .i64 5,.string ⟨#[]⟩,.int .i64 0,.int .i64 0,.int .i64 0,.slice A t.cols.length c,.slice B t.rows.length e]) (by simp [results,Tryz.results7,go_sem]) rfl ⟨rfl,?_⟩;exact ((Ext.refl w).alloc _).alloc _

theorem r09_is (q:Nat) (x y:Val) (A B A' B':Option Addr) (c e c' e':Nat) (w:World) (S T:Nat→Prop) (hx:RV w S q x A B) (hy:RV w T q y A' B') :
  Calls Tryz.prog 39 #[(.agg #[.int .i64 x.kind,.string x.s,.int .i64 x.dn,.int .i64 x.ds,.int .i64 x.n,.slice A x.cols.length c,.slice B x.rows.length e]),(.agg #[.int .i64 y.kind,.string y.s,.int .i64 y.dn,.int .i64 y.ds,.int .i64 y.n,.slice A' y.cols.length c',.slice B' y.rows.length e'])] w (RetB w (isB x y)):=by
 have HX:=Hd hx;have HY:=Hd hy;clear hx hy
 go_enter Tryz.func39,Tryz.ntmps39
 go_wp2_with fail
 refine (r06_Equal q x y A B A' B' c e c' e' _ S T (HX.o.keep ((((Ext.refl w).alloc _).alloc _).kept _)) (HY.o.keep ((((Ext.refl w).alloc _).alloc _).kept _))).mono ?_;rintro e1 w1 ⟨rfl,hx1⟩;have HX1:=Hd hx1;have b0:Blk w1 w.heap.size 31 #[.int .i64 x.kind,.string x.s,.int .i64 x.dn,.int .i64 x.ds,.int .i64 x.n,.slice A x.cols.length c,.slice B x.rows.length e]:=((Blk.new w 31 #[.int .i64 x.kind,.string x.s,.int .i64 x.dn,.int .i64 x.ds,.int .i64 x.n,.slice A x.cols.length c,.slice B x.rows.length e]).keep (Kept.alloc _ _ _)).keep (hx1.kept _);have r0:=b0.cell (i:=0) rfl;clear b0 hx1;by_cases hk:x.kind=0
 ·have k0:(x.kind != 0)=false:=(by simp [hk]);have HF:=Hd (show isB x y=false by simp [isB,hk]);clear hk;go_wp2;go_ret;exact ⟨by rw [HF.o]; rfl,(((Ext.refl w).alloc _).alloc _).trans HX1.o⟩
 ·have k0:(x.kind != 0)=true:=(by simp [hk]);have HF:=Hd (show isB x y=decide (x=y) by simp [isB,hk]);clear hk;go_wp2;go_ret;exact ⟨by rw [HF.o]; rfl,(((Ext.refl w).alloc _).alloc _).trans HX1.o⟩


theorem Rows.up {w:World} {S:Nat→Prop} {d d':Nat} {B:Option Addr} {l:List (List Val)} (h:Rows w S d B l) (hd:d≤d'):Rows w S d' B l :=
 h.imp fun y cs ⟨A,c,B,e,h1,h2,h3⟩=>⟨A,c,B,e,h1,⟨by omega,h2.2⟩,h3.up (by omega)⟩
theorem RL.up {w:World} {S:Nat→Prop} {d d':Nat} {t:Look} {A B:Option Addr} (h:RL w S d t A B) (hd:d≤d'):RL w S d' t A B:=⟨h.1,h.2.1,h.2.2.up hd⟩
def RetCpL (w:World) (d:Nat) (t:Look) (e:Ending) (w':World):Prop:=∃ (Ac:Option Addr) (cc:Nat) (Ar:Option Addr) (cr:Nat),e=.returned (.agg #[.string t.name,.slice Ac t.cols.length cc,.slice Ar t.rows.length cr])∧OwnSs w' w.heap.size Ac cc t.cols∧OwnRR w' w.heap.size (fun b=>ob Ac=some b) d Ar cr t.rows∧(∀ b,ob Ac=some b→ob Ar≠some b)∧Ext w w'
theorem r09_Copy (d:Nat) (t:Look) (A B:Option Addr) (c e:Nat) (w:World) (S:Nat→Prop) (h:RL w S d t A B):Calls Tryz.prog 28 #[(.agg #[.string t.name,.slice A t.cols.length c,.slice B t.rows.length e])] w (RetCpL w d t):=by
 have H:=Hd h;clear h;obtain ⟨x,hx⟩:∃ x,x=tabV t.cols t.rows:=⟨_,rfl⟩;have HXE:=Hd hx;clear hx;obtain ⟨W0,hW0⟩:∃ W0,W0=((w.alloc (.cells #[.string t.name,.slice A t.cols.length c,.slice B t.rows.length e] 36)).alloc (.cells #[.string ⟨#[]⟩,.slice none 0 0,.slice none 0 0] 36)):=⟨_,rfl⟩;have HW0:=Hd hW0;have hx0:Ext w W0:=(by rw [hW0]; exact ((Ext.refl w).alloc _).alloc _);have b0:Blk W0 w.heap.size 36 #[.string t.name,.slice A t.cols.length c,.slice B t.rows.length e]:=(by rw [hW0]; exact (Blk.new _ _ _).keep (Kept.alloc _ _ _));have b1:Blk W0 (w.heap.size+1) 36 #[.string ⟨#[]⟩,.slice none 0 0,.slice none 0 0]:=by
  rw [hW0];have:=Blk.new (w.alloc (.cells #[.string t.name,.slice A t.cols.length c,.slice B t.rows.length e] 36)) 36 #[.string ⟨#[]⟩,.slice none 0 0,.slice none 0 0]
  simpa using this
 have hs0:W0.heap.size=w.heap.size+2:=(by rw [hW0]; simp);have HX0:=Hd hx0;have HB0:=Hd b0;have HB1:=Hd b1;have HS0:=Hd hs0;clear hW0 hx0 b0 b1 hs0
 go_enter Tryz.func28,Tryz.ntmps28
 go_wp2_with fail
 rw [← HW0.o];refine (r09_Value t x HXE.o A B c e W0).mono ?_;rintro e1 w1 ⟨rfl,hx1⟩;have HX1:=Hd hx1;clear hx1
 go_wp2_with fail
 have hv:=(H.o.keep ((HX0.o.trans HX1.o).kept S)).val;rw [← HXE.o] at hv;refine (r06_Copy d x A B c e w1 S hv).mono ?_;rintro e2 w2 ⟨Ac,cc,Ar,cr,rfl,hoc,hor,hsep,hx2⟩;have hx12:=HX1.o.trans hx2;have HB0b:=Hd (HB0.o.keep (hx12.kept _));have HB1b:=Hd (HB1.o.keep (hx12.kept _));have l0:=HB0b.o.cell (i:=0) rfl;have r0:=HB1b.o.cell (i:=0) rfl;have r1:=HB1b.o.cell (i:=1) rfl;have r2:=HB1b.o.cell (i:=2) rfl;have lz:=HB0b.o.lt;have rz:=HB1b.o.lt;have rf:=HB1b.o.frozen;have hz1:w.heap.size+2≤w1.heap.size:=(by have:=HX1.o.size; have:=HS0.o; omega);have hcs:x.cols=t.cols:=(by rw [HXE.o]; rfl);have hrs:x.rows=t.rows:=(by rw [HXE.o]; rfl);rw [hcs] at hoc;rw [hrs] at hor;rw [hcs,hrs];have HOC:=Hd hoc;have HOR:=Hd hor;have HXF:=Hd (HX0.o.trans hx12);clear hoc hor hx2 hx12 hv hcs hrs;have hza:w.heap.size+1<w2.heap.size+1:=(by omega);have hzb:w.heap.size<w2.heap.size+1:=(by omega);have hne:w.heap.size+1≠w2.heap.size:=(by omega);have hne2:w.heap.size≠w2.heap.size:=(by omega);go_wp2;refine bodyPost_ret (v:=(.agg #[.string t.name,.slice Ac t.cols.length cc,.slice Ar t.rows.length cr])) (by simp [results,Tryz.results28,go_sem,r0,r1,r2,rz]) rfl ?_;refine ⟨Ac,cc,Ar,cr,rfl,⟨?_,HOC.o.2⟩,?_,hsep,?_⟩
 ·refine Own.lower (HOC.o.1.keep ?_) (show w.heap.size≤w1.heap.size by omega);have hb:∀ b,ob Ac=some b→w1.heap.size≤b:=fun b h=>(HOC.o.1.blk h).1;refine Kept.trans ?_ (Kept.alloc _ _ _)
  iterate 3 with_reducible refine Kept.set2 ?_ (fun h=>by have:=hb _ h; omega)
  with_reducible exact Kept.refl _ _
 ·refine OwnRR.lower (HOR.o.keep ?_ fun b hb hb'=>hsep b hb' hb) (show w.heap.size≤w1.heap.size by omega);refine Kept.trans ?_ (Kept.alloc _ _ _)
  iterate 3 with_reducible refine Kept.set2 ?_ (fun h=>by have:=h.1; omega)
  with_reducible exact Kept.refl _ _
 ·refine Ext.alloc ?_ _
  iterate 3 with_reducible refine Ext.set2 ?_ (by omega) _
  with_reducible exact HXF.o

def zeroRow (n:Nat):Array Value:=madeCells #[.int .i64 0,.string ⟨#[]⟩,.int .i64 0,.int .i64 0,.int .i64 0,.slice none 0 0,.slice none 0 0] (n*7)
theorem run_mkV (n:Nat) (hn:n≤1000000):∀ w:World,(Instr.makeSlice 50 (.int .i64 (n:Int)) (.int .i64 (n:Int))).run Tryz.prog w=.ok (.slice (some ⟨w.heap.size,0,none⟩) n n) (w.alloc (.cells (zeroRow n) 31)):=by
 intro w;obtain ⟨i0,h1,h2,h3,h4⟩:=info_parts infoV;have hr:=run_make (P:=Tryz.prog) w 50 31 i0 _ Tryz.underlying50 h1 h2 .i64 .i64 n n (by omega) (by omega) (by rw [h4]; omega) (by omega);rw [h3,Int.toNat_natCast] at hr;exact hr
theorem zeroRow_toList (n:Nat):(zeroRow n).toList=(List.replicate n Val.zero).flatMap fun y=>vcells y none 0 none 0:=by
 apply List.ext_getElem?;intro i;have hv:∀ m:Nat,((List.replicate m Val.zero).flatMap fun y=>vcells y none 0 none 0).length=m*7:=by
  intro m
  induction m with
  | zero=>rfl
  | succ m ih=>simp [List.replicate_succ,vcells]; omega
 have key:∀ (m i:Nat),i<m*7→((List.replicate m Val.zero).flatMap fun y=>vcells y none 0 none 0)[i]?=(vcells Val.zero none 0 none 0)[i % 7]?:=by
  intro m
  induction m with
  | zero=>intro i hi; omega
  | succ m ih =>
   intro i hi;simp only [List.replicate_succ,List.flatMap_cons]
   rcases Nat.lt_or_ge i 7 with h | h
   ·rw [List.getElem?_append_left (by simpa [vcells] using h),Nat.mod_eq_of_lt h]
   ·rw [List.getElem?_append_right (by simpa [vcells] using h)];have h7:(vcells Val.zero none 0 none 0).length=7:=rfl;rw [h7,ih (i-7) (by omega)];congr 1;omega
 rcases Nat.lt_or_ge i (n*7) with h | h
 ·rw [key n i h];have:i % 7<7:=Nat.mod_lt _ (by decide);simp only [zeroRow,madeCells,Array.toList_map,List.getElem?_map,Array.toList_range,List.getElem?_range h,Option.map_some];generalize i % 7=j at this ⊢
  match j,this with
  | 0,_=>rfl
  | 1,_=>rfl
  | 2,_=>rfl
  | 3,_=>rfl
  | 4,_=>rfl
  | 5,_=>rfl
  | 6,_=>rfl
  | j+7,h=>omega
 ·rw [List.getElem?_eq_none (by simpa [zeroRow,madeCells] using h),List.getElem?_eq_none (by rw [hv]; exact h)]
theorem OwnVs.zeros (w:World) (n d:Nat) (hd:0<d) (hn:n≤1000000):OwnVs (w.alloc (.cells (zeroRow n) 31)) w.heap.size (fun b=>w.heap.size≤b) d (some ⟨w.heap.size,0,none⟩) n (List.replicate n Val.zero):=by
 have hl:(zeroRow n).size=n*7:=(by simp [zeroRow,madeCells]);refine ⟨(zeroRow n).toList,⟨by simp [hl],.inr ⟨w.heap.size,n,zeroRow n,by simp,Nat.le_refl _,heap_alloc_new w _,by simp,by unfold maxLen; omega,hl,?_⟩⟩,?_⟩
 ·rw [List.length_replicate]; exact List.take_of_length_le (by simp [hl])
 ·rw [zeroRow_toList];exact VL.flat hd _ fun y hy=>by rw [List.mem_replicate] at hy; rw [hy.2]; exact ⟨rfl,rfl,Nat.zero_le _⟩

section
variable {w w':World} {base q c k:Nat} {av S:Nat→Prop} {A:Option Addr} {l:List (List Val)}
theorem OwnRR.at_ (h:OwnRR w base av q A c l) (hk:k<l.length) (hl:l.length≤4294967296) (hr:∀ r∈l,r.length≤4294967296):∃ (hs:List Value) (B:Option Addr) (e:Nat) (X:Nat→Prop),Own w base 50 1 A l.length c hs∧hs[k]?=some (.slice B l[k].length e)∧OwnVs w base X q B e l[k]∧(∀ b,X b→base≤b∧ob A≠some b)∧(∀ b,ob B=some b→ob A≠some b) ∧
  ∀ (w':World) (r':List Val),Kept (fun b=>ob B≠some b) w w'→r'.length=l[k].length→Row w' (fun b=>base≤b) q B r'→Rows w' (fun b=>base≤b) q A (l.set k r'):=by
 obtain ⟨hs,cut,h1,h2,h3,h4,h5⟩:=h;obtain ⟨B,e,g1,g2,g3⟩:=h5 k l[k] (List.getElem?_eq_getElem hk);have hc0:∀ i,base≤cut i:=fun i=>Nat.le_trans h3 (h2 0 i (Nat.zero_le _));refine ⟨hs,B,e,_,h1,g1,g2.shift (base2:=base) (fun b hb=>Nat.le_trans (hc0 k) (g2.blk hb).1) (fun b _ hb=>hb),fun b hb=>⟨Nat.le_trans (hc0 k) hb.1,hb.2.2.1⟩,fun b hb=>(g3 b hb).2.1,fun w' r' hkp hl' hrow => ?_⟩;have hcap:l[k].length≤e:=(by obtain ⟨xs,ho,_⟩:=g2; exact ho.cap);refine ⟨by rw [List.length_set]; exact hl,hs,(h1.rd.keep (hkp.mono fun b _ hb hb'=>(g3 b hb').2.1 hb)).mono (fun b _ hb=>(h1.blk hb).1),by rw [List.length_set]; simpa using h1.len,fun i r hi => ?_⟩;by_cases hik:k=i
 ·subst hik;rw [List.getElem?_set_self hk] at hi;injection hi with hi;subst hi;exact ⟨B,e,by rw [hl']; exact g1,by rw [hl']; exact hcap,hrow⟩
 ·rw [List.getElem?_set_ne hik] at hi;obtain ⟨Bi,ei,f1,f2,f3⟩:=h5 i r hi;have hci:r.length≤ei:=(by obtain ⟨xs,ho,_⟩:=f2; exact ho.cap);refine ⟨Bi,ei,f1,hci,(f2.keep (hkp.mono fun b _ hb hb' => ?_)).row (hr r (List.mem_of_getElem? hi)) (fun b hb=>Nat.le_trans (hc0 i) (f2.blk hb).1) (fun b hb=>Nat.le_trans (hc0 i) hb.1)⟩;have k1:=(g2.blk hb').1;have k2:=(g3 b hb').1;have i12:cut i≤b∧b<cut (i+1):=by
   rcases hb with hb | hb
   ·exact ⟨(f2.blk hb).1,(f3 b hb).1⟩
   ·exact ⟨hb.1,hb.2.1⟩
  rcases Nat.lt_or_ge i k with hlt | hge
  ·have:=h2 (i+1) k hlt; omega
  ·have:=h2 (k+1) i (by omega); omega
theorem OwnRR.setHead (h:OwnRR w base av q A c l) {g:Nat} (hA:A=some ⟨g,0,none⟩) (h0:0<l.length) (hl:l.length≤4294967296) (hr:∀ r∈l,r.length≤4294967296) {B':Option Addr} {e':Nat} {r':List Val} (hre:r'.length≤e') (hrow:Row w (fun b=>base≤b∧ob A≠some b) q B' r') :
  Rows (w.setCell ⟨g,0,none⟩ (.slice B' r'.length e')) (fun b=>base≤b) q A (l.set 0 r'):=by
 obtain ⟨hs,cut,h1,h2,h3,h4,h5⟩:=h;have hc0:∀ i,base≤cut i:=fun i=>Nat.le_trans h3 (h2 0 i (Nat.zero_le _));have hoA:ob A=some g:=(by rw [hA]; rfl);have hkp:Kept (fun b=>ob A≠some b) w (w.setCell ⟨g,0,none⟩ (.slice B' r'.length e')):=Kept.of_set (fun h=>h hoA);have hlen:hs.length=l.length:=(by simpa using h1.len);refine ⟨by rw [List.length_set]; exact hl,hs.set 0 (.slice B' r'.length e'),?_,by simpa using hlen,fun i r hi => ?_⟩
 ·obtain ⟨b,o,e1,e2,e3,e4⟩:=h1.rd.some_ (by intro h; rw [h] at hlen; simp at hlen; omega);rw [hA] at e1;injection e1 with e1;injection e1 with e1 e1';subst e1;subst e1';refine .inr ⟨g,0,hA,(h1.blk hoA).1,by simpa [World.setCell] using e3,fun j u hj => ?_⟩;rw [List.getElem?_set] at hj;by_cases hj0:0=j
  ·subst hj0;rw [if_pos rfl,if_pos (by omega)] at hj;injection hj with hj;subst hj;cases hh:hs[0]? with
   | none=>rw [List.getElem?_eq_none_iff] at hh; omega
   | some u0=>exact World.cell?_setCell_same _ _ _ (e4 0 u0 hh)
  ·rw [if_neg hj0] at hj;rw [World.cell?_setCell_other _ _ _ _ (by intro e; injection e with _ e; omega)];exact e4 j u hj
 ·by_cases hik:0=i
  ·subst hik;rw [List.getElem?_set_self h0] at hi;injection hi with hi;subst hi;exact ⟨B',e',by rw [List.getElem?_set_self (by omega)],hre,(hrow.keep (hkp.mono fun b _ hb=>hb.2)).mono fun b _ hb=>hb.1⟩
  ·rw [List.getElem?_set_ne hik] at hi;obtain ⟨Bi,ei,f1,f2,f3⟩:=h5 i r hi;have hci:r.length≤ei:=(by obtain ⟨xs,ho,_⟩:=f2; exact ho.cap);refine ⟨Bi,ei,by rw [List.getElem?_set_ne hik]; exact f1,hci,(f2.keep (hkp.mono fun b _ hb => ?_)).row (hr r (List.mem_of_getElem? hi)) (fun b hb=>Nat.le_trans (hc0 i) (f2.blk hb).1) (fun b hb=>Nat.le_trans (hc0 i) hb.1)⟩
   rcases hb with hb | hb
   ·exact (f3 b hb).2.1
   ·exact hb.2.2.1
theorem Rd.tail {xs:List Value} {g o n:Nat} (h:Rd w S (some ⟨g,o,none⟩) xs):Rd w S (some ⟨g,o+n,none⟩) (xs.drop n):=by
 rcases h with h | ⟨b,o',h1,h2,h3,h4⟩
 ·left; rw [h]; simp
 ·injection h1 with h1;injection h1 with h1 h1';subst h1;subst h1';exact .inr ⟨g,o+n,rfl,h2,h3,fun j u hj=>by rw [Nat.add_assoc]; exact h4 (n+j) u (by rw [List.getElem?_drop] at hj; exact hj)⟩
theorem Row.tail {r:List Val} {y:Val} {g o:Nat} (h:Row w S q (some ⟨g,o,none⟩) (y :: r)):Row w S q (some ⟨g,o+7,none⟩) r:=by
 obtain ⟨h0,xs,h1,h2,h3⟩:=h;simp at h0 h2;refine ⟨by omega,xs.drop 7,h1.tail,by simp; omega,fun j z hj => ?_⟩;have:=h3 (j+1) z (by simpa using hj);rw [List.drop_drop,show 7+j*7=(j+1)*7 by omega];exact this
theorem Rows.tail {r:List Val} {g o:Nat} {l:List (List Val)} (h:Rows w S q (some ⟨g,o,none⟩) (r :: l)):Rows w S q (some ⟨g,o+1,none⟩) l:=by
 obtain ⟨h0,hs,h1,h2,h3⟩:=h;simp at h0 h2;refine ⟨by omega,hs.drop 1,h1.tail,by simp; omega,fun j z hj => ?_⟩;obtain ⟨B,e,g1,g2⟩:=h3 (j+1) z (by simpa using hj);exact ⟨B,e,by rw [List.getElem?_drop,Nat.add_comm]; exact g1,g2⟩
theorem Row.nil:Row w S q A []:=⟨by simp,[],Or.inl rfl,by simp,by simp⟩
theorem Rd.setc {xs:List Value} {g o:Nat} (h:Rd w S (some ⟨g,o,none⟩) xs) (i:Nat) (v:Value):Rd (w.setCell ⟨g,o+i,none⟩ v) S (some ⟨g,o,none⟩) (xs.set i v):=by
 rcases h with h | ⟨b,o',h1,h2,h3,h4⟩
 ·left; rw [h]; rfl
 ·injection h1 with h1;injection h1 with h1 h1';subst h1;subst h1';refine .inr ⟨g,o,rfl,h2,by simpa [World.setCell] using h3,fun j u hj => ?_⟩;rw [List.getElem?_set] at hj;by_cases hij:i=j
  ·subst hij;rw [if_pos rfl] at hj;by_cases hl:i<xs.length
   ·rw [if_pos hl] at hj;injection hj with hj;subst hj;exact World.cell?_setCell_same _ _ _ (h4 i _ (List.getElem?_eq_getElem hl))
   ·rw [if_neg hl] at hj; cases hj
  ·rw [if_neg hij] at hj;rw [World.cell?_setCell_other _ _ _ _ (by intro e; injection e with _ e; omega)];exact h4 j u hj
theorem seg_ne (xs:List Value) (v:Value) {i j t:Nat} (h:i≠j) (ht:t<7):((xs.set (j*7+t) v).drop (i*7)).take 7=(xs.drop (i*7)).take 7:=by
 rw [List.drop_set];split
 ·rfl
 ·rw [List.take_set,List.set_eq_of_length_le (by simp; omega)]
theorem seg_eq (xs:List Value) (v:Value) (j t:Nat):((xs.set (j*7+t) v).drop (j*7)).take 7=((xs.drop (j*7)).take 7).set t v:=by
 rw [List.drop_set,if_neg (by omega),List.take_set,Nat.add_sub_cancel_left]
theorem list7 {xs:List Value} (h:xs.length=7) (a0 a1 a2 a3 a4 a5 a6:Value):((((((xs.set 0 a0).set 1 a1).set 2 a2).set 3 a3).set 4 a4).set 5 a5).set 6 a6=[a0,a1,a2,a3,a4,a5,a6]:=by
 match xs,h with
 | [_,_,_,_,_,_,_],_=>rfl
theorem OwnVs.store7 {r:List Val} {X T:Nat→Prop} {g e:Nat} (h:OwnVs w base X q (some ⟨g,0,none⟩) e r) {j:Nat} (hj:j<r.length) (hl:r.length≤4294967296) {x:Val} {A1 B1:Option Addr} {c1 e1:Nat} (hq:0<q∧x.cols.length≤c1∧x.rows.length≤e1) (hx:RV w (fun b=>b≠g∧T b) (q-1) x A1 B1) (hg:T g) (hXT:∀ b,X b→T b)
  {w':World} (hw:w'=((((((w.setCell ⟨g,j*7,none⟩ (.int .i64 x.kind)).setCell ⟨g,j*7+1,none⟩ (.string x.s)).setCell ⟨g,j*7+2,none⟩ (.int .i64 x.dn)).setCell ⟨g,j*7+3,none⟩ (.int .i64 x.ds)).setCell ⟨g,j*7+4,none⟩ (.int .i64 x.n)).setCell ⟨g,j*7+5,none⟩ (.slice A1 x.cols.length c1)).setCell ⟨g,j*7+6,none⟩ (.slice B1 x.rows.length e1)) :
  Row w' T q (some ⟨g,0,none⟩) (r.set j x)∧Kept (fun b=>b≠g) w w':=by
 have hk:Kept (fun b=>b≠g) w w':=by
  rw [hw]
  iterate 7 refine Kept.set2 ?_ (by simp)
  exact Kept.refl _ _
 refine ⟨?_,hk⟩;obtain ⟨xs,h1,h2⟩:=h;have hlen:xs.length=r.length*7:=h2.1;have hrd:=((((((h1.rd.setc (j*7) (.int .i64 x.kind)).setc (j*7+1) (.string x.s)).setc (j*7+2) (.int .i64 x.dn)).setc (j*7+3) (.int .i64 x.ds)).setc (j*7+4) (.int .i64 x.n)).setc (j*7+5) (.slice A1 x.cols.length c1)).setc (j*7+6) (.slice B1 x.rows.length e1);simp only [Nat.zero_add] at hrd;rw [← hw] at hrd;refine ⟨by rw [List.length_set]; exact hl,_,hrd.mono (fun b _ hb=>by simp [ob] at hb; rw [← hb]; exact hg),by simp [hlen],fun i y hi => ?_⟩;by_cases hij:j=i
 ·subst hij;rw [List.getElem?_set_self hj] at hi;injection hi with hi;subst hi;have h7:((xs.drop (j*7)).take 7).length=7:=(by simp; omega);have e0:=seg_eq xs (.int .i64 x.kind) j 0;rw [Nat.add_zero] at e0;rw [seg_eq,seg_eq,seg_eq,seg_eq,seg_eq,seg_eq,e0,list7 h7];exact ⟨A1,c1,B1,e1,rfl,hq,(hx.keep (hk.mono fun b _ hb=>hb.1)).mono fun b _ hb=>hb.2⟩
 ·rw [List.getElem?_set_ne hij] at hi;have e0:=seg_ne xs (.int .i64 x.kind) (i:=i) (j:=j) (t:=0) (by omega) (by omega);rw [Nat.add_zero] at e0;rw [seg_ne _ _ (by omega) (by omega),seg_ne _ _ (by omega) (by omega),seg_ne _ _ (by omega) (by omega),seg_ne _ _ (by omega) (by omega),seg_ne _ _ (by omega) (by omega),seg_ne _ _ (by omega) (by omega),e0];obtain ⟨A,c,B,e,f1,f2,f3⟩:=h2.2 i y hi;exact ⟨A,c,B,e,f1,f2,(f3.keep (hk.mono fun b _ hb hb'=>hb.1 (by rw [hb']; rfl))).mono fun b _ hb=>hXT b hb.2⟩
end
end Go.Proofs.YthmckfloppblcaaGreatDoor
