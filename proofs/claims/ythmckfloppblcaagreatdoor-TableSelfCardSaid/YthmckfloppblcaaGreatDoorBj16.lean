/- The reference's reader of numbers: what it reads, its texts, decimals and plain values. Conditions: the numbers read as data, and lie apart from the reader. -/
import Derived.Test.YthmckfloppblcaaGreatDoorBj15
set_option maxRecDepth 100000
set_option maxHeartbeats 4000000
namespace Go.Proofs.YthmckfloppblcaaGreatDoor
open Go Go.RowKit

def RetNK (w:World) (g:Nat) (A:Option Addr) (len c:Nat) (n:Int) (K:Nat) (e:Ending) (w':World):Prop:=∃ (r:Int) (K':Nat),e=.returned (.int .i64 r)∧0≤r∧r<n∧((K<len∧K'=K+1)∨(len≤K∧K'=K∧r=0))∧NumIs w' g A len c K'∧Only g w w'
theorem Num_NextK (n:Int) (g:Nat) (A:Option Addr) (l:List Int) (c K:Nat) (w:World) (S:Nat→Prop) (hn1:1≤n) (hn2:n≤4000000000000000) (hm:NumIs w g A l.length c K) (hl:IntsL w S A l) (hS:¬ S g) :
  Calls Tryz.prog 30 #[.pointer (some ⟨g,0,none⟩),.int .i64 n] w (RetNK w g A l.length c n K):=by
 have hlen:=hl.2;have hK:=hm.2;have k0:=hm.1.cell (i:=0) rfl;have k1:=hm.1.cell (i:=1) rfl;have kf:=hm.1.frozen;have kz:=hm.1.lt;have HM:=Hd hm;have HL:=Hd hl;clear hm hl;by_cases hlt:K<l.length
 ·obtain ⟨b,o,rfl,hb,hc⟩:=HL.o.at_ hlt;have hbg:b≠g:=by
   rcases HL.o.1 with h | ⟨b',o',h1,h2,_⟩
   ·rw [List.map_eq_nil_iff] at h; subst h; simp at hlt
   ·injection h1 with h1; injection h1 with h1; subst h1; rintro rfl; exact hS h2
  have hge:decide (l.length≤K)=false:=(by simpa using hlt);have hnn:decide (n<1)=false:=(by simpa using hn1);obtain ⟨r1,r2⟩:=next_r l[K] n hn1;obtain ⟨b1,b2⟩:=next_bd l[K] n hn1
  go_enter Tryz.func30,Tryz.ntmps30
  go_wp2
  go_quiet (fail)
  go_wp2;obtain ⟨w2,hw2⟩:∃ w2,w2=(w.drewN nq).setCell ⟨g,1,none⟩ (.int .i64 ((K:Int)+1)):=⟨_,rfl⟩;rw [← hw2];have ho:Only g w w2:=(by rw [hw2]; exact ((Only.refl g w).drewN nq).set _ _);have hb2:Blk w2 g 70 #[.slice (some ⟨b,o,none⟩) l.length c,.int .i64 ((K:Int)+1)]:=by
   rw [hw2];exact (HM.o.1.keep (Kept.drewN _ _ _)).set 1 _
  have hc2:w2.cell? ⟨b,o+K,none⟩=some (.int .i64 l[K]):=(World.cell?_of_block (w:=w) (ho.block b hbg)).trans hc;clear hw2 k0 k1 kf hc;have k0:=hb2.cell (i:=0) rfl;have k1:=hb2.cell (i:=1) rfl;have HO:=Hd ho;have HB2:=Hd hb2;clear ho hb2 HM HL;have q1:IntKind.i64.wrap ((K:Int)+1-1)=(K:Int):=(by rw [IntWalk.i64_in _ (by omega)]; omega);have q2:(0:Int)≤(K:Int):=(by omega);have q3:(K:Int)<(l.length:Int):=(by omega);have q4:IntKind.i64.wrap (l[K].tmod n)=l[K].tmod n:=IntWalk.i64_in _ (by omega);have q5:IntKind.i64.wrap (l[K].tmod n+n)=l[K].tmod n+n:=IntWalk.i64_in _ (by omega);have q6:IntKind.i64.wrap ((l[K].tmod n+n).tmod n)=(l[K].tmod n+n).tmod n:=IntWalk.i64_in _ (by omega);have q7:(n==0)=false:=(by simp; omega)
  go_quiet (fail)
  go_wp2;go_ret;refine ⟨_,K+1,rfl,Int.emod_nonneg _ (by omega),Int.emod_lt_of_pos _ (by omega),.inl ⟨by omega,rfl⟩,⟨?_,by omega⟩,HO.o.drewN _⟩;have:=fun m=>HB2.o.keep (w':=w2.drewN m) (Kept.drewN _ _ _);rw [show (((K+1:Nat)):Int)=(K:Int)+1 by omega];exact this _
 ·have hge:decide (l.length≤K)=true:=(by simpa using hlt);have HLT:=Hd (show l.length≤K by omega);clear hlt
  go_enter Tryz.func30,Tryz.ntmps30
  go_wp2
  go_quiet (fail)
  go_wp2;go_ret;exact ⟨0,K,rfl,Int.le_refl _,by omega,.inr ⟨HLT.o,rfl,rfl⟩,HM.o.keep (Kept.drewN _ _ _),(Only.refl g w).drewN _⟩

def NSt (w:World) (g:Nat) (A:Option Addr) (l:List Int) (c K:Nat):Prop:=NumIs w g A l.length c K∧∃ S:Nat→Prop,¬ S g∧IntsL w S A l
theorem NSt.ext {w w':World} {g:Nat} {A:Option Addr} {l:List Int} {c K:Nat} (h:NSt w g A l c K) (hx:Ext w w'):NSt w' g A l c K:=by
 obtain ⟨h1,S,h2,h3⟩:=h;exact ⟨h1.keep (hx.kept _),S,h2,h3.keep (hx.kept _)⟩
theorem NSt.grown {w w':World} {g:Nat} {A:Option Addr} {l:List Int} {c K:Nat} (h:NSt w g A l c K) {row:Option Nat} (hg:w.grownBy w' row) (hr:∀ k,row=some k→k≠g) (hd:∀ k,row=some k→∀ b o,A=some ⟨b,o,none⟩→l≠[]→k≠b):NSt w' g A l c K:=by
 obtain ⟨h1,S,h2,h3⟩:=h;refine ⟨h1.keep (Kept.of_grown hg fun b hb _ e=>hr b e.symm hb),?_⟩
 rcases h3.1 with h4 | ⟨b,o,hA,hb,hlt,hc⟩
 ·exact ⟨fun _=>False,fun h=>h,.inl h4,h3.2⟩
 ·by_cases hl:l=[]
  ·subst hl;exact ⟨fun _=>False,fun h=>h,.inl rfl,h3.2⟩
  ·refine ⟨fun x=>x=b,fun e=>h2 (e ▸ hb),?_⟩;have h5:IntsL w (fun x=>x=b) A l:=⟨.inr ⟨b,o,hA,rfl,hlt,hc⟩,h3.2⟩;exact h5.keep (Kept.of_grown hg fun x hx _ e=>hd x e.symm b o hA hl hx)
def RetR (w:World) (g:Nat) (A:Option Addr) (l:List Int) (c:Nat) (n:Int) (K:Nat) (e:Ending) (w':World):Prop:=∃ (r K':Nat),e=.returned (.int .i64 (r:Int))∧(r:Int)<n∧((K<l.length∧K'=K+1)∨(l.length≤K∧K'=K∧r=0))∧NSt w' g A l c K'∧But g w w'∧w'.heap.size=w.heap.size
theorem Num_Next2 (n:Int) (g:Nat) (A:Option Addr) (l:List Int) (c K:Nat) (w:World) (hn1:1≤n) (hn2:n≤4000000000000000) (h:NSt w g A l c K) :
  Calls Tryz.prog 30 #[.pointer (some ⟨g,0,none⟩),.int .i64 n] w (RetR w g A l c n K):=by
 obtain ⟨h1,S,h2,h3⟩:=h;refine (Num_NextK n g A l c K w S hn1 hn2 h1 h3 h2).mono ?_;rintro e w' ⟨r,K',he,hr0,hrn,hK,hN,ho⟩;refine ⟨r.toNat,K',by rw [he]; congr 2; omega,by omega,?_,⟨hN,S,h2,h3.keep (ho.kept fun b _ hb e=>h2 (e ▸ hb))⟩,But.of_only ho,ho.size⟩
 rcases hK with h | ⟨h4,h5,h6⟩
 ·exact .inl h
 ·exact .inr ⟨h4,h5,by omega⟩

theorem own_text {w:World} {base n c:Nat} {A:Option Addr} {xs:List Int} (h:Own w base 5 1 A n c (xs.map (Value.int .u8))) (hn:xs.length=n) {dst:Nat} (hd:Tryz.prog.underlying dst=some .string) :
  (convert 132 dst (.slice A n c)).run Tryz.prog w=.ok (.string (strOfNums xs)) w:=by
 rcases h.2 with ⟨hv,hn0⟩ | ⟨g,cap,cur,hv,hb,hh,hnc,hcm,hcs,ht⟩
 ·obtain ⟨rfl,rfl⟩:A=none∧c=0:=by injection hv with h1 _ h2; exact ⟨h1,h2⟩
  have hx:xs=[]:=List.eq_nil_of_length_eq_zero (by omega);subst hx;have e0:strOfNums []=ByteArray.empty:=rfl;rw [e0];exact run_convert_bytes_nil (P:=Tryz.prog) w 132 5 Tryz.underlying132 Tryz.underlying5 n 0 dst hd
 ·obtain ⟨rfl,rfl⟩:A=some ⟨g,0,none⟩∧c=cap:=by injection hv with h1 _ h2; exact ⟨h1,h2⟩
  refine run_convert_bytes_arg (P:=Tryz.prog) w 132 5 Tryz.underlying132 Tryz.underlying5 g 0 n c xs hn (fun i hi => ?_) dst hd;obtain ⟨b,o,hA,-,hc⟩:=(Own.rd h).at_ (k:=i) (u:=.int .u8 (xs.getD i 0)) (by
   rw [List.getElem?_map,List.getElem?_eq_getElem (by omega)];simp [List.getD,List.getElem?_eq_getElem (show i<xs.length by omega)])
  injection hA with hA;injection hA with h1 h2;subst h1 h2;exact hc

def wordsA:Array Value:=#[.string ⟨#[]⟩,.string ⟨#[97]⟩,.string ⟨#[98]⟩,.string ⟨#[97,98]⟩,.string ⟨#[105,116,39,115]⟩,.string ⟨#[50,48,50,52,45,48,49,45,51,49]⟩,.string ⟨#[49,50]⟩,.string ⟨#[45,51,46,53]⟩,.string ⟨#[65,124,66,44,91,99,93,59]⟩,.string ⟨#[78,111,114,116,104,32,55]⟩,.string ⟨#[120,32,121]⟩,.string ⟨#[39,39]⟩,.string ⟨#[97,98,99,97,98,99]⟩,.string ⟨#[48]⟩,.string ⟨#[55,46,50,53]⟩]
theorem words_at (k:Nat) (hk:k<15):∃ t:ByteArray,wordsA[k]?=some (.string t)∧t.size≤200:=by
 match k,hk with
 | 0,_=>exact ⟨_,rfl,by decide⟩
 | 1,_=>exact ⟨_,rfl,by decide⟩
 | 2,_=>exact ⟨_,rfl,by decide⟩
 | 3,_=>exact ⟨_,rfl,by decide⟩
 | 4,_=>exact ⟨_,rfl,by decide⟩
 | 5,_=>exact ⟨_,rfl,by decide⟩
 | 6,_=>exact ⟨_,rfl,by decide⟩
 | 7,_=>exact ⟨_,rfl,by decide⟩
 | 8,_=>exact ⟨_,rfl,by decide⟩
 | 9,_=>exact ⟨_,rfl,by decide⟩
 | 10,_=>exact ⟨_,rfl,by decide⟩
 | 11,_=>exact ⟨_,rfl,by decide⟩
 | 12,_=>exact ⟨_,rfl,by decide⟩
 | 13,_=>exact ⟨_,rfl,by decide⟩
 | 14,_=>exact ⟨_,rfl,by decide⟩
 | n+15,h=>omega
theorem r06_words (w:World):Calls Tryz.prog 116 #[] w (fun e w'=>e=.returned (.slice (some ⟨w.heap.size,0,none⟩) 15 15)∧w'=w.alloc (.cells wordsA 9)):=by
 go_enter Tryz.func116,Tryz.ntmps116
 go_wp2;go_ret;exact ⟨rfl,rfl⟩

def RetTxN (w:World) (g:Nat) (A:Option Addr) (l:List Int) (c:Nat) (K:Nat) (e:Ending) (w':World):Prop:=∃ (s:ByteArray) (K':Nat),e=.returned (.string s)∧s.size≤200∧K≤K'∧NSt w' g A l c K'∧But g w w'
theorem RetR.le {_w:World} {_g:Nat} {_A:Option Addr} {l:List Int} {_c:Nat} {K K' r:Nat} (h:(K<l.length∧K'=K+1)∨(l.length≤K∧K'=K∧r=0)):K≤K':=by omega

structure TxR (w:World) (g:Nat) (A:Option Addr) (l:List Int) (c K:Nat) (B j:Nat) (A':Option Addr) (c':Nat) (xs:List Int) (wr:World):Prop where
 but:But g w wr
 low:w.heap.size≤B∧B≤wr.heap.size
 num:∃ K',K≤K'∧NSt wr g A l c K'
 own:Own wr B 5 1 A' j c' (xs.map (Value.int .u8))
 len:xs.length=j
theorem TxR.data {w:World} {g:Nat} {A:Option Addr} {l:List Int} {c K:Nat} (h:NSt w g A l c K):∀ b o,A=some ⟨b,o,none⟩→l≠[]→b<w.heap.size:=by
 obtain ⟨_,S,_,h3⟩:=h;intro b o hA hl
 rcases h3.1 with h4 | ⟨b',o',hA',hb,hlt,hc⟩
 ·rw [List.map_eq_nil_iff] at h4; exact absurd h4 hl
 ·rw [hA] at hA';injection hA' with hA';injection hA' with h1 _;subst h1;exact hlt

theorem Num_Text (g:Nat) (A:Option Addr) (l:List Int) (c K:Nat) (w:World) (h:NSt w g A l c K):Calls Tryz.prog 91 #[.pointer (some ⟨g,0,none⟩)] w (RetTxN w g A l c K):=by
 have H:=Hd h;have hgw:=h.1.1.lt;have HD:=Hd (TxR.data h);clear h
 go_enter Tryz.func91,Tryz.ntmps91
 go_wp2_with fail
 refine (Num_Next2 18 g A l c K _ (by omega) (by omega) H.o).mono ?_;rintro e1 w1 ⟨k,K1,rfl,hk,hK1,hN1,hb1,hs1⟩;have HK1:=Hd (show K≤K1 by omega);have HN1:=Hd hN1;have HB1:=Hd hb1;clear hK1 hN1 hb1 hs1
 go_wp2_with fail
 refine (r06_words _).mono ?_;rintro e1 w2 ⟨rfl,rfl⟩;have HB2:=Hd (HB1.o.trans (But.of_ext ((Ext.refl w1).alloc (.cells wordsA 9))));have HN2:=Hd (HN1.o.ext ((Ext.refl w1).alloc (.cells wordsA 9)));by_cases hlt:k<15
 ·obtain ⟨t,ht,htz⟩:=words_at k hlt;have q:=(Blk.new w1 9 wordsA).cell ht;have hk15:(k:Int)<15:=(by omega);clear ht;go_wp2;go_ret;exact ⟨t,K1,rfl,htz,HK1.o,HN2.o,HB2.o⟩
 ·have hk15:¬ (k:Int)<15:=(by omega);obtain ⟨w2,hw2⟩:∃ w2,w2=w1.alloc (.cells wordsA 9):=⟨_,rfl⟩;rw [← hw2] at HB2 HN2
  go_wp2_with fail
  rw [← hw2];clear hw2;refine (Num_Next2 9 g A l c K1 _ (by omega) (by omega) HN2.o).mono ?_;rintro e1 w3 ⟨n,K3,rfl,hn,hK3,hN3,hb3,hs3⟩;have HK3:=Hd (show K≤K3 by have:=HK1.o; omega);have HN3:=Hd hN3;have HB3:=Hd (HB2.o.trans hb3);clear hK3 hN3 hb3 hs3;have hn':n≤200:=(by omega);by_cases h17:k=17
  case' pos =>
   have e17:((k:Int)==17)=true:=(by simp [h17]);clear hn
   go_wp2_with fail
   refine (Num_Next2 11 g A l c K3 _ (by omega) (by omega) HN3.o).mono ?_;rintro e1 w4 ⟨m,K4,rfl,hm,hK4,hN4,hb4,hs4⟩;have HK5:=Hd (show K≤K4 by have:=HK3.o; omega);have HN5:=Hd hN4;have HB5:=Hd (HB3.o.trans hb4);clear hK4 hN4 hb4 hs4 HN3 HB3 HK3 HN2 HB2 HN1 HB1 HK1;obtain ⟨n5,hn5⟩:∃ n5:Nat,n5=190+m:=⟨_,rfl⟩;have e5:(190:Int)+(m:Int)=(n5:Int):=(by omega);have hn5':n5≤200:=(by omega);clear hn5
  case' neg =>
   have e17:((k:Int)==17)=false:=(by simp; omega);obtain ⟨w4,rfl⟩:∃ w4,w4=w3:=⟨_,rfl⟩;have HK5:=HK3;have HN5:=HN3;have HB5:=HB3;obtain ⟨n5,rfl⟩:∃ n5,n5=n:=⟨_,rfl⟩;have hn5':=hn';clear HN3 HB3 HK3 HN2 HB2 HN1 HB1 HK1 hn
  all_goals
   go_wp2;have HT0:=Hd (show TxR w g A l c K w4.heap.size 0 none 0 [] w4 from ⟨HB5.o,⟨HB5.o.size,Nat.le_refl _⟩,⟨_,HK5.o,HN5.o⟩,Own.nil _ _ _ _,rfl⟩)
   go_loopw [6,7] (fun b i wr=>∃ (j:Nat) (A':Option Addr) (c':Nat) (xs:List Int),j≤n5∧i=.int .i64 j∧b=.slice A' j c'∧TxR w g A l c K w4.heap.size j A' c' xs wr) (fun _ i _=>n5-(intOf i).toNat)
   case atStart=>exact ⟨0,none,0,[],Nat.zero_le _,rfl,rfl,HT0.o⟩
   case round =>
    clear HT0;obtain ⟨j,A',c',xs,hj,rfl,rfl,hT⟩:=hrel;have HT:=Hd hT;clear hT;by_cases hltj:j<n5
    ·obtain ⟨K',hK',hN'⟩:=HT.o.num;have HKK:=Hd hK';have HNN:=Hd hN';clear hK' hN'
     go_wp2_with fail
     refine (Num_Next2 95 g A l c K' _ (by omega) (by omega) HNN.o).mono ?_;rintro e1 w6 ⟨r,K6,rfl,hr,hK6,hN6,hb6,hs6⟩;have HK6:=Hd (show K≤K6 by have:=HKK.o; omega);have HN6:=Hd hN6;have HB6:=Hd hb6;have HS6:=Hd hs6;clear hK6 hN6 hb6 hs6;have hlow:=HT.o.low;have hown:=HB6.o.own HT.o.own (by omega);obtain ⟨x,hx⟩:∃ x:Int,x=32+(r:Int):=⟨_,rfl⟩;have HO6:=Hd (hown.ext ((Ext.refl w6).alloc (.cells #[.int .u8 (32+(r:Int))] 5)));clear hown
     go_wp2_with (at_builtin; go_must (refine wpList_app rfl (.tmp 31) (.tmp 36) rfl tiU8 rfl HO6.o rfl (Blk.rd (Blk.new _ _ _)) rfl (by simp [Value.oneCell']) (by omega) (by decide) (by have:=HS6.o; simp; omega) ?_); intro A8 c8 w8 hown8 hg8 hat8)
     go_roundw
     case rel =>
      refine ⟨j+1,A8,c8,xs++[32+(r:Int)],by omega,by go_num,rfl,?_,?_,?_,?_,?_⟩
      ·exact ((HT.o.but.trans HB6.o).trans (But.of_ext ((Ext.refl w6).alloc _))).grown hg8 fun b hb=>by have:=(HO6.o.blk hb).1; omega
      ·have:=hg8.size; have:=HS6.o; simp at *; omega
      ·refine ⟨K6,HK6.o,(HN6.o.ext ((Ext.refl w6).alloc _)).grown hg8 (fun b hb e => ?_) (fun b hb b' o hA hl e => ?_)⟩
       ·have:=(HO6.o.blk hb).1; omega
       ·have:=(HO6.o.blk hb).1; have:=HD.o b' o hA hl; omega
      ·rw [List.map_append]; exact hown8
      ·simp [HT.o.len]
     case measure=>simp [intOf]; omega
    ·obtain rfl:j=n5:=by omega
     have hcv:=own_text HT.o.own HT.o.len (dst:=9) Tryz.underlying9;have HZ:=Hd (show (strOfNums xs).size≤200 by rw [strOfNums_size,HT.o.len]; exact hn5');go_wp2;go_ret;obtain ⟨K',hK',hN'⟩:=HT.o.num;exact ⟨_,K',rfl,HZ.o,hK',hN',HT.o.but⟩

def RetDc (w:World) (g:Nat) (A:Option Addr) (l:List Int) (c:Nat) (K:Nat) (e:Ending) (w':World):Prop:=∃ (a b:Int) (K':Nat),e=.returned (.agg #[.int .i64 a,.int .i64 b])∧K≤K'∧NSt w' g A l c K'∧But g w w'

theorem NSt.keep2 {w w':World} {g:Nat} {A:Option Addr} {l:List Int} {c K B:Nat} (h:NSt w g A l c K) (hg:g<B) (hd:∀ b o,A=some ⟨b,o,none⟩→l≠[]→b<B) (hk:Kept (fun b=>b<B) w w'):NSt w' g A l c K:=by
 obtain ⟨h1,S,h2,h3⟩:=h;refine ⟨h1.keep (hk.mono fun b _ e=>by subst e; exact hg),?_⟩
 rcases h3.1 with h4 | ⟨b,o,hA,hb,hlt,hc⟩
 ·exact ⟨fun _=>False,fun h=>h,.inl h4,h3.2⟩
 ·by_cases hl:l=[]
  ·subst hl;exact ⟨fun _=>False,fun h=>h,.inl rfl,h3.2⟩
  ·refine ⟨fun x=>x=b,fun e=>h2 (e ▸ hb),?_⟩;have h5:IntsL w (fun x=>x=b) A l:=⟨.inr ⟨b,o,hA,rfl,hlt,hc⟩,h3.2⟩;exact h5.keep (hk.mono fun x _ hx=>by subst hx; exact hd x o hA hl)
def RetFV (w:World) (g:Nat) (A:Option Addr) (l:List Int) (c:Nat) (K:Nat) (e:Ending) (w':World):Prop:=∃ (x:Val) (K':Nat),e=.returned (.agg #[.int .i64 x.kind,.string x.s,.int .i64 x.dn,.int .i64 x.ds,.int .i64 x.n,.slice none x.cols.length 0,.slice none x.rows.length 0])∧flatV x∧K≤K'∧NSt w' g A l c K'∧But g w w'∧(l.length≤K+1→x.kind=3→738000≤x.n∧x.n≤738999)
theorem Num_Dec (g:Nat) (A:Option Addr) (l:List Int) (c K:Nat) (w:World) (h:NSt w g A l c K):Calls Tryz.prog 92 #[.pointer (some ⟨g,0,none⟩)] w (RetDc w g A l c K):=by
 have hgw:=h.1.1.lt;have hne:w.heap.size≠g:=(by omega);have HN:=Hd (h.ext ((Ext.refl w).alloc (.cells #[.int .i64 0,.int .i64 0] 27)));have HB:=Hd (But.of_ext (g:=g) ((Ext.refl w).alloc (.cells #[.int .i64 0,.int .i64 0] 27)));have HBR:=Hd (Blk.new w 27 #[.int .i64 0,.int .i64 0]);have HK:=Hd (Nat.le_refl K);have HD:=Hd (TxR.data h);clear h
 go_enter Tryz.func92,Tryz.ntmps92
 go_wp2_with fail
 refine (Num_Next2 2001 g A l c K _ (by omega) (by omega) HN.o).mono ?_;rintro e1 w1 ⟨d1,K1,rfl,hrd1,hKd1,hNd1,hbd1,hsd1⟩;have HK':=Hd (show K≤K1 by have:=HK.o; omega);have HB':=Hd (HB.o.trans hbd1);have HBR':=Hd (hbd1.blk HBR.o hne);clear HK HN HB HBR;have HK:=HK';have HN:=Hd hNd1;have HB:=HB';have HBR:=HBR';clear hKd1 hNd1 hbd1 hsd1 HK' HB' HBR'
 go_wp2_with fail
 refine (Num_Next2 8 g A l c K1 _ (by omega) (by omega) HN.o).mono ?_;rintro e1 w2 ⟨d2,K2,rfl,hrd2,hKd2,hNd2,hbd2,hsd2⟩;have HK':=Hd (show K≤K2 by have:=HK.o; omega);have HB':=Hd (HB.o.trans hbd2);have HBR':=Hd (hbd2.blk HBR.o hne);clear HK HN HB HBR;have HK:=HK';have HN:=Hd hNd2;have HB:=HB';have HBR:=HBR';clear hKd2 hNd2 hbd2 hsd2 HK' HB' HBR';by_cases h7:d2=7
 case' pos =>
  have e7:((d2:Int)==7)=true:=by simp [h7]
  go_wp2_with fail
  refine (Num_Next2 2000000000000001 g A l c K2 _ (by omega) (by omega) HN.o).mono ?_;rintro e1 w3 ⟨d3,K3,rfl,hrd3,hKd3,hNd3,hbd3,hsd3⟩;have HK':=Hd (show K≤K3 by have:=HK.o; omega);have HB':=Hd (HB.o.trans hbd3);have HBR':=Hd (hbd3.blk HBR.o hne);clear HK HN HB HBR;have HK:=HK';have HN:=Hd hNd3;have HB:=HB';have HBR:=HBR';clear hKd3 hNd3 hbd3 hsd3 HK' HB' HBR';obtain ⟨n,hn⟩:∃ n:Int,n=(d3:Int)-1000000000000000:=⟨_,rfl⟩;have hn1:-1000000000000000≤n:=(by omega);have hn2:n≤1000000000000000:=(by omega)
 case' neg =>
  have e7:((d2:Int)==7)=false:=(by simp; omega);obtain ⟨K3,rfl⟩:∃ K3,K3=K2:=⟨_,rfl⟩;obtain ⟨w3,rfl⟩:∃ w3,w3=w2:=⟨_,rfl⟩;obtain ⟨n,hn⟩:∃ n:Int,n=(d1:Int)-1000:=⟨_,rfl⟩;have hn1:-1000000000000000≤n:=(by omega);have hn2:n≤1000000000000000:=(by omega)
 all_goals
  go_wp2_with fail
  refine (Num_Next2 4 g A l c K3 _ (by omega) (by omega) HN.o).mono ?_;rintro e1 w4 ⟨d4,K4,rfl,hrd4,hKd4,hNd4,hbd4,hsd4⟩;have HK':=Hd (show K≤K4 by have:=HK.o; omega);have HB':=Hd (HB.o.trans hbd4);have HBR':=Hd (hbd4.blk HBR.o hne);clear HK HN HB HBR;have HK:=HK';have HN:=Hd hNd4;have HB:=HB';have HBR:=HBR';clear hKd4 hNd4 hbd4 hsd4 HK' HB' HBR'
  go_wp2_with fail
  rw [← hn];have hmk:Calls Tryz.prog 117 #[.int .i64 n,.int .i64 (d4:Int)] w4 (fun e w'=>∃ a b t,e=.returned (.tuple #[.agg #[.int .i64 a,.int .i64 b],.bool t])∧Ext w4 w'):=(r04_Make n d4 hn1 hn2 (by omega) _).mono fun e w' h=>⟨_,_,_,h⟩;refine hmk.mono ?_;rintro e1 w5 ⟨a,b,t,rfl,hx5⟩;have HN5:=Hd (HN.o.ext hx5);have HB5:=Hd (HB.o.trans (But.of_ext hx5));have HBR6:=Hd (HBR.o.keep (hx5.kept _));clear HN HB HBR hx5 hmk hn;have r0:=HBR6.o.cell (i:=0) rfl;have r1:=HBR6.o.cell (i:=1) rfl;have rf:=HBR6.o.frozen;have rz:=HBR6.o.lt;go_wp2;refine bodyPost_ret (v:=.agg #[.int .i64 a,.int .i64 b]) (by simp [results,Tryz.results92,go_sem,r0,r1,rz]) rfl ⟨_,_,K4,rfl,HK.o,?_,?_⟩
  ·refine HN5.o.keep2 hgw HD.o (Kept.trans ?_ (Kept.alloc _ _ _))
   iterate 2 with_reducible refine Kept.set2 ?_ (by show ¬ (_<_); omega)
   with_reducible exact Kept.refl _ _
  ·refine But.trans ?_ (But.of_ext ((Ext.refl _).alloc _))
   iterate 2 with_reducible refine But.set ?_ (by omega)
   with_reducible exact HB5.o

theorem Num_Value_1 (g:Nat) (A:Option Addr) (l:List Int) (c K:Nat) (w:World) (h:NSt w g A l c K):Calls Tryz.prog 65 #[.pointer (some ⟨g,0,none⟩),.int .i64 1] w (RetFV w g A l c K):=by
 have hgw:=h.1.1.lt;have hne:w.heap.size≠g:=(by omega);have HN:=Hd (h.ext ((Ext.refl w).alloc (.cells #[.int .i64 0,.string ⟨#[]⟩,.int .i64 0,.int .i64 0,.int .i64 0,.slice none 0 0,.slice none 0 0] 31)));have HB:=Hd (But.of_ext (g:=g) ((Ext.refl w).alloc (.cells #[.int .i64 0,.string ⟨#[]⟩,.int .i64 0,.int .i64 0,.int .i64 0,.slice none 0 0,.slice none 0 0] 31)));have HBR:=Hd (Blk.new w 31 #[.int .i64 0,.string ⟨#[]⟩,.int .i64 0,.int .i64 0,.int .i64 0,.slice none 0 0,.slice none 0 0]);have HK:=Hd (Nat.le_refl K);have HD:=Hd (TxR.data h);clear h
 go_enter Tryz.func65,Tryz.ntmps65
 go_wp2_with fail
 refine (Num_Text g A l c K _ HN.o).mono ?_;rintro e1 w1 ⟨s,K1,rfl,hz1,hK1,hN1,hb1⟩;have HK':=Hd (show K≤K1 by have:=HK.o; omega);have HB':=Hd (HB.o.trans hb1);have HBR':=Hd (hb1.blk HBR.o hne);have HSZ:=Hd (show s.size≤4294967296 by omega);clear HK HN HB HBR;have HK:=HK';have HN:=Hd hN1;have HB:=HB';have HBR:=HBR';clear hK1 hN1 hb1 HK' HB' HBR';have r0:=HBR.o.cell (i:=0) rfl;have r1:=HBR.o.cell (i:=1) rfl;have r2:=HBR.o.cell (i:=2) rfl;have r3:=HBR.o.cell (i:=3) rfl;have r4:=HBR.o.cell (i:=4) rfl;have r5:=HBR.o.cell (i:=5) rfl;have r6:=HBR.o.cell (i:=6) rfl;have rf:=HBR.o.frozen;have rz:=HBR.o.lt;go_wp2;refine bodyPost_ret (v:=.agg #[.int .i64 1,.string s,.int .i64 0,.int .i64 0,.int .i64 0,.slice none 0 0,.slice none 0 0]) (by simp [results,Tryz.results65,go_sem,r0,r1,r2,r3,r4,r5,r6]) rfl ⟨⟨1,s,0,0,0,[],[]⟩,K1,rfl,⟨rfl,rfl,by first | exact HSZ.o | exact Nat.zero_le _⟩,HK.o,?_,?_,fun _ h=>absurd (show (1:Int)=3 from h) (by decide)⟩
 ·refine HN.o.keep2 hgw HD.o ?_
  iterate 7 with_reducible refine Kept.set2 ?_ (by show ¬ (_<_); omega)
  with_reducible exact Kept.refl _ _
 ·iterate 7 with_reducible refine But.set ?_ (by omega)
  with_reducible exact HB.o

theorem Num_Value_2 (g:Nat) (A:Option Addr) (l:List Int) (c K:Nat) (w:World) (h:NSt w g A l c K):Calls Tryz.prog 65 #[.pointer (some ⟨g,0,none⟩),.int .i64 2] w (RetFV w g A l c K):=by
 have hgw:=h.1.1.lt;have hne:w.heap.size≠g:=(by omega);have HN:=Hd (h.ext ((Ext.refl w).alloc (.cells #[.int .i64 0,.string ⟨#[]⟩,.int .i64 0,.int .i64 0,.int .i64 0,.slice none 0 0,.slice none 0 0] 31)));have HB:=Hd (But.of_ext (g:=g) ((Ext.refl w).alloc (.cells #[.int .i64 0,.string ⟨#[]⟩,.int .i64 0,.int .i64 0,.int .i64 0,.slice none 0 0,.slice none 0 0] 31)));have HBR:=Hd (Blk.new w 31 #[.int .i64 0,.string ⟨#[]⟩,.int .i64 0,.int .i64 0,.int .i64 0,.slice none 0 0,.slice none 0 0]);have HK:=Hd (Nat.le_refl K);have HD:=Hd (TxR.data h);clear h
 go_enter Tryz.func65,Tryz.ntmps65
 go_wp2_with fail
 refine (Num_Dec g A l c K _ HN.o).mono ?_;rintro e1 w1 ⟨a,b,K1,rfl,hK1,hN1,hb1⟩;have HK':=Hd (show K≤K1 by have:=HK.o; omega);have HB':=Hd (HB.o.trans hb1);have HBR':=Hd (hb1.blk HBR.o hne);clear HK HN HB HBR;have HK:=HK';have HN:=Hd hN1;have HB:=HB';have HBR:=HBR';clear hK1 hN1 hb1 HK' HB' HBR';have r0:=HBR.o.cell (i:=0) rfl;have r1:=HBR.o.cell (i:=1) rfl;have r2:=HBR.o.cell (i:=2) rfl;have r3:=HBR.o.cell (i:=3) rfl;have r4:=HBR.o.cell (i:=4) rfl;have r5:=HBR.o.cell (i:=5) rfl;have r6:=HBR.o.cell (i:=6) rfl;have rf:=HBR.o.frozen;have rz:=HBR.o.lt;go_wp2;refine bodyPost_ret (v:=.agg #[.int .i64 2,.string ⟨#[]⟩,.int .i64 a,.int .i64 b,.int .i64 0,.slice none 0 0,.slice none 0 0]) (by simp [results,Tryz.results65,go_sem,r0,r1,r2,r3,r4,r5,r6]) rfl ⟨⟨2,⟨#[]⟩,a,b,0,[],[]⟩,K1,rfl,⟨rfl,rfl,by first | exact HSZ.o | exact Nat.zero_le _⟩,HK.o,?_,?_,fun _ h=>absurd (show (2:Int)=3 from h) (by decide)⟩
 ·refine HN.o.keep2 hgw HD.o ?_
  iterate 7 with_reducible refine Kept.set2 ?_ (by show ¬ (_<_); omega)
  with_reducible exact Kept.refl _ _
 ·iterate 7 with_reducible refine But.set ?_ (by omega)
  with_reducible exact HB.o

theorem Num_Value_3 (g:Nat) (A:Option Addr) (l:List Int) (c K:Nat) (w:World) (h:NSt w g A l c K):Calls Tryz.prog 65 #[.pointer (some ⟨g,0,none⟩),.int .i64 3] w (RetFV w g A l c K):=by
 have hgw:=h.1.1.lt;have hne:w.heap.size≠g:=(by omega);have HN:=Hd (h.ext ((Ext.refl w).alloc (.cells #[.int .i64 0,.string ⟨#[]⟩,.int .i64 0,.int .i64 0,.int .i64 0,.slice none 0 0,.slice none 0 0] 31)));have HB:=Hd (But.of_ext (g:=g) ((Ext.refl w).alloc (.cells #[.int .i64 0,.string ⟨#[]⟩,.int .i64 0,.int .i64 0,.int .i64 0,.slice none 0 0,.slice none 0 0] 31)));have HBR:=Hd (Blk.new w 31 #[.int .i64 0,.string ⟨#[]⟩,.int .i64 0,.int .i64 0,.int .i64 0,.slice none 0 0,.slice none 0 0]);have HK:=Hd (Nat.le_refl K);have HD:=Hd (TxR.data h);clear h
 go_enter Tryz.func65,Tryz.ntmps65
 go_wp2_with fail
 refine (Num_Next2 1000 g A l c K _ (by omega) (by omega) HN.o).mono ?_;rintro e1 w1 ⟨d1,K1,rfl,hrd1,hKd1,hNd1,hbd1,hsd1⟩;have HA1:=Hd hKd1;have HK':=Hd (show K≤K1 by have:=HK.o; omega);have HB':=Hd (HB.o.trans hbd1);have HBR':=Hd (hbd1.blk HBR.o hne);clear HK HN HB HBR;have HK:=HK';have HN:=Hd hNd1;have HB:=HB';have HBR:=HBR';clear hKd1 hNd1 hbd1 hsd1 HK' HB' HBR'
 go_wp2_with fail
 refine (Num_Next2 8 g A l c K1 _ (by omega) (by omega) HN.o).mono ?_;rintro e1 w2 ⟨d2,K2,rfl,hrd2,hKd2,hNd2,hbd2,hsd2⟩;have HA2:=Hd hKd2;have HK':=Hd (show K≤K2 by have:=HK.o; omega);have HB':=Hd (HB.o.trans hbd2);have HBR':=Hd (hbd2.blk HBR.o hne);clear HK HN HB HBR;have HK:=HK';have HN:=Hd hNd2;have HB:=HB';have HBR:=HBR';clear hKd2 hNd2 hbd2 hsd2 HK' HB' HBR';by_cases h7:d2=7
 ·have e7:((d2:Int)==7)=true:=by simp [h7]
  go_wp2_with fail
  refine (Num_Next2 3652059 g A l c K2 _ (by omega) (by omega) HN.o).mono ?_;rintro e1 w3 ⟨d3,K3,rfl,hrd3,hKd3,hNd3,hbd3,hsd3⟩;have HK':=Hd (show K≤K3 by have:=HK.o; omega);have HB':=Hd (HB.o.trans hbd3);have HBR':=Hd (hbd3.blk HBR.o hne);clear HK HN HB HBR;have HK:=HK';have HN:=Hd hNd3;have HB:=HB';have HBR:=HBR';clear hKd3 hNd3 hbd3 hsd3 HK' HB' HBR';have r0:=HBR.o.cell (i:=0) rfl;have r1:=HBR.o.cell (i:=1) rfl;have r2:=HBR.o.cell (i:=2) rfl;have r3:=HBR.o.cell (i:=3) rfl;have r4:=HBR.o.cell (i:=4) rfl;have r5:=HBR.o.cell (i:=5) rfl;have r6:=HBR.o.cell (i:=6) rfl;have rf:=HBR.o.frozen;have rz:=HBR.o.lt;go_wp2;refine bodyPost_ret (v:=.agg #[.int .i64 3,.string ⟨#[]⟩,.int .i64 0,.int .i64 0,.int .i64 (d3:Int),.slice none 0 0,.slice none 0 0]) (by simp [results,Tryz.results65,go_sem,r0,r1,r2,r3,r4,r5,r6]) rfl ⟨⟨3,⟨#[]⟩,0,0,(d3:Int),[],[]⟩,K3,rfl,⟨rfl,rfl,by first | exact HSZ.o | exact Nat.zero_le _⟩,HK.o,?_,?_,fun h _=>absurd h7 (by have:=HA1.o; have:=HA2.o; omega)⟩
  ·refine HN.o.keep2 hgw HD.o ?_
   iterate 7 with_reducible refine Kept.set2 ?_ (by show ¬ (_<_); omega)
   with_reducible exact Kept.refl _ _
  ·iterate 7 with_reducible refine But.set ?_ (by omega)
   with_reducible exact HB.o
 ·have e7:((d2:Int)==7)=false:=(by simp; omega);have r0:=HBR.o.cell (i:=0) rfl;have r1:=HBR.o.cell (i:=1) rfl;have r2:=HBR.o.cell (i:=2) rfl;have r3:=HBR.o.cell (i:=3) rfl;have r4:=HBR.o.cell (i:=4) rfl;have r5:=HBR.o.cell (i:=5) rfl;have r6:=HBR.o.cell (i:=6) rfl;have rf:=HBR.o.frozen;have rz:=HBR.o.lt;go_wp2;refine bodyPost_ret (v:=.agg #[.int .i64 3,.string ⟨#[]⟩,.int .i64 0,.int .i64 0,.int .i64 (738000+(d1:Int)),.slice none 0 0,.slice none 0 0]) (by simp [results,Tryz.results65,go_sem,r0,r1,r2,r3,r4,r5,r6]) rfl ⟨⟨3,⟨#[]⟩,0,0,(738000+(d1:Int)),[],[]⟩,K2,rfl,⟨rfl,rfl,by first | exact HSZ.o | exact Nat.zero_le _⟩,HK.o,?_,?_,fun _ _=>⟨by show (738000:Int)≤738000+(d1:Int); omega,by show 738000+(d1:Int)≤(738999:Int); omega⟩⟩
  ·refine HN.o.keep2 hgw HD.o ?_
   iterate 7 with_reducible refine Kept.set2 ?_ (by show ¬ (_<_); omega)
   with_reducible exact Kept.refl _ _
  ·iterate 7 with_reducible refine But.set ?_ (by omega)
   with_reducible exact HB.o

theorem Num_Value_4 (g:Nat) (A:Option Addr) (l:List Int) (c K:Nat) (w:World) (h:NSt w g A l c K):Calls Tryz.prog 65 #[.pointer (some ⟨g,0,none⟩),.int .i64 4] w (RetFV w g A l c K):=by
 have hgw:=h.1.1.lt;have hne:w.heap.size≠g:=(by omega);have HN:=Hd (h.ext ((Ext.refl w).alloc (.cells #[.int .i64 0,.string ⟨#[]⟩,.int .i64 0,.int .i64 0,.int .i64 0,.slice none 0 0,.slice none 0 0] 31)));have HB:=Hd (But.of_ext (g:=g) ((Ext.refl w).alloc (.cells #[.int .i64 0,.string ⟨#[]⟩,.int .i64 0,.int .i64 0,.int .i64 0,.slice none 0 0,.slice none 0 0] 31)));have HBR:=Hd (Blk.new w 31 #[.int .i64 0,.string ⟨#[]⟩,.int .i64 0,.int .i64 0,.int .i64 0,.slice none 0 0,.slice none 0 0]);have HK:=Hd (Nat.le_refl K);have HD:=Hd (TxR.data h);clear h
 go_enter Tryz.func65,Tryz.ntmps65
 go_wp2_with fail
 refine (Num_Next2 2 g A l c K _ (by omega) (by omega) HN.o).mono ?_;rintro e1 w1 ⟨d1,K1,rfl,hrd1,hKd1,hNd1,hbd1,hsd1⟩;have HK':=Hd (show K≤K1 by have:=HK.o; omega);have HB':=Hd (HB.o.trans hbd1);have HBR':=Hd (hbd1.blk HBR.o hne);clear HK HN HB HBR;have HK:=HK';have HN:=Hd hNd1;have HB:=HB';have HBR:=HBR';clear hKd1 hNd1 hbd1 hsd1 HK' HB' HBR';have r0:=HBR.o.cell (i:=0) rfl;have r1:=HBR.o.cell (i:=1) rfl;have r2:=HBR.o.cell (i:=2) rfl;have r3:=HBR.o.cell (i:=3) rfl;have r4:=HBR.o.cell (i:=4) rfl;have r5:=HBR.o.cell (i:=5) rfl;have r6:=HBR.o.cell (i:=6) rfl;have rf:=HBR.o.frozen;have rz:=HBR.o.lt;go_wp2;refine bodyPost_ret (v:=.agg #[.int .i64 4,.string ⟨#[]⟩,.int .i64 0,.int .i64 0,.int .i64 (d1:Int),.slice none 0 0,.slice none 0 0]) (by simp [results,Tryz.results65,go_sem,r0,r1,r2,r3,r4,r5,r6]) rfl ⟨⟨4,⟨#[]⟩,0,0,(d1:Int),[],[]⟩,K1,rfl,⟨rfl,rfl,by first | exact HSZ.o | exact Nat.zero_le _⟩,HK.o,?_,?_,fun _ h=>absurd (show (4:Int)=3 from h) (by decide)⟩
 ·refine HN.o.keep2 hgw HD.o ?_
  iterate 7 with_reducible refine Kept.set2 ?_ (by show ¬ (_<_); omega)
  with_reducible exact Kept.refl _ _
 ·iterate 7 with_reducible refine But.set ?_ (by omega)
  with_reducible exact HB.o

theorem Num_Value_0 (kind:Int) (g:Nat) (A:Option Addr) (l:List Int) (c K:Nat) (w:World) (h:NSt w g A l c K) (k1:(kind==1)=false) (k2:(kind==2)=false) (k3:(kind==3)=false) (k4:(kind==4)=false) (k5:(kind==5)=false):Calls Tryz.prog 65 #[.pointer (some ⟨g,0,none⟩),.int .i64 kind] w (RetFV w g A l c K):=by
 have hgw:=h.1.1.lt;have hne:w.heap.size≠g:=(by omega);have HN:=Hd (h.ext ((Ext.refl w).alloc (.cells #[.int .i64 0,.string ⟨#[]⟩,.int .i64 0,.int .i64 0,.int .i64 0,.slice none 0 0,.slice none 0 0] 31)));have HB:=Hd (But.of_ext (g:=g) ((Ext.refl w).alloc (.cells #[.int .i64 0,.string ⟨#[]⟩,.int .i64 0,.int .i64 0,.int .i64 0,.slice none 0 0,.slice none 0 0] 31)));have HBR:=Hd (Blk.new w 31 #[.int .i64 0,.string ⟨#[]⟩,.int .i64 0,.int .i64 0,.int .i64 0,.slice none 0 0,.slice none 0 0]);have HK:=Hd (Nat.le_refl K);have HD:=Hd (TxR.data h);clear h
 go_enter Tryz.func65,Tryz.ntmps65
 go_wp2_with fail
 refine (Num_Next2 100 g A l c K _ (by omega) (by omega) HN.o).mono ?_;rintro e1 w1 ⟨d1,K1,rfl,hrd1,hKd1,hNd1,hbd1,hsd1⟩;have HK':=Hd (show K≤K1 by have:=HK.o; omega);have HB':=Hd (HB.o.trans hbd1);have HBR':=Hd (hbd1.blk HBR.o hne);clear HK HN HB HBR;have HK:=HK';have HN:=Hd hNd1;have HB:=HB';have HBR:=HBR';clear hKd1 hNd1 hbd1 hsd1 HK' HB' HBR';have r0:=HBR.o.cell (i:=0) rfl;have r1:=HBR.o.cell (i:=1) rfl;have r2:=HBR.o.cell (i:=2) rfl;have r3:=HBR.o.cell (i:=3) rfl;have r4:=HBR.o.cell (i:=4) rfl;have r5:=HBR.o.cell (i:=5) rfl;have r6:=HBR.o.cell (i:=6) rfl;have rf:=HBR.o.frozen;have rz:=HBR.o.lt;go_wp2;refine bodyPost_ret (v:=.agg #[.int .i64 0,.string ⟨#[]⟩,.int .i64 0,.int .i64 0,.int .i64 (d1:Int),.slice none 0 0,.slice none 0 0]) (by simp [results,Tryz.results65,go_sem,r0,r1,r2,r3,r4,r5,r6]) rfl ⟨⟨0,⟨#[]⟩,0,0,(d1:Int),[],[]⟩,K1,rfl,⟨rfl,rfl,by first | exact HSZ.o | exact Nat.zero_le _⟩,HK.o,?_,?_,fun _ h=>absurd (show (0:Int)=3 from h) (by decide)⟩
 ·refine HN.o.keep2 hgw HD.o ?_
  iterate 7 with_reducible refine Kept.set2 ?_ (by show ¬ (_<_); omega)
  with_reducible exact Kept.refl _ _
 ·iterate 7 with_reducible refine But.set ?_ (by omega)
  with_reducible exact HB.o

theorem Num_Value_flat (kind:Int) (g:Nat) (A:Option Addr) (l:List Int) (c K:Nat) (w:World) (h:NSt w g A l c K) (hk:kind≠5):Calls Tryz.prog 65 #[.pointer (some ⟨g,0,none⟩),.int .i64 kind] w (RetFV w g A l c K):=by
 by_cases h1:kind=1
 ·subst h1; exact Num_Value_1 g A l c K w h
 by_cases h2:kind=2
 ·subst h2; exact Num_Value_2 g A l c K w h
 by_cases h3:kind=3
 ·subst h3; exact Num_Value_3 g A l c K w h
 by_cases h4:kind=4
 ·subst h4; exact Num_Value_4 g A l c K w h
 exact Num_Value_0 kind g A l c K w h (by simpa using h1) (by simpa using h2) (by simpa using h3) (by simpa using h4) (by simpa using hk)

def names3:List ByteArray:=[⟨#[97]⟩,⟨#[98]⟩,⟨#[99]⟩]
def names3A:Array Value:=#[.string ⟨#[97]⟩,.string ⟨#[98]⟩,.string ⟨#[99]⟩]
theorem names3_at (k:Nat) (hk:k<3):∃ h:k<names3.length,names3A[k]?=some (.string names3[k])∧names3[k].size≤20:=by
 match k,hk with
 | 0,_=>exact ⟨by decide,rfl,by decide⟩
 | 1,_=>exact ⟨by decide,rfl,by decide⟩
 | 2,_=>exact ⟨by decide,rfl,by decide⟩
 | n+3,h=>omega
structure TB (w:World) (g:Nat) (A:Option Addr) (l:List Int) (c:Nat) (Ac:Option Addr) (cc:Nat) (cols:List ByteArray) (Ak:Option Addr) (ck:Nat) (ks:List Int) (wr:World):Prop where
 but:But g w wr
 gr:Blk wr w.heap.size 31 #[.int .i64 0,.string ⟨#[]⟩,.int .i64 0,.int .i64 0,.int .i64 0,.slice none 0 0,.slice none 0 0]
 gt:Blk wr (w.heap.size+1) 31 #[.int .i64 5,.string ⟨#[]⟩,.int .i64 0,.int .i64 0,.int .i64 0,.slice Ac cols.length cc,.slice none 0 0]
 num:∃ K,l.length≤K∧NSt wr g A l c K
 ownC:OwnSs wr (w.heap.size+2) Ac cc cols
 ownK:OwnIs wr (w.heap.size+2) Ak ck ks
 sep:∀ b,ob Ac=some b→ob Ak≠some b
structure TBA (w:World) (g:Nat) (A:Option Addr) (l:List Int) (c:Nat) (Ac:Option Addr) (cc:Nat) (cols:List ByteArray) (Ak:Option Addr) (ck:Nat) (ks:List Int) (wr:World):Prop where
 but:But g w wr
 gr:Blk wr w.heap.size 31 #[.int .i64 0,.string ⟨#[]⟩,.int .i64 0,.int .i64 0,.int .i64 0,.slice none 0 0,.slice none 0 0]
 gt:∃ x,Blk wr (w.heap.size+1) 31 #[.int .i64 5,.string ⟨#[]⟩,.int .i64 0,.int .i64 0,.int .i64 0,x,.slice none 0 0]
 num:∃ K,l.length≤K∧NSt wr g A l c K
 ownC:OwnSs wr (w.heap.size+2) Ac cc cols
 ownK:OwnIs wr (w.heap.size+2) Ak ck ks
 sep:∀ b,ob Ac=some b→ob Ak≠some b
section
variable {w wr wr':World} {g:Nat} {A Ac Ak:Option Addr} {c cc ck:Nat} {cols:List ByteArray} {l ks:List Int}
theorem TB.more (h:TB w g A l c Ac cc cols Ak ck ks wr) (hx:Ext wr wr'):TB w g A l c Ac cc cols Ak ck ks wr':=by
 obtain ⟨K,hl,hK⟩:=h.num;exact ⟨h.but.trans (But.of_ext hx),h.gr.keep (hx.kept _),h.gt.keep (hx.kept _),⟨K,hl,hK.ext hx⟩,h.ownC.ext hx,h.ownK.ext hx,h.sep⟩
theorem TB.next (h:TB w g A l c Ac cc cols Ak ck ks wr) (hg:g<w.heap.size) (hb:But g wr wr') {K:Nat} (hl:l.length≤K) (hK:NSt wr' g A l c K):TB w g A l c Ac cc cols Ak ck ks wr' :=
 ⟨h.but.trans hb,hb.blk h.gr (by omega),hb.blk h.gt (by omega),⟨K,hl,hK⟩,⟨hb.own h.ownC.1 (by omega),h.ownC.2⟩,hb.own h.ownK (by omega),h.sep⟩
theorem TB.app {A4:Option Addr} {c4:Nat} {t:ByteArray} (h:TB w g A l c Ac cc cols Ak ck ks wr) (hgw:g<w.heap.size) (hD:∀ b o,A=some ⟨b,o,none⟩→l≠[]→b<w.heap.size) (hg:wr.grownBy wr' (ob Ac)) (ho:Own wr' (w.heap.size+2) 9 1 A4 (cols.length+1) c4 (cols.map Value.string++[.string t]))
  (hat:ob A4=ob Ac∨ob A4=some wr.heap.size) (ht:t.size≤4294967296):TBA w g A l c A4 c4 (cols++[t]) Ak ck ks wr':=by
 obtain ⟨K,hl,hK⟩:=h.num;have hk:∀ g,g<w.heap.size+2→Kept (fun b=>b=g) wr wr':=fun g hg'=>Kept.of_grown hg fun b hb _ e=>by
  subst hb;have:=(h.ownC.1.blk e.symm).1;omega
 refine ⟨h.but.grown hg fun b hb=>by have:=(h.ownC.1.blk hb).1; omega,h.gr.keep (hk _ (by omega)),⟨_,h.gt.keep (hk _ (by omega))⟩,⟨K,hl,hK.keep2 hgw hD (Kept.of_grown hg fun b hb _ e=>by have:=(h.ownC.1.blk e.symm).1; omega)⟩,⟨?_,?_⟩,?_,?_⟩
 ·simpa using ho
 ·intro x hx
  rcases List.mem_append.1 hx with hx | hx
  ·exact h.ownC.2 x hx
  ·simp at hx; subst hx; exact ht
 ·exact Own.keep h.ownK (Kept.of_grown hg fun b hb _ e=>h.sep b e.symm hb)
 ·intro b hb hb'
  rcases hat with e | e
  ·rw [e] at hb; exact h.sep b hb hb'
  ·rw [e] at hb;have:=(Own.blk h.ownK hb').2;injection hb with hb;omega
theorem TBA.store (h:TBA w g A l c Ac cc cols Ak ck ks wr) (hgw:g<w.heap.size) (hD:∀ b o,A=some ⟨b,o,none⟩→l≠[]→b<w.heap.size):TB w g A l c Ac cc cols Ak ck ks (wr.setCell ⟨w.heap.size+1,5,none⟩ (.slice Ac cols.length cc)):=by
 obtain ⟨K,hl,hK⟩:=h.num;obtain ⟨x,hx⟩:=h.gt;have ho:=(Only.refl (w.heap.size+1) wr).set 5 (.slice Ac cols.length cc);exact ⟨h.but.set (by omega),h.gr.keep (ho.kept fun b _ e=>by omega),hx.set 5 _,⟨K,hl,hK.keep2 hgw hD (ho.kept fun b _ e=>by omega)⟩,⟨ho.own h.ownC.1 (by omega),h.ownC.2⟩,ho.own h.ownK (by omega),h.sep⟩
theorem TB.appK {A4:Option Addr} {c4:Nat} {x:Int} (h:TB w g A l c Ac cc cols Ak ck ks wr) (hgw:g<w.heap.size) (hD:∀ b o,A=some ⟨b,o,none⟩→l≠[]→b<w.heap.size) (hg:wr.grownBy wr' (ob Ak)) (ho:Own wr' (w.heap.size+2) 3 1 A4 (ks.length+1) c4 (ks.map (Value.int .i64)++[.int .i64 x]))
  (hat:ob A4=ob Ak∨ob A4=some wr.heap.size):TB w g A l c Ac cc cols A4 c4 (ks++[x]) wr':=by
 obtain ⟨K,hl,hK⟩:=h.num;have hk:∀ g,g<w.heap.size+2→Kept (fun b=>b=g) wr wr':=fun g hg'=>Kept.of_grown hg fun b hb _ e=>by
  subst hb;have:=(Own.blk h.ownK e.symm).1;omega
 refine ⟨h.but.grown hg fun b hb=>by have:=(Own.blk h.ownK hb).1; omega,h.gr.keep (hk _ (by omega)),h.gt.keep (hk _ (by omega)),⟨K,hl,hK.keep2 hgw hD (Kept.of_grown hg fun b hb _ e=>by have:=(Own.blk h.ownK e.symm).1; omega)⟩,⟨?_,h.ownC.2⟩,?_,?_⟩
 ·exact h.ownC.1.keep (Kept.of_grown hg fun b hb _ e=>h.sep b hb e.symm)
 ·unfold OwnIs
  simpa using ho
 ·intro b hb hb'
  rcases hat with e | e
  ·rw [e] at hb'; exact h.sep b hb hb'
  ·rw [e] at hb';have:=(h.ownC.1.blk hb).2;injection hb' with hb';omega
end
def tInv (w:World) (g:Nat) (A:Option Addr) (l:List Int) (c:Nat) (Ac:Option Addr) (cc:Nat) (cols:List ByteArray) (Ak:Option Addr) (ck:Nat) (ks:List Int) (_t:ByteArray) (_k:Nat) (γ:Nat) (w':World):Prop:=γ≤4∧(γ≤2→TB w g A l c Ac cc cols Ak ck ks w')
def gTab (w:World) (g:Nat) (A:Option Addr) (l:List Int) (c:Nat) (Ac:Option Addr) (cc:Nat) (cols:List ByteArray) (Ak:Option Addr) (ck:Nat) (ks:List Int) (t:ByteArray) (k:Nat):Nat→List Value→Nat→World→Prop
 | 0,[v],_,_=>v=.pointer (some ⟨w.heap.size+1,5,none⟩)
 | 1,[v],_,_=>v=.slice Ac cols.length cc
 | 2,[v],γ,w'=>∃ g:Nat,v=.slice (some ⟨g,0,none⟩) 3 3∧1≤γ∧(γ=1→Blk w' g 9 names3A)
 | 3,[v],_,_=>v=.int .i64 (k:Int)
 | 4,[v],γ,w'=>∃ g:Nat,v=.pointer (some ⟨g,k,none⟩)∧1≤γ∧(γ=1→Blk w' g 9 names3A)
 | 5,[v],γ,_=>v=.string t∧1≤γ
 | 6,[v],γ,w'=>∃ g:Nat,v=.slice (some ⟨g,0,none⟩) 1 1∧2≤γ∧(γ=2→Blk w' g 9 #[.string t])
 | 7,[v],γ,w'=>∃ (A4:Option Addr) (c4:Nat),v=.slice A4 (cols.length+1) c4∧3≤γ∧(γ=3→TBA w g A l c A4 c4 (cols++[t]) Ak ck ks w')
 | 8,[v],_,_=>v=.pointer (some ⟨w.heap.size+1,5,none⟩)
 | 9,[_],γ,w'=>4≤γ∧(γ=4→∃ (A4:Option Addr) (c4:Nat),TB w g A l c A4 c4 (cols++[t]) Ak ck ks w')
 | _,_,_,_=>True
theorem gTab_st (w:World) (g:Nat) (A:Option Addr) (l:List Int) (c:Nat) (Ac:Option Addr) (cc:Nat) (cols:List ByteArray) (Ak:Option Addr) (ck:Nat) (ks:List Int) (t:ByteArray) (k:Nat):∀ i l' γ v γ' v',SR (tInv w g A l c Ac cc cols Ak ck ks t k) γ v γ' v'→gTab w g A l c Ac cc cols Ak ck ks t k i l' γ v→gTab w g A l c Ac cc cols Ak ck ks t k i l' γ' v':=by
 intro i l' γ v γ' v' r h;have hle:=r.le;unfold gTab at h ⊢;split at h
 all_goals first
  | exact h
  | (obtain ⟨h1,h2⟩:=h; exact ⟨h1,by omega⟩)
  | (obtain ⟨x,h1,h3,h4⟩:=h; exact ⟨x,h1,by omega,fun e=>by rw [r.eq (by omega)]; exact h4 (by omega)⟩)
  | (obtain ⟨x,y,h1,h3,h4⟩:=h; exact ⟨x,y,h1,by omega,fun e=>by rw [r.eq (by omega)]; exact h4 (by omega)⟩)
  | (obtain ⟨h3,h4⟩:=h; exact ⟨by omega,fun e=>by rw [r.eq (by omega)]; exact h4 (by omega)⟩)
def dTab:Nat→List Nat:=fun i=>[i]
def stTab:List Nat:=[100,3,1,100,100,2,2,3,100,4]

def OddC (x:Val):Prop:=x.kind=3→738000≤x.n∧x.n≤738999
def RetMV (w:World) (g:Nat) (e:Ending) (w':World):Prop:=∃ (x:Val) (A:Option Addr) (c:Nat) (B:Option Addr) (e':Nat),e=.returned (.agg #[.int .i64 x.kind,.string x.s,.int .i64 x.dn,.int .i64 x.ds,.int .i64 x.n,.slice A x.cols.length c,.slice B x.rows.length e'])∧(x.cols.length≤c∧x.rows.length≤e')∧RV w' (Fresh w) 1 x A B∧But g w w'∧OddC x
theorem Num_Table (g:Nat) (A:Option Addr) (l:List Int) (c K:Nat) (w:World) (h:NSt w g A l c K) (hK1:l.length≤K+1):Calls Tryz.prog 93 #[.pointer (some ⟨g,0,none⟩)] w (RetMV w g):=by
 have hgw:=h.1.1.lt;have hne:w.heap.size≠g:=(by omega);have HD:=Hd (TxR.data h);have hx0:Ext w ((w.alloc (.cells #[.int .i64 0,.string ⟨#[]⟩,.int .i64 0,.int .i64 0,.int .i64 0,.slice none 0 0,.slice none 0 0] 31)).alloc (.cells #[.int .i64 5,.string ⟨#[]⟩,.int .i64 0,.int .i64 0,.int .i64 0,.slice none 0 0,.slice none 0 0] 31)):=((Ext.refl w).alloc _).alloc _;have HN:=Hd (h.ext hx0);have HB0:=Hd (But.of_ext (g:=g) hx0);have HG0:=Hd ((Blk.new w 31 #[.int .i64 0,.string ⟨#[]⟩,.int .i64 0,.int .i64 0,.int .i64 0,.slice none 0 0,.slice none 0 0]).keep (Kept.alloc _ _ (.cells #[.int .i64 5,.string ⟨#[]⟩,.int .i64 0,.int .i64 0,.int .i64 0,.slice none 0 0,.slice none 0 0] 31)));have HG1:=Hd (show Blk ((w.alloc (.cells #[.int .i64 0,.string ⟨#[]⟩,.int .i64 0,.int .i64 0,.int .i64 0,.slice none 0 0,.slice none 0 0] 31)).alloc (.cells #[.int .i64 5,.string ⟨#[]⟩,.int .i64 0,.int .i64 0,.int .i64 0,.slice none 0 0,.slice none 0 0] 31)) (w.heap.size+1) 31 #[.int .i64 5,.string ⟨#[]⟩,.int .i64 0,.int .i64 0,.int .i64 0,.slice none 0 0,.slice none 0 0] by
  have:=Blk.new (w.alloc (.cells #[.int .i64 0,.string ⟨#[]⟩,.int .i64 0,.int .i64 0,.int .i64 0,.slice none 0 0,.slice none 0 0] 31)) 31 #[.int .i64 5,.string ⟨#[]⟩,.int .i64 0,.int .i64 0,.int .i64 0,.slice none 0 0,.slice none 0 0]
  simpa using this)
 clear h hx0
 go_enter Tryz.func93,Tryz.ntmps93
 go_wp2_with fail
 refine (Num_Next2 4 g A l c K _ (by omega) (by omega) HN.o).mono ?_;rintro e1 w1 ⟨m,K1,rfl,hm,hKK,hN1,hb1,hs1⟩;have HM0:=Hd (show TB w g A l c none 0 [] none 0 [] w1 from ⟨HB0.o.trans hb1,hb1.blk HG0.o hne,hb1.blk HG1.o (by omega),⟨K1,by omega,hN1⟩,OwnSs.nil _ _,OwnIs.nil _ _,fun b hb=>by cases hb⟩);clear hKK hN1 hb1 hs1 HN HB0 HG0 HG1;go_wp2
 go_loopw [5,6] (fun v i wr=>∃ (k:Nat) (Ac:Option Addr) (cc:Nat) (Ak:Option Addr) (ck:Nat) (ks:List Int),k≤m∧i=.int .i64 k∧ks.length=k∧v=.slice Ak k ck∧TB w g A l c Ac cc (names3.take k) Ak ck ks wr) (fun _ i _=>m-(intOf i).toNat)
 case atStart=>exact ⟨0,none,0,none,0,[],Nat.zero_le _,rfl,rfl,rfl,HM0.o⟩
 case round =>
  clear HM0;obtain ⟨k,Ac,cc,Ak,ck,ks,hk,rfl,hkl,rfl,hm0⟩:=hrel;obtain ⟨cols,hcols⟩:∃ cols,cols=names3.take k:=⟨_,rfl⟩;rw [← hcols] at hm0;have HM:=Hd hm0;have HKL:=Hd hkl;have HCO:=Hd hcols;clear hm0 hkl hcols;have HCL:=Hd (show cols.length=k by rw [HCO.o,List.length_take]; have:names3.length=3:=rfl; omega);by_cases hlt:k<m
  ·obtain ⟨hk3,ht,htz⟩:=names3_at k (by omega);obtain ⟨t,htt⟩:∃ t,t=names3[k]:=⟨_,rfl⟩;rw [← htt] at ht htz;have HTT:=Hd ht;have HTZ:=Hd htz;have HTE:=Hd htt;clear ht htz htt
   go_upto_region 7 with fail
   refine wp_region_lin_lit (by kernel_rfl) dTab (by kernel_rfl) (SR (tInv w g A l c Ac cc cols Ak ck ks t k)) (SR.refl _) (SR.trans _) (SN stTab) (gTab w g A l c Ac cc cols Ak ck ks t k) (gTab_st _ _ _ _ _ _ _ _ _ _ _ _ _) 0 (SN.zero (by decide)) ⟨?_,?_,?_,?_,?_,?_,?_,?_,?_,?_,trivial⟩ ?_
   ·refine LinStep.yes fun vals γ w' ρ hR hN hp hρ hc hf hg=>⟨rfl,?_⟩;have hi:=hR.inv ⟨by omega,fun _=>HM.o.more (Ext.refl _).drew⟩;have e3:ρ (.tmp 3)=.pointer (some ⟨w.heap.size+1,0,none⟩):=hρ 3;clear hR hN hp hρ hi;go_light;go_simp;exact ⟨γ,SR.refl _ _ _,fun _ _ _ h=>h,rfl⟩
   ·refine LinStep.yes fun vals γ w' ρ hR hN hp hρ hc hf hg=>⟨rfl,?_⟩;have hi:=hR.inv ⟨by omega,fun _=>HM.o.more (Ext.refl _).drew⟩;have e19:ρ (.tmp 19)=_:=(hρ 19).trans (hp 0 (by decide));have hb:=(hi.2 (by have h:γ<3:=hN; omega)).gt;have k1:=hb.cell (i:=5) rfl;clear hR hN hp hρ hi hb;go_light;go_simp;exact ⟨γ,SR.refl _ _ _,fun _ _ _ h=>h,rfl⟩
   ·refine LinStep.yes fun vals γ w' ρ hR hN hp hρ hc hf hg=>⟨rfl,?_⟩;have hi:=hR.inv ⟨by omega,fun _=>HM.o.more (Ext.refl _).drew⟩;have h0:γ=0:=(by have h:γ<1:=hN; omega);subst h0;have HI:=Hd (hi.2 (by omega));clear hR hN hp hρ hi;go_light;go_simp;exact ⟨1,SR.up (by omega) ⟨by omega,fun _=>HI.o.more ((Ext.refl _).alloc _)⟩,SN.up (by omega) (by decide) rfl,_,rfl,by omega,fun _=>Blk.new _ _ _⟩
   ·refine LinStep.yes fun vals γ w' ρ hR hN hp hρ hc hf hg=>⟨rfl,?_⟩;have hi:=hR.inv ⟨by omega,fun _=>HM.o.more (Ext.refl _).drew⟩;have e6:ρ (.tmp 6)=.int .i64 (k:Int):=hρ 6;clear hR hN hp hρ hi;go_light;go_simp;exact ⟨γ,SR.refl _ _ _,fun _ _ _ h=>h,rfl⟩
   ·refine LinStep.yes fun vals γ w' ρ hR hN hp hρ hc hf hg=>⟨rfl,?_⟩;have hi:=hR.inv ⟨by omega,fun _=>HM.o.more (Ext.refl _).drew⟩;obtain ⟨g',g2,hr1,hbk⟩:=hp 2 (by decide);have e21:ρ (.tmp 21)=_:=(hρ 21).trans g2;have e22:ρ (.tmp 22)=_:=(hρ 22).trans (hp 3 (by decide));have i0:(0:Int)≤(k:Int):=(by omega);have i1:(k:Int)<3:=(by omega);have HBK:=Hd hbk;clear hR hN hp hρ hi g2 hbk;go_light;go_simp;exact ⟨γ,SR.refl _ _ _,fun _ _ _ h=>h,g',rfl,hr1,HBK.o⟩
   ·refine LinStep.yes fun vals γ w' ρ hR hN hp hρ hc hf hg=>⟨rfl,?_⟩;have hi:=hR.inv ⟨by omega,fun _=>HM.o.more (Ext.refl _).drew⟩;obtain ⟨g',g4,hr1,hbk⟩:=hp 4 (by decide);have e23:ρ (.tmp 23)=_:=(hρ 23).trans g4;have q:=(hbk (by have h:γ<2:=hN; omega)).cell HTT.o;clear hR hN hp hρ hi g4 hbk;go_light;go_simp;exact ⟨γ,SR.refl _ _ _,fun _ _ _ h=>h,rfl,hr1⟩
   ·refine LinStep.yes fun vals γ w' ρ hR hN hp hρ hc hf hg=>⟨rfl,?_⟩;have hi:=hR.inv ⟨by omega,fun _=>HM.o.more (Ext.refl _).drew⟩;obtain ⟨g5,hr1⟩:=hp 5 (by decide);have h0:γ=1:=(by have h:γ<2:=hN; omega);subst h0;have e24:ρ (.tmp 24)=_:=(hρ 24).trans g5;have HI:=Hd (hi.2 (by omega));clear hR hN hp hρ hi g5;go_light;go_simp;exact ⟨2,SR.up (by omega) ⟨by omega,fun _=>HI.o.more ((Ext.refl _).alloc _)⟩,SN.up (by omega) (by decide) rfl,_,rfl,by omega,fun _=>Blk.new _ _ _⟩
   ·refine LinStep.yes fun vals γ w' ρ hR hN hp hρ hc hf hg=>⟨rfl,?_⟩;have hi:=hR.inv ⟨by omega,fun _=>HM.o.more (Ext.refl _).drew⟩;obtain ⟨g',g6,hr1,hbk⟩:=hp 6 (by decide);have h0:γ=2:=(by have h:γ<3:=hN; omega);subst h0;have e20:ρ (.tmp 20)=_:=(hρ 20).trans (hp 1 (by decide));have e25:ρ (.tmp 25)=_:=(hρ 25).trans g6;have hd:=hi.2 (by omega);refine lin_app (.tmp 20) (.tmp 25) rfl tiS e20 hd.ownC.1 e25 (hbk rfl).rd rfl (by simp [Value.oneCell']) (by have:=HCL.o; omega) (by decide) (by have h1:=hd.gt.lt; omega) ?_;intro A4 c4 w4 hown4 hg4 hat4;exact ⟨3,SR.up (by omega) ⟨by omega,fun h=>absurd h (by omega)⟩,SN.up (by omega) (by decide) rfl,A4,c4,rfl,by omega,fun _=>hd.app hgw HD.o hg4 hown4 hat4 (by have:=HTZ.o; omega)⟩
   ·refine LinStep.yes fun vals γ w' ρ hR hN hp hρ hc hf hg=>⟨rfl,?_⟩;have hi:=hR.inv ⟨by omega,fun _=>HM.o.more (Ext.refl _).drew⟩;have e3:ρ (.tmp 3)=.pointer (some ⟨w.heap.size+1,0,none⟩):=hρ 3;clear hR hN hp hρ hi;go_light;go_simp;exact ⟨γ,SR.refl _ _ _,fun _ _ _ h=>h,rfl⟩
   ·refine LinStep.yes fun vals γ w' ρ hR hN hp hρ hc hf hg=>⟨rfl,?_⟩;have hi:=hR.inv ⟨by omega,fun _=>HM.o.more (Ext.refl _).drew⟩;obtain ⟨A4,c4,g7,hr3,hda⟩:=hp 7 (by decide);have h0:γ=3:=(by have h:γ<4:=hN; omega);subst h0;have e26:ρ (.tmp 26)=_:=(hρ 26).trans g7;have e27:ρ (.tmp 27)=_:=(hρ 27).trans (hp 8 (by decide));have HA:=Hd (hda rfl);obtain ⟨x,hx⟩:=(hda rfl).gt;have k0:=hx.cell (i:=5) rfl;have kf:=hx.frozen;have kz:=hx.lt;clear hR hN hp hρ hi g7 hda hx;go_light;go_simp;refine ⟨4,SR.up (by omega) ⟨by omega,fun h=>absurd h (by omega)⟩,SN.up (by omega) (by decide) rfl,by omega,fun _=>⟨A4,c4,?_⟩⟩;have:=HA.o.store hgw HD.o
    simpa using this
   ·intro vals γ w' hR hG;have hi:=hR.inv ⟨by omega,fun _=>HM.o.more (Ext.refl _).drew⟩;obtain ⟨h4,h5⟩:=hG 9 (by decide);obtain ⟨A4,c4,hm1⟩:=h5 (by have:=hi.1; omega);have HM1:=Hd hm1;clear hR hG hi h4 h5 hm1;simp only [lexFrame,Act.put,List.setIfInBounds_toArray,List.set_cons_succ,List.set_cons_zero,Nat.zero_add,Nat.reduceAdd];generalize vals 0=u0,vals 1=u1,vals 2=u2,vals 3=u3,vals 4=u4,vals 5=u5,vals 6=u6,vals 7=u7,vals 8=u8,vals 9=u9
    go_wp2_with fail
    obtain ⟨K2,hl2,hN2⟩:=HM1.o.num;refine (Num_Next2 4 g A l c K2 _ (by omega) (by omega) hN2).mono ?_;rintro e3 w3 ⟨r3,K3,rfl,hr3,hK3,hN3,hb3,hs3⟩;have HM3:=Hd (HM1.o.next hgw hb3 (by omega) hN3);clear hl2 hN2 hK3 hN3 hb3 hs3;have hok:=Own.ext HM3.o.ownK ((Ext.refl w3).alloc (.cells #[.int .i64 (1+(r3:Int))] 3));rw [HKL.o] at hok;have HOK:=Hd hok;have hsz3:w.heap.size+2≤w3.heap.size:=(by have:=HM3.o.gt.lt; omega);clear hok HM HM1
    go_wp2_with (at_builtin; go_must (refine wpList_app rfl (.tmp 28) (.tmp 32) rfl tiI rfl HOK.o rfl (Blk.rd (Blk.new _ _ _)) rfl (by simp [Value.oneCell']) (by omega) (by decide) (by simp; omega) ?_); intro A5 c5 w5 hown5 hg5 hat5)
    go_roundw
    case rel =>
     refine ⟨k+1,A4,c4,A5,c5,ks++[1+(r3:Int)],by omega,by go_num,by simp [HKL.o],rfl,?_⟩;have h1:=(HM3.o.more ((Ext.refl w3).alloc (.cells #[.int .i64 (1+(r3:Int))] 3))).appK hgw HD.o hg5 (by rw [HKL.o]; exact hown5) hat5;rw [List.take_succ_eq_append_getElem hk3,← HCO.o,← HTE.o];exact h1
    case measure=>simp [intOf]; omega
  ·go_wp2_with fail
   obtain ⟨K2,hl2,hN2⟩:=HM.o.num;refine (Num_Next2 5 g A l c K2 _ (by omega) (by omega) hN2).mono ?_;rintro e3 w3 ⟨r3,K3,rfl,hr3,hK3,hN3,hb3,hs3⟩;have hr0:r3=0:=(by omega);subst hr0;have HM3:=Hd (HM.o.next hgw hb3 (by omega) hN3);clear hl2 hN2 hK3 hN3 hb3 hs3 HM;go_wp2
   go_loop [8] (fun i=>i=.int .i64 0) (fun _=>0)
   case atStart=>rfl
   case round =>
    subst hrel;have hgt:=HM3.o.gt;have hgr:=HM3.o.gr;have t0:=hgt.cell (i:=0) rfl;have r0:=hgr.cell (i:=0) rfl;have t1:=hgt.cell (i:=1) rfl;have r1:=hgr.cell (i:=1) rfl;have t2:=hgt.cell (i:=2) rfl;have r2:=hgr.cell (i:=2) rfl;have t3:=hgt.cell (i:=3) rfl;have r3:=hgr.cell (i:=3) rfl;have t4:=hgt.cell (i:=4) rfl;have r4:=hgr.cell (i:=4) rfl;have t5:=hgt.cell (i:=5) rfl;have r5:=hgr.cell (i:=5) rfl;have t6:=hgt.cell (i:=6) rfl;have r6:=hgr.cell (i:=6) rfl;have rf:=hgr.frozen;have rz:=hgr.lt;have HCC:=Hd (show cols.length≤cc from HM3.o.ownC.1.cap);clear hgt hgr;go_wp2;refine bodyPost_ret (v:=.agg #[.int .i64 5,.string ⟨#[]⟩,.int .i64 0,.int .i64 0,.int .i64 0,.slice Ac cols.length cc,.slice none 0 0]) (by simp [results,Tryz.results93,go_sem,r0,r1,r2,r3,r4,r5,r6]) rfl ⟨⟨5,⟨#[]⟩,0,0,0,cols,[]⟩,Ac,cc,none,0,rfl,⟨HCC.o,Nat.le_refl _⟩,?_,?_,fun h=>absurd (show (5:Int)=3 from h) (by decide)⟩
    ·refine RV.mk (Nat.zero_le _) ?_ Rows.nil;have h1:=HM3.o.ownC.strs (T:=fun b=>w.heap.size+2≤b) (by have:=HCL.o; omega) fun b hb=>(HM3.o.ownC.1.blk hb).1;refine (h1.keep ?_).mono fun b _ hb=>by unfold Fresh; omega
     iterate 7 with_reducible refine Kept.set2 ?_ (by show ¬ (_≤_); omega)
     with_reducible exact Kept.refl _ _
    ·iterate 7 with_reducible refine But.set ?_ (by omega)
     with_reducible exact HM3.o.but

theorem Num_Value_5 (g:Nat) (A:Option Addr) (l:List Int) (c K:Nat) (w:World) (h:NSt w g A l c K) (hK1:l.length≤K+1):Calls Tryz.prog 65 #[.pointer (some ⟨g,0,none⟩),.int .i64 5] w (RetMV w g):=by
 have hgw:=h.1.1.lt;have hne:w.heap.size≠g:=(by omega);have HN:=Hd (h.ext ((Ext.refl w).alloc (.cells #[.int .i64 0,.string ⟨#[]⟩,.int .i64 0,.int .i64 0,.int .i64 0,.slice none 0 0,.slice none 0 0] 31)));have HB:=Hd (But.of_ext (g:=g) ((Ext.refl w).alloc (.cells #[.int .i64 0,.string ⟨#[]⟩,.int .i64 0,.int .i64 0,.int .i64 0,.slice none 0 0,.slice none 0 0] 31)));have HBR0:=Hd (Blk.new w 31 #[.int .i64 0,.string ⟨#[]⟩,.int .i64 0,.int .i64 0,.int .i64 0,.slice none 0 0,.slice none 0 0]);clear h
 go_enter Tryz.func65,Tryz.ntmps65
 go_wp2_with fail
 refine (Num_Table g A l c K _ HN.o hK1).mono ?_;rintro e1 w1 ⟨x,A1,c1,B1,e1',rfl,hcp,hv,hb1,hoc⟩;have HOC:=Hd hoc;clear hoc;have HBR:=Hd (hb1.blk HBR0.o hne);have HV:=Hd hv;have HB1:=Hd (HB.o.trans hb1);clear hv hb1;have r0:=HBR.o.cell (i:=0) rfl;have r1:=HBR.o.cell (i:=1) rfl;have r2:=HBR.o.cell (i:=2) rfl;have r3:=HBR.o.cell (i:=3) rfl;have r4:=HBR.o.cell (i:=4) rfl;have r5:=HBR.o.cell (i:=5) rfl;have r6:=HBR.o.cell (i:=6) rfl;have rf:=HBR.o.frozen;have rz:=HBR.o.lt;go_wp2;refine bodyPost_ret (v:=(.agg #[.int .i64 x.kind,.string x.s,.int .i64 x.dn,.int .i64 x.ds,.int .i64 x.n,.slice A1 x.cols.length c1,.slice B1 x.rows.length e1'])) (by simp [results,Tryz.results65,go_sem,r0,r1,r2,r3,r4,r5,r6]) rfl ⟨x,A1,c1,B1,e1',rfl,hcp,?_,?_,HOC.o⟩
 ·refine (HV.o.keep ?_).mono fun b _ hb=>by unfold Fresh at hb ⊢; simp at hb; omega
  iterate 7 with_reducible refine Kept.set2 ?_ (by unfold Fresh; simp)
  with_reducible exact Kept.refl _ _
 ·iterate 7 with_reducible refine But.set ?_ (by omega)
  with_reducible exact HB1.o
theorem Num_ValueM (kind:Int) (g:Nat) (A:Option Addr) (l:List Int) (c K:Nat) (w:World) (h:NSt w g A l c K) (hK1:l.length≤K+1):Calls Tryz.prog 65 #[.pointer (some ⟨g,0,none⟩),.int .i64 kind] w (RetMV w g):=by
 by_cases hk:kind=5
 ·subst hk; exact Num_Value_5 g A l c K w h hK1
 ·refine (Num_Value_flat kind g A l c K w h hk).mono ?_;rintro e1 w1 ⟨x,K',rfl,⟨h1,h2,h3⟩,-,-,hb,ho⟩;exact ⟨x,none,0,none,0,rfl,⟨by rw [h1]; exact Nat.le_refl _,by rw [h2]; exact Nat.le_refl _⟩,RV.mk h3 (by rw [h1]; exact Strs.nil) (by rw [h2]; exact Rows.nil),hb,ho hK1⟩
theorem r06_Made (l:List Int) (hl2:l.length≤2) (A:Option Addr) (c:Nat) (w:World) (S:Nat→Prop) (hl:IntsL w S A l):Calls Tryz.prog 29 #[.slice A l.length c] w (fun e w'=>∃ x,OddC x∧RetV w (Fresh w) 1 x e w'):=by
 have hx0:Ext w ((w.alloc (.cells #[.int .i64 0,.string ⟨#[]⟩,.int .i64 0,.int .i64 0,.int .i64 0,.slice none 0 0,.slice none 0 0] 31)).alloc (.cells #[.slice A l.length c,.int .i64 0] 70)):=((Ext.refl w).alloc _).alloc _;have HX0:=Hd hx0;have HN:=Hd (show NSt ((w.alloc (.cells #[.int .i64 0,.string ⟨#[]⟩,.int .i64 0,.int .i64 0,.int .i64 0,.slice none 0 0,.slice none 0 0] 31)).alloc (.cells #[.slice A l.length c,.int .i64 0] 70)) (w.heap.size+1) A l c 0 from ⟨⟨by
  have:=Blk.new (w.alloc (.cells #[.int .i64 0,.string ⟨#[]⟩,.int .i64 0,.int .i64 0,.int .i64 0,.slice none 0 0,.slice none 0 0] 31)) 70 #[.slice A l.length c,.int .i64 0]
  simpa using this,Nat.zero_le _⟩,fun b=>b<w.heap.size,by omega,(hl.mono (T:=fun b=>b<w.heap.size) fun i hi _=>hi).keep (hx0.kept _)⟩)
 have HBR0:=Hd ((Blk.new w 31 #[.int .i64 0,.string ⟨#[]⟩,.int .i64 0,.int .i64 0,.int .i64 0,.slice none 0 0,.slice none 0 0]).keep (Kept.alloc _ _ (.cells #[.slice A l.length c,.int .i64 0] 70)));clear hl hx0
 go_enter Tryz.func29,Tryz.ntmps29
 go_wp2_with fail
 refine (Num_Next2 6 (w.heap.size+1) A l c 0 _ (by omega) (by omega) HN.o).mono ?_;rintro e1 w1 ⟨k,K1,rfl,hk,hK1,hN1,hb1,hs1⟩;have HN1:=Hd hN1;have HK1:=Hd (show l.length≤K1+1 by omega);have HB1:=Hd hb1;have HS1:=Hd hs1;clear hK1 hN1 hb1 hs1
 go_wp2_with fail
 refine (Num_ValueM (k:Int) (w.heap.size+1) A l c K1 _ HN1.o HK1.o).mono ?_;rintro e1 w2 ⟨x,A1,c1,B1,e1',rfl,hcp,hv,hb2,hoc⟩;have HOC:=Hd hoc;clear hoc;have HBR:=Hd (hb2.blk (HB1.o.blk HBR0.o (by omega)) (by omega));have HV:=Hd hv;have HB2:=Hd (But.exts HX0.o (HB1.o.trans hb2) (by omega));have hz:w.heap.size+2≤w1.heap.size:=(by have:=HS1.o; simp at this; omega);clear hv hb2;have r0:=HBR.o.cell (i:=0) rfl;have r1:=HBR.o.cell (i:=1) rfl;have r2:=HBR.o.cell (i:=2) rfl;have r3:=HBR.o.cell (i:=3) rfl;have r4:=HBR.o.cell (i:=4) rfl;have r5:=HBR.o.cell (i:=5) rfl;have r6:=HBR.o.cell (i:=6) rfl;have rf:=HBR.o.frozen;have rz:=HBR.o.lt;go_wp2;refine bodyPost_ret (v:=(.agg #[.int .i64 x.kind,.string x.s,.int .i64 x.dn,.int .i64 x.ds,.int .i64 x.n,.slice A1 x.cols.length c1,.slice B1 x.rows.length e1'])) (by simp [results,Tryz.results29,go_sem,r0,r1,r2,r3,r4,r5,r6]) rfl ⟨x,HOC.o,A1,c1,B1,e1',rfl,hcp,?_,?_⟩
 ·refine (HV.o.keep ?_).mono fun b _ hb=>by unfold Fresh at hb ⊢; omega
  iterate 7 with_reducible refine Kept.set2 ?_ (by unfold Fresh; omega)
  with_reducible exact Kept.refl _ _
 ·iterate 7 with_reducible refine Ext.set2 ?_ (by omega) _
  with_reducible exact HB2.o
end Go.Proofs.YthmckfloppblcaaGreatDoor
