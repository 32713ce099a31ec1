/- Lemmas. No conditions. -/
import Derived.Test.YtidacnalcdhckaaGreatDoorWq34
set_option maxRecDepth 100000
set_option maxHeartbeats 4000000
namespace Go.Proofs.YtidacnalcdhckaaGreatDoor
open Go Go.RowKit Tryz
variable {qP:Prop}

def F4A(w:World)(g:Nat)(A:OA)(l:List Int)(c:Nat)(K:Nat)(e:Ending)(w':World):Prop:=∃ (a b:Int) (K':Nat),e=.returned (.agg #[.I a,.I b])∧Dz a b=true∧K≤K'∧NSt w' g A l c K'∧But g w w'
def WF(w:World)(g:Nat)(A:OA)(l:List Int)(c:Nat)(K:Nat)(e:Ending)(w':World):Prop:=∃ (x:Val) (K':Nat),e=.returned (Vq x none 0 none 0)∧BG x=true∧CBA x∧K≤K'∧NSt w' g A l c K'∧But g w w'
theorem DHA(g:Nat)(A:OA)(l:List Int)(c K:Nat)(w:World)(h:NSt w g A l c K):Cl 102 #[.pointer (some ⟨g,0,none⟩)] w (F4A w g A l c K):=by
 have hgw:=h.1.1.lt;have hne:w.heap.size≠g:=AA;obtain ⟨HN,HB,HBR,HK,HD⟩:=Hd5 (h.ext ((Ext.refl w).alloc (.cells #[.I 0,.I 0] 25))) (H7A (g:=g) ((Ext.refl w).alloc (.cells #[.I 0,.I 0] 25))) (Blk.new w 25 #[.I 0,.I 0]) (Nat.le_refl K) (TxR.data h);clear h
 go_enter func102,ntmps102
 go_wp2_with fail
 refine (Bb 2001 g A l c K _ AA AA HN.o).mono ?_;rintro e1 w1 ⟨d1,K1,rfl,hrd1,hKd1,hNd1,hbd1,hsd1⟩;obtain ⟨HK',HB',HBR'⟩:=Hd3 (show K≤K1 by have:=HK.o;omega) (HB.o.trans hbd1) (hbd1.blk HBR.o hne);clear HK HN HB HBR;have HK:=HK';have HN:=Hd hNd1;have HB:=HB';have HBR:=HBR';clear hKd1 hNd1 hbd1 hsd1 HK' HB' HBR'
 go_wp2_with fail
 refine (Bb 8 g A l c K1 _ AA AA HN.o).mono ?_;rintro e1 w2 ⟨d2,K2,rfl,hrd2,hKd2,hNd2,hbd2,hsd2⟩;obtain ⟨HK',HB',HBR'⟩:=Hd3 (show K≤K2 by have:=HK.o;omega) (HB.o.trans hbd2) (hbd2.blk HBR.o hne);clear HK HN HB HBR;have HK:=HK';have HN:=Hd hNd2;have HB:=HB';have HBR:=HBR';clear hKd2 hNd2 hbd2 hsd2 HK' HB' HBR';by_cases h7:d2=7
 case' pos =>
  have e7:((d2:Int)==7)=true:=by simp [h7]
  go_wp2_with fail
  refine (Bb 2000000000000001 g A l c K2 _ AA AA HN.o).mono ?_;rintro e1 w3 ⟨d3,K3,rfl,hrd3,hKd3,hNd3,hbd3,hsd3⟩;obtain ⟨HK',HB',HBR'⟩:=Hd3 (show K≤K3 by have:=HK.o;omega) (HB.o.trans hbd3) (hbd3.blk HBR.o hne);clear HK HN HB HBR;have HK:=HK';have HN:=Hd hNd3;have HB:=HB';have HBR:=HBR';clear hKd3 hNd3 hbd3 hsd3 HK' HB' HBR';obtain ⟨n,hn⟩:∃ n:Int,n=(d3:Int)-1000000000000000:=⟨_,rfl⟩;have hn1:-1000000000000000≤n:=(by omega);have hn2:n≤1000000000000000:=by omega
 case' neg =>
  have e7:((d2:Int)==7)=false:=AI;obtain ⟨K3,rfl⟩:=eqx K2;obtain ⟨w3,rfl⟩:=eqx w2;obtain ⟨n,hn⟩:∃ n:Int,n=(d1:Int)-1000:=⟨_,rfl⟩;have hn1:-1000000000000000≤n:=(by omega);have hn2:n≤1000000000000000:=by omega
 all_goals
  go_wp2_with fail
  refine (Bb 4 g A l c K3 _ AA AA HN.o).mono ?_;rintro e1 w4 ⟨d4,K4,rfl,hrd4,hKd4,hNd4,hbd4,hsd4⟩;obtain ⟨HK',HB',HBR'⟩:=Hd3 (show K≤K4 by have:=HK.o;omega) (HB.o.trans hbd4) (hbd4.blk HBR.o hne);clear HK HN HB HBR;have HK:=HK';have HN:=Hd hNd4;have HB:=HB';have HBR:=HBR';clear hKd4 hNd4 hbd4 hsd4 HK' HB' HBR'
  go_wp2_with fail
  rw [←hn];have hmk:Cl 172 #[.I n,.I (d4:Int)] w4 (fun e w'=>∃ a b t,e=.returned (.tuple #[.agg #[.I a,.I b],.bool t])∧Dz a b=true∧Ext w4 w'):=(Yb n d4 hn1 hn2 AA _).mono fun e w' h=>⟨_,_,_,h.1,EzA _ _ _,h.2⟩;refine hmk.mono ?_;rintro e1 w5 ⟨a,b,t,rfl,hdr,hx5⟩;obtain ⟨HDR,HN5,HB5,HBR6⟩:=Hd4 hdr (HN.o.ext hx5) (HB.o.trans (H7A hx5)) (HBR.o.keep (hx5.kept _));clear HN HB HBR hx5 hmk hn hdr;obtain ⟨r0,r1⟩:=HBR6.o.qs2;have rf:=HBR6.o.frozen;have rz:=HBR6.o.lt;go_wp2;refine bodyPost_ret (v:=.agg #[.I a,.I b]) (by simp [results,results102,go_sem,r0,r1,rz]) rfl ⟨_,_,K4,rfl,HDR.o,HK.o,?_,?_⟩
  ·refine HN5.o.keep2 hgw HD.o (Kept.trans ?_ (Kept.alloc _ _ _))
   iterate 2 with_reducible refine Kept.set2 ?_ (by show ¬(_<_);omega)
   exact FY
  ·refine But.trans ?_ (H7A (exaa _))
   iterate 2 with_reducible refine But.set ?_ AA
   with_reducible exact HB5.o

theorem LQ(h:qP:=by
 iterate 7 with_reducible refine Kept.set2 ?_ (by show ¬(_<_);omega)
 exact FY):qP:=h
theorem E9(h:qP:=by
 refine HN.o.keep2 hgw HD.o ?_;exact LQ):qP:=h
theorem FG(h:qP:=by
 iterate 7 with_reducible refine But.set ?_ (by omega)
 with_reducible exact HB.o):qP:=h
theorem DW(h:qP:=by simp [results,results35,go_sem,r0,r1,r2,r3,r4,r5,r6]):qP:=h
theorem E6(h:qP:=by first|exact HSZ.o|exact AN):qP:=h
theorem Wz(g:Nat)(A:OA)(l:List Int)(c K:Nat)(w:World)(h:NSt w g A l c K):Cl 35 #[.pointer (some ⟨g,0,none⟩),.I 1] w (WF w g A l c K):=by
 have hgw:=h.1.1.lt;have hne:w.heap.size≠g:=AA;obtain ⟨HN,HB,HBR,HK,HD⟩:=Hd5 (h.ext ((Ext.refl w).alloc (.cells Vz 29))) (H7A (g:=g) ((Ext.refl w).alloc (.cells Vz 29))) (Blk.new w 29 Vz) (Nat.le_refl K) (TxR.data h);clear h
 go_enter func35,ntmps35
 go_wp2_with fail
 refine (CsA g A l c K _ HN.o).mono ?_;rintro e1 w1 ⟨s,K1,rfl,htb,hz1,hK1,hN1,hb1⟩;have HTB:=Hd htb;clear htb;obtain ⟨HK',HB',HBR',HSZ⟩:=Hd4 (show K≤K1 by have:=HK.o;omega) (HB.o.trans hb1) (hb1.blk HBR.o hne) (show s.size≤4294967296 by omega);clear HK HN HB HBR;have HK:=HK';have HN:=Hd hN1;have HB:=HB';have HBR:=HBR';clear hK1 hN1 hb1 HK' HB' HBR';obtain ⟨r0,r1,r2,r3,r4,r5,r6⟩:=HBR.o.qs7;have rf:=HBR.o.frozen;have rz:=HBR.o.lt;go_wp2;refine bodyPost_ret (v:=.agg #[.I 1,.string s,.I 0,.I 0,.I 0,.slice none 0 0,.slice none 0 0]) DW rfl ⟨⟨1,s,0,0,0,[],[]⟩,K1,rfl,DsA HTB.o,⟨rfl,rfl,E6⟩,HK.o,?_,?_⟩
 ·exact E9
 ·exact FG

theorem XJ(g:Nat)(A:OA)(l:List Int)(c K:Nat)(w:World)(h:NSt w g A l c K):Cl 35 #[.pointer (some ⟨g,0,none⟩),.I 2] w (WF w g A l c K):=by
 have hgw:=h.1.1.lt;have hne:w.heap.size≠g:=AA;obtain ⟨HN,HB,HBR,HK,HD⟩:=Hd5 (h.ext ((Ext.refl w).alloc (.cells Vz 29))) (H7A (g:=g) ((Ext.refl w).alloc (.cells Vz 29))) (Blk.new w 29 Vz) (Nat.le_refl K) (TxR.data h);clear h
 go_enter func35,ntmps35
 go_wp2_with fail
 refine (DHA g A l c K _ HN.o).mono ?_;rintro e1 w1 ⟨a,b,K1,rfl,hdr,hK1,hN1,hb1⟩;have HDR:=Hd hdr;clear hdr;obtain ⟨HK',HB',HBR'⟩:=Hd3 (show K≤K1 by have:=HK.o;omega) (HB.o.trans hb1) (hb1.blk HBR.o hne);clear HK HN HB HBR;have HK:=HK';have HN:=Hd hN1;have HB:=HB';have HBR:=HBR';clear hK1 hN1 hb1 HK' HB' HBR';obtain ⟨r0,r1,r2,r3,r4,r5,r6⟩:=HBR.o.qs7;have rf:=HBR.o.frozen;have rz:=HBR.o.lt;go_wp2;refine bodyPost_ret (v:=.agg #[.I 2,.string ⟨#[]⟩,.I a,.I b,.I 0,.slice none 0 0,.slice none 0 0]) DW rfl ⟨⟨2,⟨#[]⟩,a,b,0,[],[]⟩,K1,rfl,EsA HDR.o,⟨rfl,rfl,E6⟩,HK.o,?_,?_⟩
 ·exact E9
 ·exact FG

theorem XK(g:Nat)(A:OA)(l:List Int)(c K:Nat)(w:World)(h:NSt w g A l c K):Cl 35 #[.pointer (some ⟨g,0,none⟩),.I 3] w (WF w g A l c K):=by
 have hgw:=h.1.1.lt;have hne:w.heap.size≠g:=AA;obtain ⟨HN,HB,HBR,HK,HD⟩:=Hd5 (h.ext ((Ext.refl w).alloc (.cells Vz 29))) (H7A (g:=g) ((Ext.refl w).alloc (.cells Vz 29))) (Blk.new w 29 Vz) (Nat.le_refl K) (TxR.data h);clear h
 go_enter func35,ntmps35
 go_wp2_with fail
 refine (Bb 1000 g A l c K _ AA AA HN.o).mono ?_;rintro e1 w1 ⟨d1,K1,rfl,hrd1,hKd1,hNd1,hbd1,hsd1⟩;obtain ⟨HA1,HK',HB',HBR'⟩:=Hd4 hKd1 (show K≤K1 by have:=HK.o;omega) (HB.o.trans hbd1) (hbd1.blk HBR.o hne);clear HK HN HB HBR;have HK:=HK';have HN:=Hd hNd1;have HB:=HB';have HBR:=HBR';clear hKd1 hNd1 hbd1 hsd1 HK' HB' HBR'
 go_wp2_with fail
 refine (Bb 8 g A l c K1 _ AA AA HN.o).mono ?_;rintro e1 w2 ⟨d2,K2,rfl,hrd2,hKd2,hNd2,hbd2,hsd2⟩;obtain ⟨HA2,HK',HB',HBR'⟩:=Hd4 hKd2 (show K≤K2 by have:=HK.o;omega) (HB.o.trans hbd2) (hbd2.blk HBR.o hne);clear HK HN HB HBR;have HK:=HK';have HN:=Hd hNd2;have HB:=HB';have HBR:=HBR';clear hKd2 hNd2 hbd2 hsd2 HK' HB' HBR';by_cases h7:d2=7
 ·have e7:((d2:Int)==7)=true:=by simp [h7]
  go_wp2_with fail
  refine (Bb 3652059 g A l c K2 _ AA AA HN.o).mono ?_;rintro e1 w3 ⟨d3,K3,rfl,hrd3,hKd3,hNd3,hbd3,hsd3⟩;obtain ⟨HK',HB',HBR'⟩:=Hd3 (show K≤K3 by have:=HK.o;omega) (HB.o.trans hbd3) (hbd3.blk HBR.o hne);clear HK HN HB HBR;have HK:=HK';have HN:=Hd hNd3;have HB:=HB';have HBR:=HBR';clear hKd3 hNd3 hbd3 hsd3 HK' HB' HBR';obtain ⟨r0,r1,r2,r3,r4,r5,r6⟩:=HBR.o.qs7;have rf:=HBR.o.frozen;have rz:=HBR.o.lt;go_wp2;refine bodyPost_ret (v:=.agg #[.I 3,.string ⟨#[]⟩,.I 0,.I 0,.I (d3:Int),.slice none 0 0,.slice none 0 0]) DW rfl ⟨⟨3,⟨#[]⟩,0,0,(d3:Int),[],[]⟩,K3,rfl,CHA AA AA,⟨rfl,rfl,E6⟩,HK.o,?_,?_⟩
  ·exact E9
  ·exact FG
 ·have e7:((d2:Int)==7)=false:=AI;obtain ⟨r0,r1,r2,r3,r4,r5,r6⟩:=HBR.o.qs7;have rf:=HBR.o.frozen;have rz:=HBR.o.lt;go_wp2;refine bodyPost_ret (v:=.agg #[.I 3,.string ⟨#[]⟩,.I 0,.I 0,.I (738000+(d1:Int)),.slice none 0 0,.slice none 0 0]) DW rfl ⟨⟨3,⟨#[]⟩,0,0,(738000+(d1:Int)),[],[]⟩,K2,rfl,CHA AA AA,⟨rfl,rfl,E6⟩,HK.o,?_,?_⟩
  ·exact E9
  ·exact FG

theorem W7(g:Nat)(A:OA)(l:List Int)(c K:Nat)(w:World)(h:NSt w g A l c K):Cl 35 #[.pointer (some ⟨g,0,none⟩),.I 4] w (WF w g A l c K):=by
 have hgw:=h.1.1.lt;have hne:w.heap.size≠g:=AA;obtain ⟨HN,HB,HBR,HK,HD⟩:=Hd5 (h.ext ((Ext.refl w).alloc (.cells Vz 29))) (H7A (g:=g) ((Ext.refl w).alloc (.cells Vz 29))) (Blk.new w 29 Vz) (Nat.le_refl K) (TxR.data h);clear h
 go_enter func35,ntmps35
 go_wp2_with fail
 refine (Bb 2 g A l c K _ AA AA HN.o).mono ?_;rintro e1 w1 ⟨d1,K1,rfl,hrd1,hKd1,hNd1,hbd1,hsd1⟩;obtain ⟨HK',HB',HBR'⟩:=Hd3 (show K≤K1 by have:=HK.o;omega) (HB.o.trans hbd1) (hbd1.blk HBR.o hne);clear HK HN HB HBR;have HK:=HK';have HN:=Hd hNd1;have HB:=HB';have HBR:=HBR';clear hKd1 hNd1 hbd1 hsd1 HK' HB' HBR';obtain ⟨r0,r1,r2,r3,r4,r5,r6⟩:=HBR.o.qs7;have rf:=HBR.o.frozen;have rz:=HBR.o.lt;go_wp2;refine bodyPost_ret (v:=.agg #[.I 4,.string ⟨#[]⟩,.I 0,.I 0,.I (d1:Int),.slice none 0 0,.slice none 0 0]) DW rfl ⟨⟨4,⟨#[]⟩,0,0,(d1:Int),[],[]⟩,K1,rfl,FYA AA AA,⟨rfl,rfl,E6⟩,HK.o,?_,?_⟩
 ·exact E9
 ·exact FG

theorem Wv(kind:Int)(g:Nat)(A:OA)(l:List Int)(c K:Nat)(w:World)(h:NSt w g A l c K)(k1:(kind==1)=false)(k2:(kind==2)=false)(k3:(kind==3)=false)(k4:(kind==4)=false)(k5:(kind==5)=false):Cl 35 #[.pointer (some ⟨g,0,none⟩),.I kind] w (WF w g A l c K):=by
 have hgw:=h.1.1.lt;have hne:w.heap.size≠g:=AA;obtain ⟨HN,HB,HBR,HK,HD⟩:=Hd5 (h.ext ((Ext.refl w).alloc (.cells Vz 29))) (H7A (g:=g) ((Ext.refl w).alloc (.cells Vz 29))) (Blk.new w 29 Vz) (Nat.le_refl K) (TxR.data h);clear h
 go_enter func35,ntmps35
 go_wp2_with fail
 refine (Bb 100 g A l c K _ AA AA HN.o).mono ?_;rintro e1 w1 ⟨d1,K1,rfl,hrd1,hKd1,hNd1,hbd1,hsd1⟩;obtain ⟨HK',HB',HBR'⟩:=Hd3 (show K≤K1 by have:=HK.o;omega) (HB.o.trans hbd1) (hbd1.blk HBR.o hne);clear HK HN HB HBR;have HK:=HK';have HN:=Hd hNd1;have HB:=HB';have HBR:=HBR';clear hKd1 hNd1 hbd1 hsd1 HK' HB' HBR';obtain ⟨r0,r1,r2,r3,r4,r5,r6⟩:=HBR.o.qs7;have rf:=HBR.o.frozen;have rz:=HBR.o.lt;go_wp2;refine bodyPost_ret (v:=.agg #[.I 0,.string ⟨#[]⟩,.I 0,.I 0,.I (d1:Int),.slice none 0 0,.slice none 0 0]) DW rfl ⟨⟨0,⟨#[]⟩,0,0,(d1:Int),[],[]⟩,K1,rfl,FZA AA AA,⟨rfl,rfl,E6⟩,HK.o,?_,?_⟩
 ·exact E9
 ·exact FG

theorem JW(kind:Int)(g:Nat)(A:OA)(l:List Int)(c K:Nat)(w:World)(h:NSt w g A l c K)(hk:kind≠5):Cl 35 #[.pointer (some ⟨g,0,none⟩),.I kind] w (WF w g A l c K):=by
 by_cases h1:kind=1
 ·subst h1;exact Wz g A l c K w h
 by_cases h2:kind=2
 ·subst h2;exact XJ g A l c K w h
 by_cases h3:kind=3
 ·subst h3;exact XK g A l c K w h
 by_cases h4:kind=4
 ·subst h4;exact W7 g A l c K w h
 exact Wv kind g A l c K w h (by simpa using h1) Dj (by simpa using h3) (by simpa using h4) (by simpa using hk)

def ZaS(v:Value)(m:Nat):Prop:=∃ s:BA,v=.string s∧s.size≤m
def ZaH(v:Value):Prop:=∃ s:Sh,v=(Sq s)∧ShN 1000 s
theorem GAA:(prog.info? 32).map (·.size)=some 5:=by kernel_rfl
def ZaB(g5 k5:Nat)(w':World):Prop:=∃ r:Nat,Blk w' g5 32 #[.I (k5:Int),.I (r:Int),.I 110,.string ⟨#[]⟩,.string ⟨#[]⟩]
def ZaI(v:Value)(m:Nat):Prop:=∃ r:Nat,v=.I (r:Int)∧r<m
def ZaJ(g5:Nat)(w0 wx:World):Prop:=∃ s:Sh,ShN 100 s∧Blk wx g5 32 (Sp s)∧Ext w0 wx
def ZaQ(g3:Nat)(wx:World):Prop:=∃ ns:List Int,ns.length=6∧Blk wx g3 113 (ns.map (Value.int .i64)).toArray
theorem ZaQ.six{g3:Nat}{wx:World}(h:ZaQ g3 wx):∃ c0 c1 c2 c3 c4 c5:Int,Blk wx g3 113 #[.I c0,.I c1,.I c2,.I c3,.I c4,.I c5]:=by
 obtain ⟨ns,hl,hb⟩:=h
 match ns,hl,hb with
 |[a,b,c,d,e,f],_,hb=>exact ⟨a,b,c,d,e,f,hb⟩
def GyA(w:World)(e:Ending)(w':World):Prop:=∃ s:Sh,ShN 1000 s∧e=.returned (Sq s)∧Ext w w'
theorem VI(h:qP:=by
 go_wp2
 go_meet
 case rel=>exact ⟨⟨ns,HNS.o,HB3.o⟩,HX.o⟩):qP:=h
theorem UB(h:qP:=by
 have hk:=hN.o.key (k:=1007) (by decide);have hxx:=hR.o.ext0 (fun m b _ hm=>by rw [hm.1];exact hk);have m0:w'.cell? ⟨g5,0,none⟩=some (.I (k5:Int)):=(HB5.o.keep (hxx.kept _)).q0;have m1:w'.cell? ⟨g3,1,none⟩=some (.I c1):=(HB3.o.keep (hxx.kept _)).q1;clear hxx hk;exact Qk):qP:=h
theorem SC(h:qP:=by
 rintro e1 w3 ⟨s,he,hs,hx⟩;exact ⟨_,he,γ,H4A _ γ hx,fun _ _ _ h=>h,s,rfl,hs⟩):qP:=h
theorem PQ(h:qP:=by
 go_wp2
 go_meet
 case rel=>exact ⟨⟨⟨k5,r,110,⟨#[]⟩,⟨#[]⟩⟩,⟨AN,AN⟩,HB7.o,HX7.o⟩,HX7.o,HB37.o⟩):qP:=h
theorem Gc(h:qP:=by rw [hm.1];exact hk):qP:=h
theorem EJA(l:List Int)(A:OA)(c:Nat)(w:World)(S:NP)(hl:IntsL w S A l):Cl 38 #[.slice A l.length c] w (GyA w):=by
 obtain ⟨w0,hw0⟩:=eqx (w.alloc (.cells #[.I 0,.I 0,.I 0,.string ⟨#[]⟩,.string ⟨#[]⟩] 32));obtain ⟨g2,hg2⟩:=eqx w.heap.size;have HX0:=Hd (show Ext w w0 by rw [hw0];exact (Ext.refl w).alloc _);have HB2:=Hd (show Blk w0 g2 32 #[.I 0,.I 0,.I 0,.string ⟨#[]⟩,.string ⟨#[]⟩] by rw [hw0,hg2];exact Blk.new _ _ _);obtain ⟨w1,hw1⟩:=eqx (w0.alloc (.cells #[.I 0,.I 0,.I 0,.I 0,.I 0,.I 0] 113));obtain ⟨g3,hg3⟩:=eqx (w.heap.size+1);have hg30:g3=w0.heap.size:=(by rw [hg3,hw0];simp);obtain ⟨HX1,HB31,HL0⟩:=Hd3 (show Ext w0 w1 by rw [hw1];exact (Ext.refl w0).alloc _) (show Blk w1 g3 113 #[.I 0,.I 0,.I 0,.I 0,.I 0,.I 0] by rw [hw1,hg30];exact Blk.new _ _ _) ((hl.mono (T:=fun b=>b<w.heap.size) fun i hi _=>hi).keep (HX0.o.kept _));obtain ⟨HL,HW1,HG2,HG3,HG30⟩:=Hd5 ((hl.mono (T:=fun b=>b<w.heap.size) fun i hi _=>hi).keep ((HX0.o.trans HX1.o).kept _)) (show w1=(w.alloc (.cells #[.I 0,.I 0,.I 0,.string ⟨#[]⟩,.string ⟨#[]⟩] 32)).alloc (.cells #[.I 0,.I 0,.I 0,.I 0,.I 0,.I 0] 113) by rw [hw1,hw0]) hg2 hg3 hg30;have hg3l:w0.heap.size≤g3:=AA;have hll:=hl.2;clear hw0 hw1 hg2 hg3 hg30 hl
 go_enter func38,ntmps38
 go_upto_region 2 with fail
 rw [←HW1.o,←HG3.o,←HG2.o]
 go_upto_block 0 with fail
 go_cut [] (fun wx=>ZaQ g3 wx∧Ext w0 wx)
 case first =>
  go_wp2
  go_loopw [4] (fun i wr=>∃ k:Nat,k≤6∧i=.I k∧ZaQ g3 wr∧Ext w0 wr) (fun i _=>6-(intOf i).toNat)
  case atStart=>exact ⟨0,AA,rfl,⟨[0,0,0,0,0,0],rfl,HB31.o⟩,HX1.o⟩
  case round =>
   obtain ⟨k,hk,rfl,⟨ns,hns,hb3⟩,hx⟩:=hrel;obtain ⟨HB3,HX,HNS⟩:=Hd3 hb3 hx hns;by_cases hlt:k<6
   ·by_cases hlk:k<l.length
    ·obtain ⟨b,o,rfl,hbw,hc⟩:=(HL0.o.keep (hx.kept _)).at_ hlk;have q0:=hb3.cell (i:=k) (u:=.I (ns.getD k 0)) (by simp [List.getD,List.getElem?_eq_getElem (show k<ns.length by omega)]);have qf:=HB3.o.frozen;have ql:=HB3.o.lt;obtain ⟨lk,hlk'⟩:=eqx (l[k]);rw [←hlk'] at hc;clear hx hns hb3 hlk';go_wp2;go_roundw
     case rel =>
      refine ⟨k+1,AA,AE,⟨ns.set k lk,by rw [List.length_set];exact HNS.o,?_⟩,HX.o.set2 hg3l _⟩;have hb:=HB3.o.set k (.I lk)
      simpa [List.map_set] using hb
     case measure=>simp [intOf];omega
    ·clear hx hb3 hns;exact VI
   ·clear hx hb3 hns;have hk6:k=6:=AA;subst hk6;exact VI
 case rest =>
 obtain ⟨w2,rfl⟩:=eqx wc;obtain ⟨hq6,hx2⟩:=hcut;obtain ⟨c0,c1,c2,c3,c4,c5,hb3⟩:=hq6.six;clear hq6;obtain ⟨HB32,HX2,HM5,HM6,HM7,HMM,HWD⟩:=Hd7 hb3 hx2 (show ∀ w',Cl 106 #[.I c0,.I 5] w' (Ob w' 5) from fun w'=>NE c0 5 AB AB w') (show ∀ w',Cl 106 #[.I c1,.I 6] w' (Ob w' 6) from fun w'=>NE c1 6 AB AB w') (show ∀ w',Cl 106 #[.I c5,.I 7] w' (Ob w' 7) from fun w'=>NE c5 7 AB AB w') (fun (a:Int) (m:Nat) (h0:0<m) (h1:m≤1000) w'=>NE a m h0 h1 w') (fun (a:Int) w'=>ESA a w');have q0:=hb3.q0;clear hb3 hx2 HB31 HX1 HL HL0
 go_wp2_with fail
 refine (HM5.o _).mono ?_;rintro e1 wm ⟨k5,hk5,rfl,rfl⟩;obtain ⟨g5,hg5⟩:=eqx w2.heap.size;obtain ⟨w6,hw6⟩:=eqx (w2.alloc (.cells #[.I (k5:Int),.I 0,.I 110,.string ⟨#[]⟩,.string ⟨#[]⟩] 32));have hx6:Ext w2 w6:=(by rw [hw6];exact (Ext.refl _).alloc _);obtain ⟨HB5,HX6,HG5,HB3,HNE,HW6,HGG⟩:=Hd7 (show Blk w6 g5 32 #[.I (k5:Int),.I 0,.I 110,.string ⟨#[]⟩,.string ⟨#[]⟩] by rw [hw6,hg5];exact Blk.new _ _ _) (HX2.o.trans hx6) (show w0.heap.size≤g5 by rw [hg5];exact HX2.o.size) (HB32.o.keep (hx6.kept _)) (show g3≠g5 by have:=HB32.o.lt;omega) hw6 hg5;clear hw6 hg5 hx6 q0
 go_upto_region 7 with fail
 rw [←HW6.o,←HGG.o];refine Qa (fun m b=>m=1007∧b=g5) (lk 8 [1007]) ?_;refine Qp ?_;refine Qm (fun vals γ w' ρ hR hN hp hρ zs zg=>by
  exact UB) ?_
 refine Qp ?_;refine Qm (fun vals γ w' ρ hR hN hp hρ zs zg=>by
  exact UB) ?_
 refine Qs (FP fun v γ w'=>ZaI v 6) (H1A ?_) ?_ ?_
 ·intro v γ w1 γ' w2 r h;exact h
 ·intro vals γ w' ρ hR hN hp hρ zs zg;refine Qr ?_;refine (HM6.o w').mono ?_;rintro e1 w3 ⟨r,hr,he,hw⟩;subst hw;exact ⟨_,he,γ,LZ.refl _ _ _,fun _ _ _ h=>h,r,rfl,hr⟩
 refine Qs (FP fun v γ w'=>ZaI v 20) (H1A ?_) ?_ ?_
 ·intro v γ w1 γ' w2 r h;exact h
 ·intro vals γ w' ρ hR hN hp hρ zs zg;obtain ⟨r,hv4,hr6⟩:=hp.o 4 AB;have e31:=(hρ.o 31).trans hv4;have hkr:IntKind.i64.wrap ((k5:Int)+(r:Int))=((k5+r:Nat):Int):=Ee;have HKR:=Hd hkr;clear hkr;refine Qr ?_;exact ⟨γ,LZ.refl _ _ _,fun _ _ _ h=>h,k5+r,by rw [←HKR.o];rfl,by have:=hr6;omega⟩
 refine Qp ?_;refine Qs (fun _ γ w'=>ZaB g5 k5 w'∧γ 1007=true) ?_ ?_ ?_
 ·rintro l γ w1 γ' w2 rr ⟨⟨r,h1⟩,h2⟩;exact ⟨⟨r,h1.keep (rr.keptS fun b _ e m hm=>IX)⟩,rr.done _ h2⟩
 ·intro vals γ w' ρ hR hN hp hρ zs zg;obtain ⟨r,hv5,hr20⟩:=hp.o 5 AB;have e32:=(hρ.o 32).trans hv5;have hk:=hN.o.key (k:=1007) AB;have hb0:=HB5.o.keep (hR.o.kept0 (S:=fun b=>b=g5) fun b _ e m hm=>Gc);have HB0:=Hd hb0;have HK:=Hd hk;have q1:=hb0.q1;have qf:=hb0.frozen;have ql:=hb0.lt;clear hb0 hk hv5;refine Qr ?_;refine ⟨γ.put 1007,H2A HK.o rfl rfl rfl Y78171d3d0 (fun b hb hm=>((Only.refl g5 w').set 1 (.I (r:Int))).block b fun e=>hm ⟨rfl,e⟩),LK.done AB,⟨r,?_⟩,AU⟩;have hb1:=HB0.o.set 1 (.I (r:Int))
  simpa using hb1
 intro vals γ w7 hR hG;refine Qx ?_;obtain ⟨⟨r,hb7⟩,-⟩:=hG 7 AB;obtain ⟨HB7,HX7,HK7⟩:=Hd3 hb7 (show Ext w0 w7 from Au HX6.o (hR.buts (S:=fun b=>b=g5) (fun m b _ hm _=>hm.2)) (fun b hb=>by rw [hb];exact HG5.o)) (hR.kept0 (S:=fun b=>b=g3) fun b _ e m hm=>absurd (e.symm.trans hm.2) HNE.o);clear hR hG hb7;have HB37:=Hd (HB3.o.keep HK7.o);have q5:=HB37.o.q5
 go_wp2_with fail
 refine (HM7.o _).mono ?_;rintro e2 wm2 ⟨m7,hm7,rfl,rfl⟩;by_cases h4:m7=4
 ·subst h4;clear q5;have HB27:=Hd (HB2.o.keep (HX7.o.kept _))
  go_upto_region 17 with fail
  refine Qa (fun m b=>m=1008∧b=g2) (lk 9 [1008]) ?_;refine Qp ?_;refine Qm (fun vals γ w' ρ hR hN hp hρ zs zg=>by
   have hk:=hN.o.key (k:=1008) AB;have hxx:=hR.o.ext0 (fun m b _ hm=>Gc);have m0:w'.cell? ⟨g3,3,none⟩=some (.I c3):=(HB37.o.keep (hxx.kept _)).q3;clear hxx hk;exact Qk) ?_
  refine Qs (FP fun v γ w'=>ZaS v 10) (H1A ?_) ?_ ?_
  ·intro v γ w1 γ' w2 r h;exact h
  ·intro vals γ w' ρ hR hN hp hρ zs zg;refine Qr ?_;refine (HWD.o c3 w').mono ?_;exact SC
  refine Qp ?_;refine Qm (fun vals γ w' ρ hR hN hp hρ zs zg=>by
   have hk:=hN.o.key (k:=1008) AB;have hxx:=hR.o.ext0 (fun m b _ hm=>Gc);have m0:w'.cell? ⟨g3,4,none⟩=some (.I c4):=(HB37.o.keep (hxx.kept _)).q4;clear hxx hk;exact Qk) ?_
  refine Qs (FP fun v γ w'=>ZaS v 10) (H1A ?_) ?_ ?_
  ·intro v γ w1 γ' w2 r h;exact h
  ·intro vals γ w' ρ hR hN hp hρ zs zg;refine Qr ?_;refine (HWD.o c4 w').mono ?_;exact SC
  refine Qs (FP fun v γ w'=>ZaS v 20) (H1A ?_) ?_ ?_
  ·intro v γ w1 γ' w2 r h;exact h
  ·intro vals γ w' ρ hR hN hp hρ zs zg;obtain ⟨s,hv2,hs2⟩:=hp.o 2 AB;have e61:=(hρ.o 61).trans hv2;obtain ⟨s',hv5,hs5⟩:=hp.o 5 AB;have e64:=(hρ.o 64).trans hv5;have hsz:¬(9223372036854775807<s.size+s'.size):=AA;have HSS:=Hd (show (s++s').size≤20 by rw [ByteArray.size_append];omega);refine Qr ?_;exact ⟨γ,LZ.refl _ _ _,fun _ _ _ h=>h,s++s',rfl,HSS.o⟩
  refine Qs (FP fun v γ w'=>ZaH v) (H1A ?_) ?_ ?_
  ·intro v γ w1 γ' w2 r h;exact h
  ·intro vals γ w' ρ hR hN hp hρ zs zg;obtain ⟨s6,hv6,hs6⟩:=hp.o 6 AB;have e65:=(hρ.o 65).trans hv6;have HSS:=Hd hs6;refine Qr ?_;refine (DOA s6 (by have:=HSS.o;omega) w').mono ?_;rintro e1 w3 ⟨he,hx⟩;exact ⟨_,he,γ,H4A _ γ hx,fun _ _ _ h=>h,ofS s6,rfl,⟨Nat.le_trans (YT s6).1 AB,Nat.le_trans (YT s6).2 AB⟩⟩
  refine Chain.step (fun _ γ w'=>∃ s:Sh,ShN 1000 s∧Blk w' g2 32 (Sp s)∧γ 1008=true) AG ?_ ?_ ?_
  ·rintro l γ w1 γ' w2 rr ⟨s,h0,h1,h2⟩;exact ⟨s,h0,h1.keep (rr.keptS fun b _ e m hm=>IX),rr.done _ h2⟩
  ·intro vals γ w' ρ hR hN hp hρ hc hf hg;refine ⟨rfl,?_⟩;have e2:=hρ 2;(conv at e2=>rhs;whnf);obtain ⟨s,hv7,hsn⟩:=hp 7 AB;have e66:=(hρ 66).trans hv7;have hk:=hN.key (k:=1008) AB;have hb0:=HB27.o.keep (hR.kept0 (S:=fun b=>b=g2) fun b _ e m hm=>Gc);refine BY 32 rfl e2 e66 hb0 GAA rfl AD ?_;intro w4 hb4 ho4;exact ⟨γ.put 1008,H2A hk ho4.os ho4.tape ho4.output (Nat.le_of_eq ho4.size.symm) (fun b hb hm=>ho4.block b fun e=>hm ⟨rfl,e⟩),LK.done AB,s,hsn,hb4,AU⟩
  intro vals γ w8 hR hG;refine Qx ?_;obtain ⟨s,hsn,hb8,-⟩:=hG 8 AB;obtain ⟨s0,s1,s2,s3,s4⟩:=hb8.qs5;have HSN:=Hd hsn;have HXF:=Hd (show Ext w w8 from Au (HX0.o.trans HX7.o) (hR.buts (S:=fun b=>b=g2) (fun m b _ hm _=>hm.2)) (fun b hb=>Bq));clear hR hG hb8 hsn;go_wp2;refine bodyPost_ret (v:=(Sq s)) (by simp [results,results38,go_sem,s0,s1,s2,s3,s4]) rfl ⟨s,HSN.o,rfl,HXF.o⟩
 ·have hm6:m7=0∨m7=1∨m7=2∨m7=3∨m7=5∨m7=6:=AA;clear q5 h4;have hr7:=HB7.o.lt
  go_upto_block 2 with fail
  go_cut [] (fun wx=>ZaJ g5 w0 wx∧Ext w0 wx∧Blk wx g3 113 #[.I c0,.I c1,.I c2,.I c3,.I c4,.I c5])
  case first =>
   obtain ⟨q0,q1,q2⟩:=HB37.o.qs3;obtain ⟨s0,s1,s2⟩:=HB7.o.qs3;have sf:=HB7.o.frozen;have sl:=HB7.o.lt
   rcases hm6 with rfl|rfl|rfl|rfl|rfl|rfl
   ·exact PQ
   ·go_wp2
    go_meet
    case rel =>
     have hx:=HX7.o.set2 (i:=2) HG5.o (.I c2);exact ⟨⟨⟨k5,r,c2,⟨#[]⟩,⟨#[]⟩⟩,⟨AN,AN⟩,by simpa using HB7.o.set 2 (.I c2),hx⟩,hx,HB37.o.keep ((Kept.refl _ _).set2 (fun e=>HNE.o e.symm))⟩
   ·go_wp2
    go_meet
    case rel =>
     have hx:=HX7.o.set2 (i:=1) HG5.o (.I 200);exact ⟨⟨⟨k5,200,110,⟨#[]⟩,⟨#[]⟩⟩,⟨AN,AN⟩,by simpa using HB7.o.set 1 (.I 200),hx⟩,hx,HB37.o.keep ((Kept.refl _ _).set2 (fun e=>HNE.o e.symm))⟩
   ·go_wp2_with fail
    refine (HMM.o c0 210 AB AB _).mono ?_;rintro e3 wm3 ⟨t1,ht1,rfl,rfl⟩
    go_upto_region 15 with fail
    obtain ⟨a1,ha1⟩:∃ z:Int,z=(t1:Int)-3:=⟨_,rfl⟩;obtain ⟨w8,hw8⟩:=eqx (w7.setCell ⟨g5,0,none⟩ (.I ((t1:Int)-3)));rw [←hw8];have hx8:Ext w0 w8:=(by rw [hw8];exact HX7.o.set2 HG5.o _);have hb8:Blk w8 g5 32 #[.I a1,.I (r:Int),.I 110,.string ⟨#[]⟩,.string ⟨#[]⟩]:=(by rw [hw8,ha1];simpa using HB7.o.set 0 (.I ((t1:Int)-3)));have hb38:=HB37.o.keep (show Kept _ w7 w8 by rw [hw8];exact (Kept.refl _ _).set2 (fun e=>HNE.o e.symm));obtain ⟨HX8,HB8,HB38⟩:=Hd3 hx8 hb8 hb38;clear hw8 hx8 hb8 hb38 q0 q1 q2 s0 s1 s2 sf sl ha1;have q1:=HB38.o.q1
    go_wp2_with fail
    refine (HMM.o c1 210 AB AB _).mono ?_;rintro e4 wm4 ⟨t2,ht2,rfl,rfl⟩;have s1:=HB8.o.q1;have sf:=HB8.o.frozen;have sl:=HB8.o.lt;go_wp2
    go_meet
    case rel =>
     have hx:=HX8.o.set2 (i:=1) HG5.o (.I ((t2:Int)-3));exact ⟨⟨⟨a1,(t2:Int)-3,110,⟨#[]⟩,⟨#[]⟩⟩,⟨AN,AN⟩,by simpa using HB8.o.set 1 (.I ((t2:Int)-3)),hx⟩,hx,HB38.o.keep ((Kept.refl _ _).set2 (fun e=>HNE.o e.symm))⟩
   ·go_wp2_with fail
    refine (HMM.o c2 128 AB AB _).mono ?_;rintro e3 wm3 ⟨t1,ht1,rfl,rfl⟩;go_wp2
    go_meet
    case rel =>
     have hx:=HX7.o.set2 (i:=2) HG5.o (.I (t1:Int));exact ⟨⟨⟨k5,r,t1,⟨#[]⟩,⟨#[]⟩⟩,⟨AN,AN⟩,by simpa using HB7.o.set 2 (.I (t1:Int)),hx⟩,hx,HB37.o.keep ((Kept.refl _ _).set2 (fun e=>HNE.o e.symm))⟩
   ·exact PQ
  case rest =>
  obtain ⟨w9,rfl⟩:=eqx wc;obtain ⟨⟨s,hsn,hb9,hx9⟩,-,hb39⟩:=hcut;obtain ⟨HSN,HB9,HX9,HB39⟩:=Hd4 hsn hb9 hx9 hb39;clear hsn hb9 hx9 hb39 hm6;have q3:=HB39.o.q3
  go_wp2_with fail
  refine (HWD.o c3 _).mono ?_;rintro e3 wa ⟨sb,rfl,hsb,hxa⟩;obtain ⟨HSB,HXA,HB9A,HB3A⟩:=Hd4 hsb (HX9.o.trans hxa) (HB9.o.keep (hxa.kept _)) (HB39.o.keep (hxa.kept _));clear hxa hsb q3;have s3:=HB9A.o.q3;have sf:=HB9A.o.frozen;have sl:=HB9A.o.lt
  go_upto_region 21 with fail
  obtain ⟨wb,hwb⟩:=eqx (wa.setCell ⟨g5,3,none⟩ (.string sb));rw [←hwb];have hxb:Ext w0 wb:=(by rw [hwb];exact HXA.o.set2 HG5.o _);have hbb:Blk wb g5 32 #[.I s.least,.I s.most,.I s.cls,.string sb,.string s.e]:=(by rw [hwb];simpa using HB9A.o.set 3 (.string sb));have hb3b:=HB3A.o.keep (show Kept _ wa wb by rw [hwb];exact (Kept.refl _ _).set2 (fun e=>HNE.o e.symm));obtain ⟨HXB,HBB,HB3B⟩:=Hd3 hxb hbb hb3b;clear hwb hxb hbb hb3b s3 sf sl;have q4:=HB3B.o.q4
  go_wp2_with fail
  refine (HWD.o c4 _).mono ?_;rintro e4 wd ⟨se,rfl,hse,hxd⟩;obtain ⟨HSE,HXD,HBD,HB3D⟩:=Hd4 hse (HXB.o.trans hxd) (HBB.o.keep (hxd.kept _)) (HB3B.o.keep (hxd.kept _));clear hxd hse q4;have s4:=HBD.o.q4;have sf:=HBD.o.frozen;have sl:=HBD.o.lt
  go_upto_region 22 with fail
  obtain ⟨we,hwe⟩:=eqx (wd.setCell ⟨g5,4,none⟩ (.string se));rw [←hwe];have hxe:Ext w0 we:=(by rw [hwe];exact HXD.o.set2 HG5.o _);have hbe:Blk we g5 32 #[.I s.least,.I s.most,.I s.cls,.string sb,.string se]:=(by rw [hwe];simpa using HBD.o.set 4 (.string se));have hb3e:=HB3D.o.keep (show Kept _ wd we by rw [hwe];exact (Kept.refl _ _).set2 (fun e=>HNE.o e.symm));obtain ⟨HXE,HBE,HB3E⟩:=Hd3 hxe hbe hb3e;clear hwe hxe hbe hb3e s4 sf sl;have q2:=HB3E.o.q2
  go_wp2_with fail
  refine (HMM.o c2 3 AB AB _).mono ?_;rintro e5 wm5 ⟨t3,ht3,rfl,rfl⟩;clear q2
  go_upto_if 84 with fail
  go_cut [] (fun wx=>ZaJ g5 w0 wx∧Blk wx g3 113 #[.I c0,.I c1,.I c2,.I c3,.I c4,.I c5])
  case first =>
   have s3:=HBE.o.q3;have sf:=HBE.o.frozen;have sl:=HBE.o.lt;by_cases h0:t3=0
   ·subst h0;go_wp2
    go_meet
    case rel=>exact ⟨⟨⟨s.least,s.most,s.cls,⟨#[]⟩,se⟩,⟨AN,by have:=HSE.o;show se.size≤100;omega⟩,by simpa using HBE.o.set 3 (.string ⟨#[]⟩),HXE.o.set2 HG5.o _⟩,HB3E.o.keep ((Kept.refl _ _).set2 (fun e=>HNE.o e.symm))⟩
   ·have hz:((t3:Int)==0)=false:=AI;have hz2:¬((t3:Int)=0):=AA;go_wp2
    go_meet
    case rel=>exact ⟨⟨⟨s.least,s.most,s.cls,sb,se⟩,⟨by have:=HSB.o;show sb.size≤100;omega,by have:=HSE.o;show se.size≤100;omega⟩,HBE.o,HXE.o⟩,HB3E.o⟩
  case rest =>
  obtain ⟨wg,rfl⟩:=eqx wc;obtain ⟨⟨s2,hsn2,hbg,hxg⟩,hb3g⟩:=hcut;obtain ⟨HSN2,HBG,HXG⟩:=Hd3 hsn2 hbg hxg;clear hsn2 hbg hxg;have q2:=hb3g.q2;clear hb3g
  go_wp2_with fail
  refine (HMM.o c2 5 AB AB _).mono ?_;rintro e6 wm6 ⟨t4,ht4,rfl,rfl⟩;clear q2
  go_upto_if 89 with fail
  go_cut [] (fun wx=>ZaJ g5 w0 wx)
  case first =>
   have s4:=HBG.o.q4;have sf:=HBG.o.frozen;have sl:=HBG.o.lt;by_cases h0:t4<2
   ·have h1:(t4:Int)<2:=AA;go_wp2
    go_meet
    case rel=>exact ⟨⟨s2.least,s2.most,s2.cls,s2.b,⟨#[]⟩⟩,⟨HSN2.o.1,AN⟩,by simpa using HBG.o.set 4 (.string ⟨#[]⟩),HXG.o.set2 HG5.o _⟩
   ·have h1:¬((t4:Int)<2):=AA;go_wp2
    go_meet
    case rel=>exact ⟨s2,HSN2.o,HBG.o,HXG.o⟩
  case rest =>
  obtain ⟨wh,rfl⟩:=eqx wc;obtain ⟨s9,hsn9,hb9,hx9⟩:=hcut;have HSN9:=Hd hsn9;have HX9':=Hd (HX0.o.trans hx9);have hb2:=HB2.o.keep (hx9.kept _);have hgw:w.heap.size≤g2:=Bq;obtain ⟨r0,r1,r2,r3,r4⟩:=hb9.qs5;obtain ⟨u0,u1,u2,u3,u4⟩:=hb2.qs5;have uf:=hb2.frozen;have ul:=hb2.lt;clear hb9 hx9 hb2 hsn9;go_wp2;refine bodyPost_ret (v:=(Sq s9)) (by simp [results,results38,go_sem,u0,u1,u2,u3,u4]) rfl ⟨s9,⟨Nat.le_trans HSN9.o.1 AB,Nat.le_trans HSN9.o.2 AB⟩,rfl,?_⟩
  iterate 5 with_reducible refine Ext.set2 ?_ hgw _
  with_reducible exact HX9'.out
end Go.Proofs.YtidacnalcdhckaaGreatDoor
