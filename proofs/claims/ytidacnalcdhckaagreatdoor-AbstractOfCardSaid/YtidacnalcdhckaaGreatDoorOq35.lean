/- Lemmas. No conditions. -/
import Derived.Test.YtidacnalcdhckaaGreatDoorOq34
set_option maxRecDepth 100000
set_option maxHeartbeats 2000000
namespace Go.Proofs.YtidacnalcdhckaaGreatDoor
open Go Go.RowKit Tryz
variable {qP:Prop}

def F4A(w:World)(g:Nat)(A:OA)(l:List Int)(c:Nat)(K:Nat)(e:Ending)(w':World):Prop:=∃ (a b:Int) (K':Nat),e=.returned (.agg #[.I a,.I b])∧Dz a b=true∧K≤K'∧NSt w' g A l c K'∧But g w w'
def WF(w:World)(g:Nat)(A:OA)(l:List Int)(c:Nat)(K:Nat)(e:Ending)(w':World):Prop:=∃ (x:Val) (K':Nat),e=.returned (Vq x none 0 none 0)∧BG x=true∧CBA x∧K≤K'∧NSt w' g A l c K'∧But g w w'
theorem DHA(g:Nat)(A:OA)(l:List Int)(c K:Nat)(w:World)(h:NSt w g A l c K):Cl 102 #[.pointer (some ⟨g,0,none⟩)] w (F4A w g A l c K):=by
 have hgw:=h.1.1.lt;have hne:w.heap.size≠g:=AA;obtain ⟨HN,HB,HBR,HK,HD⟩:=Hd5 (h.ext ((Ext.refl w).alloc (.cells #[.I 0,.I 0] 25))) (H7A (g:=g) ((Ext.refl w).alloc (.cells #[.I 0,.I 0] 25))) (Blk.new w 25 #[.I 0,.I 0]) (Nat.le_refl K) (TxR.data h);clear h
 go_enter func102,ntmps102
 go_wp2_with fail
 refine (Bb 2001 g A l c K _ AA AA HN.o).mono ?_;rintro e1 w1 ⟨d1,K1,rfl,hrd1,hKd1,hNd1,hbd1,hsd1⟩;obtain ⟨HK',HB',HBR'⟩:=Hd3 (show K≤K1 by have:=HK.o;omega) (HB.o.trans hbd1) (hbd1.blk HBR.o hne);clear HK HN HB HBR;have HK:=HK';have HN:=Hd hNd1;have HB:=HB';have HBR:=HBR';clear hKd1 hNd1 hbd1 hsd1 HK' HB' HBR'
 go_wp2_with fail
 refine (Bb 8 g A l c K1 _ AA AA HN.o).mono ?_;rintro e1 w2 ⟨d2,K2,rfl,hrd2,hKd2,hNd2,hbd2,hsd2⟩;obtain ⟨HK',HB',HBR'⟩:=Hd3 (show K≤K2 by have:=HK.o;omega) (HB.o.trans hbd2) (hbd2.blk HBR.o hne);clear HK HN HB HBR;have HK:=HK';have HN:=Hd hNd2;have HB:=HB';have HBR:=HBR';clear hKd2 hNd2 hbd2 hsd2 HK' HB' HBR';by_cases h7:d2=7
 case' pos =>
  have e7:((d2:Int)==7)=true:=by simp [h7]
  go_wp2_with fail
  refine (Bb 2000000000000001 g A l c K2 _ AA AA HN.o).mono ?_;rintro e1 w3 ⟨d3,K3,rfl,hrd3,hKd3,hNd3,hbd3,hsd3⟩;obtain ⟨HK',HB',HBR'⟩:=Hd3 (show K≤K3 by have:=HK.o;omega) (HB.o.trans hbd3) (hbd3.blk HBR.o hne);clear HK HN HB HBR;have HK:=HK';have HN:=Hd hNd3;have HB:=HB';have HBR:=HBR';clear hKd3 hNd3 hbd3 hsd3 HK' HB' HBR';obtain ⟨n,hn⟩:∃ n:Int,n=(d3:Int)-1000000000000000:=⟨_,rfl⟩;have hn1:-1000000000000000≤n:=AA;have hn2:n≤1000000000000000:=AA
 case' neg =>
  have e7:((d2:Int)==7)=false:=AI;obtain ⟨K3,rfl⟩:=eqx K2;obtain ⟨w3,rfl⟩:=eqx w2;obtain ⟨n,hn⟩:∃ n:Int,n=(d1:Int)-1000:=⟨_,rfl⟩;have hn1:-1000000000000000≤n:=AA;have hn2:n≤1000000000000000:=AA
 all_goals
  go_wp2_with fail
  refine (Bb 4 g A l c K3 _ AA AA HN.o).mono ?_;rintro e1 w4 ⟨d4,K4,rfl,hrd4,hKd4,hNd4,hbd4,hsd4⟩;obtain ⟨HK',HB',HBR'⟩:=Hd3 (show K≤K4 by have:=HK.o;omega) (HB.o.trans hbd4) (hbd4.blk HBR.o hne);clear HK HN HB HBR;have HK:=HK';have HN:=Hd hNd4;have HB:=HB';have HBR:=HBR';clear hKd4 hNd4 hbd4 hsd4 HK' HB' HBR'
  go_wp2_with fail
  rw [←hn];have hmk:Cl 172 #[.I n,.I (d4:Int)] w4 (fun e w'=>∃ a b t,e=.returned (.tuple #[.agg #[.I a,.I b],.bool t])∧Dz a b=true∧Ext w4 w'):=(Yb n d4 hn1 hn2 AA _).mono fun e w' h=>⟨_,_,_,h.1,EzA _ _ _,h.2⟩;refine hmk.mono ?_;rintro e1 w5 ⟨a,b,t,rfl,hdr,hx5⟩;obtain ⟨HDR,HN5,HB5,HBR6⟩:=Hd4 hdr (HN.o.ext hx5) (HB.o.trans (H7A hx5)) (HBR.o.keep (hx5.kept _));clear HN HB HBR hx5 hmk hn hdr;obtain ⟨r0,r1⟩:=HBR6.o.qs2;have rf:=HBR6.o.frozen;have rz:=HBR6.o.lt;go_wp2;refine bodyPost_ret (v:=.agg #[.I a,.I b]) (by simp [results,results102,go_sem,r0,r1,rz]) rfl ⟨_,_,K4,rfl,HDR.o,HK.o,?_,?_⟩
  ·refine HN5.o.keep2 hgw HD.o (Kept.trans ?_ (Kept.alloc _ _ _))
   iterate 2 with_reducible refine Kept.set2 ?_ (by show ¬(_<_);omega)
   exact FY
  ·refine But.trans ?_ (H7A (exaa _))
   iterate 2 with_reducible refine But.set ?_ AA
   with_reducible exact HB5.o

theorem LQ(h:qP:=by
 iterate 7 with_reducible refine Kept.set2 ?_ (by show ¬(_<_);omega)
 exact FY):qP:=h
theorem E9(h:qP:=by
 refine HN.o.keep2 hgw HD.o ?_;exact LQ):qP:=h
theorem FG(h:qP:=by
 iterate 7 with_reducible refine But.set ?_ (by omega)
 with_reducible exact HB.o):qP:=h
theorem DW(h:qP:=by simp [results,results35,go_sem,r0,r1,r2,r3,r4,r5,r6]):qP:=h
theorem E6(h:qP:=by first|exact HSZ.o|exact AN):qP:=h
theorem Wz(g:Nat)(A:OA)(l:List Int)(c K:Nat)(w:World)(h:NSt w g A l c K):Cl 35 #[.pointer (some ⟨g,0,none⟩),.I 1] w (WF w g A l c K):=by
 have hgw:=h.1.1.lt;have hne:w.heap.size≠g:=AA;obtain ⟨HN,HB,HBR,HK,HD⟩:=Hd5 (h.ext ((Ext.refl w).alloc (.cells Vz 29))) (H7A (g:=g) ((Ext.refl w).alloc (.cells Vz 29))) (Blk.new w 29 Vz) (Nat.le_refl K) (TxR.data h);clear h
 go_enter func35,ntmps35
 go_wp2_with fail
 refine (CsA g A l c K _ HN.o).mono ?_;rintro e1 w1 ⟨s,K1,rfl,htb,hz1,hK1,hN1,hb1⟩;have HTB:=Hd htb;clear htb;obtain ⟨HK',HB',HBR',HSZ⟩:=Hd4 (show K≤K1 by have:=HK.o;omega) (HB.o.trans hb1) (hb1.blk HBR.o hne) (show s.size≤4294967296 by omega);clear HK HN HB HBR;have HK:=HK';have HN:=Hd hN1;have HB:=HB';have HBR:=HBR';clear hK1 hN1 hb1 HK' HB' HBR';obtain ⟨r0,r1,r2,r3,r4,r5,r6⟩:=HBR.o.qs7;have rf:=HBR.o.frozen;have rz:=HBR.o.lt;go_wp2;refine bodyPost_ret (v:=.agg #[.I 1,.string s,.I 0,.I 0,.I 0,.slice none 0 0,.slice none 0 0]) DW rfl ⟨⟨1,s,0,0,0,[],[]⟩,K1,rfl,DsA HTB.o,⟨rfl,rfl,E6⟩,HK.o,?_,?_⟩
 ·exact E9
 ·exact FG

theorem XJ(g:Nat)(A:OA)(l:List Int)(c K:Nat)(w:World)(h:NSt w g A l c K):Cl 35 #[.pointer (some ⟨g,0,none⟩),.I 2] w (WF w g A l c K):=by
 have hgw:=h.1.1.lt;have hne:w.heap.size≠g:=AA;obtain ⟨HN,HB,HBR,HK,HD⟩:=Hd5 (h.ext ((Ext.refl w).alloc (.cells Vz 29))) (H7A (g:=g) ((Ext.refl w).alloc (.cells Vz 29))) (Blk.new w 29 Vz) (Nat.le_refl K) (TxR.data h);clear h
 go_enter func35,ntmps35
 go_wp2_with fail
 refine (DHA g A l c K _ HN.o).mono ?_;rintro e1 w1 ⟨a,b,K1,rfl,hdr,hK1,hN1,hb1⟩;have HDR:=Hd hdr;clear hdr;obtain ⟨HK',HB',HBR'⟩:=Hd3 (show K≤K1 by have:=HK.o;omega) (HB.o.trans hb1) (hb1.blk HBR.o hne);clear HK HN HB HBR;have HK:=HK';have HN:=Hd hN1;have HB:=HB';have HBR:=HBR';clear hK1 hN1 hb1 HK' HB' HBR';obtain ⟨r0,r1,r2,r3,r4,r5,r6⟩:=HBR.o.qs7;have rf:=HBR.o.frozen;have rz:=HBR.o.lt;go_wp2;refine bodyPost_ret (v:=.agg #[.I 2,.string ⟨#[]⟩,.I a,.I b,.I 0,.slice none 0 0,.slice none 0 0]) DW rfl ⟨⟨2,⟨#[]⟩,a,b,0,[],[]⟩,K1,rfl,EsA HDR.o,⟨rfl,rfl,E6⟩,HK.o,?_,?_⟩
 ·exact E9
 ·exact FG

theorem XK(g:Nat)(A:OA)(l:List Int)(c K:Nat)(w:World)(h:NSt w g A l c K):Cl 35 #[.pointer (some ⟨g,0,none⟩),.I 3] w (WF w g A l c K):=by
 have hgw:=h.1.1.lt;have hne:w.heap.size≠g:=AA;obtain ⟨HN,HB,HBR,HK,HD⟩:=Hd5 (h.ext ((Ext.refl w).alloc (.cells Vz 29))) (H7A (g:=g) ((Ext.refl w).alloc (.cells Vz 29))) (Blk.new w 29 Vz) (Nat.le_refl K) (TxR.data h);clear h
 go_enter func35,ntmps35
 go_wp2_with fail
 refine (Bb 1000 g A l c K _ AA AA HN.o).mono ?_;rintro e1 w1 ⟨d1,K1,rfl,hrd1,hKd1,hNd1,hbd1,hsd1⟩;obtain ⟨HA1,HK',HB',HBR'⟩:=Hd4 hKd1 (show K≤K1 by have:=HK.o;omega) (HB.o.trans hbd1) (hbd1.blk HBR.o hne);clear HK HN HB HBR;have HK:=HK';have HN:=Hd hNd1;have HB:=HB';have HBR:=HBR';clear hKd1 hNd1 hbd1 hsd1 HK' HB' HBR'
 go_wp2_with fail
 refine (Bb 8 g A l c K1 _ AA AA HN.o).mono ?_;rintro e1 w2 ⟨d2,K2,rfl,hrd2,hKd2,hNd2,hbd2,hsd2⟩;obtain ⟨HA2,HK',HB',HBR'⟩:=Hd4 hKd2 (show K≤K2 by have:=HK.o;omega) (HB.o.trans hbd2) (hbd2.blk HBR.o hne);clear HK HN HB HBR;have HK:=HK';have HN:=Hd hNd2;have HB:=HB';have HBR:=HBR';clear hKd2 hNd2 hbd2 hsd2 HK' HB' HBR';by_cases h7:d2=7
 ·have e7:((d2:Int)==7)=true:=by simp [h7]
  go_wp2_with fail
  refine (Bb 3652059 g A l c K2 _ AA AA HN.o).mono ?_;rintro e1 w3 ⟨d3,K3,rfl,hrd3,hKd3,hNd3,hbd3,hsd3⟩;obtain ⟨HK',HB',HBR'⟩:=Hd3 (show K≤K3 by have:=HK.o;omega) (HB.o.trans hbd3) (hbd3.blk HBR.o hne);clear HK HN HB HBR;have HK:=HK';have HN:=Hd hNd3;have HB:=HB';have HBR:=HBR';clear hKd3 hNd3 hbd3 hsd3 HK' HB' HBR';obtain ⟨r0,r1,r2,r3,r4,r5,r6⟩:=HBR.o.qs7;have rf:=HBR.o.frozen;have rz:=HBR.o.lt;go_wp2;refine bodyPost_ret (v:=.agg #[.I 3,.string ⟨#[]⟩,.I 0,.I 0,.I (d3:Int),.slice none 0 0,.slice none 0 0]) DW rfl ⟨⟨3,⟨#[]⟩,0,0,(d3:Int),[],[]⟩,K3,rfl,CHA AA AA,⟨rfl,rfl,E6⟩,HK.o,?_,?_⟩
  ·exact E9
  ·exact FG
 ·have e7:((d2:Int)==7)=false:=AI;obtain ⟨r0,r1,r2,r3,r4,r5,r6⟩:=HBR.o.qs7;have rf:=HBR.o.frozen;have rz:=HBR.o.lt;go_wp2;refine bodyPost_ret (v:=.agg #[.I 3,.string ⟨#[]⟩,.I 0,.I 0,.I (738000+(d1:Int)),.slice none 0 0,.slice none 0 0]) DW rfl ⟨⟨3,⟨#[]⟩,0,0,(738000+(d1:Int)),[],[]⟩,K2,rfl,CHA AA AA,⟨rfl,rfl,E6⟩,HK.o,?_,?_⟩
  ·exact E9
  ·exact FG

theorem W7(g:Nat)(A:OA)(l:List Int)(c K:Nat)(w:World)(h:NSt w g A l c K):Cl 35 #[.pointer (some ⟨g,0,none⟩),.I 4] w (WF w g A l c K):=by
 have hgw:=h.1.1.lt;have hne:w.heap.size≠g:=AA;obtain ⟨HN,HB,HBR,HK,HD⟩:=Hd5 (h.ext ((Ext.refl w).alloc (.cells Vz 29))) (H7A (g:=g) ((Ext.refl w).alloc (.cells Vz 29))) (Blk.new w 29 Vz) (Nat.le_refl K) (TxR.data h);clear h
 go_enter func35,ntmps35
 go_wp2_with fail
 refine (Bb 2 g A l c K _ AA AA HN.o).mono ?_;rintro e1 w1 ⟨d1,K1,rfl,hrd1,hKd1,hNd1,hbd1,hsd1⟩;obtain ⟨HK',HB',HBR'⟩:=Hd3 (show K≤K1 by have:=HK.o;omega) (HB.o.trans hbd1) (hbd1.blk HBR.o hne);clear HK HN HB HBR;have HK:=HK';have HN:=Hd hNd1;have HB:=HB';have HBR:=HBR';clear hKd1 hNd1 hbd1 hsd1 HK' HB' HBR';obtain ⟨r0,r1,r2,r3,r4,r5,r6⟩:=HBR.o.qs7;have rf:=HBR.o.frozen;have rz:=HBR.o.lt;go_wp2;refine bodyPost_ret (v:=.agg #[.I 4,.string ⟨#[]⟩,.I 0,.I 0,.I (d1:Int),.slice none 0 0,.slice none 0 0]) DW rfl ⟨⟨4,⟨#[]⟩,0,0,(d1:Int),[],[]⟩,K1,rfl,FYA AA AA,⟨rfl,rfl,E6⟩,HK.o,?_,?_⟩
 ·exact E9
 ·exact FG

theorem Wv(kind:Int)(g:Nat)(A:OA)(l:List Int)(c K:Nat)(w:World)(h:NSt w g A l c K)(k1:(kind==1)=false)(k2:(kind==2)=false)(k3:(kind==3)=false)(k4:(kind==4)=false)(k5:(kind==5)=false):Cl 35 #[.pointer (some ⟨g,0,none⟩),.I kind] w (WF w g A l c K):=by
 have hgw:=h.1.1.lt;have hne:w.heap.size≠g:=AA;obtain ⟨HN,HB,HBR,HK,HD⟩:=Hd5 (h.ext ((Ext.refl w).alloc (.cells Vz 29))) (H7A (g:=g) ((Ext.refl w).alloc (.cells Vz 29))) (Blk.new w 29 Vz) (Nat.le_refl K) (TxR.data h);clear h
 go_enter func35,ntmps35
 go_wp2_with fail
 refine (Bb 100 g A l c K _ AA AA HN.o).mono ?_;rintro e1 w1 ⟨d1,K1,rfl,hrd1,hKd1,hNd1,hbd1,hsd1⟩;obtain ⟨HK',HB',HBR'⟩:=Hd3 (show K≤K1 by have:=HK.o;omega) (HB.o.trans hbd1) (hbd1.blk HBR.o hne);clear HK HN HB HBR;have HK:=HK';have HN:=Hd hNd1;have HB:=HB';have HBR:=HBR';clear hKd1 hNd1 hbd1 hsd1 HK' HB' HBR';obtain ⟨r0,r1,r2,r3,r4,r5,r6⟩:=HBR.o.qs7;have rf:=HBR.o.frozen;have rz:=HBR.o.lt;go_wp2;refine bodyPost_ret (v:=.agg #[.I 0,.string ⟨#[]⟩,.I 0,.I 0,.I (d1:Int),.slice none 0 0,.slice none 0 0]) DW rfl ⟨⟨0,⟨#[]⟩,0,0,(d1:Int),[],[]⟩,K1,rfl,FZA AA AA,⟨rfl,rfl,E6⟩,HK.o,?_,?_⟩
 ·exact E9
 ·exact FG

theorem JW(kind:Int)(g:Nat)(A:OA)(l:List Int)(c K:Nat)(w:World)(h:NSt w g A l c K)(hk:kind≠5):Cl 35 #[.pointer (some ⟨g,0,none⟩),.I kind] w (WF w g A l c K):=by
 by_cases h1:kind=1
 ·subst h1;exact Wz g A l c K w h
 by_cases h2:kind=2
 ·subst h2;exact XJ g A l c K w h
 by_cases h3:kind=3
 ·subst h3;exact XK g A l c K w h
 by_cases h4:kind=4
 ·subst h4;exact W7 g A l c K w h
 exact Wv kind g A l c K w h CE Dj (by simpa using h3) (by simpa using h4) Br

end Go.Proofs.YtidacnalcdhckaaGreatDoor
