/- The reference's Split: programs by an input's values. Conditions: the arguments read as data; the programs are there. -/
import Derived.Test.YtomdpipekmcojaaGreatDoorBw19
import Derived.Sort.Walk0
namespace Go.Proofs.YtomdpipekmcojaaGreatDoor
open Go Go.RowKit

def SpO (w:World) (n m:Nat) (l:List (List Val)) (L:List Nat) (v i:Value) (wr:World):Prop:=∃ (k:Nat) (A':Option Addr) (c':Nat),k≤n∧i=.int .i64 (k:Int)∧v=.slice A' (splR l m (L.take k)).length c'∧Ext w wr∧OwnNN wr w.heap.size A' c' (splR l m (L.take k))
def same_ (o:Option Nat):Int:=match o with | none=>-1 | some t=>(t:Int)
def SpI (wo:World) (gs:List (List Nat)) (e lt:Nat→Bool) (a s j:Value) (wi:World):Prop:=∃ q:Nat,q≤gs.length∧j=.int .i64 (q:Int)∧a=.int .i64 (((scan e lt 0 (gs.take q) (0,none)).1:Nat):Int)∧s=.int .i64 (same_ (scan e lt 0 (gs.take q) (0,none)).2)∧Ext wo wi
theorem insR_some {e lt:Nat→Bool} {gs:List (List Nat)} {k a j:Nat} (h:scan e lt 0 gs (0,none)=(a,some j)):insR e lt gs k=gs.set j (gs.getD j []++[k]):=by unfold insR; rw [h]
theorem insR_none {e lt:Nat→Bool} {gs:List (List Nat)} {k a:Nat} (h:scan e lt 0 gs (0,none)=(a,none)):insR e lt gs k=gs.take a++[k] :: gs.drop a:=by unfold insR; rw [h]
theorem hdr_one {bs:List (Nat × Nat)} {gs:List (List Nat)} : ∀ u∈hdr bs gs,u.oneCell'=true:=by
 intro u hu;obtain ⟨i,hi⟩:=List.mem_iff_getElem?.1 hu;simp only [hdr,List.getElem?_zipWith] at hi;cases h1:bs[i]? with
 | none=>rw [h1] at hi; simp at hi
 | some b =>
  cases h2:gs[i]? with
  | none=>rw [h1,h2] at hi; simp at hi
  | some g=>rw [h1,h2] at hi; simp at hi; rw [← hi]; rfl
theorem rd_from {w:World} {S:Nat→Prop} {A:Option Addr} {xs:List Value} {a c:Nat} (h:Rd w S A xs) (hc:xs.length≤c):Rd w S (if c=a then A else Option.map (fun x=>x.add a) A) (xs.drop a):=by
 by_cases hnil:xs.drop a=[]
 ·rw [hnil]; exact Or.inl rfl
 ·have hlt:a<xs.length:=by
   rcases Nat.lt_or_ge a xs.length with h1 | h1
   ·exact h1
   ·exact absurd (List.drop_eq_nil_iff.2 h1) hnil
  rw [if_neg (by omega)];obtain ⟨b,o,rfl,hb,hl,hcs⟩:=h.some_ (by intro e; rw [e] at hlt; simp at hlt);show Rd w S (some ((⟨b,o,none⟩:Addr).add a)) _;rw [Addr.add_lit];refine Or.inr ⟨b,o+a,rfl,hb,hl,fun j u hj => ?_⟩;rw [List.getElem?_drop] at hj;have:=hcs (a+j) u hj;rwa [← Nat.add_assoc] at this
def RsD (A':Option Addr) (ng a:Nat) (bs:List (Nat × Nat)) (gs:List (List Nat)) (v:Value) (w':World):Prop:=∃ (B8:Option Addr) (c8:Nat),v=.slice B8 (ng-a) c8∧Rd w' (fun b=>ob A'=some b) B8 ((hdr bs gs).drop a)
def RsF (w:World) (W gA bd j nj ng c' x:Nat) (bs:List (Nat × Nat)) (gs:List (List Nat)) (gl:List Nat) (γ:Gz) (w':World):Prop:=∃ (A4:Option Addr) (c4:Nat),γ 1011=true∧γ 1013=true∧Own w' w.heap.size 3 1 A4 (nj+1) c4 ((nums gl).map (Value.int .i64)++[.int .i64 (x:Int)])∧(∀ b,ob A4=some b→b=bd∨W≤b)∧Own w' w.heap.size 26 1 (some ⟨gA,0,none⟩) ng c' ((hdr bs gs).set j (.slice A4 (nj+1) c4))
def RsG (w:World) (W ng a x:Nat) (bs:List (Nat × Nat)) (gs:List (List Nat)) (v:Value) (γ:Gz) (w':World):Prop:=∃ (A4:Option Addr) (c4 g:Nat),v=.slice A4 (1+(ng-a)) c4∧γ 1009=true∧Blk w' g 3 #[.int .i64 (x:Int)]∧W≤g∧ob A4≠some g∧(∀ b,ob A4=some b→W≤b)∧Own w' w.heap.size 26 1 A4 (1+(ng-a)) c4 ([.slice (some ⟨g,0,none⟩) 1 1]++(hdr bs gs).drop a)
set_option maxRecDepth 100000 in
set_option maxHeartbeats 4000000 in
theorem r25_Split (d:Nat) (l:List (List Val)) (A:Option Addr) (c:Nat) (L:List Nat) (B:Option Addr) (e m:Nat) (w:World) (S T:Nat→Prop) (hr:Rows w S d A l) (hk:NoT l) (hN:∀ r∈l,m<r.length) (hn:Nums w T B L) (hL:∀ x∈L,x<l.length) (hLl:L.length≤1000) :
  Calls Tryz.prog 67 #[.slice A l.length c,.slice B L.length e,.int .i64 (m:Int)] w (RetNN w (splR l m L)):=by
 obtain ⟨nl,enl⟩:∃ n,n=l.length:=⟨_,rfl⟩;obtain ⟨n,en⟩:∃ n,n=L.length:=⟨_,rfl⟩;have HNL:=Hd enl;have HNN:=Hd en;have hll:=hr.len;have HR0:=Hd hr;have HK:=Hd hk;have HN:=Hd hN;have HLN:=Hd hn;have HLM:=Hd hL;rw [← enl] at hll ⊢;rw [← en] at hLl ⊢;clear hr hk hN hn hL enl en
 go_enter Tryz.func67,Tryz.ntmps67
 go_wp2
 go_loopw [7,8,9,10,11,12,13,14,15,16] (fun v i _u9 _u10 _u11 _u12 _u13 _u14 _u15 _u16 wr=>SpO w n m l L v i wr) (fun _ i _ _ _ _ _ _ _ _ _=>n-(intOf i).toNat)
 case atStart=>exact ⟨0,none,0,Nat.zero_le _,rfl,rfl,Ext.refl _,OwnNN.nil _ _⟩
 case round =>
  obtain ⟨k,A',c',hk,rfl,rfl,hx,ho⟩:=hrel;obtain ⟨ws,rfl⟩:∃ ws:World,ws=wr:=⟨_,rfl⟩;have HX:=Hd hx;have HO:=Hd ho;clear hx ho;obtain ⟨gs,egs⟩:∃ gs,gs=splR l m (L.take k):=⟨_,rfl⟩;have HGS:=Hd egs;rw [← egs] at HO ⊢;clear egs;obtain ⟨ng,eng⟩:∃ ng,ng=gs.length:=⟨_,rfl⟩;have HNG:=Hd eng;rw [← eng];have hsp:=splitR_all (eqA l m) (ltA l m) l.length (L.take k) (fun x hx=>HLM.o x (List.mem_of_mem_take hx));rw [show splitR (eqA l m) (ltA l m) (L.take k)=gs from HGS.o.symm,List.length_take,← HNN.o,← eng] at hsp;have hngk:ng≤k:=(by have:=hsp.1; omega);have HSP:=Hd hsp.2;clear hsp eng;by_cases hlt:k<n
  ·have hkL:k<L.length:=(by rw [← HNN.o]; exact hlt);obtain ⟨x,ex⟩:∃ x,x=L[k]:=⟨_,rfl⟩;have HEX:=Hd ex;have hxl:x<l.length:=(by rw [ex]; exact HLM.o _ (List.getElem_mem hkL));have hxn:x<nl:=(by rw [HNL.o]; exact hxl);obtain ⟨bB,oB,hB,zB,cB0⟩:=HLN.o.at_ hkL;subst hB;have cB:=HX.o.cell cB0;rw [← ex] at cB;clear cB0;have hrows:=HR0.o.keep (HX.o.kept S);obtain ⟨bA,oA,C,eC,hA,zA,cA,-,hr1⟩:=hrows.at_ hxl;subst hA;have hmx:m<l[x].length:=HN.o _ (List.getElem_mem hxl);obtain ⟨g1,o1,A1,c1,B1,e1,rfl,z1,⟨x0,x1,x2,x3,x4,x5,x6⟩,hcap1,hrv⟩:=hr1.at_ hmx;obtain ⟨vx,evx⟩:∃ v,v=l[x][m]:=⟨_,rfl⟩;have HVX:=Hd (show ans l m x=vx by rw [ans_of hxl hmx,evx]);have HKX:=Hd (show vx.kind≠5 by rw [evx]; exact HK.o _ (List.getElem_mem hxl) _ (List.getElem_mem hmx));rw [← evx] at x0 x1 x2 x3 x4 x5 x6 hrv;obtain ⟨n1,en1⟩:∃ n1,n1=l[x].length:=⟨_,rfl⟩;rw [← en1] at cA hmx;have HCB:=Hd cB;have HZB:=Hd zB;have HRX:=Hd hrv;have i0:(0:Int)≤(k:Int):=(by omega);have i1:(k:Int)<(n:Int):=(by omega);have i2:(0:Int)≤(x:Int):=(by omega);have i3:(x:Int)<(nl:Int):=(by omega);have i4:(0:Int)≤(m:Int):=(by omega);have i5:(m:Int)<(n1:Int):=(by omega);have hsz:=HX.o.size;clear hrows hr1 hrv evx en1 ex
   go_upto_region 6 with fail
   obtain ⟨b9,hb9⟩:∃ b9,b9=ws.heap.size:=⟨_,rfl⟩;obtain ⟨wo,hwo⟩:∃ wo,wo=ws.alloc (.cells #[.int .i64 vx.kind,.string vx.s,.int .i64 vx.dn,.int .i64 vx.ds,.int .i64 vx.n,.slice A1 vx.cols.length c1,.slice B1 vx.rows.length e1] 47):=⟨_,rfl⟩;have HB9:=Hd (show Blk wo b9 47 #[.int .i64 vx.kind,.string vx.s,.int .i64 vx.dn,.int .i64 vx.ds,.int .i64 vx.n,.slice A1 vx.cols.length c1,.slice B1 vx.rows.length e1] by rw [hwo,hb9]; exact Blk.new _ _ _);have HXO:=Hd (show Ext ws wo by rw [hwo]; exact (Ext.refl ws).alloc _);have HWO:=Hd hwo;have HQ9:=Hd hb9;rw [← HWO.o,← HQ9.o];clear hwo hb9 x0 x1 x2 x3 x4 x5 x6 cA cB;go_wp2
   go_loopw [10,11,12,13,14,15] (fun a s j _u13 _u14 _u15 wi=>SpI wo gs (eqA l m x) (fun y=>ltA l m y x) a s j wi) (fun _ _ j _ _ _ _=>ng-(intOf j).toNat)
   case atStart=>exact ⟨0,Nat.zero_le _,rfl,rfl,rfl,Ext.refl _⟩
   case round =>
    obtain ⟨q,hq,rfl,rfl,rfl,hxi⟩:=hrel;have HXI:=Hd hxi;clear hxi;rw [← HNG.o] at hq;have hsi:=HXI.o.size;have hso:=HXO.o.size;obtain ⟨a,ea⟩:∃ a,a=(scan (eqA l m x) (fun y=>ltA l m y x) 0 (gs.take q) (0,none)).1:=⟨_,rfl⟩;obtain ⟨o,eo⟩:∃ o,o=(scan (eqA l m x) (fun y=>ltA l m y x) 0 (gs.take q) (0,none)).2:=⟨_,rfl⟩;have HEA:=Hd ea;have HEO:=Hd eo;have haq:a≤q:=by
     have:=(scan_le (eqA l m x) (fun y=>ltA l m y x) (gs.take q)).1;rw [← ea,List.length_take] at this;omega
    have hoq:∀ j,o=some j→j<q:=by
     intro j hj;have:=(scan_le (eqA l m x) (fun y=>ltA l m y x) (gs.take q)).2 j (by rw [← eo]; exact hj);rw [List.length_take] at this;omega
    have HOQ:=Hd hoq;rw [← ea,← eo];clear ea eo hoq;by_cases hqn:q<ng
    ·have hqg:q<gs.length:=(by rw [← HNG.o]; exact hqn);obtain ⟨g,eg⟩:∃ g,g=gs[q]:=⟨_,rfl⟩;have hgs:=HSP.o g (by rw [eg]; exact List.getElem_mem hqg);obtain ⟨y,tl,hgy⟩:∃ y tl,g=y :: tl:=by
      cases g with
      | nil=>have:=hgs.1; simp at this
      | cons y tl=>exact ⟨y,tl,rfl⟩
     have hyl:y<l.length:=hgs.2.2 y (by rw [hgy]; simp);have hnn:=(HO.o.ext (HXO.o.trans HXI.o)).nn (by rw [← HNG.o]; omega) (fun g hg=>by have:=HSP.o g hg; omega);obtain ⟨bg,og,Bg,eg2,hA',zg,cg,-,hnum⟩:=hnn.at_ hqg;subst hA';rw [← eg,hgy] at cg hnum;obtain ⟨b2,o2,hBg,z2,cy⟩:=hnum.at_ (k:=0) (by simp);subst hBg;rw [Nat.add_zero] at cy;rw [List.getElem_cons_zero] at cy;obtain ⟨nq,enq⟩:∃ nq,nq=(y :: tl).length:=⟨_,rfl⟩;have hnq:0<nq:=(by rw [enq]; simp);rw [← enq] at cg;have hrows:=HR0.o.keep (((HX.o.trans HXO.o).trans HXI.o).kept S);obtain ⟨bA2,oA2,C2,eC2,hA2,zA2,cA2,-,hr2⟩:=hrows.at_ hyl;injection hA2 with hA2;injection hA2 with hA21 hA22;subst hA21 hA22;have hmy:m<l[y].length:=HN.o _ (List.getElem_mem hyl);obtain ⟨g3,o3,A3,c3,B3,e3,rfl,z3,⟨y0,y1,y2,y3,y4,y5,y6⟩,hcap3,hrv3⟩:=hr2.at_ hmy;obtain ⟨vy,evy⟩:∃ v,v=l[y][m]:=⟨_,rfl⟩;have HVY:=Hd (show ans l m y=vy by rw [ans_of hyl hmy,evy]);have HKY:=Hd (show vy.kind≠5 by rw [evy]; exact HK.o _ (List.getElem_mem hyl) _ (List.getElem_mem hmy));rw [← evy] at y0 y1 y2 y3 y4 y5 y6 hrv3;obtain ⟨n3,en3⟩:∃ n3,n3=l[y].length:=⟨_,rfl⟩;rw [← en3] at cA2 hmy;have HRY:=Hd hrv3;have HRX2:=Hd (HRX.o.keep ((HXO.o.trans HXI.o).kept S));have hb9:=HB9.o.keep (HXI.o.kept _);have v0:=hb9.cell (i:=0) rfl;have v1:=hb9.cell (i:=1) rfl;have v2:=hb9.cell (i:=2) rfl;have v3:=hb9.cell (i:=3) rfl;have v4:=hb9.cell (i:=4) rfl;have v5:=hb9.cell (i:=5) rfl;have v6:=hb9.cell (i:=6) rfl;have v7:=hb9.lt;have HBB:=Hd hb9;have HTK:=Hd (show gs.take (q+1)=gs.take q++[g] by rw [List.take_succ_eq_append_getElem hqg,← eg]);have HGH:=Hd (show g.headD 0=y by rw [hgy]; rfl);have HLQ:=Hd (show (gs.take q).length=q by rw [List.length_take]; omega);have j0:(0:Int)≤(q:Int):=(by omega);have j1:(q:Int)<(ng:Int):=(by omega);have j2:(0:Int)≤(y:Int):=(by omega);have j3:(y:Int)<(nl:Int):=(by rw [HNL.o]; omega);have j4:(m:Int)<(n3:Int):=(by omega);have j5:(0:Int)<(nq:Int):=(by omega);have j6:y<nl:=(by rw [HNL.o]; exact hyl);clear hnn hnum hrows hr2 hrv3 evy en3 enq eg hgy hgs hb9
     go_wp2_with fail
     refine (r06_Equal (d-1) vx vy A1 B1 A3 B3 c1 e1 c3 e3 _ S S (HRX2.o.keep (Kept.alloc _ _ _)) (HRY.o.keep (Kept.alloc _ _ _))).mono ?_;rintro e4 w4 ⟨rfl,hx4⟩;obtain ⟨be,hbe⟩:∃ b,b=decide (vx=vy):=⟨_,rfl⟩;rw [← hbe];have HBE:=Hd hbe;have HX4:=Hd (((Ext.refl wr).alloc (.cells #[.int .i64 vy.kind,.string vy.s,.int .i64 vy.dn,.int .i64 vy.ds,.int .i64 vy.n,.slice A3 vy.cols.length c3,.slice B3 vy.rows.length e3] 47)).trans hx4);have HB4:=Hd (HBB.o.keep (HX4.o.kept _));have HC4:=Hd ((Blk.new wr 47 #[.int .i64 vy.kind,.string vy.s,.int .i64 vy.dn,.int .i64 vy.ds,.int .i64 vy.n,.slice A3 vy.cols.length c3,.slice B3 vy.rows.length e3]).keep (hx4.kept _));clear hx4 hbe v0 v1 v2 v3 v4 v5 v6 v7 y0 y1 y2 y3 y4 y5 y6 cg cy cA2;have v0:=HB4.o.cell (i:=0) rfl;have v1:=HB4.o.cell (i:=1) rfl;have v2:=HB4.o.cell (i:=2) rfl;have v3:=HB4.o.cell (i:=3) rfl;have v4:=HB4.o.cell (i:=4) rfl;have v5:=HB4.o.cell (i:=5) rfl;have v6:=HB4.o.cell (i:=6) rfl;have y0:=HC4.o.cell (i:=0) rfl;have y1:=HC4.o.cell (i:=1) rfl;have y2:=HC4.o.cell (i:=2) rfl;have y3:=HC4.o.cell (i:=3) rfl;have y4:=HC4.o.cell (i:=4) rfl;have y5:=HC4.o.cell (i:=5) rfl;have y6:=HC4.o.cell (i:=6) rfl
     go_wp2_with fail
     refine (r06_Less (d-1) vy vx A3 B3 A1 B1 c3 e3 c1 e1 w4 S S (HRY.o.keep (HX4.o.kept _)) (HRX2.o.keep (HX4.o.kept _)) HKY.o HKX.o).mono ?_;rintro e5 w5 ⟨rfl,hx5⟩;obtain ⟨bl,hbl⟩:∃ b,b=lessF vy vx:=⟨_,rfl⟩;rw [← hbl];have HX5:=Hd (HXI.o.trans (HX4.o.trans hx5));have HSC:=Hd (scan_snoc (eqA l m x) (fun y=>ltA l m y x) (gs.take q) g (0,none));rw [← HTK.o,HGH.o,HLQ.o,← HEA.o,← HEO.o,show eqA l m x y=be by rw [HBE.o]; unfold eqA; rw [HVX.o,HVY.o],show ltA l m y x=bl by rw [hbl]; unfold ltA; rw [HVX.o,HVY.o]] at HSC;clear hx5 hbl v0 v1 v2 v3 v4 v5 v6 y0 y1 y2 y3 y4 y5 y6;cases be
     ·cases bl
      ·have HS1:=Hd (congrArg Prod.fst HSC.o);have HS2:=Hd (congrArg Prod.snd HSC.o);go_wp2;go_roundw
       case rel=>exact ⟨q+1,by rw [← HNG.o]; omega,by go_num,by rw [HS1.o]; rfl,by rw [HS2.o]; rfl,HX5.o⟩
       case measure=>simp [intOf]; omega
      ·have HS1:=Hd (congrArg Prod.fst HSC.o);have HS2:=Hd (congrArg Prod.snd HSC.o);go_wp2;go_roundw
       case rel=>exact ⟨q+1,by rw [← HNG.o]; omega,by go_num,by rw [HS1.o]; go_num,by rw [HS2.o]; rfl,HX5.o⟩
       case measure=>simp [intOf]; omega
     ·cases bl
      ·have HS1:=Hd (congrArg Prod.fst HSC.o);have HS2:=Hd (congrArg Prod.snd HSC.o);go_wp2;go_roundw
       case rel=>exact ⟨q+1,by rw [← HNG.o]; omega,by go_num,by rw [HS1.o]; rfl,by rw [HS2.o]; rfl,HX5.o⟩
       case measure=>simp [intOf]; omega
      ·have HS1:=Hd (congrArg Prod.fst HSC.o);have HS2:=Hd (congrArg Prod.snd HSC.o);go_wp2;go_roundw
       case rel=>exact ⟨q+1,by rw [← HNG.o]; omega,by go_num,by rw [HS1.o]; go_num,by rw [HS2.o]; rfl,HX5.o⟩
       case measure=>simp [intOf]; omega
    ·have hqe:q=ng:=(by omega);have HTG:=Hd (show gs.take q=gs by rw [List.take_of_length_le (by rw [← HNG.o]; omega)]);obtain ⟨wq,rfl⟩:∃ wq:World,wq=wr:=⟨_,rfl⟩;have HXQ:=Hd (HXO.o.trans HXI.o);obtain ⟨bs,hp1,hp2,hp3⟩:=HO.o.ext HXQ.o;rw [← HNG.o] at hp2;have CB2:=Hd (HXQ.o.cell HCB.o);have HZB2:=Hd HZB.o;have HTAK:=Hd (show L.take (k+1)=L.take k++[x] by rw [List.take_succ_eq_append_getElem hkL,← HEX.o]);have HSZ:=Hd (show w.heap.size≤wq.heap.size from Nat.le_trans hsz HXQ.o.size);have HXW:=Hd (HX.o.trans HXQ.o);have HP1:=Hd hp1;have HP3:=Hd hp3;have hwq:=HSZ.o;cases o with
     | some j =>
      rw [show same_ (some j)=(j:Int) from rfl];have hj:j<ng:=(by have:=HOQ.o j rfl; omega);obtain ⟨gA,rfl⟩:=Own.some_ hp2 (by omega);have hjb:j<bs.length:=(by rw [hp1.len,← HNG.o]; exact hj);have hjg:j<gs.length:=(by rw [← HNG.o]; exact hj);obtain ⟨b,eb⟩:∃ b,b=bs[j]:=⟨_,rfl⟩;obtain ⟨gl,egl⟩:∃ gl,gl=gs[j]:=⟨_,rfl⟩;have hbd:bs[j]?=some b:=(by rw [eb]; exact List.getElem?_eq_getElem hjb);have hgd:gs[j]?=some gl:=(by rw [egl]; exact List.getElem?_eq_getElem hjg);have hoj:=hp1.own j b gl hbd hgd;have hj0:=hdr_at hbd hgd;have hbm:b∈bs:=List.mem_of_getElem? hbd;have hbl:=hp1.lt b hbm;have hne:=hp3 b hbm;have hgll:=(HSP.o gl (List.mem_of_getElem? hgd)).2.1;unfold OwnN at hoj;obtain ⟨nj,enj⟩:∃ nj,nj=gl.length:=⟨_,rfl⟩;obtain ⟨bd,ebd⟩:∃ bd,bd=b.1:=⟨_,rfl⟩;obtain ⟨cd,ecd⟩:∃ cd,cd=b.2:=⟨_,rfl⟩;rw [← enj,← ebd,← ecd] at hoj hj0;rw [← enj] at hgll;rw [← ebd] at hbl hne;have HBD:=Hd hbl.1;have HBD2:=Hd hbl.2;have HGD:=Hd (show gA≠bd from fun e=>hne (by rw [e]; rfl));have HGD2:=Hd (show gA<wq.heap.size from hp2.lt_);have HGB:=Hd (show w.heap.size≤gA from (Own.blk hp2 rfl).1);have Q0:=Hd (hp2.cell_ hj0);have HOA:=Hd hp2;have HOJ:=Hd hoj;have HJ0:=Hd hj0;have HBJ:=Hd hbd;have HENJ:=Hd enj;have HEBD:=Hd ebd;have HINS:=Hd (show splR l m (L.take (k+1))=gs.set j (gl++[x]) by
       rw [HTAK.o];show splitR (eqA l m) (ltA l m) (L.take k++[x])=_;rw [splitR_snoc,show splitR (eqA l m) (ltA l m) (L.take k)=gs from HGS.o.symm];have h1:=HEO.o;rw [HTG.o] at h1;rw [insR_some (a:=(scan (eqA l m x) (fun y=>ltA l m y x) 0 gs (0,none)).1) (j:=j) (Prod.ext rfl h1.symm),List.getD_eq_getElem?_getD,hgd];rfl)
      have k0:(0:Int)≤(j:Int):=(by omega);have k1:(j:Int)<(ng:Int):=(by omega);clear hp1 hp2 hp3 hjb hjg hbd hgd hoj hj0 hbm hbl hne eb egl enj ebd ecd
      go_upto_region 19 with fail
      refine wp_region_chain (by kernel_rfl) (fun i=>[i]) (by kernel_rfl) (LZ (fun m b=>(m=1011∧b=bd)∨(m=1013∧b=gA))) (LZ.refl _) (LZ.trans _) (LK [(5,[1013]),(9,[1013]),(11,[1011]),(13,[1013])]) gz0 (LK.zero _) ?_;apply Chain.pure (LZ.refl _) (by rfl)
      ·intro vals γ w' ρ hR hN hp hρ hc hf hg;refine ⟨rfl,?_⟩;have e7:=hρ 7;(conv at e7=>rhs; whnf);clear hR hN hp hρ;go_light;go_simp;exact ⟨rfl,rfl⟩
      ·rfl
      apply Chain.pure (LZ.refl _) (by rfl)
      ·intro vals γ w' ρ hR hN hp hρ hc hf hg;refine ⟨rfl,?_⟩;have e11:=hρ 11;(conv at e11=>rhs; whnf);clear hR hN hp hρ;go_light;go_simp;exact ⟨rfl,rfl⟩
      ·rfl
      apply Chain.pure (LZ.refl _) (by rfl)
      ·intro vals γ w' ρ hR hN hp hρ hc hf hg;refine ⟨rfl,?_⟩;have e7:=hρ 7;(conv at e7=>rhs; whnf);clear hR hN hp hρ;go_light;go_simp;exact ⟨rfl,rfl⟩
      ·rfl
      apply Chain.pure (LZ.refl _) (by rfl)
      ·intro vals γ w' ρ hR hN hp hρ hc hf hg;refine ⟨rfl,?_⟩;have e11:=hρ 11;(conv at e11=>rhs; whnf);clear hR hN hp hρ;go_light;go_simp;exact ⟨rfl,rfl⟩
      ·rfl
      apply Chain.pure (LZ.refl _) (by rfl)
      ·intro vals γ w' ρ hR hN hp hρ hc hf hg;refine ⟨rfl,?_⟩;have e66:ρ (.tmp 66)=_:=(hρ 66).trans (hp 2 (by decide));have e67:ρ (.tmp 67)=_:=(hρ 67).trans (hp 3 (by decide));clear hR hN hp hρ;go_light;go_simp;exact ⟨rfl,rfl⟩
      ·rfl
      apply Chain.pure (LZ.refl _) (by rfl)
      ·intro vals γ w' ρ hR hN hp hρ hc hf hg;refine ⟨rfl,?_⟩;have e68:ρ (.tmp 68)=_:=(hρ 68).trans (hp 4 (by decide));have hk13:=hN.key (k:=1013) (by decide);have hkb:=hR.kept0 (S:=fun b=>b<w.heap.size∨b=gA) (fun b _ hb m hm=>by rcases hm with ⟨rfl,h⟩ | ⟨rfl,h⟩; (have:=HBD.o; have:=HGD.o; rcases hb with hb | hb <;> omega); exact hk13);have k0:=hkb.cell2 Q0.o (.inr rfl);have k1:=hkb.cell2 CB2.o (.inl HZB2.o);clear hk13 hkb hR hN hp hρ;go_light;go_simp;exact ⟨rfl,rfl⟩
      ·rfl
      apply Chain.pure (LZ.refl _) (by rfl)
      ·intro vals γ w' ρ hR hN hp hρ hc hf hg;refine ⟨rfl,?_⟩;have e1:=hρ 1;(conv at e1=>rhs; whnf);clear hR hN hp hρ;go_light;go_simp;exact ⟨rfl,rfl⟩
      ·rfl
      apply Chain.pure (LZ.refl _) (by rfl)
      ·intro vals γ w' ρ hR hN hp hρ hc hf hg;refine ⟨rfl,?_⟩;have e8:=hρ 8;(conv at e8=>rhs; whnf);clear hR hN hp hρ;go_light;go_simp;exact ⟨rfl,rfl⟩
      ·rfl
      apply Chain.pure (LZ.refl _) (by rfl)
      ·intro vals γ w' ρ hR hN hp hρ hc hf hg;refine ⟨rfl,?_⟩;have e70:ρ (.tmp 70)=_:=(hρ 70).trans (hp 6 (by decide));have e71:ρ (.tmp 71)=_:=(hρ 71).trans (hp 7 (by decide));clear hR hN hp hρ;go_light;go_simp;exact ⟨rfl,rfl⟩
      ·rfl
      apply Chain.pure (LZ.refl _) (by rfl)
      ·intro vals γ w' ρ hR hN hp hρ hc hf hg;refine ⟨rfl,?_⟩;have e72:ρ (.tmp 72)=_:=(hρ 72).trans (hp 8 (by decide));have hk13:=hN.key (k:=1013) (by decide);have hkb:=hR.kept0 (S:=fun b=>b<w.heap.size∨b=gA) (fun b _ hb m hm=>by rcases hm with ⟨rfl,h⟩ | ⟨rfl,h⟩; (have:=HBD.o; have:=HGD.o; rcases hb with hb | hb <;> omega); exact hk13);have k0:=hkb.cell2 Q0.o (.inr rfl);have k1:=hkb.cell2 CB2.o (.inl HZB2.o);clear hk13 hkb hR hN hp hρ;go_light;go_simp;exact ⟨rfl,rfl⟩
      ·rfl
      refine Chain.step (FP fun v γ w'=>∃ g:Nat,v=.slice (some ⟨g,0,none⟩) 1 1∧Blk w' g 3 #[.int .i64 (x:Int)]∧wq.heap.size≤g) (by rfl) (FP.stab ?_) ?_ ?_
      ·rintro v γ w1 γ' w2 rr ⟨g,h1,h2,h3⟩;exact ⟨g,h1,h2.keep ((rr.keptS (S:=fun b=>wq.heap.size≤b) fun b _ (e:wq.heap.size≤b) m hm=>by have:=HBD2.o; have:=HGD2.o; rcases hm with ⟨_,h⟩ | ⟨_,h⟩ <;> omega).mono fun b _ e=>by rw [e]; exact h3),h3⟩
      ·intro vals γ w' ρ hR hN hp hρ hc hf hg;refine ⟨rfl,?_⟩;have e73:ρ (.tmp 73)=_:=(hρ 73).trans (hp 9 (by decide));have HR:=Hd hR;clear hR hN hp hρ;go_light;go_simp;exact ⟨γ,LZ.of_ext _ γ ((Ext.refl _).alloc _),fun _ _ _ h=>h,_,rfl,Blk.new _ _ _,HR.o.size⟩
      refine Chain.step (FP fun v γ w'=>∃ (A4:Option Addr) (c4:Nat),v=.slice A4 (nj+1) c4∧Own w' w.heap.size 3 1 A4 (nj+1) c4 ((nums gl).map (Value.int .i64)++[.int .i64 (x:Int)])∧γ 1011=true∧(∀ b,ob A4=some b→b=bd∨wq.heap.size≤b)) (by rfl) (FP.stab ?_) ?_ ?_
      ·rintro v γ w1 γ' w2 rr ⟨A4,c4,h1,h2,h3,h4⟩;exact ⟨A4,c4,h1,Own.keep h2 (rr.keptS fun b _ (e:ob A4=some b) m hm=>by rcases hm with ⟨rfl,h⟩ | ⟨rfl,h⟩; (rw [h3,rr.done _ h3]); (have:=HBD2.o; have:=HGD2.o; have:=HGD.o; rcases h4 b e with h5 | h5 <;> omega)),rr.done _ h3,h4⟩
      ·intro vals γ w' ρ hR hN hp hρ hc hf hg;refine ⟨rfl,?_⟩;have e69:ρ (.tmp 69)=_:=(hρ 69).trans (hp 5 (by decide));obtain ⟨g,hv,hb,hg⟩:=hp 10 (by decide);have e74:=(hρ 74).trans hv;have hk0:=hN.key (k:=1011) (by decide);have ho:=Own.keep HOJ.o (hR.kept0 (S:=fun b=>ob (some ⟨bd,0,none⟩)=some b) fun b _ e m hm=>by rcases hm with ⟨rfl,h⟩ | ⟨rfl,h⟩; exact hk0; (have:=HGD.o; simp [ob] at e; omega));have hsz:=hR.size;have e0:wq.drew.heap.size=wq.heap.size:=rfl;have hs2:=HSZ.o;refine lin_appC (.tmp 69) (.tmp 74) rfl tiI e69 ho e74 (Blk.rd hb) rfl (by simp [Value.oneCell']) (by omega) (by decide) (by omega) ?_;intro A4 c4 w4 hown4 hg4 hat4;refine ⟨γ.put 1011,LZ.write hk0 hg4.os hg4.tape hg4.output hg4.size (fun b hb hm=>hg4.block b hb fun e=>hm (.inl ⟨rfl,by simp [ob] at e; omega⟩)),LK.done (by decide),A4,c4,rfl,hown4,by simp [Gz.put],fun b hb4 => ?_⟩
       rcases hat4 with e | e
       ·left; rw [hb4] at e; simp [ob] at e; exact e
       ·right; rw [hb4] at e; injection e with e; omega
      apply Chain.pure (LZ.refl _) (by rfl)
      ·intro vals γ w' ρ hR hN hp hρ hc hf hg;refine ⟨rfl,?_⟩;have e64:ρ (.tmp 64)=_:=(hρ 64).trans (hp 0 (by decide));have e65:ρ (.tmp 65)=_:=(hρ 65).trans (hp 1 (by decide));clear hR hN hp hρ;go_light;go_simp;exact ⟨rfl,rfl⟩
      ·rfl
      refine Chain.step (fun _ γ w'=>RsF w wq.heap.size gA bd j nj ng c' x bs gs gl γ w') (by rfl) ?_ ?_ ?_
      ·rintro l γ w1 γ' w2 rr ⟨A4,c4,h3,h5,h2,h4,h6⟩;exact ⟨A4,c4,rr.done _ h3,rr.done _ h5,Own.keep h2 (rr.keptS fun b _ (e:ob A4=some b) m hm=>by rcases hm with ⟨rfl,h⟩ | ⟨rfl,h⟩; (rw [h3,rr.done _ h3]); (have:=HBD2.o; have:=HGD2.o; have:=HGD.o; rcases h4 b e with h5 | h5 <;> omega)),h4,Own.keep h6 (rr.keptS fun b _ (e:ob (some ⟨gA,0,none⟩)=some b) m hm=>by rcases hm with ⟨rfl,h⟩ | ⟨rfl,h⟩; (rw [h3,rr.done _ h3]); (rw [h5,rr.done _ h5]))⟩
      ·intro vals γ w' ρ hR hN hp hρ hc hf hg;refine ⟨rfl,?_⟩;obtain ⟨A4,c4,hv,ho4,hd4,hat4⟩:=hp 11 (by decide);have e75:=(hρ 75).trans hv;have e76:ρ (.tmp 76)=_:=(hρ 76).trans (hp 12 (by decide));have hk13:=hN.key (k:=1013) (by decide);have HK:=Hd hk13;have hb0:=Own.keep HOA.o (hR.kept0 (S:=fun b=>ob (some ⟨gA,0,none⟩)=some b) (fun b _ e m hm=>by rcases hm with ⟨rfl,h⟩ | ⟨rfl,h⟩; (have:=HGD.o; simp [ob] at e; omega); exact hk13));have HB0:=Hd hb0;have qc:=hb0.cell_ HJ0.o;have qf:=hb0.frozen_ j;have ql:=hb0.lt_;have HE:=Hd ho4;have HDD:=Hd hd4;have HAA:=Hd hat4;clear hR hN hp hρ hv ho4 hd4 hat4 hk13 hb0;go_light;go_simp;refine ⟨γ.put 1013,LZ.write HK.o rfl rfl rfl (by simp [World.setCell]) (fun b hb hm=>Below.heap_setCell _ _ _ _ (by show b≠gA; exact fun e=>hm (.inr ⟨rfl,e⟩))),LK.done (by decide),A4,c4,by simp [Gz.put,HDD.o],by simp [Gz.put],Own.set HE.o (fun e => ?_) _,HAA.o,HB0.o.put _⟩;have:=HBD2.o;have:=HGD2.o;have:=HGD.o;have h5:=HAA.o gA e
       rcases h5 with h5 | h5 <;> omega
      intro vals γ w9 hR hG;have v0:vals 0=_:=hG 0 (by decide);have v1:vals 1=_:=hG 1 (by decide);have v2:vals 2=_:=hG 2 (by decide);have v3:vals 3=_:=hG 3 (by decide);have v4:vals 4=_:=hG 4 (by decide);have v5:vals 5=_:=hG 5 (by decide);have v6:vals 6=_:=hG 6 (by decide);have v7:vals 7=_:=hG 7 (by decide);have v8:vals 8=_:=hG 8 (by decide);have v9:vals 9=_:=hG 9 (by decide);obtain ⟨g10,v10,-⟩:=hG 10 (by decide);obtain ⟨A11,c11,v11,-⟩:=hG 11 (by decide);have v12:vals 12=_:=hG 12 (by decide);simp only [lexFrame,Act.put,List.setIfInBounds_toArray,List.set_cons_succ,List.set_cons_zero,Nat.zero_add,Nat.reduceAdd,v0,v1,v2,v3,v4,v5,v6,v7,v8,v9,v10,v11,v12];clear v0 v1 v2 v3 v4 v5 v6 v7 v8 v9 v10 v11 v12;obtain ⟨A4,c4,-,-,ho4,hat4,hoh⟩:=hG 13 (by decide);have HB9:=Hd (hR.buts (S:=fun b=>b=bd∨b=gA) (fun m b _ hm _=>by rcases hm with ⟨_,h⟩ | ⟨_,h⟩; exact .inl h; exact .inr h));have HO4:=Hd ho4;have HAT4:=Hd hat4;have HOH:=Hd hoh;clear hR hG ho4 hat4 hoh;go_wp2;go_roundw
      case rel =>
       have hnn:OwnNN w9 w.heap.size (some ⟨gA,0,none⟩) c' (gs.set j (gl++[x])):=by
        refine OwnNN.grow2 (g2:=gl++[x]) (A2:=A4) (c2:=c4) HP1.o (by rw [← HNG.o,List.length_append,← HENJ.o]; exact HOH.o) (fun d hd e=>HP3.o d hd (by rw [e]; rfl)) HGD2.o HBJ.o (HB9.o.kept (T:=fun y=>y∈bs.map (·.1)∧y≠_) fun y _ hy hh => ?_) (by unfold OwnN; rw [List.length_append,← HENJ.o]; simpa [nums] using HO4.o) (by rw [← HEBD.o]; exact HAT4.o) (by simp)
        rcases hh with hh | hh
        ·exact hy.2 (by rw [hh,HEBD.o])
        ·obtain ⟨d,hd,e⟩:=List.mem_map.1 hy.1;exact HP3.o d hd (by rw [e,hh]; rfl)
       refine ⟨k+1,some ⟨gA,0,none⟩,c',by omega,by go_num,by rw [HINS.o,List.length_set,← HNG.o],HB9.o.exts HXW.o fun y hy => ?_,by rw [HINS.o]; exact hnn⟩;have hy':y=bd∨y=gA:=hy
       rcases hy' with hy' | hy'
       ·rw [hy']; exact HBD.o
       ·rw [hy']; exact HGB.o
      case measure=>simp [intOf]; omega
     | none =>
      rw [show same_ none=-1 from rfl];have hcap:=Own.cap hp2;have HAL:=Hd (show ∀ b,ob A'=some b→b<wq.heap.size from fun b hb=>(Own.blk hp2 hb).2);have HRD:=Hd hp2.rd;have HOA:=Hd hp2;have hhl:(hdr bs gs).length=ng:=(by rw [hdr_len hp1.len,HNG.o]);have haq2:a≤ng:=(by omega);have HHL:=Hd hhl;have HCP:=Hd hcap;have HDL:=Hd (show ((hdr bs gs).drop a).length=(ng-a)*1 by rw [List.length_drop,hhl]; omega);have HTL:=Hd (show ((hdr bs gs).take a).length=a*1 by rw [List.length_take,hhl]; omega);have HDC:=Hd (show ∀ u∈(hdr bs gs).drop a,u.oneCell'=true from fun u hu=>hdr_one u (List.mem_of_mem_drop hu));have HTC:=Hd (show ∀ u∈(hdr bs gs).take a,u.oneCell'=true from fun u hu=>hdr_one u (List.mem_of_mem_take hu));have HZB3:=Hd (show bB<wq.heap.size by have:=HZB.o; omega);have HINS:=Hd (show splR l m (L.take (k+1))=gs.take a++[x] :: gs.drop a by
       rw [HTAK.o];show splitR (eqA l m) (ltA l m) (L.take k++[x])=_;rw [splitR_snoc,show splitR (eqA l m) (ltA l m) (L.take k)=gs from HGS.o.symm];have h1:=HEO.o;have h2:=HEA.o;rw [HTG.o] at h1 h2;rw [insR_none (a:=a) (Prod.ext h2.symm h1.symm)])
      have k0:(0:Int)≤(a:Int):=(by omega);have k1:(a:Int)≤(ng:Int):=(by omega);clear hp1 hp2 hp3 hhl
      go_upto_region 20 with fail
      refine wp_region_chain (by kernel_rfl) (fun i=>[i]) (by kernel_rfl) (LZ (fun m b=>m=1009∧wq.heap.size≤b)) (LZ.refl _) (LZ.trans _) (LK [(9,[1009])]) gz0 (LK.zero _) ?_;apply Chain.pure (LZ.refl _) (by rfl)
      ·intro vals γ w' ρ hR hN hp hρ hc hf hg;refine ⟨rfl,?_⟩;have e1:=hρ 1;(conv at e1=>rhs; whnf);clear hR hN hp hρ;go_light;go_simp;exact ⟨rfl,rfl⟩
      ·rfl
      apply Chain.pure (LZ.refl _) (by rfl)
      ·intro vals γ w' ρ hR hN hp hρ hc hf hg;refine ⟨rfl,?_⟩;have e8:=hρ 8;(conv at e8=>rhs; whnf);clear hR hN hp hρ;go_light;go_simp;exact ⟨rfl,rfl⟩
      ·rfl
      apply Chain.pure (LZ.refl _) (by rfl)
      ·intro vals γ w' ρ hR hN hp hρ hc hf hg;refine ⟨rfl,?_⟩;have e77:ρ (.tmp 77)=_:=(hρ 77).trans (hp 0 (by decide));have e78:ρ (.tmp 78)=_:=(hρ 78).trans (hp 1 (by decide));clear hR hN hp hρ;go_light;go_simp;exact ⟨rfl,rfl⟩
      ·rfl
      apply Chain.pure (LZ.refl _) (by rfl)
      ·intro vals γ w' ρ hR hN hp hρ hc hf hg;refine ⟨rfl,?_⟩;have e79:ρ (.tmp 79)=_:=(hρ 79).trans (hp 2 (by decide));have hkb:=hR.kept0 (S:=fun b=>b<wq.heap.size) fun b _ (e:b<wq.heap.size) m hm=>by have:=hm.2; omega
       have k1:=hkb.cell2 CB2.o HZB3.o;clear hkb hR hN hp hρ;go_light;go_simp;exact ⟨rfl,rfl⟩
      ·rfl
      refine Chain.step (FP fun v γ w'=>∃ g:Nat,v=.slice (some ⟨g,0,none⟩) 1 1∧wq.heap.size≤g∧g<w'.heap.size∧(γ 1009=false→Blk w' g 3 #[.int .i64 (x:Int)])) (by rfl) (FP.stab ?_) ?_ ?_
      ·rintro v γ w1 γ' w2 rr ⟨g,h1,h2,h3,h4⟩;refine ⟨g,h1,h2,Nat.lt_of_lt_of_le h3 rr.size,fun hk => ?_⟩;have hk0:γ 1009=false:=by
        cases h6:γ 1009 with
        | false=>rfl
        | true=>rw [rr.done _ h6] at hk; cases hk
       exact (h4 hk0).keep (rr.keptS fun b _ _ m hm=>by rw [hm.1,hk,hk0])
      ·intro vals γ w' ρ hR hN hp hρ hc hf hg;refine ⟨rfl,?_⟩;have e80:ρ (.tmp 80)=_:=(hρ 80).trans (hp 3 (by decide));have HR:=Hd hR;clear hR hN hp hρ;go_light;go_simp;exact ⟨γ,LZ.of_ext _ γ ((Ext.refl _).alloc _),fun _ _ _ h=>h,_,rfl,HR.o.size,by simp,fun _=>Blk.new _ _ _⟩
      refine Chain.step (FP fun v γ w'=>∃ g g8:Nat,v=.slice (some ⟨g8,0,none⟩) 1 1∧wq.heap.size≤g∧g<g8∧g8<w'.heap.size∧(γ 1009=false→Blk w' g 3 #[.int .i64 (x:Int)]∧Blk w' g8 26 #[.slice (some ⟨g,0,none⟩) 1 1])) (by rfl) (FP.stab ?_) ?_ ?_
      ·rintro v γ w1 γ' w2 rr ⟨g,g8,h1,h2,h3,h5,h4⟩;refine ⟨g,g8,h1,h2,h3,Nat.lt_of_lt_of_le h5 rr.size,fun hk => ?_⟩;have hk0:γ 1009=false:=by
        cases h6:γ 1009 with
        | false=>rfl
        | true=>rw [rr.done _ h6] at hk; cases hk
       exact ⟨(h4 hk0).1.keep (rr.keptS fun b _ _ m hm=>by rw [hm.1,hk,hk0]),(h4 hk0).2.keep (rr.keptS fun b _ _ m hm=>by rw [hm.1,hk,hk0])⟩
      ·intro vals γ w' ρ hR hN hp hρ hc hf hg;refine ⟨rfl,?_⟩;obtain ⟨g,hv,hg,hgl,hb⟩:=hp 4 (by decide);have e81:=(hρ 81).trans hv;have HR:=Hd hR;have HB:=Hd hb;have HG0:=Hd hg;have HGL:=Hd hgl;clear hR hN hp hρ hv hb hg hgl;go_light;go_simp;exact ⟨γ,LZ.of_ext _ γ ((Ext.refl _).alloc _),fun _ _ _ h=>h,g,_,rfl,HG0.o,HGL.o,by simp,fun h=>⟨(HB.o h).keep (Kept.alloc _ _ _),Blk.new _ _ _⟩⟩
      apply Chain.pure (LZ.refl _) (by rfl)
      ·intro vals γ w' ρ hR hN hp hρ hc hf hg;refine ⟨rfl,?_⟩;have e7:=hρ 7;(conv at e7=>rhs; whnf);clear hR hN hp hρ;go_light;go_simp;exact ⟨rfl,rfl⟩
      ·rfl
      apply Chain.pure (LZ.refl _) (by rfl)
      ·intro vals γ w' ρ hR hN hp hρ hc hf hg;refine ⟨rfl,?_⟩;have e10:=hρ 10;(conv at e10=>rhs; whnf);clear hR hN hp hρ;go_light;go_simp;exact ⟨rfl,rfl⟩
      ·rfl
      refine Chain.step (FP fun v γ w'=>RsD A' ng a bs gs v w') (by rfl) (FP.stab ?_) ?_ ?_
      ·rintro v γ w1 γ' w2 rr ⟨B8,c8,h1,h2⟩;exact ⟨B8,c8,h1,h2.keep (rr.keptS fun b _ (e:ob A'=some b) m hm=>by have:=HAL.o b e; have:=hm.2; omega)⟩
      ·intro vals γ w' ρ hR hN hp hρ hc hf hg;refine ⟨rfl,?_⟩;have e83:ρ (.tmp 83)=_:=(hρ 83).trans (hp 6 (by decide));have e84:ρ (.tmp 84)=_:=(hρ 84).trans (hp 7 (by decide));have hrd:=HRD.o.keep ((hR.kept0 (S:=fun b=>b<wq.heap.size) fun b _ (e:b<wq.heap.size) m hm=>by have:=hm.2; omega).mono fun b _ e=>HAL.o b e);have HRD2:=Hd hrd;have HR:=Hd hR;clear hR hN hp hρ hrd;go_light;go_simp;exact ⟨γ,LZ.refl _ _ _,fun _ _ _ h=>h,_,_,rfl,rd_from HRD2.o (by rw [HHL.o]; exact HCP.o)⟩
      refine Chain.step (FP fun v γ w'=>RsG w wq.heap.size ng a x bs gs v γ w') (by rfl) (FP.stab ?_) ?_ ?_
      ·rintro v γ w1 γ' w2 rr ⟨A4,c4,g,h1,h3,h2,h4,h5,h6,h7⟩;exact ⟨A4,c4,g,h1,rr.done _ h3,h2.keep (rr.keptS fun b _ _ m hm=>by rw [hm.1,h3,rr.done _ h3]),h4,h5,h6,Own.keep h7 (rr.keptS fun b _ _ m hm=>by rw [hm.1,h3,rr.done _ h3])⟩
      ·intro vals γ w' ρ hR hN hp hρ hc hf hg;refine ⟨rfl,?_⟩;obtain ⟨g,g8,hv,hg,hg8,hl,hb⟩:=hp 5 (by decide);have e82:=(hρ 82).trans hv;obtain ⟨B8,c8,hv8,hrd⟩:=hp 8 (by decide);have e85:=(hρ 85).trans hv8;have hk0:=hN.key (k:=1009) (by decide);obtain ⟨hb1,hb2⟩:=hb hk0;have ho:Own w' w.heap.size 26 1 (some ⟨g8,0,none⟩) 1 1 [.slice (some ⟨g,0,none⟩) 1 1]:=Own.lit1 (xs:=[.slice (some ⟨g,0,none⟩) 1 1]) hb2 (by have:=HSZ.o; omega);have hsz:=hR.size;have e0:wq.drew.heap.size=wq.heap.size:=rfl;have hs2:=HSZ.o;have hl8:=HDL.o;refine lin_appC (.tmp 82) (.tmp 85) rfl tiN e82 ho e85 hrd hl8 (HDC.o) (by omega) (by decide) (by omega) ?_;intro A4 c4 w4 hown4 hg4 hat4;have hgz:=hg4.size;refine ⟨γ.put 1009,LZ.write hk0 hg4.os hg4.tape hg4.output hg4.size (fun b hb hm=>hg4.block b hb fun e=>hm ⟨rfl,by simp [ob] at e; omega⟩),LK.done (by decide),A4,c4,g,rfl,by simp [Gz.put],hb1.keep (Kept.of_grown hg4 fun b e _ f=>by simp [ob] at f; omega),hg,fun e => ?_,fun b hb4 => ?_,hown4⟩
       ·rcases hat4 with f | f
        ·rw [e] at f; simp [ob] at f; omega
        ·rw [e] at f; injection f with f; omega
       ·rcases hat4 with f | f
        ·rw [hb4] at f; simp [ob] at f; omega
        ·rw [hb4] at f; injection f with f; omega
      refine Chain.step (FP fun v γ w'=>RsG w wq.heap.size ng a x bs gs v γ w') (by rfl) (FP.stab ?_) ?_ ?_
      ·rintro v γ w1 γ' w2 rr ⟨A4,c4,g,h1,h3,h2,h4,h5,h6,h7⟩;exact ⟨A4,c4,g,h1,rr.done _ h3,h2.keep (rr.keptS fun b _ _ m hm=>by rw [hm.1,h3,rr.done _ h3]),h4,h5,h6,Own.keep h7 (rr.keptS fun b _ _ m hm=>by rw [hm.1,h3,rr.done _ h3])⟩
      ·intro vals γ w' ρ hR hN hp hρ hc hf hg;refine ⟨rfl,?_⟩;have hg:=hp 9 (by decide);have e86:=hρ 86;(conv at e86=>rhs; whnf);have HG:=Hd hg;clear hR hN hp hρ hg;go_light;go_simp;exact ⟨γ,LZ.refl _ _ _,fun _ _ _ h=>h,HG.o⟩
      intro vals γ w9 hR hG;have v0:vals 0=_:=hG 0 (by decide);have v1:vals 1=_:=hG 1 (by decide);have v2:vals 2=_:=hG 2 (by decide);have v3:vals 3=_:=hG 3 (by decide);obtain ⟨g4,v4,-⟩:=hG 4 (by decide);obtain ⟨g5,g6,v5,-⟩:=hG 5 (by decide);have v6:vals 6=_:=hG 6 (by decide);have v7:vals 7=_:=hG 7 (by decide);obtain ⟨B8,c8,v8,-⟩:=hG 8 (by decide);obtain ⟨A9,c9,g9,v9,-⟩:=hG 9 (by decide);obtain ⟨A4,c4,g,v10,-,hbg,hg,hne,hat4,ho4⟩:=hG 10 (by decide);simp only [lexFrame,Act.put,List.setIfInBounds_toArray,List.set_cons_succ,List.set_cons_zero,Nat.zero_add,Nat.reduceAdd,v0,v1,v2,v3,v4,v5,v6,v7,v8,v9,v10];clear v0 v1 v2 v3 v4 v5 v6 v7 v8 v9 v10;have HX9:=Hd (hR.ext0 (fun m b hb hm=>by have:=hm.2; omega));have HBG:=Hd hbg;have HNE:=Hd hne;have HAT4:=Hd hat4;have HO4:=Hd ho4;have HGG:=Hd hg;clear hR hG hbg hne hat4 ho4;have hz9:=HX9.o.size;have HP9:=Hd (HP1.o.keep (HX9.o.kept _));have HRD9:=Hd (HRD.o.keep (HX9.o.kept _));have HGL9:=Hd (show g<w9.heap.size from HBG.o.lt)
      go_wp2_with (at_builtin; first
       | (refine wpList_app rfl (.tmp 87) (.tmp 90) rfl tiN rfl ((Own.made w9 _ 1 0 #[] (by unfold maxLen; omega) rfl).lower (by omega:w.heap.size≤w9.heap.size)) rfl ((HRD9.o.keep (Kept.alloc _ _ _)).take a) HTL.o HTC.o (by omega) (by decide) (by simp <;> omega) ?_; intro A5 c5 w5 hown5 hg5 hat5; have hx5:=((Ext.refl w9).alloc (.cells #[] 26)).grown hg5 (fun b hb=>by simp [ob] at hb; omega); have hown5':Own w5 w.heap.size 26 1 A5 a c5 ((hdr bs gs).take a):=(by simpa using hown5); have HOWN5:=Hd hown5'; have HAT5:=Hd (show ∀ b,ob A5=some b→w9.heap.size≤b from fun b hb=>by rcases hat5 with e | e; (rw [hb] at e; simp [ob] at e; omega); (rw [hb] at e; simp at e; omega)); have HX5:=Hd hx5; have hz5:=hx5.size; clear hown5 hown5' hg5 hat5 hx5)
       | (refine wpList_app rfl (.tmp 91) (.tmp 92) rfl tiN rfl HOWN5.o rfl ((HO4.o.ext HX5.o).rd) (by have:=HDL.o; simp at this ⊢; omega) (by intro u hu; rcases List.mem_append.1 hu with hu | hu; (rw [List.mem_singleton.1 hu]; rfl); exact HDC.o u hu) (by omega) (by decide) (by omega) ?_; intro A6 c6 w6 hown6 hg6 hat6; have HOWN6:=Hd hown6; have HG6:=Hd hg6; have HAT6:=Hd hat6; clear hown6 hg6 hat6))
      go_roundw
      case rel =>
       have hnew:∀ y,y<w9.heap.size→¬ ob A5=some y:=fun y hy e=>by have:=HAT5.o y e; omega
       have hk6:∀ P:Nat→Prop,(∀ y,P y→y<w9.heap.size)→Kept P w9 w6:=fun P hP=>(HX5.o.kept P).trans (Kept.of_grown HG6.o fun y hy _ e=>hnew y (hP y hy) e.symm);have hlt6:∀ y,y<w9.heap.size→ob A6≠some y:=fun y hy e=>by
        rcases HAT6.o with f | f
        ·exact hnew y hy (by rw [← f]; exact e)
        ·rw [e] at f; injection f with f; omega
       have hnn:OwnNN w6 w.heap.size A6 c6 (gs.take a++[x] :: gs.drop a):=by
        have hb6:Blk w6 g 3 #[.int .i64 (x:Int)]:=HBG.o.keep (hk6 _ fun y e=>by rw [e]; exact HGL9.o);refine OwnNN.insert (n:=a) (x:=g) (e:=1) (g:=[x]) (HP9.o.keep (hk6 _ fun y hy => ?_)) (Own.lit1 (xs:=[.int .i64 (x:Int)]) hb6 (by have:=HGG.o; omega) (hn:=rfl) (hm:=by show 1≤maxLen; decide)) (fun b hb e => ?_) ?_ (hlt6 g HGL9.o) (fun b hb=>hlt6 b.1 (HP9.o.lt b hb).2)
        ·obtain ⟨d,hd,rfl⟩:=List.mem_map.1 hy;exact (HP9.o.lt d hd).2
        ·have h1:=(HP1.o.lt b hb).2;have h2:=HGG.o;omega
        ·have h1:=HOWN6.o;rw [show a+(1+(ng-a))=gs.length+1 by have:=HNG.o; omega] at h1
         simpa using h1
       refine ⟨k+1,A6,c6,by omega,by go_num,?_,(((HXW.o.trans HX9.o).trans HX5.o).grown HG6.o fun b hb=>(Own.blk HOWN5.o hb).1),by rw [HINS.o]; exact hnn⟩;rw [HINS.o,List.length_append,List.length_cons,List.length_take,List.length_drop,← HNG.o];congr 1;omega
      case measure=>simp [intOf]; omega
  ·obtain rfl:k=n:=by omega
   have HFI:=Hd (show gs=splR l m L by rw [HGS.o,List.take_of_length_le (by rw [← HNN.o]; exact Nat.le_refl _)]);go_wp2;go_ret;exact ⟨A',c',by rw [← HFI.o,← HNG.o]; rfl,by rw [← HFI.o]; exact HO.o,HX.o⟩
/- The reference's depth, and the depth with a first question. Conditions: the arguments read as data; the programs are there. -/

structure AnsR (w:World) (S:Nat→Prop) (d:Nat) (A:Option Addr) (l:List (List Val)):Prop where
 rows:Rows w S d A l
 flat:NoT l
 tri:Tri l
 wide:Wide l (inpS l)
 few:inpS l≤1000
theorem AnsR.keep {w w':World} {S:Nat→Prop} {d:Nat} {A:Option Addr} {l:List (List Val)} (h:AnsR w S d A l) (k:Kept S w w'):AnsR w' S d A l:=⟨h.rows.keep k,h.flat,h.tri,h.wide,h.few⟩
theorem AnsR.inp {w:World} {S:Nat→Prop} {d:Nat} {A:Option Addr} {l:List (List Val)} (h:AnsR w S d A l) {m:Nat} (hm:m<inpS l):∀ r∈l,m<r.length:=fun r hr=>by rw [h.wide r hr]; exact hm
structure ProR (w:World) (T:Nat→Prop) (B:Option Addr) (n:Nat) (L:List Nat):Prop where
 nums:Nums w T B L
 lt:∀ x∈L,x<n
 len:L.length≤90
theorem ProR.keep {w w':World} {T:Nat→Prop} {B:Option Addr} {n:Nat} {L:List Nat} (h:ProR w T B n L) (k:Kept T w w'):ProR w' T B n L:=⟨h.nums.keep k,h.lt,h.len⟩
def PDr (f:Nat):Prop:=∀ (d:Nat) (l:List (List Val)) (A:Option Addr) (c:Nat) (L:List Nat) (B:Option Addr) (e:Nat) (w:World) (S T:Nat→Prop),L.length≤f→AnsR w S d A l→ProR w T B l.length L →
 Calls Tryz.prog 57 #[.slice A l.length c,.slice B L.length e] w (RetI w ((dep (spl l) (inpS l) L:Nat):Int))
theorem depR_le (l:List (List Val)) {g L:List Nat} (h:g.length≤L.length) (hL:L.length≤90):dep (spl l) (inpS l) g≤90:=by
 have:=dep_len (spl_small l) (inpS l) g;omega
set_option maxRecDepth 100000 in
set_option maxHeartbeats 4000000 in
theorem r25_after (f:Nat) (ih:PDr f) (d:Nat) (l:List (List Val)) (A:Option Addr) (c:Nat) (L:List Nat) (B:Option Addr) (e m:Nat) (w:World) (S T:Nat→Prop) (hf:L.length≤f+1) (hr:AnsR w S d A l) (hn:ProR w T B l.length L) (hm:m<inpS l) :
  Calls Tryz.prog 108 #[.slice A l.length c,.slice B L.length e,.int .i64 (m:Int)] w (RetI w ((dW (spl l) (dep (spl l) (inpS l)) m L:Nat):Int)):=by
 have HF:=Hd hf;have HR:=Hd hr;have HN:=Hd hn;have HM:=Hd hm;have HSPL:=Hd (r25_Split d l A c L B e m w S T hr.rows hr.flat (hr.inp hm) hn.nums hn.lt (by have:=hn.len; omega));obtain ⟨gs,egs⟩:∃ gs,gs=splR l m L:=⟨_,rfl⟩;rw [← egs] at HSPL;have HGS:=Hd (show gs=spl l m L by rw [egs]; exact splR_eq hr.tri hr.wide hm hn.lt);have hgl:=spl_len l m L;rw [← HGS.o] at hgl;have hlen:=hn.len;have HIS:=Hd (spl_is l m L);rw [← HGS.o] at HIS;obtain ⟨nl,enl⟩:∃ n,n=l.length:=⟨_,rfl⟩;obtain ⟨n,en⟩:∃ n,n=L.length:=⟨_,rfl⟩;obtain ⟨ng,eng⟩:∃ n,n=gs.length:=⟨_,rfl⟩;have HNL:=Hd enl;have HNN:=Hd en;have HNG:=Hd eng;rw [← en,← eng] at hgl;rw [← en] at hlen ⊢;rw [← enl] at HSPL ⊢;rw [← en] at HSPL;have hng:ng≤90:=(by omega);clear hf hr hn hm egs enl en eng hgl
 go_enter Tryz.func108,Tryz.ntmps108
 go_wp2_with fail
 refine HSPL.o.mono ?_;rintro e1 w1 ⟨A1,c1,rfl,ho1,hx1⟩;have HX1:=Hd hx1;have HO1:=Hd (ho1.nn (by rw [← HNG.o]; omega) (fun g hg=>by have:=(HIS.o.sub g hg).2.length_le; have:=HN.o.len; omega));have HAR:=Hd (HR.o.keep (hx1.kept S));rw [← HNG.o];clear hx1 ho1;by_cases h2:ng<2
 ·have i2:(ng:Int)<2:=(by omega);have HW:=Hd (show dW (spl l) (dep (spl l) (inpS l)) m L=0 by unfold dW; rw [← HGS.o,if_pos (by rw [← HNG.o]; exact h2)]);go_wp2;go_ret;exact ⟨by rw [HW.o]; rfl,HX1.o⟩
 ·have i2:¬ (ng:Int)<2:=(by omega);have HW:=Hd (show dW (spl l) (dep (spl l) (inpS l)) m L=1+gs.foldl (fun a g=>max a (dep (spl l) (inpS l) g)) 0 by unfold dW; rw [← HGS.o,if_neg (by rw [← HNG.o]; exact h2)]);go_wp2
  go_loopw [8,9] (fun v i wr=>∃ (k a:Nat),k≤ng∧v=.int .i64 (a:Int)∧i=.int .i64 (k:Int)∧a≤90∧a=(gs.take k).foldl (fun a g=>max a (dep (spl l) (inpS l) g)) 0∧Ext w1 wr) (fun _ i _=>ng-(intOf i).toNat)
  case atStart=>exact ⟨0,0,Nat.zero_le _,rfl,rfl,Nat.zero_le _,rfl,Ext.refl _⟩
  case round =>
   obtain ⟨k,a,hk,rfl,rfl,ha,hae,hx⟩:=hrel;have HAE:=Hd hae;have HX:=Hd hx;clear hae hx;by_cases hlt:k<ng
   ·have hks:k<gs.length:=(by rw [← HNG.o]; exact hlt);obtain ⟨b2,o2,B2,e2,hA1,_,hc2,-,hn2⟩:=(HO1.o.keep (HX.o.kept _)).at_ hks;subst hA1;obtain ⟨g,eg⟩:∃ g,g=gs[k]:=⟨_,rfl⟩;have hgm:g∈gs:=(by rw [eg]; exact List.getElem_mem hks);rw [← eg] at hc2 hn2;have hsub:=(HIS.o.sub g hgm).2;have hsml:=HIS.o.small (by rw [← HNG.o]; omega) g hgm;have hnlen:=HN.o.len;have HCALL:=Hd (ih d l A c g B2 e2 wr S _ (by have:=HF.o; omega) (HAR.o.keep (HX.o.kept S)) ⟨hn2,fun x hx=>HN.o.lt x (hsub.subset hx),by omega⟩);have HTK:=Hd (show (gs.take (k+1)).foldl (fun a g=>max a (dep (spl l) (inpS l) g)) 0=max a (dep (spl l) (inpS l) g) by
     rw [List.take_succ_eq_append_getElem hks,List.foldl_append,← HAE.o,← eg]; rfl)
    have hdl:=depR_le l (hsub.length_le) hnlen;obtain ⟨dg,ed⟩:∃ dg,dg=dep (spl l) (inpS l) g:=⟨_,rfl⟩;rw [← ed] at HCALL HTK hdl;obtain ⟨gn,egn⟩:∃ gn,gn=g.length:=⟨_,rfl⟩;rw [← egn,← HNL.o] at HCALL;rw [← egn] at hc2;have i3:(0:Int)≤(k:Int):=(by omega);have i4:(k:Int)<(ng:Int):=(by omega);clear eg hgm hsub hsml hn2 hks ed egn hnlen
    go_wp2_with fail
    refine HCALL.o.mono ?_;rintro e3 w3 ⟨rfl,hx3⟩;have HX3:=Hd hx3;clear hx3;go_wp2;go_roundw
    case rel=>exact ⟨k+1,max a dg,by omega,by go_num,by go_num,by omega,HTK.o.symm,HX.o.trans HX3.o⟩
    case measure=>simp [intOf]; omega
   ·have HFIN:=Hd (show a=gs.foldl (fun a g=>max a (dep (spl l) (inpS l) g)) 0 by
     have h1:=HAE.o;rw [List.take_of_length_le (by rw [← HNG.o]; omega)] at h1;exact h1)
    go_wp2;go_ret;exact ⟨by rw [HW.o,← HFIN.o]; simp; omega,HX1.o.trans HX.o⟩
set_option maxRecDepth 100000 in
set_option maxHeartbeats 4000000 in
theorem r25_Depth_step (f:Nat) (ih:0<f→PDr (f-1)):PDr f:=by
 intro d l A c L B e w S T hf hr hn;have HF:=Hd hf;have HR:=Hd hr;have HN:=Hd hn;have HALK:=Hd (r25_Alike d l A c L B e w S T hr.rows hn.nums hn.lt (by have:=hn.len; omega));rw [alk_dep hr.tri hr.wide hn.lt] at HALK;obtain ⟨dp,edp⟩:∃ dp,dp=dep (spl l) (inpS l) L:=⟨_,rfl⟩;have HDP:=Hd edp;rw [← edp] at HALK ⊢;obtain ⟨N,eN⟩:∃ N,N=inpS l:=⟨_,rfl⟩;have HEN:=Hd eN;have hN1:N≤1000:=(by rw [eN]; exact hr.few);obtain ⟨nl,enl⟩:∃ n,n=l.length:=⟨_,rfl⟩;obtain ⟨n,en⟩:∃ n,n=L.length:=⟨_,rfl⟩;have HNL:=Hd enl;have HNN:=Hd en;rw [← enl,← en] at HALK ⊢;clear hf hr hn edp eN enl en
 go_enter Tryz.func57,Tryz.ntmps57
 go_wp2_with fail
 refine HALK.o.mono ?_;rintro e1 w1 ⟨rfl,hx1⟩;have HX1:=Hd hx1;clear hx1 HALK;by_cases h0:dp=0
 ·rw [show decide (dp=0)=true by simpa using h0];go_wp2;go_ret;exact ⟨by rw [h0]; rfl,HX1.o⟩
 ·rw [show decide (dp=0)=false by simpa using h0];have HD0:=Hd h0;have HFOLD:=Hd (dep_min (spl_small l) (inpS l) L (by rw [← HDP.o]; exact h0) (by have:=HN.o.len; omega));have hlen:=dep_len (spl_small l) (inpS l) L;have hfp:0<f:=(by have:=HF.o; have:=HDP.o; omega);have HFP:=Hd hfp;clear h0 hlen hfp;go_wp2
  go_loopw [6,7,8] (fun v i _u wr=>∃ (k a:Nat),k≤N∧v=.int .i64 (a:Int)∧i=.int .i64 (k:Int)∧a≤100∧a=(List.range k).foldl (fun a m=>minP a (dW (spl l) (dep (spl l) (inpS l)) m L)) 100∧Ext w wr) (fun _ i _ _=>N-(intOf i).toNat)
  case atStart=>exact ⟨0,100,Nat.zero_le _,rfl,rfl,Nat.le_refl _,rfl,HX1.o⟩
  case round =>
   obtain ⟨k,a,hk,rfl,rfl,ha,hae,hx⟩:=hrel;have HAE:=Hd hae;have HX:=Hd hx;have HIN:=Hd (r25_Inputs d l A c wr S (HR.o.rows.keep (hx.kept S)));rw [← HEN.o,← HNL.o] at HIN;clear hae hx
   go_wp2_with fail
   refine HIN.o.mono ?_;rintro e2 w2 ⟨rfl,rfl⟩;by_cases hlt:k<N
   ·have HCALL:=Hd (r25_after (f-1) (ih HFP.o) d l A c L B e k _ S T (by have:=HF.o; have:=HFP.o; omega) (HR.o.keep (HX.o.kept S)) (HN.o.keep (HX.o.kept T)) (by rw [← HEN.o]; exact hlt));have HTK:=Hd (show (List.range (k+1)).foldl (fun a m=>minP a (dW (spl l) (dep (spl l) (inpS l)) m L)) 100=minP a (dW (spl l) (dep (spl l) (inpS l)) k L) by
     rw [List.range_succ,List.foldl_append,← HAE.o]; rfl)
    have hd20:dW (spl l) (dep (spl l) (inpS l)) k L≤91:=by
     unfold dW;split
     ·omega
     ·have:=foldl_max_le (f:=fun g=>dep (spl l) (inpS l) g) (B:=90) (spl l k L) 0 (by omega) fun g hg=>depR_le l ((spl_is l k L).sub g hg).2.length_le HN.o.len;omega
    obtain ⟨dk,ed⟩:∃ dk,dk=dW (spl l) (dep (spl l) (inpS l)) k L:=⟨_,rfl⟩;rw [← ed] at HCALL HTK hd20;rw [← HNL.o,← HNN.o] at HCALL;have i0:(k:Int)<(N:Int):=(by omega);clear ed
    go_wp2_with fail
    refine HCALL.o.mono ?_;rintro e3 w3 ⟨rfl,hx3⟩;have HX3:=Hd hx3;clear hx3;by_cases hd0:0<dk
    ·have j0:(0:Int)<(dk:Int):=(by omega);have HV:=Hd (show min a dk=minP a dk by unfold minP; rw [if_pos hd0]);go_wp2;go_roundw
     case rel=>exact ⟨k+1,min a dk,by omega,by go_num,by go_num,by omega,by rw [HTK.o,HV.o],HX.o.trans HX3.o⟩
     case measure=>simp [intOf]; omega
    ·have j0:¬ (0:Int)<(dk:Int):=(by omega);have HV:=Hd (show a=minP a dk by unfold minP; rw [if_neg hd0]);go_wp2;go_roundw
     case rel=>exact ⟨k+1,a,by omega,rfl,by go_num,by omega,by rw [HTK.o]; exact HV.o,HX.o.trans HX3.o⟩
     case measure=>simp [intOf]; omega
   ·have HFIN:=Hd (show a=dp by
     have h1:=HAE.o;rw [show k=inpS l by rw [← HEN.o]; omega,HFOLD.o,← HDP.o] at h1;exact h1)
    have i0:¬ (k:Int)<(N:Int):=(by omega);go_wp2;go_ret;exact ⟨by rw [HFIN.o]; rfl,HX.o⟩
theorem r25_Depth (f:Nat):PDr f:=by
 induction f with
 | zero=>exact r25_Depth_step 0 fun h=>absurd h (by omega)
 | succ f ih=>exact r25_Depth_step (f+1) fun _=>ih
/- The reference's plan: its memory. No conditions. -/

def Imm (base ba:Nat) (A8 A9 A:Option Addr) (b:Nat):Prop:=base≤b∧b≠ba∧ob A8≠some b∧ob A9≠some b∧ob A≠some b
section
variable {w w':World} {base c d:Nat} {X T:Nat→Prop} {A:Option Addr}
theorem OwnVs.mono2 {l:List Val} (h:OwnVs w base X d A c l) (hm:∀ b,b<w.heap.size→ob A≠some b→X b→T b):OwnVs w base T d A c l:=by
 obtain ⟨xs,h1,h2⟩:=h;exact ⟨xs,h1,h2.imp fun _ _ hh=>hh.mono fun i hi hh=>⟨hh.1,hm i hi hh.1 hh.2⟩⟩
theorem OwnAs.mono2 {l:List AskD} (h:OwnAs w base X d A c l) (hm:∀ b,b<w.heap.size→ob A≠some b→X b→T b):OwnAs w base T d A c l:=by
 obtain ⟨xs,h1,h2⟩:=h;exact ⟨xs,h1,h2.imp fun _ _ hh=>hh.mono fun i hi hh=>⟨hh.1,hm i hi hh.1 hh.2⟩⟩
end
structure PlR (base d ba m:Nat) (gs:List (List Nat)) (vs:List Val) (nx:List Int) (Y:List AskD) (A8:Option Addr) (c8:Nat) (A9:Option Addr) (c9:Nat) (A:Option Addr) (c:Nat) (G:Option Addr) (w:World):Prop where
 blk:Blk w ba 59 #[.int .i64 (m:Int),.slice A8 vs.length c8,.slice A9 nx.length c9]
 lo:base≤ba
 vals:OwnVs w base (Imm base ba A8 A9 A) d A8 c8 vs
 nxt:OwnIs w base A9 c9 nx
 rest:OwnAs w base (Imm base ba A8 A9 A) d A c Y
 nn:NN w (Imm base ba A8 A9 A) G gs
 n8:∀ b,ob A8=some b→b≠ba∧ob A9≠some b∧ob A≠some b
 n9:∀ b,ob A9=some b→b≠ba∧ob A≠some b
 n0:ob A≠some ba
section
variable {w w':World} {base d ba m:Nat} {gs:List (List Nat)} {vs:List Val} {nx:List Int} {Y:List AskD} {A8:Option Addr} {c8:Nat} {A9:Option Addr} {c9:Nat} {A:Option Addr} {c:Nat} {G:Option Addr}
theorem PlR.ext (h:PlR base d ba m gs vs nx Y A8 c8 A9 c9 A c G w) (hx:Ext w w'):PlR base d ba m gs vs nx Y A8 c8 A9 c9 A c G w' :=
 ⟨h.blk.keep (hx.kept _),h.lo,h.vals.ext hx,h.nxt.ext hx,h.rest.ext hx,h.nn.keep (hx.kept _),h.n8,h.n9,h.n0⟩
theorem PlR.val {A84:Option Addr} {c84:Nat} {y:Val} (h:PlR base d ba m gs vs nx Y A8 c8 A9 c9 A c G w) (hb:ButS (fun b=>b=ba∨ob A8=some b) w w')
  (hv:OwnVs w' base (Imm base ba A8 A9 A) d A84 c84 (vs++[y])) (hk:Blk w' ba 59 #[.int .i64 (m:Int),.slice A84 (vs.length+1) c84,.slice A9 nx.length c9])
  (ha:∀ b,ob A84=some b→ob A8=some b∨w.heap.size≤b):PlR base d ba m gs (vs++[y]) nx Y A84 c84 A9 c9 A c G w':=by
 have hi:∀ b,b<w.heap.size→Imm base ba A8 A9 A b→Imm base ba A84 A9 A b:=fun b hb hi=>⟨hi.1,hi.2.1,fun e=>by
  rcases ha b e with e | e
  ·exact hi.2.2.1 e
  ·omega,hi.2.2.2⟩
 have l9:∀ b,ob A9=some b→b<w.heap.size:=fun b e=>(Own.blk h.nxt e).2;have lA:∀ b,ob A=some b→b<w.heap.size:=fun b e=>(h.rest.blk e).2;have lb:=h.blk.lt;have k9:Kept (fun b=>ob A9=some b) w w':=hb.kept fun b _ e f=>by
  rcases f with f | f
  ·exact (h.n9 b e).1 f
  ·exact (h.n8 b f).2.1 e
 have kI:Kept (fun b=>Imm base ba A8 A9 A b∧Imm base ba A84 A9 A b) w w':=hb.kept fun b _ e f=>by
  rcases f with f | f
  ·exact e.1.2.1 f
  ·exact e.1.2.2.1 f
 refine ⟨by rw [List.length_append]; exact hk,h.lo,hv.mono2 fun b _ h1 h2=>⟨h2.1,h2.2.1,h1,h2.2.2.2⟩,Own.keep h.nxt k9,
  ((h.rest.mono (T:=fun b=>Imm base ba A8 A9 A b∧Imm base ba A84 A9 A b) fun b hb hs=>⟨hs,hi b hb hs⟩).keep (hb.kept fun b _ e f => ?_)).mono fun b _ hh=>hh.2,
  ((h.nn.mono (T:=fun b=>Imm base ba A8 A9 A b∧Imm base ba A84 A9 A b) fun b hb hs=>⟨hs,hi b hb hs⟩).keep kI).mono fun b _ hh=>hh.2,fun b e => ?_,h.n9,h.n0⟩
 ·rcases e with e | e
  ·rcases f with f | f
   ·rw [f] at e; exact h.n0 e
   ·exact (h.n8 b f).2.2 e
  ·rcases f with f | f
   ·exact e.1.2.1 f
   ·exact e.1.2.2.1 f
 ·rcases ha b e with e | e
  ·exact h.n8 b e
  ·exact ⟨fun f=>by omega,fun f=>by have:=l9 b f; omega,fun f=>by have:=lA b f; omega⟩
theorem PlR.num {A9':Option Addr} {c9':Nat} {z:Int} (h:PlR base d ba m gs vs nx Y A8 c8 A9 c9 A c G w) (hb:ButS (fun b=>b=ba∨ob A9=some b) w w')
  (hv:OwnIs w' base A9' c9' (nx++[z])) (hk:Blk w' ba 59 #[.int .i64 (m:Int),.slice A8 vs.length c8,.slice A9' (nx.length+1) c9'])
  (ha:∀ b,ob A9'=some b→ob A9=some b∨w.heap.size≤b):PlR base d ba m gs vs (nx++[z]) Y A8 c8 A9' c9' A c G w':=by
 have hi:∀ b,b<w.heap.size→Imm base ba A8 A9 A b→Imm base ba A8 A9' A b:=fun b hb hi=>⟨hi.1,hi.2.1,hi.2.2.1,fun e=>by
  rcases ha b e with e | e
  ·exact hi.2.2.2.1 e
  ·omega,hi.2.2.2.2⟩
 have l8:∀ b,ob A8=some b→b<w.heap.size:=fun b e=>(h.vals.blk e).2;have lA:∀ b,ob A=some b→b<w.heap.size:=fun b e=>(h.rest.blk e).2;have lb:=h.blk.lt;have kI:Kept (fun b=>Imm base ba A8 A9 A b∧Imm base ba A8 A9' A b) w w':=hb.kept fun b _ e f=>by
  rcases f with f | f
  ·exact e.1.2.1 f
  ·exact e.1.2.2.2.1 f
 refine ⟨by rw [List.length_append]; exact hk,h.lo,
  ((h.vals.mono (T:=fun b=>Imm base ba A8 A9 A b∧Imm base ba A8 A9' A b) fun b hb hs=>⟨hs,hi b hb hs⟩).keep (hb.kept fun b _ e f => ?_)).mono fun b _ hh=>hh.2,hv,
  ((h.rest.mono (T:=fun b=>Imm base ba A8 A9 A b∧Imm base ba A8 A9' A b) fun b hb hs=>⟨hs,hi b hb hs⟩).keep (hb.kept fun b _ e f => ?_)).mono fun b _ hh=>hh.2,
  ((h.nn.mono (T:=fun b=>Imm base ba A8 A9 A b∧Imm base ba A8 A9' A b) fun b hb hs=>⟨hs,hi b hb hs⟩).keep kI).mono fun b _ hh=>hh.2,fun b e => ?_,fun b e => ?_,h.n0⟩
 ·rcases e with e | e
  ·rcases f with f | f
   ·exact (h.n8 b e).1 f
   ·exact (h.n8 b e).2.1 f
  ·rcases f with f | f
   ·exact e.1.2.1 f
   ·exact e.1.2.2.2.1 f
 ·rcases e with e | e
  ·rcases f with f | f
   ·rw [f] at e; exact h.n0 e
   ·exact (h.n9 b f).2 e
  ·rcases f with f | f
   ·exact e.1.2.1 f
   ·exact e.1.2.2.2.1 f
 ·refine ⟨(h.n8 b e).1,fun f => ?_,(h.n8 b e).2.2⟩
  rcases ha b f with f | f
  ·exact (h.n8 b e).2.1 f
  ·have:=l8 b e; omega
 ·rcases ha b e with e | e
  ·exact h.n9 b e
  ·exact ⟨fun f=>by omega,fun f=>by have:=lA b f; omega⟩
theorem PlR.rst {A':Option Addr} {c':Nat} {Y':List AskD} (h:PlR base d ba m gs vs nx Y A8 c8 A9 c9 A c G w) (hb:ButS (fun b=>ob A=some b) w w')
  (hv:OwnAs w' base (Imm base ba A8 A9 A) d A' c' Y') (ha:∀ b,ob A'=some b→ob A=some b∨w.heap.size≤b):PlR base d ba m gs vs nx Y' A8 c8 A9 c9 A' c' G w':=by
 have hi:∀ b,b<w.heap.size→Imm base ba A8 A9 A b→Imm base ba A8 A9 A' b:=fun b hb hi=>⟨hi.1,hi.2.1,hi.2.2.1,hi.2.2.2.1,fun e=>by
  rcases ha b e with e | e
  ·exact hi.2.2.2.2 e
  ·omega⟩
 have l8:∀ b,ob A8=some b→b<w.heap.size:=fun b e=>(h.vals.blk e).2;have l9:∀ b,ob A9=some b→b<w.heap.size:=fun b e=>(Own.blk h.nxt e).2;have lb:=h.blk.lt;refine ⟨h.blk.keep (hb.kept fun b _ e f => ?_),h.lo,
  ((h.vals.mono (T:=fun b=>Imm base ba A8 A9 A b∧Imm base ba A8 A9 A' b) fun b hb hs=>⟨hs,hi b hb hs⟩).keep (hb.kept fun b _ e f => ?_)).mono fun b _ hh=>hh.2,
  Own.keep h.nxt (hb.kept fun b _ e f => ?_),hv.mono2 fun b _ h1 h2=>⟨h2.1,h2.2.1,h2.2.2.1,h2.2.2.2.1,h1⟩,
  ((h.nn.mono (T:=fun b=>Imm base ba A8 A9 A b∧Imm base ba A8 A9 A' b) fun b hb hs=>⟨hs,hi b hb hs⟩).keep (hb.kept fun b _ e f=>e.1.2.2.2.2 f)).mono fun b _ hh=>hh.2,fun b e => ?_,fun b e => ?_,fun e => ?_⟩
 ·rw [e] at f; exact h.n0 f
 ·rcases e with e | e
  ·exact (h.n8 b e).2.2 f
  ·exact e.1.2.2.2.2 f
 ·exact (h.n9 b e).2 f
 ·refine ⟨(h.n8 b e).1,(h.n8 b e).2.1,fun f => ?_⟩
  rcases ha b f with f | f
  ·exact (h.n8 b e).2.2 f
  ·have:=l8 b e; omega
 ·refine ⟨(h.n9 b e).1,fun f => ?_⟩
  rcases ha b f with f | f
  ·exact (h.n9 b e).2 f
  ·have:=l9 b e; omega
 ·rcases ha ba e with e | e
  ·exact h.n0 e
  ·omega
theorem PlR.sub {w6 w8:World} {A6 A7:Option Addr} {c6:Nat} {sub:List AskD} (h:PlR base d ba m gs vs nx Y A8 c8 A9 c9 A c G w) (hs:OwnAs w6 w.heap.size (fun b=>w.heap.size≤b) d A6 c6 sub) (hx:Ext w w6)
  (hb:ButS (fun b=>b=ba∨ob A9=some b) w6 w8) (ha:∀ b,ob A7=some b→ob A9=some b∨w6.heap.size≤b) :
  ∃ ys,Rd w8 (fun b=>w.heap.size≤b) A6 ys∧AL (CA w8 (Imm base ba A8 A7 A) d) ys sub:=by
 obtain ⟨ys,ho,hv⟩:=hs;have l8:∀ b,ob A8=some b→b<w.heap.size:=fun b e=>(h.vals.blk e).2;have l9:∀ b,ob A9=some b→b<w.heap.size:=fun b e=>(Own.blk h.nxt e).2;have lA:∀ b,ob A=some b→b<w.heap.size:=fun b e=>(h.rest.blk e).2;have lb:=h.blk.lt;have ll:=h.lo;have hk:Kept (fun b=>w.heap.size≤b) w6 w8:=hb.kept fun b _ e f=>by
  rcases f with f | f
  ·omega
  ·have:=l9 b f; omega
 refine ⟨ys,(ho.rd.mono fun b _ e=>ho.blk e |>.1).keep hk,hv.imp fun _ _ hh=>((hh.mono (T:=fun b=>w.heap.size≤b∧b<w6.heap.size) fun b hb e=>⟨e.2,hb⟩).keep (hk.mono fun b _ e=>e.1)).mono fun b _ e => ?_⟩;refine ⟨by omega,by omega,fun f => ?_,fun f => ?_,fun f => ?_⟩
 ·have:=l8 b f; omega
 ·rcases ha b f with f | f
  ·have:=l9 b f; omega
  ·omega
 ·have:=lA b f; omega
theorem planG_snoc {sub:List Nat→Nat→List AskD} {gs:List (List Nat)} {j t:Nat} {g:List Nat} (hj:j<gs.length) (hg:g=gs[j]):planG sub (gs.take (j+1)) t=((planG sub (gs.take j) t).1++sub g (t+(planG sub (gs.take j) t).1.length),(planG sub (gs.take j) t).2++[if (sub g (t+(planG sub (gs.take j) t).1.length)).length=0 then -1 else ((t+(planG sub (gs.take j) t).1.length:Nat):Int)]):=by
 rw [List.take_succ_eq_append_getElem hj,planG_app,← hg];simp [planG]
theorem PlR.fin {w9:World} {A12:Option Addr} {c12:Nat} {ys:List Value} (h:PlR base d ba m gs vs nx Y A8 c8 A9 c9 A c G w) (hb0:base≤w.heap.size) (hv1:vs.length≤4294967296) (hx1:nx.length≤4294967296)
  (hv:AL (CA w (fun b=>ob A≠some b∧Imm base ba A8 A9 A b) d) ys Y)
  (ho:Own w9 base 59 3 A12 (1+Y.length) c12 ([.int .i64 (m:Int),.slice A8 vs.length c8,.slice A9 nx.length c9]++ys)) {o:Obj}
  (hg:(w.alloc o).grownBy w9 (ob (some ⟨w.heap.size,0,none⟩))) (hat:ob A12=ob (some ⟨w.heap.size,0,none⟩)∨ob A12=some (w.alloc o).heap.size) :
  OwnAs w9 base (fun b=>base≤b) d A12 c12 ([((m:Int),vs,nx)]++Y):=by
 refine OwnAs.app (w:=w.alloc o) (A:=some ⟨w.heap.size,0,none⟩) (AL.one (cs:=[.int .i64 (m:Int),.slice A8 vs.length c8,.slice A9 nx.length c9]) rfl ?_) (hv.imp fun _ _ hh=>(hh.mono (T:=fun b=>ob (some ⟨w.heap.size,0,none⟩)≠some b∧base≤b) fun b hb e=>⟨fun f => ?_,e.2.1⟩).keep (Kept.alloc _ w o)) ho hg hat
 ·refine ⟨A8,c8,A9,c9,rfl,⟨?_,by simpa using Own.cap h.nxt⟩,?_,?_⟩
  ·obtain ⟨_,h1,_⟩:=h.vals;exact Own.cap h1
  ·refine Row.keep ((h.vals.mono (T:=fun b=>base≤b∧b<w.heap.size) fun b hb e=>⟨e.1,hb⟩).row (T:=fun b=>ob (some ⟨w.heap.size,0,none⟩)≠some b∧base≤b) hv1 (fun b e=>⟨fun f => ?_,(h.vals.blk e).1⟩) fun b e=>⟨fun f => ?_,e.1⟩) (Kept.alloc _ w o)
   ·have:=(h.vals.blk e).2;simp [ob] at f;omega
   ·simp [ob] at f;omega
  ·refine Ints.keep (OwnIs.ints (T:=fun b=>ob (some ⟨w.heap.size,0,none⟩)≠some b∧base≤b) h.nxt hx1 fun b e=>⟨fun f => ?_,(Own.blk h.nxt e).1⟩) (Kept.alloc _ w o);have:=(Own.blk h.nxt e).2;simp [ob] at f;omega
 ·simp [ob] at f;omega
end
end Go.Proofs.YtomdpipekmcojaaGreatDoor
