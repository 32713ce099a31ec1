/- The reference's Make. Conditions: the answers read as data, and hold no tables. -/
import Derived.Test.YtomdpipekmcojaaGreatDoorBw21
import Derived.Laws.EntriesVeiled
namespace Go.Proofs.YtomdpipekmcojaaGreatDoor
open Go Go.RowKit

theorem errM_errP (l:List (List Val)) (h:Int):errM l h=if errP l h≠0 then errP l h else if h<(depA l:Int) then 16 else 0:=by
 unfold errM errP;split
 ·rw [if_pos (by decide)]
 ·split
  ·rw [if_pos (by decide)]
  ·simp
theorem errP_wide {l:List (List Val)} {h:Int} (he:errP l h=0):Wide l (inpS l)∧rightA l=true∧inpS l≤10:=by
 unfold errP at he;split at he
 ·cases he
 ·rename_i h1;split at he
  ·cases he
  ·rename_i h2;have hr:rightA l=true:=by
    cases hra:rightA l with
    | true=>rfl
    | false=>exact absurd (Or.inl hra) h1
   exact ⟨rightA_wide hr,hr,by omega⟩
theorem made_empty {l:List (List Val)} {hz:Int} (h:errM l hz≠0):makeF l hz=([],0,0):=by unfold makeF; rw [if_neg h]
set_option maxRecDepth 100000 in
set_option maxHeartbeats 2000000 in
theorem r25_Make (d:Nat) (l:List (List Val)) (A:Option Addr) (c:Nat) (hz:Int) (w:World) (S:Nat→Prop) (hr:Rows w S d A l) (hk:NoT l) (hT:rightA l=true→Tri l) (hl:l.length<20) :
  Calls Tryz.prog 15 #[.slice A l.length c,.int .i64 hz] w (RetPn w d (makeF l hz) (errM l hz)):=by
 obtain ⟨n,en⟩:∃ n,n=l.length:=⟨_,rfl⟩;have HNE:=Hd en;have hn20:n<20:=(by omega);obtain ⟨w0,hw0⟩:∃ w0,w0=w.alloc (.cells #[.slice none 0 0,.int .i64 0,.int .i64 0] 29):=⟨_,rfl⟩;obtain ⟨b4,hb4⟩:∃ b4,b4=w.heap.size:=⟨_,rfl⟩;have hx0:Ext w w0:=(by rw [hw0]; exact (Ext.refl w).alloc _);have hbk:Blk w0 b4 29 #[.slice none 0 0,.int .i64 0,.int .i64 0]:=(by rw [hw0,hb4]; exact Blk.new _ _ _);have HW0:=Hd hw0;have HB4E:=Hd hb4;have HX0:=Hd hx0;have HBK:=Hd hbk;have HR:=Hd hr;have HK:=Hd hk;have HT:=Hd hT;have HLN:=Hd hl;have HPE:=Hd (r25_permitted d l A c hz w0 S (hr.keep (hx0.kept S)) hk);rw [← en] at HPE ⊢;clear hr hk hT hl hw0 hb4 hx0 hbk en
 go_enter Tryz.func15,Tryz.ntmps15
 go_upto_region 1 with fail
 rw [← HW0.o,← HB4E.o]
 go_wp2_with fail
 refine HPE.o.mono ?_;rintro e1 w1 ⟨rfl,hx1⟩;have HX1:=Hd (HX0.o.trans hx1);have hbk1:=HBK.o.keep (hx1.kept _);have HB1:=Hd hbk1;have HZB:=Hd (show w.heap.size≤b4 by rw [HB4E.o]; exact Nat.le_refl _);obtain ⟨ep,eep⟩:∃ ep,ep=errP l hz:=⟨_,rfl⟩;have HEP:=Hd eep;rw [← eep];clear eep;have r0:=hbk1.cell (i:=0) rfl;have r1:=hbk1.cell (i:=1) rfl;have r2:=hbk1.cell (i:=2) rfl;have f0:=hbk1.frozen 0;have f1:=hbk1.frozen 1;have f2:=hbk1.frozen 2;have z1:=hbk1.lt;clear hx1 hbk1;by_cases h0:ep=0
 ·have j0:(ep != 0)=false:=(by rw [h0]; rfl);have hww:=errP_wide (l:=l) (h:=hz) (by rw [← HEP.o]; exact h0);have HEM:=Hd (show errM l hz=if hz<(depA l:Int) then 16 else 0 by rw [errM_errP,if_neg (by rw [← HEP.o,h0]; decide)]);have HAR:=Hd (show ∀ w':World,Ext w w'→AnsR w' S d A l from fun w' hx=>⟨HR.o.keep (hx.kept S),HK.o,HT.o hww.2.1,hww.1,by omega⟩);clear h0 hww r0 r1 r2 f0 f1 f2 z1
  go_wp2_with fail
  refine (r25_All n (by omega) w1).mono ?_;rintro e2 w2 ⟨A2,c2,rfl,ho2,hx2⟩;have HX2:=Hd (HX1.o.trans hx2);have HX12:=Hd hx2;have HPR:=Hd (show ∀ w':World,Ext w2 w'→ProR w' (fun _=>True) A2 l.length (List.range n) from fun w' hx=>⟨⟨((Own.rd ho2).mono fun _ _ _=>trivial).keep (hx.kept _),by simp; omega⟩,fun x hx=>by rw [← HNE.o]; exact List.mem_range.1 hx,by simp; omega⟩);have HDE:=Hd (r25_Depth n d l A c (List.range n) A2 c2 w2 S _ (by simp) (HAR.o w2 HX2.o) (HPR.o w2 (Ext.refl _)));have HDA:=Hd (show depA l=dep (spl l) (inpS l) (List.range n) by unfold depA allP; rw [HNE.o]);have HPA:=Hd (show planA l=plan (spl l) (inpS l) (ans l) (List.range n) 0 by unfold planA allP; rw [HNE.o]);rw [← HDA.o,← HNE.o,List.length_range] at HDE;obtain ⟨dp,edp⟩:∃ dp,dp=depA l:=⟨_,rfl⟩;have HDP:=Hd edp;rw [← edp] at HDE HEM;rw [List.length_range];clear ho2 hx2 edp
  go_wp2_with fail
  refine HDE.o.mono ?_;rintro e3 w3 ⟨rfl,hx3⟩;have HX3:=Hd (HX2.o.trans hx3);have hbk3:=(HB1.o.keep (HX12.o.kept _)).keep (hx3.kept _);have HB3:=Hd hbk3;clear hx3;by_cases hdh:hz<(dp:Int)
  ·have HER:=Hd (show errM l hz=16 by rw [HEM.o,if_pos hdh]);have HMF:=Hd (made_empty (l:=l) (hz:=hz) (by rw [HER.o]; decide));have r0:=hbk3.cell (i:=0) rfl;have r1:=hbk3.cell (i:=1) rfl;have r2:=hbk3.cell (i:=2) rfl;have f0:=hbk3.frozen 0;have f1:=hbk3.frozen 1;have f2:=hbk3.frozen 2;have z1:=hbk3.lt;go_wp2;refine bodyPost_ret (v:=.tuple #[.agg #[.slice none 0 0,.int .i64 0,.int .i64 0],.int .i64 16]) (by simp [results,Tryz.results15,go_sem,r0,r1,r2]) rfl ⟨none,0,by rw [HER.o,HMF.o]; rfl,by rw [HMF.o]; exact OwnAs.nil _ _ _ _,?_⟩;exact ((HX3.o.set2 HZB.o _).set2 HZB.o _).set2 HZB.o _
  ·have HER:=Hd (show errM l hz=0 by rw [HEM.o,if_neg hdh]);have HMF:=Hd (show makeF l hz=(planA l,dp,lowF l) by unfold makeF; rw [if_pos HER.o,← HDP.o]);clear hbk3 HPR HDE
   go_wp2_with fail
   refine (r25_All n (by omega) w3).mono ?_;rintro e4 w4 ⟨A4,c4,rfl,ho4,hx4⟩;have HX4:=Hd (HX3.o.trans hx4);have HPL:=Hd (r25_plan n d l A c (List.range n) A4 c4 0 w4 S (fun _=>True) (by simp) (HAR.o w4 HX4.o) ⟨⟨(Own.rd ho4).mono fun _ _ _=>trivial,by simp; omega⟩,fun x hx=>by rw [← HNE.o]; exact List.mem_range.1 hx,by simp; omega⟩ (by simp; omega));rw [← HPA.o,← HNE.o,List.length_range] at HPL;rw [List.length_range];have HB4:=Hd (HB3.o.keep (hx4.kept _));obtain ⟨np,enp⟩:∃ np,np=(planA l).length:=⟨_,rfl⟩;have HNP:=Hd enp;clear ho4 hx4 enp
   go_wp2_with fail
   refine HPL.o.mono ?_;rintro e5 w5 ⟨A5,c5,rfl,ho5,hx5⟩;rw [← HNP.o];have HO5:=Hd ho5;have HX5:=Hd hx5;have HXB:=Hd (HX4.o.trans hx5);have HLO:=Hd (r25_Lower d l A c w5 S (HAR.o w5 HXB.o) HLN.o);rw [← HNE.o] at HLO;obtain ⟨lo,elo⟩:∃ lo,lo=lowF l:=⟨_,rfl⟩;have HLE:=Hd elo;rw [← elo] at HLO HMF;clear ho5 hx5 elo HPL
   go_wp2_with fail
   refine HLO.o.mono ?_;rintro e6 w6 ⟨rfl,hx6⟩;have HX6:=Hd hx6;have hbk6:=(HB4.o.keep (HX5.o.kept _)).keep (hx6.kept _);have HB6:=Hd hbk6;have r0:=hbk6.cell (i:=0) rfl;have r1:=hbk6.cell (i:=1) rfl;have r2:=hbk6.cell (i:=2) rfl;have f0:=hbk6.frozen 0;have f1:=hbk6.frozen 1;have f2:=hbk6.frozen 2;have z1:=hbk6.lt;clear hx6 hbk6;go_wp2;refine bodyPost_ret (v:=.tuple #[.agg #[.slice A5 np c5,.int .i64 (dp:Int),.int .i64 (lo:Int)],.int .i64 0]) (by simp [results,Tryz.results15,go_sem,r0,r1,r2]) rfl ⟨A5,c5,?_,?_,(((HXB.o.trans HX6.o).set2 HZB.o _).set2 HZB.o _).set2 HZB.o _⟩
   ·rw [HER.o,HMF.o,HNP.o]
   ·rw [HMF.o];have h0:=HX4.o.size;have h4:=HB4.o.lt;have h1:=((HO5.o.ext HX6.o).lower (base':=w.heap.size) h0).mono (T:=fun b=>w.heap.size≤b∧b≠b4) fun b _ e=>⟨by omega,by omega⟩;have hne:¬ (ob A5=some b4∨(w.heap.size≤b4∧b4≠b4)):=by
     rintro (e | e)
     ·have:=(HO5.o.blk e).1; omega
     ·exact e.2 rfl
    exact (((h1.keep (Kept.of_set hne)).keep (Kept.of_set hne)).keep (Kept.of_set hne)).mono fun b _ e=>e.1
 ·have j0:(ep != 0)=true:=(by rw [bne_iff_ne]; exact h0);have HER:=Hd (show errM l hz=ep by rw [errM_errP,if_pos (by rw [← HEP.o]; exact h0),HEP.o]);have HMF:=Hd (made_empty (l:=l) (hz:=hz) (by rw [HER.o]; exact h0));clear h0;go_wp2;refine bodyPost_ret (v:=.tuple #[.agg #[.slice none 0 0,.int .i64 0,.int .i64 0],.int .i64 ep]) (by simp [results,Tryz.results15,go_sem,r0,r1,r2]) rfl ⟨none,0,by rw [HER.o,HMF.o]; rfl,by rw [HMF.o]; exact OwnAs.nil _ _ _ _,?_⟩;exact ((HX1.o.set2 HZB.o _).set2 HZB.o _).set2 HZB.o _
/- The law QuestionMakes: plans are those of the reference, and are accepted. Conditions: the numbers read as data. -/

theorem makeF_len (l:List (List Val)) (h:Int):(makeF l h).1.length≤l.length:=by
 unfold makeF;split
 ·show (planA l).length≤l.length;by_cases e:allP l=[]
  ·have h1:dep (spl l) (inpS l) (allP l)=0:=by
    have:=dep_len (spl_small l) (inpS l) (allP l);rw [e] at this ⊢;simp at this;omega
   unfold planA;rw [plan_eq (spl_small l),if_pos h1];simp
  ·have:=plan_len l (inpS l) (ans l) _ (allP l) 0 (Nat.le_refl _) e;unfold planA;have h2:(allP l).length=l.length:=(by simp [allP]);omega
 ·simp
/- The reference's walk through a plan that Make gave. Conditions: the arguments read as data; the programs are there. -/

def RetWk (w:World) (v s n:Nat) (e:Ending) (w':World):Prop:=∃ (A:Option Addr) (c:Nat),e=.returned (.tuple #[.int .i64 (v:Int),.slice A n c,.bool true])∧OwnN w' w.heap.size A c (List.range' s n)∧Ext w w'
def PWk (f:Nat):Prop:=∀ (d:Nat) (l:List (List Val)) (A:Option Addr) (c:Nat) (L:List Nat) (B:Option Addr) (e:Nat) (Y X Z:List AskD) (AY:Option Addr) (cY:Nat) (pd pl:Int) (w:World) (S T U:Nat→Prop),L.length≤f→AnsR w S d A l→ProR w T B l.length L→AS w U d AY Y→Y.length≤1000 →
 Y=X++plan (spl l) (inpS l) (ans l) L X.length++Z→dep (spl l) (inpS l) L≠0 →
 Calls Tryz.prog 69 #[.slice A l.length c,.agg #[.slice AY Y.length cY,.int .i64 pd,.int .i64 pl],.int .i64 (X.length:Int),.slice B L.length e] w (RetWk w (dep (spl l) (inpS l) L) X.length (plan (spl l) (inpS l) (ans l) L X.length).length)
def WkF (W dg p ns:Nat) (v:Value) (w':World):Prop:=∃ (A:Option Addr) (c:Nat),v=.tuple #[.int .i64 (dg:Int),.slice A ns c,.bool true]∧OwnN w' W A c (List.range' p ns)
def WkG (W p ns:Nat) (v:Value) (w':World):Prop:=∃ (A:Option Addr) (c:Nat),v=.slice A ns c∧OwnN w' W A c (List.range' p ns)
theorem range_glue (s a b:Nat):List.range' s a++List.range' (s+a) b=List.range' s (a+b):=by
 have h:=List.range'_append (s:=s) (m:=a) (n:=b) (step:=1);rwa [Nat.one_mul] at h
set_option maxRecDepth 100000 in
set_option maxHeartbeats 8000000 in
theorem r25_walk_step (f:Nat) (ih:0<f→PWk (f-1)):PWk f:=by
 intro d l A c L B e Y X Z AY cY pd pl w S T U hf hr hn hY hY1 hYe hd;obtain ⟨im,eim⟩:∃ im,im=inpF (spl l) (inpS l) L:=⟨_,rfl⟩;obtain ⟨hin,hid1,-⟩:=inpF_at (spl_small l) (inpS l) L hd;have h2p:=two_parts (spl_small l) (N:=inpS l) hd;rw [← eim] at hin hid1 h2p;have hpe:=plan_eq (v:=ans l) (spl_small l) (inpS l) L X.length;rw [if_neg hd,← eim] at hpe;obtain ⟨gs,egs⟩:∃ gs,gs=spl l im L:=⟨_,rfl⟩;have hgl:=spl_len l im L;have HIS:=Hd (spl_is l im L);have hdw:dep (spl l) (inpS l) L=1+gs.foldl (fun a g=>max a (dep (spl l) (inpS l) g)) 0:=by
  rw [← hid1];unfold dW;rw [← egs,if_neg (by rw [egs]; omega)]
 rw [← egs] at hpe h2p hgl HIS;obtain ⟨nX,enX⟩:∃ nX,nX=X.length:=⟨_,rfl⟩;rw [← enX] at hpe hYe ⊢;obtain ⟨a,ea⟩:∃ a:AskD,a=((im:Int),gs.map (fun g=>ans l im (g.headD 0)),(planG (plan (spl l) (inpS l) (ans l)) gs (nX+1)).2):=⟨_,rfl⟩;obtain ⟨PG,ePG⟩:∃ PG,PG=(planG (plan (spl l) (inpS l) (ans l)) gs (nX+1)).1:=⟨_,rfl⟩;rw [← ea,← ePG] at hpe;have hya:Y[nX]?=some a:=(by rw [hYe,hpe,enX]; simp);have hXY:nX<Y.length:=(List.getElem?_eq_some_iff.1 hya).1;have hpl:(plan (spl l) (inpS l) (ans l) L nX).length=PG.length+1:=(by rw [hpe]; simp);rw [hpl];have hYX:Y=X++a :: PG++Z:=(by rw [hYe,hpe]);have HSPL:=Hd (show ∀ w':World,Ext w w'→Calls Tryz.prog 67 #[.slice A l.length c,.slice B L.length e,.int .i64 (im:Int)] w' (RetNN w' gs) from fun w' hx=>by
  have h1:=r25_Split d l A c L B e im w' S T (hr.rows.keep (hx.kept S)) hr.flat (hr.inp hin) (hn.nums.keep (hx.kept T)) hn.lt (by have:=hn.len; omega);rw [splR_eq hr.tri hr.wide hin hn.lt,← egs] at h1;exact h1)
 have HIN:=Hd (show ∀ w':World,Ext w w'→Calls Tryz.prog 18 #[.slice A l.length c] w' (RetI w' (inpS l:Int)) from fun w' hx=>(r25_Inputs d l A c w' S (hr.rows.keep (hx.kept S))).mono fun e w'' hh=>⟨hh.1,by rw [hh.2]; exact Ext.refl _⟩);obtain ⟨N,eN⟩:∃ N,N=inpS l:=⟨_,rfl⟩;rw [← eN] at HIN;have hinN:im<N:=(by rw [eN]; exact hin);obtain ⟨nl,enl⟩:∃ n,n=l.length:=⟨_,rfl⟩;obtain ⟨n,en⟩:∃ n,n=L.length:=⟨_,rfl⟩;obtain ⟨nY,enY⟩:∃ n,n=Y.length:=⟨_,rfl⟩;obtain ⟨ng,eng⟩:∃ n,n=gs.length:=⟨_,rfl⟩;obtain ⟨dp,edp⟩:∃ x,x=dep (spl l) (inpS l) L:=⟨_,rfl⟩;obtain ⟨w0,hw0⟩:∃ x,x=w.alloc (.cells #[.slice AY nY cY,.int .i64 pd,.int .i64 pl] 29):=⟨_,rfl⟩;obtain ⟨b5,hb5⟩:∃ b,b=w.heap.size:=⟨_,rfl⟩;have hx0:Ext w w0:=(by rw [hw0]; exact (Ext.refl w).alloc _);have hk5:Blk w0 b5 29 #[.slice AY nY cY,.int .i64 pd,.int .i64 pl]:=(by rw [hw0,hb5]; exact Blk.new _ _ _);obtain ⟨bY,oY,Ac,cc,Ar,cr,hAY,zY,⟨a0,a1,a2⟩,hcaps,hrow,hints⟩:=hY.at_ hXY;rw [show Y[nX]=a from (List.getElem?_eq_some_iff.1 hya).2] at a0 a1 a2 hrow hints;have hal:a.2.1.length=ng:=(by rw [ea,eng]; simp);have hnl:a.2.2.length=ng:=(by rw [ea,eng]; exact planG_len _ _ _);have hai:a.1=(im:Int):=(by rw [ea]);rw [hai] at a0;rw [hal] at a1;rw [hnl] at a2;have HROW:=Hd hrow;have HINT:=Hd hints;have HF:=Hd hf;have HR:=Hd hr;have HPN:=Hd hn;have HYM:=Hd hY;have HGS:=Hd egs;have HIM:=Hd (And.intro hin h2p);have HEA:=Hd ea;have HPG:=Hd ePG;have HYX:=Hd hYX;have HNX:=Hd enX;have HDW:=Hd hdw;have HEN:=Hd eN;have HNL:=Hd enl;have HNN:=Hd en;have HNY:=Hd enY;have HNG:=Hd eng;have HDP:=Hd edp;have HX0:=Hd hx0;have HK5:=Hd hk5;have HW0:=Hd (And.intro hw0 hb5);have HLEN:=Hd hn.len;have hng2:2≤ng:=(by rw [eng]; exact h2p);have hng90:ng≤90:=(by have:=hn.len; omega);have hnXY:nX<nY:=(by rw [enY]; exact hXY);rw [← enY] at hY1 ⊢;rw [← enl] at HSPL HIN ⊢;rw [← en] at HSPL ⊢;rw [← edp];subst hAY;have q5:=hk5.cell (i:=0) rfl;have z5:=hk5.lt;have u0:=hx0.cell a0;have u1:=hx0.cell a1;have u2:=hx0.cell a2;have i0:¬ (nX:Int)<0:=(by omega);have i1:¬ (nY:Int)≤(nX:Int):=(by omega);have i2:(0:Int)≤(nX:Int):=(by omega);have i3:(nX:Int)<(nY:Int):=(by omega);clear hf hr hn hY hYe hd eim hin hid1 h2p hpe egs hgl hdw enX ea ePG hya hXY hpl hYX eN enl en enY eng edp hx0 hk5 hw0 hb5 zY a0 a1 a2 hcaps hrow hints hal hnl hai
 go_enter Tryz.func69,Tryz.ntmps69
 go_upto_region 1 with fail
 rw [← HW0.o.1,← HW0.o.2]
 go_upto_region 4 with fail
 obtain ⟨b11,hb11⟩:∃ b,b=w0.heap.size:=⟨_,rfl⟩;obtain ⟨ws,hws⟩:∃ x,x=w0.alloc (.cells #[.int .i64 (im:Int),.slice Ac ng cc,.slice Ar ng cr] 59):=⟨_,rfl⟩;have HB11:=Hd (show Blk ws b11 59 #[.int .i64 (im:Int),.slice Ac ng cc,.slice Ar ng cr] by rw [hws,hb11]; exact Blk.new _ _ _);have HXS:=Hd (show Ext w ws by rw [hws]; exact HX0.o.alloc _);have HK5S:=Hd (show Blk ws b5 29 #[.slice (some ⟨bY,oY,none⟩) nY cY,.int .i64 pd,.int .i64 pl] by rw [hws]; exact HK5.o.keep (Kept.alloc _ _ _));rw [← hws,← hb11];have Q0:=Hd (HB11.o.cell (i:=0) rfl);have i4:¬ (im:Int)<0:=(by omega);have i5:¬ (N:Int)≤(im:Int):=(by omega);clear hws hb11 q5 z5 u0 u1 u2;refine wp_region_chain (by kernel_rfl) (fun i=>[i]) (by kernel_rfl) (LZ (fun _ _=>False)) (LZ.refl _) (LZ.trans _) (LK []) gz0 (LK.zero _) ?_;apply Chain.pure (LZ.refl _) (by rfl)
 ·intro vals γ w' ρ hR hN hp hρ hc hf hg;refine ⟨rfl,?_⟩;have e11:=hρ 11;(conv at e11=>rhs; whnf);clear hR hN hp hρ;go_light;go_simp;exact ⟨rfl,rfl⟩
 ·rfl
 apply Chain.pure (LZ.refl _) (by rfl)
 ·intro vals γ w' ρ hR hN hp hρ hc hf hg;refine ⟨rfl,?_⟩;have e35:ρ (.tmp 35)=_:=(hρ 35).trans (hp 0 (by decide));have hxx:=hR.ext0 (fun _ _ _ h=>h.elim);have m0:=hxx.cell Q0.o;clear hxx hR hN hp hρ;go_light;go_simp;exact ⟨rfl,rfl⟩
 ·rfl
 apply Chain.pure (LZ.refl _) (by rfl)
 ·intro vals γ w' ρ hR hN hp hρ hc hf hg;refine ⟨rfl,?_⟩;have e36:ρ (.tmp 36)=_:=(hρ 36).trans (hp 1 (by decide));clear hR hN hp hρ;go_light;go_simp;exact ⟨rfl,rfl⟩
 ·rfl
 apply Chain.pure (LZ.refl _) (by rfl)
 ·intro vals γ w' ρ hR hN hp hρ hc hf hg;refine ⟨rfl,?_⟩;have e37:ρ (.tmp 37)=_:=(hρ 37).trans (hp 2 (by decide));clear hR hN hp hρ;go_light;go_simp;exact ⟨rfl,rfl⟩
 ·rfl
 apply Chain.pure (LZ.refl _) (by rfl)
 ·intro vals γ w' ρ hR hN hp hρ hc hf hg;refine ⟨by show (boolOf (vals 3)==some false)=true; rw [show vals 3=.bool false from hp 3 (by decide)]; rfl,?_⟩;have e11:=hρ 11;(conv at e11=>rhs; whnf);clear hR hN hp hρ;go_light;go_simp;exact ⟨rfl,rfl⟩
 ·rfl
 apply Chain.pure (LZ.refl _) (by rfl)
 ·intro vals γ w' ρ hR hN hp hρ hc hf hg;refine ⟨by show (boolOf (vals 3)==some false)=true; rw [show vals 3=.bool false from hp 3 (by decide)]; rfl,?_⟩;have e39:ρ (.tmp 39)=_:=(hρ 39).trans (hp 4 (by decide));have hxx:=hR.ext0 (fun _ _ _ h=>h.elim);have m0:=hxx.cell Q0.o;clear hxx hR hN hp hρ;go_light;go_simp;exact ⟨rfl,rfl⟩
 ·rfl
 apply Chain.pure (LZ.refl _) (by rfl)
 ·intro vals γ w' ρ hR hN hp hρ hc hf hg;refine ⟨by show (boolOf (vals 3)==some false)=true; rw [show vals 3=.bool false from hp 3 (by decide)]; rfl,?_⟩;have e0:=hρ 0;(conv at e0=>rhs; whnf);clear hR hN hp hρ;go_light;go_simp;exact ⟨rfl,rfl⟩
 ·rfl
 refine Chain.step (FP fun v γ w'=>v=.int .i64 (N:Int)) (by rfl) (FP.stab ?_) ?_ ?_
 ·intro v γ w1 γ' w2 r h;exact h
 ·intro vals γ w' ρ hR hN hp hρ hc hf hg;refine ⟨by show (boolOf (vals 3)==some false)=true; rw [show vals 3=.bool false from hp 3 (by decide)]; rfl,?_⟩;have e41:ρ (.tmp 41)=_:=(hρ 41).trans (hp 6 (by decide));have HR:=Hd hR;have hxx:=hR.ext0 (fun _ _ _ h=>h.elim);have HXQ:=Hd hxx;clear hxx hR hN hp hρ;go_light;go_simp;refine (HIN.o w' (HXS.o.trans HXQ.o)).mono ?_;rintro e1 w3 ⟨he,hx⟩;exact ⟨_,he,γ,LZ.of_ext _ γ hx,fun _ _ _ h=>h,rfl⟩
 apply Chain.pure (LZ.refl _) (by rfl)
 ·intro vals γ w' ρ hR hN hp hρ hc hf hg;refine ⟨by show (boolOf (vals 3)==some false)=true; rw [show vals 3=.bool false from hp 3 (by decide)]; rfl,?_⟩;have e40:ρ (.tmp 40)=_:=(hρ 40).trans (hp 5 (by decide));have e42:ρ (.tmp 42)=_:=(hρ 42).trans (hp 7 (by decide));clear hR hN hp hρ;go_light;go_simp;exact ⟨rfl,rfl⟩
 ·rfl
 apply Chain.pure (LZ.refl _) (by rfl)
 ·intro vals γ w' ρ hR hN hp hρ hc hf hg;refine ⟨rfl,?_⟩;have e38:ρ (.tmp 38)=_:=(hρ 38).trans (hp 3 (by decide));have e43:ρ (.tmp 43)=_:=(hρ 43).trans (hp 8 (by decide));clear hR hN hp hρ;go_light;go_simp;exact ⟨rfl,rfl⟩
 ·rfl
 intro vals γ w9 hR hG;have v0:vals 0=_:=hG 0 (by decide);have v1:vals 1=_:=hG 1 (by decide);have v2:vals 2=_:=hG 2 (by decide);have v3:vals 3=_:=hG 3 (by decide);have v4:vals 4=_:=hG 4 (by decide);have v5:vals 5=_:=hG 5 (by decide);have v6:vals 6=_:=hG 6 (by decide);have v7:vals 7=_:=hG 7 (by decide);have v8:vals 8=_:=hG 8 (by decide);have v9:vals 9=_:=hG 9 (by decide);simp only [lexFrame,Act.put,List.setIfInBounds_toArray,List.set_cons_succ,List.set_cons_zero,Nat.zero_add,Nat.reduceAdd,v0,v1,v2,v3,v4,v5,v6,v7,v8,v9];clear v0 v1 v2 v3 v4 v5 v6 v7 v8 v9;have HXN:=Hd (show Ext ws w9 from hR.ext0 (fun _ _ _ h=>h.elim));clear hR hG;have HXW:=Hd (HXS.o.trans HXN.o);obtain ⟨wt,ewt⟩:∃ x:World,x=w9:=⟨_,rfl⟩;rw [← ewt] at HXN HXW ⊢;clear ewt;have q0:=HXN.o.cell Q0.o;have h11:=HB11.o.keep (HXN.o.kept _);have q1:=h11.cell (i:=1) rfl;have q2:=h11.cell (i:=2) rfl;have HB11T:=Hd h11;clear Q0 h11
 go_wp2_with fail
 refine (HSPL.o wt HXW.o).mono ?_;rintro e2 wu ⟨G,cG,rfl,hoG,hxG⟩;rw [← HNG.o];have HGN:=Hd (hoG.nn (by rw [← HNG.o]; omega) (fun g hg=>by have:=(HIS.o.sub g hg).2.length_le; have:=HLEN.o; omega));have HXU:=Hd (HXW.o.trans hxG);have HB11U:=Hd (HB11T.o.keep (hxG.kept _));have HK5U:=Hd (HK5S.o.keep ((HXN.o.trans hxG).kept _));have q0:=hxG.cell q0;have q1:=hxG.cell q1;have q2:=hxG.cell q2;have j0:((ng:Int) != (ng:Int))=false:=(by simp);have j1:¬ (ng:Int)<2:=(by omega);obtain ⟨g14,hg14⟩:∃ b,b=wu.heap.size:=⟨_,rfl⟩;obtain ⟨wv,hwv⟩:∃ x,x=wu.alloc (.cells #[.int .i64 (nX:Int)] 3):=⟨_,rfl⟩;have HO14:=Hd (show OwnN wv wu.heap.size (some ⟨g14,0,none⟩) 1 (List.range' nX (1+(planG (plan (spl l) (inpS l) (ans l)) (gs.take 0) (nX+1)).1.length)) by
  rw [hwv,hg14,List.take_zero];exact Own.lit1 (xs:=[.int .i64 (nX:Int)]) (Blk.new _ _ _) (Nat.le_refl _) (hn:=rfl) (hm:=by show 1≤maxLen; decide))
 have HXUV:=Hd (show Ext wu wv by rw [hwv]; exact (Ext.refl _).alloc _);clear hoG hxG
 go_upto_region 11 with fail
 rw [← hwv,← hg14];clear hwv hg14 q0 q1 q2;go_wp2
 go_loopw [13,14,15,16,17,18,19,20] (fun v13 v14 v15 _u16 _u17 _u18 _u19 _u20 wr=>∃ (k:Nat) (A':Option Addr) (c':Nat),k≤ng∧v13=.int .i64 (((gs.take k).foldl (fun a g=>max a (dep (spl l) (inpS l) g)) 0:Nat):Int)∧v14=.slice A' (1+(planG (plan (spl l) (inpS l) (ans l)) (gs.take k) (nX+1)).1.length) c'∧v15=.int .i64 (k:Int)∧OwnN wr wu.heap.size A' c' (List.range' nX (1+(planG (plan (spl l) (inpS l) (ans l)) (gs.take k) (nX+1)).1.length))∧Ext wu wr) (fun _ _ v15 _ _ _ _ _ _=>ng-(intOf v15).toNat)
 case atStart=>exact ⟨0,some ⟨g14,0,none⟩,1,Nat.zero_le _,rfl,rfl,rfl,HO14.o,HXUV.o⟩
 case round =>
  clear HO14 HXUV;obtain ⟨k,A',c',hk,rfl,rfl,rfl,ho,hx⟩:=hrel;obtain ⟨wc,rfl⟩:∃ x:World,x=wr:=⟨_,rfl⟩;have HXC:=Hd hx;obtain ⟨mx,emx⟩:∃ x,x=(gs.take k).foldl (fun a g=>max a (dep (spl l) (inpS l) g)) 0:=⟨_,rfl⟩;obtain ⟨ln,eln⟩:∃ x,x=(planG (plan (spl l) (inpS l) (ans l)) (gs.take k) (nX+1)).1.length:=⟨_,rfl⟩;have HMX:=Hd emx;have HLN:=Hd eln;rw [← eln] at ho;rw [← emx,← eln];have HO:=Hd ho;have hmx90:mx≤90:=by
   rw [emx];exact foldl_max_le (f:=fun g=>dep (spl l) (inpS l) g) (B:=90) (gs.take k) 0 (by omega) fun g hg=>depR_le l ((HIS.o.sub g (List.mem_of_mem_take hg)).2.length_le) HLEN.o
  clear emx eln ho hx;by_cases hlt:k<ng
  ·have hks:k<gs.length:=(by rw [← HNG.o]; exact hlt);obtain ⟨g,eg⟩:∃ g,g=gs[k]:=⟨_,rfl⟩;have hgm:g∈gs:=(by rw [eg]; exact List.getElem_mem hks);have hgs2:=HIS.o.sub g hgm;obtain ⟨bG,oG,B2,e2,hG,zG,cG2,-,hn2⟩:=(HGN.o.keep (HXC.o.kept _)).at_ hks;subst hG;rw [← eg] at cG2 hn2;obtain ⟨y,tl,hgy⟩:∃ y tl,g=y :: tl:=by
    cases g with
    | nil=>exact absurd rfl hgs2.1
    | cons y tl=>exact ⟨y,tl,rfl⟩
   have hgh:g.headD 0=y:=(by rw [hgy]; rfl);obtain ⟨b2,o2,hB2,z2,cy⟩:=hn2.at_ (k:=0) (by rw [hgy]; simp);subst hB2;rw [Nat.add_zero] at cy;simp only [hgy,List.getElem_cons_zero] at cy;have hyl:y<l.length:=HPN.o.lt y (hgs2.2.subset (by rw [hgy]; simp));obtain ⟨bA,oA,C,eC,hA,zA,cA,-,hr1⟩:=HR.o.rows.at_ hyl;subst hA;have hmy:im<l[y].length:=HR.o.inp HIM.o.1 _ (List.getElem_mem hyl);obtain ⟨g1,o1,A1,c1,B1,e1,rfl,z1,⟨x0,x1,x2,x3,x4,x5,x6⟩,hcap1,hrv⟩:=hr1.at_ hmy;obtain ⟨vx,evx⟩:∃ v,v=l[y][im]:=⟨_,rfl⟩;have HVX:=Hd (show ans l im (g.headD 0)=vx by rw [hgh,ans_of hyl hmy,evx]);rw [← evx] at x0 x1 x2 x3 x4 x5 x6 hrv;obtain ⟨n1,en1⟩:∃ n1,n1=l[y].length:=⟨_,rfl⟩;rw [← en1] at cA hmy;have hka:k<a.2.1.length:=(by rw [HEA.o]; simpa using hks);have hkn:k<a.2.2.length:=(by rw [HEA.o]; show k<(planG _ gs _).2.length; rw [planG_len]; exact hks);have hak:a.2.1[k]=vx:=by
    have h1:a.2.1[k]?=some vx:=(by rw [HEA.o]; show (gs.map _)[k]?=_; rw [List.getElem?_map,List.getElem?_eq_getElem hks,← eg]; show some (ans l im (g.headD 0))=some vx; rw [HVX.o]);exact (List.getElem?_eq_some_iff.1 h1).2
   obtain ⟨g2,o2',A2,c2,B2',e2',hAc,z2',⟨y0,y1,y2,y3,y4,y5,y6⟩,hcap2,hrw2⟩:=HROW.o.at_ hka;subst hAc;rw [hak] at y0 y1 y2 y3 y4 y5 y6 hrw2;obtain ⟨s1,s2,s3⟩:=planG_split (plan (spl l) (inpS l) (ans l)) (gs:=gs) (j:=k) hks (nX+1);rw [← eg,← HLN.o] at s1 s2 s3;obtain ⟨pre,epre⟩:∃ x,x=(planG (plan (spl l) (inpS l) (ans l)) (gs.take k) (nX+1)).1:=⟨_,rfl⟩;obtain ⟨sb,esb⟩:∃ x,x=plan (spl l) (inpS l) (ans l) g (nX+1+ln):=⟨_,rfl⟩;rw [← epre,← esb] at s1 s3;rw [← esb] at s2;obtain ⟨nx,enx⟩:∃ x:Int,x=if sb.length=0 then -1 else ((nX+1+ln:Nat):Int):=⟨_,rfl⟩;have hnk:a.2.2[k]=nx:=by
    have h1:a.2.2[k]?=some nx:=(by rw [HEA.o,enx]; exact s2);exact (List.getElem?_eq_some_iff.1 h1).2
   obtain ⟨bN,oN,hAr,zN,cN⟩:=HINT.o.at_ hkn;subst hAr;rw [hnk] at cN;obtain ⟨gn,egn⟩:∃ gn,gn=g.length:=⟨_,rfl⟩;rw [← egn] at cG2;have hgn0:0<gn:=(by rw [egn,hgy]; simp);have hgn90:gn≤90:=(by rw [egn]; have:=hgs2.2.length_le; have:=HLEN.o; omega);have hxwc:=HXU.o.trans HXC.o;have HXWC:=Hd hxwc;have hk11:=HB11U.o.keep (HXC.o.kept _);have HK11:=Hd hk11;have HNIL:=Hd (show dep (spl l) (inpS l) g=0↔sb.length=0 by rw [esb]; exact (plan_nil (v:=ans l) (spl_small l) (inpS l) g (nX+1+ln)).symm);have HALK:=Hd (show ∀ w':World,Ext wc w'→Calls Tryz.prog 32 #[.slice (some ⟨bA,oA,none⟩) nl c,.slice (some ⟨b2,o2,none⟩) gn e2] w' (RetB w' (decide (dep (spl l) (inpS l) g=0))) from fun w' hx=>by
    have h1:=r25_Alike d l (some ⟨bA,oA,none⟩) c g (some ⟨b2,o2,none⟩) e2 w' S _ (HR.o.rows.keep ((HXWC.o.trans hx).kept S)) (hn2.keep (hx.kept _)) (fun x hx=>HPN.o.lt x (hgs2.2.subset hx)) (by rw [← egn]; omega);rw [alk_dep HR.o.tri HR.o.wide (fun x hx=>HPN.o.lt x (hgs2.2.subset hx)),← HNL.o,← egn] at h1;exact h1)
   have HEQ:=Hd (show ∀ w':World,Ext wc w'→Calls Tryz.prog 31 #[(.agg #[.int .i64 vx.kind,.string vx.s,.int .i64 vx.dn,.int .i64 vx.ds,.int .i64 vx.n,.slice A2 vx.cols.length c2,.slice B2' vx.rows.length e2']),(.agg #[.int .i64 vx.kind,.string vx.s,.int .i64 vx.dn,.int .i64 vx.ds,.int .i64 vx.n,.slice A1 vx.cols.length c1,.slice B1 vx.rows.length e1])] w' (RetB w' true) from fun w' hx=>by
    have h1:=r06_Equal (d-1) vx vx A2 B2' A1 B1 c2 e2' c1 e1 w' U S (hrw2.keep ((HXWC.o.trans hx).kept U)) (hrv.keep ((HXWC.o.trans hx).kept S));rw [decide_eq_true rfl] at h1;exact h1)
   have HSM:=Hd (HIS.o.small HIM.o.2 g hgm);have HSUB:=Hd hgs2;have HN2:=Hd hn2;have HEG:=Hd eg;have HEGN:=Hd egn;have HS1:=Hd s1;have HS3:=Hd s3;have HPRE:=Hd epre;have HSB:=Hd esb;have HENX:=Hd enx;have Q0:=Hd (hk11.cell (i:=0) rfl);have Q1:=Hd (hk11.cell (i:=1) rfl);have Q2:=Hd (hk11.cell (i:=2) rfl);have Q3:=Hd cG2;have Q4:=Hd cy;have Q5:=Hd (hxwc.cell cA);have Q6:=Hd (hxwc.cell x0);have Q7:=Hd (hxwc.cell x1);have Q8:=Hd (hxwc.cell x2);have Q9:=Hd (hxwc.cell x3);have Q10:=Hd (hxwc.cell x4);have Q11:=Hd (hxwc.cell x5);have Q12:=Hd (hxwc.cell x6);have Q13:=Hd (hxwc.cell y0);have Q14:=Hd (hxwc.cell y1);have Q15:=Hd (hxwc.cell y2);have Q16:=Hd (hxwc.cell y3);have Q17:=Hd (hxwc.cell y4);have Q18:=Hd (hxwc.cell y5);have Q19:=Hd (hxwc.cell y6);have Q20:=Hd (hxwc.cell cN);have k0:(0:Int)≤(k:Int):=(by omega);have k1:(k:Int)<(ng:Int):=(by omega);have k2:(0:Int)≤(y:Int):=(by omega);have k3:(y:Int)<(nl:Int):=(by rw [HNL.o]; omega);have k4:y<nl:=(by rw [HNL.o]; exact hyl);have k5:(0:Int)≤(im:Int):=(by omega);have k6:(im:Int)<(n1:Int):=(by omega);have k7:(0:Int)<(gn:Int):=(by omega);clear eg hgm hgs2 cG2 hn2 hgy hgh cy hr1 x0 x1 x2 x3 x4 x5 x6 hcap1 hrv evx en1 hka hkn hak y0 y1 y2 y3 y4 y5 y6 hcap2 hrw2 s1 s2 s3 epre esb enx hnk cN egn hxwc hk11 cA
   go_upto_region 14 with fail
   refine wp_region_chain (by kernel_rfl) (fun i=>[i]) (by kernel_rfl) (LZ (fun _ _=>False)) (LZ.refl _) (LZ.trans _) (LK []) gz0 (LK.zero _) ?_;apply Chain.pure (LZ.refl _) (by rfl)
   ·intro vals γ w' ρ hR hN hp hρ hc hf hg;refine ⟨rfl,?_⟩;have e11:=hρ 11;(conv at e11=>rhs; whnf);clear hR hN hp hρ;go_light;go_simp;exact ⟨rfl,rfl⟩
   ·rfl
   apply Chain.pure (LZ.refl _) (by rfl)
   ·intro vals γ w' ρ hR hN hp hρ hc hf hg;refine ⟨rfl,?_⟩;have e77:ρ (.tmp 77)=_:=(hρ 77).trans (hp 0 (by decide));have hxx:=hR.ext0 (fun _ _ _ h=>h.elim);have m0:=hxx.cell Q0.o;have m1:=hxx.cell Q1.o;have m2:=hxx.cell Q2.o;have m3:=hxx.cell Q3.o;have m4:=hxx.cell Q4.o;have m5:=hxx.cell Q5.o;have m6:=hxx.cell Q6.o;have m7:=hxx.cell Q7.o;have m8:=hxx.cell Q8.o;have m9:=hxx.cell Q9.o;have m10:=hxx.cell Q10.o;have m11:=hxx.cell Q11.o;have m12:=hxx.cell Q12.o;have m13:=hxx.cell Q13.o;have m14:=hxx.cell Q14.o;have m15:=hxx.cell Q15.o;have m16:=hxx.cell Q16.o;have m17:=hxx.cell Q17.o;have m18:=hxx.cell Q18.o;have m19:=hxx.cell Q19.o;clear hxx hR hN hp hρ;go_light;go_simp;exact ⟨rfl,rfl⟩
   ·rfl
   apply Chain.pure (LZ.refl _) (by rfl)
   ·intro vals γ w' ρ hR hN hp hρ hc hf hg;refine ⟨rfl,?_⟩;have e15:=hρ 15;(conv at e15=>rhs; whnf);clear hR hN hp hρ;go_light;go_simp;exact ⟨rfl,rfl⟩
   ·rfl
   apply Chain.pure (LZ.refl _) (by rfl)
   ·intro vals γ w' ρ hR hN hp hρ hc hf hg;refine ⟨rfl,?_⟩;have e78:ρ (.tmp 78)=_:=(hρ 78).trans (hp 1 (by decide));have e79:ρ (.tmp 79)=_:=(hρ 79).trans (hp 2 (by decide));clear hR hN hp hρ;go_light;go_simp;exact ⟨rfl,rfl⟩
   ·rfl
   apply Chain.pure (LZ.refl _) (by rfl)
   ·intro vals γ w' ρ hR hN hp hρ hc hf hg;refine ⟨rfl,?_⟩;have e80:ρ (.tmp 80)=_:=(hρ 80).trans (hp 3 (by decide));have hxx:=hR.ext0 (fun _ _ _ h=>h.elim);have m0:=hxx.cell Q0.o;have m1:=hxx.cell Q1.o;have m2:=hxx.cell Q2.o;have m3:=hxx.cell Q3.o;have m4:=hxx.cell Q4.o;have m5:=hxx.cell Q5.o;have m6:=hxx.cell Q6.o;have m7:=hxx.cell Q7.o;have m8:=hxx.cell Q8.o;have m9:=hxx.cell Q9.o;have m10:=hxx.cell Q10.o;have m11:=hxx.cell Q11.o;have m12:=hxx.cell Q12.o;have m13:=hxx.cell Q13.o;have m14:=hxx.cell Q14.o;have m15:=hxx.cell Q15.o;have m16:=hxx.cell Q16.o;have m17:=hxx.cell Q17.o;have m18:=hxx.cell Q18.o;have m19:=hxx.cell Q19.o;clear hxx hR hN hp hρ;go_light;go_simp;exact ⟨rfl,rfl⟩
   ·rfl
   apply Chain.pure (LZ.refl _) (by rfl)
   ·intro vals γ w' ρ hR hN hp hρ hc hf hg;refine ⟨rfl,?_⟩;have e0:=hρ 0;(conv at e0=>rhs; whnf);clear hR hN hp hρ;go_light;go_simp;exact ⟨rfl,rfl⟩
   ·rfl
   apply Chain.pure (LZ.refl _) (by rfl)
   ·intro vals γ w' ρ hR hN hp hρ hc hf hg;refine ⟨rfl,?_⟩;have e12:=hρ 12;(conv at e12=>rhs; whnf);clear hR hN hp hρ;go_light;go_simp;exact ⟨rfl,rfl⟩
   ·rfl
   apply Chain.pure (LZ.refl _) (by rfl)
   ·intro vals γ w' ρ hR hN hp hρ hc hf hg;refine ⟨rfl,?_⟩;have e15:=hρ 15;(conv at e15=>rhs; whnf);clear hR hN hp hρ;go_light;go_simp;exact ⟨rfl,rfl⟩
   ·rfl
   apply Chain.pure (LZ.refl _) (by rfl)
   ·intro vals γ w' ρ hR hN hp hρ hc hf hg;refine ⟨rfl,?_⟩;have e83:ρ (.tmp 83)=_:=(hρ 83).trans (hp 6 (by decide));have e84:ρ (.tmp 84)=_:=(hρ 84).trans (hp 7 (by decide));clear hR hN hp hρ;go_light;go_simp;exact ⟨rfl,rfl⟩
   ·rfl
   apply Chain.pure (LZ.refl _) (by rfl)
   ·intro vals γ w' ρ hR hN hp hρ hc hf hg;refine ⟨rfl,?_⟩;have e85:ρ (.tmp 85)=_:=(hρ 85).trans (hp 8 (by decide));have hxx:=hR.ext0 (fun _ _ _ h=>h.elim);have m0:=hxx.cell Q0.o;have m1:=hxx.cell Q1.o;have m2:=hxx.cell Q2.o;have m3:=hxx.cell Q3.o;have m4:=hxx.cell Q4.o;have m5:=hxx.cell Q5.o;have m6:=hxx.cell Q6.o;have m7:=hxx.cell Q7.o;have m8:=hxx.cell Q8.o;have m9:=hxx.cell Q9.o;have m10:=hxx.cell Q10.o;have m11:=hxx.cell Q11.o;have m12:=hxx.cell Q12.o;have m13:=hxx.cell Q13.o;have m14:=hxx.cell Q14.o;have m15:=hxx.cell Q15.o;have m16:=hxx.cell Q16.o;have m17:=hxx.cell Q17.o;have m18:=hxx.cell Q18.o;have m19:=hxx.cell Q19.o;clear hxx hR hN hp hρ;go_light;go_simp;exact ⟨rfl,rfl⟩
   ·rfl
   apply Chain.pure (LZ.refl _) (by rfl)
   ·intro vals γ w' ρ hR hN hp hρ hc hf hg;refine ⟨rfl,?_⟩;have e86:ρ (.tmp 86)=_:=(hρ 86).trans (hp 9 (by decide));clear hR hN hp hρ;go_light;go_simp;exact ⟨rfl,rfl⟩
   ·rfl
   apply Chain.pure (LZ.refl _) (by rfl)
   ·intro vals γ w' ρ hR hN hp hρ hc hf hg;refine ⟨rfl,?_⟩;have e87:ρ (.tmp 87)=_:=(hρ 87).trans (hp 10 (by decide));have hxx:=hR.ext0 (fun _ _ _ h=>h.elim);have m0:=hxx.cell Q0.o;have m1:=hxx.cell Q1.o;have m2:=hxx.cell Q2.o;have m3:=hxx.cell Q3.o;have m4:=hxx.cell Q4.o;have m5:=hxx.cell Q5.o;have m6:=hxx.cell Q6.o;have m7:=hxx.cell Q7.o;have m8:=hxx.cell Q8.o;have m9:=hxx.cell Q9.o;have m10:=hxx.cell Q10.o;have m11:=hxx.cell Q11.o;have m12:=hxx.cell Q12.o;have m13:=hxx.cell Q13.o;have m14:=hxx.cell Q14.o;have m15:=hxx.cell Q15.o;have m16:=hxx.cell Q16.o;have m17:=hxx.cell Q17.o;have m18:=hxx.cell Q18.o;have m19:=hxx.cell Q19.o;clear hxx hR hN hp hρ;go_light;go_simp;exact ⟨rfl,rfl⟩
   ·rfl
   apply Chain.pure (LZ.refl _) (by rfl)
   ·intro vals γ w' ρ hR hN hp hρ hc hf hg;refine ⟨rfl,?_⟩;have e82:ρ (.tmp 82)=_:=(hρ 82).trans (hp 5 (by decide));have e88:ρ (.tmp 88)=_:=(hρ 88).trans (hp 11 (by decide));clear hR hN hp hρ;go_light;go_simp;exact ⟨rfl,rfl⟩
   ·rfl
   apply Chain.pure (LZ.refl _) (by rfl)
   ·intro vals γ w' ρ hR hN hp hρ hc hf hg;refine ⟨rfl,?_⟩;have e89:ρ (.tmp 89)=_:=(hρ 89).trans (hp 12 (by decide));have hxx:=hR.ext0 (fun _ _ _ h=>h.elim);have m0:=hxx.cell Q0.o;have m1:=hxx.cell Q1.o;have m2:=hxx.cell Q2.o;have m3:=hxx.cell Q3.o;have m4:=hxx.cell Q4.o;have m5:=hxx.cell Q5.o;have m6:=hxx.cell Q6.o;have m7:=hxx.cell Q7.o;have m8:=hxx.cell Q8.o;have m9:=hxx.cell Q9.o;have m10:=hxx.cell Q10.o;have m11:=hxx.cell Q11.o;have m12:=hxx.cell Q12.o;have m13:=hxx.cell Q13.o;have m14:=hxx.cell Q14.o;have m15:=hxx.cell Q15.o;have m16:=hxx.cell Q16.o;have m17:=hxx.cell Q17.o;have m18:=hxx.cell Q18.o;have m19:=hxx.cell Q19.o;clear hxx hR hN hp hρ;go_light;go_simp;exact ⟨rfl,rfl⟩
   ·rfl
   apply Chain.pure (LZ.refl _) (by rfl)
   ·intro vals γ w' ρ hR hN hp hρ hc hf hg;refine ⟨rfl,?_⟩;have e11:=hρ 11;(conv at e11=>rhs; whnf);clear hR hN hp hρ;go_light;go_simp;exact ⟨rfl,rfl⟩
   ·rfl
   apply Chain.pure (LZ.refl _) (by rfl)
   ·intro vals γ w' ρ hR hN hp hρ hc hf hg;refine ⟨rfl,?_⟩;have e91:ρ (.tmp 91)=_:=(hρ 91).trans (hp 14 (by decide));have hxx:=hR.ext0 (fun _ _ _ h=>h.elim);have m0:=hxx.cell Q0.o;have m1:=hxx.cell Q1.o;have m2:=hxx.cell Q2.o;have m3:=hxx.cell Q3.o;have m4:=hxx.cell Q4.o;have m5:=hxx.cell Q5.o;have m6:=hxx.cell Q6.o;have m7:=hxx.cell Q7.o;have m8:=hxx.cell Q8.o;have m9:=hxx.cell Q9.o;have m10:=hxx.cell Q10.o;have m11:=hxx.cell Q11.o;have m12:=hxx.cell Q12.o;have m13:=hxx.cell Q13.o;have m14:=hxx.cell Q14.o;have m15:=hxx.cell Q15.o;have m16:=hxx.cell Q16.o;have m17:=hxx.cell Q17.o;have m18:=hxx.cell Q18.o;have m19:=hxx.cell Q19.o;clear hxx hR hN hp hρ;go_light;go_simp;exact ⟨rfl,rfl⟩
   ·rfl
   apply Chain.pure (LZ.refl _) (by rfl)
   ·intro vals γ w' ρ hR hN hp hρ hc hf hg;refine ⟨rfl,?_⟩;have e90:ρ (.tmp 90)=_:=(hρ 90).trans (hp 13 (by decide));have e92:ρ (.tmp 92)=_:=(hρ 92).trans (hp 15 (by decide));clear hR hN hp hρ;go_light;go_simp;exact ⟨rfl,rfl⟩
   ·rfl
   apply Chain.pure (LZ.refl _) (by rfl)
   ·intro vals γ w' ρ hR hN hp hρ hc hf hg;refine ⟨rfl,?_⟩;have e93:ρ (.tmp 93)=_:=(hρ 93).trans (hp 16 (by decide));have hxx:=hR.ext0 (fun _ _ _ h=>h.elim);have m0:=hxx.cell Q0.o;have m1:=hxx.cell Q1.o;have m2:=hxx.cell Q2.o;have m3:=hxx.cell Q3.o;have m4:=hxx.cell Q4.o;have m5:=hxx.cell Q5.o;have m6:=hxx.cell Q6.o;have m7:=hxx.cell Q7.o;have m8:=hxx.cell Q8.o;have m9:=hxx.cell Q9.o;have m10:=hxx.cell Q10.o;have m11:=hxx.cell Q11.o;have m12:=hxx.cell Q12.o;have m13:=hxx.cell Q13.o;have m14:=hxx.cell Q14.o;have m15:=hxx.cell Q15.o;have m16:=hxx.cell Q16.o;have m17:=hxx.cell Q17.o;have m18:=hxx.cell Q18.o;have m19:=hxx.cell Q19.o;clear hxx hR hN hp hρ;go_light;go_simp;exact ⟨rfl,rfl⟩
   ·rfl
   refine Chain.step (FP fun v γ w'=>v=.bool true) (by rfl) (FP.stab ?_) ?_ ?_
   ·intro v γ w1 γ' w2 r h;exact h
   ·intro vals γ w' ρ hR hN hp hρ hc hf hg;refine ⟨rfl,?_⟩;have e81:ρ (.tmp 81)=_:=(hρ 81).trans (hp 4 (by decide));have e94:ρ (.tmp 94)=_:=(hρ 94).trans (hp 17 (by decide));have HR:=Hd hR;have hxx:=hR.ext0 (fun _ _ _ h=>h.elim);have HXQ:=Hd hxx;clear hxx hR hN hp hρ;go_light;go_simp;refine (HEQ.o w' HXQ.o).mono ?_;rintro e1 w3 ⟨he,hx⟩;exact ⟨_,he,γ,LZ.of_ext _ γ hx,fun _ _ _ h=>h,rfl⟩
   apply Chain.pure (LZ.refl _) (by rfl)
   ·intro vals γ w' ρ hR hN hp hρ hc hf hg;refine ⟨rfl,?_⟩;have e95:ρ (.tmp 95)=_:=(hρ 95).trans (hp 18 (by decide));clear hR hN hp hρ;go_light;go_simp;exact ⟨rfl,rfl⟩
   ·rfl
   intro vals γ w9 hR hG;have v0:vals 0=_:=hG 0 (by decide);have v1:vals 1=_:=hG 1 (by decide);have v2:vals 2=_:=hG 2 (by decide);have v3:vals 3=_:=hG 3 (by decide);have v4:vals 4=_:=hG 4 (by decide);have v5:vals 5=_:=hG 5 (by decide);have v6:vals 6=_:=hG 6 (by decide);have v7:vals 7=_:=hG 7 (by decide);have v8:vals 8=_:=hG 8 (by decide);have v9:vals 9=_:=hG 9 (by decide);have v10:vals 10=_:=hG 10 (by decide);have v11:vals 11=_:=hG 11 (by decide);have v12:vals 12=_:=hG 12 (by decide);have v13:vals 13=_:=hG 13 (by decide);have v14:vals 14=_:=hG 14 (by decide);have v15:vals 15=_:=hG 15 (by decide);have v16:vals 16=_:=hG 16 (by decide);have v17:vals 17=_:=hG 17 (by decide);have v18:vals 18=_:=hG 18 (by decide);have v19:vals 19=_:=hG 19 (by decide);simp only [lexFrame,Act.put,List.setIfInBounds_toArray,List.set_cons_succ,List.set_cons_zero,Nat.zero_add,Nat.reduceAdd,v0,v1,v2,v3,v4,v5,v6,v7,v8,v9,v10,v11,v12,v13,v14,v15,v16,v17,v18,v19];clear v0 v1 v2 v3 v4 v5 v6 v7 v8 v9 v10 v11 v12 v13 v14 v15 v16 v17 v18 v19;have HXM:=Hd (show Ext wc w9 from hR.ext0 (fun _ _ _ h=>h.elim));clear hR hG;obtain ⟨wd,ewd⟩:∃ x:World,x=w9:=⟨_,rfl⟩;rw [← ewd] at HXM ⊢;clear ewd w9;have q2:=HXM.o.cell Q2.o;have q3:=HXM.o.cell Q3.o;have q20:=HXM.o.cell Q20.o;by_cases hd0:dep (spl l) (inpS l) g=0
   ·have HALK0:=Hd (HALK.o wd HXM.o);rw [decide_eq_true hd0] at HALK0;have hs0:=HNIL.o.1 hd0;have HNX1:=Hd (show nx=-1 by rw [HENX.o,if_pos hs0]);have hn1':(nx==-1)=true:=(by rw [HNX1.o]; rfl);have HSB0:=Hd hs0;have HD0:=Hd hd0;clear hd0 hs0
    go_wp2_with fail
    refine HALK0.o.mono ?_;rintro e5 we ⟨rfl,hxe⟩;have HXE:=Hd (HXM.o.trans hxe);have q2:=hxe.cell q2;have q20:=hxe.cell q20;clear hxe HALK0;go_wp2;go_roundw
    case rel =>
     refine ⟨k+1,A',c',by omega,?_,?_,by go_num,?_,HXC.o.trans HXE.o⟩
     ·rw [List.take_succ_eq_append_getElem hks,List.foldl_append,← HEG.o,← HMX.o];show _=Value.int .i64 ((max mx (dep (spl l) (inpS l) g):Nat):Int);rw [HD0.o,Nat.max_zero]
     ·rw [HS3.o,List.length_append,HSB0.o,Nat.add_zero,HPRE.o,← HLN.o]
     ·rw [HS3.o,List.length_append,HSB0.o,Nat.add_zero,HPRE.o,← HLN.o];exact Own.ext HO.o HXE.o
    case measure=>simp [intOf]; omega
   ·have HALK1:=Hd (HALK.o wd HXM.o);rw [decide_eq_false hd0] at HALK1;have hs0:¬ sb.length=0:=fun e=>hd0 (HNIL.o.2 e);obtain ⟨p,ep⟩:∃ p,p=nX+1+ln:=⟨_,rfl⟩;have hnx:nx=(p:Int):=(by rw [HENX.o,if_neg hs0,ep]);subst hnx;have HP:=Hd ep;have hfp:0<f:=(by have:=HF.o; have:=HSM.o; omega);obtain ⟨dg,edg⟩:∃ x,x=dep (spl l) (inpS l) g:=⟨_,rfl⟩;obtain ⟨ns,ens⟩:∃ x,x=sb.length:=⟨_,rfl⟩;have hdg90:dg≤90:=(by rw [edg]; exact depR_le l HSUB.o.2.length_le HLEN.o);have HDG:=Hd edg;have HNS:=Hd ens;have hXl:(X++a :: pre).length=p:=(by rw [List.length_append,List.length_cons,← HNX.o,HPRE.o,← HLN.o,ep]; omega);have HWK:=Hd (show ∀ w':World,Ext wc w'→Calls Tryz.prog 69 #[.slice (some ⟨bA,oA,none⟩) nl c,.agg #[.slice (some ⟨bY,oY,none⟩) nY cY,.int .i64 pd,.int .i64 pl],.int .i64 (p:Int),.slice (some ⟨b2,o2,none⟩) gn e2] w' (RetWk w' dg p ns) from fun w' hx=>by
     have h1:=ih hfp d l (some ⟨bA,oA,none⟩) c g (some ⟨b2,o2,none⟩) e2 Y (X++a :: pre) ((planG (plan (spl l) (inpS l) (ans l)) (gs.drop (k+1)) (nX+1+ln+sb.length)).1++Z) (some ⟨bY,oY,none⟩) cY pd pl w' S _ U (by have:=HF.o; have:=HSM.o; omega) (HR.o.keep ((HXWC.o.trans hx).kept S)) ⟨HN2.o.keep (hx.kept _),fun x hx=>HPN.o.lt x (HSUB.o.2.subset hx),by rw [← HEGN.o]; exact hgn90⟩ (HYM.o.keep ((HXWC.o.trans hx).kept U)) (by rw [← HNY.o]; exact hY1) (by
      rw [hXl,ep,← HSB.o,HYX.o,HPG.o,HS1.o];simp only [List.append_assoc,List.cons_append]) hd0
     rw [hXl,← HNY.o,← HNL.o,← HEGN.o,← edg,ep,← HSB.o,← ens,← ep] at h1;exact h1)
    have jn:(((p:Int))==-1)=false:=(by rw [beq_eq_false_iff_ne]; omega);have jp:¬ (p:Int)≤(nX:Int):=(by omega);have HD0:=Hd hd0;clear hd0 hs0 edg ens hXl hfp ep
    go_wp2_with fail
    refine HALK1.o.mono ?_;rintro e5 we ⟨rfl,hxe⟩;have HXE:=Hd (HXM.o.trans hxe);have q2:=hxe.cell q2;have q20:=hxe.cell q20;have HWK2:=Hd (show ∀ w':World,Ext we w'→Calls Tryz.prog 69 #[.slice (some ⟨bA,oA,none⟩) nl c,.agg #[.slice (some ⟨bY,oY,none⟩) nY cY,.int .i64 pd,.int .i64 pl],.int .i64 (p:Int),.slice (some ⟨b2,o2,none⟩) gn e2] w' (RetWk w' dg p ns) from fun w' hx=>HWK.o w' (HXE.o.trans hx));have h5:=(HK5U.o.keep (HXC.o.kept _)).keep (HXE.o.kept _);have P0:=Hd (h5.cell (i:=0) rfl);have P1:=Hd (h5.cell (i:=1) rfl);have P2:=Hd (h5.cell (i:=2) rfl);have P3:=Hd q2;have P4:=Hd q20;have P5:=Hd (hxe.cell q3);clear hxe HALK1 h5 Q0 Q1 Q2 Q3 Q4 Q5 Q6 Q7 Q8 Q9 Q10 Q11 Q12 Q13 Q14 Q15 Q16 Q17 Q18 Q19 Q20
    go_upto_region 21 with fail
    clear q2 q20 q3;refine wp_region_chain (by kernel_rfl) (fun i=>[i]) (by kernel_rfl) (LZ (fun _ _=>False)) (LZ.refl _) (LZ.trans _) (LK []) gz0 (LK.zero _) ?_;apply Chain.pure (LZ.refl _) (by rfl)
    ·intro vals γ w' ρ hR hN hp hρ hc hf hg;refine ⟨rfl,?_⟩;have e0:=hρ 0;(conv at e0=>rhs; whnf);clear hR hN hp hρ;go_light;go_simp;exact ⟨rfl,rfl⟩
    ·rfl
    apply Chain.pure (LZ.refl _) (by rfl)
    ·intro vals γ w' ρ hR hN hp hρ hc hf hg;refine ⟨rfl,?_⟩;have e5:=hρ 5;(conv at e5=>rhs; whnf);have hxx:=hR.ext0 (fun _ _ _ h=>h.elim);have m0:=hxx.cell P0.o;have m1:=hxx.cell P1.o;have m2:=hxx.cell P2.o;have m3:=hxx.cell P3.o;have m4:=hxx.cell P4.o;have m5:=hxx.cell P5.o;clear hxx hR hN hp hρ;go_light;go_simp;exact ⟨rfl,rfl⟩
    ·rfl
    apply Chain.pure (LZ.refl _) (by rfl)
    ·intro vals γ w' ρ hR hN hp hρ hc hf hg;refine ⟨rfl,?_⟩;have e11:=hρ 11;(conv at e11=>rhs; whnf);clear hR hN hp hρ;go_light;go_simp;exact ⟨rfl,rfl⟩
    ·rfl
    apply Chain.pure (LZ.refl _) (by rfl)
    ·intro vals γ w' ρ hR hN hp hρ hc hf hg;refine ⟨rfl,?_⟩;have e132:ρ (.tmp 132)=_:=(hρ 132).trans (hp 2 (by decide));have hxx:=hR.ext0 (fun _ _ _ h=>h.elim);have m0:=hxx.cell P0.o;have m1:=hxx.cell P1.o;have m2:=hxx.cell P2.o;have m3:=hxx.cell P3.o;have m4:=hxx.cell P4.o;have m5:=hxx.cell P5.o;clear hxx hR hN hp hρ;go_light;go_simp;exact ⟨rfl,rfl⟩
    ·rfl
    apply Chain.pure (LZ.refl _) (by rfl)
    ·intro vals γ w' ρ hR hN hp hρ hc hf hg;refine ⟨rfl,?_⟩;have e15:=hρ 15;(conv at e15=>rhs; whnf);clear hR hN hp hρ;go_light;go_simp;exact ⟨rfl,rfl⟩
    ·rfl
    apply Chain.pure (LZ.refl _) (by rfl)
    ·intro vals γ w' ρ hR hN hp hρ hc hf hg;refine ⟨rfl,?_⟩;have e133:ρ (.tmp 133)=_:=(hρ 133).trans (hp 3 (by decide));have e134:ρ (.tmp 134)=_:=(hρ 134).trans (hp 4 (by decide));clear hR hN hp hρ;go_light;go_simp;exact ⟨rfl,rfl⟩
    ·rfl
    apply Chain.pure (LZ.refl _) (by rfl)
    ·intro vals γ w' ρ hR hN hp hρ hc hf hg;refine ⟨rfl,?_⟩;have e135:ρ (.tmp 135)=_:=(hρ 135).trans (hp 5 (by decide));have hxx:=hR.ext0 (fun _ _ _ h=>h.elim);have m0:=hxx.cell P0.o;have m1:=hxx.cell P1.o;have m2:=hxx.cell P2.o;have m3:=hxx.cell P3.o;have m4:=hxx.cell P4.o;have m5:=hxx.cell P5.o;clear hxx hR hN hp hρ;go_light;go_simp;exact ⟨rfl,rfl⟩
    ·rfl
    apply Chain.pure (LZ.refl _) (by rfl)
    ·intro vals γ w' ρ hR hN hp hρ hc hf hg;refine ⟨rfl,?_⟩;have e12:=hρ 12;(conv at e12=>rhs; whnf);clear hR hN hp hρ;go_light;go_simp;exact ⟨rfl,rfl⟩
    ·rfl
    apply Chain.pure (LZ.refl _) (by rfl)
    ·intro vals γ w' ρ hR hN hp hρ hc hf hg;refine ⟨rfl,?_⟩;have e15:=hρ 15;(conv at e15=>rhs; whnf);clear hR hN hp hρ;go_light;go_simp;exact ⟨rfl,rfl⟩
    ·rfl
    apply Chain.pure (LZ.refl _) (by rfl)
    ·intro vals γ w' ρ hR hN hp hρ hc hf hg;refine ⟨rfl,?_⟩;have e137:ρ (.tmp 137)=_:=(hρ 137).trans (hp 7 (by decide));have e138:ρ (.tmp 138)=_:=(hρ 138).trans (hp 8 (by decide));clear hR hN hp hρ;go_light;go_simp;exact ⟨rfl,rfl⟩
    ·rfl
    apply Chain.pure (LZ.refl _) (by rfl)
    ·intro vals γ w' ρ hR hN hp hρ hc hf hg;refine ⟨rfl,?_⟩;have e139:ρ (.tmp 139)=_:=(hρ 139).trans (hp 9 (by decide));have hxx:=hR.ext0 (fun _ _ _ h=>h.elim);have m0:=hxx.cell P0.o;have m1:=hxx.cell P1.o;have m2:=hxx.cell P2.o;have m3:=hxx.cell P3.o;have m4:=hxx.cell P4.o;have m5:=hxx.cell P5.o;clear hxx hR hN hp hρ;go_light;go_simp;exact ⟨rfl,rfl⟩
    ·rfl
    refine Chain.step (FP fun v γ w'=>WkF we.heap.size dg p ns v w') (by rfl) (FP.stab ?_) ?_ ?_
    ·rintro v γ w1 γ' w2 rr ⟨A9,c9,h1,h2⟩;exact ⟨A9,c9,h1,Own.keep h2 (rr.keptS fun b _ _ m hm=>hm.elim)⟩
    ·intro vals γ w' ρ hR hN hp hρ hc hf hg;refine ⟨rfl,?_⟩;have e130:ρ (.tmp 130)=_:=(hρ 130).trans (hp 0 (by decide));have e131:ρ (.tmp 131)=_:=(hρ 131).trans (hp 1 (by decide));have e136:ρ (.tmp 136)=_:=(hρ 136).trans (hp 6 (by decide));have e140:ρ (.tmp 140)=_:=(hρ 140).trans (hp 10 (by decide));have HR:=Hd hR;have hxx:=hR.ext0 (fun _ _ _ h=>h.elim);have HXQ:=Hd hxx;clear hxx hR hN hp hρ;go_light;go_simp;refine (HWK2.o w' HXQ.o).mono ?_;rintro e1 w3 ⟨A9,c9,he,ho,hx⟩;exact ⟨_,he,γ,LZ.of_ext _ γ hx,fun _ _ _ h=>h,A9,c9,rfl,Own.lower ho HR.o.size⟩
    refine Chain.step (FP fun v γ w'=>WkF we.heap.size dg p ns v w') (by rfl) (FP.stab ?_) ?_ ?_
    ·rintro v γ w1 γ' w2 rr ⟨A9,c9,h1,h2⟩;exact ⟨A9,c9,h1,Own.keep h2 (rr.keptS fun b _ _ m hm=>hm.elim)⟩
    ·intro vals γ w' ρ hR hN hp hρ hc hf hg;refine ⟨rfl,?_⟩;have hg:=hp 11 (by decide);have e141:=hρ 141;(conv at e141=>rhs; whnf);have HG:=Hd hg;clear hR hN hp hρ hg;go_light;go_simp;exact ⟨γ,LZ.refl _ _ _,fun _ _ _ h=>h,HG.o⟩
    apply Chain.pure (LZ.refl _) (by rfl)
    ·intro vals γ w' ρ hR hN hp hρ hc hf hg;refine ⟨rfl,?_⟩;obtain ⟨A9,c9,hv,ho9⟩:=hp 12 (by decide);have e129:=(hρ 129).trans hv;clear hR hN hp hρ;go_light;go_simp;exact ⟨rfl,rfl⟩
    ·rfl
    refine Chain.step (FP fun v γ w'=>WkG we.heap.size p ns v w') (by rfl) (FP.stab ?_) ?_ ?_
    ·rintro v γ w1 γ' w2 rr ⟨A9,c9,h1,h2⟩;exact ⟨A9,c9,h1,Own.keep h2 (rr.keptS fun b _ _ m hm=>hm.elim)⟩
    ·intro vals γ w' ρ hR hN hp hρ hc hf hg;refine ⟨rfl,?_⟩;obtain ⟨A9,c9,hv,ho9⟩:=hp 12 (by decide);have e129:=(hρ 129).trans hv;have HO9:=Hd ho9;clear hR hN hp hρ hv ho9;go_light;go_simp;exact ⟨γ,LZ.refl _ _ _,fun _ _ _ h=>h,A9,c9,rfl,HO9.o⟩
    apply Chain.pure (LZ.refl _) (by rfl)
    ·intro vals γ w' ρ hR hN hp hρ hc hf hg;refine ⟨rfl,?_⟩;obtain ⟨A9,c9,hv,ho9⟩:=hp 12 (by decide);have e129:=(hρ 129).trans hv;clear hR hN hp hρ;go_light;go_simp;exact ⟨rfl,rfl⟩
    ·rfl
    apply Chain.pure (LZ.refl _) (by rfl)
    ·intro vals γ w' ρ hR hN hp hρ hc hf hg;refine ⟨rfl,?_⟩;have e142:ρ (.tmp 142)=_:=(hρ 142).trans (hp 13 (by decide));clear hR hN hp hρ;go_light;go_simp;exact ⟨rfl,rfl⟩
    ·rfl
    refine Chain.step (FP fun v γ w'=>WkG we.heap.size p ns v w') (by rfl) (FP.stab ?_) ?_ ?_
    ·rintro v γ w1 γ' w2 rr ⟨A9,c9,h1,h2⟩;exact ⟨A9,c9,h1,Own.keep h2 (rr.keptS fun b _ _ m hm=>hm.elim)⟩
    ·intro vals γ w' ρ hR hN hp hρ hc hf hg;refine ⟨rfl,?_⟩;have hg:=hp 14 (by decide);have e143:=hρ 143;(conv at e143=>rhs; whnf);have HG:=Hd hg;clear hR hN hp hρ hg;go_light;go_simp;exact ⟨γ,LZ.refl _ _ _,fun _ _ _ h=>h,HG.o⟩
    apply Chain.pure (LZ.refl _) (by rfl)
    ·intro vals γ w' ρ hR hN hp hρ hc hf hg;refine ⟨rfl,?_⟩;have e144:ρ (.tmp 144)=_:=(hρ 144).trans (hp 15 (by decide));clear hR hN hp hρ;go_light;go_simp;exact ⟨rfl,rfl⟩
    ·rfl
    intro vals γ w9 hR hG;have v0:vals 0=_:=hG 0 (by decide);have v1:vals 1=_:=hG 1 (by decide);have v2:vals 2=_:=hG 2 (by decide);have v3:vals 3=_:=hG 3 (by decide);have v4:vals 4=_:=hG 4 (by decide);have v5:vals 5=_:=hG 5 (by decide);have v6:vals 6=_:=hG 6 (by decide);have v7:vals 7=_:=hG 7 (by decide);have v8:vals 8=_:=hG 8 (by decide);have v9:vals 9=_:=hG 9 (by decide);have v10:vals 10=_:=hG 10 (by decide);obtain ⟨A11,c11,v11,-⟩:=hG 11 (by decide);obtain ⟨A12',c12',v12,-⟩:=hG 12 (by decide);have v13:vals 13=_:=hG 13 (by decide);obtain ⟨A14',c14',v14,-⟩:=hG 14 (by decide);have v15:vals 15=_:=hG 15 (by decide);have v16:vals 16=_:=hG 16 (by decide);obtain ⟨A9,c9,v17,ho17⟩:=hG 17 (by decide);have v18:vals 18=_:=hG 18 (by decide);simp only [lexFrame,Act.put,List.setIfInBounds_toArray,List.set_cons_succ,List.set_cons_zero,Nat.zero_add,Nat.reduceAdd,v0,v1,v2,v3,v4,v5,v6,v7,v8,v9,v10,v11,v12,v13,v14,v15,v16,v17,v18];clear v0 v1 v2 v3 v4 v5 v6 v7 v8 v9 v10 v11 v12 v13 v14 v15 v16 v17 v18;have HXF:=Hd (show Ext we w9 from hR.ext0 (fun _ _ _ h=>h.elim));have HOS:=Hd ho17;clear hR hG ho17;obtain ⟨wf,ewf⟩:∃ x:World,x=w9:=⟨_,rfl⟩;rw [← ewf] at HXF HOS ⊢;clear ewf w9;have HXT:=Hd (HXE.o.trans HXF.o);have hown:=Own.ext HO.o HXT.o;rw [List.length_range'] at hown;have HOWN:=Hd hown;have hrd:=Own.rd HOS.o;have HRD:=Hd hrd;have hsz:=(HXC.o.trans HXT.o).size;have hns90:ns≤1000∧1+ln≤1000:=by
     have h1:=congrArg List.length HYX.o;rw [HPG.o,HS1.o] at h1;simp only [List.length_append,List.length_cons] at h1;rw [← HNY.o,← HNS.o,HPRE.o,← HLN.o] at h1;omega
    clear hown hrd
    go_wp2_with (at_builtin; go_must (refine wpList_app rfl (.tmp 150) (.tmp 151) rfl tiI rfl HOWN.o rfl HRD.o (by simp [nums]) (fun u hu=>by obtain ⟨z,-,rfl⟩:=List.mem_map.1 hu; rfl) (by omega) (by decide) hsz ?_); intro A12 c12 w12 hown12 hg12 hat12)
    go_roundw
    case rel =>
     have HL2:(planG (plan (spl l) (inpS l) (ans l)) (gs.take (k+1)) (nX+1)).1.length=ln+ns:=(by rw [HS3.o,List.length_append,← HNS.o,HPRE.o,← HLN.o]);refine ⟨k+1,A12,c12,by omega,?_,?_,by go_num,?_,(HXC.o.trans HXT.o).grown hg12 fun b e=>(Own.blk HO.o e).1⟩
     ·rw [List.take_succ_eq_append_getElem hks,List.foldl_append,← HEG.o,← HMX.o];show _=Value.int .i64 ((max mx (dep (spl l) (inpS l) g):Nat):Int);rw [← HDG.o]
      go_num
     ·rw [HL2,← Nat.add_assoc]
     ·rw [HL2,← Nat.add_assoc,← range_glue nX (1+ln) ns];unfold OwnN;rw [List.length_append,List.length_range',List.length_range',show nX+(1+ln)=p by have:=HP.o; omega]
      simpa [nums] using hown12
    case measure=>simp [intOf]; omega
  ·obtain rfl:k=ng:=by omega
   have HTG:=Hd (show gs.take k=gs by rw [List.take_of_length_le (by rw [← HNG.o]; exact Nat.le_refl _)]);have HDV:=Hd (show dp=mx+1 by rw [HDP.o,HDW.o,HMX.o,HTG.o]; omega);have HLV:=Hd (show ln=PG.length by rw [HLN.o,HTG.o,HPG.o]);go_wp2;refine bodyPost_ret (v:=.tuple #[.int .i64 ((mx:Int)+1),.slice A' (1+ln) c',.bool true]) (by simp [results,Tryz.results69,go_sem]) rfl ⟨A',c',?_,?_,HXU.o.trans HXC.o⟩
   ·rw [HDV.o,← HLV.o,Nat.add_comm 1 ln];simp
   ·rw [← HLV.o,Nat.add_comm ln 1];exact Own.lower HO.o HXU.o.size
theorem r25_walk (f:Nat):PWk f:=by
 induction f with
 | zero=>exact r25_walk_step 0 fun h=>absurd h (by omega)
 | succ f ih=>exact r25_walk_step (f+1) fun _=>ih
end Go.Proofs.YtomdpipekmcojaaGreatDoor
