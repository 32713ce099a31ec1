/- The planner's ask. Conditions: the planner lies in memory. -/
import Derived.Test.YtomdpipekmcojaaGreatDoorBk12
import Derived.Laws.EntriesVeiled
namespace Go.Proofs.YtomdpipekmcojaaGreatDoor
open Go Go.RowKit

set_option maxRecDepth 100000 in
set_option maxHeartbeats 1000000 in
theorem pl_ask_step (f:Nat) (ih:0<f→PAsk (f-1)):PAsk f:=by
 intro l bP bm base Xs d L LA lc A c X w hf hl hw hp hi h0 hn hxl;obtain ⟨N,eN⟩:∃ N,N=inpS l:=⟨_,rfl⟩;have HP:=Hd hp;have HI:=Hd hi;have HF:=Hd hf;have HEN:=Hd eN;have HL:=Hd hl;have H0:=Hd h0;have HW:=Hd hw;have HNU:=Hd hn;have HXL:=Hd hxl;have HLEN:=Hd (show L.length<20 by have:=hi.len; omega);have HBM:=Hd (show ∀ w':World,∀ b,b=bm→¬ ¬ AskS bP bm A b from fun _ b e h=>h (.inl e));have HD1:=Hd (pl_depth L.length l bP bm L LA lc w (Nat.le_refl _) hl hp.pd hi h0 (hn.mono fun b _ e f=>e (.inl f)));obtain ⟨n,en⟩:∃ n,n=L.length:=⟨_,rfl⟩;have HEL:=Hd en;rw [← en] at HD1 ⊢;obtain ⟨dp,edp⟩:∃ dp,dp=dep (spl l) (inpS l) L:=⟨_,rfl⟩;have HDP:=Hd edp;rw [← edp] at HD1;have HD20:=Hd (show dp≤20 by rw [edp]; have:=dep_len (spl_small l) (inpS l) L; have:=HLEN.o; omega);clear hf hl hw hp hi h0 hn hxl eN en edp
 go_enter Tryz.func54,Tryz.ntmps54
 go_wp2_with fail
 refine HD1.o.mono ?_;rintro e1 w1 ⟨rfl,hb1,hm1⟩;have HB1:=Hd hb1;have HM1:=Hd hm1;have HP1:=Hd (HP.o.but hb1 hm1);clear hb1 hm1;by_cases hd0:dp=0
 ·have j0:((dp:Int)==0)=true:=(by rw [beq_iff_eq]; omega);have HDZ:=Hd (show dep (spl l) (inpS l) L=0 by rw [← HDP.o]; exact hd0);clear hd0;go_wp2;go_ret;refine ⟨A,c,by rw [if_pos HDZ.o]; rfl,HB1.o.mono fun b _ e=>.inl e,?_,fun b hb=>.inl hb⟩;rw [plan_eq (spl_small l),if_pos HDZ.o,List.append_nil];exact HP1.o.wide (fun b _ h=>.inl h) fun b h=>by
   rcases h with h | h
   ·exact HP.o.xs b h
   ·exact Nat.le_trans HP.o.lt.2.2 h
 ·have j0:((dp:Int)==0)=false:=(by rw [beq_eq_false_iff_ne]; omega);have HDZ:=Hd (show dep (spl l) (inpS l) L≠0 by rw [← HDP.o]; exact hd0);obtain ⟨im,eim⟩:∃ im,im=inpF (spl l) (inpS l) L:=⟨_,rfl⟩;obtain ⟨hin,hid1,hid2⟩:=inpF_at (spl_small l) (inpS l) L HDZ.o;rw [← eim] at hin hid1 hid2;have him:im≤4294967296:=(by have:=HP.o.pd.pl; obtain ⟨_,_,_,h⟩:=this; have:=h.1; simp at this; omega);have HIM:=Hd eim;have HIN:=Hd hin;have HID1:=Hd hid1;have HID2:=Hd hid2;have HNE:=Hd (show L≠[] by
   intro e;have:=dep_len (spl_small l) (inpS l) L;rw [← HDP.o,e] at this;simp at this;exact hd0 this)
  clear hd0 eim hin hid1 hid2;go_wp2
  go_loopw [6] (fun v wr=>∃ k:Nat,k≤im∧v=.int .i64 (k:Int)∧ButS (fun b=>b=bm) w1 wr∧PS wr bP bm l base Xs d A c X) (fun v _=>im-(intOf v).toNat)
  case atStart=>exact ⟨0,Nat.zero_le _,rfl,ButS.refl _ _,HP1.o⟩
  case round =>
   obtain ⟨k,hk,rfl,hbut,hps⟩:=hrel;have HB:=Hd hbut;have HPS:=Hd hps;have HCALL:=Hd (pl_depthWith (L.length-1) (pl_depth _) l bP bm L LA lc k wr (by omega) HL.o hps.pd HI.o (by have:=HIN.o; omega) HNE.o (HNU.o.mono (T:=fun b=>b≠bm) (fun b _ e f=>e (.inl f)) |>.keep ((HB1.o.kept fun b _ e=>e).trans (hbut.kept fun b _ e=>e))));have hLL:=HEL.o;rw [← hLL] at HCALL;obtain ⟨dk,edk⟩:∃ dk,dk=dW (spl l) (dep (spl l) (inpS l)) k L:=⟨_,rfl⟩;rw [← edk] at HCALL;have HEDK:=Hd edk;clear hbut hps hLL edk
   go_wp2_with fail
   refine HCALL.o.mono ?_;rintro e3 w3 ⟨rfl,hb3,hm3⟩;have HB3:=Hd (HB.o.trans hb3);have HPS3:=Hd (HPS.o.but hb3 hm3);clear hb3 hm3;by_cases hlt:k<im
   ·have j1:((dk:Int) != (dp:Int))=true:=by
     have h1:=HID2.o k hlt;rw [← HDP.o,← HEDK.o] at h1;rw [bne_iff_ne];omega
    go_wp2;go_roundw
    case rel=>exact ⟨k+1,by omega,by go_num,HB3.o,HPS3.o⟩
    case measure=>simp [intOf]; omega
   ·obtain rfl:k=im:=by omega
    have j1:((dk:Int) != (dp:Int))=false:=by
     have h1:=HID1.o;rw [← HDP.o,← HEDK.o] at h1;rw [bne_eq_false_iff_eq];omega
    clear HB HPS HCALL;obtain ⟨AA,ac,PA,pc,hblk,hrow,hnn⟩:=HPS3.o.blk;obtain ⟨xs,ho,hv⟩:=HPS3.o.own;obtain ⟨nX,enX⟩:∃ nX,nX=X.length:=⟨_,rfl⟩;rw [← enX] at hblk ho;have hnX:nX≤1000:=(by have:=HXL.o; omega);have HNX:=Hd enX;have HBLK:=Hd hblk;have HROW:=Hd hrow;have HNN:=Hd hnn;have HO:=Hd ho;have HV:=Hd hv;have hlt3:=HPS3.o.lt;have q3:=hblk.cell (i:=3) rfl;clear hblk hrow hnn ho hv enX
    go_upto_region 9 with (at_builtin; first
     | (refine wpList_app rfl (.tmp 35) (.tmp 38) rfl tiAk rfl (HO.o.ext ((Ext.refl w3).alloc _)) rfl (Blk.rd (Blk.new _ _ _)) rfl (by simp [Value.oneCell']) (by omega) (by decide) (by simp; omega) ?_; intro A4 c4 w5 hown5 hg5 hat5; have HOWN5:=Hd hown5; have HG5:=Hd hg5; have HAT5:=Hd hat5; have HB5:=Hd ((HBLK.o.keep (Kept.alloc _ w3 (.cells #[.int .i64 (k:Int),.slice none 0 0,.slice none 0 0] 59))).keep (Kept.of_grown hg5 fun b e _ hb=>by have:=(HO.o.blk hb.symm).1; omega)); have qc:=HB5.o.cell (i:=3) rfl; have qf:=HB5.o.frozen 3; have ql:=HB5.o.lt; clear hown5 hg5 hat5))
    obtain ⟨w6,hw6⟩:∃ w6,w6=w5.setCell ⟨bP,3,none⟩ (.slice A4 (nX+1) c4):=⟨_,rfl⟩;rw [← hw6];have HW6:=Hd hw6;have hX1:(X++[((k:Int),([]:List Val),([]:List Int))]).length=nX+1:=(by rw [List.length_append,← HNX.o]; rfl);have HX1:=Hd hX1;have hkk:∀ S:Nat→Prop,(∀ b,b<w3.heap.size→S b→b≠bP∧ob A≠some b)→Kept S w3 w6:=by
     intro S hS;rw [hw6];refine (((Kept.alloc _ w3 _).trans (Kept.of_grown (HG5.o) fun b hb hl e => ?_))).mono (T:=fun b=>S b∧b<w3.heap.size) (fun b hb h=>h) |>.trans (Kept.set2 (Kept.refl _ _) fun e=>(hS bP e.2 e.1).1 rfl) |>.mono fun b hb h=>⟨h,hb⟩;exact (hS b hb.2 hb.1).2 e.symm
    have HKK:=Hd hkk;have HAT:=Hd (show ∀ b,ob A4=some b→ob A=some b∨w3.heap.size≤b by
     intro b hb
     rcases HAT5.o with e | e
     ·exact .inl (by rw [← e]; exact hb)
     ·right; rw [hb] at e; injection e with e; simp at e; omega)
    have hw3:w.heap.size≤w3.heap.size:=Nat.le_trans HB1.o.size HB3.o.size;have HW3:=Hd hw3;have HB6:=Hd (show ButS (AskS bP bm A) w w6 by
     refine (((HB1.o.trans HB3.o).mono (T:=AskS bP bm A) fun b _ e=>.inl e).alloc (.cells #[.int .i64 (k:Int),.slice none 0 0,.slice none 0 0] 59)).grown HG5.o (fun b hb=>.inl (.inr (.inr hb))) |>.set (i:=3) (u:=.slice A4 (nX+1) c4) (.inl (.inr (.inl rfl))) |>.trans2 (S:=AskS bP bm A) (T:=AskS bP bm A) ?_ fun b _ e=>e;rw [hw6];exact ButS.refl _ _)
    have HPS6:=Hd (show PS w6 bP bm l base (fun b=>Xs b∨w.heap.size≤b) d A4 c4 (X++[((k:Int),[],[])]) by
     have hlt:=HPS3.o.lt;have hne:∀ b,b<base→ob A≠some b:=fun b hb e=>by have:=(HO.o.blk e).1; omega
     obtain ⟨M,hM,hC⟩:=HPS3.o.map;refine HPS3.o.new (hkk _ fun b _ h=>⟨h.2.2,hne b h.1⟩) (fun AA ac PA pc h1 => ?_) ?_ ?_ ⟨M,hM.keep (hkk _ fun b _ e=>⟨by rw [e]; exact HPS3.o.ne.symm,hne b (by rw [e]; exact hlt.2.1)⟩),hC⟩ ?_
     ·have h2:=((h1.keep (Kept.alloc _ w3 (.cells #[.int .i64 (k:Int),.slice none 0 0,.slice none 0 0] 59))).keep (Kept.of_grown HG5.o fun b e _ hb=>hne b (by rw [e]; exact hlt.1) hb.symm)).set 3 (.slice A4 (nX+1) c4);rw [hw6,hX1]
      simpa using h2
     ·have h1:OwnAU w5 base Xs d A4 c4 (X++[((k:Int),[],[])]):=by
       refine OwnAU.app (w:=w3.alloc (.cells #[.int .i64 (k:Int),.slice none 0 0,.slice none 0 0] 59)) (HV.o.imp fun _ _ hh=>hh.keep (Kept.alloc _ _ _)) (AL.one (cs:=[.int .i64 (k:Int),.slice none 0 0,.slice none 0 0]) rfl ?_) ?_ HG5.o (by simpa using HAT5.o)
       ·exact ⟨⟨none,0,none,0,rfl,⟨by simp,by simp⟩,⟨by simp,[],.inl rfl,rfl,by simp⟩,Ints.nil⟩,.inl rfl⟩
       ·rw [← HNX.o]; exact HOWN5.o
      refine OwnAU.mono (OwnAU.keep h1 (w':=w6) ?_) fun b _ h=>.inl h;rw [hw6];refine Kept.set2 (Kept.refl _ _) ?_;rintro (e | e)
      ·have:=(h1.blk e).1; have:=hlt.1; omega
      ·have:=HP.o.xs _ e; have:=hlt.1; omega
     ·rintro b (h | h)
      ·exact HP.o.xs b h
      ·exact Nat.le_trans HP.o.lt.2.2 h
     ·rw [hw6];have:=HG5.o.size;simp [World.setCell] at this ⊢;omega)
    clear hkk hw6 hX1 q3 qc qf ql hlt3 HB5;obtain ⟨AA2,ac2,PA2,pc2,hblk6,hrow6,hnn6⟩:=HPS6.o.blk;have q61:=hblk6.cell (i:=1) rfl;obtain ⟨b,o,B,e,rfl,hb,hc,hcap,hnum⟩:=hnn6.1.at_ (k:=k) (by simp; exact HIN.o);simp only [List.getElem_map,List.getElem_range,placesS_len] at hc hnum hcap;have hkN:=HIN.o;rw [← HEN.o] at q61 hkN;obtain ⟨a0,rfl⟩:∃ a,LA=some a:=by
     rcases HNU.o.1.some_ (by intro e; apply HNE.o; simpa [nums] using e) with ⟨b,o,e,_⟩
     exact ⟨_,e⟩
    have HSP:=Hd (question_split a0 lc L B e (placesS l k) w6 (fun _=>True) ((HNU.o.keep (HB6.o.kept fun b _ h=>h)).mono fun _ _ _=>trivial) (hnum.mono fun _ _ _=>trivial) HNE.o HLEN.o (fun x hx=>by rw [placesS_len]; exact HI.o.2 x hx) (fun x hx=>by have:=placesS_le l k x hx; have:=HL.o; omega));obtain ⟨np,enp⟩:∃ np,np=l.length:=⟨_,rfl⟩;rw [placesS_len,← HEL.o,← enp] at HSP;rw [← enp] at hc;have j2:(0:Int)≤(k:Int):=(by omega);have j3:(k:Int)<(N:Int):=(by omega);have HENP:=Hd enp;clear hblk6 hrow6 hnn6 hb hcap hnum enp
    go_wp2_with fail
    refine HSP.o.mono ?_;rintro e4 wq ⟨AG,cG,rfl,hoG,hxG⟩;have hgl:=spl_len l k L;have HGS:=Hd ((show OwnNN wq w6.heap.size AG cG (spl l k L) from hoG).spl (by have:=HLEN.o; omega));have HXG:=Hd hxG;have HPQ:=Hd (HPS6.o.ext hxG);have HBQ:=Hd (HB6.o.trans2 (T:=AskS bP bm A) (ButS.of_ext hxG) fun b _ e=>e);obtain ⟨gs,egs⟩:∃ gs,gs=spl l k L:=⟨_,rfl⟩;have HGE:=Hd egs;obtain ⟨ng,eng⟩:∃ ng,ng=gs.length:=⟨_,rfl⟩;have HENG:=Hd eng;have hszq:=hxG.size;have hsz6:=HB6.o.size;have hA4:∀ b,ob A4=some b→b<w6.heap.size:=fun b hb=>(HPS6.o.own.blk hb).2;have HST:=Hd (show AskR w wq bP bm l base Xs d A X gs k 0 none 0 none 0 A4 c4 AG wq from
     {base_:=HP.o.lt.2.2,low:=by omega,buts:=HBQ.o,size:=Nat.le_refl _,at_:=fun b hb=>by
       rcases HAT.o b hb with h | h
       ·exact .inl h
       ·right; have:=HW3.o; omega
      ps:=by
       rw [List.take_zero];exact HPQ.o.wide (fun b _ h=>⟨h,by simp [ob],by simp [ob]⟩) fun b h=>HPQ.o.xs b h.1
      vs:=by rw [List.take_zero]; exact OwnVs.nil _ _ _ _
      nx:=by rw [List.take_zero]; exact OwnIs.nil _ _
      ne8:=fun b hb=>by simp [ob] at hb
      ne9:=fun b hb=>by simp [ob] at hb
      nn:=by
       rw [HGE.o];exact HGS.o.mono fun b hb h=>⟨by omega,hb,fun e=>by have:=hA4 b e; omega⟩ })
    rw [show splitS L (placesS l k)=gs from egs.symm,← eng];rw [← egs,← eng] at hgl;have hng:ng<20:=(by have:=HLEN.o; omega);clear hoG hxG egs eng hA4 HSP hc q61;go_wp2
    go_loopw [8,9,54] (fun v8 v9 i wr=>∃ (j:Nat) (A8:Option Addr) (c8:Nat) (A9:Option Addr) (c9:Nat) (A':Option Addr) (c':Nat),j≤ng∧v8=.slice A8 j c8∧v9=.slice A9 j c9∧i=.int .i64 (j:Int)∧AskR w wq bP bm l base Xs d A X gs k j A8 c8 A9 c9 A' c' AG wr) (fun _ _ i _=>ng-(intOf i).toNat)
    case atStart=>exact ⟨0,none,0,none,0,A4,c4,Nat.zero_le _,rfl,rfl,rfl,HST.o⟩
    case round =>
     clear HST HX1 HKK HAT HAT5 HG5 HOWN5;obtain ⟨j,A8,c8,A9,c9,A',c',hj,rfl,rfl,rfl,hR⟩:=hrel;have HR8:=Hd hR;by_cases hlt:j<ng
     ·have hjs:j<gs.length:=(by rw [← HENG.o]; exact hlt);obtain ⟨bG,oG,B2,e2,rfl,_,hc2,-,hn2⟩:=hR.nn.at_ hjs;obtain ⟨g,eg⟩:∃ g,g=gs[j]:=⟨_,rfl⟩;have hgm:g∈spl l k L:=(by rw [eg,← HGE.o]; exact List.getElem_mem hjs);rw [← eg] at hc2 hn2;have hsub:=(spl_is l k L).sub g hgm;obtain ⟨b2,o2,rfl,_,hg0⟩:=hn2.at_ (k:=0) (List.length_pos_iff.2 hsub.1);have hb2:=hn2.blkS hsub.1;obtain ⟨x,ex⟩:∃ x,x=g[0]'(List.length_pos_iff.2 hsub.1):=⟨_,rfl⟩;have hxh:g.headD 0=x:=by
       rw [ex]
       match g,hsub.1 with
       | y :: _,_=>rfl
      rw [← ex,Nat.add_zero] at hg0;have hxl:x<l.length:=(by rw [ex]; exact HI.o.2 _ (hsub.2.subset (List.getElem_mem _)));obtain ⟨AA3,ac3,PA3,pc3,hblk3,hrow3,-⟩:=hR.ps.blk;obtain ⟨a,ao,C3,e3,rfl,_,hc3,-,hr3⟩:=hrow3.at_ hxl;have ha3:=hrow3.blkS (List.ne_nil_of_length_pos (by omega));have hkr:k<l[x].length:=(by rw [HW.o _ (List.getElem_mem hxl),← HEN.o]; exact hkN);obtain ⟨rb,ro,A1,c1,B1,e1,rfl,z1,⟨x0,x1,x2,x3,x4,x5,x6⟩,hq,hrv⟩:=hr3.at_ hkr;have hrb:=hr3.blkS (List.ne_nil_of_length_pos (by omega));obtain ⟨nr,enr⟩:∃ nr,nr=l[x].length:=⟨_,rfl⟩;obtain ⟨vx,evx⟩:∃ v,v=l[x][k]:=⟨_,rfl⟩;have hans:ans l k (g.headD 0)=vx:=(by rw [hxh,ans_of hxl hkr,evx]);have HANS:=Hd hans;have q0:=hblk3.cell (i:=0) rfl;rw [← evx] at x0 x1 x2 x3 x4 x5 x6 hrv;rw [← enr] at hc3 hkr;rw [← HENP.o] at q0 hxl;have hltb:=hR.ps.lt;have hwq:base≤wq.heap.size:=(by have:=HPQ.o.lt.2.2; omega);have LP:=Hd (show bP<wq.heap.size by omega);have L2:=Hd hb2.2.1;have L3:=Hd (show a<wq.heap.size by have:=ha3.1; omega);have L4:=Hd (show rb<wq.heap.size by have:=hrb.1; omega);have HRX:=Hd (hrv.mono (T:=fun b=>b<wq.heap.size) fun b _ hb=>by have:=hb.1; omega);have HQ:=Hd hq;have C0:=Hd q0;have G0:=Hd hg0;have P0:=Hd hc3;have X0:=Hd x0;have X1:=Hd x1;have X2:=Hd x2;have X3:=Hd x3;have X4:=Hd x4;have X5:=Hd x5;have X6:=Hd x6;have HSZ:=Hd hR.size;have HOL:=Hd (show ∀ b,ob A8=some b→wq.heap.size≤b∧b<wr.heap.size from fun b hb=>hR.vs.blk hb);have HAL:=Hd (show ∀ b,ob A'=some b→b<wr.heap.size from fun b hb=>(hR.ps.own.blk hb).2);have HA9L:=Hd (show ∀ b,ob A9=some b→wq.heap.size≤b∧b<wr.heap.size from fun b hb=>Own.blk hR.nx hb);obtain ⟨vs,evs⟩:∃ vs,vs=(gs.take j).map fun g=>ans l k (g.headD 0):=⟨_,rfl⟩;have HEVS:=Hd evs;have hvl:vs.length=j:=(by rw [evs,List.length_map,List.length_take]; omega);have HVL:=Hd hvl;have HOV:=Hd (show OwnVs wr wq.heap.size (fun b=>wq.heap.size≤b∧ob A'≠some b∧ob A9≠some b) d A8 c8 vs by rw [evs]; exact hR.vs);have HG:=Hd eg;have HN2:=Hd hn2;have HSUB:=Hd hsub;have HGM:=Hd hgm;obtain ⟨gn,egn⟩:∃ gn,gn=g.length:=⟨_,rfl⟩;have HGN:=Hd egn;rw [← egn] at hc2;have hgn0:0<gn:=(by rw [egn]; exact List.length_pos_iff.2 hsub.1);have i0:(0:Int)≤(j:Int):=(by omega);have i1:(j:Int)<(ng:Int):=(by omega);have i2:(0:Int)≤(x:Int):=(by omega);have i3:(x:Int)<(np:Int):=(by omega);have i4:(k:Int)<(nr:Int):=(by omega);have i5:(0:Int)<(gn:Int):=(by omega);clear hR hn2 eg hgm hsub hb2 ex hxh hg0 hblk3 hrow3 hc3 ha3 hr3 z1 x0 x1 x2 x3 x4 x5 x6 hq hrv hrb enr evx hans q0 evs hvl egn hltb hwq
      go_upto_region 15 with fail
      refine wp_region_chain (by kernel_rfl) (fun i=>[i]) (by kernel_rfl) (LZ (fun m b=>m=1015∧ob A8=some b)) (LZ.refl _) (LZ.trans _) (LK [(15,[1015])]) gz0 (LK.zero _) ?_;apply Chain.pure (LZ.refl _) (by rfl)
      ·intro vals γ w' ρ hR hN hp hρ hc hf hg;refine ⟨rfl,?_⟩;have e8:=hρ 8;(conv at e8=>rhs; whnf);clear hR hN hp hρ;go_light;go_simp;exact ⟨rfl,rfl⟩
      ·rfl
      apply Chain.pure (LZ.refl _) (by rfl)
      ·intro vals γ w' ρ hR hN hp hρ hc hf hg;refine ⟨rfl,?_⟩;have e0:=hρ 0;(conv at e0=>rhs; whnf);clear hR hN hp hρ;go_light;go_simp;exact ⟨rfl,rfl⟩
      ·rfl
      apply Chain.pure (LZ.refl _) (by rfl)
      ·intro vals γ w' ρ hR hN hp hρ hc hf hg;refine ⟨rfl,?_⟩;have e59:ρ (.tmp 59)=_:=(hρ 59).trans (hp 1 (by decide));clear hR hN hp hρ;go_light;go_simp;exact ⟨rfl,rfl⟩
      ·rfl
      apply Chain.pure (LZ.refl _) (by rfl)
      ·intro vals γ w' ρ hR hN hp hρ hc hf hg;refine ⟨rfl,?_⟩;have e60:ρ (.tmp 60)=_:=(hρ 60).trans (hp 2 (by decide));clear hR hN hp hρ;go_light;go_simp;exact ⟨rfl,rfl⟩
      ·rfl
      apply Chain.pure (LZ.refl _) (by rfl)
      ·intro vals γ w' ρ hR hN hp hρ hc hf hg;refine ⟨rfl,?_⟩;have e61:ρ (.tmp 61)=_:=(hρ 61).trans (hp 3 (by decide));have hkk:=hR.kept0 (S:=fun b=>b<wq.heap.size) (fun b _ hb m hm=>by have:=(HOL.o b hm.2).1; omega);have k0:=hkk.cell2 C0.o LP.o;have k1:=hkk.cell2 G0.o L2.o;have k2:=hkk.cell2 P0.o L3.o;have y0:=hkk.cell2 X0.o L4.o;have y1:=hkk.cell2 X1.o L4.o;have y2:=hkk.cell2 X2.o L4.o;have y3:=hkk.cell2 X3.o L4.o;have y4:=hkk.cell2 X4.o L4.o;have y5:=hkk.cell2 X5.o L4.o;have y6:=hkk.cell2 X6.o L4.o;clear hkk hR hN hp hρ;go_light;go_simp;exact ⟨rfl,rfl⟩
      ·rfl
      apply Chain.pure (LZ.refl _) (by rfl)
      ·intro vals γ w' ρ hR hN hp hρ hc hf hg;refine ⟨rfl,?_⟩;have e12:=hρ 12;(conv at e12=>rhs; whnf);clear hR hN hp hρ;go_light;go_simp;exact ⟨rfl,rfl⟩
      ·rfl
      apply Chain.pure (LZ.refl _) (by rfl)
      ·intro vals γ w' ρ hR hN hp hρ hc hf hg;refine ⟨rfl,?_⟩;have e63:ρ (.tmp 63)=_:=(hρ 63).trans (hp 5 (by decide));clear hR hN hp hρ;go_light;go_simp;exact ⟨rfl,rfl⟩
      ·rfl
      apply Chain.pure (LZ.refl _) (by rfl)
      ·intro vals γ w' ρ hR hN hp hρ hc hf hg;refine ⟨rfl,?_⟩;have e64:ρ (.tmp 64)=_:=(hρ 64).trans (hp 6 (by decide));have hkk:=hR.kept0 (S:=fun b=>b<wq.heap.size) (fun b _ hb m hm=>by have:=(HOL.o b hm.2).1; omega);have k0:=hkk.cell2 C0.o LP.o;have k1:=hkk.cell2 G0.o L2.o;have k2:=hkk.cell2 P0.o L3.o;have y0:=hkk.cell2 X0.o L4.o;have y1:=hkk.cell2 X1.o L4.o;have y2:=hkk.cell2 X2.o L4.o;have y3:=hkk.cell2 X3.o L4.o;have y4:=hkk.cell2 X4.o L4.o;have y5:=hkk.cell2 X5.o L4.o;have y6:=hkk.cell2 X6.o L4.o;clear hkk hR hN hp hρ;go_light;go_simp;exact ⟨rfl,rfl⟩
      ·rfl
      apply Chain.pure (LZ.refl _) (by rfl)
      ·intro vals γ w' ρ hR hN hp hρ hc hf hg;refine ⟨rfl,?_⟩;have e62:ρ (.tmp 62)=_:=(hρ 62).trans (hp 4 (by decide));have e65:ρ (.tmp 65)=_:=(hρ 65).trans (hp 7 (by decide));clear hR hN hp hρ;go_light;go_simp;exact ⟨rfl,rfl⟩
      ·rfl
      apply Chain.pure (LZ.refl _) (by rfl)
      ·intro vals γ w' ρ hR hN hp hρ hc hf hg;refine ⟨rfl,?_⟩;have e66:ρ (.tmp 66)=_:=(hρ 66).trans (hp 8 (by decide));have hkk:=hR.kept0 (S:=fun b=>b<wq.heap.size) (fun b _ hb m hm=>by have:=(HOL.o b hm.2).1; omega);have k0:=hkk.cell2 C0.o LP.o;have k1:=hkk.cell2 G0.o L2.o;have k2:=hkk.cell2 P0.o L3.o;have y0:=hkk.cell2 X0.o L4.o;have y1:=hkk.cell2 X1.o L4.o;have y2:=hkk.cell2 X2.o L4.o;have y3:=hkk.cell2 X3.o L4.o;have y4:=hkk.cell2 X4.o L4.o;have y5:=hkk.cell2 X5.o L4.o;have y6:=hkk.cell2 X6.o L4.o;clear hkk hR hN hp hρ;go_light;go_simp;exact ⟨rfl,rfl⟩
      ·rfl
      apply Chain.pure (LZ.refl _) (by rfl)
      ·intro vals γ w' ρ hR hN hp hρ hc hf hg;refine ⟨rfl,?_⟩;have e6:=hρ 6;(conv at e6=>rhs; whnf);clear hR hN hp hρ;go_light;go_simp;exact ⟨rfl,rfl⟩
      ·rfl
      apply Chain.pure (LZ.refl _) (by rfl)
      ·intro vals γ w' ρ hR hN hp hρ hc hf hg;refine ⟨rfl,?_⟩;have e67:ρ (.tmp 67)=_:=(hρ 67).trans (hp 9 (by decide));have e68:ρ (.tmp 68)=_:=(hρ 68).trans (hp 10 (by decide));clear hR hN hp hρ;go_light;go_simp;exact ⟨rfl,rfl⟩
      ·rfl
      apply Chain.pure (LZ.refl _) (by rfl)
      ·intro vals γ w' ρ hR hN hp hρ hc hf hg;refine ⟨rfl,?_⟩;have e69:ρ (.tmp 69)=_:=(hρ 69).trans (hp 11 (by decide));have hkk:=hR.kept0 (S:=fun b=>b<wq.heap.size) (fun b _ hb m hm=>by have:=(HOL.o b hm.2).1; omega);have k0:=hkk.cell2 C0.o LP.o;have k1:=hkk.cell2 G0.o L2.o;have k2:=hkk.cell2 P0.o L3.o;have y0:=hkk.cell2 X0.o L4.o;have y1:=hkk.cell2 X1.o L4.o;have y2:=hkk.cell2 X2.o L4.o;have y3:=hkk.cell2 X3.o L4.o;have y4:=hkk.cell2 X4.o L4.o;have y5:=hkk.cell2 X5.o L4.o;have y6:=hkk.cell2 X6.o L4.o;clear hkk hR hN hp hρ;go_light;go_simp;exact ⟨rfl,rfl⟩
      ·rfl
      refine Chain.step (FP fun v γ w'=>∃ (Ac:Option Addr) (cc:Nat) (Bc:Option Addr) (ec:Nat),v=(.agg #[.int .i64 vx.kind,.string vx.s,.int .i64 vx.dn,.int .i64 vx.ds,.int .i64 vx.n,.slice Ac vx.cols.length cc,.slice Bc vx.rows.length ec])∧(vx.cols.length≤cc∧vx.rows.length≤ec)∧RV w' (fun b=>wr.heap.size≤b) (d-1) vx Ac Bc) (by rfl) (FP.stab ?_) ?_ ?_
      ·rintro v γ w1 γ' w2 rr ⟨Ac,cc,Bc,ec,h1,h2,h3⟩;exact ⟨Ac,cc,Bc,ec,h1,h2,h3.keep (rr.keptS fun b _ (e:wr.heap.size≤b) m hm=>by have:=(HOL.o b hm.2).2; omega)⟩
      ·intro vals γ w' ρ hR hN hp hρ hc hf hg;refine ⟨rfl,?_⟩;have e70:ρ (.tmp 70)=_:=(hρ 70).trans (hp 12 (by decide));have HR:=Hd hR;have hkk:=hR.kept0 (S:=fun b=>b<wq.heap.size) (fun b _ hb m hm=>by have:=(HOL.o b hm.2).1; omega);have HVX:=Hd (HRX.o.keep hkk);clear hkk hR hN hp hρ;go_light;go_simp;refine (value_Copy (d-1) vx A1 B1 c1 e1 w' (fun b=>b<wq.heap.size) HVX.o).mono ?_;rintro e1 w3 ⟨Ac,cc,Bc,ec,he,hcap,hrv,hx⟩;exact ⟨_,he,γ,LZ.of_ext _ γ hx,fun _ _ _ h=>h,Ac,cc,Bc,ec,rfl,hcap,hrv.mono (fun b _ hb=>Nat.le_trans HR.o.size hb)⟩
      refine Chain.step (FP fun v γ w'=>∃ (g9:Nat) (Ac:Option Addr) (cc:Nat) (Bc:Option Addr) (ec:Nat),v=.slice (some ⟨g9,0,none⟩) 1 1∧Blk w' g9 47 (vcells vx Ac cc Bc ec).toArray∧wr.heap.size≤g9∧(vx.cols.length≤cc∧vx.rows.length≤ec)∧RV w' (fun b=>wr.heap.size≤b) (d-1) vx Ac Bc) (by rfl) (FP.stab ?_) ?_ ?_
      ·rintro v γ w1 γ' w2 rr ⟨g9,Ac,cc,Bc,ec,h1,h2,h3,h4,h5⟩;exact ⟨g9,Ac,cc,Bc,ec,h1,h2.keep ((rr.keptS (S:=fun b=>wr.heap.size≤b) fun b _ (e:wr.heap.size≤b) m hm=>by have:=(HOL.o b hm.2).2; omega).mono fun b _ e=>by rw [e]; exact h3),h3,h4,h5.keep (rr.keptS fun b _ (e:wr.heap.size≤b) m hm=>by have:=(HOL.o b hm.2).2; omega)⟩
      ·intro vals γ w' ρ hR hN hp hρ hc hf hg;refine ⟨rfl,?_⟩;obtain ⟨Ac,cc,Bc,ec,hv,hcv,hrv⟩:=hp 13 (by decide);have e71:=(hρ 71).trans hv;have HR:=Hd hR;have HCV:=Hd hcv;have HRV:=Hd hrv;clear hR hN hp hρ hv hcv hrv;go_light;go_simp;exact ⟨γ,LZ.of_ext _ γ ((Ext.refl _).alloc _),fun _ _ _ h=>h,_,rfl,Ac,cc,Bc,ec,Blk.new _ _ _,HR.o.size,HCV.o,HRV.o.keep (Kept.alloc _ _ _)⟩
      refine Chain.step (FP fun v γ w'=>∃ (A4:Option Addr) (c4:Nat),v=.slice A4 (j+1) c4∧OwnVs w' wq.heap.size (fun b=>wq.heap.size≤b∧ob A'≠some b∧ob A9≠some b) d A4 c4 (vs++[vx])∧γ 1015=true∧∀ b,ob A4=some b→ob A8=some b∨wr.heap.size≤b) (by rfl) (FP.stab ?_) ?_ ?_
      ·rintro v γ w1 γ' w2 rr ⟨A4,c4,h1,h2,h3,h4⟩;exact ⟨A4,c4,h1,h2.keep (rr.keptS fun b _ _ m hm=>by rw [hm.1,h3,rr.done _ h3]),rr.done _ h3,h4⟩
      ·intro vals γ w' ρ hR hN hp hρ hc hf hg;refine ⟨rfl,?_⟩;have e58:ρ (.tmp 58)=_:=(hρ 58).trans (hp 0 (by decide));obtain ⟨g9,Ac,cc,Bc,ec,hv,hb,hg9,hcv,hrv⟩:=hp 14 (by decide);have e72:=(hρ 72).trans hv;have hk0:=hN.key (k:=1015) (by decide);have ho:=HOV.o.keep (hR.kept0 (S:=fun b=>ob A8=some b∨_) fun b _ _ m hm=>by rw [hm.1]; exact hk0);obtain ⟨xs,ho1,hv1⟩:=ho;rw [HVL.o] at ho1;have hsz:=hR.size;have e0:wr.drew.heap.size=wr.heap.size:=rfl;have hs2:=HSZ.o;have hq:=HQ.o;refine lin_appC (.tmp 58) (.tmp 72) rfl tiV e58 ho1 e72 (Blk.rd hb) rfl vcells_one (by omega) (by decide) (by omega) ?_;intro A4 c4 w4 hown4 hg4 hat4;refine ⟨γ.put 1015,LZ.write hk0 hg4.os hg4.tape hg4.output hg4.size (fun b hb hm=>hg4.block b hb fun e=>hm ⟨rfl,e.symm⟩),LK.done (by decide),A4,c4,rfl,OwnVs.push hv1 (by rw [HVL.o]; exact hown4) hg4 hat4 ⟨hq.1,hcv.1,hcv.2⟩ (hrv.mono fun b _ hb => ?_),by simp [Gz.put],fun b hb => ?_⟩
       ·refine ⟨fun e => ?_,?_,fun e => ?_,fun e => ?_⟩
        ·have:=(HOL.o b e).2; omega
        ·omega
        ·have:=HAL.o b e; omega
        ·have:=(HA9L.o b e).2; omega
       ·rcases hat4 with e | e
        ·exact .inl (by rw [← e]; exact hb)
        ·right; rw [hb] at e; injection e with e; omega
      refine Chain.step (FP fun v γ w'=>∃ (A4:Option Addr) (c4:Nat),v=.slice A4 (j+1) c4∧OwnVs w' wq.heap.size (fun b=>wq.heap.size≤b∧ob A'≠some b∧ob A9≠some b) d A4 c4 (vs++[vx])∧γ 1015=true∧∀ b,ob A4=some b→ob A8=some b∨wr.heap.size≤b) (by rfl) (FP.stab ?_) ?_ ?_
      ·rintro v γ w1 γ' w2 rr ⟨A4,c4,h1,h2,h3,h4⟩;exact ⟨A4,c4,h1,h2.keep (rr.keptS fun b _ _ m hm=>by rw [hm.1,h3,rr.done _ h3]),rr.done _ h3,h4⟩
      ·intro vals γ w' ρ hR hN hp hρ hc hf hg;refine ⟨rfl,?_⟩;have hg:=hp 15 (by decide);have e73:=hρ 73;(conv at e73=>rhs; whnf);have HG:=Hd hg;clear hR hN hp hρ hg;go_light;go_simp;exact ⟨γ,LZ.refl _ _ _,fun _ _ _ h=>h,HG.o⟩
      intro vals γ w9 hR hG;have v0:vals 0=_:=hG 0 (by decide);have v1:vals 1=_:=hG 1 (by decide);have v2:vals 2=_:=hG 2 (by decide);have v3:vals 3=_:=hG 3 (by decide);have v4:vals 4=_:=hG 4 (by decide);have v5:vals 5=_:=hG 5 (by decide);have v6:vals 6=_:=hG 6 (by decide);have v7:vals 7=_:=hG 7 (by decide);have v8:vals 8=_:=hG 8 (by decide);have v9:vals 9=_:=hG 9 (by decide);have v10:vals 10=_:=hG 10 (by decide);have v11:vals 11=_:=hG 11 (by decide);have v12:vals 12=_:=hG 12 (by decide);obtain ⟨A13,c13,B13,e13,v13,-⟩:=hG 13 (by decide);obtain ⟨g14,A14,c14,B14,e14,v14,-⟩:=hG 14 (by decide);obtain ⟨A15,c15,v15,-⟩:=hG 15 (by decide);obtain ⟨A4,c4,v16,hov4,-,hat4⟩:=hG 16 (by decide);simp only [lexFrame,Act.put,List.setIfInBounds_toArray,List.set_cons_succ,List.set_cons_zero,Nat.zero_add,Nat.reduceAdd,v0,v1,v2,v3,v4,v5,v6,v7,v8,v9,v10,v11,v12,v13,v14,v15,v16];clear v0 v1 v2 v3 v4 v5 v6 v7 v8 v9 v10 v11 v12 v13 v14 v15 v16;have HB9:=Hd (hR.buts (S:=fun b=>ob A8=some b) (fun m b _ hm _=>hm.2));have HOV4:=Hd hov4;have HAT4:=Hd hat4;clear hR hG hov4 hat4;have h2p:=two_parts (spl_small l) HDZ.o;rw [← HIM.o] at h2p;have hbnd:=part_bound2 l (inpS l) (ans l) L k j (X.length+1) HGE.o h2p (by rw [← HENG.o]; exact hlt) HG.o;have hgsm:=(spl_is l k L).small h2p g HGM.o;have HCALL:=Hd (ih (by have:=HF.o; omega) l bP bm base _ d g (some ⟨b2,o2,none⟩) e2 A' c' _ w9 (by have:=HF.o; omega) HL.o HW.o (HR8.o.mid HB9.o HAT4.o) (HI.o.sub HSUB.o.2) (fun e=>absurd e HSUB.o.1) (HR8.o.num HB9.o HN2.o) (by have:=HXL.o; simp; omega));rw [← HGN.o] at HCALL;clear h2p hbnd hgsm
      go_wp2_with fail
      refine HCALL.o.mono ?_;rintro e10 w10 ⟨A2,c2,rfl,hb10,hp10,ha2⟩;have HB10:=Hd hb10;have HP10:=Hd hp10;have HA2:=Hd ha2;have hnxl:(planG (plan (spl l) (inpS l) (ans l)) (gs.take j) (X.length+1)).2.length=j:=(by rw [planG_len,List.length_take]; omega);have hnx:=HR8.o.nx;unfold OwnIs at hnx;rw [hnxl] at hnx;have HNX9:=Hd (Own.keep (Own.keep hnx (HB9.o.kept fun b _ e f=>(HR8.o.ne8 b f).2 e)) (HB10.o.kept fun b _ e f=>by
       have h1:=HA9L.o b e;have h2:=HR8.o.base_;have h3:=HR8.o.low;have h4:=HR8.o.ps.lt
       rcases f with f | f | f
       ·omega
       ·omega
       ·exact HR8.o.ne9 b e f))
      have HNXL:=Hd hnxl;have hs10:wr.heap.size≤w10.heap.size:=Nat.le_trans HB9.o.size HB10.o.size;have hsz:=HSZ.o;obtain ⟨rv,erv⟩:∃ rv:Int,rv=if dep (spl l) (inpS l) g=0 then -1 else ((X++((k:Int),([]:List Val),([]:List Int)) :: (planG (plan (spl l) (inpS l) (ans l)) (gs.take j) (X.length+1)).1).length:Int):=⟨_,rfl⟩;rw [← erv];have HRV:=Hd erv;clear hb10 hp10 ha2 hnxl hnx HCALL erv
      go_wp2_with (at_builtin; go_must (refine wpList_app rfl (.tmp 74) (.tmp 78) rfl tiI rfl (HNX9.o.ext ((Ext.refl w10).alloc _)) rfl (Blk.rd (Blk.new _ _ _)) rfl (by simp [Value.oneCell']) (by omega) (by decide) (by simp; omega) ?_); intro A93 c93 w12 hown12 hg12 hat12)
      go_roundw
      case rel =>
       refine ⟨j+1,A4,c4,A93,c93,A2,c2,by omega,rfl,rfl,by go_num,HR8.o.next (by rw [← HENG.o]; omega) HG.o HANS.o HB9.o HAT4.o ?_ HB10.o HP10.o HA2.o ?_ hg12 hat12⟩
       ·rw [← HEVS.o]; exact HOV4.o
       ·unfold OwnIs;rw [← HRV.o,List.length_append,HNXL.o,List.map_append];exact hown12
      case measure=>simp [intOf]; omega
     ·obtain rfl:ng=j:=by omega
      obtain ⟨gA,xs,u1,u2,rfl,hoY,hvY,hu0,hu1,hu2⟩:=hR.first
      have htk:gs.take ng=gs:=List.take_of_length_le (by rw [← HENG.o]; exact Nat.le_refl _);rw [htk] at hoY hvY;obtain ⟨AA3,ac3,PA3,pc3,hblk3,-,-⟩:=hR.ps.blk;have q3:=hblk3.cell (i:=3) rfl;have e1:(X++((k:Int),([]:List Val),([]:List Int)) :: (planG (plan (spl l) (inpS l) (ans l)) (gs.take ng) (X.length+1)).1).length=X.length+1+(planG (plan (spl l) (inpS l) (ans l)) gs (X.length+1)).1.length:=(by rw [htk]; simp; omega);rw [e1] at q3;obtain ⟨nY,enY⟩:∃ nY,nY=X.length+1+(planG (plan (spl l) (inpS l) (ans l)) gs (X.length+1)).1.length:=⟨_,rfl⟩;rw [← enY] at q3 hoY;rw [← HNX.o] at hu0 hu1 hu2;have HENY:=Hd enY;have HNY:=Hd (show (nX:Int)<(nY:Int) by have:=HNX.o; omega);have C3:=Hd q3;have HOY:=Hd hoY;have HVY:=Hd hvY;have HU0:=Hd hu0;have HU1:=Hd hu1;have HU2:=Hd hu2;have HGA:=Hd (Own.blk hoY (k:=gA) rfl).1;have LPB:=Hd hR.ps.lt.1;have i0:(0:Int)≤(nX:Int):=(by omega);clear q3 hoY hvY hu0 hu1 hu2 hblk3 e1 enY htk hR
      go_upto_region 18 with fail
      refine wp_region_chain (by kernel_rfl) (fun i=>[i]) (by kernel_rfl) (LZ (fun m b=>(m=1014∨m=1017)∧b=gA)) (LZ.refl _) (LZ.trans _) (LK [(14,[1014,1017]),(17,[1017])]) gz0 (LK.zero _) ?_;apply Chain.pure (LZ.refl _) (by rfl)
      ·intro vals γ w' ρ hR hN hp hρ hc hf hg;refine ⟨rfl,?_⟩;have e0:=hρ 0;(conv at e0=>rhs; whnf);clear hR hN hp hρ;go_light;go_simp;exact ⟨rfl,rfl⟩
      ·rfl
      apply Chain.pure (LZ.refl _) (by rfl)
      ·intro vals γ w' ρ hR hN hp hρ hc hf hg;refine ⟨rfl,?_⟩;have e81:ρ (.tmp 81)=_:=(hρ 81).trans (hp 0 (by decide));clear hR hN hp hρ;go_light;go_simp;exact ⟨rfl,rfl⟩
      ·rfl
      apply Chain.pure (LZ.refl _) (by rfl)
      ·intro vals γ w' ρ hR hN hp hρ hc hf hg;refine ⟨rfl,?_⟩;have e82:ρ (.tmp 82)=_:=(hρ 82).trans (hp 1 (by decide));clear hR hN hp hρ;go_light;go_simp;exact ⟨rfl,rfl⟩
      ·rfl
      apply Chain.pure (LZ.refl _) (by rfl)
      ·intro vals γ w' ρ hR hN hp hρ hc hf hg;refine ⟨rfl,?_⟩;have e83:ρ (.tmp 83)=_:=(hρ 83).trans (hp 2 (by decide));have hkk:=hR.kept0 (S:=fun b=>b<base) (fun b _ hb m hm=>by have:=HGA.o; have:=hm.2; omega);have k0:=hkk.cell2 C3.o LPB.o;clear hkk hR hN hp hρ;go_light;go_simp;exact ⟨rfl,rfl⟩
      ·rfl
      apply Chain.pure (LZ.refl _) (by rfl)
      ·intro vals γ w' ρ hR hN hp hρ hc hf hg;refine ⟨rfl,?_⟩;have e7:=hρ 7;(conv at e7=>rhs; whnf);clear hR hN hp hρ;go_light;go_simp;exact ⟨rfl,rfl⟩
      ·rfl
      apply Chain.pure (LZ.refl _) (by rfl)
      ·intro vals γ w' ρ hR hN hp hρ hc hf hg;refine ⟨rfl,?_⟩;have e0:=hρ 0;(conv at e0=>rhs; whnf);clear hR hN hp hρ;go_light;go_simp;exact ⟨rfl,rfl⟩
      ·rfl
      apply Chain.pure (LZ.refl _) (by rfl)
      ·intro vals γ w' ρ hR hN hp hρ hc hf hg;refine ⟨rfl,?_⟩;have e86:ρ (.tmp 86)=_:=(hρ 86).trans (hp 5 (by decide));clear hR hN hp hρ;go_light;go_simp;exact ⟨rfl,rfl⟩
      ·rfl
      apply Chain.pure (LZ.refl _) (by rfl)
      ·intro vals γ w' ρ hR hN hp hρ hc hf hg;refine ⟨rfl,?_⟩;have e87:ρ (.tmp 87)=_:=(hρ 87).trans (hp 6 (by decide));clear hR hN hp hρ;go_light;go_simp;exact ⟨rfl,rfl⟩
      ·rfl
      apply Chain.pure (LZ.refl _) (by rfl)
      ·intro vals γ w' ρ hR hN hp hρ hc hf hg;refine ⟨rfl,?_⟩;have e88:ρ (.tmp 88)=_:=(hρ 88).trans (hp 7 (by decide));have hkk:=hR.kept0 (S:=fun b=>b<base) (fun b _ hb m hm=>by have:=HGA.o; have:=hm.2; omega);have k0:=hkk.cell2 C3.o LPB.o;clear hkk hR hN hp hρ;go_light;go_simp;exact ⟨rfl,rfl⟩
      ·rfl
      apply Chain.pure (LZ.refl _) (by rfl)
      ·intro vals γ w' ρ hR hN hp hρ hc hf hg;refine ⟨rfl,?_⟩;have e7:=hρ 7;(conv at e7=>rhs; whnf);clear hR hN hp hρ;go_light;go_simp;exact ⟨rfl,rfl⟩
      ·rfl
      apply Chain.pure (LZ.refl _) (by rfl)
      ·intro vals γ w' ρ hR hN hp hρ hc hf hg;refine ⟨rfl,?_⟩;have e8:=hρ 8;(conv at e8=>rhs; whnf);clear hR hN hp hρ;go_light;go_simp;exact ⟨rfl,rfl⟩
      ·rfl
      apply Chain.pure (LZ.refl _) (by rfl)
      ·intro vals γ w' ρ hR hN hp hρ hc hf hg;refine ⟨rfl,?_⟩;have e9:=hρ 9;(conv at e9=>rhs; whnf);clear hR hN hp hρ;go_light;go_simp;exact ⟨rfl,rfl⟩
      ·rfl
      apply Chain.pure (LZ.refl _) (by rfl)
      ·intro vals γ w' ρ hR hN hp hρ hc hf hg;refine ⟨rfl,?_⟩;have e84:ρ (.tmp 84)=_:=(hρ 84).trans (hp 3 (by decide));have e85:ρ (.tmp 85)=_:=(hρ 85).trans (hp 4 (by decide));have z1:=HNY.o;clear hR hN hp hρ;go_light;go_simp;exact ⟨rfl,rfl⟩
      ·rfl
      apply Chain.pure (LZ.refl _) (by rfl)
      ·intro vals γ w' ρ hR hN hp hρ hc hf hg;refine ⟨rfl,?_⟩;have e93:ρ (.tmp 93)=_:=(hρ 93).trans (hp 12 (by decide));clear hR hN hp hρ;go_light;go_simp;exact ⟨rfl,rfl⟩
      ·rfl
      refine Chain.step (fun _ γ w'=>γ 1014=true∧(γ 1017=false→Own w' base 59 3 (some ⟨gA,0,none⟩) nY c' (xs.set (nX*3+1) (.slice A8 ng c8)))) (by rfl) ?_ ?_ ?_
      ·rintro l γ w1 γ' w2 rr ⟨h1,h2⟩;refine ⟨rr.done _ h1,fun h4 => ?_⟩;have h5:γ 1017=false:=by
        cases h6:γ 1017 with
        | false=>rfl
        | true=>rw [rr.done _ h6] at h4; cases h4
       exact Own.keep (h2 h5) (rr.keptS fun b _ _ m hm=>by rcases hm.1 with rfl | rfl <;> first | rw [h1,rr.done _ h1] | rw [h4,h5])
      ·intro vals γ w' ρ hR hN hp hρ hc hf hg;refine ⟨rfl,?_⟩;have e91:ρ (.tmp 91)=_:=(hρ 91).trans (hp 10 (by decide));have e94:ρ (.tmp 94)=_:=(hρ 94).trans (hp 13 (by decide));have hk1014:=hN.key (k:=1014) (by decide);have hk1017:=hN.key (k:=1017) (by decide);have ho0:=HOY.o.keep (hR.kept0 (S:=fun b=>ob (some ⟨gA,0,none⟩)=some b) fun b _ _ m hm=>by rcases hm.1 with rfl | rfl <;> assumption);have HO0:=Hd ho0;have qf:=ho0.frozen_ (nX*3+1);have ql:=ho0.lt_;have qc:=ho0.cell_ (j:=nX*3+1) (HU1.o);have HK:=Hd hk1014;clear hR hN hp hρ ho0 hk1014 hk1017;go_light;go_simp;refine ⟨γ.put 1014,LZ.write HK.o rfl rfl rfl (by simp [World.setCell]) (fun b hb hm=>Below.heap_setCell _ _ _ _ (by show b≠gA; exact fun e=>hm ⟨by simp,e⟩)),LK.done (by decide),?_⟩;have ho1:=HO0.o.put (i:=nX*3+1) (.slice A8 ng c8);exact ⟨by simp [Gz.put],fun _=>ho1⟩
      apply Chain.pure (LZ.refl _) (by rfl)
      ·intro vals γ w' ρ hR hN hp hρ hc hf hg;refine ⟨rfl,?_⟩;have e89:ρ (.tmp 89)=_:=(hρ 89).trans (hp 8 (by decide));have e90:ρ (.tmp 90)=_:=(hρ 90).trans (hp 9 (by decide));have z1:=HNY.o;clear hR hN hp hρ;go_light;go_simp;exact ⟨rfl,rfl⟩
      ·rfl
      apply Chain.pure (LZ.refl _) (by rfl)
      ·intro vals γ w' ρ hR hN hp hρ hc hf hg;refine ⟨rfl,?_⟩;have e95:ρ (.tmp 95)=_:=(hρ 95).trans (hp 15 (by decide));clear hR hN hp hρ;go_light;go_simp;exact ⟨rfl,rfl⟩
      ·rfl
      refine Chain.step (fun _ γ w'=>γ 1014=true∧γ 1017=true∧Own w' base 59 3 (some ⟨gA,0,none⟩) nY c' ((xs.set (nX*3+1) (.slice A8 ng c8)).set (nX*3+2) (.slice A9 ng c9))) (by rfl) ?_ ?_ ?_
      ·rintro l γ w1 γ' w2 rr ⟨h1,h2,h3⟩;exact ⟨rr.done _ h1,rr.done _ h2,Own.keep h3 (rr.keptS fun b _ _ m hm=>by rcases hm.1 with rfl | rfl <;> first | rw [h1,rr.done _ h1] | rw [h2,rr.done _ h2])⟩
      ·intro vals γ w' ρ hR hN hp hρ hc hf hg;refine ⟨rfl,?_⟩;have e92:ρ (.tmp 92)=_:=(hρ 92).trans (hp 11 (by decide));have e96:ρ (.tmp 96)=_:=(hρ 96).trans (hp 16 (by decide));have hk1017:=hN.key (k:=1017) (by decide);obtain ⟨hd1,hd2⟩:=hp 14 (by decide);have ho0:=hd2 hk1017;have HD1:=Hd hd1;clear hd1 hd2;have HO0:=Hd ho0;have qf:=ho0.frozen_ (nX*3+2);have ql:=ho0.lt_;have qc:=ho0.cell_ (j:=nX*3+2) (by rw [List.getElem?_set_ne (by omega)]; exact HU2.o);have HK:=Hd hk1017;clear hR hN hp hρ ho0 hk1017;go_light;go_simp;refine ⟨γ.put 1017,LZ.write HK.o rfl rfl rfl (by simp [World.setCell]) (fun b hb hm=>Below.heap_setCell _ _ _ _ (by show b≠gA; exact fun e=>hm ⟨by simp,e⟩)),LK.done (by decide),?_⟩;have ho1:=HO0.o.put (i:=nX*3+2) (.slice A9 ng c9);exact ⟨by simp [Gz.put,HD1.o],by simp [Gz.put],ho1⟩
      intro vals γ w9 hR hG;have v0:vals 0=_:=hG 0 (by decide);have v1:vals 1=_:=hG 1 (by decide);have v2:vals 2=_:=hG 2 (by decide);have v3:vals 3=_:=hG 3 (by decide);have v4:vals 4=_:=hG 4 (by decide);have v5:vals 5=_:=hG 5 (by decide);have v6:vals 6=_:=hG 6 (by decide);have v7:vals 7=_:=hG 7 (by decide);have v8:vals 8=_:=hG 8 (by decide);have v9:vals 9=_:=hG 9 (by decide);have v10:vals 10=_:=hG 10 (by decide);have v11:vals 11=_:=hG 11 (by decide);have v12:vals 12=_:=hG 12 (by decide);have v13:vals 13=_:=hG 13 (by decide);have v15:vals 15=_:=hG 15 (by decide);have v16:vals 16=_:=hG 16 (by decide);simp only [lexFrame,Act.put,List.setIfInBounds_toArray,List.set_cons_succ,List.set_cons_zero,Nat.zero_add,Nat.reduceAdd,v0,v1,v2,v3,v4,v5,v6,v7,v8,v9,v10,v11,v12,v13,v15,v16];clear v0 v1 v2 v3 v4 v5 v6 v7 v8 v9 v10 v11 v12 v13 v15 v16;obtain ⟨-,-,hof⟩:=hG 17 (by decide);have HB9:=Hd (hR.buts (S:=fun b=>b=gA) (fun m b _ hm _=>hm.2));have HOF:=Hd hof;clear hR hG hof;have HLAST:=Hd (show RetAsk w bP bm l base Xs d A X L (.returned (.int .i64 (nX:Int))) w9 from by
       have hRR:=HR8.o;have e9:ng=gs.length:=HENG.o;rw [e9] at hRR;have h1:=hRR.fin (L:=L) HB9.o HVY.o (by rw [← HNX.o]; exact HU0.o) (by rw [← HNX.o,← e9,HNX.o,← HENY.o,← HNX.o]; exact HOF.o) HDZ.o HIM.o HGE.o (by omega);rw [← HNX.o] at h1;exact h1)
      go_wp2;go_ret;exact HLAST.o
theorem pl_ask (f:Nat):PAsk f:=by
 induction f with
 | zero=>exact pl_ask_step 0 fun h=>absurd h (by omega)
 | succ f ih=>exact pl_ask_step (f+1) fun _=>ih
/- The checker in memory, and which questions were reached. No conditions. -/

def mark:List Bool→Nat→Nat→List Bool
 | r,_,0=>r
 | r,s,n+1=>mark (r.set s true) (s+1) n
theorem mark_len:∀ (n:Nat) (r:List Bool) (s:Nat),(mark r s n).length=r.length
 | 0,_,_=>rfl
 | n+1,r,s=>by
  show (mark (r.set s true) (s+1) n).length=_;rw [mark_len n,List.length_set]
theorem mark_add:∀ (a b:Nat) (r:List Bool) (s:Nat),mark r s (a+b)=mark (mark r s a) (s+a) b
 | 0,b,r,s=>by rw [Nat.zero_add]; rfl
 | a+1,b,r,s=>by
  rw [show a+1+b=(a+b)+1 by omega];show mark (r.set s true) (s+1) (a+b)=mark (mark (r.set s true) (s+1) a) (s+(a+1)) b;rw [mark_add a b,show s+(a+1)=s+1+a by omega]
theorem mark_out:∀ (n:Nat) (r:List Bool) (s i:Nat),(i<s∨s+n≤i)→(mark r s n)[i]?=r[i]?
 | 0,_,_,_,_=>rfl
 | n+1,r,s,i,h=>by
  show (mark (r.set s true) (s+1) n)[i]?=_;rw [mark_out n _ _ i (by omega),List.getElem?_set_ne (by omega)]
theorem mark_in:∀ (n:Nat) (r:List Bool) (s i:Nat),s≤i→i<s+n→i<r.length→(mark r s n)[i]?=some true
 | 0,_,_,_,_,h,_=>by omega
 | n+1,r,s,i,h1,h2,h3=>by
  show (mark (r.set s true) (s+1) n)[i]?=_;by_cases e:i=s
  ·subst e;rw [mark_out n _ _ i (by omega),List.getElem?_set_self h3]
  ·exact mark_in n _ _ i (by omega) (by omega) (by simpa using h3)
def bcells (r:List Bool):Array Value:=(r.map Value.bool).toArray
theorem bcells_at {r:List Bool} {i:Nat} {b:Bool} (h:r[i]?=some b):(bcells r)[i]?=some (.bool b):=by simp [bcells,h]
theorem bcells_set (r:List Bool) (i:Nat) (b:Bool):(bcells r).setIfInBounds i (.bool b)=bcells (r.set i b):=by
 simp [bcells,List.setIfInBounds_toArray,List.map_set]
structure CK (w:World) (bC bP bm bR:Nat) (l:List (List Val)) (d:Nat) (A:Option Addr) (c:Nat) (Y:List AskD) (pd pl:Int):Prop where
 ck:∃ rc,Blk w bC 100 #[.pointer (some ⟨bP,0,none⟩),.slice A Y.length c,.int .i64 pd,.int .i64 pl,.slice (some ⟨bR,0,none⟩) Y.length rc]
 pn:∃ (AA:Option Addr) (ac:Nat) (PA:Option Addr) (pc:Nat),w.cell? ⟨bP,0,none⟩=some (.slice AA l.length ac)∧w.cell? ⟨bP,1,none⟩=some (.slice PA (inpS l) pc)∧w.cell? ⟨bP,2,none⟩=some (.map (some bm))∧Rows w (fun b=>b≠bm∧b≠bR) d AA l∧NN w (fun b=>b≠bm∧b≠bR) PA ((List.range (inpS l)).map (placesS l))∧l.length≤ac
 as_:AS w (fun b=>b≠bm∧b≠bR) d A Y
 ne:bC≠bm∧bC≠bR∧bP≠bm∧bP≠bR∧bm≠bR
 lt:bP<w.heap.size
 map:∃ M,MapIs w bm encN M∧Cons (spl l) (inpS l) l.length M
section
variable {w w':World} {bC bP bm bR d c:Nat} {l:List (List Val)} {A:Option Addr} {Y:List AskD} {qd ql:Int}
theorem CK.pd (h:CK w bC bP bm bR l d A c Y qd ql):PD w bP bm l:=by
 obtain ⟨AA,ac,PA,pc,h1,h2,h3,h4,h5,-⟩:=h.pn;exact ⟨⟨PA,pc,h2,h5.mono fun b _ hb=>hb.1⟩,h3,h.ne.2.2.1,h.lt,h.map⟩
theorem CK.but (h:CK w bC bP bm bR l d A c Y qd ql) (k:ButS (fun b=>b=bm∨b=bR) w w') (hm:∃ M,MapIs w' bm encN M∧Cons (spl l) (inpS l) l.length M):CK w' bC bP bm bR l d A c Y qd ql:=by
 obtain ⟨rc,hc⟩:=h.ck;obtain ⟨AA,ac,PA,pc,h1,h2,h3,h4,h5,h6⟩:=h.pn;obtain ⟨n1,n2,n3,n4,n5⟩:=h.ne;have hP:¬ (bP=bm∨bP=bR):=(by rintro (e | e); exact n3 e; exact n4 e);have hk:Kept (fun b=>b≠bm∧b≠bR) w w':=k.kept fun b _ e f=>by rcases f with f | f; exact e.1 f; exact e.2 f
 exact ⟨⟨rc,k.blk hc (by rintro (e | e); exact n1 e; exact n2 e)⟩,⟨AA,ac,PA,pc,k.cell hP h1,k.cell hP h2,k.cell hP h3,h4.keep hk,h5.keep hk,h6⟩,h.as_.keep hk,h.ne,Nat.lt_of_lt_of_le h.lt k.size,hm⟩
theorem CK.ext (h:CK w bC bP bm bR l d A c Y qd ql) (k:Ext w w'):CK w' bC bP bm bR l d A c Y qd ql:=by
 obtain ⟨M,hm,hc⟩:=h.map;exact h.but (ButS.of_ext k) ⟨M,hm.keep (k.kept _),hc⟩
end
def RetVi (w:World) (bm bR:Nat) (l:List (List Val)) (v:Nat) (r:List Bool) (e:Ending) (w':World):Prop :=
 e=.returned (.tuple #[.int .i64 (v:Int),.bool true])∧ButS (fun b=>b=bm∨b=bR) w w'∧Blk w' bR 4 (bcells r)∧∃ M,MapIs w' bm encN M∧Cons (spl l) (inpS l) l.length M
def PVisit (f:Nat):Prop:=∀ (l:List (List Val)) (bC bP bm bR d:Nat) (L:List Nat) (LA:Option Addr) (lc:Nat) (A:Option Addr) (c:Nat) (Y X Z:List AskD) (pd pl:Int) (r:List Bool) (after:Int) (w:World),L.length≤f→l.length<20→Wide l (inpS l)→CK w bC bP bm bR l d A c Y pd pl→Inc l.length L→(L=[]→inpS l=0) →
 Nums w (fun b=>b≠bm∧b≠bR) LA L→Y=X++plan (spl l) (inpS l) (ans l) L X.length++Z→Y.length≤1000→r.length=Y.length→after<X.length→(∀ i,X.length≤i→i<X.length+(plan (spl l) (inpS l) (ans l) L X.length).length→r[i]?=some false)→Blk w bR 4 (bcells r) →
 Calls Tryz.prog 60 #[.pointer (some ⟨bC,0,none⟩),.int .i64 after,.int .i64 (if dep (spl l) (inpS l) L=0 then -1 else (X.length:Int)),.slice LA L.length lc] w (RetVi w bm bR l (dep (spl l) (inpS l) L) (mark r X.length (plan (spl l) (inpS l) (ans l) L X.length).length))
/- question.Make. Conditions: the answers read as data, and hold no tables. -/

abbrev PlanD:=List AskD × Nat × Nat
def allP (l:List (List Val)):List Nat:=List.range l.length
def depA (l:List (List Val)):Nat:=dep (spl l) (inpS l) (allP l)
def planA (l:List (List Val)):List AskD:=plan (spl l) (inpS l) (ans l) (allP l) 0
def errM (l:List (List Val)) (h:Int):Int:=if rightA l=false∨h<0∨6<h then 1 else if 12<l.length∨10<inpS l then 2 else if h<(depA l:Int) then 16 else 0
def makeF (l:List (List Val)) (h:Int):PlanD:=if errM l h=0 then (planA l,depA l,lowF l) else ([],0,0)
def MkF (b4:Nat) (A5:Option Addr) (nP c5 dp lo:Nat) (γ:Gz) (w':World):Prop:=γ 1008=true∧Blk w' b4 29 #[.slice A5 nP c5,.int .i64 (dp:Int),.int .i64 (lo:Int)]
def RetPn (w:World) (d:Nat) (p:PlanD) (er:Int) (e:Ending) (w':World):Prop:=∃ (A:Option Addr) (c:Nat),e=.returned (.tuple #[.agg #[.slice A p.1.length c,.int .i64 (p.2.1:Int),.int .i64 (p.2.2:Int)],.int .i64 er])∧OwnAs w' w.heap.size (fun b=>w.heap.size≤b) d A c p.1∧Ext w w'
def RetPU (w:World) (d:Nat) (p:PlanD) (er:Int) (e:Ending) (w':World):Prop:=∃ (A:Option Addr) (c:Nat),e=.returned (.tuple #[.agg #[.slice A p.1.length c,.int .i64 (p.2.1:Int),.int .i64 (p.2.2:Int)],.int .i64 er])∧OwnAU w' w.heap.size (fun b=>w.heap.size≤b) d A c p.1∧Ext w w'
theorem rightA_wide {l:List (List Val)} (h:rightA l=true):Wide l (inpS l):=by
 intro r hr;unfold rightA at h;have:=List.all_eq_true.1 h r hr;simp at this;exact this.1
set_option maxRecDepth 100000 in
set_option maxHeartbeats 1000000 in
theorem question_MakeU (d:Nat) (l:List (List Val)) (A:Option Addr) (c:Nat) (hz:Int) (w:World) (S:Nat→Prop) (hr:Rows w S d A l) (hS:∀ b,S b→b<w.heap.size) (hk:NoT l) (hl:l.length<20) (hN:inpS l≤1000) (hac:l.length≤c) (ht:Tens w) :
  Calls Tryz.prog 14 #[.slice A l.length c,.int .i64 hz] w (RetPU w d (makeF l hz) (errM l hz)):=by
 obtain ⟨n,en⟩:∃ n,n=l.length:=⟨_,rfl⟩;have HNE:=Hd en;have hn20:n<20:=(by omega);obtain ⟨w0,hw0⟩:∃ w0,w0=w.alloc (.cells #[.slice none 0 0,.int .i64 0,.int .i64 0] 29):=⟨_,rfl⟩;obtain ⟨b4,hb4⟩:∃ b4,b4=w.heap.size:=⟨_,rfl⟩;have hx0:Ext w w0:=(by rw [hw0]; exact (Ext.refl w).alloc _);have hbk:Blk w0 b4 29 #[.slice none 0 0,.int .i64 0,.int .i64 0]:=(by rw [hw0,hb4]; exact Blk.new _ _ _);have HW0:=Hd hw0;have HB4E:=Hd hb4;have HX0:=Hd hx0;have HBK:=Hd hbk;have HR0:=Hd (hr.keep (hx0.kept S));have HSS:=Hd hS;have HKT:=Hd hk;have HL:=Hd hl;have HN:=Hd hN;have HT:=Hd (ht.ext hx0);have HAC:=Hd hac;have HRI:=Hd (question_right d l A c w0 S HR0.o hk);rw [← en] at HRI ⊢;clear hr hS hk hl hN ht hac hw0 hb4 hx0 hbk en
 go_enter Tryz.func14,Tryz.ntmps14
 go_upto_region 1 with fail
 rw [← HW0.o,← HB4E.o]
 go_wp2_with fail
 refine HRI.o.mono ?_;rintro e1 w1 ⟨rfl,hx1⟩;have HX1:=Hd hx1;have HXA:=Hd (HX0.o.trans hx1);have hbk1:=HBK.o.keep (hx1.kept _);have r0:=hbk1.cell (i:=0) rfl;have r1:=hbk1.cell (i:=1) rfl;have r2:=hbk1.cell (i:=2) rfl;have f0:=hbk1.frozen 0;have f1:=hbk1.frozen 1;have f2:=hbk1.frozen 2;have z1:=hbk1.lt;have HB1:=Hd hbk1;clear hx1 hbk1;have HZB:=Hd (show w.heap.size≤b4 by rw [HB4E.o]; exact Nat.le_refl _);cases hra:rightA l
 ·have HE:=Hd (show errM l hz=1 by unfold errM; rw [if_pos (.inl hra)]);have HM:=Hd (show makeF l hz=([],0,0) by unfold makeF; rw [if_neg (by rw [HE.o]; decide)]);clear hra;go_wp2;refine bodyPost_ret (v:=.tuple #[.agg #[.slice none 0 0,.int .i64 0,.int .i64 0],.int .i64 1]) (by simp [results,Tryz.results14,go_sem,r0,r1,r2]) rfl ⟨none,0,by rw [HE.o,HM.o]; rfl,by rw [HM.o]; exact OwnAU.nil _ _ _ _,?_⟩;exact ((HXA.o.set2 HZB.o _).set2 HZB.o _).set2 HZB.o _
 ·have HRA:=Hd hra;clear hra;by_cases hh0:hz<0
  ·have HE:=Hd (show errM l hz=1 by unfold errM; rw [if_pos (.inr (.inl hh0))]);have HM:=Hd (show makeF l hz=([],0,0) by unfold makeF; rw [if_neg (by rw [HE.o]; decide)]);go_wp2;refine bodyPost_ret (v:=.tuple #[.agg #[.slice none 0 0,.int .i64 0,.int .i64 0],.int .i64 1]) (by simp [results,Tryz.results14,go_sem,r0,r1,r2]) rfl ⟨none,0,by rw [HE.o,HM.o]; rfl,by rw [HM.o]; exact OwnAU.nil _ _ _ _,?_⟩;exact ((HXA.o.set2 HZB.o _).set2 HZB.o _).set2 HZB.o _
  ·by_cases hh6:6<hz
   ·have HE:=Hd (show errM l hz=1 by unfold errM; rw [if_pos (.inr (.inr hh6))]);have HM:=Hd (show makeF l hz=([],0,0) by unfold makeF; rw [if_neg (by rw [HE.o]; decide)]);go_wp2;refine bodyPost_ret (v:=.tuple #[.agg #[.slice none 0 0,.int .i64 0,.int .i64 0],.int .i64 1]) (by simp [results,Tryz.results14,go_sem,r0,r1,r2]) rfl ⟨none,0,by rw [HE.o,HM.o]; rfl,by rw [HM.o]; exact OwnAU.nil _ _ _ _,?_⟩;exact ((HXA.o.set2 HZB.o _).set2 HZB.o _).set2 HZB.o _
   ·have HE1:=Hd (show ¬ (rightA l=false∨hz<0∨6<hz) by rintro (e | e | e); (rw [HRA.o] at e; cases e); exact hh0 e; exact hh6 e);by_cases hn12:12<n
    ·have HE:=Hd (show errM l hz=2 by unfold errM; rw [if_neg HE1.o,if_pos (.inl (by rw [← HNE.o]; exact hn12))]);have HM:=Hd (show makeF l hz=([],0,0) by unfold makeF; rw [if_neg (by rw [HE.o]; decide)]);have i12:(12:Int)<(n:Int):=(by omega);go_wp2;refine bodyPost_ret (v:=.tuple #[.agg #[.slice none 0 0,.int .i64 0,.int .i64 0],.int .i64 2]) (by simp [results,Tryz.results14,go_sem,r0,r1,r2]) rfl ⟨none,0,by rw [HE.o,HM.o]; rfl,by rw [HM.o]; exact OwnAU.nil _ _ _ _,?_⟩;exact ((HXA.o.set2 HZB.o _).set2 HZB.o _).set2 HZB.o _
    ·have i12:¬ (12:Int)<(n:Int):=(by omega);have HIN:=Hd (question_inputs d l A c w1 S (HR0.o.keep (HX1.o.kept S)));rw [← HNE.o] at HIN;obtain ⟨N,eN⟩:∃ N,N=inpS l:=⟨_,rfl⟩;rw [← eN] at HIN;have HEN:=Hd eN;clear eN
     go_wp2_with fail
     refine HIN.o.mono ?_;rintro e2 w2 ⟨rfl,rfl⟩;by_cases hN10:10<N
     ·have HE:=Hd (show errM l hz=2 by unfold errM; rw [if_neg HE1.o,if_pos (.inr (by rw [← HEN.o]; exact hN10))]);have HM:=Hd (show makeF l hz=([],0,0) by unfold makeF; rw [if_neg (by rw [HE.o]; decide)]);have i10:(10:Int)<(N:Int):=(by omega);go_wp2;refine bodyPost_ret (v:=.tuple #[.agg #[.slice none 0 0,.int .i64 0,.int .i64 0],.int .i64 2]) (by simp [results,Tryz.results14,go_sem,r0,r1,r2]) rfl ⟨none,0,by rw [HE.o,HM.o]; rfl,by rw [HM.o]; exact OwnAU.nil _ _ _ _,?_⟩;exact ((HXA.o.set2 HZB.o _).set2 HZB.o _).set2 HZB.o _
     ·have i10:¬ (10:Int)<(N:Int):=(by omega);have HE2:=Hd (show ¬ (12<l.length∨10<inpS l) by rw [← HNE.o,← HEN.o]; omega);have HWI:=Hd (rightA_wide HRA.o);have HNP:=Hd (question_newPlanner d l A c w1 S (HR0.o.keep (HX1.o.kept S)) (fun b hb=>Nat.lt_of_lt_of_le (HSS.o b hb) HXA.o.size) HKT.o HL.o HWI.o HN.o (HT.o.ext HX1.o));rw [← HNE.o] at HNP;clear r0 r1 r2 f0 f1 f2 z1
      go_wp2_with fail
      refine HNP.o.mono ?_;rintro e3 w2 ⟨bP,bm,PA,pc,rfl,hbP,hbm,hne,hx2,hblk,hnn,hmap⟩;have HNPB:=Hd hbP;have HBMB:=Hd hbm;have HNEQ:=Hd hne;have HX2:=Hd hx2;have HBLK:=Hd hblk;have HNN:=Hd hnn;have HMAP:=Hd hmap;clear hbP hbm hne hx2 hblk hnn hmap HNP HIN HRI
      go_wp2_with fail
      refine (question_programs n (by omega) A c w2).mono ?_;rintro e4 w3 ⟨g,rfl,hg,hbg,hx3⟩;rw [List.length_range];have HG:=Hd hg;have HBG:=Hd hbg;have HX3:=Hd hx3;have hblk3:=HBLK.o.keep (hx3.kept _);have HBLK3:=Hd hblk3;have HPD3:=Hd (show PD w3 bP bm l from ⟨⟨PA,pc,hblk3.cell (i:=1) rfl,(HNN.o.keep (hx3.kept _)).mono fun b _ hb=>hb.2.1⟩,hblk3.cell (i:=2) rfl,HNEQ.o,hblk3.lt,⟨[],HMAP.o.keep (hx3.kept _),Cons.nil _ _ _⟩⟩);have hnums:Nums w3 (fun b=>b=g) (some ⟨g,0,none⟩) (List.range n):=⟨by have:=hbg.rd; simpa [dcells] using this,by rw [List.length_range]; omega⟩;have hgl:=hbg.lt;have hgm:g≠bm:=(by have:=HMAP.o.lt; omega);have hgP:g≠bP:=(by have:=HBLK.o.lt; omega);have HNUM:=Hd hnums;have HLN:=Hd (show (List.range n).length=n from List.length_range);have HZN:=Hd (show List.range n=[]→inpS l=0 by
       intro e;have h1:l.length=0:=(by have:=congrArg List.length e; rw [List.length_range] at this; rw [← HNE.o]; exact this);rw [List.eq_nil_of_length_eq_zero h1]; rfl)
      have HINC:=Hd (show Inc l.length (List.range n) by rw [HNE.o]; exact Inc.range _);have HD:=Hd (pl_depth _ l bP bm (List.range n) (some ⟨g,0,none⟩) n w3 (Nat.le_refl _) HL.o HPD3.o HINC.o HZN.o (hnums.mono fun b _ e=>by rw [e]; exact hgm));have HDA:=Hd (show depA l=dep (spl l) (inpS l) (List.range n) by unfold depA allP; rw [HNE.o]);rw [← HDA.o] at HD;rw [List.length_range] at HD;obtain ⟨dp,edp⟩:∃ dp,dp=depA l:=⟨_,rfl⟩;have HDP:=Hd edp;rw [← edp] at HD;have HGM:=Hd hgm;have HGP:=Hd hgP;clear hg hbg hx3 hblk3 hnums hgl hgm hgP edp
      go_wp2_with fail
      refine HD.o.mono ?_;rintro e5 w4 ⟨rfl,hb4,hm4⟩;have HB4':=Hd hb4;have HM4:=Hd hm4;have HXB:=Hd (show Ext w w4 from ButS.exts ((HXA.o.trans HX2.o).trans HX3.o) hb4 fun b e=>by rw [e]; exact Nat.le_trans HXA.o.size HBMB.o);have hk14:Blk w4 b4 29 #[.slice none 0 0,.int .i64 0,.int .i64 0]:=((HB1.o.keep (HX2.o.kept _)).keep (HX3.o.kept _)).keep (hb4.kept fun b _ e f=>by have:=HBMB.o; have:=HB1.o.lt; omega);have r0:=hk14.cell (i:=0) rfl;have r1:=hk14.cell (i:=1) rfl;have r2:=hk14.cell (i:=2) rfl;have f0:=hk14.frozen 0;have f1:=hk14.frozen 1;have f2:=hk14.frozen 2;have z1:=hk14.lt;have HK14:=Hd hk14;clear hb4 hm4 hk14;by_cases hdh:hz<(dp:Int)
      ·have HE:=Hd (show errM l hz=16 by unfold errM; rw [if_neg HE1.o,if_neg HE2.o,if_pos (by rw [← HDP.o]; exact hdh)]);have HM:=Hd (show makeF l hz=([],0,0) by unfold makeF; rw [if_neg (by rw [HE.o]; decide)]);go_wp2;refine bodyPost_ret (v:=.tuple #[.agg #[.slice none 0 0,.int .i64 0,.int .i64 0],.int .i64 16]) (by simp [results,Tryz.results14,go_sem,r0,r1,r2]) rfl ⟨none,0,by rw [HE.o,HM.o]; rfl,by rw [HM.o]; exact OwnAU.nil _ _ _ _,?_⟩;exact ((HXB.o.set2 HZB.o _).set2 HZB.o _).set2 HZB.o _
      ·have HE:=Hd (show errM l hz=0 by unfold errM; rw [if_neg HE1.o,if_neg HE2.o,if_neg (by rw [← HDP.o]; exact hdh)]);have HM:=Hd (show makeF l hz=(planA l,depA l,lowF l) by unfold makeF; rw [if_pos HE.o]);have HPS:=Hd (show PS w4 bP bm l w4.heap.size (fun b=>w4.heap.size≤b) d none 0 [] from
        {blk:=⟨A,c,PA,pc,(HBLK3.o.keep (HB4'.out.kept fun b _ e f=>HNEQ.o (e.symm.trans f))),by
          have h1:=((((HR0.o.mono (T:=fun b=>S b∧b<w1.heap.size) fun b hb hs=>⟨hs,Nat.lt_of_lt_of_le hb HX1.o.size⟩).keep (HX1.o.kept _)).keep (HX2.o.kept _)).keep (HX3.o.kept _)).keep (HB4'.out.kept fun b _ e f=>by have:=HBMB.o; have:=e.2; omega);exact h1.mono fun b hb e=>⟨hb,by have:=HBMB.o; have:=e.2; omega,by have:=HNPB.o; have:=e.2; omega⟩,by
          have h1:=((HNN.o.keep (HX3.o.kept _)).keep (w':=w4) (HB4'.out.kept fun b _ e f=>e.2.1 f));exact ⟨h1.mono fun b hb e=>⟨hb,e.2.1,e.2.2⟩,HAC.o⟩⟩
         own:=OwnAU.nil _ _ _ _
         xs:=fun b hb=>hb
         ne:=HNEQ.o
         lt:=⟨Nat.lt_of_lt_of_le HBLK3.o.lt HB4'.out.size,by
          obtain ⟨M,hM,_⟩:=HM4.o;exact hM.lt,Nat.le_refl _⟩
         map:=HM4.o })
       have HASK:=Hd (pl_ask _ l bP bm w4.heap.size _ d (List.range n) (some ⟨g,0,none⟩) n none 0 [] w4 (Nat.le_refl _) HL.o HWI.o HPS.o HINC.o HZN.o ((HNUM.o.keep (HB4'.out.kept fun b _ e f=>HGM.o (e.symm.trans f))).mono fun b _ e f=>by
        rcases f with f | f | f
        ·exact HGM.o (e.symm.trans f)
        ·exact HGP.o (e.symm.trans f)
        ·simp [ob] at f) (by simp; omega))
       rw [List.length_range] at HASK;clear r0 r1 r2 f0 f1 f2 z1
       go_wp2_with fail
       refine HASK.o.mono ?_;rintro e6 w5 ⟨A5,c5,rfl,hb5,hp5,-⟩;rw [List.nil_append,List.length_nil] at hp5;generalize (if dep (spl l) (inpS l) (List.range n)=0 then (-1:Int) else (([]:List AskD).length:Int))=rv;have HPA:=Hd (show planA l=plan (spl l) (inpS l) (ans l) (List.range n) 0 by unfold planA allP; rw [HNE.o]);rw [← HPA.o] at hp5;obtain ⟨AA,ac,PA5,pc5,hblk5,hrow5,-,hacl⟩:=hp5.blk;obtain ⟨nP,enP⟩:∃ nP,nP=(planA l).length:=⟨_,rfl⟩;have HNPL:=Hd enP;rw [← enP] at hblk5;obtain ⟨lo,elo⟩:∃ lo,lo=lowF l:=⟨_,rfl⟩;have HLOW:=Hd elo;have HLO:=Hd (show ∀ w':World,Ext w5 w'→Calls Tryz.prog 55 #[.pointer (some ⟨bP,0,none⟩)] w' (RetI w' (lo:Nat)) from fun w' hx=>by
        rw [elo];exact pl_lower l bP bm AA ac w' (hp5.pd.ext hx) HL.o (hx.cell (hblk5.cell (i:=0) rfl)) hacl)
       have C3:=Hd (hblk5.cell (i:=3) rfl);have LN:=Hd (show bP≠b4 by have:=HNPB.o; have:=HB1.o.lt; omega);have HB4:=Hd (HK14.o.keep (hb5.kept fun b _ e f=>by
        have h1:=HB1.o.lt
        rcases f with f | f | f
        ·have:=HBMB.o; omega
        ·have:=HNPB.o; omega
        ·simp [ob] at f))
       have HOWN:=Hd hp5.own;have HBB5:=Hd hb5;clear hb5 hp5 hblk5 hrow5 enP hacl elo
       go_upto_region 12 with fail
       refine wp_region_chain (by kernel_rfl) (fun i=>[i]) (by kernel_rfl) (LZ (fun m b=>m=1008∧b=b4)) (LZ.refl _) (LZ.trans _) (LK [(6,[1008]),(8,[1008])]) gz0 (LK.zero _) ?_;apply Chain.pure (LZ.refl _) (by rfl)
       ·intro vals γ w' ρ hR hN hp hρ hc hf hg;refine ⟨rfl,?_⟩;have e6:=hρ 6;(conv at e6=>rhs; whnf);clear hR hN hp hρ;go_light;go_simp;exact ⟨rfl,rfl⟩
       ·rfl
       apply Chain.pure (LZ.refl _) (by rfl)
       ·intro vals γ w' ρ hR hN hp hρ hc hf hg;refine ⟨rfl,?_⟩;have e47:ρ (.tmp 47)=_:=(hρ 47).trans (hp 0 (by decide));clear hR hN hp hρ;go_light;go_simp;exact ⟨rfl,rfl⟩
       ·rfl
       apply Chain.pure (LZ.refl _) (by rfl)
       ·intro vals γ w' ρ hR hN hp hρ hc hf hg;refine ⟨rfl,?_⟩;have e48:ρ (.tmp 48)=_:=(hρ 48).trans (hp 1 (by decide));clear hR hN hp hρ;go_light;go_simp;exact ⟨rfl,rfl⟩
       ·rfl
       apply Chain.pure (LZ.refl _) (by rfl)
       ·intro vals γ w' ρ hR hN hp hρ hc hf hg;refine ⟨rfl,?_⟩;have e49:ρ (.tmp 49)=_:=(hρ 49).trans (hp 2 (by decide));have hkk:=hR.kept0 (S:=fun b=>b≠b4) (fun b _ hb m hm=>absurd hm.2 hb);have k0:=hkk.cell2 C3.o LN.o;clear hkk hR hN hp hρ;go_light;go_simp;exact ⟨rfl,rfl⟩
       ·rfl
       apply Chain.pure (LZ.refl _) (by rfl)
       ·intro vals γ w' ρ hR hN hp hρ hc hf hg;refine ⟨rfl,?_⟩;have e8:=hρ 8;(conv at e8=>rhs; whnf);clear hR hN hp hρ;go_light;go_simp;exact ⟨rfl,rfl⟩
       ·rfl
       apply Chain.pure (LZ.refl _) (by rfl)
       ·intro vals γ w' ρ hR hN hp hρ hc hf hg;refine ⟨rfl,?_⟩;have e6:=hρ 6;(conv at e6=>rhs; whnf);clear hR hN hp hρ;go_light;go_simp;exact ⟨rfl,rfl⟩
       ·rfl
       refine Chain.step (FP fun v γ w'=>v=.int .i64 (lo:Int)) (by rfl) (FP.stab ?_) ?_ ?_
       ·intro v γ w1 γ' w2 r h;exact h
       ·intro vals γ w' ρ hR hN hp hρ hc hf hg;refine ⟨rfl,?_⟩;have e52:ρ (.tmp 52)=_:=(hρ 52).trans (hp 5 (by decide));have HR:=Hd hR;have hk8:=hN.key (k:=1008) (by decide);have HXK:=Hd (show Ext w5 w' from hR.ext0 fun m b _ hm=>by rw [hm.1]; exact hk8);clear hk8 hR hN hp hρ;go_light;go_simp;refine (HLO.o w' HXK.o).mono ?_;rintro e1 w3 ⟨he,hx⟩;exact ⟨_,he,γ,LZ.of_ext _ γ hx,fun _ _ _ h=>h,rfl⟩
       apply Chain.pure (LZ.refl _) (by rfl)
       ·intro vals γ w' ρ hR hN hp hρ hc hf hg;refine ⟨rfl,?_⟩;have e50:ρ (.tmp 50)=_:=(hρ 50).trans (hp 3 (by decide));have e51:ρ (.tmp 51)=_:=(hρ 51).trans (hp 4 (by decide));have e53:ρ (.tmp 53)=_:=(hρ 53).trans (hp 6 (by decide));clear hR hN hp hρ;go_light;go_simp;exact ⟨rfl,rfl⟩
       ·rfl
       refine Chain.step (fun _ γ w'=>MkF b4 A5 nP c5 dp lo γ w') (by rfl) ?_ ?_ ?_
       ·rintro l γ w1 γ' w2 rr ⟨h1,h2⟩;exact ⟨rr.done _ h1,h2.keep (rr.keptS fun b _ _ m hm=>by rw [hm.1,h1,rr.done _ h1])⟩
       ·intro vals γ w' ρ hR hN hp hρ hc hf hg;refine ⟨rfl,?_⟩;have e4:=hρ 4;(conv at e4=>rhs; whnf);have e54:ρ (.tmp 54)=_:=(hρ 54).trans (hp 7 (by decide));have hk8:=hN.key (k:=1008) (by decide);have HK:=Hd hk8;have hb0:=HB4.o.keep (hR.kept0 (S:=fun b=>b=b4) fun b _ _ m hm=>by rw [hm.1]; exact hk8);have HB0:=Hd hb0;have qc0:=hb0.cell (i:=0) rfl;have qc1:=hb0.cell (i:=1) rfl;have qc2:=hb0.cell (i:=2) rfl;have qf0:=hb0.frozen 0;have qf1:=hb0.frozen 1;have qf2:=hb0.frozen 2;have ql:=hb0.lt;clear hR hN hp hρ hk8 hb0;go_light;go_simp;refine ⟨γ.put 1008,LZ.write HK.o rfl rfl rfl (by simp [World.setCell]) (fun b hb hm=>((((Only.refl b4 w').set 0 (.slice A5 nP c5)).set 1 (.int .i64 (dp:Int))).set 2 (.int .i64 (lo:Int))).block b fun e=>hm ⟨rfl,e⟩),LK.done (by decide),by simp [Gz.put],?_⟩;have h1:=((HB0.o.set 0 (.slice A5 nP c5)).set 1 (.int .i64 (dp:Int))).set 2 (.int .i64 (lo:Int))
        simpa using h1
       apply Chain.pure (LZ.refl _) (by rfl)
       ·intro vals γ w' ρ hR hN hp hρ hc hf hg;refine ⟨rfl,?_⟩;clear hR hN hp hρ;go_light;go_simp;exact ⟨rfl,rfl⟩
       ·rfl
       intro vals γ w9 hR hG;have v0:vals 0=_:=hG 0 (by decide);have v1:vals 1=_:=hG 1 (by decide);have v2:vals 2=_:=hG 2 (by decide);have v3:vals 3=_:=hG 3 (by decide);have v4:vals 4=_:=hG 4 (by decide);have v5:vals 5=_:=hG 5 (by decide);have v6:vals 6=_:=hG 6 (by decide);have v7:vals 7=_:=hG 7 (by decide);have v9:vals 9=_:=hG 9 (by decide);simp only [lexFrame,Act.put,List.setIfInBounds_toArray,List.set_cons_succ,List.set_cons_zero,Nat.zero_add,Nat.reduceAdd,v0,v1,v2,v3,v4,v5,v6,v7,v9];clear v0 v1 v2 v3 v4 v5 v6 v7 v9;obtain ⟨-,hbf⟩:=hG 8 (by decide);have HBF:=Hd hbf;have HB9:=Hd (hR.buts (S:=fun b=>b=b4) (fun m b _ hm _=>hm.2));clear hR hG hbf;have HOW9:=Hd (show OwnAU w9 w.heap.size (fun b=>w.heap.size≤b) d A5 c5 (planA l) from by
        have hw4:=HXB.o.size;have h1:=(HOWN.o.lower (base':=w.heap.size) hw4).mono (T:=fun b=>w.heap.size≤b∧b≠b4) fun b _ e=>by
         have h2:=HK14.o.lt;omega
        have h2:=h1.keep (w':=w9) (HB9.o.kept fun b _ e f=>by
         rcases e with e | e
         ·have:=(HOWN.o.blk e).1;have:=HK14.o.lt;omega
         ·exact e.2 f)
        exact h2.mono fun b _ e=>e.1)
       have HX9:=Hd (show Ext w w9 from ButS.exts (ButS.exts HXB.o HBB5.o fun b e=>by
        rcases e with e | e | e
        ·rw [e]; exact Nat.le_trans HXA.o.size HBMB.o
        ·rw [e]; exact Nat.le_trans HXA.o.size HNPB.o
        ·simp [ob] at e) HB9.o fun b e=>by rw [e]; exact HZB.o)
       have s0:=HBF.o.cell (i:=0) rfl;have s1:=HBF.o.cell (i:=1) rfl;have s2:=HBF.o.cell (i:=2) rfl;go_wp2;refine bodyPost_ret (v:=.tuple #[.agg #[.slice A5 nP c5,.int .i64 (dp:Int),.int .i64 (lo:Int)],.int .i64 0]) (by simp [results,Tryz.results14,go_sem,s0,s1,s2]) rfl ⟨A5,c5,?_,?_,HX9.o⟩
       ·rw [HE.o,HM.o,HNPL.o,HDP.o,HLOW.o]
       ·rw [HM.o]; exact HOW9.o
theorem RetPU.pn {w:World} {d:Nat} {p:PlanD} {er:Int} {e:Ending} {w':World} (h:RetPU w d p er e w'):RetPn w d p er e w':=by
 obtain ⟨A,c,h1,h2,h3⟩:=h;exact ⟨A,c,h1,h2.own,h3⟩
theorem question_Make (d:Nat) (l:List (List Val)) (A:Option Addr) (c:Nat) (hz:Int) (w:World) (S:Nat→Prop) (hr:Rows w S d A l) (hS:∀ b,S b→b<w.heap.size) (hk:NoT l) (hl:l.length<20) (hN:inpS l≤1000) (hac:l.length≤c) (ht:Tens w) :
  Calls Tryz.prog 14 #[.slice A l.length c,.int .i64 hz] w (RetPn w d (makeF l hz) (errM l hz)) :=
 (question_MakeU d l A c hz w S hr hS hk hl hN hac ht).mono fun _ _ h=>h.pn
end Go.Proofs.YtomdpipekmcojaaGreatDoor
