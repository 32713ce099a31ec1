/- The iterator of table.matches. Conditions: the cells are right, no tables. -/
import Derived.Test.YthmckfloppblcaaGreatDoorBj18
import Derived.OwnWalkIn
import Derived.OrdersIn
import Derived.RangeFuncCalls
set_option maxRecDepth 100000
set_option maxHeartbeats 4000000
namespace Go.Proofs.YthmckfloppblcaaGreatDoor
open Go Go.RowKit
attribute [local go_sem] Oper.semAt_some

theorem cell_lt {w:World} {p:Addr} {u:Value} (h:w.cell? p=some u):p.block<w.heap.size:=by
 unfold World.cell? at h
 rcases Nat.lt_or_ge p.block w.heap.size with h1 | h1
 ·exact h1
 ·rw [Array.getElem?_eq_none h1] at h;cases h
theorem Rows.blkT {w:World} {S:Nat→Prop} {d:Nat} {l:List (List Val)} {b o:Nat} (h:Rows w S d (some ⟨b,o,none⟩) l) (hl:l≠[]):S b:=by
 obtain ⟨_,hs,h1,h2,_⟩:=h;obtain ⟨b',o',e,hS,_⟩:=h1.some_ (by intro e; apply hl; exact List.eq_nil_of_length_eq_zero (by rw [← h2,e]; rfl));injection e with e;injection e with e1;subst e1;exact hS
theorem MpI.buts {w w':World} {base b:Nat} {f:ByteArray→List Nat} {m:List (ByteArray × Value)} {g c:ByteArray→Nat} {S:Nat→Prop} (h:MpI w base b f m g c) (hb:ButS S w w') (hS:∀ x,S x→∃ t cs,Blk w x t cs∧t≠3):MpI w' base b f m g c:=by
 refine h.keep (hb.kept fun x _ hx hs => ?_);obtain ⟨t,cs,h1,h2⟩:=hS x hs
 rcases hx with rfl | ⟨k,hk,rfl⟩
 ·obtain ⟨es,cl,h3,_⟩:=h.map;unfold Blk at h1;rw [h1] at h3;cases h3
 ·exact own_ne (h.own k hk) h1 (fun e=>h2 e.symm) rfl
theorem matches_iter (m:Nat) (hm:1≤m) (l bb bj ba bi:Nat) (wT W0:World) (T:Nat→Prop) (l1 l2:List (List Val)) (A1 A2:Option Addr) (c1 c2 i j d:Nat) (_hz:wT.heap.size≤W0.heap.size)
  (hR1:Rows wT T d A1 l1) (hR2:Rows wT T d A2 l2) (hX1:∀ r∈l1,i<r.length∧TxOk (r.getD i Val.zero)) (hX2:∀ r∈l2,j<r.length∧((r.getD j Val.zero).kind≠0→TxOk (r.getD j Val.zero)))
  (hTb:T bb∧T bj∧T ba∧T bi) (cb:wT.cell? ⟨bb,0,none⟩=some (.slice A2 l2.length c2)) (cj:wT.cell? ⟨bj,0,none⟩=some (.int .i64 (j:Int))) (ca:wT.cell? ⟨ba,0,none⟩=some (.slice A1 l1.length c1)) (ci:wT.cell? ⟨bi,0,none⟩=some (.int .i64 (i:Int)))
  (J:Nat→World→Prop) (hJx:∀ k W W',J k W→Ext W W'→J k W') (hJT:∀ k W,J k W→TxM W) (hJk:∀ k W,J k W→Kept T wT W)
  (hround:∀ k W,J k W→W0.heap.size≤W.heap.size→∀ p q (hp:p<l1.length) (hq:q<l2.length),(prsF l1 l2 i j l1.length)[k]?=some (p,q)→∀ (B1 B2:Option Addr) (e1 e2:Nat),Row W T d B1 l1[p]→l1[p].length≤e1→Row W T d B2 l2[q]→l2[q].length≤e2 →
   YieldAt Fence.wide (m-1) Tryz.prog l #[.slice B1 l1[p].length e1,.slice B2 l2[q].length e2] W fun e W'=>e=.returned (.bool true)∧J (k+1) W'∧∃ S,ButS S W W'∧∀ x,S x→∃ t cs,Blk W x t cs∧t≠3)
  (h0:J 0 W0) :
  CallsIn Fence.wide m Tryz.prog 66 #[.func (.yield l) #[] #[],.pointer (some ⟨bb,0,none⟩),.pointer (some ⟨bj,0,none⟩),.pointer (some ⟨ba,0,none⟩),.pointer (some ⟨bi,0,none⟩)] W0 fun e W'=>(∃ v,e=.returned v)∧J (prsF l1 l2 i j l1.length).length W':=by
 have hl1:=hR1.len;have hl2:=hR2.len;have HX1:=Hd hX1;have HX2:=Hd hX2;have HR1:=Hd hR1;have HR2:=Hd hR2;have HTB:=Hd hTb;have CB:=Hd cb;have CJ:=Hd cj;have CA:=Hd ca;have CI:=Hd ci;have HJX:=Hd hJx;have HJT:=Hd hJT;have HJK:=Hd hJk;have HRD:=Hd hround;have HJ0:=Hd h0;have k0:=hJk 0 W0 h0;have hb0:=k0.cell2 cb hTb.1;have zb:bb<W0.heap.size:=cell_lt hb0;have hmm:=@run_makeMap Tryz.prog;clear hR1 hR2 hX1 hX2 hTb cb cj ca ci hJx hJT hJk hround h0 k0;refine callsIn_of_wp Tryz.func66 rfl trivial ?_ rfl;simp only [Tryz.ntmps66,List.size_toArray,List.length_cons,List.length_nil,Nat.reduceAdd,Nat.reduceSub,Array.replicate_succ,Array.replicate_zero,List.push_toArray,List.append_toArray,List.nil_append,List.cons_append]
 gi_wp2
 clear hmm hb0 zb;have HM0:=Hd (MpI.made W0 (base:=W0.heap.size) (Nat.le_refl _))
 gi_loopw [17] (fun v17 wr=>∃ (r:Nat) (mm:List (ByteArray × Value)) (g c:ByteArray→Nat),r≤l2.length∧v17=.int .i64 (r:Int)∧Ext W0 wr∧MpI wr W0.heap.size W0.heap.size (plcF l2 j r) mm g c) (fun v17 _=>l2.length-(intOf v17).toNat)
 case atStart=>exact ⟨0,[],fun _=>0,fun _=>0,Nat.zero_le _,rfl,(Ext.refl _).alloc _,HM0.o⟩
 case round =>
  clear HM0;obtain ⟨r,mm,g,c,hr,rfl,hx0,hmp⟩:=hrel;have HX0:=Hd hx0;have HMP:=Hd hmp;have hwr:J 0 wr:=HJX.o 0 _ _ HJ0.o hx0;have HJW:=Hd hwr;have HKW:=Hd (HJK.o 0 wr hwr);have hwz:=hx0.size;clear hx0 hmp hwr;by_cases hlt:r<l2.length
  ·have hi1:(r:Int)<(l2.length:Int):=(by omega);have hi0:(0:Int)≤(r:Int):=(by omega);obtain ⟨b2,o2,C,ec,hB,hb,hc0,hcp,hrow⟩:=(HR2.o.keep HKW.o).at_ hlt;subst hB;obtain ⟨row,erow⟩:∃ row,row=l2[r]:=⟨_,rfl⟩;rw [← erow] at hc0 hcp hrow;obtain ⟨hjr,hok⟩:=HX2.o row (by rw [erow]; exact List.getElem_mem hlt);obtain ⟨b3,o3,Ay,cy,By,ey,hC,hb3,⟨y0,y1,y2,y3,y4,y5,y6⟩,-,-⟩:=hrow.at_ hjr;subst hC;obtain ⟨x,ex⟩:∃ x,x=row[j]:=⟨_,rfl⟩;have hxd:row.getD j Val.zero=x:=(by rw [ex,List.getD_eq_getElem?_getD,List.getElem?_eq_getElem hjr]; rfl);have hca:cellAt l2 j r=x:=(by unfold cellAt; rw [show l2.getD r []=row by rw [erow,List.getD_eq_getElem?_getD,List.getElem?_eq_getElem hlt]; rfl,hxd]);rw [hxd] at hok;rw [← ex] at y0 y1 y2 y3 y4 y5 y6;have cbj:=HKW.o.cell2 CJ.o HTB.o.2.1;have zbj:=cell_lt cbj;have hj0:(0:Int)≤(j:Int):=(by omega);have hj1:(j:Int)<(row.length:Int):=(by omega);have HOK:=Hd hok;have HCA:=Hd hca;have HROW:=Hd hrow;have hrl:=hrow.len;clear erow ex hxd hca hok hrow;cases hk:(x.kind==0) with
   | true =>
    have hk0:x.kind=0:=(by simpa using hk);have HPS:=Hd (show plcF l2 j (r+1)=plcF l2 j r by
     rw [plcF_succ,HCA.o]
     funext k
     rw [if_neg (fun h=>h.1 hk0)])
    gi_wp2
    exact ⟨⟨r+1,mm,g,c,by omega,by simp,HX0.o,by rw [HPS.o]; exact HMP.o⟩,by simp [intOf]; omega⟩
   | false =>
    have hk0:x.kind≠0:=(by simpa using hk);obtain ⟨z,ez⟩:∃ z,z=keyT x:=⟨_,rfl⟩;have HVT:=Hd (show ∀ w',TxM w'→Calls Tryz.prog 67 #[(.agg #[.int .i64 x.kind,.string x.s,.int .i64 x.dn,.int .i64 x.ds,.int .i64 x.n,.slice Ay x.cols.length cy,.slice By x.rows.length ey])] w' (RetTx w' z) from fun w' h=>by
     obtain ⟨q1,q2,q3,q4⟩:=HOK.o hk0;rw [ez];exact value_Text x Ay By cy ey w' q1 q2 q3 q4 h)
    obtain ⟨ns,ens⟩:∃ ns,ns=plcF l2 j r z:=⟨_,rfl⟩;have hnl:ns.length≤r:=(by rw [ens]; exact plcF_len l2 j r z);have HPS:=Hd (show plcF l2 j (r+1)=fun k=>if k=z then plcF l2 j r z++[r] else plcF l2 j r k by
     rw [plcF_succ,HCA.o]
     funext k
     by_cases hz:k=z
     ·rw [if_pos ⟨hk0,by rw [hz,ez]⟩,if_pos hz,hz]
     ·rw [if_neg (fun h=>hz (by rw [← h.2,ez])),if_neg hz])
    have HNS:=Hd ens;clear ez ens
    gi_wp2
    refine ⟨trivial,(callsIn_wide.2 (HVT.o wr (HJT.o 0 wr HJW.o))).mono ?_⟩;rintro e2 w2 ⟨rfl,hx2⟩;have HX2':=Hd (HX0.o.trans hx2);have hmp2:=HMP.o.ext hx2;obtain ⟨A,cc,hval,hown,hA0,hA1⟩:=hmp2.at_ z;have hlk:(Instr.lookup 106 (.map (some W0.heap.size)) (.string z) false).run Tryz.prog w2=.ok (.slice A ns.length cc) w2:=by
     have h:=hmp2.map.get (P:=Tryz.prog) Tryz.underlying106 (klStr Tryz.underlying9) (.slice none 0 0) (fun w=>by kernel_rfl) z;rw [hval] at h;rw [HNS.o];exact h
    have HOWN:=Hd hown;rw [← HNS.o] at HOWN;have HA0:=Hd hA0;have HA1:=Hd hA1;have HMP2:=Hd hmp2;have hs2:=hx2.size;clear hval hown hA0 hA1 hmp2 hx2 y0 y1 y2 y3 y4 y5 y6 hc0 cbj;have hsa:(w2.alloc (.cells #[.int .i64 (r:Int)] 3)).heap.size=w2.heap.size+1:=(by simp);have HPUT:=Hd (show ∀ (A4:Option Addr) (c4:Nat) (w4:World),Own w4 W0.heap.size 3 1 A4 (ns.length+1) c4 ((nums ns).map (Value.int .i64)++[.int .i64 (r:Int)])→(w2.alloc (.cells #[.int .i64 (r:Int)] 3)).grownBy w4 (ob A)→(ob A4=ob A∨ob A4=some (w2.alloc (.cells #[.int .i64 (r:Int)] 3)).heap.size) →
      ∃ w5 m5 g5 c5,(Instr.mapUpdate 106 (.map (some W0.heap.size)) (.string z) (.slice A4 (ns.length+1) c4)).run Tryz.prog w4=.ok () w5∧MpI w5 W0.heap.size W0.heap.size (plcF l2 j (r+1)) m5 g5 c5∧Ext W0 w5 from by
     intro A4 c4 w4 h4 hg4 hat4;have hown4:Own w4 W0.heap.size 3 1 A4 ((plcF l2 j r z).length+1) c4 ((nums (plcF l2 j r z++[r])).map (Value.int .i64)):=by
      rw [HNS.o] at h4
      simpa [nums] using h4
     obtain ⟨w5,m5,g5,c5,hup,hg5,hmp5⟩:=(HMP2.o.ext ((Ext.refl w2).alloc (.cells #[.int .i64 (r:Int)] 3))).put (P:=Tryz.prog) Tryz.underlying106 (klStr Tryz.underlying9) HA0.o HA1.o (by omega) hown4 hg4 hat4;rw [← HPS.o] at hmp5;rw [← HNS.o] at hup;exact ⟨w5,m5,g5,c5,hup,hmp5,((HX2'.out.alloc (.cells #[.int .i64 (r:Int)] 3)).grown hg4 (fun k hk=>(HOWN.o.blk hk).1)).grown hg5 (fun k hk=>by injection hk with hk; omega)⟩)
    clear hsa
    gi_wp2_with (gi_at_builtin; go_must (refine wpListIn_app rfl (.tmp 37) (.tmp 39) rfl tiI rfl (HOWN.o.ext ((Ext.refl w2).alloc _)) rfl (Blk.rd (Blk.new _ _ _)) rfl (by simp [Value.oneCell']) (by omega) (by decide) (by simp; omega) ?_); intro A4 c4 w4 hown4 hg4 hat4; obtain ⟨w5,m5,g5,c5,hup,hmp5,hx5⟩:=HPUT.o A4 c4 w4 hown4 hg4 hat4; have HMP5:=Hd hmp5; have HX5:=Hd hx5; clear hown4 hg4 hat4 hmp5 hx5)
    exact ⟨⟨r+1,m5,g5,c5,by omega,by simp,HX5.o,HMP5.o⟩,by simp [intOf]; omega⟩
  ·have hre:r=l2.length:=(by omega);subst hre;have hi1:¬ ((l2.length:Int)<(l2.length:Int)):=(by omega);have c3:=HKW.o.cell2 CA.o HTB.o.2.2.1;have z3:=cell_lt c3
   gi_wp2
   clear c3 z3
   gi_loopw [44] (fun v44 wq=>∃ p:Nat,p≤l1.length∧v44=.int .i64 (p:Int)∧J (prsF l1 l2 i j p).length wq∧MpI wq W0.heap.size W0.heap.size (plcF l2 j l2.length) mm g c∧W0.heap.size≤wq.heap.size) (fun v44 _=>l1.length-(intOf v44).toNat)
   case atStart=>exact ⟨0,Nat.zero_le _,rfl,HJW.o,HMP.o,HX0.o.size⟩
   case round =>
    clear HMP HX0 HJW HKW;obtain ⟨p,hp,rfl,hjw,hmp,hsz⟩:=hrel;obtain ⟨wq,rfl⟩:∃ x:World,x=wr:=⟨_,rfl⟩;have HJW:=Hd hjw;have HKW:=Hd (HJK.o _ wq hjw);have HMP:=Hd hmp;clear hjw hmp;by_cases hlt:p<l1.length
    ·have hi1:(p:Int)<(l1.length:Int):=(by omega);have hi0:(0:Int)≤(p:Int):=(by omega);obtain ⟨b2,o2,C,ec,hB,hbT,hcT,hcp,hrow⟩:=HR1.o.at_ hlt;subst hB;have hc0:=HKW.o.cell2 hcT (HR1.o.blkT (fun e=>by rw [e] at hlt; simp at hlt));have hb:=cell_lt hc0;clear hbT hcT;obtain ⟨row,erow⟩:∃ row,row=l1[p]:=⟨_,rfl⟩;rw [← erow] at hc0 hcp hrow;obtain ⟨hjr,hok⟩:=HX1.o row (by rw [erow]; exact List.getElem_mem hlt);obtain ⟨b3,o3,Ay,cy,By,ey,hC,hb3,⟨y0,y1,y2,y3,y4,y5,y6⟩,-,-⟩:=(hrow.keep HKW.o).at_ hjr;subst hC;obtain ⟨x,ex⟩:∃ x,x=row[i]:=⟨_,rfl⟩;have hxd:row.getD i Val.zero=x:=(by rw [ex,List.getD_eq_getElem?_getD,List.getElem?_eq_getElem hjr]; rfl);have hca:cellAt l1 i p=x:=(by unfold cellAt; rw [show l1.getD p []=row by rw [erow,List.getD_eq_getElem?_getD,List.getElem?_eq_getElem hlt]; rfl,hxd]);rw [hxd] at hok;rw [← ex] at y0 y1 y2 y3 y4 y5 y6;have cbi:=HKW.o.cell2 CI.o HTB.o.2.2.2;have zbi:=cell_lt cbi;have hj0:(0:Int)≤(i:Int):=(by omega);have hj1:(i:Int)<(row.length:Int):=(by omega);have HROW:=Hd hrow;have HER:=Hd erow;have HEC:=Hd hcp;have hrl:=hrow.len;obtain ⟨z,ez⟩:∃ z,z=keyT x:=⟨_,rfl⟩;have HVT:=Hd (show ∀ w',TxM w'→Calls Tryz.prog 67 #[(.agg #[.int .i64 x.kind,.string x.s,.int .i64 x.dn,.int .i64 x.ds,.int .i64 x.n,.slice Ay x.cols.length cy,.slice By x.rows.length ey])] w' (RetTx w' z) from fun w' h=>by
      obtain ⟨q1,q2,q3,q4⟩:=hok;rw [ez];exact value_Text x Ay By cy ey w' q1 q2 q3 q4 h)
     obtain ⟨ns,ens⟩:∃ ns,ns=plcF l2 j l2.length z:=⟨_,rfl⟩;have HNS:=Hd ens;have HPK:=Hd (show plcF l2 j l2.length (keyT (cellAt l1 i p))=ns by rw [hca,← ez,ens]);clear erow ex hxd hca hok hrow hcp ez ens
     gi_wp2
     refine ⟨trivial,(callsIn_wide.2 (HVT.o wq (HJT.o _ wq HJW.o))).mono ?_⟩;rintro e2 w2 ⟨rfl,hx2⟩;have hmp2:=HMP.o.ext hx2;obtain ⟨A,cc,hval,hown,hA0,hA1⟩:=hmp2.at_ z;have hlk:(Instr.lookup 106 (.map (some W0.heap.size)) (.string z) false).run Tryz.prog w2=.ok (.slice A ns.length cc) w2:=by
      have h:=hmp2.map.get (P:=Tryz.prog) Tryz.underlying106 (klStr Tryz.underlying9) (.slice none 0 0) (fun w=>by kernel_rfl) z;rw [hval] at h;rw [HNS.o];exact h
     have HA1:=Hd hA1;have HMP2:=Hd hmp2;have HJ2:=Hd (HJX.o _ _ _ HJW.o hx2);have hs2:=hx2.size;clear hval hown hA0 hA1 hmp2 hx2 y0 y1 y2 y3 y4 y5 y6 hc0 cbi;have hnl:ns.length≤l2.length:=(by rw [HNS.o]; exact plcF_len _ _ _ _)
     gi_wp2
     clear hlk
     gi_loopw [56] (fun v56 wv=>∃ q:Nat,q≤ns.length∧v56=.int .i64 (q:Int)∧J ((prsF l1 l2 i j p).length+q) wv∧MpI wv W0.heap.size W0.heap.size (plcF l2 j l2.length) mm g c∧W0.heap.size≤wv.heap.size) (fun v56 _=>ns.length-(intOf v56).toNat)
     case atStart=>exact ⟨0,Nat.zero_le _,rfl,HJ2.o,HMP2.o,by omega⟩
     case round =>
      clear HMP2 HJ2;obtain ⟨q,hq,rfl,hjv,hmv,hsv⟩:=hrel;obtain ⟨wv,rfl⟩:∃ x:World,x=wr:=⟨_,rfl⟩;have HJV:=Hd hjv;have HKV:=Hd (HJK.o _ wv hjv);have HMV:=Hd hmv;clear hjv hmv;by_cases hlq:q<ns.length
      ·have hne:plcF l2 j l2.length z≠[]:=by
        intro e;rw [← HNS.o] at e;rw [e] at hlq;simp at hlq
       have hAe:=HA1.o hne;subst hAe;obtain ⟨nq,enq⟩:∃ nq,nq=ns[q]:=⟨_,rfl⟩;have hnq:nq<l2.length:=by
        rw [enq];have h:ns[q]∈plcF l2 j l2.length z:=(by rw [← HNS.o]; exact List.getElem_mem hlq);exact plcF_lt h
       have hcq:wv.cell? ⟨g z,q,none⟩=some (.int .i64 (nq:Int)):=(HMV.o.own z hne).cell_ (j:=q) (by rw [← HNS.o,enq]; simp [nums,hlq]);have zq:=cell_lt hcq;have cb:=HKV.o.cell2 CB.o HTB.o.1;have zb:=cell_lt cb;obtain ⟨b4,o4,C4,e4,hB4,hb4,hc4,hcp4,hrow4⟩:=(HR2.o.keep HKV.o).at_ hnq;subst hB4;have q0:(0:Int)≤(q:Int):=(by omega);have q1:(q:Int)<(ns.length:Int):=(by omega);have q2:(0:Int)≤(nq:Int):=(by omega);have q3:(nq:Int)<(l2.length:Int):=(by omega);have hat:(prsF l1 l2 i j l1.length)[(prsF l1 l2 i j p).length+q]?=some (p,nq):=by
        have h:=prsF_at (l1:=l1) (l2:=l2) (i:=i) (j:=j) hlt (q:=q) (by rw [HPK.o]; exact hlq);rw [h,enq];congr 2;exact List.getElem_of_eq HPK.o _
       obtain ⟨fn,tmps,assign,body,hy,hR⟩:=HRD.o _ wv HJV.o hsv p nq hlt hnq hat (some ⟨b3,o3,none⟩) C4 ec e4 (by rw [← HER.o]; exact HROW.o.keep HKV.o) (by rw [← HER.o]; exact HEC.o) hrow4 hcp4;rw [← HER.o] at hy;have HRR:=Hd hR;clear enq hne hrow4 hcp4 hat hR
       gi_wp2
       refine HRR.o.mono ?_;rintro e3 w3 ⟨rfl,hj3,S3,hb3',hS3⟩;have HJ3:=Hd hj3;have HMP3:=Hd (HMV.o.buts hb3' hS3);have hs3:=hb3'.size;clear hj3 hb3' hS3
       gi_wp2
       exact ⟨⟨q+1,by omega,by simp,HJ3.o,HMP3.o,by omega⟩,by simp [intOf]; omega⟩
      ·have hqe:q=ns.length:=(by omega);subst hqe;have hq1:¬ ((ns.length:Int)<(ns.length:Int)):=(by omega)
       gi_wp2
       refine ⟨⟨p+1,by omega,by simp,?_,HMV.o,by omega⟩,by simp [intOf]; omega⟩;rw [prsF_succ,List.length_append,List.length_map,HPK.o];exact HJV.o
    ·have hpe:p=l1.length:=(by omega);subst hpe;have hi1:¬ ((l1.length:Int)<(l1.length:Int)):=(by omega)
     gi_wp2
     go_end0
     exact ⟨⟨_,rfl⟩,HJW.o⟩

def noDefer (o:Oper):Bool:=match o.op with
 | .defer _=>false
 | _=>true
theorem noDefer_spec {ops:Array Oper} (h:ops.all noDefer=true) {i:Nat} {o:Oper} (ho:ops[i]?=some o):∀ c,o.op≠.defer c:=by
 intro c hc;rw [Array.all_eq_true] at h;obtain ⟨hlt,he⟩:=Array.getElem?_eq_some_iff.1 ho;have h1:=h i hlt;rw [he] at h1;unfold noDefer at h1;rw [hc] at h1;cases h1
section
variable {P:Program} {ops:Array Oper} {Q:Exit→Act→World→Prop}
theorem wpIn_region_lin {Γ:Type} {r:Nat} {n0:Nat} {id:Nat} {a0:Act} {w0:World} (hnf:ops.all noDefer=true) (hm:P.follows .mixedOrders=true) (D:Nat→List Nat) (hB:linB ops D a0.tmps.size=true)
  (R:Γ→World→Γ→World→Prop) (hrefl:∀ γ w,R γ w γ w) (htrans:∀ γ w γ' w' γ'' w'',R γ w γ' w'→R γ' w' γ'' w''→R γ w γ'' w'')
  (N:Nat→Γ→Prop) (G:Nat→List Value→Γ→World→Prop) (hst:∀ i l γ w γ' w',R γ w γ' w'→G i l γ w→G i l γ' w') (γ0:Γ) (hN:∀ i,N i γ0)
  (hstep:∀ i o,ops[i]?=some o→LinStep P ops D R N G a0 γ0 w0.drew i o)
  (hfin:∀ vals γ w,R γ0 w0.drew γ w→(∀ i,i<ops.size→G i ((D i).map vals) γ w)→Q .normal (lexFrame vals ops.toList 0 a0) w) :
  (Code.region id ops true).wpIn (Fence.wide.inRound r) n0 P Q a0 w0:=by
 obtain ⟨hsel,hnd,hlt,hacyc,hD,hguard,hlook⟩:=linB_spec hB;have main:∀ (fuel:Nat) (listed:Array Bool) (a:Act) (w:World) (vals:Nat→Value) (γ:Γ),LinInv ops D R N G a0 γ0 w0.drew listed a w vals γ →
   (List.range ops.size).countP (fun i => !listed.getD i true)≤fuel→wpAnyIn (Fence.wide.inRound r) n0 P .any ops Q fuel listed a w:=by
  intro fuel;have fin:∀ (listed:Array Bool) (a:Act) (w:World) (vals:Nat→Value) (γ:Γ),LinInv ops D R N G a0 γ0 w0.drew listed a w vals γ→(∀ j,j<ops.size→listed.getD j false=true)→Q .normal a w:=by
   intro listed a w vals γ I hall;have ha:a=lexFrame vals ops.toList 0 a0:=by
    have hs:=lexFrame_size vals ops.toList 0 a0;have ht:a.tmps=(lexFrame vals ops.toList 0 a0).tmps:=by
     apply Array.ext_getElem?;intro t;by_cases hex:∃ (j:Nat) (o:Oper),ops[j]?=some o∧o.dst=some t
     ·obtain ⟨j,o,hj,hd⟩:=hex;have hjl:j<ops.size:=(Array.getElem?_eq_some_iff.1 hj).1;rw [I.at_ j o t hj (hall j hjl) hd,lexFrame_at vals ops.toList 0 a0 j o t hnd (by simpa using hj) hd (hlt j o t hj hd),Nat.zero_add]
     ·have hno:∀ (j:Nat) (o:Oper),ops[j]?=some o→o.dst≠some t:=fun j o hj hd=>hex ⟨j,o,hj,hd⟩;rw [I.no t (fun j o hj _=>hno j o hj),lexFrame_no vals ops.toList 0 a0 t (fun o ho=>by
       obtain ⟨j,hj⟩:=List.mem_iff_getElem?.1 ho;exact hno j o (by simpa using hj))]
    have hdf:a.defers=(lexFrame vals ops.toList 0 a0).defers:=(by rw [I.defers,hs.2]);cases a;cases hl:lexFrame vals ops.toList 0 a0;rw [hl] at ht hdf;simp at ht hdf;rw [ht,hdf]
   rw [ha];exact hfin vals γ w I.rel fun i hi=>I.facts i hi (hall i hi)
  have ready_nil:∀ (listed:Array Bool),listed.size=ops.size→Region.ready .any ops listed=[]→∀ j,j<ops.size→listed.getD j false=true:=by
   intro listed hsz hr j
   induction j using Nat.strongRecOn with
   | _ j ih =>
    intro hj;cases hl:listed.getD j false with
    | true=>rfl
    | false =>
     exfalso;have hmem:j∈Region.ready .any ops listed:=by
      refine mem_ready.2 ⟨by rw [getD_both (by omega)]; exact hl,ops[j],by simp [hj],fun e he hb => ?_⟩;have hp:e.on∈predsOf ops[j]:=List.mem_map.2 ⟨e,List.mem_filter.2 ⟨by simpa using he,hb⟩,rfl⟩;have hlt':=hacyc j ops[j] e.on (by simp [hj]) hp;exact ih e.on hlt' (by omega)
     rw [hr] at hmem;cases hmem
  induction fuel with
  | zero =>
   intro listed a w vals γ I hc;have hall:∀ j,j<ops.size→listed.getD j false=true:=by
    intro j hj;have h0:(List.range ops.size).countP (fun i => !listed.getD i true)=0:=(by omega);rw [List.countP_eq_zero] at h0;have:=h0 j (List.mem_range.2 hj);rw [getD_both (by rw [I.size]; exact hj)] at this
    simpa using this
   refine ⟨?_,fin listed a w vals γ I hall⟩;cases hr:Region.ready .any ops listed with
   | nil=>rfl
   | cons i l =>
    exfalso;have hi:i∈Region.ready .any ops listed:=(by rw [hr]; exact List.mem_cons_self);obtain ⟨h0,o,ho,_⟩:=mem_ready.1 hi;have hil:i<ops.size:=(Array.getElem?_eq_some_iff.1 ho).1;rw [getD_both (by rw [I.size]; exact hil),hall i hil] at h0;cases h0
  | succ fuel ih =>
   intro listed a w vals γ I hc;refine ⟨fun hr=>fin listed a w vals γ I (ready_nil listed I.size hr),fun i hi => ?_⟩;obtain ⟨h0,o,ho,hpre⟩:=mem_ready.1 hi;have hil:i<ops.size:=(Array.getElem?_eq_some_iff.1 ho).1;have hisz:i<listed.size:=(by rw [I.size]; exact hil);have hun:listed.getD i false=false:=(by rw [← getD_both hisz]; exact h0);have hpl:∀ j,j∈predsOf o→listed.getD j false=true:=by
    intro j hj;obtain ⟨e,he,rfl⟩:=List.mem_map.1 hj;obtain ⟨he1,he2⟩:=List.mem_filter.1 he;exact hpre e (by simpa using he1) he2
   have hslot:∀ t,t∈o.looksAt ops→a.tmps.getD t undef=linLook ops o a0 vals t:=by
    intro t ht;unfold linLook;cases hf:(predsOf o).find? (fun j=>(ops[j]?).bind (·.dst)==some t) with
    | some j =>
     have hj:=List.mem_of_find?_eq_some hf;have hd:=List.find?_some hf;simp only [beq_iff_eq] at hd;cases hoj:ops[j]? with
     | none=>simp [hoj] at hd
     | some oj =>
      simp only [hoj,Option.bind_some] at hd;simp [I.at_ j oj t hoj (hpl j hj) hd]
    | none =>
     rw [List.find?_eq_none] at hf;have:a.tmps[t]?=a0.tmps[t]?:=I.no t (fun j oj hj hjl hd=>by
      rcases hlook i o t j oj ho ht hj hd with rfl | h | h
      ·rw [hun] at hjl; cases hjl
      ·exact hf j h (by simp [hj,hd])
      ·have:=I.down j oj hj hjl i h;rw [hun] at this; cases this)
     simp [this]
   have henv:execOp a.eval o=execOp (linEnv ops o a0 vals) o:=by
    refine execOp_congr o (fun cs b=>Region.noSelect_spec hsel i o cs b ho) fun x hx => ?_;cases x with
    | tmp t=>exact hslot t (List.mem_append_left _ (List.mem_filterMap.2 ⟨.tmp t,by simpa using hx,rfl⟩))
    | _=>rfl
   have hwant:Region.wanted o (yielded ops a.tmps)=linWanted o vals:=by
    unfold Region.wanted linWanted;cases hg:o.guard with
    | none=>rfl
    | some gb =>
     obtain ⟨g,b⟩:=gb;obtain ⟨hgp,og,t,hog,hdt⟩:=hguard i o g b ho hg;have h1:=I.at_ g og t hog (hpl g hgp) hdt;simp only [yielded,hog,Option.bind_some,hdt,h1];congr 1;unfold boolOf;split <;> simp_all
   have hpf:∀ j,j∈predsOf o→G j ((D j).map vals) γ w:=fun j hj=>I.facts j (by have:=hacyc i o j ho hj; omega) (hpl j hj);have hS:=hstep i o ho vals γ w I.rel (I.open_ i hil hun) hpf;have next:∀ (v:Value) (γ':Γ) (w':World),R γ w γ' w'→(∀ j,j≠i→j ∉ predsOf o→N j γ→N j γ')→G i ((D i).map (setV vals i v)) γ' w'→wpAnyIn (Fence.wide.inRound r) n0 P .any ops Q fuel (listed.setIfInBounds i true) (a.put o.dst v) w':=by
    intro v γ' w' hR hN' hG;have hget:∀ j,j≠i→(listed.setIfInBounds i true).getD j false=listed.getD j false:=fun j hj=>getD_set_ne false (Ne.symm hj);have hgeti:(listed.setIfInBounds i true).getD i false=true:=(by simp [hisz]);refine ih _ _ _ (setV vals i v) γ' ⟨by simp [I.size],?_,?_,?_,?_,htrans _ _ _ _ _ _ I.rel hR,?_,?_,?_⟩ ?_
    ·cases hd:o.dst <;> simp [Act.put,I.asize]
    ·cases hd:o.dst <;> simp [Act.put,I.defers]
    ·intro j oj t hj hjl hd;by_cases hji:j=i
     ·subst hji;obtain rfl:o=oj:=Option.some.inj (ho.symm.trans hj);have hlt':t<a.tmps.size:=(by rw [I.asize]; exact hlt j o t ho hd);simp [Act.put,hd,hlt',setV]
     ·rw [hget j hji] at hjl;have h1:=I.at_ j oj t hj hjl hd;simp only [setV,if_neg hji];cases hod:o.dst with
      | none=>exact h1
      | some d =>
       have hne:d≠t:=fun e=>hji (dst_inj hnd hj ho hd (by rw [hod,e]));simp only [Act.put];rw [Array.getElem?_setIfInBounds_ne hne];exact h1
    ·intro t hno;have hdt:o.dst≠some t:=hno i o ho hgeti;have h1:=I.no t (fun j oj hj hjl=>hno j oj hj (by
      by_cases hji:j=i
      ·subst hji; exact hgeti
      ·rw [hget j hji]; exact hjl))
     cases hod:o.dst with
     | none=>exact h1
     | some d =>
      have hne:d≠t:=fun e=>hdt (by rw [hod,e]);simp only [Act.put];rw [Array.getElem?_setIfInBounds_ne hne];exact h1
    ·intro j oj hj hjl k hk;by_cases hji:j=i
     ·subst hji;obtain rfl:o=oj:=Option.some.inj (ho.symm.trans hj);exact getD_set_true (hpl k hk)
     ·rw [hget j hji] at hjl;exact getD_set_true (I.down j oj hj hjl k hk)
    ·intro j hj hjl;by_cases hji:j=i
     ·subst hji; rw [hgeti] at hjl; cases hjl
     ·rw [hget j hji] at hjl;exact hN' j hji (fun hp=>by rw [hpl j hp] at hjl; cases hjl) (I.open_ j hj hjl)
    ·intro j hj hjl;by_cases hji:j=i
     ·subst hji; exact hG
     ·rw [hget j hji] at hjl;have h1:=hst _ _ _ _ _ _ hR (I.facts j hj hjl);have hmap:(D j).map (setV vals i v)=(D j).map vals:=by
       apply List.map_congr_left;intro k hk;have hki:k≠i:=by
        intro e;subst e
        rcases hD j ops[j] k (by simp [hj]) hk with h | h
        ·exact hji h.symm
        ·have:=I.down j ops[j] (by simp [hj]) hjl k h;rw [hun] at this; cases this
       simp [setV,hki]
      rw [hmap];exact h1
    ·have:=count_lt (p:=fun k => !listed.getD k true) (q:=fun k => !(listed.setIfInBounds i true).getD k true) (i:=i) (fun k hk=>by
      by_cases hki:k=i
      ·subst hki; simp [hisz] at hk
      ·rw [getD_set_ne true (Ne.symm hki)] at hk; exact hk) (by simpa using h0) (by simp [hisz]) (List.range ops.size) (List.mem_range.2 hil)
     omega
   unfold wpOpIn;simp only [ho];rw [hwant];by_cases hw:linWanted o vals=true
   ·rw [if_pos hw] at hS ⊢;refine ⟨fun _ _=>trivial,?_⟩;rw [Oper.semAt_plain _ _ _ (noDefer_spec hnf ho),henv];generalize (execOp (linEnv ops o a0 vals) o).run P w=r at hS;cases r with
    | ok n w' =>
     cases n <;> simp only [linUpon] at hS <;> simp only [Oper.uponIn]
     case value v=>obtain ⟨γ',h1,hn,h2⟩:=hS; exact next v γ' w' h1 hn h2
     case skip=>obtain ⟨γ',h1,hn,h2⟩:=hS; exact next undef γ' w' h1 hn h2
     case enter f args =>
      refine ⟨fun h=>(by cases h),CallsIn.inRound _ (callsIn_wide.2 (hS.mono ?_))⟩;intro e w'' ⟨v,he,γ',h1,hn,h2⟩;subst he;exact next v γ' w'' h1 hn h2
    | halt x w'=>simp only [linUpon] at hS
   ·rw [if_neg hw] at hS ⊢;exact ⟨fun _ _=>trivial,next undef γ w (hrefl _ _) (fun _ _ _ h=>h) hS⟩
 refine wpIn_region_any hm (main ops.size _ a0 w0.drew (fun _=>undef) γ0 ⟨by simp,rfl,rfl,?_,fun _ _=>rfl,hrefl _ _,?_,fun j _ _=>hN j,?_⟩ ?_)
 ·intro j o t hj hl _;have:j<ops.size:=(Array.getElem?_eq_some_iff.1 hj).1;simp [this] at hl
 ·intro j o hj hl;have:j<ops.size:=(Array.getElem?_eq_some_iff.1 hj).1;simp [this] at hl
 ·intro j hj hl;simp [hj] at hl
 ·have:=List.countP_le_length (p:=fun i => !(Array.replicate ops.size false).getD i true) (l:=List.range ops.size)
  simpa using this
end
theorem wpIn_region_chain {Γ:Type} {P:Program} {r n0:Nat} {l:List Oper} {Q:Exit→Act→World→Prop} {id:Nat} {a0:Act} {w0:World} (hnf:l.toArray.all noDefer=true) (hm:P.follows .mixedOrders=true) (D:Nat→List Nat) (hB:linB l.toArray D a0.tmps.size=true)
  (R:Γ→World→Γ→World→Prop) (hrefl:∀ γ w,R γ w γ w) (htrans:∀ γ w γ' w' γ'' w'',R γ w γ' w'→R γ' w' γ'' w''→R γ w γ'' w'')
  (N:Nat→Γ→Prop) (γ0:Γ) (hN:∀ i,N i γ0)
  (h:Chain P l.toArray D R N a0 γ0 w0.drew (fun Φs=>∀ vals γ w,R γ0 w0.drew γ w→(∀ i,i<l.length→gOf Φs i ((D i).map vals) γ w)→Q .normal (lexFrame vals l 0 a0) w) 0 [] l) :
  (Code.region id l.toArray true).wpIn (Fence.wide.inRound r) n0 P Q a0 w0:=by
 obtain ⟨Φs,-,h2,h3,h4⟩:=Chain.full (k:=0) (done:=[]) rfl (fun _ h=>by cases h) h;obtain ⟨-,-,-,hac,-⟩:=linB_spec hB;refine wpIn_region_lin hnf hm D hB R hrefl htrans N (gOf Φs) (fun i l γ w γ' w' r hg => ?_) γ0 hN (fun i o hi => ?_) (fun vals γ w hr hg=>h3 vals γ w hr fun i hi=>hg i (by simpa using hi))
 ·unfold gOf at hg ⊢;rw [List.getD_eq_getElem?_getD] at hg ⊢;cases hf:Φs[i]? with
  | none=>trivial
  | some Φ =>
   rw [hf] at hg;exact h2 Φ (List.mem_of_getElem? hf) l γ w γ' w' r hg
 ·have:=h4 i o (by simpa using hi);simp only [Nat.zero_add] at this;exact this.congr (fun j hj=>gOf_lt (by have:=hac i o j hi hj; omega)) (gOf_lt (by omega))

section
variable {P:Program} {ops:Array Oper} {Q:Exit→Act→World→Prop}
theorem wpInW_region_lin {Γ:Type} {n0:Nat} {id:Nat} {a0:Act} {w0:World} (hnf:ops.all noDefer=true) (hm:P.follows .mixedOrders=true) (D:Nat→List Nat) (hB:linB ops D a0.tmps.size=true)
  (R:Γ→World→Γ→World→Prop) (hrefl:∀ γ w,R γ w γ w) (htrans:∀ γ w γ' w' γ'' w'',R γ w γ' w'→R γ' w' γ'' w''→R γ w γ'' w'')
  (N:Nat→Γ→Prop) (G:Nat→List Value→Γ→World→Prop) (hst:∀ i l γ w γ' w',R γ w γ' w'→G i l γ w→G i l γ' w') (γ0:Γ) (hN:∀ i,N i γ0)
  (hstep:∀ i o,ops[i]?=some o→LinStep P ops D R N G a0 γ0 w0.drew i o)
  (hfin:∀ vals γ w,R γ0 w0.drew γ w→(∀ i,i<ops.size→G i ((D i).map vals) γ w)→Q .normal (lexFrame vals ops.toList 0 a0) w) :
  (Code.region id ops true).wpIn Fence.wide n0 P Q a0 w0:=by
 obtain ⟨hsel,hnd,hlt,hacyc,hD,hguard,hlook⟩:=linB_spec hB;have main:∀ (fuel:Nat) (listed:Array Bool) (a:Act) (w:World) (vals:Nat→Value) (γ:Γ),LinInv ops D R N G a0 γ0 w0.drew listed a w vals γ →
   (List.range ops.size).countP (fun i => !listed.getD i true)≤fuel→wpAnyIn Fence.wide n0 P .any ops Q fuel listed a w:=by
  intro fuel;have fin:∀ (listed:Array Bool) (a:Act) (w:World) (vals:Nat→Value) (γ:Γ),LinInv ops D R N G a0 γ0 w0.drew listed a w vals γ→(∀ j,j<ops.size→listed.getD j false=true)→Q .normal a w:=by
   intro listed a w vals γ I hall;have ha:a=lexFrame vals ops.toList 0 a0:=by
    have hs:=lexFrame_size vals ops.toList 0 a0;have ht:a.tmps=(lexFrame vals ops.toList 0 a0).tmps:=by
     apply Array.ext_getElem?;intro t;by_cases hex:∃ (j:Nat) (o:Oper),ops[j]?=some o∧o.dst=some t
     ·obtain ⟨j,o,hj,hd⟩:=hex;have hjl:j<ops.size:=(Array.getElem?_eq_some_iff.1 hj).1;rw [I.at_ j o t hj (hall j hjl) hd,lexFrame_at vals ops.toList 0 a0 j o t hnd (by simpa using hj) hd (hlt j o t hj hd),Nat.zero_add]
     ·have hno:∀ (j:Nat) (o:Oper),ops[j]?=some o→o.dst≠some t:=fun j o hj hd=>hex ⟨j,o,hj,hd⟩;rw [I.no t (fun j o hj _=>hno j o hj),lexFrame_no vals ops.toList 0 a0 t (fun o ho=>by
       obtain ⟨j,hj⟩:=List.mem_iff_getElem?.1 ho;exact hno j o (by simpa using hj))]
    have hdf:a.defers=(lexFrame vals ops.toList 0 a0).defers:=(by rw [I.defers,hs.2]);cases a;cases hl:lexFrame vals ops.toList 0 a0;rw [hl] at ht hdf;simp at ht hdf;rw [ht,hdf]
   rw [ha];exact hfin vals γ w I.rel fun i hi=>I.facts i hi (hall i hi)
  have ready_nil:∀ (listed:Array Bool),listed.size=ops.size→Region.ready .any ops listed=[]→∀ j,j<ops.size→listed.getD j false=true:=by
   intro listed hsz hr j
   induction j using Nat.strongRecOn with
   | _ j ih =>
    intro hj;cases hl:listed.getD j false with
    | true=>rfl
    | false =>
     exfalso;have hmem:j∈Region.ready .any ops listed:=by
      refine mem_ready.2 ⟨by rw [getD_both (by omega)]; exact hl,ops[j],by simp [hj],fun e he hb => ?_⟩;have hp:e.on∈predsOf ops[j]:=List.mem_map.2 ⟨e,List.mem_filter.2 ⟨by simpa using he,hb⟩,rfl⟩;have hlt':=hacyc j ops[j] e.on (by simp [hj]) hp;exact ih e.on hlt' (by omega)
     rw [hr] at hmem;cases hmem
  induction fuel with
  | zero =>
   intro listed a w vals γ I hc;have hall:∀ j,j<ops.size→listed.getD j false=true:=by
    intro j hj;have h0:(List.range ops.size).countP (fun i => !listed.getD i true)=0:=(by omega);rw [List.countP_eq_zero] at h0;have:=h0 j (List.mem_range.2 hj);rw [getD_both (by rw [I.size]; exact hj)] at this
    simpa using this
   refine ⟨?_,fin listed a w vals γ I hall⟩;cases hr:Region.ready .any ops listed with
   | nil=>rfl
   | cons i l =>
    exfalso;have hi:i∈Region.ready .any ops listed:=(by rw [hr]; exact List.mem_cons_self);obtain ⟨h0,o,ho,_⟩:=mem_ready.1 hi;have hil:i<ops.size:=(Array.getElem?_eq_some_iff.1 ho).1;rw [getD_both (by rw [I.size]; exact hil),hall i hil] at h0;cases h0
  | succ fuel ih =>
   intro listed a w vals γ I hc;refine ⟨fun hr=>fin listed a w vals γ I (ready_nil listed I.size hr),fun i hi => ?_⟩;obtain ⟨h0,o,ho,hpre⟩:=mem_ready.1 hi;have hil:i<ops.size:=(Array.getElem?_eq_some_iff.1 ho).1;have hisz:i<listed.size:=(by rw [I.size]; exact hil);have hun:listed.getD i false=false:=(by rw [← getD_both hisz]; exact h0);have hpl:∀ j,j∈predsOf o→listed.getD j false=true:=by
    intro j hj;obtain ⟨e,he,rfl⟩:=List.mem_map.1 hj;obtain ⟨he1,he2⟩:=List.mem_filter.1 he;exact hpre e (by simpa using he1) he2
   have hslot:∀ t,t∈o.looksAt ops→a.tmps.getD t undef=linLook ops o a0 vals t:=by
    intro t ht;unfold linLook;cases hf:(predsOf o).find? (fun j=>(ops[j]?).bind (·.dst)==some t) with
    | some j =>
     have hj:=List.mem_of_find?_eq_some hf;have hd:=List.find?_some hf;simp only [beq_iff_eq] at hd;cases hoj:ops[j]? with
     | none=>simp [hoj] at hd
     | some oj =>
      simp only [hoj,Option.bind_some] at hd;simp [I.at_ j oj t hoj (hpl j hj) hd]
    | none =>
     rw [List.find?_eq_none] at hf;have:a.tmps[t]?=a0.tmps[t]?:=I.no t (fun j oj hj hjl hd=>by
      rcases hlook i o t j oj ho ht hj hd with rfl | h | h
      ·rw [hun] at hjl; cases hjl
      ·exact hf j h (by simp [hj,hd])
      ·have:=I.down j oj hj hjl i h;rw [hun] at this; cases this)
     simp [this]
   have henv:execOp a.eval o=execOp (linEnv ops o a0 vals) o:=by
    refine execOp_congr o (fun cs b=>Region.noSelect_spec hsel i o cs b ho) fun x hx => ?_;cases x with
    | tmp t=>exact hslot t (List.mem_append_left _ (List.mem_filterMap.2 ⟨.tmp t,by simpa using hx,rfl⟩))
    | _=>rfl
   have hwant:Region.wanted o (yielded ops a.tmps)=linWanted o vals:=by
    unfold Region.wanted linWanted;cases hg:o.guard with
    | none=>rfl
    | some gb =>
     obtain ⟨g,b⟩:=gb;obtain ⟨hgp,og,t,hog,hdt⟩:=hguard i o g b ho hg;have h1:=I.at_ g og t hog (hpl g hgp) hdt;simp only [yielded,hog,Option.bind_some,hdt,h1];congr 1;unfold boolOf;split <;> simp_all
   have hpf:∀ j,j∈predsOf o→G j ((D j).map vals) γ w:=fun j hj=>I.facts j (by have:=hacyc i o j ho hj; omega) (hpl j hj);have hS:=hstep i o ho vals γ w I.rel (I.open_ i hil hun) hpf;have next:∀ (v:Value) (γ':Γ) (w':World),R γ w γ' w'→(∀ j,j≠i→j ∉ predsOf o→N j γ→N j γ')→G i ((D i).map (setV vals i v)) γ' w'→wpAnyIn Fence.wide n0 P .any ops Q fuel (listed.setIfInBounds i true) (a.put o.dst v) w':=by
    intro v γ' w' hR hN' hG;have hget:∀ j,j≠i→(listed.setIfInBounds i true).getD j false=listed.getD j false:=fun j hj=>getD_set_ne false (Ne.symm hj);have hgeti:(listed.setIfInBounds i true).getD i false=true:=(by simp [hisz]);refine ih _ _ _ (setV vals i v) γ' ⟨by simp [I.size],?_,?_,?_,?_,htrans _ _ _ _ _ _ I.rel hR,?_,?_,?_⟩ ?_
    ·cases hd:o.dst <;> simp [Act.put,I.asize]
    ·cases hd:o.dst <;> simp [Act.put,I.defers]
    ·intro j oj t hj hjl hd;by_cases hji:j=i
     ·subst hji;obtain rfl:o=oj:=Option.some.inj (ho.symm.trans hj);have hlt':t<a.tmps.size:=(by rw [I.asize]; exact hlt j o t ho hd);simp [Act.put,hd,hlt',setV]
     ·rw [hget j hji] at hjl;have h1:=I.at_ j oj t hj hjl hd;simp only [setV,if_neg hji];cases hod:o.dst with
      | none=>exact h1
      | some d =>
       have hne:d≠t:=fun e=>hji (dst_inj hnd hj ho hd (by rw [hod,e]));simp only [Act.put];rw [Array.getElem?_setIfInBounds_ne hne];exact h1
    ·intro t hno;have hdt:o.dst≠some t:=hno i o ho hgeti;have h1:=I.no t (fun j oj hj hjl=>hno j oj hj (by
      by_cases hji:j=i
      ·subst hji; exact hgeti
      ·rw [hget j hji]; exact hjl))
     cases hod:o.dst with
     | none=>exact h1
     | some d =>
      have hne:d≠t:=fun e=>hdt (by rw [hod,e]);simp only [Act.put];rw [Array.getElem?_setIfInBounds_ne hne];exact h1
    ·intro j oj hj hjl k hk;by_cases hji:j=i
     ·subst hji;obtain rfl:o=oj:=Option.some.inj (ho.symm.trans hj);exact getD_set_true (hpl k hk)
     ·rw [hget j hji] at hjl;exact getD_set_true (I.down j oj hj hjl k hk)
    ·intro j hj hjl;by_cases hji:j=i
     ·subst hji; rw [hgeti] at hjl; cases hjl
     ·rw [hget j hji] at hjl;exact hN' j hji (fun hp=>by rw [hpl j hp] at hjl; cases hjl) (I.open_ j hj hjl)
    ·intro j hj hjl;by_cases hji:j=i
     ·subst hji; exact hG
     ·rw [hget j hji] at hjl;have h1:=hst _ _ _ _ _ _ hR (I.facts j hj hjl);have hmap:(D j).map (setV vals i v)=(D j).map vals:=by
       apply List.map_congr_left;intro k hk;have hki:k≠i:=by
        intro e;subst e
        rcases hD j ops[j] k (by simp [hj]) hk with h | h
        ·exact hji h.symm
        ·have:=I.down j ops[j] (by simp [hj]) hjl k h;rw [hun] at this; cases this
       simp [setV,hki]
      rw [hmap];exact h1
    ·have:=count_lt (p:=fun k => !listed.getD k true) (q:=fun k => !(listed.setIfInBounds i true).getD k true) (i:=i) (fun k hk=>by
      by_cases hki:k=i
      ·subst hki; simp [hisz] at hk
      ·rw [getD_set_ne true (Ne.symm hki)] at hk; exact hk) (by simpa using h0) (by simp [hisz]) (List.range ops.size) (List.mem_range.2 hil)
     omega
   unfold wpOpIn;simp only [ho];rw [hwant];by_cases hw:linWanted o vals=true
   ·rw [if_pos hw] at hS ⊢;refine ⟨fun _ _=>trivial,?_⟩;rw [Oper.semAt_plain _ _ _ (noDefer_spec hnf ho),henv];generalize (execOp (linEnv ops o a0 vals) o).run P w=r at hS;cases r with
    | ok n w' =>
     cases n <;> simp only [linUpon] at hS <;> simp only [Oper.uponIn]
     case value v=>obtain ⟨γ',h1,hn,h2⟩:=hS; exact next v γ' w' h1 hn h2
     case skip=>obtain ⟨γ',h1,hn,h2⟩:=hS; exact next undef γ' w' h1 hn h2
     case enter f args =>
      refine ⟨fun h=>(by cases h),callsIn_wide.2 (hS.mono ?_)⟩;intro e w'' ⟨v,he,γ',h1,hn,h2⟩;subst he;exact next v γ' w'' h1 hn h2
    | halt x w'=>simp only [linUpon] at hS
   ·rw [if_neg hw] at hS ⊢;exact ⟨fun _ _=>trivial,next undef γ w (hrefl _ _) (fun _ _ _ h=>h) hS⟩
 refine wpIn_region_any hm (main ops.size _ a0 w0.drew (fun _=>undef) γ0 ⟨by simp,rfl,rfl,?_,fun _ _=>rfl,hrefl _ _,?_,fun j _ _=>hN j,?_⟩ ?_)
 ·intro j o t hj hl _;have:j<ops.size:=(Array.getElem?_eq_some_iff.1 hj).1;simp [this] at hl
 ·intro j o hj hl;have:j<ops.size:=(Array.getElem?_eq_some_iff.1 hj).1;simp [this] at hl
 ·intro j hj hl;simp [hj] at hl
 ·have:=List.countP_le_length (p:=fun i => !(Array.replicate ops.size false).getD i true) (l:=List.range ops.size)
  simpa using this
end
theorem wpInW_region_chain {Γ:Type} {P:Program} {n0:Nat} {l:List Oper} {Q:Exit→Act→World→Prop} {id:Nat} {a0:Act} {w0:World} (hnf:l.toArray.all noDefer=true) (hm:P.follows .mixedOrders=true) (D:Nat→List Nat) (hB:linB l.toArray D a0.tmps.size=true)
  (R:Γ→World→Γ→World→Prop) (hrefl:∀ γ w,R γ w γ w) (htrans:∀ γ w γ' w' γ'' w'',R γ w γ' w'→R γ' w' γ'' w''→R γ w γ'' w'')
  (N:Nat→Γ→Prop) (γ0:Γ) (hN:∀ i,N i γ0)
  (h:Chain P l.toArray D R N a0 γ0 w0.drew (fun Φs=>∀ vals γ w,R γ0 w0.drew γ w→(∀ i,i<l.length→gOf Φs i ((D i).map vals) γ w)→Q .normal (lexFrame vals l 0 a0) w) 0 [] l) :
  (Code.region id l.toArray true).wpIn Fence.wide n0 P Q a0 w0:=by
 obtain ⟨Φs,-,h2,h3,h4⟩:=Chain.full (k:=0) (done:=[]) rfl (fun _ h=>by cases h) h;obtain ⟨-,-,-,hac,-⟩:=linB_spec hB;refine wpInW_region_lin hnf hm D hB R hrefl htrans N (gOf Φs) (fun i l γ w γ' w' r hg => ?_) γ0 hN (fun i o hi => ?_) (fun vals γ w hr hg=>h3 vals γ w hr fun i hi=>hg i (by simpa using hi))
 ·unfold gOf at hg ⊢;rw [List.getD_eq_getElem?_getD] at hg ⊢;cases hf:Φs[i]? with
  | none=>trivial
  | some Φ =>
   rw [hf] at hg;exact h2 Φ (List.mem_of_getElem? hf) l γ w γ' w' r hg
 ·have:=h4 i o (by simpa using hi);simp only [Nat.zero_add] at this;exact this.congr (fun j hj=>gOf_lt (by have:=hac i o j hi hj; omega)) (gOf_lt (by omega))


def CalmAt {β:Type} (l:Nat) (J:β→World→Prop):Prop:=∀ (s:β) (W:World) (o o':Obj),J s W→W.heap[l]?=some o→o.isCells=false→J s (W.putObj l o')
section
variable {F:Fence} {n:Nat} {P:Program}
theorem yield_at {β:Type} {J:β→World→Prop} {s':β} {Fp:Nat→Prop} {Mid:Act→World→Prop} {l D fn m:Nat} {tmps:Array Value} {ps:Array Tmp} {assign body:Code} {args:Array Value} {W:World} (hfn:F.fn fn)
  (hr:Rdy { state:=.ready,pending:=none,fn:=fn,tmps:=tmps,params:=ps,assign:=assign,body:=body,defers:=D } l D W) (hps:args.size=ps.size)
  (hmid:∀ (a:Act) (W:World) (o o':Obj),Mid a W→W.heap[l]?=some o→o.isCells=false→Mid a (W.putObj l o')) (hJ:CalmAt l J)
  (hassign:assign.wpIn (F.inRound l) m P (Exit.then (fun a₁ W₁=>Mid a₁ W₁∧KeepsOthers W W₁∧ButS Fp W W₁) (fun _ _ _=>False)) { tmps:=(ps.zip args).foldl (fun t (p,v)=>t.setIfInBounds p v) tmps,defers:=[] } W)
  (hbody:∀ (a₁:Act) (W₁:World),Mid a₁ W₁→body.wpIn (F.inRound l) m P (fun e _ W₃=>e=.normal∧KeepsOthers W₁ W₃∧J s' W₃∧ButS Fp W₁ W₃) a₁ W₁) :
  YieldAt F m P l args W fun e W'=>e=.returned (.bool true)∧J s' W'∧ButS Fp W W'∧Rdy { state:=.ready,pending:=none,fn:=fn,tmps:=tmps,params:=ps,assign:=assign,body:=body,defers:=D } l D W':=by
 obtain ⟨hl,hk,hDl⟩:=hr;refine ⟨fn,_,assign,body,run_yield hl hps,roundIn_of_wpIn hfn (wpIn_mono hassign ?_)⟩;intro e a W1 hp;cases e with
 | normal =>
  obtain ⟨hm,hk1,hb1⟩:=hp;have hl1:=hk1.same _ _ hl rfl;have hd1:=hk1.same _ _ hk rfl;refine ⟨_,run_beginRound hl1 rfl,wpIn_mono (hbody a _ (hmid a W1 _ _ hm hl1 rfl)) ?_⟩;rintro e3 a3 W3 ⟨rfl,hk3,hj3,hb3⟩;have hlt:l<W1.heap.size:=(Array.getElem?_eq_some_iff.1 hl1).1;have hl3:=hk3.same l _ (World.putObj_heap_same hlt) rfl;have hd3:=hk3.same D _ ((World.putObj_heap_other (by omega)).trans hd1) rfl;have hlt3:l<W3.heap.size:=(Array.getElem?_eq_some_iff.1 hl3).1;refine ⟨_,_,run_endRound none hl3,rfl,hJ s' W3 _ _ hj3 hl3 rfl,⟨hb3.os.trans hb1.os,hb3.tape.trans hb1.tape,hb3.output.trans hb1.output,?_,fun b hb hF => ?_⟩,World.putObj_heap_same hlt3,(World.putObj_heap_other (by omega)).trans hd3,hDl⟩
  ·have h1:=hb1.size;have h3:=hb3.size;simp only [World.putObj_size] at h3 ⊢;omega
  ·by_cases hbl:b=l
   ·subst hbl;rw [World.putObj_heap_same hlt3,hl];rfl
   ·have h1:=hb1.size;rw [World.putObj_heap_other hbl,hb3.block b (by simp only [World.putObj_size]; omega) hF,World.putObj_heap_other hbl];exact hb1.block b hb hF
 | ret=>exact hp.elim
 | exit id=>exact hp.elim
 | goto t=>exact hp.elim
 | panic c=>exact hp.elim
 | outgrown=>exact hp.elim
theorem wpIn_range_at {β:Type} {J:β→World→Prop} {s0 s1:β} {g:Operand} {ps:Array Tmp} {assign body:Code} {Q:Exit→Act→World→Prop} {a:Act} {w:World}
  (hro:F.round=none) (h1:1≤n) {gf:Nat} {lb:Array Value} (hg:a.eval g=.func (.func gf) #[] lb) (hFg:F.fn gf) (eg:∀ args w,(callFunc gf args).run P w=.ok (.enter gf args) w)
  (hJ:CalmAt (w.heap.size+1) J) (h00:∀ r:Loop,J s0 ((w.alloc (.deferred (some []))).alloc (.loop r)))
  (hiter:∀ (fn:Nat) (W:World),F.fn fn→J s0 W→Rdy { state:=.ready,pending:=none,fn:=fn,tmps:=a.tmps,params:=ps,assign:=assign,body:=body,defers:=w.heap.size } (w.heap.size+1) w.heap.size W →
   CallsIn F (n-1) P gf (#[.func (.yield (w.heap.size+1)) #[] #[]]++lb) W fun e W'=>(∃ v,e=.returned v)∧J s1 W'∧Rdy { state:=.ready,pending:=none,fn:=fn,tmps:=a.tmps,params:=ps,assign:=assign,body:=body,defers:=w.heap.size } (w.heap.size+1) w.heap.size W')
  (hdone:∀ (W:World),J s1 W→W.heap[w.heap.size]?=some (.deferred (some []))→Q .normal { a with defers:={ target:=.collected w.heap.size,args:=#[] } :: a.defers } W) :
  (Code.rangeFunc g ps assign body).wpIn F n P Q a w:=by
 refine wpIn_rangeFunc ?_;intro fn hfn;rw [hro];obtain ⟨W1,hW1⟩:∃ x,x=(w.alloc (.deferred (some []))).alloc (.loop { state:=.ready,pending:=none,fn:=fn,tmps:=a.tmps,params:=ps,assign:=assign,body:=body,defers:=w.heap.size }):=⟨_,rfl⟩;have hL1:W1.heap[w.heap.size+1]?=some (.loop { state:=.ready,pending:=none,fn:=fn,tmps:=a.tmps,params:=ps,assign:=assign,body:=body,defers:=w.heap.size }):=by
  have:=World.alloc_heap_new (w.alloc (.deferred (some []))) (.loop { state:=.ready,pending:=none,fn:=fn,tmps:=a.tmps,params:=ps,assign:=assign,body:=body,defers:=w.heap.size });rw [hW1];rwa [World.size_alloc] at this
 have hK1:W1.heap[w.heap.size]?=some (.deferred (some [])):=by
  rw [hW1];exact (Below.heap_alloc _ _ _ (by simp)).trans (World.alloc_heap_new w _)
 refine ⟨w.heap.size+1,[{ target:=.collected w.heap.size,args:=#[] }],W1,{ target:=.fn (.func gf) lb,args:=#[.func (.yield (w.heap.size+1)) #[] #[]] },W1,gf,#[.func (.yield (w.heap.size+1)) #[] #[]]++lb,W1,by rw [hW1]; exact run_enterLoop_outer _ _ _ _ _,?_,?_,?_,fun _=>h1,?_⟩
 ·simp only [resolve,hg];simp [go_sem]
 ·intro f' hf';simp [Target.leads] at hf';subst hf';exact hFg
 ·simp [invoke,go_sem,eg]
 ·refine (hiter fn W1 hfn (by rw [hW1]; exact h00 _) ⟨hL1,hK1,by omega⟩).mono ?_;rintro e W2 ⟨⟨v,rfl⟩,hj,hl,hk,hDl⟩;exact ⟨none,_,run_endLoop hl (by simp),hdone _ (hJ _ _ _ _ hj hl rfl) ((World.putObj_heap_other (by omega)).trans hk)⟩
end

theorem r09_index (A:Option Addr) (c:Nat) (l:List ByteArray) (v:ByteArray) (w:World) (S:Nat→Prop) (h:Strs w S A l) :
  Calls Tryz.prog 38 #[.slice A l.length c,.string v] w (SameI w (idxS l v)):=by
 have hn:=h.2.1
 go_enter Tryz.func38,Tryz.ntmps38
 go_wp2
 go_loop [5] (fun i=>∃ k:Nat,k≤l.length∧i=.int .i64 k∧∀ j (h:j<l.length),j<k→l[j]≠v) (fun i=>l.length-(intOf i).toNat)
 case atStart=>exact ⟨0,Nat.zero_le _,rfl,by intros; omega⟩
 case round =>
  obtain ⟨k,hk,rfl,hall⟩:=hrel;have HA:=Hd hall;clear hall;by_cases hlt:k<l.length
  ·obtain ⟨b1,o1,rfl,z1,c1⟩:=h.at_ hlt;by_cases hv:l[k]=v
   ·have ht:(l[k].toList==v.toList)=true:=(by rw [bytes_beq]; simp [hv]);have HV:=Hd hv;clear hv;go_wp2;go_ret;exact ⟨by rw [idxS_found hlt (fun j hj h=>HA.o j hj h) HV.o]; rfl,rfl⟩
   ·have ht:(l[k].toList==v.toList)=false:=(by rw [bytes_beq]; simp [hv]);have HV:=Hd hv;clear hv;go_wp2
    go_round
    case rel =>
     refine ⟨k+1,by omega,by go_num,fun j h hj => ?_⟩;by_cases hjk:j=k
     ·subst hjk; exact HV.o
     ·exact HA.o j h (by omega)
    case measure=>simp [intOf]; omega
  ·go_wp2;go_ret;exact ⟨by rw [idxS_none (fun j hj=>HA.o j hj (by omega))]; rfl,rfl⟩

theorem table_copied (q:Nat) (l:List Val) (A:Option Addr) (c:Nat) (w:World) (S:Nat→Prop) (h:Row w S q A l):Calls Tryz.prog 36 #[.slice A l.length c] w (RetRow w q l):=by
 have hlen:=h.len;have HROW:=Hd h;clear h;obtain ⟨cur2,hmk2,hcur2⟩:=run_mk0 tiV l.length (by omega) (by decide);have HST:=Hd (show OwnVs (w.alloc (.cells cur2 31)) w.heap.size (fun b=>w.heap.size≤b) q (some ⟨w.heap.size,0,none⟩) l.length (l.take 0) from ⟨[],Own.made w _ _ _ cur2 (by unfold maxLen; omega) hcur2,VL.nil _⟩);clear hcur2
 go_enter Tryz.func36,Tryz.ntmps36
 go_wp2;clear hmk2
 go_loopw [11,3] (fun i v wi=>∃ (j:Nat) (A':Option Addr) (c':Nat),j≤l.length∧i=.int .i64 j∧v=.slice A' j c'∧Ext w wi∧OwnVs wi w.heap.size (fun b=>w.heap.size≤b) q A' c' (l.take j)) (fun i _ _=>l.length-(intOf i).toNat)
 case atStart=>exact ⟨0,_,_,Nat.zero_le _,rfl,rfl,(Ext.refl w).alloc _,HST.o⟩
 case round =>
  obtain ⟨j,A',c',hj,rfl,rfl,hbi,hoi⟩:=hrel;have HBI:=Hd hbi;have HOI:=Hd hoi;have hszi:=hbi.size;by_cases hlt2:j<l.length
  ·obtain ⟨b2,o2,A5,c5,B5,e5,rfl,z2,⟨p0,p1,p2,p3,p4,p5,p6⟩,⟨hq,_,_⟩,hv⟩:=(HROW.o.keep (hbi.kept _)).at_ hlt2;have HV:=Hd hv;clear hv hbi hoi
   go_wp2_with fail
   refine (value_Copy (q-1) _ _ _ _ _ _ S (HV.o.keep (Kept.alloc _ _ _))).mono ?_;rintro e3 w3 ⟨A3,c3,B3,e3,rfl,hcc3,hv3,hx3⟩;have HX3:=Hd (((Ext.refl wr).alloc _).trans hx3);have hz3:wr.heap.size<w3.heap.size:=(by have:=hx3.size; simp at this; omega);have hv3':=hv3.mono (T:=fun b=>wr.heap.size≤b) (fun i _ hi=>by unfold Fresh at hi; simp at hi; omega);obtain ⟨xs,hown,hvl⟩:=HOI.o.ext (HX3.o.alloc (.cells (vcells l[j] A3 c3 B3 e3).toArray 31));have hlj:(l.take j).length=j:=(by rw [List.length_take]; omega);have HVL:=Hd hvl;rw [hlj] at hown;have HOWN:=Hd hown;have HLJ:=Hd hlj;have HV3:=Hd hv3';clear hvl hown hv3 hv3' hx3 hlj
   go_wp2_with (at_builtin; go_must (refine wpList_app rfl (.tmp 15) (.tmp 18) rfl tiV rfl HOWN.o rfl (Blk.rd (Blk.new _ _ _)) rfl vcells_one (by omega) (by decide) (by simp; omega) ?_); intro A4 c4 w4 hown4 hg4 hat4)
   go_roundw
   case rel =>
    refine ⟨j+1,A4,c4,by omega,by go_num,rfl,?_,?_⟩
    ·exact ((HBI.o.trans HX3.o).alloc _).grown hg4 (fun k hk=>(HOWN.o.blk hk).1)
    ·rw [List.take_succ_eq_append_getElem hlt2];refine OwnVs.push HVL.o (by rw [HLJ.o]; exact hown4) hg4 hat4 ⟨hq,hcc3⟩ ((HV3.o.keep (Kept.alloc _ _ _)).mono fun i _ hi=>⟨fun h0 => ?_,by omega⟩);have:=(HOI.o.blk h0).2;omega
   case measure=>simp [intOf]; omega
  ·have hjr:j=l.length:=(by omega);subst hjr;have HR:=Hd (show OwnVs wr w.heap.size (fun b=>w.heap.size≤b) q A' c' l by have:=HOI.o; rwa [List.take_of_length_le (Nat.le_refl _)] at this);clear hbi hoi;go_wp2;go_ret;exact ⟨A',c',rfl,HR.o,HBI.o⟩

def isTabB (x:Val):Bool:=decide (x.kind=5) && rightB x
theorem r09_IsTable (q:Nat) (x:Val) (A B:Option Addr) (c e:Nat) (w:World) (S:Nat→Prop) (h:RV w S q x A B):Calls Tryz.prog 37 #[(.agg #[.int .i64 x.kind,.string x.s,.int .i64 x.dn,.int .i64 x.ds,.int .i64 x.n,.slice A x.cols.length c,.slice B x.rows.length e])] w (RetB w (isTabB x)):=by
 have H:=Hd h;clear h;cases hr:rightB x
 ·have HF:=Hd (show isTabB x=false by simp [isTabB,hr]);have HR:=Hd hr;clear hr
  go_enter Tryz.func37,Tryz.ntmps37
  go_wp2_with fail
  refine (r06_Right q x A B c e _ S (H.o.keep (Kept.alloc _ _ _))).mono ?_;rintro e1 w1 ⟨rfl,hx1⟩;rw [HR.o];have HX1:=Hd (((Ext.refl w).alloc _).trans hx1);clear hx1;go_wp2;go_ret;exact ⟨by rw [HF.o]; rfl,HX1.o⟩
 ·have HF:=Hd (show isTabB x=(x.kind==5) by simp [isTabB,hr]; rfl);have HR:=Hd hr;clear hr
  go_enter Tryz.func37,Tryz.ntmps37
  go_wp2_with fail
  refine (r06_Right q x A B c e _ S (H.o.keep (Kept.alloc _ _ _))).mono ?_;rintro e1 w1 ⟨rfl,hx1⟩;rw [HR.o];have HX1:=Hd (((Ext.refl w).alloc _).trans hx1);have k0:=((Blk.new w 31 #[.int .i64 x.kind,.string x.s,.int .i64 x.dn,.int .i64 x.ds,.int .i64 x.n,.slice A x.cols.length c,.slice B x.rows.length e]).keep (hx1.kept _)).cell (i:=0) rfl;have kz:=((Blk.new w 31 #[.int .i64 x.kind,.string x.s,.int .i64 x.dn,.int .i64 x.ds,.int .i64 x.n,.slice A x.cols.length c,.slice B x.rows.length e]).keep (hx1.kept _)).lt;clear hx1;go_wp2;go_ret;exact ⟨by rw [HF.o]; rfl,HX1.o⟩

structure OutT (w w0:World) (lo:Nat) (X:Nat→Prop) (d go:Nat) (Ac:Option Addr) (cc:Nat) (cols:List ByteArray) (Ar:Option Addr) (cr:Nat) (rows:List (List Val)) (wr:World):Prop where
 ext:Ext w wr
 kept:Kept (fun b=>b<lo∧b≠go) w0 wr
 golo:w.heap.size≤go∧go<lo∧lo≤wr.heap.size
 o:Blk wr go 31 #[.int .i64 5,.string ⟨#[]⟩,.int .i64 0,.int .i64 0,.int .i64 0,.slice Ac cols.length cc,.slice Ar rows.length cr]
 cols:Strs wr (fun b=>ob Ar≠some b∧X b∧b≠go) Ac cols
 rows:OwnRs wr lo (fun b=>X b∧b≠go) d Ar cr rows
structure OutTA (w w0:World) (lo:Nat) (X:Nat→Prop) (d go:Nat) (Ac:Option Addr) (cc:Nat) (cols:List ByteArray) (Ar:Option Addr) (cr:Nat) (rows:List (List Val)) (wr:World):Prop where
 ext:Ext w wr
 kept:Kept (fun b=>b<lo∧b≠go) w0 wr
 golo:w.heap.size≤go∧go<lo∧lo≤wr.heap.size
 o:∃ y,Blk wr go 31 #[.int .i64 5,.string ⟨#[]⟩,.int .i64 0,.int .i64 0,.int .i64 0,.slice Ac cols.length cc,y]
 cols:Strs wr (fun b=>ob Ar≠some b∧X b∧b≠go) Ac cols
 rows:OwnRs wr lo (fun b=>X b∧b≠go) d Ar cr rows
section
variable {w w0 wr wr':World} {lo d go cc cr:Nat} {X:Nat→Prop} {Ac Ar:Option Addr} {cols:List ByteArray} {rows:List (List Val)}
theorem OutT.more (h:OutT w w0 lo X d go Ac cc cols Ar cr rows wr) (hx:Ext wr wr'):OutT w w0 lo X d go Ac cc cols Ar cr rows wr' :=
 ⟨h.ext.trans hx,h.kept.trans (hx.kept _),⟨h.golo.1,h.golo.2.1,Nat.le_trans h.golo.2.2 hx.size⟩,h.o.keep (hx.kept _),h.cols.keep (hx.kept _),h.rows.ext hx⟩
theorem OutT.app (h:OutT w w0 lo X d go Ac cc cols Ar cr rows wr) {A4 B:Option Addr} {c4 e:Nat} {r:List Val} {hs:List Value} (ho:Own wr lo 50 1 Ar rows.length cr hs)
  (hv:∀ (i:Nat) (r:List Val),rows[i]?=some r→∃ (B:Option Addr) (e:Nat),hs[i]?=some (Value.slice B r.length e)∧r.length≤e∧Row wr (fun b=>ob Ar≠some b∧X b∧b≠go) d B r)
  (hre:r.length≤e) (hr:Row wr (fun b=>ob Ar≠some b∧X b∧b≠go) d B r) (hown:Own wr' lo 50 1 A4 (rows.length+1) c4 (hs++[Value.slice B r.length e])) (hg:wr.grownBy wr' (ob Ar)) (hat:ob A4=ob Ar∨ob A4=some wr.heap.size) :
  OutTA w w0 lo X d go Ac cc cols A4 c4 (rows++[r]) wr':=by
 have hlow:∀ b,ob Ar=some b→lo≤b:=fun b hb=>(ho.blk hb).1;have hgo:=h.golo;have hk:∀ S:Nat→Prop,(∀ b,S b→ob Ar≠some b)→Kept S wr wr':=fun S hS=>Kept.of_grown hg fun b hb _ e=>hS b hb e.symm;refine ⟨h.ext.grown hg fun b hb=>by have:=hlow b hb; omega,h.kept.trans (hk _ fun b hb e=>by have:=hlow b e; omega),⟨hgo.1,hgo.2.1,Nat.le_trans hgo.2.2 hg.size⟩,⟨_,h.o.keep (hk _ fun b hb e=>by have:=hlow b e; omega)⟩,?_,OwnRs.push (by simpa using ho.len) hv hown hg hat hre hr⟩;have hc:=h.cols.mono (T:=fun b=>(ob Ar≠some b)∧(ob A4≠some b∧X b∧b≠go)) fun i hi hh=>⟨hh.1,fun e=>by
  rcases hat with e' | e' <;> rw [e'] at e
  ·exact hh.1 e
  ·injection e with e; omega,hh.2⟩
 exact (hc.keep (hk _ fun b hb=>hb.1)).mono fun b _ hb=>hb.2
theorem OutTA.store (h:OutTA w w0 lo X d go Ac cc cols Ar cr rows wr):OutT w w0 lo X d go Ac cc cols Ar cr rows (wr.setCell ⟨go,6,none⟩ (.slice Ar rows.length cr)):=by
 obtain ⟨y,hy⟩:=h.o;have ho:=(Only.refl go wr).set 6 (.slice Ar rows.length cr);have hgo:=h.golo;refine ⟨h.ext.only ho hgo.1,h.kept.trans (ho.kept fun b _ hb=>hb.2),by simpa [World.setCell] using hgo,hy.set 6 _,h.cols.keep (ho.kept fun b _ hb=>hb.2.2),h.rows.keep (ho.kept fun b _ hb => ?_)⟩
 rcases hb with hb | hb
 ·have:=(h.rows.blk hb).1; omega
 ·exact hb.2
theorem OutT.val (h:OutT w w0 lo X d go Ac cc cols Ar cr rows wr) {T:Nat→Prop} (hl:rows.length≤4294967296) (h1:∀ b,lo≤b→T b) (h2:∀ b,X b→T b):RV wr T d (tabV cols rows) Ac Ar :=
 RV.mk (Nat.zero_le _) (h.cols.mono fun b _ hb=>h2 b hb.2.1) (h.rows.rows hl (fun b hb=>h1 b (h.rows.blk hb).1) fun b hb=>h2 b hb.1)
end
end Go.Proofs.YthmckfloppblcaaGreatDoor
