/- The program's table.Keys. Conditions: the arguments read as data, at most 1000 columns. -/
import Derived.Test.YthmckfloppblcaaGreatDoorBj12
set_option maxRecDepth 100000
set_option maxHeartbeats 2000000
namespace Go.Proofs.YthmckfloppblcaaGreatDoor
open Go Go.RowKit

theorem setsS_len (n:Nat) (hn:n≤1000):(setsS n).length≤1002000:=by
 unfold setsS;have:∀ m,((List.range m).flatMap (pairsS n)).length≤m*1000:=by
  intro m
  induction m with
  | zero=>simp
  | succ m ih =>
   rw [List.range_succ,List.flatMap_append,List.length_append];have:([m].flatMap (pairsS n)).length≤1000:=(by simp [pairsS]; omega);omega
 have:=this n;simp only [List.length_append,List.length_map,List.length_range,List.length_cons,List.length_nil];omega
theorem setsS_in (n:Nat):∀ s∈setsS n,∀ c∈s,0≤c∧c<(n:Int):=by
 intro s hs c hc;unfold setsS at hs
 rcases List.mem_append.1 hs with hs | hs
 ·rcases List.mem_append.1 hs with hs | hs
  ·simp at hs; subst hs; simp at hc
  ·obtain ⟨i,hi,rfl⟩:=List.mem_map.1 hs;simp at hc hi;omega
 ·obtain ⟨i,hi,h2⟩:=List.mem_flatMap.1 hs;unfold pairsS at h2;obtain ⟨j,hj,rfl⟩:=List.mem_map.1 h2;simp [List.mem_range'] at hc hi hj
  rcases hc with rfl | rfl <;> omega
theorem depsOf_succ (cols:List ByteArray) (s:List Int) (m:Nat):depsOf cols s (m+1)=depsOf cols s m++if memI s (m:Int) then [] else [⟨namesS cols s,cols.getD m ⟨#[]⟩⟩]:=by
 unfold depsOf;rw [List.range_succ,List.filter_append,List.map_append];congr 1;cases h:memI s (m:Int) <;> simp [h]
theorem table_Keys (q:Nat) (cols:List ByteArray) (rows:List (List Val)) (A B:Option Addr) (ca cb:Nat) (w:World) (S T:Nat→Prop) (hA:Strs w S A cols) (hB:Rows w T q B rows) (hn:cols.length≤1000) :
  Calls Tryz.prog 21 #[.slice A cols.length ca,.slice B rows.length cb] w (RetDs w (keysS cols rows)):=by
 have hcl:=hA.2.1;have hrl:=hB.len;have HA:=Hd hA;have HB:=Hd hB;clear hA hB;cases hnd:nodupB cols
 ·have HND:=Hd (show decide cols.Nodup=false from hnd);have HF:=Hd (show keysS cols rows=[] by unfold keysS; rw [hnd]; rfl);clear hnd
  go_enter Tryz.func21,Tryz.ntmps21
  go_wp2_with (go_at_call 44; refine (table_different cols _ _ _ S HA.o).mono ?_; rintro e w' ⟨rfl,hx⟩; have HX:=Hd hx; clear hx; rw [HND.o])
  go_ret;exact ⟨none,0,by rw [HF.o]; rfl,by rw [HF.o]; exact Nat.le_refl _,by rw [HF.o]; exact ⟨by simp,[],Rd.nil,rfl,by simp⟩,HX.o⟩
 have HND:=Hd (show decide cols.Nodup=true from hnd);cases hrg:regB cols rows
 ·have HRG:=Hd hrg;have HF:=Hd (show keysS cols rows=[] by unfold keysS; rw [hrg]; simp);clear hnd hrg
  go_enter Tryz.func21,Tryz.ntmps21
  go_wp2_with (first | (go_at_call 44; refine (table_different cols _ _ _ S HA.o).mono ?_; rintro e w' ⟨rfl,hx⟩; have HX:=Hd hx; clear hx; rw [HND.o]) | (go_at_call 45; refine (table_regular q cols rows _ _ _ _ _ T hcl (HB.o.keep (HX.o.kept T))).mono ?_; rintro e w' ⟨rfl,rfl⟩; rw [HRG.o]))
  go_ret;exact ⟨none,0,by rw [HF.o]; rfl,by rw [HF.o]; exact Nat.le_refl _,by rw [HF.o]; exact ⟨by simp,[],Rd.nil,rfl,by simp⟩,HX.o⟩
 have HRG:=Hd hrg;have HF:=Hd (show keysS cols rows=((setsS cols.length).foldl (keyStep cols rows) ([],[])).2 by unfold keysS; rw [hnd,hrg]; rfl);have hrow:∀ c,c<cols.length→∀ j (h:j<rows.length),c<rows[j].length:=by
  intro c hc j hj;have:=hrg;unfold regB at this;rw [List.all_eq_true] at this;have h9:=this rows[j] (List.getElem_mem hj);simp at h9;omega
 have HROW:=Hd hrow;clear hnd hrg hrow
 go_enter Tryz.func21,Tryz.ntmps21
 go_wp2_with (first | (go_at_call 44; refine (table_different cols _ _ _ S HA.o).mono ?_; rintro e w' ⟨rfl,hx⟩; have HX:=Hd hx; clear hx; rw [HND.o]) | (go_at_call 45; refine (table_regular q cols rows _ _ _ _ _ T hcl (HB.o.keep (HX.o.kept T))).mono ?_; rintro e w' ⟨rfl,rfl⟩; rw [HRG.o]))
 go_loopw [24,5] (fun i v wr=>∃ (k:Nat) (A':Option Addr) (c':Nat),k≤cols.length∧i=.int .i64 k∧v=.slice A' k c'∧Ext w wr∧OwnIss wr w.heap.size (fun b=>w.heap.size≤b) A' c' ((listsS rows cols.length).take k)) (fun i _ _=>cols.length-(intOf i).toNat)
 case atStart=>exact ⟨0,none,0,Nat.zero_le _,rfl,rfl,HX.o,OwnIss.nil _ _ _⟩
 case round =>
  clear HX;obtain ⟨k,A',c',hk,rfl,rfl,hext,hown⟩:=hrel;have HE:=Hd hext;have HO:=Hd hown;have hml:(listsS rows cols.length).length=cols.length:=(by simp [listsS]);have HML:=Hd hml;have hszw:=hext.size;clear hown hml hext;by_cases hlt:k<cols.length
  ·go_wp2_with fail
   refine (table_classes q rows _ _ k _ T (HB.o.keep (HE.o.kept T)) (HROW.o k hlt)).mono ?_;rintro e w1 ⟨A1,c1',rfl,hcp1,hi1,hx1⟩;have HX1:=Hd hx1;have hsz1:=hx1.size;have HI1:=Hd hi1;clear hx1 hi1;have hval:(listsS rows cols.length)[k]'(by rw [HML.o]; exact hlt)=classesS rows k:=(by simp [listsS]);have HVAL:=Hd hval;have hlk:((listsS rows cols.length).take k).length=k:=(by rw [List.length_take,HML.o]; omega);obtain ⟨hs,hhs,ho,hv⟩:=(HO.o.ext (HX1.o.alloc (.cells #[.slice A1 (classesS rows k).length c1'] 22))).add;rw [hlk] at ho;have HOWN:=Hd ho;have HV:=Hd hv;have HHS:=Hd hhs;have HLK:=Hd hlk;clear ho hv hhs hlk hval
   go_wp2_with (at_builtin; go_must (refine wpList_app rfl (.tmp 27) (.tmp 31) rfl tiIs rfl HOWN.o rfl (Blk.rd (Blk.new _ _ _)) rfl (by simp [Value.oneCell']) (by omega) (by decide) (by simp; omega) ?_); intro A4 c4 w4 hown4 hg4 hat4)
   go_roundw
   case rel =>
    refine ⟨k+1,A4,c4,by omega,by go_num,rfl,Ext.grown ((HE.o.trans HX1.o).alloc _) hg4 (fun b hb=>(HOWN.o.blk hb).1),?_⟩;rw [List.take_succ_eq_append_getElem (by rw [HML.o]; exact hlt),HVAL.o];refine OwnIss.push HHS.o HV.o (by rw [HLK.o]; exact hown4) hg4 hat4 hcp1 ((HI1.o.keep (Kept.alloc _ _ _)).mono fun i _ hi=>⟨fun h0 => ?_,?_⟩)
    ·have:=(HO.o.blk h0).2;unfold Fresh at hi;omega
    ·unfold Fresh at hi;omega
   case measure=>simp [intOf]; omega
  ·obtain rfl:k=cols.length:=by omega
   have hoo:=HO.o;rw [List.take_of_length_le (by rw [HML.o]; exact Nat.le_refl _)] at hoo;have HRS:=Hd (hoo.riss (T:=fun _=>True) (by rw [HML.o]; exact hcl) (fun _ _=>trivial) (fun _ _=>trivial));clear hoo HO
   go_wp2_with fail
   refine (table_sets cols.length _ hn).mono ?_;rintro e w1 ⟨A1,c1,rfl,hcp1,hi1,hx1⟩;have HX1:=Hd hx1;have HI1:=Hd hi1;have hsz1:=hx1.size;have hsl:=setsS_len cols.length hn;clear hx1 hi1;obtain ⟨sets,hsets⟩:∃ s,s=setsS cols.length:=⟨_,rfl⟩;rw [← hsets] at HI1 hsl HF hcp1;rw [← hsets];have HIN:=Hd (show ∀ s∈sets,∀ c∈s,0≤c∧c<(cols.length:Int) by rw [hsets]; exact setsS_in _);clear hsets;obtain ⟨wo,rfl⟩:∃ wo:World,wo=wr:=⟨_,rfl⟩;go_wp2
   go_loopw [38,7,8] (fun i v u wq=>∃ (k:Nat) (A7 A8:Option Addr) (c7 c8:Nat) (ks:List (List Int)) (ds:List Dep),k≤sets.length∧(ks,ds)=(sets.take k).foldl (keyStep cols rows) ([],[])∧i=.int .i64 k∧v=.slice A7 ks.length c7∧u=.slice A8 ds.length c8∧Ext w1 wq∧ks.length≤k∧ds.length≤k*1000∧OwnIss wq w1.heap.size (fun b=>b<w1.heap.size) A7 c7 ks∧OwnDs wq w1.heap.size (fun b=>w1.heap.size≤b∧ob A7≠some b) A8 c8 ds∧(∀ b,ob A7=some b→ob A8≠some b)) (fun i _ _ _=>sets.length-(intOf i).toNat)
   case atStart=>exact ⟨0,none,none,0,0,[],[],Nat.zero_le _,rfl,rfl,rfl,rfl,Ext.refl _,Nat.zero_le _,Nat.zero_le _,OwnIss.nil _ _ _,OwnDs.nil _ _ _,by simp [ob]⟩
   case round =>
    obtain ⟨k,A7,A8,c7,c8,ks,ds,hk,hst,rfl,rfl,rfl,hext,hkl,hdl,ho7,ho8,hdis⟩:=hrel;have HST:=Hd hst;have HE2:=Hd hext;have HO7:=Hd ho7;have HO8:=Hd ho8;have HDIS:=Hd hdis;have hszq:=hext.size;clear hst hext ho7 ho8 hdis;by_cases hlt:k<sets.length
    ·obtain ⟨b1,o1,B1,e1,rfl,z1',p1',hcs,his⟩:=HI1.o.at_ hlt;have p1:=HE2.o.cell p1';have z1:b1<wr.heap.size:=(by omega);have HIS1:=Hd (his.mono (T:=fun b=>b<w1.heap.size) fun i hi _=>hi);have hstep:(sets.take (k+1)).foldl (keyStep cols rows) ([],[])=keyStep cols rows (ks,ds) sets[k]:=by
      rw [List.take_succ_eq_append_getElem hlt,List.foldl_append,← HST.o]; rfl
     have hmem:=List.getElem_mem hlt;obtain ⟨s,hs⟩:∃ s,s=sets[k]:=⟨_,rfl⟩;rw [← hs] at p1 HIS1 hstep hmem hcs;have HSTEP:=Hd hstep;have HMEM:=Hd hmem;have HCS:=Hd hcs;have HIS:=Hd (HIS1.o.keep (HE2.o.kept _));clear p1' his hstep hmem hs hcs
     go_wp2_with fail
     refine (slices_ContainsFuncK ks s A7 B1 c7 e1 wr.heap.size _ (fun _=>True) (fun b=>b<w1.heap.size) ((HO7.o.riss (by omega) (fun _ _=>trivial) (fun _ _=>trivial)).keep (Kept.alloc _ _ _)) ((Blk.new wr 22 #[.slice B1 s.length e1]).cell rfl) (HIS.o.keep (Kept.alloc _ _ _))).mono ?_;rintro e w2 ⟨rfl,hx2⟩;have hbx:=hx2.cell ((Blk.new wr 22 #[.slice B1 s.length e1]).cell (i:=0) rfl);have HX2:=Hd (((Ext.refl wr).alloc _).trans hx2);have hsz2:wr.heap.size<w2.heap.size:=(by have:=hx2.size; simp at this; omega);clear hx2;cases hany:ks.any (fun l=>subI l s)
     case true =>
      have HANY:=Hd hany;clear hany;go_wp2;go_roundw
      case rel=>exact ⟨k+1,A7,A8,c7,c8,ks,ds,by omega,by rw [HSTEP.o]; unfold keyStep; rw [if_pos HANY.o],by go_num,rfl,rfl,HE2.o.trans HX2.o,by omega,by omega,HO7.o.ext HX2.o,HO8.o.ext HX2.o,HDIS.o⟩
      case measure=>simp [intOf]; omega
     case false =>
      have HANY:=Hd (show ¬ (ks.any (fun l=>subI l s))=true by rw [hany]; simp);clear hany
      go_wp2_with fail
      refine (table_isKey rows cols.length s B1 _ e1 _ _ (fun b=>b<w1.heap.size) (fun _=>True) (HIS.o.keep (HX2.o.kept _)) (HRS.o.keep ((HX1.o.trans (HE2.o.trans HX2.o)).kept _)) (HIN.o s HMEM.o) hrl).mono ?_;rintro e w3 ⟨rfl,hx3⟩;have hbx3:=hx3.cell hbx;have HX3:=Hd (HX2.o.trans hx3);have hsz3:w2.heap.size≤w3.heap.size:=hx3.size;clear hx3 hbx;cases hkey:keyB rows cols.length (s.map Int.toNat)
      ·have HKEY:=Hd hkey;clear hkey;go_wp2;go_roundw
       case rel=>exact ⟨k+1,A7,A8,c7,c8,ks,ds,by omega,by rw [HSTEP.o]; unfold keyStep; rw [if_neg HANY.o,HKEY.o]; rfl,by go_num,rfl,rfl,HE2.o.trans HX3.o,by omega,by omega,HO7.o.ext HX3.o,HO8.o.ext HX3.o,HDIS.o⟩
       case measure=>simp [intOf]; omega
      ·have HKEY:=Hd (show (keyStep cols rows (ks,ds) s)=(ks++[s],ds++depsOf cols s cols.length) by unfold keyStep; rw [if_neg HANY.o,hkey]; rfl);clear hkey;obtain ⟨hs7,hhs7,ho7,hv7⟩:=(HO7.o.ext (HX3.o.alloc (.cells #[.slice B1 s.length e1] 22))).add;have HOWN:=Hd ho7;have HV:=Hd hv7;have HHS:=Hd hhs7;clear ho7 hv7 hhs7
       go_wp2_with (at_builtin; go_must (refine wpList_app rfl (.tmp 51) (.tmp 53) rfl tiIs rfl HOWN.o rfl (Blk.rd (Blk.new _ _ _)) rfl (by simp [Value.oneCell']) (by omega) (by decide) (by simp; omega) ?_); intro A4 c4 w4 hown4 hg4 hat4)
       have h74:OwnIss w4 w1.heap.size (fun b=>b<w1.heap.size) A4 c4 (ks++[s]):=by
        refine OwnIss.push HHS.o HV.o hown4 hg4 hat4 HCS.o ((HIS.o.keep ((HX3.o.alloc _).kept _)).mono fun i _ hi=>⟨fun h0 => ?_,hi⟩);have:=(HO7.o.blk h0).1;omega
       have h84:OwnDs w4 w1.heap.size (fun b=>w1.heap.size≤b∧ob A4≠some b) A8 c8 ds:=by
        refine OwnDs.mono (X:=fun b=>(w1.heap.size≤b∧ob A7≠some b)∧ob A4≠some b) ?_ (fun b _ hb=>⟨hb.1.1,hb.2⟩);refine OwnDs.keep (w:=w3.alloc (.cells #[.slice B1 s.length e1] 22)) ?_ (Kept.of_grown hg4 fun b hb _ e => ?_)
        ·refine (HO8.o.ext (HX3.o.alloc _)).mono fun b hb hh=>⟨hh,fun e => ?_⟩
         rcases hat4 with h | h
         ·rw [h] at e; exact hh.2 e
         ·rw [h] at e; injection e with e; omega
        ·rcases hb with h | h
         ·exact HDIS.o b e.symm h
         ·exact h.1.2 e.symm
       have hd4:∀ b,ob A4=some b→ob A8≠some b:=by
        intro b h1 h2
        rcases hat4 with h | h
        ·rw [h] at h1; exact HDIS.o b h1 h2
        ·rw [h] at h1; injection h1 with h1; have:=(HO8.o.blk h2).2; simp at h1; omega
       have hbx4:w4.cell? ⟨wr.heap.size,0,none⟩=some (.slice B1 s.length e1):=by
        rw [World.cell?_of_block (hg4.block wr.heap.size (by simp; omega) (fun e=>by have:=(HO7.o.blk e.symm).2; omega))];exact ((Ext.refl w3).alloc _).cell hbx3
       have HX4:=Hd (show Ext w1 w4 from Ext.grown ((HE2.o.trans HX3.o).alloc _) hg4 (fun b hb=>(HOWN.o.blk hb).1));have hsz4:w3.heap.size<w4.heap.size:=(by have:=hg4.size; simp at this; omega);have h8b:ob A8≠some wr.heap.size:=fun e=>by have:=(HO8.o.blk e).2; omega
       have H74:=Hd h74;have H84:=Hd h84;have HD4:=Hd hd4;have HB4:=Hd hbx4;have H8B:=Hd h8b;clear h74 h84 hd4 hbx4 h8b hown4 hg4 hat4 HOWN HV HHS HO7 HO8 HDIS hbx3;obtain ⟨wp,rfl⟩:∃ wp:World,wp=wr:=⟨_,rfl⟩;go_wp2
       go_loopw [57,8] (fun i u wr=>∃ (m:Nat) (A9:Option Addr) (c9:Nat) (d9:List Dep),m≤cols.length∧d9=ds++depsOf cols s m∧i=.int .i64 m∧u=.slice A9 d9.length c9∧Ext w1 wr∧wp.heap.size<wr.heap.size∧wr.cell? ⟨wp.heap.size,0,none⟩=some (.slice B1 s.length e1)∧ob A9≠some wp.heap.size∧d9.length≤ds.length+m∧OwnIss wr w1.heap.size (fun b=>b<w1.heap.size) A4 c4 (ks++[s])∧OwnDs wr w1.heap.size (fun b=>w1.heap.size≤b∧ob A4≠some b) A9 c9 d9∧(∀ b,ob A4=some b→ob A9≠some b)) (fun i _ _=>cols.length-(intOf i).toNat)
       case atStart=>exact ⟨0,A8,c8,ds,Nat.zero_le _,by simp [depsOf],rfl,rfl,HX4.o,by omega,HB4.o,H8B.o,by omega,H74.o,H84.o,HD4.o⟩
       case round =>
        clear HX4 HB4 H8B H74 H84 HD4;obtain ⟨m,A9,c9,d9,hm,hd9,rfl,rfl,hx9,hsz9,hbx9,h9b,hl9,h79,h99,hd99⟩:=hrel;have HD9:=Hd hd9;have HX9:=Hd hx9;have H9B:=Hd h9b;have H79:=Hd h79;have H99:=Hd h99;have HD99:=Hd hd99;have hsz19:=hx9.size;clear hd9 hx9 h9b h79 h99 hd99;by_cases hltm:m<cols.length
        ·obtain ⟨b2,o2,rfl,z2,p2⟩:=(HA.o.keep ((HE.o.trans (HX1.o.trans HX9.o)).kept S)).at_ hltm;cases hmm:memI s (m:Int)
         ·have HMM:=Hd hmm;clear hmm
          go_wp2_with (go_at_call 52; refine (slices_ContainsI _ _ s _ _ (fun b=>b<w1.heap.size) (HIS1.o.keep (HX9.o.kept _))).mono ?_; rintro e w' ⟨rfl,rfl⟩; rw [HMM.o])
          refine (table_names cols s _ _ _ _ _ S (fun b=>b<w1.heap.size) (HA.o.keep ((HE.o.trans (HX1.o.trans HX9.o)).kept S)) (HIS1.o.keep (HX9.o.kept _)) (HIN.o s HMEM.o)).mono ?_;rintro e w5 ⟨A5,c5,rfl,hcp5,hss5,hx5⟩;have HX5:=Hd hx5;have HSS5:=Hd hss5;have HCP5:=Hd hcp5;have hsz5:=hx5.size;obtain ⟨hs9,hhs9,ho9,hv9⟩:=(H99.o.ext (HX5.o.alloc (.cells #[.slice A5 (namesS cols s).length c5,.string cols[m]] 59))).add;have HOWN:=Hd ho9;have HV:=Hd hv9;have HHS:=Hd hhs9;clear ho9 hv9 hhs9 hx5 hss5 hcp5
          go_wp2_with (at_builtin; go_must (refine wpList_app rfl (.tmp 66) (.tmp 72) rfl tiD rfl HOWN.o rfl (Blk.rd (Blk.new _ _ _)) rfl (by simp [Value.oneCell']) (by omega) (by decide) (by simp; omega) ?_); intro A6 c6 w6 hown6 hg6 hat6)
          go_roundw
          case rel =>
           have h9lt:∀ b,ob A9=some b→b<wr.heap.size:=fun b hb=>(H99.o.blk hb).2;have h4lt:∀ b,ob A4=some b→w1.heap.size≤b∧b<wr.heap.size:=fun b hb=>H79.o.blk hb;refine ⟨m+1,A6,c6,d9++[⟨namesS cols s,cols[m]⟩],by omega,?_,by go_num,by simp,Ext.grown ((HX9.o.trans HX5.o).alloc _) hg6 (fun b hb=>(HOWN.o.blk hb).1),by have:=hg6.size; simp at this; omega,?_,?_,by simp; omega,?_,?_,?_⟩
           ·rw [HD9.o,depsOf_succ,HMM.o,List.append_assoc];simp [hltm]
           ·rw [World.cell?_of_block (hg6.block wp.heap.size (by simp; omega) (fun e=>H9B.o e.symm))];exact (HX5.o.alloc _).cell hbx9
           ·intro e
            rcases hat6 with h | h
            ·rw [h] at e; exact H9B.o e
            ·rw [h] at e; injection e with e; simp at e; omega
           ·exact (H79.o.ext (HX5.o.alloc _)).keep (Kept.of_grown hg6 fun b hb _ e=>by
             rcases hb with h | h
             ·exact HD99.o b h e.symm
             ·have:=(H99.o.blk e.symm).1; omega)
           ·refine OwnDs.push HHS.o HV.o hown6 hg6 hat6 HCP5.o (HA.o.2.2 _ (List.getElem_mem hltm)) ((HSS5.o.keep (Kept.alloc _ _ _)).mono fun i _ hi => ?_);unfold Fresh at hi;exact ⟨fun e=>by have:=h9lt i e; omega,by omega,fun e=>by have:=(h4lt i e).2; omega⟩
           ·intro b h1 h2
            rcases hat6 with h | h
            ·rw [h] at h2; exact HD99.o b h1 h2
            ·rw [h] at h2; injection h2 with h2; have:=(h4lt b h1).2; simp at h2; omega
          case measure=>simp [intOf]; omega
         ·have HMM:=Hd hmm;clear hmm
          go_wp2_with (go_at_call 52; refine (slices_ContainsI _ _ s _ _ (fun b=>b<w1.heap.size) (HIS1.o.keep (HX9.o.kept _))).mono ?_; rintro e w' ⟨rfl,rfl⟩; rw [HMM.o])
          go_roundw
          case rel=>exact ⟨m+1,A9,c9,d9,by omega,by rw [HD9.o,depsOf_succ,HMM.o]; simp,by go_num,rfl,HX9.o,hsz9,hbx9,H9B.o,by omega,H79.o,H99.o,HD99.o⟩
          case measure=>simp [intOf]; omega
        ·obtain rfl:m=cols.length:=by omega
         go_wp2;go_roundw
         case rel=>exact ⟨k+1,A4,A9,c4,c9,ks++[s],d9,by omega,by rw [HSTEP.o,HKEY.o,HD9.o],by go_num,by simp,rfl,HX9.o,by simp; omega,by omega,H79.o,H99.o,HD99.o⟩
         case measure=>simp [intOf]; omega
    ·obtain rfl:k=sets.length:=by omega
     have hde:ds=keysS cols rows:=by
      have:=HST.o;rw [List.take_of_length_le (Nat.le_refl _)] at this;rw [HF.o,← this]
     subst hde;have HC:=Hd (show (keysS cols rows).length≤c8 by obtain ⟨hs,_,h1,_⟩:=HO8.o.add; exact h1.cap);go_wp2;go_ret;exact ⟨A8,c8,rfl,HC.o,HO8.o.rdeps (by omega) (fun b hb=>by have:=(HO8.o.blk hb).1; unfold Fresh; omega) (fun b hb=>by unfold Fresh; omega),HE.o.trans (HX1.o.trans HE2.o)⟩

theorem decimal_join_pos (a b:Int) (w:World) (ht:Tens w) (ha1:-4000000000000000≤a) (ha2:a≤4000000000000000) (hb1:-4000000≤b) (hb2:b≤4000000) (hb0:0≤b) :
  Calls Tryz.prog 83 #[.int .i64 a,.int .i64 b] w (RetDB w (joinS (a*1000000+b))):=by
 have hp:=ht.pos;have HT:=Hd ht;clear ht;have HU:=Hd (show 1000000*(b / 1000000)+b % 1000000=b by omega);have q1:-5≤b / 1000000:=(by omega);have q2:b / 1000000≤5:=(by omega);have d2:0≤b % 1000000:=(by omega);have d3:b % 1000000<1000000:=(by omega)
 go_enter Tryz.func83,Tryz.ntmps83
 go_wp2_with fail
 ·have hWR:(a+b / 1000000)*1000000+(b % 1000000)=a*1000000+b:=(by have:=HU.o; omega);have hR1:-1000000<b % 1000000:=(by omega);have hR2:b % 1000000<1000000:=(by omega);have hW1:-4000000000000010≤a+b / 1000000:=(by omega);have hW2:a+b / 1000000≤4000000000000010:=(by omega);have hsg:(0<a+b / 1000000→0≤b % 1000000)∧(a+b / 1000000<0→b % 1000000≤0):=(by omega);have HWR:=Hd hWR;have HSG:=Hd hsg;clear hWR hsg;generalize hWe:a+b / 1000000=W at *;generalize hRe:b % 1000000=R at *;clear hWe hRe
  go_loop [1,6] (fun v i=>∃ (p:Int) (m:Nat),m≤6∧v=.int .i64 p∧i=.int .i64 m∧p*pw (6-(m:Int))=R) (fun _ i=>(intOf i).toNat)
  case atStart=>exact ⟨R,6,by omega,rfl,rfl,by simp [pw]⟩
  case round =>
   obtain ⟨p,m,hm,rfl,rfl,hpR⟩:=hrel;have HPR:=Hd hpR;clear hpR;have hpb:=join_bd p R m hm HPR.o hR1 hR2;obtain ⟨hpb1,hpb2⟩:=hpb;obtain ⟨x1,x2,x3,x4,x5⟩:=tdm p 10 (by decide);have HX1:=Hd x1;clear x1;by_cases hm0:0<m
   ·have hm0':(0:Int)<(m:Int):=(by omega);by_cases hz:p.tmod 10=0
    ·have hz':(p.tmod 10==0)=true:=(by simp [hz]);have HZ:=Hd hz;clear hz;go_wp2
     go_round
     case rel=>exact ⟨p.tdiv 10,m-1,by omega,rfl,by congr 1; omega,join_step p R m hm hm0 HPR.o HX1.o HZ.o⟩
     case measure=>simp [intOf]; omega
    ·have hz':(p.tmod 10==0)=false:=(by simp [hz]);have HN:=Hd (join_norm W R p m a b hm HPR.o HWR.o (Or.inr hz));clear hz;have hcell:=tens_at HT.o m hm;have hpw:=pw_bd m hm;obtain ⟨hpw1,hpw2⟩:=hpw;have hdv:=quo_bd m hm;obtain ⟨hdv1,hdv2⟩:=hdv;by_cases hlo:W< -(1000000000000000 / pw (m:Int))
     ·have HF:=Hd (join_no W R p m a b hm HPR.o hR1 hR2 HSG.o HN.o (Or.inl hlo))
      try (exfalso; omega)
      all_goals go_wp2
      all_goals
       rw [HF.o];refine bodyPost_ret (v:=.tuple #[.agg #[.int .i64 0,.int .i64 0],.bool false]) (by simp [results,Tryz.results83,go_sem]) rfl ⟨rfl,?_⟩;exact (Ext.refl w).alloc _
     by_cases hhi:1000000000000000 / pw (m:Int)<W
     ·have HF:=Hd (join_no W R p m a b hm HPR.o hR1 hR2 HSG.o HN.o (Or.inr hhi))
      try (exfalso; omega)
      all_goals go_wp2
      all_goals
       rw [HF.o];refine bodyPost_ret (v:=.tuple #[.agg #[.int .i64 0,.int .i64 0],.bool false]) (by simp [results,Tryz.results83,go_sem]) rfl ⟨rfl,?_⟩;exact (Ext.refl w).alloc _
     have hprod:=prod_bd W m hm (by omega) (by omega);obtain ⟨hprod1,hprod2⟩:=hprod;cases hu:unitsB (W*pw (m:Int)+p)
     ·have HF:=Hd (show joinS (a*1000000+b)=((0,0),false) by unfold joinS; rw [HN.o,hu]; rfl);have HUU:=Hd hu;clear hu
      go_wp2_with (go_at_call 113; refine (decimal_within _ _).mono ?_; rintro e w' ⟨rfl,rfl⟩; rw [HUU.o])
      all_goals
       rw [HF.o];refine bodyPost_ret (v:=.tuple #[.agg #[.int .i64 0,.int .i64 0],.bool false]) (by simp [results,Tryz.results83,go_sem]) rfl ⟨rfl,?_⟩;exact (Ext.refl w).alloc _
     ·have HF:=Hd (show joinS (a*1000000+b)=((W*pw (m:Int)+p,(m:Int)),true) by unfold joinS; rw [HN.o,hu]; rfl);have HUU:=Hd hu;clear hu
      go_wp2_with (go_at_call 113; refine (decimal_within _ _).mono ?_; rintro e w' ⟨rfl,rfl⟩; rw [HUU.o])
      all_goals
       rw [HF.o];refine bodyPost_ret (v:=.tuple #[.agg #[.int .i64 (W*pw (m:Int)+p),.int .i64 (m:Int)],.bool true]) (by simp [results,Tryz.results83,go_sem]) rfl ⟨rfl,?_⟩;exact (Ext.refl w).alloc _
   ·have hm0':¬ (0:Int)<(m:Int):=(by omega);have HN:=Hd (join_norm W R p m a b hm HPR.o HWR.o (Or.inl (by omega)));obtain rfl:m=0:=by omega
    have HN':=Hd (show normU (a*1000000+b)=(W+p,0) by have:=HN.o; simpa [pw] using this);have hcell:=HT.o.1;by_cases hlo:W< -1000000000000000
    ·have HF:=Hd (join_no W R p 0 a b hm HPR.o hR1 hR2 HSG.o HN.o (Or.inl (by simpa [pw] using hlo)))
     try (exfalso; omega)
     all_goals go_wp2
     all_goals
      rw [HF.o];refine bodyPost_ret (v:=.tuple #[.agg #[.int .i64 0,.int .i64 0],.bool false]) (by simp [results,Tryz.results83,go_sem]) rfl ⟨rfl,?_⟩;exact (Ext.refl w).alloc _
    by_cases hhi:1000000000000000<W
    ·have HF:=Hd (join_no W R p 0 a b hm HPR.o hR1 hR2 HSG.o HN.o (Or.inr (by simpa [pw] using hhi)))
     try (exfalso; omega)
     all_goals go_wp2
     all_goals
      rw [HF.o];refine bodyPost_ret (v:=.tuple #[.agg #[.int .i64 0,.int .i64 0],.bool false]) (by simp [results,Tryz.results83,go_sem]) rfl ⟨rfl,?_⟩;exact (Ext.refl w).alloc _
    cases hu:unitsB (W+p)
    ·have HF:=Hd (show joinS (a*1000000+b)=((0,0),false) by unfold joinS; rw [HN'.out,hu]; rfl);have HUU:=Hd hu;clear hu
     go_wp2_with (go_at_call 113; refine (decimal_within _ _).mono ?_; rintro e w' ⟨rfl,rfl⟩; rw [HUU.o])
     all_goals
      rw [HF.o];refine bodyPost_ret (v:=.tuple #[.agg #[.int .i64 0,.int .i64 0],.bool false]) (by simp [results,Tryz.results83,go_sem]) rfl ⟨rfl,?_⟩;exact (Ext.refl w).alloc _
    ·have HF:=Hd (show joinS (a*1000000+b)=((W+p,0),true) by unfold joinS; rw [HN'.out,hu]; rfl);have HUU:=Hd hu;clear hu
     go_wp2_with (go_at_call 113; refine (decimal_within _ _).mono ?_; rintro e w' ⟨rfl,rfl⟩; rw [HUU.o])
     all_goals
      rw [HF.o];refine bodyPost_ret (v:=.tuple #[.agg #[.int .i64 (W+p),.int .i64 0],.bool true]) (by simp [results,Tryz.results83,go_sem]) rfl ⟨rfl,?_⟩;exact (Ext.refl w).alloc _
 ·have hWR:(a+b / 1000000+1)*1000000+(b % 1000000-1000000)=a*1000000+b:=(by have:=HU.o; omega);have hR1:-1000000<b % 1000000-1000000:=(by omega);have hR2:b % 1000000-1000000<1000000:=(by omega);have hW1:-4000000000000010≤a+b / 1000000+1:=(by omega);have hW2:a+b / 1000000+1≤4000000000000010:=(by omega);have hsg:(0<a+b / 1000000+1→0≤b % 1000000-1000000)∧(a+b / 1000000+1<0→b % 1000000-1000000≤0):=(by omega);have HWR:=Hd hWR;have HSG:=Hd hsg;clear hWR hsg;generalize hWe:a+b / 1000000+1=W at *;generalize hRe:b % 1000000-1000000=R at *;clear hWe hRe
  go_loop [1,6] (fun v i=>∃ (p:Int) (m:Nat),m≤6∧v=.int .i64 p∧i=.int .i64 m∧p*pw (6-(m:Int))=R) (fun _ i=>(intOf i).toNat)
  case atStart=>exact ⟨R,6,by omega,rfl,rfl,by simp [pw]⟩
  case round =>
   obtain ⟨p,m,hm,rfl,rfl,hpR⟩:=hrel;have HPR:=Hd hpR;clear hpR;have hpb:=join_bd p R m hm HPR.o hR1 hR2;obtain ⟨hpb1,hpb2⟩:=hpb;obtain ⟨x1,x2,x3,x4,x5⟩:=tdm p 10 (by decide);have HX1:=Hd x1;clear x1;by_cases hm0:0<m
   ·have hm0':(0:Int)<(m:Int):=(by omega);by_cases hz:p.tmod 10=0
    ·have hz':(p.tmod 10==0)=true:=(by simp [hz]);have HZ:=Hd hz;clear hz;go_wp2
     go_round
     case rel=>exact ⟨p.tdiv 10,m-1,by omega,rfl,by congr 1; omega,join_step p R m hm hm0 HPR.o HX1.o HZ.o⟩
     case measure=>simp [intOf]; omega
    ·have hz':(p.tmod 10==0)=false:=(by simp [hz]);have HN:=Hd (join_norm W R p m a b hm HPR.o HWR.o (Or.inr hz));clear hz;have hcell:=tens_at HT.o m hm;have hpw:=pw_bd m hm;obtain ⟨hpw1,hpw2⟩:=hpw;have hdv:=quo_bd m hm;obtain ⟨hdv1,hdv2⟩:=hdv;by_cases hlo:W< -(1000000000000000 / pw (m:Int))
     ·have HF:=Hd (join_no W R p m a b hm HPR.o hR1 hR2 HSG.o HN.o (Or.inl hlo))
      try (exfalso; omega)
      all_goals go_wp2
      all_goals
       rw [HF.o];refine bodyPost_ret (v:=.tuple #[.agg #[.int .i64 0,.int .i64 0],.bool false]) (by simp [results,Tryz.results83,go_sem]) rfl ⟨rfl,?_⟩;exact (Ext.refl w).alloc _
     by_cases hhi:1000000000000000 / pw (m:Int)<W
     ·have HF:=Hd (join_no W R p m a b hm HPR.o hR1 hR2 HSG.o HN.o (Or.inr hhi))
      try (exfalso; omega)
      all_goals go_wp2
      all_goals
       rw [HF.o];refine bodyPost_ret (v:=.tuple #[.agg #[.int .i64 0,.int .i64 0],.bool false]) (by simp [results,Tryz.results83,go_sem]) rfl ⟨rfl,?_⟩;exact (Ext.refl w).alloc _
     have hprod:=prod_bd W m hm (by omega) (by omega);obtain ⟨hprod1,hprod2⟩:=hprod;cases hu:unitsB (W*pw (m:Int)+p)
     ·have HF:=Hd (show joinS (a*1000000+b)=((0,0),false) by unfold joinS; rw [HN.o,hu]; rfl);have HUU:=Hd hu;clear hu
      go_wp2_with (go_at_call 113; refine (decimal_within _ _).mono ?_; rintro e w' ⟨rfl,rfl⟩; rw [HUU.o])
      all_goals
       rw [HF.o];refine bodyPost_ret (v:=.tuple #[.agg #[.int .i64 0,.int .i64 0],.bool false]) (by simp [results,Tryz.results83,go_sem]) rfl ⟨rfl,?_⟩;exact (Ext.refl w).alloc _
     ·have HF:=Hd (show joinS (a*1000000+b)=((W*pw (m:Int)+p,(m:Int)),true) by unfold joinS; rw [HN.o,hu]; rfl);have HUU:=Hd hu;clear hu
      go_wp2_with (go_at_call 113; refine (decimal_within _ _).mono ?_; rintro e w' ⟨rfl,rfl⟩; rw [HUU.o])
      all_goals
       rw [HF.o];refine bodyPost_ret (v:=.tuple #[.agg #[.int .i64 (W*pw (m:Int)+p),.int .i64 (m:Int)],.bool true]) (by simp [results,Tryz.results83,go_sem]) rfl ⟨rfl,?_⟩;exact (Ext.refl w).alloc _
   ·have hm0':¬ (0:Int)<(m:Int):=(by omega);have HN:=Hd (join_norm W R p m a b hm HPR.o HWR.o (Or.inl (by omega)));obtain rfl:m=0:=by omega
    have HN':=Hd (show normU (a*1000000+b)=(W+p,0) by have:=HN.o; simpa [pw] using this);have hcell:=HT.o.1;by_cases hlo:W< -1000000000000000
    ·have HF:=Hd (join_no W R p 0 a b hm HPR.o hR1 hR2 HSG.o HN.o (Or.inl (by simpa [pw] using hlo)))
     try (exfalso; omega)
     all_goals go_wp2
     all_goals
      rw [HF.o];refine bodyPost_ret (v:=.tuple #[.agg #[.int .i64 0,.int .i64 0],.bool false]) (by simp [results,Tryz.results83,go_sem]) rfl ⟨rfl,?_⟩;exact (Ext.refl w).alloc _
    by_cases hhi:1000000000000000<W
    ·have HF:=Hd (join_no W R p 0 a b hm HPR.o hR1 hR2 HSG.o HN.o (Or.inr (by simpa [pw] using hhi)))
     try (exfalso; omega)
     all_goals go_wp2
     all_goals
      rw [HF.o];refine bodyPost_ret (v:=.tuple #[.agg #[.int .i64 0,.int .i64 0],.bool false]) (by simp [results,Tryz.results83,go_sem]) rfl ⟨rfl,?_⟩;exact (Ext.refl w).alloc _
    cases hu:unitsB (W+p)
    ·have HF:=Hd (show joinS (a*1000000+b)=((0,0),false) by unfold joinS; rw [HN'.out,hu]; rfl);have HUU:=Hd hu;clear hu
     go_wp2_with (go_at_call 113; refine (decimal_within _ _).mono ?_; rintro e w' ⟨rfl,rfl⟩; rw [HUU.o])
     all_goals
      rw [HF.o];refine bodyPost_ret (v:=.tuple #[.agg #[.int .i64 0,.int .i64 0],.bool false]) (by simp [results,Tryz.results83,go_sem]) rfl ⟨rfl,?_⟩;exact (Ext.refl w).alloc _
    ·have HF:=Hd (show joinS (a*1000000+b)=((W+p,0),true) by unfold joinS; rw [HN'.out,hu]; rfl);have HUU:=Hd hu;clear hu
     go_wp2_with (go_at_call 113; refine (decimal_within _ _).mono ?_; rintro e w' ⟨rfl,rfl⟩; rw [HUU.o])
     all_goals
      rw [HF.o];refine bodyPost_ret (v:=.tuple #[.agg #[.int .i64 (W+p),.int .i64 0],.bool true]) (by simp [results,Tryz.results83,go_sem]) rfl ⟨rfl,?_⟩;exact (Ext.refl w).alloc _
 ·have hWR:(a+b / 1000000)*1000000+(b % 1000000)=a*1000000+b:=(by have:=HU.o; omega);have hR1:-1000000<b % 1000000:=(by omega);have hR2:b % 1000000<1000000:=(by omega);have hW1:-4000000000000010≤a+b / 1000000:=(by omega);have hW2:a+b / 1000000≤4000000000000010:=(by omega);have hsg:(0<a+b / 1000000→0≤b % 1000000)∧(a+b / 1000000<0→b % 1000000≤0):=(by omega);have HWR:=Hd hWR;have HSG:=Hd hsg;clear hWR hsg;generalize hWe:a+b / 1000000=W at *;generalize hRe:b % 1000000=R at *;clear hWe hRe
  go_loop [1,6] (fun v i=>∃ (p:Int) (m:Nat),m≤6∧v=.int .i64 p∧i=.int .i64 m∧p*pw (6-(m:Int))=R) (fun _ i=>(intOf i).toNat)
  case atStart=>exact ⟨R,6,by omega,rfl,rfl,by simp [pw]⟩
  case round =>
   obtain ⟨p,m,hm,rfl,rfl,hpR⟩:=hrel;have HPR:=Hd hpR;clear hpR;have hpb:=join_bd p R m hm HPR.o hR1 hR2;obtain ⟨hpb1,hpb2⟩:=hpb;obtain ⟨x1,x2,x3,x4,x5⟩:=tdm p 10 (by decide);have HX1:=Hd x1;clear x1;by_cases hm0:0<m
   ·have hm0':(0:Int)<(m:Int):=(by omega);by_cases hz:p.tmod 10=0
    ·have hz':(p.tmod 10==0)=true:=(by simp [hz]);have HZ:=Hd hz;clear hz;go_wp2
     go_round
     case rel=>exact ⟨p.tdiv 10,m-1,by omega,rfl,by congr 1; omega,join_step p R m hm hm0 HPR.o HX1.o HZ.o⟩
     case measure=>simp [intOf]; omega
    ·have hz':(p.tmod 10==0)=false:=(by simp [hz]);have HN:=Hd (join_norm W R p m a b hm HPR.o HWR.o (Or.inr hz));clear hz;have hcell:=tens_at HT.o m hm;have hpw:=pw_bd m hm;obtain ⟨hpw1,hpw2⟩:=hpw;have hdv:=quo_bd m hm;obtain ⟨hdv1,hdv2⟩:=hdv;by_cases hlo:W< -(1000000000000000 / pw (m:Int))
     ·have HF:=Hd (join_no W R p m a b hm HPR.o hR1 hR2 HSG.o HN.o (Or.inl hlo))
      try (exfalso; omega)
      all_goals go_wp2
      all_goals
       rw [HF.o];refine bodyPost_ret (v:=.tuple #[.agg #[.int .i64 0,.int .i64 0],.bool false]) (by simp [results,Tryz.results83,go_sem]) rfl ⟨rfl,?_⟩;exact (Ext.refl w).alloc _
     by_cases hhi:1000000000000000 / pw (m:Int)<W
     ·have HF:=Hd (join_no W R p m a b hm HPR.o hR1 hR2 HSG.o HN.o (Or.inr hhi))
      try (exfalso; omega)
      all_goals go_wp2
      all_goals
       rw [HF.o];refine bodyPost_ret (v:=.tuple #[.agg #[.int .i64 0,.int .i64 0],.bool false]) (by simp [results,Tryz.results83,go_sem]) rfl ⟨rfl,?_⟩;exact (Ext.refl w).alloc _
     have hprod:=prod_bd W m hm (by omega) (by omega);obtain ⟨hprod1,hprod2⟩:=hprod;cases hu:unitsB (W*pw (m:Int)+p)
     ·have HF:=Hd (show joinS (a*1000000+b)=((0,0),false) by unfold joinS; rw [HN.o,hu]; rfl);have HUU:=Hd hu;clear hu
      go_wp2_with (go_at_call 113; refine (decimal_within _ _).mono ?_; rintro e w' ⟨rfl,rfl⟩; rw [HUU.o])
      all_goals
       rw [HF.o];refine bodyPost_ret (v:=.tuple #[.agg #[.int .i64 0,.int .i64 0],.bool false]) (by simp [results,Tryz.results83,go_sem]) rfl ⟨rfl,?_⟩;exact (Ext.refl w).alloc _
     ·have HF:=Hd (show joinS (a*1000000+b)=((W*pw (m:Int)+p,(m:Int)),true) by unfold joinS; rw [HN.o,hu]; rfl);have HUU:=Hd hu;clear hu
      go_wp2_with (go_at_call 113; refine (decimal_within _ _).mono ?_; rintro e w' ⟨rfl,rfl⟩; rw [HUU.o])
      all_goals
       rw [HF.o];refine bodyPost_ret (v:=.tuple #[.agg #[.int .i64 (W*pw (m:Int)+p),.int .i64 (m:Int)],.bool true]) (by simp [results,Tryz.results83,go_sem]) rfl ⟨rfl,?_⟩;exact (Ext.refl w).alloc _
   ·have hm0':¬ (0:Int)<(m:Int):=(by omega);have HN:=Hd (join_norm W R p m a b hm HPR.o HWR.o (Or.inl (by omega)));obtain rfl:m=0:=by omega
    have HN':=Hd (show normU (a*1000000+b)=(W+p,0) by have:=HN.o; simpa [pw] using this);have hcell:=HT.o.1;by_cases hlo:W< -1000000000000000
    ·have HF:=Hd (join_no W R p 0 a b hm HPR.o hR1 hR2 HSG.o HN.o (Or.inl (by simpa [pw] using hlo)))
     try (exfalso; omega)
     all_goals go_wp2
     all_goals
      rw [HF.o];refine bodyPost_ret (v:=.tuple #[.agg #[.int .i64 0,.int .i64 0],.bool false]) (by simp [results,Tryz.results83,go_sem]) rfl ⟨rfl,?_⟩;exact (Ext.refl w).alloc _
    by_cases hhi:1000000000000000<W
    ·have HF:=Hd (join_no W R p 0 a b hm HPR.o hR1 hR2 HSG.o HN.o (Or.inr (by simpa [pw] using hhi)))
     try (exfalso; omega)
     all_goals go_wp2
     all_goals
      rw [HF.o];refine bodyPost_ret (v:=.tuple #[.agg #[.int .i64 0,.int .i64 0],.bool false]) (by simp [results,Tryz.results83,go_sem]) rfl ⟨rfl,?_⟩;exact (Ext.refl w).alloc _
    cases hu:unitsB (W+p)
    ·have HF:=Hd (show joinS (a*1000000+b)=((0,0),false) by unfold joinS; rw [HN'.out,hu]; rfl);have HUU:=Hd hu;clear hu
     go_wp2_with (go_at_call 113; refine (decimal_within _ _).mono ?_; rintro e w' ⟨rfl,rfl⟩; rw [HUU.o])
     all_goals
      rw [HF.o];refine bodyPost_ret (v:=.tuple #[.agg #[.int .i64 0,.int .i64 0],.bool false]) (by simp [results,Tryz.results83,go_sem]) rfl ⟨rfl,?_⟩;exact (Ext.refl w).alloc _
    ·have HF:=Hd (show joinS (a*1000000+b)=((W+p,0),true) by unfold joinS; rw [HN'.out,hu]; rfl);have HUU:=Hd hu;clear hu
     go_wp2_with (go_at_call 113; refine (decimal_within _ _).mono ?_; rintro e w' ⟨rfl,rfl⟩; rw [HUU.o])
     all_goals
      rw [HF.o];refine bodyPost_ret (v:=.tuple #[.agg #[.int .i64 (W+p),.int .i64 0],.bool true]) (by simp [results,Tryz.results83,go_sem]) rfl ⟨rfl,?_⟩;exact (Ext.refl w).alloc _
 ·have hWR:(a+b / 1000000)*1000000+(b % 1000000)=a*1000000+b:=(by have:=HU.o; omega);have hR1:-1000000<b % 1000000:=(by omega);have hR2:b % 1000000<1000000:=(by omega);have hW1:-4000000000000010≤a+b / 1000000:=(by omega);have hW2:a+b / 1000000≤4000000000000010:=(by omega);have hsg:(0<a+b / 1000000→0≤b % 1000000)∧(a+b / 1000000<0→b % 1000000≤0):=(by omega);have HWR:=Hd hWR;have HSG:=Hd hsg;clear hWR hsg;generalize hWe:a+b / 1000000=W at *;generalize hRe:b % 1000000=R at *;clear hWe hRe
  go_loop [1,6] (fun v i=>∃ (p:Int) (m:Nat),m≤6∧v=.int .i64 p∧i=.int .i64 m∧p*pw (6-(m:Int))=R) (fun _ i=>(intOf i).toNat)
  case atStart=>exact ⟨R,6,by omega,rfl,rfl,by simp [pw]⟩
  case round =>
   obtain ⟨p,m,hm,rfl,rfl,hpR⟩:=hrel;have HPR:=Hd hpR;clear hpR;have hpb:=join_bd p R m hm HPR.o hR1 hR2;obtain ⟨hpb1,hpb2⟩:=hpb;obtain ⟨x1,x2,x3,x4,x5⟩:=tdm p 10 (by decide);have HX1:=Hd x1;clear x1;by_cases hm0:0<m
   ·have hm0':(0:Int)<(m:Int):=(by omega);by_cases hz:p.tmod 10=0
    ·have hz':(p.tmod 10==0)=true:=(by simp [hz]);have HZ:=Hd hz;clear hz;go_wp2
     go_round
     case rel=>exact ⟨p.tdiv 10,m-1,by omega,rfl,by congr 1; omega,join_step p R m hm hm0 HPR.o HX1.o HZ.o⟩
     case measure=>simp [intOf]; omega
    ·have hz':(p.tmod 10==0)=false:=(by simp [hz]);have HN:=Hd (join_norm W R p m a b hm HPR.o HWR.o (Or.inr hz));clear hz;have hcell:=tens_at HT.o m hm;have hpw:=pw_bd m hm;obtain ⟨hpw1,hpw2⟩:=hpw;have hdv:=quo_bd m hm;obtain ⟨hdv1,hdv2⟩:=hdv;by_cases hlo:W< -(1000000000000000 / pw (m:Int))
     ·have HF:=Hd (join_no W R p m a b hm HPR.o hR1 hR2 HSG.o HN.o (Or.inl hlo))
      try (exfalso; omega)
      all_goals go_wp2
      all_goals
       rw [HF.o];refine bodyPost_ret (v:=.tuple #[.agg #[.int .i64 0,.int .i64 0],.bool false]) (by simp [results,Tryz.results83,go_sem]) rfl ⟨rfl,?_⟩;exact (Ext.refl w).alloc _
     by_cases hhi:1000000000000000 / pw (m:Int)<W
     ·have HF:=Hd (join_no W R p m a b hm HPR.o hR1 hR2 HSG.o HN.o (Or.inr hhi))
      try (exfalso; omega)
      all_goals go_wp2
      all_goals
       rw [HF.o];refine bodyPost_ret (v:=.tuple #[.agg #[.int .i64 0,.int .i64 0],.bool false]) (by simp [results,Tryz.results83,go_sem]) rfl ⟨rfl,?_⟩;exact (Ext.refl w).alloc _
     have hprod:=prod_bd W m hm (by omega) (by omega);obtain ⟨hprod1,hprod2⟩:=hprod;cases hu:unitsB (W*pw (m:Int)+p)
     ·have HF:=Hd (show joinS (a*1000000+b)=((0,0),false) by unfold joinS; rw [HN.o,hu]; rfl);have HUU:=Hd hu;clear hu
      go_wp2_with (go_at_call 113; refine (decimal_within _ _).mono ?_; rintro e w' ⟨rfl,rfl⟩; rw [HUU.o])
      all_goals
       rw [HF.o];refine bodyPost_ret (v:=.tuple #[.agg #[.int .i64 0,.int .i64 0],.bool false]) (by simp [results,Tryz.results83,go_sem]) rfl ⟨rfl,?_⟩;exact (Ext.refl w).alloc _
     ·have HF:=Hd (show joinS (a*1000000+b)=((W*pw (m:Int)+p,(m:Int)),true) by unfold joinS; rw [HN.o,hu]; rfl);have HUU:=Hd hu;clear hu
      go_wp2_with (go_at_call 113; refine (decimal_within _ _).mono ?_; rintro e w' ⟨rfl,rfl⟩; rw [HUU.o])
      all_goals
       rw [HF.o];refine bodyPost_ret (v:=.tuple #[.agg #[.int .i64 (W*pw (m:Int)+p),.int .i64 (m:Int)],.bool true]) (by simp [results,Tryz.results83,go_sem]) rfl ⟨rfl,?_⟩;exact (Ext.refl w).alloc _
   ·have hm0':¬ (0:Int)<(m:Int):=(by omega);have HN:=Hd (join_norm W R p m a b hm HPR.o HWR.o (Or.inl (by omega)));obtain rfl:m=0:=by omega
    have HN':=Hd (show normU (a*1000000+b)=(W+p,0) by have:=HN.o; simpa [pw] using this);have hcell:=HT.o.1;by_cases hlo:W< -1000000000000000
    ·have HF:=Hd (join_no W R p 0 a b hm HPR.o hR1 hR2 HSG.o HN.o (Or.inl (by simpa [pw] using hlo)))
     try (exfalso; omega)
     all_goals go_wp2
     all_goals
      rw [HF.o];refine bodyPost_ret (v:=.tuple #[.agg #[.int .i64 0,.int .i64 0],.bool false]) (by simp [results,Tryz.results83,go_sem]) rfl ⟨rfl,?_⟩;exact (Ext.refl w).alloc _
    by_cases hhi:1000000000000000<W
    ·have HF:=Hd (join_no W R p 0 a b hm HPR.o hR1 hR2 HSG.o HN.o (Or.inr (by simpa [pw] using hhi)))
     try (exfalso; omega)
     all_goals go_wp2
     all_goals
      rw [HF.o];refine bodyPost_ret (v:=.tuple #[.agg #[.int .i64 0,.int .i64 0],.bool false]) (by simp [results,Tryz.results83,go_sem]) rfl ⟨rfl,?_⟩;exact (Ext.refl w).alloc _
    cases hu:unitsB (W+p)
    ·have HF:=Hd (show joinS (a*1000000+b)=((0,0),false) by unfold joinS; rw [HN'.out,hu]; rfl);have HUU:=Hd hu;clear hu
     go_wp2_with (go_at_call 113; refine (decimal_within _ _).mono ?_; rintro e w' ⟨rfl,rfl⟩; rw [HUU.o])
     all_goals
      rw [HF.o];refine bodyPost_ret (v:=.tuple #[.agg #[.int .i64 0,.int .i64 0],.bool false]) (by simp [results,Tryz.results83,go_sem]) rfl ⟨rfl,?_⟩;exact (Ext.refl w).alloc _
    ·have HF:=Hd (show joinS (a*1000000+b)=((W+p,0),true) by unfold joinS; rw [HN'.out,hu]; rfl);have HUU:=Hd hu;clear hu
     go_wp2_with (go_at_call 113; refine (decimal_within _ _).mono ?_; rintro e w' ⟨rfl,rfl⟩; rw [HUU.o])
     all_goals
      rw [HF.o];refine bodyPost_ret (v:=.tuple #[.agg #[.int .i64 (W+p),.int .i64 0],.bool true]) (by simp [results,Tryz.results83,go_sem]) rfl ⟨rfl,?_⟩;exact (Ext.refl w).alloc _

theorem decimal_join_neg (a b:Int) (w:World) (ht:Tens w) (ha1:-4000000000000000≤a) (ha2:a≤4000000000000000) (hb1:-4000000≤b) (hb2:b≤4000000) (hb0:b<0) :
  Calls Tryz.prog 83 #[.int .i64 a,.int .i64 b] w (RetDB w (joinS (a*1000000+b))):=by
 have hp:=ht.pos;have HT:=Hd ht;clear ht;obtain ⟨d1,d2,d3,d4,d5⟩:=tdm b 1000000 (by decide);have HU:=Hd d1;have q1:-5≤b.tdiv 1000000:=(by omega);have q2:b.tdiv 1000000≤5:=(by omega);have d6:b.tmod 1000000≤0:=d5 (by omega);clear d1 d4 d5
 go_enter Tryz.func83,Tryz.ntmps83
 go_wp2_with fail
 ·have hWR:(a+b.tdiv 1000000-1)*1000000+(b.tmod 1000000+1000000)=a*1000000+b:=(by have:=HU.o; omega);have hR1:-1000000<b.tmod 1000000+1000000:=(by omega);have hR2:b.tmod 1000000+1000000<1000000:=(by omega);have hW1:-4000000000000010≤a+b.tdiv 1000000-1:=(by omega);have hW2:a+b.tdiv 1000000-1≤4000000000000010:=(by omega);have hsg:(0<a+b.tdiv 1000000-1→0≤b.tmod 1000000+1000000)∧(a+b.tdiv 1000000-1<0→b.tmod 1000000+1000000≤0):=(by omega);have HWR:=Hd hWR;have HSG:=Hd hsg;clear hWR hsg;generalize hWe:a+b.tdiv 1000000-1=W at *;generalize hRe:b.tmod 1000000+1000000=R at *;clear hWe hRe
  go_loop [1,6] (fun v i=>∃ (p:Int) (m:Nat),m≤6∧v=.int .i64 p∧i=.int .i64 m∧p*pw (6-(m:Int))=R) (fun _ i=>(intOf i).toNat)
  case atStart=>exact ⟨R,6,by omega,rfl,rfl,by simp [pw]⟩
  case round =>
   obtain ⟨p,m,hm,rfl,rfl,hpR⟩:=hrel;have HPR:=Hd hpR;clear hpR;have hpb:=join_bd p R m hm HPR.o hR1 hR2;obtain ⟨hpb1,hpb2⟩:=hpb;obtain ⟨x1,x2,x3,x4,x5⟩:=tdm p 10 (by decide);have HX1:=Hd x1;clear x1;by_cases hm0:0<m
   ·have hm0':(0:Int)<(m:Int):=(by omega);by_cases hz:p.tmod 10=0
    ·have hz':(p.tmod 10==0)=true:=(by simp [hz]);have HZ:=Hd hz;clear hz;go_wp2
     go_round
     case rel=>exact ⟨p.tdiv 10,m-1,by omega,rfl,by congr 1; omega,join_step p R m hm hm0 HPR.o HX1.o HZ.o⟩
     case measure=>simp [intOf]; omega
    ·have hz':(p.tmod 10==0)=false:=(by simp [hz]);have HN:=Hd (join_norm W R p m a b hm HPR.o HWR.o (Or.inr hz));clear hz;have hcell:=tens_at HT.o m hm;have hpw:=pw_bd m hm;obtain ⟨hpw1,hpw2⟩:=hpw;have hdv:=quo_bd m hm;obtain ⟨hdv1,hdv2⟩:=hdv;by_cases hlo:W< -(1000000000000000 / pw (m:Int))
     ·have HF:=Hd (join_no W R p m a b hm HPR.o hR1 hR2 HSG.o HN.o (Or.inl hlo))
      try (exfalso; omega)
      all_goals go_wp2
      all_goals
       rw [HF.o];refine bodyPost_ret (v:=.tuple #[.agg #[.int .i64 0,.int .i64 0],.bool false]) (by simp [results,Tryz.results83,go_sem]) rfl ⟨rfl,?_⟩;exact (Ext.refl w).alloc _
     by_cases hhi:1000000000000000 / pw (m:Int)<W
     ·have HF:=Hd (join_no W R p m a b hm HPR.o hR1 hR2 HSG.o HN.o (Or.inr hhi))
      try (exfalso; omega)
      all_goals go_wp2
      all_goals
       rw [HF.o];refine bodyPost_ret (v:=.tuple #[.agg #[.int .i64 0,.int .i64 0],.bool false]) (by simp [results,Tryz.results83,go_sem]) rfl ⟨rfl,?_⟩;exact (Ext.refl w).alloc _
     have hprod:=prod_bd W m hm (by omega) (by omega);obtain ⟨hprod1,hprod2⟩:=hprod;cases hu:unitsB (W*pw (m:Int)+p)
     ·have HF:=Hd (show joinS (a*1000000+b)=((0,0),false) by unfold joinS; rw [HN.o,hu]; rfl);have HUU:=Hd hu;clear hu
      go_wp2_with (go_at_call 113; refine (decimal_within _ _).mono ?_; rintro e w' ⟨rfl,rfl⟩; rw [HUU.o])
      all_goals
       rw [HF.o];refine bodyPost_ret (v:=.tuple #[.agg #[.int .i64 0,.int .i64 0],.bool false]) (by simp [results,Tryz.results83,go_sem]) rfl ⟨rfl,?_⟩;exact (Ext.refl w).alloc _
     ·have HF:=Hd (show joinS (a*1000000+b)=((W*pw (m:Int)+p,(m:Int)),true) by unfold joinS; rw [HN.o,hu]; rfl);have HUU:=Hd hu;clear hu
      go_wp2_with (go_at_call 113; refine (decimal_within _ _).mono ?_; rintro e w' ⟨rfl,rfl⟩; rw [HUU.o])
      all_goals
       rw [HF.o];refine bodyPost_ret (v:=.tuple #[.agg #[.int .i64 (W*pw (m:Int)+p),.int .i64 (m:Int)],.bool true]) (by simp [results,Tryz.results83,go_sem]) rfl ⟨rfl,?_⟩;exact (Ext.refl w).alloc _
   ·have hm0':¬ (0:Int)<(m:Int):=(by omega);have HN:=Hd (join_norm W R p m a b hm HPR.o HWR.o (Or.inl (by omega)));obtain rfl:m=0:=by omega
    have HN':=Hd (show normU (a*1000000+b)=(W+p,0) by have:=HN.o; simpa [pw] using this);have hcell:=HT.o.1;by_cases hlo:W< -1000000000000000
    ·have HF:=Hd (join_no W R p 0 a b hm HPR.o hR1 hR2 HSG.o HN.o (Or.inl (by simpa [pw] using hlo)))
     try (exfalso; omega)
     all_goals go_wp2
     all_goals
      rw [HF.o];refine bodyPost_ret (v:=.tuple #[.agg #[.int .i64 0,.int .i64 0],.bool false]) (by simp [results,Tryz.results83,go_sem]) rfl ⟨rfl,?_⟩;exact (Ext.refl w).alloc _
    by_cases hhi:1000000000000000<W
    ·have HF:=Hd (join_no W R p 0 a b hm HPR.o hR1 hR2 HSG.o HN.o (Or.inr (by simpa [pw] using hhi)))
     try (exfalso; omega)
     all_goals go_wp2
     all_goals
      rw [HF.o];refine bodyPost_ret (v:=.tuple #[.agg #[.int .i64 0,.int .i64 0],.bool false]) (by simp [results,Tryz.results83,go_sem]) rfl ⟨rfl,?_⟩;exact (Ext.refl w).alloc _
    cases hu:unitsB (W+p)
    ·have HF:=Hd (show joinS (a*1000000+b)=((0,0),false) by unfold joinS; rw [HN'.out,hu]; rfl);have HUU:=Hd hu;clear hu
     go_wp2_with (go_at_call 113; refine (decimal_within _ _).mono ?_; rintro e w' ⟨rfl,rfl⟩; rw [HUU.o])
     all_goals
      rw [HF.o];refine bodyPost_ret (v:=.tuple #[.agg #[.int .i64 0,.int .i64 0],.bool false]) (by simp [results,Tryz.results83,go_sem]) rfl ⟨rfl,?_⟩;exact (Ext.refl w).alloc _
    ·have HF:=Hd (show joinS (a*1000000+b)=((W+p,0),true) by unfold joinS; rw [HN'.out,hu]; rfl);have HUU:=Hd hu;clear hu
     go_wp2_with (go_at_call 113; refine (decimal_within _ _).mono ?_; rintro e w' ⟨rfl,rfl⟩; rw [HUU.o])
     all_goals
      rw [HF.o];refine bodyPost_ret (v:=.tuple #[.agg #[.int .i64 (W+p),.int .i64 0],.bool true]) (by simp [results,Tryz.results83,go_sem]) rfl ⟨rfl,?_⟩;exact (Ext.refl w).alloc _
 ·have hWR:(a+b.tdiv 1000000)*1000000+(b.tmod 1000000)=a*1000000+b:=(by have:=HU.o; omega);have hR1:-1000000<b.tmod 1000000:=(by omega);have hR2:b.tmod 1000000<1000000:=(by omega);have hW1:-4000000000000010≤a+b.tdiv 1000000:=(by omega);have hW2:a+b.tdiv 1000000≤4000000000000010:=(by omega);have hsg:(0<a+b.tdiv 1000000→0≤b.tmod 1000000)∧(a+b.tdiv 1000000<0→b.tmod 1000000≤0):=(by omega);have HWR:=Hd hWR;have HSG:=Hd hsg;clear hWR hsg;generalize hWe:a+b.tdiv 1000000=W at *;generalize hRe:b.tmod 1000000=R at *;clear hWe hRe
  go_loop [1,6] (fun v i=>∃ (p:Int) (m:Nat),m≤6∧v=.int .i64 p∧i=.int .i64 m∧p*pw (6-(m:Int))=R) (fun _ i=>(intOf i).toNat)
  case atStart=>exact ⟨R,6,by omega,rfl,rfl,by simp [pw]⟩
  case round =>
   obtain ⟨p,m,hm,rfl,rfl,hpR⟩:=hrel;have HPR:=Hd hpR;clear hpR;have hpb:=join_bd p R m hm HPR.o hR1 hR2;obtain ⟨hpb1,hpb2⟩:=hpb;obtain ⟨x1,x2,x3,x4,x5⟩:=tdm p 10 (by decide);have HX1:=Hd x1;clear x1;by_cases hm0:0<m
   ·have hm0':(0:Int)<(m:Int):=(by omega);by_cases hz:p.tmod 10=0
    ·have hz':(p.tmod 10==0)=true:=(by simp [hz]);have HZ:=Hd hz;clear hz;go_wp2
     go_round
     case rel=>exact ⟨p.tdiv 10,m-1,by omega,rfl,by congr 1; omega,join_step p R m hm hm0 HPR.o HX1.o HZ.o⟩
     case measure=>simp [intOf]; omega
    ·have hz':(p.tmod 10==0)=false:=(by simp [hz]);have HN:=Hd (join_norm W R p m a b hm HPR.o HWR.o (Or.inr hz));clear hz;have hcell:=tens_at HT.o m hm;have hpw:=pw_bd m hm;obtain ⟨hpw1,hpw2⟩:=hpw;have hdv:=quo_bd m hm;obtain ⟨hdv1,hdv2⟩:=hdv;by_cases hlo:W< -(1000000000000000 / pw (m:Int))
     ·have HF:=Hd (join_no W R p m a b hm HPR.o hR1 hR2 HSG.o HN.o (Or.inl hlo))
      try (exfalso; omega)
      all_goals go_wp2
      all_goals
       rw [HF.o];refine bodyPost_ret (v:=.tuple #[.agg #[.int .i64 0,.int .i64 0],.bool false]) (by simp [results,Tryz.results83,go_sem]) rfl ⟨rfl,?_⟩;exact (Ext.refl w).alloc _
     by_cases hhi:1000000000000000 / pw (m:Int)<W
     ·have HF:=Hd (join_no W R p m a b hm HPR.o hR1 hR2 HSG.o HN.o (Or.inr hhi))
      try (exfalso; omega)
      all_goals go_wp2
      all_goals
       rw [HF.o];refine bodyPost_ret (v:=.tuple #[.agg #[.int .i64 0,.int .i64 0],.bool false]) (by simp [results,Tryz.results83,go_sem]) rfl ⟨rfl,?_⟩;exact (Ext.refl w).alloc _
     have hprod:=prod_bd W m hm (by omega) (by omega);obtain ⟨hprod1,hprod2⟩:=hprod;cases hu:unitsB (W*pw (m:Int)+p)
     ·have HF:=Hd (show joinS (a*1000000+b)=((0,0),false) by unfold joinS; rw [HN.o,hu]; rfl);have HUU:=Hd hu;clear hu
      go_wp2_with (go_at_call 113; refine (decimal_within _ _).mono ?_; rintro e w' ⟨rfl,rfl⟩; rw [HUU.o])
      all_goals
       rw [HF.o];refine bodyPost_ret (v:=.tuple #[.agg #[.int .i64 0,.int .i64 0],.bool false]) (by simp [results,Tryz.results83,go_sem]) rfl ⟨rfl,?_⟩;exact (Ext.refl w).alloc _
     ·have HF:=Hd (show joinS (a*1000000+b)=((W*pw (m:Int)+p,(m:Int)),true) by unfold joinS; rw [HN.o,hu]; rfl);have HUU:=Hd hu;clear hu
      go_wp2_with (go_at_call 113; refine (decimal_within _ _).mono ?_; rintro e w' ⟨rfl,rfl⟩; rw [HUU.o])
      all_goals
       rw [HF.o];refine bodyPost_ret (v:=.tuple #[.agg #[.int .i64 (W*pw (m:Int)+p),.int .i64 (m:Int)],.bool true]) (by simp [results,Tryz.results83,go_sem]) rfl ⟨rfl,?_⟩;exact (Ext.refl w).alloc _
   ·have hm0':¬ (0:Int)<(m:Int):=(by omega);have HN:=Hd (join_norm W R p m a b hm HPR.o HWR.o (Or.inl (by omega)));obtain rfl:m=0:=by omega
    have HN':=Hd (show normU (a*1000000+b)=(W+p,0) by have:=HN.o; simpa [pw] using this);have hcell:=HT.o.1;by_cases hlo:W< -1000000000000000
    ·have HF:=Hd (join_no W R p 0 a b hm HPR.o hR1 hR2 HSG.o HN.o (Or.inl (by simpa [pw] using hlo)))
     try (exfalso; omega)
     all_goals go_wp2
     all_goals
      rw [HF.o];refine bodyPost_ret (v:=.tuple #[.agg #[.int .i64 0,.int .i64 0],.bool false]) (by simp [results,Tryz.results83,go_sem]) rfl ⟨rfl,?_⟩;exact (Ext.refl w).alloc _
    by_cases hhi:1000000000000000<W
    ·have HF:=Hd (join_no W R p 0 a b hm HPR.o hR1 hR2 HSG.o HN.o (Or.inr (by simpa [pw] using hhi)))
     try (exfalso; omega)
     all_goals go_wp2
     all_goals
      rw [HF.o];refine bodyPost_ret (v:=.tuple #[.agg #[.int .i64 0,.int .i64 0],.bool false]) (by simp [results,Tryz.results83,go_sem]) rfl ⟨rfl,?_⟩;exact (Ext.refl w).alloc _
    cases hu:unitsB (W+p)
    ·have HF:=Hd (show joinS (a*1000000+b)=((0,0),false) by unfold joinS; rw [HN'.out,hu]; rfl);have HUU:=Hd hu;clear hu
     go_wp2_with (go_at_call 113; refine (decimal_within _ _).mono ?_; rintro e w' ⟨rfl,rfl⟩; rw [HUU.o])
     all_goals
      rw [HF.o];refine bodyPost_ret (v:=.tuple #[.agg #[.int .i64 0,.int .i64 0],.bool false]) (by simp [results,Tryz.results83,go_sem]) rfl ⟨rfl,?_⟩;exact (Ext.refl w).alloc _
    ·have HF:=Hd (show joinS (a*1000000+b)=((W+p,0),true) by unfold joinS; rw [HN'.out,hu]; rfl);have HUU:=Hd hu;clear hu
     go_wp2_with (go_at_call 113; refine (decimal_within _ _).mono ?_; rintro e w' ⟨rfl,rfl⟩; rw [HUU.o])
     all_goals
      rw [HF.o];refine bodyPost_ret (v:=.tuple #[.agg #[.int .i64 (W+p),.int .i64 0],.bool true]) (by simp [results,Tryz.results83,go_sem]) rfl ⟨rfl,?_⟩;exact (Ext.refl w).alloc _
 ·have hWR:(a+b.tdiv 1000000)*1000000+(b.tmod 1000000)=a*1000000+b:=(by have:=HU.o; omega);have hR1:-1000000<b.tmod 1000000:=(by omega);have hR2:b.tmod 1000000<1000000:=(by omega);have hW1:-4000000000000010≤a+b.tdiv 1000000:=(by omega);have hW2:a+b.tdiv 1000000≤4000000000000010:=(by omega);have hsg:(0<a+b.tdiv 1000000→0≤b.tmod 1000000)∧(a+b.tdiv 1000000<0→b.tmod 1000000≤0):=(by omega);have HWR:=Hd hWR;have HSG:=Hd hsg;clear hWR hsg;generalize hWe:a+b.tdiv 1000000=W at *;generalize hRe:b.tmod 1000000=R at *;clear hWe hRe
  go_loop [1,6] (fun v i=>∃ (p:Int) (m:Nat),m≤6∧v=.int .i64 p∧i=.int .i64 m∧p*pw (6-(m:Int))=R) (fun _ i=>(intOf i).toNat)
  case atStart=>exact ⟨R,6,by omega,rfl,rfl,by simp [pw]⟩
  case round =>
   obtain ⟨p,m,hm,rfl,rfl,hpR⟩:=hrel;have HPR:=Hd hpR;clear hpR;have hpb:=join_bd p R m hm HPR.o hR1 hR2;obtain ⟨hpb1,hpb2⟩:=hpb;obtain ⟨x1,x2,x3,x4,x5⟩:=tdm p 10 (by decide);have HX1:=Hd x1;clear x1;by_cases hm0:0<m
   ·have hm0':(0:Int)<(m:Int):=(by omega);by_cases hz:p.tmod 10=0
    ·have hz':(p.tmod 10==0)=true:=(by simp [hz]);have HZ:=Hd hz;clear hz;go_wp2
     go_round
     case rel=>exact ⟨p.tdiv 10,m-1,by omega,rfl,by congr 1; omega,join_step p R m hm hm0 HPR.o HX1.o HZ.o⟩
     case measure=>simp [intOf]; omega
    ·have hz':(p.tmod 10==0)=false:=(by simp [hz]);have HN:=Hd (join_norm W R p m a b hm HPR.o HWR.o (Or.inr hz));clear hz;have hcell:=tens_at HT.o m hm;have hpw:=pw_bd m hm;obtain ⟨hpw1,hpw2⟩:=hpw;have hdv:=quo_bd m hm;obtain ⟨hdv1,hdv2⟩:=hdv;by_cases hlo:W< -(1000000000000000 / pw (m:Int))
     ·have HF:=Hd (join_no W R p m a b hm HPR.o hR1 hR2 HSG.o HN.o (Or.inl hlo))
      try (exfalso; omega)
      all_goals go_wp2
      all_goals
       rw [HF.o];refine bodyPost_ret (v:=.tuple #[.agg #[.int .i64 0,.int .i64 0],.bool false]) (by simp [results,Tryz.results83,go_sem]) rfl ⟨rfl,?_⟩;exact (Ext.refl w).alloc _
     by_cases hhi:1000000000000000 / pw (m:Int)<W
     ·have HF:=Hd (join_no W R p m a b hm HPR.o hR1 hR2 HSG.o HN.o (Or.inr hhi))
      try (exfalso; omega)
      all_goals go_wp2
      all_goals
       rw [HF.o];refine bodyPost_ret (v:=.tuple #[.agg #[.int .i64 0,.int .i64 0],.bool false]) (by simp [results,Tryz.results83,go_sem]) rfl ⟨rfl,?_⟩;exact (Ext.refl w).alloc _
     have hprod:=prod_bd W m hm (by omega) (by omega);obtain ⟨hprod1,hprod2⟩:=hprod;cases hu:unitsB (W*pw (m:Int)+p)
     ·have HF:=Hd (show joinS (a*1000000+b)=((0,0),false) by unfold joinS; rw [HN.o,hu]; rfl);have HUU:=Hd hu;clear hu
      go_wp2_with (go_at_call 113; refine (decimal_within _ _).mono ?_; rintro e w' ⟨rfl,rfl⟩; rw [HUU.o])
      all_goals
       rw [HF.o];refine bodyPost_ret (v:=.tuple #[.agg #[.int .i64 0,.int .i64 0],.bool false]) (by simp [results,Tryz.results83,go_sem]) rfl ⟨rfl,?_⟩;exact (Ext.refl w).alloc _
     ·have HF:=Hd (show joinS (a*1000000+b)=((W*pw (m:Int)+p,(m:Int)),true) by unfold joinS; rw [HN.o,hu]; rfl);have HUU:=Hd hu;clear hu
      go_wp2_with (go_at_call 113; refine (decimal_within _ _).mono ?_; rintro e w' ⟨rfl,rfl⟩; rw [HUU.o])
      all_goals
       rw [HF.o];refine bodyPost_ret (v:=.tuple #[.agg #[.int .i64 (W*pw (m:Int)+p),.int .i64 (m:Int)],.bool true]) (by simp [results,Tryz.results83,go_sem]) rfl ⟨rfl,?_⟩;exact (Ext.refl w).alloc _
   ·have hm0':¬ (0:Int)<(m:Int):=(by omega);have HN:=Hd (join_norm W R p m a b hm HPR.o HWR.o (Or.inl (by omega)));obtain rfl:m=0:=by omega
    have HN':=Hd (show normU (a*1000000+b)=(W+p,0) by have:=HN.o; simpa [pw] using this);have hcell:=HT.o.1;by_cases hlo:W< -1000000000000000
    ·have HF:=Hd (join_no W R p 0 a b hm HPR.o hR1 hR2 HSG.o HN.o (Or.inl (by simpa [pw] using hlo)))
     try (exfalso; omega)
     all_goals go_wp2
     all_goals
      rw [HF.o];refine bodyPost_ret (v:=.tuple #[.agg #[.int .i64 0,.int .i64 0],.bool false]) (by simp [results,Tryz.results83,go_sem]) rfl ⟨rfl,?_⟩;exact (Ext.refl w).alloc _
    by_cases hhi:1000000000000000<W
    ·have HF:=Hd (join_no W R p 0 a b hm HPR.o hR1 hR2 HSG.o HN.o (Or.inr (by simpa [pw] using hhi)))
     try (exfalso; omega)
     all_goals go_wp2
     all_goals
      rw [HF.o];refine bodyPost_ret (v:=.tuple #[.agg #[.int .i64 0,.int .i64 0],.bool false]) (by simp [results,Tryz.results83,go_sem]) rfl ⟨rfl,?_⟩;exact (Ext.refl w).alloc _
    cases hu:unitsB (W+p)
    ·have HF:=Hd (show joinS (a*1000000+b)=((0,0),false) by unfold joinS; rw [HN'.out,hu]; rfl);have HUU:=Hd hu;clear hu
     go_wp2_with (go_at_call 113; refine (decimal_within _ _).mono ?_; rintro e w' ⟨rfl,rfl⟩; rw [HUU.o])
     all_goals
      rw [HF.o];refine bodyPost_ret (v:=.tuple #[.agg #[.int .i64 0,.int .i64 0],.bool false]) (by simp [results,Tryz.results83,go_sem]) rfl ⟨rfl,?_⟩;exact (Ext.refl w).alloc _
    ·have HF:=Hd (show joinS (a*1000000+b)=((W+p,0),true) by unfold joinS; rw [HN'.out,hu]; rfl);have HUU:=Hd hu;clear hu
     go_wp2_with (go_at_call 113; refine (decimal_within _ _).mono ?_; rintro e w' ⟨rfl,rfl⟩; rw [HUU.o])
     all_goals
      rw [HF.o];refine bodyPost_ret (v:=.tuple #[.agg #[.int .i64 (W+p),.int .i64 0],.bool true]) (by simp [results,Tryz.results83,go_sem]) rfl ⟨rfl,?_⟩;exact (Ext.refl w).alloc _
 ·have hWR:(a+b.tdiv 1000000)*1000000+(b.tmod 1000000)=a*1000000+b:=(by have:=HU.o; omega);have hR1:-1000000<b.tmod 1000000:=(by omega);have hR2:b.tmod 1000000<1000000:=(by omega);have hW1:-4000000000000010≤a+b.tdiv 1000000:=(by omega);have hW2:a+b.tdiv 1000000≤4000000000000010:=(by omega);have hsg:(0<a+b.tdiv 1000000→0≤b.tmod 1000000)∧(a+b.tdiv 1000000<0→b.tmod 1000000≤0):=(by omega);have HWR:=Hd hWR;have HSG:=Hd hsg;clear hWR hsg;generalize hWe:a+b.tdiv 1000000=W at *;generalize hRe:b.tmod 1000000=R at *;clear hWe hRe
  go_loop [1,6] (fun v i=>∃ (p:Int) (m:Nat),m≤6∧v=.int .i64 p∧i=.int .i64 m∧p*pw (6-(m:Int))=R) (fun _ i=>(intOf i).toNat)
  case atStart=>exact ⟨R,6,by omega,rfl,rfl,by simp [pw]⟩
  case round =>
   obtain ⟨p,m,hm,rfl,rfl,hpR⟩:=hrel;have HPR:=Hd hpR;clear hpR;have hpb:=join_bd p R m hm HPR.o hR1 hR2;obtain ⟨hpb1,hpb2⟩:=hpb;obtain ⟨x1,x2,x3,x4,x5⟩:=tdm p 10 (by decide);have HX1:=Hd x1;clear x1;by_cases hm0:0<m
   ·have hm0':(0:Int)<(m:Int):=(by omega);by_cases hz:p.tmod 10=0
    ·have hz':(p.tmod 10==0)=true:=(by simp [hz]);have HZ:=Hd hz;clear hz;go_wp2
     go_round
     case rel=>exact ⟨p.tdiv 10,m-1,by omega,rfl,by congr 1; omega,join_step p R m hm hm0 HPR.o HX1.o HZ.o⟩
     case measure=>simp [intOf]; omega
    ·have hz':(p.tmod 10==0)=false:=(by simp [hz]);have HN:=Hd (join_norm W R p m a b hm HPR.o HWR.o (Or.inr hz));clear hz;have hcell:=tens_at HT.o m hm;have hpw:=pw_bd m hm;obtain ⟨hpw1,hpw2⟩:=hpw;have hdv:=quo_bd m hm;obtain ⟨hdv1,hdv2⟩:=hdv;by_cases hlo:W< -(1000000000000000 / pw (m:Int))
     ·have HF:=Hd (join_no W R p m a b hm HPR.o hR1 hR2 HSG.o HN.o (Or.inl hlo))
      try (exfalso; omega)
      all_goals go_wp2
      all_goals
       rw [HF.o];refine bodyPost_ret (v:=.tuple #[.agg #[.int .i64 0,.int .i64 0],.bool false]) (by simp [results,Tryz.results83,go_sem]) rfl ⟨rfl,?_⟩;exact (Ext.refl w).alloc _
     by_cases hhi:1000000000000000 / pw (m:Int)<W
     ·have HF:=Hd (join_no W R p m a b hm HPR.o hR1 hR2 HSG.o HN.o (Or.inr hhi))
      try (exfalso; omega)
      all_goals go_wp2
      all_goals
       rw [HF.o];refine bodyPost_ret (v:=.tuple #[.agg #[.int .i64 0,.int .i64 0],.bool false]) (by simp [results,Tryz.results83,go_sem]) rfl ⟨rfl,?_⟩;exact (Ext.refl w).alloc _
     have hprod:=prod_bd W m hm (by omega) (by omega);obtain ⟨hprod1,hprod2⟩:=hprod;cases hu:unitsB (W*pw (m:Int)+p)
     ·have HF:=Hd (show joinS (a*1000000+b)=((0,0),false) by unfold joinS; rw [HN.o,hu]; rfl);have HUU:=Hd hu;clear hu
      go_wp2_with (go_at_call 113; refine (decimal_within _ _).mono ?_; rintro e w' ⟨rfl,rfl⟩; rw [HUU.o])
      all_goals
       rw [HF.o];refine bodyPost_ret (v:=.tuple #[.agg #[.int .i64 0,.int .i64 0],.bool false]) (by simp [results,Tryz.results83,go_sem]) rfl ⟨rfl,?_⟩;exact (Ext.refl w).alloc _
     ·have HF:=Hd (show joinS (a*1000000+b)=((W*pw (m:Int)+p,(m:Int)),true) by unfold joinS; rw [HN.o,hu]; rfl);have HUU:=Hd hu;clear hu
      go_wp2_with (go_at_call 113; refine (decimal_within _ _).mono ?_; rintro e w' ⟨rfl,rfl⟩; rw [HUU.o])
      all_goals
       rw [HF.o];refine bodyPost_ret (v:=.tuple #[.agg #[.int .i64 (W*pw (m:Int)+p),.int .i64 (m:Int)],.bool true]) (by simp [results,Tryz.results83,go_sem]) rfl ⟨rfl,?_⟩;exact (Ext.refl w).alloc _
   ·have hm0':¬ (0:Int)<(m:Int):=(by omega);have HN:=Hd (join_norm W R p m a b hm HPR.o HWR.o (Or.inl (by omega)));obtain rfl:m=0:=by omega
    have HN':=Hd (show normU (a*1000000+b)=(W+p,0) by have:=HN.o; simpa [pw] using this);have hcell:=HT.o.1;by_cases hlo:W< -1000000000000000
    ·have HF:=Hd (join_no W R p 0 a b hm HPR.o hR1 hR2 HSG.o HN.o (Or.inl (by simpa [pw] using hlo)))
     try (exfalso; omega)
     all_goals go_wp2
     all_goals
      rw [HF.o];refine bodyPost_ret (v:=.tuple #[.agg #[.int .i64 0,.int .i64 0],.bool false]) (by simp [results,Tryz.results83,go_sem]) rfl ⟨rfl,?_⟩;exact (Ext.refl w).alloc _
    by_cases hhi:1000000000000000<W
    ·have HF:=Hd (join_no W R p 0 a b hm HPR.o hR1 hR2 HSG.o HN.o (Or.inr (by simpa [pw] using hhi)))
     try (exfalso; omega)
     all_goals go_wp2
     all_goals
      rw [HF.o];refine bodyPost_ret (v:=.tuple #[.agg #[.int .i64 0,.int .i64 0],.bool false]) (by simp [results,Tryz.results83,go_sem]) rfl ⟨rfl,?_⟩;exact (Ext.refl w).alloc _
    cases hu:unitsB (W+p)
    ·have HF:=Hd (show joinS (a*1000000+b)=((0,0),false) by unfold joinS; rw [HN'.out,hu]; rfl);have HUU:=Hd hu;clear hu
     go_wp2_with (go_at_call 113; refine (decimal_within _ _).mono ?_; rintro e w' ⟨rfl,rfl⟩; rw [HUU.o])
     all_goals
      rw [HF.o];refine bodyPost_ret (v:=.tuple #[.agg #[.int .i64 0,.int .i64 0],.bool false]) (by simp [results,Tryz.results83,go_sem]) rfl ⟨rfl,?_⟩;exact (Ext.refl w).alloc _
    ·have HF:=Hd (show joinS (a*1000000+b)=((W+p,0),true) by unfold joinS; rw [HN'.out,hu]; rfl);have HUU:=Hd hu;clear hu
     go_wp2_with (go_at_call 113; refine (decimal_within _ _).mono ?_; rintro e w' ⟨rfl,rfl⟩; rw [HUU.o])
     all_goals
      rw [HF.o];refine bodyPost_ret (v:=.tuple #[.agg #[.int .i64 (W+p),.int .i64 0],.bool true]) (by simp [results,Tryz.results83,go_sem]) rfl ⟨rfl,?_⟩;exact (Ext.refl w).alloc _

theorem decimal_join (a b:Int) (w:World) (ht:Tens w) (ha1:-4000000000000000≤a) (ha2:a≤4000000000000000) (hb1:-4000000≤b) (hb2:b≤4000000) :
  Calls Tryz.prog 83 #[.int .i64 a,.int .i64 b] w (RetDB w (joinS (a*1000000+b))):=by
 by_cases hb0:0≤b
 ·exact decimal_join_pos a b w ht ha1 ha2 hb1 hb2 hb0
 ·exact decimal_join_neg a b w ht ha1 ha2 hb1 hb2 (by omega)

theorem mu_bd (n s:Int):-1000000000000000≤(mu n s).tdiv 1000000∧(mu n s).tdiv 1000000≤1000000000000000∧-1000000<(mu n s).tmod 1000000∧(mu n s).tmod 1000000<1000000:=by
 obtain ⟨a,b,c,d⟩:=valD_range n s;obtain ⟨h1,h2,h3,-,-⟩:=tdm (mu n s) 1000000 (by decide);have hm:-1000000000000000000000≤mu n s∧mu n s≤1000000000000000000000:=by
  unfold mu;generalize (valD n s).2=t at *;generalize (valD n s).1=u at *;have hs:t=0∨t=1∨t=2∨t=3∨t=4∨t=5∨t=6:=(by omega)
  rcases hs with rfl | rfl | rfl | rfl | rfl | rfl | rfl <;> simp [pw] <;> omega
 refine ⟨by omega,by omega,h2,h3⟩
def addS (a b a' b':Int):(Int × Int) × Bool:=joinS (mu a b+mu a' b')
theorem decimal_Add (a b a' b':Int) (w:World) (ht:Tens w):Calls Tryz.prog 58 #[.agg #[.int .i64 a,.int .i64 b],.agg #[.int .i64 a',.int .i64 b']] w (RetDB w (addS a b a' b')):=by
 have HT:=Hd ht;clear ht
 go_enter Tryz.func58,Tryz.ntmps58
 go_wp2_with fail
 refine (decimal_split a b _ (HT.o.ext ((((Ext.refl w).alloc _).alloc _).alloc _))).mono ?_;rintro e1 w1 ⟨rfl,hx1⟩;have HX1:=Hd (((((Ext.refl w).alloc _).alloc _).alloc _).trans hx1);have hb:=((Blk.new (w.alloc (.cells #[.int .i64 a,.int .i64 b] 27)) 27 #[.int .i64 a',.int .i64 b']).keep (Kept.alloc _ _ _)).keep (hx1.kept _);have hr:=(Blk.new ((w.alloc (.cells #[.int .i64 a,.int .i64 b] 27)).alloc (.cells #[.int .i64 a',.int .i64 b'] 27)) 27 #[.int .i64 0,.int .i64 0]).keep (hx1.kept _);have c0:=hb.cell (i:=0) rfl;have c1:=hb.cell (i:=1) rfl;simp at c0 c1 hr;have HR1:=Hd hr;clear hb hx1 hr
 go_wp2_with fail
 refine (decimal_split a' b' _ (HT.o.ext HX1.o)).mono ?_;rintro e1 w2 ⟨rfl,hx2⟩;have HX2:=Hd (HX1.o.trans hx2);have HR2:=Hd (HR1.o.keep (hx2.kept _));have HEQ:=Hd (show addS a b a' b'=joinS (((mu a b).tdiv 1000000+(mu a' b').tdiv 1000000)*1000000+((mu a b).tmod 1000000+(mu a' b').tmod 1000000)) by
  unfold addS;congr 1;have h1:=(tdm (mu a b) 1000000 (by decide)).1;have h2:=(tdm (mu a' b') 1000000 (by decide)).1;omega)
 obtain ⟨p1,p2,p3,p4⟩:=mu_bd a b;obtain ⟨q1,q2,q3,q4⟩:=mu_bd a' b';clear hx2 c0 c1;generalize (mu a b).tdiv 1000000=x at *;generalize (mu a b).tmod 1000000=f at *;generalize (mu a' b').tdiv 1000000=y at *;generalize (mu a' b').tmod 1000000=g at *;have w1':wrap64 (x+y)=x+y:=IntWalk.wrap64_in _ ⟨by omega,by omega⟩;have w2':wrap64 (f+g)=f+g:=IntWalk.wrap64_in _ ⟨by omega,by omega⟩;have HW1:=Hd w1';have HW2:=Hd w2';clear w1' w2'
 go_wp2_with fail
 first | rw [HW1.o] | skip
 first | rw [HW2.o] | skip
 refine (decimal_join (x+y) (f+g) _ (HT.o.ext HX2.o) (by omega) (by omega) (by omega) (by omega)).mono ?_;rintro e1 w3 ⟨rfl,hx3⟩;have HX3:=Hd (HX2.o.trans hx3);have HR3:=Hd (HR2.o.keep (hx3.kept _));have r0:=HR3.o.cell (i:=0) rfl;have r1:=HR3.o.cell (i:=1) rfl;have rf:=HR3.o.frozen;have hz:=HR3.o.lt;generalize joinS ((x+y)*1000000+(f+g))=r at *;clear hx3;go_wp2;refine bodyPost_ret (v:=.tuple #[.agg #[.int .i64 r.1.1,.int .i64 r.1.2],.bool r.2]) (by simp [results,Tryz.results58,go_sem,r0,r1]) rfl ⟨by rw [HEQ.o],?_⟩
 iterate 2 with_reducible refine Ext.set2 ?_ (by omega) _
 with_reducible exact HX3.o
end Go.Proofs.YthmckfloppblcaaGreatDoor
