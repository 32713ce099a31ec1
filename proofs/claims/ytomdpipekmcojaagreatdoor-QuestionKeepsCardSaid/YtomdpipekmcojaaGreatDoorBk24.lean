/- The reference's Follow. Conditions: the plan and the replies read as data. -/
import Derived.Test.YtomdpipekmcojaaGreatDoorBk23
namespace Go.Proofs.YtomdpipekmcojaaGreatDoor
open Go Go.RowKit

/- What the questions of a plan are, and slices of values: plain facts. No conditions. -/

theorem planG_mem {sub:List Nat→Nat→List AskD} {t:AskD} : ∀ (gs:List (List Nat)) (p:Nat),t∈(planG sub gs p).1→∃ g∈gs,∃ p',t∈sub g p'
 | [],_,h=>by simp [planG] at h
 | g :: gs,p,h=>by
  simp only [planG,List.mem_append] at h
  rcases h with h | h
  ·exact ⟨g,by simp,p,h⟩
  ·obtain ⟨g',hg,p',hp⟩:=planG_mem gs _ h;exact ⟨g',List.mem_cons_of_mem _ hg,p',hp⟩
theorem plan_mem (l:List (List Val)) (hv:∀ r∈l,∀ x∈r,IsV x) (hN:Wide l (inpS l)):∀ (f:Nat) (L:List Nat) (p:Nat),L.length≤f→(∀ x∈L,x<l.length)→∀ t∈plan (spl l) (inpS l) (ans l) L p,Plain t.2.1∧(2≤t.2.1.length∧2≤t.2.2.length)∧t.2.1.length≤L.length∧t.2.2.length≤L.length
 | f,L,p,hf,hL,t,ht=>by
  rw [plan_eq (spl_small l)] at ht;by_cases h0:dep (spl l) (inpS l) L=0
  ·rw [if_pos h0] at ht; cases ht
  ·rw [if_neg h0] at ht;obtain ⟨hm,-,-⟩:=inpF_at (spl_small l) (inpS l) L h0;have h2:=two_parts (spl_small l) (N:=inpS l) h0;generalize inpF (spl l) (inpS l) L=m at ht hm h2;have his:=spl_is l m L;have hle:=spl_len l m L
   rcases List.mem_cons.1 ht with rfl | ht
   ·refine ⟨fun y hy => ?_,⟨by simpa using h2,by rw [planG_len]; exact h2⟩,by simpa using hle,by rw [planG_len]; exact hle⟩;obtain ⟨g,hg,rfl⟩:=List.mem_map.1 hy;have hs:=his.sub g hg;have hx:g.headD 0∈L:=by
     cases g with
     | nil=>exact absurd rfl hs.1
     | cons x g=>exact hs.2.subset (by simp)
    have hxl:=hL _ hx;have hml:m<l[g.headD 0].length:=(by rw [hN _ (List.getElem_mem hxl)]; exact hm);rw [ans_of hxl hml];obtain ⟨i,hi,e⟩:=hv _ (List.getElem_mem hxl) _ (List.getElem_mem hml);rw [e];have:=valS_plain i hi;exact ⟨this.1,this.2.1⟩
   ·obtain ⟨g,hg,p',hp⟩:=planG_mem _ _ ht;have hs:=his.sub g hg;have hsm:=his.small h2 g hg
    match f,hf with
    | 0,hf=>omega
    | f+1,hf =>
     obtain ⟨a,b,c,d⟩:=plan_mem l hv hN f g p' (by omega) (fun x hx=>hL x (hs.2.subset hx)) t hp;exact ⟨a,b,by omega,by omega⟩
theorem makeF_ok {l:List (List Val)} (hv:∀ r∈l,∀ x∈r,IsV x) (hN:Wide l (inpS l)) (hl:l.length≤12) (h:Int):OkP (makeF l h).1:=by
 have hlen:=(show (makeF l h).1.length≤1000 by
  unfold makeF;split
  ·show (planA l).length≤1000;have h1:∀ (L:List Nat),(plan (spl l) (inpS l) (ans l) L 0).length≤L.length:=fun L=>by
    by_cases e:L=[]
    ·subst e;have h2:=dep_len (spl_small l) (inpS l) [];rw [plan_eq (spl_small l),if_pos (by simp at h2; omega)];exact Nat.le_refl _
    ·have:=plan_len l (inpS l) (ans l) _ L 0 (Nat.le_refl _) e;omega
   have h3:=h1 (allP l);have h4:(allP l).length=l.length:=(by simp [allP]);unfold planA;omega
  ·simp)
 have key:∀ t∈(makeF l h).1,Plain t.2.1∧(2≤t.2.1.length∧2≤t.2.2.length)∧t.2.1.length≤12∧t.2.2.length≤12:=by
  intro t ht;unfold makeF at ht;split at ht
  ·obtain ⟨a,b,c,d⟩:=plan_mem l hv hN _ (allP l) 0 (Nat.le_refl _) (fun x hx=>List.mem_range.1 hx) t ht;have h4:(allP l).length=l.length:=(by simp [allP]);exact ⟨a,b,by omega,by omega⟩
  ·cases ht
 exact ⟨fun t ht=>(key t ht).1,fun t ht=>(key t ht).2.1,fun t ht=>⟨by have:=(key t ht).2.2; omega,by have:=(key t ht).2.2; omega⟩,hlen⟩
/- The reference's Made: the values that it makes are a function of the numbers. Conditions: the numbers read as data. -/

def valF (n:Int):Val:=valS ((n.tmod 6+6) % 6)
theorem r25_ValueF (n:Int) (w:World):Calls Tryz.prog 26 #[.int .i64 n] w (fun e w'=>∃ (k:Int) (s:ByteArray) (a b d:Int),(⟨k,s,a,b,d,[],[]⟩:Val)=valF n∧IsV ⟨k,s,a,b,d,[],[]⟩∧e=.returned (.agg #[.int .i64 k,.string s,.int .i64 a,.int .i64 b,.int .i64 d,.slice none 0 0,.slice none 0 0])∧Ext w w'):=by
 obtain ⟨m,hm⟩:∃ m:Nat,(n.tmod 6+6) % 6=(m:Int):=⟨((n.tmod 6+6) % 6).toNat,by omega⟩;have h6:m<6:=(by omega);have hv:valF n=valS (m:Int):=(by unfold valF; rw [hm]);rw [hv]
 match m,h6,hm with
 | 0,_,h=>exact (value_0 n w h).mono fun _ _ h=>⟨_,_,_,_,_,rfl,⟨0,by omega,rfl⟩,h⟩
 | 1,_,h=>exact (value_1 n w h).mono fun _ _ h=>⟨_,_,_,_,_,rfl,⟨1,by omega,rfl⟩,h⟩
 | 2,_,h=>exact (value_2 n w h).mono fun _ _ h=>⟨_,_,_,_,_,rfl,⟨2,by omega,rfl⟩,h⟩
 | 3,_,h=>exact (value_3 n w h).mono fun _ _ h=>⟨_,_,_,_,_,rfl,⟨3,by omega,rfl⟩,h⟩
 | 4,_,h=>exact (value_4 n w h).mono fun _ _ h=>⟨_,_,_,_,_,rfl,⟨4,by omega,rfl⟩,h⟩
 | 5,_,h=>exact (value_5 n w h).mono fun _ _ h=>⟨_,_,_,_,_,rfl,⟨5,by omega,rfl⟩,h⟩
def rowI (l:List (List Int)) (k:Nat):List Int:=(l[k]?).getD []
theorem rowI_at {l:List (List Int)} {k:Nat} (h:k<l.length):rowI l k=l[k]:=by unfold rowI; rw [List.getElem?_eq_getElem h]; rfl
def rowF (l:List (List Int)) (N k:Nat):List Val:=(List.range (min N 10)).map fun j=>valF (((rowI l k)[j]?).getD 0)
def madeF (l:List (List Int)):List (List Val):=(List.range (min l.length 12)).map fun k=>rowF l (hdI l) k
theorem madeF_range (l:List (List Int)) (k N:Nat) (hN:N=hdI l) (hk:k=min l.length 12):(List.range k).map (fun k=>rowF l N k)=madeF l:=by rw [hk,hN]; rfl
theorem List.range_succ_map {α:Type} (f:Nat→α) (k:Nat):(List.range (k+1)).map f=(List.range k).map f++[f k]:=by rw [List.range_succ,List.map_append]; rfl
def RetMf (w:World) (l:List (List Int)) (L:List (List Val)) (e:Ending) (w':World):Prop:=∃ (A:Option Addr) (c:Nat),e=.returned (.slice A L.length c)∧((∀ r∈L,∀ x∈r,IsV x)∧Wide L (min (hdI l) 10)∧L.length≤12)∧OwnRs w' w.heap.size (Fresh w) 1 A c L∧Ext w w'
def MfIn (wo:World) (r:List Int) (N:Nat) (v j:Value) (wi:World):Prop:=∃ (m:Nat) (A2:Option Addr) (c2:Nat) (l2:List Val),m≤N∧m≤10∧j=.int .i64 (m:Int)∧v=.slice A2 m c2∧l2.length=m∧(∀ x∈l2,IsV x)∧Ext wo wi∧OwnVs wi wo.heap.size (fun b=>wo.heap.size≤b) 1 A2 c2 l2∧l2=(List.range m).map fun j=>valF ((r[j]?).getD 0)
def MfOut (w:World) (l:List (List Int)) (N n:Nat) (v i:Value) (wr:World):Prop:=∃ (k:Nat) (A':Option Addr) (c':Nat) (L:List (List Val)),k≤n∧k≤12∧i=.int .i64 (k:Int)∧v=.slice A' k c'∧L.length=k∧(∀ r∈L,∀ x∈r,IsV x)∧Wide L (min N 10)∧Ext w wr∧OwnRs wr w.heap.size (Fresh w) 1 A' c' L∧L=(List.range k).map fun k=>rowF l N k
set_option maxRecDepth 100000 in
set_option maxHeartbeats 2000000 in
theorem r25_MadeF (l:List (List Int)) (A:Option Addr) (c:Nat) (w:World) (S:Nat→Prop) (h:II w S A l):Calls Tryz.prog 13 #[.slice A l.length c] w (RetMf w l (madeF l)):=by
 have HI:=Hd h;have hll:=h.1;obtain ⟨n,en⟩:∃ n,n=l.length:=⟨_,rfl⟩;have HN:=Hd en;rw [← en] at hll ⊢;obtain ⟨N,eN⟩:∃ N,N=hdI l:=⟨_,rfl⟩;have HNN:=Hd eN;clear h en eN
 go_enter Tryz.func13,Tryz.ntmps13
 go_wp2
 go_loopw [3,4,5,6,7] (fun v i _u5 _u6 _u7 wr=>MfOut w l N n v i wr) (fun _ i _ _ _ _=>n-(intOf i).toNat)
 case atStart=>exact ⟨0,none,0,[],Nat.zero_le _,Nat.zero_le _,rfl,rfl,rfl,by simp,(by intro r hr; cases hr),Ext.refl _,OwnRs.nil _ _ _ _,rfl⟩
 case round =>
  obtain ⟨k,A',c',L,hk,hk12,rfl,rfl,hLL,hvc,hwd,hx,ho,hmf⟩:=hrel;have HMF:=Hd hmf;clear hmf;have HLL:=Hd hLL;have HVC:=Hd hvc;have HWD:=Hd hwd;have HX:=Hd hx;have HO:=Hd ho;clear hLL hvc hwd hx ho;by_cases hlt:k<n
  ·by_cases h12:k<12
   ·have hn0:(0:Int)<(n:Int):=(by omega);have hn1:0<n:=(by omega);go_wp2;obtain ⟨wo,rfl⟩:∃ wo:World,wo=wr:=⟨_,rfl⟩
    go_loopw [5,6,7] (fun v j _u wi=>MfIn wo (rowI l k) N v j wi) (fun _ j _ _=>N-(intOf j).toNat)
    case atStart=>exact ⟨0,none,0,[],Nat.zero_le _,Nat.zero_le _,rfl,rfl,rfl,by simp,Ext.refl _,OwnVs.nil _ _ _ _,rfl⟩
    case round =>
     obtain ⟨m,A2,c2,l2,hm,hm10,rfl,rfl,hl2,hv2,hbi,hoi,hmr⟩:=hrel;have HMR:=Hd hmr;clear hmr;have HL2:=Hd hl2;have HV2:=Hd hv2;have HBI:=Hd hbi;have HOI:=Hd hoi;clear hl2 hv2 hbi hoi;have hx2:=HX.o.trans HBI.o;have hsz0:=HX.o.size;have hsz1:=HBI.o.size;obtain ⟨b0,o0,B0,e0,rfl,_,hc0,hr0,hr0z⟩:=(HI.o.keep (hx2.kept _)).at_ (k:=0) (by rw [← HN.o]; exact hn1);rw [Nat.add_zero,hdI_at (by rw [← HN.o]; exact hn1),← HNN.o] at hc0;rw [hdI_at (by rw [← HN.o]; exact hn1),← HNN.o] at hr0z;obtain ⟨b1,o1,B1,e1,eA,_,hc1,hr1,hr1z⟩:=(HI.o.keep (hx2.kept _)).at_ (k:=k) (by rw [← HN.o]; exact hlt);injection eA with eA;injection eA with eb eo _;subst eb eo;obtain ⟨rk,erk⟩:∃ r,r=l[k]'(by rw [← HN.o]; exact hlt):=⟨_,rfl⟩;rw [← erk] at hc1 hr1 hr1z;have HR1:=Hd hr1;have HRK:=Hd (show rk=rowI l k by rw [erk]; exact (rowI_at _).symm);clear hr0 hr1 hx2 erk;by_cases hlt2:m<N
     ·by_cases hm1:m<10
      ·by_cases hin:m<rk.length
       ·obtain ⟨b3,o3,rfl,_,hc3⟩:=HR1.o.at_ (k:=m) (u:=.int .i64 rk[m]) (by simp [hin]);obtain ⟨z,ez⟩:∃ z,z=rk[m]:=⟨_,rfl⟩;have HZ:=Hd (show z=((rowI l k)[m]?).getD 0 by rw [ez,← HRK.o,List.getElem?_eq_getElem hin]; rfl);rw [← ez] at hc3;clear ez
        go_wp2_with fail
        refine (r25_ValueF _ _).mono ?_;rintro e3 w3 ⟨yk,ys,ya,yb,yn,hyf,hy,rfl,hx3⟩;have HYF:=Hd hyf;clear hyf;have HX3:=Hd hx3;have HY:=Hd hy;have hz3:=hx3.size;obtain ⟨xs,hown,hvl⟩:=HOI.o.ext (HX3.o.alloc (.cells (vcells ⟨yk,ys,ya,yb,yn,[],[]⟩ none 0 none 0).toArray 47));rw [HL2.o] at hown;have HOWN:=Hd hown;have HVL:=Hd hvl;clear hvl hown hx3 hy
        go_wp2_with (at_builtin; go_must (refine wpList_app rfl (.tmp 44) (.tmp 47) rfl tiV rfl HOWN.o rfl (Blk.rd (Blk.new _ _ _)) rfl (by simp [Value.oneCell']) (by omega) (by decide) (by simp; omega) ?_); intro A4 c4 w4 hown4 hg4 hat4)
        go_roundw
        case rel =>
         refine ⟨m+1,A4,c4,l2++[⟨yk,ys,ya,yb,yn,[],[]⟩],by omega,by omega,by go_num,rfl,by simp [HL2.o],?_,?_,?_,by rw [HYF.o,HMR.o,HZ.o]; exact (List.range_succ_map _ _).symm⟩
         ·intro x hx
          rcases List.mem_append.1 hx with hx | hx
          ·exact HV2.o x hx
          ·simp at hx; subst hx; exact HY.o
         ·exact ((HBI.o.trans HX3.o).alloc _).grown hg4 (fun k hk=>(HOWN.o.blk hk).1)
         ·exact OwnVs.push HVL.o (by rw [HL2.o]; exact hown4) hg4 hat4 ⟨by decide,Nat.zero_le _,Nat.zero_le _⟩ (flat_rv _ _ _ _ _ _ _ _ HY.o.size _ _)
        case measure=>simp [intOf]; omega
       ·go_wp2_with fail
        refine (r25_ValueF _ _).mono ?_;rintro e3 w3 ⟨yk,ys,ya,yb,yn,hyf,hy,rfl,hx3⟩;have HYF:=Hd hyf;clear hyf;have HX3:=Hd hx3;have HY:=Hd hy;have hz3:=hx3.size;obtain ⟨xs,hown,hvl⟩:=HOI.o.ext (HX3.o.alloc (.cells (vcells ⟨yk,ys,ya,yb,yn,[],[]⟩ none 0 none 0).toArray 47));rw [HL2.o] at hown;have HOWN:=Hd hown;have HVL:=Hd hvl;clear hvl hown hx3 hy
        go_wp2_with (at_builtin; go_must (refine wpList_app rfl (.tmp 44) (.tmp 47) rfl tiV rfl HOWN.o rfl (Blk.rd (Blk.new _ _ _)) rfl (by simp [Value.oneCell']) (by omega) (by decide) (by simp; omega) ?_); intro A4 c4 w4 hown4 hg4 hat4)
        go_roundw
        case rel =>
         refine ⟨m+1,A4,c4,l2++[⟨yk,ys,ya,yb,yn,[],[]⟩],by omega,by omega,by go_num,rfl,by simp [HL2.o],?_,?_,?_,by rw [HYF.o,HMR.o,List.range_succ_map,show ((rowI l k)[m]?).getD 0=0 by rw [← HRK.o,List.getElem?_eq_none (by omega)]; rfl]⟩
         ·intro x hx
          rcases List.mem_append.1 hx with hx | hx
          ·exact HV2.o x hx
          ·simp at hx; subst hx; exact HY.o
         ·exact ((HBI.o.trans HX3.o).alloc _).grown hg4 (fun k hk=>(HOWN.o.blk hk).1)
         ·exact OwnVs.push HVL.o (by rw [HL2.o]; exact hown4) hg4 hat4 ⟨by decide,Nat.zero_le _,Nat.zero_le _⟩ (flat_rv _ _ _ _ _ _ _ _ HY.o.size _ _)
        case measure=>simp [intOf]; omega
      ·have HE2:=Hd (show m=min N 10 by omega);have hrow3:Row wr (fun b=>wo.heap.size≤b) 1 A2 l2:=HOI.o.row (by rw [HL2.o]; omega) (fun b hb=>(HOI.o.blk hb).1) (fun b hb=>hb);have HCAP:=Hd (show m≤c2 by obtain ⟨xs0,ho0,_⟩:=HOI.o; have:=ho0.cap; rw [HL2.o] at this; exact this);have HXA:=Hd (HBI.o.trans ((Ext.refl wr).alloc (.cells #[.slice A2 m c2] 42)));obtain ⟨hs,hown,hvl⟩:=HO.o.ext HXA.o;have HHS:=Hd (show hs.length=L.length by have:=hown.len; omega);rw [HLL.o] at hown;have HOWN:=Hd hown;have HVL:=Hd hvl;have HROW3:=Hd (hrow3.keep (Kept.alloc _ wr (.cells #[.slice A2 m c2] 42)));clear hvl hown hrow3
       go_wp2_with (at_builtin; go_must (refine wpList_app rfl (.tmp 49) (.tmp 51) rfl tiR rfl HOWN.o rfl (Blk.rd (Blk.new _ _ _)) rfl (by simp [Value.oneCell']) (by omega) (by decide) (by simp; omega) ?_); intro A4 c4 w4 hown4 hg4 hat4)
       go_roundw
       case rel =>
        refine ⟨k+1,A4,c4,L++[l2],by omega,by omega,by go_num,rfl,by simp [HLL.o],?_,?_,?_,?_,by rw [HMF.o,HMR.o,HE2.o]; exact (List.range_succ_map _ _).symm⟩
        ·intro r hr
         rcases List.mem_append.1 hr with hr | hr
         ·exact HVC.o r hr
         ·simp at hr; subst hr; exact HV2.o
        ·intro r hr
         rcases List.mem_append.1 hr with hr | hr
         ·exact HWD.o r hr
         ·simp at hr; subst hr; rw [HL2.o]; exact HE2.o
        ·exact (HX.o.trans HXA.o).grown hg4 (fun k hk=>(HOWN.o.blk hk).1)
        ·refine OwnRs.push HHS.o HVL.o (by rw [HLL.o]; rw [HL2.o]; exact hown4) hg4 hat4 (by rw [HL2.o]; exact HCAP.o) (HROW3.o.mono fun i _ hi=>⟨fun h0 => ?_,?_⟩)
         ·have:=(HO.o.blk h0).2;omega
         ·show w.heap.size≤i;have:=HX.o.size;omega
       case measure=>simp [intOf]; omega
     ·have HE2:=Hd (show m=min N 10 by omega);have hrow3:Row wr (fun b=>wo.heap.size≤b) 1 A2 l2:=HOI.o.row (by rw [HL2.o]; omega) (fun b hb=>(HOI.o.blk hb).1) (fun b hb=>hb);have HCAP:=Hd (show m≤c2 by obtain ⟨xs0,ho0,_⟩:=HOI.o; have:=ho0.cap; rw [HL2.o] at this; exact this);have HXA:=Hd (HBI.o.trans ((Ext.refl wr).alloc (.cells #[.slice A2 m c2] 42)));obtain ⟨hs,hown,hvl⟩:=HO.o.ext HXA.o;have HHS:=Hd (show hs.length=L.length by have:=hown.len; omega);rw [HLL.o] at hown;have HOWN:=Hd hown;have HVL:=Hd hvl;have HROW3:=Hd (hrow3.keep (Kept.alloc _ wr (.cells #[.slice A2 m c2] 42)));clear hvl hown hrow3
      go_wp2_with (at_builtin; go_must (refine wpList_app rfl (.tmp 49) (.tmp 51) rfl tiR rfl HOWN.o rfl (Blk.rd (Blk.new _ _ _)) rfl (by simp [Value.oneCell']) (by omega) (by decide) (by simp; omega) ?_); intro A4 c4 w4 hown4 hg4 hat4)
      go_roundw
      case rel =>
       refine ⟨k+1,A4,c4,L++[l2],by omega,by omega,by go_num,rfl,by simp [HLL.o],?_,?_,?_,?_,by rw [HMF.o,HMR.o,HE2.o]; exact (List.range_succ_map _ _).symm⟩
       ·intro r hr
        rcases List.mem_append.1 hr with hr | hr
        ·exact HVC.o r hr
        ·simp at hr; subst hr; exact HV2.o
       ·intro r hr
        rcases List.mem_append.1 hr with hr | hr
        ·exact HWD.o r hr
        ·simp at hr; subst hr; rw [HL2.o]; exact HE2.o
       ·exact (HX.o.trans HXA.o).grown hg4 (fun k hk=>(HOWN.o.blk hk).1)
       ·refine OwnRs.push HHS.o HVL.o (by rw [HLL.o]; rw [HL2.o]; exact hown4) hg4 hat4 (by rw [HL2.o]; exact HCAP.o) (HROW3.o.mono fun i _ hi=>⟨fun h0 => ?_,?_⟩)
        ·have:=(HO.o.blk h0).2;omega
        ·show w.heap.size≤i;have:=HX.o.size;omega
      case measure=>simp [intOf]; omega
   ·go_wp2;go_ret;have HKK:=Hd (show L=madeF l by rw [HMF.o]; exact madeF_range l k N HNN.o (by have:=HN.o; omega));exact ⟨A',c',by rw [← HKK.o,HLL.o]; rfl,by rw [← HKK.o]; exact ⟨HVC.o,by rw [← HNN.o]; exact HWD.o,by rw [HLL.o]; omega⟩,by rw [← HKK.o]; exact HO.o,HX.o⟩
  ·go_wp2;go_ret;have HKK:=Hd (show L=madeF l by rw [HMF.o]; exact madeF_range l k N HNN.o (by have:=HN.o; omega));exact ⟨A',c',by rw [← HKK.o,HLL.o]; rfl,by rw [← HKK.o]; exact ⟨HVC.o,by rw [← HNN.o]; exact HWD.o,by rw [HLL.o]; omega⟩,by rw [← HKK.o]; exact HO.o,HX.o⟩
/- Writing into the answers of a plan's questions. No conditions. -/

theorem heap_set_ne {w:World} {p:Addr} {u:Value} {b:Nat} (h:p.block≠b):(w.setCell p u).heap[b]?=w.heap[b]?:=by simp [World.setCell,Array.getElem?_modify,h]
theorem heap_set_cells {w:World} {p:Addr} {u:Value} {cs:Array Value} {t:TypeId} {f:Nat × Nat} (h:w.heap[p.block]?=some (.cells cs t f)):(w.setCell p u).heap[p.block]?=some (.cells (if p.spot.isSome then cs else cs.setIfInBounds p.off u) t f):=by simp [World.setCell,Array.getElem?_modify,h]
theorem frozen_set {w:World} {p a:Addr} {v:Value} (u:Value) (hc:w.cell? a=some v) (h:w.frozen? a=false):(w.setCell p u).frozen? a=false:=by
 by_cases hp:p.block=a.block
 ·unfold World.cell? at hc;split at hc
  ·rename_i cs t f hh;rw [← hp] at hh;unfold World.frozen? at h ⊢;rw [← hp] at h ⊢;rw [heap_set_cells hh];rw [hh] at h;exact h
  ·cases hc
 ·unfold World.frozen? at h ⊢;rw [heap_set_ne hp];exact h
theorem cell_set_some {w:World} {a:Addr} (h:∃ v,w.cell? a=some v) (p:Addr) (u:Value):∃ v,(w.setCell p u).cell? a=some v:=by
 obtain ⟨v,h⟩:=h;by_cases hp:p.block=a.block
 ·unfold World.cell? at h;split at h
  ·rename_i cs t f hh;split at h
   ·cases h
   ·rename_i hs;have hlt:=(Array.getElem?_eq_some_iff.1 h).1;have h2:=heap_set_cells (u:=u) (hp.symm ▸ hh:w.heap[p.block]?=some (.cells cs t f));rw [hp] at h2;unfold World.cell?;rw [h2];simp only [hs,if_false,Bool.false_eq_true];exact ⟨_,Array.getElem?_eq_getElem (by split <;> simpa using hlt)⟩
  ·cases h
 ·exact ⟨v,by unfold World.cell? at h ⊢; rw [heap_set_ne hp]; exact h⟩
def AnsW (w:World) (F:Nat→Prop) (Y:List AskD) (xs:List Value):Prop:=∀ (k:Nat) (t:AskD),Y[k]?=some t→∃ (B:Option Addr) (e:Nat),xs[k*3+1]?=some (Value.slice B t.2.1.length e) ∧
 (0<t.2.1.length→∃ b,B=some ⟨b,0,none⟩∧F b∧b<w.heap.size∧∀ i,i<t.2.1.length*7→w.frozen? ⟨b,i,none⟩=false∧∃ u,w.cell? ⟨b,i,none⟩=some u)
theorem AnsW.set {w:World} {F:Nat→Prop} {Y:List AskD} {xs:List Value} (h:AnsW w F Y xs) (p:Addr) (u:Value):AnsW (w.setCell p u) F Y xs:=by
 intro k t hk;obtain ⟨B,e,h1,h2⟩:=h k t hk;refine ⟨B,e,h1,fun h0 => ?_⟩;obtain ⟨b,hB,hF,hb,hc⟩:=h2 h0;refine ⟨b,hB,hF,by simpa [World.setCell] using hb,fun i hi => ?_⟩;obtain ⟨hf,v,hv⟩:=hc i hi;exact ⟨frozen_set u hv hf,cell_set_some ⟨v,hv⟩ p u⟩
theorem AnsW.set7 {w:World} {F:Nat→Prop} {Y:List AskD} {xs:List Value} (h:AnsW w F Y xs) (g j:Nat) (x:Val) (A1:Option Addr) (c1:Nat) (B1:Option Addr) (e1:Nat):AnsW (Go.Proofs.YtomdpipekmcojaaGreatDoor.set7 w g j x A1 c1 B1 e1) F Y xs :=
 ((((((h.set _ _).set _ _).set _ _).set _ _).set _ _).set _ _).set _ _
theorem AnsW.ext {w w':World} {F:Nat→Prop} {Y:List AskD} {xs:List Value} (h:AnsW w F Y xs) (hx:Ext w w'):AnsW w' F Y xs:=by
 intro k t hk;obtain ⟨B,e,h1,h2⟩:=h k t hk;refine ⟨B,e,h1,fun h0 => ?_⟩;obtain ⟨b,hB,hF,hb,hc⟩:=h2 h0;refine ⟨b,hB,hF,Nat.lt_of_lt_of_le hb hx.size,fun i hi => ?_⟩;obtain ⟨hf,u,hu⟩:=hc i hi;refine ⟨?_,u,hx.cell hu⟩;unfold World.frozen? at hf ⊢;rw [hx.block b hb];exact hf
theorem OwnAU.ans {w:World} {base d c:Nat} {X:Nat→Prop} {A:Option Addr} {Y:List AskD} (h:OwnAU w base X d A c Y):∃ xs,Own w base 59 3 A Y.length c xs∧AnsW w (fun b=>(ob A≠some b∧X b)∧b<w.heap.size) Y xs:=by
 obtain ⟨xs,ho,hlen,hv⟩:=h;refine ⟨xs,ho,fun k t hk => ?_⟩;obtain ⟨⟨Ac,cc,Bc,ec,h4,h5,h6⟩,h7⟩:=hv k t hk;have h41:((xs.drop (k*3)).take 3)[1]?=some (Value.slice Ac t.2.1.length cc):=(by rw [h4]; rfl);have h1:xs[k*3+1]?=some (Value.slice Ac t.2.1.length cc):=by
  rw [List.getElem?_take,if_pos (by omega),List.getElem?_drop] at h41;exact h41
 refine ⟨Ac,cc,h1,fun h0 => ?_⟩
 rcases h7 with h7 | ⟨b,n,c2,h71,hS,hb,hf⟩
 ·rw [h7] at h0; simp at h0
 ·rw [h41] at h71;injection h71 with h71;injection h71 with h71;subst h71;refine ⟨b,rfl,⟨hS,hb⟩,hb,fun i hi=>⟨hf i,?_⟩⟩;obtain ⟨_,ys,hrd,hyl,_⟩:=h6.1;have hi2:i<ys.length:=(by omega);obtain ⟨b',o',e1,_,e2⟩:=hrd.at_ (List.getElem?_eq_getElem hi2);injection e1 with e1;injection e1 with e1 e3;subst e1 e3;rw [Nat.zero_add] at e2;exact ⟨_,e2⟩
/- The law QuestionKeeps: the functions do not change their arguments, and results share no memory with them. Conditions: the numbers read as data; the list of programs takes at most 2^47 bytes. -/

set_option maxRecDepth 100000 in
set_option maxHeartbeats 4000000 in
theorem law_Keeps (l:List (List Int)) (al:List Int) (A:Option Addr) (c:Nat) (B:Option Addr) (e:Nat) (w:World) (S T:Nat→Prop) (ht:Tens w) (h:II w S A l) (hac:l.length≤c) (hr:Rd w T B (al.map (Value.int .i64))) (hrl:al.length≤17592186044000) :
  Calls Tryz.prog 9 #[.slice A l.length c,.slice B al.length e] w (RetB w true):=by
 have HT:=Hd ht;have HI:=Hd h;have HRD:=Hd hr;have hll:=h.1;obtain ⟨n,en⟩:∃ n,n=l.length:=⟨_,rfl⟩;obtain ⟨nr,enr⟩:∃ n,n=al.length:=⟨_,rfl⟩;have HN:=Hd en;have HNR:=Hd enr;rw [← en] at hll hac ⊢;rw [← enr] at hrl ⊢;clear ht h hr en enr
 go_enter Tryz.func9,Tryz.ntmps9
 go_wp2_with fail
 refine (l25_sanity w HT.o).mono ?_;rintro e1 w1 ⟨rfl,hx1⟩;have HX1:=Hd hx1;clear hx1;obtain ⟨m,em⟩:∃ m:Nat,m=min n 7:=⟨_,rfl⟩;have hm9:m≤7:=(by omega);have hmn:m≤n:=(by omega);have hmc:m≤c:=(by omega);have HM:=Hd (show (if (n:Int)<7 then (n:Int) else 7)=(m:Int) by split <;> omega);have HM2:=Hd (show min (n:Int) 7=(m:Int) by omega);clear em
 go_wp2_with fail
 rw [HM2.o,Int.toNat_natCast];have hlm:(l.take m).length=m:=(by rw [List.length_take,← HN.o]; omega);obtain ⟨L,eL⟩:∃ L,L=madeF (l.take m):=⟨_,rfl⟩;have HMD:=Hd (show ∀ w':World,Ext w1 w'→Calls Tryz.prog 13 #[.slice A m c] w' (RetMf w' (l.take m) L) from fun w' hx=>by
  have h1:=r25_MadeF (l.take m) A c w' S ((HI.o.keep ((HX1.o.trans hx).kept S)).take m);rw [hlm,← eL] at h1;exact h1)
 clear hlm eL;refine (HMD.o w1 (Ext.refl _)).mono ?_;rintro e2 w2 ⟨A2,c2,rfl,⟨hv,hwd,h12⟩,ho,hx2⟩;have HX2:=Hd (HX1.o.trans hx2);have HMD2:=Hd (HMD.o w2 hx2);have HTR:=Hd (made_cells hv).tri;have HNT:=Hd (made_cells hv).noT;have HRT:=Hd (made_right hv hwd);have hin10:inpS L≤10:=(by have:=made_inp hwd; omega);have HOK:=Hd (makeF_ok hv (rightA_wide HRT.o) h12 6);have HRW:=Hd ((ho.mono (T:=fun b=>b<w2.heap.size) fun b hb _=>hb).rows (T:=fun b=>b<w2.heap.size) (by omega) (fun b hb=>(ho.blk hb).2) (fun b hb=>hb));have hcp2:L.length≤c2:=(by obtain ⟨_,h1,_⟩:=ho; exact h1.cap);obtain ⟨nL,enL⟩:∃ nL,nL=L.length:=⟨_,rfl⟩;have HNL:=Hd enL;have HMK:=Hd (show ∀ w':World,Kept (fun b=>b<w2.heap.size) w2 w'→Calls Tryz.prog 14 #[.slice A2 nL c2,.int .i64 6] w' (RetPU w' 1 (makeF L 6) (errM L 6)) from fun w' hk=>by
  have h1:=question_MakeU 1 L A2 c2 6 w' _ (HRW.o.keep hk) (fun b hb=>Nat.lt_of_lt_of_le hb hk.1) HNT.o (by omega) (by omega) hcp2 (Tens.kept (S:=fun b=>b<w2.heap.size) (HT.o.ext HX2.o) hk (Nat.lt_of_lt_of_le HT.o.pos HX2.o.size));rw [← enL] at h1;exact h1)
 have hlo:=makeF_low (l:=L) (h:=6);obtain ⟨Y,eY⟩:∃ Y,Y=(makeF L 6).1:=⟨_,rfl⟩;obtain ⟨dp,edp⟩:∃ x,x=(makeF L 6).2.1:=⟨_,rfl⟩;obtain ⟨lo,elo⟩:∃ x,x=(makeF L 6).2.2:=⟨_,rfl⟩;obtain ⟨er,eer⟩:∃ x,x=errM L 6:=⟨_,rfl⟩;have HMP:=Hd (show ∀ w':World,Kept (fun b=>b<w2.heap.size) w2 w'→Calls Tryz.prog 14 #[.slice A2 nL c2,.int .i64 6] w' (fun e w''=>∃ (A:Option Addr) (c:Nat),e=.returned (.tuple #[.agg #[.slice A Y.length c,.int .i64 (dp:Int),.int .i64 (lo:Int)],.int .i64 er])∧OwnAU w'' w'.heap.size (fun b=>w'.heap.size≤b) 1 A c Y∧Ext w' w'') from fun w' hk=>(HMK.o w' hk).mono fun e w'' hp=>by rw [eY,edp,elo,eer]; exact hp);have HCKP:=Hd (show ∀ (w':World) (A':Option Addr) (c':Nat),Ext w2 w'→AS w' (fun b=>b<w'.heap.size) 1 A' Y→Calls Tryz.prog 17 #[.slice A2 nL c2,.int .i64 6,.agg #[.slice A' Y.length c',.int .i64 (dp:Int),.int .i64 (lo:Int)]] w' (RetB w' (decide (er=0))) from fun w' A' c' hx hp=>by
  rw [eY,edp,elo,eer];rw [eY] at hp;have h1:=question_Check 1 L A2 c2 6 A' c' w' (fun b=>b<w'.heap.size) ((HRW.o.keep (hx.kept _)).mono fun b hb _=>hb) (fun _ hb=>hb) HNT.o (by omega) (by omega) hcp2 (HT.o.ext (HX2.o.trans hx)) hp;rw [← enL] at h1;exact h1)
 rw [← eY] at HOK;rw [← elo,← edp] at hlo;have hYn:=HOK.o.few;obtain ⟨nY,enY⟩:∃ x,x=Y.length:=⟨_,rfl⟩;have HNY:=Hd enY;rw [← enY] at HMP HCKP hYn;rw [← enL] at h12 ⊢;clear hv hwd ho hx2 HMD HMK hin10 hcp2 eY edp elo eer enY enL
 go_wp2_with fail
 refine HMD2.o.mono ?_;rintro e3 w3 ⟨A3,c3,rfl,⟨-,-,-⟩,ho3,hx3⟩;rw [← HNL.o];have HR3:=Hd ((ho3.mono (T:=fun b=>b<w3.heap.size) fun b hb _=>hb).rows (T:=fun b=>b<w3.heap.size) (by rw [← HNL.o]; omega) (fun b hb=>(ho3.blk hb).2) (fun b hb=>hb));have HX23:=Hd hx3;have HX3:=Hd (HX2.o.trans hx3);clear ho3 hx3;have HRD3:=Hd ((HRD.o.keep (HX3.o.kept T)).keep (Kept.alloc T w3 (.cells #[] 3)));have HOM:=Hd (Own.made w3 3 1 0 #[] (by decide) rfl)
 go_wp2_with (at_builtin; go_must (refine wpList_app rfl (.tmp 27) (.tmp 28) rfl tiI rfl HOM.o rfl HRD3.o (by rw [List.length_map,← HNR.o,Nat.mul_one]) (by simp [Value.oneCell']) (by omega) (by decide) (by simp) ?_); intro A8 c8 w4 hown8 hg8 hat8)
 have hx34:Ext w3 w4:=app_new hg8;have HOW8:=Hd (show Own w4 w3.heap.size 3 1 A8 nr c8 (al.map (Value.int .i64)) by simpa using hown8);have HX34:=Hd hx34;have HX4:=Hd (HX3.o.trans hx34);clear hown8 hg8 hat8 hx34
 go_wp2_with fail
 refine (HMP.o w4 ((HX23.o.trans HX34.o).kept _)).mono ?_;rintro e5 w5 ⟨A5,c5,rfl,ho5,hx5⟩;have HOA5:=Hd ho5.own;obtain ⟨xs5,hoa5,han5⟩:=ho5.ans;have HOX5:=Hd hoa5;have HAN5:=Hd han5;have HX45:=Hd hx5;have HX5:=Hd (HX4.o.trans hx5);obtain ⟨b9,hb9⟩:∃ b,b=w5.heap.size:=⟨_,rfl⟩;obtain ⟨w6,hw6⟩:∃ x,x=w5.alloc (.cells #[.slice A5 nY c5,.int .i64 (dp:Int),.int .i64 (lo:Int)] 29):=⟨_,rfl⟩;have hx56:Ext w5 w6:=(by rw [hw6]; exact (Ext.refl _).alloc _);have HB9:=Hd (show Blk w6 b9 29 #[.slice A5 nY c5,.int .i64 (dp:Int),.int .i64 (lo:Int)] by rw [hw6,hb9]; exact Blk.new _ _ _);have HX56:=Hd hx56;have HX6:=Hd (HX5.o.trans hx56);have HBE:=Hd hb9;have HAS6:=Hd ((HOA5.o.ext hx56).as_ (T:=fun _=>True) (by rw [← HNY.o]; omega) (fun _ _=>trivial) fun _ _=>trivial);have HCO:=Hd (r25_Copy 1 0 Y A5 c5 (dp:Int) (lo:Int) w6 _ HAS6.o HOK.o.plain);rw [← HNY.o] at HCO;clear ho5 hoa5 han5 hx5 hx56
 go_upto_region 6 with fail
 rw [← hw6,← hb9];clear hw6 hb9;have q0:=HB9.o.cell (i:=0) rfl;have q1:=HB9.o.cell (i:=1) rfl;have q2:=HB9.o.cell (i:=2) rfl
 go_wp2_with fail
 refine HCO.o.mono ?_;rintro e7 w7 ⟨A7,c7,B7,e7',C7,f7,xs7,rfl,hcp7,hx7⟩;rw [← HNY.o];obtain ⟨b11,hb11⟩:∃ b,b=w7.heap.size:=⟨_,rfl⟩;obtain ⟨w8,hw8⟩:∃ x,x=w7.alloc (.cells #[.slice A7 nY c7,.int .i64 (dp:Int),.int .i64 (lo:Int)] 29):=⟨_,rfl⟩;have hx78:Ext w7 w8:=(by rw [hw8]; exact (Ext.refl _).alloc _);have HB11:=Hd (show Blk w8 b11 29 #[.slice A7 nY c7,.int .i64 (dp:Int),.int .i64 (lo:Int)] by rw [hw8,hb11]; exact Blk.new _ _ _);have HX68:=Hd (hx7.trans hx78);have HX8:=Hd (HX6.o.trans (hx7.trans hx78));have HBE11:=Hd (show w5.heap.size≤b11 by rw [hb11]; exact Nat.le_trans HX56.o.size hx7.size);have HAS7:=Hd (show AS w8 (fun b=>w6.heap.size≤b) 1 A7 Y from (hcp7.as_ (by rw [← HNY.o]; omega) (fun t ht=>by have:=HOK.o.small t ht; omega)).keep (hx78.kept _));have HCK:=Hd (HCKP.o w8 A5 c5 ((HX23.o.trans HX34.o).trans (HX45.o.trans (HX56.o.trans HX68.o))) ((HAS6.o.keep (HX68.o.kept _)).mono fun b hb _=>hb));clear hcp7 hx7 hx78 q0 q1 q2
 go_upto_region 7 with fail
 rw [← hw8,← hb11];clear hw8 hb11;have hb9k:=HB9.o.keep (HX68.o.kept _);have q0:=hb9k.cell (i:=0) rfl;have q1:=hb9k.cell (i:=1) rfl;have q2:=hb9k.cell (i:=2) rfl;clear hb9k
 go_wp2_with fail
 refine HCK.o.mono ?_;rintro e8 w9 ⟨rfl,hx89⟩;have HX89:=Hd hx89;have HGR:=Hd (question_GroupsB 1 L A2 c2 al B e 0 w9 _ _ (HRW.o.keep ((((HX23.o.trans HX34.o).trans (HX45.o.trans (HX56.o.trans HX68.o))).trans hx89).kept _)) HNT.o (by rw [← HNL.o]; omega) (HT.o.ext (HX8.o.trans hx89)) (show IntsB w9 T B al from ⟨HRD.o.keep ((HX8.o.trans hx89).kept T),by rw [← HNR.o]; omega⟩) (by rw [← HNR.o]; omega));rw [← HNL.o,← HNR.o] at HGR;clear hx89 q0 q1 q2
 go_wp2_with fail
 refine HGR.o.mono ?_;intro e9 w10 hr10;obtain ⟨A10,c10,rfl,-,hx10⟩:=hr10;have HXA:=Hd (HX56.o.trans (HX68.o.trans (HX89.o.trans hx10)));have HX10:=Hd (HX8.o.trans (HX89.o.trans hx10));have HX2A:=Hd ((HX23.o.trans HX34.o).trans (HX45.o.trans HXA.o));have HB9A:=Hd (HB9.o.keep ((HX68.o.trans (HX89.o.trans hx10)).kept _));have HB11A:=Hd (HB11.o.keep ((HX89.o.trans hx10).kept _));have HAS7A:=Hd (HAS7.o.keep ((HX89.o.trans hx10).kept _));have HANA:=Hd (HAN5.o.ext HXA.o);have HOXA:=Hd (HOX5.o.ext HXA.o);obtain ⟨F,eF⟩:∃ F:Nat→Prop,F=fun b=>(ob A5≠some b∧w4.heap.size≤b)∧b<w5.heap.size:=⟨_,rfl⟩;have HF:=Hd (show ∀ b,F b→ob A5≠some b∧w4.heap.size≤b∧b<w5.heap.size by rw [eF]; exact fun b h=>⟨h.1.1,h.1.2,h.2⟩);rw [← eF] at HANA;have HSZ:=Hd (show w2.heap.size≤w3.heap.size∧w3.heap.size≤w4.heap.size∧w4.heap.size≤w5.heap.size∧w5.heap.size≤w6.heap.size from ⟨HX23.o.size,HX34.o.size,HX45.o.size,HX56.o.size⟩);clear hx10 eF;have q0:=HB9A.o.cell (i:=0) rfl
 go_wp2_with fail
 clear q0;obtain ⟨wq,hwq⟩:∃ x:World,x=w10:=⟨_,rfl⟩;rw [← hwq] at HX10 HX2A HB9A HB11A HAS7A HANA HOXA HXA ⊢;clear hwq
 go_loopw [12,13,46] (fun _v12 _v13 i wr=>∃ k:Nat,k≤nY∧i=.int .i64 (k:Int)∧AnsW wr F Y xs5∧ButS F wq wr) (fun _ _ i _=>nY-(intOf i).toNat)
 case atStart=>exact ⟨0,Nat.zero_le _,rfl,HANA.o,ButS.refl _ _⟩
 case round =>
  obtain ⟨k,hk,rfl,han,hbs⟩:=hrel;have HBS:=Hd hbs;have HANR:=Hd han;clear han hbs;by_cases hlt:k<nY
  ·have hky:k<Y.length:=(by rw [← HNY.o]; exact hlt);obtain ⟨gA,rfl⟩:∃ gA,A5=some ⟨gA,0,none⟩:=HOXA.o.some_ (by rw [← HNY.o]; omega);obtain ⟨B1,e1,hx1,-⟩:=HANR.o k Y[k] (List.getElem?_eq_getElem hky);obtain ⟨t,et⟩:∃ t,t=Y[k]:=⟨_,rfl⟩;have HET:=Hd (show Y[k]?=some t by rw [et]; exact List.getElem?_eq_getElem hky);rw [← et] at hx1;obtain ⟨mm,emm⟩:∃ mm,mm=t.2.1.length:=⟨_,rfl⟩;have HMM:=Hd emm;have hmm:mm≤1000:=(by have:=(HOK.o.small t (by rw [et]; exact List.getElem_mem hky)).1; omega);rw [← emm] at hx1;have HXK:=Hd hx1;have HOR:=Hd (HOXA.o.keep (HBS.o.kept fun b _ e f=>(HF.o b f).1 e));have HBR:=Hd (HBS.o.blk HB9A.o fun f=>by have:=(HF.o b9 f).2.2; have:=HBE.o; omega);have u0:=HBR.o.cell (i:=0) rfl;have u1:=HOR.o.cell_ HXK.o;have ul:=HOR.o.lt_;clear hx1 et emm
   go_wp2_with fail
   clear u0 u1 ul;obtain ⟨ws,rfl⟩:∃ ws:World,ws=wr:=⟨_,rfl⟩
   go_loopw [13,56] (fun _v13 i wr=>∃ j:Nat,j≤mm∧i=.int .i64 (j:Int)∧AnsW wr F Y xs5∧ButS F wq wr) (fun _ i _=>mm-(intOf i).toNat)
   case atStart=>exact ⟨0,Nat.zero_le _,rfl,HANR.o,HBS.o⟩
   case round =>
    obtain ⟨j,hj,rfl,han2,hbs2⟩:=hrel;have HBS2:=Hd hbs2;have HAN2:=Hd han2;clear han2 hbs2;by_cases hlt2:j<mm
    ·obtain ⟨B2,e2,hx2,hB2⟩:=HAN2.o k t HET.o;rw [← HMM.o,HXK.o] at hx2;injection hx2 with hx2;injection hx2 with hx2 hx3 hx4;subst hx2 hx4;obtain ⟨b,rfl,hFb,hbl,hcl⟩:=hB2 (by rw [← HMM.o]; omega);rw [← HMM.o] at hcl;obtain ⟨f0,u0,p0⟩:=hcl (j*7) (by omega);obtain ⟨f1,u1,p1⟩:=hcl (j*7+1) (by omega);obtain ⟨f2,u2,p2⟩:=hcl (j*7+2) (by omega);obtain ⟨f3,u3,p3⟩:=hcl (j*7+3) (by omega);obtain ⟨f4,u4,p4⟩:=hcl (j*7+4) (by omega);obtain ⟨f5,u5,p5⟩:=hcl (j*7+5) (by omega);obtain ⟨f6,u6,p6⟩:=hcl (j*7+6) (by omega);have HOR:=Hd (HOXA.o.keep (HBS2.o.kept fun b _ e f=>(HF.o b f).1 e));have HBR:=Hd (HBS2.o.blk HB9A.o fun f=>by have:=(HF.o b9 f).2.2; have:=HBE.o; omega);have v0:=HBR.o.cell (i:=0) rfl;have v1:=HOR.o.cell_ HXK.o;have vl:=HOR.o.lt_;have HFB:=Hd hFb;clear hcl hFb hB2
     go_wp2_with fail
     go_roundw
     case rel =>
      have key:AnsW (set7 wr b j ⟨9,⟨#[]⟩,0,0,0,[],[]⟩ none 0 none 0) F Y xs5∧ButS F wq (set7 wr b j ⟨9,⟨#[]⟩,0,0,0,[],[]⟩ none 0 none 0) :=
       ⟨HAN2.o.set7 _ _ _ _ _ _ _,HBS2.o.set7 HFB.o _ _ _ _ _⟩
      unfold set7 at key;exact ⟨j+1,by omega,by go_num,key.1,key.2⟩
     case measure=>simp [intOf]; omega
    ·have hjm:j=mm:=by omega
     go_wp2_with fail
     go_roundw
     case rel=>exact ⟨k+1,by omega,by go_num,HAN2.o,HBS2.o⟩
     case measure=>simp [intOf]; omega
  ·have hkn:k=nY:=(by omega);obtain ⟨wz,hwz⟩:∃ x:World,x=wr:=⟨_,rfl⟩;rw [← hwz] at HBS ⊢;clear hwz HANR;have HK2:=Hd (show Kept (fun b=>b<w2.heap.size) w2 wz from (HX2A.o.kept _).trans (HBS.o.kept fun b _ h f=>by have:=(HF.o b f).2.1; have:=HSZ.o; omega))
   go_wp2_with fail
   refine (HMP.o wz HK2.o).mono ?_;rintro e12 w12 ⟨A12,c12,rfl,ho12,hx12⟩;obtain ⟨b14,hb14⟩:∃ b,b=w12.heap.size:=⟨_,rfl⟩;obtain ⟨w13,hw13⟩:∃ x,x=w12.alloc (.cells #[.slice A12 nY c12,.int .i64 (dp:Int),.int .i64 (lo:Int)] 29):=⟨_,rfl⟩;have hx123:Ext w12 w13:=(by rw [hw13]; exact (Ext.refl _).alloc _);have HB14:=Hd (show Blk w13 b14 29 #[.slice A12 nY c12,.int .i64 (dp:Int),.int .i64 (lo:Int)] by rw [hw13,hb14]; exact Blk.new _ _ _);have HXZ:=Hd (hx12.trans hx123);have HAS14:=Hd ((ho12.own.ext hx123).as_ (T:=fun _=>True) (by rw [← HNY.o]; omega) (fun _ _=>trivial) fun _ _=>trivial);have HKZ:=Hd (show Kept (fun b=>b<w4.heap.size) w4 w13 from (((HX45.o.trans HXA.o).kept _).trans (HBS.o.kept fun b _ h f=>by have:=(HF.o b f).2.1; omega)).trans (HXZ.o.kept _));have HRZ:=Hd (HRW.o.keep (w':=w13) (((HX23.o.trans HX34.o).kept _).trans (HKZ.o.mono fun b _ h=>by have:=HSZ.o; omega)));have HRO:=Hd (HR3.o.keep (w':=w13) ((HX34.o.kept _).trans (HKZ.o.mono fun b _ h=>by have:=HSZ.o; omega)));have HB11Z:=Hd ((HBS.o.blk HB11A.o fun f=>by have:=(HF.o b11 f).2.2; have:=HBE11.o; omega).keep (HXZ.o.kept _));have HAS7Z:=Hd ((HAS7A.o.keep (HBS.o.kept fun b _ h f=>by have:=(HF.o b f).2.2; have:=HSZ.o; omega)).keep (HXZ.o.kept _));have HALZ:=Hd ((HRD.o.mono (T:=fun b=>T b∧b<w.heap.size) fun b hb h=>⟨h,hb⟩).keep (w':=w13) ((HX4.o.kept _).trans (HKZ.o.mono fun b _ h=>by have:=HX4.o.size; omega)));have HSEZ:=Hd ((HOW8.o.rd.mono (T:=fun b=>b<w4.heap.size) fun b hb _=>hb).keep (w':=w13) HKZ.o);have HEXZ:=Hd (show Ext w w13 from (ButS.exts HX10.o HBS.o fun b f=>by have:=(HF.o b f).2.1; have:=HX4.o.size; omega).trans HXZ.o);clear ho12 hx12 hx123
   go_upto_region 19 with fail
   rw [← hw13,← hb14];clear hw13 hb14
   go_wp2_with fail
   go_loopw [16,77] (fun _v16 i wr=>∃ k:Nat,k≤nL∧i=.int .i64 (k:Int)∧Ext w13 wr) (fun _ i _=>nL-(intOf i).toNat)
   case atStart=>exact ⟨0,Nat.zero_le _,rfl,Ext.refl _⟩
   case round =>
    obtain ⟨k2,hk2,rfl,hx⟩:=hrel;have HXR:=Hd hx;clear hx;by_cases hlt2:k2<nL
    ·have hkl:k2<L.length:=(by rw [← HNL.o]; exact hlt2);obtain ⟨bA,oA,CA,eA,hA,zA,cA,-,hrA⟩:=(HRZ.o.keep (HXR.o.kept _)).at_ hkl;obtain ⟨bB,oB,CB,eB,hB,zB,cB,-,hrB⟩:=(HRO.o.keep (HXR.o.kept _)).at_ hkl;subst hA hB;have HSM:=Hd (show ∀ w':World,Ext wr w'→Calls Tryz.prog 34 #[.slice CA L[k2].length eA,.slice CB L[k2].length eB] w' (RetB w' true) from fun w' hx=>by
      have h1:=r06_Same 1 (fun _=>r06_Equal 0) CA CB eA eB L[k2] L[k2] w' _ _ (Row.keep hrA (hx.kept _)) (Row.keep hrB (hx.kept _));rw [decide_eq_true rfl] at h1;exact h1)
     obtain ⟨rl,erl⟩:∃ rl,rl=L[k2].length:=⟨_,rfl⟩;rw [← erl] at HSM cA cB;have Q0:=Hd cA;have Q1:=Hd cB;have i0:(0:Int)≤(k2:Int):=(by omega);have i1:(k2:Int)<(nL:Int):=(by omega);clear hrA hrB erl cA cB hkl
     go_upto_region 22 with fail
     refine wp_region_chain (by kernel_rfl) (fun i=>[i]) (by kernel_rfl) (LZ (fun _ _=>False)) (LZ.refl _) (LZ.trans _) (LK []) gz0 (LK.zero _) ?_;apply Chain.pure (LZ.refl _) (by rfl)
     ·intro vals γ w' ρ hR hN hp hρ hc hf hg;refine ⟨rfl,?_⟩;have e6:=hρ 6;(conv at e6=>rhs; whnf);clear hR hN hp hρ;go_light;go_simp;exact ⟨rfl,rfl⟩
     ·rfl
     apply Chain.pure (LZ.refl _) (by rfl)
     ·intro vals γ w' ρ hR hN hp hρ hc hf hg;refine ⟨rfl,?_⟩;have e16:=hρ 16;(conv at e16=>rhs; whnf);clear hR hN hp hρ;go_light;go_simp;exact ⟨rfl,rfl⟩
     ·rfl
     apply Chain.pure (LZ.refl _) (by rfl)
     ·intro vals γ w' ρ hR hN hp hρ hc hf hg;refine ⟨rfl,?_⟩;have e80:ρ (.tmp 80)=_:=(hρ 80).trans (hp 0 (by decide));have e81:ρ (.tmp 81)=_:=(hρ 81).trans (hp 1 (by decide));clear hR hN hp hρ;go_light;go_simp;exact ⟨rfl,rfl⟩
     ·rfl
     apply Chain.pure (LZ.refl _) (by rfl)
     ·intro vals γ w' ρ hR hN hp hρ hc hf hg;refine ⟨rfl,?_⟩;have e82:ρ (.tmp 82)=_:=(hρ 82).trans (hp 2 (by decide));have hxx:=hR.ext0 (fun _ _ _ h=>h.elim);have m0:=hxx.cell Q0.o;have m1:=hxx.cell Q1.o;clear hxx hR hN hp hρ;go_light;go_simp;exact ⟨rfl,rfl⟩
     ·rfl
     apply Chain.pure (LZ.refl _) (by rfl)
     ·intro vals γ w' ρ hR hN hp hρ hc hf hg;refine ⟨rfl,?_⟩;have e7:=hρ 7;(conv at e7=>rhs; whnf);clear hR hN hp hρ;go_light;go_simp;exact ⟨rfl,rfl⟩
     ·rfl
     apply Chain.pure (LZ.refl _) (by rfl)
     ·intro vals γ w' ρ hR hN hp hρ hc hf hg;refine ⟨rfl,?_⟩;have e16:=hρ 16;(conv at e16=>rhs; whnf);clear hR hN hp hρ;go_light;go_simp;exact ⟨rfl,rfl⟩
     ·rfl
     apply Chain.pure (LZ.refl _) (by rfl)
     ·intro vals γ w' ρ hR hN hp hρ hc hf hg;refine ⟨rfl,?_⟩;have e84:ρ (.tmp 84)=_:=(hρ 84).trans (hp 4 (by decide));have e85:ρ (.tmp 85)=_:=(hρ 85).trans (hp 5 (by decide));clear hR hN hp hρ;go_light;go_simp;exact ⟨rfl,rfl⟩
     ·rfl
     apply Chain.pure (LZ.refl _) (by rfl)
     ·intro vals γ w' ρ hR hN hp hρ hc hf hg;refine ⟨rfl,?_⟩;have e86:ρ (.tmp 86)=_:=(hρ 86).trans (hp 6 (by decide));have hxx:=hR.ext0 (fun _ _ _ h=>h.elim);have m0:=hxx.cell Q0.o;have m1:=hxx.cell Q1.o;clear hxx hR hN hp hρ;go_light;go_simp;exact ⟨rfl,rfl⟩
     ·rfl
     refine Chain.step (FP fun v γ w'=>v=.bool true) (by rfl) (FP.stab ?_) ?_ ?_
     ·intro v γ w1 γ' w2 r h;exact h
     ·intro vals γ w' ρ hR hN hp hρ hc hf hg;refine ⟨rfl,?_⟩;have e83:ρ (.tmp 83)=_:=(hρ 83).trans (hp 3 (by decide));have e87:ρ (.tmp 87)=_:=(hρ 87).trans (hp 7 (by decide));have HR:=Hd hR;have hxx:=hR.ext0 (fun _ _ _ h=>h.elim);have HXW:=Hd hxx;clear hxx hR hN hp hρ;go_light;go_simp;refine (HSM.o w' HXW.o).mono ?_;rintro e1 w3 ⟨he,hx⟩;exact ⟨_,he,γ,LZ.of_ext _ γ hx,fun _ _ _ h=>h,rfl⟩
     apply Chain.pure (LZ.refl _) (by rfl)
     ·intro vals γ w' ρ hR hN hp hρ hc hf hg;refine ⟨rfl,?_⟩;have e88:ρ (.tmp 88)=_:=(hρ 88).trans (hp 8 (by decide));clear hR hN hp hρ;go_light;go_simp;exact ⟨rfl,rfl⟩
     ·rfl
     intro vals γ w9 hR hG;have v0:vals 0=_:=hG 0 (by decide);have v1:vals 1=_:=hG 1 (by decide);have v2:vals 2=_:=hG 2 (by decide);have v3:vals 3=_:=hG 3 (by decide);have v4:vals 4=_:=hG 4 (by decide);have v5:vals 5=_:=hG 5 (by decide);have v6:vals 6=_:=hG 6 (by decide);have v7:vals 7=_:=hG 7 (by decide);have v8:vals 8=_:=hG 8 (by decide);have v9:vals 9=_:=hG 9 (by decide);simp only [lexFrame,Act.put,List.setIfInBounds_toArray,List.set_cons_succ,List.set_cons_zero,Nat.zero_add,Nat.reduceAdd,v0,v1,v2,v3,v4,v5,v6,v7,v8,v9];clear v0 v1 v2 v3 v4 v5 v6 v7 v8 v9;have HXN:=Hd (show Ext wr w9 from hR.ext0 (fun _ _ _ h=>h.elim));clear hR hG
     go_wp2_with fail
     go_roundw
     case rel=>exact ⟨k2+1,by omega,by go_num,HXR.o.trans HXN.o⟩
     case measure=>simp [intOf]; omega
    ·have hkn2:k2=nL:=(by omega);have HII:=Hd (r13_IntsB al al B A8 e c8 wr _ _ ⟨HALZ.o.keep (HXR.o.kept _),by rw [← HNR.o]; omega⟩ ⟨HSEZ.o.keep (HXR.o.kept _),by rw [← HNR.o]; omega⟩);rw [decide_eq_true rfl,← HNR.o] at HII
     go_wp2_with fail
     refine HII.o.mono ?_;rintro e13 w14 ⟨rfl,hx14⟩;have HXE:=Hd (HXR.o.trans hx14);have HSP:=Hd (r25_Same 1 Y Y A12 A7 c12 c7 (dp:Int) (lo:Int) (dp:Int) (lo:Int) w14 _ _ (HAS14.o.keep (HXE.o.kept _)) (HAS7Z.o.keep (HXE.o.kept _)));rw [sameP_eq,decide_eq_true rfl,← HNY.o] at HSP;have hb14:=HB14.o.keep (HXE.o.kept _);have hb11:=HB11Z.o.keep (HXE.o.kept _);have q0:=hb14.cell (i:=0) rfl;have q1:=hb14.cell (i:=1) rfl;have q2:=hb14.cell (i:=2) rfl;have q3:=hb11.cell (i:=0) rfl;have q4:=hb11.cell (i:=1) rfl;have q5:=hb11.cell (i:=2) rfl;clear hx14 hb14 hb11
     go_wp2_with fail
     refine HSP.o.mono ?_;rintro e14 w15 ⟨rfl,hx15⟩;have HXF:=Hd hx15;clear hx15 q0 q1 q2 q3 q4 q5
     go_wp2_with fail
     go_ret;exact ⟨rfl,HEXZ.o.trans (HXE.o.trans HXF.o)⟩
end Go.Proofs.YtomdpipekmcojaaGreatDoor
