/- Lemmas. No conditions. -/
import Derived.Test.YtidacnalcdhckaaGreatDoorOq27
import Derived.Test.YtidacnalcdhckaaGreatDoorOq36
set_option maxRecDepth 100000
set_option maxHeartbeats 4000000
namespace Go.Proofs.YtidacnalcdhckaaGreatDoor
open Go Go.RowKit Tryz
variable {qP:Prop}

theorem FCA(q:Nat)(cols:List BA)(rows:List (List Val))(fs:List BA)(A B C:OA)(ca cb cc:Nat)(w:World)(S T U:NP)(hA:Strs w S A cols)(hB:Rows w T q B rows)(hC:Strs w U C fs) :
  Cl 112 #[.slice A cols.length ca,.slice B rows.length cb,.slice C fs.length cc] w (Ae w (cols.all (BH cols rows fs))):=by
 have hcl:=hA.2.1;have HA:=Hd hA;have HH:=Hd (show ∀ w' (x:BA),Ext w w'→Cl 68 #[.slice A cols.length ca,.slice B rows.length cb,.agg #[.slice C fs.length cc,.string x]] w' (Ae w' (BH cols rows fs x)) from fun w' x hw'=>CyA q cols rows fs x A B C ca cb cc w' _ _ _ (hA.keep (hw'.kept _)) (hB.keep (hw'.kept _)) (hC.keep (hw'.kept _)));clear hA hB hC
 go_enter func112,ntmps112
 go_wp2
 go_loopw [7] (fun i wr=>∃ k:Nat,k≤cols.length∧i=.I k∧Ext w wr∧∀ m (h:m<cols.length),m<k→BH cols rows fs cols[m]=true) (fun i _=>cols.length-(intOf i).toNat)
 case atStart=>exact ⟨0,AN,rfl,Ext.refl _,AK⟩
 case round =>
  obtain ⟨k,hk,rfl,hext,hall⟩:=hrel;have HE:=Hd hext;have HAL:=Hd hall;clear hall;by_cases hlt:k<cols.length
  ·obtain ⟨b1,o1,rfl,z1,q0⟩:=(HA.o.keep (hext.kept _)).at_ hlt;obtain ⟨x,hx⟩:=eqx (cols[k]);rw [←hx] at q0;obtain ⟨hb,hhb⟩:=eqx (BH cols rows fs x);have HHX:=Hd (HH.o wr x hext);rw [←hhb] at HHX;have HX:=Hd hx;have HB:=Hd hhb;clear hext hx hhb
   go_wp2_with fail
   refine HHX.o.mono ?_;rintro e1 w1 ⟨rfl,hx1⟩;have HX1:=Hd (HE.o.trans hx1);clear hx1;cases hb
   ·go_wp2;go_ret;refine ⟨?_,HX1.o⟩;rw [CX cols (BH cols rows fs) k hlt (by rw [←HX.o,←HB.o])];rfl
   ·go_wp2;go_roundw
    case rel =>
     refine ⟨k+1,AA,AE,HX1.o,fun m h hm => ?_⟩;by_cases hmk:m=k
     ·subst hmk;rw [←HX.o,←HB.o]
     ·exact HAL.o m h AA
    case measure=>simp [intOf];omega
  ·go_wp2;go_ret;refine ⟨?_,HE.o⟩;rw [CH cols (BH cols rows fs) fun m h=>HAL.o m h AA];rfl
def HpA(ws:World)(fs:List BA)(γ:Gz)(w':World)(v:Value):Prop:=∃ (A4:OA) (c4:Nat),v=.slice A4 fs.length c4∧γ 1003=true∧OwnSs w' ws.heap.size A4 c4 fs
def HaA(ws:World)(fs:List BA)(xt:BA)(γ:Gz)(w':World)(v:Value):Prop:=∃ (A4:OA) (c4:Nat),v=.agg #[.slice A4 fs.length c4,.string xt]∧γ 1003=true∧OwnSs w' ws.heap.size A4 c4 fs
def HbA(ws:World)(fs:List BA)(xt:BA)(γ:Gz)(w':World)(v:Value):Prop:=∃ (g:Nat) (A4:OA) (c4:Nat),v=.slice (some ⟨g,0,none⟩) 1 1∧γ 1003=true∧ws.heap.size≤g∧Blk w' g 69 #[.slice A4 fs.length c4,.string xt]∧OwnSs w' ws.heap.size A4 c4 fs∧ob A4≠some g
def FsA(base:Nat)(l:List Dep)(no:Nat)(γ:Gz)(w':World)(v:Value):Prop:=∃ (A5:OA) (c5:Nat),v=.slice A5 (no+1) c5∧γ 1003=true∧γ 1010=true∧OwnDs w' base (fun b=>base≤b) A5 c5 l
def Ef(cols fs:List BA):List Dep:=(cols.filter fun x=>decide (Bt fs x<0)).map fun x=>⟨fs,x⟩
theorem Nc(cols fs:List BA):(Ef cols fs).length≤cols.length:=by
 unfold Ef;rw [List.length_map];exact List.length_filter_le _ _
theorem BhA(cols fs:List BA)(k:Nat)(hk:k<cols.length):Ef (cols.take (k+1)) fs=if Bt fs cols[k]<0 then Ef (cols.take k) fs++[⟨fs,cols[k]⟩] else Ef (cols.take k) fs:=by
 unfold Ef;rw [List.take_succ_eq_append_getElem hk,List.filter_append,List.map_append];by_cases h:Bt fs cols[k]<0
 ·rw [if_pos h,List.filter_cons,if_pos (decide_eq_true h)];rfl
 ·rw [if_neg h,List.filter_cons,if_neg AI];simp
theorem DmA(cols fs:List BA)(A C:OA)(ca cc:Nat)(w:World)(S U:NP)(hA:Strs w S A cols)(hC:Strs w U C fs)(hl:cols.length≤1000000) :
  Cl 113 #[.slice A cols.length ca,.slice C fs.length cc] w (Jt w (fun b=>w.heap.size≤b) (Ef cols fs)):=by
 have H:=Hd (hA.mono (T:=fun b=>b<w.heap.size) fun i hi _=>hi);have HC:=Hd (hC.mono (T:=fun b=>b<w.heap.size) fun i hi _=>hi);clear hA hC
 go_enter func113,ntmps113
 go_wp2
 go_loopw [6,5] (fun i v wr=>∃ (k:Nat) (A':OA) (c':Nat),k≤cols.length∧i=.I k∧v=.slice A' (Ef (cols.take k) fs).length c'∧Ext w wr∧OwnDs wr w.heap.size (fun b=>w.heap.size≤b) A' c' (Ef (cols.take k) fs)) (fun i _ _=>cols.length-(intOf i).toNat)
 case atStart=>exact ⟨0,none,0,AN,rfl,rfl,Ext.refl _,OwnDs.nil _ _ _⟩
 case round =>
  obtain ⟨k,A',c',hk,rfl,rfl,hext,hown⟩:=hrel;have HE:=Hd hext;have HO0:=Hd hown;by_cases hlt:k<cols.length
  ·obtain ⟨b1,o1,rfl,z1,q0⟩:=(H.o.keep (hext.kept _)).at_ hlt;have hb1:b1<w.heap.size:=by
    rcases H.o.1 with h0|⟨b,o,hA,hS,_⟩
    ·rw [List.map_eq_nil_iff] at h0;subst h0;simp at hlt
    ·injection hA with hA;injection hA with hA;rw [hA];exact hS
   obtain ⟨xt,hxt⟩:=eqx (cols[k]);have hnx:=BhA cols fs k hlt;have hln:=Nc (cols.take k) fs;rw [List.length_take] at hln;rw [←hxt] at q0 hnx;have HTO:=Hd (show xt.size≤4294967296 by rw [hxt];exact H.o.2.2 _ (List.getElem_mem hlt));obtain ⟨ds,hds⟩:=eqx (Ef (cols.take k) fs);rw [←hds] at hnx hln hown⊢;have HNX:=Hd hnx;have HO:=Hd hown;have hdk:ds.length≤k:=AA;obtain ⟨ws,rfl⟩:=eqx wr;have HIX:=Hd (Ei C cc fs xt ws _ (HC.o.keep (hext.kept _)));obtain ⟨ix,hix⟩:=eqx (Bt fs xt);rw [←hix] at HIX HNX;have hszr:=hext.size;obtain ⟨HAL,HXS,HWS,HFR,HFB,Z0,Q0,HNB⟩:=Hd8 (show ∀ b,ob A'=some b→w.heap.size≤b∧b<ws.heap.size from fun b hb=>HO.o.blk hb) hext (show w.heap.size≤ws.heap.size from hszr) ((HC.o.keep (hext.kept _)).mono (T:=fun b=>b<ws.heap.size∧ob A'≠some b) fun b hb hh=>⟨hb,fun e=>by have:=(HO.o.blk e).1;have hh':b<w.heap.size:=hh;omega⟩) (show fs.length≤4294967296 from HC.o.2.1) (show b1<ws.heap.size∧ob A'≠some b1 from ⟨AA,fun e=>by have:=(HO.o.blk e).1;omega⟩) q0 hdk;clear hext hown hnx hds hln hxt hix hszr hb1 HO0
   go_wp2_with fail
   refine HIX.o.mono ?_;rintro e1 w1 ⟨rfl,rfl⟩;by_cases hneg:ix<0
   ·have HI:=Hd (HNX.o.trans (if_pos hneg));clear q0
    go_upto_region 6 with fail
    refine Qa (fun m b=>(m=1003∧ws.heap.size≤b)∨(m=1010∧ob A'=some b)) [(0,[1010]),(1,[1003]),(2,[1003]),(3,[1003,1010]),(9,[1010]),(10,[1010])] ?_;refine Qp ?_;refine Qs (FP fun v γ w'=>∃ g:Nat,v=.slice (some ⟨g,0,none⟩) 0 0∧ws.heap.size≤g∧(γ 1003=false→Blk w' g 9 #[])) (H1A ?_) ?_ ?_
    ·rintro v γ wx γ' wy rr ⟨g,h1,h2,h3⟩;refine ⟨g,h1,h2,fun hk => ?_⟩;have hk0:γ 1003=false:=by
      cases h6:γ 1003 with
      |false=>rfl
      |true=>rw [rr.done _ h6] at hk;cases hk
     exact Q8
    ·exact G7
    refine Qp ?_;refine Chain.step (FP fun v γ w'=>HpA ws fs γ w' v) AG (H1A ?_) ?_ ?_
    ·exact JC
    ·intro vals γ w' ρ hR hN hp hρ hc hf hg;refine ⟨rfl,?_⟩;obtain ⟨g,hv1,hg,hb⟩:=hp 1 AB;have e21:=(hρ 21).trans hv1;have e22:ρ (.tmp 22)=_:=(hρ 22).trans (hp 2 AB);have hk0:=hN.key (k:=1003) AB;have hbg:=hb hk0;have ho:Own w' ws.heap.size 9 1 (some ⟨g,0,none⟩) 0 0 []:=IUA (xs:=[]) hbg hg;have hrd:=HFR.o.1.keep (hR.kept0 (S:=fun b=>b<ws.heap.size∧ob A'≠some b) (fun b hbl (hb:b<ws.heap.size∧ob A'≠some b) m hm=>FJ));have hsz:=hR.size;have e0:ws.drew.heap.size=ws.heap.size:=rfl;refine Cw (.tmp 21) (.tmp 22) rfl tiS e21 ho e22 hrd (by rw [List.length_map,Nat.mul_one]) (fun u hu=>Es _ u hu) (by have:=HFB.o;omega) AB AA ?_;intro A4 c4 w4 hown4 hg4 hat4;rw [Nat.zero_add] at hown4;refine ⟨γ.put 1003,H2A hk0 hg4.os hg4.tape hg4.output hg4.size (fun b hb hm=>hg4.block b hb fun e=>hm (.inl ⟨rfl,by simp [ob] at e;omega⟩)),LK.done AB,A4,c4,?_,AU,?_,HFR.o.2.2⟩
     ·show Value.slice A4 (0+fs.length) c4=.slice A4 fs.length c4;rw [Nat.zero_add]
     ·simpa using hown4
    iterate 3 refine Qp ?_
    refine Qm (fun vals γ w' ρ hR hN hp hρ zs zg=>by
     have hkk:=hR.o.kept0 (S:=fun b=>b<ws.heap.size∧ob A'≠some b) (fun b hbl (hb:b<ws.heap.size∧ob A'≠some b) m hm=>FJ);have m0:=Kept.cell hkk Z0.o Q0.o;clear hkk;exact Qk) ?_
    refine Qs (FP fun v γ w'=>HaA ws fs xt γ w' v) (H1A ?_) ?_ ?_
    ·exact JC
    ·intro vals γ w' ρ hR hN hp hρ zs zg;obtain ⟨A4,c4,hv4,hd4,ho4⟩:=hp.o 3 AB;have e23:=(hρ.o 23).trans hv4;exact Kk
    refine Qs (FP fun v γ w'=>HbA ws fs xt γ w' v) (H1A ?_) ?_ ?_
    ·exact PU
    ·intro vals γ w' ρ hR hN hp hρ zs zg;obtain ⟨A4,c4,hv4,hd4,ho4⟩:=hp.o 8 AB;have e28:=(hρ.o 28).trans hv4;have HO:=Hd ho4;have HD:=Hd hd4;have HR:=hR;clear hv4 ho4 hd4;refine Qr ?_;have hx1:=(Ext.refl w').alloc (.cells #[.slice A4 fs.length c4,.string xt] 69);exact R6
    refine Chain.step (FP fun v γ w'=>FsA w.heap.size (ds++[⟨fs,xt⟩]) ds.length γ w' v) AG (H1A ?_) ?_ ?_
    ·exact Iv
    ·intro vals γ w' ρ hR hN hp hρ hc hf hg;refine ⟨rfl,?_⟩;have e20:ρ (.tmp 20)=_:=(hρ 20).trans (hp 0 AB);obtain ⟨g,A4,c4,hv14,hd14,hg14,hb14,ho4,hne⟩:=hp 9 AB;have e29:=(hρ 29).trans hv14;have hk0:=hN.key (k:=1010) AB;have hod:=HO.o.keep (hR.kept0 (S:=fun b=>ob A'=some b∨w.heap.size≤b) fun b hbl _ m hm=>by rcases hm with ⟨rfl,h⟩|⟨rfl,h⟩;(have e0:ws.drew.heap.size=ws.heap.size:=rfl;omega);exact hk0);obtain ⟨xs,hxl,ho,hv⟩:=hod.add;have hsz:=hR.size;have e0:ws.drew.heap.size=ws.heap.size:=rfl;have hws:=HWS.o;refine Cw (.tmp 20) (.tmp 29) rfl tiD e20 ho e29 (Blk.rd hb14) rfl AP (by have:=HNB.o;omega) AB AA ?_;intro A5 c5 w5 hown5 hg5 hat5;refine ⟨γ.put 1010,H2A hk0 hg5.os hg5.tape hg5.output hg5.size (fun b hb hm=>hg5.block b hb fun e=>hm (.inr ⟨rfl,e.symm⟩)),LK.done AB,A5,c5,rfl,by simp [Gz.put,hd14],AU,?_⟩;refine OwnDs.push (r:=⟨fs,xt⟩) hxl hv hown5 hg5 hat5 (Own.cap ho4.1) HTO.o ((ho4.strs HFB.o fun b hb=>hb).mono fun b _ hb=>⟨fun e => ?_,?_⟩)
     ·have h1:=(ho4.1.blk hb).1;have h2:=(HAL.o b e).2;omega
     ·have h1:=(ho4.1.blk hb).1;omega
    refine Qs (FP fun v γ w'=>FsA w.heap.size (ds++[⟨fs,xt⟩]) ds.length γ w' v) (H1A ?_) ?_ ?_
    ·exact Iv
    ·intro vals γ w' ρ hR hN hp hρ zs zg;obtain ⟨A5,c5,hv5,h07,h15,hod5⟩:=hp.o 10 AB;have e30:=(hρ.o 30).trans hv5;exact On
    intro vals γ w9 hR hG;obtain ⟨A5,c5,v16,-,-,hod5⟩:=hG 11 AB;have HXN:=Hd (show Ext w w9 from Au HXS.o (hR.buts (S:=fun b=>w.heap.size≤b) (fun m b hbl hm _=>by rcases hm with ⟨_,h⟩|⟨_,h⟩;(have:=HWS.o;omega);exact (HAL.o b h).1)) (fun b hb=>hb));have HOD5:=Hd hod5;refine Qx ?_;simp only [v16];clear hR hG v16 hod5;go_wp2;go_roundw
    case rel=>exact ⟨k+1,A5,c5,AA,AE,by rw [HI.o,List.length_append];rfl,HXN.o,by rw [HI.o];exact HOD5.o⟩
    case measure=>simp [intOf];omega
   ·have HI:=Hd (HNX.o.trans (if_neg hneg));go_wp2;go_roundw
    case rel=>exact ⟨k+1,A',c',AA,AE,by rw [HI.o],HXS.o,by rw [HI.o];exact HO.o⟩
    case measure=>simp [intOf];omega
  ·obtain rfl:k=cols.length:=AA;have HT:=Hd (show cols.take cols.length=cols from List.take_length);have ho:=HO0.o;rw [HT.o] at ho;have HC2:=Hd (show (Ef cols fs).length≤c' by obtain ⟨hs,_,h1,_⟩:=ho.add;exact h1.cap);have HOF:=Hd ho;clear hext hown ho;go_wp2;go_ret;exact ⟨A',c',EM,HC2.o,HOF.o,HE.o⟩

def KzP(x y:BA)(v:Value)(w':World):Prop:=∃ g:Nat,v=.slice (some ⟨g,0,none⟩) 2 2∧Blk w' g 9 #[.string x,.string y]
theorem F7A:(prog.info? 4).map (fun i=>(i.zero,i.size,i.bytes))=some (some (.bool false),1,1):=by kernel_rfl
theorem GbA:TI prog 119 4 1 1:=IKA underlying119 F7A rfl AB
def WB(cols:List BA)(rows:List (List Val))(k:Nat):Bool:=EF cols rows&&(List.range k).all fun j=>decide (Bt cols (cols.getD j ⟨#[]⟩)=(j:Int))
theorem C1A(cols:List BA)(rows:List (List Val))(k:Nat):WB cols rows (k+1)=(WB cols rows k&&decide (Bt cols (cols.getD k ⟨#[]⟩)=(k:Int))):=by
 unfold WB;rw [List.range_succ,List.all_append,List.all_cons,List.all_nil,Bool.and_true,Bool.and_assoc]
theorem FFA(cols:List BA)(rows:List (List Val)):WB cols rows cols.length=(EF cols rows&&Lw cols):=by
 unfold WB Lw;congr 1;rw [Bool.eq_iff_iff,List.all_eq_true,decide_eq_true_eq];constructor
 ·intro h;rw [List.nodup_iff_pairwise_ne,List.pairwise_iff_getElem];intro i j hi hj hlt he;have h1:=of_decide_eq_true (h j (List.mem_range.2 hj));rw [BM _ _ _ hj] at h1;obtain ⟨k,hk,hkl,hkv,hall⟩:=J5 (l:=cols) (v:=cols[j]) (by rw [h1];omega);have:k=j:=AA;subst this;exact hall i hi hlt he
 ·intro h j hj;have hj:=List.mem_range.1 hj;rw [BM _ _ _ hj,decide_eq_true_eq];exact WI h hj
theorem EiA{cols:List BA}{rows:List (List Val)}(hn:cols.Nodup)(hr:EF cols rows=true){k:Nat}(hk:k<cols.length):cols.all (BH cols rows [cols[k]])=Gn rows cols.length k:=by
 have:=Nl hn hr [k] (by intro c hc;rw [List.mem_singleton.1 hc];exact hk);rw [List.map_cons,List.map_nil,BM _ _ _ hk] at this;rw [←this];rfl
theorem E6A{cols:List BA}{rows:List (List Val)}(hn:cols.Nodup)(hr:EF cols rows=true){i j:Nat}(hi:i<cols.length)(hj:j<cols.length):cols.all (BH cols rows [cols[i],cols[j]])=F9 rows cols.length [i,j]:=by
 have:=Nl hn hr [i,j] (by intro c hc;simp at hc;rcases hc with rfl|rfl<;>assumption);rw [List.map_cons,List.map_cons,List.map_nil,BM _ _ _ hi,BM _ _ _ hj] at this;rw [←this]
theorem D8A{cols:List BA}{rows:List (List Val)}(hn:cols.Nodup)(hr:EF cols rows=true):cols.all (BH cols rows [])=F9 rows cols.length []:=by
 have:=Nl hn hr [] AC;exact this.symm
theorem C0A{cols:List BA}(hn:cols.Nodup):Ch cols [] cols.length=Ef cols []:=by
 have:=LH hn [] AC cols.length (Al);rw [List.take_length] at this;exact this
theorem DcA{cols:List BA}(hn:cols.Nodup){k:Nat}(hk:k<cols.length):Ch cols [(k:Int)] cols.length=Ef cols [cols[k]]:=by
 have:=LH hn [k] (by intro c hc;rw [List.mem_singleton.1 hc];exact hk) cols.length (Al);rw [List.take_length,List.map_cons,List.map_nil,List.map_cons,List.map_nil,BM _ _ _ hk] at this;exact this
theorem DyA{cols:List BA}(hn:cols.Nodup){i j:Nat}(hi:i<cols.length)(hj:j<cols.length):Ch cols [(i:Int),(j:Int)] cols.length=Ef cols [cols[i],cols[j]]:=by
 have:=LH hn [i,j] (by intro c hc;simp at hc;rcases hc with rfl|rfl<;>assumption) cols.length (Al);rw [List.take_length,List.map_cons,List.map_cons,List.map_nil,List.map_cons,List.map_cons,List.map_nil,BM _ _ _ hi,BM _ _ _ hj] at this;exact this
def kL1(cols:List BA)(rows:List (List Val))(k:Nat):List Dep:=(List.range k).flatMap (KQ cols rows)
def kL3(cols:List BA)(rows:List (List Val))(i j:Nat):List Dep:=(List.range' (i+1) (j-(i+1))).flatMap (KO cols rows i)
def kL2(cols:List BA)(rows:List (List Val))(i:Nat):List Dep:=kL1 cols rows cols.length++(List.range i).flatMap fun i=>kL3 cols rows i cols.length
theorem EEA(cols:List BA)(rows:List (List Val))(k:Nat):kL1 cols rows (k+1)=kL1 cols rows k++KQ cols rows k:=by
 unfold kL1;rw [List.range_succ,List.flatMap_append];simp
theorem D4A(cols:List BA)(rows:List (List Val))(i:Nat):kL2 cols rows (i+1)=kL2 cols rows i++kL3 cols rows i cols.length:=by
 unfold kL2;rw [List.range_succ,List.flatMap_append,List.append_assoc];simp
theorem DUA(cols:List BA)(rows:List (List Val))(i j:Nat)(h:i+1≤j):kL3 cols rows i (j+1)=kL3 cols rows i j++KO cols rows i j:=by
 unfold kL3;rw [show j+1-(i+1)=(j-(i+1))+1 by omega,List.range'_concat,List.flatMap_append];congr 1;rw [show i+1+1*(j-(i+1))=j by omega];simp
theorem EWA(cols:List BA)(rows:List (List Val))(i:Nat):kL3 cols rows i (i+1)=[]:=by
 unfold kL3;rw [Nat.sub_self];rfl
theorem WP(cols:List BA)(s:List Int):(Ch cols s cols.length).length≤cols.length:=APA cols s cols.length
theorem C6A(cols:List BA)(rows:List (List Val))(k:Nat):(KQ cols rows k).length≤cols.length:=by
 unfold KQ;split
 ·exact WP _ _
 ·exact AN
theorem CwA(cols:List BA)(rows:List (List Val))(i j:Nat):(KO cols rows i j).length≤cols.length:=by
 unfold KO;split
 ·exact WP _ _
 ·exact AN
theorem QD{α β:Type}{l:List α}{f:α→List β}{n:Nat}(h:∀ x∈l,(f x).length≤n):(l.flatMap f).length≤l.length*n:=by
 induction l with
 |nil=>simp
 |cons a m ih =>
  rw [List.flatMap_cons,List.length_append,List.length_cons,Nat.add_mul];have:=h a AC;have:=ih (fun x hx=>h x (by simp [hx]));omega
theorem CDA(cols:List BA)(rows:List (List Val))(k:Nat):(kL1 cols rows k).length≤k*cols.length:=by
 have:=QD (l:=List.range k) (f:=KQ cols rows) (n:=cols.length) fun x _=>C6A _ _ _;rwa [List.length_range] at this
theorem B9A(cols:List BA)(rows:List (List Val))(i j:Nat)(hj:j≤cols.length):(kL3 cols rows i j).length≤cols.length*cols.length:=by
 have:=QD (l:=List.range' (i+1) (j-(i+1))) (f:=KO cols rows i) (n:=cols.length) fun x _=>CwA _ _ _ _;rw [List.length_range'] at this;exact Nat.le_trans this (Nat.mul_le_mul_right _ AA)
theorem FWA(cols:List BA)(rows:List (List Val))(i:Nat)(hi:i≤cols.length)(hn:cols.length≤1000):(kL2 cols rows i).length≤1001000000:=by
 unfold kL2;rw [List.length_append];have h1:=CDA cols rows cols.length;have h2:=QD (l:=List.range i) (f:=fun i=>kL3 cols rows i cols.length) (n:=cols.length*cols.length) fun x _=>B9A _ _ _ _ (Al);rw [List.length_range] at h2;have h3:cols.length*cols.length≤1000*1000:=Nat.mul_le_mul hn hn;have h4:i*(cols.length*cols.length)≤1000*(1000*1000):=Nat.mul_le_mul AA h3;omega
theorem F5A(cols:List BA)(rows:List (List Val))(h1:(EF cols rows&&Lw cols)=true)(h2:F9 rows cols.length []=false):kL2 cols rows cols.length=Co cols rows:=by
 rw [YI];unfold B7A;rw [Bool.and_eq_true] at h1;rw [h1.1,h1.2,h2];rfl
def YZ(rows:List (List Val))(n k:Nat):List Value:=(List.range k).map fun i=>Value.bool (Gn rows n i)
theorem CdA(rows:List (List Val))(n k:Nat):YZ rows n (k+1)=YZ rows n k++[.bool (Gn rows n k)]:=by
 unfold YZ;rw [List.range_succ,List.map_append];rfl
theorem B0A(rows:List (List Val))(n k i:Nat)(h:i<k):(YZ rows n k)[i]?=some (.bool (Gn rows n i)):=by
 unfold YZ;rw [List.getElem?_map,List.getElem?_range h];rfl
theorem SepD.mk{w w':World}{base c8:Nat}{A8 A9 A10:OA}{l:List Dep}(h:OwnDs w base (fun b=>(base≤b∧ob A9≠some b)∧b<w.heap.size) A8 c8 l)(hs:∀ b,ob A9=some b→ob A8≠some b)(hg:w.grownBy w' (ob A9))(hat:ob A10=ob A9∨ob A10=some w.heap.size):OwnDs w' base (fun b=>base≤b∧ob A10≠some b) A8 c8 l:=by
 refine (h.keep (Kept.of_grown hg fun b hb _ e => ?_)).mono fun b _ hb=>⟨hb.1.1,fun e => ?_⟩
 ·rcases hb with hb|hb
  ·exact hs b e.symm hb
  ·exact hb.1.2 e.symm
 ·rcases hat with h1|h1
  ·rw [h1] at e;exact hb.1.2 e
  ·rw [h1] at e;injection e with e;have:=hb.2;omega
theorem SepD.sep{w:World}{base c8:Nat}{A8 A9 A10:OA}{X:NP}{l:List Dep}(h:OwnDs w base X A8 c8 l)(hs:∀ b,ob A9=some b→ob A8≠some b)(hat:ob A10=ob A9∨ob A10=some w.heap.size):∀ b,ob A10=some b→ob A8≠some b:=by
 intro b hb e
 rcases hat with h1|h1
 ·rw [h1] at hb;exact hs b hb e
 ·rw [h1] at hb;injection hb with hb;have:=(h.blk e).2;omega
theorem TR(h:qP:=by
 exact ⟨fun e=>by have:=h8 b e;omega,by omega,fun e=>by have:=h9 b e;omega⟩):qP:=h
theorem DepR.mk{w w':World}{base c5:Nat}{A5 A8 A9:OA}{l:List Dep}(h:OwnDs w' w.heap.size (fun b=>w.heap.size≤b) A5 c5 l)(hl:l.length≤4294967296)(h8:∀ b,ob A8=some b→b<w.heap.size)(h9:∀ b,ob A9=some b→b<w.heap.size)(hb:base≤w.heap.size):RDeps w' (fun b=>ob A8≠some b∧(base≤b∧ob A9≠some b)) A5 l:=by
 refine h.rdeps hl (fun b hb' => ?_) (fun b (hb':w.heap.size≤b) => ?_)
 ·have:=(h.blk hb').1;exact TR
 ·exact TR
theorem S5(h:qP:=by
 rintro v γ wx γ' wy rr ⟨g,h1,h2⟩;exact ⟨g,h1,h2.keep (rr.keptS (S:=fun b=>b=g) fun b _ e m hm=>hm.elim)⟩):qP:=h
theorem RO(h:qP:=by
 have HL:=Hd (show kL3 cols rows k (j+1)=L3 by rw [HLU.o];simp);go_wp2;go_roundw
 case rel=>exact ⟨j+1,A3,c3,by omega,by omega,by go_num,by rw [HL.o,←HLE.o],by rw [HL.o,←HLE.o];exact HO8'.out,HSP3.o,HX9.o,HO9'.out⟩
 case measure=>simp [intOf];omega):qP:=h
theorem DzA(q:Nat)(cols:List BA)(rows:List (List Val))(A B:OA)(ca cb:Nat)(w:World)(S T:NP)(hA:Strs w S A cols)(hB:Rows w T q B rows)(hn:cols.length≤1000)(hca:cols.length≤ca) :
  Cl 40 #[.slice A cols.length ca,.slice B rows.length cb] w (Jt w (fun b=>w.heap.size≤b) (Co cols rows)):=by
 obtain ⟨HA,HSQ,HIX,HKY,HDP⟩:=Hd5 (hA.mono (T:=fun b=>b<w.heap.size) fun i hi _=>hi) (Rs q cols rows A B ca cb w T hA.2.1 hB) (fun x=>Ei A ca cols x w S hA) (show ∀ (fs:List BA) (C:OA) (cc:Nat) (w':World) (U:NP),Ext w w'→Strs w' U C fs→Cl 112 #[.slice A cols.length ca,.slice B rows.length cb,.slice C fs.length cc] w' (Ae w' (cols.all (BH cols rows fs))) from fun fs C cc w' U hw' hC=>FCA q cols rows fs A B C ca cb cc w' _ _ _ (hA.keep (hw'.kept _)) (hB.keep (hw'.kept _)) hC) (show ∀ (fs:List BA) (C:OA) (cc:Nat) (w':World) (U:NP),Ext w w'→Strs w' U C fs→Cl 113 #[.slice A cols.length ca,.slice C fs.length cc] w' (Jt w' (fun b=>w'.heap.size≤b) (Ef cols fs)) from fun fs C cc w' U hw' hC=>DmA cols fs A C ca cc w' _ _ (hA.keep (hw'.kept _)) hC AA);obtain ⟨n,hnn⟩:=eqx cols.length;clear hA hB
 go_enter func40,ntmps40
 go_wp2_with fail
 refine HSQ.o.mono ?_;rintro e1 w1 ⟨rfl,rfl⟩;have hf0:EF cols rows=WB cols rows 0:=(by unfold WB;simp);rw [hf0];clear hf0;go_wp2
 go_loop [6,5] (fun i s=>∃ k:Nat,k≤cols.length∧i=.I k∧s=.bool (WB cols rows k)) (fun i _=>cols.length-(intOf i).toNat)
 case atStart=>exact ⟨0,AN,rfl,rfl⟩
 case round =>
  obtain ⟨k,hk,rfl,rfl⟩:=hrel;by_cases hlt:k<cols.length
  ·have hsu:=C1A cols rows k;rw [BM _ _ _ hlt] at hsu;obtain ⟨fk,hfk⟩:=eqx (WB cols rows k);rw [←hfk] at hsu⊢;obtain ⟨b1,o1,rfl,z1,q0⟩:=HA.o.at_ hlt;obtain ⟨x,hx⟩:=eqx (cols[k]);rw [←hx] at q0 hsu;obtain ⟨ix,hix⟩:=eqx (Bt cols x);have HIC:=Hd (HIX.o x);rw [←hix] at hsu HIC;have HSU:=Hd hsu;clear hsu hfk hx hix;cases fk
   ·go_wp2
    go_round
    case rel=>exact ⟨k+1,AA,AE,by rw [HSU.o];rfl⟩
    case measure=>simp [intOf];omega
   ·go_wp2_with fail
    refine HIC.o.mono ?_;rintro e2 w2 ⟨rfl,rfl⟩;have HEQ:=Hd (show (ix==(k:Int))=decide (ix=(k:Int)) by rw [Bool.eq_iff_iff];simp);go_wp2
    go_round
    case rel=>exact ⟨k+1,AA,AE,by rw [HSU.o,HEQ.o];rfl⟩
    case measure=>simp [intOf];omega
  ·obtain rfl:k=cols.length:=AA;have hfa:=FFA cols rows;obtain ⟨ft,hft⟩:=eqx (WB cols rows cols.length);rw [←hft] at hfa⊢;clear hft;cases ft
   ·have HF:=Hd (show Co cols rows=[] by
     unfold Co;rw [if_pos];have h2:=hfa.symm
     revert h2
     cases EF cols rows<;>cases Lw cols<;>simp)
    clear hfa;go_wp2;go_ret;rw [HF.o];exact ⟨none,0,rfl,Al,OwnDs.nil _ _ _,Ext.refl _⟩
   obtain ⟨HFA,HRG,HND⟩:=Hd3 hfa.symm (show EF cols rows=true by have:=hfa.symm;rw [Bool.and_eq_true] at this;exact this.1) (show cols.Nodup by have:=hfa.symm;rw [Bool.and_eq_true] at this;exact of_decide_eq_true this.2);clear hfa HSQ HIX;have hk0:=D8A HND.o HRG.o;obtain ⟨e0,he0⟩:=eqx (F9 rows cols.length []);have HK0:=Hd (HKY.o [] none 0 w (fun _=>False) (Ext.refl _) Strs.nil);rw [hk0,←he0] at HK0;have HE0:=Hd he0;clear hk0 he0
   go_wp2_with fail
   refine HK0.o.mono ?_;rintro e2 w2 ⟨rfl,hx2⟩;have HX2:=Hd hx2;clear hx2;cases e0
   case true =>
    have HF:=Hd (show Co cols rows=Ef cols [] by
     rw [YI];unfold B7A;have h1:=HFA.o;rw [Bool.and_eq_true] at h1;rw [h1.1,h1.2,←HE0.o];exact C0A HND.o)
    go_wp2_with fail
    refine (HDP.o [] none 0 w2 (fun _=>False) HX2.o Strs.nil).mono ?_;rintro e3 w3 ⟨A3,c3,rfl,hc3,ho3,hx3⟩;obtain ⟨HO3,HX3,HC3⟩:=Hd3 ho3 (HX2.o.trans hx3) hc3;have hsz:=HX2.o.size;clear hx3 ho3 hc3;go_wp2;go_ret;exact ⟨A3,c3,BB,by rw [HF.o];exact HC3.o,by rw [HF.o];exact (HO3.o.lower hsz).mono fun b _ hb=>by have hb':w2.heap.size≤b:=hb;omega,HX3.o⟩
   have HF:=Hd (F5A cols rows HFA.o HE0.o.symm);clear HK0 HE0;go_wp2
   go_loopw [10,9,8] (fun i s o wr=>∃ (k:Nat) (A9:OA) (c9:Nat) (A8:OA) (c8:Nat),k≤cols.length∧i=.I k∧s=.slice A9 k c9∧o=.slice A8 (kL1 cols rows k).length c8∧Own wr w.heap.size 4 1 A9 k c9 (YZ rows cols.length k)∧OwnDs wr w.heap.size (fun b=>w.heap.size≤b∧ob A9≠some b) A8 c8 (kL1 cols rows k)∧(∀ b,ob A9=some b→ob A8≠some b)∧Ext w wr) (fun i _ _ _=>cols.length-(intOf i).toNat)
   case atStart=>exact ⟨0,none,0,none,0,AN,rfl,rfl,rfl,Own.nil _ _ _ _,OwnDs.nil _ _ _,(by intro b hb;cases hb),HX2.o⟩
   case round =>
    obtain ⟨k,A9,c9,A8,c8,hk,rfl,rfl,rfl,ho9,ho8,hsep,hext⟩:=hrel;obtain ⟨HO9,HO8,HSP,HE⟩:=Hd4 ho9 ho8 hsep hext;clear ho9 ho8 hsep;by_cases hlt:k<cols.length
    ·have hl1:(kL1 cols rows k).length≤1000000:=Nat.le_trans (CDA _ _ _) (Nat.le_trans (Nat.mul_le_mul AA hn) (by decide:1000*1000≤1000000));have hlu:=EEA cols rows k;unfold KQ at hlu;rw [DcA HND.o hlt] at hlu;have hko:=EiA HND.o HRG.o hlt;obtain ⟨sg,hsg⟩:=eqx (Gn rows cols.length k);have hss:=CdA rows cols.length k;rw [←hsg] at hlu hko hss;obtain ⟨b1,o1,rfl,z1,q0⟩:=(HA.o.keep (hext.kept _)).at_ hlt;obtain ⟨x,hx⟩:=eqx (cols[k]);rw [←hx] at q0 hlu hko;have HSX:=Hd (show Strs wr (fun b=>b<w.heap.size) (some ⟨b1,o1+k,none⟩) [x] from by
      have h1:=(HA.o.keep (hext.kept _));refine ⟨?_,AC,fun s hs => ?_⟩
      ·have h2:=(Rd.drop h1.1 k).take 1;rw [←List.map_drop,←List.map_take,List.drop_eq_getElem_cons hlt,←hx] at h2
       simpa using h2
      ·rw [List.mem_singleton.1 hs,hx];exact h1.2.2 _ (List.getElem_mem hlt))
     have HKC:=Hd (HKY.o [x] (some ⟨b1,o1+k,none⟩) (ca-k) wr _ hext HSX.o);rw [hko] at HKC;have HLU:=Hd hlu;have HSS:=Hd hss;have hkc:k+1≤ca:=AA;have hkn:((k:Int)+1-(k:Int))=1:=AA;clear hlu hko hss hx hsg hext
     go_wp2_with fail
     refine HKC.o.mono ?_;rintro e3 w3 ⟨rfl,hx3⟩;obtain ⟨wb,hwb⟩:=eqx (w3.alloc (.cells #[.bool sg] 4));have hxb:Ext wr wb:=(by rw [hwb];exact hx3.trans (exaa _));obtain ⟨HXB,HXR,HO9B,HO8B⟩:=Hd4 (HE.o.trans hxb) hxb (HO9.o.ext hxb) ((HO8.o.ext hxb).mono (T:=fun b=>(w.heap.size≤b∧ob A9≠some b)∧b<wb.heap.size) fun b hb h=>⟨h,hb⟩);have hszb:=HXB.o.size;have HWB:=Hd hwb;clear hx3 hxb HKC;have HWC:=Hd HWB.o.symm;cases sg
     ·have HL:=Hd (show kL1 cols rows (k+1)=kL1 cols rows k by rw [HLU.o];simp)
      go_wp2_with (at_builtin;go_must (rw [HWC.o]);go_must (refine AL rfl (.tmp 58) (.tmp 60) rfl GbA rfl HO9B.o rfl (by rw [HWB.o];exact Blk.rd (Blk.new _ _ _)) rfl AP AA AB AA ?_);intro A10 c10 w10 hown10 hg10 hat10)
      go_roundw
      case rel =>
       refine ⟨k+1,A10,c10,A8,c8,AA,AE,rfl,by rw [HL.o],?_,?_,?_,HXB.o.grown hg10 fun b hb=>(HO9B.o.blk hb).1⟩
       ·rw [HSS.o];exact hown10
       ·rw [HL.o];exact SepD.mk HO8B.o HSP.o hg10 hat10
       ·exact SepD.sep HO8B.o HSP.o hat10
      case measure=>simp [intOf];omega
     ·have HL:=Hd (show kL1 cols rows (k+1)=kL1 cols rows k++Ef cols [x] by rw [HLU.o];simp)
      go_wp2_with (at_builtin;go_must (rw [HWC.o]);go_must (refine AL rfl (.tmp 58) (.tmp 60) rfl GbA rfl HO9B.o rfl (by rw [HWB.o];exact Blk.rd (Blk.new _ _ _)) rfl AP AA AB AA ?_);intro A10 c10 w10 hown10 hg10 hat10)
      have hx10:Ext w w10:=HXB.o.grown hg10 fun b hb=>(HO9B.o.blk hb).1;have HX10:=Hd hx10;have hsx:Strs w10 (fun b=>b<w.heap.size) (some ⟨b1,o1+k,none⟩) [x]:=(HSX.o.keep (HXR.o.kept _)).keep (Kept.of_grown hg10 fun b hb _ e=>by have:=(HO9B.o.blk e.symm).1;omega);obtain ⟨HO10,HO80,HSP0,HDC⟩:=Hd4 hown10 (SepD.mk HO8B.o HSP.o hg10 hat10) (SepD.sep HO8B.o HSP.o hat10) (HDP.o [x] (some ⟨b1,o1+k,none⟩) (ca-k) w10 _ hx10 hsx);have hdl:=Nc cols [x];obtain ⟨dx,hdx⟩:=eqx (Ef cols [x]);rw [←hdx] at HDC HL hdl;clear hx10 hsx hown10 hg10 hat10 hdx;refine HDC.o.mono ?_;rintro e5 w5 ⟨A5,c5,rfl,hc5,ho5,hx5⟩;have HX5:=Hd (HX10.o.trans hx5);have hsz0:=HX10.o.size;have HR5:=Hd (DepR.mk ho5 AA (fun b hb=>(HO80.o.blk hb).2) (fun b hb=>(HO10.o.blk hb).2) hsz0);have HO10':=Hd (HO10.o.ext hx5);obtain ⟨hs,hhs,hoo,hvv⟩:=(HO80.o.ext hx5).add;obtain ⟨HHS,HOO,HVV⟩:=Hd3 hhs hoo hvv;obtain ⟨-,ys,hry,hyl,hyd⟩:=HR5.o;obtain ⟨HRY,HYL,HYD,HY1⟩:=Hd4 hry hyl hyd (Hs hyl hyd);have hsz5:=HX5.o.size;have HG5:=Hd (show ∀ b,ob A10=some b→b<w5.heap.size from fun b hb=>(HO10'.out.blk hb).2);clear hx5 ho5 hc5 hhs hoo hvv hry hyl hyd
      go_wp2_with (at_builtin;go_must (refine AL rfl (.tmp 63) (.tmp 70) rfl tiD rfl HOO.o rfl HRY.o HYL.o HY1.o AA AB AA ?_);intro A6 c6 w6 hown6 hg6 hat6)
      go_roundw
      case rel =>
       refine ⟨k+1,A10,c10,A6,c6,AA,AE,rfl,by rw [HL.o,List.length_append],?_,?_,?_,HX5.o.grown hg6 fun b hb=>(HOO.o.blk hb).1⟩
       ·rw [HSS.o];exact Own.keep HO10'.out (Kept.of_grown hg6 fun b hb _ e=>HSP0.o b hb e.symm)
       ·rw [HL.o];exact OwnDs.app HHS.o HVV.o HYD.o hown6 hg6 hat6
       ·intro b hb e
        rcases hat6 with h6|h6
        ·rw [h6] at e;exact HSP0.o b hb e
        ·rw [h6] at e;injection e with e;have:=HG5.o b hb;omega
      case measure=>simp [intOf];omega
    ·obtain rfl:k=cols.length:=AA;obtain ⟨wp,rfl⟩:=eqx wr;have hl20:kL2 cols rows 0=kL1 cols rows cols.length:=(by unfold kL2;simp);have HO9F:=Hd HO9.o;clear hext;go_wp2
     go_loopw [12,8] (fun i o wr=>∃ (k:Nat) (A7:OA) (c7:Nat),k≤cols.length∧i=.I k∧o=.slice A7 (kL2 cols rows k).length c7∧OwnDs wr w.heap.size (fun b=>w.heap.size≤b∧ob A9≠some b) A7 c7 (kL2 cols rows k)∧(∀ b,ob A9=some b→ob A7≠some b)∧Ext w wr∧Own wr w.heap.size 4 1 A9 cols.length c9 (YZ rows cols.length cols.length)) (fun i _ _=>cols.length-(intOf i).toNat)
     case atStart=>exact ⟨0,A8,c8,AN,rfl,by rw [hl20],by rw [hl20];exact HO8.o,HSP.o,HE.o,HO9F.o⟩
     case round =>
      obtain ⟨k,A7,c7,hk2,rfl,rfl,ho7,hsp7,hx7,ho9⟩:=hrel;obtain ⟨HO7,HSP7,HX7,HO97⟩:=Hd4 ho7 hsp7 hx7 ho9;clear ho7 hsp7 hx7 ho9 hl20;by_cases hlt:k<cols.length
      ·obtain ⟨wq,rfl⟩:=eqx wr;have hl2:=FWA cols rows k AA hn;have hl2s:=D4A cols rows k;have hz3:=EWA cols rows k;obtain ⟨L2,hL2⟩:=eqx (kL2 cols rows k);rw [←hL2] at hl2 hl2s HO7⊢;have HL2S:=Hd hl2s;clear hL2 hl2s;go_wp2
       go_loopw [13,8] (fun jv o wr=>∃ (j:Nat) (A7:OA) (c7:Nat),k+1≤j∧j≤cols.length∧jv=.I j∧o=.slice A7 (L2++kL3 cols rows k j).length c7∧OwnDs wr w.heap.size (fun b=>w.heap.size≤b∧ob A9≠some b) A7 c7 (L2++kL3 cols rows k j)∧(∀ b,ob A9=some b→ob A7≠some b)∧Ext w wr∧Own wr w.heap.size 4 1 A9 cols.length c9 (YZ rows cols.length cols.length)) (fun jv _ _=>cols.length-(intOf jv).toNat)
       case atStart=>exact ⟨k+1,A7,c7,Al,AA,AE,by rw [hz3,List.append_nil],by rw [hz3,List.append_nil];exact HO7.o,HSP7.o,HX7.o,HO97.o⟩
       case round =>
        clear hz3;obtain ⟨j,A3,c3,hj1,hj2,rfl,rfl,ho3,hsp3,hx3,ho9⟩:=hrel;obtain ⟨HO3,HSP3,HX3,HO93⟩:=Hd4 ho3 hsp3 hx3 ho9;clear ho3 hsp3 ho9;by_cases hlj:j<cols.length
        ·have hl3:=B9A cols rows k j AA;have hl3c:cols.length*cols.length≤1000*1000:=Nat.mul_le_mul hn hn;have hlu:=DUA cols rows k j hj1;unfold KO at hlu;rw [DyA HND.o hlt hlj] at hlu;have hko:=E6A HND.o HRG.o hlt hlj;have hdb:Yu rows cols.length k j=(!Gn rows cols.length k&&!Gn rows cols.length j&&F9 rows cols.length [k,j]):=rfl;have hsk:=B0A rows cols.length cols.length k hlt;have hsj:=B0A rows cols.length cols.length j hlj;rw [hdb] at hlu;obtain ⟨sk,hsk'⟩:=eqx (Gn rows cols.length k);obtain ⟨sj,hsj'⟩:=eqx (Gn rows cols.length j);obtain ⟨kp,hkp⟩:=eqx (F9 rows cols.length [k,j]);obtain ⟨L3,hL3⟩:=eqx (kL3 cols rows k j);rw [←hsk'] at hlu hsk;rw [←hsj'] at hlu hsj;rw [←hkp] at hlu hko;rw [←hL3] at hlu hl3 HO3⊢;obtain ⟨LL,hLL⟩:=eqx (L2++L3);have hll:LL.length≤1002000000:=(by rw [hLL,List.length_append];omega);rw [←hLL] at HO3⊢;have HLE:=Hd hLL;clear hLL;obtain ⟨b1,o1,rfl,z1,q1⟩:=(HA.o.keep (hx3.kept _)).at_ hlt;obtain ⟨b1',o1',he1',-,q2⟩:=(HA.o.keep (hx3.kept _)).at_ hlj;injection he1' with he1';injection he1' with he2' he3';subst he2' he3';obtain ⟨x1,hx1⟩:=eqx (cols[k]);obtain ⟨x2,hx2⟩:=eqx (cols[j]);rw [←hx1] at q1 hlu hko;rw [←hx2] at q2 hlu hko;obtain ⟨Q1,Q2,HZ1,HZ2⟩:=Hd4 q1 q2 (show x1.size≤4294967296 by rw [hx1];exact HA.o.2.2 _ (List.getElem_mem hlt)) (show x2.size≤4294967296 by rw [hx2];exact HA.o.2.2 _ (List.getElem_mem hlj));obtain ⟨b9,rfl⟩:=HO93.o.some_ AA;obtain ⟨K1,K2,HLU,HKO⟩:=Hd4 (HO93.o.cell_ hsk) (HO93.o.cell_ hsj) hlu hko;clear hlu hko hdb hsk hsj hsk' hsj' hkp hL3 hx1 hx2 q1 q2 hx3
         go_upto_region 26 with fail
         refine Qa (fun _ _=>False) [] ?_
         iterate 8 refine Qp ?_
         refine Qs (FP fun v γ w'=>KzP x1 x2 v w') (H1A ?_) ?_ ?_
         ·exact S5
         ·intro vals γ w' ρ hR hN hp hρ zs zg;refine Qr ?_;exact ⟨γ,H4A _ γ (exaa _),fun _ _ _ h=>h,_,rfl,Blk.new _ _ _⟩
         refine Qs (FP fun v γ w'=>KzP x1 x2 v w') (H1A ?_) ?_ ?_
         ·exact S5
         ·intro vals γ w' ρ hR hN hp hρ zs zg;have hg:=hp.o 8 AB;have e94:=hρ.o 94;(conv at e94=>rhs;whnf);have HG:=Hd hg;clear hg;refine Qr ?_;exact ⟨γ,LZ.refl _ _ _,fun _ _ _ h=>h,HG.o⟩
         intro vals γ w9 hR hG;refine Qx ?_;obtain ⟨gs,v9',hbs⟩:=hG 9 AB;rw [v9'];have HXN:=Hd (show Ext wr w9 from hR.ext0 (fun _ _ _ h=>h.elim));have HBS:=Hd hbs;clear hR hG hbs v9';have hx9:Ext w w9:=HX3.o.trans HXN.o;have HX9:=Hd hx9;have k1:=HXN.o.cell K1.o;have k2:=HXN.o.cell K2.o;obtain ⟨HO9',HO8',HSX⟩:=Hd3 (HO93.o.ext HXN.o) (HO3.o.ext HXN.o) (show Strs w9 (fun b=>True) (some ⟨gs,0,none⟩) [x1,x2] from ⟨(Blk.rd HBS.o).mono fun _ _ _=>trivial,AC,fun s hs=>by simp at hs;rcases hs with rfl|rfl;exact HZ1.o;exact HZ2.o⟩);have HKC:=Hd (HKY.o [x1,x2] (some ⟨gs,0,none⟩) 2 w9 _ hx9 HSX.o);rw [HKO.o] at HKC;clear hx9;cases sk
         case true =>
          exact RO
         cases sj
         case true =>
          exact RO
         go_wp2_with fail
         refine HKC.o.mono ?_;rintro e4 w4 ⟨rfl,hx4⟩;obtain ⟨HX4,HO94,HO84,HSX4⟩:=Hd4 (HX9.o.trans hx4) (HO9'.out.ext hx4) (HO8'.out.ext hx4) (HSX.o.keep (hx4.kept _));clear hx4 k1 k2;cases kp
         ·have HL:=Hd (show kL3 cols rows k (j+1)=L3 by rw [HLU.o];simp);go_wp2;go_roundw
          case rel=>exact ⟨j+1,A3,c3,AA,AA,AE,by rw [HL.o,←HLE.o],by rw [HL.o,←HLE.o];exact HO84.o,HSP3.o,HX4.o,HO94.o⟩
          case measure=>simp [intOf];omega
         ·have HL:=Hd (show kL3 cols rows k (j+1)=L3++Ef cols [x1,x2] by rw [HLU.o];simp);have HDC:=Hd (HDP.o [x1,x2] (some ⟨gs,0,none⟩) 2 w4 _ HX4.o HSX4.o);have hdl:=Nc cols [x1,x2];obtain ⟨dx,hdx⟩:=eqx (Ef cols [x1,x2]);rw [←hdx] at HDC HL hdl;clear hdx
          go_wp2_with fail
          refine HDC.o.mono ?_;rintro e5 w5 ⟨A5,c5,rfl,hc5,ho5,hx5⟩;have HX5:=Hd (HX4.o.trans hx5);have hsz0:=HX4.o.size;have HR5:=Hd (DepR.mk ho5 AA (fun b hb=>(HO84.o.blk hb).2) (fun b hb=>(HO94.o.blk hb).2) hsz0);have HO95:=Hd (HO94.o.ext hx5);obtain ⟨hs,hhs,hoo,hvv⟩:=(HO84.o.ext hx5).add;obtain ⟨HHS,HOO,HVV⟩:=Hd3 hhs hoo hvv;obtain ⟨-,ys,hry,hyl,hyd⟩:=HR5.o;obtain ⟨HRY,HYL,HYD,HY1⟩:=Hd4 hry hyl hyd (Hs hyl hyd);have hsz5:=HX5.o.size;clear hx5 ho5 hc5 hhs hoo hvv hry hyl hyd
          go_wp2_with (at_builtin;go_must (refine AL rfl (.tmp 114) (.tmp 117) rfl tiD rfl HOO.o rfl HRY.o HYL.o HY1.o AA AB AA ?_);intro A6 c6 w6 hown6 hg6 hat6)
          go_roundw
          case rel =>
           refine ⟨j+1,A6,c6,AA,AA,AE,by rw [HL.o,←List.append_assoc,←HLE.o,List.length_append],?_,?_,HX5.o.grown hg6 fun b hb=>(HOO.o.blk hb).1,Own.keep HO95.o (Kept.of_grown hg6 fun b hb _ e=>HSP3.o b hb e.symm)⟩
           ·rw [HL.o,←List.append_assoc,←HLE.o];exact OwnDs.app HHS.o HVV.o HYD.o hown6 hg6 hat6
           ·intro b hb e
            rcases hat6 with h6|h6
            ·rw [h6] at e;exact HSP3.o b hb e
            ·rw [h6] at e;injection e with e;have:=(HO95.o.blk hb).2;omega
          case measure=>simp [intOf];omega
        ·obtain rfl:j=cols.length:=AA;go_wp2;go_roundw
         case rel=>exact ⟨k+1,A3,c3,AA,AE,by rw [HL2S.o],by rw [HL2S.o];exact HO3.o,HSP3.o,HX3.o,HO93.o⟩
         case measure=>simp [intOf];omega
      ·obtain rfl:k=cols.length:=AA;have HC7:=Hd (show (kL2 cols rows cols.length).length≤c7 by obtain ⟨hs,_,h1,_⟩:=HO7.o.add;exact h1.cap);go_wp2;go_ret;exact ⟨A7,c7,by rw [←HF.o];rfl,by rw [←HF.o];exact HC7.o,by rw [←HF.o];exact HO7.o.mono fun b _ hb=>hb.1,HX7.o⟩
end Go.Proofs.YtidacnalcdhckaaGreatDoor
