/- Lemmas. No conditions. -/
import Derived.Test.YtidacnalcdhckaaGreatDoorNqE1
import Derived.Deep.MidRow
set_option maxRecDepth 100000
set_option maxHeartbeats 4000000
namespace Go.Proofs.YtidacnalcdhckaaGreatDoor
open Go Go.RowKit Tryz
variable {qP:Prop}

def ArrA(w:World)(g:Nat)(s:List Abs):Prop:=∀ k a,s[k]?=some a→∃ (A:OA) (c:Nat) (D:OA) (e:Nat),w.rangeAt g (k*18) (Ap a A c D e).toList∧g<w.heap.size∧AbM w (fun _=>True) a A c D e
theorem ArrA.ext{w w':World}{g:Nat}{s:List Abs}(h:ArrA w g s)(hx:Ext w w'):ArrA w' g s:=by
 intro k a hk;obtain ⟨A,c,D,e,h1,h2,h3⟩:=h k a hk;exact ⟨A,c,D,e,fun j v hj=>hx.cell (h1 j v hj),Nat.lt_of_lt_of_le h2 hx.size,h3.keep (hx.kept _)⟩
def ArrV(w:World)(g:Nat)(s:List Val):Prop:=∀ k x,s[k]?=some x→∃ (B:OA) (b:Nat) (C:OA) (c:Nat),w.rangeAt g (k*7) ((Vp x B b C c)).toList∧g<w.heap.size∧x.cols.length≤b∧RV w (fun _=>True) 1 x B C
theorem ArrV.ext{w w':World}{g:Nat}{s:List Val}(h:ArrV w g s)(hx:Ext w w'):ArrV w' g s:=by
 intro k a hk;obtain ⟨A,c,D,e,h1,h2,h3,h4⟩:=h k a hk;exact ⟨A,c,D,e,fun j v hj=>hx.cell (h1 j v hj),Nat.lt_of_lt_of_le h2 hx.size,h3,h4.keep (hx.kept _)⟩
theorem qae{A B C:List Value}{n:Nat}(hA:A.length=n)(hB:B.length=n)(i:Nat)(v:Value):(A[i]?=some v→(A++B++C).toArray[0*n+i]?=some v)∧(B[i]?=some v→(A++B++C).toArray[1*n+i]?=some v)∧(C[i]?=some v→(A++B++C).toArray[2*n+i]?=some v):=by
 refine ⟨fun h => ?_,fun h => ?_,fun h => ?_⟩
 all_goals
  have hi:=(List.getElem?_eq_some_iff.1 h).1;rw [List.getElem?_toArray]
 ·rw [List.getElem?_append_left (by rw [List.length_append];omega),List.getElem?_append_left AA,show 0*n+i=i by omega];exact h
 ·rw [List.getElem?_append_left (by rw [List.length_append];omega),List.getElem?_append_right AA,show 1*n+i-A.length=i by omega];exact h
 ·rw [List.getElem?_append_right (by rw [List.length_append];omega),List.length_append,show 2*n+i-(A.length+B.length)=i by omega];exact h
theorem qad{A B:List Value}{n:Nat}(hA:A.length=n)(i:Nat)(v:Value):(A[i]?=some v→(A++B).toArray[0*n+i]?=some v)∧(B[i]?=some v→(A++B).toArray[1*n+i]?=some v):=by
 refine ⟨fun h => ?_,fun h => ?_⟩
 all_goals
  have hi:=(List.getElem?_eq_some_iff.1 h).1;rw [List.getElem?_toArray]
 ·rw [List.getElem?_append_left AA,show 0*n+i=i by omega];exact h
 ·rw [List.getElem?_append_right AA,show 1*n+i-A.length=i by omega];exact h
theorem qay{P:Program}{ops:Array Oper}{rest:List Oper}{o:Oper}{a:Act}{w:World}{Q:Exit→Act→World→Prop}(hgd:o.guard=none)(ty:TypeId)(x:Operand)(ho:o.op=.load ty x)
  (b i:Nat) (hx:a.eval x=.pointer (some ⟨b,i,none⟩)) {cs:List Value} (hc:w.rangeAt b i cs) (hd:(match P.underlying ty with|some (.struct _)|some (.array _ _)=>true|_=>false)=true) (hi:(P.info? ty).map (·.size)=some cs.length)
  (h:wpList P ops Q rest (a.put o.dst (.agg cs.toArray)) w):wpList P ops Q (o::rest) a w:=by
 cases hu:P.underlying ty with
 |none=>rw [hu] at hd;cases hd
 |some d =>
  rw [hu] at hd;refine wpList_load_mid hgd ty x ho b i hx cs d hc hu ?_ hi h;cases d<;>first|rfl|cases hd
theorem qab{w:World}{x y:Val}{B1 C1 B2 C2:OA}{b1 c1 b2 c2:Nat}(h1:RV w (fun _=>True) 1 x B1 C1)(k1:x.cols.length≤b1)(h2:RV w (fun _=>True) 1 y B2 C2)(k2:y.cols.length≤b2) :
  ArrV (w.alloc (.cells (((Vp x B1 b1 C1 c1)).toList++((Vp y B2 b2 C2 c2)).toList).toArray 29)) w.heap.size [x,y]:=by
 have hb:=Blk.new w 29 (((Vp x B1 b1 C1 c1)).toList++((Vp y B2 b2 C2 c2)).toList).toArray;have hk:=((Ext.refl w).alloc (.cells (((Vp x B1 b1 C1 c1)).toList++((Vp y B2 b2 C2 c2)).toList).toArray 29)).kept (fun _=>True);intro k z hz
 match k,hz with
 |0,hz =>
  injection hz with hz;subst hz;exact ⟨B1,b1,C1,c1,fun i v hv=>hb.cell ((qad (n:=7) rfl i v).1 hv),hb.lt,k1,h1.keep hk⟩
 |1,hz =>
  injection hz with hz;subst hz;exact ⟨B2,b2,C2,c2,fun i v hv=>hb.cell ((qad (n:=7) rfl i v).2 hv),hb.lt,k2,h2.keep hk⟩
 |k+2,hz=>simp at hz
theorem qas{n:Nat}{a:Abs}(hz:AbN n a):∃ (k:Int) (s:BA) (p q m:Int),(Cp a).getD Val.zero=Val.mk k s p q m [] []∧s.size≤4294967296:=by
 have h1:(AX a).tx.b.size≤4294967296:=Nat.le_trans hz.can.1 AB;unfold Cp;simp only
 repeat' split
 all_goals first|exact ⟨_,_,_,_,_,rfl,h1⟩|exact ⟨_,_,_,_,_,rfl,AN⟩
def BldA(a b:Abs)(v:Value)(w':World):Prop:=∃ g z,v=.slice (some ⟨g,0,none⟩) 3 3∧AbN 2000 z∧ArrA w' g [z,a,b]
theorem ArrA.kept{w w':World}{g:Nat}{s:List Abs}(h:ArrA w g s)(hx:Kept (fun _=>True) w w'):ArrA w' g s:=by
 intro k a hk;obtain ⟨A,c,D,e,h1,h2,h3⟩:=h k a hk;exact ⟨A,c,D,e,fun j v hj=>(World.cell?_of_block (w:=w) (hx.2 g trivial h2)).trans (h1 j v hj),Nat.lt_of_lt_of_le h2 hx.1,h3.keep hx⟩
theorem qaa{w:World}{a b j:Abs}{A1 D1 A2 D2 A3 D3:OA}{c1 e1 c2 e2 c3 e3:Nat}(h1:AbM w (fun _=>True) a A1 c1 D1 e1)(h2:AbM w (fun _=>True) b A2 c2 D2 e2)(h3:AbM w (fun _=>True) j A3 c3 D3 e3) :
  ArrA (w.alloc (.cells ((Ap a A1 c1 D1 e1).toList++(Ap b A2 c2 D2 e2).toList++(Ap j A3 c3 D3 e3).toList).toArray 39)) w.heap.size [a,b,j]:=by
 have hb:=Blk.new w 39 ((Ap a A1 c1 D1 e1).toList++(Ap b A2 c2 D2 e2).toList++(Ap j A3 c3 D3 e3).toList).toArray;have hk:=((Ext.refl w).alloc (.cells ((Ap a A1 c1 D1 e1).toList++(Ap b A2 c2 D2 e2).toList++(Ap j A3 c3 D3 e3).toList).toArray 39)).kept (fun _=>True);intro k x hx
 match k,hx with
 |0,hx =>
  injection hx with hx;subst hx;exact ⟨A1,c1,D1,e1,fun i v hv=>hb.cell ((qae (n:=18) rfl rfl i v).1 hv),hb.lt,h1.keep hk⟩
 |1,hx =>
  injection hx with hx;subst hx;exact ⟨A2,c2,D2,e2,fun i v hv=>hb.cell ((qae (n:=18) rfl rfl i v).2.1 hv),hb.lt,h2.keep hk⟩
 |2,hx =>
  injection hx with hx;subst hx;exact ⟨A3,c3,D3,e3,fun i v hv=>hb.cell ((qae (n:=18) rfl rfl i v).2.2 hv),hb.lt,h3.keep hk⟩
 |k+3,hx=>simp at hx
theorem Zdb2cbe0b5(h:qP:=by
 exact ⟨_,he,γ,H4A _ γ hx,fun _ _ _ h=>h,A4',c4',D4',e4',rfl,hab.mono fun _ _ _=>trivial⟩):qP:=h
theorem Z28ac71cf2(h:qP:=by
 intro vals γ w' ρ hR hN hp hρ zs zg;have hxx:=hR.o.ext0 (fun _ _ _ h=>h.elim);have HXW:=Hd hxx;clear hxx;refine Qr ?_;refine (DKA 1 x B8z C8z b8 k8 w' (fun _=>True) (HV8.o.keep (HXW.o.kept _)) HC8.o).mono ?_;rintro e1 w3 ⟨A4',c4',D4',e4',he,hab,hx⟩;rw [HO1.o] at he hab;exact Zdb2cbe0b5):qP:=h
theorem Zbd8bac9aa(h:qP:=by
 intro vals γ w18 hR hG;refine Qx ?_;have HE18:=Hd (show Ext w17 w18 from hR.ext0 (fun _ _ _ h=>h.elim));clear hR hG
 go_wp2_with fail
 go_roundw
 case rel=>exact ⟨m+1,by omega,by go_num,HE17.o.trans HE18.o⟩
 case measure=>simp [intOf];omega):qP:=h
theorem AY(h:qP:=by simp [execOp,go_sem]):qP:=h
theorem qaf(l0:List Int)(l1:List Int)(l2:List Int)(a0:OA)(d0:Nat)(a1:OA)(d1:Nat)(a2:OA)(d2:Nat)(w:World)(S:NP)(ht:Txa w)(h0:IntsL w S a0 l0)(k0:l0.length≤d0)(h1:IntsL w S a1 l1)(k1:l1.length≤d1)(h2:IntsL w S a2 l2)(k2:l2.length≤d2) :
  Cl 3 #[.slice a0 l0.length d0,.slice a1 l1.length d1,.slice a2 l2.length d2] w (Ae w true):=by
 obtain ⟨HT,H0,K0,H1,K1,H2,K2⟩:=Hd7 ht h0 k0 h1 k1 h2 k2;clear ht h0 k0 h1 k1 h2 k2
 go_enter func3,ntmps3
 go_wp2_with fail
 refine (BXA w HT.o).mono ?_;rintro ee w1 ⟨rfl,hx⟩;have HX1:=Hd hx;clear hx
 go_wp2_with fail
 refine (Ni l1 a1 d1 w1 S (H1.o.keep (HX1.o.kept _))).mono ?_;rintro ee w2 ⟨x,hrx,B8z,b8,C8z,k8,rfl,hcp,hrv,hx⟩;obtain ⟨HR8,HX2,HE2,HC8,HV8⟩:=Hd5 hrx (HX1.o.trans hx) hx hcp.1 (hrv.mono (T:=(fun _=>True)) fun _ _ _=>trivial);clear hx hrx hcp hrv
 go_wp2_with fail
 refine (Ni l2 a2 d2 w2 S (H2.o.keep (HX2.o.kept _))).mono ?_;rintro ee w3 ⟨y,hrx,B9z,b9,C9z,k9,rfl,hcp,hrv,hx⟩;obtain ⟨HR9,HX3,HE3,HC9,HV9⟩:=Hd5 hrx (HX2.o.trans hx) hx hcp.1 (hrv.mono (T:=(fun _=>True)) fun _ _ _=>trivial);clear hx hrx hcp hrv;have HAN:=Hd (HV8.o.keep (HE3.o.kept _));clear HV8;have HV8:=HAN;clear HAN HE2 HE3 HX2;rename_i J1 hJ1 J2z hJ2;refine hJ2 _ _ ?_;refine qax rfl rfl ?_;obtain ⟨g8,hg8⟩:=eqx w3.heap.size;rw [←hg8];have hb8:=blkV hg8;refine qax rfl rfl ?_;generalize hw4:w3.alloc _=w4 at hb8⊢;obtain ⟨g9,hg9⟩:=eqx w4.heap.size;rw [←hg9];have hb9:=blkV hg9;have hb8':=hb8.keep ((((Ext.refl w4).alloc (.cells Vz 29))).kept _);refine AM rfl 29 _ _ rfl g8 (Vp x B8z b8 C8z k8) rfl rfl 29 _ hb8' GA rfl AD ?_;intro w5 hb8n ho8;have hne:g8≠g9:=(by have:=hb8.lt;omega);have hb9':=hb9.keep (ho8.kept fun b _ e e'=>hne (e'.symm.trans e));refine AM rfl 29 _ _ rfl g9 (Vp y B9z b9 C9z k9) rfl rfl 29 _ hb9' GA rfl AD ?_;intro w6 hb9n ho9;refine hJ1 _ _ ?_;have hx4:Ext w3 w4:=(by rw [←hw4];exact (Ext.refl _).alloc _);have hxs:Ext w3 w6:=((hx4.alloc _).only ho8 (by rw [hg8];exact Al)).only ho9 (by rw [hg9];exact hx4.size);obtain ⟨HX6,HB8,HB9,HAN⟩:=Hd4 (HX3.o.trans hxs) (hb8n.keep (ho9.kept fun b _ e e'=>hne (e.symm.trans e'))) hb9n (HV8.o.keep (hxs.kept _));clear HV8;have HV8:=HAN;clear HAN;have HAN:=Hd (HV9.o.keep (hxs.kept _));clear HV9;have HV9:=HAN;clear HAN hb8 hb8' hb8n hb9 hb9' hb9n ho8 ho9 hne hg8 hg9 hw4 hx4 hxs hJ1 hJ2 HX3
 go_frame
 go_upto_region 3 with fail
 obtain ⟨o1,ho1⟩:=eqx (ofA x);obtain ⟨o2,ho2⟩:=eqx (ofA y);obtain ⟨o3,ho3⟩:=eqx (Fk o1 o2);obtain ⟨HO1,HO2,HO3,HN1,HN2,HN3⟩:=Hd6 ho1.symm ho2.symm ho3.symm (show AbN 300 o1 by rw [ho1];exact Mx x) (show AbN 300 o2 by rw [ho2];exact Mx y) (show AbN 600 o3 by rw [ho3,ho1,ho2];exact (Mx x).join (Mx y));clear ho1 ho2 ho3;refine Qa (fun _ _=>False) [] ?_;refine Qp ?_;refine Qs (FP fun v γ w'=>∃ z,AbN 2000 z∧SvA z v w') (H1A ?_) ?_ ?_
 ·rintro v γ wx γ' wy rr ⟨z,hz,A1,c1,D1,e1,h1,h2⟩;exact ⟨z,hz,A1,c1,D1,e1,h1,h2.keep (rr.keptS fun b _ hb m hm=>hm.elim)⟩
 ·intro vals γ w' ρ hR hN hp hρ zs zg;have hxx:=hR.o.ext0 (fun _ _ _ h=>h.elim);have HXW:=Hd hxx;clear hxx;refine Qr ?_;refine (Xx l0 a0 d0 w' S (H0.o.keep ((HX6.o.trans HXW.o).kept _)) K0.o).mono ?_;rintro e1 w3 ⟨z,hz,A4',c4',D4',e4',he,hab,hx⟩;exact ⟨_,he,γ,H4A _ γ hx,fun _ _ _ h=>h,z,hz,A4',c4',D4',e4',rfl,hab.mono fun _ _ _=>trivial⟩
 refine Qy HB8 Iq GA ?_;refine Qs (FP fun v γ w'=>SvA (o1) v w') (H1A ?_) ?_ ?_
 ·exact Bn
 ·exact Z28ac71cf2
 refine Qy HB8 Iq GA ?_;refine Qs (FP fun v γ w'=>SvA (o1) v w') (H1A ?_) ?_ ?_
 ·exact Bn
 ·exact Z28ac71cf2
 refine Qy HB9 Iq GA ?_;refine Qs (FP fun v γ w'=>SvA (o2) v w') (H1A ?_) ?_ ?_
 ·exact Bn
 ·intro vals γ w' ρ hR hN hp hρ zs zg;have hxx:=hR.o.ext0 (fun _ _ _ h=>h.elim);have HXW:=Hd hxx;clear hxx;refine Qr ?_;refine (DKA 1 y B9z C9z b9 k9 w' (fun _=>True) (HV9.o.keep (HXW.o.kept _)) HC9.o).mono ?_;rintro e1 w3 ⟨A4',c4',D4',e4',he,hab,hx⟩;rw [HO2.o] at he hab;exact Zdb2cbe0b5
 refine Qs (FP fun v γ w'=>SvA (o3) v w') (H1A ?_) ?_ ?_
 ·exact Bn
 ·intro vals γ w' ρ hR hN hp hρ zs zg;obtain ⟨A5,c5,D5,e5,hv5,hab5⟩:=hp.o 5 AB;obtain ⟨A7,c7,D7,e7,hv7,hab7⟩:=hp.o 7 AB;have e28:=(hρ.o 28).trans hv5;have e30:=(hρ.o 30).trans hv7;have hxx:=hR.o.ext0 (fun _ _ _ h=>h.elim);have HXW:=Hd hxx;clear hxx;refine Qr ?_;refine (EVA o1 o2 A5 D5 A7 D7 c5 e5 c7 e7 w' (fun _=>True) hab5.2.2.1 hab5.2.2.2 hab7.2.2.1 hab7.2.2.2 (HN1.o.mono AB) (HN2.o.mono AB)).mono ?_;rintro e1 w3 ⟨A4',c4',D4',e4',he,hab,hx⟩;rw [HO3.o] at he hab;exact Zdb2cbe0b5
 refine Qs (FP fun v γ w'=>BldA o1 o3 v w') (H1A ?_) ?_ ?_
 ·rintro v γ wx γ' wy rr ⟨g,z,h1,h2,h3⟩;exact ⟨g,z,h1,h2,h3.kept (rr.keptS fun b _ hb m hm=>hm.elim)⟩
 ·intro vals γ w' ρ hR hN hp hρ zs zg;obtain ⟨z,hz,A1,c1,D1,e1,hv1,hab1⟩:=hp.o 1 AB;obtain ⟨A3,c3,D3,e3,hv3,hab3⟩:=hp.o 3 AB;obtain ⟨A4,c4,D4,e4,hv4,hab4⟩:=hp.o 8 AB;have e24:=(hρ.o 24).trans hv1;have e26:=(hρ.o 26).trans hv3;have e31:=(hρ.o 31).trans hv4;have HA:=Hd (qaa hab1 hab3 hab4);clear hv1 hv3 hv4 hab1 hab3 hab4;refine Qr ?_;exact ⟨γ,H4A _ γ (exaa _),fun _ _ _ h=>h,_,z,rfl,hz,HA.o⟩
 refine Qg (.I 3) ?_ ?_
 ·intro vals γ w' ρ hR hN hp hρ zs zg;obtain ⟨g,z,hv,-,-⟩:=hp.o 9 AB;have e32:=(hρ.o 32).trans hv;clear hv;refine Qr ?_;exact ⟨γ,LZ.refl _ _ _,fun _ _ _ h=>h,rfl⟩
 refine Qp ?_;intro vals γ w7 hR hG;obtain ⟨gs,ac,v9,hzc,har⟩:=hG 9 AB;refine Qx ?_;simp only [v9];have hxx:=hR.ext0 (fun _ _ _ h=>h.elim);have HX7:=Hd (HX6.o.trans hxx);have HAN:=Hd (HB8.o.keep (hxx.kept _));clear HB8;have HB8:=HAN;clear HAN;have HAN:=Hd (HB9.o.keep (hxx.kept _));clear HB9;have HB9:=HAN;clear HAN;have HAN:=Hd (HV8.o.keep (hxx.kept _));clear HV8;have HV8:=HAN;clear HAN;have HAN:=Hd (HV9.o.keep (hxx.kept _));clear HV9;have HV9:=HAN;clear HAN;obtain ⟨s,hs⟩:=eqx ([ac,o1,o3]);rw [←hs] at har;have HAR:=Hd har;have HSN:=Hd (show ∀ k a,s[k]?=some a→AbN 10000 a from fun k a hk=>by
  have hm:=List.mem_of_getElem? hk;rw [hs] at hm;simp only [List.mem_cons,List.not_mem_nil,or_false] at hm
  rcases hm with rfl|rfl|rfl
  ·exact hzc.mono AB
  ·exact HN1.o.mono AB
  ·exact HN3.o.mono AB)
 have HSL:=Hd (show s.length=3 by rw [hs];rfl);clear hR hG hzc har hs v9 hxx HX6;go_wp2
 go_loopw [34] (fun i wr=>∃ k:Nat,k≤3∧i=.I k∧Ext w7 wr) (fun i _=>3-(intOf i).toNat)
 case atStart=>exact ⟨0,AA,rfl,Ext.refl _⟩
 case round =>
  obtain ⟨k,hk,rfl,hext⟩:=hrel;obtain ⟨w8,rfl⟩:=eqx wr;have HE8:=Hd hext;have HX8:=Hd (HX7.o.trans hext);clear hext;by_cases hlt:k<3
  ·obtain ⟨a,ha⟩:∃ a,s[k]?=some a:=⟨s[k]'(by rw [HSL.o];exact hlt),List.getElem?_eq_getElem _⟩;obtain ⟨A11,c11,D11,e11,hra,hgl,hma⟩:=HAR.o.ext HE8.o k a ha;obtain ⟨HZ11,HRAz,HMA⟩:=Hd3 (HSN.o k a ha) hra hma;clear hra hma ha;have hq:(k:Int)<3:=AA
   go_upto_region 5 with fail
   refine wp_region_lit ?_;refine AZ rfl (.pointer (some ⟨gs,k*18,none⟩)) (w':=w8) (by simp [execOp,go_sem,hq]) ?_;refine Qt ?_;refine qay rfl 39 _ rfl gs (k*18) rfl HRAz.o AS AH ?_;refine Qt ?_;refine Ag rfl rfl ?_;obtain ⟨g11,hg⟩:=eqx w8.heap.size;rw [←hg];refine AM rfl 39 _ _ rfl g11 (Ap a A11 c11 D11 e11) rfl rfl 39 _ (GK hg) AH rfl AD ?_;intro w9 hb ho
   go_upto_region 6 with fail
   have hxo:Ext w8 w9:=(exaa w8).only ho Ez;obtain ⟨HX9,HE9,HB11,HA11⟩:=Hd4 (HX8.o.trans hxo) (HE8.o.trans hxo) hb (HMA.o.keep (hxo.kept _));clear hb ho hxo hg hgl HMA HRAz;obtain ⟨so,hso⟩:=eqx (Cp a);obtain ⟨sk,ss,sa,sb,sn,hsv,hss⟩:=qas HZ11.o;rw [←hso] at hsv;obtain ⟨ok,hok⟩:=eqx so.isSome;obtain ⟨HSO,HSV,HSS,HOK⟩:=Hd4 hso.symm hsv hss hok.symm;clear hso hsv hss hok;refine wp_region_lit ?_;refine AJ rfl 39 _ rfl g11 rfl HB11.o AS AH ?_
   go_wp2_with fail
   refine (JS a A11 D11 c11 e11 w9 (fun _=>True) HA11.o.2.2.1 HA11.o.2.2.2 (HT.o.ext HX9.o).tens (HZ11.o.mono AB)).mono ?_;rintro ee w10 ⟨he,hx⟩;have he':ee=.returned (.tuple #[.agg #[.I sk,.string ss,.I sa,.I sb,.I sn,.slice none 0 0,.slice none 0 0],.bool ok]):=(by rw [he,HSO.o,HOK.o,HSV.o];rfl);subst he';clear he
   go_upto_region 7 with fail
   obtain ⟨g12,hg⟩:=eqx w10.heap.size;rw [←hg];obtain ⟨w11,hw⟩:=eqx (w10.alloc (.cells #[.I sk,.string ss,.I sa,.I sb,.I sn,.slice none 0 0,.slice none 0 0] 29));rw [←hw];have hx2:Ext w9 w11:=(by rw [hw];exact hx.alloc _);obtain ⟨HB12,HX11,HE11,HAN⟩:=Hd4 (show Blk w11 g12 29 #[.I sk,.string ss,.I sa,.I sb,.I sn,.slice none 0 0,.slice none 0 0] by rw [hw,hg];exact Blk.new _ _ _) (HX9.o.trans hx2) (HE9.o.trans hx2) (HB11.o.keep (hx2.kept _));clear HB11;have HB11:=HAN;clear HAN;have HAN:=Hd (HA11.o.keep (hx2.kept _));clear HA11;have HA11:=HAN;clear HAN hx hx2 hw hg HX9 HE9;refine wp_region_lit ?_;refine AJ rfl 39 _ rfl g11 rfl HB11.o AS AH ?_
   go_wp2_with fail
   refine (qam a A11 D11 c11 e11 w11 (fun _=>True) HA11.o.2.2.1 HA11.o.2.2.2 (HZ11.o.mono AB)).mono ?_;rintro ee w12 ⟨he,hx⟩;have he':ee=.returned (.tuple #[.agg #[.I sk,.string ss,.I sa,.I sb,.I sn,.slice none 0 0,.slice none 0 0],.bool ok]):=(by rw [he,HSO.o,HOK.o,HSV.o];rfl);subst he';clear he
   go_upto_region 8 with fail
   obtain ⟨g14,hg⟩:=eqx w12.heap.size;rw [←hg];obtain ⟨w13,hw⟩:=eqx (w12.alloc (.cells #[.I sk,.string ss,.I sa,.I sb,.I sn,.slice none 0 0,.slice none 0 0] 29));rw [←hw];have hx2:Ext w11 w13:=(by rw [hw];exact hx.alloc _);obtain ⟨HB14,HX13,HE13,HAN⟩:=Hd4 (show Blk w13 g14 29 #[.I sk,.string ss,.I sa,.I sb,.I sn,.slice none 0 0,.slice none 0 0] by rw [hw,hg];exact Blk.new _ _ _) (HX11.o.trans hx2) (HE11.o.trans hx2) (HB11.o.keep (hx2.kept _));clear HB11;have HB11:=HAN;clear HAN;have HAN:=Hd (HA11.o.keep (hx2.kept _));clear HA11;have HA11:=HAN;clear HAN;have HAN:=Hd (HB12.o.keep (hx2.kept _));clear HB12;have HB12:=HAN;clear HAN hx hx2 hw hg HX11 HE11;obtain ⟨HB8N,HB9N,HV8N,HV9N,HRV,HCAP⟩:=Hd6 (HB8.o.keep (HE13.o.kept _)) (HB9.o.keep (HE13.o.kept _)) (HV8.o.keep (HE13.o.kept _)) (HV9.o.keep (HE13.o.kept _)) (OJ w13 (fun _=>True) 1 sk ss sa sb sn HSS.o none none) (show (Val.mk sk ss sa sb sn [] []).cols.length≤0 from Al)
   skip
   refine wp_region_lit ?_;refine AZ rfl (.bool ok) (w':=w13) AY ?_;refine Qt ?_;refine AZ rfl (.bool ok) (w':=w13) AY ?_;refine Qt ?_;refine AZ rfl (.bool false) (w':=w13) AY ?_;refine Qt ?_;refine AZ rfl (.bool false) (w':=w13) AY ?_;refine Qt ?_;refine Be rfl 29 _ rfl g12 rfl (HB12.o.keep ((Ext.refl w13).kept _)) Iq GA ?_;refine Be rfl 29 _ rfl g14 rfl (HB14.o.keep ((Ext.refl w13).kept _)) Iq GA ?_
   go_wp2_with fail
   refine (Dn 1 (Val.mk sk ss sa sb sn [] []) (Val.mk sk ss sa sb sn [] []) none none none none 0 0 0 0 w13 (fun _=>True) (fun _=>True) (HRV.o.keep ((Ext.refl w13).kept _)) (HRV.o.keep ((Ext.refl w13).kept _))).mono ?_;rintro ee w14 ⟨he,hx⟩;rw [decide_eq_true rfl] at he;subst he;have HX14:=Hd (HX13.o.trans hx);have HE14:=Hd ((Ext.refl w13).trans hx);clear hx;rename_i K1 hK1 K2 hK2;refine hK2 _ _ ?_;clear hK2;refine AZ rfl (.bool false) (w':=w14) AY ?_;refine Qt ?_;refine AZ rfl (.bool false) (w':=w14) AY ?_;refine Qt ?_
   go_upto_region 10 with fail
   refine wp_region_lit ?_;refine AJ rfl 29 _ rfl g8 rfl (HB8N.o.keep (HE14.o.kept _)) Iq GA ?_;refine AJ rfl 29 _ rfl g9 rfl (HB9N.o.keep (HE14.o.kept _)) Iq GA ?_;go_wp2;obtain ⟨gv,hg⟩:=eqx w14.heap.size;rw [←hg];generalize hw:w14.alloc _=w15;have HAV:=Hd (show ArrV w15 gv [x,y] by rw [←hw,hg];exact qab (HV8N.o.keep (HE14.o.kept _)) HC8.o (HV9N.o.keep (HE14.o.kept _)) HC9.o);have HX15:=Hd (show Ext w w15 by rw [←hw];exact HX14.o.alloc _);have hx3:Ext w13 w15:=(by rw [←hw];exact HE14.o.alloc _);have HE15:=Hd (HE13.o.trans hx3);have HAN:=Hd (HB11.o.keep (hx3.kept _));clear HB11;have HB11:=HAN;clear HAN;have HAN:=Hd (HA11.o.keep (hx3.kept _));clear HA11;have HA11:=HAN;clear HAN;have HAN:=Hd (HB12.o.keep (hx3.kept _));clear HB12;have HB12:=HAN;clear HAN;have HRV2:=Hd (OJ w15 (fun _=>True) 1 sk ss sa sb sn HSS.o none none);clear hw hg hx3 HB14 HRV HX13 HX14 HE13 HE14 HB8N HB9N HV8N HV9N
   go_loopw [61] (fun i wr=>∃ m:Nat,m≤2∧i=.I m∧Ext w15 wr) (fun i _=>2-(intOf i).toNat)
   case atStart=>exact ⟨0,AA,rfl,Ext.refl _⟩
   case round =>
    obtain ⟨m,hm,rfl,hext⟩:=hrel;obtain ⟨w16,rfl⟩:=eqx wr;have HE16:=Hd hext;have HX16:=Hd (HX15.o.trans hext);clear hext;by_cases hlm:m<2
    ·obtain ⟨z,hz⟩:∃ z,[x,y][m]?=some z:=⟨[x,y][m]'hlm,List.getElem?_eq_getElem _⟩;obtain ⟨Bzz,bz,Czz,kz,hra,hgl,hcz,hvz⟩:=HAV.o.ext HE16.o m z hz;have HRZ:=Hd (show BC z=true by
      have hm:=List.mem_of_getElem? hz;simp only [List.mem_cons,List.not_mem_nil,or_false] at hm
      rcases hm with rfl|rfl
      ·exact HR8.o
      ·exact HR9.o)
     obtain ⟨HRAz,HVZ,HCZ⟩:=Hd3 hra hvz hcz;clear hra hvz hcz hz hgl;have hq2:(m:Int)<2:=AA
     go_upto_region 12 with fail
     refine wp_region_lit ?_;refine AZ rfl (.pointer (some ⟨gv,m*7,none⟩)) (w':=w16) (by simp [execOp,go_sem,hq2]) ?_;refine Qt ?_;refine qay rfl 29 _ rfl gv (m*7) rfl HRAz.o Iq GA ?_;refine Qt ?_;refine qax rfl rfl ?_;obtain ⟨g17,hg⟩:=eqx w16.heap.size;rw [←hg];refine AM rfl 29 _ _ rfl g17 (Vp z Bzz bz Czz kz) rfl rfl 29 _ (blkV hg) GA rfl AD ?_;intro w17 hb ho
     go_upto_region 13 with fail
     have hxo:Ext w16 w17:=(exaa w16).only ho Ez;obtain ⟨HX17,HE17,HB17,HVZ2⟩:=Hd4 (HX16.o.trans hxo) (HE16.o.trans hxo) hb (HVZ.o.keep (hxo.kept _));obtain ⟨HB11Z,HA11Z,HB12Z,HRV3⟩:=Hd4 (HB11.o.keep (HE17.o.kept _)) (HA11.o.keep (HE17.o.kept _)) (HB12.o.keep (HE17.o.kept _)) (OJ w17 (fun _=>True) 1 sk ss sa sb sn HSS.o none none);clear hb ho hxo hg HVZ HRAz;obtain ⟨p,hp⟩:=eqx (decide (z=(Val.mk sk ss sa sb sn [] [])));have HQ:=Hd hp.symm;clear hp;cases so
     ·obtain rfl:ok=false:=by rw [←HOK.o];rfl
      refine Qa (fun _ _=>False) [] ?_
      iterate 2 refine Qp ?_
      iterate 7 refine Qn ?_
      refine Qp ?_;exact Zbd8bac9aa
     ·rename_i sv;obtain rfl:ok=true:=by rw [←HOK.o];rfl
      have HP:=Hd (show AW a z=p by
       have h1:=qat HSO.o HRZ.o;have h2:sv=(Val.mk sk ss sa sb sn [] []):=HSV.o;rw [h2] at h1;rw [←HQ.o,Bool.eq_iff_iff,h1,decide_eq_true_eq])
      refine Qa (fun _ _=>False) [] ?_
      iterate 2 refine Qp ?_
      refine Qy HB11Z AS AH ?_;refine Qy HB17 Iq GA ?_;refine Qg (.bool p) ?_ ?_
      ·intro vals γ w' ρ hR hN hp hρ zs zg;have hxx:=hR.o.ext0 (fun _ _ _ h=>h.elim);have HXW:=Hd hxx;clear hxx;refine Qr ?_;refine (B3 1 (a) z A11 D11 Bzz Czz c11 e11 bz kz w' (fun _=>True) (fun _=>True) (HA11Z.o.keep (HXW.o.kept _)).2.2.1 (HA11Z.o.keep (HXW.o.kept _)).2.2.2 (HVZ2.o.keep (HXW.o.kept _)) HCZ.o (HT.o.ext (HX17.o.trans HXW.o)).tens (HZ11.o.mono AB)).mono ?_;rintro e1 w3 ⟨he,hx⟩;rw [HP.o] at he;exact DP
      refine Qy HB17 Iq GA ?_;refine Qy HB12Z Iq GA ?_;refine Qg (.bool p) ?_ ?_
      ·intro vals γ w' ρ hR hN hp hρ zs zg;have hxx:=hR.o.ext0 (fun _ _ _ h=>h.elim);have HXW:=Hd hxx;clear hxx;refine Qr ?_;refine (Dn 1 z (Val.mk sk ss sa sb sn [] []) Bzz Czz none none bz kz 0 0 w' (fun _=>True) (fun _=>True) (HVZ2.o.keep (HXW.o.kept _)) (HRV3.o.keep (HXW.o.kept _))).mono ?_;rintro e1 w3 ⟨he,hx⟩;rw [HQ.o] at he;exact DP
      iterate 2 refine Qp ?_
      exact Zbd8bac9aa
    ·obtain rfl:m=2:=AA
     go_wp2_with fail
     go_roundw
     case rel =>
      repeat apply Exists.intro
      exact ⟨⟨k+1,AA,AE,HE15.o.trans HE16.o⟩,rfl⟩
     case measure=>simp [intOf];omega
  ·obtain rfl:k=3:=AA
   go_wp2_with fail
   go_ret;exact ⟨rfl,HX8.o⟩
end Go.Proofs.YtidacnalcdhckaaGreatDoor
