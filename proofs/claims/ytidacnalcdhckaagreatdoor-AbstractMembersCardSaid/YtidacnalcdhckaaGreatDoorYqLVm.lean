/- Lemmas. No conditions. -/
import Derived.Test.YtidacnalcdhckaaGreatDoorYq32
import Derived.Test.YtidacnalcdhckaaGreatDoorYq34
set_option maxRecDepth 100000
set_option maxHeartbeats 4000000
namespace Go.Proofs.YtidacnalcdhckaaGreatDoor
open Go Go.RowKit Tryz
variable {qP:Prop}{a:Abs}{v:Value}{w w':World}{γ γ':Gh}

theorem linUpon.mono{P:Program}{K K':Value->World->Prop}(h:∀ v w,K v w->K' v w):∀ {r:Result Next},linUpon P K r->linUpon P K' r
 |.ok (.value _) _,k=>h _ _ k
 |.ok .skip _,k=>h _ _ k
 |.ok (.enter _ _) _,k=>Calls.mono k λ_ _ ⟨v,he,hk⟩=>⟨v,he,h _ _ hk⟩
def LvA(a:Abs)(v:Value)(γ:Gh)(w':World):Prop:=∃ (A:OA) (c:Nat) (D:OA) (e:Nat),v=(Aq a A c D e)/\AbM w' (Ec γ) a A c D e
theorem AbM.lx{A:OA}{c:Nat}{D:OA}{e:Nat}(r:LX (λ_ _=>False) γ w γ' w')(h2:AbM w (Ec γ) a A c D e):AbM w' (Ec γ') a A c D e :=
 ((h2.mono (T:=λb=>Ec γ b/\Ec γ' b) λ_b hb hf=>⟨hf,r.free hb hf⟩).keep (r.keptS λ_b _ hf=>⟨hf.1,λ_m hm=>hm.elim⟩)).mono λ_b _ hf=>hf.2
theorem BJA(a:Abs):∀ v γ w γ' w',LX (λ_ _=>False) γ w γ' w'->LvA a v γ w->LvA a v γ' w':=by
 rintro v γ w γ' w' r ⟨A,c,D,e,h1,h2⟩;exact ⟨A,c,D,e,h1,h2.lx r⟩
theorem BMA{wa:World}{e:Ending}(hr:LX (λ_ _=>False) gh0 wa γ w)(h:Eh w (λb=>b<wa.heap.size) a e w'):∃ v,e=.returned v/\LX (λ_ _=>False) γ w γ w'/\LvA a v γ w':=by
 obtain ⟨A,c,D,e',he,hab,hx⟩:=h;refine ⟨_,he,IDA _ γ hx,A,c,D,e',rfl,hab.mono λb _ hb => ?_⟩
 rcases hb with hb|hb
 ·exact hr.free hb (Nu b)
 ·rintro ⟨k,hk⟩;have:=hr.inb0 k b hk;omega
def LvB(a:Abs)(v:Value)(γ:Gh)(w':World):Prop:=∃ (A:OA) (c:Nat) (D:OA) (e:Nat),VarXI (λ_ _=>False) 39 v (Ap a A c D e) γ w'/\AbM w' (Ec γ) a A c D e
theorem BKA(r:LX (λ_ _=>False) γ w γ' w')(h:LvB a v γ w):LvB a v γ' w':=by
 obtain ⟨A,c,D,e,h1,h2⟩:=h;exact ⟨A,c,D,e,VarXI.lx r h1,h2.lx r⟩
theorem LvB.o(h:LvB a v γ w):∃ (g:Nat) (A:OA) (c:Nat) (D:OA) (e:Nat),v=.pointer (some ⟨g,0,none⟩)/\Blk w g 39 (Ap a A c D e)/\AbM w (λ_=>True) a A c D e:=by
 obtain ⟨A,c,D,e,⟨g,h1,h2,-,-⟩,h4⟩:=h;exact ⟨g,A,c,D,e,h1,h2,h4.mono λ_ _ _=>trivial⟩
theorem LvB.put{o:Oper}{ρ:Operand->Value}{l:List (Nat × List Nat)}{s k:Nat}{p x:Value}{xp xv:Operand}(ho:o.op=.store 39 xp xv)(hp:ρ xp=p)(hv:ρ xv=x)(hV:VarX (λ_ _=>False) k 39 18 p γ w)(hs:k∈alF l s)(hN:LM l s γ)(hA:LvA a x γ w)
  (hl:(l.all λq => !(q.2.contains k)||decide (q.1=s)||(AV o).contains q.1)=true):linUpon prog (λ_ w'=>∃ γ',LX (λ_ _=>False) γ w γ' w'/\(∀ j,j≠s->j ∉ AV o->LM l j γ->LM l j γ')/\LvB a p γ' w') ((execOp ρ o).run prog w):=by
 obtain ⟨A,c,D,e,hx,hab⟩:=hA;obtain ⟨g,⟨cl⟩,hq,hcs,hb,hk,hst⟩:=H8A hV hs hN;refine BY 39 ho (hp.trans hq) (hv.trans hx) hb AH hcs AD ?_;intro w4 hb4 ho4;obtain ⟨g1,g2⟩:=hst _ (Ap a A c D e) ho4 hb4 rfl;exact ⟨γ.put k none,g1,LM.done hl (.inl ⟨g,hk⟩),A,c,D,e,g2,hab.lx g1⟩

theorem P4(h:qP:=by
 intro e1 w3 hret;obtain ⟨v3,he,hl,hv⟩:=BMA HR.o hret;exact ⟨v3,he,γ,hl,λ_ _ _ h=>h,hv⟩):qP:=h
theorem Pu(h:qP:=by
 intro l γ w1 γ' w2 rr h
 match l,h with
 |[],_=>trivial
 |[_],_=>trivial
 |[p,q],h=>exact BKA rr h
 | _::_::_::_,_=>trivial):qP:=h
theorem PX(h:qP:=by
 rintro e1 w3 ⟨A4',c4',D4',e4',he,hab,hx⟩;exact ⟨_,he,γ,H4A _ γ hx,λ_ _ _ h=>h,A4',c4',D4',e4',rfl,hab.mono λ_ _ _=>trivial⟩):qP:=h
theorem O1(h:qP:=by
 intro vals γ w' ρ hR hN hp hρ zs zg;have hxx:=hR.o.ext0 (λ_ _ _ h=>h.elim);have HXW:=Hd hxx;clear hxx;refine Qr ?_;refine (KH (aj) (ac) A13 D13 A12 D12 c13 e13 c12 e12 w' (λ_=>True) (HA13.o.keep (HXW.o.kept _)).2.2.1 (HA13.o.keep (HXW.o.kept _)).2.2.2 (HA12.o.keep (HXW.o.kept _)).2.2.1 (HA12.o.keep (HXW.o.kept _)).2.2.2 (HT.o.ext (HX16.o.trans HXW.o)).tens (HZ13.o.mono (by decide)) (HZ12.o.mono (by decide))).mono ?_;exact PX):qP:=h
theorem R7(l0:List Int)(l1:List Int)(l2:List Int)(a0:OA)(d0:Nat)(a1:OA)(d1:Nat)(a2:OA)(d2:Nat)(w:World)(S:NP)(ht:Txa w)(h0:IntsL w S a0 l0)(k0:l0.length<=d0)(h1:IntsL w S a1 l1)(k1:l1.length<=d1)(h2:IntsL w S a2 l2)(k2:l2.length<=d2) :
  Cl 7 #[.slice a0 l0.length d0,.slice a1 l1.length d1,.slice a2 l2.length d2] w (Ae w true):=by
 obtain ⟨HT,H0,K0,H1,K1,H2,K2⟩:=Hd7 ht h0 k0 h1 k1 h2 k2;clear ht h0 k0 h1 k1 h2 k2
 go_enter func7,ntmps7
 go_wp2_with fail
 refine (BXA w HT.o).mono ?_;rintro ee w1 ⟨rfl,hx⟩;have HX1:=Hd hx;clear hx
 go_wp2_with fail
 refine (Ni l0 a0 d0 w1 S (H0.o.keep (HX1.o.kept _))).mono ?_;rintro ee w2 ⟨x,f8,B8,b8,C8,k8,rfl,hcp,hrv,hx⟩;obtain ⟨HR8,HX2,HE2,f7,HV8⟩:=Hd5 f8 (HX1.o.trans hx) hx hcp.1 (hrv.mono (T:=(λ_=>True)) λ_ _ _=>trivial);clear hx f8 hcp hrv
 go_wp2_with fail
 refine (Ni l1 a1 d1 w2 S (H1.o.keep (HX2.o.kept _))).mono ?_;rintro ee w3 ⟨y,f8,B9,b9,C9,k9,rfl,hcp,hrv,hx⟩;obtain ⟨HR9,HX3,HE3,HC9,b4⟩:=Hd5 f8 (HX2.o.trans hx) hx hcp.1 (hrv.mono (T:=(λ_=>True)) λ_ _ _=>trivial);clear hx f8 hcp hrv;have O:=Hd (HV8.o.keep (HE3.o.kept _));clear HV8;have HV8:=O;clear O HE2 HE3 HX2;rename_i J1 hJ1 J2 hJ2;refine hJ2 _ _ ?_;refine KZ rfl rfl ?_;obtain ⟨g8,hg8⟩:=eqx w3.heap.size;rw [<-hg8];have hb8:=Wa hg8;refine KZ rfl rfl ?_;generalize hw4:w3.alloc _=w4 at hb8|-;obtain ⟨g9,hg9⟩:=eqx w4.heap.size;rw [<-hg9];have hb9:=Wa hg9;have hb8':=hb8.keep ((((Ext.refl w4).alloc (.cells Vz 29))).kept _);refine AM rfl 29 _ _ rfl g8 (Vp x B8 b8 C8 k8) rfl rfl 29 _ hb8' GA rfl AD ?_;intro w5 hb8n ho8;have hne:g8≠g9:=(by have:=hb8.lt;omega);have hb9':=hb9.keep (ho8.kept λb _ e e'=>hne (e'.symm.trans e));refine AM rfl 29 _ _ rfl g9 (Vp y B9 b9 C9 k9) rfl rfl 29 _ hb9' GA rfl AD ?_;intro w6 hb9n ho9;refine hJ1 _ _ ?_;have hx4:Ext w3 w4:=(by rw [<-hw4];exact (Ext.refl _).alloc _);have hxs:Ext w3 w6:=((hx4.alloc _).only ho8 (by rw [hg8];exact Al)).only ho9 (by rw [hg9];exact hx4.size);obtain ⟨HX6,a8,b0,O⟩:=Hd4 (HX3.o.trans hxs) (hb8n.keep (ho9.kept λb _ e e'=>hne (e.symm.trans e'))) hb9n (HV8.o.keep (hxs.kept _));clear HV8;have HV8:=O;clear O;have O:=Hd (b4.o.keep (hxs.kept _));clear b4;have b4:=O;clear O hb8 hb8' hb8n hb9 hb9' hb9n ho8 ho9 hne hg8 hg9 hw4 hx4 hxs hJ1 hJ2 HX3
 go_frame
 go_upto_region 3 with fail
 refine Qb (fun|9=>[6,9]|10=>[7,10]|11=>[8,11]|i=>[i]) (λ_ _=>False) [(9,[6]),(10,[7]),(11,[8])] ?_;refine Qy a8 Iq GA ?_;refine Qs (FP (LvA (ofA x))) (H1A (BJA _)) ?_ ?_
 ·intro vals γ w' ρ hR hN hp hρ zs zg;have HR:=hR;have hxx:=hR.o.ext0 (λ_ _ h=>h.elim);have HXW:=Hd hxx;clear hxx;refine Qr ?_;refine (C5 1 x B8 C8 b8 k8 w' (λb=>b<w6.drew.heap.size) ((HV8.o.mono (T:=λb=>b<w6.drew.heap.size) λ_ h _=>h).keep (HXW.o.kept _)) f7.o (HT.o.ext (HX6.o.trans HXW.o)).tens).mono ?_;exact P4
 refine Qy b0 Iq GA ?_;refine Qs (FP (LvA (ofA y))) (H1A (BJA _)) ?_ ?_
 ·intro vals γ w' ρ hR hN hp hρ zs zg;have HR:=hR;have hxx:=hR.o.ext0 (λ_ _ h=>h.elim);have HXW:=Hd hxx;clear hxx;refine Qr ?_;refine (C5 1 y B9 C9 b9 k9 w' (λb=>b<w6.drew.heap.size) ((b4.o.mono (T:=λb=>b<w6.drew.heap.size) λ_ h _=>h).keep (HXW.o.kept _)) HC9.o (HT.o.ext (HX6.o.trans HXW.o)).tens).mono ?_;exact P4
 refine Qp ?_;refine Qs (FP λv γ w'=>∃ z,AbN 2000 z/\LvA z v γ w') (H1A λv γ w γ' w' r h => ?_) ?_ ?_
 ·obtain ⟨z,hz,h⟩:=h;exact ⟨z,hz,BJA _ _ _ _ _ _ r h⟩
 ·intro vals γ w' ρ hR hN hp hρ zs zg;have HR:=hR;have hxx:=hR.o.ext0 (λ_ _ h=>h.elim);have HXW:=Hd hxx;clear hxx;refine Qr ?_;refine (Xx l2 a2 d2 w' S (H2.o.keep ((HX6.o.trans HXW.o).kept _)) K2.o).mono ?_;rintro e1 w3 ⟨z,hz,hret⟩;obtain ⟨v3,he,hl,hv⟩:=BMA (a:=z) (e:=e1) (w':=w3) HR.o (by obtain ⟨A,c,D,e,h1,h2,h3⟩:=hret;exact ⟨A,c,D,e,h1,h2.mono λb _ hb=>hb.elim (λh=>h.elim) .inr,h3⟩);exact ⟨v3,he,γ,hl,λ_ _ _ h=>h,z,hz,hv⟩
 refine Qs (FP (VarX (λ_ _=>False) 6 39 18)) (H1A IAA) ?_ ?_
 ·intro vals γ w' ρ hR hN hp hρ zs zg;have HR:=hR;have HN:=hN;refine Qr ?_;exact ⟨γ.put 6 (some w'.heap.size),LX.new AB (HN.o.2 AB ⟨9,AB⟩) _ _,INA,VarX.new HR.o.inb0 rfl (λ_ _ h=>h.elim)⟩
 refine Qs (FP (VarX (λ_ _=>False) 7 39 18)) (H1A IAA) ?_ ?_
 ·intro vals γ w' ρ hR hN hp hρ zs zg;have HR:=hR;have HN:=hN;refine Qr ?_;exact ⟨γ.put 7 (some w'.heap.size),LX.new AB (HN.o.2 AB ⟨10,AB⟩) _ _,INA,VarX.new HR.o.inb0 rfl (λ_ _ h=>h.elim)⟩
 refine Qs (FP (VarX (λ_ _=>False) 8 39 18)) (H1A IAA) ?_ ?_
 ·intro vals γ w' ρ hR hN hp hρ zs zg;have HR:=hR;have HN:=hN;refine Qr ?_;exact ⟨γ.put 8 (some w'.heap.size),LX.new AB (HN.o.2 AB ⟨11,AB⟩) _ _,INA,VarX.new HR.o.inb0 rfl (λ_ _ h=>h.elim)⟩
 refine Chain.step (λvl γ w'=>match vl with|[p,_]=>LvB (ofA x) p γ w'|_=>True) AG ?_ ?_ ?_
 ·exact Pu
 ·intro vals γ w' ρ hR hN hp hρ hc hf hg;refine ⟨rfl,?_⟩;have hA:=hp 1 AB;exact LvB.put rfl (hρ 10) (hρ 21) (hp 6 AB) (l:=[(9,[6]),(10,[7]),(11,[8])]) (s:=9) AB hN hA AB
 refine Chain.step (λvl γ w'=>match vl with|[p,_]=>LvB (ofA y) p γ w'|_=>True) AG ?_ ?_ ?_
 ·exact Pu
 ·intro vals γ w' ρ hR hN hp hρ hc hf hg;refine ⟨rfl,?_⟩;have hA:=hp 3 AB;exact LvB.put rfl (hρ 11) (hρ 23) (hp 7 AB) (l:=[(9,[6]),(10,[7]),(11,[8])]) (s:=10) AB hN hA AB
 refine Chain.step (λvl γ w'=>match vl with|[p,_]=>∃ z,AbN 2000 z/\LvB z p γ w'|_=>True) AG ?_ ?_ ?_
 ·intro l γ w1 γ' w2 rr h
  match l,h with
  |[],_=>trivial
  |[_],_=>trivial
  |[p,q],h=>exact (by obtain ⟨z,hz,h⟩:=h;exact ⟨z,hz,BKA rr h⟩)
  |_::_::_::_,_=>trivial
 ·intro vals γ w' ρ hR hN hp hρ hc hf hg;refine ⟨rfl,?_⟩;obtain ⟨z,hz,hA⟩:=hp 5 AB;refine linUpon.mono (λv w4 h => ?_) (LvB.put rfl (hρ 12) (hρ 25) (hp 8 AB) (l:=[(9,[6]),(10,[7]),(11,[8])]) (s:=11) AB hN hA AB);obtain ⟨γ',h1,h2,h3⟩:=h;exact ⟨γ',h1,h2,z,hz,h3⟩
 intro vals γ w7 hR hG;obtain ⟨g10,A10,c10,D10,e10,v6,hb10,hab10⟩:=LvB.o (hG 9 AB);obtain ⟨g11,A11,c11,D11,e11,v7,hb11,hab11⟩:=LvB.o (hG 10 AB);obtain ⟨ac,hzc,hlc⟩:=hG 11 AB;obtain ⟨g12,A12,c12,D12,e12,v8,hb12,hab12⟩:=LvB.o hlc;refine Qx ?_;simp only [v6,v7,v8];have hxx:=hR.ext0 (λ_ _ h=>h.elim);obtain ⟨HX7,HB10,b5,a9,b3,Y,HA12,HZ12⟩:=Hd8 (HX6.o.trans hxx) hb10 hab10 hb11 hab11 hb12 hab12 hzc;obtain ⟨f4,f6,O⟩:=Hd3 (Mx x) (Mx y) (a8.o.keep (hxx.kept _));clear a8;have a8:=O;clear O;have O:=Hd (b0.o.keep (hxx.kept _));clear b0;have b0:=O;clear O;have O:=Hd (HV8.o.keep (hxx.kept _));clear HV8;have HV8:=O;clear O;have O:=Hd (b4.o.keep (hxx.kept _));clear b4;have b4:=O;clear O hR hG hlc hzc v6 v7 v8 hxx HX6 hb10 hb11 hb12 hab10 hab11 hab12;obtain ⟨aa,haa⟩:=eqx (ofA x);obtain ⟨ab,hab⟩:=eqx (ofA y);rw [<-haa] at HB10 b5 f4;rw [<-hab] at a9 b3 f6;have HOA:=Hd haa;have HOB:=Hd hab;clear haa hab
 go_upto_region 4 with fail
 refine wp_region_lit ?_;refine AJ rfl 39 _ rfl g10 rfl HB10.o AS AH ?_;refine AJ rfl 39 _ rfl g11 rfl a9.o AS AH ?_;refine Qt ?_
 go_wp2_with fail
 refine (Hn aa ab A10 D10 A11 D11 c10 e10 c11 e11 w7 (λ_=>True) b5.o.2.2.1 b5.o.2.2.2 b3.o.2.2.1 b3.o.2.2.2 (HT.o.ext HX7.o).tens (f4.o.mono AB) (f6.o.mono AB)).mono ?_;rintro ee wt ⟨A13,c13,D13,e13,rfl,hab,f9⟩;have HZ13:=Hd (f4.o.join f6.o);obtain ⟨aj,hca⟩:=eqx (Fk aa ab);rw [<-hca] at hab HZ13|-;have HAJ:=Hd hca;clear hca;rename_i K1 hK1 K2 hK2;refine hK2 _ _ ?_;refine Ag rfl rfl ?_;obtain ⟨f2,hg⟩:=eqx wt.heap.size;rw [<-hg];refine AM rfl 39 _ _ rfl f2 (Ap aj A13 c13 D13 e13) rfl rfl 39 _ (GK hg) AH rfl AD ?_;intro w8 hb ho;refine hK1 _ _ ?_;have f1:Ext wt w8:=(exaa wt).only ho Ez;have U:=f9.trans f1;obtain ⟨HX8,Z,HA13,O⟩:=Hd4 (HX7.o.trans U) hb ((hab.mono (T:=(λ_=>True)) λ_ _ _=>trivial).keep (f1.kept _)) (a8.o.keep (U.kept _));clear a8;have a8:=O;clear O;have O:=Hd (b0.o.keep (U.kept _));clear b0;have b0:=O;clear O;have O:=Hd (HB10.o.keep (U.kept _));clear HB10;have HB10:=O;clear O;have O:=Hd (a9.o.keep (U.kept _));clear a9;have a9:=O;clear O;have O:=Hd (Y.o.keep (U.kept _));clear Y;have Y:=O;clear O;have O:=Hd (b5.o.keep (U.kept _));clear b5;have b5:=O;clear O;have O:=Hd (b3.o.keep (U.kept _));clear b3;have b3:=O;clear O;have O:=Hd (HA12.o.keep (U.kept _));clear HA12;have HA12:=O;clear O;have O:=Hd (HV8.o.keep (U.kept _));clear HV8;have HV8:=O;clear O;have O:=Hd (b4.o.keep (U.kept _));clear b4;have b4:=O;clear O hK1 hK2 hb ho f1 f9 U hab hg HX7
 go_frame
 go_upto_region 5 with fail
 refine wp_region_lit ?_;refine AJ rfl 39 _ rfl f2 rfl Z.o AS AH ?_;refine AJ rfl 39 _ rfl g12 rfl Y.o AS AH ?_;refine Qt ?_
 go_wp2_with fail
 refine (Hn aj ac A13 D13 A12 D12 c13 e13 c12 e12 w8 (λ_=>True) HA13.o.2.2.1 HA13.o.2.2.2 HA12.o.2.2.1 HA12.o.2.2.2 (HT.o.ext HX8.o).tens (HZ13.o.mono AB) (HZ12.o.mono AB)).mono ?_;rintro ee wt ⟨A14,c14,D14,e14,rfl,hab,f9⟩;have f5:=Hd (HZ13.o.join HZ12.o);obtain ⟨ak,hca⟩:=eqx (Fk aj ac);rw [<-hca] at hab f5|-;have HAK:=Hd hca;clear hca;rename_i K1 hK1 K2 hK2;refine hK2 _ _ ?_;refine Ag rfl rfl ?_;obtain ⟨g14,hg⟩:=eqx wt.heap.size;rw [<-hg];refine AM rfl 39 _ _ rfl g14 (Ap ak A14 c14 D14 e14) rfl rfl 39 _ (GK hg) AH rfl AD ?_;intro w9 hb ho;refine hK1 _ _ ?_;have f1:Ext wt w9:=(exaa wt).only ho Ez;have U:=f9.trans f1;obtain ⟨HX9,d9,d7,O⟩:=Hd4 (HX8.o.trans U) hb ((hab.mono (T:=(λ_=>True)) λ_ _ _=>trivial).keep (f1.kept _)) (a8.o.keep (U.kept _));clear a8;have a8:=O;clear O;have O:=Hd (b0.o.keep (U.kept _));clear b0;have b0:=O;clear O;have O:=Hd (HB10.o.keep (U.kept _));clear HB10;have HB10:=O;clear O;have O:=Hd (a9.o.keep (U.kept _));clear a9;have a9:=O;clear O;have O:=Hd (Y.o.keep (U.kept _));clear Y;have Y:=O;clear O;have O:=Hd (Z.o.keep (U.kept _));clear Z;have Z:=O;clear O;have O:=Hd (b5.o.keep (U.kept _));clear b5;have b5:=O;clear O;have O:=Hd (b3.o.keep (U.kept _));clear b3;have b3:=O;clear O;have O:=Hd (HA12.o.keep (U.kept _));clear HA12;have HA12:=O;clear O;have O:=Hd (HA13.o.keep (U.kept _));clear HA13;have HA13:=O;clear O;have O:=Hd (HV8.o.keep (U.kept _));clear HV8;have HV8:=O;clear O;have O:=Hd (b4.o.keep (U.kept _));clear b4;have b4:=O;clear O hK1 hK2 hb ho f1 f9 U hab hg HX8
 go_frame
 go_upto_region 6 with fail
 have HXA:=Hd (show AW aa x=true by rw [HOA.o,Ke,HR8.o]);have HYB:=Hd (show AW ab y=true by rw [HOB.o,Ke,HR9.o]);have HJX:=Hd (show AW aj x=true by rw [HAJ.o];exact Vw (.inl HXA.o));have HJY:=Hd (show AW aj y=true by rw [HAJ.o];exact Vw (.inr HYB.o));obtain ⟨HKX,HKY,HWA,HWB,HWC,HM1,HM2⟩:=Hd7 (show AW ak x=true by rw [HAK.o];exact Vw (.inl HJX.o)) (show AW ak y=true by rw [HAK.o];exact Vw (.inl HJY.o)) (show KA aa aj=true by rw [HAJ.o];exact SL _ _) (show KA ab aj=true by rw [HAJ.o];exact Kz _ _) (show KA ac ak=true by rw [HAK.o];exact Kz _ _) (show KA (Gq aj ac) ac=true from (MN _ _).2) (show KA (Gq aj ac) aj=true from (MN _ _).1);obtain ⟨p,hp⟩:=eqx (AW ac x);have HP:=Hd hp.symm;have HMP:=Hd (show AW (Gq aj ac) x=p by rw [V8,HJX.o,HP.o];rfl);have HEQ:=Hd (show (p==p)=true by simp);clear hp;refine wp_region_lit ?_;refine Be rfl 39 _ rfl f2 rfl (Z.o.keep ((Ext.refl w9).kept _)) AS AH ?_;refine Be rfl 29 _ rfl g8 rfl (a8.o.keep ((Ext.refl w9).kept _)) Iq GA ?_
 go_wp2_with fail
 refine (B3 1 (aj) x A13 D13 B8 C8 c13 e13 b8 k8 w9 (λ_=>True) (λ_=>True) (HA13.o.keep ((Ext.refl w9).kept _)).2.2.1 (HA13.o.keep ((Ext.refl w9).kept _)).2.2.2 (HV8.o.keep ((Ext.refl w9).kept _)) f7.o (HT.o.ext HX9.o).tens (HZ13.o.mono AB)).mono ?_;rintro ee w10 ⟨he,hx⟩;rw [HJX.o] at he;subst he;have HX10:=Hd (HX9.o.trans hx);have d5:=Hd ((Ext.refl w9).trans hx);clear hx;rename_i K1 hK1 K2 hK2;refine hK2 _ _ ?_;clear hK2;refine AZ rfl (.bool false) (w':=w10) AY ?_;refine Qt ?_;refine AZ rfl (.bool false) (w':=w10) AY ?_;refine Qt ?_;refine Be rfl 39 _ rfl f2 rfl (Z.o.keep (d5.o.kept _)) AS AH ?_;refine Be rfl 29 _ rfl g9 rfl (b0.o.keep (d5.o.kept _)) Iq GA ?_
 go_wp2_with fail
 refine (B3 1 (aj) y A13 D13 B9 C9 c13 e13 b9 k9 w10 (λ_=>True) (λ_=>True) (HA13.o.keep (d5.o.kept _)).2.2.1 (HA13.o.keep (d5.o.kept _)).2.2.2 (b4.o.keep (d5.o.kept _)) HC9.o (HT.o.ext HX10.o).tens (HZ13.o.mono AB)).mono ?_;rintro ee w11 ⟨he,hx⟩;rw [HJY.o] at he;subst he;have HX11:=Hd (HX10.o.trans hx);have d8:=Hd (d5.o.trans hx);clear hx;rename_i K1 hK1 K2 hK2;refine hK2 _ _ ?_;clear hK2;refine AZ rfl (.bool false) (w':=w11) AY ?_;refine Qt ?_;refine AZ rfl (.bool false) (w':=w11) AY ?_;refine Qt ?_;refine AZ rfl (.bool false) (w':=w11) AY ?_;refine Qt ?_;refine Be rfl 39 _ rfl g14 rfl (d9.o.keep (d8.o.kept _)) AS AH ?_;refine Be rfl 29 _ rfl g8 rfl (a8.o.keep (d8.o.kept _)) Iq GA ?_
 go_wp2_with fail
 refine (B3 1 (ak) x A14 D14 B8 C8 c14 e14 b8 k8 w11 (λ_=>True) (λ_=>True) (d7.o.keep (d8.o.kept _)).2.2.1 (d7.o.keep (d8.o.kept _)).2.2.2 (HV8.o.keep (d8.o.kept _)) f7.o (HT.o.ext HX11.o).tens (f5.o.mono AB)).mono ?_;rintro ee w12 ⟨he,hx⟩;rw [HKX.o] at he;subst he;have HX12:=Hd (HX11.o.trans hx);have d6:=Hd (d8.o.trans hx);clear hx;rename_i K1 hK1 K2 hK2;refine hK2 _ _ ?_;clear hK2;refine AZ rfl (.bool false) (w':=w12) AY ?_;refine Qt ?_;refine AZ rfl (.bool false) (w':=w12) AY ?_;refine Qt ?_;refine AZ rfl (.bool false) (w':=w12) AY ?_;refine Qt ?_;refine Be rfl 39 _ rfl g14 rfl (d9.o.keep (d6.o.kept _)) AS AH ?_;refine Be rfl 29 _ rfl g9 rfl (b0.o.keep (d6.o.kept _)) Iq GA ?_
 go_wp2_with fail
 refine (B3 1 (ak) y A14 D14 B9 C9 c14 e14 b9 k9 w12 (λ_=>True) (λ_=>True) (d7.o.keep (d6.o.kept _)).2.2.1 (d7.o.keep (d6.o.kept _)).2.2.2 (b4.o.keep (d6.o.kept _)) HC9.o (HT.o.ext HX12.o).tens (f5.o.mono AB)).mono ?_;rintro ee w13 ⟨he,hx⟩;rw [HKY.o] at he;subst he;have HX13:=Hd (HX12.o.trans hx);have b7:=Hd (d6.o.trans hx);clear hx;rename_i K1 hK1 K2 hK2;refine hK2 _ _ ?_;clear hK2;refine AZ rfl (.bool false) (w':=w13) AY ?_;refine Qt ?_;refine AZ rfl (.bool false) (w':=w13) AY ?_;refine Qt ?_;refine AZ rfl (.bool false) (w':=w13) AY ?_;refine Qt ?_;refine Be rfl 39 _ rfl g10 rfl (HB10.o.keep (b7.o.kept _)) AS AH ?_;refine Be rfl 39 _ rfl f2 rfl (Z.o.keep (b7.o.kept _)) AS AH ?_
 go_wp2_with fail
 refine (Fs (aa) (aj) A10 D10 A13 D13 c10 e10 c13 e13 w13 (λ_=>True) (b5.o.keep (b7.o.kept _)).2.2.1 (b5.o.keep (b7.o.kept _)).2.2.2 (HA13.o.keep (b7.o.kept _)).2.2.1 (HA13.o.keep (b7.o.kept _)).2.2.2 (HT.o.ext HX13.o).tens (f4.o.mono AB) (HZ13.o.mono AB)).mono ?_;rintro ee w14 ⟨he,hx⟩;rw [HWA.o] at he;subst he;have HX14:=Hd (HX13.o.trans hx);have d3:=Hd (b7.o.trans hx);clear hx;rename_i K1 hK1 K2 hK2;refine hK2 _ _ ?_;clear hK2;refine AZ rfl (.bool false) (w':=w14) AY ?_;refine Qt ?_;refine AZ rfl (.bool false) (w':=w14) AY ?_;refine Qt ?_;refine AZ rfl (.bool false) (w':=w14) AY ?_;refine Qt ?_;refine Be rfl 39 _ rfl g11 rfl (a9.o.keep (d3.o.kept _)) AS AH ?_;refine Be rfl 39 _ rfl f2 rfl (Z.o.keep (d3.o.kept _)) AS AH ?_
 go_wp2_with fail
 refine (Fs (ab) (aj) A11 D11 A13 D13 c11 e11 c13 e13 w14 (λ_=>True) (b3.o.keep (d3.o.kept _)).2.2.1 (b3.o.keep (d3.o.kept _)).2.2.2 (HA13.o.keep (d3.o.kept _)).2.2.1 (HA13.o.keep (d3.o.kept _)).2.2.2 (HT.o.ext HX14.o).tens (f6.o.mono AB) (HZ13.o.mono AB)).mono ?_;rintro ee w15 ⟨he,hx⟩;rw [HWB.o] at he;subst he;have HX15:=Hd (HX14.o.trans hx);have d4:=Hd (d3.o.trans hx);clear hx;rename_i K1 hK1 K2 hK2;refine hK2 _ _ ?_;clear hK2;refine AZ rfl (.bool false) (w':=w15) AY ?_;refine Qt ?_;refine AZ rfl (.bool false) (w':=w15) AY ?_;refine Qt ?_;refine AZ rfl (.bool false) (w':=w15) AY ?_;refine Qt ?_;refine Be rfl 39 _ rfl g12 rfl (Y.o.keep (d4.o.kept _)) AS AH ?_;refine Be rfl 39 _ rfl g14 rfl (d9.o.keep (d4.o.kept _)) AS AH ?_
 go_wp2_with fail
 refine (Fs (ac) (ak) A12 D12 A14 D14 c12 e12 c14 e14 w15 (λ_=>True) (HA12.o.keep (d4.o.kept _)).2.2.1 (HA12.o.keep (d4.o.kept _)).2.2.2 (d7.o.keep (d4.o.kept _)).2.2.1 (d7.o.keep (d4.o.kept _)).2.2.2 (HT.o.ext HX15.o).tens (HZ12.o.mono AB) (f5.o.mono AB)).mono ?_;rintro ee w16 ⟨he,hx⟩;rw [HWC.o] at he;subst he;have HX16:=Hd (HX15.o.trans hx);have b6:=Hd (d4.o.trans hx);clear hx;rename_i K1 hK1 K2 hK2;refine hK2 _ _ ?_;clear hK2;refine AZ rfl (.bool false) (w':=w16) AY ?_;refine Qt ?_;refine AZ rfl (.bool false) (w':=w16) AY ?_;refine Qt ?_
 skip
 go_upto_region 8 with fail
 have O:=Hd (a8.o.keep (b6.o.kept _));clear a8;have a8:=O;clear O;have O:=Hd (b0.o.keep (b6.o.kept _));clear b0;have b0:=O;clear O;have O:=Hd (HB10.o.keep (b6.o.kept _));clear HB10;have HB10:=O;clear O;have O:=Hd (a9.o.keep (b6.o.kept _));clear a9;have a9:=O;clear O;have O:=Hd (Y.o.keep (b6.o.kept _));clear Y;have Y:=O;clear O;have O:=Hd (Z.o.keep (b6.o.kept _));clear Z;have Z:=O;clear O;have O:=Hd (d9.o.keep (b6.o.kept _));clear d9;have d9:=O;clear O;have O:=Hd (HA12.o.keep (b6.o.kept _));clear HA12;have HA12:=O;clear O;have O:=Hd (HA13.o.keep (b6.o.kept _));clear HA13;have HA13:=O;clear O;have O:=Hd (HV8.o.keep (b6.o.kept _));clear HV8;have HV8:=O;clear O;refine Qa (λ_ _=>False) [] ?_;refine Qy Z AS AH ?_;refine Qy Y AS AH ?_;refine Qs (FP λv γ w'=>SvA (Gq (aj) (ac)) v w') (H1A ?_) ?_ ?_
 ·exact Bn
 ·exact O1
 refine Qy Y AS AH ?_;refine Qg (.bool true) ?_ ?_
 ·intro vals γ w' ρ hR hN hp hρ zs zg;obtain ⟨A2,c2,D2,e2,hv2,hab2⟩:=hp.o 2 AB;have e74:=(hρ.o 74).trans hv2;have hxx:=hR.o.ext0 (λ_ _ _ h=>h.elim);have HXW:=Hd hxx;clear hxx;refine Qr ?_;refine (Fs (Gq (aj) (ac)) (ac) A2 D2 A12 D12 c2 e2 c12 e12 w' (λ_=>True) hab2.2.2.1 hab2.2.2.2 (HA12.o.keep (HXW.o.kept _)).2.2.1 (HA12.o.keep (HXW.o.kept _)).2.2.2 (HT.o.ext (HX16.o.trans HXW.o)).tens ((AbN.meet HZ13.o HZ12.o).mono AB) (HZ12.o.mono AB)).mono ?_;rintro e1 w3 ⟨he,hx⟩;rw [HM1.o] at he;exact DP
 iterate 2 refine Qp ?_
 refine Qy Z AS AH ?_;refine Qy Y AS AH ?_;refine Qs (FP λv γ w'=>SvA (Gq (aj) (ac)) v w') (H1A ?_) ?_ ?_
 ·exact Bn
 ·exact O1
 refine Qy Z AS AH ?_;refine Qg (.bool true) ?_ ?_
 ·intro vals γ w' ρ hR hN hp hρ zs zg;obtain ⟨A9,c9,D9,e9,hv9,hab9⟩:=hp.o 9 AB;have e81:=(hρ.o 81).trans hv9;have hxx:=hR.o.ext0 (λ_ _ _ h=>h.elim);have HXW:=Hd hxx;clear hxx;refine Qr ?_;refine (Fs (Gq (aj) (ac)) (aj) A9 D9 A13 D13 c9 e9 c13 e13 w' (λ_=>True) hab9.2.2.1 hab9.2.2.2 (HA13.o.keep (HXW.o.kept _)).2.2.1 (HA13.o.keep (HXW.o.kept _)).2.2.2 (HT.o.ext (HX16.o.trans HXW.o)).tens ((AbN.meet HZ13.o HZ12.o).mono AB) (HZ13.o.mono AB)).mono ?_;rintro e1 w3 ⟨he,hx⟩;rw [HM2.o] at he;exact DP
 iterate 2 refine Qp ?_
 intro vals γ wa hR hG;refine Qx ?_;have f0:=Hd (show Ext w16 wa from hR.ext0 (λ_ _ _ h=>h.elim));clear hR hG;have f3:=Hd (HX16.o.trans f0.o);have O:=Hd (a8.o.keep (f0.o.kept _));clear a8;have a8:=O;clear O;have O:=Hd (Y.o.keep (f0.o.kept _));clear Y;have Y:=O;clear O;have O:=Hd (Z.o.keep (f0.o.kept _));clear Z;have Z:=O;clear O;have O:=Hd (HA12.o.keep (f0.o.kept _));clear HA12;have HA12:=O;clear O;have O:=Hd (HA13.o.keep (f0.o.kept _));clear HA13;have HA13:=O;clear O;have O:=Hd (HV8.o.keep (f0.o.kept _));clear HV8;have HV8:=O;clear O
 go_upto_region 10 with fail
 refine Qa (λ_ _=>False) [] ?_
 iterate 2 refine Qp ?_
 refine Qy Z AS AH ?_;refine Qy Y AS AH ?_;refine Qs (FP λv γ w'=>SvA (Gq (aj) (ac)) v w') (H1A ?_) ?_ ?_
 ·exact Bn
 ·intro vals γ w' ρ hR hN hp hρ zs zg;have hxx:=hR.o.ext0 (λ_ _ _ h=>h.elim);have HXW:=Hd hxx;clear hxx;refine Qr ?_;refine (KH (aj) (ac) A13 D13 A12 D12 c13 e13 c12 e12 w' (λ_=>True) (HA13.o.keep (HXW.o.kept _)).2.2.1 (HA13.o.keep (HXW.o.kept _)).2.2.2 (HA12.o.keep (HXW.o.kept _)).2.2.1 (HA12.o.keep (HXW.o.kept _)).2.2.2 (HT.o.ext (f3.o.trans HXW.o)).tens (HZ13.o.mono AB) (HZ12.o.mono AB)).mono ?_;exact PX
 refine Qy a8 Iq GA ?_;refine Qg (.bool p) ?_ ?_
 ·intro vals γ w' ρ hR hN hp hρ zs zg;obtain ⟨A4,c4,D4,e4,hv4,hab4⟩:=hp.o 4 AB;have e90:=(hρ.o 90).trans hv4;have hxx:=hR.o.ext0 (λ_ _ _ h=>h.elim);have HXW:=Hd hxx;clear hxx;refine Qr ?_;refine (B3 1 (Gq (aj) (ac)) x A4 D4 B8 C8 c4 e4 b8 k8 w' (λ_=>True) (λ_=>True) hab4.2.2.1 hab4.2.2.2 (HV8.o.keep (HXW.o.kept _)) f7.o (HT.o.ext (f3.o.trans HXW.o)).tens ((AbN.meet HZ13.o HZ12.o).mono AB)).mono ?_;rintro e1 w3 ⟨he,hx⟩;rw [HMP.o] at he;exact DP
 refine Qy Y AS AH ?_;refine Qy a8 Iq GA ?_;refine Qg (.bool p) ?_ ?_
 ·intro vals γ w' ρ hR hN hp hρ zs zg;have hxx:=hR.o.ext0 (λ_ _ _ h=>h.elim);have HXW:=Hd hxx;clear hxx;refine Qr ?_;refine (B3 1 (ac) x A12 D12 B8 C8 c12 e12 b8 k8 w' (λ_=>True) (λ_=>True) (HA12.o.keep (HXW.o.kept _)).2.2.1 (HA12.o.keep (HXW.o.kept _)).2.2.2 (HV8.o.keep (HXW.o.kept _)) f7.o (HT.o.ext (f3.o.trans HXW.o)).tens (HZ12.o.mono AB)).mono ?_;rintro e1 w3 ⟨he,hx⟩;rw [HP.o] at he;exact DP
 iterate 3 refine Qp ?_
 intro vals γ wb hR hG;refine Qx ?_;have HEB:=Hd (show Ext wa wb from hR.ext0 (λ_ _ _ h=>h.elim));clear hR hG;go_wp2;go_ret;exact ⟨rfl,f3.o.trans HEB.o⟩
