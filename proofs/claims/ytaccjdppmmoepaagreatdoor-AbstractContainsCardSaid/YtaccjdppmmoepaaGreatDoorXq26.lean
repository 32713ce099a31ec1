/- Lemmas. No conditions. -/
import Derived.Test.YtaccjdppmmoepaaGreatDoorXq24
import Derived.Test.YtaccjdppmmoepaaGreatDoorXq25
import Derived.Deep.DeepCutAuto
import Derived.Sort.Walk0
set_option maxRecDepth 100000
set_option maxHeartbeats 4000000
namespace Go.Proofs.YtaccjdppmmoepaaGreatDoor
open Go Go.RowKit Tryz
variable {qP:Prop}{A:OA}{N c g:Nat}{l:List Int}{w J:World}

def GHA(w:World)(e:Ending)(J:World):Prop:=∃ a:Abs,AbN 2000 a/\Eh w (λ_=>False) a e J
def ZdS(N:Nat)(w:World)(v:Value):Prop:=∃ (ll:List Int) (Ai:OA) (ci:Nat),v=.slice Ai ll.length ci/\IntsL w (λb=>b<N) Ai ll
theorem DFA{c1 k:Nat}{A1:OA}(h:IntsL w (λb=>b<N) A1 l)(h1:k<=l.length)(h2:l.length<=c1):ZdS N w (.slice (if c1=(k:Int).toNat then A1 else A1.map λx=>x.add (k:Int).toNat) (l.length-(k:Int).toNat) (c1-(k:Int).toNat)):=by
 have O:(l.drop k).length=l.length-k:=List.length_drop;have hl2:=h.2;rw [Int.toNat_natCast];refine ⟨l.drop k,_,_,by rw [O],?_,AA⟩;rw [List.map_drop]
 rcases h.1 with h0|⟨b,o,rfl,hb,hlt,hc⟩
 ·rw [List.map_eq_nil_iff] at h0;rw [h0];exact .inl AC
 ·by_cases hk:c1=k
  ·left;rw [List.drop_eq_nil_of_le AI]
  ·rw [if_neg hk];have hd:Rd w (λb=>b<N) (some ⟨b,o+k,none⟩) _:=Rd.drop (.inr ⟨b,o,rfl,hb,hlt,hc⟩) k;have he:(Option.map (λx:Addr=>x.add k) (some ⟨b,o,none⟩))=some ⟨b,o+k,none⟩:=(by by_cases hk0:k=0<;>simp [Addr.add,hk0]);rw [he];exact hd
def ZdV(S:NP)(v:Value)(J:World):Prop:=∃ (x:Val) (Ax:OA) (cx:Nat) (Bx:OA) (ex:Nat),v=(Vq x Ax cx Bx ex)/\(x.cols.length<=cx/\x.rows.length<=ex)/\RV J S 1 x Ax Bx
def ZdA(n:Nat)(S:NP)(v:Value)(J:World):Prop:=∃ (a:Abs) (A:OA) (c:Nat) (D:OA) (e:Nat),v=(Aq a A c D e)/\AbN n a/\AbM J S a A c D e
abbrev Qv:=(World->Prop) × (Nat->Nat->Prop)
def LV(Q:Qv)(F:Gz)(w:World)(γ':Gz)(J:World):Prop:=LZ Q.2 F w γ' J/\(Q.1 w->Q.1 J)
theorem LV.refl(Q:Qv)(F:Gz)(w:World):LV Q F w F w:=⟨LZ.refl _ _ _,λh=>h⟩
theorem LV.trans(Q:Qv)(F:Gz)(w:World)(γ':Gz)(J:World)(γ'':Gz)(w'':World)(h:LV Q F w γ' J)(k:LV Q γ' J γ'' w''):LV Q F w γ'' w'':=⟨LZ.trans _ _ _ _ _ _ _ h.1 k.1,λq=>k.2 (h.2 q)⟩
theorem IRA(Q:Qv)(F:Gz)(hv:Q.1 w->Q.1 J)(h:Ext w J):LV Q F w F J:=⟨H4A _ F h,hv⟩
instance (Q:Qv):Rf (LV Q):=⟨LV.refl Q⟩
def zdW:List BA:=[⟨#[97]⟩,⟨#[98]⟩,⟨#[99]⟩,⟨#[107,105,110,100]⟩,⟨#[97,109,111,117,110,116]⟩,⟨#[]⟩,⟨#[57]⟩]
theorem FzA(k:Nat)(hk:k<7):∃ t:BA,(zdW.map Value.string)[k]?=some (.string t)/\t.size<=10:=by
 match k,hk with
 |0,_=>exact ⟨_,rfl,AB⟩
 |1,_=>exact ⟨_,rfl,AB⟩
 |2,_=>exact ⟨_,rfl,AB⟩
 |3,_=>exact ⟨_,rfl,AB⟩
 |4,_=>exact ⟨_,rfl,AB⟩
 |5,_=>exact ⟨_,rfl,AB⟩
 |6,_=>exact ⟨_,rfl,AB⟩
def ZdI(n:Int)(v:Value):Prop:=∃ r:Nat,v=.I (r:Int)/\(r:Int)<n
def ZdJ(v:Value):Prop:=∃ r:Nat,v=.I (r:Int)/\1<=r/\r<=7
def ZdT(v:Value):Prop:=∃ s:BA,v=.string s/\s.size<=10
def ZdX(g9:Nat)(v:Value):Prop:=∃ r:Nat,r<7/\v=.pointer (some ⟨g9,r,none⟩)
def ZdB(ws:World)(F:Gz)(J:World)(v:Value):Prop:=∃ (g:Nat) (s:BA),v=.slice (some ⟨g,0,none⟩) 1 1/\ws.heap.size<=g/\s.size<=10/\(F 1008=false->Blk J g 9 #[.string s])
theorem YW(a n:Nat)(h:a+n<=7):((zdW.drop a).take n).length=n:=by
 have hl:zdW.length=7:=rfl;rw [List.length_take,List.length_drop];omega
theorem EaA{g9:Nat}(hb:Blk J g9 9 #[.string ⟨#[97]⟩,.string ⟨#[98]⟩,.string ⟨#[99]⟩,.string ⟨#[107,105,110,100]⟩,.string ⟨#[97,109,111,117,110,116]⟩,.string ⟨#[]⟩,.string ⟨#[57]⟩])(a n:Nat)(h:a+n<=7):Strs J (λb=>b=g9) (some ⟨g9,a,none⟩) ((zdW.drop a).take n):=by
 refine ⟨.inr ⟨g9,a,rfl,rfl,hb.lt,λj u hj => ?_⟩,by rw [YW a n h];omega,λs hs => ?_⟩
 ·rw [List.map_take,List.map_drop,List.getElem?_take] at hj;split at hj
  ·rw [List.getElem?_drop] at hj;exact hb.cell (i:=a+j) (by simpa [zdW] using hj)
  ·cases hj
 ·have h1:=List.mem_of_mem_drop (List.mem_of_mem_take hs);simp only [zdW,List.mem_cons,List.not_mem_nil,or_false] at h1
  rcases h1 with rfl|rfl|rfl|rfl|rfl|rfl|rfl<;>decide
def ZdN(v:Value):Prop:=∃ r:Nat,v=.I (r:Int)/\3<=r/\r<=4
def ZdF(g9:Nat)(v:Value):Prop:=∃ (B:OA) (e:Nat) (fr:List BA),v=.slice B fr.length e/\fr.length<=e/\fr.length<=7/\∀ J,Blk J g9 9 #[.string ⟨#[97]⟩,.string ⟨#[98]⟩,.string ⟨#[99]⟩,.string ⟨#[107,105,110,100]⟩,.string ⟨#[97,109,111,117,110,116]⟩,.string ⟨#[]⟩,.string ⟨#[57]⟩]->Strs J (λb=>b=g9) B fr
def ZdD(g9:Nat)(v:Value):Prop:=∃ (B:OA) (e:Nat) (fr:List BA) (s:BA),v=.agg #[.slice B fr.length e,.string s]/\fr.length<=e/\fr.length<=7/\s.size<=10/\∀ J,Blk J g9 9 #[.string ⟨#[97]⟩,.string ⟨#[98]⟩,.string ⟨#[99]⟩,.string ⟨#[107,105,110,100]⟩,.string ⟨#[97,109,111,117,110,116]⟩,.string ⟨#[]⟩,.string ⟨#[57]⟩]->Strs J (λb=>b=g9) B fr
def ZdE(ws:World)(g9:Nat)(F:Gz)(J:World)(v:Value):Prop:=∃ (g:Nat) (B:OA) (e:Nat) (fr:List BA) (s:BA),v=.slice (some ⟨g,0,none⟩) 1 1/\ws.heap.size<=g/\fr.length<=e/\fr.length<=7/\s.size<=10/\(∀ J,Blk J g9 9 #[.string ⟨#[97]⟩,.string ⟨#[98]⟩,.string ⟨#[99]⟩,.string ⟨#[107,105,110,100]⟩,.string ⟨#[97,109,111,117,110,116]⟩,.string ⟨#[]⟩,.string ⟨#[57]⟩]->Strs J (λb=>b=g9) B fr)/\(F 1008=false->Blk J g 64 #[.slice B fr.length e,.string s])
def ZdG(M g9:Nat)(ds:List Dep)(v:Value)(F:Gz)(J:World):Prop:=∃ (A:OA) (c:Nat) (d:Dep),v=.slice A (ds.length+1) c/\F 1008=true/\d.frm.length<=7/\OwnDs J M (λb=>b=g9) A c (ds++[d])
def ZdC(M:Nat)(cs:List BA)(v:Value)(F:Gz)(J:World):Prop:=∃ (A:OA) (c:Nat) (s:BA),v=.slice A (cs.length+1) c/\F 1008=true/\OwnSs J M A c (cs++[s])
def MkV(N g:Nat)(A:OA)(l:List Int)(c:Nat)(J:World):Prop:=(∃ K,NumIs J g A l.length c K)/\IntsL J (λb=>b<N) A l
theorem MkV.keep(h:MkV N g A l c w)(k:Kept (λb=>b<N\/b=g) w J):MkV N g A l c J:=by
 obtain ⟨⟨K,h1⟩,h2⟩:=h;exact ⟨⟨K,h1.keep (k.mono λb _ hb=>.inr hb)⟩,h2.keep (k.mono λb _ hb=>.inl hb)⟩
theorem MkV.ext(h:MkV N g A l c w)(k:Ext w J):MkV N g A l c J:=h.keep (k.kept _)
def F2A(n:Int)(N g:Nat)(A:OA)(l:List Int)(c:Nat)(w:World)(e:Ending)(J:World):Prop:=∃ r:Nat,e=.returned (.I (r:Int))/\(r:Int)<n/\MkV N g A l c J/\Only g w J
theorem G3(n:Int)(N g:Nat)(A:OA)(l:List Int)(c:Nat)(w:World)(hn1:1<=n)(hn2:n<=4000000000000000)(hg:N<=g)(h:MkV N g A l c w) :
  Cl 25 #[.pointer (some ⟨g,0,none⟩),.I n] w (F2A n N g A l c w):=by
 obtain ⟨⟨K,h1⟩,h2⟩:=h;refine (WD n g A l c K w (λb=>b<N) hn1 hn2 h1 h2 AA).mono ?_;rintro e J ⟨r,K',he,U,O,hK,hN,ho⟩;exact ⟨r.toNat,by rw [he];congr 2;omega,AA,⟨⟨K',hN⟩,h2.keep (ho.kept λb _ hb e=>AA)⟩,ho⟩

theorem Um(h:qP:=by
 rintro v F wx γ' wy rr ⟨x,Ax,cx,Bx,ex,h1,h2,h3⟩;exact ⟨x,Ax,cx,Bx,ex,h1,h2,h3.keep (rr.keptS λb _ hb m hm=>by have:=HSZ.o;rw [hm.2] at hb;simp only [BO] at hb;omega)⟩):qP:=h
theorem SY(h:qP:=by
 have hii:=his.keep (HX2.o.kept _);have HR:=hR;have hij:=hii.keep (hR.o.kept0 λb _ hb m hm=>by have:=HGE.o;rw [hm.2] at hb;omega);refine Qr ?_;refine (Ni ll Ai ci J _ hij).mono ?_;rintro e1 w3 ⟨x,-,Ax,cx,Bx,ex,he,hcx,hrv,hx3⟩;exact ⟨_,he,F,H4A _ F hx3,λ_ _ _ h=>h,x,Ax,cx,Bx,ex,rfl,hcx,hrv.mono λb _ hb=>Nat.le_trans HR.o.size hb⟩):qP:=h
theorem PZ(h:qP:=by
 rintro v F wx γ' wy rr ⟨x,Ax,cx,Dx,ex,h1,h2,h3⟩;exact ⟨x,Ax,cx,Dx,ex,h1,h2,h3.keep (rr.keptS λb _ hb m hm=>by have:=HSZ.o;rw [hm.2] at hb;simp only [BO] at hb;omega)⟩):qP:=h
theorem Uw(h:qP:=by
 have HR:=hR;refine Qr ?_;refine (DKA 1 x Ax Bx cx ex J _ hrv hcx.1).mono ?_;rintro e1 w3 ⟨A4,c4,D4,e4,he,hab,hx4⟩;exact ⟨_,he,F,H4A _ F hx4,λ_ _ _ h=>h,ofA x,A4,c4,D4,e4,rfl,Mx x,hab.mono λb _ hb=>by have h:=HR.o.size;have h0:w2.drew.heap.size=w2.heap.size:=rfl;simp only [BO] at hb|-;omega⟩):qP:=h
theorem R2(h:qP:=by
 have hng:¬(g7≠g7):=λh=>h rfl;rw [hws];exact (((Kept.refl (λb=>b≠g7) _).set2 hng).set2 hng)):qP:=h
theorem Kd(h:qP:=by
 exfalso;have:=HGM.o;have:=HMS.o;omega):qP:=h
theorem SL(h:qP:=by
 rcases hm with ⟨h0,h⟩|⟨h0,h|h⟩|⟨h0,h⟩
 ·exact Kd
 ·exact MR
 ·exact Kd
 ·rw [h0];exact hk10):qP:=h
theorem UC(h:qP:=by
 rintro e1 w3 ⟨r,he,hr,hv',ho⟩;exact ⟨_,he,F.put 1003,⟨H2A HK.o ho.os ho.tape ho.output (Nat.le_of_eq ho.size.symm) (λb hb hm=>ho.block b λe=>hm (.inl ⟨.inl rfl,e⟩)),λ_=>hv'⟩,LK.done (by decide),r,rfl,by omega⟩):qP:=h
theorem So(h:qP:=by
 rintro e1 w3 ⟨r,he,hr,hv',ho⟩;exact ⟨_,he,F.put 1004,⟨H2A HK.o ho.os ho.tape ho.output (Nat.le_of_eq ho.size.symm) (λb hb hm=>ho.block b λe=>hm (.inl ⟨.inr (.inl rfl),e⟩)),λ_=>hv'⟩,LK.done (by decide),r,rfl,by omega⟩):qP:=h
theorem SO(h:qP:=by
 rintro e1 w3 ⟨r,he,hr,hv',ho⟩;exact ⟨_,he,F.put 1007,⟨H2A HK.o ho.os ho.tape ho.output (Nat.le_of_eq ho.size.symm) (λb hb hm=>ho.block b λe=>hm (.inl ⟨.inr (.inr rfl),e⟩)),λ_=>hv'⟩,LK.done (by decide),r,rfl,by omega⟩):qP:=h
theorem Vr(h:qP:=by
 obtain ⟨t,ht,hts⟩:=FzA r hr7;have m0:=hb9.cell (i:=r) (u:=.string t) (by simpa [zdW] using ht);clear hb9 ht;refine Qr ?_;exact ⟨F,LV.refl _ _ _,λ_ _ _ h=>h,t,rfl,hts⟩):qP:=h
theorem Px(h:qP:=by
 rcases hm with ⟨h0,h⟩|⟨h0,h|h⟩|⟨h0,h⟩
 ·omega
 ·have:=(HAL.o b h).1;omega
 ·omega
 ·omega):qP:=h
theorem TA(h:qP:=by
 have:=HGM.o;have:=HMS.o;exact Px):qP:=h
theorem Fs(h:qP:=by
 exfalso;have:=HGM.o;have:=HGM2.o;have:=HMS2.o;omega):qP:=h
theorem P5(h:qP:=by
 exfalso;have:=(HAL.o b h).1;have:=HGM.o;have:=HGM2.o;have:=HMS2.o;omega):qP:=h
theorem U7(h:qP:=by
 rcases hm with ⟨h0,h⟩|⟨h0,h|h⟩|⟨h0,h⟩
 ·exact Fs
 ·exact P5
 ·exact Fs
 ·rw [h0];exact hk10):qP:=h
theorem Ru(h:qP:=by
 rcases hm with ⟨h0,h⟩|⟨h0,h|h⟩|⟨h0,h⟩
 ·exact Fs
 ·exact P5
 ·exact Fs
 ·exact Fs):qP:=h
theorem C8(h:qP:=by have:=HGE.o;have:=HNN.o;omega):qP:=h
theorem DI(h:qP:=by have:=HGE.o;omega):qP:=h
theorem B8(h:qP:=by have:=HG7.o;have:=HSZ.o;omega):qP:=h
theorem Gy(h:qP:=by have:=HG7.o;have:=HSZ.o;have:=HNN.o;omega):qP:=h
theorem KZ(h:qP:=by have:=HGM.o;omega):qP:=h
theorem BwA(l:List Int)(A:OA)(c:Nat)(w:World)(S:NP)(hl:IntsL w S A l)(hcap:l.length<=c):Cl 5 #[.slice A l.length c] w (GHA w):=by
 obtain ⟨w0,hw0⟩:=eqx ((w.alloc (.cells Az 36)).alloc (.cells #[.slice A l.length c,.I 0] 60));obtain ⟨g2,hg2⟩:=eqx w.heap.size;obtain ⟨g3,hg3⟩:=eqx (w.heap.size+1);obtain ⟨N,hN⟩:=eqx w.heap.size;have hx0:Ext w w0:=Bh;obtain ⟨HX0,HB2,HB3⟩:=Hd3 hx0 (show Blk w0 g2 36 Az by rw [hw0,hg2];exact (Blk.new _ _ _).keep ((exaa _).kept _)) (show Blk w0 g3 60 #[.slice A l.length c,.I 0] by rw [hw0,hg3];exact H6A _ _ _ _);have hL:=(hl.mono (T:=λb=>b<N) λi hi _=>by rw [hN];exact hi);have HL:=Hd hL;have HV0:=Hd (show MkV N g3 A l c w0 from ⟨⟨0,HB3.o,AN⟩,hL.keep (hx0.kept _)⟩);have hll:=hl.2;obtain ⟨HW0,HG2,HG3,HNN,HGE⟩:=Hd5 hw0 hg2 hg3 hN (show N<=g2/\N<=g3/\g2<g3/\g3<w0.heap.size by refine ⟨AA,AA,AA,HB3.o.lt⟩);clear hw0 hg2 hg3 hN hx0 hL hl
 go_enter func5,ntmps5
 go_upto_region 2 with fail
 rw [<-HW0.o,<-HG3.o,<-HG2.o]
 go_wp2_with fail
 refine (G3 8 N g3 A l c w0 AB AB HGE.o.2.1 HV0.o).mono ?_;rintro ee w2 ⟨r,rfl,hr,hv,ho⟩;obtain ⟨HX2,HV2,HB22⟩:=Hd3 (HX0.o.only ho C8) hv (HB2.o.keep (ho.kept λb _ hb e=>DI));clear hv ho
 go_upto_region 3 with fail
 obtain ⟨l1,hl1⟩:=eqx (l.drop 1);have hn1:l1.length=l.length-1:=(by rw [hl1];simp);have HL1:=Hd hl1;clear hl1
 go_cut [5] (λv wx=>w2=wx/\∃ (A1:OA) (c1:Nat),v=.slice A1 l1.length c1/\l1.length<=c1/\IntsL w (λb=>b<N) A1 l1)
 case first =>
  go_wp2
  ·rename_i h;have hm:l.length<=1:=AA;have hl0:l1=[]:=List.eq_nil_of_length_eq_zero AA;rw [<-h]
   go_meet
   case rel=>exact ⟨rfl,A,0,by rw [hl0];congr 1;simp only [List.length_nil];omega,AA,by rw [hl0];exact ⟨.inl rfl,AN⟩⟩
  ·rename_i h
   go_meet
   case rel =>
    refine ⟨rfl,A.map λx=>x.add (min 1 (l.length:Int)).toNat,c-(min 1 (l.length:Int)).toNat,by congr 1;omega,AA,?_⟩;have hld:(l.drop 1).length=l.length-1:=List.length_drop
    rcases HL.o.1 with h0|⟨b,o,hA,hb,hlt,hc⟩
    ·rw [List.map_eq_nil_iff] at h0;rw [HL1.o,h0];exact ⟨.inl rfl,AN⟩
    ·rw [hA] at HL|-;by_cases h0:l=[]
     ·rw [HL1.o,h0];exact ⟨.inl rfl,AN⟩
     ·have h1:(min 1 (l.length:Int)).toNat=1:=(by have:=List.length_pos_iff.2 h0;omega);rw [h1,HL1.o];exact ⟨by rw [List.map_drop];exact HL.o.1.drop 1,AA⟩
 case rest =>
 obtain ⟨rfl,A1,c1,rfl,hc1,hint1⟩:=hcut;have HI1:=Hd hint1;clear hint1 hn1 HL1 hcap;obtain ⟨k6,hk6⟩:=eqx (l1.length / 2);have hl1:=HI1.o.2;have hk6l:k6<=l1.length:=AA;have HK6:=Hd (show ((l1.length:Int) / 2)=(k6:Int) by omega);have hq6:wrap64 ((l1.length:Int) / 2)=(k6:Int):=(by rw [hk6,show ((l1.length:Int) / 2)=((l1.length / 2:Nat):Int) by omega];exact IntWalk.wrap64_in _ ⟨AA,AA⟩);have hk6c:k6<=c1:=AA;clear hk6;have HF2:=Hd (show ∀ J,Kept (λb=>b<N) w2 J->IntsL J (λb=>b<N) A1 l1 from λJ hk=>(HI1.o.keep (HX2.o.kept _)).keep hk);have HSZ:=Hd (show N<=w2.heap.size/\g2<w2.heap.size/\g3<w2.heap.size by have h:=HX2.o.size;have h1:=HGE.o;have h2:=HV2.o.1;obtain ⟨K,h3⟩:=h2;have h4:=h3.1.lt;rw [HNN.o];exact ⟨h,AA,h4⟩);by_cases h3:(r:Int)<3
 ·go_wp2_with fail
  refine (Ni l1 A1 c1 w2 _ (HF2.o w2 (Kept.refl _ _))).mono ?_;rintro ee w3 ⟨x,-,Ax,cx,Bx,ex,rfl,hcx,hrv,hx3⟩
  go_wp2_with fail
  refine (DKA 1 x Ax Bx cx ex w3 (BO w2) hrv hcx.1).mono ?_;rintro ee w4 ⟨A4,c4,D4,e4,rfl,hab,hx4⟩;obtain ⟨ax,hax⟩:=eqx (ofA x);have HNX:=Hd (show AbN 2000 ax by rw [hax];exact (Mx x).mono AB);rw [<-hax] at hab|-;clear hax;have hb2:=HB22.o.keep ((hx3.trans hx4).kept _);rename_i K1 hK1 K2 hK2;refine hK2 _ _ ?_;refine AM rfl 36 _ _ rfl g2 (Ap ax A4 c4 D4 e4) rfl rfl 36 _ hb2 AH rfl AD ?_;intro wf hbf hof;refine hK1 _ _ ?_;obtain ⟨HXF,HABF,HBF⟩:=Hd3 (((HX2.o.trans hx3).trans hx4).only hof C8) ((hab.keep (hof.kept λb _ hb e=>by have:=HSZ.o;have:=hx3.size;simp only [BO] at hb;omega)).mono (T:=λb=>False\/w.heap.size<=b) λb _ hb=>by have:=HSZ.o;have:=HNN.o;have:=hx3.size;simp only [BO] at hb;omega) hbf;clear hK1 hK2 hof hbf hb2 hab hx4 hx3 hrv hcx
  go_wp2_with fail
  refine bodyPost_ret (Bv results5 rfl (Eq HBF.o AS AH)) rfl ?_;exact ⟨ax,HNX.o,_,_,_,_,rfl,HABF.o,HXF.o⟩
 by_cases h5:(r:Int)<5
 ·go_upto_region 8 with fail
  refine Qa (λm b=>m=1011/\b=g2) (lk 12 [1011]) ?_
  iterate 2 refine Qp ?_
  refine Qs (FP λv F J=>ZdS N w v) (H1A ?_) ?_ ?_
  ·intro v F w1 γ' w2 r h;exact h
  ·intro V F J L hR hN hp hρ zs zg;refine Qr ?_;rw [HK6.o,if_pos ⟨AA,AA⟩];exact ⟨F,LZ.refl _ _ _,λ_ _ _ h=>h,l1.take k6,A1,c1,by rw [List.length_take,Nat.min_eq_left hk6l];rfl,⟨by rw [List.map_take];exact HI1.o.1.take k6,BP⟩⟩
  refine Qs (FP λv F J=>ZdV (BO w2) v J) (H1A ?_) ?_ ?_
  ·exact Um
  ·intro V F J L hR hN hp hρ zs zg;obtain ⟨ll,Ai,ci,hv2,his⟩:=hp.o 2 AB;have e33:=(hρ.o 33).trans hv2;exact SY
  refine Qs (FP λv F J=>ZdA 300 (BO w2) v J) (H1A ?_) ?_ ?_
  ·exact PZ
  ·intro V F J L hR hN hp hρ zs zg;obtain ⟨x,Ax,cx,Bx,ex,hv3,hcx,hrv⟩:=hp.o 3 AB;have e34:=(hρ.o 34).trans hv3;exact Uw
  iterate 2 refine Qp ?_
  refine Qs (FP λv F J=>ZdS N w v) (H1A ?_) ?_ ?_
  ·intro v F w1 γ' w2 r h;exact h
  ·intro V F J L hR hN hp hρ zs zg;refine Qr ?_;rw [HK6.o,if_pos ⟨AA,AA⟩];exact ⟨F,LZ.refl _ _ _,λ_ _ _ h=>h,DFA HI1.o hk6l hc1⟩
  refine Qs (FP λv F J=>ZdV (BO w2) v J) (H1A ?_) ?_ ?_
  ·exact Um
  ·intro V F J L hR hN hp hρ zs zg;obtain ⟨ll,Ai,ci,hv7,his⟩:=hp.o 7 AB;have e38:=(hρ.o 38).trans hv7;exact SY
  refine Qs (FP λv F J=>ZdA 300 (BO w2) v J) (H1A ?_) ?_ ?_
  ·exact PZ
  ·intro V F J L hR hN hp hρ zs zg;obtain ⟨x,Ax,cx,Bx,ex,hv8,hcx,hrv⟩:=hp.o 8 AB;have e39:=(hρ.o 39).trans hv8;exact Uw
  refine Qs (FP λv F J=>ZdA 600 (BO w2) v J) (H1A ?_) ?_ ?_
  ·exact PZ
  ·intro V F J L hR hN hp hρ zs zg;obtain ⟨a4,Aa,ca,Da,ea,hv4,hn4,hab4⟩:=hp.o 4 AB;have e35:=(hρ.o 35).trans hv4;obtain ⟨a9,Ab,cb,Db,eb,hv9,hn9,hab9⟩:=hp.o 9 AB;have e40:=(hρ.o 40).trans hv9;have HR:=hR;refine Qr ?_;refine (D5A a4 a9 Aa Da Ab Db ca ea cb eb J _ hab4.2.2.1 hab4.2.2.2 hab9.2.2.1 hab9.2.2.2 (hn4.mono AB) (hn9.mono AB)).mono ?_;rintro e1 w3 ⟨A4,c4,D4,e4,he,hab,hx4⟩;exact ⟨_,he,F,H4A _ F hx4,λ_ _ _ h=>h,Fk a4 a9,A4,c4,D4,e4,rfl,hn4.join hn9,hab.mono λb _ hb=>by have h:=HR.o.size;have h0:w2.drew.heap.size=w2.heap.size:=rfl;simp only [BO] at hb|-;omega⟩
  refine Chain.step (λ_ F J=>∃ (x:Abs) (Ax:OA) (cx:Nat) (Dx:OA) (ex:Nat),AbN 600 x/\AbM J (BO w2) x Ax cx Dx ex/\Blk J g2 36 (Ap x Ax cx Dx ex)/\F 1011=true) AG ?_ ?_ ?_
  ·rintro l F wx γ' wy rr ⟨x,Ax,cx,Dx,ex,h1,h2,h3,h4⟩;exact ⟨x,Ax,cx,Dx,ex,h1,h2.keep (rr.keptS λb _ hb m hm=>by have:=HSZ.o;rw [hm.2] at hb;simp only [BO] at hb;omega),h3.keep (rr.keptS λb _ e m hm=>by rw [hm.1,h4,rr.done _ h4]),rr.done _ h4⟩
  ·intro V F J L hR hN hp hρ hc hf hg;refine ⟨rfl,?_⟩;have e2:=hρ 2;(conv at e2=>rhs;whnf);obtain ⟨x,Ax,cx,Dx,ex,hv10,hnx,habx⟩:=hp 10 AB;have e41:=(hρ 41).trans hv10;have hk:=hN.key (k:=1011) AB;have hb0:=HB22.o.keep (hR.kept0 (S:=λb=>b=g2) λb _ e m hm=>LI);refine BY 36 rfl e2 e41 hb0 AH rfl AD ?_;intro w4 hb4 ho4;exact ⟨F.put 1011,H2A hk ho4.os ho4.tape ho4.output (Nat.le_of_eq ho4.size.symm) (λb hb hm=>ho4.block b λe=>hm ⟨rfl,e⟩),LK.done AB,x,Ax,cx,Dx,ex,hnx,habx.keep (ho4.kept λb _ hb e=>by have:=HSZ.o;simp only [BO] at hb;omega),hb4,AU⟩
  intro V F w8 hR hG;refine Qx ?_;obtain ⟨ax,A4,c4,D4,e4,hnx,hab,hb2,-⟩:=hG 11 AB;obtain ⟨HXF,HBF,HNX,HABF⟩:=Hd4 (show Ext w w8 from Au HX2.o (hR.buts (S:=λb=>b=g2) (λm b _ hm _=>hm.2)) (λb hb=>C8)) hb2 hnx (hab.mono (T:=λb=>False\/w.heap.size<=b) λb _ hb=>by have:=HSZ.o;have:=HNN.o;simp only [BO] at hb;omega);clear hR hG hnx hab hb2
  go_wp2_with fail
  refine bodyPost_ret (Bv results5 rfl (Eq HBF.o AS AH)) rfl ?_;exact ⟨ax,HNX.o.mono AB,_,_,_,_,rfl,HABF.o,HXF.o⟩
 go_upto_region 9 with fail
 have HS2:=Hd (Nat.le_refl w2.heap.size)
 go_wp2_with fail
 refine (G3 64 N g3 A l c _ AA AA HGE.o.2.1 HV2.o).mono ?_;rintro ee w3 ⟨r0,rfl,hr0,hv,ho⟩;obtain ⟨HX3,HV3,HQ3,HB23,HS3⟩:=Hd5 (HX2.o.only ho C8) hv ho (HB22.o.keep (ho.kept λb _ hb e=>DI)) (show w2.heap.size<=w3.heap.size by rw [ho.size];exact HS2.o);clear HQ3 hv ho HX2 HV2 HB22 HS2
 go_wp2_with fail
 refine (G3 5 N g3 A l c _ AA AA HGE.o.2.1 HV3.o).mono ?_;rintro ee w4 ⟨r4,rfl,hr4,hv,ho⟩;obtain ⟨HX4,HV4,HQ4,HB24,HS4⟩:=Hd5 (HX3.o.only ho C8) hv ho (HB23.o.keep (ho.kept λb _ hb e=>DI)) (show w2.heap.size<=w4.heap.size by rw [ho.size];exact HS3.o);clear HQ4 hv ho HX3 HV3 HB23 HS3
 go_wp2_with fail
 refine (G3 3 N g3 A l c _ AA AA HGE.o.2.1 HV4.o).mono ?_;rintro ee w5 ⟨r8,rfl,hr8,hv,ho⟩;obtain ⟨HX5,HV5,HQ5,HB25,HS5⟩:=Hd5 (HX4.o.only ho C8) hv ho (HB24.o.keep (ho.kept λb _ hb e=>DI)) (show w2.heap.size<=w5.heap.size by rw [ho.size];exact HS4.o);clear HQ5 hv ho HX4 HV4 HB24 HS4;obtain ⟨g7,hg7⟩:=eqx w5.heap.size;have HG7E:=Hd hg7;have HG7:=Hd (show w2.heap.size<=g7 by rw [hg7];exact HS5.o);clear hg7
 go_wp2_with (refine Ag rfl rfl ?_;rw [<-HG7E.o];refine AM rfl 36 _ _ rfl g7 #[.I (r0:Int),.I 0,.I 0,.I 0,.string ⟨#[]⟩,.string ⟨#[]⟩,.I 0,.I 0,.I 0,.I 0,.I 0,.I 0,.I (r4:Int),.I 0,.I 0,.slice none 0 0,.slice none 0 0,.bool ((r8:Int)==1)] rfl rfl 36 _ (GK HG7E.o) AH rfl AD ?_;intro w6 hb ho)
 have HX6:=Hd (HX5.o.trans ((exaa _).only ho (Bl HG7E.o)));have O:Kept (λb=>b≠g7) w5 w6:=(Kept.alloc _ _ _).trans (ho.kept λb _ hb e=>hb e);obtain ⟨HB76,HV6,HB26,HS6⟩:=Hd4 hb (HV5.o.keep (O.mono λb _ hb e=>B8)) (HB25.o.keep (O.mono λb _ hb e=>B8)) (show w2.heap.size<=w6.heap.size from Nat.le_trans HS5.o O.1);clear hb ho O HX5 HV5 HB25 HS5 HG7E
 go_wp2_with fail
 refine (G3 40 N g3 A l c _ AA AA HGE.o.2.1 HV6.o).mono ?_;rintro ee w7 ⟨Z,rfl,hra,hv,ho⟩;obtain ⟨HX7,HV7,HQ7,HB27,HS7,HB77⟩:=Hd6 (HX6.o.only ho C8) hv ho (HB26.o.keep (ho.kept λb _ hb e=>DI)) (show w2.heap.size<=w7.heap.size by rw [ho.size];exact HS6.o) (HB76.o.keep (ho.kept λb _ hb e=>B8));clear HQ7 hv ho HX6 HV6 HB26 HS6 HB76
 go_wp2_with fail
 refine (G3 30 N g3 A l c _ AA AA HGE.o.2.1 HV7.o).mono ?_;rintro ee w8 ⟨rb,rfl,hrb,hv,ho⟩;obtain ⟨HX8,HV8,HQ8,HB28,HS8,b8⟩:=Hd6 (HX7.o.only ho C8) hv ho (HB27.o.keep (ho.kept λb _ hb e=>DI)) (show w2.heap.size<=w8.heap.size by rw [ho.size];exact HS7.o) (HB77.o.keep (ho.kept λb _ hb e=>B8));clear HQ8 hv ho HX7 HV7 HB27 HS7 HB77;have rf:=b8.o.frozen;have rl:=b8.o.lt;have z10:w8.cell? ⟨g7,10,none⟩=some (.I 0):=b8.o.q10;have z11:w8.cell? ⟨g7,11,none⟩=some (.I 0):=b8.o.q11
 go_upto_region 12 with fail
 obtain ⟨w9,hws⟩:=eqx (((w8.setCell ⟨g7,10,none⟩ (.I ((Z:Int)-5))).setCell ⟨g7,11,none⟩ (.I ((Z:Int)-5+(rb:Int)-3))));rw [<-hws];have HX9:=Hd (show Ext w w9 by rw [hws];exact ((HX8.o.set2 Gy _).set2 Gy _));have HB79:=Hd (show Blk w9 g7 36 #[.I (r0:Int),.I 0,.I 0,.I 0,.string ⟨#[]⟩,.string ⟨#[]⟩,.I 0,.I 0,.I 0,.I 0,.I ((Z:Int)-5),.I ((Z:Int)-5+(rb:Int)-3),.I (r4:Int),.I 0,.I 0,.slice none 0 0,.slice none 0 0,.bool ((r8:Int)==1)] by rw [hws];simpa using ((b8.o.set 10 (.I ((Z:Int)-5))).set 11 (.I ((Z:Int)-5+(rb:Int)-3))));have O:Kept (λb=>b≠g7) w8 w9:=by
  exact R2
 obtain ⟨HV9,HB29,HS9⟩:=Hd3 (HV8.o.keep (O.mono λb _ hb e=>B8)) (HB28.o.keep (O.mono λb _ hb e=>B8)) (show w2.heap.size<=w9.heap.size from Nat.le_trans HS8.o O.1);clear hws O rf rl HX8 b8 HV8 HB28 HS8 z10 z11
 go_wp2_with fail
 refine (G3 6 N g3 A l c _ AA AA HGE.o.2.1 HV9.o).mono ?_;rintro ee w10 ⟨rc,rfl,hrc,hv,ho⟩;obtain ⟨HX10,HV10,HQ10,HB210,HS10,HB710⟩:=Hd6 (HX9.o.only ho C8) hv ho (HB29.o.keep (ho.kept λb _ hb e=>DI)) (show w2.heap.size<=w10.heap.size by rw [ho.size];exact HS9.o) (HB79.o.keep (ho.kept λb _ hb e=>B8));clear HQ10 hv ho HX9 HV9 HB29 HS9 HB79
 go_wp2_with fail
 refine (G3 6 N g3 A l c _ AA AA HGE.o.2.1 HV10.o).mono ?_;rintro ee w11 ⟨rd,rfl,hrd,hv,ho⟩;obtain ⟨HX11,HV11,HQ11,HB211,HS11,b4⟩:=Hd6 (HX10.o.only ho C8) hv ho (HB210.o.keep (ho.kept λb _ hb e=>DI)) (show w2.heap.size<=w11.heap.size by rw [ho.size];exact HS10.o) (HB710.o.keep (ho.kept λb _ hb e=>B8));clear HQ11 hv ho HX10 HV10 HB210 HS10 HB710;have rf:=b4.o.frozen;have rl:=b4.o.lt;have z13:w11.cell? ⟨g7,13,none⟩=some (.I 0):=b4.o.q13;have z14:w11.cell? ⟨g7,14,none⟩=some (.I 0):=b4.o.q14
 go_upto_region 13 with fail
 obtain ⟨w12,hws⟩:=eqx (((w11.setCell ⟨g7,13,none⟩ (.I ((rc:Int)-1))).setCell ⟨g7,14,none⟩ (.I (rd:Int))));rw [<-hws];have HX12:=Hd (show Ext w w12 by rw [hws];exact ((HX11.o.set2 Gy _).set2 Gy _));have HB712:=Hd (show Blk w12 g7 36 #[.I (r0:Int),.I 0,.I 0,.I 0,.string ⟨#[]⟩,.string ⟨#[]⟩,.I 0,.I 0,.I 0,.I 0,.I ((Z:Int)-5),.I ((Z:Int)-5+(rb:Int)-3),.I (r4:Int),.I ((rc:Int)-1),.I (rd:Int),.slice none 0 0,.slice none 0 0,.bool ((r8:Int)==1)] by rw [hws];simpa using ((b4.o.set 13 (.I ((rc:Int)-1))).set 14 (.I (rd:Int))));have O:Kept (λb=>b≠g7) w11 w12:=by
  exact R2
 obtain ⟨HV12,HB212,HS12⟩:=Hd3 (HV11.o.keep (O.mono λb _ hb e=>B8)) (HB211.o.keep (O.mono λb _ hb e=>B8)) (show w2.heap.size<=w12.heap.size from Nat.le_trans HS11.o O.1);clear hws O rf rl HX11 b4 HV11 HB211 HS11 z13 z14
 go_wp2_with fail
 refine (G3 50 N g3 A l c _ AA AA HGE.o.2.1 HV12.o).mono ?_;rintro ee w13 ⟨re,rfl,hre,hv,ho⟩;obtain ⟨HX13,HV13,HQ13,HB213,HS13,HB713⟩:=Hd6 (HX12.o.only ho C8) hv ho (HB212.o.keep (ho.kept λb _ hb e=>DI)) (show w2.heap.size<=w13.heap.size by rw [ho.size];exact HS12.o) (HB712.o.keep (ho.kept λb _ hb e=>B8));clear HQ13 hv ho HX12 HV12 HB212 HS12 HB712
 go_wp2_with fail
 refine (G3 2 N g3 A l c _ AA AA HGE.o.2.1 HV13.o).mono ?_;rintro ee w14 ⟨rf,rfl,hrf,hv,ho⟩;obtain ⟨HX14,HV14,HQ14,HB214,HS14,HB714⟩:=Hd6 (HX13.o.only ho C8) hv ho (HB213.o.keep (ho.kept λb _ hb e=>DI)) (show w2.heap.size<=w14.heap.size by rw [ho.size];exact HS13.o) (HB713.o.keep (ho.kept λb _ hb e=>B8));clear HQ14 hv ho HX13 HV13 HB213 HS13 HB713
 go_wp2_with fail
 refine (G3 50 N g3 A l c _ AA AA HGE.o.2.1 HV14.o).mono ?_;rintro ee w15 ⟨rg,rfl,hrg,hv,ho⟩;obtain ⟨HX15,HV15,HQ15,HB215,HS15,HB715⟩:=Hd6 (HX14.o.only ho C8) hv ho (HB214.o.keep (ho.kept λb _ hb e=>DI)) (show w2.heap.size<=w15.heap.size by rw [ho.size];exact HS14.o) (HB714.o.keep (ho.kept λb _ hb e=>B8));clear HQ15 hv ho HX14 HV14 HB214 HS14 HB714
 go_wp2_with fail
 refine (G3 2 N g3 A l c _ AA AA HGE.o.2.1 HV15.o).mono ?_;rintro ee w16 ⟨rh,rfl,hrh,hv,ho⟩;obtain ⟨HX16,HV16,HQ16,HB216,HS16,HB716⟩:=Hd6 (HX15.o.only ho C8) hv ho (HB215.o.keep (ho.kept λb _ hb e=>DI)) (show w2.heap.size<=w16.heap.size by rw [ho.size];exact HS15.o) (HB715.o.keep (ho.kept λb _ hb e=>B8));clear HQ16 hv ho HX15 HV15 HB215 HS15 HB715
 go_wp2_with fail
 refine (G3 4 N g3 A l c _ AA AA HGE.o.2.1 HV16.o).mono ?_;rintro ee w17 ⟨ri,rfl,hri,hv,ho⟩;obtain ⟨HX17,HV17,HQ17,HB217,HS17,HB717⟩:=Hd6 (HX16.o.only ho C8) hv ho (HB216.o.keep (ho.kept λb _ hb e=>DI)) (show w2.heap.size<=w17.heap.size by rw [ho.size];exact HS16.o) (HB716.o.keep (ho.kept λb _ hb e=>B8));clear HQ17 hv ho HX16 HV16 HB216 HS16 HB716
 go_wp2_with fail
 refine (CeA _ _ _ _ _ _).mono ?_;rintro ee w18 ⟨rr,rfl,hx⟩;obtain ⟨HX18,HV18,HB218,a8,HS18⟩:=Hd5 (HX17.o.trans hx) (HV17.o.ext hx) (HB217.o.keep (hx.kept _)) (HB717.o.keep (hx.kept _)) (Nat.le_trans HS17.o hx.size);clear hx HX17 HV17 HB217 HB717 HS17;have rf:=a8.o.frozen;have rl:=a8.o.lt;have z6:w18.cell? ⟨g7,6,none⟩=some (.I 0):=a8.o.q6;have z7:w18.cell? ⟨g7,7,none⟩=some (.I 0):=a8.o.q7;have z8:w18.cell? ⟨g7,8,none⟩=some (.I 0):=a8.o.q8;have z9:w18.cell? ⟨g7,9,none⟩=some (.I 0):=a8.o.q9
 go_upto_region 14 with fail
 obtain ⟨w19,hws⟩:=eqx (((((w18.setCell ⟨g7,6,none⟩ (.I rr.ln)).setCell ⟨g7,7,none⟩ (.I rr.ls)).setCell ⟨g7,8,none⟩ (.I rr.hn)).setCell ⟨g7,9,none⟩ (.I rr.hs)));rw [<-hws];have HX19:=Hd (show Ext w w19 by rw [hws];exact ((((HX18.o.set2 Gy _).set2 Gy _).set2 Gy _).set2 Gy _));have HB719:=Hd (show Blk w19 g7 36 #[.I (r0:Int),.I 0,.I 0,.I 0,.string ⟨#[]⟩,.string ⟨#[]⟩,.I rr.ln,.I rr.ls,.I rr.hn,.I rr.hs,.I ((Z:Int)-5),.I ((Z:Int)-5+(rb:Int)-3),.I (r4:Int),.I ((rc:Int)-1),.I (rd:Int),.slice none 0 0,.slice none 0 0,.bool ((r8:Int)==1)] by rw [hws];simpa using ((((a8.o.set 6 (.I rr.ln)).set 7 (.I rr.ls)).set 8 (.I rr.hn)).set 9 (.I rr.hs)));have O:Kept (λb=>b≠g7) w18 w19:=by
  have hng:¬(g7≠g7):=λh=>h rfl;rw [hws];exact (((((Kept.refl (λb=>b≠g7) _).set2 hng).set2 hng).set2 hng).set2 hng)
 obtain ⟨HV19,HB219,HS19⟩:=Hd3 (HV18.o.keep (O.mono λb _ hb e=>B8)) (HB218.o.keep (O.mono λb _ hb e=>B8)) (show w2.heap.size<=w19.heap.size from Nat.le_trans HS18.o O.1);clear hws O rf rl HX18 a8 HV18 HB218 HS18 z6 z7 z8 z9
 go_upto_region 15 with fail
 obtain ⟨g9,U⟩:=eqx w19.heap.size;obtain ⟨w20,hws⟩:=eqx (w19.alloc (.cells #[.string ⟨#[97]⟩,.string ⟨#[98]⟩,.string ⟨#[99]⟩,.string ⟨#[107,105,110,100]⟩,.string ⟨#[97,109,111,117,110,116]⟩,.string ⟨#[]⟩,.string ⟨#[57]⟩] 9));rw [<-U,<-hws];have hx:Ext w19 w20:=(by rw [hws];exact (Ext.refl _).alloc _);have HB920:=Hd (show Blk w20 g9 9 #[.string ⟨#[97]⟩,.string ⟨#[98]⟩,.string ⟨#[99]⟩,.string ⟨#[107,105,110,100]⟩,.string ⟨#[97,109,111,117,110,116]⟩,.string ⟨#[]⟩,.string ⟨#[57]⟩] by rw [hws,U];exact Blk.new _ _ _);have HG79:=Hd (show g7<g9 by rw [U];exact HB719.o.lt);obtain ⟨HG9,HX20,HV20,HB220,HB720,HS20⟩:=Hd6 (show w2.heap.size<=g9 by have:=HG79.o;have:=HG7.o;omega) (HX19.o.trans hx) (HV19.o.ext hx) (HB219.o.keep (hx.kept _)) (HB719.o.keep (hx.kept _)) (Nat.le_trans HS19.o hx.size);clear hx hws U HX19 HV19 HB219 HB719 HS19
 go_wp2_with fail
 refine (G3 4 N g3 A l c _ AA AA HGE.o.2.1 HV20.o).mono ?_;rintro ee w21 ⟨rk,rfl,hrk,hv,ho⟩;obtain ⟨HX21,HV21,HQ21,HB221,HS21,HB721,HB921⟩:=Hd7 (HX20.o.only ho C8) hv ho (HB220.o.keep (ho.kept λb _ hb e=>DI)) (show w2.heap.size<=w21.heap.size by rw [ho.size];exact HS20.o) (HB720.o.keep (ho.kept λb _ hb e=>B8)) (HB920.o.keep (ho.kept λb _ hb e=>by have:=HG9.o;have:=HSZ.o;omega));clear HQ21 hv ho HX20 HV20 HB220 HS20 HB720 HB920;obtain ⟨M,hM⟩:=eqx w21.heap.size;have HGM:=Hd (show (g2<g3/\g3<g7/\g7<g9/\g9<M)/\N<=g2/\N=w.heap.size by have:=HGE.o;have:=HNN.o;have:=HSZ.o;have:=HG7.o;have:=HG79.o;have:=HB921.o.lt;omega);have HM:=Hd hM;clear hM
 go_upto_block 0 with fail
 go_wp2
 go_loopw [11] (λi wr=>∃ (k:Nat) (A8:OA) (c8:Nat) (cs:List BA),k<=rk/\i=.I k/\cs.length=k/\Blk wr g7 36 #[.I (r0:Int),.I 0,.I 0,.I 0,.string ⟨#[]⟩,.string ⟨#[]⟩,.I rr.ln,.I rr.ls,.I rr.hn,.I rr.hs,.I ((Z:Int)-5),.I ((Z:Int)-5+(rb:Int)-3),.I (r4:Int),.I ((rc:Int)-1),.I (rd:Int),.slice A8 cs.length c8,.slice none 0 0,.bool ((r8:Int)==1)]/\OwnSs wr M A8 c8 cs/\Blk wr g9 9 #[.string ⟨#[97]⟩,.string ⟨#[98]⟩,.string ⟨#[99]⟩,.string ⟨#[107,105,110,100]⟩,.string ⟨#[97,109,111,117,110,116]⟩,.string ⟨#[]⟩,.string ⟨#[57]⟩]/\MkV N g3 A l c wr/\Blk wr g2 36 Az/\Ext w wr/\M<=wr.heap.size) (λi _=>rk-(intOf i).toNat)
 case atStart=>exact ⟨0,none,0,[],AN,rfl,rfl,HB721.o,OwnSs.nil _ _,HB921.o,HV21.o,HB221.o,HX21.o,by rw [HM.o];exact Al⟩
 case round =>
  obtain ⟨k,A8,c8,cs,hk,rfl,hcl,hb7,ho8,hb9,hv,hb2,hx,hms⟩:=hrel;obtain ⟨HB7,HO8,b5,HV,b6,HX,HMS,HCL⟩:=Hd8 hb7 ho8 hb9 hv hb2 hx hms hcl;clear hb7 ho8 hb9 hv hb2 hx hms hcl HX21 HV21 HB221 HB721 HB921;by_cases hlt:k<rk
  ·obtain ⟨ws,rfl⟩:=eqx wr;have HAL:=Hd (show ∀ b,ob A8=some b->M<=b/\b<ws.heap.size from λb hb=>HO8.o.1.blk hb)
   go_upto_region 19 with fail
   refine B6 AD (λ| 13=>[11,13] | i=>[i]) AD (LV ((⟨MkV N g3 A l c,λm b=>((m=1003\/m=1004\/m=1007)/\b=g3)\/(m=1008/\(ob A8=some b\/ws.heap.size<=b))\/(m=1010/\b=g7)⟩:Qv))) (LV.refl _) (LV.trans _) (LK [(0,[1010]),(1,[1008,1010]),(2,[1010]),(3,[1003,1004,1010]),(4,[1004,1007,1010]),(5,[1010]),(6,[1007,1010]),(7,[1007,1008,1010]),(8,[1010]),(9,[1010]),(10,[1008,1010]),(11,[1008,1010]),(12,[1010]),(13,[1010])]) gz0 (LK.zero _) ?_;refine Qp ?_;refine Qm (λV F J L hR hN hp hρ zs zg=>by
    have hk10:=hN.o.key (k:=1010) AB;have hb0:=HB7.o.keep (hR.o.1.kept0 (S:=λb=>b=g7) λb _ e m hm=>by
     exact SL)
    have m0:J.cell? ⟨g7,15,none⟩=some (.slice A8 cs.length c8):=hb0.q15;clear hk10 hb0;exact Qk) ?_
   refine Qp ?_;refine Qs (FP λv F J=>ZdI 2 v) (H1A ?_) ?_ ?_
   ·intro v F w1 γ' w2 r h;exact h
   ·intro V F J L hR hN hp hρ zs zg;have hk:=hN.o.key (k:=1003) AB;have hv:=hR.o.2 (HV.o.keep (Kept.drew _ _));have HK:=Hd hk;have b3:=Hd hv;clear hk hv;refine Qr ?_;refine (G3 2 N g3 A l c J AA AA KZ b3.o).mono ?_;exact UC
   refine Qs (FP λv F J=>ZdI 3 v) (H1A ?_) ?_ ?_
   ·intro v F w1 γ' w2 r h;exact h
   ·intro V F J L hR hN hp hρ zs zg;have hk:=hN.o.key (k:=1004) AB;have hv:=hR.o.2 (HV.o.keep (Kept.drew _ _));have HK:=Hd hk;have b3:=Hd hv;clear hk hv;refine Qr ?_;refine (G3 3 N g3 A l c J AA AA KZ b3.o).mono ?_;exact So
   refine Qs (FP λv F J=>ZdI 3 v) (H1A ?_) ?_ ?_
   ·intro v F w1 γ' w2 r h;exact h
   ·intro V F J L hR hN hp hρ zs zg;obtain ⟨r3,hv3,hr3⟩:=hp.o 3 AB;have e82:=(hρ.o 82).trans hv3;obtain ⟨b7,hv4,hr4⟩:=hp.o 4 AB;have e83:=(hρ.o 83).trans hv4;have hml:r3*b7<=2:=Nat.le_trans (Nat.mul_le_mul (show r3<=1 by omega) (show b7<=2 by omega)) AA;have b9:IntKind.i64.wrap ((r3:Int)*(b7:Int))=((r3*b7:Nat):Int):=(by rw [<-Int.natCast_mul,IntKind.wrap_i64];omega);have HMW:=Hd b9;have HML:=Hd hml;clear b9 hml;refine Qr ?_;exact ⟨F,LV.refl _ _ _,λ_ _ _ h=>h,r3*b7,by rw [<-HMW.o];rfl,by have:=HML.o;omega⟩
   refine Qs (FP λv F J=>ZdJ v) (H1A ?_) ?_ ?_
   ·intro v F w1 γ' w2 r h;exact h
   ·intro V F J L hR hN hp hρ zs zg;obtain ⟨r5,hv5,hr5⟩:=hp.o 5 AB;have e84:=(hρ.o 84).trans hv5;have b9:IntKind.i64.wrap (5+(r5:Int))=((5+r5:Nat):Int):=Le;have HMW:=Hd b9;clear b9;refine Qr ?_;exact ⟨F,LV.refl _ _ _,λ_ _ _ h=>h,5+r5,by rw [<-HMW.o];rfl,AA,AA⟩
   refine Qs (FP λv F J=>ZdI 7 v) (H1A ?_) ?_ ?_
   ·intro v F w1 γ' w2 r h;exact h
   ·intro V F J L hR hN hp hρ zs zg;obtain ⟨r6,hv6,hr6,hr6'⟩:=hp.o 6 AB;have e85:=(hρ.o 85).trans hv6;have hk:=hN.o.key (k:=1007) AB;have hv:=hR.o.2 (HV.o.keep (Kept.drew _ _));have HK:=Hd hk;have b3:=Hd hv;clear hk hv;refine Qr ?_;refine (G3 r6 N g3 A l c J AA AA KZ b3.o).mono ?_;exact SO
   refine Qs (FP λv F J=>ZdX g9 v) (H1A ?_) ?_ ?_
   ·intro v F w1 γ' w2 r h;exact h
   ·intro V F J L hR hN hp hρ zs zg;obtain ⟨r7,hv7,hr7⟩:=hp.o 7 AB;have e86:=(hρ.o 86).trans hv7;have h87:r7<7:=AA;refine Qr ?_;exact ⟨F,LV.refl _ _ _,λ_ _ _ h=>h,r7,h87,rfl⟩
   refine Qs (FP λv F J=>ZdT v) (H1A ?_) ?_ ?_
   ·intro v F w1 γ' w2 r h;exact h
   ·intro V F J L hR hN hp hρ zs zg;obtain ⟨r,hr7,hv8⟩:=hp.o 8 AB;have e87:=(hρ.o 87).trans hv8;have hb9:=b5.o.keep (hR.o.1.kept0 (S:=λb=>b=g9) λb _ e m hm=>by
     rcases hm with ⟨h0,h⟩|⟨h0,h|h⟩|⟨h0,h⟩
     ·exact Kd
     ·exact MR
     ·exact Kd
     ·exfalso;have:=HGM.o;omega)
    exact Vr
   refine Qs (FP λv F J=>ZdB ws F J v) (H1A ?_) ?_ ?_
   ·rintro v F wx γ' wy rr ⟨g,s,h1,h2,h3,h4⟩;refine ⟨g,s,h1,h2,h3,λhk => ?_⟩;have hk0:F 1008=false:=by
     cases h6:F 1008 with
     |false=>rfl
     |true=>rw [rr.1.done _ h6] at hk;cases hk
    refine (h4 hk0).keep (rr.1.keptS (S:=λb=>b=g) λb _ e m hm => ?_)
    rcases hm with ⟨h0,h⟩|⟨h0,h|h⟩|⟨h0,h⟩
    ·exact Kd
    ·rw [h0,hk,hk0]
    ·rw [h0,hk,hk0]
    ·exact Kd
   ·intro V F J L hR hN hp hρ zs zg;obtain ⟨s,hv9,hs9⟩:=hp.o 9 AB;have e88:=(hρ.o 88).trans hv9;have HR:=hR;refine Qr ?_;have hxa:=(Ext.refl J).alloc (.cells #[.string s] 9);exact ⟨F,IRA _ F (λh=>h.ext hxa) hxa,λ_ _ _ h=>h,_,s,rfl,HR.o.1.size,hs9,λ_=>Blk.new _ _ _⟩
   refine Chain.step (FP λv F J=>ZdC M cs v F J) AG (H1A ?_) ?_ ?_
   ·rintro v F wx γ' wy rr ⟨A9,c9,s,h1,h2,h3⟩;refine ⟨A9,c9,s,h1,rr.1.done _ h2,⟨Own.keep h3.1 (rr.1.keptS λb _ hb m hm => ?_),h3.2⟩⟩
    rcases hm with ⟨h0,h⟩|⟨h0,h|h⟩|⟨h0,h⟩
    ·exact P3
    ·rw [h0,h2,rr.1.done _ h2]
    ·rw [h0,h2,rr.1.done _ h2]
    ·exact P3
   ·intro V F J L hR hN hp hρ hc hf hg;refine ⟨rfl,?_⟩;have hk8:=hN.key (k:=1008) AB;have e80:L (.tmp 80)=_:=(hρ 80).trans (hp 1 AB);obtain ⟨g,s,hv10,hg10,hss,b0⟩:=hp 10 AB;have e89:=(hρ 89).trans hv10;have hoo:=Own.keep HO8.o.1 (hR.1.kept0 (S:=λb=>ob A8=some b) λb _ hb m hm=>by
     rcases hm with ⟨h0,h⟩|⟨h0,h|h⟩|⟨h0,h⟩
     ·exact QL
     ·rw [h0];exact hk8
     ·rw [h0];exact hk8
     ·exact QL)
    have hsz:=hR.1.size;have e0:ws.drew.heap.size=ws.heap.size:=rfl;have hms:=HMS.o;have hc4:cs.length<=4:=(by have:=HCL.o;omega);refine Cw (.tmp 80) (.tmp 89) rfl tiS e80 hoo e89 (Blk.rd (b0 hk8)) rfl AP AA AB AA ?_;intro A9 c9 w9' hown9 U hat9;refine ⟨F.put 1008,⟨H2A hk8 U.os U.tape U.output U.size (λb hb hm=>U.block b hb λe=>hm (.inr (.inl ⟨rfl,.inl e.symm⟩))),λh=>h.keep (Kept.of_grown U λb hb _ e => ?_)⟩,LK.done AB,A9,c9,s,rfl,AU,⟨?_,λt ht => ?_⟩⟩
    ·have:=(HAL.o b e.symm).1;have:=HGM.o;omega
    ·exact QP
    ·rcases List.mem_append.1 ht with ht|ht
     ·exact HO8.o.2 t ht
     ·rw [List.mem_singleton.1 ht];omega
   refine Qp ?_;refine Qs (λvl F J=>match vl with|[v,_]=>FlG (cs.length+1) (λJ h=>Blk J g7 36 #[.I (r0:Int),.I 0,.I 0,.I 0,.string ⟨#[]⟩,.string ⟨#[]⟩,.I rr.ln,.I rr.ls,.I rr.hn,.I rr.hs,.I ((Z:Int)-5),.I ((Z:Int)-5+(rb:Int)-3),.I (r4:Int),.I ((rc:Int)-1),.I (rd:Int),h,.slice none 0 0,.bool ((r8:Int)==1)]) v F J|_=>True) ?_ ?_ ?_
   ·intro l F wx γ' wy rr h
    match l,h with
    |[],_=>trivial
    |[_],_=>trivial
    | [p,q],h=>exact (by
     obtain ⟨A6,c6,h1,h2,h3⟩:=h;exact ⟨A6,c6,h1,h2.keep (rr.1.keptS (S:=λb=>b=g7) λb _ e m hm=>by
      rcases hm with ⟨h0,h⟩|⟨h0,h|h⟩|⟨h0,h⟩
      ·exact Kd
      ·exact MR
      ·exact Kd
      ·rw [h0,h3,rr.1.done _ h3]),rr.1.done _ h3⟩)
    |_::_::_::_,_=>trivial
   ·intro V F J L hR hN hp hρ zs zg;obtain ⟨A9,c9,s,hv11,-,-⟩:=hp.o 11 AB;have e90:=(hρ.o 90).trans hv11;have hk10:=hN.o.key (k:=1010) AB;have hb0:=HB7.o.keep (hR.o.1.kept0 (S:=λb=>b=g7) λb _ e m hm=>by
     exact SL)
    obtain ⟨HB0,HK,HV8⟩:=Hd3 hb0 hk10 hv11;have q15:J.cell? ⟨g7,15,none⟩=some (.slice A8 cs.length c8):=hb0.q15;have qf:=hb0.frozen;have ql:=hb0.lt;clear hb0 hk10 hv11;refine Qr ?_;refine ⟨F.put 1010,⟨H2A HK.o rfl rfl rfl Y78171d3d0 (λb hb hm=>((Only.refl g7 J).set 15 (.slice A9 (cs.length+1) c9)).block b λe=>hm (.inr (.inr ⟨rfl,e⟩))),λh=>h.keep (((Only.refl g7 J).set 15 (.slice A9 (cs.length+1) c9)).kept λb _ hb e=>KZ)⟩,LK.done AB,A9,c9,HV8.o,?_,AU⟩;have hb1:=HB0.o.set 15 (.slice A9 (cs.length+1) c9)
    simpa using hb1
   intro V F wn hR hG;refine Qx ?_;obtain ⟨A9,c9,s,v11,-,ho9⟩:=hG 11 AB;obtain ⟨A7,c7,v11',b0,-⟩:=hG 13 AB;have hvv:=v11.symm.trans v11';injection hvv with hv1 hv2 hv3;rw [<-hv1,<-hv3] at b0;have HB10:=Hd b0;have HO9:=Hd ho9;have HXN:=Hd (show Ext w wn from Au HX.o (hR.1.buts (S:=λb=>w.heap.size<=b) (λm b _ hm _=>by
    exact TA)) (λb hb=>hb))
   have HVN:=Hd (hR.2 (HV.o.keep (Kept.drew _ _)));have d3:=hR.1.kept0 (S:=λb=>b=g2\/b=g9) λb _ e m hm=>by
    exfalso;exact TA
   obtain ⟨HB2N,HB9N,HMN⟩:=Hd3 (b6.out.keep (d3.mono λb _ e=>.inl e)) (b5.o.keep (d3.mono λb _ e=>.inr e)) (show M<=wn.heap.size from Nat.le_trans HMS.o hR.1.size);clear hR hG b0 ho9 v11 v11' hv1 hv2 hv3 d3;go_wp2;go_roundw
   case rel =>
    refine ⟨k+1,A9,c9,cs++[s],AA,AE,by rw [List.length_append,HCL.o];rfl,?_,HO9.o,HB9N.o,HVN.o,HB2N.o,HXN.o,HMN.o⟩;rw [List.length_append];exact HB10.o
   case measure=>simp [intOf];omega
  ·obtain rfl:k=rk:=AA
   go_upto_region 20 with fail
   obtain ⟨HX40,HV40,HB240,HB740,HB940,HS40,HCK⟩:=Hd7 HX.o HV.o b6.out HB7.o b5.o (show w2.heap.size<=wr.heap.size by have:=HMS.o;have:=HGM.o;have:=HG9.o;omega) (show cs.length<=4 by have:=HCL.o;omega);obtain ⟨w40,rfl⟩:=eqx wr;clear HX HV b6 HB7 b5
   go_wp2_with fail
   refine (G3 3 N g3 A l c _ AA AA HGE.o.2.1 HV40.o).mono ?_;rintro ee w41 ⟨rm,rfl,hrm,hv,ho⟩;obtain ⟨HX41,HV41,HQ41,HB241,HS41,HB741,HB941⟩:=Hd7 (HX40.o.only ho C8) hv ho (HB240.o.keep (ho.kept λb _ hb e=>DI)) (show w2.heap.size<=w41.heap.size by rw [ho.size];exact HS40.o) (HB740.o.keep (ho.kept λb _ hb e=>B8)) (HB940.o.keep (ho.kept λb _ hb e=>by have:=HG9.o;have:=HSZ.o;omega));clear hv ho HX40 HV40 HB240 HS40 HB740 HB940;have HO8K:=Hd (show OwnSs w41 M A8 c8 cs from ⟨Own.keep HO8.o.1 (HQ41.o.kept λb _ hb e=>by have:=(HO8.o.1.blk hb).1;have:=HGM.o;omega),HO8.o.2⟩);obtain ⟨Mq,hMq⟩:=eqx w41.heap.size;obtain ⟨HM2,HGM2,HA8⟩:=Hd3 hMq (show M<=Mq by rw [hMq,HQ41.o.size];exact HMS.o) (show ∀ b,ob A8=some b->M<=b/\b<Mq from λb hb=>by rw [hMq];exact HO8K.o.1.blk hb);clear hMq
   go_upto_block 2 with fail
   go_wp2
   go_loopw [12] (λi wr=>∃ (k:Nat) (D5:OA) (e5:Nat) (ds:List Dep),k<=rm/\i=.I k/\ds.length=k/\(∀ d∈ds,d.frm.length<=7)/\Blk wr g7 36 #[.I (r0:Int),.I 0,.I 0,.I 0,.string ⟨#[]⟩,.string ⟨#[]⟩,.I rr.ln,.I rr.ls,.I rr.hn,.I rr.hs,.I ((Z:Int)-5),.I ((Z:Int)-5+(rb:Int)-3),.I (r4:Int),.I ((rc:Int)-1),.I (rd:Int),.slice A8 cs.length c8,.slice D5 ds.length e5,.bool ((r8:Int)==1)]/\OwnDs wr Mq (λb=>b=g9) D5 e5 ds/\Blk wr g9 9 #[.string ⟨#[97]⟩,.string ⟨#[98]⟩,.string ⟨#[99]⟩,.string ⟨#[107,105,110,100]⟩,.string ⟨#[97,109,111,117,110,116]⟩,.string ⟨#[]⟩,.string ⟨#[57]⟩]/\MkV N g3 A l c wr/\Blk wr g2 36 Az/\Ext w wr/\Mq<=wr.heap.size/\OwnSs wr M A8 c8 cs) (λi _=>rm-(intOf i).toNat)
   case atStart=>exact ⟨0,none,0,[],AN,rfl,rfl,(λd hd=>BQ),HB741.o,OwnDs.nil _ _ _,HB941.o,HV41.o,HB241.o,HX41.o,by rw [HM2.o];exact Al,HO8K.o⟩
   case round =>
    obtain ⟨kk,D5,e5,ds,hk2,rfl,hcl,hds,hb7,ho8,hb9,hv,hb2,hx,hms,hos⟩:=hrel;obtain ⟨HB7,HOD,b5,HV,b6,HX,HMS2,HDL⟩:=Hd8 hb7 ho8 hb9 hv hb2 hx hms hcl;have HDS:=Hd hds;have HOS:=Hd hos;clear hb7 ho8 hb9 hv hb2 hx hms hcl hds hos HX41 HV41 HB241 HB741 HB941 HO8K;by_cases hlt2:kk<rm
    ·obtain ⟨ws,rfl⟩:=eqx wr;have HAL:=Hd (show ∀ b,ob D5=some b->Mq<=b/\b<ws.heap.size from λb hb=>HOD.o.blk hb)
     go_upto_region 24 with fail
     refine B6 AD (λ| 15=>[13,15] | i=>[i]) AD (LV ((⟨MkV N g3 A l c,λm b=>((m=1003\/m=1004\/m=1007)/\b=g3)\/(m=1008/\(ob D5=some b\/ws.heap.size<=b))\/(m=1010/\b=g7)⟩:Qv))) (LV.refl _) (LV.trans _) (LK [(0,[1010]),(1,[1008,1010]),(2,[1010]),(3,[1003,1004,1010]),(4,[1004,1007,1010]),(5,[1010]),(6,[1010]),(7,[1010]),(8,[1007,1008,1010]),(9,[1010]),(10,[1010]),(11,[1010]),(12,[1008,1010]),(13,[1008,1010]),(14,[1010]),(15,[1010])]) gz0 (LK.zero _) ?_;refine Qp ?_;refine Qm (λV F J L hR hN hp hρ zs zg=>by
      have hk10:=hN.o.key (k:=1010) AB;have hb0:=HB7.o.keep (hR.o.1.kept0 (S:=λb=>b=g7) λb _ e m hm=>by
       exact U7)
      have m0:J.cell? ⟨g7,16,none⟩=some (.slice D5 ds.length e5):=hb0.q16;clear hk10 hb0;exact Qk) ?_
     refine Qp ?_;refine Qs (FP λv F J=>ZdI 3 v) (H1A ?_) ?_ ?_
     ·intro v F w1 γ' w2 r h;exact h
     ·intro V F J L hR hN hp hρ zs zg;have hk:=hN.o.key (k:=1003) AB;have hv:=hR.o.2 (HV.o.keep (Kept.drew _ _));have HK:=Hd hk;have b3:=Hd hv;clear hk hv;refine Qr ?_;refine (G3 3 N g3 A l c J AA AA KZ b3.o).mono ?_;exact UC
     refine Qs (FP λv F J=>ZdI 2 v) (H1A ?_) ?_ ?_
     ·intro v F w1 γ' w2 r h;exact h
     ·intro V F J L hR hN hp hρ zs zg;have hk:=hN.o.key (k:=1004) AB;have hv:=hR.o.2 (HV.o.keep (Kept.drew _ _));have HK:=Hd hk;have b3:=Hd hv;clear hk hv;refine Qr ?_;refine (G3 2 N g3 A l c J AA AA KZ b3.o).mono ?_;exact So
     refine Qs (FP λv F J=>ZdN v) (H1A ?_) ?_ ?_
     ·intro v F w1 γ' w2 r h;exact h
     ·intro V F J L hR hN hp hρ zs zg;obtain ⟨b7,hv4,hr4⟩:=hp.o 4 AB;have e102:=(hρ.o 102).trans hv4;have b9:IntKind.i64.wrap (3+(b7:Int))=((3+b7:Nat):Int):=Le;have HMW:=Hd b9;clear b9;refine Qr ?_;exact ⟨F,LV.refl _ _ _,λ_ _ _ h=>h,3+b7,by rw [<-HMW.o];rfl,AA,AA⟩
     refine Qs (FP λv F J=>ZdF g9 v) (H1A ?_) ?_ ?_
     ·intro v F w1 γ' w2 r h;exact h
     ·intro V F J L hR hN hp hρ zs zg;obtain ⟨r3,hv3,hr3⟩:=hp.o 3 AB;have e101:=(hρ.o 101).trans hv3;obtain ⟨r5,hv5,hr5,hr5'⟩:=hp.o 5 AB;have e103:=(hρ.o 103).trans hv5;refine Qr ?_;rw [if_pos AA,if_pos AA,if_neg AA];exact ⟨F,LV.refl _ _ _,λ_ _ _ h=>h,some ⟨g9,r3,none⟩,7-r3,(zdW.drop r3).take (r5-r3),by rw [YW _ _ AA];rfl,by rw [YW _ _ AA];omega,by rw [YW _ _ AA];omega,λJ hb=>EaA hb r3 (r5-r3) AA⟩
     refine Qp ?_;refine Qs (FP λv F J=>ZdI 5 v) (H1A ?_) ?_ ?_
     ·intro v F w1 γ' w2 r h;exact h
     ·intro V F J L hR hN hp hρ zs zg;have hk:=hN.o.key (k:=1007) AB;have hv:=hR.o.2 (HV.o.keep (Kept.drew _ _));have HK:=Hd hk;have b3:=Hd hv;clear hk hv;refine Qr ?_;refine (G3 5 N g3 A l c J AA AA KZ b3.o).mono ?_;exact SO
     refine Qs (FP λv F J=>ZdX g9 v) (H1A ?_) ?_ ?_
     ·intro v F w1 γ' w2 r h;exact h
     ·intro V F J L hR hN hp hρ zs zg;obtain ⟨r8',hv8,hr8⟩:=hp.o 8 AB;have e106:=(hρ.o 106).trans hv8;have h87:r8'<7:=AA;refine Qr ?_;rw [if_pos AA];exact ⟨F,LV.refl _ _ _,λ_ _ _ h=>h,r8',h87,rfl⟩
     refine Qs (FP λv F J=>ZdT v) (H1A ?_) ?_ ?_
     ·intro v F w1 γ' w2 r h;exact h
     ·intro V F J L hR hN hp hρ zs zg;obtain ⟨r,hr7,hv9⟩:=hp.o 9 AB;have e107:=(hρ.o 107).trans hv9;have hb9:=b5.o.keep (hR.o.1.kept0 (S:=λb=>b=g9) λb _ e m hm=>by
       exact Ru)
      exact Vr
     refine Qs (FP λv F J=>ZdD g9 v) (H1A ?_) ?_ ?_
     ·intro v F w1 γ' w2 r h;exact h
     ·intro V F J L hR hN hp hρ zs zg;obtain ⟨B,e',fr,hv6,hf1,hf2,hf3⟩:=hp.o 6 AB;have e104:=(hρ.o 104).trans hv6;obtain ⟨s,hv10,hs10⟩:=hp.o 10 AB;have e108:=(hρ.o 108).trans hv10;obtain ⟨H1,H2,H3,H4⟩:=Hd4 hf1 hf2 hf3 hs10;clear hf1 hf2 hf3 hs10;refine Qr ?_;exact ⟨F,LV.refl _ _ _,λ_ _ _ h=>h,B,e',fr,s,rfl,H1.o,H2.o,H4.o,H3.o⟩
     refine Qs (FP λv F J=>ZdE ws g9 F J v) (H1A ?_) ?_ ?_
     ·rintro v F wx γ' wy rr ⟨g,B,e',fr,s,h1,h2,h3,h4,h5,h6,h7⟩;refine ⟨g,B,e',fr,s,h1,h2,h3,h4,h5,h6,λhk => ?_⟩;have hk0:F 1008=false:=by
       cases h8:F 1008 with
       |false=>rfl
       |true=>rw [rr.1.done _ h8] at hk;cases hk
      refine (h7 hk0).keep (rr.1.keptS (S:=λb=>b=g) λb _ e m hm => ?_)
      rcases hm with ⟨h0,h⟩|⟨h0,h|h⟩|⟨h0,h⟩
      ·exact Fs
      ·rw [h0,hk,hk0]
      ·rw [h0,hk,hk0]
      ·exact Fs
     ·intro V F J L hR hN hp hρ zs zg;obtain ⟨B,e',fr,s,hv11,hf1,hf2,hf3,hf4⟩:=hp.o 11 AB;have e109:=(hρ.o 109).trans hv11;have HR:=hR;obtain ⟨H1,H2,H3,H4⟩:=Hd4 hf1 hf2 hf3 hf4;clear hf1 hf2 hf3 hf4;refine Qr ?_;have hxa:=(Ext.refl J).alloc (.cells #[.slice B fr.length e',.string s] 64);exact ⟨F,IRA _ F (λh=>h.ext hxa) hxa,λ_ _ _ h=>h,_,B,e',fr,s,rfl,HR.o.1.size,H1.o,H2.o,H3.o,H4.o,λ_=>Blk.new _ _ _⟩
     refine Chain.step (FP λv F J=>ZdG Mq g9 ds v F J) AG (H1A ?_) ?_ ?_
     ·rintro v F wx γ' wy rr ⟨A9,c9,d,h1,h2,h4,h3⟩;refine ⟨A9,c9,d,h1,rr.1.done _ h2,h4,h3.keep (rr.1.keptS λb _ hb m hm => ?_)⟩;have hbb:b=g9\/Mq<=b:=hb.elim (λh=>.inr (h3.blk h).1) .inl
      rcases hm with ⟨h0,h⟩|⟨h0,h|h⟩|⟨h0,h⟩
      ·exact Fs
      ·rw [h0,h2,rr.1.done _ h2]
      ·rw [h0,h2,rr.1.done _ h2]
      ·exact Fs
     ·intro V F J L hR hN hp hρ hc hf hg;refine ⟨rfl,?_⟩;have hk8:=hN.key (k:=1008) AB;have e99:L (.tmp 99)=_:=(hρ 99).trans (hp 1 AB);obtain ⟨g,B,e',fr,s,hv12,hg12,hf1,hf2,hss,hf4,hb12⟩:=hp 12 AB;have e110:=(hρ 110).trans hv12;have hb9:=b5.o.keep (hR.1.kept0 (S:=λb=>b=g9) λb _ e m hm=>by
       exact Ru)
      have hoo:=HOD.o.keep (hR.1.kept0 (S:=λb=>ob D5=some b\/b=g9) λb _ hb m hm=>by
       have hbb:b=g9\/Mq<=b:=hb.elim (λh=>.inr (HAL.o b h).1) .inl
       rcases hm with ⟨h0,h⟩|⟨h0,h|h⟩|⟨h0,h⟩
       ·exact Fs
       ·rw [h0];exact hk8
       ·rw [h0];exact hk8
       ·exact Fs)
      obtain ⟨xs,hxl,ho,hvv⟩:=hoo.add;have hsz:=hR.1.size;have e0:ws.drew.heap.size=ws.heap.size:=rfl;have hms:=HMS2.o;have hc4:ds.length<=4:=(by have:=HDL.o;omega);refine Cw (.tmp 99) (.tmp 110) rfl tiD e99 ho e110 (Blk.rd (hb12 hk8)) rfl AP AA AB AA ?_;intro A9 c9 w9' hown9 U hat9;refine ⟨F.put 1008,⟨H2A hk8 U.os U.tape U.output U.size (λb hb hm=>U.block b hb λe=>hm (.inr (.inl ⟨rfl,.inl e.symm⟩))),λh=>h.keep (Kept.of_grown U λb hb _ e => ?_)⟩,LK.done AB,A9,c9,⟨fr,s⟩,rfl,AU,hf2,?_⟩
      ·have:=(HAL.o b e.symm).1;have:=HGM.o;have:=HGM2.o;have:=HMS2.o;omega
      ·exact OwnDs.push (r:=⟨fr,s⟩) hxl hvv hown9 U hat9 hf1 (by show s.size<=_;omega) ((hf4 J hb9).mono λb _ hb=>⟨λe=>by have:=(HAL.o b e).1;have:=HGM.o;have:=HGM2.o;have:=HMS2.o;omega,hb⟩)
     refine Qp ?_;refine Qs (λvl F J=>match vl with|[v,_]=>FlG (ds.length+1) (λJ h=>Blk J g7 36 #[.I (r0:Int),.I 0,.I 0,.I 0,.string ⟨#[]⟩,.string ⟨#[]⟩,.I rr.ln,.I rr.ls,.I rr.hn,.I rr.hs,.I ((Z:Int)-5),.I ((Z:Int)-5+(rb:Int)-3),.I (r4:Int),.I ((rc:Int)-1),.I (rd:Int),.slice A8 cs.length c8,h,.bool ((r8:Int)==1)]) v F J|_=>True) ?_ ?_ ?_
     ·intro l F wx γ' wy rr h
      match l,h with
      |[],_=>trivial
      |[_],_=>trivial
      | [p,q],h=>exact (by
       obtain ⟨A6,c6,h1,h2,h3⟩:=h;exact ⟨A6,c6,h1,h2.keep (rr.1.keptS (S:=λb=>b=g7) λb _ e m hm=>by
        rcases hm with ⟨h0,h⟩|⟨h0,h|h⟩|⟨h0,h⟩
        ·exact Fs
        ·exact P5
        ·exact Fs
        ·rw [h0,h3,rr.1.done _ h3]),rr.1.done _ h3⟩)
      |_::_::_::_,_=>trivial
     ·intro V F J L hR hN hp hρ zs zg;obtain ⟨A9,c9,d,hv13,-,-,-⟩:=hp.o 13 AB;have e111:=(hρ.o 111).trans hv13;have hk10:=hN.o.key (k:=1010) AB;have hb0:=HB7.o.keep (hR.o.1.kept0 (S:=λb=>b=g7) λb _ e m hm=>by
       exact U7)
      obtain ⟨HB0,HK,HV8⟩:=Hd3 hb0 hk10 hv13;have q16:J.cell? ⟨g7,16,none⟩=some (.slice D5 ds.length e5):=hb0.q16;have qf:=hb0.frozen;have ql:=hb0.lt;clear hb0 hk10 hv13;refine Qr ?_;refine ⟨F.put 1010,⟨H2A HK.o rfl rfl rfl Y78171d3d0 (λb hb hm=>((Only.refl g7 J).set 16 (.slice A9 (ds.length+1) c9)).block b λe=>hm (.inr (.inr ⟨rfl,e⟩))),λh=>h.keep (((Only.refl g7 J).set 16 (.slice A9 (ds.length+1) c9)).kept λb _ hb e=>KZ)⟩,LK.done AB,A9,c9,HV8.o,?_,AU⟩;have hb1:=HB0.o.set 16 (.slice A9 (ds.length+1) c9)
      simpa using hb1
     intro V F wn hR hG;refine Qx ?_;obtain ⟨A9,c9,d,v13,-,hd7,ho9⟩:=hG 13 AB;obtain ⟨A7,c7,v13',b0,-⟩:=hG 15 AB;have hvv:=v13.symm.trans v13';injection hvv with hv1 hv2 hv3;rw [<-hv1,<-hv3] at b0;obtain ⟨HB10,HO9,HD7⟩:=Hd3 b0 ho9 hd7;have HXN:=Hd (show Ext w wn from Au HX.o (hR.1.buts (S:=λb=>w.heap.size<=b) (λm b _ hm _=>by
      have:=HGM.o;have:=HGM2.o;have:=HMS2.o;exact Px)) (λb hb=>hb))
     have HVN:=Hd (hR.2 (HV.o.keep (Kept.drew _ _)));have d3:=hR.1.kept0 (S:=λb=>b=g2\/b=g9\/ob A8=some b) λb _ e m hm=>by
      exfalso;have:=HGM.o;have:=HGM2.o;have:=HMS2.o;have hbb:b=g2\/b=g9\/(M<=b/\b<Mq):=e.imp id λh=>h.imp id λh=>HA8.o b h;exact Px
     obtain ⟨HB2N,HB9N,HOSN,HMN⟩:=Hd4 (b6.out.keep (d3.mono λb _ e=>.inl e)) (b5.o.keep (d3.mono λb _ e=>.inr (.inl e))) (show OwnSs wn M A8 c8 cs from ⟨Own.keep HOS.o.1 (d3.mono λb _ e=>.inr (.inr e)),HOS.o.2⟩) (show Mq<=wn.heap.size from Nat.le_trans HMS2.o hR.1.size);clear hR hG b0 ho9 hd7 v13 v13' hv1 hv2 hv3 d3;go_wp2;go_roundw
     case rel =>
      refine ⟨kk+1,A9,c9,ds++[d],AA,AE,by rw [List.length_append,HDL.o];rfl,?_,?_,HO9.o,HB9N.o,HVN.o,HB2N.o,HXN.o,HMN.o,HOSN.o⟩
      ·intro d' hd'
       rcases List.mem_append.1 hd' with h|h
       ·exact HDS.o d' h
       ·rw [List.mem_singleton.1 h];exact HD7.o
      rw [List.length_append];exact HB10.o
     case measure=>simp [intOf];omega
    ·obtain rfl:kk=rm:=AA
     go_upto_region 25 with fail
     obtain ⟨HX50,HV50,HB250,HB750,HS50,HOD50,HOS50,HB950⟩:=Hd8 HX.o HV.o b6.out HB7.o (show w2.heap.size<=wr.heap.size by have:=HMS2.o;have:=HGM2.o;have:=HGM.o;have:=HG9.o;omega) HOD.o HOS.o b5.o;have HDK:=Hd (show ds.length<=4 by have:=HDL.o;omega);obtain ⟨w50,rfl⟩:=eqx wr;clear HX HV b6 HB7 b5 HOD HOS
     go_wp2_with fail
     refine (D6A l1 A1 c1 w50 _ (HI1.o.keep (HX50.o.kept _))).mono ?_;rintro ee w51 ⟨sh,hsh,rfl,hx⟩;obtain ⟨HSH,HXS,HX51,HV51,HB251,Y,HS51,HOD51⟩:=Hd8 hsh hx (HX50.o.trans hx) (HV50.o.ext hx) (HB250.o.keep (hx.kept _)) (HB750.o.keep (hx.kept _)) (Nat.le_trans HS50.o hx.size) (HOD50.o.ext hx);have d5:=Hd (HOS50.o.ext hx);have HB951:=Hd (HB950.o.keep (hx.kept _));clear hx hsh HX50 HV50 HB250 HB750 HS50 HOD50 HOS50 HB950;have rf:=Y.o.frozen;have rl:=Y.o.lt;have z1:w51.cell? ⟨g7,1,none⟩=some (.I 0):=Y.o.q1;have z2:w51.cell? ⟨g7,2,none⟩=some (.I 0):=Y.o.q2;have z3:w51.cell? ⟨g7,3,none⟩=some (.I 0):=Y.o.q3;have z4:w51.cell? ⟨g7,4,none⟩=some (.string ⟨#[]⟩):=Y.o.q4;have z5:w51.cell? ⟨g7,5,none⟩=some (.string ⟨#[]⟩):=Y.o.q5
     go_upto_region 26 with fail
     obtain ⟨w52,hws⟩:=eqx ((((((w51.setCell ⟨g7,1,none⟩ (.I sh.least)).setCell ⟨g7,2,none⟩ (.I sh.most)).setCell ⟨g7,3,none⟩ (.I sh.cls)).setCell ⟨g7,4,none⟩ (.string sh.b)).setCell ⟨g7,5,none⟩ (.string sh.e)));rw [<-hws];have HX52:=Hd (show Ext w w52 by rw [hws];exact (((((HX51.o.set2 Gy _).set2 Gy _).set2 Gy _).set2 Gy _).set2 Gy _));have HB752:=Hd (show Blk w52 g7 36 #[.I (r0:Int),.I sh.least,.I sh.most,.I sh.cls,.string sh.b,.string sh.e,.I rr.ln,.I rr.ls,.I rr.hn,.I rr.hs,.I ((Z:Int)-5),.I ((Z:Int)-5+(rb:Int)-3),.I (r4:Int),.I ((rc:Int)-1),.I (rd:Int),.slice A8 cs.length c8,.slice D5 ds.length e5,.bool ((r8:Int)==1)] by rw [hws];simpa using (((((Y.o.set 1 (.I sh.least)).set 2 (.I sh.most)).set 3 (.I sh.cls)).set 4 (.string sh.b)).set 5 (.string sh.e)));have O:Kept (λb=>b≠g7) w51 w52:=by
      have hng:¬(g7≠g7):=λh=>h rfl;rw [hws];exact ((((((Kept.refl (λb=>b≠g7) _).set2 hng).set2 hng).set2 hng).set2 hng).set2 hng)
     have d4:=Hd (HOD51.o.keep (O.mono λb _ hb e=>by
      have hbb:b=g9\/Mq<=b:=hb.elim (λh=>.inr (HOD51.o.blk h).1) .inl;have:=HGM.o;have:=HGM2.o;omega))
     obtain ⟨HOS52,HV52,HB252,HS52⟩:=Hd4 (show OwnSs w52 M A8 c8 cs from ⟨Own.keep d5.o.1 (O.mono λb _ hb e=>by have:=(d5.o.1.blk hb).1;have:=HGM.o;omega),d5.o.2⟩) (HV51.o.keep (O.mono λb _ hb e=>B8)) (HB251.o.keep (O.mono λb _ hb e=>B8)) (show w2.heap.size<=w52.heap.size from Nat.le_trans HS51.o O.1);clear HOD51 d5 HB951 hws O rf rl HX51 Y HV51 HB251 HS51 z1 z2 z3 z4 z5;obtain ⟨af,haf⟩:∃ z:Abs,z=⟨(r0:Int),sh,rr,(Z:Int)-5,(Z:Int)-5+(rb:Int)-3,(r4:Int),(rc:Int)-1,(rd:Int),cs,ds,(r8:Int)==1⟩:=⟨_,rfl⟩;have HAF:=Hd haf;have HBA:=Hd (show Blk w52 g7 36 (Ap af A8 c8 D5 e5) by rw [HAF.o];exact HB752.o);have HNA:=Hd (show AbN 2000 af by rw [HAF.o];exact ⟨Nat.le_trans HSH.o.1 AB,Nat.le_trans HSH.o.2 AB,Nat.le_trans HCK.o AB,Nat.le_trans HDK.o AB,λd hd=>Nat.le_trans (HDS.o d hd) AB⟩);have HAM:=Hd (show AbM w52 (λb=>N<=b/\b≠g2) af A8 c8 D5 e5 by
      rw [HAF.o];refine ⟨HOS52.o.1.cap,by obtain ⟨hs,_,h1,_⟩:=d4.o.add;exact h1.cap,HOS52.o.strs (Nat.le_trans HCK.o AB) λb hb => ?_,d4.o.rdeps (Nat.le_trans HDK.o AB) (λb hb => ?_) λb hb => ?_⟩
      ·have:=(HA8.o b hb).1;have:=HGM.o;omega
      ·have:=(d4.o.blk hb).1;have:=HGM.o;have:=HGM2.o;omega
      ·have:=HGM.o;omega)
     clear haf HB752 d4 HOS52 HV52
     skip
     refine wp_region_lit ?_;refine AJ rfl 36 _ rfl g7 rfl HBA.o AS AH ?_;refine AM rfl 36 _ _ rfl g2 (Ap af A8 c8 D5 e5) rfl rfl 36 _ HB252.o AH rfl AD ?_;intro wf hbf hof;obtain ⟨HXF,HBF,HABF⟩:=Hd3 (HX52.o.only hof KZ) hbf ((HAM.o.keep (hof.kept λb _ hb e=>hb.2 e)).mono (T:=λb=>False\/w.heap.size<=b) λb _ hb=>KZ);clear hbf hof
     go_wp2_with fail
     refine bodyPost_ret (Bv results5 rfl (Eq HBF.o AS AH)) rfl ?_;exact ⟨af,HNA.o,_,_,_,_,rfl,HABF.o,HXF.o⟩



theorem BkA(a:Abs)(A D:OA)(c e:Nat)(w:World)(S:NP)(hA:Strs w S A a.cols)(hD:RDeps w S D a.deps)(hz:AbN 1000000 a) :
  Cl 13 #[(Aq a A c D e)] w (Ae w (Lq a)):=by
 obtain ⟨w0,hw0⟩:=eqx (w.alloc (.cells (Ap a A c D e) 36));obtain ⟨g1,hg1⟩:=eqx w.heap.size;have hx0:Ext w w0:=BS;have hb1:Blk w0 g1 36 (Ap a A c D e):=(by rw [hw0,hg1];exact Blk.new _ _ _);obtain ⟨Z,Y,HB1,HX0,HC⟩:=Hd5 hw0 hg1 hb1 hx0 (EG a A D c e w0 S (hA.keep (hx0.kept _)) (hD.keep (hx0.kept _)) hz);obtain ⟨s,hs⟩:=eqx (AX a);have HE:=Hd (show Lq a=(decide (s.kinds=0)&&!s.errs) by rw [hs];rfl);rw [<-hs] at HC;clear hw0 hg1 hb1 hx0 hA hD hz hs
 go_enter func13,ntmps13
 go_upto_region 1 with fail
 rw [<-Z.o,<-Y.o];refine wp_region_lit ?_;refine AJ rfl 36 _ rfl g1 rfl HB1.o AS AH ?_
 go_wp2_with fail
 refine HC.o.mono ?_;rintro e1 w1 ⟨A',c',D',e',rfl,-,hx1⟩;have HX1:=Hd (HX0.o.trans hx1);clear hx1;rename_i K1 hK1 K2 hK2;refine hK2 _ _ ?_;refine Ag rfl rfl ?_;obtain ⟨g3,hg3⟩:=eqx w1.heap.size;rw [<-hg3];refine AM rfl 36 _ _ rfl g3 (Ap s A' c' D' e') rfl rfl 36 _ (GK hg3) AH rfl AD ?_;intro w2 O U;have HX2:=Hd ((HX1.o.alloc _).only U (by have:=HX1.o.size;omega));have q0:=O.q0;have q17:w2.cell? ⟨g3,17,none⟩=some (.bool s.errs):=O.q17;refine hK1 _ _ ?_;clear hK1 hK2 O U hg3;by_cases hk:s.kinds=0
 ·exact VP
 ·have hkk:(s.kinds==0)=false:=Br;have HF:=Hd (show Lq a=false by rw [HE.o,decide_eq_false hk,Bool.false_and]);go_wp2;go_ret;exact ⟨by rw [HF.o];simp,HX2.o⟩

theorem UW(h:qP:=by
 go_wp2_with fail
 go_ret;exact ⟨by rw [HF2.o];rfl,HXG.o⟩):qP:=h
theorem ZI(q:Nat)(a:Abs)(x:Val)(A D B C:OA)(c e cb cc:Nat)(w:World)(S T:NP)(hA:Strs w S A a.cols)(hD:RDeps w S D a.deps)(hx:RV w T q x B C)(hz:AbN 1000000 a) :
  Cl 10 #[(Aq a A c D e),(Vq x B cb C cc)] w (Ae w (AW a x)):=by
 obtain ⟨hz1,hz2,-⟩:=hz;obtain ⟨w0,hw0⟩:=eqx ((w.alloc (.cells (Ap a A c D e) 36)).alloc (.cells (Vp x B cb C cc) 40));obtain ⟨g2,hg2⟩:=eqx w.heap.size;obtain ⟨g3,hg3⟩:=eqx (w.heap.size+1);have hx0:Ext w w0:=Bh;have hb2:Blk w0 g2 36 (Ap a A c D e):=Gr;have O:Blk w0 g3 40 (Vp x B cb C cc):=OQ;obtain ⟨p0,p1,p2,p3,p4,p5,p6⟩:=O.qs7;obtain ⟨HB2,HB3,HW0,HG2,HG3,HX0,HA,HD⟩:=Hd8 hb2 O hw0 hg2 hg3 hx0 (hA.keep (hx0.kept _)) (hD.keep (hx0.kept _));have HV:=Hd (hx.keep (hx0.kept _));have hss:=hx.size;have HRT:=Hd (C8A q x B C cb cc w0 T (hx.keep (hx0.kept _)));clear hw0 hg2 hg3 hx0 hb2 O hA hD hx
 go_enter func10,ntmps10
 go_upto_region 1 with fail
 rw [<-HW0.o,<-HG3.o,<-HG2.o]
 go_wp2_with fail
 cases hr:BC x
 ·exact VC
 have HR:=Hd hr;rw [hr] at HRT;clear hr;refine HRT.o.mono ?_;rintro e1 w1 ⟨rfl,hx1⟩;have HX1:=Hd (HX0.o.trans hx1);have HXA:=Hd hx1;clear hx1 p0 p1 p2 p3 p4 p5 p6;have HB21:=Hd (HB2.o.keep (HXA.o.kept _));have b4:=Hd (HB3.o.keep (HXA.o.kept _));have p0:=b4.o.q0;by_cases hk0:x.kind=0
 ·exact UV
 have hkz:(x.kind==0)=false:=(by simpa using hk0);obtain ⟨k,hk⟩:∃ k:Nat,x.kind=(k:Int):=⟨x.kind.toNat,by rcases Dh HR.o with h|h|h|h|h|h<;>rw [h]<;>rfl⟩;have hk5:1<=k/\k<=5:=(by rcases Dh HR.o with h|h|h|h|h|h<;>omega);obtain ⟨bk,a8⟩:=eqx (bt a.kinds k);obtain ⟨HHA,HK,HK5,b0,HPA⟩:=Hd5 (show ∀ J,Cl 42 #[(Aq a A c D e),.I x.kind] J (Ae J bk) from λJ=>by rw [a8,hk];exact IC a A D c e k AA J) hk hk5 a8 (show AW a x=Ha a x by unfold AW;rw [HR.o,if_neg hk0];rfl);clear a8 hk hk5
 go_upto_region 6 with fail
 refine wp_region_lit ?_;refine AJ rfl 36 _ rfl g2 rfl HB21.o AS AH ?_
 go_wp2_with fail
 refine (HHA.o _).mono ?_;rintro e2 wx ⟨rfl,hxx⟩;have HXW:=Hd (HXA.o.trans hxx);obtain ⟨HXF,HB2X,HB3X⟩:=Hd3 (HX1.o.trans hxx) (HB2.o.keep (HXW.o.kept _)) (HB3.o.keep (HXW.o.kept _));clear hxx p0;cases bk
 ·have HF:=Hd (show AW a x=false by
   have hb:bt a.kinds k=false:=b0.o.symm;exact Wn)
  go_wp2_with fail
  go_ret;exact ⟨BB,HXF.o⟩
 have HB:=Hd (show bt a.kinds k=true from b0.o.symm);have p0:=HB3X.o.q0;have hk1:=HK.o;have hk2:=HK5.o
 rcases (show k=1\/k=2\/k=3\/k=4\/k=5 by omega) with h|h|h|h|h
 ·subst h;have hke:x.kind=1:=hk1;have HF:=Hd (show AW a x=Aj a.tx x.s by rw [HPA.o];unfold Ha;rw [if_pos hke,HB.o];rfl);have HC:=Hd (Wt a.tx x.s AA AA hss wx);exact Sv
 ·subst h;have hke:x.kind=2:=hk1;have HF:=Hd (show AW a x=BD a.nu x.dn x.ds by rw [HPA.o];unfold Ha;rw [if_neg AA,if_pos hke,HB.o];rfl);have HC:=Hd (ZH a.nu x.dn x.ds wx);exact VY
 ·exact RR
 ·subst h;have hke:x.kind=4:=hk1;have HF:=Hd (show AW a x=bt a.bo x.n.toNat by rw [HPA.o];unfold Ha;rw [if_neg AA,if_neg AA,if_neg AA,if_pos hke,HB.o];rfl);have hbn:=GOA HR.o hke;have q12:=HB2X.o.q12;have p4:=HB3X.o.q4;clear hk1 hk2
  rcases hbn with h0|h0
  ·have HS:=Hd (FbA a.bo 0 AA)
   go_wp2_with fail
   go_ret;refine ⟨?_,HXF.o⟩;rw [HF.o,h0,show (0:Int).toNat=0 from rfl,<-HS.o,show a.bo / (2:Int)^0=a.bo from Int.ediv_one _];rfl
  ·have HS:=Hd (FbA a.bo 1 AA)
   go_wp2_with fail
   go_ret;refine ⟨?_,HXF.o⟩;rw [HF.o,h0,show (1:Int).toNat=1 from rfl,<-HS.o,show (2:Int)^1=2 from rfl];rfl
 ·subst h;have hke:x.kind=5:=hk1;have HF:=Hd (show AW a x=ED a x by rw [HPA.o];unfold Ha;rw [if_neg AA,if_neg AA,if_neg AA,if_neg AA,HB.o];rfl);clear hk1 hk2;have q15:wx.cell? ⟨g2,15,none⟩=some (.slice A a.cols.length c):=HB2X.o.q15;have hal:=HA.o.2.1;have hdl:=HD.o.1;obtain ⟨wp,b3⟩:=eqx wx;have HWP:=Hd b3;clear b3;go_wp2
  go_loopw [6] (λi wr=>∃ k:Nat,k<=a.cols.length/\i=.I k/\Ext wx wr/\∀ j (h:j<a.cols.length),j<k->Aw x.cols a.cols[j]=true) (λi _=>a.cols.length-(intOf i).toNat)
  case atStart=>exact ⟨0,AN,rfl,Ext.refl _,AK⟩
  case round =>
   clear q15 p0;obtain ⟨k,hk,rfl,hext,hall⟩:=hrel;have HE:=Hd hext;have HAL:=Hd hall;clear hall;have q15:wr.cell? ⟨g2,15,none⟩=some (.slice A a.cols.length c):=(HB2X.o.keep (hext.kept _)).q15;by_cases hlt:k<a.cols.length
   ·obtain ⟨b1,o1,he1,z1,c1⟩:=(HA.o.keep ((HXW.o.trans hext).kept _)).at_ hlt;subst he1;obtain ⟨LC,KC,CK⟩:=Hd3 q15 ((HB3X.o.keep (hext.kept _)).q5) c1;obtain ⟨m,hm⟩:=eqx (Aw x.cols a.cols[k]);have HIN:=Hd (show ∀ J,Ext wr J->Cl 45 #[.slice B x.cols.length cb,.string a.cols[k]] J (SameB J m) from λJ hw'=>by rw [hm];exact Y5 B cb x.cols a.cols[k] J T (HV.o.strs.keep (((HXW.o.trans HE.o).trans hw').kept _)));have HM:=Hd hm;clear hext hm c1
    go_upto_region 20 with fail
    clear q15;refine Qa (λ_ _=>False) [] ?_
    iterate 7 refine Qp ?_
    refine Qd (λJ HXW=>HIN.o J HXW.o) ?_;refine Qp ?_;intro V F w9 hR hG;refine Qx ?_;have HXN:=Hd (show Ext wr w9 from hR.ext0 (λ_ _ _ h=>h.elim));clear hR hG;cases m
    ·have HF2:=Hd (show AW a x=false by rw [HF.o];unfold ED;rw [CX a.cols (Aw x.cols) k hlt HM.o.symm];simp);have HXG:=Hd ((HXF.o.trans HE.o).trans HXN.o);exact UW
    ·go_wp2_with fail
     go_roundw
     case rel =>
      refine ⟨k+1,AA,AE,HE.o.trans HXN.o,λj h hj => ?_⟩;by_cases hjk:j=k
      ·subst hjk;exact HM.o.symm
      ·exact HAL.o j h AA
     case measure=>simp [intOf];omega
   ·have a9:=Hd (show ED a x=(decide (a.rl<=x.rows.length)&&decide ((x.rows.length:Int)<=a.rh)&&a.deps.all λd=>BH x.cols x.rows d.frm d.tov) by unfold ED;rw [CH a.cols (Aw x.cols) (λj h=>HAL.o j h AA),Bool.and_true]);have q16:wr.cell? ⟨g2,16,none⟩=some (.slice D a.deps.length e):=(HB2X.o.keep (hext.kept _)).q16;obtain ⟨wq,rfl⟩:∃ wq:World,wq=wr:=⟨_,rfl⟩;clear hext;go_wp2
    go_loopw [8] (λi wr=>∃ k:Nat,k<=a.deps.length/\i=.I k/\Ext wx wr/\∀ j (h:j<a.deps.length),j<k->(λd:Dep=>BH x.cols x.rows d.frm d.tov) a.deps[j]=true) (λi _=>a.deps.length-(intOf i).toNat)
    case atStart=>exact ⟨0,AN,rfl,HE.o,AK⟩
    case round =>
     clear q15 q16;obtain ⟨m,hm,rfl,hext,hall⟩:=hrel;have Y:=Hd hext;have HDL:=Hd hall;clear hall;have q16:wr.cell? ⟨g2,16,none⟩=some (.slice D a.deps.length e):=(HB2X.o.keep (hext.kept _)).q16;by_cases hlm:m<a.deps.length
     ·obtain ⟨b1,o1,B1,e1,he1,z1,c1,c2,f1,f2,f3⟩:=(HD.o.keep ((HXW.o.trans hext).kept _)).at_ hlm;subst he1;obtain ⟨LD,KC,KD,C0,C1⟩:=Hd5 q16 ((HB3X.o.keep (hext.kept _)).q5) ((HB3X.o.keep (hext.kept _)).q6) c1 c2;obtain ⟨mk,hmk⟩:=eqx m;have U:=Hd f3;obtain ⟨m',Z⟩:=eqx (BH x.cols x.rows a.deps[m].frm a.deps[m].tov);have HHO:=Hd (show ∀ J,Ext wr J->Cl 46 #[.slice B x.cols.length cb,.slice C x.rows.length cc,.agg #[.slice B1 a.deps[m].frm.length e1,.string a.deps[m].tov]] J (Ae J m') from λJ hw'=>by rw [Z];exact CyA q x.cols x.rows a.deps[m].frm a.deps[m].tov B C B1 cb cc e1 J T T _ (HV.o.strs.keep (((HXW.o.trans Y.o).trans hw').kept _)) (HV.o.rows_.keep (((HXW.o.trans Y.o).trans hw').kept _)) (U.o.keep (hw'.kept _)));have HM:=Hd Z;clear hext Z c1 c2 f1 f2 f3 hmk
      go_upto_region 26 with fail
      clear q16;refine Qa (λ_ _=>False) [] ?_
      iterate 9 refine Qp ?_
      refine Qd (λJ HXW=>HHO.o J HXW.o) ?_;refine Qp ?_;intro V F w9 hR hG;refine Qx ?_;have HXN:=Hd (show Ext wr w9 from hR.ext0 (λ_ _ _ h=>h.elim));clear hR hG;cases m'
      ·have HF2:=Hd (show AW a x=false by rw [HF.o,a9.o,CX a.deps (λd=>BH x.cols x.rows d.frm d.tov) m hlm HM.o.symm];simp);have HXG:=Hd ((HXF.o.trans Y.o).trans HXN.o);exact UW
      ·go_wp2_with fail
       go_roundw
       case rel =>
        refine ⟨m+1,AA,AE,Y.o.trans HXN.o,λj h hj => ?_⟩;by_cases hjk:j=m
        ·subst hjk;exact HM.o.symm
        ·exact HDL.o j h AA
       case measure=>simp [intOf];omega
     ·have HF2:=Hd (show AW a x=(decide (a.rl<=x.rows.length)&&decide ((x.rows.length:Int)<=a.rh)) by rw [HF.o,a9.o,CH a.deps (λd=>BH x.cols x.rows d.frm d.tov) (λj h=>HDL.o j h AA),Bool.and_true]);have HXG:=Hd (HXF.o.trans Y.o);have hb2:=HB2X.o.keep (hext.kept _);have O:=HB3X.o.keep (hext.kept _);have q13:=hb2.q13;have q14:=hb2.q14;have p6:=O.q6;clear hext hb2 O;by_cases h1:a.rl<=(x.rows.length:Int)
      ·have U:=Hd (show AW a x=decide ((x.rows.length:Int)<=a.rh) by rw [HF2.o,decide_eq_true h1,Bool.true_and]);go_wp2;go_ret;exact ⟨by rw [U.o];rfl,HXG.o⟩
      ·have U:=Hd (show AW a x=false by rw [HF2.o,decide_eq_false h1,Bool.false_and]);go_wp2;go_ret;exact ⟨by rw [U.o];first|rfl|(simp;omega),HXG.o⟩


theorem XZ{ops:Array Oper}{rest:List Oper}{o:Oper}{a:Act}{Q:Exit->Act->World->Prop}(hgd:o.guard=none)(ho:o.op=.alloc 40)
  (h:wpList prog ops Q rest (a.put o.dst (.pointer (some ⟨w.heap.size,0,none⟩))) (w.alloc (.cells Vz 40))):wpList prog ops Q (o::rest) a w:=by
 exact GM
theorem GuA(h:g=w.heap.size):Blk (w.alloc (.cells Vz 40)) g 40 Vz:=by
 rw [h];exact Blk.new _ _ _
