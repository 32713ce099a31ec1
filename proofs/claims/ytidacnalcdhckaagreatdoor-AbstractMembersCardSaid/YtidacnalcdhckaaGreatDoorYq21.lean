/- Lemmas. No conditions. -/
import Derived.Test.YtidacnalcdhckaaGreatDoorYq20
import Derived.Lib.AppendZeros
set_option maxRecDepth 100000
set_option maxHeartbeats 4000000
namespace Go.Proofs.YtidacnalcdhckaaGreatDoor
open Go Go.RowKit Tryz
variable {qP:Prop}{l:List Dep}

def HeA(ws:World)(out:List BA)(no a:Nat)(v:Value):Prop:=∃ (B:OA) (c2:Nat),v=.slice B (no-a) c2/\Rd ws (λb=>b<ws.heap.size) B ((out.map Value.string).drop a)
theorem Ib(h:qP:=by
 cases h6:γ 1008 with
 |false=>rfl
 | true=>rw [rr.done _ h6] at hk;cases hk):qP:=h
theorem Tp(h:qP:=by
 rintro v γ w1 γ' w2 rr ⟨A4,c4,h1,h2,h3⟩;exact ⟨A4,c4,h1,rr.done _ h2,Own.keep h3 (rr.keptS λb _ e m hm=>by rw [hm.1,h2,rr.done _ h2])⟩):qP:=h
theorem Zp(h:qP:=by
 exact (HXS9.o.trans HX6.o).grown hg7 (λb hb=>by have:=(HO6.o.blk hb).1;have:=HXS9.o.size;omega)):qP:=h
theorem BjA(h:qP:=by
 refine Strs.of_own hown7 (by have:=HXS9.o.size;omega) (by rw [HI.o];simp) (by rw [HI.o,HIN.o.symm,hll];omega) λy hy => ?_;rw [HI.o,HIN.o.symm] at hy
 rcases (Cv s y out).1 hy with rfl|hy
 ·exact hss
 ·exact HH.o.2.2 y hy):qP:=h
theorem R4(h:qP:=by
 refine ⟨k+1,A7,c7,by omega,by go_num,by rw [HI.o,HIN.o.symm,hll]<;>rfl,?_,by rw [HI.o,HIN.o.symm,hll];exact hown7.ok,?_⟩
 ·exact Zp
 ·exact BjA):qP:=h
theorem JO(h:qP:=by first|(simp;done)|(simp [HNO.o];done)|(simp [HNO.o];omega)):qP:=h
theorem E0(h:qP:=by first|omega|(simp;done)|(simp;omega)):qP:=h
theorem CjA(l:List BA)(A:OA)(c:Nat)(w:World)(S:NP)(h:Strs w S A l)(hl:l.length<=1000000) :
  Cl 78 #[.slice A l.length c] w (Wq w.heap.size w (nmS l)):=by
 have hn:=h.2.1;have H:=Hd h;clear h
 go_enter func78,ntmps78
 go_wp2
 go_loopw [4,3] (λi v wr=>∃ (k:Nat) (A':OA) (c':Nat),k<=l.length/\i=.I k/\v=.slice A' (nmS (l.take k)).length c'/\Ext w wr/\Y4 A' (nmS (l.take k)).length c'/\Strs wr (λb=>w.heap.size<=b) A' (nmS (l.take k))) (λi _ _=>l.length-(intOf i).toNat)
 case atStart=>exact ⟨0,none,0,AN,rfl,rfl,Ext.refl _,.inl ⟨rfl,rfl,rfl⟩,⟨.inl rfl,by simp [nmS],by simp [nmS]⟩⟩
 case round =>
  obtain ⟨k,A',c',hk,rfl,rfl,hext,b7,hst⟩:=hrel;obtain ⟨HE,U,HH⟩:=Hd3 hext b7 hst;by_cases hlt:k<l.length
  ·obtain ⟨s,hs⟩:=eqx (l[k]);have hss:s.size<=4294967296:=(by rw [hs];exact H.o.sz hlt);have b4:nmS (l.take (k+1))=EW s (nmS (l.take k)):=(by rw [List.take_succ_eq_append_getElem hlt,NC,hs]);have hsz:(nmS (l.take k)).length<=k:=(by have:=FGA (l.take k);rw [List.length_take] at this;omega);have a8:=Y2 (l.take k);obtain ⟨b0,o0,rfl,z0,c0⟩:=(H.o.keep (hext.kept S)).at_ hlt;rw [<-hs] at c0;obtain ⟨out,b8⟩:=eqx (nmS (l.take k));rw [<-b8] at b4 hsz a8 U HH|-;obtain ⟨HNX,HSO,HS,C0⟩:=Hd4 b4 a8 hs c0;clear hext b7 hst b4 a8 b8 hs;go_wp2
   go_loopw [7,6,5] (λi tw at_ ws=>∃ j a n:Nat,j<=out.length/\i=.I j/\tw=.bool (Aw (out.take j) s)/\at_=.I a/\ws=wr.drewN n/\AtN out s j a) (λi _ _ _=>out.length-(intOf i).toNat)
   case atStart=>exact ⟨0,0,0,AN,rfl,by simp [Aw,Bt],rfl,rfl,AtN.zero _ _⟩
   case round =>
    obtain ⟨j,a,n,hj,rfl,rfl,rfl,rfl,hat⟩:=hrel;have Y:=Hd hat;clear hat;by_cases hjl:j<out.length
    ·obtain ⟨b2,o2,he2,z2,c2⟩:=HH.o.at_ hjl;have hax:Y.o.le=Y.o.le:=rfl;subst he2;obtain ⟨tw,b6⟩:=eqx (Aw (out.take j) s);rw [<-b6];obtain ⟨HTW,HMS,HBE⟩:=Hd3 b6 (WL (l:=out) (v:=s) hjl) (Bj out[j] s);clear b6 hax;cases hls:Fm out[j] s
     ·have HNO:=Hd (Y.o.no hjl hls);have ht1:Op.bytesLess out[j].toList s.toList=false:=hls;clear hls;cases tw
      all_goals
       go_wp2
       go_quiet (fail)
       go_wp2
       go_quiet (fail)
       go_wp2;go_roundw
       case rel =>
        refine ⟨j+1,a,_,AA,AE,?_,rfl,rfl,HNO.o⟩;rw [HMS.o];have h1:=HTW.o;have h2:=HBE.o;simp_all
       case measure=>simp [intOf];omega
     ·have HYE:=Hd (Y.o.yes hjl hls);have ht1:Op.bytesLess out[j].toList s.toList=true:=hls;clear hls;cases tw
      all_goals
       go_wp2
       go_quiet (fail)
       go_wp2
       go_quiet (fail)
       go_wp2;go_roundw
       case rel =>
        refine ⟨j+1,j+1,_,AA,AE,?_,AE,rfl,HYE.o⟩;rw [HMS.o];have h1:=HTW.o;have h2:=HBE.o;simp_all
       case measure=>simp [intOf];omega
    ·have hjo:j=out.length:=AA;subst hjo;have O:=Y.o.ins HSO.o;rw [List.take_length];cases hm:Aw out s
     ·rw [hm,if_neg AC] at O;have HI:=Hd (HNX.o.trans O);have HIN:=Hd O;have hal:=Y.o.le;clear O
      go_upto_region 14 with fail
      obtain ⟨ws,hws⟩:=eqx (wr.drewN n);rw [<-hws];have HXS:=Hd (show Ext w ws by rw [hws];exact HE.o.drewN n);have hh2:Strs ws (λb=>w.heap.size<=b) A' out:=(by rw [hws];exact HH.o.keep (Kept.drewN _ _ _));have C1:=Hd (show ws.cell? ⟨b0,o0+k,none⟩=some (.string s) by rw [hws];exact C0.o);have Z1:=Hd (show b0<ws.heap.size by rw [hws];exact z0);clear HH hws C0 c0;have HH:=Hd hh2;clear hh2;obtain ⟨no,hno⟩:=eqx out.length;rw [<-hno] at U hal hsz|-;have HNO:=Hd hno.symm;clear hno hj hjl hm;refine Qa (λm b=>m=1008/\ws.heap.size<=b) [(4,[1008]),(7,[1008]),(8,[1008])] ?_
      iterate 3 refine Qp ?_
      refine Qm (λvals γ w' ρ hR hN hp hρ zs zg=>by
       have hkk:=hR.o.kept0 (S:=λb=>b<ws.heap.size) (λb _ (hb:b<ws.heap.size) m hm=>Ge);have m0:=Kept.cell hkk Z1.o C1.o;clear hkk;exact Qk) ?_
      refine Qs (FP λv γ w'=>∃ g:Nat,v=.slice (some ⟨g,0,none⟩) 1 1/\ws.heap.size<=g/\(γ 1008=false->Blk w' g 9 #[.string s])) (H1A ?_) ?_ ?_
      ·rintro v γ w1 γ' w2 rr ⟨g,h1,h2,h3⟩;refine ⟨g,h1,h2,λhk => ?_⟩;have hk0:γ 1008=false:=by
        exact Ib
       exact (h3 hk0).keep (rr.keptS (S:=λb=>b=g) λb _ e m hm=>by rw [hm.1,hk,hk0])
      ·exact G7
      iterate 2 refine Qp ?_
      refine Chain.step (FP λv γ w'=>HeA ws out no a v) AG (H1A ?_) ?_ ?_
      ·intro v γ w1 γ' w2 r h;exact h
      ·intro vals γ w' ρ hR hN hp hρ hc hf hg;refine ⟨rfl,?_⟩;have e51:ρ (.tmp 51)=_:=(hρ 51).trans (hp 5 AB);have e52:ρ (.tmp 52)=_:=(hρ 52).trans (hp 6 AB);have HR:=Hd hR;clear hR hN hp hρ
       rcases U.o with ⟨rfl,h0,rfl⟩|⟨b1,o1,rfl,hcap⟩
       ·have b3:a=0:=AA;subst b3;subst h0;go_light;go_simp;exact ⟨γ,LZ.refl _ _ _,λ_ _ _ h=>h,_,_,rfl,.inl (by rw [List.drop_zero];exact List.eq_nil_of_length_eq_zero (by rw [List.length_map];exact HNO.o))⟩
       ·by_cases hcc:a<c'
        ·go_light;go_simp;exact ⟨γ,LZ.refl _ _ _,λ_ _ _ h=>h,_,_,rfl,by rw [if_neg AA];exact Rd.drop (HH.o.1.mono λb hb _=>hb) a⟩
        ·have hac:a=c':=AA;obtain rfl:no=c':=AA;obtain rfl:no=a:=AA;go_light;go_simp;refine ⟨γ,LZ.refl _ _ _,λ_ _ _ h=>h,some ⟨b1,o1,none⟩,0,by rw [Nat.sub_self];rfl,.inl (List.drop_eq_nil_of_le ?_)⟩;rw [List.length_map,HNO.o];omega
      refine Chain.step (FP λv γ w'=>∃ (A4:OA) (c4:Nat),v=.slice A4 (1+(no-a)) c4/\γ 1008=true/\Own w' ws.heap.size 9 1 A4 (1+(no-a)) c4 ([.string s]++(out.map Value.string).drop a)) AG (H1A ?_) ?_ ?_
      ·exact Tp
      ·intro vals γ w' ρ hR hN hp hρ hc hf hg;refine ⟨rfl,?_⟩;obtain ⟨g,hv4,hg,hb⟩:=hp 4 AB;have e50:=(hρ 50).trans hv4;obtain ⟨B7,c7,hv7,hrd⟩:=hp 7 AB;have e53:=(hρ 53).trans hv7;have hk0:=hN.key (k:=1008) AB;have hbg:=hb hk0;have ho:Own w' ws.heap.size 9 1 (some ⟨g,0,none⟩) 1 1 [.string s]:=IIA (n:=1) (sz:=1) hbg rfl Bd hg;have hrk:=hrd.keep (hR.kept0 (S:=λb=>b<ws.heap.size) (λb _ (hb:b<ws.heap.size) m hm=>Ge));have hsz:=hR.size;have e0:ws.drew.heap.size=ws.heap.size:=rfl;refine Cw (.tmp 50) (.tmp 53) rfl tiS e50 ho e53 hrk (by rw [List.length_drop,List.length_map,HNO.o,Nat.mul_one]) (λu hu=>Es out u (List.mem_of_mem_drop hu)) AA AB AA ?_;intro A4 c4 w4 hown4 hg4 hat4;exact ⟨γ.put 1008,H2A hk0 hg4.os hg4.tape hg4.output hg4.size (λb hb hm=>hg4.block b hb λe=>hm ⟨rfl,by simp [ob] at e;omega⟩),LK.done AB,A4,c4,rfl,AU,hown4⟩
      refine Qs (FP λv γ w'=>∃ (A4:OA) (c4:Nat),v=.slice A4 (1+(no-a)) c4/\γ 1008=true/\Own w' ws.heap.size 9 1 A4 (1+(no-a)) c4 ([.string s]++(out.map Value.string).drop a)) (H1A ?_) ?_ ?_
      ·exact Tp
      ·intro vals γ w' ρ hR hN hp hρ zs zg;obtain ⟨A4,c4,hv4,hd4,ho4⟩:=hp.o 8 AB;have e54:=(hρ.o 54).trans hv4;exact Kk
      intro vals γ w9 hR hG;obtain ⟨A4,c4,v9,-,hown4⟩:=hG 9 AB;have HX9:=Hd (show Ext ws w9 from hR.ext0 (λm b hb hm=>Ge));have HO9:=Hd hown4;refine Qx ?_;simp only [v9];clear hR hG v9 hown4;have hsz9:=HX9.o.size;have Z:=Hd (show Own (w9.alloc (.cells #[] 9)) w9.heap.size 9 1 (some ⟨w9.heap.size,0,none⟩) 0 0 [] from World.ownsRow_made w9 #[] 0 (Al) Bd rfl);have HR5:=Hd (((HH.o.1.keep (HX9.o.kept _)).keep (Kept.alloc _ _ (.cells #[] 9))).take a);have a9:∀ u∈[Value.string s]++(out.map Value.string).drop a,u.oneCell'=true:=λu hu=>by
       rcases List.mem_append.1 hu with hu|hu
       ·simp at hu;subst hu;rfl
       ·exact Es out u (List.mem_of_mem_drop hu)
      have b5:=Hd a9;clear a9;have HXS9:=Hd (HXS.o.trans HX9.o);have tok:True:=trivial
      rcases U.o with ⟨rfl,h0,rfl⟩|⟨b1,o1,rfl,hcap⟩
      ·have b3:a=0:=AA;subst b3;subst h0
       go_wp2_with (first|(at_builtin;have _t:=tok;go_must (refine AL rfl (.tmp 55) (.tmp 58) rfl tiS rfl Z.o rfl HR5.o JO (λu hu=>Es out u (List.mem_of_mem_take hu)) AA AB E0 ?_);intro A6 c6 w6 hown6 hg6 hat6;simp only [Nat.zero_add,List.nil_append] at hown6;have HO6:=Hd hown6;have HX6:=Hd (Ext.grown (exaa w9) hg6 (λb hb=>(Z.o.blk hb).1));have b9:=Hd ((HO9.o.rd.mono (T:=λb=>b<w9.heap.size) λb hb _=>hb).keep (HX6.o.kept _));have hsz6:=HX6.o.size;clear hown6 hg6 hat6 tok)|(at_builtin;go_must (refine AL rfl (.tmp 59) (.tmp 60) rfl tiS rfl HO6.o rfl b9.o JO b5.o AA AB E0 ?_);intro A7 c7 w7 hown7 hg7 hat7))
       go_roundw
       case rel =>
        have hll:(EW s out).length=0+(1+(0-0)):=(by rw [HIN.o,List.length_append,List.length_take,List.length_cons,List.length_drop,HNO.o];omega);exact R4
       case measure=>simp [intOf];omega
      ·have hkc:a<=c':=AA
       go_wp2_with (first|(at_builtin;have _t:=tok;go_must (refine AL rfl (.tmp 55) (.tmp 58) rfl tiS rfl Z.o rfl HR5.o JO (λu hu=>Es out u (List.mem_of_mem_take hu)) AA AB E0 ?_);intro A6 c6 w6 hown6 hg6 hat6;simp only [Nat.zero_add,List.nil_append] at hown6;have HO6:=Hd hown6;have HX6:=Hd (Ext.grown (exaa w9) hg6 (λb hb=>(Z.o.blk hb).1));have b9:=Hd ((HO9.o.rd.mono (T:=λb=>b<w9.heap.size) λb hb _=>hb).keep (HX6.o.kept _));have hsz6:=HX6.o.size;clear hown6 hg6 hat6 tok)|(at_builtin;go_must (refine AL rfl (.tmp 59) (.tmp 60) rfl tiS rfl HO6.o rfl b9.o JO b5.o AA AB E0 ?_);intro A7 c7 w7 hown7 hg7 hat7))
       go_roundw
       case rel =>
        have hll:(EW s out).length=a+(1+(no-a)):=(by rw [HIN.o,List.length_append,List.length_take,List.length_cons,List.length_drop,HNO.o];omega);exact R4
       case measure=>simp [intOf];omega
     ·rw [hm,if_pos rfl] at O;have HI:=Hd (HNX.o.trans O);clear O hm;go_wp2;go_roundw
      case rel =>
       refine ⟨k+1,A',c',AA,AE,by rw [HI.o],HE.o.drewN _,by rw [HI.o];exact U.o,by rw [HI.o];exact HH.o.keep (Kept.drewN _ _ _)⟩
      case measure=>simp [intOf];omega
  ·have hkl:k=l.length:=AA;subst hkl;have HT:=Hd (show l.take l.length=l from List.take_length);rw [HT.o] at U HH;clear hext b7 hst;go_wp2;go_ret;exact ⟨A',c',EM,U.o,HH.o,HE.o⟩

theorem N7{P:Program}{t tn e sz by_:Nat}(ti:TI P t e sz by_)(htn:P.underlying tn=some (.int .i64))(w:World)(ty:TypeId)(n:Nat)(h0:0<n)(h48:n*by_<=281474976710656)(hm:n<=maxLen) :
  ∃ c' w',(Builtin.append_ #[t,tn] ty #[.slice none 0 0,.I (n:Int)]).run P w=.ok (.slice (some ⟨w.heap.size,0,none⟩) n c') w'/\Own w' w.heap.size e sz (some ⟨w.heap.size,0,none⟩) 0 c' []/\Ext w w':=by
 obtain ⟨ht,i,z,hi,hz,hs,hy,U,hp⟩:=ti;have O:(n:Int)<=9223372036854775807:=(by unfold maxLen at hm;omega);have hr:=Lib.run_append_nil_zeros w t tn ty e i z .i64 .i64 ht htn hi hz n h0 AA O (by rw [hy];exact h48);have Z:=grownCap_ge w n 0 e;have Y:grownCap w n 0 e<=maxLen:=grownCap_le_maxLen w n 0 e hm;refine ⟨_,_,hr,⟨AC,.inr ⟨w.heap.size,_,_,rfl,Al,heap_alloc_new w.drew _,AN,Y,?_,AC⟩⟩,(Ext.refl w).drew.alloc _⟩;rw [Array.size_append,size_zeroCells,size_zeroCells,U,<-Nat.add_mul];congr 1;omega
def FqA(w:World)(e sz:Nat)(en:Ending)(w':World):Prop:=∃ A c,en=.returned (.slice A 0 c)/\Own w' w.heap.size e sz A 0 c []/\Ext w w'
theorem Ur(h:qP:=by
 have HO:=Hd hown;have HX:=Hd hx;clear hown hx
 go_wp2_with (at_builtin;refine Lib.wpList_append_run _ rfl _ _ _ _ rfl _ _ rfl rfl _ _ hrun ?_)
 go_ret;exact ⟨_,c',rfl,HO.o,HX.o⟩):qP:=h
theorem Rm(h:qP:=by
 obtain rfl:n=0:=by omega
 go_wp2;go_ret;exact ⟨none,0,rfl,Own.nil _ _ _ _,Ext.refl w⟩):qP:=h
theorem XA(n:Nat)(hn:n<=4000000)(w:World):Cl 163 #[.slice none 0 0,.I (n:Int)] w (FqA w 9 1):=by
 have h1:¬((n:Int)<0):=AA
 go_enter func163,ntmps163
 by_cases h0:0<n
 ·have h2:(0:Int)<(n:Int):=AA;obtain ⟨c',w',hrun,hown,hx⟩:=N7 tiS underlying3 w 26 n h0 AA Bd;exact Ur
 ·exact Rm
theorem XY(n:Nat)(hn:n<=4000000)(w:World):Cl 164 #[.slice none 0 0,.I (n:Int)] w (FqA w 69 2):=by
 have h1:¬((n:Int)<0):=AA
 go_enter func164,ntmps164
 by_cases h0:0<n
 ·have h2:(0:Int)<(n:Int):=AA;obtain ⟨c',w',hrun,hown,hx⟩:=N7 tiD underlying3 w 37 n h0 AA Bd;exact Ur
 ·exact Rm
def Vo{α:Type}(l m:List α):Nat->List α
 |0=>[]
 |1=>l
 |_=>l++m
theorem Yk{α:Type}(l m:List α):(Vo l m 0).length=0/\(Vo l m 1).length=l.length/\(Vo l m 2).length=l.length+m.length:=⟨rfl,rfl,List.length_append⟩
def FuA(w:World)(l:List BA)(e:Ending)(w':World):Prop:=∃ A c,e=.returned (.slice A l.length c)/\OwnSs w' w.heap.size A c l/\Ext w w'
theorem PO(h:qP:=by
 have h3:¬((l.length:Int)<0):=(by omega);go_wp2
 go_round
 case rel=>exact .inr (.inl ⟨by go_num,by go_num⟩)
 case measure=>simp [intOf]):qP:=h
theorem T4(h:qP:=by
 have h3:¬((l.length:Int)+(m.length:Int)<0):=(by omega);go_wp2
 go_round
 case rel=>exact .inr (.inr ⟨by go_num,by first|rfl|(congr 1;omega)|(simp [IntKind.wrap_i64];omega)⟩)
 case measure=>simp [intOf]):qP:=h
theorem Ph(l m:List BA)(A B:OA)(c d g:Nat)(w:World)(S T:NP)(hl:Strs w S A l)(hm:Strs w T B m)(hb:Blk w g 26 #[.slice A l.length c,.slice B m.length d])(h1:l.length<=1000000)(h2:m.length<=1000000) :
  Cl 90 #[.slice (some ⟨g,0,none⟩) 2 2] w (FuA w (l++m)):=by
 obtain ⟨q0,q1⟩:=hb.qs2;obtain ⟨HB,HL,HM⟩:=Hd3 hb hl hm;clear hb hl hm
 go_enter func90,ntmps90
 go_wp2
 go_loop [11,3] (λi s=>(i=.I 0/\s=.I 0)\/(i=.I 1/\s=.I l.length)\/(i=.I 2/\s=.I ((l.length+m.length:Nat):Int))) (λi _=>2-(intOf i).toNat)
 case atStart=>exact .inl ⟨rfl,rfl⟩
 case round =>
  rcases hrel with ⟨rfl,rfl⟩|⟨rfl,rfl⟩|⟨rfl,rfl⟩
  ·exact PO
  ·exact T4
  ·go_wp2_with fail
   refine (XA (l.length+m.length) AA w).mono ?_;rintro e1 w1 ⟨A1,c1,rfl,hown,hx⟩;obtain ⟨HO,HX,HQ⟩:=Hd3 hown hx (HB.o.keep (hx.kept _));clear hown hx q0 q1;obtain ⟨q0,q1⟩:=HQ.o.qs2;go_wp2
   go_loopw [27,6] (λi v wr=>∃ (k:Nat) (A2:OA) (c2:Nat),k<=2/\i=.I k/\v=.slice A2 (Vo l m k).length c2/\OwnSs wr w.heap.size A2 c2 (Vo l m k)/\Ext w wr) (λi _ _=>2-(intOf i).toNat)
   case atStart=>exact ⟨0,A1,c1,AA,rfl,rfl,⟨HO.o,by intro s hs;cases hs⟩,HX.o⟩
   case round =>
    clear q0 q1;obtain ⟨k,A2,c2,hk,rfl,rfl,hown,hx⟩:=hrel;have O:=Hd hown;have HX2:=Hd hx;clear hown hx;have Y:=HB.o.keep (HX2.o.kept _);obtain ⟨q0,q1⟩:=Y.qs2;have hsz:=HX2.o.size;clear Y;have hk3:k=0\/k=1\/k=2:=AA;obtain ⟨a9,U,Z⟩:=Yk l m
    rcases hk3 with rfl|rfl|rfl
    ·have b0:=Hd (HL.o.keep (HX2.o.kept _))
     go_wp2_with (at_builtin;go_must (refine AL rfl (.tmp 31) (.tmp 32) rfl tiS rfl O.o.1 rfl b0.o.1 AC AP (by rw [a9];omega) AB AA ?_);intro A3 c3 w3 hown3 hg3 hat3)
     go_roundw
     case rel =>
      refine ⟨1,A3,c3,AA,AE,by rw [U],⟨?_,HL.o.2.2⟩,HX2.o.grown hg3 λb hb=>(O.o.1.blk hb).1⟩
      simpa [Vo] using hown3
     case measure=>simp [intOf]
    ·have a8:=Hd (HM.o.keep (HX2.o.kept _))
     go_wp2_with (at_builtin;go_must (refine AL rfl (.tmp 31) (.tmp 32) rfl tiS rfl O.o.1 rfl a8.o.1 AC AP (by rw [U];omega) AB AA ?_);intro A3 c3 w3 hown3 hg3 hat3)
     go_roundw
     case rel =>
      refine ⟨2,A3,c3,AA,AE,by rw [Z],⟨?_,λs hs => ?_⟩,HX2.o.grown hg3 λb hb=>(O.o.1.blk hb).1⟩
      ·simpa [Vo] using hown3
      ·rcases List.mem_append.1 hs with hs|hs
       ·exact HL.o.2.2 s hs
       ·exact HM.o.2.2 s hs
     case measure=>simp [intOf]
    ·go_wp2;go_ret;exact ⟨A2,c2,rfl,O.o,HX2.o⟩
theorem Hs{xs:List Value}{P:OA->Dep->Nat->Prop}(h2:xs.length=l.length*2)(h3:∀ (i:Nat) (d:Dep),l[i]?=some d->∃ (B:OA) (c:Nat),xs[i*2]?=some (.slice B d.frm.length c)/\xs[i*2+1]?=some (.string d.tov)/\P B d c):∀ u∈xs,u.oneCell'=true:=by
 intro u hu;obtain ⟨j,hj,rfl⟩:=List.mem_iff_getElem.1 hu;have hi:j / 2<l.length:=AA;obtain ⟨B,c,g1,g2,-⟩:=h3 (j / 2) l[j / 2] (List.getElem?_eq_getElem hi);have O:j=j / 2*2\/j=j / 2*2+1:=AA
 rcases O with h|h
 ·rw [<-h,List.getElem?_eq_getElem hj] at g1;injection g1 with g1;rw [g1];rfl
 ·rw [<-h,List.getElem?_eq_getElem hj] at g2;injection g2 with g2;rw [g2];rfl
theorem OwnDs.app{w w':World}{base c':Nat}{X:NP}{A A':OA}{m:List Dep}{hs ys:List Value}(ho:hs.length=l.length*2)
  (hv:∀ (i:Nat) (d:Dep),l[i]?=some d->∃ (B:OA) (e:Nat),hs[i*2]?=some (.slice B d.frm.length e)/\hs[i*2+1]?=some (.string d.tov)/\d.frm.length<=e/\d.tov.size<=4294967296/\Strs w (λb=>ob A≠some b/\X b) B d.frm)
  (hm:∀ (i:Nat) (d:Dep),m[i]?=some d->∃ (B:OA) (e:Nat),ys[i*2]?=some (.slice B d.frm.length e)/\ys[i*2+1]?=some (.string d.tov)/\d.frm.length<=e/\d.tov.size<=4294967296/\Strs w (λb=>ob A≠some b/\X b) B d.frm)
  (hown:Own w' base 69 2 A' (l.length+m.length) c' (hs++ys)) (hg:w.grownBy w' (ob A)) (hat:ob A'=ob A\/ob A'=some w.heap.size):OwnDs w' base X A' c' (l++m):=by
 have hk:Kept (λb=>ob A≠some b/\X b) w w':=Kept.of_grown hg (λb hb _ e=>hb.1 e.symm);have O:∀ i,i<w.heap.size->(ob A≠some i/\X i)->(ob A'≠some i/\X i):=by
  exact GO
 refine ⟨_,Dg,λi r' hr => ?_⟩
 rcases Nat.lt_or_ge i l.length with hlt|U
 ·rw [List.getElem?_append_left hlt] at hr;obtain ⟨B',e',h3,h4,h5,h6,h7⟩:=hv i r' hr;exact ⟨B',e',by rw [List.getElem?_append_left AA];exact h3,by rw [List.getElem?_append_left AA];exact h4,h5,h6,h7.move hk O⟩
 ·rw [List.getElem?_append_right U] at hr;obtain ⟨B',e',h3,h4,h5,h6,h7⟩:=hm (i-l.length) r' hr;have e1:i*2-hs.length=(i-l.length)*2:=AA;have e2:i*2+1-hs.length=(i-l.length)*2+1:=AA;exact ⟨B',e',by rw [List.getElem?_append_right AA,e1];exact h3,by rw [List.getElem?_append_right AA,e2];exact h4,h5,h6,h7.move hk O⟩
def FtA(w:World)(S:NP)(l:List Dep)(e:Ending)(w':World):Prop:=∃ A c,e=.returned (.slice A l.length c)/\OwnDs w' w.heap.size S A c l/\Ext w w'
theorem Ry(h:qP:=by
 have:=OwnDs.app HHS.o HV.o (λi d hd=>by obtain ⟨B',e',a1,a2,a3,a4,a5⟩:=HXD.o i d hd;exact ⟨B',e',a1,a2,a3,a4,a5.mono λb _ hb=>⟨HNO.o b hb,hb⟩⟩) hown3 hg3 hat3
 simpa [Vo] using this):qP:=h
theorem Ps(l m:List Dep)(A B:OA)(c d g:Nat)(w:World)(S:NP)(hS:∀ b,S b->b<w.heap.size)(hl:RDeps w S A l)(hm:RDeps w S B m)(hb:Blk w g 37 #[.slice A l.length c,.slice B m.length d])(h1:l.length<=1000000)(h2:m.length<=1000000) :
  Cl 91 #[.slice (some ⟨g,0,none⟩) 2 2] w (FtA w S (l++m)):=by
 obtain ⟨q0,q1⟩:=hb.qs2;obtain ⟨HB,HL,HM,HS⟩:=Hd4 hb hl hm hS;clear hb hl hm hS
 go_enter func91,ntmps91
 go_wp2
 go_loop [11,3] (λi s=>(i=.I 0/\s=.I 0)\/(i=.I 1/\s=.I l.length)\/(i=.I 2/\s=.I ((l.length+m.length:Nat):Int))) (λi _=>2-(intOf i).toNat)
 case atStart=>exact .inl ⟨rfl,rfl⟩
 case round =>
  rcases hrel with ⟨rfl,rfl⟩|⟨rfl,rfl⟩|⟨rfl,rfl⟩
  ·exact PO
  ·exact T4
  ·go_wp2_with fail
   refine (XY (l.length+m.length) AA w).mono ?_;rintro e1 w1 ⟨A1,c1,rfl,hown,hx⟩;obtain ⟨HO,HX,HQ⟩:=Hd3 hown hx (HB.o.keep (hx.kept _));clear hown hx q0 q1;obtain ⟨q0,q1⟩:=HQ.o.qs2;go_wp2
   go_loopw [27,6] (λi v wr=>∃ (k:Nat) (A2:OA) (c2:Nat),k<=2/\i=.I k/\v=.slice A2 (Vo l m k).length c2/\OwnDs wr w.heap.size S A2 c2 (Vo l m k)/\Ext w wr) (λi _ _=>2-(intOf i).toNat)
   case atStart=>exact ⟨0,A1,c1,AA,rfl,rfl,⟨[],HO.o,by intro i d hd;cases hd⟩,HX.o⟩
   case round =>
    clear q0 q1;obtain ⟨k,A2,c2,hk,rfl,rfl,hown,hx⟩:=hrel;have b0:=Hd hown;have HX2:=Hd hx;clear hown hx;have a9:=HB.o.keep (HX2.o.kept _);obtain ⟨q0,q1⟩:=a9.qs2;have hsz:=HX2.o.size;clear a9;have hk3:k=0\/k=1\/k=2:=AA;obtain ⟨b4,a8,b3⟩:=Yk l m;obtain ⟨hs,hhs,ho,hv⟩:=b0.o.add;obtain ⟨HHS,Y,HV⟩:=Hd3 hhs ho hv;clear hhs ho hv;have HNO:=Hd (show ∀ b,S b->ob A2≠some b from λb hb e=>by have:=(Y.o.blk e).1;have:=HS.o b hb;omega)
    rcases hk3 with rfl|rfl|rfl
    ·have Z:=HL.o.keep (HX2.o.kept _);obtain ⟨-,xs,hr,U,O⟩:=Z;obtain ⟨HR,HXL,HXD,HX1⟩:=Hd4 hr U O (Hs U O);clear hr U O
     go_wp2_with (at_builtin;go_must (refine AL rfl (.tmp 31) (.tmp 32) rfl tiD rfl Y.o rfl HR.o HXL.o HX1.o (by rw [b4];omega) AB AA ?_);intro A3 c3 w3 hown3 hg3 hat3)
     go_roundw
     case rel =>
      refine ⟨1,A3,c3,AA,AE,by rw [a8],?_,HX2.o.grown hg3 λb hb=>(Y.o.blk hb).1⟩;exact Ry
     case measure=>simp [intOf]
    ·have Z:=HM.o.keep (HX2.o.kept _);obtain ⟨-,xs,hr,U,O⟩:=Z;obtain ⟨HR,HXL,HXD,HX1⟩:=Hd4 hr U O (Hs U O);clear hr U O
     go_wp2_with (at_builtin;go_must (refine AL rfl (.tmp 31) (.tmp 32) rfl tiD rfl Y.o rfl HR.o HXL.o HX1.o (by rw [a8];omega) AB AA ?_);intro A3 c3 w3 hown3 hg3 hat3)
     go_roundw
     case rel =>
      refine ⟨2,A3,c3,AA,AE,by rw [b3],?_,HX2.o.grown hg3 λb hb=>(Y.o.blk hb).1⟩;exact Ry
     case measure=>simp [intOf]
    ·go_wp2;go_ret;exact ⟨A2,c2,rfl,b0.o,HX2.o⟩
