/- Lemmas. No conditions. -/
import Derived.Test.YtaccjdppmmoepaaGreatDoorXq8
import Derived.Deep.DeepCutAuto
import Derived.Deep.RegionHeld3
set_option maxRecDepth 100000
set_option maxHeartbeats 1000000
namespace Go.Proofs.YtaccjdppmmoepaaGreatDoor
open Go Go.RowKit Tryz
variable {qP:Prop}

theorem J2{α:Type} [DecidableEq α]:∀ {l m:List α},l.Nodup->(∀ x∈l,x∈m)->l.length<=m.length
 |[],_,_,_=>AN
 |x::l,m,hn,hs=>by
  have hx:x∈m:=hs x (List.mem_cons_self);have h1:=List.nodup_cons.1 hn;have:=J2 (l:=l) (m:=m.erase x) h1.2 (λy hy=>by
   have hne:y≠x:=λe=>h1.1 (e ▸ hy);exact (List.mem_erase_of_ne hne).2 (hs y (List.mem_cons_of_mem _ hy)))
  rw [List.length_erase_of_mem hx] at this;have hp:0<m.length:=List.length_pos_of_mem hx;simp;omega
structure Part(l:List Dep)(frm ks:List BA):Prop where
 nodup:ks.Nodup
 base:∀ x∈frm,x∈ks
 least:∀ T:BA->Prop,(∀ x∈frm,T x)->(∀ d∈l,(∀ x∈d.frm,T x)->T d.tov)->∀ x∈ks,T x
theorem Part.len{l:List Dep}{frm ks:List BA}(h:Part l frm ks):ks.length<=frm.length+l.length:=by
 have:=J2 h.nodup (m:=frm++l.map Dep.tov) (h.least (λx=>x∈frm++l.map Dep.tov) (λx hx=>List.mem_append_left _ hx) (λd hd _=>List.mem_append_right _ (List.mem_map_of_mem hd)))
 simpa using this
theorem Part.add{l:List Dep}{frm ks:List BA}(h:Part l frm ks){d:Dep}(hd:d∈l)(hf:∀ x∈d.frm,x∈ks)(hx:d.tov ∉ ks):Part l frm (ks++[d.tov]):=by
 refine ⟨?_,λx hx=>List.mem_append_left _ (h.base x hx),λT h1 h2 x hx => ?_⟩
 ·rw [List.nodup_append];refine ⟨h.nodup,AC,?_⟩;intro a ha b hb;simp at hb;subst hb;exact λe=>hx (e ▸ ha)
 ·rcases List.mem_append.1 hx with hx|hx
  ·exact h.least T h1 h2 x hx
  ·simp at hx;subst hx;exact h2 d hd (λy hy=>h.least T h1 h2 y (hf y hy))
theorem CNA{l ks:List BA} : (l.any λx => !TF ks x)=false↔∀ x∈l,x∈ks:=by
 rw [List.any_eq_false];constructor
 ·intro h x hx;have:=h x hx;rw [<-Ml]
  simpa using this
 ·intro h x hx;have:=(Ml ks x).2 (h x hx);simp [this]
def G3A(w:World)(l:List Dep)(frm:List BA)(e:Ending)(J:World):Prop:=∃ ks,IsClosure l frm ks/\CEA w (An ks) e J

theorem Vn(l:List Dep)(frm:List BA)(A B:OA)(ca cb:Nat)(w:World)(S T:NP)(hA:RDeps w S A l)(hB:Strs w T B frm)(hsm:frm.length+l.length<=4294967296) :
  Cl 203 #[.slice A l.length ca,.slice B frm.length cb] w (G3A w l frm):=by
 have hal:=hA.1;have hbl:=hB.2.1;have HA:=Hd hA;have HB:=Hd hB;clear hA hB;have hmm:=@run_makeMap prog
 go_enter func203,ntmps203
 go_wp2
 go_step3
 go_wp2;clear hmm;have d6:=Hd (Blk.new (w.alloc (.map #[] 0)) 182 #[.map (some w.heap.size)]);have d9:=Hd (show SetIs ((w.alloc (.map #[] 0)).alloc (.cells #[.map (some w.heap.size)] 182)) w.heap.size [] from (IHA w _).keep (Kept.alloc _ _ _))
 go_loopw [15] (λi wr=>∃ (k:Nat) (ks:List BA),k<=frm.length/\i=.I k/\Ext w wr/\w.heap.size+1<wr.heap.size/\wr.cell? ⟨w.heap.size+1,0,none⟩=some (.map (some w.heap.size))/\SetIs wr w.heap.size ks /\
   ks.Nodup/\(∀ j (h:j<frm.length),j<k->frm[j]∈ks)/\(∀ x∈ks,x∈frm)) (λi _=>frm.length-(intOf i).toNat)
 case atStart=>exact ⟨0,[],AN,rfl,(exaa w).alloc _,AC,AC,d9.o,AC,AK,AC⟩
 case round =>
  obtain ⟨k,ks,hk,rfl,hext,hsz,a8,Z,h1,h2,h3⟩:=hrel;obtain ⟨HE,HS,H1,H2,H3⟩:=Hd5 hext Z h1 h2 h3;clear Z h1 h2 h3;by_cases hlt:k<frm.length
  ·obtain ⟨b1,o1,rfl,z1,c1⟩:=(HB.o.keep (hext.kept T)).at_ hlt;obtain ⟨J,d7,hup,Y,hg',b8⟩:=HS.o.put frm[k];obtain ⟨f1,b0,a9,b6⟩:=Hd4 Y hg' b8 a8;clear Y hg' b8 hext;go_wp2;go_roundw
   case rel =>
    refine ⟨k+1,d7,AA,AE,HE.o.grown b0.out (λb hb=>GQ),by have:=b0.out.size;omega,?_,f1.out,?_,λj h hj => ?_,λx hx => ?_⟩
    ·rw [World.cell?_of_block (b0.out.block (w.heap.size+1) hsz (λe=>Gp))];exact b6.o
    ·rcases a9.o with ⟨_,rfl⟩|⟨hn,rfl⟩
     ·exact H1.o
     ·rw [List.nodup_append];refine ⟨H1.o,AC,?_⟩;intro a ha b hb;simp at hb;subst hb;exact λe=>hn (e ▸ ha)
    ·rcases a9.o with ⟨hm,rfl⟩|⟨hn,rfl⟩
     ·by_cases hjk:j=k
      ·subst hjk;exact hm
      ·exact H2.o j h AA
     ·by_cases hjk:j=k
      ·subst hjk;simp
      ·exact List.mem_append_left _ (H2.o j h AA)
    ·rcases a9.o with ⟨hm,rfl⟩|⟨hn,rfl⟩
     ·exact H3.o x hx
     ·rcases List.mem_append.1 hx with hx|hx
      ·exact H3.o x hx
      ·simp at hx;subst hx;exact List.getElem_mem hlt
   case measure=>simp [intOf];omega
  ·have O:Part l frm ks:=⟨H1.o,λx hx=>by
    obtain ⟨i,hi,rfl⟩:=List.mem_iff_getElem.1 hx;exact H2.o i hi AA,λT h1 _ x hx=>h1 x (H3.o x hx)⟩
   obtain ⟨HP,b6,HSZ⟩:=Hd3 O a8 hsz;clear O hext a8 hsz;go_wp2
   go_step3
   go_wp2
   go_loopg [9] (frm.length+l.length+1) (λgk _ wr=>∃ ks:List BA,frm.length+l.length+1<=gk+ks.length/\Ext w wr/\w.heap.size+1<wr.heap.size/\wr.cell? ⟨w.heap.size+1,0,none⟩=some (.map (some w.heap.size))/\SetIs wr w.heap.size ks/\Part l frm ks)
   case atStart=>exact ⟨ks,AA,HE.o,HSZ.o,b6.o,HS.o,HP.o⟩
   case round =>
    clear HE HS H1 H2 H3 HP b6 HSZ d6 d9 hlt hk;obtain ⟨U,hgk,hext,hsz,a8,Z,O⟩:=hrel;have hkl:=O.len;obtain ⟨HE,HS,HP⟩:=Hd3 hext Z O;have d3:=Z.len 3;have d6:=Hd a8;have HGK:=Hd hgk;clear Z O hext hgk;go_wp2;clear d3;obtain ⟨wo,rfl⟩:∃ wo:World,wo=wr:=⟨_,rfl⟩;clear a8
    go_loopw [27] (λi wi=>∃ (j:Nat) (ks:List BA),j<=l.length/\i=.I j/\Ext w wi/\w.heap.size+1<wi.heap.size/\wi.cell? ⟨w.heap.size+1,0,none⟩=some (.map (some w.heap.size))/\SetIs wi w.heap.size ks/\Part l frm ks/\U.length<=ks.length /\
      (ks.length=U.length->ks=U/\∀ m (h:m<l.length),m<j->(∀ x∈l[m].frm,x∈U)->l[m].tov∈U)) (λi _=>l.length-(intOf i).toNat)
    case atStart=>exact ⟨0,U,AN,rfl,HE.o,hsz,d6.o,HS.o,HP.o,Al,λ_=>⟨rfl,AK⟩⟩
    case round =>
     obtain ⟨j,ks,hj,rfl,b7,hszi,hbxi,f2,b9,hle,d5⟩:=hrel;obtain ⟨HEI,b3,HPI,b4,HBI⟩:=Hd5 b7 f2 b9 d5 hbxi;have hkl2:=b9.len;clear f2 b9 d5;by_cases hlt:j<l.length
     ·obtain ⟨b1,o1,B2,c2,rfl,z1,p0,p1,hcp,hts,d8⟩:=(HA.o.keep (b7.kept S)).at_ hlt;have HSTR:=Hd d8;clear d8 b7;have HCF:=Hd (Jo l[j].frm B2 c2 (w.heap.size+1) w.heap.size ks (wr.alloc (.cells #[.slice B2 l[j].frm.length c2,.string l[j].tov] 64)) S (HSTR.o.keep (Kept.alloc _ _ _)) ((exaa wr).cell HBI.o) (b3.o.keep (Kept.alloc _ _ _)));cases hany:(l[j].frm.any λx => !TF ks x)
      ·have hall:=CNA.1 hany;have HALL:=Hd hall;have b5:=Hd hany;clear hall hany;obtain ⟨J,d7,hup,Y,hg',b8⟩:=(b3.o.keep (Kept.alloc _ wr (.cells #[.slice B2 l[j].frm.length c2,.string l[j].tov] 64)):SetIs _ _ _).put l[j].tov;obtain ⟨f1,b0,a9⟩:=Hd3 Y hg' b8;clear Y hg' b8
       go_wp2_with (go_at_call 211;refine HCF.o.mono ?_;rintro e1 w1 ⟨rfl,rfl⟩;rw [b5.o])
       go_roundw
       case rel =>
        have hszw:=b0.out.size;simp at hszw;refine ⟨j+1,d7,AA,AE,(HEI.o.alloc _).grown b0.out (λb hb=>GQ),AA,?_,f1.out,?_,?_,?_⟩
        ·rw [World.cell?_of_block (b0.out.block (w.heap.size+1) AI (λe=>Gp))];exact (exaa wr).cell HBI.o
        ·rcases a9.o with ⟨_,rfl⟩|⟨hn,rfl⟩
         ·exact HPI.o
         ·exact HPI.o.add (List.getElem_mem hlt) HALL.o hn
        ·rcases a9.o with ⟨_,rfl⟩|⟨hn,rfl⟩
         ·exact hle
         ·simp;omega
        ·intro d4
         rcases a9.o with ⟨hm,rfl⟩|⟨hn,rfl⟩
         ·obtain ⟨e1,e2⟩:=b4.o d4;refine ⟨e1,λm h hm2 hf => ?_⟩;by_cases hmj:m=j
          ·subst hmj;rw [<-e1];exact hm
          ·exact e2 m h AA hf
         ·simp at d4;omega
       case measure=>simp [intOf];omega
      ·have b5:=Hd hany;clear hany
       go_wp2_with (go_at_call 211;refine HCF.o.mono ?_;rintro e1 w1 ⟨rfl,rfl⟩;rw [b5.o])
       go_roundw
       case rel =>
        refine ⟨j+1,ks,AA,AE,HEI.o.alloc _,AI,(exaa wr).cell HBI.o,b3.o.keep (Kept.alloc _ _ _),HPI.o,hle,λd4 => ?_⟩;obtain ⟨e1,e2⟩:=b4.o d4;refine ⟨e1,λm h hm2 hf => ?_⟩;by_cases hmj:m=j
        ·subst hmj;exfalso;rw [<-e1] at hf;have:=CNA.2 hf;rw [b5.o] at this;cases this
        ·exact e2 m h AA hf
       case measure=>simp [intOf];omega
     ·have d3:=b3.o.len 3;clear b7;by_cases heq:ks.length=U.length
      ·have heq':((ks.length:Int)==(U.length:Int))=true:=(by simp [heq]);obtain ⟨rfl,hcl⟩:=b4.o heq;have HCL:=Hd (show IsClosure l frm ks from ⟨HPI.o.nodup,HPI.o.base,λd hd hf=>by
        obtain ⟨i,hi,rfl⟩:=List.mem_iff_getElem.1 hd;exact hcl i hi AA hf,HPI.o.least⟩)
       have f0:∀ x∈ks,x.size<=4294967296:=HPI.o.least _ (λx hx=>HB.o.2.2 x hx) (λd hd _=>by
        obtain ⟨i,hi,rfl⟩:=List.mem_iff_getElem.1 hd;obtain ⟨_,_,_,_,_,_,_,_,_,h9,_⟩:=HA.o.at_ hi;exact h9)
       have HKSZ:=Hd f0;clear heq hcl f0
       go_wp2_with fail
       refine (ClA w.heap.size _).mono ?_;rintro e1 w1 ⟨rfl,rfl⟩
       go_wp2_with fail
       refine (Vf w.heap.size (ks.map λk=>(k,Value.bool true)) _ b3.o AC (by simpa using HKSZ.o) AI).mono ?_;have hmk:(ks.map λk=>(k,Value.bool true)).map (·.1)=ks:=(by simp [Function.comp_def]);rw [hmk];clear hmk;rintro e1 w1 ⟨A9,c9,rfl,hc9,hs9,hx9⟩;have HX9:=Hd hx9;clear hx9 d3;go_wp2;rw [Exit.noGoto_ret];go_ret;exact ⟨ks,HCL.o,A9,c9,rfl,hc9,hs9.mono (T:=BO w) (λi _ hi=>by unfold BO at hi|-;simp at hi;omega),HEI.o.trans ((exaa wr).trans HX9.o)⟩
      ·have heq':((ks.length:Int)==(U.length:Int))=false:=by
        rw [beq_eq_false_iff_ne];omega
       go_wp2
       go_roundg (gk-1)
       case measure=>have:=HGK.o;omega
       case rel=>exact ⟨ks,by have:=HGK.o;omega,HEI.o,hszi,HBI.o,b3.o,HPI.o⟩

def OwnDs(w:World)(base:Nat)(X:NP)(A:OA)(c:Nat)(l:List Dep):Prop :=
 ∃ xs,Own w base 64 2 A l.length c xs/\∀ (i:Nat) (d:Dep),l[i]?=some d->∃ (B:OA) (e:Nat),xs[i*2]?=some (.slice B d.frm.length e)/\xs[i*2+1]?=some (.string d.tov)/\d.frm.length<=e/\d.tov.size<=4294967296/\Strs w (λb=>ob A≠some b/\X b) B d.frm
theorem Strs.move{w J:World}{S T:NP}{l:List BA}{B:OA}(h:Strs w S B l)(k:Kept S w J)(m:∀ i,i<w.heap.size->S i->T i):Strs J T B l :=
 ((Strs.mono h (T:=λb=>S b/\T b) λi hi hs=>⟨hs,m i hi hs⟩).keep (k.mono λ_ _ hh=>hh.1)).mono λ_ _ hh=>hh.2
theorem OwnDs.nil(w:World)(base:Nat)(X:NP):OwnDs w base X none 0 []:=⟨[],Own.nil _ _ _ _,AC⟩
theorem OwnDs.keep{w J:World}{base c:Nat}{X:NP}{A:OA}{l:List Dep}(h:OwnDs w base X A c l)(hk:Kept (λb=>ob A=some b\/X b) w J):OwnDs J base X A c l:=by
 obtain ⟨hs,h1,h2⟩:=h;refine ⟨hs,h1.keep (hk.mono λ_ _ hh=>Or.inl hh),λi r hr => ?_⟩;obtain ⟨B,e,h3,h4,h5,h6,h7⟩:=h2 i r hr;exact ⟨B,e,h3,h4,h5,h6,h7.keep (hk.mono λ_ _ hh=>Or.inr hh.2)⟩
theorem OwnDs.ext{w J:World}{base c:Nat}{X:NP}{A:OA}{l:List Dep}(h:OwnDs w base X A c l)(hx:Ext w J):OwnDs J base X A c l:=h.keep (hx.kept _)
theorem OwnDs.mono{w:World}{base c:Nat}{X T:NP}{A:OA}{l:List Dep}(h:OwnDs w base X A c l)(hm:∀ b,b<w.heap.size->X b->T b):OwnDs w base T A c l:=by
 obtain ⟨hs,h1,h2⟩:=h;refine ⟨hs,h1,λi r hr => ?_⟩;obtain ⟨B,e,h3,h4,h5,h6,h7⟩:=h2 i r hr;exact ⟨B,e,h3,h4,h5,h6,h7.mono λi hi hh=>⟨hh.1,hm i hi hh.2⟩⟩
theorem OwnDs.push{w J:World}{base c':Nat}{X:NP}{A A':OA}{l:List Dep}{r:Dep}{B:OA}{e:Nat}{hs:List Value}(ho:hs.length=l.length*2)
  (hv:∀ (i:Nat) (d:Dep),l[i]?=some d->∃ (B:OA) (e:Nat),hs[i*2]?=some (.slice B d.frm.length e)/\hs[i*2+1]?=some (.string d.tov)/\d.frm.length<=e/\d.tov.size<=4294967296/\Strs w (λb=>ob A≠some b/\X b) B d.frm)
  (hown:Own J base 64 2 A' (l.length+1) c' (hs++[Value.slice B r.frm.length e,.string r.tov])) (hg:w.grownBy J (ob A)) (hat:ob A'=ob A\/ob A'=some w.heap.size)
  (hre:r.frm.length<=e) (hrt:r.tov.size<=4294967296) (hy:Strs w (λb=>ob A≠some b/\X b) B r.frm):OwnDs J base X A' c' (l++[r]):=by
 have hk:Kept (λb=>ob A≠some b/\X b) w J:=Kept.of_grown hg (λb hb _ e=>hb.1 e.symm);have hm:∀ i,i<w.heap.size->(ob A≠some i/\X i)->(ob A'≠some i/\X i):=by
  exact GO
 refine ⟨_,Dg,λi r' hr => ?_⟩
 rcases Nat.lt_or_ge i l.length with hlt|O
 ·rw [List.getElem?_append_left hlt] at hr;obtain ⟨B',e',h3,h4,h5,h6,h7⟩:=hv i r' hr;exact ⟨B',e',by rw [List.getElem?_append_left AA];exact h3,by rw [List.getElem?_append_left AA];exact h4,h5,h6,h7.move hk hm⟩
 ·rw [List.getElem?_append_right O] at hr;have hj0:i-l.length=0:=by
   exact Lt
  rw [hj0] at hr;simp at hr;subst hr;obtain rfl:i=l.length:=AA;exact ⟨B,e,by rw [List.getElem?_append_right AA,ho,Nat.sub_self];rfl,by rw [List.getElem?_append_right AA,ho,Nat.add_sub_cancel_left];rfl,hre,hrt,hy.move hk hm⟩
theorem OwnDs.rdeps{w:World}{base c:Nat}{X T:NP}{A:OA}{l:List Dep}(h:OwnDs w base X A c l)(hl:l.length<=4294967296)(h1:∀ b,ob A=some b->T b)(h2:∀ b,X b->T b):RDeps w T A l:=by
 obtain ⟨hs,ho,hv⟩:=h;refine ⟨hl,hs,ho.rd.mono λi _ hi=>h1 i hi,by simpa using ho.len,λi r hr => ?_⟩;obtain ⟨B,e,h3,h4,h5,h6,h7⟩:=hv i r hr;exact ⟨B,e,h3,h4,h5,h6,h7.mono λi _ hi=>h2 i hi.2⟩
theorem OwnDs.blk{w:World}{base c:Nat}{X:NP}{A:OA}{l:List Dep}(h:OwnDs w base X A c l){k:Nat}(hk:ob A=some k):base<=k/\k<w.heap.size:=by
 exact ID
theorem OwnDs.add{w:World}{base c:Nat}{X:NP}{A:OA}{l:List Dep}(h:OwnDs w base X A c l):∃ hs,hs.length=l.length*2/\Own w base 64 2 A l.length c hs/\∀ (i:Nat) (d:Dep),l[i]?=some d->∃ (B:OA) (e:Nat),hs[i*2]?=some (.slice B d.frm.length e)/\hs[i*2+1]?=some (.string d.tov)/\d.frm.length<=e/\d.tov.size<=4294967296/\Strs w (λb=>ob A≠some b/\X b) B d.frm:=by
 obtain ⟨hs,h1,h2⟩:=h;exact ⟨hs,h1.len,h1,h2⟩
theorem OwnIss.keep{w J:World}{base c:Nat}{X:NP}{A:OA}{l:List (List Int)}(h:OwnIss w base X A c l)(hk:Kept (λb=>ob A=some b\/X b) w J):OwnIss J base X A c l:=by
 obtain ⟨hs,h1,h2⟩:=h;refine ⟨hs,h1.keep (hk.mono λ_ _ hh=>Or.inl hh),λi r hr => ?_⟩;obtain ⟨B,e,h3,h4,h7⟩:=h2 i r hr;exact ⟨B,e,h3,h4,h7.keep (hk.mono λ_ _ hh=>Or.inr hh.2)⟩
theorem GYA:(prog.info? 64).map (λi=>(i.zero,i.size,i.bytes))=some (some (.agg #[.slice none 0 0,.string ⟨#[]⟩]),2,40):=by kernel_rfl
theorem tiD:TI prog 34 64 2 40:=IKA underlying34 GYA rfl AB

def Ch(cols:List BA)(s:List Int)(n:Nat):List Dep:=((List.range n).filter λc:Nat => !PA s (c:Int)).map λc=>⟨Dd cols s,cols.getD c ⟨#[]⟩⟩
def BN(cols:List BA)(rows:List (List Val))(st:List (List Int) × List Dep)(s:List Int):List (List Int) × List Dep :=
 if st.1.any (λk=>MG k s) then st else if !F9 rows cols.length (s.map Int.toNat) then st else (st.1++[s],st.2++Ch cols s cols.length)
def Lw(l:List BA):Bool:=decide l.Nodup
def Co(cols:List BA)(rows:List (List Val)):List Dep :=
 if !Lw cols||!EF cols rows then [] else ((Fz cols.length).foldl (BN cols rows) ([],[])).2
def DTA(w:World)(l:List Dep)(e:Ending)(J:World):Prop:=∃ A c,e=.returned (.slice A l.length c)/\l.length<=c/\RDeps J (BO w) A l/\Ext w J

theorem C4A(n:Nat)(hn:n<=1000):(Fz n).length<=1002000:=by
 unfold Fz;have:∀ m,((List.range m).flatMap (GW n)).length<=m*1000:=by
  intro m
  induction m with
  |zero=>simp
  |succ m ih =>
   rw [List.range_succ,List.flatMap_append,List.length_append];have:([m].flatMap (GW n)).length<=1000:=(by simp [GW];omega);omega
 have:=this n;simp only [List.length_append,List.length_map,List.length_range,List.length_cons,List.length_nil];omega
theorem DIA(n:Nat):∀ s∈Fz n,∀ c∈s,0<=c/\c<(n:Int):=by
 intro s hs c hc;unfold Fz at hs
 rcases List.mem_append.1 hs with hs|hs
 ·rcases List.mem_append.1 hs with hs|hs
  ·simp at hs;subst hs;simp at hc
  ·obtain ⟨i,hi,rfl⟩:=List.mem_map.1 hs;simp at hc hi;omega
 ·obtain ⟨i,hi,h2⟩:=List.mem_flatMap.1 hs;unfold GW at h2;obtain ⟨j,hj,rfl⟩:=List.mem_map.1 h2;simp [List.mem_range'] at hc hi hj
  rcases hc with rfl|rfl<;>omega
theorem Jg(cols:List BA)(s:List Int)(m:Nat):Ch cols s (m+1)=Ch cols s m++if PA s (m:Int) then [] else [⟨Dd cols s,cols.getD m ⟨#[]⟩⟩]:=by
 unfold Ch;rw [List.range_succ,List.filter_append,List.map_append];congr 1;cases h:PA s (m:Int)<;>simp [h]
theorem QW(h:qP:=by
 unfold Ch;rw [List.length_map];exact Nat.le_trans (List.length_filter_le _ _) (by simp)):qP:=h
theorem APA(cols:List BA)(s:List Int)(m:Nat):(Ch cols s m).length<=m:=by
 exact QW

theorem TZ(h:qP:=by
 go_ret;exact ⟨none,0,by rw [HF.o];rfl,by rw [HF.o];exact Al,by rw [HF.o];exact ⟨by simp,[],Rd.nil,rfl,by simp⟩,HX.o⟩):qP:=h
theorem AVA(q:Nat)(cols:List BA)(rows:List (List Val))(A B:OA)(ca cb:Nat)(w:World)(S T:NP)(hA:Strs w S A cols)(hB:Rows w T q B rows)(hn:cols.length<=1000) :
  Cl 66 #[.slice A cols.length ca,.slice B rows.length cb] w (DTA w (Co cols rows)):=by
 have hcl:=hA.2.1;have hrl:=hB.len;have HA:=Hd hA;have HB:=Hd hB;clear hA hB;cases hnd:Lw cols
 ·have HND:=Hd (show decide cols.Nodup=false from hnd);have HF:=Hd (show Co cols rows=[] by unfold Co;rw [hnd];rfl);clear hnd
  go_enter func66,ntmps66
  go_wp2_with (go_at_call 125;refine (Fw cols _ _ _ S HA.o).mono ?_;rintro e J ⟨rfl,hx⟩;have HX:=Hd hx;clear hx;rw [HND.o])
  exact TZ
 have HND:=Hd (show decide cols.Nodup=true from hnd);cases hrg:EF cols rows
 ·have HRG:=Hd hrg;have HF:=Hd (show Co cols rows=[] by unfold Co;rw [hrg];simp);clear hnd hrg
  go_enter func66,ntmps66
  go_wp2_with (first|(go_at_call 125;refine (Fw cols _ _ _ S HA.o).mono ?_;rintro e J ⟨rfl,hx⟩;have HX:=Hd hx;clear hx;rw [HND.o])|(go_at_call 126;refine (Fg q cols rows _ _ _ _ _ T hcl (HB.o.keep (HX.o.kept T))).mono ?_;rintro e J ⟨rfl,rfl⟩;rw [HRG.o]))
  exact TZ
 have HRG:=Hd hrg;have HF:=Hd (show Co cols rows=((Fz cols.length).foldl (BN cols rows) ([],[])).2 by unfold Co;rw [hnd,hrg];rfl);have hrow:∀ c,c<cols.length->∀ j (h:j<rows.length),c<rows[j].length:=by
  exact US
 have HROW:=Hd hrow;clear hnd hrg hrow
 go_enter func66,ntmps66
 go_wp2_with (first|(go_at_call 125;refine (Fw cols _ _ _ S HA.o).mono ?_;rintro e J ⟨rfl,hx⟩;have HX:=Hd hx;clear hx;rw [HND.o])|(go_at_call 126;refine (Fg q cols rows _ _ _ _ _ T hcl (HB.o.keep (HX.o.kept T))).mono ?_;rintro e J ⟨rfl,rfl⟩;rw [HRG.o]))
 go_loopw [24,5] (λi v wr=>∃ (k:Nat) (A':OA) (c':Nat),k<=cols.length/\i=.I k/\v=.slice A' k c'/\Ext w wr/\OwnIss wr w.heap.size (λb=>w.heap.size<=b) A' c' ((EX rows cols.length).take k)) (λi _ _=>cols.length-(intOf i).toNat)
 case atStart=>exact ⟨0,none,0,AN,rfl,rfl,HX.o,OwnIss.nil _ _ _⟩
 case round =>
  clear HX;obtain ⟨k,A',c',hk,rfl,rfl,hext,hown⟩:=hrel;have HE:=Hd hext;have HO:=Hd hown;have hml:(EX rows cols.length).length=cols.length:=(by simp [EX]);have HML:=Hd hml;have hszw:=hext.size;clear hown hml hext;by_cases hlt:k<cols.length
  ·go_wp2_with fail
   refine (Hl q rows _ _ k _ T (HB.o.keep (HE.o.kept T)) (HROW.o k hlt)).mono ?_;rintro e w1 ⟨A1,c1',rfl,hcp1,hi1,hx1⟩;have HX1:=Hd hx1;have hsz1:=hx1.size;have HI1:=Hd hi1;clear hx1 hi1;have hval:(EX rows cols.length)[k]'EN=Ad rows k:=(by simp [EX]);have HVAL:=Hd hval;have hlk:((EX rows cols.length).take k).length=k:=(by rw [List.length_take,HML.o];omega);obtain ⟨hs,hhs,ho,hv⟩:=(HO.o.ext (HX1.o.alloc (.cells #[.slice A1 (Ad rows k).length c1'] 22))).add;rw [hlk] at ho;obtain ⟨HOWN,HV,HHS,HLK⟩:=Hd4 ho hv hhs hlk;clear ho hv hhs hlk hval
   go_wp2_with (at_builtin;go_must (refine AL rfl (.tmp 27) (.tmp 31) rfl DCA rfl HOWN.o rfl (Blk.rd (Blk.new _ _ _)) rfl AP AA AB AI ?_);intro A4 c4 w4 hown4 hg4 hat4)
   go_roundw
   case rel =>
    refine ⟨k+1,A4,c4,AA,AE,rfl,Ext.grown ((HE.o.trans HX1.o).alloc _) hg4 (λb hb=>(HOWN.o.blk hb).1),?_⟩;rw [List.take_succ_eq_append_getElem EN,HVAL.o];refine OwnIss.push HHS.o HV.o (by rw [HLK.o];exact hown4) hg4 hat4 hcp1 ((HI1.o.keep (Kept.alloc _ _ _)).mono λi _ hi=>⟨λh0 => ?_,?_⟩)
    ·have:=(HO.o.blk h0).2;unfold BO at hi;omega
    ·unfold BO at hi;omega
   case measure=>simp [intOf];omega
  ·obtain rfl:k=cols.length:=AA;have hoo:=HO.o;rw [List.take_of_length_le (by rw [HML.o];exact Al)] at hoo;have HRS:=Hd (hoo.riss (T:=λ_=>True) (by rw [HML.o];exact hcl) (λ_ _=>trivial) (λ_ _=>trivial));clear hoo HO
   go_wp2_with fail
   refine (AYA cols.length _ hn).mono ?_;rintro e w1 ⟨A1,c1,rfl,hcp1,hi1,hx1⟩;have HX1:=Hd hx1;have HI1:=Hd hi1;have hsz1:=hx1.size;have hsl:=C4A cols.length hn;clear hx1 hi1;obtain ⟨O,U⟩:=eqx (Fz cols.length);rw [<-U] at HI1 hsl HF hcp1;rw [<-U];have HIN:=Hd (show ∀ s∈O,∀ c∈s,0<=c/\c<(cols.length:Int) by rw [U];exact DIA _);clear U;obtain ⟨wo,rfl⟩:∃ wo:World,wo=wr:=⟨_,rfl⟩;go_wp2
   go_loopw [38,7,8] (λi v u wq=>∃ (k:Nat) (A7 A8:OA) (c7 c8:Nat) (ks:List (List Int)) (ds:List Dep),k<=O.length/\(ks,ds)=(O.take k).foldl (BN cols rows) ([],[])/\i=.I k/\v=.slice A7 ks.length c7/\u=.slice A8 ds.length c8/\Ext w1 wq/\ks.length<=k/\ds.length<=k*1000/\OwnIss wq w1.heap.size (λb=>b<w1.heap.size) A7 c7 ks/\OwnDs wq w1.heap.size (λb=>w1.heap.size<=b/\ob A7≠some b) A8 c8 ds/\(∀ b,ob A7=some b->ob A8≠some b)) (λi _ _ _=>O.length-(intOf i).toNat)
   case atStart=>exact ⟨0,none,none,0,0,[],[],AN,rfl,rfl,rfl,rfl,Ext.refl _,AN,AN,OwnIss.nil _ _ _,OwnDs.nil _ _ _,by simp [ob]⟩
   case round =>
    obtain ⟨k,A7,A8,c7,c8,ks,ds,hk,hst,rfl,rfl,rfl,hext,hkl,hdl,b8,ho8,hdis⟩:=hrel;obtain ⟨HST,Z,a8,HO8,Y⟩:=Hd5 hst hext b8 ho8 hdis;have hszq:=hext.size;clear hst hext b8 ho8 hdis;by_cases hlt:k<O.length
    ·obtain ⟨b1,o1,B1,e1,rfl,z1',p1',hcs,his⟩:=HI1.o.at_ hlt;have p1:=Z.o.cell p1';have z1:b1<wr.heap.size:=AA;have a9:=Hd (his.mono (T:=λb=>b<w1.heap.size) λi hi _=>hi);have b4:(O.take (k+1)).foldl (BN cols rows) ([],[])=BN cols rows (ks,ds) O[k]:=by
      rw [List.take_succ_eq_append_getElem hlt,List.foldl_append,<-HST.o];rfl
     have hmem:=List.getElem_mem hlt;obtain ⟨s,hs⟩:=eqx (O[k]);rw [<-hs] at p1 a9 b4 hmem hcs;obtain ⟨b5,HMEM,HCS,HIS⟩:=Hd4 b4 hmem hcs (a9.o.keep (Z.o.kept _));clear p1' his b4 hmem hs hcs
     go_wp2_with fail
     refine (Jh ks s A7 B1 c7 e1 wr.heap.size _ (λ_=>True) (λb=>b<w1.heap.size) ((a8.o.riss AA (λ_ _=>trivial) (λ_ _=>trivial)).keep (Kept.alloc _ _ _)) ((Blk.new wr 22 #[.slice B1 s.length e1]).cell rfl) (HIS.o.keep (Kept.alloc _ _ _))).mono ?_;rintro e w2 ⟨rfl,hx2⟩;have hbx:=hx2.cell ((Blk.new wr 22 #[.slice B1 s.length e1]).q0);have HX2:=Hd ((exaa wr).trans hx2);have hsz2:wr.heap.size<w2.heap.size:=(by have:=hx2.size;simp at this;omega);clear hx2;cases hany:ks.any (λl=>MG l s)
     case true =>
      have b0:=Hd hany;clear hany;go_wp2;go_roundw
      case rel=>exact ⟨k+1,A7,A8,c7,c8,ks,ds,AA,by rw [b5.o];unfold BN;rw [if_pos b0.o],AE,rfl,rfl,Z.o.trans HX2.o,AA,AA,a8.o.ext HX2.o,HO8.o.ext HX2.o,Y.o⟩
      case measure=>simp [intOf];omega
     case false =>
      have b0:=Hd (show ¬(ks.any (λl=>MG l s))=true by rw [hany];simp);clear hany
      go_wp2_with fail
      refine (YM rows cols.length s B1 _ e1 _ _ (λb=>b<w1.heap.size) (λ_=>True) (HIS.o.keep (HX2.o.kept _)) (HRS.o.keep ((HX1.o.trans (Z.o.trans HX2.o)).kept _)) (HIN.o s HMEM.o) hrl).mono ?_;rintro e w3 ⟨rfl,hx3⟩;have hbx3:=hx3.cell hbx;have HX3:=Hd (HX2.o.trans hx3);have hsz3:w2.heap.size<=w3.heap.size:=hx3.size;clear hx3 hbx;cases hkey:F9 rows cols.length (s.map Int.toNat)
      ·have HKEY:=Hd hkey;clear hkey;go_wp2;go_roundw
       case rel=>exact ⟨k+1,A7,A8,c7,c8,ks,ds,AA,by rw [b5.o];unfold BN;rw [if_neg b0.o,HKEY.o];rfl,AE,rfl,rfl,Z.o.trans HX3.o,AA,AA,a8.o.ext HX3.o,HO8.o.ext HX3.o,Y.o⟩
       case measure=>simp [intOf];omega
      ·have HKEY:=Hd (show (BN cols rows (ks,ds) s)=(ks++[s],ds++Ch cols s cols.length) by unfold BN;rw [if_neg b0.o,hkey];rfl);clear hkey;obtain ⟨hs7,hhs7,b8,hv7⟩:=(a8.o.ext (HX3.o.alloc (.cells #[.slice B1 s.length e1] 22))).add;obtain ⟨HOWN,HV,HHS⟩:=Hd3 b8 hv7 hhs7;clear b8 hv7 hhs7
       go_wp2_with (at_builtin;go_must (refine AL rfl (.tmp 51) (.tmp 53) rfl DCA rfl HOWN.o rfl (Blk.rd (Blk.new _ _ _)) rfl AP AA AB AI ?_);intro A4 c4 w4 hown4 hg4 hat4)
       have h74:OwnIss w4 w1.heap.size (λb=>b<w1.heap.size) A4 c4 (ks++[s]):=by
        refine OwnIss.push HHS.o HV.o hown4 hg4 hat4 HCS.o ((HIS.o.keep ((HX3.o.alloc _).kept _)).mono λi _ hi=>⟨λh0 => ?_,hi⟩);have:=(a8.o.blk h0).1;omega
       have h84:OwnDs w4 w1.heap.size (λb=>w1.heap.size<=b/\ob A4≠some b) A8 c8 ds:=by
        refine OwnDs.mono (X:=λb=>(w1.heap.size<=b/\ob A7≠some b)/\ob A4≠some b) ?_ (λb _ hb=>⟨hb.1.1,hb.2⟩);refine OwnDs.keep (w:=w3.alloc (.cells #[.slice B1 s.length e1] 22)) ?_ (Kept.of_grown hg4 λb hb _ e => ?_)
        ·refine (HO8.o.ext (HX3.o.alloc _)).mono λb hb hh=>⟨hh,λe => ?_⟩
         rcases hat4 with h|h
         ·rw [h] at e;exact hh.2 e
         ·rw [h] at e;injection e with e;omega
        ·rcases hb with h|h
         ·exact Y.o b e.symm h
         ·exact h.1.2 e.symm
       have hd4:∀ b,ob A4=some b->ob A8≠some b:=by
        intro b h1 h2
        rcases hat4 with h|h
        ·rw [h] at h1;exact Y.o b h1 h2
        ·rw [h] at h1;injection h1 with h1;have:=(HO8.o.blk h2).2;simp at h1;omega
       have hbx4:w4.cell? ⟨wr.heap.size,0,none⟩=some (.slice B1 s.length e1):=by
        rw [World.cell?_of_block (hg4.block wr.heap.size AI (λe=>by have:=(a8.o.blk e.symm).2;omega))];exact (exaa w3).cell hbx3
       have HX4:=Hd (show Ext w1 w4 from Ext.grown ((Z.o.trans HX3.o).alloc _) hg4 (λb hb=>(HOWN.o.blk hb).1));have hsz4:w3.heap.size<w4.heap.size:=(by have:=hg4.size;simp at this;omega);have h8b:ob A8≠some wr.heap.size:=λe=>by have:=(HO8.o.blk e).2;omega
       obtain ⟨H74,H84,HD4,HB4,H8B⟩:=Hd5 h74 h84 hd4 hbx4 h8b;clear h74 h84 hd4 hbx4 h8b hown4 hg4 hat4 HOWN HV HHS a8 HO8 Y hbx3;obtain ⟨wp,rfl⟩:∃ wp:World,wp=wr:=⟨_,rfl⟩;go_wp2
       go_loopw [57,8] (λi u wr=>∃ (m:Nat) (A9:OA) (c9:Nat) (d9:List Dep),m<=cols.length/\d9=ds++Ch cols s m/\i=.I m/\u=.slice A9 d9.length c9/\Ext w1 wr/\wp.heap.size<wr.heap.size/\wr.cell? ⟨wp.heap.size,0,none⟩=some (.slice B1 s.length e1)/\ob A9≠some wp.heap.size/\d9.length<=ds.length+m/\OwnIss wr w1.heap.size (λb=>b<w1.heap.size) A4 c4 (ks++[s])/\OwnDs wr w1.heap.size (λb=>w1.heap.size<=b/\ob A4≠some b) A9 c9 d9/\(∀ b,ob A4=some b->ob A9≠some b)) (λi _ _=>cols.length-(intOf i).toNat)
       case atStart=>exact ⟨0,A8,c8,ds,AN,by simp [Ch],rfl,rfl,HX4.o,AA,HB4.o,H8B.o,AA,H74.o,H84.o,HD4.o⟩
       case round =>
        clear HX4 HB4 H8B H74 H84 HD4;obtain ⟨m,A9,c9,d9,hm,hd9,rfl,rfl,hx9,hsz9,hbx9,h9b,hl9,h79,h99,hd99⟩:=hrel;obtain ⟨HD9,HX9,H9B,H79,b7,b3⟩:=Hd6 hd9 hx9 h9b h79 h99 hd99;have hsz19:=hx9.size;clear hd9 hx9 h9b h79 h99 hd99;by_cases hltm:m<cols.length
        ·obtain ⟨b2,o2,rfl,z2,p2⟩:=(HA.o.keep ((HE.o.trans (HX1.o.trans HX9.o)).kept S)).at_ hltm;cases hmm:PA s (m:Int)
         ·have b6:=Hd hmm;clear hmm
          go_wp2_with (go_at_call 133;refine (FM _ _ s _ _ (λb=>b<w1.heap.size) (a9.o.keep (HX9.o.kept _))).mono ?_;rintro e J ⟨rfl,rfl⟩;rw [b6.o])
          refine (YH cols s _ _ _ _ _ S (λb=>b<w1.heap.size) (HA.o.keep ((HE.o.trans (HX1.o.trans HX9.o)).kept S)) (a9.o.keep (HX9.o.kept _)) (HIN.o s HMEM.o)).mono ?_;rintro e w5 ⟨A5,c5,rfl,hcp5,hss5,hx5⟩;obtain ⟨HX5,HSS5,HCP5⟩:=Hd3 hx5 hss5 hcp5;have hsz5:=hx5.size;obtain ⟨hs9,hhs9,ho9,hv9⟩:=(b7.o.ext (HX5.o.alloc (.cells #[.slice A5 (Dd cols s).length c5,.string cols[m]] 64))).add;obtain ⟨HOWN,HV,HHS⟩:=Hd3 ho9 hv9 hhs9;clear ho9 hv9 hhs9 hx5 hss5 hcp5
          go_wp2_with (at_builtin;go_must (refine AL rfl (.tmp 66) (.tmp 72) rfl tiD rfl HOWN.o rfl (Blk.rd (Blk.new _ _ _)) rfl AP AA AB AI ?_);intro A6 c6 w6 hown6 hg6 hat6)
          go_roundw
          case rel =>
           have h9lt:∀ b,ob A9=some b->b<wr.heap.size:=λb hb=>(b7.o.blk hb).2;have h4lt:∀ b,ob A4=some b->w1.heap.size<=b/\b<wr.heap.size:=λb hb=>H79.o.blk hb;refine ⟨m+1,A6,c6,d9++[⟨Dd cols s,cols[m]⟩],AA,?_,AE,AC,Ext.grown ((HX9.o.trans HX5.o).alloc _) hg6 (λb hb=>(HOWN.o.blk hb).1),by have:=hg6.size;simp at this;omega,?_,?_,AI,?_,?_,?_⟩
           ·rw [HD9.o,Jg,b6.o,List.append_assoc];simp [hltm]
           ·rw [World.cell?_of_block (hg6.block wp.heap.size AI (λe=>H9B.o e.symm))];exact (HX5.o.alloc _).cell hbx9
           ·intro e
            rcases hat6 with h|h
            ·rw [h] at e;exact H9B.o e
            ·rw [h] at e;injection e with e;simp at e;omega
           ·exact (H79.o.ext (HX5.o.alloc _)).keep (Kept.of_grown hg6 λb hb _ e=>by
             rcases hb with h|h
             ·exact b3.o b h e.symm
             ·have:=(b7.o.blk e.symm).1;omega)
           ·refine OwnDs.push HHS.o HV.o hown6 hg6 hat6 HCP5.o (HA.o.2.2 _ (List.getElem_mem hltm)) ((HSS5.o.keep (Kept.alloc _ _ _)).mono λi _ hi => ?_);unfold BO at hi;exact ⟨λe=>by have:=h9lt i e;omega,AA,λe=>by have:=(h4lt i e).2;omega⟩
           ·intro b h1 h2
            rcases hat6 with h|h
            ·rw [h] at h2;exact b3.o b h1 h2
            ·rw [h] at h2;injection h2 with h2;have:=(h4lt b h1).2;simp at h2;omega
          case measure=>simp [intOf];omega
         ·have b6:=Hd hmm;clear hmm
          go_wp2_with (go_at_call 133;refine (FM _ _ s _ _ (λb=>b<w1.heap.size) (a9.o.keep (HX9.o.kept _))).mono ?_;rintro e J ⟨rfl,rfl⟩;rw [b6.o])
          go_roundw
          case rel=>exact ⟨m+1,A9,c9,d9,AA,by rw [HD9.o,Jg,b6.o];simp,AE,rfl,HX9.o,hsz9,hbx9,H9B.o,AA,H79.o,b7.o,b3.o⟩
          case measure=>simp [intOf];omega
        ·obtain rfl:m=cols.length:=AA;go_wp2;go_roundw
         case rel=>exact ⟨k+1,A4,A9,c4,c9,ks++[s],d9,AA,by rw [b5.o,HKEY.o,HD9.o],AE,AC,rfl,HX9.o,AI,AA,H79.o,b7.o,b3.o⟩
         case measure=>simp [intOf];omega
    ·obtain rfl:k=O.length:=AA;have hde:ds=Co cols rows:=by
      have:=HST.o;rw [List.take_of_length_le (Al)] at this;rw [HF.o,<-this]
     subst hde;have HC:=Hd (show (Co cols rows).length<=c8 by obtain ⟨hs,_,h1,_⟩:=HO8.o.add;exact h1.cap);go_wp2;go_ret;exact ⟨A8,c8,rfl,HC.o,HO8.o.rdeps AA (λb hb=>by have:=(HO8.o.blk hb).1;unfold BO;omega) (λb hb=>FS),HE.o.trans (HX1.o.trans Z.o)⟩



def E0A(n s:Int):Val:=⟨2,⟨#[]⟩,n,s,0,[],[]⟩

def G2A(s:BA):Val:=⟨1,s,0,0,0,[],[]⟩

def FeA:BA:=⟨#[99,105,116,121]⟩
def G1A:BA:=⟨#[122,105,112]⟩
def Yw:BA:=⟨#[99,111,117,110,116,114,121]⟩

set_option maxRecDepth 100000

theorem VK{k k':List BA}(h:k.Perm k'):An k=An k':=by
 unfold An;rw [Wf (h.map _)]
theorem IsClosure.mem{l:List Dep}{frm ks ks':List BA}(h:IsClosure l frm ks)(h':IsClosure l frm ks')(x:BA):x∈ks↔x∈ks' :=
 ⟨λhx=>h.least (·∈ks') h'.base h'.closed x hx,λhx=>h'.least (·∈ks) h.base h.closed x hx⟩
theorem IsClosure.one{l:List Dep}{frm ks ks':List BA}(h:IsClosure l frm ks)(h':IsClosure l frm ks'):An ks=An ks' :=
 VK ((List.perm_ext_iff_of_nodup h.nodup h'.nodup).2 (h.mem h'))

def ERA:BA:=⟨#[115,105,110,99,101]⟩
def sX:BA:=⟨#[120]⟩
def EOA:Array Value:=#[.string FeA,.string G1A,.string Yw,.string ERA,.string sX]
structure DC(w:World)(A:OA)(n c:Nat)(s:BA)(A':OA)(c':Nat)(fs:List BA)(wr:World):Prop where
 ext:Ext w wr
 gr:Blk wr w.heap.size 64 #[.slice none 0 0,.string ⟨#[]⟩]
 num:∃ K,NumIs wr (w.heap.size+1) A n c K
 gn:Blk wr (w.heap.size+1+1) 9 EOA
 gd:Blk wr (w.heap.size+3) 64 #[.slice A' fs.length c',.string s]
 own:OwnSs wr (w.heap.size+4) A' c' fs
theorem DC.more{w wr wr':World}{A A':OA}{n c c':Nat}{s:BA}{fs:List BA}(h:DC w A n c s A' c' fs wr)(hx:Ext wr wr'):DC w A n c s A' c' fs wr':=by
 obtain ⟨K,hK⟩:=h.num;exact ⟨h.ext.trans hx,h.gr.keep (hx.kept _),⟨K,hK.keep (hx.kept _)⟩,h.gn.keep (hx.kept _),h.gd.keep (hx.kept _),h.own.ext hx⟩
theorem DC.next{w wr wr':World}{A A':OA}{n c c':Nat}{s:BA}{fs:List BA}(h:DC w A n c s A' c' fs wr)(ho:Only (w.heap.size+1) wr wr'){K:Nat}(hK:NumIs wr' (w.heap.size+1) A n c K):DC w A n c s A' c' fs wr' :=
 ⟨h.ext.only ho AA,h.gr.keep (ho.kept λb _ e=>AA),⟨K,hK⟩,h.gn.keep (ho.kept λb _ e=>AA),h.gd.keep (ho.kept λb _ e=>AA),ho.own h.own.1 AA,h.own.2⟩
structure DA(w:World)(A:OA)(n c:Nat)(s:BA)(A':OA)(c':Nat)(fs:List BA)(wr:World):Prop where
 ext:Ext w wr
 gr:Blk wr w.heap.size 64 #[.slice none 0 0,.string ⟨#[]⟩]
 num:∃ K,NumIs wr (w.heap.size+1) A n c K
 gn:Blk wr (w.heap.size+1+1) 9 EOA
 gd:∃ x,Blk wr (w.heap.size+3) 64 #[x,.string s]
 own:OwnSs wr (w.heap.size+4) A' c' fs
theorem DC.app{w wr wr':World}{A A' A4:OA}{n c c' c4:Nat}{s t:BA}{fs:List BA}(h:DC w A n c s A' c' fs wr)(hg:wr.grownBy wr' (ob A'))(ho:Own wr' (w.heap.size+4) 9 1 A4 (fs.length+1) c4 (fs.map Value.string++[.string t]))(ht:t.size<=4294967296):DA w A n c s A4 c4 (fs++[t]) wr':=by
 obtain ⟨K,hK⟩:=h.num;have hk:∀ g,g<w.heap.size+4->Kept (λb=>b=g) wr wr':=λg hg'=>Kept.of_grown hg λb hb _ e=>by
  subst hb;have:=(h.own.1.blk e.symm).1;omega
 refine ⟨Ext.grown h.ext hg λb hb=>by have:=(h.own.1.blk hb).1;omega,h.gr.keep (hk _ AA),⟨K,hK.keep (hk _ AA)⟩,h.gn.keep (hk _ AA),⟨_,h.gd.keep (hk _ AA)⟩,?_,?_⟩
 ·simpa using ho
 ·intro x hx
  rcases List.mem_append.1 hx with hx|hx
  ·exact h.own.2 x hx
  ·simp at hx;subst hx;exact ht
theorem DA.store{w wr:World}{A A':OA}{n c c':Nat}{s:BA}{fs:List BA}(h:DA w A n c s A' c' fs wr):DC w A n c s A' c' fs (wr.setCell ⟨w.heap.size+3,0,none⟩ (.slice A' fs.length c')):=by
 obtain ⟨K,hK⟩:=h.num;obtain ⟨x,hx⟩:=h.gd;have ho:=(Only.refl (w.heap.size+3) wr).set 0 (.slice A' fs.length c');exact ⟨h.ext.only ho AA,h.gr.keep (ho.kept λb _ e=>AA),⟨K,hK.keep (ho.kept λb _ e=>AA)⟩,h.gn.keep (ho.kept λb _ e=>AA),hx.set 0 _,ho.own h.own.1 AA,h.own.2⟩

def GhA:BA:=⟨#[82,111,109,101]⟩
def F0A:BA:=⟨#[79,115,108,111]⟩
def FHA:BA:=⟨#[66,101,114,103,101,110]⟩
def sIt:BA:=⟨#[105,116]⟩
def GlA(n:Int):Val:=⟨3,⟨#[]⟩,0,0,n,[],[]⟩
def G9A(kind:Int)(n:Nat):Val :=
 if n=4 then Val.zero
 else if kind=2 then (if n=0 then E0A 1 0 else if n=1 then E0A (-25) 1 else if n=2 then E0A 3 0 else E0A 1000000000000000 0)
 else if kind=3 then GlA (738000+n)
 else G2A (if n=0 then GhA else if n=1 then F0A else if n=2 then FHA else sIt)

def names4:List BA:=[FeA,G1A,Yw,ERA]
section
variable {w wr wr':World}{name:BA}{A Ac Ak:OA}{n c cc ck:Nat}{cols:List BA}{ks:List Int}
end
def HKA(ks:List Int)(r:List Val):Prop:=r.length=ks.length/\∀ (j:Nat) (h:j<r.length) (h':j<ks.length),∃ m:Nat,m<5/\r[j]=G9A ks[j] m
def MadeT(name:BA)(t:Look):Prop:=t.name=name/\∃ ks:List Int,1<=ks.length/\ks.length<=4/\t.cols=names4.take ks.length/\ks.head?=some 1/\(∀ x∈ks,x=1\/x=2\/x=3)/\t.rows.length<=6/\∀ r∈t.rows,HKA ks r
def ErA(w:World)(name:BA)(e:Ending)(J:World):Prop:=∃ t,MadeT name t/\HkA w t e J
def StrsF(w:World)(S:NP)(A:OA)(l:List BA):Prop:=Strs w S A l/\∀ g,ob A=some g->S g/\∃ cs,Blk w g 9 cs
theorem StrsF.keep{w J:World}{S:NP}{A:OA}{l:List BA}(h:StrsF w S A l)(k:Kept S w J):StrsF J S A l :=
 ⟨h.1.keep k,λg hg=>by
  obtain ⟨h1,cs,h2⟩:=h.2 g hg;exact ⟨h1,cs,h2.keep (k.mono λb _ e=>by rw [e];exact h1)⟩⟩
theorem StrsF.mono{w:World}{S T:NP}{A:OA}{l:List BA}(h:StrsF w S A l)(k:∀ i,i<w.heap.size->S i->T i):StrsF w T A l :=
 ⟨h.1.mono k,λg hg=>by
  obtain ⟨h1,cs,h2⟩:=h.2 g hg;exact ⟨k g h2.lt h1,cs,h2⟩⟩
def RetMadeF(w:World)(name:BA)(e:Ending)(J:World):Prop:=∃ (t:Look) (H:Nat) (A:OA) (c:Nat) (B:OA) (e':Nat),MadeT name t/\e=.returned (.agg #[.string t.name,.slice A t.cols.length c,.slice B t.rows.length e'])/\(t.cols.length<=c/\t.rows.length<=e')/\w.heap.size<=H/\t.name.size<=4294967296/\StrsF J (λb=>w.heap.size<=b/\b<H) A t.cols/\Rows J (λb=>H<=b) 1 B t.rows/\Ext w J
theorem RetMadeF.made{w J:World}{name:BA}{e:Ending}(h:RetMadeF w name e J):ErA w name e J:=by
 obtain ⟨t,H,A,c,B,e',h1,h2,h3,h4,h5,h6,h7,h8⟩:=h;exact ⟨t,h1,A,c,B,e',h2,h3,⟨h5,h6.1.mono λb _ hb=>hb.1,h7.mono λb _ hb=>Nat.le_trans h4 hb⟩,h8⟩
section
variable {w wr wr':World}{name:BA}{A Ac Ak Ar:OA}{n c H T cc cr:Nat}{cols:List BA}{ks:List Int}{rows:List (List Val)}
end

theorem EPA{l:List BA}{v:BA} : decide (0<=Bt l v)=true↔v∈l:=by rw [decide_eq_true_iff];exact Fl l v
theorem EU{cols:List BA}{rows:List (List Val)}{frm:List BA}{x:BA} : BH cols rows frm x=true ↔
  x∈cols/\EF cols rows=true/\(∀ f∈frm,f∈cols)/\∀ r∈rows,∀ o∈rows,(∀ f∈frm,Cx (Bt cols f).toNat r o=true)->Cx (Bt cols x).toNat r o=true:=by
 unfold BH;simp only [Bool.and_eq_true,EPA,List.all_eq_true,and_assoc];refine and_congr Iff.rfl (and_congr Iff.rfl (and_congr Iff.rfl ?_));unfold Gk;simp only [List.all_eq_true,Bool.or_eq_true,Bool.not_eq_true'];constructor
 ·intro h r hr o ho hf
  rcases h r hr o ho with h1|h1
  ·exfalso;have:((frm.map λf=>(Bt cols f).toNat).all λf=>Cx f r o)=true:=by
    rw [List.all_eq_true];intro x hx;obtain ⟨f,O,rfl⟩:=List.mem_map.1 hx;exact hf f O
   rw [this] at h1;cases h1
  ·exact h1
 ·intro h r hr o ho;by_cases hf:((frm.map λf=>(Bt cols f).toNat).all λf=>Cx f r o)=true
  ·right;refine h r hr o ho λf O => ?_;rw [List.all_eq_true] at hf;exact hf _ (List.mem_map_of_mem O)
  ·left
   simpa using hf
theorem Ek{l:List BA}{x:BA} : x∈An l↔x∈l:=by
 unfold An;simp only [List.mem_map,List.mem_mergeSort];constructor
 ·rintro ⟨a,⟨y,hy,rfl⟩,rfl⟩;exact hy
 ·intro h;exact ⟨x.data.toList,⟨x,h,rfl⟩,rfl⟩
theorem WV(l:List BA):(An l).length=l.length:=by simp [An]
theorem IsClosure.again{l:List Dep}{frm ks ks':List BA}(h:IsClosure l frm ks)(h':IsClosure l (An ks) ks'):An ks'=An ks:=by
 refine h'.one ⟨h.nodup,λx hx=>Ek.1 hx,h.closed,λT h1 _ x hx=>h1 x (Ek.2 hx)⟩
theorem IsClosure.grow{l m:List Dep}{frm ks ks':List BA}(h:IsClosure l frm ks)(h':IsClosure m frm ks')(hs:∀ d∈l,d∈m):∀ x∈ks,x∈ks' :=
 h.least (·∈ks') h'.base λd hd hf=>h'.closed d (hs d hd) hf
theorem IsClosure.len{l:List Dep}{frm ks:List BA}(h:IsClosure l frm ks):ks.length<=frm.length+l.length:=Part.len ⟨h.nodup,h.base,h.least⟩
theorem MadeT.cols{name:BA}{t:Look}(h:MadeT name t):1<=t.cols.length/\t.cols.length<=4/\t.rows.length<=6:=by
 obtain ⟨_,ks,h1,h2,h3,_,_,h6,_⟩:=h;have hl:names4.length=4:=rfl;refine ⟨?_,?_,h6⟩<;>simp [h3]<;>omega

instance:DecidableEq Dep:=λa b=>decidable_of_iff (a.frm=b.frm/\a.tov=b.tov) (by cases a;cases b;simp)
structure Abs where
 kinds:Int
 tx:Sh
 nu:Rg
 dl:Int
 dh:Int
 bo:Int
 rl:Int
 rh:Int
 cols:List BA
 deps:List Dep
 errs:Bool
abbrev Ap(x:Abs)(A:Option Addr)(c:Nat)(D:Option Addr)(e:Nat):Array Value:=List.toArray [.int .i64 x.kinds,.int .i64 x.tx.least,.int .i64 x.tx.most,.int .i64 x.tx.cls,.string x.tx.b,.string x.tx.e,.int .i64 x.nu.ln,.int .i64 x.nu.ls,.int .i64 x.nu.hn,.int .i64 x.nu.hs,.int .i64 x.dl,.int .i64 x.dh,.int .i64 x.bo,.int .i64 x.rl,.int .i64 x.rh,.slice A x.cols.length c,.slice D x.deps.length e,.bool x.errs]
abbrev Aq(x:Abs)(A:Option Addr)(c:Nat)(D:Option Addr)(e:Nat):Value:=.agg (Ap x A c D e)
def ddp{α:Type} [DecidableEq α](l:List α):List α:=l.foldl (λr x=>if x∈r then r else r++[x]) []
theorem Jl{α:Type} [DecidableEq α](l:List α)(x:α):ddp (l++[x])=if x∈ddp l then ddp l else ddp l++[x]:=by
 unfold ddp;rw [List.foldl_append];rfl
theorem Hb{α:Type}{P:List α->Prop}(h0:P [])(h1:∀ l x,P l->P (l++[x]))(l:List α):P l:=by
 rw [<-List.reverse_reverse l]
 induction l.reverse with
 |nil=>exact h0
 |cons x m ih =>
  rw [List.reverse_cons];exact h1 _ _ ih
theorem IT{α:Type} [DecidableEq α](l:List α):∀ y,y∈ddp l↔y∈l:=by
 refine Hb (P:=λl=>∀ y,y∈ddp l↔y∈l) ?_ ?_ l
 ·intro y;simp [ddp]
 ·intro l x ih y;rw [Jl];by_cases h:x∈ddp l
  ·rw [if_pos h,ih,List.mem_append,List.mem_singleton];constructor
   ·intro hy;exact Or.inl hy
   ·rintro (hy|rfl)
    ·exact hy
    ·exact (ih _).1 h
  ·rw [if_neg h,List.mem_append,List.mem_append,ih]
theorem KB{α:Type} [DecidableEq α](l:List α):(ddp l).Nodup:=by
 refine Hb (P:=λl=>(ddp l).Nodup) ?_ ?_ l
 ·simp [ddp]
 ·intro l x ih;rw [Jl];by_cases h:x∈ddp l
  ·rw [if_pos h];exact ih
  ·rw [if_neg h,List.nodup_append];exact ⟨ih,AC,λa ha b hb=>by
    rw [List.mem_singleton] at hb;subst hb;rintro rfl;exact h ha⟩
theorem WK{α:Type} [DecidableEq α](l:List α):l.Nodup->ddp l=l:=by
 refine Hb (P:=λl=>l.Nodup->ddp l=l) ?_ ?_ l
 ·intro _;rfl
 ·intro l x ih h;rw [List.nodup_append] at h;obtain ⟨h1,_,h2⟩:=h;rw [Jl,ih h1,if_neg (λhx=>h2 x hx x AC rfl)]
def Ey(p1 p2 p3 p4 p5:Bool):Int:=(if p1=true then 2 else 0)+(if p2=true then 4 else 0)+(if p3=true then 8 else 0)+(if p4=true then 16 else 0)+(if p5=true then 32 else 0)
theorem Ok(h:qP:=by
 cases p1<;>cases p2<;>cases p3<;>cases p4<;>cases p5<;>decide):qP:=h
theorem D1A(p1 p2 p3 p4 p5:Bool):bt (Ey p1 p2 p3 p4 p5) 1=p1/\bt (Ey p1 p2 p3 p4 p5) 2=p2/\bt (Ey p1 p2 p3 p4 p5) 3=p3/\bt (Ey p1 p2 p3 p4 p5) 4=p4/\bt (Ey p1 p2 p3 p4 p5) 5=p5:=by
 exact Ok
def Cy(a:Abs):Int × Int:=CZ (a.dl,a.dh) (0,3652058)
def DF(a:Abs):Int × Int:=CZ (a.rl,a.rh) (0,100)
def boI(a:Abs):Int:=bits .and .i64 a.bo 3
def pT(a:Abs):Bool:=bt a.kinds 1&&!AT a.tx
def pN(a:Abs):Bool:=bt a.kinds 2&&!BF a.nu
def pD(a:Abs):Bool:=bt a.kinds 3&&decide ((Cy a).1<=(Cy a).2)
def pB(a:Abs):Bool:=bt a.kinds 4&&decide (boI a≠0)
def pR(a:Abs):Bool:=bt a.kinds 5&&decide ((DF a).1<=(DF a).2)&&decide ((ddp a.cols).length<=8)&&(ddp a.cols).all Ba
def AX(a:Abs):Abs where
 kinds:=Ey (pT a) (pN a) (pD a) (pB a) (pR a)
 tx:=if pT a=true then BW a.tx a.tx else H3A
 nu:=if pN a=true then Cc a.nu a.nu else IBA
 dl:=if pD a=true then (Cy a).1 else 1
 dh:=if pD a=true then (Cy a).2 else 0
 bo:=if pB a=true then boI a else 0
 rl:=if pR a=true then (DF a).1 else 1
 rh:=if pR a=true then (DF a).2 else 0
 cols:=if pR a=true then An (ddp a.cols) else []
 deps:=if pR a=true then ddp a.deps else []
 errs:=a.errs
def Lq(a:Abs):Bool:=decide ((AX a).kinds=0)&&!a.errs
def ED(a:Abs)(v:Val):Bool:=decide (a.rl<=v.rows.length)&&decide ((v.rows.length:Int)<=a.rh)&&a.cols.all (Aw v.cols)&&a.deps.all λd=>BH v.cols v.rows d.frm d.tov
def Ha(a:Abs)(v:Val):Bool :=
 if v.kind=1 then bt a.kinds 1&&Aj a.tx v.s
 else if v.kind=2 then bt a.kinds 2&&BD a.nu v.dn v.ds
 else if v.kind=3 then bt a.kinds 3&&decide (a.dl<=v.n/\v.n<=a.dh)
 else if v.kind=4 then bt a.kinds 4&&bt a.bo v.n.toNat
 else bt a.kinds 5&&ED a v
def AW(a:Abs)(v:Val):Bool:=BC v&&if v.kind=0 then a.errs else Ha a v
theorem Ty{a:Sh}(h:AT a=false)(l:List UInt8):InS (BW a a) l↔InS a l:=by
 constructor
 ·unfold BW;rw [h];simp only [Bool.false_eq_true,if_false];rintro ⟨h1,h2,h3,h4,h5⟩;have U:AQ (Sh.mk (min (AQ a) (AQ a)) (max (BE a) (BE a)) (bits .or .i64 (BL a) (BL a)) (bA (ES a.B a.B)) (bA (Hv a.E a.E)))=AQ a:=by
   rw [Hw,NQ];show max (max (max 0 (min (AQ a) (AQ a))) ((bA a.B).size:Int)) ((bA a.E).size:Int)=AQ a;rw [EH,EH,G6,F1];unfold AQ;omega
  have O:BE (Sh.mk (min (AQ a) (AQ a)) (max (BE a) (BE a)) (bits .or .i64 (BL a) (BL a)) (bA (ES a.B a.B)) (bA (Hv a.E a.E)))=BE a:=by
   show min (max (BE a) (BE a)) 200=BE a;unfold BE;omega
  rw [U] at h1;rw [O] at h2;refine ⟨h1,h2,λc hc => ?_,?_,?_⟩
  ·rcases (Pt (a:=a) (b:=a) rfl c).1 (h3 c hc) with h|h<;>exact h
  ·have:ES a.B a.B <+: l:=h4;rw [Hw] at this;exact this
  ·have:Hv a.E a.E <:+ l:=h5;rw [NQ] at this;exact this
 ·exact Wj
theorem Kc{a:Sh}(h:AT a=false)(s:BA):Aj (BW a a) s=Aj a s:=by
 rw [Bool.eq_iff_iff,Cf,Cf,Ty h]
theorem OK{a:Sh}(h:AT a=true)(s:BA):Aj a s=false:=by
 rw [Bool.eq_false_iff];intro hc;exact (Bs a).1 h _ ((Cf a s).1 hc)
theorem AzA{a:Rg}(h:BF a=false)(n s:Int):BD (Cc a a) n s=BD a n s:=by
 unfold Cc;rw [Fd,h];simp only [Bool.false_eq_true,if_false];rw [Bool.eq_iff_iff,Ce,Ce,(Ww _ _).1,(Ww _ _).2,(G9 h).1,(G9 h).2];constructor
 ·rintro ⟨h1,h2,h3⟩;exact ⟨h1,AA,AA⟩
 ·rintro ⟨h1,h2,h3⟩;exact ⟨h1,AA,AA⟩
theorem GmA(i:Nat):bt 3 i=decide (i<2):=by
 rw [show (3:Int)=((3:Nat):Int) from rfl,DVA _ _ AB];rw [show 3=2^2-1 from rfl,Nat.testBit_two_pow_sub_one]
theorem Wc(a:Abs)(i:Nat):bt (boI a) i=(bt a.bo i&&decide (i<2)):=by
 unfold boI;rw [CN,GmA]
theorem CCA(a:Abs):boI a=0↔bt a.bo 0=false/\bt a.bo 1=false:=by
 rw [RF (show Er (boI a) from CJ _ _ _)];constructor
 ·intro h;have h0:=h 0 AA;have h1:=h 1 AA
  change bt (boI a) 0=false at h0
  change bt (boI a) 1=false at h1
  rw [Wc] at h0 h1;simp at h0 h1;exact ⟨h0,h1⟩
 ·rintro ⟨h0,h1⟩ i _;show bt (boI a) i=false;rw [Wc]
  match i with
  |0=>simp [h0]
  |1=>simp [h1]
  |k+2=>simp
theorem OC{cols:List BA}{rows:List (List Val)}(h:BK cols rows=true):cols.length<=8/\rows.length<=100/\cols.Nodup/\(∀ c∈cols,Ba c=true)/\∀ r∈rows,Ew cols.length r=true:=by
 unfold BK at h;rw [Bool.and_eq_true,Bool.and_eq_true,decide_eq_true_eq] at h;obtain ⟨⟨⟨h1,h2⟩,h3⟩,h4⟩:=h;rw [List.all_eq_true] at h3 h4;have h5:∀ i,i<cols.length->Fj cols i=true:=λi hi=>h3 i Bp;refine ⟨h1,h2,?_,?_,h4⟩
 ·rw [List.nodup_iff_pairwise_ne,List.pairwise_iff_getElem];intro i j hi hj hij he;have h6:=h5 j hj;unfold Fj at h6;rw [BM _ _ _ hj,Bool.and_eq_true,Bool.not_eq_true'] at h6;have h7:Aw (cols.take j) cols[j]=true:=by
   rw [Ao,List.mem_take_iff_getElem];exact ⟨i,AA,he⟩
  rw [h7] at h6;cases h6.2
 ·intro c hc;obtain ⟨i,hi,rfl⟩:=List.mem_iff_getElem.1 hc;have h6:=h5 i hi;unfold Fj at h6;rw [BM _ _ _ hi,Bool.and_eq_true] at h6;exact h6.1
theorem N9{v:Val}(h:BC v=true)(hk:v.kind=5):BK v.cols v.rows=true:=by
 unfold BC at h;rw [if_pos hk,Bool.and_eq_true] at h;exact h.1
theorem Dh{v:Val}(h:BC v=true):v.kind=0\/v.kind=1\/v.kind=2\/v.kind=3\/v.kind=4\/v.kind=5:=by
 unfold BC at h;split at h
 ·omega
 ·unfold BG at h
  repeat' split at h
  all_goals first|omega|cases h
theorem BUA{v:Val}(h:BC v=true)(hk:v.kind=3):0<=v.n/\v.n<=3652058:=by
 unfold BC at h;rw [if_neg AA] at h;unfold BG at h;rw [if_neg AA,if_neg AA,if_neg AA,if_pos hk] at h;simp at h;omega
theorem Gx{v:Val}(h:BC v=true)(hk:v.kind=4):v.n=0\/v.n=1:=by
 unfold BC at h;rw [if_neg AA] at h;unfold BG at h;rw [if_neg AA,if_neg AA,if_neg AA,if_neg AA,if_pos hk] at h;simp at h;omega
theorem Zb(a:Abs):bt (AX a).kinds 1=pT a/\bt (AX a).kinds 2=pN a/\bt (AX a).kinds 3=pD a/\bt (AX a).kinds 4=pB a/\bt (AX a).kinds 5=pR a:=D1A _ _ _ _ _
theorem CL(a:Abs)(v:Val):AW (AX a) v=AW a v:=by
 unfold AW;cases hr:BC v
 ·rfl
 ·rw [Bool.true_and,Bool.true_and];by_cases h0:v.kind=0
  ·rw [if_pos h0,if_pos h0];rfl
  ·rw [if_neg h0,if_neg h0];obtain ⟨b1,b2,b3,b4,b5⟩:=Zb a;unfold Ha;rw [b1,b2,b3,b4,b5]
   rcases Dh hr with hk|hk|hk|hk|hk|hk
   ·omega
   ·rw [if_pos hk,if_pos hk];show (pT a&&Aj (if pT a=true then BW a.tx a.tx else H3A) v.s)=_;cases hp:pT a
    ·rw [Bool.false_and];unfold pT at hp;cases hb:bt a.kinds 1
     ·rfl
     ·rw [hb,Bool.true_and,Bool.not_eq_false'] at hp;rw [Bool.true_and,OK hp]
    ·rw [if_pos rfl,Bool.true_and];unfold pT at hp;rw [Bool.and_eq_true,Bool.not_eq_true'] at hp;rw [hp.1,Bool.true_and,Kc hp.2]
   ·rw [if_neg AA,if_pos hk,if_neg AA,if_pos hk];show (pN a&&BD (if pN a=true then Cc a.nu a.nu else IBA) v.dn v.ds)=_;cases hp:pN a
    ·rw [Bool.false_and];unfold pN at hp;cases hb:bt a.kinds 2
     ·rfl
     ·rw [hb,Bool.true_and,Bool.not_eq_false'] at hp;rw [Bool.true_and,Dw hp]
    ·rw [if_pos rfl,Bool.true_and];unfold pN at hp;rw [Bool.and_eq_true,Bool.not_eq_true'] at hp;rw [hp.1,Bool.true_and,AzA hp.2]
   ·rw [if_neg AA,if_neg AA,if_pos hk,if_neg AA,if_neg AA,if_pos hk];show (pD a&&decide ((if pD a=true then (Cy a).1 else 1)<=v.n/\v.n<=(if pD a=true then (Cy a).2 else 0)))=_;have hd:=BUA hr hk;have hm:=M2 (a.dl,a.dh) (0,3652058) v.n
    change inP (Cy a) v.n↔_ at hm
    unfold inP at hm;simp only at hm;cases hp:pD a
    ·rw [Bool.false_and];unfold pD at hp;cases hb:bt a.kinds 3
     ·rfl
     ·rw [hb,Bool.true_and,decide_eq_false_iff_not] at hp;rw [Bool.true_and,eq_comm,decide_eq_false_iff_not];omega
    ·rw [if_pos rfl,if_pos rfl,Bool.true_and];unfold pD at hp;rw [Bool.and_eq_true] at hp;rw [hp.1,Bool.true_and];rw [Bool.eq_iff_iff,decide_eq_true_eq,decide_eq_true_eq,hm];omega
   ·rw [if_neg AA,if_neg AA,if_neg AA,if_pos hk,if_neg AA,if_neg AA,if_neg AA,if_pos hk];show (pB a&&bt (if pB a=true then boI a else 0) v.n.toNat)=_;have hd:=Gx hr hk;have hn:v.n.toNat<2:=AA;cases hp:pB a
    ·rw [Bool.false_and];unfold pB at hp;cases hb:bt a.kinds 4
     ·rfl
     ·rw [hb,Bool.true_and,decide_eq_false_iff_not,ne_eq,Classical.not_not,CCA] at hp;rw [Bool.true_and]
      rcases hd with hd|hd<;>rw [hd]
      ·exact hp.1.symm
      ·exact hp.2.symm
    ·rw [if_pos rfl,Bool.true_and];unfold pB at hp;rw [Bool.and_eq_true] at hp;rw [hp.1,Bool.true_and,Wc,decide_eq_true hn,Bool.and_true]
   ·rw [if_neg AA,if_neg AA,if_neg AA,if_neg AA,if_neg AA,if_neg AA,if_neg AA,if_neg AA];obtain ⟨t1,t2,t3,Z,_⟩:=OC (N9 hr hk);have hm:=M2 (a.rl,a.rh) (0,100) v.rows.length
    change inP (DF a) v.rows.length↔_ at hm
    unfold inP at hm;simp only at hm;cases hp:pR a
    ·rw [Bool.false_and,eq_comm];unfold pR at hp;cases hb:bt a.kinds 5
     ·rfl
     ·rw [Bool.true_and];rw [hb,Bool.true_and] at hp;cases ht:ED a v
      ·rfl
      ·exfalso;unfold ED at ht;simp only [Bool.and_eq_true,decide_eq_true_eq,List.all_eq_true] at ht;obtain ⟨⟨⟨h1,h2⟩,h3⟩,_⟩:=ht;have O:∀ x∈ddp a.cols,x∈v.cols:=λx hx=>(Ao _ _).1 (h3 x ((IT _ _).1 hx));have Y:=J2 (KB a.cols) O;have hall:(ddp a.cols).all Ba=true:=by
        rw [List.all_eq_true];exact λx hx=>Z x (O x hx)
       rw [hall,Bool.and_true,decide_eq_true (by omega:(ddp a.cols).length<=8),Bool.and_true,decide_eq_false_iff_not] at hp;omega
    ·rw [Bool.true_and];have U:=hp;unfold pR at hp;simp only [Bool.and_eq_true,decide_eq_true_eq] at hp;rw [hp.1.1.1,Bool.true_and];unfold ED AX;simp only [U,if_true];rw [Bool.eq_iff_iff];simp only [Bool.and_eq_true,decide_eq_true_eq,List.all_eq_true];constructor
     ·rintro ⟨⟨⟨h1,h2⟩,h3⟩,h4⟩;have h5:=hm.1 ⟨h1,h2⟩;exact ⟨⟨⟨h5.1.1,h5.1.2⟩,λx hx=>h3 x (Ek.2 ((IT _ _).2 hx))⟩,λd hd=>h4 d ((IT _ _).2 hd)⟩
     ·rintro ⟨⟨⟨h1,h2⟩,h3⟩,h4⟩;have h5:=hm.2 ⟨⟨h1,h2⟩,AA,AA⟩;exact ⟨⟨⟨h5.1,h5.2⟩,λx hx=>h3 x ((IT _ _).1 (Ek.1 hx))⟩,λd hd=>h4 d ((IT _ _).1 hd)⟩

theorem VA(h:qP:=by
 have ht:(l[k].toList==v.toList)=false:=(by rw [Bj];simp [hv]);exact Kj):qP:=h
theorem Ei(A:OA)(c:Nat)(l:List BA)(v:BA)(w:World)(S:NP)(h:Strs w S A l) :
  Cl 107 #[.slice A l.length c,.string v] w (Bk w (Bt l v)):=by
 have hn:=h.2.1
 go_enter func107,ntmps107
 go_wp2
 go_loop [5] (λi=>∃ k:Nat,k<=l.length/\i=.I k/\∀ j (h:j<l.length),j<k->l[j]≠v) (λi=>l.length-(intOf i).toNat)
 case atStart=>exact ⟨0,AN,rfl,AK⟩
 case round =>
  obtain ⟨k,hk,rfl,hall⟩:=hrel;have HA:=Hd hall;clear hall;by_cases hlt:k<l.length
  ·obtain ⟨b1,o1,rfl,z1,c1⟩:=h.at_ hlt;by_cases hv:l[k]=v
   ·have ht:(l[k].toList==v.toList)=true:=(by rw [Bj];simp [hv]);exact Om
   ·exact VA
  ·exact Oy

theorem Rs(q:Nat)(cols:List BA)(rows:List (List Val))(A B:OA)(c e:Nat)(w:World)(S:NP)(_hcl:cols.length<=4294967296)(hB:Rows w S q B rows) :
  Cl 106 #[.slice A cols.length c,.slice B rows.length e] w (SameB w (EF cols rows)):=by
 have hn:=hB.len;have HB:=Hd hB;clear hB
 go_enter func106,ntmps106
 go_wp2
 go_loop [5] (λi=>∃ k:Nat,k<=rows.length/\i=.I k/\∀ j (h:j<rows.length),j<k->rows[j].length=cols.length) (λi=>rows.length-(intOf i).toNat)
 case atStart=>exact ⟨0,AN,rfl,AK⟩
 case round =>
  obtain ⟨k,hk,rfl,hall⟩:=hrel;have HA:=Hd hall;clear hall;by_cases hlt:k<rows.length
  ·obtain ⟨b1,o1,Z,e1,rfl,z1,c1,U,O⟩:=HB.o.at_ hlt;have Y:=O.len;clear O;by_cases hv:rows[k].length=cols.length
   ·have ht:(((rows[k].length:Nat):Int) != ((cols.length:Nat):Int))=false:=(by simp [hv]);exact Kj
   ·have ht:(((rows[k].length:Nat):Int) != ((cols.length:Nat):Int))=true:=AI;have HV:=Hd hv;clear hv;go_wp2;go_ret;refine ⟨?_,rfl⟩;have hr:EF cols rows=false:=CX _ _ k hlt (by simp [HV.o]);rw [hr];rfl
  ·go_wp2;go_ret;refine ⟨?_,rfl⟩;have hr:EF cols rows=true:=CH _ _ λj hj=>by simp [HA.o j hj AA]
   rw [hr];rfl
