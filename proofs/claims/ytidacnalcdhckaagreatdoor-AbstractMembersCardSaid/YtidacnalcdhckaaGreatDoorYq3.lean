/- Lemmas. No conditions. -/
import Derived.Test.YtidacnalcdhckaaGreatDoorYq2
import Derived.BigRegion
import Derived.Shelf.SlIter.Nil
import Derived.Shelf.SortM.Plain
import Derived.Shelf.SortM.SortNone
import Derived.Ground.GgzProg
import Derived.Ground.SlgmProg
import Derived.Test.YtidacnalcdhckaaGreatDoorProg
import Derived.Shelf.SlGeneric
import Derived.Deep.LoopGhost
set_option maxRecDepth 100000
set_option maxHeartbeats 1000000
namespace Go.Proofs.YtidacnalcdhckaaGreatDoor
open Go Go.RowKit Tryz
variable {qP:Prop}

section
variable {K:Type} [DecidableEq K]
theorem Xk(m:List (K × Value))(k:K)(v:Value):(PE m k v).length=if (Dt m k).isSome then m.length else m.length+1:=by
 unfold PE Dt;cases fnd k m 0 with
 |none=>simp
 |some r=>simp
end

def Fr(gs cs:List Int):Bool:=(List.range gs.length).all λi=>(List.range i).all λj=>decide (gs.getD i 0=gs.getD j 0->cs.getD i 0=cs.getD j 0)
theorem YY{gs cs:List Int}{i j:Nat}(hi:i<gs.length)(hj:j<i)(h1:gs.getD i 0=gs.getD j 0)(h2:cs.getD i 0≠cs.getD j 0):Fr gs cs=false:=by
 unfold Fr;refine Hz hi (Hz hj ?_);rw [decide_eq_false_iff_not];exact λh=>h2 (h h1)
theorem Wb(gs cs:List Int):Fr gs cs=true↔∀ i j,i<gs.length->j<i->gs.getD i 0=gs.getD j 0->cs.getD i 0=cs.getD j 0:=by
 unfold Fr;simp only [List.all_eq_true,List.mem_range,decide_eq_true_eq];constructor
 ·intro h i j hi hj;exact h i hi j hj
 ·intro h i hi j hj;exact h i j hi hj

theorem FrA(w:World):(zeroValue 3).run prog w=.ok (.I 0) w:=by kernel_rfl

theorem GQ(h:qP:=by injection hb with hb;omega):qP:=h
theorem KI(gs cs:List Int)(A B:OA)(ca cb:Nat)(w:World)(S T:NP)(hA:Ints w S A gs)(hB:Ints w T B cs)(hl:cs.length=gs.length) :
  Cl 194 #[.slice A gs.length ca,.slice B cs.length cb] w (Ae w (Fr gs cs)):=by
 have hgl:=hA.2;obtain ⟨HA,HB,HL⟩:=Hd3 hA hB hl;clear hA hB hl;have hmm:=@run_makeMap prog
 go_enter func194,ntmps194
 go_wp2;clear hmm
 go_loopw [13] (λi wr=>∃ (k:Nat) (m:List (Int × Value)),k<=gs.length/\i=.I k/\Ext w wr/\MapIs wr w.heap.size (λn:Int=>Value.int .i64 n) m /\
   (∀ j,j<k->Dt m (gs.getD j 0)=some (.I (cs.getD j 0)))/\(∀ g v,Dt m g=some v->∃ j,j<k/\gs.getD j 0=g)/\(∀ i j,i<k->j<i->gs.getD i 0=gs.getD j 0->cs.getD i 0=cs.getD j 0)) (λi _=>gs.length-(intOf i).toNat)
 case atStart=>exact ⟨0,[],AN,rfl,(Ext.refl w).alloc _,IHA w _,AK,by intro g v h;simp [Dt,fnd] at h,AK⟩
 case round =>
  obtain ⟨k,m,hk,rfl,hext,hmap,h1,h2,h3⟩:=hrel;obtain ⟨HE,HM,H1,H2,H3⟩:=Hd5 hext hmap h1 h2 h3;clear hmap h1 h2 h3;by_cases hlt:k<gs.length
  ·have hlt2:k<cs.length:=(by rw [HL.o];exact hlt);obtain ⟨b1,o1,rfl,z1,c1⟩:=(HA.o.keep (hext.kept S)).at_ hlt;obtain ⟨b2,o2,rfl,z2,c2⟩:=(HB.o.keep (hext.kept T)).at_ hlt2;have a8:=HM.o.get2 underlying214 (FkA underlying3) (.I 0) FrA gs[k];have G1:=Hd (BM gs k 0 hlt);have G2:=Hd (BM cs k 0 hlt2);obtain ⟨w',hup,b0,hg'⟩:=HM.o.put underlying214 (FkA underlying3) gs[k] (.I cs[k]);have HM':=Hd b0;have HG':=Hd hg';have hh2:(cs.length:Int)=(gs.length:Int):=(by rw [HL.o]);have hlt3:(k:Int)<(cs.length:Int):=AA;clear b0 hg' hext hh2;have Z:(∀ v,Dt m gs[k]=some v->v=.I cs[k])->∃ (k':Nat) (Y:List (Int × Value)),k'<=gs.length/\(k':Int)=(k:Int)+1/\Ext w w'/\MapIs w' w.heap.size (λn:Int=>Value.int .i64 n) Y /\
     (∀ j,j<k'->Dt Y (gs.getD j 0)=some (.I (cs.getD j 0)))/\(∀ g v,Dt Y g=some v->∃ j,j<k'/\gs.getD j 0=g)/\(∀ i j,i<k'->j<i->gs.getD i 0=gs.getD j 0->cs.getD i 0=cs.getD j 0):=by
    intro hv;refine ⟨k+1,_,AA,AA,HE.o.grown HG'.out (λb hb=>GQ),HM'.out,λj hj => ?_,λg v hg => ?_,λi j hi hj he => ?_⟩
    ·rw [Jf];by_cases hjk:gs[k]=gs.getD j 0
     ·rw [if_pos hjk];by_cases O:j=k
      ·subst O;rw [G2.o]
      ·have:=H1.o j AA;rw [<-hjk] at this;rw [hv _ this] at this;have h5:=H1.o j AA;rw [<-hjk,this] at h5;exact h5
     ·rw [if_neg hjk];by_cases O:j=k
      ·subst O;exact absurd G1.o.symm hjk
      ·exact H1.o j AA
    ·rw [Jf] at hg;by_cases hgk:gs[k]=g
     ·exact ⟨k,AA,by rw [G1.o];exact hgk⟩
     ·rw [if_neg hgk] at hg;obtain ⟨j,hj,O⟩:=H2.o g v hg;exact ⟨j,AA,O⟩
    ·by_cases hik:i=k
     ·subst hik;have h5:=H1.o j hj;rw [<-he,G1.o] at h5;have h6:=hv _ h5;injection h6 with _ h6;rw [G2.o];exact h6.symm
     ·exact H3.o i j AA hj he
   have a9:=Hd Z;clear Z;cases hmg:Dt m gs[k] with
   |none =>
    have hlk2:(Instr.lookup 214 (.map (some w.heap.size)) (.I gs[k]) true).run prog wr=.ok (.tuple #[.I 0,.bool false]) wr:=(by rw [a8,hmg];rfl);have U:=Hd hmg;clear a8 hmg;go_wp2;go_roundw
    case rel =>
     obtain ⟨k',Y,e1,e2,e3⟩:=a9.o (λv hv=>by rw [U.o] at hv;cases hv);exact ⟨k',Y,e1,by rw [e2],e3⟩
    case measure=>simp [intOf];omega
   |some v =>
    have hvv:∃ x:Int,v=.I x:=by
     obtain ⟨j,hj,O⟩:=H2.o _ _ hmg;have:=H1.o j hj;rw [O,hmg] at this;injection this with this;exact ⟨_,this⟩
    obtain ⟨x,rfl⟩:=hvv;have hlk2:(Instr.lookup 214 (.map (some w.heap.size)) (.I gs[k]) true).run prog wr=.ok (.tuple #[.I x,.bool true]) wr:=(by rw [a8,hmg];rfl);have U:=Hd hmg;clear a8 hmg;by_cases hx:x=cs[k]
    ·have hx':(x != cs[k])=false:=(by simp [hx]);have HXX:=Hd hx;clear hx;go_wp2;go_roundw
     case rel =>
      obtain ⟨k',Y,e1,e2,e3⟩:=a9.o (λv hv=>by rw [U.o] at hv;injection hv with hv;rw [<-hv,HXX.o]);exact ⟨k',Y,e1,by rw [e2],e3⟩
     case measure=>simp [intOf];omega
    ·have hx':(x != cs[k])=true:=(by rw [bne_iff_ne];exact hx);have HF:=Hd (show Fr gs cs=false by
      obtain ⟨j,hj,O⟩:=H2.o _ _ U.o;have h5:=H1.o j hj;rw [O,U.o] at h5;injection h5 with h5;injection h5 with _ h5;exact YY hlt hj (by rw [G1.o,O]) (by rw [G2.o,<-h5];exact λe=>hx e.symm))
     clear hx;exact MD
  ·have HF:=Hd (show Fr gs cs=true by rw [Wb];exact λi j hi hj he=>H3.o i j AA hj he);exact FC

def RIss(w:World)(S:NP)(A:OA)(l:List (List Int)):Prop :=
 l.length<=4294967296/\∃ hs:List Value,Rd w S A hs/\hs.length=l.length/\∀ (i:Nat) (r:List Int),l[i]?=some r->∃ (B:OA) (e:Nat),hs[i]?=some (.slice B r.length e)/\r.length<=e/\Ints w S B r
theorem UJ(h:qP:=by
 obtain ⟨h0,hs,h1,h2,h3⟩:=h;refine ⟨h0,hs,h1.keep k,h2,λi r hr => ?_⟩;obtain ⟨B,e,g1,g2,g3⟩:=h3 i r hr;exact ⟨B,e,g1,g2,g3.keep k⟩):qP:=h
theorem RIss.keep{w w':World}{S:NP}{A:OA}{l:List (List Int)}(h:RIss w S A l)(k:Kept S w w'):RIss w' S A l:=by
 exact UJ
theorem VD(h:qP:=by
 obtain ⟨_,hs,h1,h2,h3⟩:=h;obtain ⟨B,e,g1,g2,g3⟩:=h3 k l[k] (List.getElem?_eq_getElem hk);obtain ⟨b,o,hA,hb,hc⟩:=h1.at_ g1;exact ⟨b,o,B,e,hA,hb,hc,g2,g3⟩):qP:=h
theorem RIss.at_{w:World}{S:NP}{A:OA}{l:List (List Int)}(h:RIss w S A l){k:Nat}(hk:k<l.length) :
  ∃ b o B e,A=some ⟨b,o,none⟩/\b<w.heap.size/\w.cell? ⟨b,o+k,none⟩=some (.slice B l[k].length e)/\l[k].length<=e/\Ints w S B l[k]:=by
 exact VD
structure GroupsOf(n:Nat)(ls:List (List Int))(gs:List Int):Prop where
 len:gs.length=n
 same:∀ i j,i<n->j<n->(gs.getD i 0=gs.getD j 0↔∀ l∈ls,l.getD i 0=l.getD j 0)
def HUA(w:World)(n:Nat)(ls:List (List Int))(e:Ending)(w':World):Prop:=∃ gs,GroupsOf n ls gs/\FjA w gs e w'
theorem Ro(h:qP:=by
 rw [hz];apply Array.ext
 ·simp [madeCells]
 ·intro i h5 h6;simp [madeCells,Nat.mod_one]):qP:=h
theorem Qe(z:Value)(n:Nat)(hz:z.cells=#[z]):madeCells z.cells n=Array.replicate n z:=by
 exact Ro
theorem EhA(n:Nat)(hn:n<=4294967296):∀ w:World,(Instr.makeSlice 22 (.I (n:Int)) (.I (n:Int))).run prog w=.ok (.slice (some ⟨w.heap.size,0,none⟩) n n) (w.alloc (.cells (Array.replicate n (.I 0)) 3)):=by
 intro w;obtain ⟨i0,h1,h2,h3,h4⟩:=info_parts EXA;have hr:=run_make (P:=prog) w 22 3 i0 (.I 0) underlying22 h1 h2 .i64 .i64 n n AA AA (by rw [h4];omega) AA;rw [h3,Nat.mul_one,Int.toNat_natCast,Qe _ _ rfl] at hr;exact hr
structure GRel(n r:Nat)(gs cls cur:List Int)(m:List ((Int × Int) × Value)):Prop where
 len:cur.length=n
 done:∀ j,j<r->Dt m (gs.getD j 0,cls.getD j 0)=some (.I (cur.getD j 0))
 rest:∀ j,r<=j->j<n->cur.getD j 0=gs.getD j 0
 inj:∀ p q v,Dt m p=some v->Dt m q=some v->p=q
 range:∀ p v,Dt m p=some v->∃ i:Nat,i<m.length/\v=.I (i:Int)

theorem VQ{l:List Int}{r j:Nat}{g:Int} : (l.set r g).getD j 0=if r=j/\j<l.length then g else l.getD j 0:=by
 simp only [List.getD_eq_getElem?_getD,List.getElem?_set];by_cases h:r=j
 ·subst h;by_cases h2:r<l.length
  ·simp [h2]
  ·simp [h2]
 ·simp [h]
theorem Ue(h:qP:=by
 rw [VQ,if_neg (λe=>by omega)];exact h.rest j (by omega) hn):qP:=h
theorem GRel.new{n r:Nat}{gs cls cur:List Int}{m:List ((Int × Int) × Value)}(h:GRel n r gs cls cur m)(hr:r<n)(hm:Dt m (gs.getD r 0,cls.getD r 0)=none):GRel n (r+1) gs cls (cur.set r (m.length:Int)) (PE m (gs.getD r 0,cls.getD r 0) (.I (m.length:Int))):=by
 have hl:=h.len;refine ⟨DX,λj hj => ?_,λj hj hn => ?_,λp q v hp hq => ?_,λp v hp => ?_⟩
 ·rw [Jf,VQ];by_cases hjr:j=r
  ·subst hjr;rw [if_pos rfl,if_pos ⟨rfl,AA⟩]
  ·have hd:=h.done j AA;rw [if_neg (λe=>by rw [<-e,hm] at hd;cases hd),if_neg (λe=>hjr e.1.symm)];exact hd
 ·exact Ue
 ·rw [Jf] at hp hq;by_cases h1:(gs.getD r 0,cls.getD r 0)=p
  ·rw [if_pos h1] at hp;by_cases h2:(gs.getD r 0,cls.getD r 0)=q
   ·rw [<-h1,h2]
   ·rw [if_neg h2,<-hp] at hq;obtain ⟨i,hi,he⟩:=h.range _ _ hq;injection he with _ he;omega
  ·rw [if_neg h1] at hp;by_cases h2:(gs.getD r 0,cls.getD r 0)=q
   ·rw [if_pos h2] at hq;rw [<-hq] at hp;obtain ⟨i,hi,he⟩:=h.range _ _ hp;injection he with _ he;omega
   ·rw [if_neg h2] at hq;exact h.inj _ _ _ hp hq
 ·rw [Jf] at hp;rw [Xk,hm];by_cases h1:(gs.getD r 0,cls.getD r 0)=p
  ·rw [if_pos h1] at hp;injection hp with hp;exact ⟨m.length,AC,hp.symm⟩
  ·rw [if_neg h1] at hp;obtain ⟨i,hi,he⟩:=h.range _ _ hp;exact ⟨i,AI,he⟩
theorem GRel.old{n r i:Nat}{gs cls cur:List Int}{m:List ((Int × Int) × Value)}(h:GRel n r gs cls cur m)(hr:r<n)(hm:Dt m (gs.getD r 0,cls.getD r 0)=some (.I (i:Int))):GRel n (r+1) gs cls (cur.set r (i:Int)) m:=by
 have hl:=h.len;refine ⟨DX,λj hj => ?_,λj hj hn => ?_,h.inj,h.range⟩
 ·rw [VQ];by_cases hjr:j=r
  ·subst hjr;rw [if_pos ⟨rfl,AA⟩];exact hm
  ·rw [if_neg (λe=>hjr e.1.symm)];exact h.done j AA
 ·exact Ue
theorem GRel.fin{n k:Nat}{ls:List (List Int)}{gs cur:List Int}{m:List ((Int × Int) × Value)}(hk:k<ls.length)(h:GRel n n gs ls[k] cur m)(hg:GroupsOf n (ls.take k) gs):GroupsOf n (ls.take (k+1)) cur:=by
 refine ⟨h.len,λi j hi hj => ?_⟩;have d1:=h.done i hi;have d2:=h.done j hj;have e:cur.getD i 0=cur.getD j 0↔(gs.getD i 0=gs.getD j 0/\ls[k].getD i 0=ls[k].getD j 0):=by
  constructor
  ·intro he;rw [he] at d1;have:=h.inj _ _ _ d1 d2;injection this with h1 h2;exact ⟨h1,h2⟩
  ·rintro ⟨h1,h2⟩;rw [h1,h2,d2] at d1;injection d1 with d1;injection d1 with _ d1;exact d1.symm
 rw [e,hg.same i j hi hj,List.take_succ_eq_append_getElem hk];constructor
 ·rintro ⟨h1,h2⟩ l hl
  rcases List.mem_append.1 hl with hl|hl
  ·exact h1 l hl
  ·simp at hl;subst hl;exact h2
 ·intro h1;exact ⟨λl hl=>h1 l (List.mem_append_left _ hl),h1 _ (List.mem_append_right _ (List.mem_singleton.2 rfl))⟩

theorem Si(h:qP:=by
 have:r<cur.length:=(by rw [HCUR.o];exact hlt2);simp [this]):qP:=h
theorem Gp(h:qP:=by injection e with e;omega):qP:=h
theorem FS(h:qP:=by unfold BO;omega):qP:=h
theorem NI(n:Nat)(ls:List (List Int))(A:OA)(ca:Nat)(w:World)(S:NP)(hA:RIss w S A ls)(hl:∀ l∈ls,l.length=n)(hn:n<=4294967296) :
  Cl 195 #[.I (n:Int),.slice A ls.length ca] w (HUA w n ls):=by
 have hal:=hA.1;have HA:=Hd hA;have HL:=Hd hl;clear hA hl;have hmk:=EhA n hn;have hmm:=@run_makeMap prog
 go_enter func195,ntmps195
 go_wp2;clear hmk;have hst:=Blk.new w 3 (Array.replicate n (.I 0));have hst2:((List.replicate n (0:Int)).map (Value.int .i64)).toArray=Array.replicate n (.I 0):=AC;rw [<-hst2] at hst;have HST:=Hd hst;rw [hst2] at HST;clear hst hst2
 go_loopw [17] (λi wr=>∃ (k:Nat) (gs:List Int),k<=ls.length/\i=.I k/\Ext w wr/\Blk wr w.heap.size 3 (gs.map (Value.int .i64)).toArray/\GroupsOf n (ls.take k) gs) (λi _=>ls.length-(intOf i).toNat)
 case atStart=>exact ⟨0,List.replicate n 0,AN,rfl,(Ext.refl w).alloc _,by have h9:=HST.o;simpa using h9,AC,by intro i j hi hj;simp [hi,hj]⟩
 case round =>
  clear HST;obtain ⟨k,gs,hk,rfl,hext,hblk,hgr⟩:=hrel;obtain ⟨HE,HBK,HGR⟩:=Hd3 hext hblk hgr;have hgl:=hgr.len;have hwz:=hblk.lt;clear hblk hgr;by_cases hlt:k<ls.length
  ·obtain ⟨b1,o1,B2,c2,rfl,z0,p0',hcp,hint⟩:=HA.o.at_ hlt;have p0:=hext.cell p0';have z1:b1<wr.heap.size:=AA;have hcl:ls[k].length=n:=HL.o _ (List.getElem_mem hlt);obtain ⟨HINT,b4,HCL⟩:=Hd3 hint hgl hcl;clear hint hext hgl hcl;go_wp2;obtain ⟨Z,rfl⟩:∃ Z:World,Z=wr:=⟨_,rfl⟩;have HMP:=Hd (IHA Z (λp:Int × Int=>Value.agg #[.I p.1,.I p.2]));clear hmm
   go_loopw [24] (λi wi=>∃ (r:Nat) (cur:List Int) (m:List ((Int × Int) × Value)),r<=n/\i=.I r/\Ext w wi/\Z.heap.size<wi.heap.size/\Blk wi w.heap.size 3 (cur.map (Value.int .i64)).toArray/\MapIs wi Z.heap.size (λp:Int × Int=>Value.agg #[.I p.1,.I p.2]) m/\m.length<=r/\GRel n r gs ls[k] cur m) (λi _=>n-(intOf i).toNat)
   case atStart=>exact ⟨0,gs,[],AN,rfl,HE.o.alloc _,AC,HBK.o.keep (Kept.alloc _ _ _),HMP.o,Al,b4.o,AK,λ_ _ _=>rfl,by intro p q v h;simp [Dt,fnd] at h,by intro p v h;simp [Dt,fnd] at h⟩
   case round =>
    clear HMP;obtain ⟨r,cur,m,hr,rfl,a9,hszi,Y,hmpi,hml,hrl⟩:=hrel;obtain ⟨HEI,HBI,HMI,b3⟩:=Hd4 a9 Y hmpi hrl;have hcurl:=hrl.len;have HCUR:=Hd hcurl;clear hcurl hrl;by_cases hlt2:r<n
    ·have hrc:r<ls[k].length:=(by rw [HCL.o];exact hlt2);obtain ⟨b2,o2,rfl,z2,d2⟩:=(HINT.o.keep (a9.kept S)).at_ hrc;have hcell:wr.cell? ⟨w.heap.size,r,none⟩=some (.I (gs.getD r 0)):=by
      rw [<-b3.o.rest r (Al) hlt2];refine Y.cell ?_;exact Si
     have hz5:=Y.lt;obtain ⟨a,ha⟩:=eqx (gs.getD r 0);obtain ⟨b,hb⟩:=eqx (ls[k][r]);have hb2:b=ls[k].getD r 0:=(by rw [hb];exact (BM ls[k] r 0 hrc).symm);rw [<-ha] at hcell;rw [<-hb] at d2;have HAB:=Hd (And.intro ha hb2);have hne:w.heap.size≠wr.heap.size:=AA;have hr1:(r:Int)<(n:Int):=AA;have hr2:(r:Int)<(ls[k].length:Int):=AA;have hr3:(0:Int)<=(r:Int):=AA;clear a9 Y hmpi ha hb hb2;go_wp2
     go_region
     have hkw:∀ X:Nat->Prop,Kept X wr (wr.alloc (.cells #[.I a,.I b] 217)).drew:=λX=>(Kept.alloc _ _ _).trans (Kept.drew _ _);obtain ⟨b0,a8,HBB,HEI2⟩:=Hd4 (HBI.o.keep (hkw _)) (HMI.o.keep (hkw _)) ((Blk.new wr 217 #[.I a,.I b]).keep (Kept.drew _ _)) ((HEI.o.alloc (.cells #[.I a,.I b] 217)).drew);have hsW:(wr.alloc (.cells #[.I a,.I b] 217)).drew.heap.size=wr.heap.size+1:=AC;clear hkw hcell d2;generalize (wr.alloc (.cells #[.I a,.I b] 217)).drew=W at *;have hszW:Z.heap.size<W.heap.size:=AA;have hzW:wr.heap.size<W.heap.size:=AA;clear hsW;have hlk:(Instr.lookup 216 (.map (some Z.heap.size)) (.agg #[.I a,.I b]) true).run prog W=.ok (.tuple #[(Dt m (a,b)).getD (.I 0),.bool (Dt m (a,b)).isSome]) W:=MapIs.get2 a8.o underlying216 (DwA underlying217 underlying3 (λw=>AD)) (.I 0) FrA (a,b);obtain ⟨x0,x1⟩:=HBB.o.qs2;have hgc:W.cell? ⟨w.heap.size,r,none⟩=some (.I (cur.getD r 0)):=by
      refine b0.o.cell ?_;exact Si
     have hgf:=b0.o.frozen r;have hgz:=b0.o.lt;have hfin:∀ (W':World) (m':List ((Int × Int) × Value)) (g:Int),W.grownBy W' (some Z.heap.size)->MapIs W' Z.heap.size (λp:Int × Int=>Value.agg #[.I p.1,.I p.2]) m'->m'.length<=r+1->GRel n (r+1) gs ls[k] (cur.set r g) m' ->
       ∃ (O:List Int) (U:List ((Int × Int) × Value)),Ext w (W'.setCell ⟨w.heap.size,r,none⟩ (.I g))/\Z.heap.size<(W'.setCell ⟨w.heap.size,r,none⟩ (.I g)).heap.size/\Blk (W'.setCell ⟨w.heap.size,r,none⟩ (.I g)) w.heap.size 3 (O.map (Value.int .i64)).toArray/\MapIs (W'.setCell ⟨w.heap.size,r,none⟩ (.I g)) Z.heap.size (λp:Int × Int=>Value.agg #[.I p.1,.I p.2]) U/\U.length<=r+1/\GRel n (r+1) gs ls[k] O U:=by
      intro W' m' g hg hm hl2 hrl2;have hsz':=hg.size;refine ⟨cur.set r g,m',(HEI2.o.grown hg (λb hb=>GQ)).set2 (Al) _,by simp [World.setCell];omega,?_,hm.keep (Kept.set2 (Kept.refl _ _) (by show ¬(_=_);omega)),hl2,hrl2⟩;have:=(b0.o.keep (w':=W') (Kept.of_grown hg (by rintro b rfl _ e;injection e with e;omega))).set r (.I g);have he:(cur.map (Value.int .i64)).toArray.setIfInBounds r (.I g)=((cur.set r g).map (Value.int .i64)).toArray:=(by simp [List.map_set]);rw [he] at this;exact this
     have HFIN:=Hd hfin;clear hfin;cases hmg:Dt m (a,b) with
     |none =>
      rw [hmg] at hlk;obtain ⟨w5,hup,hmap5,hg5⟩:=a8.o.put underlying216 (DwA underlying217 underlying3 (λw=>AD)) (a,b) (.I (m.length:Int));have hlen5:=MapIs.len a8.o (P:=prog) underlying216 3;obtain ⟨HMG,HM5,HG5⟩:=Hd3 hmg hmap5 hg5;have hc5:w5.cell? ⟨w.heap.size,r,none⟩=some (.I (cur.getD r 0)):=(by rw [World.cell?_of_block (hg5.block w.heap.size hgz (λe=>Gp))];exact hgc);have hf5:w5.frozen? ⟨w.heap.size,r,none⟩=false:=(by rw [World.frozen?_of_block (hg5.block w.heap.size hgz (λe=>Gp))];exact hgf);simp only [Option.getD_none,Option.isSome_none] at hlk;simp only at hup;clear hmg hmap5 hg5 hgc hgf;go_wp2;go_roundw
      case rel =>
       have hk5:Dt m (gs.getD r 0,ls[k].getD r 0)=none:=(by rw [<-HAB.o.1,<-HAB.o.2];exact HMG.o);have hm5:=HM5.o;rw [HAB.o.1,HAB.o.2] at hm5;obtain ⟨O,U,e1⟩:=HFIN.o w5 _ (m.length:Int) HG5.o hm5 (by rw [Xk,hk5];simp;omega) (b3.o.new hlt2 hk5);exact ⟨r+1,O,U,AA,AE,e1⟩
      case measure=>simp [intOf];omega
     |some v =>
      obtain ⟨i,hi,rfl⟩:=b3.o.range _ _ hmg;rw [hmg] at hlk;have HMG:=Hd hmg;simp only [Option.getD_some,Option.isSome_some] at hlk;clear hmg;go_wp2;go_roundw
      case rel =>
       have hk5:Dt m (gs.getD r 0,ls[k].getD r 0)=some (.I (i:Int)):=(by rw [<-HAB.o.1,<-HAB.o.2];exact HMG.o);obtain ⟨O,U,e1⟩:=HFIN.o W m (i:Int) (World.grownBy.refl W _) a8.o AA (b3.o.old hlt2 hk5);exact ⟨r+1,O,U,AA,AE,e1⟩
      case measure=>simp [intOf];omega
    ·obtain rfl:r=n:=AA;clear a9 Y hmpi;go_wp2;go_roundw
     case rel=>exact ⟨k+1,cur,AA,AE,HEI.o,HBI.o,GRel.fin hlt b3.o HGR.o⟩
     case measure=>simp [intOf];omega
  ·obtain rfl:k=ls.length:=AA;have hgg:=HGR.o;rw [List.take_of_length_le (Al)] at hgg;have HGG:=Hd hgg;have b4:=Hd hgl;clear hgg hgl hext;go_wp2;go_ret;refine ⟨gs,HGG.o,some ⟨w.heap.size,0,none⟩,n,by rw [b4.o];rfl,by rw [b4.o];exact Al,⟨?_,by rw [b4.o];exact hn⟩,HE.o⟩;have:=HBK.o.rd.mono (T:=BO w) (λi _ hi=>FS)
   simpa using this

def OwnIss(w:World)(base:Nat)(X:NP)(A:OA)(c:Nat)(l:List (List Int)):Prop :=
 ∃ hs,Own w base 22 1 A l.length c hs/\∀ (i:Nat) (r:List Int),l[i]?=some r->∃ (B:OA) (e:Nat),hs[i]?=some (Value.slice B r.length e)/\r.length<=e/\Ints w (λb=>ob A≠some b/\X b) B r
theorem Ints.move{w w':World}{S T:NP}{l:List Int}{B:OA}(h:Ints w S B l)(k:Kept S w w')(m:∀ i,i<w.heap.size->S i->T i):Ints w' T B l :=
 ((Ints.mono h (T:=λb=>S b/\T b) λi hi hs=>⟨hs,m i hi hs⟩).keep (k.mono λ_ _ hh=>hh.1)).mono λ_ _ hh=>hh.2
theorem OwnIss.nil(w:World)(base:Nat)(X:NP):OwnIss w base X none 0 []:=⟨[],Own.nil _ _ _ _,AC⟩
theorem OwnIss.ext{w w':World}{base c:Nat}{X:NP}{A:OA}{l:List (List Int)}(h:OwnIss w base X A c l)(hx:Ext w w'):OwnIss w' base X A c l:=by
 obtain ⟨hs,h1,h2⟩:=h;refine ⟨hs,h1.ext hx,λi r hr => ?_⟩;obtain ⟨B,e,h3,hcp,h4⟩:=h2 i r hr;exact ⟨B,e,h3,hcp,h4.keep (hx.kept _)⟩
theorem OwnIss.push{w w':World}{base c':Nat}{X:NP}{A A':OA}{l:List (List Int)}{r:List Int}{B:OA}{e:Nat}{hs:List Value}(ho:hs.length=l.length)
  (hv:∀ (i:Nat) (r:List Int),l[i]?=some r->∃ (B:OA) (e:Nat),hs[i]?=some (Value.slice B r.length e)/\r.length<=e/\Ints w (λb=>ob A≠some b/\X b) B r)
  (hown:Own w' base 22 1 A' (l.length+1) c' (hs++[Value.slice B r.length e])) (hg:w.grownBy w' (ob A)) (hat:ob A'=ob A\/ob A'=some w.heap.size)
  (hre:r.length<=e) (hy:Ints w (λb=>ob A≠some b/\X b) B r):OwnIss w' base X A' c' (l++[r]):=by
 have hk:Kept (λb=>ob A≠some b/\X b) w w':=Kept.of_grown hg (λb hb _ e=>hb.1 e.symm);have hm:∀ i,i<w.heap.size->(ob A≠some i/\X i)->(ob A'≠some i/\X i):=by
  exact GO
 refine ⟨_,Dg,λi r' hr => ?_⟩
 rcases Nat.lt_or_ge i l.length with hlt|U
 ·rw [List.getElem?_append_left hlt] at hr;obtain ⟨B',e',h3,hcp,h4⟩:=hv i r' hr;exact ⟨B',e',by rw [List.getElem?_append_left AA];exact h3,hcp,h4.move hk hm⟩
 ·rw [List.getElem?_append_right U] at hr;have O:i-l.length=0:=by
   exact Lt
  rw [O] at hr;simp at hr;subst hr;exact ⟨B,e,by rw [List.getElem?_append_right AA,ho,O];rfl,hre,hy.move hk hm⟩
theorem OwnIss.riss{w:World}{base c:Nat}{X T:NP}{A:OA}{l:List (List Int)}(h:OwnIss w base X A c l)(hl:l.length<=4294967296)(h1:∀ b,ob A=some b->T b)(h2:∀ b,X b->T b):RIss w T A l:=by
 obtain ⟨hs,ho,hv⟩:=h;refine ⟨hl,hs,ho.rd.mono λi _ hi=>h1 i hi,by simpa using ho.len,λi r hr => ?_⟩;obtain ⟨B,e,h3,hcp,h4⟩:=hv i r hr;exact ⟨B,e,h3,hcp,h4.mono λi _ hi=>h2 i hi.2⟩
theorem OwnIss.blk{w:World}{base c:Nat}{X:NP}{A:OA}{l:List (List Int)}(h:OwnIss w base X A c l){k:Nat}(hk:ob A=some k):base<=k/\k<w.heap.size:=by
 exact ID
theorem GBA:(prog.info? 22).map (λi=>(i.zero,i.size,i.bytes))=some (some (.slice none 0 0),1,24):=by kernel_rfl
theorem DCA:TI prog 133 22 1 24:=IKA underlying133 GBA rfl AB

theorem Je(rows:List (List Val))(c i j:Nat)(hi:i<rows.length)(hj:j<rows.length):(Ad rows c).getD i 0=(Ad rows c).getD j 0↔rows[i].getD c Val.zero=rows[j].getD c Val.zero:=by
 have Y:(Ad rows c).getD i 0=Gv (Cx c rows[i]) rows:=(by simp [Ad,hi]);have Z:(Ad rows c).getD j 0=Gv (Cx c rows[j]) rows:=(by simp [Ad,hj]);have hn:∀ k (hk:k<rows.length),0<=Gv (Cx c rows[k]) rows:=by
  intro k hk;have:=G5 (Cx c rows[k]) rows;rw [show rows.any (Cx c rows[k])=true from List.any_eq_true.2 ⟨rows[k],List.getElem_mem hk,by simp [Cx]⟩] at this;exact of_decide_eq_true this
 rw [Y,Z];constructor
 ·intro h;obtain ⟨a,ha,a8,O,_⟩:=Nm (hn i hi);obtain ⟨b,hb,hbl,U,_⟩:=Nm (hn j hj);rw [ha,hb] at h;have:a=b:=AA;subst this;simp only [Cx,decide_eq_true_eq] at O U;rw [<-O,U]
 ·intro h;have:Cx c rows[i]=Cx c rows[j]:=by
   funext o
   simp only [Cx,h]
  rw [this]
def Gk(rows:List (List Val))(fs:List Nat)(tov:Nat):Bool:=rows.all λr=>rows.all λo => !(fs.all λf=>Cx f r o)||Cx tov r o
theorem Ny{rows:List (List Val)}{fs:List Nat}{tov:Nat}{gs:List Int}(hg:GroupsOf rows.length (fs.map λf=>Ad rows f) gs):Fr gs (Ad rows tov)=Gk rows fs tov:=by
 have hs:∀ i j (hi:i<rows.length) (hj:j<rows.length),(gs.getD i 0=gs.getD j 0↔∀ f∈fs,rows[i].getD f Val.zero=rows[j].getD f Val.zero):=by
  intro i j hi hj;rw [hg.same i j hi hj];constructor
  ·intro h f hf;exact (Je rows f i j hi hj).1 (h _ (List.mem_map_of_mem hf))
  ·intro h l hl;obtain ⟨f,hf,rfl⟩:=List.mem_map.1 hl;exact (Je rows f i j hi hj).2 (h f hf)
 rw [Bool.eq_iff_iff,Wb,hg.len];have hh:Gk rows fs tov=true↔∀ i j (hi:i<rows.length) (hj:j<rows.length),(∀ f∈fs,rows[i].getD f Val.zero=rows[j].getD f Val.zero)->rows[i].getD tov Val.zero=rows[j].getD tov Val.zero:=by
  unfold Gk;simp only [List.all_eq_true,Bool.or_eq_true,Bool.not_eq_true',Cx,decide_eq_true_eq];constructor
  ·intro h i j hi hj hf
   rcases h rows[j] (List.getElem_mem hj) rows[i] (List.getElem_mem hi) with h1|h1
   ·rw [List.all_eq_false] at h1;obtain ⟨f,O,U⟩:=h1;exact absurd (hf f O) (by simpa using U)
   ·exact h1
  ·intro h r hr o ho;obtain ⟨j,hj,rfl⟩:=List.mem_iff_getElem.1 hr;obtain ⟨i,hi,rfl⟩:=List.mem_iff_getElem.1 ho;by_cases hf:∀ f∈fs,rows[i].getD f Val.zero=rows[j].getD f Val.zero
   ·exact Or.inr (h i j hi hj hf)
   ·left;rw [List.all_eq_false];simp only [Classical.not_forall] at hf;obtain ⟨f,O,U⟩:=hf;exact ⟨f,O,by simpa using U⟩
 rw [hh];constructor
 ·intro h i j hi hj hf
  rcases Nat.lt_trichotomy i j with hlt|rfl|hlt
  ·exact ((Je rows tov j i hj hi).1 (h j i hj hlt ((hs j i hj hi).2 (λf O=>(hf f O).symm)))).symm
  ·rfl
  ·exact (Je rows tov i j hi hj).1 (h i j hi hlt ((hs i j hi hj).2 hf))
 ·intro h i j hi hj he;exact (Je rows tov i j hi AA).2 (h i j hi AA ((hs i j hi AA).1 he))
def BH(cols:List BA)(rows:List (List Val))(frm:List BA)(tov:BA):Bool :=
 decide (0<=Bt cols tov)&&EF cols rows&&frm.all (λf=>decide (0<=Bt cols f))&&Gk rows (frm.map λf=>(Bt cols f).toNat) (Bt cols tov).toNat

theorem Gi(h:qP:=by
 go_ret;exact ⟨by rw [HF.o];rfl,HX0.o⟩):qP:=h
theorem US(h:qP:=by
 intro c hc j hj;have:=hrg;unfold EF at this;rw [List.all_eq_true] at this;have h9:=this rows[j] (List.getElem_mem hj);simp at h9;omega):qP:=h
theorem EN(h:qP:=by rw [HML.o];exact hlt):qP:=h
theorem Ii(h:qP:=by have:=(HOWN.o.blk hb).1;omega):qP:=h
theorem Xp(q:Nat)(cols:List BA)(rows:List (List Val))(frm:List BA)(tov:BA)(A B C:OA)(ca cb cc:Nat)(w:World)(S T U:NP)(hA:Strs w S A cols)(hB:Rows w T q B rows)(hC:Strs w U C frm) :
  Cl 134 #[.slice A cols.length ca,.slice B rows.length cb,.agg #[.slice C frm.length cc,.string tov]] w (Ae w (BH cols rows frm tov)):=by
 have hcl:=hA.2.1;have hrl:=hB.len;have hfl:=hC.2.1;obtain ⟨HA,HB,HC⟩:=Hd3 hA hB hC;clear hA hB hC;have HX0:=Hd ((Ext.refl w).alloc (.cells #[.slice C frm.length cc,.string tov] 69));by_cases ht:0<=Bt cols tov
 case neg =>
  have HF:=Hd (show BH cols rows frm tov=false by unfold BH;rw [decide_eq_false ht];rfl)
  go_enter func134,ntmps134
  go_wp2_with (go_at_call 160;refine (Dv _ _ _ _ _ S (HA.o.keep (HX0.o.kept S))).mono ?_;rintro e w' ⟨rfl,rfl⟩)
  exact Gi
 obtain ⟨tn,ht1,ht2,-⟩:=J5 ht;cases hrg:EF cols rows
 ·have HF:=Hd (show BH cols rows frm tov=false by unfold BH;rw [hrg];simp);have Z:=Hd hrg;clear hrg ht1
  go_enter func134,ntmps134
  go_wp2_with (first|(go_at_call 160;refine (Dv _ _ _ _ _ S (HA.o.keep (HX0.o.kept S))).mono ?_;rintro e w' ⟨rfl,rfl⟩)|(go_at_call 138;refine (Fg q cols rows _ _ _ _ _ T hcl (HB.o.keep (HX0.o.kept T))).mono ?_;rintro e w' ⟨rfl,rfl⟩;rw [Z.o]))
  exact Gi
 have Z:=Hd hrg;have HT1:=Hd ht1;have hrow:∀ c,c<cols.length->∀ j (h:j<rows.length),c<rows[j].length:=by
  exact US
 have HROW:=Hd hrow;clear hrg ht1 hrow ht
 go_enter func134,ntmps134
 go_wp2_with fail
 refine (Dv _ _ _ _ _ S (HA.o.keep (HX0.o.kept S))).mono ?_;rintro e w' ⟨rfl,rfl⟩;rw [HT1.o]
 go_wp2_with (go_at_call 138;refine (Fg q cols rows _ _ _ _ _ T hcl (HB.o.keep (HX0.o.kept T))).mono ?_;rintro e w' ⟨rfl,rfl⟩;rw [Z.o])
 go_loopw [27,8] (λi v wr=>∃ (k:Nat) (A':OA) (c':Nat),k<=frm.length/\i=.I k/\v=.slice A' k c'/\Ext w wr/\w.heap.size+1<=wr.heap.size/\(∀ j (h:j<frm.length),j<k->0<=Bt cols frm[j])/\OwnIss wr (w.heap.size+1) (λb=>w.heap.size+1<=b) A' c' ((frm.map λf=>Ad rows (Bt cols f).toNat).take k)) (λi _ _=>frm.length-(intOf i).toNat)
 case atStart=>exact ⟨0,none,0,AN,rfl,rfl,HX0.o,AC,AK,OwnIss.nil _ _ _⟩
 case round =>
  obtain ⟨k,A',c',hk,rfl,rfl,hext,hsz,hall,hown⟩:=hrel;obtain ⟨HE,HALL,HO⟩:=Hd3 hext hall hown;have hml:(frm.map λf=>Ad rows (Bt cols f).toNat).length=frm.length:=AC;have HML:=Hd hml;clear hall hown hml;by_cases hlt:k<frm.length
  ·obtain ⟨b1,o1,rfl,z1,c1⟩:=(HC.o.keep (hext.kept U)).at_ hlt;clear hext;by_cases hf:0<=Bt cols frm[k]
   ·obtain ⟨fn,hf1,hf2,-⟩:=J5 hf;have HF1:=Hd hf1;clear hf1 hf
    go_wp2_with fail
    refine (Dv _ _ _ _ _ S (HA.o.keep (HE.o.kept S))).mono ?_;rintro e w' ⟨rfl,rfl⟩;rw [HF1.o]
    go_wp2_with fail
    refine (Hl q rows _ _ fn _ T (HB.o.keep (HE.o.kept T)) (HROW.o fn hf2)).mono ?_;rintro e w1 ⟨A1,c1',rfl,a9,O,hx1⟩;have HX1:=Hd hx1;have hsz1:=hx1.size;have HI1:=Hd O;clear hx1 O;have hval:(frm.map λf=>Ad rows (Bt cols f).toNat)[k]'EN=Ad rows fn:=(by simp [HF1.o]);have HVAL:=Hd hval;have Y:((frm.map λf=>Ad rows (Bt cols f).toNat).take k).length=k:=(by rw [List.length_take,HML.o];omega);obtain ⟨hs,ho,hv⟩:=HO.o.ext (HX1.o.alloc (.cells #[.slice A1 (Ad rows fn).length c1'] 22));have hhs:hs.length=k:=(by have:=ho.len;rw [Y] at this;omega);rw [Y] at ho;obtain ⟨HOWN,HV,HHS,HLK⟩:=Hd4 ho hv hhs Y;clear ho hv hhs Y hval
    go_wp2_with (at_builtin;go_must (refine AL rfl (.tmp 36) (.tmp 40) rfl DCA rfl HOWN.o rfl (Blk.rd (Blk.new _ _ _)) rfl AP AA AB AI ?_);intro A4 c4 w4 hown4 hg4 hat4)
    go_roundw
    case rel =>
     have hsz4:=hg4.size;simp at hsz4;refine ⟨k+1,A4,c4,AA,AE,rfl,Ext.grown (HE.o.trans (HX1.o.alloc _)) hg4 (λb hb=>Ii),AA,λj h hj => ?_,?_⟩
     ·by_cases hjk:j=k
      ·subst hjk;rw [HF1.o];omega
      ·exact HALL.o j h AA
     ·rw [List.take_succ_eq_append_getElem EN,HVAL.o];refine OwnIss.push (by rw [HLK.o];exact HHS.o) HV.o (by rw [HLK.o];exact hown4) hg4 hat4 a9 ((HI1.o.keep (Kept.alloc _ _ _)).mono λi _ hi=>⟨λh0 => ?_,?_⟩)
      ·have:=(HO.o.blk h0).2;unfold BO at hi;omega
      ·unfold BO at hi;omega
    case measure=>simp [intOf];omega
   ·have HF:=Hd (show BH cols rows frm tov=false by
     unfold BH;rw [CX frm _ k hlt (by simpa using hf)];simp)
    go_wp2_with (go_at_call 160;refine (Dv _ _ _ _ _ S (HA.o.keep (HE.o.kept S))).mono ?_;rintro e w' ⟨rfl,rfl⟩)
    exact Pi
  ·obtain rfl:k=frm.length:=AA;have hoo:=HO.o;rw [List.take_of_length_le (by rw [HML.o];exact Al)] at hoo;have HRS:=Hd (hoo.riss (T:=λ_=>True) (by rw [HML.o];exact hfl) (λ_ _=>trivial) (λ_ _=>trivial));clear hoo hext;have hgl:=NI rows.length (frm.map λf=>Ad rows (Bt cols f).toNat) A' c' wr (λ_=>True) HRS.o (λl hl=>by obtain ⟨f,_,rfl⟩:=List.mem_map.1 hl;simp [Ad]) hrl;rw [HML.o] at hgl;have HGL:=Hd hgl;clear hgl
   go_wp2_with fail
   refine HGL.o.mono ?_;rintro e w1 ⟨gs,a8,A1,c1,rfl,a9,O,hx1⟩;obtain ⟨HX1,HGO,HI1⟩:=Hd3 hx1 a8 O;have hgsl:=a8.len;have HGSL:=Hd hgsl;clear hx1 a8 O hgsl
   go_wp2_with fail
   refine (Hl q rows _ _ tn _ T (HB.o.keep ((HE.o.trans HX1.o).kept T)) (HROW.o tn ht2)).mono ?_;rintro e w2 ⟨A2,c2,rfl,hcp2,hi2,hx2⟩;have HX2:=Hd hx2;have HI2:=Hd hi2;clear hx2 hi2
   go_wp2_with fail
   refine (KI gs (Ad rows tn) A1 A2 c1 c2 _ (BO wr) (BO w1) (HI1.o.keep (HX2.o.kept _)) HI2.o (by rw [HGSL.o];simp [Ad])).mono ?_;rintro e w3 ⟨rfl,hx3⟩;have HX3:=Hd hx3;clear hx3;have HF:=Hd (show Fr gs (Ad rows tn)=BH cols rows frm tov by
    unfold BH;rw [Z.o,HT1.o,CH frm _ (λj h=>by simpa using HALL.o j h h),decide_eq_true (by omega:(0:Int)<=(tn:Int))];simp only [Bool.true_and,Int.toNat_natCast];refine Ny ?_;have:=HGO.o;rwa [List.map_map])
   go_wp2;go_ret;exact ⟨by rw [<-HF.o];rfl,HE.o.trans (HX1.o.trans (HX2.o.trans HX3.o))⟩
end Go.Proofs.YtidacnalcdhckaaGreatDoor
namespace Go.Proofs
open Go.RowKit Go.Maps Go.Sort Go.Shelf
def Tryz.keys240_ren:Go.Shelf.Ren:=⟨fun|7=>240|10=>274|n=>n,fun|23=>183|26=>9|3=>4|28=>223|0=>0|27=>222|33=>86|4=>4|n=>n,fun|n=>n⟩
theorem Tryz.keys240:Go.Proofs.SlLaysZ.n7 Tryz.prog Tryz.keys240_ren:={
  mixed:=by kernel_rfl
  f7:=⟨Tryz.f240.name,by decide,Tryz.func240.trans (congrArg some (by kernel_rfl))⟩
  f10:=⟨Tryz.f274.name,by decide,Tryz.func274.trans (congrArg some (by kernel_rfl))⟩
  t0:=Tryz.underlying0
  a0:=Tryz.isAgg0
  z0:=Tryz.sizeOf0
  v0:=Tryz.zeroValue0
  t4:=Tryz.underlying4
  a4:=Tryz.isAgg4
  z4:=Tryz.sizeOf4
  v4:=Tryz.zeroValue4
  t23:=Tryz.underlying183
  a23:=Tryz.isAgg183
  z23:=Tryz.sizeOf183
  v23:=Tryz.zeroValue183
  t26:=Tryz.underlying9
  a26:=Tryz.isAgg9
  z26:=Tryz.sizeOf9
  v26:=Tryz.zeroValue9
  t27:=Tryz.underlying222
  a27:=Tryz.isAgg222
  z27:=Tryz.sizeOf222
  v27:=Tryz.zeroValue222
  t28:=Tryz.underlying223
  a28:=Tryz.isAgg223
  z28:=Tryz.sizeOf223
  v28:=Tryz.zeroValue223
  t33:=Tryz.underlying86
  a33:=Tryz.isAgg86
  z33:=Tryz.sizeOf86
  v33:=Tryz.zeroValue86 }
def Tryz.sorted239_ren:Go.Shelf.Ren:=⟨fun|6=>239|8=>273|9=>183|11=>289|13=>228|12=>227|23=>269|24=>270|14=>260|15=>261|16=>262|17=>263|18=>264|19=>265|20=>266|21=>267|22=>268|25=>283|26=>284|27=>285|28=>286|29=>287|30=>288|31=>292|n=>n,fun|26=>9|28=>223|24=>26|0=>0|3=>3|37=>79|48=>250|50=>194|4=>4|40=>244|39=>243|45=>215|5=>5|9=>9|51=>259|55=>263|57=>266|58=>179|33=>86|n=>n,fun|n=>n⟩
theorem Tryz.sorted239:Go.Proofs.SlLaysZ.n6 Tryz.prog Tryz.sorted239_ren:={
  mixed:=by kernel_rfl
  f6:=⟨Tryz.f239.name,by decide,Tryz.func239.trans (congrArg some (by kernel_rfl))⟩
  f8:=⟨Tryz.f273.name,by decide,Tryz.func273.trans (congrArg some (by kernel_rfl))⟩
  f11:=⟨Tryz.f289.name,by decide,Tryz.func289.trans (congrArg some (by kernel_rfl))⟩
  t0:=Tryz.underlying0
  a0:=Tryz.isAgg0
  z0:=Tryz.sizeOf0
  v0:=Tryz.zeroValue0
  t24:=Tryz.underlying26
  a24:=Tryz.isAgg26
  z24:=Tryz.sizeOf26
  v24:=Tryz.zeroValue26
  t26:=Tryz.underlying9
  a26:=Tryz.isAgg9
  z26:=Tryz.sizeOf9
  v26:=Tryz.zeroValue9
  t28:=Tryz.underlying223
  a28:=Tryz.isAgg223
  z28:=Tryz.sizeOf223
  v28:=Tryz.zeroValue223
  i26:=by kernel_rfl }
def Tryz.sort183_ren:Go.Shelf.Ren:=⟨fun|6=>183|8=>228|9=>227|19=>269|20=>270|21=>260|22=>261|23=>262|24=>263|25=>264|26=>265|27=>266|28=>267|29=>268|36=>283|31=>284|32=>285|37=>286|38=>287|39=>288|41=>292|n=>n,fun|27=>26|29=>9|3=>3|32=>79|26=>26|0=>0|44=>250|46=>194|4=>4|36=>244|35=>243|41=>215|5=>5|9=>9|53=>259|57=>263|63=>266|64=>179|n=>n,fun|n=>n⟩
theorem Tryz.sort183:Go.Proofs.SlLaysM.n6 Tryz.prog Tryz.sort183_ren:={
  mixed:=by kernel_rfl
  f6:=⟨Tryz.f183.name,by decide,Tryz.func183.trans (congrArg some (by kernel_rfl))⟩
  f8:=Tryz.func228.trans (congrArg some (by kernel_rfl))
  f9:=⟨Tryz.f227.name,by decide,Tryz.func227.trans (congrArg some (by kernel_rfl))⟩
  f19:=Tryz.func269.trans (congrArg some (by kernel_rfl))
  f20:=Tryz.func270.trans (congrArg some (by kernel_rfl))
  f21:=⟨Tryz.f260.name,by decide,Tryz.func260.trans (congrArg some (by kernel_rfl))⟩
  f22:=⟨Tryz.f261.name,by decide,Tryz.func261.trans (congrArg some (by kernel_rfl))⟩
  f23:=⟨Tryz.f262.name,by decide,Tryz.func262.trans (congrArg some (by kernel_rfl))⟩
  f24:=⟨Tryz.f263.name,by decide,Tryz.func263.trans (congrArg some (by kernel_rfl))⟩
  f25:=⟨Tryz.f264.name,by decide,Tryz.func264.trans (congrArg some (by kernel_rfl))⟩
  f26:=⟨Tryz.f265.name,by decide,Tryz.func265.trans (congrArg some (by kernel_rfl))⟩
  f27:=⟨Tryz.f266.name,by decide,Tryz.func266.trans (congrArg some (by kernel_rfl))⟩
  f28:=⟨Tryz.f267.name,by decide,Tryz.func267.trans (congrArg some (by kernel_rfl))⟩
  f29:=⟨Tryz.f268.name,by decide,Tryz.func268.trans (congrArg some (by kernel_rfl))⟩
  f31:=Tryz.func284.trans (congrArg some (by kernel_rfl))
  f32:=Tryz.func285.trans (congrArg some (by kernel_rfl))
  f36:=⟨Tryz.f283.name,by decide,Tryz.func283.trans (congrArg some (by kernel_rfl))⟩
  f37:=⟨Tryz.f286.name,by decide,Tryz.func286.trans (congrArg some (by kernel_rfl))⟩
  f38:=⟨Tryz.f287.name,by decide,Tryz.func287.trans (congrArg some (by kernel_rfl))⟩
  f39:=⟨Tryz.f288.name,by decide,Tryz.func288.trans (congrArg some (by kernel_rfl))⟩
  f41:=⟨Tryz.f292.name,by decide,Tryz.func292.trans (congrArg some (by kernel_rfl))⟩
  t0:=Tryz.underlying0
  a0:=Tryz.isAgg0
  z0:=Tryz.sizeOf0
  v0:=Tryz.zeroValue0
  t3:=Tryz.underlying3
  a3:=Tryz.isAgg3
  z3:=Tryz.sizeOf3
  v3:=Tryz.zeroValue3
  t4:=Tryz.underlying4
  a4:=Tryz.isAgg4
  z4:=Tryz.sizeOf4
  v4:=Tryz.zeroValue4
  t5:=Tryz.underlying5
  a5:=Tryz.isAgg5
  z5:=Tryz.sizeOf5
  v5:=Tryz.zeroValue5
  t9:=Tryz.underlying9
  a9:=Tryz.isAgg9
  z9:=Tryz.sizeOf9
  v9:=Tryz.zeroValue9
  t26:=Tryz.underlying26
  a26:=Tryz.isAgg26
  z26:=Tryz.sizeOf26
  v26:=Tryz.zeroValue26
  t27:=Tryz.underlying26
  a27:=Tryz.isAgg26
  z27:=Tryz.sizeOf26
  v27:=Tryz.zeroValue26
  t29:=Tryz.underlying9
  a29:=Tryz.isAgg9
  z29:=Tryz.sizeOf9
  v29:=Tryz.zeroValue9
  t32:=Tryz.underlying79
  a32:=Tryz.isAgg79
  z32:=Tryz.sizeOf79
  v32:=Tryz.zeroValue79
  t35:=Tryz.underlying243
  a35:=Tryz.isAgg243
  z35:=Tryz.sizeOf243
  v35:=Tryz.zeroValue243
  t36:=Tryz.underlying244
  a36:=Tryz.isAgg244
  z36:=Tryz.sizeOf244
  v36:=Tryz.zeroValue244
  t41:=Tryz.underlying215
  a41:=Tryz.isAgg215
  z41:=Tryz.sizeOf215
  v41:=Tryz.zeroValue215
  t44:=Tryz.underlying250
  a44:=Tryz.isAgg250
  z44:=Tryz.sizeOf250
  v44:=Tryz.zeroValue250
  t46:=Tryz.underlying194
  a46:=Tryz.isAgg194
  z46:=Tryz.sizeOf194
  v46:=Tryz.zeroValue194
  t53:=Tryz.underlying259
  a53:=Tryz.isAgg259
  z53:=Tryz.sizeOf259
  v53:=Tryz.zeroValue259
  t57:=Tryz.underlying263
  a57:=Tryz.isAgg263
  z57:=Tryz.sizeOf263
  v57:=Tryz.zeroValue263
  t63:=Tryz.underlying266
  a63:=Tryz.isAgg266
  z63:=Tryz.sizeOf266
  v63:=Tryz.zeroValue266
  t64:=Tryz.underlying179
  a64:=Tryz.isAgg179
  z64:=Tryz.sizeOf179
  v64:=Tryz.zeroValue179 }


theorem Tryz.sorts239(m:Nat):AnyZ.SortsIn Tryz.prog Tryz.sorted239_ren Fence.wide m :=
  ⟨λblk off cap ss W hH hblk hsz=>callsIn_wide.2 (AnyM.slices_Sort_string Tryz.sort183 blk off cap ss W hH hblk hsz),
   λp cap W=>callsIn_wide.2 (AnyM.slices_Sort_string_none Tryz.sort183 p cap W)⟩

theorem Tryz.maps_Keys_240(mb:Option Nat)(W:World):CallsIn Fence.wide 5 Tryz.prog 240 #[.map mb] W λe w'=>e=.returned (.func (.func 274) #[] #[.pointer (some ⟨W.heap.size,0,none⟩)])/\w'=W.alloc (.cells #[.map mb] 183) :=
  AnyZ.keys_in Tryz.keys240 Fence.wide 5 trivial rfl mb W

theorem Tryz.slices_Sorted_keys_239_240{H:Type}(b nn:Nat)(D0:DataW H)(R:Value->Option (DataW H × List MemPlace))(w:World)(hown:w.ownsMap Tryz.prog 9 R b nn D0)(hmax:Maps.size D0<=maxLen)(hbytes:Maps.size D0*16<=140737488355328) :
    CallsIn Fence.wide 5 Tryz.prog 239 #[.func (.func 274) #[] #[.pointer (some ⟨w.heap.size,0,none⟩)]] (w.alloc (.cells #[.map (some b)] 183)) λe w'=>∃ (v:Value) (ss:List (List UInt8)),e=.returned v/\ss.Perm (strKeys D0) /\
      w'.ownsRow (w.alloc (.cells #[.map (some b)] 183)).heap.size 9 1 v ss.length ((ss.mergeSort (λx y=>decide (x<=y))).map encStr)/\(v=.slice none 0 0↔ss=[])/\Below (w.alloc (.cells #[.map (some b)] 183)).heap.size (w.alloc (.cells #[.map (some b)] 183)) w':=by
  have hbl:=hown.lt
  have O:SeqGives Fence.wide 2 Tryz.prog 274 #[.pointer (some ⟨w.heap.size,0,none⟩)] encStr (λss=>ss.Perm (strKeys D0)) (Maps.size D0) (w.alloc (.cells #[.map (some b)] 183)) :=
    AnyZ.keys_gives (ρ:=Tryz.keys240_ren) { Tryz.keys240 with } Fence.wide _ trivial rfl (by omega) w.heap.size b nn D0 _ (by simp) (by simp) (by
      obtain ⟨es,clock,hb,Ft,hs,hD⟩:=hown
      exact ⟨es,clock,(Below.heap_alloc _ _ b hbl).trans hb,Ft,hs,hD⟩)
  exact AnyZ.sorted_in Tryz.sorted239 Fence.wide 5 trivial trivial trivial trivial rfl (by omega) (Tryz.sorts239 _) (enters_of Tryz.func183 (by kernel_rfl) rfl) 274 #[.pointer (some ⟨w.heap.size,0,none⟩)] trivial (enters_of Tryz.func274 (by kernel_rfl) rfl) _ _ hmax hbytes _ O

end Go.Proofs
namespace Go.Proofs.YtidacnalcdhckaaGreatDoor
open Go Go.RowKit Go.MapKept Go.Maps Tryz
variable {qP:Prop}{A:OA}{S:NP}{b:Nat}{ks:List BA}{w w':World}

def An(l:List BA):List BA:=((l.map λs=>s.data.toList).mergeSort λx y=>decide (x<=y)).map λb=>⟨b.toArray⟩
theorem O4(h:qP:=by
 intro a b c h1 h2;simp only [decide_eq_true_eq] at *;exact List.le_trans h1 h2):qP:=h
theorem Tn(h:qP:=by
 intro a b;simp only [Bool.or_eq_true,decide_eq_true_eq];exact List.le_total a b):qP:=h
theorem Wf{l l':List (List UInt8)}(h:l.Perm l'):l.mergeSort (λx y=>decide (x<=y))=l'.mergeSort (λx y=>decide (x<=y)):=by
 have tr:∀ a b c:List UInt8,decide (a<=b)=true->decide (b<=c)=true->decide (a<=c)=true:=by
  exact O4
 have O:∀ a b:List UInt8,(decide (a<=b)||decide (b<=a))=true:=by
  exact Tn
 have s1:=List.pairwise_mergeSort tr O l;have s2:=List.pairwise_mergeSort tr O l';have hp:(l.mergeSort λx y=>decide (x<=y)).Perm (l'.mergeSort λx y=>decide (x<=y)):=((List.mergeSort_perm l _).trans h).trans (List.mergeSort_perm l' _).symm;refine hp.eq_of_pairwise ?_ s1 s2;intro a b _ _ h1 h2;simp only [decide_eq_true_eq] at h1 h2;exact List.le_antisymm h1 h2

theorem MapIs.owns{m:List (BA × Value)}(h:MapIs w b (λs:BA=>Value.string s) m)(hb:∀ p∈m,p.2=.bool true)(hk:∀ p∈m,p.1.size<=4294967296)(hm:m.length<=4294967296) :
  ∃ D0:DataW Unit,w.ownsMap prog 9 (plainElem prog 4) b m.length D0/\(strKeys D0).Perm (m.map λp=>p.1.data.toList)/\Maps.size D0=m.length:=by
 obtain ⟨es,cl,h1,h2,hst⟩:=h;have hl:es.size=m.length:=by
  have:=congrArg List.length h2
  simpa using this
 have U:∀ x∈es.toList,∃ p∈m,x.key=.string p.1/\WideElems.rd (H:=Unit) prog 9 (plainElem prog 4) x=some (.string p.1.data.toList,.lit (.bool true)):=by
  intro x hx;have h5:(x.key,x.val)∈es.toList.map (λe=>(e.key,e.val)):=List.mem_map_of_mem hx;rw [h2] at h5;obtain ⟨p,hp,a8⟩:=List.mem_map.1 h5;injection a8 with O Z;refine ⟨p,hp,O.symm,?_⟩;have hkk:=_root_.Go.WideMaps.keyOf_string_mk (P:=prog) underlying9 (s:=p.1) (by have:=hk p hp;unfold maxLen;omega);unfold WideElems.rd;rw [<-O,hkk,<-Z,hb p hp];simp [plainElem,underlying4]
 refine ⟨_,⟨es,cl,h1,⟨by rw [hl];unfold maxLen;omega,hst,λx hx => ?_⟩,AA,rfl⟩,?_,?_⟩
 ·obtain ⟨p,_,_,hr⟩:=U x hx;exact ⟨_,hr⟩
 ·show (((es.toList.map (WideElems.rg prog 9 (plainElem prog 4))).foldr DataW.insert []).map λp=>strOf p.1).Perm _;refine ((WideShapes.sorted_perm _).map _).trans ?_;have:((es.toList.map (WideElems.rg (H:=Unit) prog 9 (plainElem prog 4))).map λp=>strOf p.1)=m.map λp=>p.1.data.toList:=by
   rw [List.map_map];have e1:es.toList.map ((λp=>strOf p.1) ∘ WideElems.rg (H:=Unit) prog 9 (plainElem prog 4))=(es.toList.map (λe=>(e.key,e.val))).map (λq=>match q.1 with|.string s=>s.data.toList|_=>[]):=by
    rw [List.map_map];refine List.map_congr_left λx hx => ?_;obtain ⟨p,_,Y,hr⟩:=U x hx;simp [WideElems.rg,hr,Y,strOf]
   rw [e1,h2,List.map_map];rfl
  rw [this]
 ·have:(((es.toList.map (WideElems.rg (H:=Unit) prog 9 (plainElem prog 4))).foldr DataW.insert [])).length=es.size:=by
   rw [(WideShapes.sorted_perm _).length_eq];simp
  simpa [Maps.size,hl] using this

theorem ClA(b:Nat)(w:World):Cl 240 #[.map (some b)] w λe w' =>
  e=.returned (.func (.func 274) #[] #[.pointer (some ⟨w.heap.size,0,none⟩)])/\w.alloc (.cells #[.map (some b)] 183)=w' :=
 (callsIn_wide.1 (Tryz.maps_Keys_240 (some b) w)).mono λ_ _ ⟨h1,h2⟩=>⟨h1,h2.symm⟩

theorem Vf(b:Nat)(m:List (BA × Value))(w:World)(h:MapIs w b (λs:BA=>Value.string s) m)(hb:∀ p∈m,p.2=.bool true)(hk:∀ p∈m,p.1.size<=4294967296)(hm:m.length<=4294967296) :
  Cl 239 #[.func (.func 274) #[] #[.pointer (some ⟨w.heap.size,0,none⟩)]] (w.alloc (.cells #[.map (some b)] 183))
   (CEA (w.alloc (.cells #[.map (some b)] 183)) (An (m.map (·.1)))):=by
 obtain ⟨D0,ho,hp,hs⟩:=h.owns hb hk hm;refine (callsIn_wide.1 (Tryz.slices_Sorted_keys_239_240 b m.length D0 _ w ho (by rw [hs];unfold maxLen;omega) (by rw [hs];omega))).mono ?_;rintro e w' ⟨v,ss,rfl,Y,O,_,Z⟩;have hss:ss.mergeSort (λx y=>decide (x<=y))=((m.map (·.1)).map λs=>s.data.toList).mergeSort (λx y=>decide (x<=y)):=by
  refine Wf (Y.trans ?_);rw [List.map_map];exact hp
 have hmap:(ss.mergeSort (λx y=>decide (x<=y))).map encStr=(An (m.map (·.1))).map Value.string:=by
  rw [hss];unfold An;generalize (((m.map (·.1)).map λs=>s.data.toList).mergeSort λx y=>decide (x<=y))=l;rw [List.map_map];rfl
 have a8:ss.length=(An (m.map (·.1))).length:=by
  have:=congrArg List.length hmap
  simpa using this
 rw [hmap,a8] at O;have U:∃ A c,v=.slice A (An (m.map (·.1))).length c:=by
  rcases O.2 with ⟨hv,h0⟩|⟨g,cap,cur,hv,_⟩
  ·exact ⟨none,0,by rw [hv,h0]⟩
  ·exact ⟨_,_,hv⟩
 obtain ⟨A,c,rfl⟩:=U;refine ⟨A,c,rfl,Own.cap O,⟨Rd.of_own O,?_,?_⟩,Z⟩
 ·have:(An (m.map (·.1))).length=m.length:=(by simp [An]);omega
 ·intro s hs2;unfold An at hs2;obtain ⟨l,hl,rfl⟩:=List.mem_map.1 hs2;have hl2:=(List.mergeSort_perm _ _).mem_iff.1 hl;obtain ⟨t,ht,rfl⟩:=List.mem_map.1 hl2;obtain ⟨p,hp2,rfl⟩:=List.mem_map.1 ht;have h9:=hk p hp2;have h8:(⟨p.1.data.toList.toArray⟩:BA)=p.1:=(by cases p.1;simp);rw [h8];exact h9

structure Dep where
 frm:List BA
 tov:BA
def RDeps(w:World)(S:NP)(A:OA)(l:List Dep):Prop :=
 l.length<=4294967296/\∃ xs:List Value,Rd w S A xs/\xs.length=l.length*2/\∀ (i:Nat) (d:Dep),l[i]?=some d->∃ (B:OA) (c:Nat),xs[i*2]?=some (.slice B d.frm.length c)/\xs[i*2+1]?=some (.string d.tov)/\d.frm.length<=c/\d.tov.size<=4294967296/\Strs w S B d.frm
theorem RDeps.keep{l:List Dep}(h:RDeps w S A l)(k:Kept S w w'):RDeps w' S A l:=by
 obtain ⟨h0,xs,h1,h2,h3⟩:=h;refine ⟨h0,xs,h1.keep k,h2,λi d hd => ?_⟩;obtain ⟨B,c,g1,g2,g3,O,g5⟩:=h3 i d hd;exact ⟨B,c,g1,g2,g3,O,g5.keep k⟩
theorem RDeps.mono{T:NP}{l:List Dep}(h:RDeps w S A l)(k:∀ i,i<w.heap.size->S i->T i):RDeps w T A l:=by
 obtain ⟨h0,xs,h1,h2,h3⟩:=h;refine ⟨h0,xs,h1.mono k,h2,λi d hd => ?_⟩;obtain ⟨B,c,g1,g2,g3,O,g5⟩:=h3 i d hd;exact ⟨B,c,g1,g2,g3,O,g5.mono k⟩
theorem RDeps.at_{l:List Dep}(h:RDeps w S A l){k:Nat}(hk:k<l.length) :
  ∃ b o B c,A=some ⟨b,o,none⟩/\b<w.heap.size/\w.cell? ⟨b,o+k*2,none⟩=some (.slice B l[k].frm.length c)/\w.cell? ⟨b,o+k*2+1,none⟩=some (.string l[k].tov)/\l[k].frm.length<=c/\l[k].tov.size<=4294967296/\Strs w S B l[k].frm:=by
 obtain ⟨_,xs,h1,h2,h3⟩:=h;obtain ⟨B,c,g1,g2,g3,O,g5⟩:=h3 k l[k] (List.getElem?_eq_getElem hk);have hne:xs≠[]:=(by rintro rfl;simp at g1);obtain ⟨b,o,hA,_,hb,hc⟩:=h1.some_ hne;exact ⟨b,o,B,c,hA,hb,hc _ _ g1,by have:=hc _ _ g2;rwa [<-Nat.add_assoc] at this,g3,O,g5⟩

structure IsClosure(l:List Dep)(frm ks:List BA):Prop where
 nodup:ks.Nodup
 base:∀ x∈frm,x∈ks
 closed:∀ d∈l,(∀ x∈d.frm,x∈ks)->d.tov∈ks
 least:∀ T:BA->Prop,(∀ x∈frm,T x)->(∀ d∈l,(∀ x∈d.frm,T x)->T d.tov)->∀ x∈ks,T x
def SetIs(w:World)(b:Nat)(ks:List BA):Prop:=MapIs w b (λs:BA=>Value.string s) (ks.map λk=>(k,Value.bool true))
theorem OT(ks:List BA)(x:BA)(j:Nat):(x∈ks->∃ i,fnd x (ks.map λk=>(k,Value.bool true)) j=some (i,.bool true)/\j<=i/\ks[i-j]?=some x)/\(x ∉ ks->fnd x (ks.map λk=>(k,Value.bool true)) j=none):=by
 induction ks generalizing j with
 |nil=>simp [fnd]
 |cons k ks ih =>
  by_cases hk:k=x
  ·subst hk;refine ⟨λ_=>⟨j,?_,Al,AC⟩,λh=>absurd (List.mem_cons_self) h⟩;simp [fnd]
  ·have h:=ih (j+1);refine ⟨λhx => ?_,λhx => ?_⟩
   ·have O:x∈ks:=by
     rcases List.mem_cons.1 hx with e|e
     ·exact absurd e.symm hk
     ·exact e
    obtain ⟨i,h1,h2,h3⟩:=h.1 O;refine ⟨i,?_,AA,?_⟩
    ·simp only [List.map_cons,fnd,if_neg hk];exact h1
    ·rw [show i-j=(i-(j+1))+1 by omega,List.getElem?_cons_succ];exact h3
   ·have O:x ∉ ks:=λe=>hx (List.mem_cons_of_mem _ e);simp only [List.map_cons,fnd,if_neg hk];exact h.2 O
theorem Xt(ks:List BA)(x:BA):(x∈ks->Dt (ks.map λk=>(k,Value.bool true)) x=some (.bool true))/\(x ∉ ks->Dt (ks.map λk=>(k,Value.bool true)) x=none):=by
 refine ⟨λh => ?_,λh => ?_⟩
 ·obtain ⟨i,h1,_⟩:=(OT ks x 0).1 h;simp [Dt,h1]
 ·simp [Dt,(OT ks x 0).2 h]
theorem Yy(ks:List BA)(x:BA):(x∈ks->PE (ks.map λk=>(k,Value.bool true)) x (.bool true)=ks.map λk=>(k,Value.bool true))/\(x ∉ ks->PE (ks.map λk=>(k,Value.bool true)) x (.bool true)=(ks++[x]).map λk=>(k,Value.bool true)):=by
 refine ⟨λh => ?_,λh => ?_⟩
 ·obtain ⟨i,h1,h2,h3⟩:=(OT ks x 0).1 h;rw [Nat.sub_zero] at h3;unfold PE;rw [h1];show (ks.map λk=>(k,Value.bool true)).set i (x,Value.bool true)=_;rw [show (x,Value.bool true)=(λk=>(k,Value.bool true)) x from rfl,<-List.map_set];congr 1;obtain ⟨hi,hx⟩:=List.getElem?_eq_some_iff.1 h3;rw [<-hx,List.set_getElem_self]
 ·unfold PE;rw [(OT ks x 0).2 h];simp
theorem SetIs.put(h:SetIs w b ks)(x:BA) :
  ∃ w' ks',(Instr.mapUpdate 183 (.map (some b)) (.string x) (.bool true)).run prog w=.ok () w'/\SetIs w' b ks'/\w.grownBy w' (some b)/\((x∈ks/\ks'=ks)\/(x ∉ ks/\ks'=ks++[x])):=by
 obtain ⟨w',h1,h2,h3⟩:=MapIs.put h underlying183 (FdA underlying9) x (.bool true);by_cases hx:x∈ks
 ·rw [(Yy ks x).1 hx] at h2;exact ⟨w',ks,h1,h2,h3,.inl ⟨hx,rfl⟩⟩
 ·rw [(Yy ks x).2 hx] at h2;exact ⟨w',ks++[x],h1,h2,h3,.inr ⟨hx,rfl⟩⟩
theorem GXA(w:World):(zeroValue 4).run prog w=.ok (.bool false) w:=by kernel_rfl
noncomputable def TF (ks:List BA) (x:BA):Bool:=@decide (x∈ks) (Classical.propDecidable _)
theorem Ml(ks:List BA)(x:BA):TF ks x=true↔x∈ks:=by simp [TF]
theorem SetIs.get(h:SetIs w b ks)(x:BA):(Instr.lookup 183 (.map (some b)) (.string x) false).run prog w=.ok (.bool (TF ks x)) w:=by
 rw [MapIs.get h underlying183 (FdA underlying9) (.bool false) GXA x];by_cases hx:x∈ks
 ·rw [(Xt ks x).1 hx,(Ml ks x).2 hx];rfl
 ·have:TF ks x=false:=(by rw [Bool.eq_false_iff];exact λe=>hx ((Ml ks x).1 e));rw [(Xt ks x).2 hx,this];rfl
theorem SetIs.len(h:SetIs w b ks)(ty:TypeId):(Builtin.len_ #[183] ty #[.map (some b)]).run prog w=.ok (.I (ks.length:Int)) w:=by
 have:=MapIs.len h (P:=prog) underlying183 ty
 simpa using this
theorem SetIs.keep(h:SetIs w b ks)(hk:Kept (λi=>i=b) w w'):SetIs w' b ks:=MapIs.keep h hk

theorem Jy(x:BA)(g b:Nat)(ks:List BA)(w:World)(hb:w.cell? ⟨g,0,none⟩=some (.map (some b)))(h:SetIs w b ks) :
  Cl 238 #[.string x,.pointer (some ⟨g,0,none⟩)] w (SameB w (!TF ks x)):=by
 have hg:=h.get x;clear h
 go_enter func238,ntmps238
 exact Ea

theorem Up(h:qP:=by
 go_ret;exact ⟨by rw [EO hlt HA.o (by simp [HM.o])];rfl,rfl⟩):qP:=h
theorem Zv(h:qP:=by
 refine ⟨k+1,by omega,by go_num,λj h hj => ?_⟩;by_cases hjk:j=k
 ·subst hjk;simp [HM.o]
 ·exact HA.o j h (by omega)):qP:=h
theorem OZ(h:qP:=by
 go_round
 case rel =>
  exact Zv
 case measure=>simp [intOf];omega):qP:=h
theorem Ll(h:qP:=by
 go_wp2;go_ret;exact ⟨by rw [GG (λj hj=>HA.o j hj (by omega))];rfl,rfl⟩):qP:=h
theorem NH(l:List BA)(A:OA)(c g b:Nat)(ks:List BA)(w:World)(S:NP)(hl:Strs w S A l)(hb:w.cell? ⟨g,0,none⟩=some (.map (some b)))(h:SetIs w b ks) :
  Cl 259 #[.slice A l.length c,.func (.func 238) #[] #[.pointer (some ⟨g,0,none⟩)]] w (Bk w (Gv (λx => !TF ks x) l)):=by
 have hn:=hl.2.1;have HB:=Hd hb;have HS:=Hd h;clear hb h
 go_enter func259,ntmps259
 go_wp2
 go_loop [8] (λi=>∃ k:Nat,k<=l.length/\i=.I k/\∀ j (h:j<l.length),j<k->(λx => !TF ks x) l[j]=false) (λi=>l.length-(intOf i).toNat)
 case atStart=>exact ⟨0,AN,rfl,AK⟩
 case round =>
  obtain ⟨k,hk,rfl,hall⟩:=hrel;have HA:=Hd hall;clear hall;by_cases hlt:k<l.length
  ·obtain ⟨b1,o1,rfl,z1,c1⟩:=hl.at_ hlt;cases hm:TF ks l[k]
   ·have HM:=Hd hm;clear hm
    go_wp2_with (go_at_call 238;refine (Jy _ g b ks _ HB.o HS.o).mono ?_;rintro e w' ⟨rfl,rfl⟩;rw [HM.o])
    exact Up
   ·have HM:=Hd hm;clear hm
    go_wp2_with (go_at_call 238;refine (Jy _ g b ks _ HB.o HS.o).mono ?_;rintro e w' ⟨rfl,rfl⟩;rw [HM.o])
    exact OZ
  ·exact Ll
theorem Jo(l:List BA)(A:OA)(c g b:Nat)(ks:List BA)(w:World)(S:NP)(hl:Strs w S A l)(hb:w.cell? ⟨g,0,none⟩=some (.map (some b)))(h:SetIs w b ks) :
  Cl 224 #[.slice A l.length c,.func (.func 238) #[] #[.pointer (some ⟨g,0,none⟩)]] w (SameB w (l.any λx => !TF ks x)):=by
 obtain ⟨HB,HS,HL⟩:=Hd3 hb h hl;clear hb h hl
 go_enter func224,ntmps224
 go_wp2_with (go_at_call 259;refine (NH _ _ _ g b ks _ S HL.o HB.o HS.o).mono ?_;rintro e w' ⟨rfl,rfl⟩)
 go_ret;exact ⟨by rw [<-G5];rfl,rfl⟩
