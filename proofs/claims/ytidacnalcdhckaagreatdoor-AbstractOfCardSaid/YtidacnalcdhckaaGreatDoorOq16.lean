/- Lemmas. No conditions. -/
import Derived.Test.YtidacnalcdhckaaGreatDoorOq15
import Derived.Sort.Walk0
set_option maxRecDepth 100000
set_option maxHeartbeats 1000000
namespace Go.Proofs.YtidacnalcdhckaaGreatDoor
open Go Go.RowKit Tryz
variable {qP:Prop}

def Fm(x y:BA):Bool:=Op.bytesLess x.toList y.toList
theorem GE(x y:BA):Fm x y=true↔x.data.toList<y.data.toList:=by
 unfold Fm;rw [bytesLess_eq,decide_eq_true_iff,ByteArray.toList_eq,ByteArray.toList_eq]
theorem GJA{x y:BA}(h:x.data.toList=y.data.toList):x=y:=by
 cases x;cases y;simp at h;rw [h]
def EW(s:BA):List BA→List BA
 |[]=>[s]
 |x::l=>if Fm x s=true then x::EW s l else if x=s then x::l else s::x::l
def SS(l:List BA):Prop:=l.Pairwise fun a b=>a.data.toList<b.data.toList
theorem Sd(h:qP:=by
 rintro (h|h|h)
 ·exact .inr (.inl h)
 ·exact .inl h
 ·exact .inr (.inr h)):qP:=h
theorem Cv(s y:BA):∀ l:List BA,y∈EW s l↔y=s∨y∈l
 |[]=>by simp [EW]
 |x::l=>by
  have ih:=Cv s y l;unfold EW;split
  ·rw [List.mem_cons,ih,List.mem_cons];constructor
   ·exact Sd
   ·exact Sd
  ·split
   ·rename_i hx;rw [List.mem_cons];constructor
    ·exact .inr
    ·rintro (h|h)
     ·exact .inl (h.trans hx.symm)
     ·exact h
   ·rw [List.mem_cons]
theorem SS.ins{l:List BA}(h:SS l)(s:BA):SS (EW s l):=by
 induction l with
 |nil=>simp [SS,EW]
 |cons x l ih =>
  have h1:=List.pairwise_cons.1 h;unfold EW;split
  ·rename_i hlt;refine List.pairwise_cons.2 ⟨fun y hy => ?_,ih h1.2⟩
   rcases (Cv s y l).1 hy with rfl|hy
   ·exact (GE _ _).1 hlt
   ·exact h1.1 y hy
  ·rename_i hlt;split
   ·exact h
   ·rename_i hne;have hsx:s.data.toList<x.data.toList:=by
     have h3:¬x.data.toList<s.data.toList:=fun e=>hlt ((GE _ _).2 e);exact Std.lt_of_le_of_ne (List.not_lt.1 h3) (fun e=>hne (GJA e.symm))
    refine List.pairwise_cons.2 ⟨fun y hy => ?_,h⟩
    rcases List.mem_cons.1 hy with rfl|hy
    ·exact hsx
    ·exact List.lt_trans hsx (h1.1 y hy)
theorem SS.nodup{l:List BA}(h:SS l):l.Nodup:=by
 refine List.Pairwise.imp ?_ h;rintro a b hab rfl;exact List.lt_irrefl _ hab
theorem SS.sort{l:List BA}(h:SS l):An l=l:=by
 unfold An;rw [List.mergeSort_of_pairwise]
 ·rw [List.map_map];exact List.map_id _
 ·rw [List.pairwise_map];exact h.imp fun hab=>by simp only [decide_eq_true_eq];exact List.le_of_lt hab
theorem Rr{s:BA} : ∀ {l:List BA} {k:Nat},k≤l.length→(∀ j (h:j<l.length),j<k→Fm l[j] s=true)→EW s l=l.take k++EW s (l.drop k)
 |l,0,_,_=>by simp
 |[],k+1,hk,_=>by simp at hk
 |x::l,k+1,hk,h=>by
  have h0:Fm x s=true:=h 0 AC AA;have ih:=Rr (s:=s) (l:=l) (k:=k) Br fun j hj hjk=>by
   have:=h (j+1) ET AA
   simpa using this
  simp only [EW,h0,if_true,List.take_succ_cons,List.drop_succ_cons,List.cons_append];rw [ih]
theorem Nf{s:BA}{l:List BA}{k:Nat}(hk:k<l.length)(h:∀ j (h:j<l.length),j<k→Fm l[j] s=true)(hn:Fm l[k] s=false):EW s l=if l[k]=s then l else l.take k++s::l.drop k:=by
 rw [Rr (Nat.le_of_lt hk) h,List.drop_eq_getElem_cons hk,EW,if_neg (by simp [hn])];split
 ·rw [←List.drop_eq_getElem_cons hk,List.take_append_drop]
 ·rfl
theorem YD{s:BA}{l:List BA}(h:∀ j (h:j<l.length),j<l.length→Fm l[j] s=true):EW s l=l++[s]:=by
 rw [Rr (Al) h,List.take_length,List.drop_length];rfl
/- The reference's Insert. Conditions: the list reads as data. -/

def Y4(A:OA)(n c:Nat):Prop:=(A=none∧n=0∧c=0)∨∃ b o,A=some ⟨b,o,none⟩∧n≤c
theorem Own.ok{w:World}{base e sz n c:Nat}{A:OA}{xs:List Value}(h:Own w base e sz A n c xs):Y4 A n c:=by
 rcases h.2 with ⟨hv,hn⟩|⟨g,cap,cur,hv,_,_,hnc,_⟩
 ·injection hv with h1 _ h2;exact .inl ⟨h1,hn,h2⟩
 ·injection hv with h1 _ h2;exact .inr ⟨g,0,h1,by rw [h2];exact hnc⟩
def Wq(B0:Nat)(w:World)(l:List BA)(e:Ending)(w':World):Prop:=∃ A' c',e=.returned (.slice A' l.length c')∧Y4 A' l.length c'∧Strs w' (fun b=>B0≤b) A' l∧Ext w w'
theorem Rd.drop{w:World}{S:NP}{b o:Nat}{xs:List Value}(h:Rd w S (some ⟨b,o,none⟩) xs)(k:Nat):Rd w S (some ⟨b,o+k,none⟩) (xs.drop k):=by
 rcases h with h|⟨b',o',hA,hS,hlt,hc⟩
 ·subst h;exact Or.inl AC
 ·injection hA with hA;injection hA with h1 h2;subst h1;subst h2;refine Or.inr ⟨b,o+k,rfl,hS,hlt,fun j u hj => ?_⟩;rw [List.getElem?_drop] at hj;have:=hc _ u hj;rwa [←Nat.add_assoc] at this
theorem Strs.of_own{w:World}{base n c:Nat}{A:OA}{l:List BA}{xs:List Value}{B0:Nat}(h:Own w base 9 1 A n c xs)(hB0:B0≤base)(hx:xs=l.map Value.string)(hl:l.length≤4294967296)(hs:∀ s∈l,s.size≤4294967296):Strs w (fun b=>B0≤b) A l :=
 ⟨by rw [←hx];exact h.rd.mono fun b _ hb=>Nat.le_trans hB0 (h.blk hb).1,hl,hs⟩
theorem Es(l:List BA):∀ u∈l.map Value.string,u.oneCell'=true:=by
 intro u hu;obtain ⟨x,_,rfl⟩:=List.mem_map.1 hu;rfl
/- The reference's Closure: the ordered list of the least closed set. Conditions: the arguments read as data, and are few. -/

structure CR(l:List Dep)(frm out:List BA):Prop where
 sorted:SS out
 base:∀ x∈frm,x∈out
 least:∀ T:BA→Prop,(∀ x∈frm,T x)→(∀ d∈l,(∀ x∈d.frm,T x)→T d.tov)→∀ x∈out,T x
theorem CR.len{l:List Dep}{frm out:List BA}(h:CR l frm out):out.length≤frm.length+l.length:=Part.len ⟨h.sorted.nodup,h.base,h.least⟩
theorem CR.ins{l:List Dep}{frm out:List BA}(h:CR l frm out){d:Dep}(hd:d∈l)(hf:∀ x∈d.frm,x∈out):CR l frm (EW d.tov out) :=
 ⟨h.sorted.ins _,fun x hx=>(Cv _ _ _).2 (.inr (h.base x hx)),fun T h1 h2 x hx=>by
  rcases (Cv _ _ _).1 hx with rfl|hx
  ·exact h2 d hd fun y hy=>h.least T h1 h2 y (hf y hy)
  ·exact h.least T h1 h2 x hx⟩

noncomputable def JX (l:List Dep) (frm:List BA) (x:BA):Bool:=@decide (∀ T:BA→Prop,(∀ y∈frm,T y)→(∀ d∈l,(∀ y∈d.frm,T y)→T d.tov)→T x) (Classical.propDecidable _)
theorem Xe{l:List Dep}{frm ks:List BA}(h:IsClosure l frm ks)(x:BA):JX l frm x=true↔x∈ks:=by
 unfold JX;refine (@decide_eq_true_iff _ (Classical.propDecidable _)).trans ?_;exact ⟨fun hx=>hx (·∈ks) h.base h.closed,fun hx T h1 h2=>h.least T h1 h2 x hx⟩
theorem DbA{l:List Dep}{frm ks:List BA}(h:IsClosure l frm ks)(x:BA):Aw (An ks) x=JX l frm x:=by
 rw [Bool.eq_iff_iff,Xe h,Ao,Ek]
noncomputable def vMp (g:Nat) (l:List Dep) (frm:List BA) (x:BA) (A:OA) (ca:Nat) (C:OA) (cc:Nat):Nat→Value
 |0=>.slice A l.length ca
 |1=>.pointer (some ⟨g,0,none⟩)
 |2=>.slice C frm.length cc
 |4=>.pointer (some ⟨g,1,none⟩)
 |5=>.string x
 |6=>.bool (JX l frm x)
 |7=>.bool (JX l frm x)
 |_=>undef
def gMp(g:Nat)(l:List Dep)(frm:List BA)(x:BA)(A:OA)(ca:Nat)(C:OA)(cc:Nat)(ix:Nat)(vl:List Value)(γ:Gh)(w':World):Prop:=match vl with
 |[v]=>if ix=3 then (∃ (ks:List BA) (A':OA) (c':Nat),IsClosure l frm ks∧v=.slice A' (An ks).length c'∧Strs w' (Ec γ) A' (An ks)) else v=vMp g l frm x A ca C cc ix
 |_=>True
theorem FvA(g:Nat)(l:List Dep)(frm:List BA)(x:BA)(A:OA)(ca:Nat)(C:OA)(cc:Nat):∀ ix vl γ w γ' w',LR γ w γ' w'→gMp g l frm x A ca C cc ix vl γ w→gMp g l frm x A ca C cc ix vl γ' w':=by
 intro ix vl γ w γ' w' r h
 match vl,h with
 |[v],h =>
  unfold gMp at h⊢;by_cases h3:ix=3
  ·simp only [if_pos h3] at h⊢;obtain ⟨ks,a,b,h0,h1,h2⟩:=h;exact ⟨ks,a,b,h0,h1,r.strs h2⟩
  simp only [if_neg h3] at h⊢;exact h
 |[],_=>trivial
 |_::_::_,_=>trivial
theorem Vy(l:List Dep)(frm:List BA)(x:BA)(A C:OA)(ca cc:Nat)(w:World)(S T:NP)(hA:RDeps w S A l)(hC:Strs w T C frm)(hsm:frm.length+l.length≤100000) :
  Cl 162 #[.slice A l.length ca,.agg #[.slice C frm.length cc,.string x]] w (Ae w (JX l frm x)):=by
 obtain ⟨w1,hw1⟩:=eqx (w.alloc (.cells #[.slice C frm.length cc,.string x] 69));have hx1:Ext w w1:=(by rw [hw1];exact (Ext.refl _).alloc _);obtain ⟨HX1,HA,HC,HG,HW1⟩:=Hd5 hx1 (hA.keep (hx1.kept _)) (hC.keep (hx1.kept _)) (show Blk w1 w.heap.size 69 #[.slice C frm.length cc,.string x] by rw [hw1];exact Blk.new _ _ _) hw1;clear hA hC hx1 hw1
 go_enter func162,ntmps162
 go_upto_region 1 with fail
 rw [←HW1.o];obtain ⟨g,hg⟩:=eqx w.heap.size;rw [←hg] at HG;rw [←hg];clear HW1 hg;refine BZ AD (fun i=>[i]) AD LR LR.refl LR.trans (LN (al0)) (gMp g l frm x A ca C cc) (FvA _ _ _ _ _ _ _ _) gh0 (LN.zero _) ⟨?_,?_,?_,?_,?_,?_,?_,?_,trivial⟩ ?_
 ·exact Lp
 ·exact Lp
 ·refine LinStep.yes fun vals γ w' ρ hR hN hp hρ hc hf hg=>⟨rfl,?_⟩;have e6:ρ (.tmp 6)=.pointer (some ⟨g,0,none⟩):=(hρ 6).trans (hp 1 AB);have hx:=hR.drew_ext;have c0:=(HG.o.keep (hx.kept _)).q0;exact Dl
 ·refine LinStep.yes fun vals γ w' ρ hR hN hp hρ hc hf hg=>⟨rfl,?_⟩;have e5:ρ (.tmp 5)=.slice A l.length ca:=(hρ 5).trans (hp 0 AB);have e7:ρ (.tmp 7)=.slice C frm.length cc:=(hρ 7).trans (hp 2 AB);have hx:=hR.drew_ext;have HR:=Hd hR;have HN:=Hd hN;clear hR hN hp hρ hx;go_light;go_simp;refine (Vn l frm A C ca cc _ _ _ (HA.o.keep (HR.o.drew_ext.kept _)) (HC.o.keep (HR.o.drew_ext.kept _)) AA).mono ?_;rintro e' w3 ⟨ks,hks,A3,c3,he,hc3,hs3,hx3⟩;refine ⟨_,he,γ,IFA γ hx3,fun _ _ _ h=>h,ks,A3,c3,hks,rfl,hs3.mono fun b _ hb => ?_⟩;rintro ⟨k',hk'⟩;have:=HR.o.inb0 k' _ hk';unfold BO at hb;omega
 ·exact Lp
 ·refine LinStep.yes fun vals γ w' ρ hR hN hp hρ hc hf hg=>⟨rfl,?_⟩;have e9:ρ (.tmp 9)=.pointer (some ⟨g,1,none⟩):=(hρ 9).trans (hp 4 AB);have hx:=hR.drew_ext;have c1:=(HG.o.keep (hx.kept _)).q1;exact Dl
 ·refine LinStep.yes fun vals γ w' ρ hR hN hp hρ hc hf hg=>⟨rfl,?_⟩;obtain ⟨ks,A3,c3,hks,hv3,hs3⟩:=hp 3 AB;have e8:ρ (.tmp 8)=_:=(hρ 8).trans hv3;have HKS:=Hd hks;have HS3:=Hd hs3;clear hks hv3 hs3;have e10:ρ (.tmp 10)=.string x:=(hρ 10).trans (hp 5 AB);have hx:=hR.drew_ext;have HR:=Hd hR;have HN:=Hd hN;clear hR hN hp hρ hx;go_light;go_simp;refine (Ai A3 c3 (An ks) x _ _ HS3.o).mono ?_;rintro e' w3 ⟨he,rfl⟩;rw [DbA HKS.o] at he;exact ⟨_,he,γ,LR.refl _ _,fun _ _ _ h=>h,rfl⟩
 ·exact Lp
 ·intro vals γ w' hR hG;have hz:vals 7=.bool (JX l frm x):=hG 7 AB;have HX:=Hd (HX1.o.trans hR.drew_ext);clear hR hG;simp only [Ah,Act.put,List.setIfInBounds_toArray,List.set_cons_succ,List.set_cons_zero,Nat.zero_add,Nat.reduceAdd,hz];clear hz;go_wp2;go_ret;exact ⟨rfl,HX.o⟩
noncomputable def vMr (g:Nat) (l:List Dep) (frm:List BA) (x:BA) (A:OA) (ca:Nat) (C:OA) (cc:Nat):Nat→Value
 |0=>.slice A l.length ca
 |1=>.pointer (some ⟨g,0,none⟩)
 |2=>.slice C frm.length cc
 |4=>.pointer (some ⟨g,1,none⟩)
 |5=>.string x
 |7=>.bool (JX l frm x)
 |8=>.bool (JX l frm x)
 |_=>undef

def Eu(a:Abs)(x:BA):Bool:=Aw a.cols x||a.deps.any fun d=>Aw d.frm x||decide (d.tov=x)
noncomputable def V6 (a:Abs) (d:Dep):Bool:=Eu a d.tov&&d.frm.all (Eu a)&&JX a.deps d.frm d.tov
noncomputable def DK (l:List Dep) (a:Abs):List Dep:=l.filter (V6 a)
noncomputable def EE (x y:Abs):List BA:=if bt x.kinds 5=false then y.cols else if bt y.kinds 5=false then x.cols else x.cols.filter (Aw y.cols)
noncomputable def BJ (x y:Abs):List Dep:=if bt x.kinds 5=false then y.deps else if bt y.kinds 5=false then x.deps else DK x.deps y++DK y.deps x
noncomputable def F7 (x y:Abs):Abs where
 kinds:=bits .or .i64 x.kinds y.kinds
 tx:=BW x.tx y.tx
 nu:=Cc x.nu y.nu
 dl:=(Cb (x.dl,x.dh) (y.dl,y.dh)).1
 dh:=(Cb (x.dl,x.dh) (y.dl,y.dh)).2
 bo:=bits .or .i64 x.bo y.bo
 rl:=(Cb (x.rl,x.rh) (y.rl,y.rh)).1
 rh:=(Cb (x.rl,x.rh) (y.rl,y.rh)).2
 cols:=EE x y
 deps:=BJ x y
 errs:=x.errs||y.errs
noncomputable def Fk (a b:Abs):Abs:=AX (F7 (AX a) (AX b))
def I1(x y:Abs):Abs where
 kinds:=bits .and .i64 x.kinds y.kinds
 tx:=DN x.tx y.tx
 nu:=NB x.nu y.nu
 dl:=(CZ (x.dl,x.dh) (y.dl,y.dh)).1
 dh:=(CZ (x.dl,x.dh) (y.dl,y.dh)).2
 bo:=bits .and .i64 x.bo y.bo
 rl:=(CZ (x.rl,x.rh) (y.rl,y.rh)).1
 rh:=(CZ (x.rl,x.rh) (y.rl,y.rh)).2
 cols:=x.cols++y.cols
 deps:=x.deps++y.deps
 errs:=x.errs&&y.errs
def Gq(a b:Abs):Abs:=AX (I1 (AX a) (AX b))
noncomputable def XB (x y:Abs):Bool :=
 CM x.kinds y.kinds&&(!x.errs||y.errs)&&(!bt x.kinds 1||Dr x.tx y.tx)&&(!bt x.kinds 2||F5 x.nu y.nu) &&
  (!bt x.kinds 3||decide (y.dl≤x.dl∧x.dh≤y.dh))&&CM x.bo y.bo &&
  (!bt x.kinds 5||(decide (y.rl≤x.rl∧x.rh≤y.rh)&&y.cols.all (Aw x.cols)&&decide ((DK y.deps x).length=y.deps.length)))
noncomputable def withinA (a b:Abs):Bool:=XB (AX a) (AX b)

theorem G3{a:Abs}{v:Val}(h:AW a v=true):BC v=true:=by
 unfold AW at h;rw [Bool.and_eq_true] at h;exact h.1
theorem DI{a:Abs}{v:Val}(hr:BC v=true):AW a v=if v.kind=0 then a.errs else Ha a v:=by
 unfold AW;rw [hr,Bool.true_and]
theorem UC{a:Abs}(h:Lq a=true)(v:Val):AW a v=false:=by
 rw [←CL,Bool.eq_false_iff];intro hc;have hr:=G3 hc;rw [DI hr] at hc;unfold Lq at h;rw [Bool.and_eq_true,decide_eq_true_eq,Bool.not_eq_true'] at h;obtain ⟨h1,h2⟩:=h;by_cases h0:v.kind=0
 ·rw [if_pos h0] at hc
  change a.errs=true at hc
  rw [h2] at hc;cases hc
 ·rw [if_neg h0] at hc;unfold Ha at hc;rw [h1] at hc;simp only [M5,Bool.false_and] at hc
  repeat' split at hc
  all_goals cases hc
end Go.Proofs.YtidacnalcdhckaaGreatDoor
