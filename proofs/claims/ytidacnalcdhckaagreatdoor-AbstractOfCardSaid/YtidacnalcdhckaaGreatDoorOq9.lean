/- Lemmas. No conditions. -/
import Derived.Test.YtidacnalcdhckaaGreatDoorOq8
import Derived.WalkLawsBesides
set_option maxRecDepth 100000
set_option maxHeartbeats 4000000
namespace Go.Proofs.YtidacnalcdhckaaGreatDoor
open Go Go.RowKit Tryz
variable {qP:Prop}

structure OfI(l:List UInt8)(m:List Nat):Prop where
 eq:Av m+16777216^m.length*nvl (l.take (l.length-3*m.length))=nvl l
 ds:dgs m
theorem FgA(k:Nat):(16777216:Nat)^k=256^(3*k):=by rw [show (16777216:Nat)=256^3 by decide,←Nat.pow_mul]
theorem OfI.step{l:List UInt8}{m:List Nat}(h:OfI l m){e:Nat}(he:e+3*m.length=l.length):OfI l (m++[nvl ((l.take e).drop (e-3))]):=by
 have h1:nvl ((l.take e).drop (e-3))<16777216:=by
  have:=Io ((l.take e).drop (e-3));have h2:(256:Nat)^((l.take e).drop (e-3)).length≤256^3:=Nat.pow_le_pow_right AB AI;omega
 refine ⟨?_,Jj h.ds h1⟩;have h2:=h.eq;rw [show l.length-3*m.length=e by omega] at h2;rw [Ex,List.length_append,List.length_singleton,show l.length-3*(m.length+1)=e-3 by omega,←h2];have h3:=Xb ((l.take e).take (e-3)) ((l.take e).drop (e-3));rw [List.take_append_drop,List.take_take,Nat.min_eq_left AA] at h3;rw [h3,Nat.mul_add,Nat.pow_succ];have h4:((l.take e).drop (e-3)).length=e-(e-3):=AI;rw [h4]
 rcases Nat.lt_or_ge e 3 with h5|h5
 ·rw [show e-3=0 by omega];simp [nvl]
 ·rw [show e-(e-3)=3 by omega,show (256:Nat)^3=16777216 by decide,Nat.mul_comm (nvl _) 16777216,Nat.mul_assoc];omega
theorem OfI.fin{s:BA}{m:List Nat}(h:OfI s.data.toList m)(hc:V7 s)(h1:s.size≤3*m.length)(h2:3*m.length≤s.size+2):Av m=AO s∧trd m:=by
 have hl:s.data.toList.length=s.size:=AC;have h3:=h.eq;rw [show s.data.toList.length-3*m.length=0 by omega,List.take_zero] at h3;have hv:Av m=AO s:=(by rw [show AO s=nvl s.data.toList from rfl,←h3];simp [nvl]);refine ⟨hv,?_⟩;intro ht
 rcases List.eq_nil_or_concat m with rfl|⟨m',d,rfl⟩
 ·simp at ht
 ·rw [List.concat_eq_append] at *;have hd:d=0:=(by simpa using ht);subst hd;rw [SA] at hv;have h4:=OW m' fun x hx=>h.ds x (by simp [hx]);rw [hv,FgA] at h4;have h5:=(Ep hc (k:=3*m'.length)).2 h4;simp at h2;omega
theorem U1(s:BA){st k:Nat}(h1:st≤k)(h2:k<s.size):(s.data.toList.take (k+1)).drop st=(s.data.toList.take k).drop st++[s[k]]:=by
 rw [List.take_succ_eq_append_getElem Dj,Eo s k h2,List.drop_append_of_le_length AI]

theorem Na(s:BA)(hs:s.size≤4294967296)(w:World):Cl 254 #[.string s] w (FmA w (AO s)):=by
 go_enter func254,ntmps254
 go_wp2_with fail
 refine (DJ s hs _).mono ?_;rintro e1 w1 ⟨r,⟨rfl,rfl⟩,hv,hc,hsz⟩;have HV:=Hd hv;have HC:=Hd hc;have hr:r.size≤4294967296:=AA;have hrl:r.data.toList.length=r.size:=AC;have HRL:=Hd hrl;clear hv hc hsz hrl;go_wp2
 go_loopw [3,4] (fun o e wr=>∃ (A':OA) (c':Nat) (m:List Nat),OfI r.data.toList m∧3*m.length≤r.size+2∧o=.slice A' m.length c'∧e=.I ((r.size:Int)-3*m.length)∧Ext w wr∧Own wr w.heap.size 3 1 A' m.length c' ((Ds m).map (Value.int .i64))) (fun _ e _=>(intOf e+2).toNat)
 case atStart=>exact ⟨none,0,[],⟨by simp only [Av,List.length_nil,Nat.pow_zero,Nat.mul_zero,Nat.sub_zero,List.take_length];omega,by simp [dgs]⟩,AC,rfl,AC,Ext.refl _,Own.nil _ _ _ _⟩
 case round =>
  obtain ⟨A',c',m,hm,hml,rfl,rfl,hx,ho⟩:=hrel;obtain ⟨HX,HO,HM⟩:=Hd3 hx ho hm;have hsz:=hx.size;clear hx ho hm;by_cases hlt:3*m.length<r.size
  ·obtain ⟨e,he⟩:∃ e:Nat,e+3*m.length=r.size:=⟨r.size-3*m.length,AA⟩;have he2:(r.size:Int)-3*m.length=(e:Int):=AA;rw [he2];obtain ⟨st,hst⟩:=eqx (e-3);have hmx:max ((e:Int)-3) 0=(st:Int):=AA;have HMX:=Hd hmx;have HST:=Hd hst;have hst1:st≤e:=AA;have hst3:e≤st+3:=AA;have HHE:=Hd he;have her:e≤r.size:=AA;have he0:0<e:=AA;have hle:=HM.o.step (e:=e) (by rw [HRL.o];exact he);have HLE:=Hd hle;have hgo:∀ k,st≤k→k≤e→nvl ((r.data.toList.take k).drop st)<16777216:=fun k h1 h2=>by
    have h3:=Io ((r.data.toList.take k).drop st);have h4:(256:Nat)^((r.data.toList.take k).drop st).length≤256^3:=Nat.pow_le_pow_right AB AI;omega
   have HGO:=Hd hgo;clear he2 hst hmx hle hgo;go_wp2;rw [HMX.o]
   go_loop [5,6] (fun d k'=>∃ k:Nat,st≤k∧k≤e∧d=.I (nvl ((r.data.toList.take k).drop st):Int)∧k'=.I (k:Int)) (fun _ k'=>e-(intOf k').toNat)
   case atStart=>exact ⟨st,Al,hst1,by rw [List.drop_of_length_le AI];rfl,rfl⟩
   case round =>
    obtain ⟨k,hk1,hk2,rfl,rfl⟩:=hrel;have hbd:=HGO.o k hk1 hk2;obtain ⟨d,hd⟩:=eqx (nvl ((r.data.toList.take k).drop st));rw [←hd] at hbd⊢;have HD:=Hd hd;clear hd;by_cases hke:k<e
    ·have hkr:k<r.size:=AA;have hb2:=HGO.o (k+1) AA AA;have hsn:=U1 r hk1 hkr;rw [hsn,Mk,←HD.o] at hb2;have HSN:=Hd hsn;clear hsn;go_wp2
     go_round
     case rel=>exact ⟨k+1,AA,AA,by rw [HSN.o,Mk,←HD.o];go_num,AE⟩
     case measure=>simp [intOf];omega
    ·obtain rfl:k=e:=AA;rw [HST.o] at HD
     go_wp2_with (at_builtin;go_must (refine AL rfl (.tmp 30) (.tmp 32) rfl tiI rfl (HO.o.ext (exaa wr)) rfl (Blk.rd (Blk.new _ _ _)) rfl AP AA AB AI ?_);intro A4 c4 w4 hown4 hg4 hat4)
     go_roundw
     case rel =>
      refine ⟨A4,c4,m++[d],by rw [HD.o];exact HLE.o,by have:=HHE.o;simp;omega,AC,by have:=HHE.o;simp;omega,(HX.o.alloc _).grown hg4 fun b hb=>(HO.o.blk hb).1,?_⟩;rw [J4]
      simpa using hown4
     case measure=>simp [intOf];omega
  ·obtain ⟨hv,ht⟩:=HM.o.fin HC.o AA hml;have hcp:=HO.o.cap;obtain ⟨HF,HT,HD,HR⟩:=Hd4 (hv.trans HV.o) ht HM.o.ds (IMA HO.o AA (T:=fun b=>w.heap.size≤b) fun _ h=>h);have hneg:(r.size:Int)-3*m.length≤0:=AA;clear hv ht;go_wp2;go_ret;exact ⟨A',c',m,rfl,HF.o,HD.o,HT.o,hcp,HR.o,HX.o⟩

theorem Kept.cell{S:NP}{w w':World}(h:Kept S w w'){p:Addr}{u:Value}(hs:S p.block)(hc:w.cell? p=some u):w'.cell? p=some u:=by
 have hp:p.block<w.heap.size:=by
  exact Zbea95ee93
 exact (World.cell?_of_block (w:=w) (h.2 p.block hs hp)).trans hc
def by3(d:Nat):List Value:=[.int .u8 (IntKind.u8.wrap ((d:Int) / 65536)),.int .u8 (IntKind.u8.wrap ((d:Int) / 256)),.int .u8 (IntKind.u8.wrap (d:Int))]
theorem XL(n:Int):IntKind.u8.wrap n=n % 256:=by simp [IntKind.wrap,IntKind.signed,IntKind.bits]
def Rc:List Nat→List Int
 |[]=>[]
 |d::l=>Rc l++[IntKind.u8.wrap ((d:Int) / 65536),IntKind.u8.wrap ((d:Int) / 256),IntKind.u8.wrap (d:Int)]
theorem Yx:∀ l:List Nat,(Rc l).length=3*l.length
 |[]=>rfl
 |d::l=>by simp [Rc,Yx l];omega
theorem Wg:∀ l:List Nat,dgs l→AO (strOfNums (Rc l))=Av l
 |[],_=>by simp [AO,strOfNums,Rc,nvl,Av]
 |d::l,h=>by
  have ih:=Wg l fun x hx=>h x (List.mem_cons_of_mem _ hx);have hd:=h d List.mem_cons_self;unfold AO at ih⊢;rw [strOfNums_data] at ih⊢;simp only [Rc,List.map_append,List.map_cons,List.map_nil];rw [Xb,ih];have h1:∀ n:Nat,n<256→(UInt8.ofNat (n:Int).toNat).toNat=n:=fun n hn=>by rw [Int.toNat_natCast,UInt8.toNat_ofNat'];omega
  have e1:((d:Int) / 65536 % 256)=((d / 65536 % 256:Nat):Int):=AC;have e2:((d:Int) / 256 % 256)=((d / 256 % 256:Nat):Int):=AC;have e3:((d:Int) % 256)=((d % 256:Nat):Int):=AC;rw [XL,XL,XL,e1,e2,e3];simp only [nvl,List.foldl_cons,List.foldl_nil,List.length_cons,List.length_nil,Av];rw [h1 _ AA,h1 _ AA,h1 _ AA];omega
theorem Mb(h:qP:=by
 have c1:=(hR.o.kept0 (S:=fun b=>b<w.heap.size) (fun b hb m hm=>by have:=HB.o m b hm;omega)).cell (p:=⟨b1,o1+j,none⟩) hbw HC1.o;exact Qk):qP:=h
theorem TB(h:qP:=by
 rintro v γ w1 γ' w2 r ⟨A4,c4,h1,h2,h3,h4⟩;exact ⟨A4,c4,h1,h2.keep (r.keptS fun b _ e=>⟨h4 b e,fun m hm=>by rw [hm.1,h3,r.done _ h3]⟩),r.done _ h3,fun b hb=>r.free (h2.blk hb).2 (h4 b hb)⟩):qP:=h
theorem AG(h:qP:=by rfl):qP:=h
theorem CF(h:qP:=by rw [hm.1];exact hk0):qP:=h
theorem IP(h:qP:=by have:=HN.o;omega):qP:=h
theorem MO(l:List Nat)(A:OA)(c:Nat)(w:World)(S:NP)(hl:Ints w S A (Ds l))(hd:dgs l)(hlen:l.length≤1000000) :
  Cl 255 #[.slice A l.length c] w (Ng w (Av l)):=by
 have HL:=Hd (hl.mono (T:=fun b=>b<w.heap.size) fun b hb _=>hb);have HD:=Hd hd;clear hl hd
 go_enter func255,ntmps255
 go_wp2
 go_loopw [3,4] (fun o i wr=>∃ (j:Nat) (A':OA) (c' n:Nat),j≤l.length∧n=3*(l.length-j)∧o=.slice A' n c'∧i=.I ((j:Int)-1)∧Ext w wr∧Own wr w.heap.size 5 1 A' n c' ((Rc (l.drop j)).map (Value.int .u8))) (fun _ i _=>(intOf i+1).toNat)
 case atStart=>exact ⟨l.length,none,0,0,Al,AA,rfl,rfl,Ext.refl _,by rw [List.drop_length];exact Own.nil _ _ _ _⟩
 case round =>
  obtain ⟨j,A',c',n,hj,hn,rfl,rfl,hx,ho⟩:=hrel;have HX:=Hd hx;have HO:=Hd ho;have hsz:=hx.size;have HN:=Hd hn;have hn3:n≤3000000:=AA;clear hx ho hn;cases j with
  |zero =>
   obtain ⟨L,hL⟩:=eqx (Rc l);have hLn:L.length=n:=(by rw [hL,Yx,HN.o];omega);have ho:=HO.o;rw [List.drop_zero,←hL] at ho;have HV:=Hd (show AO (strOfNums L)=Av l by rw [hL];exact Wg l HD.o)
   rcases ho.2 with ⟨hv,h0⟩|⟨g,cap,cur,hv,hb,hh,hnc,hcm,hcs,ht⟩
   ·obtain ⟨rfl,rfl⟩:A'=none∧c'=0:=GU;subst h0;have hL0:L=[]:=List.eq_nil_of_length_eq_zero hLn;have hcv:=run_convert_bytes_nil (P:=prog) wr 85 5 underlying85 underlying5 0 0 166 underlying166;have HV2:=Hd (show AO ByteArray.empty=Av l by rw [←HV.o,hL0];rfl);clear ho hv hL hLn hL0
    go_wp2_with fail
    refine (DJ ByteArray.empty AC _).mono ?_;rintro e1 w1 ⟨r,⟨rfl,rfl⟩,hv,hc,hsz⟩;obtain ⟨HR,HC,HS⟩:=Hd3 (hv.trans HV2.o) hc (show r.size≤4294967296 by have:ByteArray.empty.size=0:=rfl;omega);clear hv hc hsz;go_wp2;go_ret;exact ⟨r,rfl,HR.o,HC.o,HS.o,HX.o⟩
   obtain ⟨rfl,rfl⟩:A'=some ⟨g,0,none⟩∧c'=cap:=GU;have hcv:=run_convert_bytes_arg (P:=prog) wr 85 5 underlying85 underlying5 g 0 n c' L hLn (fun i hi=>by
    obtain ⟨b,o,hA,-,hc⟩:=(Own.rd ho).at_ (k:=i) (u:=.int .u8 (L.getD i 0)) (by
     rw [List.getElem?_map,List.getElem?_eq_getElem (by rw [hLn];exact hi)];simp [List.getD,List.getElem?_eq_getElem (show i<L.length by rw [hLn];exact hi)])
    exact Ly) 166 underlying166
   clear ho hv hb hh hnc hcm hcs ht hL
   go_wp2_with fail
   refine (DJ (strOfNums L) (by rw [strOfNums_size,hLn];omega) _).mono ?_;rintro e1 w1 ⟨r,⟨rfl,rfl⟩,hv,hc,hsz⟩;rw [strOfNums_size,hLn] at hsz;have HR:=Hd (hv.trans HV.o);have HC:=Hd hc;clear hv hc hLn;go_wp2;go_ret;exact ⟨r,rfl,HR.o,HC.o,AA,HX.o⟩
  |succ j =>
   obtain ⟨b1,o1,hA,hb1,hc1⟩:=Dq (HL.o.keep (HX.o.kept _)) (k:=j) AA;subst hA;have hbw:b1<w.heap.size:=by
    obtain ⟨b,o,h1,h2,-⟩:=(Dq HL.o (k:=j) AA);injection h1 with h1;injection h1 with h1;omega
   obtain ⟨d,hdd⟩:=eqx (l.getD j 0);have hd24:d<16777216:=(by rw [hdd];exact Aa HD.o j);rw [←hdd] at hc1;have HC1:=Hd hc1;have HDD:=Hd hdd;have hj1:((j+1:Nat):Int)-1=(j:Int):=AA;rw [hj1];have i0:(0:Int)≤(j:Int):=AA;have i1:(j:Int)<(l.length:Int):=AA;have HB:=Hd (show ∀ m b,(m=1019∧ob A'=some b)→w.heap.size≤b from fun m b h=>(HO.o.blk h.2).1);clear hj1 hc1 hdd
   go_upto_region 5 with fail
   refine Qb (fun i=>[i]) (fun m b=>m=1019∧ob A'=some b) [(19,[1019])] ?_
   iterate 4 refine Qp ?_
   refine Qm (fun vals γ w' ρ hR hN hp hρ zs zg=>by
    exact Mb) ?_
   iterate 5 refine Qp ?_
   refine Qm (fun vals γ w' ρ hR hN hp hρ zs zg=>by
    exact Mb) ?_
   iterate 5 refine Qp ?_
   refine Qm (fun vals γ w' ρ hR hN hp hρ zs zg=>by
    exact Mb) ?_
   refine Qp ?_;refine Qs (FP fun v γ w'=>∃ g:Nat,v=.slice (some ⟨g,0,none⟩) 3 3∧Blk w' g 5 (by3 d).toArray∧Ec γ g∧wr.heap.size≤g) (H1A ?_) ?_ ?_
   ·rintro v γ w1 γ' w2 r ⟨g,h1,h2,h3,h4⟩;exact ⟨g,h1,h2.keep (r.keptS fun b _ e=>⟨e ▸ h3,fun m hm=>by have:=HO.o.blk hm.2;omega⟩),r.free h2.lt h3,h4⟩
   ·intro vals γ w' ρ hR hN hp hρ zs zg;have HR:=hR;refine Qr ?_;exact ⟨γ,IDA _ γ (exaa _),fun _ _ _ h=>h,_,rfl,Blk.new _ _ _,fun ⟨k',hk'⟩=>by have:=HR.o.inb0 k' _ hk';omega,HR.o.size⟩
   refine Chain.step (FP fun v γ w'=>∃ (A4:OA) (c4:Nat),v=.slice A4 (n+3) c4∧Own w' w.heap.size 5 1 A4 (n+3) c4 ((Rc (l.drop (j+1))).map (Value.int .u8)++by3 d)∧γ 1019=some none∧∀ b,ob A4=some b→Ec γ b) AG (H1A ?_) ?_ ?_
   ·exact TB
   ·intro vals γ w' ρ hR hN hp hρ hc hf hg;refine ⟨rfl,?_⟩;have e12:ρ (.tmp 12)=_:=(hρ 12).trans (hp 0 AB);obtain ⟨g,hv,hb,hf,hg⟩:=hp 18 AB;have e30:=(hρ 30).trans hv;have hk0:=hR.key0 hN (k:=1019) AB AB;have ho:=HO.o.keep ((Kept.drew _ wr).trans (hR.keptS (S:=fun b=>ob A'=some b) fun b _ hb=>⟨Nu b,fun m hm=>CF⟩));refine Cw (.tmp 12) (.tmp 30) rfl GUA e12 ho e30 (Blk.rd hb) rfl (by simp [by3,Value.oneCell']) AA AB (by have:=hR.size;have e:wr.drew.heap.size=wr.heap.size:=rfl;omega) ?_;intro A4 c4 w4 hown4 hg4 hat4;refine ⟨γ.put 1019 none,ILA hk0 hg4.os hg4.tape hg4.output hg4.size (fun b hb hm=>hg4.block b hb fun e=>hm ⟨rfl,e.symm⟩),LM.done AB (.inr AB),A4,c4,rfl,hown4,rfl,fun b hb => ?_⟩;rintro ⟨k',hk'⟩;have hk2:γ k'=some (some b):=(by unfold Gh.put at hk';split at hk';(cases hk');exact hk');have hl:=hR.inb0 k' b hk2
    rcases hat4 with e|e
    ·have:=hR.old k' b hk2 (by have:=(HO.o.blk (e ▸ hb)).2;exact this);cases this
    ·rw [hb] at e;injection e with e;omega
   refine Qs (FP fun v γ w'=>∃ (A4:OA) (c4:Nat),v=.slice A4 (n+3) c4∧Own w' w.heap.size 5 1 A4 (n+3) c4 ((Rc (l.drop (j+1))).map (Value.int .u8)++by3 d)∧γ 1019=some none∧∀ b,ob A4=some b→Ec γ b) (H1A ?_) ?_ ?_
   ·exact TB
   ·intro vals γ w' ρ hR hN hp hρ zs zg;have hg:=hp.o 19 AB;have e31:=hρ.o 31;(conv at e31=>rhs;whnf);have HG:=Hd hg;clear hg;refine Qr ?_;exact ⟨γ,LX.refl _ _ _,fun _ _ _ h=>h,HG.o⟩
   intro vals γ w9 hR hG;obtain ⟨g18,v18,-⟩:=hG 18 AB;obtain ⟨A19,c19,v19,-⟩:=hG 19 AB;obtain ⟨A4,c4,v20,hown4,-⟩:=hG 20 AB;refine Qx ?_;simp only [v18,v19,v20];clear v18 v19 v20;have HX9:=Hd (hR.extB HX.o HB.o);clear hR hG;go_wp2;go_roundw
   case rel =>
    refine ⟨j,A4,c4,n+3,AA,IP,rfl,AE,HX9.o,?_⟩;rw [NU (u:=l) (k:=j) AA,←HDD.o]
    simpa [Rc,by3] using hown4
   case measure=>simp [intOf]

theorem Tm(h:qP:=by
 have:=Nat.mul_le_mul_right q (show b.toNat+1≤a.toNat from hab);rw [Nat.add_mul] at this;omega):qP:=h
theorem Xi:∀ l m:List UInt8,l.length=m.length→(Op.bytesLess l m=decide (nvl l<nvl m))
 |[],[],_=>by simp [Op.bytesLess]
 |a::l,b::m,h=>by
  have hl:l.length=m.length:=BU;have ih:=Xi l m hl;have h1:=Io l;have h2:=Io m;rw [hl] at h1;simp only [Op.bytesLess,ih,GR,hl];generalize 256^m.length=q at *;rw [Bool.eq_iff_iff];simp only [Bool.or_eq_true,Bool.and_eq_true,decide_eq_true_eq,beq_iff_eq];constructor
  ·rintro (hab|⟨rfl,hlm⟩)
   ·have hab:a.toNat+1≤b.toNat:=UInt8.lt_iff_toNat_lt.1 hab;have:=Nat.mul_le_mul_right q hab;rw [Nat.add_mul] at this;omega
   ·omega
  ·intro hlt
   rcases Nat.lt_trichotomy a.toNat b.toNat with hab|hab|hab
   ·exact .inl (UInt8.lt_iff_toNat_lt.2 hab)
   ·refine .inr ⟨UInt8.toNat_inj.1 hab,?_⟩;rw [hab] at hlt;omega
   ·exfalso;exact Tm
def Fv(x y:Nat):Int:=if x<y then -1 else if y<x then 1 else 0
theorem Zz{s t:BA}(h:s.size=t.size):∀ (_:AO s=AO t),(s.toList==t.toList)=true:=by
 intro hv;have key:∀ l m:List UInt8,l.length=m.length→nvl l=nvl m→l=m:=by
  intro l
  induction l with
  |nil=>intro m hl _;cases m with|nil=>rfl|cons=>simp at hl
  |cons a l ih =>
   intro m hl hv;cases m with
   |nil=>simp at hl
   |cons b m =>
    have hl2:l.length=m.length:=GJ;have h1:=Io l;have h2:=Io m;rw [GR,GR,hl2] at hv;rw [hl2] at h1;generalize 256^m.length=q at *;have hab:a.toNat=b.toNat:=by
     rcases Nat.lt_trichotomy a.toNat b.toNat with hab|hab|hab
     ·have:=Nat.mul_le_mul_right q (show a.toNat+1≤b.toNat from hab);rw [Nat.add_mul] at this;omega
     ·exact hab
     ·exact Tm
    rw [hab] at hv;rw [UInt8.toNat_inj.1 hab,ih m hl2 AA]
 have e1:s.toList=s.data.toList:=(by rw [ByteArray.toList_eq]);have e2:t.toList=t.data.toList:=(by rw [ByteArray.toList_eq]);rw [e1,e2];have:=key s.data.toList t.data.toList BU hv;simp [this]

theorem U4(h:qP:=by
 have hne:((r.size:Int) != (s.size:Int))=true:=(by rw [bne_iff_ne];omega);exact Bf):qP:=h
theorem TO(h:qP:=by
 clear hl hl2 heq h1 h2;exact Bf):qP:=h
theorem XI(a b:BA)(ha:a.size≤4294967296)(hb:b.size≤4294967296)(w:World):Cl 220 #[.string a,.string b] w (fun e w'=>e=.returned (.I (Fv (AO a) (AO b)))∧w=w'):=by
 go_enter func220,ntmps220
 go_wp2_with fail
 refine (DJ a ha _).mono ?_;rintro e1 w1 ⟨r,⟨rfl,rfl⟩,hv,hc,hsz⟩;have HV:=Hd hv;have HC:=Hd hc;have hr:r.size≤4294967296:=AA;clear hv hc hsz
 go_wp2_with fail
 refine (DJ b hb _).mono ?_;rintro e2 w2 ⟨s,⟨rfl,rfl⟩,hv2,hc2,hsz2⟩;have HV2:=Hd hv2;have HC2:=Hd hc2;have hs:s.size≤4294967296:=AA;clear hv2 hc2 hsz2
 rcases Nat.lt_trichotomy r.size s.size with hlt|heq|hgt
 ·have HF:=Hd (show Fv (AO a) (AO b)=-1 by
   rw [←HV.o,←HV2.o];unfold Fv;rw [if_pos];have h1:=(Ep HC.o (k:=r.size)).1 (Al);have h2:=(Ep HC2.o (k:=r.size));omega)
  exact U4
 ·have hne:((r.size:Int) != (s.size:Int))=false:=(by rw [bne_eq_false_iff_eq];omega);have HEQ:=Hd heq;have hl:=Xi r.toList s.toList (by rw [ByteArray.toList_eq,ByteArray.toList_eq];simpa using heq);rw [ByteArray.toList_eq,ByteArray.toList_eq] at hl;have hl2:Op.bytesLess r.toList s.toList=decide (AO r<AO s):=(by rw [ByteArray.toList_eq,ByteArray.toList_eq];exact hl);by_cases h1:AO r<AO s
  ·have HF:=Hd (show Fv (AO a) (AO b)=-1 by rw [←HV.o,←HV2.o];unfold Fv;rw [if_pos h1]);have hb1:Op.bytesLess r.toList s.toList=true:=(by rw [hl2];simpa using h1);clear hl hl2 heq h1;exact Bf
  ·have hb1:Op.bytesLess r.toList s.toList=false:=(by rw [hl2];simpa using h1);by_cases h2:AO s<AO r
   ·have HF:=Hd (show Fv (AO a) (AO b)=1 by rw [←HV.o,←HV2.o];unfold Fv;rw [if_neg h1,if_pos h2]);have hb2:(r.toList==s.toList)=false:=by
     rw [beq_eq_false_iff_ne];intro e;have:AO r=AO s:=(by unfold AO;rw [←ByteArray.toList_eq,←ByteArray.toList_eq,e]);omega
    exact TO
   ·have HF:=Hd (show Fv (AO a) (AO b)=0 by rw [←HV.o,←HV2.o];unfold Fv;rw [if_neg h1,if_neg h2]);have hb2:=Zz heq AA;exact TO
 ·have HF:=Hd (show Fv (AO a) (AO b)=1 by
   rw [←HV.o,←HV2.o];unfold Fv;have h1:=(Ep HC2.o (k:=s.size)).1 (Al);have h2:=(Ep HC.o (k:=s.size));rw [if_neg AA,if_pos AA])
  exact U4

theorem NA{l:List Nat}(h:trd l)(hv:Av l<256^60):l.length≤20:=by
 rcases Nat.lt_or_ge 20 l.length with h1|h1
 ·have h2:=B4A h (by intro e;rw [e] at h1;simp at h1);have h3:16777216^20≤16777216^(l.length-1):=Nat.pow_le_pow_right AB AA;have h4:(16777216:Nat)^20=256^60:=(by rw [FgA]);omega
 ·exact h1
def HtA(w:World)(n:Nat)(e:Ending)(w':World):Prop:=∃ r,e=.returned (.tuple #[.string r,.bool true])∧isN r n∧Ext w w'
theorem OX(a b:BA)(ha:a.size≤4294967296)(hb:b.size≤4294967296)(hle:AO b≤AO a)(hlt:AO a<256^60)(w:World):Cl 221 #[.string a,.string b] w (HtA w (AO a-AO b)):=by
 have hcm:¬Fv (AO a) (AO b)<0:=(by unfold Fv;split;omega;split<;>omega);have HLE:=Hd hle;have HLT:=Hd hlt;clear hle hlt
 go_enter func221,ntmps221
 go_wp2_with fail
 refine (XI a b ha hb _).mono ?_;rintro e1 w1 ⟨rfl,rfl⟩
 go_wp2_with fail
 refine (Na a ha _).mono ?_;rintro e1 w1 ⟨A1,c1,l1,rfl,hv1,hd1,ht1,hc1,hi1,hx1⟩;obtain ⟨HI1,HV1,HD1,HT1,HX1⟩:=Hd5 hi1 hv1 hd1 ht1 hx1;clear hi1 hv1 hd1 ht1 hx1
 go_wp2_with fail
 refine (Na b hb _).mono ?_;rintro e2 w2 ⟨A2,c2,l2,rfl,hv2,hd2,ht2,hc2,hi2,hx2⟩;obtain ⟨HI2,HV2,HD2,HT2,HX2,HI1b⟩:=Hd6 hi2 hv2 hd2 ht2 (HX1.o.trans hx2) (HI1.o.keep (hx2.kept _));clear hi2 hv2 hd2 ht2 hx2
 go_wp2_with fail
 refine (ChA l1 l2 A1 A2 c1 c2 _ _ _ HI1b.o HI2.o HD1.o HD2.o HT2.o (by rw [HV1.o,HV2.o];exact HLE.o)).mono ?_;rintro e3 w3 ⟨A3,c3,l3,rfl,hv3,hd3,ht3,hc3,hi3,hx3⟩;obtain ⟨HI3,HV3,HD3,HX3⟩:=Hd4 hi3 (show Av l3=AO a-AO b by rw [hv3,HV1.o,HV2.o]) hd3 (HX2.o.trans hx3);have hl3:=NA ht3 (by rw [HV3.o];exact Nat.lt_of_le_of_lt (Nat.sub_le _ _) HLT.o);clear hi3 hv3 hd3 ht3 hx3
 go_wp2_with fail
 refine (MO l3 A3 c3 _ _ HI3.o HD3.o AA).mono ?_;rintro e4 w4 ⟨r,rfl,h1,h2,h3,hx4⟩;have H1:=Hd (show isN r (AO a-AO b) from ⟨h1.trans HV3.o,h2,h3⟩);have HX4:=Hd (HX3.o.trans hx4);clear h1 h2 h3 hx4;go_wp2;refine bodyPost_ret (v:=.tuple #[.string r,.bool true]) (by simp [results,results221,go_sem]) rfl ⟨r,rfl,H1.o,HX4.o⟩

structure AddI(u v m:List Nat)(k cy:Nat):Prop where
 len:m.length=k
 eq:Av (u.take k)+Av (v.take k)=Av m+cy*16777216^k
 ds:dgs m
 bit:cy≤1
 fin:max u.length v.length<k→cy=0
theorem AddI.step{u v m:List Nat}{k cy:Nat}(h:AddI u v m k cy)(hu:dgs u)(hv:dgs v){s:Nat}(hs:s=cy+u.getD k 0+v.getD k 0):AddI u v (m++[s % 16777216]) (k+1) (s / 16777216):=by
 have h1:=Aa hu k;have h2:=Aa hv k;have h3:=h.bit;refine ⟨DY,?_,Jj h.ds (Nat.mod_lt _ AB),AA,fun hk => ?_⟩
 ·rw [Du,Du,Ex,h.len,Nat.pow_succ];have h4:=h.eq;have e:s=16777216*(s / 16777216)+s % 16777216:=(Nat.div_add_mod _ _).symm;have e2:16777216^k*s=cy*16777216^k+16777216^k*u.getD k 0+16777216^k*v.getD k 0:=(by rw [hs,Nat.mul_add,Nat.mul_add,Nat.mul_comm _ cy]);have e3:16777216^k*s=s / 16777216*(16777216^k*16777216)+16777216^k*(s % 16777216):=by
   exact RX
  omega
 ·have e1:u.getD k 0=0:=(by rw [List.getD_eq_getElem?_getD,List.getElem?_eq_none AA];rfl);have e2:v.getD k 0=0:=(by rw [List.getD_eq_getElem?_getD,List.getElem?_eq_none AA];rfl);rw [e1,e2] at hs;omega
theorem ZW(h:qP:=by
 exact absurd ⟨of_decide_eq_true (hs1.2.symm.trans h1),of_decide_eq_true (hs2.2.symm.trans h2)⟩ hbig):qP:=h
theorem BpA(h:qP:=by
 cases h2:p2
 ·exact .inr ⟨rfl,rfl⟩
 ·exact ZW):qP:=h
theorem UD(h:qP:=by
 cases h1:p1
 ·exact .inl rfl
 ·exact BpA):qP:=h
theorem A1A(h:qP:=by
 refine ⟨k+1,A4,c4,_,_,by omega,HST.o,rfl,by go_num,by go_num,(HX.o.alloc _).grown hg4 fun b hb=>(HO.o.blk hb).1,?_⟩;rw [J4]
 simpa using hown4):qP:=h
theorem JM(h:qP:=by
 go_wp2_with (at_builtin;go_must (refine AL rfl (.tmp 74) (.tmp 77) rfl tiI rfl (HO.o.ext (exaa wr)) rfl (Blk.rd (Blk.new _ _ _)) rfl (by simp [Value.oneCell']) (by omega) (by decide) (by simp;omega) ?_);intro A4 c4 w4 hown4 hg4 hat4)
 go_roundw
 case rel =>
  exact A1A
 case measure=>simp [intOf];omega):qP:=h
theorem Ut(h:qP:=by
 rintro e4 w4 ⟨r,rfl,h1,h2,h3,hx4⟩;obtain ⟨H1,H2,HX4⟩:=Hd3 (h1.trans HF.o) h2 (HE.o.trans hx4);clear h1 h2 hx4;go_wp2;go_ret;exact ⟨r,rfl,H1.o,H2.o,h3,HX4.o⟩):qP:=h
theorem IY(h:qP:=by have e1:=HD1.o;have e2:=HD2.o;omega):qP:=h
theorem YG(a b:BA)(ha:a.size≤4294967296)(hb:b.size≤4294967296)(hal:AO a<256^59)(hbl:AO b<256^59)(hbig:¬(AO a<256^7∧AO b<256^7))(w:World):Cl 219 #[.string a,.string b] w (Ng w (AO a+AO b)):=by
 have HBIG:=Hd hbig;obtain ⟨x1,p1,hs1⟩:∃ (x1:Int) (p1:Bool),Gb a 7=.returned (.tuple #[.I x1,.bool p1])∧p1=decide (AO a<256^7):=⟨_,_,rfl,rfl⟩;obtain ⟨x2,p2,hs2⟩:∃ (x2:Int) (p2:Bool),Gb b 7=.returned (.tuple #[.I x2,.bool p2])∧p2=decide (AO b<256^7):=⟨_,_,rfl,rfl⟩;have HS1:=Hd hs1.1;have HS2:=Hd hs2.1;have hpp:p1=false∨(p1=true∧p2=false):=by
  exact UD
 have HAL:=Hd hal;have HBL:=Hd hbl;clear hbig hs1 hs2 hal hbl;have main:∀ (pp1 pp2:Bool),p1=pp1→p2=pp2→(pp1=false∨(pp1=true∧pp2=false))→Cl 219 #[.string a,.string b] w (Ng w (AO a+AO b)):=by
  intro pp1 pp2 e1 e2 hpp;rw [e1] at HS1;rw [e2] at HS2;clear e1 e2
  go_enter func219,ntmps219
  go_wp2_with fail
  refine (DH a ha 7 AA _).mono ?_;rintro e1 w1 ⟨he,rfl⟩;rw [HS1.o] at he;subst he
  go_wp2_with fail
  refine (DH b hb 7 AA _).mono ?_;rintro e1 w1 ⟨he,rfl⟩;rw [HS2.o] at he;subst he;have hif:∃ z:Bool,z=false∧(pp1&&pp2)=z:=by
   rcases hpp with rfl|⟨rfl,rfl⟩<;>exact ⟨false,rfl,rfl⟩
  rcases hpp with rfl|⟨rfl,rfl⟩
  all_goals
   clear hif
   go_wp2_with fail
   refine (Na a ha _).mono ?_;rintro e1 w1 ⟨A1,c1,u,rfl,hv1,hd1,ht1,hc1,hi1,hx1⟩;have hul:=NA ht1 (by rw [hv1];exact Nat.lt_trans HAL.o (Nat.pow_lt_pow_right AB AB));obtain ⟨HU,HV1,HDU,HX1⟩:=Hd4 hi1 hv1 hd1 hx1;clear hi1 hv1 hd1 ht1 hx1
   go_wp2_with fail
   refine (Na b hb _).mono ?_;rintro e2 w2 ⟨A2,c2,v,rfl,hv2,hd2,ht2,hc2,hi2,hx2⟩;have hvl:=NA ht2 (by rw [hv2];exact Nat.lt_trans HBL.o (Nat.pow_lt_pow_right AB AB));obtain ⟨HV,HV2,HDV,HX2,HUb⟩:=Hd5 hi2 hv2 hd2 (HX1.o.trans hx2) (HU.o.keep (hx2.kept _));clear hi2 hv2 hd2 ht2 hx2 HU HX1;go_wp2
   go_loopw [11,12,13] (fun o c i wr=>∃ (k:Nat) (A':OA) (c' cy:Nat) (m:List Nat),k≤max u.length v.length+1∧AddI u v m k cy∧o=.slice A' k c'∧c=.I (cy:Int)∧i=.I (k:Int)∧Ext w2 wr∧Own wr w2.heap.size 3 1 A' k c' ((Ds m).map (Value.int .i64))) (fun _ _ i _=>max u.length v.length+1-(intOf i).toNat)
   case atStart=>exact ⟨0,none,0,0,[],AN,⟨rfl,by simp [Av],by simp [dgs],AA,fun _=>rfl⟩,rfl,rfl,rfl,Ext.refl _,Own.nil _ _ _ _⟩
   case round =>
    obtain ⟨k,A',c',cy,m,hk,hmi,rfl,rfl,rfl,hx,ho⟩:=hrel;obtain ⟨HX,HO,HM⟩:=Hd3 hx ho hmi;have hcy:=hmi.bit;have hfin:=hmi.fin;have hsz:=hx.size;have hkk:k≤21:=AA;obtain ⟨d1,hd1⟩:=eqx (u.getD k 0);obtain ⟨d2,hd2⟩:=eqx (v.getD k 0);have hl1:d1<16777216:=(by rw [hd1];exact Aa HDU.o k);have hl2:d2<16777216:=(by rw [hd2];exact Aa HDV.o k);have HD1:=Hd hd1;have HD2:=Hd hd2;clear hx ho hmi;by_cases hku:k<u.length
    ·obtain ⟨b1,o1,hA,hb1,hc1⟩:=Dq (HUb.o.keep (HX.o.kept _)) hku;subst hA;rw [←hd1] at hc1;by_cases hkv:k<v.length
     ·obtain ⟨b2,o2,hB,hb2,hc2⟩:=Dq (HV.o.keep (HX.o.kept _)) hkv;subst hB;rw [←hd2] at hc2;clear hd1 hd2;have HST:=Hd (HM.o.step HDU.o HDV.o (s:=cy+d1+d2) IY);exact JM
     ·have h20:d2=0:=(by rw [hd2,List.getD_eq_getElem?_getD,List.getElem?_eq_none AA];rfl);subst h20;clear hd1 hd2;have HST:=Hd (HM.o.step HDU.o HDV.o (s:=cy+d1+0) IY);exact JM
    ·have h10:d1=0:=(by rw [hd1,List.getD_eq_getElem?_getD,List.getElem?_eq_none AA];rfl);subst h10;by_cases hkv:k<v.length
     ·obtain ⟨b2,o2,hB,hb2,hc2⟩:=Dq (HV.o.keep (HX.o.kept _)) hkv;subst hB;rw [←hd2] at hc2;clear hd1 hd2;have HST:=Hd (HM.o.step HDU.o HDV.o (s:=cy+0+d2) IY);exact JM
     ·have h20:d2=0:=(by rw [hd2,List.getD_eq_getElem?_getD,List.getElem?_eq_none AA];rfl);subst h20;clear hd1 hd2;by_cases hc0:0<cy
      ·have hkm:k<max u.length v.length+1:=AA;clear hfin;have HST:=Hd (HM.o.step HDU.o HDV.o (s:=cy+0+0) IY);exact JM
      ·obtain rfl:cy=0:=AA;have hv:Av m=AO a+AO b:=by
        have:=HM.o.eq;rw [List.take_of_length_le AA,List.take_of_length_le AA,HV1.o,HV2.o] at this;omega
       have hml:=HM.o.len;obtain ⟨HR,HF,HD,HE⟩:=Hd4 (IMA (l:=m) (by rw [hml];exact HO.o) AA (T:=fun b=>w2.heap.size≤b) fun _ h=>h) hv HM.o.ds (HX2.o.trans HX.o);have hku2:¬(k:Int)<(u.length:Int):=AA;have hkv2:¬(k:Int)<(v.length:Int):=AA;obtain rfl:=hml;clear hv hfin
       go_wp2_with fail
       refine (MO m A' c' _ _ HR.o HD.o AA).mono ?_;exact Ut
 exact main p1 p2 rfl rfl hpp

theorem FDA(a b:BA)(ha:a.size≤4294967296)(hb:b.size≤4294967296)(hal:AO a<256^59)(hbl:AO b<256^59)(w:World):Cl 219 #[.string a,.string b] w (Ng w (AO a+AO b)):=by
 by_cases h:AO a<256^7∧AO b<256^7
 ·exact KJ a b ha hb h.1 h.2 w
 ·exact YG a b ha hb hal hbl h w
theorem SZ:∀ (m:List Nat) (t x:Nat),t<m.length→Av (m.set t x)+m.getD t 0*16777216^t=Av m+x*16777216^t
 |[],_,_,h=>by simp at h
 |d::m,0,x,_=>by simp [Av];omega
 |d::m,t+1,x,h=>by
  have ih:=SZ m t x BU;simp only [List.set_cons_succ,Av,List.getD_cons_succ,Nat.pow_succ];have e1:m.getD t 0*(16777216^t*16777216)=16777216*(m.getD t 0*16777216^t):=(by rw [←Nat.mul_assoc,Nat.mul_comm]);have e2:x*(16777216^t*16777216)=16777216*(x*16777216^t):=(by rw [←Nat.mul_assoc,Nat.mul_comm]);rw [e1,e2];omega
theorem XU{m:List Nat}(h:dgs m)(t:Nat){x:Nat}(hx:x<16777216):dgs (m.set t x):=fun y hy=>by
 rcases List.mem_or_eq_of_mem_set hy with hy|hy
 ·exact h y hy
 ·rw [hy];exact hx
theorem NW(m:List Nat)(t x k:Nat)(h:t≠k):(m.set t x).getD k 0=m.getD k 0:=by
 rw [List.getD_eq_getElem?_getD,List.getElem?_set_ne h,←List.getD_eq_getElem?_getD]
structure MulO(u v m:List Nat)(i:Nat):Prop where
 len:m.length=u.length+v.length
 ds:dgs m
 eq:Av m=Av (u.take i)*Av v
 zero:∀ t,i+v.length≤t→m.getD t 0=0
structure MulN(u v m:List Nat)(i j cy:Nat):Prop where
 len:m.length=u.length+v.length
 ds:dgs m
 lt:cy<16777216
 eq:Av m+cy*16777216^(i+j)=Av (u.take i)*Av v+u.getD i 0*Av (v.take j)*16777216^i
 zero:∀ t,i+v.length≤t→m.getD t 0=0
theorem MulO.inner{u v m:List Nat}{i:Nat}(h:MulO u v m i):MulN u v m i 0 0:=⟨h.len,h.ds,AA,by simp [Av,h.eq],h.zero⟩
theorem MulN.step{u v m:List Nat}{i j cy:Nat}(h:MulN u v m i j cy)(hu:dgs u)(hv:dgs v)(hi:i<u.length)(hj:j<v.length){s:Nat}(hs:s=m.getD (i+j) 0+u.getD i 0*v.getD j 0+cy) :
  s<281474976710656∧MulN u v (m.set (i+j) (s % 16777216)) i (j+1) (s / 16777216):=by
 have h1:=Aa hu i;have h2:=Aa hv j;have h3:=Aa h.ds (i+j);have h4:=h.lt;have h5:u.getD i 0*v.getD j 0≤16777215*16777215:=Nat.mul_le_mul AA AA;have hb:s<281474976710656:=AA;refine ⟨hb,DY,XU h.ds _ (Nat.mod_lt _ AB),AA,?_,fun t ht=>by rw [NW _ _ _ _ AA];exact h.zero t ht⟩;have hset:=SZ m (i+j) (s % 16777216) (by rw [h.len];omega);have heq:=h.eq;rw [Du,Nat.mul_add,Nat.add_mul,show i+(j+1)=(i+j)+1 by omega,Nat.pow_succ];have e:s=16777216*(s / 16777216)+s % 16777216:=(Nat.div_add_mod _ _).symm;have e1:s*16777216^(i+j)=s / 16777216*(16777216^(i+j)*16777216)+s % 16777216*16777216^(i+j):=by
  rw [Nat.mul_comm (16777216^(i+j)) 16777216,←Nat.mul_assoc,←Nat.add_mul,Nat.mul_comm (s / 16777216),←e]
 have e2:s*16777216^(i+j)=m.getD (i+j) 0*16777216^(i+j)+u.getD i 0*(16777216^j*v.getD j 0)*16777216^i+cy*16777216^(i+j):=by
  rw [hs,Nat.add_mul,Nat.add_mul,Nat.pow_add];congr 2;rw [Nat.mul_comm (16777216^j) (v.getD j 0),Nat.mul_comm (16777216^i) (16777216^j),Nat.mul_assoc,Nat.mul_assoc,Nat.mul_assoc]
 omega
theorem MulN.o{u v m:List Nat}{i cy:Nat}(h:MulN u v m i v.length cy)(hi:i<u.length):MulO u v (m.set (i+v.length) cy) (i+1):=by
 have hset:=SZ m (i+v.length) cy (by rw [h.len];omega);rw [h.zero (i+v.length) (Al),Nat.zero_mul,Nat.add_zero] at hset;have heq:=h.eq;rw [List.take_length] at heq;refine ⟨DY,XU h.ds _ h.lt,?_,fun t ht=>by rw [NW _ _ _ _ AA];exact h.zero t AA⟩;rw [hset,heq,Du,Nat.add_mul];congr 1;rw [Nat.mul_right_comm,Nat.mul_comm (u.getD i 0)]
theorem QM(h:qP:=by
 rw [List.getD_eq_getElem?_getD,List.getElem?_replicate];split<;>rfl):qP:=h
theorem MulO.start(u v:List Nat):MulO u v (List.replicate (u.length+v.length) 0) 0:=by
 have hz:∀ n,Av (List.replicate n 0)=0:=by
  intro n
  induction n with
  |zero=>rfl
  |succ n ih=>simp [List.replicate_succ,Av,ih]
 refine ⟨AC,fun d hd=>by rw [List.eq_of_mem_replicate hd];decide,by simp [hz,Av],fun t _ => ?_⟩;exact QM
def DD(m:List Nat):Array Value:=((Ds m).map (Value.int .i64)).toArray
theorem X8(m:List Nat):(DD m).size=m.length:=by simp [DD,Ds]
theorem NS{m:List Nat}{k:Nat}(h:k<m.length):(DD m)[k]?=some (.I ((m.getD k 0:Nat):Int)):=by simp [DD,Ds,h]
theorem VJ(m:List Nat)(k x:Nat):(DD m).setIfInBounds k (.I (x:Int))=DD (m.set k x):=by simp [DD,Ds,List.map_set]
theorem Blk.ints{w:World}{g:Nat}{m:List Nat}(h:Blk w g 3 (DD m))(hl:m.length≤4294967296):Ints w (fun b=>b=g) (some ⟨g,0,none⟩) (Ds m) :=
 ⟨by have:=h.rd;simpa [DD] using this,by rw [Gs];exact hl⟩
theorem Vi(a b:BA)(ha:a.size≤4294967296)(hb:b.size≤4294967296)(ha3:AO a<256^3)(hb4:AO b<256^4)(w:World):Cl 251 #[.string a,.string b] w (Ng w (AO a*AO b)):=by
 have HA:=Hd (GD ha3);have HB:=Hd (GD hb4);rw [show (256:Nat)^3=16777216 by decide] at ha3;rw [show (256:Nat)^4=4294967296 by decide] at hb4;obtain ⟨p,hp⟩:=eqx (AO a*AO b);have hpl:p≤16777215*4294967295:=(by rw [hp];exact Nat.mul_le_mul AA AA);have hw1:wrap64 ((AO a:Int)*(AO b:Int))=(p:Int):=(by rw [hp,←Int.natCast_mul];exact IntWalk.wrap64_in _ (by rw [←hp];omega));rw [←hp];clear hp
 go_enter func251,ntmps251
 go_wp2_with fail
 refine (DH a ha 3 AA _).mono ?_;rintro e1 w1 ⟨he,rfl⟩;rw [HA.o] at he;subst he
 go_wp2_with fail
 refine (DH b hb 4 AA _).mono ?_;rintro e1 w1 ⟨he,rfl⟩;rw [HB.o] at he;subst he
 go_wp2_with fail
 refine (Hj p AA _).mono ?_;rintro e1 w1 ⟨r,rfl,h1,h2,h3,h4⟩;obtain ⟨H1,H2,H4⟩:=Hd3 h1 h2 h4;clear h1 h2 h4 hw1;go_wp2;go_ret;exact ⟨r,rfl,H1.o,H2.o,h3,H4.o⟩
theorem Kt(a b:BA)(ha:a.size≤4294967296)(hb:b.size≤4294967296)(hal:AO a<256^60)(hbl:AO b<256^60)(hbig:¬(AO a<256^3∧AO b<256^4))(w:World):Cl 251 #[.string a,.string b] w (Ng w (AO a*AO b)):=by
 obtain ⟨x1,p1,hs1⟩:∃ (x1:Int) (p1:Bool),Gb a 3=.returned (.tuple #[.I x1,.bool p1])∧p1=decide (AO a<256^3):=⟨_,_,rfl,rfl⟩;obtain ⟨x2,p2,hs2⟩:∃ (x2:Int) (p2:Bool),Gb b 4=.returned (.tuple #[.I x2,.bool p2])∧p2=decide (AO b<256^4):=⟨_,_,rfl,rfl⟩;have HS1:=Hd hs1.1;have HS2:=Hd hs2.1;have hpp:p1=false∨(p1=true∧p2=false):=by
  exact UD
 have HAL:=Hd hal;have HBL:=Hd hbl;clear hbig hs1 hs2 hal hbl
 go_enter func251,ntmps251
 go_wp2_with fail
 refine (DH a ha 3 AA _).mono ?_;rintro e1 w1 ⟨he,rfl⟩;rw [HS1.o] at he;subst he
 go_wp2_with fail
 refine (DH b hb 4 AA _).mono ?_;rintro e1 w1 ⟨he,rfl⟩;rw [HS2.o] at he;subst he
 rcases hpp with rfl|⟨rfl,rfl⟩
 all_goals
  go_wp2_with fail
  refine (Na a ha _).mono ?_;rintro e1 w1 ⟨A1,c1,u,rfl,hv1,hd1,ht1,hc1,hi1,hx1⟩;have hul:=NA ht1 (by rw [hv1];exact HAL.o);obtain ⟨HU,HV1,HDU,HX1⟩:=Hd4 hi1 hv1 hd1 hx1;clear hi1 hv1 hd1 ht1 hx1
  go_wp2_with fail
  refine (Na b hb _).mono ?_;rintro e2 w2 ⟨A2,c2,v,rfl,hv2,hd2,ht2,hc2,hi2,hx2⟩;have hvl:=NA ht2 (by rw [hv2];exact HBL.o);obtain ⟨HV,HV2,HDV,HX2,HUb⟩:=Hd5 hi2 hv2 hd2 (HX1.o.trans hx2) (HU.o.keep (hx2.kept _));clear hi2 hv2 hd2 ht2 hx2 HU HX1;obtain ⟨n,hn⟩:=eqx (u.length+v.length);have hn2:(u.length:Int)+(v.length:Int)=(n:Int):=AA;have hmk:=EQA n AA;have HN:=Hd hn;have hn40:n≤40:=AA;clear hn
  go_wp2_with fail
  have HN2:=Hd hn2;obtain ⟨w3,hw3⟩:=eqx (w2.alloc (.cells (Array.replicate n (.I 0)) 3));have hb3:Blk w3 w2.heap.size 3 (DD (List.replicate n 0)):=by
   rw [hw3,show DD (List.replicate n 0)=Array.replicate n (.I 0) by simp [DD,Ds]];exact Blk.new _ _ _
  have hx3:Ext w2 w3:=(by rw [hw3];exact (Ext.refl _).alloc _);obtain ⟨g,hg⟩:=eqx w2.heap.size;rw [←hw3,←hg];rw [←hg] at hb3;obtain ⟨HB3,HX3,HG⟩:=Hd3 hb3 hx3 hg;clear hmk hn2 hw3 hb3 hx3 hg;go_wp2
  go_loopw [12] (fun i wr=>∃ (i':Nat) (m:List Nat),i'≤u.length∧i=.I (i':Int)∧MulO u v m i'∧Ext w2 wr∧Blk wr g 3 (DD m)) (fun i _=>u.length-(intOf i).toNat)
  case atStart=>exact ⟨0,List.replicate n 0,AN,rfl,by rw [HN.o];exact MulO.start u v,HX3.o,HB3.o⟩
  case round =>
   obtain ⟨i,m0,hi,rfl,hmo,hx,hb⟩:=hrel;obtain ⟨HMO,HX,HB⟩:=Hd3 hmo hx hb;clear hmo hx hb;by_cases hiu:i<u.length
   ·go_wp2
    go_loopw [13,14] (fun c j wr'=>∃ (j' cy:Nat) (m:List Nat),j'≤v.length∧j=.I (j':Int)∧c=.I (cy:Int)∧MulN u v m i j' cy∧Ext w2 wr'∧Blk wr' g 3 (DD m)) (fun _ j _=>v.length-(intOf j).toNat)
    case atStart=>exact ⟨0,0,m0,AN,rfl,rfl,HMO.o.inner,HX.o,HB.o⟩
    case round =>
     obtain ⟨j,cy,m,hj,rfl,rfl,hmn,hx2,hb2⟩:=hrel;obtain ⟨HMN,HX2,HB2⟩:=Hd3 hmn hx2 hb2;have hcy:=hmn.lt;have hml:=hmn.len;have HML:=Hd hml;have HNI:=Hd HN2.o;have hnn:=HN.o;clear hmn hx2 hb2;by_cases hjv:j<v.length
     ·obtain ⟨b1,o1,hA,hb1,hc1⟩:=Dq (HUb.o.keep (HX2.o.kept _)) hiu;subst hA;obtain ⟨b2,o2,hB,hb2,hc2⟩:=Dq (HV.o.keep (HX2.o.kept _)) hjv;subst hB;have hc3:=HB2.o.cell (NS (m:=m) (k:=i+j) AA);have hf3:=HB2.o.frozen (i+j);have hlt3:=HB2.o.lt;obtain ⟨d1,hd1⟩:=eqx (u.getD i 0);obtain ⟨d2,hd2⟩:=eqx (v.getD j 0);obtain ⟨d3,hd3⟩:=eqx (m.getD (i+j) 0);have hl1:d1<16777216:=(by rw [hd1];exact Aa HDU.o i);have hl2:d2<16777216:=(by rw [hd2];exact Aa HDV.o j);have hl3:d3<16777216:=(by rw [hd3];exact Aa HMN.o.ds (i+j));rw [←hd1] at hc1;rw [←hd2] at hc2;rw [←hd3] at hc3;obtain ⟨p,hp⟩:=eqx (d1*d2);have hst:=HMN.o.step HDU.o HDV.o hiu hjv (s:=d3+p+cy) (by rw [hp,hd1,hd2,hd3]);have hsb:=hst.1;have HST:=Hd hst.2;have i1:(i:Int)<(u.length:Int):=AA;have i2:(j:Int)<(v.length:Int):=AA;have i3:(i:Int)+(j:Int)<(n:Int):=AA;have i4:(0:Int)≤(i:Int)+(j:Int):=AA;have i5:((i:Int)+(j:Int)).toNat=i+j:=AA;have i0:(0:Int)≤(i:Int):=AA;have i00:(0:Int)≤(j:Int):=AA;obtain ⟨H5,E1,E3,E4,E2⟩:=Hd5 i5 (show IntKind.i64.wrap ((i:Int)+j)=(i:Int)+j from IntWalk.i64_in _ AA) (show IntKind.i64.wrap ((d3:Int)+p)=(d3:Int)+p from IntWalk.i64_in _ AA) (show IntKind.i64.wrap ((d3:Int)+p+cy)=(d3:Int)+p+cy from IntWalk.i64_in _ AA) (show IntKind.i64.wrap ((d1:Int)*d2)=(p:Int) by rw [←Int.natCast_mul,←hp];exact IntWalk.i64_in _ AA);clear hst hd1 hd2 hd3 hp hnn hml;obtain ⟨C1,C2,C3⟩:=Hd3 hc1 hc2 hc3;clear i5 hc1 hc2 hc3
      go_upto_region 15 with fail
      refine Qb (fun i=>[i]) (fun _ _=>False) [] ?_
      iterate 3 refine Qp ?_
      refine Qm (fun vals γ w' ρ hR hN hp hρ zs zg=>by
       have e1:=E1.o;exact Qk) ?_
      refine Qm (fun vals γ w' ρ hR hN hp hρ zs zg=>by
       have i5:=H5.o;exact Qk) ?_
      iterate 9 refine Qp ?_
      refine Qm (fun vals γ w' ρ hR hN hp hρ zs zg=>by
       have e1:=E2.o;exact Qk) ?_
      refine Qm (fun vals γ w' ρ hR hN hp hρ zs zg=>by
       have e1:=E3.o;exact Qk) ?_
      refine Qp ?_;refine Qm (fun vals γ w' ρ hR hN hp hρ zs zg=>by
       have e1:=E4.o;exact Qk) ?_
      refine Qp ?_;intro vals γ w9 hR hG;refine Qx ?_;have HX9:=Hd (HX2.o.trans (hR.ext0 (fun _ _ h=>h.elim)));have HB9:=Hd (HB2.o.keep ((hR.ext0 (fun _ _ h=>h.elim)).kept _));clear hR hG;have c9:=HB9.o.cell (NS (m:=m) (k:=i+j) (by have:=HML.o;have:=HN.o;omega));have f9:=HB9.o.frozen (i+j);have l9:=HB9.o.lt;have i5:=H5.o;go_wp2;go_roundw
      case rel =>
       refine ⟨j+1,_,m.set (i+j) ((d3+p+cy) % 16777216),AA,AE,AE,HST.o,HX9.o.set2 (by rw [HG.o];exact Al) _,?_⟩;rw [←VJ];have:=HB9.o.set (i+j) (.I (((d3+p+cy) % 16777216:Nat):Int))
       simpa using this
      case measure=>simp [intOf];omega
     ·have hjv2:j=v.length:=AA;have HMN2:=Hd (show MulN u v m i v.length cy by rw [←hjv2];exact HMN.o);have c9:=HB2.o.cell (NS (m:=m) (k:=i+v.length) AA);have f9:=HB2.o.frozen (i+v.length);have l9:=HB2.o.lt;have i3:(i:Int)+(v.length:Int)<(n:Int):=AA;have i4:(0:Int)≤(i:Int)+(v.length:Int):=AA;have i5:((i:Int)+(v.length:Int)).toNat=i+v.length:=AA;have hj0:¬(j:Int)<(v.length:Int):=AA;have hnv:v.length≤40:=AA;clear hnn hml hjv2;go_wp2;go_roundw
      case rel =>
       refine ⟨i+1,m.set (i+v.length) cy,AA,AE,HMN2.o.o hiu,HX2.o.set2 (by rw [HG.o];exact Al) _,?_⟩;rw [←VJ];exact HB2.o.set (i+v.length) (.I (cy:Int))
      case measure=>simp [intOf];omega
   ·have hiu2:i=u.length:=AA;have hv:Av m0=AO a*AO b:=by
     have h:=HMO.o.eq;rw [hiu2,List.take_length,HV1.o,HV2.o] at h;exact h
    have hml:=HMO.o.len;have hnl:n=m0.length:=(by rw [hml,HN.o]);obtain ⟨HF,HD,HR,HE⟩:=Hd4 hv HMO.o.ds (HB.o.ints AA) (HX2.o.trans HX.o);have hi0:¬(i:Int)<(u.length:Int):=AA;rw [hnl];clear hv hml hiu2 HN HN2;subst hnl
    go_wp2_with fail
    refine (MO m0 (some ⟨g,0,none⟩) m0.length _ _ HR.o HD.o AA).mono ?_;exact Ut
end Go.Proofs.YtidacnalcdhckaaGreatDoor
