/- Lemmas. No conditions. -/
import Derived.Test.YtaccjdppmmoepaaGreatDoorXq21
set_option maxRecDepth 100000
set_option maxHeartbeats 4000000
namespace Go.Proofs.YtaccjdppmmoepaaGreatDoor
open Go Go.RowKit Tryz
variable {qP:Prop}{n:Int}{xs:List Int}

theorem NSt.keep2{w J:World}{g:Nat}{A:OA}{l:List Int}{c K B:Nat}(h:NSt w g A l c K)(hg:g<B)(hd:∀ b o,A=some ⟨b,o,none⟩->l≠[]->b<B)(hk:Kept (λb=>b<B) w J):NSt J g A l c K:=by
 obtain ⟨h1,S,h2,h3⟩:=h;refine ⟨h1.keep (hk.mono λb _ e=>by subst e;exact hg),?_⟩
 rcases h3.1 with h4|⟨b,o,hA,hb,hlt,hc⟩
 ·exact ⟨λ_=>False,λh=>h,.inl h4,h3.2⟩
 ·by_cases hl:l=[]
  ·exact SF
  ·refine ⟨λx=>x=b,λe=>h2 (e ▸ hb),?_⟩;have h5:IntsL w (λx=>x=b) A l:=⟨.inr ⟨b,o,hA,rfl,hlt,hc⟩,h3.2⟩;exact h5.keep (hk.mono λx _ hx=>by subst hx;exact hd x o hA hl)

def PrnL(xs:List Int):Prop:=∀ x∈xs,32<=x/\x<=126
theorem PrnL.nil:PrnL []:=by intro x hx;cases hx
theorem P6(h:qP:=by
 intro y hy
 rcases List.mem_append.1 hy with hy|hy
 ·exact h y hy
 ·rw [List.mem_singleton.1 hy];exact ⟨h1,h2⟩):qP:=h
theorem PrnL.snoc(h:PrnL xs){x:Int}(h1:32<=x)(h2:x<=126):PrnL (xs++[x]):=by
 exact P6
theorem DnA(h:PrnL xs)(hl:xs.length<=200):Ca (strOfNums xs)=true:=by
 unfold Ca;rw [Bool.and_eq_true,decide_eq_true_eq,List.all_eq_true,strOfNums_size];refine ⟨hl,λc hc => ?_⟩;unfold bs at hc;obtain ⟨u,hu,rfl⟩:=List.mem_map.1 hc;unfold strOfNums at hu;simp only [List.mem_map] at hu;obtain ⟨x,hx,rfl⟩:=hu;obtain ⟨h1,h2⟩:=h x hx;unfold C4;rw [decide_eq_true_eq];have:(UInt8.ofNat x.toNat).toNat=x.toNat:=by
  rw [UInt8.toNat_ofNat'];omega
 rw [this];omega
theorem C5A(k:Nat)(hk:k<15):∃ t:BA,Nn[k]?=some (.string t)/\t.size<=200/\Ca t=true:=by
 match k,hk with
 |0,_=>exact ⟨_,rfl,AB,AB⟩
 |1,_=>exact ⟨_,rfl,AB,AB⟩
 |2,_=>exact ⟨_,rfl,AB,AB⟩
 |3,_=>exact ⟨_,rfl,AB,AB⟩
 |4,_=>exact ⟨_,rfl,AB,AB⟩
 |5,_=>exact ⟨_,rfl,AB,AB⟩
 |6,_=>exact ⟨_,rfl,AB,AB⟩
 |7,_=>exact ⟨_,rfl,AB,AB⟩
 |8,_=>exact ⟨_,rfl,AB,AB⟩
 |9,_=>exact ⟨_,rfl,AB,AB⟩
 |10,_=>exact ⟨_,rfl,AB,AB⟩
 |11,_=>exact ⟨_,rfl,AB,AB⟩
 |12,_=>exact ⟨_,rfl,AB,AB⟩
 |13,_=>exact ⟨_,rfl,AB,AB⟩
 |14,_=>exact ⟨_,rfl,AB,AB⟩
 |n+15,h=>omega
theorem DsA{s:BA}(h:Ca s=true):BG ⟨1,s,0,0,0,[],[]⟩=true:=by simp [BG,KU,h]
theorem EsA{a b:Int}(h:Dz a b=true):BG ⟨2,⟨#[]⟩,a,b,0,[],[]⟩=true:=by simp [BG,KU,h]
theorem CHA(h:0<=n)(h2:n<=3652058):BG ⟨3,⟨#[]⟩,0,0,n,[],[]⟩=true:=by simp [BG,KU,h,h2]
theorem FYA(h:0<=n)(h2:n<2):BG ⟨4,⟨#[]⟩,0,0,n,[],[]⟩=true:=by
 have:n=0\/n=1:=AA;simp [BG,KU,this]
theorem FZA(h:0<=n)(h2:n<100):BG ⟨0,⟨#[]⟩,0,0,n,[],[]⟩=true:=by
 have:n<=99:=AA;simp [BG,KU,this,h]
theorem WJ:∀ (s n:Nat),(F0 s n).2=0\/(F0 s n).1 % 10≠0
 |0,_=>.inl rfl
 |s+1,n=>by
  unfold F0;split
  ·exact WJ s (n / 10)
  ·rename_i h;exact .inr h
theorem EzA(neg:Bool)(n s:Nat):Dz (KF neg n s).1.1 (KF neg n s).1.2=true:=by
 unfold KF;have hd:=WJ s n;generalize F0 s n=p at hd|-;split
 ·rename_i h;unfold Dz Fx;simp only [Bool.and_eq_true,decide_eq_true_eq];have ht:∀ m:Nat,((m:Int)).tmod 10=((m % 10:Nat):Int):=λm=>by rw [Int.tmod_eq_emod_of_nonneg AA];omega
  cases neg
  ·refine ⟨⟨by constructor<;>(try dsimp only)<;>omega,by constructor<;>simp<;>omega⟩,?_⟩
   rcases hd with h0|h0
   ·left;(try dsimp only);omega
   ·right;simp only [Bool.false_eq_true,if_false];rw [ht];omega
  ·refine ⟨⟨by constructor<;>(try dsimp only)<;>omega,by constructor<;>simp<;>omega⟩,?_⟩
   rcases hd with h0|h0
   ·left;(try dsimp only);omega
   ·right;simp only [if_true];rw [Int.neg_tmod,ht];omega
 ·decide
def GPA(w:World)(g:Nat)(A:OA)(l:List Int)(c:Nat)(K:Nat)(e:Ending)(J:World):Prop:=∃ (s:BA) (K':Nat),e=.returned (.string s)/\Ca s=true/\s.size<=200/\K<=K'/\NSt J g A l c K'/\But g w J
theorem CsA(g:Nat)(A:OA)(l:List Int)(c K:Nat)(w:World)(h:NSt w g A l c K):Cl 88 #[.pointer (some ⟨g,0,none⟩)] w (GPA w g A l c K):=by
 have H:=Hd h;have hgw:=h.1.1.lt;have HD:=Hd (TxR.data h);clear h
 go_enter func88,ntmps88
 go_wp2_with fail
 refine (Bb 18 g A l c K _ AA AA H.o).mono ?_;rintro e1 w1 ⟨k,K1,rfl,hk,hK1,b4,hb1,hs1⟩;obtain ⟨HK1,HN1,HB1⟩:=Hd3 (show K<=K1 by omega) b4 hb1;clear hK1 b4 hb1 hs1
 go_wp2_with fail
 refine (C3A _).mono ?_;rintro e1 w2 ⟨rfl,rfl⟩;have HB2:=Hd (HB1.o.trans (H7A ((Ext.refl w1).alloc (.cells Nn 9))));have HN2:=Hd (HN1.o.ext ((Ext.refl w1).alloc (.cells Nn 9)));by_cases hlt:k<15
 ·obtain ⟨t,ht,htz,b7⟩:=C5A k hlt;have HTB:=Hd b7;have q:=(Blk.new w1 9 Nn).cell ht;have d6:(k:Int)<15:=AA;clear ht b7;go_wp2;go_ret;exact ⟨t,K1,rfl,HTB.o,htz,HK1.o,HN2.o,HB2.o⟩
 ·have d6:¬(k:Int)<15:=AA;obtain ⟨w2,a9⟩:=eqx (w1.alloc (.cells Nn 9));rw [<-a9] at HB2 HN2
  go_wp2_with fail
  rw [<-a9];clear a9;refine (Bb 9 g A l c K1 _ AA AA HN2.o).mono ?_;rintro e1 w3 ⟨n,K3,rfl,hn,hK3,d5,b5,hs3⟩;obtain ⟨Z,a8,HB3⟩:=Hd3 (show K<=K3 by have:=HK1.o;omega) d5 (HB2.o.trans b5);clear hK3 d5 b5 hs3;have hn':n<=200:=AA;by_cases h17:k=17
  case' pos =>
   have e17:((k:Int)==17)=true:=(by simp [h17]);clear hn
   go_wp2_with fail
   refine (Bb 11 g A l c K3 _ AA AA a8.o).mono ?_;rintro e1 w4 ⟨m,K4,rfl,hm,hK4,d3,hb4,hs4⟩;obtain ⟨HK5,b9,HB5⟩:=Hd3 (show K<=K4 by have:=Z.o;omega) d3 (HB3.o.trans hb4);clear hK4 d3 hb4 hs4 a8 HB3 Z HN2 HB2 HN1 HB1 HK1;obtain ⟨O,hn5⟩:∃ O:Nat,O=190+m:=⟨_,rfl⟩;have e5:(190:Int)+(m:Int)=(O:Int):=AA;have U:O<=200:=AA;clear hn5
  case' neg =>
   have e17:((k:Int)==17)=false:=AI;obtain ⟨w4,rfl⟩:=eqx w3;have HK5:=Z;have b9:=a8;have HB5:=HB3;obtain ⟨O,rfl⟩:=eqx n;have U:=hn';clear a8 HB3 Z HN2 HB2 HN1 HB1 HK1 hn
  all_goals
   go_wp2;have HT0:=Hd (show TxR w g A l c K w4.heap.size 0 none 0 [] w4 from ⟨HB5.o,⟨HB5.o.size,Al⟩,⟨_,HK5.o,b9.o⟩,Own.nil _ _ _ _,rfl⟩)
   go_loopw [6,7] (λb i wr=>∃ (j:Nat) (A':OA) (c':Nat) (xs:List Int),j<=O/\i=.I j/\b=.slice A' j c'/\TxR w g A l c K w4.heap.size j A' c' xs wr/\PrnL xs) (λ_ i _=>O-(intOf i).toNat)
   case atStart=>exact ⟨0,none,0,[],AN,rfl,rfl,HT0.o,PrnL.nil⟩
   case round =>
    clear HT0;obtain ⟨j,A',c',xs,hj,rfl,rfl,hT,hP⟩:=hrel;have HT:=Hd hT;have HP:=Hd hP;clear hT hP;by_cases hltj:j<O
    ·obtain ⟨K',Y,hN'⟩:=HT.o.num;have HKK:=Hd Y;have HNN:=Hd hN';clear Y hN'
     go_wp2_with fail
     refine (Bb 95 g A l c K' _ AA AA HNN.o).mono ?_;rintro e1 w6 ⟨r,K6,rfl,hr,hK6,b3,d4,hs6⟩;obtain ⟨HK6,HN6,b8,b6⟩:=Hd4 (show K<=K6 by have:=HKK.o;omega) b3 d4 hs6;clear hK6 b3 d4 hs6;have hlow:=HT.o.low;have hown:=b8.o.own HT.o.own AA;obtain ⟨x,hx⟩:∃ x:Int,x=32+(r:Int):=⟨_,rfl⟩;have HO6:=Hd (hown.ext ((Ext.refl w6).alloc (.cells #[.int .u8 (32+(r:Int))] 5)));clear hown
     go_wp2_with (at_builtin;go_must (refine AL rfl (.tmp 31) (.tmp 36) rfl GUA rfl HO6.o rfl (Blk.rd (Blk.new _ _ _)) rfl AP AA AB (by have:=b6.o;simp;omega) ?_);intro A8 c8 w8 b0 hg8 hat8)
     go_roundw
     case rel =>
      refine ⟨j+1,A8,c8,xs++[32+(r:Int)],AA,AE,rfl,⟨?_,?_,?_,?_,?_⟩,HP.o.snoc AA AA⟩
      ·exact ((HT.o.but.trans b8.o).trans (H7A (exaa w6))).grown hg8 λb hb=>by have:=(HO6.o.blk hb).1;omega
      ·have:=hg8.size;have:=b6.o;simp at *;omega
      ·refine ⟨K6,HK6.o,(HN6.o.ext (exaa w6)).grown hg8 (λb hb e => ?_) (λb hb b' o hA hl e => ?_)⟩
       ·have:=(HO6.o.blk hb).1;omega
       ·have:=(HO6.o.blk hb).1;have:=HD.o b' o hA hl;omega
      ·rw [List.map_append];exact b0
      ·simp [HT.o.len]
     case measure=>simp [intOf];omega
    ·obtain rfl:j=O:=AA;have hcv:=D2A HT.o.own HT.o.len (dst:=9) underlying9;have HZ:=Hd (show (strOfNums xs).size<=200 by rw [strOfNums_size,HT.o.len];exact U);go_wp2;go_ret;obtain ⟨K',Y,hN'⟩:=HT.o.num;exact ⟨_,K',rfl,DnA HP.o (by rw [HT.o.len];exact U),HZ.o,Y,hN',HT.o.but⟩

def F4A(w:World)(g:Nat)(A:OA)(l:List Int)(c:Nat)(K:Nat)(e:Ending)(J:World):Prop:=∃ (a b:Int) (K':Nat),e=.returned (.agg #[.I a,.I b])/\Dz a b=true/\K<=K'/\NSt J g A l c K'/\But g w J
def WF(w:World)(g:Nat)(A:OA)(l:List Int)(c:Nat)(K:Nat)(e:Ending)(J:World):Prop:=∃ (x:Val) (K':Nat),e=.returned (Vq x none 0 none 0)/\BG x=true/\CBA x/\K<=K'/\NSt J g A l c K'/\But g w J
theorem DHA(g:Nat)(A:OA)(l:List Int)(c K:Nat)(w:World)(h:NSt w g A l c K):Cl 89 #[.pointer (some ⟨g,0,none⟩)] w (F4A w g A l c K):=by
 have hgw:=h.1.1.lt;have hne:w.heap.size≠g:=AA;obtain ⟨HN,HB,U,HK,HD⟩:=Hd5 (h.ext ((Ext.refl w).alloc (.cells #[.I 0,.I 0] 28))) (H7A (g:=g) ((Ext.refl w).alloc (.cells #[.I 0,.I 0] 28))) (Blk.new w 28 #[.I 0,.I 0]) (Nat.le_refl K) (TxR.data h);clear h
 go_enter func89,ntmps89
 go_wp2_with fail
 refine (Bb 2001 g A l c K _ AA AA HN.o).mono ?_;rintro e1 w1 ⟨d1,K1,rfl,hrd1,hKd1,b8,a9,hsd1⟩;obtain ⟨Z,Y,O⟩:=Hd3 (show K<=K1 by have:=HK.o;omega) (HB.o.trans a9) (a9.blk U.o hne);clear HK HN HB U;have HK:=Z;have HN:=Hd b8;have HB:=Y;have U:=O;clear hKd1 b8 a9 hsd1 Z Y O
 go_wp2_with fail
 refine (Bb 8 g A l c K1 _ AA AA HN.o).mono ?_;rintro e1 w2 ⟨d2,K2,rfl,hrd2,hKd2,b5,b3,hsd2⟩;obtain ⟨Z,Y,O⟩:=Hd3 (show K<=K2 by have:=HK.o;omega) (HB.o.trans b3) (b3.blk U.o hne);clear HK HN HB U;have HK:=Z;have HN:=Hd b5;have HB:=Y;have U:=O;clear hKd2 b5 b3 hsd2 Z Y O;by_cases h7:d2=7
 case' pos =>
  have e7:((d2:Int)==7)=true:=by simp [h7]
  go_wp2_with fail
  refine (Bb 2000000000000001 g A l c K2 _ AA AA HN.o).mono ?_;rintro e1 w3 ⟨d3,K3,rfl,hrd3,hKd3,b6,a8,hsd3⟩;obtain ⟨Z,Y,O⟩:=Hd3 (show K<=K3 by have:=HK.o;omega) (HB.o.trans a8) (a8.blk U.o hne);clear HK HN HB U;have HK:=Z;have HN:=Hd b6;have HB:=Y;have U:=O;clear hKd3 b6 a8 hsd3 Z Y O;obtain ⟨n,hn⟩:∃ n:Int,n=(d3:Int)-1000000000000000:=⟨_,rfl⟩;have hn1:-1000000000000000<=n:=AA;have hn2:n<=1000000000000000:=AA
 case' neg =>
  have e7:((d2:Int)==7)=false:=AI;obtain ⟨K3,rfl⟩:=eqx K2;obtain ⟨w3,rfl⟩:=eqx w2;obtain ⟨n,hn⟩:∃ n:Int,n=(d1:Int)-1000:=⟨_,rfl⟩;have hn1:-1000000000000000<=n:=AA;have hn2:n<=1000000000000000:=AA
 all_goals
  go_wp2_with fail
  refine (Bb 4 g A l c K3 _ AA AA HN.o).mono ?_;rintro e1 w4 ⟨d4,K4,rfl,hrd4,hKd4,b7,b4,hsd4⟩;obtain ⟨Z,Y,O⟩:=Hd3 (show K<=K4 by have:=HK.o;omega) (HB.o.trans b4) (b4.blk U.o hne);clear HK HN HB U;have HK:=Z;have HN:=Hd b7;have HB:=Y;have U:=O;clear hKd4 b7 b4 hsd4 Z Y O
  go_wp2_with fail
  rw [<-hn];have b9:Cl 159 #[.I n,.I (d4:Int)] w4 (λe J=>∃ a b t,e=.returned (.tuple #[.agg #[.I a,.I b],.bool t])/\Dz a b=true/\Ext w4 J):=(Yb n d4 hn1 hn2 AA _).mono λe J h=>⟨_,_,_,h.1,EzA _ _ _,h.2⟩;refine b9.mono ?_;rintro e1 w5 ⟨a,b,t,rfl,hdr,hx5⟩;obtain ⟨HDR,HN5,HB5,b0⟩:=Hd4 hdr (HN.o.ext hx5) (HB.o.trans (H7A hx5)) (U.o.keep (hx5.kept _));clear HN HB U hx5 b9 hn hdr;obtain ⟨r0,r1⟩:=b0.o.qs2;have rf:=b0.o.frozen;have rz:=b0.o.lt;go_wp2;refine bodyPost_ret (v:=.agg #[.I a,.I b]) (by simp [results,results89,go_sem,r0,r1,rz]) rfl ⟨_,_,K4,rfl,HDR.o,HK.o,?_,?_⟩
  ·refine HN5.o.keep2 hgw HD.o (Kept.trans ?_ (Kept.alloc _ _ _))
   iterate 2 with_reducible refine Kept.set2 ?_ (by show ¬(_<_);omega)
   exact FY
  ·refine But.trans ?_ (H7A (exaa _))
   iterate 2 with_reducible refine But.set ?_ AA
   with_reducible exact HB5.o

theorem LQ(h:qP:=by
 iterate 7 with_reducible refine Kept.set2 ?_ (by show ¬(_<_);omega)
 exact FY):qP:=h
theorem E9(h:qP:=by
 refine HN.o.keep2 hgw HD.o ?_;exact LQ):qP:=h
theorem FG(h:qP:=by
 iterate 7 with_reducible refine But.set ?_ (by omega)
 with_reducible exact HB.o):qP:=h
theorem Di(h:qP:=by simp [results,results30,go_sem,r0,r1,r2,r3,r4,r5,r6]):qP:=h
theorem E6(h:qP:=by first|exact HSZ.o|exact AN):qP:=h
theorem Wz(g:Nat)(A:OA)(l:List Int)(c K:Nat)(w:World)(h:NSt w g A l c K):Cl 30 #[.pointer (some ⟨g,0,none⟩),.I 1] w (WF w g A l c K):=by
 have hgw:=h.1.1.lt;have hne:w.heap.size≠g:=AA;obtain ⟨HN,HB,O,HK,HD⟩:=Hd5 (h.ext ((Ext.refl w).alloc (.cells Vz 40))) (H7A (g:=g) ((Ext.refl w).alloc (.cells Vz 40))) (Blk.new w 40 Vz) (Nat.le_refl K) (TxR.data h);clear h
 go_enter func30,ntmps30
 go_wp2_with fail
 refine (CsA g A l c K _ HN.o).mono ?_;rintro e1 w1 ⟨s,K1,rfl,a8,b0,hK1,Z,hb1⟩;have HTB:=Hd a8;clear a8;obtain ⟨a9,Y,U,HSZ⟩:=Hd4 (show K<=K1 by have:=HK.o;omega) (HB.o.trans hb1) (hb1.blk O.o hne) (show s.size<=4294967296 by omega);clear HK HN HB O;have HK:=a9;have HN:=Hd Z;have HB:=Y;have O:=U;clear hK1 Z hb1 a9 Y U;obtain ⟨r0,r1,r2,r3,r4,r5,r6⟩:=O.o.qs7;have rf:=O.o.frozen;have rz:=O.o.lt;go_wp2;refine bodyPost_ret (v:=.agg #[.I 1,.string s,.I 0,.I 0,.I 0,.slice none 0 0,.slice none 0 0]) Di rfl ⟨⟨1,s,0,0,0,[],[]⟩,K1,rfl,DsA HTB.o,⟨rfl,rfl,E6⟩,HK.o,?_,?_⟩
 ·exact E9
 ·exact FG

theorem XJ(g:Nat)(A:OA)(l:List Int)(c K:Nat)(w:World)(h:NSt w g A l c K):Cl 30 #[.pointer (some ⟨g,0,none⟩),.I 2] w (WF w g A l c K):=by
 have hgw:=h.1.1.lt;have hne:w.heap.size≠g:=AA;obtain ⟨HN,HB,O,HK,HD⟩:=Hd5 (h.ext ((Ext.refl w).alloc (.cells Vz 40))) (H7A (g:=g) ((Ext.refl w).alloc (.cells Vz 40))) (Blk.new w 40 Vz) (Nat.le_refl K) (TxR.data h);clear h
 go_enter func30,ntmps30
 go_wp2_with fail
 refine (DHA g A l c K _ HN.o).mono ?_;rintro e1 w1 ⟨a,b,K1,rfl,hdr,hK1,Z,hb1⟩;have a9:=Hd hdr;clear hdr;obtain ⟨a8,Y,U⟩:=Hd3 (show K<=K1 by have:=HK.o;omega) (HB.o.trans hb1) (hb1.blk O.o hne);clear HK HN HB O;have HK:=a8;have HN:=Hd Z;have HB:=Y;have O:=U;clear hK1 Z hb1 a8 Y U;obtain ⟨r0,r1,r2,r3,r4,r5,r6⟩:=O.o.qs7;have rf:=O.o.frozen;have rz:=O.o.lt;go_wp2;refine bodyPost_ret (v:=.agg #[.I 2,.string ⟨#[]⟩,.I a,.I b,.I 0,.slice none 0 0,.slice none 0 0]) Di rfl ⟨⟨2,⟨#[]⟩,a,b,0,[],[]⟩,K1,rfl,EsA a9.o,⟨rfl,rfl,E6⟩,HK.o,?_,?_⟩
 ·exact E9
 ·exact FG

theorem XK(g:Nat)(A:OA)(l:List Int)(c K:Nat)(w:World)(h:NSt w g A l c K):Cl 30 #[.pointer (some ⟨g,0,none⟩),.I 3] w (WF w g A l c K):=by
 have hgw:=h.1.1.lt;have hne:w.heap.size≠g:=AA;obtain ⟨HN,HB,O,HK,HD⟩:=Hd5 (h.ext ((Ext.refl w).alloc (.cells Vz 40))) (H7A (g:=g) ((Ext.refl w).alloc (.cells Vz 40))) (Blk.new w 40 Vz) (Nat.le_refl K) (TxR.data h);clear h
 go_enter func30,ntmps30
 go_wp2_with fail
 refine (Bb 1000 g A l c K _ AA AA HN.o).mono ?_;rintro e1 w1 ⟨d1,K1,rfl,hrd1,b5,b7,a9,d5⟩;obtain ⟨HA1,Z,Y,U⟩:=Hd4 b5 (show K<=K1 by have:=HK.o;omega) (HB.o.trans a9) (a9.blk O.o hne);clear HK HN HB O;have HK:=Z;have HN:=Hd b7;have HB:=Y;have O:=U;clear b5 b7 a9 d5 Z Y U
 go_wp2_with fail
 refine (Bb 8 g A l c K1 _ AA AA HN.o).mono ?_;rintro e1 w2 ⟨d2,K2,rfl,hrd2,b6,b3,b0,d4⟩;obtain ⟨HA2,Z,Y,U⟩:=Hd4 b6 (show K<=K2 by have:=HK.o;omega) (HB.o.trans b0) (b0.blk O.o hne);clear HK HN HB O;have HK:=Z;have HN:=Hd b3;have HB:=Y;have O:=U;clear b6 b3 b0 d4 Z Y U;by_cases h7:d2=7
 ·have e7:((d2:Int)==7)=true:=by simp [h7]
  go_wp2_with fail
  refine (Bb 3652059 g A l c K2 _ AA AA HN.o).mono ?_;rintro e1 w3 ⟨d3,K3,rfl,hrd3,b8,b4,a8,b9⟩;obtain ⟨Z,Y,U⟩:=Hd3 (show K<=K3 by have:=HK.o;omega) (HB.o.trans a8) (a8.blk O.o hne);clear HK HN HB O;have HK:=Z;have HN:=Hd b4;have HB:=Y;have O:=U;clear b8 b4 a8 b9 Z Y U;obtain ⟨r0,r1,r2,r3,r4,r5,r6⟩:=O.o.qs7;have rf:=O.o.frozen;have rz:=O.o.lt;go_wp2;refine bodyPost_ret (v:=.agg #[.I 3,.string ⟨#[]⟩,.I 0,.I 0,.I (d3:Int),.slice none 0 0,.slice none 0 0]) Di rfl ⟨⟨3,⟨#[]⟩,0,0,(d3:Int),[],[]⟩,K3,rfl,CHA AA AA,⟨rfl,rfl,E6⟩,HK.o,?_,?_⟩
  ·exact E9
  ·exact FG
 ·have e7:((d2:Int)==7)=false:=AI;obtain ⟨r0,r1,r2,r3,r4,r5,r6⟩:=O.o.qs7;have rf:=O.o.frozen;have rz:=O.o.lt;go_wp2;refine bodyPost_ret (v:=.agg #[.I 3,.string ⟨#[]⟩,.I 0,.I 0,.I (738000+(d1:Int)),.slice none 0 0,.slice none 0 0]) Di rfl ⟨⟨3,⟨#[]⟩,0,0,(738000+(d1:Int)),[],[]⟩,K2,rfl,CHA AA AA,⟨rfl,rfl,E6⟩,HK.o,?_,?_⟩
  ·exact E9
  ·exact FG

theorem W7(g:Nat)(A:OA)(l:List Int)(c K:Nat)(w:World)(h:NSt w g A l c K):Cl 30 #[.pointer (some ⟨g,0,none⟩),.I 4] w (WF w g A l c K):=by
 have hgw:=h.1.1.lt;have hne:w.heap.size≠g:=AA;obtain ⟨HN,HB,O,HK,HD⟩:=Hd5 (h.ext ((Ext.refl w).alloc (.cells Vz 40))) (H7A (g:=g) ((Ext.refl w).alloc (.cells Vz 40))) (Blk.new w 40 Vz) (Nat.le_refl K) (TxR.data h);clear h
 go_enter func30,ntmps30
 go_wp2_with fail
 refine (Bb 2 g A l c K _ AA AA HN.o).mono ?_;rintro e1 w1 ⟨d1,K1,rfl,b4,b0,Y,U,b3⟩;obtain ⟨a9,a8,Z⟩:=Hd3 (show K<=K1 by have:=HK.o;omega) (HB.o.trans U) (U.blk O.o hne);clear HK HN HB O;have HK:=a9;have HN:=Hd Y;have HB:=a8;have O:=Z;clear b0 Y U b3 a9 a8 Z;obtain ⟨r0,r1,r2,r3,r4,r5,r6⟩:=O.o.qs7;have rf:=O.o.frozen;have rz:=O.o.lt;go_wp2;refine bodyPost_ret (v:=.agg #[.I 4,.string ⟨#[]⟩,.I 0,.I 0,.I (d1:Int),.slice none 0 0,.slice none 0 0]) Di rfl ⟨⟨4,⟨#[]⟩,0,0,(d1:Int),[],[]⟩,K1,rfl,FYA AA AA,⟨rfl,rfl,E6⟩,HK.o,?_,?_⟩
 ·exact E9
 ·exact FG

theorem Wv(kind:Int)(g:Nat)(A:OA)(l:List Int)(c K:Nat)(w:World)(h:NSt w g A l c K)(k1:(kind==1)=false)(k2:(kind==2)=false)(k3:(kind==3)=false)(k4:(kind==4)=false)(k5:(kind==5)=false):Cl 30 #[.pointer (some ⟨g,0,none⟩),.I kind] w (WF w g A l c K):=by
 have hgw:=h.1.1.lt;have hne:w.heap.size≠g:=AA;obtain ⟨HN,HB,O,HK,HD⟩:=Hd5 (h.ext ((Ext.refl w).alloc (.cells Vz 40))) (H7A (g:=g) ((Ext.refl w).alloc (.cells Vz 40))) (Blk.new w 40 Vz) (Nat.le_refl K) (TxR.data h);clear h
 go_enter func30,ntmps30
 go_wp2_with fail
 refine (Bb 100 g A l c K _ AA AA HN.o).mono ?_;rintro e1 w1 ⟨d1,K1,rfl,b4,b0,Y,U,b3⟩;obtain ⟨a9,a8,Z⟩:=Hd3 (show K<=K1 by have:=HK.o;omega) (HB.o.trans U) (U.blk O.o hne);clear HK HN HB O;have HK:=a9;have HN:=Hd Y;have HB:=a8;have O:=Z;clear b0 Y U b3 a9 a8 Z;obtain ⟨r0,r1,r2,r3,r4,r5,r6⟩:=O.o.qs7;have rf:=O.o.frozen;have rz:=O.o.lt;go_wp2;refine bodyPost_ret (v:=.agg #[.I 0,.string ⟨#[]⟩,.I 0,.I 0,.I (d1:Int),.slice none 0 0,.slice none 0 0]) Di rfl ⟨⟨0,⟨#[]⟩,0,0,(d1:Int),[],[]⟩,K1,rfl,FZA AA AA,⟨rfl,rfl,E6⟩,HK.o,?_,?_⟩
 ·exact E9
 ·exact FG

theorem JW(kind:Int)(g:Nat)(A:OA)(l:List Int)(c K:Nat)(w:World)(h:NSt w g A l c K)(hk:kind≠5):Cl 30 #[.pointer (some ⟨g,0,none⟩),.I kind] w (WF w g A l c K):=by
 by_cases h1:kind=1
 ·subst h1;exact Wz g A l c K w h
 by_cases h2:kind=2
 ·subst h2;exact XJ g A l c K w h
 by_cases h3:kind=3
 ·subst h3;exact XK g A l c K w h
 by_cases h4:kind=4
 ·subst h4;exact W7 g A l c K w h
 exact Wv kind g A l c K w h CE Dj (by simpa using h3) (by simpa using h4) Br

def ZaS(v:Value)(m:Nat):Prop:=∃ s:BA,v=.string s/\s.size<=m
def ZaH(v:Value):Prop:=∃ s:Sh,v=(Sq s)/\ShN 1000 s
theorem EuA:(prog.info? 26).map (·.size)=some 5:=by kernel_rfl
def ZaB(g5 k5:Nat)(J:World):Prop:=∃ r:Nat,Blk J g5 26 #[.I (k5:Int),.I (r:Int),.I 110,.string ⟨#[]⟩,.string ⟨#[]⟩]
def ZaI(v:Value)(m:Nat):Prop:=∃ r:Nat,v=.I (r:Int)/\r<m
def ZaJ(g5:Nat)(w0 wx:World):Prop:=∃ s:Sh,ShN 100 s/\Blk wx g5 26 (Sp s)/\Ext w0 wx
def ZaQ(g3:Nat)(wx:World):Prop:=∃ ns:List Int,ns.length=6/\Blk wx g3 100 (ns.map (Value.int .i64)).toArray
theorem ZaQ.six{g3:Nat}{wx:World}(h:ZaQ g3 wx):∃ c0 c1 c2 c3 c4 c5:Int,Blk wx g3 100 #[.I c0,.I c1,.I c2,.I c3,.I c4,.I c5]:=by
 obtain ⟨ns,hl,hb⟩:=h
 match ns,hl,hb with
 |[a,b,c,d,e,f],_,hb=>exact ⟨a,b,c,d,e,f,hb⟩
def GtA(w:World)(e:Ending)(J:World):Prop:=∃ s:Sh,ShN 1000 s/\e=.returned (Sq s)/\Ext w J
theorem Wl(h:qP:=by
 go_wp2
 go_meet
 case rel=>exact ⟨⟨ns,HNS.o,HB3.o⟩,HX.o⟩):qP:=h
theorem R9(h:qP:=by
 have hk:=hN.o.key (k:=1007) (by decide);have hxx:=hR.o.ext0 (λm b _ hm=>by rw [hm.1];exact hk);have m0:J.cell? ⟨g5,0,none⟩=some (.I (k5:Int)):=(HB5.o.keep (hxx.kept _)).q0;have m1:J.cell? ⟨g3,1,none⟩=some (.I c1):=(HB3.o.keep (hxx.kept _)).q1;clear hxx hk;exact Qk):qP:=h
theorem T3(h:qP:=by
 rintro e1 w3 ⟨s,he,hs,hx⟩;exact ⟨_,he,F,H4A _ F hx,λ_ _ _ h=>h,s,rfl,hs⟩):qP:=h
theorem Td(h:qP:=by
 go_wp2
 go_meet
 case rel=>exact ⟨⟨⟨k5,r,110,⟨#[]⟩,⟨#[]⟩⟩,⟨AN,AN⟩,HB7.o,HX7.o⟩,HX7.o,HB37.o⟩):qP:=h
theorem LI(h:qP:=by rw [hm.1];exact hk):qP:=h
theorem D6A(l:List Int)(A:OA)(c:Nat)(w:World)(S:NP)(hl:IntsL w S A l):Cl 29 #[.slice A l.length c] w (GtA w):=by
 obtain ⟨w0,hw0⟩:=eqx (w.alloc (.cells #[.I 0,.I 0,.I 0,.string ⟨#[]⟩,.string ⟨#[]⟩] 26));obtain ⟨g2,hg2⟩:=eqx w.heap.size;have HX0:=Hd (show Ext w w0 by rw [hw0];exact (Ext.refl w).alloc _);have HB2:=Hd (show Blk w0 g2 26 #[.I 0,.I 0,.I 0,.string ⟨#[]⟩,.string ⟨#[]⟩] by rw [hw0,hg2];exact Blk.new _ _ _);obtain ⟨w1,hw1⟩:=eqx (w0.alloc (.cells #[.I 0,.I 0,.I 0,.I 0,.I 0,.I 0] 100));obtain ⟨g3,hg3⟩:=eqx (w.heap.size+1);have b7:g3=w0.heap.size:=(by rw [hg3,hw0];simp);obtain ⟨HX1,HB31,HL0⟩:=Hd3 (show Ext w0 w1 by rw [hw1];exact (Ext.refl w0).alloc _) (show Blk w1 g3 100 #[.I 0,.I 0,.I 0,.I 0,.I 0,.I 0] by rw [hw1,b7];exact Blk.new _ _ _) ((hl.mono (T:=λb=>b<w.heap.size) λi hi _=>hi).keep (HX0.o.kept _));obtain ⟨HL,HW1,HG2,HG3,HG30⟩:=Hd5 ((hl.mono (T:=λb=>b<w.heap.size) λi hi _=>hi).keep ((HX0.o.trans HX1.o).kept _)) (show w1=(w.alloc (.cells #[.I 0,.I 0,.I 0,.string ⟨#[]⟩,.string ⟨#[]⟩] 26)).alloc (.cells #[.I 0,.I 0,.I 0,.I 0,.I 0,.I 0] 100) by rw [hw1,hw0]) hg2 hg3 b7;have hg3l:w0.heap.size<=g3:=AA;have hll:=hl.2;clear hw0 hw1 hg2 hg3 b7 hl
 go_enter func29,ntmps29
 go_upto_region 2 with fail
 rw [<-HW1.o,<-HG3.o,<-HG2.o]
 go_upto_block 0 with fail
 go_cut [] (λwx=>ZaQ g3 wx/\Ext w0 wx)
 case first =>
  go_wp2
  go_loopw [4] (λi wr=>∃ k:Nat,k<=6/\i=.I k/\ZaQ g3 wr/\Ext w0 wr) (λi _=>6-(intOf i).toNat)
  case atStart=>exact ⟨0,AA,rfl,⟨[0,0,0,0,0,0],rfl,HB31.o⟩,HX1.o⟩
  case round =>
   obtain ⟨k,hk,rfl,⟨ns,hns,U⟩,hx⟩:=hrel;obtain ⟨HB3,HX,HNS⟩:=Hd3 U hx hns;by_cases hlt:k<6
   ·by_cases hlk:k<l.length
    ·obtain ⟨b,o,rfl,hbw,hc⟩:=(HL0.o.keep (hx.kept _)).at_ hlk;have q0:=U.cell (i:=k) (u:=.I (ns.getD k 0)) (by simp [List.getD,List.getElem?_eq_getElem (show k<ns.length by omega)]);have qf:=HB3.o.frozen;have ql:=HB3.o.lt;obtain ⟨lk,hlk'⟩:=eqx (l[k]);rw [<-hlk'] at hc;clear hx hns U hlk';go_wp2;go_roundw
     case rel =>
      refine ⟨k+1,AA,AE,⟨ns.set k lk,by rw [List.length_set];exact HNS.o,?_⟩,HX.o.set2 hg3l _⟩;have hb:=HB3.o.set k (.I lk)
      simpa [List.map_set] using hb
     case measure=>simp [intOf];omega
    ·clear hx U hns;exact Wl
   ·clear hx U hns;have hk6:k=6:=AA;subst hk6;exact Wl
 case rest =>
 obtain ⟨w2,rfl⟩:=eqx wc;obtain ⟨hq6,hx2⟩:=hcut;obtain ⟨c0,c1,c2,c3,c4,c5,U⟩:=hq6.six;clear hq6;obtain ⟨HB32,HX2,HM5,HM6,HM7,b5,HWD⟩:=Hd7 U hx2 (show ∀ J,Cl 86 #[.I c0,.I 5] J (Uq J 5) from λJ=>Qu c0 5 AB AB J) (show ∀ J,Cl 86 #[.I c1,.I 6] J (Uq J 6) from λJ=>Qu c1 6 AB AB J) (show ∀ J,Cl 86 #[.I c5,.I 7] J (Uq J 7) from λJ=>Qu c5 7 AB AB J) (λ(a:Int) (m:Nat) (h0:0<m) (h1:m<=1000) J=>Qu a m h0 h1 J) (λ(a:Int) J=>EGA a J);have q0:=U.q0;clear U hx2 HB31 HX1 HL HL0
 go_wp2_with fail
 refine (HM5.o _).mono ?_;rintro e1 wm ⟨k5,hk5,rfl,rfl⟩;obtain ⟨g5,hg5⟩:=eqx w2.heap.size;obtain ⟨w6,hw6⟩:=eqx (w2.alloc (.cells #[.I (k5:Int),.I 0,.I 110,.string ⟨#[]⟩,.string ⟨#[]⟩] 26));have hx6:Ext w2 w6:=(by rw [hw6];exact (Ext.refl _).alloc _);obtain ⟨HB5,HX6,O,HB3,HNE,HW6,HGG⟩:=Hd7 (show Blk w6 g5 26 #[.I (k5:Int),.I 0,.I 110,.string ⟨#[]⟩,.string ⟨#[]⟩] by rw [hw6,hg5];exact Blk.new _ _ _) (HX2.o.trans hx6) (show w0.heap.size<=g5 by rw [hg5];exact HX2.o.size) (HB32.o.keep (hx6.kept _)) (show g3≠g5 by have:=HB32.o.lt;omega) hw6 hg5;clear hw6 hg5 hx6 q0
 go_upto_region 7 with fail
 rw [<-HW6.o,<-HGG.o];refine Qa (λm b=>m=1007/\b=g5) (lk 8 [1007]) ?_;refine Qp ?_;refine Qm (λV F J L hR hN hp hρ zs zg=>by
  exact R9) ?_
 refine Qp ?_;refine Qm (λV F J L hR hN hp hρ zs zg=>by
  exact R9) ?_
 refine Qs (FP λv F J=>ZaI v 6) (H1A ?_) ?_ ?_
 ·intro v F w1 γ' w2 r h;exact h
 ·intro V F J L hR hN hp hρ zs zg;refine Qr ?_;refine (HM6.o J).mono ?_;rintro e1 w3 ⟨r,hr,he,hw⟩;subst hw;exact ⟨_,he,F,LZ.refl _ _ _,λ_ _ _ h=>h,r,rfl,hr⟩
 refine Qs (FP λv F J=>ZaI v 20) (H1A ?_) ?_ ?_
 ·intro v F w1 γ' w2 r h;exact h
 ·intro V F J L hR hN hp hρ zs zg;obtain ⟨r,hv4,hr6⟩:=hp.o 4 AB;have e31:=(hρ.o 31).trans hv4;have hkr:IntKind.i64.wrap ((k5:Int)+(r:Int))=((k5+r:Nat):Int):=Le;have HKR:=Hd hkr;clear hkr;refine Qr ?_;exact ⟨F,LZ.refl _ _ _,λ_ _ _ h=>h,k5+r,by rw [<-HKR.o];rfl,by have:=hr6;omega⟩
 refine Qp ?_;refine Qs (λ_ F J=>ZaB g5 k5 J/\F 1007=true) ?_ ?_ ?_
 ·rintro l F w1 γ' w2 rr ⟨⟨r,h1⟩,h2⟩;exact ⟨⟨r,h1.keep (rr.keptS λb _ e m hm=>MF)⟩,rr.done _ h2⟩
 ·intro V F J L hR hN hp hρ zs zg;obtain ⟨r,hv5,hr20⟩:=hp.o 5 AB;have e32:=(hρ.o 32).trans hv5;have hk:=hN.o.key (k:=1007) AB;have hb0:=HB5.o.keep (hR.o.kept0 (S:=λb=>b=g5) λb _ e m hm=>LI);have HB0:=Hd hb0;have HK:=Hd hk;have q1:=hb0.q1;have qf:=hb0.frozen;have ql:=hb0.lt;clear hb0 hk hv5;refine Qr ?_;refine ⟨F.put 1007,H2A HK.o rfl rfl rfl Y78171d3d0 (λb hb hm=>((Only.refl g5 J).set 1 (.I (r:Int))).block b λe=>hm ⟨rfl,e⟩),LK.done AB,⟨r,?_⟩,AU⟩;have hb1:=HB0.o.set 1 (.I (r:Int))
  simpa using hb1
 intro V F w7 hR hG;refine Qx ?_;obtain ⟨⟨r,hb7⟩,-⟩:=hG 7 AB;obtain ⟨HB7,HX7,HK7⟩:=Hd3 hb7 (show Ext w0 w7 from Au HX6.o (hR.buts (S:=λb=>b=g5) (λm b _ hm _=>hm.2)) (λb hb=>by rw [hb];exact O.o)) (hR.kept0 (S:=λb=>b=g3) λb _ e m hm=>absurd (e.symm.trans hm.2) HNE.o);clear hR hG hb7;have HB37:=Hd (HB3.o.keep HK7.o);have q5:=HB37.o.q5
 go_wp2_with fail
 refine (HM7.o _).mono ?_;rintro e2 wm2 ⟨m7,hm7,rfl,rfl⟩;by_cases h4:m7=4
 ·subst h4;clear q5;have HB27:=Hd (HB2.o.keep (HX7.o.kept _))
  go_upto_region 17 with fail
  refine Qa (λm b=>m=1008/\b=g2) (lk 9 [1008]) ?_;refine Qp ?_;refine Qm (λV F J L hR hN hp hρ zs zg=>by
   have hk:=hN.o.key (k:=1008) AB;have hxx:=hR.o.ext0 (λm b _ hm=>LI);have m0:J.cell? ⟨g3,3,none⟩=some (.I c3):=(HB37.o.keep (hxx.kept _)).q3;clear hxx hk;exact Qk) ?_
  refine Qs (FP λv F J=>ZaS v 10) (H1A ?_) ?_ ?_
  ·intro v F w1 γ' w2 r h;exact h
  ·intro V F J L hR hN hp hρ zs zg;refine Qr ?_;refine (HWD.o c3 J).mono ?_;exact T3
  refine Qp ?_;refine Qm (λV F J L hR hN hp hρ zs zg=>by
   have hk:=hN.o.key (k:=1008) AB;have hxx:=hR.o.ext0 (λm b _ hm=>LI);have m0:J.cell? ⟨g3,4,none⟩=some (.I c4):=(HB37.o.keep (hxx.kept _)).q4;clear hxx hk;exact Qk) ?_
  refine Qs (FP λv F J=>ZaS v 10) (H1A ?_) ?_ ?_
  ·intro v F w1 γ' w2 r h;exact h
  ·intro V F J L hR hN hp hρ zs zg;refine Qr ?_;refine (HWD.o c4 J).mono ?_;exact T3
  refine Qs (FP λv F J=>ZaS v 20) (H1A ?_) ?_ ?_
  ·intro v F w1 γ' w2 r h;exact h
  ·intro V F J L hR hN hp hρ zs zg;obtain ⟨s,hv2,hs2⟩:=hp.o 2 AB;have e61:=(hρ.o 61).trans hv2;obtain ⟨s',hv5,hs5⟩:=hp.o 5 AB;have e64:=(hρ.o 64).trans hv5;have hsz:¬(9223372036854775807<s.size+s'.size):=AA;have HSS:=Hd (show (s++s').size<=20 by rw [ByteArray.size_append];omega);refine Qr ?_;exact ⟨F,LZ.refl _ _ _,λ_ _ _ h=>h,s++s',rfl,HSS.o⟩
  refine Qs (FP λv F J=>ZaH v) (H1A ?_) ?_ ?_
  ·intro v F w1 γ' w2 r h;exact h
  ·intro V F J L hR hN hp hρ zs zg;obtain ⟨s6,hv6,hs6⟩:=hp.o 6 AB;have e65:=(hρ.o 65).trans hv6;have HSS:=Hd hs6;refine Qr ?_;refine (DOA s6 (by have:=HSS.o;omega) J).mono ?_;rintro e1 w3 ⟨he,hx⟩;exact ⟨_,he,F,H4A _ F hx,λ_ _ _ h=>h,ofS s6,rfl,⟨Nat.le_trans (YT s6).1 AB,Nat.le_trans (YT s6).2 AB⟩⟩
  refine Chain.step (λ_ F J=>∃ s:Sh,ShN 1000 s/\Blk J g2 26 (Sp s)/\F 1008=true) AG ?_ ?_ ?_
  ·rintro l F w1 γ' w2 rr ⟨s,h0,h1,h2⟩;exact ⟨s,h0,h1.keep (rr.keptS λb _ e m hm=>MF),rr.done _ h2⟩
  ·intro V F J L hR hN hp hρ hc hf hg;refine ⟨rfl,?_⟩;have e2:=hρ 2;(conv at e2=>rhs;whnf);obtain ⟨s,hv7,Y⟩:=hp 7 AB;have e66:=(hρ 66).trans hv7;have hk:=hN.key (k:=1008) AB;have hb0:=HB27.o.keep (hR.kept0 (S:=λb=>b=g2) λb _ e m hm=>LI);refine BY 26 rfl e2 e66 hb0 EuA rfl AD ?_;intro w4 hb4 ho4;exact ⟨F.put 1008,H2A hk ho4.os ho4.tape ho4.output (Nat.le_of_eq ho4.size.symm) (λb hb hm=>ho4.block b λe=>hm ⟨rfl,e⟩),LK.done AB,s,Y,hb4,AU⟩
  intro V F w8 hR hG;refine Qx ?_;obtain ⟨s,Y,b6,-⟩:=hG 8 AB;obtain ⟨s0,s1,s2,s3,s4⟩:=b6.qs5;have HSN:=Hd Y;have HXF:=Hd (show Ext w w8 from Au (HX0.o.trans HX7.o) (hR.buts (S:=λb=>b=g2) (λm b _ hm _=>hm.2)) (λb hb=>Bq));clear hR hG b6 Y;go_wp2;refine bodyPost_ret (v:=(Sq s)) (by simp [results,results29,go_sem,s0,s1,s2,s3,s4]) rfl ⟨s,HSN.o,rfl,HXF.o⟩
 ·have hm6:m7=0\/m7=1\/m7=2\/m7=3\/m7=5\/m7=6:=AA;clear q5 h4;have hr7:=HB7.o.lt
  go_upto_block 2 with fail
  go_cut [] (λwx=>ZaJ g5 w0 wx/\Ext w0 wx/\Blk wx g3 100 #[.I c0,.I c1,.I c2,.I c3,.I c4,.I c5])
  case first =>
   obtain ⟨q0,q1,q2⟩:=HB37.o.qs3;obtain ⟨s0,s1,s2⟩:=HB7.o.qs3;have sf:=HB7.o.frozen;have sl:=HB7.o.lt
   rcases hm6 with rfl|rfl|rfl|rfl|rfl|rfl
   ·exact Td
   ·go_wp2
    go_meet
    case rel =>
     have hx:=HX7.o.set2 (i:=2) O.o (.I c2);exact ⟨⟨⟨k5,r,c2,⟨#[]⟩,⟨#[]⟩⟩,⟨AN,AN⟩,by simpa using HB7.o.set 2 (.I c2),hx⟩,hx,HB37.o.keep ((Kept.refl _ _).set2 (λe=>HNE.o e.symm))⟩
   ·go_wp2
    go_meet
    case rel =>
     have hx:=HX7.o.set2 (i:=1) O.o (.I 200);exact ⟨⟨⟨k5,200,110,⟨#[]⟩,⟨#[]⟩⟩,⟨AN,AN⟩,by simpa using HB7.o.set 1 (.I 200),hx⟩,hx,HB37.o.keep ((Kept.refl _ _).set2 (λe=>HNE.o e.symm))⟩
   ·go_wp2_with fail
    refine (b5.o c0 210 AB AB _).mono ?_;rintro e3 wm3 ⟨t1,ht1,rfl,rfl⟩
    go_upto_region 15 with fail
    obtain ⟨a1,ha1⟩:∃ z:Int,z=(t1:Int)-3:=⟨_,rfl⟩;obtain ⟨w8,a9⟩:=eqx (w7.setCell ⟨g5,0,none⟩ (.I ((t1:Int)-3)));rw [<-a9];have hx8:Ext w0 w8:=(by rw [a9];exact HX7.o.set2 O.o _);have b6:Blk w8 g5 26 #[.I a1,.I (r:Int),.I 110,.string ⟨#[]⟩,.string ⟨#[]⟩]:=(by rw [a9,ha1];simpa using HB7.o.set 0 (.I ((t1:Int)-3)));have hb38:=HB37.o.keep (show Kept _ w7 w8 by rw [a9];exact (Kept.refl _ _).set2 (λe=>HNE.o e.symm));obtain ⟨HX8,HB8,HB38⟩:=Hd3 hx8 b6 hb38;clear a9 hx8 b6 hb38 q0 q1 q2 s0 s1 s2 sf sl ha1;have q1:=HB38.o.q1
    go_wp2_with fail
    refine (b5.o c1 210 AB AB _).mono ?_;rintro e4 wm4 ⟨t2,ht2,rfl,rfl⟩;have s1:=HB8.o.q1;have sf:=HB8.o.frozen;have sl:=HB8.o.lt;go_wp2
    go_meet
    case rel =>
     have hx:=HX8.o.set2 (i:=1) O.o (.I ((t2:Int)-3));exact ⟨⟨⟨a1,(t2:Int)-3,110,⟨#[]⟩,⟨#[]⟩⟩,⟨AN,AN⟩,by simpa using HB8.o.set 1 (.I ((t2:Int)-3)),hx⟩,hx,HB38.o.keep ((Kept.refl _ _).set2 (λe=>HNE.o e.symm))⟩
   ·go_wp2_with fail
    refine (b5.o c2 128 AB AB _).mono ?_;rintro e3 wm3 ⟨t1,ht1,rfl,rfl⟩;go_wp2
    go_meet
    case rel =>
     have hx:=HX7.o.set2 (i:=2) O.o (.I (t1:Int));exact ⟨⟨⟨k5,r,t1,⟨#[]⟩,⟨#[]⟩⟩,⟨AN,AN⟩,by simpa using HB7.o.set 2 (.I (t1:Int)),hx⟩,hx,HB37.o.keep ((Kept.refl _ _).set2 (λe=>HNE.o e.symm))⟩
   ·exact Td
  case rest =>
  obtain ⟨w9,rfl⟩:=eqx wc;obtain ⟨⟨s,Y,hb9,Z⟩,-,hb39⟩:=hcut;obtain ⟨HSN,HB9,HX9,HB39⟩:=Hd4 Y hb9 Z hb39;clear Y hb9 Z hb39 hm6;have q3:=HB39.o.q3
  go_wp2_with fail
  refine (HWD.o c3 _).mono ?_;rintro e3 wa ⟨sb,rfl,hsb,hxa⟩;obtain ⟨HSB,HXA,a8,HB3A⟩:=Hd4 hsb (HX9.o.trans hxa) (HB9.o.keep (hxa.kept _)) (HB39.o.keep (hxa.kept _));clear hxa hsb q3;have s3:=a8.o.q3;have sf:=a8.o.frozen;have sl:=a8.o.lt
  go_upto_region 21 with fail
  obtain ⟨wb,hwb⟩:=eqx (wa.setCell ⟨g5,3,none⟩ (.string sb));rw [<-hwb];have hxb:Ext w0 wb:=(by rw [hwb];exact HXA.o.set2 O.o _);have hbb:Blk wb g5 26 #[.I s.least,.I s.most,.I s.cls,.string sb,.string s.e]:=(by rw [hwb];simpa using a8.o.set 3 (.string sb));have hb3b:=HB3A.o.keep (show Kept _ wa wb by rw [hwb];exact (Kept.refl _ _).set2 (λe=>HNE.o e.symm));obtain ⟨HXB,HBB,HB3B⟩:=Hd3 hxb hbb hb3b;clear hwb hxb hbb hb3b s3 sf sl;have q4:=HB3B.o.q4
  go_wp2_with fail
  refine (HWD.o c4 _).mono ?_;rintro e4 wd ⟨se,rfl,hse,hxd⟩;obtain ⟨HSE,HXD,HBD,HB3D⟩:=Hd4 hse (HXB.o.trans hxd) (HBB.o.keep (hxd.kept _)) (HB3B.o.keep (hxd.kept _));clear hxd hse q4;have s4:=HBD.o.q4;have sf:=HBD.o.frozen;have sl:=HBD.o.lt
  go_upto_region 22 with fail
  obtain ⟨we,b4⟩:=eqx (wd.setCell ⟨g5,4,none⟩ (.string se));rw [<-b4];have hxe:Ext w0 we:=(by rw [b4];exact HXD.o.set2 O.o _);have hbe:Blk we g5 26 #[.I s.least,.I s.most,.I s.cls,.string sb,.string se]:=(by rw [b4];simpa using HBD.o.set 4 (.string se));have hb3e:=HB3D.o.keep (show Kept _ wd we by rw [b4];exact (Kept.refl _ _).set2 (λe=>HNE.o e.symm));obtain ⟨HXE,b3,HB3E⟩:=Hd3 hxe hbe hb3e;clear b4 hxe hbe hb3e s4 sf sl;have q2:=HB3E.o.q2
  go_wp2_with fail
  refine (b5.o c2 3 AB AB _).mono ?_;rintro e5 wm5 ⟨t3,ht3,rfl,rfl⟩;clear q2
  go_upto_if 84 with fail
  go_cut [] (λwx=>ZaJ g5 w0 wx/\Blk wx g3 100 #[.I c0,.I c1,.I c2,.I c3,.I c4,.I c5])
  case first =>
   have s3:=b3.o.q3;have sf:=b3.o.frozen;have sl:=b3.o.lt;by_cases h0:t3=0
   ·subst h0;go_wp2
    go_meet
    case rel=>exact ⟨⟨⟨s.least,s.most,s.cls,⟨#[]⟩,se⟩,⟨AN,by have:=HSE.o;show se.size<=100;omega⟩,by simpa using b3.o.set 3 (.string ⟨#[]⟩),HXE.o.set2 O.o _⟩,HB3E.o.keep ((Kept.refl _ _).set2 (λe=>HNE.o e.symm))⟩
   ·have hz:((t3:Int)==0)=false:=AI;have hz2:¬((t3:Int)=0):=AA;go_wp2
    go_meet
    case rel=>exact ⟨⟨⟨s.least,s.most,s.cls,sb,se⟩,⟨by have:=HSB.o;show sb.size<=100;omega,by have:=HSE.o;show se.size<=100;omega⟩,b3.o,HXE.o⟩,HB3E.o⟩
  case rest =>
  obtain ⟨wg,rfl⟩:=eqx wc;obtain ⟨⟨s2,hsn2,hbg,hxg⟩,hb3g⟩:=hcut;obtain ⟨HSN2,b0,HXG⟩:=Hd3 hsn2 hbg hxg;clear hsn2 hbg hxg;have q2:=hb3g.q2;clear hb3g
  go_wp2_with fail
  refine (b5.o c2 5 AB AB _).mono ?_;rintro e6 wm6 ⟨t4,ht4,rfl,rfl⟩;clear q2
  go_upto_if 89 with fail
  go_cut [] (λwx=>ZaJ g5 w0 wx)
  case first =>
   have s4:=b0.o.q4;have sf:=b0.o.frozen;have sl:=b0.o.lt;by_cases h0:t4<2
   ·have h1:(t4:Int)<2:=AA;go_wp2
    go_meet
    case rel=>exact ⟨⟨s2.least,s2.most,s2.cls,s2.b,⟨#[]⟩⟩,⟨HSN2.o.1,AN⟩,by simpa using b0.o.set 4 (.string ⟨#[]⟩),HXG.o.set2 O.o _⟩
   ·have h1:¬((t4:Int)<2):=AA;go_wp2
    go_meet
    case rel=>exact ⟨s2,HSN2.o,b0.o,HXG.o⟩
  case rest =>
  obtain ⟨wh,rfl⟩:=eqx wc;obtain ⟨s9,hsn9,hb9,Z⟩:=hcut;have HSN9:=Hd hsn9;have HX9':=Hd (HX0.o.trans Z);have hb2:=HB2.o.keep (Z.kept _);have hgw:w.heap.size<=g2:=Bq;obtain ⟨r0,r1,r2,r3,r4⟩:=hb9.qs5;obtain ⟨u0,u1,u2,u3,u4⟩:=hb2.qs5;have uf:=hb2.frozen;have ul:=hb2.lt;clear hb9 Z hb2 hsn9;go_wp2;refine bodyPost_ret (v:=(Sq s9)) (by simp [results,results29,go_sem,u0,u1,u2,u3,u4]) rfl ⟨s9,⟨Nat.le_trans HSN9.o.1 AB,Nat.le_trans HSN9.o.2 AB⟩,rfl,?_⟩
  iterate 5 with_reducible refine Ext.set2 ?_ hgw _
  with_reducible exact HX9'.out
