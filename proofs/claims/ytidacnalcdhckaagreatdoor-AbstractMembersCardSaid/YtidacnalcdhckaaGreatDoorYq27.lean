/- Lemmas. No conditions. -/
import Derived.Test.YtidacnalcdhckaaGreatDoorYq10
set_option maxRecDepth 100000
set_option maxHeartbeats 2000000
namespace Go.Proofs.YtidacnalcdhckaaGreatDoor
open Go Go.RowKit Tryz
variable {qP:Prop}{A:OA}{K c g:Nat}{l xs:List Int}{n:Int}{w w':World}

def HJA(w:World)(g:Nat)(A:OA)(len c:Nat)(n:Int)(K:Nat)(e:Ending)(w':World):Prop:=∃ (r:Int) (K':Nat),e=.returned (.I r)/\0<=r/\r<n/\((K<len/\K'=K+1)\/(len<=K/\K'=K/\r=0))/\NumIs w' g A len c K'/\Only g w w'
theorem WD(n:Int)(g:Nat)(A:OA)(l:List Int)(c K:Nat)(w:World)(S:NP)(hn1:1<=n)(hn2:n<=4000000000000000)(hm:NumIs w g A l.length c K)(hl:IntsL w S A l)(hS:¬S g) :
  Cl 36 #[.pointer (some ⟨g,0,none⟩),.I n] w (HJA w g A l.length c n K):=by
 have hlen:=hl.2;have hK:=hm.2;obtain ⟨Z,k1⟩:=hm.1.qs2;have kf:=hm.1.frozen;have kz:=hm.1.lt;have HM:=Hd hm;have HL:=Hd hl;clear hm hl;by_cases hlt:K<l.length
 ·obtain ⟨b,o,rfl,hb,hc⟩:=HL.o.at_ hlt;have hbg:b≠g:=by
   rcases HL.o.1 with h|⟨b',o',h1,h2,_⟩
   ·rw [List.map_eq_nil_iff] at h;subst h;simp at hlt
   ·injection h1 with h1;injection h1 with h1;subst h1;rintro rfl;exact hS h2
  have U:decide (l.length<=K)=false:=(by simpa using hlt);have hnn:decide (n<1)=false:=(by simpa using hn1);obtain ⟨r1,r2⟩:=FyA l[K] n hn1;obtain ⟨b1,b2⟩:=BzA l[K] n hn1
  go_enter func36,ntmps36
  go_wp2
  go_quiet (fail)
  go_wp2;obtain ⟨w2,O⟩:=eqx ((w.drewN nq).setCell ⟨g,1,none⟩ (.I ((K:Int)+1)));rw [<-O];have ho:Only g w w2:=(by rw [O];exact ((Only.refl g w).drewN nq).set _ _);have hb2:Blk w2 g 65 #[.slice (some ⟨b,o,none⟩) l.length c,.I ((K:Int)+1)]:=by
   rw [O];exact (HM.o.1.keep (Kept.drewN _ _ _)).set 1 _
  have hc2:w2.cell? ⟨b,o+K,none⟩=some (.I l[K]):=(World.cell?_of_block (w:=w) (ho.block b hbg)).trans hc;clear O Z k1 kf hc;obtain ⟨Z,k1⟩:=hb2.qs2;have HO:=Hd ho;have HB2:=Hd hb2;clear ho hb2 HM HL;have q1:IntKind.i64.wrap ((K:Int)+1-1)=(K:Int):=(by rw [IntWalk.i64_in _ AA];omega);have q2:(0:Int)<=(K:Int):=AA;have q3:(K:Int)<(l.length:Int):=AA;have q4:IntKind.i64.wrap (l[K].tmod n)=l[K].tmod n:=IntWalk.i64_in _ AA;have q5:IntKind.i64.wrap (l[K].tmod n+n)=l[K].tmod n+n:=IntWalk.i64_in _ AA;have q6:IntKind.i64.wrap ((l[K].tmod n+n).tmod n)=(l[K].tmod n+n).tmod n:=IntWalk.i64_in _ AA;have q7:(n==0)=false:=AI
  go_quiet (fail)
  go_wp2;go_ret;refine ⟨_,K+1,rfl,Int.emod_nonneg _ AA,Int.emod_lt_of_pos _ AA,.inl ⟨AA,rfl⟩,⟨?_,AA⟩,HO.o.drewN _⟩;have:=λm=>HB2.o.keep (w':=w2.drewN m) (Kept.drewN _ _ _);rw [show (((K+1:Nat)):Int)=(K:Int)+1 by omega];exact this _
 ·have U:decide (l.length<=K)=true:=(by simpa using hlt);have Y:=Hd (show l.length<=K by omega);clear hlt
  go_enter func36,ntmps36
  go_wp2
  go_quiet (fail)
  go_wp2;go_ret;exact ⟨0,K,rfl,Int.le_refl _,AA,.inr ⟨Y.o,rfl,rfl⟩,HM.o.keep (Kept.drewN _ _ _),(Only.refl g w).drewN _⟩

def NSt(w:World)(g:Nat)(A:OA)(l:List Int)(c K:Nat):Prop:=NumIs w g A l.length c K/\∃ S:Nat->Prop,¬S g/\IntsL w S A l
theorem NSt.ext(h:NSt w g A l c K)(hx:Ext w w'):NSt w' g A l c K:=by
 obtain ⟨h1,S,h2,h3⟩:=h;exact ⟨h1.keep (hx.kept _),S,h2,h3.keep (hx.kept _)⟩
theorem SF(h:qP:=by
 subst hl;exact ⟨λ_=>False,λh=>h,.inl rfl,h3.2⟩):qP:=h
theorem NSt.grown(h:NSt w g A l c K){row:Option Nat}(hg:w.grownBy w' row)(hr:∀ k,row=some k->k≠g)(hd:∀ k,row=some k->∀ b o,A=some ⟨b,o,none⟩->l≠[]->k≠b):NSt w' g A l c K:=by
 obtain ⟨h1,S,h2,h3⟩:=h;refine ⟨h1.keep (Kept.of_grown hg λb hb _ e=>hr b e.symm hb),?_⟩
 rcases h3.1 with h4|⟨b,o,hA,hb,hlt,hc⟩
 ·exact ⟨λ_=>False,λh=>h,.inl h4,h3.2⟩
 ·by_cases hl:l=[]
  ·exact SF
  ·refine ⟨λx=>x=b,λe=>h2 (e ▸ hb),?_⟩;have h5:IntsL w (λx=>x=b) A l:=⟨.inr ⟨b,o,hA,rfl,hlt,hc⟩,h3.2⟩;exact h5.keep (Kept.of_grown hg λx hx _ e=>hd x e.symm b o hA hl hx)
def RetR(w:World)(g:Nat)(A:OA)(l:List Int)(c:Nat)(n:Int)(K:Nat)(e:Ending)(w':World):Prop:=∃ (r K':Nat),e=.returned (.I (r:Int))/\(r:Int)<n/\((K<l.length/\K'=K+1)\/(l.length<=K/\K'=K/\r=0))/\NSt w' g A l c K'/\But g w w'/\w'.heap.size=w.heap.size
theorem Bb(n:Int)(g:Nat)(A:OA)(l:List Int)(c K:Nat)(w:World)(hn1:1<=n)(hn2:n<=4000000000000000)(h:NSt w g A l c K) :
  Cl 36 #[.pointer (some ⟨g,0,none⟩),.I n] w (RetR w g A l c n K):=by
 obtain ⟨h1,S,h2,h3⟩:=h;refine (WD n g A l c K w S hn1 hn2 h1 h3 h2).mono ?_;rintro e w' ⟨r,K',he,O,U,hK,hN,ho⟩;refine ⟨r.toNat,K',by rw [he];congr 2;omega,AA,?_,⟨hN,S,h2,h3.keep (ho.kept λb _ hb e=>h2 (e ▸ hb))⟩,But.of_only ho,ho.size⟩
 rcases hK with h|⟨h4,h5,h6⟩
 ·exact .inl h
 ·exact .inr ⟨h4,h5,AA⟩

theorem D2A{base n:Nat}(h:Own w base 5 1 A n c (xs.map (Value.int .u8)))(hn:xs.length=n){dst:Nat}(hd:prog.underlying dst=some .string) :
  (convert 85 dst (.slice A n c)).run prog w=.ok (.string (strOfNums xs)) w:=by
 rcases h.2 with ⟨hv,U⟩|⟨g,cap,cur,hv,hb,hh,O,Y,hcs,ht⟩
 ·obtain ⟨rfl,rfl⟩:A=none/\c=0:=GU;have hx:xs=[]:=List.eq_nil_of_length_eq_zero AA;subst hx;have e0:strOfNums []=ByteArray.empty:=rfl;rw [e0];exact run_convert_bytes_nil (P:=prog) w 85 5 underlying85 underlying5 n 0 dst hd
 ·obtain ⟨rfl,rfl⟩:A=some ⟨g,0,none⟩/\c=cap:=GU;refine run_convert_bytes_arg (P:=prog) w 85 5 underlying85 underlying5 g 0 n c xs hn (λi hi => ?_) dst hd;obtain ⟨b,o,hA,-,hc⟩:=(Own.rd h).at_ (k:=i) (u:=.int .u8 (xs.getD i 0)) (by
   rw [List.getElem?_map,List.getElem?_eq_getElem AA];simp [List.getD,List.getElem?_eq_getElem (show i<xs.length by omega)])
  exact Ly

def Nn:Array Value:=#[.string ⟨#[]⟩,.string ⟨#[97]⟩,.string ⟨#[98]⟩,.string ⟨#[97,98]⟩,.string ⟨#[105,116,39,115]⟩,.string ⟨#[50,48,50,52,45,48,49,45,51,49]⟩,.string ⟨#[49,50]⟩,.string ⟨#[45,51,46,53]⟩,.string ⟨#[65,124,66,44,91,99,93,59]⟩,.string ⟨#[78,111,114,116,104,32,55]⟩,.string ⟨#[120,32,121]⟩,.string ⟨#[39,39]⟩,.string ⟨#[97,98,99,97,98,99]⟩,.string ⟨#[48]⟩,.string ⟨#[55,46,50,53]⟩]
theorem C3A(w:World):Cl 171 #[] w (λe w'=>e=.returned (.slice (some ⟨w.heap.size,0,none⟩) 15 15)/\w'=w.alloc (.cells Nn 9)):=by
 go_enter func171,ntmps171
 exact Ea

theorem RetR.le{_w:World}{_g:Nat}{_A:OA}{_c:Nat}{K' r:Nat}(h:(K<l.length/\K'=K+1)\/(l.length<=K/\K'=K/\r=0)):K<=K':=by omega

structure TxR(w:World)(g:Nat)(A:OA)(l:List Int)(c K:Nat)(B j:Nat)(A':OA)(c':Nat)(xs:List Int)(wr:World):Prop where
 but:But g w wr
 low:w.heap.size<=B/\B<=wr.heap.size
 num:∃ K',K<=K'/\NSt wr g A l c K'
 own:Own wr B 5 1 A' j c' (xs.map (Value.int .u8))
 len:xs.length=j
theorem TxR.data(h:NSt w g A l c K):∀ b o,A=some ⟨b,o,none⟩->l≠[]->b<w.heap.size:=by
 obtain ⟨_,S,_,h3⟩:=h;intro b o hA hl
 rcases h3.1 with h4|⟨b',o',O,hb,hlt,hc⟩
 ·rw [List.map_eq_nil_iff] at h4;exact absurd h4 hl
 ·rw [hA] at O;injection O with O;injection O with h1 _;subst h1;exact hlt


theorem NSt.keep2{B:Nat}(h:NSt w g A l c K)(hg:g<B)(hd:∀ b o,A=some ⟨b,o,none⟩->l≠[]->b<B)(hk:Kept (λb=>b<B) w w'):NSt w' g A l c K:=by
 obtain ⟨h1,S,h2,h3⟩:=h;refine ⟨h1.keep (hk.mono λb _ e=>by subst e;exact hg),?_⟩
 rcases h3.1 with h4|⟨b,o,hA,hb,hlt,hc⟩
 ·exact ⟨λ_=>False,λh=>h,.inl h4,h3.2⟩
 ·by_cases hl:l=[]
  ·exact SF
  ·refine ⟨λx=>x=b,λe=>h2 (e ▸ hb),?_⟩;have h5:IntsL w (λx=>x=b) A l:=⟨.inr ⟨b,o,hA,rfl,hlt,hc⟩,h3.2⟩;exact h5.keep (hk.mono λx _ hx=>by subst hx;exact hd x o hA hl)

def PrnL(xs:List Int):Prop:=∀ x∈xs,32<=x/\x<=126
theorem PrnL.nil:PrnL []:=by intro x hx;cases hx
theorem P6(h:qP:=by
 intro y hy
 rcases List.mem_append.1 hy with hy|hy
 ·exact h y hy
 ·rw [List.mem_singleton.1 hy];exact ⟨h1,h2⟩):qP:=h
theorem PrnL.snoc(h:PrnL xs){x:Int}(h1:32<=x)(h2:x<=126):PrnL (xs++[x]):=by
 exact P6
theorem DnA(h:PrnL xs)(hl:xs.length<=200):Ca (strOfNums xs)=true:=by
 unfold Ca;rw [Bool.and_eq_true,decide_eq_true_eq,List.all_eq_true,strOfNums_size];refine ⟨hl,λc hc => ?_⟩;unfold bs at hc;obtain ⟨u,hu,rfl⟩:=List.mem_map.1 hc;unfold strOfNums at hu;simp only [List.mem_map] at hu;obtain ⟨x,hx,rfl⟩:=hu;obtain ⟨h1,h2⟩:=h x hx;unfold C4;rw [decide_eq_true_eq];have:(UInt8.ofNat x.toNat).toNat=x.toNat:=by
  rw [UInt8.toNat_ofNat'];omega
 rw [this];omega
theorem C5A(k:Nat)(hk:k<15):∃ t:BA,Nn[k]?=some (.string t)/\t.size<=200/\Ca t=true:=by
 match k,hk with
 |0,_=>exact ⟨_,rfl,AB,AB⟩
 |1,_=>exact ⟨_,rfl,AB,AB⟩
 |2,_=>exact ⟨_,rfl,AB,AB⟩
 |3,_=>exact ⟨_,rfl,AB,AB⟩
 |4,_=>exact ⟨_,rfl,AB,AB⟩
 |5,_=>exact ⟨_,rfl,AB,AB⟩
 |6,_=>exact ⟨_,rfl,AB,AB⟩
 |7,_=>exact ⟨_,rfl,AB,AB⟩
 |8,_=>exact ⟨_,rfl,AB,AB⟩
 |9,_=>exact ⟨_,rfl,AB,AB⟩
 |10,_=>exact ⟨_,rfl,AB,AB⟩
 |11,_=>exact ⟨_,rfl,AB,AB⟩
 |12,_=>exact ⟨_,rfl,AB,AB⟩
 |13,_=>exact ⟨_,rfl,AB,AB⟩
 |14,_=>exact ⟨_,rfl,AB,AB⟩
 |n+15,h=>omega
theorem DsA{s:BA}(h:Ca s=true):BG ⟨1,s,0,0,0,[],[]⟩=true:=by simp [BG,Cz,h]
theorem EsA{a b:Int}(h:Dz a b=true):BG ⟨2,⟨#[]⟩,a,b,0,[],[]⟩=true:=by simp [BG,Cz,h]
theorem CHA(h:0<=n)(h2:n<=3652058):BG ⟨3,⟨#[]⟩,0,0,n,[],[]⟩=true:=by simp [BG,Cz,h,h2]
theorem FYA(h:0<=n)(h2:n<2):BG ⟨4,⟨#[]⟩,0,0,n,[],[]⟩=true:=by
 have:n=0\/n=1:=AA;simp [BG,Cz,this]
theorem FZA(h:0<=n)(h2:n<100):BG ⟨0,⟨#[]⟩,0,0,n,[],[]⟩=true:=by
 have:n<=99:=AA;simp [BG,Cz,this,h]
theorem WJ:∀ (s n:Nat),(F0 s n).2=0\/(F0 s n).1 % 10≠0
 |0,_=>.inl rfl
 |s+1,n=>by
  unfold F0;split
  ·exact WJ s (n / 10)
  ·rename_i h;exact .inr h
theorem EzA(neg:Bool)(n s:Nat):Dz (KF neg n s).1.1 (KF neg n s).1.2=true:=by
 unfold KF;have hd:=WJ s n;generalize F0 s n=p at hd|-;split
 ·rename_i h;unfold Dz Fx;simp only [Bool.and_eq_true,decide_eq_true_eq];have ht:∀ m:Nat,((m:Int)).tmod 10=((m % 10:Nat):Int):=λm=>by rw [Int.tmod_eq_emod_of_nonneg AA];omega
  cases neg
  ·refine ⟨⟨by constructor<;>(try dsimp only)<;>omega,by constructor<;>simp<;>omega⟩,?_⟩
   rcases hd with h0|h0
   ·left;(try dsimp only);omega
   ·right;simp only [Bool.false_eq_true,if_false];rw [ht];omega
  ·refine ⟨⟨by constructor<;>(try dsimp only)<;>omega,by constructor<;>simp<;>omega⟩,?_⟩
   rcases hd with h0|h0
   ·left;(try dsimp only);omega
   ·right;simp only [if_true];rw [Int.neg_tmod,ht];omega
 ·decide
def GPA(w:World)(g:Nat)(A:OA)(l:List Int)(c:Nat)(K:Nat)(e:Ending)(w':World):Prop:=∃ (s:BA) (K':Nat),e=.returned (.string s)/\Ca s=true/\s.size<=200/\K<=K'/\NSt w' g A l c K'/\But g w w'
theorem CsA(g:Nat)(A:OA)(l:List Int)(c K:Nat)(w:World)(h:NSt w g A l c K):Cl 101 #[.pointer (some ⟨g,0,none⟩)] w (GPA w g A l c K):=by
 have H:=Hd h;have hgw:=h.1.1.lt;have HD:=Hd (TxR.data h);clear h
 go_enter func101,ntmps101
 go_wp2_with fail
 refine (Bb 18 g A l c K _ AA AA H.o).mono ?_;rintro e1 w1 ⟨k,K1,rfl,hk,hK1,b3,hb1,hs1⟩;obtain ⟨HK1,HN1,HB1⟩:=Hd3 (show K<=K1 by omega) b3 hb1;clear hK1 b3 hb1 hs1
 go_wp2_with fail
 refine (C3A _).mono ?_;rintro e1 w2 ⟨rfl,rfl⟩;have HB2:=Hd (HB1.o.trans (H7A ((Ext.refl w1).alloc (.cells Nn 9))));have HN2:=Hd (HN1.o.ext ((Ext.refl w1).alloc (.cells Nn 9)));by_cases hlt:k<15
 ·obtain ⟨t,ht,htz,d5⟩:=C5A k hlt;have HTB:=Hd d5;have q:=(Blk.new w1 9 Nn).cell ht;have d7:(k:Int)<15:=AA;clear ht d5;go_wp2;go_ret;exact ⟨t,K1,rfl,HTB.o,htz,HK1.o,HN2.o,HB2.o⟩
 ·have d7:¬(k:Int)<15:=AA;obtain ⟨w2,a9⟩:=eqx (w1.alloc (.cells Nn 9));rw [<-a9] at HB2 HN2
  go_wp2_with fail
  rw [<-a9];clear a9;refine (Bb 9 g A l c K1 _ AA AA HN2.o).mono ?_;rintro e1 w3 ⟨n,K3,rfl,hn,hK3,b7,b9,hs3⟩;obtain ⟨Z,a8,HB3⟩:=Hd3 (show K<=K3 by have:=HK1.o;omega) b7 (HB2.o.trans b9);clear hK3 b7 b9 hs3;have hn':n<=200:=AA;by_cases h17:k=17
  case' pos =>
   have e17:((k:Int)==17)=true:=(by simp [h17]);clear hn
   go_wp2_with fail
   refine (Bb 11 g A l c K3 _ AA AA a8.o).mono ?_;rintro e1 w4 ⟨m,K4,rfl,hm,hK4,b4,hb4,hs4⟩;obtain ⟨b5,d4,HB5⟩:=Hd3 (show K<=K4 by have:=Z.o;omega) b4 (HB3.o.trans hb4);clear hK4 b4 hb4 hs4 a8 HB3 Z HN2 HB2 HN1 HB1 HK1;obtain ⟨O,d8⟩:∃ O:Nat,O=190+m:=⟨_,rfl⟩;have e5:(190:Int)+(m:Int)=(O:Int):=AA;have U:O<=200:=AA;clear d8
  case' neg =>
   have e17:((k:Int)==17)=false:=AI;obtain ⟨w4,rfl⟩:=eqx w3;have b5:=Z;have d4:=a8;have HB5:=HB3;obtain ⟨O,rfl⟩:=eqx n;have U:=hn';clear a8 HB3 Z HN2 HB2 HN1 HB1 HK1 hn
  all_goals
   go_wp2;have HT0:=Hd (show TxR w g A l c K w4.heap.size 0 none 0 [] w4 from ⟨HB5.o,⟨HB5.o.size,Al⟩,⟨_,b5.o,d4.o⟩,Own.nil _ _ _ _,rfl⟩)
   go_loopw [6,7] (λb i wr=>∃ (j:Nat) (A':OA) (c':Nat) (xs:List Int),j<=O/\i=.I j/\b=.slice A' j c'/\TxR w g A l c K w4.heap.size j A' c' xs wr/\PrnL xs) (λ_ i _=>O-(intOf i).toNat)
   case atStart=>exact ⟨0,none,0,[],AN,rfl,rfl,HT0.o,PrnL.nil⟩
   case round =>
    clear HT0;obtain ⟨j,A',c',xs,hj,rfl,rfl,hT,hP⟩:=hrel;have HT:=Hd hT;have HP:=Hd hP;clear hT hP;by_cases hltj:j<O
    ·obtain ⟨K',Y,hN'⟩:=HT.o.num;have HKK:=Hd Y;have HNN:=Hd hN';clear Y hN'
     go_wp2_with fail
     refine (Bb 95 g A l c K' _ AA AA HNN.o).mono ?_;rintro e1 w6 ⟨r,K6,rfl,hr,hK6,b6,d3,hs6⟩;obtain ⟨HK6,HN6,d6,b8⟩:=Hd4 (show K<=K6 by have:=HKK.o;omega) b6 d3 hs6;clear hK6 b6 d3 hs6;have hlow:=HT.o.low;have hown:=d6.o.own HT.o.own AA;obtain ⟨x,hx⟩:∃ x:Int,x=32+(r:Int):=⟨_,rfl⟩;have HO6:=Hd (hown.ext ((Ext.refl w6).alloc (.cells #[.int .u8 (32+(r:Int))] 5)));clear hown
     go_wp2_with (at_builtin;go_must (refine AL rfl (.tmp 31) (.tmp 36) rfl GUA rfl HO6.o rfl (Blk.rd (Blk.new _ _ _)) rfl AP AA AB (by have:=b8.o;simp;omega) ?_);intro A8 c8 w8 b0 hg8 hat8)
     go_roundw
     case rel =>
      refine ⟨j+1,A8,c8,xs++[32+(r:Int)],AA,AE,rfl,⟨?_,?_,?_,?_,?_⟩,HP.o.snoc AA AA⟩
      ·exact ((HT.o.but.trans d6.o).trans (H7A (exaa w6))).grown hg8 λb hb=>by have:=(HO6.o.blk hb).1;omega
      ·have:=hg8.size;have:=b8.o;simp at *;omega
      ·refine ⟨K6,HK6.o,(HN6.o.ext (exaa w6)).grown hg8 (λb hb e => ?_) (λb hb b' o hA hl e => ?_)⟩
       ·have:=(HO6.o.blk hb).1;omega
       ·have:=(HO6.o.blk hb).1;have:=HD.o b' o hA hl;omega
      ·rw [List.map_append];exact b0
      ·simp [HT.o.len]
     case measure=>simp [intOf];omega
    ·obtain rfl:j=O:=AA;have hcv:=D2A HT.o.own HT.o.len (dst:=9) underlying9;have HZ:=Hd (show (strOfNums xs).size<=200 by rw [strOfNums_size,HT.o.len];exact U);go_wp2;go_ret;obtain ⟨K',Y,hN'⟩:=HT.o.num;exact ⟨_,K',rfl,DnA HP.o (by rw [HT.o.len];exact U),HZ.o,Y,hN',HT.o.but⟩

def F4A(w:World)(g:Nat)(A:OA)(l:List Int)(c:Nat)(K:Nat)(e:Ending)(w':World):Prop:=∃ (a b:Int) (K':Nat),e=.returned (.agg #[.I a,.I b])/\Dz a b=true/\K<=K'/\NSt w' g A l c K'/\But g w w'
def WF(w:World)(g:Nat)(A:OA)(l:List Int)(c:Nat)(K:Nat)(e:Ending)(w':World):Prop:=∃ (x:Val) (K':Nat),e=.returned (Vq x none 0 none 0)/\BG x=true/\CBA x/\K<=K'/\NSt w' g A l c K'/\But g w w'
theorem DHA(g:Nat)(A:OA)(l:List Int)(c K:Nat)(w:World)(h:NSt w g A l c K):Cl 102 #[.pointer (some ⟨g,0,none⟩)] w (F4A w g A l c K):=by
 have hgw:=h.1.1.lt;have hne:w.heap.size≠g:=AA;obtain ⟨HN,HB,U,HK,HD⟩:=Hd5 (h.ext ((Ext.refl w).alloc (.cells #[.I 0,.I 0] 25))) (H7A (g:=g) ((Ext.refl w).alloc (.cells #[.I 0,.I 0] 25))) (Blk.new w 25 #[.I 0,.I 0]) (Nat.le_refl K) (TxR.data h);clear h
 go_enter func102,ntmps102
 go_wp2_with fail
 refine (Bb 2001 g A l c K _ AA AA HN.o).mono ?_;rintro e1 w1 ⟨d1,K1,rfl,hrd1,hKd1,b7,a9,hsd1⟩;obtain ⟨Y,Z,O⟩:=Hd3 (show K<=K1 by have:=HK.o;omega) (HB.o.trans a9) (a9.blk U.o hne);clear HK HN HB U;have HK:=Y;have HN:=Hd b7;have HB:=Z;have U:=O;clear hKd1 b7 a9 hsd1 Y Z O
 go_wp2_with fail
 refine (Bb 8 g A l c K1 _ AA AA HN.o).mono ?_;rintro e1 w2 ⟨d2,K2,rfl,hrd2,hKd2,b6,b3,d6⟩;obtain ⟨Y,Z,O⟩:=Hd3 (show K<=K2 by have:=HK.o;omega) (HB.o.trans b3) (b3.blk U.o hne);clear HK HN HB U;have HK:=Y;have HN:=Hd b6;have HB:=Z;have U:=O;clear hKd2 b6 b3 d6 Y Z O;by_cases h7:d2=7
 case' pos =>
  have e7:((d2:Int)==7)=true:=by simp [h7]
  go_wp2_with fail
  refine (Bb 2000000000000001 g A l c K2 _ AA AA HN.o).mono ?_;rintro e1 w3 ⟨d3,K3,rfl,hrd3,d8,b5,a8,d7⟩;obtain ⟨Y,Z,O⟩:=Hd3 (show K<=K3 by have:=HK.o;omega) (HB.o.trans a8) (a8.blk U.o hne);clear HK HN HB U;have HK:=Y;have HN:=Hd b5;have HB:=Z;have U:=O;clear d8 b5 a8 d7 Y Z O;obtain ⟨n,hn⟩:∃ n:Int,n=(d3:Int)-1000000000000000:=⟨_,rfl⟩;have hn1:-1000000000000000<=n:=AA;have hn2:n<=1000000000000000:=AA
 case' neg =>
  have e7:((d2:Int)==7)=false:=AI;obtain ⟨K3,rfl⟩:=eqx K2;obtain ⟨w3,rfl⟩:=eqx w2;obtain ⟨n,hn⟩:∃ n:Int,n=(d1:Int)-1000:=⟨_,rfl⟩;have hn1:-1000000000000000<=n:=AA;have hn2:n<=1000000000000000:=AA
 all_goals
  go_wp2_with fail
  refine (Bb 4 g A l c K3 _ AA AA HN.o).mono ?_;rintro e1 w4 ⟨d4,K4,rfl,hrd4,d5,b8,b4,hsd4⟩;obtain ⟨Y,Z,O⟩:=Hd3 (show K<=K4 by have:=HK.o;omega) (HB.o.trans b4) (b4.blk U.o hne);clear HK HN HB U;have HK:=Y;have HN:=Hd b8;have HB:=Z;have U:=O;clear d5 b8 b4 hsd4 Y Z O
  go_wp2_with fail
  rw [<-hn];have b9:Cl 172 #[.I n,.I (d4:Int)] w4 (λe w'=>∃ a b t,e=.returned (.tuple #[.agg #[.I a,.I b],.bool t])/\Dz a b=true/\Ext w4 w'):=(Yb n d4 hn1 hn2 AA _).mono λe w' h=>⟨_,_,_,h.1,EzA _ _ _,h.2⟩;refine b9.mono ?_;rintro e1 w5 ⟨a,b,t,rfl,hdr,hx5⟩;obtain ⟨HDR,HN5,HB5,b0⟩:=Hd4 hdr (HN.o.ext hx5) (HB.o.trans (H7A hx5)) (U.o.keep (hx5.kept _));clear HN HB U hx5 b9 hn hdr;obtain ⟨r0,r1⟩:=b0.o.qs2;have rf:=b0.o.frozen;have rz:=b0.o.lt;go_wp2;refine bodyPost_ret (v:=.agg #[.I a,.I b]) (by simp [results,results102,go_sem,r0,r1,rz]) rfl ⟨_,_,K4,rfl,HDR.o,HK.o,?_,?_⟩
  ·refine HN5.o.keep2 hgw HD.o (Kept.trans ?_ (Kept.alloc _ _ _))
   iterate 2 with_reducible refine Kept.set2 ?_ (by show ¬(_<_);omega)
   exact FY
  ·refine But.trans ?_ (H7A (exaa _))
   iterate 2 with_reducible refine But.set ?_ AA
   with_reducible exact HB5.o

theorem LQ(h:qP:=by
 iterate 7 with_reducible refine Kept.set2 ?_ (by show ¬(_<_);omega)
 exact FY):qP:=h
theorem E9(h:qP:=by
 refine HN.o.keep2 hgw HD.o ?_;exact LQ):qP:=h
theorem FG(h:qP:=by
 iterate 7 with_reducible refine But.set ?_ (by omega)
 with_reducible exact HB.o):qP:=h
theorem DW(h:qP:=by simp [results,results35,go_sem,r0,r1,r2,r3,r4,r5,r6]):qP:=h
theorem E6(h:qP:=by first|exact HSZ.o|exact AN):qP:=h
theorem Wz(g:Nat)(A:OA)(l:List Int)(c K:Nat)(w:World)(h:NSt w g A l c K):Cl 35 #[.pointer (some ⟨g,0,none⟩),.I 1] w (WF w g A l c K):=by
 have hgw:=h.1.1.lt;have hne:w.heap.size≠g:=AA;obtain ⟨HN,HB,O,HK,HD⟩:=Hd5 (h.ext ((Ext.refl w).alloc (.cells Vz 29))) (H7A (g:=g) ((Ext.refl w).alloc (.cells Vz 29))) (Blk.new w 29 Vz) (Nat.le_refl K) (TxR.data h);clear h
 go_enter func35,ntmps35
 go_wp2_with fail
 refine (CsA g A l c K _ HN.o).mono ?_;rintro e1 w1 ⟨s,K1,rfl,a9,b0,hK1,Z,hb1⟩;have HTB:=Hd a9;clear a9;obtain ⟨a8,Y,U,HSZ⟩:=Hd4 (show K<=K1 by have:=HK.o;omega) (HB.o.trans hb1) (hb1.blk O.o hne) (show s.size<=4294967296 by omega);clear HK HN HB O;have HK:=a8;have HN:=Hd Z;have HB:=Y;have O:=U;clear hK1 Z hb1 a8 Y U;obtain ⟨r0,r1,r2,r3,r4,r5,r6⟩:=O.o.qs7;have rf:=O.o.frozen;have rz:=O.o.lt;go_wp2;refine bodyPost_ret (v:=.agg #[.I 1,.string s,.I 0,.I 0,.I 0,.slice none 0 0,.slice none 0 0]) DW rfl ⟨⟨1,s,0,0,0,[],[]⟩,K1,rfl,DsA HTB.o,⟨rfl,rfl,E6⟩,HK.o,?_,?_⟩
 ·exact E9
 ·exact FG

theorem XJ(g:Nat)(A:OA)(l:List Int)(c K:Nat)(w:World)(h:NSt w g A l c K):Cl 35 #[.pointer (some ⟨g,0,none⟩),.I 2] w (WF w g A l c K):=by
 have hgw:=h.1.1.lt;have hne:w.heap.size≠g:=AA;obtain ⟨HN,HB,O,HK,HD⟩:=Hd5 (h.ext ((Ext.refl w).alloc (.cells Vz 29))) (H7A (g:=g) ((Ext.refl w).alloc (.cells Vz 29))) (Blk.new w 29 Vz) (Nat.le_refl K) (TxR.data h);clear h
 go_enter func35,ntmps35
 go_wp2_with fail
 refine (DHA g A l c K _ HN.o).mono ?_;rintro e1 w1 ⟨a,b,K1,rfl,hdr,hK1,Z,hb1⟩;have a9:=Hd hdr;clear hdr;obtain ⟨a8,Y,U⟩:=Hd3 (show K<=K1 by have:=HK.o;omega) (HB.o.trans hb1) (hb1.blk O.o hne);clear HK HN HB O;have HK:=a8;have HN:=Hd Z;have HB:=Y;have O:=U;clear hK1 Z hb1 a8 Y U;obtain ⟨r0,r1,r2,r3,r4,r5,r6⟩:=O.o.qs7;have rf:=O.o.frozen;have rz:=O.o.lt;go_wp2;refine bodyPost_ret (v:=.agg #[.I 2,.string ⟨#[]⟩,.I a,.I b,.I 0,.slice none 0 0,.slice none 0 0]) DW rfl ⟨⟨2,⟨#[]⟩,a,b,0,[],[]⟩,K1,rfl,EsA a9.o,⟨rfl,rfl,E6⟩,HK.o,?_,?_⟩
 ·exact E9
 ·exact FG

theorem XK(g:Nat)(A:OA)(l:List Int)(c K:Nat)(w:World)(h:NSt w g A l c K):Cl 35 #[.pointer (some ⟨g,0,none⟩),.I 3] w (WF w g A l c K):=by
 have hgw:=h.1.1.lt;have hne:w.heap.size≠g:=AA;obtain ⟨HN,HB,O,HK,HD⟩:=Hd5 (h.ext ((Ext.refl w).alloc (.cells Vz 29))) (H7A (g:=g) ((Ext.refl w).alloc (.cells Vz 29))) (Blk.new w 29 Vz) (Nat.le_refl K) (TxR.data h);clear h
 go_enter func35,ntmps35
 go_wp2_with fail
 refine (Bb 1000 g A l c K _ AA AA HN.o).mono ?_;rintro e1 w1 ⟨d1,K1,rfl,hrd1,b7,b6,a9,d5⟩;obtain ⟨HA1,Y,Z,U⟩:=Hd4 b7 (show K<=K1 by have:=HK.o;omega) (HB.o.trans a9) (a9.blk O.o hne);clear HK HN HB O;have HK:=Y;have HN:=Hd b6;have HB:=Z;have O:=U;clear b7 b6 a9 d5 Y Z U
 go_wp2_with fail
 refine (Bb 8 g A l c K1 _ AA AA HN.o).mono ?_;rintro e1 w2 ⟨d2,K2,rfl,hrd2,b5,b4,b0,b8⟩;obtain ⟨HA2,Y,Z,U⟩:=Hd4 b5 (show K<=K2 by have:=HK.o;omega) (HB.o.trans b0) (b0.blk O.o hne);clear HK HN HB O;have HK:=Y;have HN:=Hd b4;have HB:=Z;have O:=U;clear b5 b4 b0 b8 Y Z U;by_cases h7:d2=7
 ·have e7:((d2:Int)==7)=true:=by simp [h7]
  go_wp2_with fail
  refine (Bb 3652059 g A l c K2 _ AA AA HN.o).mono ?_;rintro e1 w3 ⟨d3,K3,rfl,hrd3,d4,b3,a8,b9⟩;obtain ⟨Y,Z,U⟩:=Hd3 (show K<=K3 by have:=HK.o;omega) (HB.o.trans a8) (a8.blk O.o hne);clear HK HN HB O;have HK:=Y;have HN:=Hd b3;have HB:=Z;have O:=U;clear d4 b3 a8 b9 Y Z U;obtain ⟨r0,r1,r2,r3,r4,r5,r6⟩:=O.o.qs7;have rf:=O.o.frozen;have rz:=O.o.lt;go_wp2;refine bodyPost_ret (v:=.agg #[.I 3,.string ⟨#[]⟩,.I 0,.I 0,.I (d3:Int),.slice none 0 0,.slice none 0 0]) DW rfl ⟨⟨3,⟨#[]⟩,0,0,(d3:Int),[],[]⟩,K3,rfl,CHA AA AA,⟨rfl,rfl,E6⟩,HK.o,?_,?_⟩
  ·exact E9
  ·exact FG
 ·have e7:((d2:Int)==7)=false:=AI;obtain ⟨r0,r1,r2,r3,r4,r5,r6⟩:=O.o.qs7;have rf:=O.o.frozen;have rz:=O.o.lt;go_wp2;refine bodyPost_ret (v:=.agg #[.I 3,.string ⟨#[]⟩,.I 0,.I 0,.I (738000+(d1:Int)),.slice none 0 0,.slice none 0 0]) DW rfl ⟨⟨3,⟨#[]⟩,0,0,(738000+(d1:Int)),[],[]⟩,K2,rfl,CHA AA AA,⟨rfl,rfl,E6⟩,HK.o,?_,?_⟩
  ·exact E9
  ·exact FG

theorem W7(g:Nat)(A:OA)(l:List Int)(c K:Nat)(w:World)(h:NSt w g A l c K):Cl 35 #[.pointer (some ⟨g,0,none⟩),.I 4] w (WF w g A l c K):=by
 have hgw:=h.1.1.lt;have hne:w.heap.size≠g:=AA;obtain ⟨HN,HB,O,HK,HD⟩:=Hd5 (h.ext ((Ext.refl w).alloc (.cells Vz 29))) (H7A (g:=g) ((Ext.refl w).alloc (.cells Vz 29))) (Blk.new w 29 Vz) (Nat.le_refl K) (TxR.data h);clear h
 go_enter func35,ntmps35
 go_wp2_with fail
 refine (Bb 2 g A l c K _ AA AA HN.o).mono ?_;rintro e1 w1 ⟨d1,K1,rfl,b4,b3,Y,U,b0⟩;obtain ⟨a9,a8,Z⟩:=Hd3 (show K<=K1 by have:=HK.o;omega) (HB.o.trans U) (U.blk O.o hne);clear HK HN HB O;have HK:=a9;have HN:=Hd Y;have HB:=a8;have O:=Z;clear b3 Y U b0 a9 a8 Z;obtain ⟨r0,r1,r2,r3,r4,r5,r6⟩:=O.o.qs7;have rf:=O.o.frozen;have rz:=O.o.lt;go_wp2;refine bodyPost_ret (v:=.agg #[.I 4,.string ⟨#[]⟩,.I 0,.I 0,.I (d1:Int),.slice none 0 0,.slice none 0 0]) DW rfl ⟨⟨4,⟨#[]⟩,0,0,(d1:Int),[],[]⟩,K1,rfl,FYA AA AA,⟨rfl,rfl,E6⟩,HK.o,?_,?_⟩
 ·exact E9
 ·exact FG

theorem Wv(kind:Int)(g:Nat)(A:OA)(l:List Int)(c K:Nat)(w:World)(h:NSt w g A l c K)(k1:(kind==1)=false)(k2:(kind==2)=false)(k3:(kind==3)=false)(k4:(kind==4)=false)(k5:(kind==5)=false):Cl 35 #[.pointer (some ⟨g,0,none⟩),.I kind] w (WF w g A l c K):=by
 have hgw:=h.1.1.lt;have hne:w.heap.size≠g:=AA;obtain ⟨HN,HB,O,HK,HD⟩:=Hd5 (h.ext ((Ext.refl w).alloc (.cells Vz 29))) (H7A (g:=g) ((Ext.refl w).alloc (.cells Vz 29))) (Blk.new w 29 Vz) (Nat.le_refl K) (TxR.data h);clear h
 go_enter func35,ntmps35
 go_wp2_with fail
 refine (Bb 100 g A l c K _ AA AA HN.o).mono ?_;rintro e1 w1 ⟨d1,K1,rfl,b4,b3,Y,U,b0⟩;obtain ⟨a9,a8,Z⟩:=Hd3 (show K<=K1 by have:=HK.o;omega) (HB.o.trans U) (U.blk O.o hne);clear HK HN HB O;have HK:=a9;have HN:=Hd Y;have HB:=a8;have O:=Z;clear b3 Y U b0 a9 a8 Z;obtain ⟨r0,r1,r2,r3,r4,r5,r6⟩:=O.o.qs7;have rf:=O.o.frozen;have rz:=O.o.lt;go_wp2;refine bodyPost_ret (v:=.agg #[.I 0,.string ⟨#[]⟩,.I 0,.I 0,.I (d1:Int),.slice none 0 0,.slice none 0 0]) DW rfl ⟨⟨0,⟨#[]⟩,0,0,(d1:Int),[],[]⟩,K1,rfl,FZA AA AA,⟨rfl,rfl,E6⟩,HK.o,?_,?_⟩
 ·exact E9
 ·exact FG

theorem JW(kind:Int)(g:Nat)(A:OA)(l:List Int)(c K:Nat)(w:World)(h:NSt w g A l c K)(hk:kind≠5):Cl 35 #[.pointer (some ⟨g,0,none⟩),.I kind] w (WF w g A l c K):=by
 by_cases h1:kind=1
 ·subst h1;exact Wz g A l c K w h
 by_cases h2:kind=2
 ·subst h2;exact XJ g A l c K w h
 by_cases h3:kind=3
 ·subst h3;exact XK g A l c K w h
 by_cases h4:kind=4
 ·subst h4;exact W7 g A l c K w h
 exact Wv kind g A l c K w h (by simpa using h1) Dj (by simpa using h3) (by simpa using h4) (by simpa using hk)
